import PyProof.Rows.All
import Wide.All
import OpenK.AllK
import Wide.FinOn
import HandS.ForMost
import HandS.Lambda
import HandS.Conv
import HandS.IsInst
import HandS.Deep
import HandS.Flow
import HandS.SortInts
import KE.KDictPairs
import KE.DataCmp
import HandS.Strs
import HandS.SetFor
import HandS.SetKeys
import HandS.Exc
import HandS.SortKw
import KE.SortKeyHeap
import HandS.Codes
import PyProof.SetRoads
import HandS.AnyAll
import PyProof.GenCompD
import PyProof.WalksMore
import KE.KDictKeyed
import KE.KeyNested
import KE.KDictCopyH
import PyProof.ReprRoads
import HandS.TupAny
import PyProof.ReprBulk
import HandS.EndTab
import HandS.EndOwn
import HandS.HeadHook4
import KE.KStateDown
import HandS.Head0
import HandS.Head1
import HandS.Head2
import PySem.Challenge.RW_windowtable_k27_reach_told
set_option Elab.async false
set_option linter.all false
set_option maxRecDepth 100000
/-! K27, first part: the heap split in a frame and what is owned, slots with what is known of them. -/
namespace K27
open PySem L2 LamX

/-- what never changes under Keep -/
def plainO : HO → Prop
  | .tbl _ => False
  | .dK _ => False
  | .frz _ (.dK _) => False
  | _ => True
structure Keep (F F' : Hp) : Prop where
  obj : ∀ b o, F b = some o → plainO o → F' b = some o
  dic : ∀ b kvs, Rd F b (.dK kvs) → Rd F' b (.dK kvs)
  there : ∀ b o, F b = some o → ∃ o', F' b = some o'
theorem Keep.refl (F : Hp) : Keep F F := ⟨fun _ _ h _ => h, fun _ _ h => h, fun _ o h => ⟨o, h⟩⟩
theorem Keep.trans {F F1 F2 : Hp} (a : Keep F F1) (b : Keep F1 F2) : Keep F F2 := ⟨fun x o h p => b.obj x o (a.obj x o h p) p, fun x k h => b.dic x k (a.dic x k h), fun x o h => let ⟨o1, h1⟩ := a.there x o h; b.there x o1 h1⟩
theorem Keep.of {F F' : Hp} (h : ∀ b o, F b = some o → F' b = some o) : Keep F F' := ⟨fun b o e _ => h b o e, fun b k e => e.elim (fun q => .inl (h _ _ q)) fun ⟨o, q⟩ => .inr ⟨o, h _ _ q⟩, fun b o e => ⟨o, h b o e⟩⟩
theorem Keep.new {F : Hp} {p : Addr} {o : HO} (h : F p = none) : Keep F (upd F p o) := Keep.of fun b u e => by
  rw [upd_ne (ne_of_none e h)]
  exact e
def Sub (F H : Hp) : Prop := ∀ b o, F b = some o → H b = some o
theorem Sub.refl (F : Hp) : Sub F F := fun _ _ h => h
theorem Sub.no {F H : Hp} (s : Sub F H) {p : Addr} (h : H p = none) : F p = none := by
  cases e : F p with
  | none => rfl
  | some o => rw [s p o e] at h; cases h
theorem Sub.upd {F H : Hp} (s : Sub F H) (p : Addr) (o : HO) : Sub (upd F p o) (L2.upd H p o) := fun b u e => by
  by_cases hb : b = p
  · subst hb; rw [upd_same] at e ⊢; exact e
  · rw [upd_ne hb] at e ⊢; exact s b u e
theorem Sub.own {F H : Hp} (s : Sub F H) {p : Addr} (h : F p = none) (o : HO) : Sub F (L2.upd H p o) := fun b u e => by
  rw [upd_ne (ne_of_none e h)]
  exact s b u e
theorem Sub.rd {F H : Hp} (s : Sub F H) {a : Addr} {u : HO} (h : Rd F a u) : Rd H a u := h.elim (fun q => .inl (s _ _ q)) fun ⟨o, q⟩ => .inr ⟨o, s _ _ q⟩

/-- a fact of a value that Keep leaves -/
structure SP where
  P : V → Hp → Prop
  st : ∀ {v : V} {F F' : Hp}, Keep F F' → P v F → P v F'

/-- a tuple that stands in F, known to its object (no attributes) -/
def TupAt (F : Hp) (a : Addr) (xs : List V) : Prop := ∃ o : Obj, F a = some (.frz o (.tup xs)) ∧ o.dict = none
theorem TupAt.keep {F F' : Hp} {a : Addr} {xs : List V} (k : Keep F F') (h : TupAt F a xs) : TupAt F' a xs := let ⟨o, e, d⟩ := h; ⟨o, k.obj _ _ e trivial, d⟩
theorem TupAt.sub {F H : Hp} {a : Addr} {xs : List V} (k : Sub F H) (h : TupAt F a xs) : TupAt H a xs := let ⟨o, e, d⟩ := h; ⟨o, k _ _ e, d⟩
theorem TupAt.sq {K : PySem.W.Frag} {F H : Hp} {a : Addr} {xs : List V} (k : Sub F H) (h : TupAt F a xs) : SqT K H a xs := let ⟨o, e, _⟩ := h; .inl (.inr ⟨o, k _ _ e⟩)
mutual
/-- data that stands in F -/
inductive Da (F : Hp) : V → PyData → Prop
  | non : Da F .non .none
  | bl (b : Bool) : Da F (.bl b) (.bool b)
  | int (i : Int) : Da F (.int i) (.int i)
  | str (x : Str) : Da F (.str x) (.str x)
  | lst {a : Addr} {xs : List V} {ds : List PyData} : F a = some (.lst xs) → Das F xs ds → Da F (.ref a) (.list ds)
  | tup {a : Addr} {xs : List V} {ds : List PyData} : TupAt F a xs → Das F xs ds → Da F (.ref a) (.tuple ds)
inductive Das (F : Hp) : List V → List PyData → Prop
  | nil : Das F [] []
  | cons {v : V} {vs : List V} {d : PyData} {ds : List PyData} : Da F v d → Das F vs ds → Das F (v :: vs) (d :: ds)
end
mutual
theorem keep_d {F F' : Hp} (k : Keep F F') : ∀ (d : PyData) (v : V), Da F v d → Da F' v d
  | .none, _, h => by cases h; exact .non
  | .bool b, _, h => by cases h; exact .bl b
  | .int i, _, h => by cases h; exact .int i
  | .str x, _, h => by cases h; exact .str x
  | .list ds, _, h => by
    cases h with
    | lst hs ha => exact .lst (k.obj _ _ hs trivial) (keep_ds k ds _ ha)
  | .tuple ds, _, h => by
    cases h with
    | tup hs ha => exact .tup (hs.keep k) (keep_ds k ds _ ha)
  | .dict _, _, h => by cases h
theorem keep_ds {F F' : Hp} (k : Keep F F') : ∀ (ds : List PyData) (vs : List V), Das F vs ds → Das F' vs ds
  | [], _, h => by cases h; exact .nil
  | d :: ds, _, h => by
    cases h with
    | cons h1 h2 => exact .cons (keep_d k d _ h1) (keep_ds k ds _ h2)
end
mutual
theorem da_dp {K : PySem.W.Frag} {F H : Hp} (k : Sub F H) : ∀ (d : PyData) (v : V), Da F v d → Dp K H v d
  | .none, _, h => by cases h; exact .non
  | .bool b, _, h => by cases h; exact .bl b
  | .int i, _, h => by cases h; exact .int i
  | .str x, _, h => by cases h; exact .str x
  | .list ds, _, h => by
    cases h with
    | lst hs ha => exact .lst (SqL.of (k _ _ hs)) (das_dp k ds _ ha)
  | .tuple ds, _, h => by
    cases h with
    | tup hs ha => exact .tup (hs.sq k) (das_dp k ds _ ha)
  | .dict _, _, h => by cases h
theorem das_dp {K : PySem.W.Frag} {F H : Hp} (k : Sub F H) : ∀ (ds : List PyData) (vs : List V), Das F vs ds → DpAll K H vs ds
  | [], _, h => by cases h; exact .nil
  | d :: ds, _, h => by
    cases h with
    | cons h1 h2 => exact .cons (da_dp k d _ h1) (das_dp k ds _ h2)
end
/-- data -/
def isD (d : PyData) : SP := ⟨fun v F => Da F v d, fun k h => keep_d k d _ h⟩
abbrev isI (i : Int) : SP := isD (.int i)
abbrev isS (s : Str) : SP := isD (.str s)
abbrev isB (b : Bool) : SP := isD (.bool b)
abbrev isN : SP := isD .none
/-- just this value -/
def isV (v : V) : SP := ⟨fun u _ => u = v, fun _ h => h⟩
theorem da_int {F : Hp} {v : V} {i : Int} (h : Da F v (.int i)) : v = .int i := by cases h; rfl
theorem da_str {F : Hp} {v : V} {i : Str} (h : Da F v (.str i)) : v = .str i := by cases h; rfl
theorem da_bl {F : Hp} {v : V} {i : Bool} (h : Da F v (.bool i)) : v = .bl i := by cases h; rfl
theorem da_non {F : Hp} {v : V} (h : Da F v .none) : v = .non := by cases h; rfl
theorem da_lst {F : Hp} {v : V} {ds : List PyData} (h : Da F v (.list ds)) : ∃ a xs, v = .ref a ∧ F a = some (.lst xs) ∧ Das F xs ds := by
  cases h with
  | lst h1 h2 => exact ⟨_, _, rfl, h1, h2⟩
theorem da_tup {F : Hp} {v : V} {ds : List PyData} (h : Da F v (.tuple ds)) : ∃ a xs, v = .ref a ∧ TupAt F a xs ∧ Das F xs ds := by
  cases h with
  | tup h1 h2 => exact ⟨_, _, rfl, h1, h2⟩
theorem das_length {F : Hp} : ∀ {vs : List V} {ds : List PyData}, Das F vs ds → vs.length = ds.length
  | _, _, .nil => rfl
  | _, _, .cons _ t => congrArg (· + 1) (das_length t)
theorem das_get {F : Hp} : ∀ {vs : List V} {ds : List PyData} {i : Nat} {d : PyData}, Das F vs ds → ds[i]? = some d → ∃ v, vs[i]? = some v ∧ Da F v d
  | _, _, i, d, .nil, e => by simp at e
  | _, _, 0, d, .cons h t, e => by simp at e; subst e; exact ⟨_, rfl, h⟩
  | _, _, i + 1, d, .cons h t, e => by simpa using das_get (i := i) (d := d) t (by simpa using e)
theorem das_getV {F : Hp} : ∀ {vs : List V} {ds : List PyData} {i : Nat} {v : V}, Das F vs ds → vs[i]? = some v → ∃ d, ds[i]? = some d ∧ Da F v d
  | _, _, i, d, .nil, e => by simp at e
  | _, _, 0, d, .cons h t, e => by simp at e; subst e; exact ⟨_, rfl, h⟩
  | _, _, i + 1, d, .cons h t, e => by simpa using das_getV (i := i) (v := d) t (by simpa using e)
theorem das_app {F : Hp} : ∀ {vs ws : List V} {ds es : List PyData}, Das F vs ds → Das F ws es → Das F (vs ++ ws) (ds ++ es)
  | _, _, _, _, .nil, h => h
  | _, _, _, _, .cons a t, h => .cons a (das_app t h)
theorem das_take {F : Hp} : ∀ {vs : List V} {ds : List PyData} (n : Nat), Das F vs ds → Das F (vs.take n) (ds.take n)
  | _, _, 0, _ => .nil
  | _, _, _ + 1, .nil => .nil
  | _, _, n + 1, .cons a t => .cons a (das_take n t)
theorem das_drop {F : Hp} : ∀ {vs : List V} {ds : List PyData} (n : Nat), Das F vs ds → Das F (vs.drop n) (ds.drop n)
  | _, _, 0, h => h
  | _, _, _ + 1, .nil => .nil
  | _, _, n + 1, .cons a t => das_drop n t
theorem das_ints {F : Hp} : ∀ {vs : List V} {ns : List Int}, Das F vs (ns.map .int) → vs = ns.map V.int
  | _, [], h => by cases h; rfl
  | _, n :: ns, h => by
    cases h with
    | cons h1 h2 => cases h1; rw [das_ints h2]; rfl
theorem das_of_ints {F : Hp} : ∀ (ns : List Int), Das F (ns.map V.int) (ns.map .int)
  | [] => .nil
  | n :: ns => .cons (.int n) (das_of_ints ns)

/-- a dict of data -/
def DicAt (F : Hp) (xs : List (Key × V)) (kvs : List (Key × PyData)) : Prop := xs.map (·.1) = kvs.map (·.1) ∧ Das F (xs.map (·.2)) (kvs.map (·.2))
theorem DicAt.keep {F F' : Hp} {xs : List (Key × V)} {kvs : List (Key × PyData)} (k : Keep F F') (h : DicAt F xs kvs) : DicAt F' xs kvs := ⟨h.1, keep_ds k _ _ h.2⟩
def isDic (kvs : List (Key × PyData)) : SP := ⟨fun v F => ∃ a xs, v = .ref a ∧ Rd F a (.dK xs) ∧ DicAt F xs kvs, fun k ⟨a, xs, e, r, d⟩ => ⟨a, xs, e, k.dic _ _ r, d.keep k⟩⟩

/-! ### steps -/
section
variable (T : List (Addr × Str))
structure Step (F H F' H' : Hp) : Prop where
  keep : Keep F F'
  str : ∀ b o, F b = some o → (∀ ps, o ≠ .tbl ps) → F' b = some o
  tab : Tabs T F'
  sub : Sub F' H'
  own : ∀ b o, H b = some o → F b = none → H' b = some o ∧ F' b = none
end
section
variable {T : List (Addr × Str)} {F H F1 H1 F2 H2 : Hp}
theorem Step.refl (t : Tabs T F) (s : Sub F H) : Step T F H F H := ⟨.refl F, fun _ _ h _ => h, t, s, fun _ _ h n => ⟨h, n⟩⟩
theorem Step.trans (a : Step T F H F1 H1) (b : Step T F1 H1 F2 H2) : Step T F H F2 H2 :=
  ⟨a.keep.trans b.keep, fun x o h n => b.str x o (a.str x o h n) n, b.tab, b.sub, fun x o h n => let ⟨h1, n1⟩ := a.own x o h n; b.own x o h1 n1⟩
theorem Step.there (st : Step T F H F1 H1) (s : Sub F H) {b : Addr} (h : H1 b = none) : H b = none := by
  cases e : H b with
  | none => rfl
  | some o =>
    cases e2 : F b with
    | none => rw [(st.own b o e e2).1] at h; cases h
    | some o2 =>
      obtain ⟨o3, e3⟩ := st.keep.there b o2 e2
      rw [st.sub b o3 e3] at h
      cases h
/-- a new object that the frame takes -/
theorem Step.new (t : Tabs T F) (s : Sub F H) {p : Addr} {o : HO} (h : H p = none) : Step T F H (upd F p o) (upd H p o) :=
  ⟨Keep.new (s.no h), fun b u e _ => by rw [upd_ne (ne_of_none e (s.no h))]; exact e, t.ext fun b u e => by rw [upd_ne (ne_of_none e (s.no h))]; exact e, s.upd p o, fun b u e n => by
    have hb := ne_of_none e h
    rw [upd_ne hb, upd_ne hb]
    exact ⟨e, n⟩⟩
/-- a new object that is owned -/
theorem Step.newOwn (t : Tabs T F) (s : Sub F H) {p : Addr} {o : HO} (h : H p = none) : Step T F H F (upd H p o) :=
  ⟨.refl F, fun _ _ h _ => h, t, s.own (s.no h) o, fun b u e n => ⟨by rw [upd_ne (ne_of_none e h)]; exact e, n⟩⟩
end

/-! ### slots -/
inductive Slot where
  | no
  | p (P : SP)
  /-- an owned list of data -/
  | acc (ds : List PyData)
  /-- an owned dict of data -/
  | accd (kvs : List (Key × PyData))
/-- what is known of a place -/
def slot : List Slot → Nat → Slot
  | [], _ => .no
  | s :: _, 0 => s
  | _ :: l, n + 1 => slot l n
theorem slot_p {P : SP} : ∀ {L : List Slot} {i : Nat}, slot L i = .p P → L[i]? = some (.p P)
  | [], _, h => by cases h
  | s :: _, 0, h => by simp [slot] at h; simp [h]
  | _ :: l, n + 1, h => by simpa using slot_p (L := l) (i := n) h
theorem slot_acc {ds : List PyData} : ∀ {L : List Slot} {i : Nat}, slot L i = .acc ds → L[i]? = some (.acc ds)
  | [], _, h => by cases h
  | s :: _, 0, h => by simp [slot] at h; simp [h]
  | _ :: l, n + 1, h => by simpa using slot_acc (L := l) (i := n) h
def Slot.own : Slot → Bool
  | .acc _ => true
  | .accd _ => true
  | _ => false
section
def SlotOk (F H : Hp) (o : Option (Option V)) : Slot → Prop
  | .no => True
  | .p P => ∃ v, o = some (some v) ∧ P.P v F
  | .acc ds => ∃ a vs, o = some (some (.ref a)) ∧ F a = none ∧ H a = some (.lst vs) ∧ Das F vs ds
  | .accd kvs => ∃ a xs, o = some (some (.ref a)) ∧ F a = none ∧ H a = some (.dK xs) ∧ DicAt F xs kvs
structure EnvOk (F H : Hp) (σ : St) (L : List Slot) : Prop where
  len : σ.length = L.length
  at_ : ∀ (i : Nat) (s : Slot), L[i]? = some s → SlotOk F H σ[i]? s
  dist : ∀ (i j : Nat) (a : Addr) (s t : Slot), L[i]? = some s → L[j]? = some t → s.own = true → t.own = true → σ[i]? = some (some (V.ref a)) → σ[j]? = some (some (V.ref a)) → i = j
end
section
variable {T : List (Addr × Str)} {F H F1 H1 F2 H2 : Hp} {σ : St} {L : List Slot}
theorem SlotOk.step {o : Option (Option V)} {s : Slot} (h : SlotOk F H o s) (st : Step T F H F1 H1) : SlotOk F1 H1 o s := by
  cases s with
  | no => trivial
  | p P => obtain ⟨v, e, q⟩ := h; exact ⟨v, e, P.st st.keep q⟩
  | acc ds => obtain ⟨a, vs, e, n, q, d⟩ := h; obtain ⟨q1, n1⟩ := st.own a _ q n; exact ⟨a, vs, e, n1, q1, keep_ds st.keep _ _ d⟩
  | accd ds => obtain ⟨a, vs, e, n, q, d⟩ := h; obtain ⟨q1, n1⟩ := st.own a _ q n; exact ⟨a, vs, e, n1, q1, d.keep st.keep⟩
theorem EnvOk.step (E : EnvOk F H σ L) (st : Step T F H F1 H1) : EnvOk F1 H1 σ L := ⟨E.len, fun i s h => (E.at_ i s h).step st, E.dist⟩
theorem EnvOk.var (E : EnvOk F H σ L) {i : Nat} {P : SP} (h : L[i]? = some (.p P)) : ∃ v, σ[i]? = some (some v) ∧ P.P v F := E.at_ i _ h
/-- a name is stored -/
theorem EnvOk.set (E : EnvOk F H σ L) {i : Nat} {v : V} {P : SP} (h : P.P v F) : EnvOk F H (σ.set i (some v)) (L.set i (.p P)) := by
  refine ⟨by rw [List.length_set, List.length_set]; exact E.len, fun j s hj => ?_, fun j k a s t hj hk os ot ej ek => ?_⟩
  · by_cases hij : i = j
    · subst hij
      have hlt : i < L.length := by
        have := (List.getElem?_eq_some_iff.mp hj).1
        simpa using this
      rw [List.getElem?_set_self hlt] at hj
      cases hj
      exact ⟨v, List.getElem?_set_self (by rw [E.len]; exact hlt), h⟩
    · rw [List.getElem?_set_ne hij] at hj ⊢
      exact E.at_ j s hj
  · have nj : i ≠ j := fun z => by
      subst z
      have hlt : i < L.length := by
        have := (List.getElem?_eq_some_iff.mp hj).1
        simpa using this
      rw [List.getElem?_set_self hlt] at hj
      cases hj
      cases os
    have nk : i ≠ k := fun z => by
      subst z
      have hlt : i < L.length := by
        have := (List.getElem?_eq_some_iff.mp hk).1
        simpa using this
      rw [List.getElem?_set_self hlt] at hk
      cases hk
      cases ot
    rw [List.getElem?_set_ne nj] at hj ej
    rw [List.getElem?_set_ne nk] at hk ek
    exact E.dist j k a s t hj hk os ot ej ek
theorem EnvOk.weak (E : EnvOk F H σ L) {i : Nat} : EnvOk F H (σ.set i none) (L.set i .no) := by
  refine ⟨by rw [List.length_set, List.length_set]; exact E.len, fun j s hj => ?_, fun j k a s t hj hk os ot ej ek => ?_⟩
  · by_cases hij : i = j
    · subst hij
      have hlt : i < L.length := by
        have := (List.getElem?_eq_some_iff.mp hj).1
        simpa using this
      rw [List.getElem?_set_self hlt] at hj
      cases hj
      trivial
    · rw [List.getElem?_set_ne hij] at hj ⊢
      exact E.at_ j s hj
  · have nj : i ≠ j := fun z => by
      subst z
      have hlt : i < L.length := by
        have := (List.getElem?_eq_some_iff.mp hj).1
        simpa using this
      rw [List.getElem?_set_self hlt] at hj
      cases hj
      cases os
    have nk : i ≠ k := fun z => by
      subst z
      have hlt : i < L.length := by
        have := (List.getElem?_eq_some_iff.mp hk).1
        simpa using this
      rw [List.getElem?_set_self hlt] at hk
      cases hk
      cases ot
    rw [List.getElem?_set_ne nj] at hj ej
    rw [List.getElem?_set_ne nk] at hk ek
    exact E.dist j k a s t hj hk os ot ej ek
def wipeL (L : List Slot) : List Nat → List Slot
  | [] => L
  | v :: vs => (wipeL L vs).set v .no
theorem EnvOk.wipe (E : EnvOk F H σ L) : ∀ vs : List Nat, EnvOk F H (wipe σ vs) (wipeL L vs)
  | [] => E
  | v :: vs => (EnvOk.wipe E vs).weak
/-- the owned ones are new since H0 -/
def OwnNew (H0 : Hp) (σ : St) (L : List Slot) : Prop := ∀ (i : Nat) (s : Slot) (a : Addr), L[i]? = some s → s.own = true → σ[i]? = some (some (V.ref a)) → H0 a = none
theorem OwnNew.set {H0 : Hp} (h : OwnNew H0 σ L) {i : Nat} {v : Option V} {P : SP} : OwnNew H0 (σ.set i v) (L.set i (.p P)) := fun j s a hj os ej => by
  have nj : i ≠ j := fun z => by
    subst z
    have hlt : i < L.length := by
      have := (List.getElem?_eq_some_iff.mp hj).1
      simpa using this
    rw [List.getElem?_set_self hlt] at hj
    cases hj
    cases os
  rw [List.getElem?_set_ne nj] at hj ej
  exact h j s a hj os ej
theorem OwnNew.setNo {H0 : Hp} (h : OwnNew H0 σ L) {i : Nat} {v : Option V} : OwnNew H0 (σ.set i v) (L.set i .no) := fun j s a hj os ej => by
  have nj : i ≠ j := fun z => by
    subst z
    have hlt : i < L.length := by
      have := (List.getElem?_eq_some_iff.mp hj).1
      simpa using this
    rw [List.getElem?_set_self hlt] at hj
    cases hj
    cases os
  rw [List.getElem?_set_ne nj] at hj ej
  exact h j s a hj os ej
theorem OwnNew.drop {H0 : Hp} (h : OwnNew H0 σ L) {i : Nat} {S : Slot} (hS : S.own = false) : OwnNew H0 σ (L.set i S) := fun j s a hj os ej => by
  have nj : i ≠ j := fun z => by
    subst z
    have hlt : i < L.length := by
      have := (List.getElem?_eq_some_iff.mp hj).1
      simpa using this
    rw [List.getElem?_set_self hlt] at hj
    cases hj
    rw [hS] at os
    cases os
  rw [List.getElem?_set_ne nj] at hj
  exact h j s a hj os ej
/-- forget a slot's fact -/
theorem EnvOk.drop (E : EnvOk F H σ L) {i : Nat} : EnvOk F H σ (L.set i .no) := by
  refine ⟨by rw [List.length_set]; exact E.len, fun j s hj => ?_, fun j k a s t hj hk os ot ej ek => ?_⟩
  · by_cases hij : i = j
    · subst hij
      have hlt : i < L.length := by
        have := (List.getElem?_eq_some_iff.mp hj).1
        simpa using this
      rw [List.getElem?_set_self hlt] at hj
      cases hj
      trivial
    · rw [List.getElem?_set_ne hij] at hj
      exact E.at_ j s hj
  · have nj : i ≠ j := fun z => by
      subst z
      have hlt : i < L.length := by
        have := (List.getElem?_eq_some_iff.mp hj).1
        simpa using this
      rw [List.getElem?_set_self hlt] at hj
      cases hj
      cases os
    have nk : i ≠ k := fun z => by
      subst z
      have hlt : i < L.length := by
        have := (List.getElem?_eq_some_iff.mp hk).1
        simpa using this
      rw [List.getElem?_set_self hlt] at hk
      cases hk
      cases ot
    rw [List.getElem?_set_ne nj] at hj
    rw [List.getElem?_set_ne nk] at hk
    exact E.dist j k a s t hj hk os ot ej ek
end

/-! ### readings by slots -/
section
variable (T : List (Addr × Str)) (L : List Slot)
def tP (P : SP) : TE := fun σ H Q => ∃ F, Sub F H ∧ Tabs T F ∧ EnvOk F H σ L ∧ ∀ v F' H', Step T F H F' H' → P.P v F' → Q v H'
def tPT (b : Bool) : TT := fun σ H Q => ∃ F, Sub F H ∧ Tabs T F ∧ EnvOk F H σ L ∧ ∀ F' H', Step T F H F' H' → Q b H'
def AllP : List SP → List V → Hp → Prop
  | [], [], _ => True
  | P :: Ps, v :: vs, F => P.P v F ∧ AllP Ps vs F
  | _, _, _ => False
def tPA (Ps : List SP) : TA := fun σ H Q => ∃ F, Sub F H ∧ Tabs T F ∧ EnvOk F H σ L ∧ ∀ vs F' H', Step T F H F' H' → AllP Ps vs F' → Q vs H'
theorem AllP.keep {F F' : Hp} (k : Keep F F') : ∀ {Ps : List SP} {vs : List V}, AllP Ps vs F → AllP Ps vs F'
  | [], [], _ => trivial
  | P :: _, _ :: _, h => ⟨P.st k h.1, AllP.keep k h.2⟩
  | [], _ :: _, h => h.elim
  | _ :: _, [], h => h.elim
end
/-- what stands around: constants of the whole proof -/
structure Gc where
  K : PySem.W.Frag
  mg : Str → Option Value
  P : Program
  w : World
  base : Heap
  T : List (Addr × Str)
/-- the context of a def's body or a block in it -/
structure CxOk (G : Gc) (k : Nat) (X : Cx) : Prop where
  K : X.K = G.K
  mg : X.mg = G.mg
  prog : X.prog = G.P
  w : X.w = G.w
  base : X.base = G.base
  calm : X.calm = true
  nd : X.N.Nodup
  room : Room k X.A
theorem CxOk.blk {G : Gc} {k : Nat} {X : Cx} (C : CxOk G k X) (s : Shared) (H : Hp) (scope : Scope) (cenv : Env) (fp : List Addr) : CxOk G k (X.blk s H scope cenv fp) :=
  ⟨C.K, C.mg, C.prog, C.w, C.base, C.calm, C.nd, C.room⟩
theorem CxOk.hu {G : Gc} {k : Nat} {X : Cx} (C : CxOk G k X) : X.A.units + 65 < cLine := by have := C.room.un; omega
def JE (G : Gc) (k : Nat) (X : Cx) (L : List Slot) (e : Expr) (P : SP) : Prop := CxOk G k X → PE X e (tP G.T L P)
def JT (G : Gc) (k : Nat) (X : Cx) (L : List Slot) (e : Expr) (b : Bool) : Prop := CxOk G k X → PT X e (tPT G.T L b)
def JW (G : Gc) (k : Nat) (X : Cx) (L : List Slot) (e : Expr) (b : Bool) : Prop := CxOk G k X → PW X e (tPT G.T L b)
def JA (G : Gc) (k : Nat) (X : Cx) (L : List Slot) (es : List Expr) (Ps : List SP) : Prop := CxOk G k X → PA X es (tPA G.T L Ps)
theorem _root_.L2.PE.imp {X : Cx} {e : Expr} {t u : TE} (h : PE X e t) (i : ∀ σ H Q, u σ H Q → t σ H Q) : PE X e u := ⟨fun pins s σ H Q I q => h.run pins s σ H Q I (i σ H Q q)⟩
theorem _root_.L2.PT.imp {X : Cx} {e : Expr} {t u : TT} (h : PT X e t) (i : ∀ σ H Q, u σ H Q → t σ H Q) : PT X e u := ⟨fun pins s σ H Q I q => h.run pins s σ H Q I (i σ H Q q)⟩
theorem _root_.L2.PW.imp {X : Cx} {e : Expr} {t u : TT} (h : PW X e t) (i : ∀ σ H Q, u σ H Q → t σ H Q) : PW X e u := ⟨fun wh pins s σ H Q I q => h.run wh pins s σ H Q I (i σ H Q q)⟩
theorem _root_.L2.PA.imp {X : Cx} {e : List Expr} {t u : TA} (h : PA X e t) (i : ∀ σ H Q, u σ H Q → t σ H Q) : PA X e u := ⟨fun pos pins s σ H Q I q => h.run pos pins s σ H Q I (i σ H Q q)⟩
theorem _root_.L2.PS.imp {X : Cx} {e : Stmt} {t u : TS} (h : PS X e t) (i : ∀ D σ H, u D σ H → t D σ H) : PS X e u := ⟨fun pins s σ H D I q => h.run pins s σ H D I (i D σ H q)⟩
theorem _root_.L2.PSs.imp {X : Cx} {e : List Stmt} {t u : TS} (h : PSs X e t) (i : ∀ D σ H, u D σ H → t D σ H) : PSs X e u := ⟨fun pins s σ H D I q => h.run pins s σ H D I (i D σ H q)⟩
end K27
/-! K27, second part: rules for expressions by slots. -/
namespace K27
open PySem L2 LamX PyProof.Rows
section
variable {G : Gc} {k : Nat} {X : Cx} {L : List Slot} {pos : Pos}

/-! ### names, constants, displays -/
theorem je_var (i : Nat) {P : SP} {x : Str} {pos : Pos} (h : slot L i = .p P := by rfl) (hN : X.N[i]? = some x := by rfl) (hv : Vis X.env.scope x := by first | exact Or.inl rfl | exact Or.inr (Or.inl rfl) | exact Or.inr (Or.inr rfl))
    (hd : (x == ("__debug__" : Str)) = false := by decide) (hcd : (x == ("__classdict__" : Str)) = false := by decide) : JE G k X L (.Name x pos) P :=
  fun _ => (pe_var hN hv hd hcd).imp fun σ H Q ⟨F, s, t, E, q⟩ => let ⟨v, e, p⟩ := E.var (slot_p h); ⟨v, e, q v F H (Step.refl t s) p⟩
theorem je_tC {e : Expr} {v : V} {P : SP} (h : PE X e (tC v)) (hp : ∀ F, P.P v F) : JE G k X L e P := fun _ => h.imp fun σ H Q ⟨F, s, t, E, q⟩ => q v F H (Step.refl t s) (hp F)
theorem je_int {i : Int} {j pos} : JE G k X L (.Constant (.int i) j pos) (isI i) := je_tC pe_int fun _ => .int i
theorem je_bool {b : Bool} {j pos} : JE G k X L (.Constant (.bool b) j pos) (isB b) := je_tC pe_bl fun _ => .bl b
theorem je_none {j pos} : JE G k X L (.Constant .none j pos) isN := je_tC pe_non fun _ => .non
theorem je_str {x : Str} {j pos} : JE G k X L (.Constant (.str x) j pos) (isS x) := je_tC pe_str fun _ => .str x
theorem JE.to {e : Expr} {P P' : SP} (h : JE G k X L e P) (i : ∀ v F, P.P v F → P'.P v F) : JE G k X L e P' := fun C => (h C).imp fun σ H Q ⟨F, s, t, E, q⟩ => ⟨F, s, t, E, fun v F' H' st p => q v F' H' st (i v F' p)⟩
theorem JE.is {e : Expr} {d d' : PyData} (h : JE G k X L e (isD d)) (i : d = d') : JE G k X L e (isD d') := i ▸ h
theorem JT.is {e : Expr} {d d' : Bool} (h : JT G k X L e d) (i : d = d') : JT G k X L e d' := i ▸ h

/-! ### argument lists -/
theorem ja_nil : JA G k X L [] [] := fun _ => pa_nil.imp fun σ H Q ⟨F, s, t, E, q⟩ => q [] F H (Step.refl t s) trivial
theorem ja_cons {e : Expr} {es : List Expr} {P : SP} {Ps : List SP} (h1 : JE G k X L e P) (h2 : JA G k X L es Ps) (he : starEach (e :: es) X.env = (false, eval e X.env) :: starEach es X.env := by rfl) : JA G k X L (e :: es) (P :: Ps) :=
  fun C => (pa_cons (h1 C) (h2 C) he).imp fun σ H Q ⟨F, s, t, E, q⟩ =>
    ⟨F, s, t, E, fun v F1 H1 st1 p1 => ⟨F1, st1.sub, st1.tab, E.step st1, fun vs F2 H2 st2 p2 => q (v :: vs) F2 H2 (st1.trans st2) ⟨P.st st2.keep p1, p2⟩⟩⟩
theorem allP_das {F : Hp} : ∀ {ds : List PyData} {vs : List V}, AllP (ds.map isD) vs F → Das F vs ds
  | [], [], _ => .nil
  | d :: ds, v :: vs, h => .cons h.1 (allP_das h.2)
  | [], _ :: _, h => h.elim
  | _ :: _, [], h => h.elim
/-- (a, b, ..): the new tuple is known to its object -/
def tTupZ (t : TA) : TE := fun σ H Q => t σ H fun xs H1 => xs.length ≤ sizeLine ∧ ∀ p o, H1 p = none → o.dict = none → Q (.ref p) (upd H1 p (.frz o (.tup xs)))
theorem pe_tupZ {es : List Expr} {t : TA} {x1} (h : PA X es t) : PE X (.Tuple es x1 pos) (tTupZ t) := ⟨fun pins s σ H Q I hq => wpAny_Tuple_spliced (thn (h.run pos pins s σ H _ I hq) fun us s1 ⟨xs, H1, I1, r, z, q⟩ => ⟨by rw [← r.length]; exact z, by
  let o : Obj := { cls := .type "tuple", data := .seq us.toArray }
  have new : (s1.heap.push o).get? s1.heap.objs.size = some o := Heap.get?_push_size _ rfl
  have free : H1 s1.heap.objs.size = none := I1.hok.fresh (Nat.le_refl _)
  exact ⟨.ref _, upd H1 s1.heap.objs.size (.frz o (.tup xs)), I1.laid (t' := s1.toks) (fun b u e => Heap.get?_push_of_some _ e) (Nat.le_refl _) ⟨new, z, us, r, o, new, rfl, _, rfl⟩, rfl, q _ o free rfl⟩⟩)⟩
theorem Step.newTup {T : List (Addr × Str)} {F H : Hp} (t : Tabs T F) (s : Sub F H) {p : Addr} {o : Obj} {vs : List V} {ds : List PyData} (hp : H p = none) (ho : o.dict = none) (d : Das F vs ds) : Step T F H (upd F p (.frz o (.tup vs))) (upd H p (.frz o (.tup vs))) ∧ Da (upd F p (.frz o (.tup vs))) (.ref p) (.tuple ds) := by
  have st := Step.new (o := .frz o (.tup vs)) t s hp
  exact ⟨st, .tup ⟨o, upd_same, ho⟩ (keep_ds st.keep _ _ d)⟩
theorem je_tup {es : List Expr} {ds : List PyData} {x1 pos} (h : JA G k X L es (ds.map isD)) (hl : ds.length ≤ 1000 := by exact Nat.le_of_ble_eq_true rfl) : JE G k X L (.Tuple es x1 pos) (isD (.tuple ds)) :=
  fun C => (pe_tupZ (h C)).imp fun σ H Q ⟨F, s, t, E, q⟩ => ⟨F, s, t, E, fun vs F1 H1 st1 p1 => by
    have d := allP_das p1
    refine ⟨?_, fun p o hp ho => ?_⟩
    · rw [das_length d]; exact Nat.le_trans hl (by decide)
    · obtain ⟨st2, dd⟩ := Step.newTup st1.tab st1.sub hp ho d
      exact q _ _ _ (st1.trans st2) dd⟩
theorem je_lst {es : List Expr} {ds : List PyData} {pos} (h : JA G k X L es (ds.map isD)) (hl : ds.length ≤ 1000 := by exact Nat.le_of_ble_eq_true rfl) : JE G k X L (.List es pos) (isD (.list ds)) :=
  fun C => (pe_lst (h C)).imp fun σ H Q ⟨F, s, t, E, q⟩ => ⟨F, s, t, E, fun vs F1 H1 st1 p1 => by
    have d := allP_das p1
    refine ⟨?_, fun p hp => ?_⟩
    · rw [das_length d]; exact Nat.le_trans hl (by decide)
    · have st2 : Step G.T F1 H1 (upd F1 p (.lst vs)) (upd H1 p (.lst vs)) := Step.new st1.tab st1.sub hp
      exact q _ _ _ (st1.trans st2) (.lst upd_same (keep_ds st2.keep _ _ d))⟩

/-! ### operators -/
def RD2 (G : Gc) (r : R2) (P1 P2 P : SP) : Prop := ∀ x y F H (Q : VK), Sub F H → Tabs G.T F → P1.P x F → P2.P y F → (∀ v F' H', Step G.T F H F' H' → P.P v F' → Q v H') → r x y H Q
theorem je_op {a b : Expr} {op : Operator} {pos : Pos} {r : R2} {P1 P2 P : SP} (ho : CxOk G k X → OpR X (binaryOp op) r) (hr : RD2 G r P1 P2 P) (ha : JE G k X L a P1) (hb : JE G k X L b P2) : JE G k X L (.BinOp a op b pos) P :=
  fun C => (pe_op (ho C) (ha C) (hb C)).imp fun σ H Q ⟨F, s, t, E, q⟩ =>
    ⟨F, s, t, E, fun x F1 H1 st1 p1 => ⟨F1, st1.sub, st1.tab, E.step st1, fun y F2 H2 st2 p2 => hr x y F2 H2 Q st2.sub st2.tab (P1.st st2.keep p1) p2 fun v F' H' st p => q v F' H' ((st1.trans st2).trans st) p⟩⟩
theorem je_cmp {a b : Expr} {op : CmpOp} {pos : Pos} {r : R2} {P1 P2 P : SP} (ho : CxOk G k X → OpR X (compareOp op) r) (hr : RD2 G r P1 P2 P) (ha : JE G k X L a P1) (hb : JE G k X L b P2) (hm : behindInMarks op b = false) : JE G k X L (.Compare a [op] [b] pos) P :=
  fun C => (pe_cmpR (ho C) (ha C) (hb C) hm).imp fun σ H Q ⟨F, s, t, E, q⟩ =>
    ⟨F, s, t, E, fun x F1 H1 st1 p1 => ⟨F1, st1.sub, st1.tab, E.step st1, fun y F2 H2 st2 p2 => hr x y F2 H2 Q st2.sub st2.tab (P1.st st2.keep p1) p2 fun v F' H' st p => q v F' H' ((st1.trans st2).trans st) p⟩⟩
theorem jt_cmp {a b : Expr} {op : CmpOp} {pos : Pos} {r : R2} {P1 P2 : SP} {c : Bool} (ho : CxOk G k X → OpR X (compareOp op) r) (hr : RD2 G r P1 P2 (isB c)) (ha : JE G k X L a P1) (hb : JE G k X L b P2) (hm : behindInMarks op b = false) : JT G k X L (.Compare a [op] [b] pos) c :=
  fun C => (pt_cmpR (ho C) (ha C) (hb C) hm).imp fun σ H Q ⟨F, s, t, E, q⟩ =>
    ⟨F, s, t, E, fun x F1 H1 st1 p1 => ⟨F1, st1.sub, st1.tab, E.step st1, fun y F2 H2 st2 p2 => hr x y F2 H2 _ st2.sub st2.tab (P1.st st2.keep p1) p2 fun v F' H' st p => ⟨c, da_bl p, q F' H' ((st1.trans st2).trans st)⟩⟩⟩
/-- a value's rule that makes nothing -/
theorem rd_val {r : R2} {P1 P2 P : SP} (h : ∀ x y F H (Q : VK), Sub F H → P1.P x F → P2.P y F → (∀ v, P.P v F → Q v H) → r x y H Q) : RD2 G r P1 P2 P :=
  fun x y F H Q s t p1 p2 q => h x y F H Q s p1 p2 fun v p => q v F H (Step.refl t s) p
theorem rd_i0 {g : Int → Int → V} {i j : Int} {d : PyData} (hd : ∀ F, Da F (g i j) d) : RD2 G (rI0 g) (isI i) (isI j) (isD d) := rd_val fun x y F H Q s p1 p2 q => ⟨i, j, da_int p1, da_int p2, q _ (hd F)⟩
theorem rd_i {C : Int → Int → Prop} {g : Int → Int → V} {i j : Int} {d : PyData} (hc : C i j) (hd : ∀ F, Da F (g i j) d) : RD2 G (rI C g) (isI i) (isI j) (isD d) := rd_val fun x y F H Q s p1 p2 q => ⟨i, j, da_int p1, da_int p2, hc, q _ (hd F)⟩
variable {a b : Expr} {i j : Int}
theorem je_add (ha : JE G k X L a (isI i)) (hb : JE G k X L b (isI j)) : JE G k X L (.BinOp a .Add b pos) (isI (i + j)) := je_op (fun _ => op_add) (rd_i0 fun _ => .int _) ha hb
theorem je_sub (ha : JE G k X L a (isI i)) (hb : JE G k X L b (isI j)) : JE G k X L (.BinOp a .Sub b pos) (isI (i - j)) := je_op (fun _ => op_sub) (rd_i0 fun _ => .int _) ha hb
theorem je_mul (hc : CMul i j) (ha : JE G k X L a (isI i)) (hb : JE G k X L b (isI j)) : JE G k X L (.BinOp a .Mult b pos) (isI (i * j)) := je_op (fun _ => op_mul) (rd_i hc fun _ => .int _) ha hb
theorem je_fdiv (hc : CDiv i j) (ha : JE G k X L a (isI i)) (hb : JE G k X L b (isI j)) : JE G k X L (.BinOp a .FloorDiv b pos) (isI (i / j)) := je_op (fun _ => op_fdiv) (rd_i hc fun _ => .int _) ha hb
theorem je_mod (hc : 0 < j) (ha : JE G k X L a (isI i)) (hb : JE G k X L b (isI j)) : JE G k X L (.BinOp a .Mod b pos) (isI (i % j)) := je_op (fun _ => op_mod) (rd_i hc fun _ => .int _) ha hb
theorem je_pow (hc : CPow i j) (ha : JE G k X L a (isI i)) (hb : JE G k X L b (isI j)) : JE G k X L (.BinOp a .Pow b pos) (isI (i ^ j.toNat)) := je_op (fun _ => op_pow) (rd_i hc fun _ => .int _) ha hb
theorem rd_cat {ds es : List PyData} (hl : ds.length + es.length ≤ 100000) : RD2 G rCat (isD (.list ds)) (isD (.list es)) (isD (.list (ds ++ es))) := fun x y F H Q s t p1 p2 q => by
  obtain ⟨l, xs, rfl, h1, d1⟩ := da_lst p1
  obtain ⟨m, ys, rfl, h2, d2⟩ := da_lst p2
  refine ⟨l, m, xs, ys, rfl, rfl, s _ _ h1, s _ _ h2, ?_, fun p hp => ?_⟩
  · rw [das_length d1, das_length d2]; exact Nat.le_trans hl (by decide)
  · have st := Step.new (o := .lst (xs ++ ys)) t s hp
    exact q _ _ _ st (.lst upd_same (keep_ds st.keep _ _ (das_app d1 d2)))
theorem je_cat {ds es : List PyData} (hl : ds.length + es.length ≤ 100000) (ha : JE G k X L a (isD (.list ds))) (hb : JE G k X L b (isD (.list es))) : JE G k X L (.BinOp a .Add b pos) (isD (.list (ds ++ es))) := je_op (fun _ => op_cat) (rd_cat hl) ha hb
theorem das_rep {F : Hp} {vs : List V} {ds : List PyData} (h : Das F vs ds) : ∀ n : Nat, Das F (List.replicate n vs).flatten (List.replicate n ds).flatten
  | 0 => .nil
  | n + 1 => by rw [List.replicate_succ, List.replicate_succ, List.flatten_cons, List.flatten_cons]; exact das_app h (das_rep h n)
theorem rd_rep {ds : List PyData} {n : Nat} (hl : ds.length * n ≤ 100000) (hn : n ≤ 100000) : RD2 G rRep (isD (.list ds)) (isI n) (isD (.list (List.replicate n ds).flatten)) := fun x y F H Q s t p1 p2 q => by
  obtain ⟨l, xs, rfl, h1, d1⟩ := da_lst p1
  cases da_int p2
  refine ⟨l, n, xs, rfl, rfl, s _ _ h1, by omega, by omega, ?_, fun p hp => ?_⟩
  · rw [das_length d1]; exact Nat.le_trans hl (by decide)
  · have st := Step.new (o := .lst (List.replicate (n : Int).toNat xs).flatten) t s hp
    exact q _ _ _ st (.lst upd_same (keep_ds st.keep _ _ (das_rep d1 n)))
theorem je_rep {ds : List PyData} {n : Nat} (hl : ds.length * n ≤ 100000) (hn : n ≤ 100000) (ha : JE G k X L a (isD (.list ds))) (hb : JE G k X L b (isI n)) : JE G k X L (.BinOp a .Mult b pos) (isD (.list (List.replicate n ds).flatten)) := je_op (fun _ => op_rep) (rd_rep hl hn) ha hb

/-! ### comparisons -/
theorem rd_lt : RD2 G (rI0 fun i j => .bl (decide (i < j))) (isI i) (isI j) (isB (decide (i < j))) := rd_i0 fun _ => .bl _
theorem rd_le : RD2 G (rI0 fun i j => .bl (decide (i ≤ j))) (isI i) (isI j) (isB (decide (i ≤ j))) := rd_i0 fun _ => .bl _
theorem rd_gt : RD2 G (rI0 fun i j => .bl (decide (j < i))) (isI i) (isI j) (isB (decide (j < i))) := rd_i0 fun _ => .bl _
theorem rd_ge : RD2 G (rI0 fun i j => .bl (decide (j ≤ i))) (isI i) (isI j) (isB (decide (j ≤ i))) := rd_i0 fun _ => .bl _
theorem je_lt (ha : JE G k X L a (isI i)) (hb : JE G k X L b (isI j)) : JE G k X L (.Compare a [.Lt] [b] pos) (isB (decide (i < j))) := je_cmp (fun _ => op_lt) rd_lt ha hb (nomark _)
theorem je_le (ha : JE G k X L a (isI i)) (hb : JE G k X L b (isI j)) : JE G k X L (.Compare a [.LtE] [b] pos) (isB (decide (i ≤ j))) := je_cmp (fun _ => op_le) rd_le ha hb (nomark _)
theorem je_gt (ha : JE G k X L a (isI i)) (hb : JE G k X L b (isI j)) : JE G k X L (.Compare a [.Gt] [b] pos) (isB (decide (j < i))) := je_cmp (fun _ => op_gt) rd_gt ha hb (nomark _)
theorem jt_lt (ha : JE G k X L a (isI i)) (hb : JE G k X L b (isI j)) : JT G k X L (.Compare a [.Lt] [b] pos) (decide (i < j)) := jt_cmp (fun _ => op_lt) rd_lt ha hb (nomark _)
theorem jt_le (ha : JE G k X L a (isI i)) (hb : JE G k X L b (isI j)) : JT G k X L (.Compare a [.LtE] [b] pos) (decide (i ≤ j)) := jt_cmp (fun _ => op_le) rd_le ha hb (nomark _)
theorem jt_gt (ha : JE G k X L a (isI i)) (hb : JE G k X L b (isI j)) : JT G k X L (.Compare a [.Gt] [b] pos) (decide (j < i)) := jt_cmp (fun _ => op_gt) rd_gt ha hb (nomark _)
theorem jt_ge (ha : JE G k X L a (isI i)) (hb : JE G k X L b (isI j)) : JT G k X L (.Compare a [.GtE] [b] pos) (decide (j ≤ i)) := jt_cmp (fun _ => op_ge) rd_ge ha hb (nomark _)
variable {d e : PyData}
theorem rd_eq {K : PySem.W.Frag} (sd : SeqAt.shaped d = true) (se : SeqAt.shaped e = true) : RD2 G (rEqD K) (isD d) (isD e) (isB (PyData.eqv d e)) := rd_val fun x y F H Q s p1 p2 q => ⟨d, e, da_dp s _ _ p1, da_dp s _ _ p2, sd, se, q _ (.bl _)⟩
theorem rd_ne {K : PySem.W.Frag} (sd : SeqAt.shaped d = true) (se : SeqAt.shaped e = true) : RD2 G (rNeD K) (isD d) (isD e) (isB (!PyData.eqv d e)) := rd_val fun x y F H Q s p1 p2 q => ⟨d, e, da_dp s _ _ p1, da_dp s _ _ p2, sd, se, q _ (.bl _)⟩
theorem CxOk.hu64 {G : Gc} {k : Nat} {X : Cx} (C : CxOk G k X) : X.A.units + 64 < cLine := by have := C.hu; omega
theorem je_eq (sd : SeqAt.shaped d = true) (se : SeqAt.shaped e = true) (ha : JE G k X L a (isD d)) (hb : JE G k X L b (isD e)) : JE G k X L (.Compare a [.Eq] [b] pos) (isB (PyData.eqv d e)) := je_cmp (fun C => op_eqD C.hu64) (rd_eq sd se) ha hb (nomark _)
theorem je_ne (sd : SeqAt.shaped d = true) (se : SeqAt.shaped e = true) (ha : JE G k X L a (isD d)) (hb : JE G k X L b (isD e)) : JE G k X L (.Compare a [.NotEq] [b] pos) (isB (!PyData.eqv d e)) := je_cmp (fun C => op_neD C.hu64) (rd_ne sd se) ha hb (nomark _)
theorem jt_eq (sd : SeqAt.shaped d = true) (se : SeqAt.shaped e = true) (ha : JE G k X L a (isD d)) (hb : JE G k X L b (isD e)) : JT G k X L (.Compare a [.Eq] [b] pos) (PyData.eqv d e) := jt_cmp (fun C => op_eqD C.hu64) (rd_eq sd se) ha hb (nomark _)
theorem jt_ne (sd : SeqAt.shaped d = true) (se : SeqAt.shaped e = true) (ha : JE G k X L a (isD d)) (hb : JE G k X L b (isD e)) : JT G k X L (.Compare a [.NotEq] [b] pos) (!PyData.eqv d e) := jt_cmp (fun C => op_neD C.hu64) (rd_ne sd se) ha hb (nomark _)
theorem rd_in {K : PySem.W.Frag} {ds : List PyData} (sd : SeqAt.shaped d = true) (se : SeqAt.shaped (.list ds) = true) : RD2 G (rInD K) (isD d) (isD (.list ds)) (isB (ds.any fun z => PyData.eqv z d)) := rd_val fun x y F H Q s p1 p2 q => ⟨d, ds, da_dp s _ _ p1, da_dp s _ _ p2, sd, se, q _ (.bl _)⟩
theorem rd_nin {K : PySem.W.Frag} {ds : List PyData} (sd : SeqAt.shaped d = true) (se : SeqAt.shaped (.list ds) = true) : RD2 G (rNotInD K) (isD d) (isD (.list ds)) (isB (!ds.any fun z => PyData.eqv z d)) := rd_val fun x y F H Q s p1 p2 q => ⟨d, ds, da_dp s _ _ p1, da_dp s _ _ p2, sd, se, q _ (.bl _)⟩
theorem jt_in {ds : List PyData} (sd : SeqAt.shaped d = true) (se : SeqAt.shaped (.list ds) = true) (ha : JE G k X L a (isD d)) (hb : JE G k X L b (isD (.list ds))) (hm : behindInMarks .In b = false := by rfl) : JT G k X L (.Compare a [.In] [b] pos) (ds.any fun z => PyData.eqv z d) := jt_cmp (fun C => op_inD C.hu) (rd_in sd se) ha hb hm
theorem jt_nin {ds : List PyData} (sd : SeqAt.shaped d = true) (se : SeqAt.shaped (.list ds) = true) (ha : JE G k X L a (isD d)) (hb : JE G k X L b (isD (.list ds))) (hm : behindInMarks .NotIn b = false := by rfl) : JT G k X L (.Compare a [.NotIn] [b] pos) (!ds.any fun z => PyData.eqv z d) := jt_cmp (fun C => op_notInD C.hu) (rd_nin sd se) ha hb hm
/-- flat data -/
def flatD : PyData → Bool
  | .none | .bool _ | .int _ | .str _ => true
  | _ => false
theorem da_flat {F : Hp} {v : V} (h : Da F v d) (f : flatD d = true) : flatV v = true := by cases h <;> first | rfl | cases f
theorem das_flat {F : Hp} : ∀ {vs : List V} {ds : List PyData}, Das F vs ds → ds.all flatD = true → vs.all flatV = true
  | _, _, .nil, _ => rfl
  | _, _, .cons h t, f => by
    simp only [List.all_cons, Bool.and_eq_true] at f ⊢
    exact ⟨da_flat h f.1, das_flat t f.2⟩
theorem da_eqV {F : Hp} {v w : V} (h : Da F v d) (h' : Da F w e) (f : flatD d = true) (f' : flatD e = true) : eqV v w = PyData.eqv d e := by
  cases h <;> cases h' <;> first | (cases f; done) | (cases f'; done) | (simp [eqV, PyData.eqv]; done) | (rename_i b i; cases b <;> simp [eqV, PyData.eqv]) | (rename_i b i; cases i <;> simp [eqV, PyData.eqv])
end
end K27
/-! K27, third part: truth, choice, places, calls, comprehensions by slots. -/
namespace K27
open PySem L2 LamX PyProof.Rows
section
variable {G : Gc} {k : Nat} {X : Cx} {L : List Slot} {a b c e : Expr} {pos : Pos}
theorem pe_never : PE X e (fun _ _ _ => False) := ⟨fun _ _ _ _ _ _ h => h.elim⟩
theorem pt_never : PT X e (fun _ _ _ => False) := ⟨fun _ _ _ _ _ _ h => h.elim⟩
theorem pw_never : PW X e (fun _ _ _ => False) := ⟨fun _ _ _ _ _ _ _ h => h.elim⟩
/-! ### and, or, not as values -/
theorem je_one {op} {P : SP} (h : JE G k X L a P) : JE G k X L (.BoolOp op [a] pos) P := fun C => pe_one (h C)
theorem je_and {rest : List Expr} {c d : Bool} (ha : JE G k X L a (isB c)) (hb : c = true → JE G k X L (.BoolOp .And (b :: rest) pos) (isB d)) : JE G k X L (.BoolOp .And (a :: b :: rest) pos) (isB (c && d)) := fun C => by
  cases c with
  | true => exact (pe_and (ha C) (hb rfl C)).imp fun σ H Q ⟨F, s, t, E, q⟩ => ⟨F, s, t, E, fun v F1 H1 st1 p1 => ⟨true, da_bl p1, by rw [if_pos rfl]; exact ⟨F1, st1.sub, st1.tab, E.step st1, fun v F2 H2 st2 p2 => q v F2 H2 (st1.trans st2) p2⟩⟩⟩
  | false => exact (pe_and (ha C) pe_never).imp fun σ H Q ⟨F, s, t, E, q⟩ => ⟨F, s, t, E, fun v F1 H1 st1 p1 => ⟨false, da_bl p1, by rw [if_neg Bool.false_ne_true]; exact q _ F1 H1 st1 (.bl false)⟩⟩
theorem je_or {rest : List Expr} {c d : Bool} (ha : JE G k X L a (isB c)) (hb : c = false → JE G k X L (.BoolOp .Or (b :: rest) pos) (isB d)) : JE G k X L (.BoolOp .Or (a :: b :: rest) pos) (isB (c || d)) := fun C => by
  cases c with
  | false => exact (pe_or (ha C) (hb rfl C)).imp fun σ H Q ⟨F, s, t, E, q⟩ => ⟨F, s, t, E, fun v F1 H1 st1 p1 => ⟨false, da_bl p1, by rw [if_neg Bool.false_ne_true]; exact ⟨F1, st1.sub, st1.tab, E.step st1, fun v F2 H2 st2 p2 => q v F2 H2 (st1.trans st2) p2⟩⟩⟩
  | true => exact (pe_or (ha C) pe_never).imp fun σ H Q ⟨F, s, t, E, q⟩ => ⟨F, s, t, E, fun v F1 H1 st1 p1 => ⟨true, da_bl p1, by rw [if_pos rfl]; exact q _ F1 H1 st1 (.bl true)⟩⟩
theorem je_not {c : Bool} (ha : JE G k X L a (isB c)) : JE G k X L (.UnaryOp .Not a pos) (isB (!c)) := fun C => (pe_not (ha C)).imp fun σ H Q ⟨F, s, t, E, q⟩ => ⟨F, s, t, E, fun v F1 H1 st1 p1 => ⟨c, da_bl p1, q _ F1 H1 st1 (.bl _)⟩⟩
/-! ### tests -/
theorem jt_val {c : Bool} (ha : JE G k X L e (isB c)) (he : ∀ whole, isTrue e X.env whole = (do let v ← whole; standAt e.pos; holding [v] (truthy v)) := by intro _; rfl) : JT G k X L e c := fun C => (pt_val (ha C) he).imp fun σ H Q ⟨F, s, t, E, q⟩ => ⟨F, s, t, E, fun v F1 H1 st1 p1 => ⟨c, da_bl p1, q F1 H1 st1⟩⟩
theorem jt_not {c : Bool} (ha : JT G k X L a c) : JT G k X L (.UnaryOp .Not a pos) (!c) := fun C => (pt_not (ha C)).imp fun σ H Q ⟨F, s, t, E, q⟩ => ⟨F, s, t, E, fun F1 H1 st1 => q F1 H1 st1⟩
theorem jw_pt {c : Bool} (h : JW G k X L e c) : JT G k X L e c := fun C => (h C).pt
theorem jw_and1 {c : Bool} (ha : JT G k X L a c) : JW G k X L (.BoolOp .And [a] pos) c := fun C => pw_and1 (ha C)
theorem jw_or1 {c : Bool} (ha : JT G k X L a c) : JW G k X L (.BoolOp .Or [a] pos) c := fun C => pw_or1 (ha C)
theorem jw_and {rest : List Expr} {c d : Bool} (ha : JT G k X L a c) (hb : c = true → JW G k X L (.BoolOp .And (b :: rest) pos) d) : JW G k X L (.BoolOp .And (a :: b :: rest) pos) (c && d) := fun C => by
  cases c with
  | true => exact (pw_and (ha C) (hb rfl C)).imp fun σ H Q ⟨F, s, t, E, q⟩ => ⟨F, s, t, E, fun F1 H1 st1 => by dsimp only; rw [if_pos rfl]; exact ⟨F1, st1.sub, st1.tab, E.step st1, fun F2 H2 st2 => q F2 H2 (st1.trans st2)⟩⟩
  | false => exact (pw_and (ha C) pw_never).imp fun σ H Q ⟨F, s, t, E, q⟩ => ⟨F, s, t, E, fun F1 H1 st1 => by dsimp only; rw [if_neg Bool.false_ne_true]; exact q F1 H1 st1⟩
theorem jw_or {rest : List Expr} {c d : Bool} (ha : JT G k X L a c) (hb : c = false → JW G k X L (.BoolOp .Or (b :: rest) pos) d) : JW G k X L (.BoolOp .Or (a :: b :: rest) pos) (c || d) := fun C => by
  cases c with
  | false => exact (pw_or (ha C) (hb rfl C)).imp fun σ H Q ⟨F, s, t, E, q⟩ => ⟨F, s, t, E, fun F1 H1 st1 => by dsimp only; rw [if_neg Bool.false_ne_true]; exact ⟨F1, st1.sub, st1.tab, E.step st1, fun F2 H2 st2 => q F2 H2 (st1.trans st2)⟩⟩
  | true => exact (pw_or (ha C) pw_never).imp fun σ H Q ⟨F, s, t, E, q⟩ => ⟨F, s, t, E, fun F1 H1 st1 => by dsimp only; rw [if_pos rfl]; exact q F1 H1 st1⟩
theorem je_if {t : Bool} {P : SP} (hc : JT G k X L c t) (ha : t = true → JE G k X L a P) (hb : t = false → JE G k X L b P) : JE G k X L (.IfExp c a b pos) P := fun C => by
  cases t with
  | true => exact (pe_ifExp (hc C) (ha rfl C) pe_never).imp fun σ H Q ⟨F, s, t, E, q⟩ => ⟨F, s, t, E, fun F1 H1 st1 => by dsimp only; rw [if_pos rfl]; exact ⟨F1, st1.sub, st1.tab, E.step st1, fun v F2 H2 st2 p => q v F2 H2 (st1.trans st2) p⟩⟩
  | false => exact (pe_ifExp (hc C) pe_never (hb rfl C)).imp fun σ H Q ⟨F, s, t, E, q⟩ => ⟨F, s, t, E, fun F1 H1 st1 => by dsimp only; rw [if_neg Bool.false_ne_true]; exact ⟨F1, st1.sub, st1.tab, E.step st1, fun v F2 H2 st2 p => q v F2 H2 (st1.trans st2) p⟩⟩
/-- x is None, of data -/
def nonD : PyData → Bool
  | .none => true
  | _ => false
theorem da_non_dec {F : Hp} {v : V} {d : PyData} (h : Da F v d) : decide (v = .non) = nonD d := by cases h <;> first | rfl | exact decide_eq_false (fun z => nomatch z)
theorem jt_isN {d : PyData} {j pos'} (ha : JE G k X L a (isD d)) : JT G k X L (.Compare a [.Is] [.Constant .none j pos'] pos) (nonD d) := fun C => (pt_cmp (pc_isN (ha C))).imp fun σ H Q ⟨F, s, t, E, q⟩ => ⟨F, s, t, E, fun v F1 H1 st1 p1 => ⟨_, rfl, by rw [da_non_dec p1]; exact q F1 H1 st1⟩⟩
theorem jt_notN {d : PyData} {j pos'} (ha : JE G k X L a (isD d)) : JT G k X L (.Compare a [.IsNot] [.Constant .none j pos'] pos) (!nonD d) := fun C => (pt_cmp (pc_notN (ha C))).imp fun σ H Q ⟨F, s, t, E, q⟩ => ⟨F, s, t, E, fun v F1 H1 st1 p1 => ⟨_, rfl, by rw [da_non_dec p1]; exact q F1 H1 st1⟩⟩

/-! ### places -/
theorem je_ix {r : R2} {P1 P2 P : SP} (ho : CxOk G k X → IxR X r) (hr : RD2 G r P1 P2 P) (ha : JE G k X L a P1) (hb : JE G k X L b P2) (hs : PlainIx b := by intro _ _; rfl) : JE G k X L (.Subscript a b pos) P :=
  fun C => (pe_ix (ho C) (ha C) (hb C) hs).imp fun σ H Q ⟨F, s, t, E, q⟩ =>
    ⟨F, s, t, E, fun x F1 H1 st1 p1 => ⟨F1, st1.sub, st1.tab, E.step st1, fun y F2 H2 st2 p2 => hr x y F2 H2 Q st2.sub st2.tab (P1.st st2.keep p1) p2 fun v F' H' st p => q v F' H' ((st1.trans st2).trans st) p⟩⟩
/-- a list, a tuple of things known by facts -/
def isLstP (Ps : List SP) : SP := ⟨fun v F => ∃ a xs, v = .ref a ∧ F a = some (.lst xs) ∧ AllP Ps xs F, fun h ⟨a, xs, e, q, p⟩ => ⟨a, xs, e, h.obj _ _ q trivial, p.keep h⟩⟩
def isTupP (Ps : List SP) : SP := ⟨fun v F => ∃ a xs, v = .ref a ∧ TupAt F a xs ∧ AllP Ps xs F, fun h ⟨a, xs, e, q, p⟩ => ⟨a, xs, e, q.keep h, p.keep h⟩⟩
theorem das_allP {F : Hp} : ∀ {ds : List PyData} {vs : List V}, Das F vs ds → AllP (ds.map isD) vs F
  | [], _, h => by cases h; trivial
  | d :: ds, _, h => by
    cases h with
    | cons h1 h2 => exact ⟨h1, das_allP h2⟩
theorem lstP_of {v : V} {F : Hp} {ds : List PyData} (h : (isD (.list ds)).P v F) : (isLstP (ds.map isD)).P v F := let ⟨a, xs, e, h1, h2⟩ := da_lst h; ⟨a, xs, e, h1, das_allP h2⟩
theorem tupP_of {v : V} {F : Hp} {ds : List PyData} (h : (isD (.tuple ds)).P v F) : (isTupP (ds.map isD)).P v F := let ⟨a, xs, e, h1, h2⟩ := da_tup h; ⟨a, xs, e, h1, das_allP h2⟩
theorem allP_length {F : Hp} : ∀ {Ps : List SP} {vs : List V}, AllP Ps vs F → vs.length = Ps.length
  | [], [], _ => rfl
  | P :: Ps, v :: vs, h => congrArg (· + 1) (allP_length h.2)
  | [], _ :: _, h => h.elim
  | _ :: _, [], h => h.elim
theorem allP_get {F : Hp} : ∀ {Ps : List SP} {vs : List V} {i : Nat} {P : SP}, AllP Ps vs F → Ps[i]? = some P → ∃ v, vs[i]? = some v ∧ P.P v F
  | [], [], i, P, _, e => by simp at e
  | Q :: Ps, v :: vs, 0, P, h, e => by simp at e; subst e; exact ⟨v, rfl, h.1⟩
  | Q :: Ps, v :: vs, i + 1, P, h, e => by simpa using allP_get (i := i) (P := P) h.2 (by simpa using e)
  | [], _ :: _, _, _, h, _ => h.elim
  | _ :: _, [], _, _, h, _ => h.elim
theorem allP_getV {F : Hp} : ∀ {Ps : List SP} {vs : List V} {i : Nat} {v : V}, AllP Ps vs F → vs[i]? = some v → ∃ P, Ps[i]? = some P ∧ P.P v F
  | [], [], i, P, _, e => by simp at e
  | Q :: Ps, v :: vs, 0, P, h, e => by simp at e; subst e; exact ⟨Q, rfl, h.1⟩
  | Q :: Ps, v :: vs, i + 1, P, h, e => by simpa using allP_getV (i := i) (v := P) h.2 (by simpa using e)
  | [], _ :: _, _, _, h, _ => h.elim
  | _ :: _, [], _, _, h, _ => h.elim
theorem rd_ixT {K : PySem.W.Frag} {ds : List PyData} {n : Int} {d : PyData} (h : atI ds n = some d) : RD2 G (rIxT K) (isD (.tuple ds)) (isI n) (isD d) := rd_val fun x y F H Q s p1 p2 q => by
  obtain ⟨a, xs, rfl, h1, d1⟩ := da_tup p1
  unfold atI at h
  rw [← das_length d1] at h
  cases hj : ixN xs.length n with
  | none => rw [hj] at h; cases h
  | some j =>
    rw [hj] at h
    obtain ⟨v, hv, dv⟩ := das_get d1 (show ds[j]? = some d from h)
    refine ⟨a, xs, n, v, rfl, da_int p2, h1.sq s, ?_, q v dv⟩
    unfold atI
    rw [hj]
    exact hv
theorem rd_ixL {K : PySem.W.Frag} {ds : List PyData} {n : Int} {d : PyData} (h : atI ds n = some d) : RD2 G (rIxL K) (isD (.list ds)) (isI n) (isD d) := rd_val fun x y F H Q s p1 p2 q => by
  obtain ⟨a, xs, rfl, h1, d1⟩ := da_lst p1
  unfold atI at h
  rw [← das_length d1] at h
  cases hj : ixN xs.length n with
  | none => rw [hj] at h; cases h
  | some j =>
    rw [hj] at h
    obtain ⟨v, hv, dv⟩ := das_get d1 (show ds[j]? = some d from h)
    refine ⟨a, xs, n, v, rfl, da_int p2, SqL.of (s _ _ h1), ?_, q v dv⟩
    unfold atI
    rw [hj]
    exact hv
theorem je_ixT {ds : List PyData} {n : Int} {d : PyData} (h : atI ds n = some d) (ha : JE G k X L a (isD (.tuple ds))) (hb : JE G k X L b (isI n)) (hs : PlainIx b := by intro _ _; rfl) : JE G k X L (.Subscript a b pos) (isD d) := je_ix (fun _ => ix_tup) (rd_ixT h) ha hb hs
theorem je_ixL {ds : List PyData} {n : Int} {d : PyData} (h : atI ds n = some d) (ha : JE G k X L a (isD (.list ds))) (hb : JE G k X L b (isI n)) (hs : PlainIx b := by intro _ _; rfl) : JE G k X L (.Subscript a b pos) (isD d) := je_ix (fun _ => ix_list) (rd_ixL h) ha hb hs
/-! ### dicts read -/
def valD (kvs : List (Key × PyData)) (key : Key) : Option PyData := (kvs.find? fun kv => decide (kv.1 = key)).map (·.2)
theorem dic_val {F : Hp} : ∀ {xs : List (Key × V)} {kvs : List (Key × PyData)} (key : Key), DicAt F xs kvs → (valV xs key = none ∧ valD kvs key = none) ∨ ∃ v d, valV xs key = some v ∧ valD kvs key = some d ∧ Da F v d
  | [], [], _, _ => .inl ⟨rfl, rfl⟩
  | [], _ :: _, _, h => by have := h.1; simp at this
  | _ :: _, [], _, h => by have := h.1; simp at this
  | x :: xs, kv :: kvs, key, h => by
    obtain ⟨h1, h2⟩ := h
    simp only [List.map_cons, List.cons.injEq] at h1
    simp only [List.map_cons] at h2
    cases h2 with
    | cons h3 h4 =>
      obtain ⟨xk, xv⟩ := x
      obtain ⟨ck, cv⟩ := kv
      obtain ⟨e1, e2⟩ := h1
      simp only at e1
      subst e1
      by_cases hk : xk = key
      · refine .inr ⟨xv, cv, ?_, ?_, h3⟩ <;> simp [valV, valD, hk]
      · have ih := dic_val (xs := xs) (kvs := kvs) key ⟨e2, h4⟩
        simpa [valV, valD, List.find?_cons, hk] using ih
def keyD : Key → PyData
  | .inl i => .int i
  | .inr s => .str s
theorem da_key {F : Hp} {v : V} {key : Key} (h : Da F v (keyD key)) : v = kV key := by
  cases key with
  | inl i => exact da_int h
  | inr s => exact da_str h
theorem kV_da {F : Hp} (key : Key) : Da F (kV key) (keyD key) := by
  cases key with
  | inl i => exact .int i
  | inr s => exact .str s
theorem dget_of {H : Hp} {a : Addr} {xs : List (Key × V)} (key : Key) (h : Rd H a (.dK xs)) : DGet H a (kV key) (valV xs key) := .inl ⟨xs, key, h, rfl, rfl⟩
theorem je_dget {kvs : List (Key × PyData)} {key : Key} {d : PyData} {dk : PyData} (hk : dk = keyD key) (h : valD kvs key = some d) (ha : JE G k X L a (isDic kvs)) (hb : JE G k X L b (isD dk)) (hs : NoSl b := by exact fun _ _ => rfl) : JE G k X L (.Subscript a b pos) (isD d) :=
  fun C => (pe_dget (hu_of C.room) (ha C) (hb C) hs).imp fun σ H Q ⟨F, s, t, E, q⟩ =>
    ⟨F, s, t, E, fun x F1 H1 st1 p1 => ⟨F1, st1.sub, st1.tab, E.step st1, fun y F2 H2 st2 p2 => by
      subst hk
      obtain ⟨ad, xs, rfl, rd, da⟩ := (isDic kvs).st st2.keep p1
      cases da_key p2
      rcases dic_val key da with ⟨_, e2⟩ | ⟨v, d', e1, e2, dv⟩
      · rw [e2] at h; cases h
      · rw [e2] at h
        cases h
        refine ⟨ad, v, rfl, ?_, q v F2 H2 (st1.trans st2) dv⟩
        have g := dget_of key (st2.sub.rd rd)
        rw [e1] at g
        exact g⟩⟩
end
end K27
/-! K27, fourth part: calls, targets, comprehensions by slots. -/
namespace K27
open PySem L2 LamX PyProof.Rows
/-- what a def of the text promises: from facts of its arguments a fact of its answer -/
def SpF (T : List (Addr × Str)) {I : Type} (pre : I → Prop) (Ps : I → List SP) (R : I → SP) : Sp := fun vs H Q _ => ∃ i, pre i ∧ ∃ F, Sub F H ∧ Tabs T F ∧ AllP (Ps i) vs F ∧ ∀ v F' H', Step T F H F' H' → (R i).P v F' → Q v H'
/-- a def that stands at its name -/
def Fn (G : Gc) (x : Str) (j : Nat) (sp : Sp) : Prop := ∃ (f : Addr) (fd : FuncData) (ps : List Str), FnOk G.P G.w G.K G.mg G.base CX0 j f fd ps sp ∧ G.mg x = some (.ref f) ∧ PySem.W.keepIn G.K (.ref f) = true ∧ Binds G.K fd ps []
section
variable {G : Gc} {k : Nat} {X : Cx} {L : List Slot} {a b c e : Expr} {es : List Expr} {pos : Pos}
theorem pe_fn {x : Str} {j : Nat} {sp : Sp} {t : TA} {p : Pos} (F : Fn G x j sp) (hj : j ≤ k) (C : CxOk G k X) (ha : PA X (e :: es) t) (hg : Gl X x) (hdb : (x == ("__debug__" : Str)) = false)
    (he : starEach (e :: es) X.env = (false, eval e X.env) :: starEach es X.env) (hpl : (backTo pos (starEach es X.env)).any (·.1) = false) : PE X (.Call (.Name x p) (e :: es) [] pos) (tCall sp [] E0 t) := by
  obtain ⟨f, fd, ps, F, hm, hk, hb⟩ := F
  have F' : FnOk X.prog X.w X.K X.mg X.base CX0 j f fd ps sp := by rw [C.prog, C.w, C.K, C.mg, C.base]; exact F
  exact pe_call F' (C.room.mono hj) hg (by rw [C.mg]; exact hm) (by rw [C.K]; exact hk) (by rw [C.K]; exact hb) .nil pass0 ha hdb he hpl
theorem je_call {x : Str} {j : Nat} {I : Type} {pre : I → Prop} {Ps : I → List SP} {R : I → SP} {p : Pos} (F : Fn G x j (SpF G.T pre Ps R)) (i : I) (hp : pre i) (ha : JA G k X L (e :: es) (Ps i)) (hj : j ≤ k := by decide) (hg : Gl X x := by rfl) (hdb : (x == ("__debug__" : Str)) = false := by decide)
    (he : starEach (e :: es) X.env = (false, eval e X.env) :: starEach es X.env := by rfl) (hpl : (backTo pos (starEach es X.env)).any (·.1) = false := by rfl) : JE G k X L (.Call (.Name x p) (e :: es) [] pos) (R i) :=
  fun C => (pe_fn F hj C (ha C) hg hdb he hpl).imp fun σ H Q ⟨F, s, t, E, q⟩ => ⟨F, s, t, E, fun vs F1 H1 st1 p1 => ⟨i, hp, F1, st1.sub, st1.tab, by rw [List.append_nil]; exact p1, fun v F' H' st p => q v F' H' (st1.trans st) p⟩⟩
/-- a call's rule by facts -/
def RDC (G : Gc) (r : List V → Hp → VK → Prop) (Ps : List SP) (P : SP) : Prop := ∀ vs F H (Q : VK), Sub F H → Tabs G.T F → AllP Ps vs F → (∀ v F' H', Step G.T F H F' H' → P.P v F' → Q v H') → r vs H Q
theorem je_callB {x : Str} {id : String} {r : List V → Hp → VK → Prop} {Ps : List SP} {P : SP} {p : Pos} (ho : CxOk G k X → CallR X (.builtin id) r) (hr : RDC G r Ps P) (hm : G.mg x = none) (hv : bootBuiltins x = some (.builtin id)) (ha : JA G k X L (e :: es) Ps) (hg : Gl X x := by rfl)
    (hn : x ≠ "__name__" := by decide) (hdb : (x == ("__debug__" : Str)) = false := by decide) (he : starEach (e :: es) X.env = (false, eval e X.env) :: starEach es X.env := by rfl) (hpl : (backTo pos (starEach es X.env)).any (·.1) = false := by rfl) : JE G k X L (.Call (.Name x p) (e :: es) [] pos) P :=
  fun C => (pe_callB (ho C) hg (by rw [C.mg]; exact hm) hv (ha C) hn hdb he hpl).imp fun σ H Q ⟨F, s, t, E, q⟩ => ⟨F, s, t, E, fun vs F1 H1 st1 p1 => hr vs F1 H1 Q st1.sub st1.tab p1 fun v F' H' st p => q v F' H' (st1.trans st) p⟩
theorem je_callTy {x : Str} {T : String} {r : List V → Hp → VK → Prop} {Ps : List SP} {P : SP} {p : Pos} (ho : CxOk G k X → CallR X (.type T) r) (hr : RDC G r Ps P) (hm : G.mg x = none) (hv : bootBuiltins x = some (.type T)) (ha : JA G k X L (e :: es) Ps) (hg : Gl X x := by rfl)
    (hn : x ≠ "__name__" := by decide) (hdb : (x == ("__debug__" : Str)) = false := by decide) (he : starEach (e :: es) X.env = (false, eval e X.env) :: starEach es X.env := by rfl) (hpl : (backTo pos (starEach es X.env)).any (·.1) = false := by rfl) : JE G k X L (.Call (.Name x p) (e :: es) [] pos) P :=
  fun C => (pe_callTy (ho C) hg (by rw [C.mg]; exact hm) hv (ha C) hn hdb he hpl).imp fun σ H Q ⟨F, s, t, E, q⟩ => ⟨F, s, t, E, fun vs F1 H1 st1 p1 => hr vs F1 H1 Q st1.sub st1.tab p1 fun v F' H' st p => q v F' H' (st1.trans st) p⟩
theorem allP1 {F : Hp} {P : SP} : ∀ {vs : List V}, AllP [P] vs F → ∃ v, vs = [v] ∧ P.P v F
  | [v], h => ⟨v, rfl, h.1⟩
  | [], h => h.elim
  | _ :: _ :: _, h => h.2.elim
theorem allP2 {F : Hp} {P P' : SP} : ∀ {vs : List V}, AllP [P, P'] vs F → ∃ v w, vs = [v, w] ∧ P.P v F ∧ P'.P w F
  | [v, w], h => ⟨v, w, rfl, h.1, h.2.1⟩
  | [], h => h.elim
  | [_], h => h.2.elim
  | _ :: _ :: _ :: _, h => h.2.2.elim
theorem rdc_len_l {K : PySem.W.Frag} {ds : List PyData} : RDC G (fun xs H Q => ∃ p ys, xs = [.ref p] ∧ (SqL K H p ys ∨ SqT K H p ys) ∧ Q (.int ys.length) H) [isD (.list ds)] (isI ds.length) := fun vs F H Q s t p q => by
  obtain ⟨v, rfl, p1⟩ := allP1 p
  obtain ⟨ad, xs, rfl, h1, d1⟩ := da_lst p1
  exact ⟨ad, xs, rfl, .inl (SqL.of (s _ _ h1)), q _ F H (Step.refl t s) (by rw [das_length d1]; exact .int _)⟩
theorem rdc_len_t {K : PySem.W.Frag} {ds : List PyData} : RDC G (fun xs H Q => ∃ p ys, xs = [.ref p] ∧ (SqL K H p ys ∨ SqT K H p ys) ∧ Q (.int ys.length) H) [isD (.tuple ds)] (isI ds.length) := fun vs F H Q s t p q => by
  obtain ⟨v, rfl, p1⟩ := allP1 p
  obtain ⟨ad, xs, rfl, h1, d1⟩ := da_tup p1
  exact ⟨ad, xs, rfl, .inr (h1.sq s), q _ F H (Step.refl t s) (by rw [das_length d1]; exact .int _)⟩
theorem je_lenL {ds : List PyData} {p : Pos} (hm : G.mg "len" = none) (ha : JE G k X L a (isD (.list ds))) (hg : Gl X "len" := by rfl) (he : starEach [a] X.env = (false, eval a X.env) :: starEach [] X.env := by rfl) : JE G k X L (.Call (.Name "len" p) [a] [] pos) (isI ds.length) :=
  je_callB (fun _ => call_len_seq) rdc_len_l hm PySem.boot_len (ja_cons ha ja_nil he) hg (by decide) (by decide) he
theorem je_lenT {ds : List PyData} {p : Pos} (hm : G.mg "len" = none) (ha : JE G k X L a (isD (.tuple ds))) (hg : Gl X "len" := by rfl) (he : starEach [a] X.env = (false, eval a X.env) :: starEach [] X.env := by rfl) : JE G k X L (.Call (.Name "len" p) [a] [] pos) (isI ds.length) :=
  je_callB (fun _ => call_len_seq) rdc_len_t hm PySem.boot_len (ja_cons ha ja_nil he) hg (by decide) (by decide) he
theorem je_listL {ds : List PyData} {p : Pos} (hm : G.mg "list" = none) (ha : JE G k X L a (isD (.list ds))) (hg : Gl X "list" := by rfl) (he : starEach [a] X.env = (false, eval a X.env) :: starEach [] X.env := by rfl) : JE G k X L (.Call (.Name "list" p) [a] [] pos) (isD (.list ds)) :=
  je_callTy (fun _ => call_list_of) (fun vs F H Q s t p q => by
    obtain ⟨v, rfl, p1⟩ := allP1 p
    obtain ⟨ad, xs, rfl, h1, d1⟩ := da_lst p1
    exact ⟨ad, xs, rfl, .inl (SqL.of (s _ _ h1)), fun l hl => by
      have st := Step.new (o := .lst xs) t s hl
      exact q _ _ _ st (.lst upd_same (keep_ds st.keep _ _ d1))⟩) hm (by decide +kernel) (ja_cons ha ja_nil he) hg (by decide) (by decide) he
theorem je_listT {ds : List PyData} {p : Pos} (hm : G.mg "list" = none) (ha : JE G k X L a (isD (.tuple ds))) (hg : Gl X "list" := by rfl) (he : starEach [a] X.env = (false, eval a X.env) :: starEach [] X.env := by rfl) : JE G k X L (.Call (.Name "list" p) [a] [] pos) (isD (.list ds)) :=
  je_callTy (fun _ => call_list_of) (fun vs F H Q s t p q => by
    obtain ⟨v, rfl, p1⟩ := allP1 p
    obtain ⟨ad, xs, rfl, h1, d1⟩ := da_tup p1
    exact ⟨ad, xs, rfl, .inr (h1.sq s), fun l hl => by
      have st := Step.new (o := .lst xs) t s hl
      exact q _ _ _ st (.lst upd_same (keep_ds st.keep _ _ d1))⟩) hm (by decide +kernel) (ja_cons ha ja_nil he) hg (by decide) (by decide) he
/-- tuple(list): the new tuple known to its object -/
theorem call_tupleZ : CallR X (.type "tuple") (fun xs H Q => ∃ p ys, xs = [V.ref p] ∧ SqL X.K H p ys ∧ ∀ l o, H l = none → o.dict = none → Q (.ref l) (upd H l (.frz o (.tup ys)))) := by
  intro pins s σ H xs us Q I r h
  obtain ⟨p, ys, rfl, hs, q⟩ := h
  have e := Vals.ref1 r
  subst e
  obtain ⟨its, rv, pl, hz⟩ := I.list hs
  have hl : its.toArray.size ≤ sizeLine := by rw [List.size_toArray, ← rv.length]; exact hz
  refine call_tuple_list (items := its.toArray) pl.isList (fun g kp => ?_) hl
  let o : Obj := { cls := .type "tuple", data := .seq its.toArray }
  have J : Inv X pins σ H { s with heap := g } := I.kept (t' := s.toks) kp
  have new : (g.push o).get? g.objs.size = some o := Heap.get?_push_size _ rfl
  have J2 : Inv X pins σ (upd H g.objs.size (.frz o (.tup ys))) { s with heap := g.push o } := J.laid (t' := s.toks) (fun b u e => Heap.get?_push_of_some _ e) (Nat.le_refl _) ⟨new, hz, its, rv, ⟨o, new, rfl, _, rfl⟩⟩
  exact ⟨.ref _, _, J2, rfl, q _ o (J.hok.fresh (Nat.le_refl _)) rfl⟩
theorem je_tupleL {ds : List PyData} {p : Pos} (hm : G.mg "tuple" = none) (ha : JE G k X L a (isD (.list ds))) (hg : Gl X "tuple" := by rfl) (he : starEach [a] X.env = (false, eval a X.env) :: starEach [] X.env := by rfl) : JE G k X L (.Call (.Name "tuple" p) [a] [] pos) (isD (.tuple ds)) :=
  je_callTy (fun _ => call_tupleZ) (fun vs F H Q s t p q => by
    obtain ⟨v, rfl, p1⟩ := allP1 p
    obtain ⟨ad, xs, rfl, h1, d1⟩ := da_lst p1
    exact ⟨ad, xs, rfl, SqL.of (s _ _ h1), fun l o hl ho => by
      obtain ⟨st, dd⟩ := Step.newTup t s hl ho d1
      exact q _ _ _ st dd⟩) hm (by decide +kernel) (ja_cons ha ja_nil he) hg (by decide) (by decide) he
theorem je_intI {i : Int} {p : Pos} (hm : G.mg "int" = none) (ha : JE G k X L a (isI i)) (hg : Gl X "int" := by rfl) (he : starEach [a] X.env = (false, eval a X.env) :: starEach [] X.env := by rfl) : JE G k X L (.Call (.Name "int" p) [a] [] pos) (isI i) :=
  je_callTy (fun _ => call_int1) (fun vs F H Q s t p q => by
    obtain ⟨v, rfl, p1⟩ := allP1 p
    exact .inl ⟨i, by rw [da_int p1], q _ F H (Step.refl t s) (.int i)⟩) hm (by decide +kernel) (ja_cons ha ja_nil he) hg (by decide) (by decide) he
theorem je_intB {i : Bool} {p : Pos} (hm : G.mg "int" = none) (ha : JE G k X L a (isB i)) (hg : Gl X "int" := by rfl) (he : starEach [a] X.env = (false, eval a X.env) :: starEach [] X.env := by rfl) : JE G k X L (.Call (.Name "int" p) [a] [] pos) (isI (if i then 1 else 0)) :=
  je_callTy (fun _ => call_int1) (fun vs F H Q s t p q => by
    obtain ⟨v, rfl, p1⟩ := allP1 p
    exact .inr ⟨i, by rw [da_bl p1], q _ F H (Step.refl t s) (.int _)⟩) hm (by decide +kernel) (ja_cons ha ja_nil he) hg (by decide) (by decide) he
theorem je_max2 {i j : Int} {p : Pos} (hm : G.mg "max" = none) (ha : JE G k X L a (isI i)) (hb : JE G k X L b (isI j)) (hg : Gl X "max" := by rfl) (he : starEach [a, b] X.env = (false, eval a X.env) :: starEach [b] X.env := by rfl) (he2 : starEach [b] X.env = (false, eval b X.env) :: starEach [] X.env := by rfl) (hpl : (backTo pos (starEach [b] X.env)).any (·.1) = false := by rfl) :
    JE G k X L (.Call (.Name "max" p) [a, b] [] pos) (isI (if j > i then j else i)) :=
  je_callB (fun C => call_max2 C.calm) (fun vs F H Q s t p q => by
    obtain ⟨v, w, rfl, p1, p2⟩ := allP2 p
    exact ⟨i, j, by rw [da_int p1, da_int p2], q _ F H (Step.refl t s) (.int _)⟩) hm (by decide +kernel) (ja_cons ha (ja_cons hb ja_nil he2) he) hg (by decide) (by decide) he hpl
theorem je_sum {ns : List Int} {p : Pos} (hm : G.mg "sum" = none) (ha : JE G k X L a (isD (.list (ns.map .int)))) (hg : Gl X "sum" := by rfl) (he : starEach [a] X.env = (false, eval a X.env) :: starEach [] X.env := by rfl) : JE G k X L (.Call (.Name "sum" p) [a] [] pos) (isI ns.sum) :=
  je_callB (fun C => cr_sum C.calm) (fun vs F H Q s t p q => by
    obtain ⟨v, rfl, p1⟩ := allP1 p
    obtain ⟨ad, xs, rfl, h1, d1⟩ := da_lst p1
    have e := das_ints d1
    subst e
    exact ⟨ad, ns, rfl, SqL.of (s _ _ h1), q _ F H (Step.refl t s) (.int _)⟩) hm (by decide +kernel) (ja_cons ha ja_nil he) hg (by decide) (by decide) he
/-- list(d) of a dict, locked or not -/
theorem call_list_dKR (hc : X.calm = true) : CallR X (.type "list") (fun xs H Q => ∃ p kvs, xs = [V.ref p] ∧ Rd H p (.dK kvs) ∧ ∀ q, H q = none → Q (.ref q) (upd H q (.lst (kvs.map fun kv => kV kv.1)))) := by
  intro pins s σ H xs us Q I r h
  obtain ⟨p, kvs, e, hk, q⟩ := h
  subst e
  obtain ⟨u, eu, rx⟩ := vals1 r
  subst eu
  obtain rfl : u = Value.ref p := rx
  obtain ⟨z, lo, vs, rk, hd⟩ := (show ObjOk X.prog X.w H s.heap p (.dK kvs) from hk.ok I.hok)
  obtain ⟨ep, hat⟩ := hd.dictAt
  have hl : kvs.length = vs.length := Paired.length rk
  refine PySem.W.kdl_call (PySem.W.kdl_dict (knd := mixKind X.prog X.w) (kvs := vs) (ep := ep) lo) (I.ok.hd hc) hat (by rw [← hl]; exact z) fun h' tk acc' c' hkeep hS hacc => ?_
  refine ⟨.ref s.heap.objs.size, upd H s.heap.objs.size (.lst (kvs.map fun kv => kV kv.1)), I.laid hkeep (Nat.le_refl _) (show ObjOk X.prog X.w _ _ _ (.lst (kvs.map fun kv => kV kv.1)) from ⟨?_, acc'.toList, c', ?_, ?_⟩), rfl, q _ (I.hok.fresh (Nat.le_refl _))⟩
  · rw [List.length_map]; exact z
  · have el : acc'.toList.length = acc'.size := by simp
    refine vals_of_at (by rw [List.length_map, el, hacc.1, hl]) fun j x w h1 h2 => ?_
    obtain ⟨k, y, hky, hi⟩ := hacc.2 j w (by rw [← Array.getElem?_toList]; exact h2)
    have e1 : (kvs.map (·.1))[j]? = some k := by
      rw [KV.keys rk, List.getElem?_map, hky] <;> rfl
    have e2 : (kvs.map fun kv => kV kv.1)[j]? = some (kV k) := by
      have e3 : (kvs.map fun kv => kV kv.1) = (kvs.map (·.1)).map kV := by rw [List.map_map] <;> rfl
      rw [e3, List.getElem?_map, e1] <;> rfl
    rw [e2] at h1
    cases h1
    exact keyIs_rel hi
  · rw [Array.toArray_toList]; exact hS
theorem das_keys {F : Hp} : ∀ ks : List Key, Das F (ks.map kV) (ks.map keyD)
  | [] => .nil
  | key :: ks => .cons (kV_da key) (das_keys ks)
theorem je_listD {kvs : List (Key × PyData)} {p : Pos} (hm : G.mg "list" = none) (ha : JE G k X L a (isDic kvs)) (hg : Gl X "list" := by rfl) (he : starEach [a] X.env = (false, eval a X.env) :: starEach [] X.env := by rfl) : JE G k X L (.Call (.Name "list" p) [a] [] pos) (isD (.list ((kvs.map (·.1)).map keyD))) :=
  je_callTy (fun C => call_list_dKR C.calm) (fun vs F H Q s t p q => by
    obtain ⟨v, rfl, p1⟩ := allP1 p
    obtain ⟨ad, xs, rfl, rd, d1⟩ := p1
    refine ⟨ad, xs, rfl, s.rd rd, fun l hl => ?_⟩
    have st := Step.new (o := .lst (xs.map fun kv => kV kv.1)) t s hl
    have e3 : (xs.map fun kv => kV kv.1) = (xs.map (·.1)).map kV := by rw [List.map_map] <;> rfl
    refine q _ _ _ st (.lst upd_same ?_)
    rw [e3, d1.1]
    exact das_keys _) hm (by decide +kernel) (ja_cons ha ja_nil he) hg (by decide) (by decide) he
/-- isinstance(x, str) of flat data -/
def isStrD : PyData → Bool
  | .str _ => true
  | _ => false
theorem je_isStr {d : PyData} {p q : Pos} (hf : flatD d = true) (hm : G.mg "isinstance" = none) (hs : G.mg "str" = none) (ha : JE G k X L a (isD d)) (hg : Gl X "isinstance" := by rfl) (hgs : Gl X "str" := by rfl)
    (he : starEach [a, .Name "str" q] X.env = (false, eval a X.env) :: starEach [.Name "str" q] X.env := by rfl) (he2 : starEach [.Name "str" q] X.env = (false, eval (.Name "str" q) X.env) :: starEach [] X.env := by rfl) (hpl : (backTo pos (starEach [.Name "str" q] X.env)).any (·.1) = false := by rfl) :
    JE G k X L (.Call (.Name "isinstance" p) [a, .Name "str" q] [] pos) (isB (isStrD d)) := fun C => by
  have hS : JE G k X L (.Name "str" q) (isV (.ty "str")) := je_tC (pe_bltn (v := .ty "str") (u := .type "str") hgs (by rw [C.mg]; exact hs) (by decide +kernel) rfl) fun _ => rfl
  refine je_callB (fun _ => call_isi) (fun vs F H Q s t p q => ?_) hm (by decide +kernel) (ja_cons ha (ja_cons hS ja_nil he2) he) hg (by decide) (by decide) he hpl C
  obtain ⟨v, w, rfl, p1, p2⟩ := allP2 p
  cases (show w = V.ty "str" from p2)
  have fin := q (.bl (isStrD d)) F H (Step.refl t s) (.bl _)
  have p1' : Da F v d := p1
  cases p1' with
  | non => exact ⟨_, _, _, _, _, rfl, .ty "str", .base .non, kit_ty (show kitB _ "str" = some _ from by first | exact (by decide +kernel : kitB "NoneType" "str" = some false) | exact (by decide +kernel : kitB "bool" "str" = some false) | exact (by decide +kernel : kitB "int" "str" = some false) | exact (by decide +kernel : kitB "str" "str" = some true)), fin⟩
  | bl b => exact ⟨_, _, _, _, _, rfl, .ty "str", .base (.bl b), kit_ty (show kitB _ "str" = some _ from by first | exact (by decide +kernel : kitB "NoneType" "str" = some false) | exact (by decide +kernel : kitB "bool" "str" = some false) | exact (by decide +kernel : kitB "int" "str" = some false) | exact (by decide +kernel : kitB "str" "str" = some true)), fin⟩
  | int i => exact ⟨_, _, _, _, _, rfl, .ty "str", .base (.int i), kit_ty (show kitB _ "str" = some _ from by first | exact (by decide +kernel : kitB "NoneType" "str" = some false) | exact (by decide +kernel : kitB "bool" "str" = some false) | exact (by decide +kernel : kitB "int" "str" = some false) | exact (by decide +kernel : kitB "str" "str" = some true)), fin⟩
  | str i => exact ⟨_, _, _, _, _, rfl, .ty "str", .base (.str i), kit_ty (show kitB _ "str" = some _ from by first | exact (by decide +kernel : kitB "NoneType" "str" = some false) | exact (by decide +kernel : kitB "bool" "str" = some false) | exact (by decide +kernel : kitB "int" "str" = some false) | exact (by decide +kernel : kitB "str" "str" = some true)), fin⟩
  | lst _ _ => cases hf
  | tup _ _ => cases hf
end
end K27
/-! K27, fifth part: targets and comprehensions by slots. -/
namespace K27
open PySem L2 LamX
/-- the context of a def's body -/
abbrev defCx (G : Gc) (N : List Str) (qual : Str) (st : Stmt) (f : Addr) (cdv : Value) (A : Around) (outer : List Env) (s : Shared) (H : Hp) (E : XK) : Cx := (cxOf CX0 G.P G.w G.K G.mg G.base N qual (defScope st) f cdv A outer s H E).nox
theorem okc {G : Gc} {N : List Str} {qual : Str} {st : Stmt} {f : Addr} {cdv : Value} {A : Around} {outer : List Env} {s : Shared} {H : Hp} {E : XK} {scope : Scope} {own : List (Str × Nat)} (h : blkC N (defScope st) scope own = true) :
    blkC (defCx G N qual st f cdv A outer s H E).N (defCx G N qual st f cdv A outer s H E).env.scope scope own = true := h
theorem okb {G : Gc} {N : List Str} {qual : Str} {st : Stmt} {f : Addr} {cdv : Value} {A : Around} {outer : List Env} {s s' : Shared} {H H' : Hp} {E : XK} {scope scope1 : Scope} {own : List (Str × Nat)} {C : Addr} {cl : List (Str × Addr)} {fp : List Addr} (h : blkC N (relS scope1 (defScope st)) scope own = true) :
    blkC ((defCx G N qual st f cdv A outer s H E).blk s' H' scope1 (compEnvC scope1 cl C (defCx G N qual st f cdv A outer s H E).env) fp).N ((defCx G N qual st f cdv A outer s H E).blk s' H' scope1 (compEnvC scope1 cl C (defCx G N qual st f cdv A outer s H E).env) fp).env.scope scope own = true := h
/-! ### targets -/
def setsV : St → List Nat → List V → St
  | σ, i :: is, v :: vs => setsV (σ.set i (some v)) is vs
  | σ, _, _ => σ
def setsL : List Slot → List Nat → List SP → List Slot
  | L, i :: is, P :: Ps => setsL (L.set i (.p P)) is Ps
  | L, _, _ => L
theorem EnvOk.sets {F H : Hp} : ∀ {is : List Nat} {σ : St} {L : List Slot} {Ps : List SP} {vs : List V}, EnvOk F H σ L → AllP Ps vs F → EnvOk F H (setsV σ is vs) (setsL L is Ps)
  | [], _, _, _, _, E, _ => by simpa [setsV, setsL] using E
  | i :: is, σ, L, [], [], E, _ => by simpa [setsV, setsL] using E
  | i :: is, σ, L, P :: Ps, v :: vs, E, h => by
    show EnvOk F H (setsV (σ.set i (some v)) is vs) (setsL (L.set i (.p P)) is Ps)
    exact EnvOk.sets (E.set h.1) h.2
  | i :: is, _, _, [], _ :: _, _, h => h.elim
  | i :: is, _, _, _ :: _, [], _, h => h.elim
theorem OwnNew.sets {H0 : Hp} : ∀ {is : List Nat} {σ : St} {L : List Slot} {Ps : List SP} {vs : List V}, Ps.length = vs.length → OwnNew H0 σ L → OwnNew H0 (setsV σ is vs) (setsL L is Ps)
  | [], _, _, _, _, _, E => by simpa [setsV, setsL] using E
  | i :: is, σ, L, [], [], _, E => by simpa [setsV, setsL] using E
  | i :: is, σ, L, P :: Ps, v :: vs, l, E => by
    show OwnNew H0 (setsV (σ.set i (some v)) is vs) (setsL (L.set i (.p P)) is Ps)
    exact OwnNew.sets (by simpa using l) E.set
  | i :: is, _, _, [], _ :: _, l, _ => by simp at l
  | i :: is, _, _, _ :: _, [], l, _ => by simp at l
theorem setsV_length : ∀ {is : List Nat} {σ : St} {vs : List V}, (setsV σ is vs).length = σ.length
  | [], _, _ => by simp [setsV]
  | i :: is, σ, [] => by simp [setsV]
  | i :: is, σ, v :: vs => by
    show (setsV (σ.set i (some v)) is vs).length = _
    rw [setsV_length, List.length_set]
theorem setsV_other : ∀ {is : List Nat} {σ : St} {vs : List V} {j : Nat}, j ∉ is → (setsV σ is vs)[j]? = σ[j]?
  | [], _, _, _, _ => by simp [setsV]
  | i :: is, σ, [], _, _ => by simp [setsV]
  | i :: is, σ, v :: vs, j, h => by
    show (setsV (σ.set i (some v)) is vs)[j]? = _
    rw [setsV_other (fun z => h (List.mem_cons_of_mem _ z)), List.getElem?_set_ne (fun z => h (by rw [z]; exact List.mem_cons_self))]
theorem wipe_get {σ : St} : ∀ {vs : List Nat} {j : Nat}, (wipe σ vs)[j]? = if j ∈ vs then (if j < σ.length then some none else none) else σ[j]?
  | [], j => by simp [wipe]
  | v :: vs, j => by
    show ((wipe σ vs).set v none)[j]? = _
    by_cases hj : v = j
    · subst hj
      rw [List.getElem?_set_self']
      by_cases hl : v < σ.length
      · rw [List.getElem?_eq_getElem (by rw [wipe_length]; exact hl)]; simp [hl]
      · rw [List.getElem?_eq_none (by rw [wipe_length]; omega)]; simp [hl]
    · rw [List.getElem?_set_ne hj, wipe_get]
      have : (j ∈ v :: vs) ↔ j ∈ vs := by simp [List.mem_cons, Ne.symm hj]
      simp only [this]
theorem wipe_sets {σ : St} {is : List Nat} {vs : List Nat} {xs : List V} (h : ∀ i ∈ is, i ∈ vs) : wipe (setsV (wipe σ vs) is xs) vs = wipe σ vs := by
  apply List.ext_getElem?
  intro j
  rw [wipe_get, wipe_get, setsV_length, wipe_length]
  by_cases hj : j ∈ vs
  · simp [hj]
  · rw [if_neg hj, if_neg hj, setsV_other (fun z => hj (h j z)), wipe_get, if_neg hj]
section
variable {G : Gc} {k : Nat} {X : Cx} {L : List Slot} {a b c e : Expr} {es : List Expr} {pos : Pos}
def tG (P : SP) (is : List Nat) (Ps : List SP) : TG := fun v σ H Q => ∃ F, Sub F H ∧ P.P v F ∧ ∀ vs, AllP Ps vs F → Q (setsV σ is vs) H
def JG (G : Gc) (k : Nat) (X : Cx) (tg : Expr) (P : SP) (is : List Nat) (Ps : List SP) : Prop := CxOk G k X → PG X tg (tG P is Ps)
def tGs (is : List Nat) : TGs := fun vs σ H Q => vs.length = is.length ∧ Q (setsV σ is vs) H
def JGs (G : Gc) (k : Nat) (X : Cx) (ts : List Expr) (is : List Nat) : Prop := CxOk G k X → PGs X ts (tGs is)
theorem _root_.L2.PG.imp {tg : Expr} {t u : TG} (h : PG X tg t) (i : ∀ v σ H Q, u v σ H Q → t v σ H Q) : PG X tg u := ⟨fun pins s σ H v w Q I r q => h.run pins s σ H v w Q I r (i v σ H Q q)⟩
theorem _root_.L2.PGs.imp {tg : List Expr} {t u : TGs} (h : PGs X tg t) (i : ∀ v σ H Q, u v σ H Q → t v σ H Q) : PGs X tg u := ⟨fun pins s σ H v w Q I r q => h.run pins s σ H v w Q I r (i v σ H Q q)⟩
theorem jg_name (i : Nat) {x : Str} {P : SP} (hi : X.N[i]? = some x := by rfl) (hx : Loc X.env.scope x := by first | exact Or.inl rfl | exact Or.inr rfl) (hf : X.fn x = true ∨ X.env.scope.names.lookup x = some .local := by first | exact .inl rfl | exact .inr rfl) : JG G k X (.Name x pos) P [i] [P] :=
  fun C => (pg_name C.nd hi hx hf).imp fun v σ H Q ⟨F, s, p, q⟩ => q [v] ⟨p, trivial⟩
theorem jgs_nil : JGs G k X [] [] := fun C => pgs_nil.imp fun vs σ H Q ⟨l, q⟩ => ⟨List.eq_nil_of_length_eq_zero l, by
  rw [List.eq_nil_of_length_eq_zero l] at q
  exact q⟩
theorem jgs_name (i : Nat) {x : Str} {is : List Nat} {ts : List Expr} (h : JGs G k X ts is) (hi : X.N[i]? = some x := by rfl) (hx : Loc X.env.scope x := by first | exact Or.inl rfl | exact Or.inr rfl) (hf : X.fn x = true ∨ X.env.scope.names.lookup x = some .local := by first | exact .inl rfl | exact .inr rfl)
    (hs : (assignEach (.Name x pos :: ts) X.env).map (·.2) = assign (.Name x pos) X.env :: (assignEach ts X.env).map (·.2) := by rfl) : JGs G k X (.Name x pos :: ts) (i :: is) :=
  fun C => (pgs_cons (pg_name C.nd hi hx hf) (h C) hs).imp fun vs σ H Q ⟨l, q⟩ => by
    cases vs with
    | nil => simp at l
    | cons v vs => exact ⟨v, vs, rfl, by simpa using l, q⟩
theorem jg_tup {es : List Expr} {kk : Nat} {is : List Nat} {Ps : List SP} (h : JGs G k X es is) (hl : Ps.length = is.length := by rfl) (hn : (assignEach es X.env).length = is.length := by rfl) (hst : (assignEach es X.env).findIdx? (·.1) = none := by rfl) : JG G k X (.Tuple es kk pos) (isTupP Ps) is Ps :=
  fun C => (pg_tup C.calm (h C) hn hst).imp fun v σ H Q ⟨F, s, p, q⟩ => by
    obtain ⟨ad, xs, rfl, h1, h2⟩ := p
    have hx := allP_length h2
    exact ⟨ad, xs, rfl, h1.sq s, by rw [hx, hl], by rw [hx, hl], q xs h2⟩
theorem JG.of {tg : Expr} {P P' : SP} {is : List Nat} {Ps : List SP} (h : JG G k X tg P is Ps) (i : ∀ v F, P'.P v F → P.P v F) : JG G k X tg P' is Ps := fun C => (h C).imp fun v σ H Q ⟨F, s, p, q⟩ => ⟨F, s, i v F p, q⟩

/-! ### comprehensions -/
/-- the block's slots: its own names forgotten, then the target's -/
abbrev blkL (L : List Slot) (own : List (Str × Nat)) (is : List Nat) (Ps : List SP) : List Slot := setsL (wipeL L (own.map (·.2))) is Ps
/-- what a comprehension's block is to show of the item x -/
structure Blk (G : Gc) (k : Nat) (X : Cx) (L : List Slot) (own : List (Str × Nat)) (scope : Scope) (tg : Expr) (ifs : List Expr) (elt : Expr) {α : Type} (xs : List α) (P : α → SP) (is : List Nat) (Ps : α → List SP) (f : α → Bool) (y : α → PyData) : Prop where
  inn : ∀ i ∈ is, i ∈ own.map (·.2)
  tg : ∀ (x : α), x ∈ xs → ∀ (s : Shared) (H : Hp) (C : Addr) (cl : List (Str × Addr)) (fp : List Addr), JG G k (X.blk s H scope (compEnvC scope cl C X.env) fp) tg (P x) is (Ps x)
  test : ∀ (x : α), x ∈ xs → ∀ (s : Shared) (H : Hp) (C : Addr) (cl : List (Str × Addr)) (fp : List Addr), CxOk G k (X.blk s H scope (compEnvC scope cl C X.env) fp) → PTs (X.blk s H scope (compEnvC scope cl C X.env) fp) ifs (tPT G.T (blkL L own is (Ps x)) (f x))
  elt : ∀ (x : α), x ∈ xs → f x = true → ∀ (s : Shared) (H : Hp) (C : Addr) (cl : List (Str × Addr)) (fp : List Addr), JE G k (X.blk s H scope (compEnvC scope cl C X.env) fp) (blkL L own is (Ps x)) elt (isD (y x))
def gAll {α : Type} (xs : List α) (g : α → TG) : TG := fun v σ H Q => ∃ x, x ∈ xs ∧ g x v σ H Q
def ttAll {α : Type} (xs : List α) (g : α → TT) : TT := fun σ H Q => ∃ x, x ∈ xs ∧ g x σ H Q
def teAll {α : Type} (xs : List α) (f : α → Bool) (g : α → TE) : TE := fun σ H Q => ∃ x, x ∈ xs ∧ f x = true ∧ g x σ H Q
theorem pg_all {α : Type} {xs : List α} {g : α → TG} {tg : Expr} (h : ∀ x, x ∈ xs → PG X tg (g x)) : PG X tg (gAll xs g) := ⟨fun pins s σ H v u Q I r ⟨x, hx, q⟩ => (h x hx).run pins s σ H v u Q I r q⟩
theorem pts_all {α : Type} {xs : List α} {g : α → TT} {ifs : List Expr} (h : ∀ x, x ∈ xs → PTs X ifs (g x)) : PTs X ifs (ttAll xs g) := ⟨fun pins s σ H Q I ⟨x, hx, q⟩ => (h x hx).run pins s σ H Q I q⟩
theorem pe_all {α : Type} {xs : List α} {f : α → Bool} {g : α → TE} {e : Expr} (h : ∀ x, x ∈ xs → f x = true → PE X e (g x)) : PE X e (teAll xs f g) := ⟨fun pins s σ H Q I ⟨x, hx, hf, q⟩ => (h x hx hf).run pins s σ H Q I q⟩
theorem filter_take_succ {α : Type} {xs : List α} {f : α → Bool} {i : Nat} {x : α} (h : xs[i]? = some x) : (xs.take (i + 1)).filter f = (xs.take i).filter f ++ if f x = true then [x] else [] := by
  rw [List.take_add_one, h]
  simp [List.filter_append, List.filter_cons]
/-- an object that was not there ahead may be written -/
theorem EnvOk.updNew {F0 H0 F H : Hp} {σ : L2.St} {D : Addr} {o : HO} (E : EnvOk F H σ L) (E0 : EnvOk F0 H0 σ L) (hD : H0 D = none) : EnvOk F (upd H D o) σ L := by
  refine ⟨E.len, fun j s hj => ?_, E.dist⟩
  have q := E.at_ j s hj
  have q0 := E0.at_ j s hj
  cases s with
  | no => trivial
  | p P => exact q
  | acc ds =>
    obtain ⟨ad, us, e1, e2, e3, e4⟩ := q
    obtain ⟨ad0, us0, f1, f2, f3, f4⟩ := q0
    rw [e1] at f1
    cases f1
    exact ⟨ad, us, e1, e2, by rw [upd_ne (ne_of_none f3 hD)]; exact e3, e4⟩
  | accd ds =>
    obtain ⟨ad, us, e1, e2, e3, e4⟩ := q
    obtain ⟨ad0, us0, f1, f2, f3, f4⟩ := q0
    rw [e1] at f1
    cases f1
    exact ⟨ad, us, e1, e2, by rw [upd_ne (ne_of_none f3 hD)]; exact e3, e4⟩
theorem Step.updNew {T : List (Addr × Str)} {F0 H0 F H : Hp} {D : Addr} {o : HO} (st : Step T F0 H0 F H) (hF : F D = none) (hD : H0 D = none) : Step T F0 H0 F (upd H D o) :=
  ⟨st.keep, st.str, st.tab, st.sub.own hF _, fun b u hb nb => let ⟨q1, q2⟩ := st.own b u hb nb; ⟨by rw [upd_ne (ne_of_none hb hD)]; exact q1, q2⟩⟩
/-- the new list at D while the comprehension runs -/
def LcAt (G : Gc) (F0 H0 : Hp) (σ : L2.St) (L : List Slot) (D : Addr) (ys : List PyData) (H : Hp) : Prop := ∃ F vs, Step G.T F0 H0 F H ∧ EnvOk F H σ L ∧ F D = none ∧ H D = some (.lst vs) ∧ Das F vs ys
theorem lc_turn {α : Type} {own : List (Str × Nat)} {xs : List α} {P : α → SP} {is : List Nat} {Ps : α → List SP} {f : α → Bool} {y : α → PyData} {F0 H0 F : Hp} {σ : L2.St} {D : Addr} {v : V} {vs : List V} {H : Hp} {i : Nat} {x : α} {Nx : Hp → Prop}
    (ho : ∀ i ∈ is, i ∈ own.map (·.2)) (hx : xs[i]? = some x) (hlen : xs.length ≤ 100000) (E0 : EnvOk F0 H0 σ L) (hD0 : H0 D = none) (st : Step G.T F0 H0 F H) (E : EnvOk F H σ L) (fD : F D = none) (hD : H D = some (.lst vs)) (dv : Das F vs (((xs.take i).filter f).map y)) (pv : (P x).P v F)
    (nx : ∀ H', LcAt G F0 H0 σ L D (((xs.take (i + 1)).filter f).map y) H' → Nx H') :
    gAll xs (fun x => tG (P x) is (Ps x)) v (wipe σ (own.map (·.2))) H fun σ2 H2 => wipe σ2 (own.map (·.2)) = wipe σ (own.map (·.2)) ∧ ttAll xs (fun x => tPT G.T (blkL L own is (Ps x)) (f x)) σ2 H2 fun b H3 =>
      if b = true then teAll xs f (fun x => tP G.T (blkL L own is (Ps x)) (isD (y x))) σ2 H3 fun w H4 => ∃ acc, H4 D = some (.lst acc) ∧ acc.length < sizeLine ∧ Nx (upd H4 D (.lst (acc ++ [w]))) else Nx H3 := by
  have hm : x ∈ xs := List.mem_of_getElem? hx
  refine ⟨x, hm, F, st.sub, pv, fun ws hws => ⟨wipe_sets ho, x, hm, F, st.sub, st.tab, (E.wipe _).sets hws, fun F1 H1 st1 => ?_⟩⟩
  obtain ⟨hD1, fD1⟩ := st1.own D _ hD fD
  by_cases hf : f x = true
  · rw [if_pos hf]
    refine ⟨x, hm, hf, F1, st1.sub, st1.tab, ((E.wipe _).sets hws).step st1, fun w F2 H2 st2 p2 => ?_⟩
    obtain ⟨hD2, fD2⟩ := st2.own D _ hD1 fD1
    refine ⟨vs, hD2, ?_, nx _ ⟨F2, vs ++ [w], ((st.trans st1).trans st2).updNew fD2 hD0, ((E.step st1).step st2).updNew E0 hD0, fD2, upd_same, ?_⟩⟩
    · have h1 := das_length dv
      rw [List.length_map] at h1
      have h2 : ((xs.take i).filter f).length ≤ (xs.take i).length := List.length_filter_le _ _
      have h3 : (xs.take i).length ≤ xs.length := by rw [List.length_take]; omega
      have : vs.length ≤ 100000 := by omega
      exact Nat.lt_of_le_of_lt this (by decide)
    · have e1 : ((xs.take (i + 1)).filter f).map y = ((xs.take i).filter f).map y ++ [y x] := by rw [filter_take_succ hx, if_pos hf]; simp
      rw [e1]
      exact das_app (keep_ds (st1.trans st2).keep _ _ dv) (.cons p2 .nil)
  · rw [if_neg hf]
    have e1 : ((xs.take (i + 1)).filter f).map y = ((xs.take i).filter f).map y := by rw [filter_take_succ hx, if_neg hf]; simp
    refine nx _ ⟨F1, vs, st.trans st1, E.step st1, fD1, hD1, ?_⟩
    rw [e1]
    exact keep_ds st1.keep _ _ dv
/-- the finished list goes to the frame -/
theorem lc_done {F0 H0 H : Hp} {σ : L2.St} {D : Addr} {ys : List PyData} {Q : VK} (hD0 : H0 D = none) (h : LcAt G F0 H0 σ L D ys H) (q : ∀ v F' H', Step G.T F0 H0 F' H' → Da F' v (.list ys) → Q v H') : Q (.ref D) H := by
  obtain ⟨F, vs, st, E, fD, hD, dv⟩ := h
  have kp : Keep F (upd F D (.lst vs)) := Keep.new fD
  refine q (.ref D) (upd F D (.lst vs)) H ⟨st.keep.trans kp, fun b u e n => (show upd F D (.lst vs) b = some u from by rw [upd_ne (ne_of_none (st.str b u e n) fD)]; exact st.str b u e n), st.tab.ext fun b u e => ?_, fun b u e => ?_, fun b u hb nb => ?_⟩ (.lst upd_same (keep_ds kp _ _ dv))
  · rw [upd_ne (ne_of_none e fD)]; exact e
  · by_cases hb : b = D
    · subst hb; rw [upd_same] at e; rw [← e]; exact hD
    · rw [upd_ne hb] at e; exact st.sub b u e
  · obtain ⟨q1, q2⟩ := st.own b u hb nb
    exact ⟨q1, by rw [upd_ne (ne_of_none hb hD0)]; exact q2⟩
theorem lc_begin {F0 H0 F H : Hp} {σ : L2.St} {D : Addr} {ys : List PyData} (E0 : EnvOk F0 H0 σ L) (st : Step G.T F0 H0 F H) (E : EnvOk F H σ L) (hD : H D = none) (h0 : H0 D = none) : LcAt G F0 H0 σ L D [] (upd H D (.lst [])) :=
  ⟨F, [], st.updNew (st.sub.no hD) h0, E.updNew E0 h0, st.sub.no hD, upd_same, .nil⟩
section
variable {α : Type} {xs : List α} {P : α → SP} {own : List (Str × Nat)} {scope : Scope} {tg iter elt : Expr} {ifs : List Expr} {is : List Nat} {Ps : α → List SP} {f : α → Bool} {y : α → PyData} {Ps' : Key → List SP} {f' : Key → Bool} {y' : Key → PyData}
/-- the rule of a comprehension, whatever is walked -/
theorem pe_lcB {wi : TI} (C : CxOk G k X) (hi : PI X tg iter wi) (ok : BlkOk X.N X.env.scope scope own) (B : Blk G k X L own scope tg ifs elt xs P is Ps f y) (hs : ∀ x, foldedSetIterable iter X.env x = pure x) :
    PE X (.ListComp elt [⟨tg, iter, ifs, 0⟩] scope pos) (tLc wi (gAll xs fun x => tG (P x) is (Ps x)) (ttAll xs fun x => tPT G.T (blkL L own is (Ps x)) (f x)) (teAll xs f fun x => tP G.T (blkL L own is (Ps x)) (isD (y x))) (own.map (·.2))) :=
  pe_lc C.calm C.nd hi ok (fun s H Ca cl fp => pg_all fun x hx => B.tg x hx s H Ca cl fp (C.blk s H scope _ fp)) (fun s H Ca cl fp => pts_all fun x hx => B.test x hx s H Ca cl fp (C.blk s H scope _ fp))
    (fun s H Ca cl fp => pe_all fun x hx hf => B.elt x hx hf s H Ca cl fp (C.blk s H scope _ fp)) hs
theorem je_lcT (hi : JE G k X L iter (isTupP (xs.map P))) (B : Blk G k X L own scope tg ifs elt xs P is Ps f y) (hlen : xs.length ≤ 100000) (ok : blkC X.N X.env.scope scope own = true := by first | exact okc (by decide +kernel) | exact okb (by decide +kernel))  (hs : ∀ x, foldedSetIterable iter X.env x = pure x := by intro _; rfl) :
    JE G k X L (.ListComp elt [⟨tg, iter, ifs, 0⟩] scope pos) (isD (.list ((xs.filter f).map y))) := fun C =>
  (pe_lcB C (pi_tup (hi C)) (blkOk_by ok) B hs).imp fun σ H Q ⟨F, s, t, E, q⟩ => ⟨F, s, t, E, fun v F1 H1 st1 p1 => by
    obtain ⟨ad, vs, rfl, h1, h2⟩ := p1
    refine ⟨ad, rfl, ⟨vs, h1.sq st1.sub⟩, fun D hD => ?_⟩
    have hD0 : H D = none := st1.there s hD
    have E1 := E.step st1
    have hvl : vs.length = xs.length := by rw [allP_length h2, List.length_map]
    refine lc_tup (K := X.K) (a := ad) (xs := vs) (fun i H' => LcAt G F1 H1 σ L D (((xs.take i).filter f).map y) H') (by simpa using lc_begin (ys := []) E1 (Step.refl st1.tab st1.sub) E1 hD hD) (fun i H' _ ⟨F', vs', st', _⟩ => (h1.keep st'.keep).sq st'.sub) ?_ ?_
    · rintro i u H' hu ⟨F', vs', st', E', fD, hD', dv⟩
      obtain ⟨Pu, hPu, pu⟩ := allP_getV h2 hu
      rw [List.getElem?_map] at hPu
      cases hx : xs[i]? with
      | none => rw [hx] at hPu; cases hPu
      | some x =>
        rw [hx] at hPu
        cases hPu
        exact lc_turn B.inn hx hlen E1 hD st' E' fD hD' dv ((P x).st st'.keep pu) fun _ h => h
    · intro H' h
      rw [hvl, List.take_length] at h
      exact lc_done hD h fun v F' H' st' p => q v F' H' (st1.trans st') p⟩
theorem je_lcL (hi : JE G k X L iter (isLstP (xs.map P))) (B : Blk G k X L own scope tg ifs elt xs P is Ps f y) (hlen : xs.length ≤ 100000) (ok : blkC X.N X.env.scope scope own = true := by first | exact okc (by decide +kernel) | exact okb (by decide +kernel))  (hs : ∀ x, foldedSetIterable iter X.env x = pure x := by intro _; rfl) :
    JE G k X L (.ListComp elt [⟨tg, iter, ifs, 0⟩] scope pos) (isD (.list ((xs.filter f).map y))) := fun C =>
  (pe_lcB C (pi_list (hi C)) (blkOk_by ok) B hs).imp fun σ H Q ⟨F, s, t, E, q⟩ => ⟨F, s, t, E, fun v F1 H1 st1 p1 => by
    obtain ⟨ad, vs, rfl, h1, h2⟩ := p1
    refine ⟨ad, rfl, ⟨vs, SqL.of (st1.sub _ _ h1)⟩, fun D hD => ?_⟩
    have hD0 : H D = none := st1.there s hD
    have E1 := E.step st1
    have hvl : vs.length = xs.length := by rw [allP_length h2, List.length_map]
    refine lc_list (K := X.K) (a := ad) (xs := vs) (fun i H' => LcAt G F1 H1 σ L D (((xs.take i).filter f).map y) H') (by simpa using lc_begin (ys := []) E1 (Step.refl st1.tab st1.sub) E1 hD hD) (fun i H' _ ⟨F', vs', st', _⟩ => SqL.of (st'.sub _ _ (st'.keep.obj _ _ h1 trivial))) ?_ ?_
    · rintro i u H' hu ⟨F', vs', st', E', fD, hD', dv⟩
      obtain ⟨Pu, hPu, pu⟩ := allP_getV h2 hu
      rw [List.getElem?_map] at hPu
      cases hx : xs[i]? with
      | none => rw [hx] at hPu; cases hPu
      | some x =>
        rw [hx] at hPu
        cases hPu
        exact lc_turn B.inn hx hlen E1 hD st' E' fD hD' dv ((P x).st st'.keep pu) fun _ h => h
    · intro H' h
      rw [hvl, List.take_length] at h
      exact lc_done hD h fun v F' H' st' p => q v F' H' (st1.trans st') p⟩
/-! ### over the keys of a dict -/
theorem tabs_but {T : List (Addr × Str)} {F F' : Hp} (t : Tabs T F) {d : Addr} {u : HO} (hd : F d = some u) (h1 : ∀ ps, u ≠ .tbl ps) (h2 : ∀ c q, u ≠ CodeO c q) (h : ∀ b, b ≠ d → F' b = F b) : Tabs T F' := fun p hp => by
  obtain ⟨ps, e1, e2, e3⟩ := t p hp
  have n1 : p.1 ≠ d := fun z => by rw [z, hd] at e1; exact h1 ps (Option.some.inj e1)
  refine ⟨ps, by rw [h _ n1]; exact e1, e2, fun pos cv hc => ?_⟩
  obtain ⟨c, e4, e5⟩ := e3 pos cv hc
  have n2 : c ≠ d := fun z => by rw [z, hd] at e5; exact h2 d p.2 (Option.some.inj e5)
  exact ⟨c, e4, by rw [h _ n2]; exact e5⟩
/-- a dict of the frame is locked -/
theorem Step.lock {T : List (Addr × Str)} {F H : Hp} {d : Addr} {od : Obj} {ks : List (Key × V)} (t : Tabs T F) (s : Sub F H) (hd : F d = some (.dK ks)) : Keep F (upd F d (.frz od (.dK ks))) ∧ Tabs T (upd F d (.frz od (.dK ks))) ∧ Sub (upd F d (.frz od (.dK ks))) (upd H d (.frz od (.dK ks))) := by
  refine ⟨⟨fun b o e p => ?_, fun b k e => ?_, fun b o e => ?_⟩, tabs_but t hd (fun _ z => nomatch z) (fun _ _ z => nomatch z) fun b hb => upd_ne hb, s.upd d _⟩
  · have hb : b ≠ d := fun z => by rw [z, hd] at e; cases e; exact p
    rw [upd_ne hb]; exact e
  · by_cases hb : b = d
    · subst hb
      rcases e with e | ⟨o, e⟩
      · rw [hd] at e; cases e; exact .inr ⟨od, upd_same⟩
      · rw [hd] at e; cases e
    · rcases e with e | ⟨o, e⟩
      · exact .inl (by rw [upd_ne hb]; exact e)
      · exact .inr ⟨o, by rw [upd_ne hb]; exact e⟩
  · by_cases hb : b = d
    · subst hb; exact ⟨_, upd_same⟩
    · exact ⟨o, by rw [upd_ne hb]; exact e⟩
/-- .. and unlocked -/
theorem Keep.unlock {F : Hp} {d : Addr} {od : Obj} {ks : List (Key × V)} (hd : F d = some (.frz od (.dK ks))) : Keep F (upd F d (.dK ks)) := by
  refine ⟨fun b o e p => ?_, fun b k e => ?_, fun b o e => ?_⟩
  · have hb : b ≠ d := fun z => by rw [z, hd] at e; cases e; exact p
    rw [upd_ne hb]; exact e
  · by_cases hb : b = d
    · subst hb
      rcases e with e | ⟨o, e⟩
      · rw [hd] at e; cases e
      · rw [hd] at e; cases e; exact .inl upd_same
    · rcases e with e | ⟨o, e⟩
      · exact .inl (by rw [upd_ne hb]; exact e)
      · exact .inr ⟨o, by rw [upd_ne hb]; exact e⟩
  · by_cases hb : b = d
    · subst hb; exact ⟨_, upd_same⟩
    · exact ⟨o, by rw [upd_ne hb]; exact e⟩
/-- what is done while a dict is locked is a step, seen from outside -/
theorem Step.unlocked {T : List (Addr × Str)} {F H F' H' : Hp} {d : Addr} {od : Obj} {ks : List (Key × V)} (s : Sub F H) (hd : F d = some (.dK ks)) (st : Step T (upd F d (.frz od (.dK ks))) (upd H d (.frz od (.dK ks))) F' H') :
    F' d = some (.frz od (.dK ks)) ∧ H' d = some (.frz od (.dK ks)) ∧ Keep F' (upd F' d (.dK ks)) ∧ Step T F H (upd F' d (.dK ks)) (upd H' d (.dK ks)) := by
  have h1 : F' d = some (.frz od (.dK ks)) := st.str d _ upd_same fun _ z => nomatch z
  have h2 := st.sub _ _ h1
  refine ⟨h1, h2, Keep.unlock h1, ⟨⟨fun b o e p => ?_, fun b k e => ?_, fun b o e => ?_⟩, fun b o e n => ?_, tabs_but st.tab h1 (fun _ z => nomatch z) (fun _ _ z => nomatch z) fun b hb => upd_ne hb, st.sub.upd d _, fun b o e n => ?_⟩⟩
  · have hb : b ≠ d := fun z => by rw [z, hd] at e; cases e; exact p
    rw [upd_ne hb]; exact st.keep.obj b o (by rw [upd_ne hb]; exact e) p
  · by_cases hb : b = d
    · subst hb
      rcases e with e | ⟨o, e⟩
      · rw [hd] at e; cases e; exact .inl upd_same
      · rw [hd] at e; cases e
    · have := st.keep.dic b k (by
        rcases e with e | ⟨o, e⟩
        · exact .inl (by rw [upd_ne hb]; exact e)
        · exact .inr ⟨o, by rw [upd_ne hb]; exact e⟩)
      rcases this with e | ⟨o, e⟩
      · exact .inl (by rw [upd_ne hb]; exact e)
      · exact .inr ⟨o, by rw [upd_ne hb]; exact e⟩
  · by_cases hb : b = d
    · subst hb; exact ⟨_, upd_same⟩
    · rw [upd_ne hb]; exact st.keep.there b o (by rw [upd_ne hb]; exact e)
  · by_cases hb : b = d
    · subst hb; rw [hd] at e; cases e; exact upd_same
    · rw [upd_ne hb]; exact st.str b o (by rw [upd_ne hb]; exact e) n
  · have hb : b ≠ d := fun z => by rw [z, hd] at n; cases n
    rw [upd_ne hb, upd_ne hb]
    exact st.own b o (by rw [upd_ne hb]; exact e) (by rw [upd_ne hb]; exact n)
/-- a comprehension over the keys of a locked dict -/
theorem lc_keys {d : Addr} {o : Obj} {kvs : List (Key × V)} {g : TG} {tt : TT} {te : TE} {vs : List Nat} {σ : L2.St} {H1 : Hp} {D : Addr} {Qd : Hp → Prop} (Pv : Nat → Hp → Prop) (h0 : Pv 0 (upd H1 D (.lst []))) (hl : ∀ i H, i ≤ kvs.length → Pv i H → H d = some (.frz o (.dK kvs)))
    (hs : ∀ i key H, (kvs.map (·.1))[i]? = some key → Pv i H → g (kV key) (wipe σ vs) H fun σ2 H2 => wipe σ2 vs = wipe σ vs ∧ tt σ2 H2 fun b H3 =>
      if b = true then te σ2 H3 fun y H4 => ∃ acc, H4 D = some (.lst acc) ∧ acc.length < sizeLine ∧ Pv (i + 1) (upd H4 D (.lst (acc ++ [y]))) else Pv (i + 1) H3) (hd : ∀ H, Pv kvs.length H → Qd H) :
    ∃ W : Nat → Nat → Hp → Prop, (∃ m, W 0 m (upd H1 D (.lst []))) ∧ ∀ i m H, W i m H →
      ((Itk d o kvs).stop i H ∧ Qd H) ∨ ((Itk d o kvs).go i H ∧ ∃ Nx : Hp → Prop, (∀ H', Nx H' → ∃ m', m' < m ∧ W (i + 1) m' H') ∧ ∀ x H', (Itk d o kvs).yld i H x H' → g x (wipe σ vs) H' fun σ2 H2 => wipe σ2 vs = wipe σ vs ∧ tt σ2 H2 fun b H3 =>
        if b = true then te σ2 H3 fun y H4 => ∃ acc, H4 D = some (.lst acc) ∧ acc.length < sizeLine ∧ Nx (upd H4 D (.lst (acc ++ [y]))) else Nx H3) := by
  refine ⟨fun i m H => m = kvs.length - i ∧ i ≤ kvs.length ∧ Pv i H, ⟨kvs.length, by simp, Nat.zero_le _, h0⟩, ?_⟩
  rintro i m H ⟨rfl, hi, p⟩
  have q := hl i H hi p
  by_cases hlt : i < kvs.length
  · refine .inr ⟨⟨q, hlt⟩, Pv (i + 1), fun H' p' => ⟨kvs.length - (i + 1), by omega, rfl, hlt, p'⟩, fun x H' y => ?_⟩
    obtain ⟨e, key, v, hk, ex⟩ := y
    subst e ex
    exact hs i key _ (by rw [List.getElem?_map, hk]; rfl) p
  · have e : i = kvs.length := by omega
    subst e
    exact .inl ⟨⟨q, Nat.le_refl _⟩, hd H p⟩
theorem je_lcK (j : Nat) {kvs : List (Key × PyData)} {x : Str} {px : Pos} (hj : L[j]? = some (.p (isDic kvs))) (B : Blk G k X L own scope tg (ifs) elt (kvs.map (·.1)) (fun key => isD (keyD key)) is Ps' f' y') (hlen : kvs.length ≤ 100000) (hN : X.N[j]? = some x := by rfl)
    (hv : Vis X.env.scope x := by first | exact Or.inl rfl | exact Or.inr (Or.inl rfl) | exact Or.inr (Or.inr rfl)) (ok : blkC X.N X.env.scope scope own = true := by first | exact okc (by decide +kernel) | exact okb (by decide +kernel))  (hs : ∀ v, foldedSetIterable (.Name x px) X.env v = pure v := by intro _; rfl)
    (hdb : (x == ("__debug__" : Str)) = false := by decide) (hcd : (x == ("__classdict__" : Str)) = false := by decide) :
    JE G k X L (.ListComp elt [⟨tg, .Name x px, ifs, 0⟩] scope pos) (isD (.list (((kvs.map (·.1)).filter f').map y'))) := fun C => by
  have pe := pe_lcB (pos := pos) C (pi_keys (pe_var (pos := px) hN hv hdb hcd)) (blkOk_by ok) B hs
  have core : ∀ (F H : Hp) (σ : L2.St) (d : Addr) (o : Obj) (ks : List (Key × V)) (Q : VK), Sub F H → Tabs G.T F → EnvOk F H σ L → σ[j]? = some (some (.ref d)) → F d = some (.frz o (.dK ks)) → ks.map (·.1) = kvs.map (·.1) → (∀ v F' H', Step G.T F H F' H' → Da F' v (.list (((kvs.map (·.1)).filter f').map y')) → Q v H') →
      tLc (iKeys (tVar j)) (gAll (kvs.map (·.1)) fun x => tG (isD (keyD x)) is (Ps' x)) (ttAll (kvs.map (·.1)) fun x => tPT G.T (blkL L own is (Ps' x)) (f' x)) (teAll (kvs.map (·.1)) f' fun x => tP G.T (blkL L own is (Ps' x)) (isD (y' x))) (own.map (·.2)) σ H Q := by
    intro F H σ d o ks Q s t E hσ hd hk q
    refine ⟨.ref d, hσ, d, o, rfl, .inl ⟨ks, s _ _ hd, fun D hD => ?_⟩⟩
    have hkl : ks.length = (kvs.map (·.1)).length := by rw [← hk, List.length_map]
    refine lc_keys (fun i H' => LcAt G F H σ L D ((((kvs.map (·.1)).take i).filter f').map y') H') (by simpa using lc_begin (ys := []) E (Step.refl t s) E hD hD) (fun i H' _ ⟨F', vs', st', _⟩ => st'.sub _ _ (st'.str _ _ hd fun _ z => nomatch z)) ?_ ?_
    · rintro i key H' hu ⟨F', vs', st', E', fD, hD', dv⟩
      rw [hk] at hu
      exact lc_turn B.inn hu (by rw [List.length_map]; exact hlen) E hD st' E' fD hD' dv (kV_da key) fun _ h => h
    · intro H' h
      rw [hkl, List.take_length] at h
      exact lc_done hD h fun v F' H' st' p => q v F' H' st' p
  have pe2 : PE X (.ListComp elt [⟨tg, .Name x px, ifs, 0⟩] scope pos) (fun σ H Q => (tLc (iKeys (tVar j)) (gAll (kvs.map (·.1)) fun x => tG (isD (keyD x)) is (Ps' x)) (ttAll (kvs.map (·.1)) fun x => tPT G.T (blkL L own is (Ps' x)) (f' x)) (teAll (kvs.map (·.1)) f' fun x => tP G.T (blkL L own is (Ps' x)) (isD (y' x))) (own.map (·.2))) σ H Q ∨
      tLockE (tLc (iKeys (tVar j)) (gAll (kvs.map (·.1)) fun x => tG (isD (keyD x)) is (Ps' x)) (ttAll (kvs.map (·.1)) fun x => tPT G.T (blkL L own is (Ps' x)) (f' x)) (teAll (kvs.map (·.1)) f' fun x => tP G.T (blkL L own is (Ps' x)) (isD (y' x))) (own.map (·.2))) σ H Q) :=
    ⟨fun pins s σ H Q I h => h.elim (pe.run pins s σ H Q I) ((pe_lock pe).run pins s σ H Q I)⟩
  refine pe2.imp fun σ H Q ⟨F, s, t, E, q⟩ => ?_
  obtain ⟨v, hσ, d, ks, rfl, rd, dic⟩ := E.var hj
  rcases rd with hd | ⟨o, hd⟩
  · refine .inr ⟨d, _, s _ _ hd, trivial, fun od => ?_⟩
    obtain ⟨k1, t1, s1⟩ := Step.lock (od := od) t s hd
    refine core (upd F d (.frz od (.dK ks))) (upd H d (.frz od (.dK ks))) σ d od ks _ s1 t1 ?_ hσ upd_same dic.1 fun v F' H' st p => ?_
    · refine ⟨E.len, fun i sl hi => ?_, E.dist⟩
      have q0 := E.at_ i sl hi
      cases sl with
      | no => trivial
      | p P => obtain ⟨v, e1, e2⟩ := q0; exact ⟨v, e1, P.st k1 e2⟩
      | acc ds =>
        obtain ⟨ad, us, e1, e2, e3, e4⟩ := q0
        have hne : ad ≠ d := fun z => by rw [z, hd] at e2; cases e2
        exact ⟨ad, us, e1, by rw [upd_ne hne]; exact e2, by rw [upd_ne hne]; exact e3, keep_ds k1 _ _ e4⟩
      | accd ds =>
        obtain ⟨ad, us, e1, e2, e3, e4⟩ := q0
        have hne : ad ≠ d := fun z => by rw [z, hd] at e2; cases e2
        exact ⟨ad, us, e1, by rw [upd_ne hne]; exact e2, by rw [upd_ne hne]; exact e3, e4.keep k1⟩
    · obtain ⟨h1, h2, k2, st2⟩ := Step.unlocked s hd st
      exact ⟨h2, q v _ _ st2 (keep_d k2 _ _ p)⟩
  · exact .inl (core F H σ d o ks Q s t E hσ hd dic.1 q)
end
end
end K27
/-! K27, sixth part: statements by slots. -/
namespace K27
open PySem L2 LamX
/-- a frame grows -/
structure KS (F F' : Hp) : Prop where
  w : Keep F F'
  str : ∀ b o, F b = some o → (∀ ps, o ≠ .tbl ps) → F' b = some o
theorem KS.refl (F : Hp) : KS F F := ⟨.refl F, fun _ _ h _ => h⟩
theorem KS.trans {F F1 F2 : Hp} (a : KS F F1) (b : KS F1 F2) : KS F F2 := ⟨a.w.trans b.w, fun x o h n => b.str x o (a.str x o h n) n⟩
theorem Step.ks {T : List (Addr × Str)} {F H F1 H1 : Hp} (st : Step T F H F1 H1) : KS F F1 := ⟨st.keep, st.str⟩
/-- one knowledge of the slots entails another -/
structure Ent (L L' : List Slot) : Prop where
  e : ∀ F H (σ : L2.St), EnvOk F H σ L → EnvOk F H σ L'
  o : ∀ H0 (σ : L2.St), OwnNew H0 σ L → OwnNew H0 σ L'
theorem Ent.refl (L : List Slot) : Ent L L := ⟨fun _ _ _ h => h, fun _ _ h => h⟩
theorem Ent.trans {L L1 L2 : List Slot} (a : Ent L L1) (b : Ent L1 L2) : Ent L L2 := ⟨fun F H σ h => b.e F H σ (a.e F H σ h), fun H0 σ h => b.o H0 σ (a.o H0 σ h)⟩
theorem ent_drop {L : List Slot} (i : Nat) : Ent L (L.set i .no) := ⟨fun _ _ _ h => h.drop, fun _ _ h => h.drop rfl⟩
/-- a weaker fact at a slot -/
theorem EnvOk.weaken {F H : Hp} {σ : L2.St} {L : List Slot} (E : EnvOk F H σ L) {i : Nat} {P P' : SP} (h : L[i]? = some (.p P)) (w : ∀ v F, P.P v F → P'.P v F) : EnvOk F H σ (L.set i (.p P')) := by
  have D := E.drop (i := i)
  refine ⟨by rw [List.length_set]; exact E.len, fun j s hj => ?_, fun j k a s t hj hk os ot ej ek => ?_⟩
  · by_cases hij : i = j
    · subst hij
      have hlt : i < L.length := (List.getElem?_eq_some_iff.mp h).1
      rw [List.getElem?_set_self hlt] at hj
      cases hj
      obtain ⟨v, e, p⟩ := E.var h
      exact ⟨v, e, w v F p⟩
    · rw [List.getElem?_set_ne hij] at hj
      exact E.at_ j s hj
  · have nj : i ≠ j := fun z => by
      subst z
      have hlt : i < L.length := (List.getElem?_eq_some_iff.mp h).1
      rw [List.getElem?_set_self hlt] at hj
      cases hj
      cases os
    have nk : i ≠ k := fun z => by
      subst z
      have hlt : i < L.length := (List.getElem?_eq_some_iff.mp h).1
      rw [List.getElem?_set_self hlt] at hk
      cases hk
      cases ot
    rw [List.getElem?_set_ne nj] at hj
    rw [List.getElem?_set_ne nk] at hk
    exact E.dist j k a s t hj hk os ot ej ek
theorem ent_weak {L : List Slot} (i : Nat) {P P' : SP} (h : L[i]? = some (.p P)) (w : ∀ v F, P.P v F → P'.P v F) : Ent L (L.set i (.p P')) := ⟨fun _ _ _ E => E.weaken h w, fun _ _ E => E.drop rfl⟩
section
variable (T : List (Addr × Str))
def tS (L : List Slot) (R : SP) (N : Option (List Slot)) : TS := fun D σ H => ∃ F0 H0 F, Sub F0 H0 ∧ Step T F0 H0 F H ∧ EnvOk F H σ L ∧ OwnNew H0 σ L ∧
  (∀ v F' H', Step T F0 H0 F' H' → KS F F' → R.P v F' → D.rt v H') ∧ (∀ L', N = some L' → ∀ σ' F' H', Step T F0 H0 F' H' → KS F F' → EnvOk F' H' σ' L' → OwnNew H0 σ' L' → D.nx σ' H')
end
def JS (G : Gc) (k : Nat) (X : Cx) (L : List Slot) (st : Stmt) (R : SP) (N : Option (List Slot)) : Prop := CxOk G k X → PS X st (tS G.T L R N)
def JSs (G : Gc) (k : Nat) (X : Cx) (L : List Slot) (sts : List Stmt) (R : SP) (N : Option (List Slot)) : Prop := CxOk G k X → PSs X sts (tS G.T L R N)
section
variable {G : Gc} {k : Nat} {X : Cx} {L L1 : List Slot} {a b c e : Expr} {es : List Expr} {pos : Pos} {st : Stmt} {sts : List Stmt} {R : SP} {N : Option (List Slot)}
theorem js_nil : JSs G k X L [] R (some L) := fun C => pss_nil.imp fun D σ H ⟨F0, H0, F, s0, st, E, O, r, n⟩ => n L rfl σ F H st (KS.refl F) E O
theorem js_cons (h1 : JS G k X L st R (some L1)) (h2 : JSs G k X L1 sts R N) : JSs G k X L (st :: sts) R N := fun C => (pss_cons (h1 C) (h2 C)).imp fun D σ H ⟨F0, H0, F, s0, st, E, O, r, n⟩ =>
  ⟨F0, H0, F, s0, st, E, O, r, fun L' e σ1 F1 H1 st1 k1 E1 O1 => by
    cases e
    exact ⟨F0, H0, F1, s0, st1, E1, O1, fun v F' H' st' k' p => r v F' H' st' (k1.trans k') p, fun L' e σ' F' H' st' k' E' O' => n L' e σ' F' H' st' (k1.trans k') E' O'⟩⟩
theorem pss_never' {sts : List Stmt} : PSs X sts (fun _ _ _ => False) := ⟨fun _ _ _ _ _ _ h => h.elim⟩
/-- a statement that does not fall through -/
theorem js_end (h1 : JS G k X L st R none) : JSs G k X L (st :: sts) R N := fun C => (pss_cons (h1 C) pss_never').imp fun D σ H ⟨F0, H0, F, s0, st, E, O, r, n⟩ =>
  ⟨F0, H0, F, s0, st, E, O, r, fun L' e => by cases e⟩
theorem JSs.ent {L' : List Slot} (h : JSs G k X L' sts R N) (e : Ent L L') : JSs G k X L sts R N := fun C => (h C).imp fun D σ H ⟨F0, H0, F, s0, st, E, O, r, n⟩ => ⟨F0, H0, F, s0, st, e.e _ _ _ E, e.o _ _ O, r, n⟩
theorem JSs.norm {L' : List Slot} (e : L = L') (h : JSs G k X L' sts R N) : JSs G k X L sts R N := e ▸ h
theorem JSs.out {L' : List Slot} (h : JSs G k X L sts R (some L')) (e : Ent L' L1) : JSs G k X L sts R (some L1) := fun C => (h C).imp fun D σ H ⟨F0, H0, F, s0, st, E, O, r, n⟩ =>
  ⟨F0, H0, F, s0, st, E, O, r, fun L2 q σ' F' H' st' k' E' O' => by cases q; exact n L1 rfl σ' F' H' st' k' (e.e _ _ _ E') (e.o _ _ O')⟩
theorem JSs.any (h : JSs G k X L sts R none) : JSs G k X L sts R N := fun C => (h C).imp fun D σ H ⟨F0, H0, F, s0, st, E, O, r, n⟩ => ⟨F0, H0, F, s0, st, E, O, r, fun L' e => by cases e⟩
/-- an expression is worked out at a statement's start -/
theorem tS_eval {P : SP} {D : Ends} {σ : L2.St} {H F0 H0 F : Hp} {Q : VK} (st : Step G.T F0 H0 F H) (E : EnvOk F H σ L) (q : ∀ v F1 H1, Step G.T F0 H0 F1 H1 → KS F F1 → EnvOk F1 H1 σ L → P.P v F1 → Q v H1) : tP G.T L P σ H Q :=
  ⟨F, st.sub, st.tab, E, fun v F1 H1 st1 p => q v F1 H1 (st.trans st1) st1.ks (E.step st1) p⟩
theorem js_asg (i : Nat) {x : Str} {P : SP} {pos' : Pos} (he : JE G k X L e P) (hi : X.N[i]? = some x := by rfl) (hx : Loc X.env.scope x := by first | exact Or.inl rfl | exact Or.inr rfl) (hs : swapsWith e (some (.Name x pos')) pos.line X.env = pure false := by rfl)
    (hf : X.fn x = true ∨ X.env.scope.names.lookup x = some .local := by first | exact .inl rfl | exact .inr rfl) : JS G k X L (.Assign [.Name x pos'] e pos) R (some (L.set i (.p P))) := fun C =>
  (ps_set C.nd hi hx (he C) hs hf).imp fun D σ H ⟨F0, H0, F, s0, st, E, O, r, n⟩ => tS_eval (D := D) st E fun v F1 H1 st1 k1 E1 p => n _ rfl _ F1 H1 st1 k1 (E1.set p) O.set
theorem js_asgT {tg : Expr} {P : SP} {is : List Nat} {Ps : List SP} (he : JE G k X L e P) (hg : JG G k X tg P is Ps) (hs : swapsWithSole [tg] e pos.line X.env = pure false := by rfl) (hw : swappedStores [tg] e X.env = pure none := by rfl)
    (h1 : (assignEach [tg] X.env).map (·.2) = [assign tg X.env] := by rfl) : JS G k X L (.Assign [tg] e pos) R (some (setsL L is Ps)) := fun C =>
  (ps_asg (he C) (hg C) hs hw h1).imp fun D σ H ⟨F0, H0, F, s0, st, E, O, r, n⟩ => tS_eval (D := D) st E fun v F1 H1 st1 k1 E1 p => ⟨F1, st1.sub, p, fun vs hvs => n _ rfl _ F1 H1 st1 k1 (E1.sets hvs) (O.sets (allP_length hvs).symm)⟩
theorem js_ret (he : JE G k X L e R) : JS G k X L (.Return (some e) pos) R N := fun C =>
  (ps_ret (he C)).imp fun D σ H ⟨F0, H0, F, s0, st, E, O, r, n⟩ => tS_eval (D := D) st E fun v F1 H1 st1 k1 E1 p => r v F1 H1 st1 k1 p
theorem js_expr {P : SP} (he : JE G k X L e P) (hs : swapsWith e none pos.line X.env = pure false := by rfl) : JS G k X L (.Expr e pos) R (some L) := fun C =>
  (ps_expr (he C) hs).imp fun D σ H ⟨F0, H0, F, s0, st, E, O, r, n⟩ => tS_eval (D := D) st E fun v F1 H1 st1 k1 E1 p => n _ rfl σ F1 H1 st1 k1 E1 O
theorem js_if {t : Bool} {th el : List Stmt} (hc : JT G k X L c t) (ha : t = true → JSs G k X L th R N) (hb : t = false → JSs G k X L el R N) : JS G k X L (.If c th el pos) R N := fun C => by
  cases t with
  | true => exact (ps_if (hc C) (ha rfl C) pss_never').imp fun D σ H ⟨F0, H0, F, s0, st, E, O, r, n⟩ => ⟨F, st.sub, st.tab, E, fun F1 H1 st1 => by
      dsimp only; rw [if_pos rfl]
      exact ⟨F0, H0, F1, s0, st.trans st1, E.step st1, O, fun v F' H' st' k' p => r v F' H' st' (st1.ks.trans k') p, fun L' e σ' F' H' st' k' E' O' => n L' e σ' F' H' st' (st1.ks.trans k') E' O'⟩⟩
  | false => exact (ps_if (hc C) pss_never' (hb rfl C)).imp fun D σ H ⟨F0, H0, F, s0, st, E, O, r, n⟩ => ⟨F, st.sub, st.tab, E, fun F1 H1 st1 => by
      dsimp only; rw [if_neg Bool.false_ne_true]
      exact ⟨F0, H0, F1, s0, st.trans st1, E.step st1, O, fun v F' H' st' k' p => r v F' H' st' (st1.ks.trans k') p, fun L' e σ' F' H' st' k' E' O' => n L' e σ' F' H' st' (st1.ks.trans k') E' O'⟩⟩

/-! ### owned lists -/
theorem EnvOk.setOwn {F H : Hp} {σ : L2.St} (E : EnvOk F H σ L) {i : Nat} {p : Addr} {o : HO} {S : Slot} (hp : H p = none) (hF : F p = none) (hS : SlotOk F (upd H p o) (some (some (.ref p))) S) : EnvOk F (upd H p o) (σ.set i (some (.ref p))) (L.set i S) := by
  have old : ∀ j s, L[j]? = some s → SlotOk F (upd H p o) σ[j]? s := fun j s hj => by
    have q := E.at_ j s hj
    cases s with
    | no => trivial
    | p P => exact q
    | acc ds => obtain ⟨ad, us, e1, e2, e3, e4⟩ := q; exact ⟨ad, us, e1, e2, by rw [upd_ne (ne_of_none e3 hp)]; exact e3, e4⟩
    | accd ds => obtain ⟨ad, us, e1, e2, e3, e4⟩ := q; exact ⟨ad, us, e1, e2, by rw [upd_ne (ne_of_none e3 hp)]; exact e3, e4⟩
  have ownA : ∀ (j : Nat) (s : Slot) (a : Addr), L[j]? = some s → s.own = true → σ[j]? = some (some (V.ref a)) → a ≠ p := fun j s a hj os ej z => by
    have q := E.at_ j s hj
    cases s with
    | no => cases os
    | p P => cases os
    | acc ds => obtain ⟨ad, us, e1, e2, e3, e4⟩ := q; rw [ej] at e1; cases e1; rw [z, hp] at e3; cases e3
    | accd ds => obtain ⟨ad, us, e1, e2, e3, e4⟩ := q; rw [ej] at e1; cases e1; rw [z, hp] at e3; cases e3
  refine ⟨by rw [List.length_set, List.length_set]; exact E.len, fun j s hj => ?_, fun j k a s t hj hk os ot ej ek => ?_⟩
  · by_cases hij : i = j
    · subst hij
      have hlt : i < L.length := by
        have := (List.getElem?_eq_some_iff.mp hj).1
        simpa using this
      rw [List.getElem?_set_self hlt] at hj
      cases hj
      rw [List.getElem?_set_self (by rw [E.len]; exact hlt)]
      exact hS
    · rw [List.getElem?_set_ne hij] at hj ⊢
      exact old j s hj
  · by_cases hj1 : i = j
    · by_cases hk1 : i = k
      · exact hj1.symm.trans hk1
      · subst hj1
        have hlt : i < L.length := by
          have := (List.getElem?_eq_some_iff.mp hj).1
          simpa using this
        rw [List.getElem?_set_self (by rw [E.len]; exact hlt)] at ej
        cases ej
        rw [List.getElem?_set_ne hk1] at hk ek
        exact absurd rfl (ownA k t _ hk ot ek)
    · rw [List.getElem?_set_ne hj1] at hj ej
      by_cases hk1 : i = k
      · subst hk1
        have hlt : i < L.length := by
          have := (List.getElem?_eq_some_iff.mp hk).1
          simpa using this
        rw [List.getElem?_set_self (by rw [E.len]; exact hlt)] at ek
        cases ek
        exact absurd rfl (ownA j s _ hj os ej)
      · rw [List.getElem?_set_ne hk1] at hk ek
        exact E.dist j k a s t hj hk os ot ej ek
theorem OwnNew.setOwn {H0 : Hp} {σ : L2.St} (h : OwnNew H0 σ L) {i : Nat} {p : Addr} {S : Slot} (hp : H0 p = none) (hl : σ.length = L.length) : OwnNew H0 (σ.set i (some (.ref p))) (L.set i S) := fun j s a hj os ej => by
  by_cases hij : i = j
  · subst hij
    have hlt : i < L.length := by
      have := (List.getElem?_eq_some_iff.mp hj).1
      simpa using this
    rw [List.getElem?_set_self (by rw [hl]; exact hlt)] at ej
    cases ej
    exact hp
  · rw [List.getElem?_set_ne hij] at hj ej
    exact h j s a hj os ej
theorem Step.thereO {T : List (Addr × Str)} {F0 H0 F H : Hp} (st : Step T F0 H0 F H) (s : Sub F0 H0) {p : Addr} (h : H p = none) : H0 p = none := st.there s h
/-- x = [] -/
theorem js_newAcc (i : Nat) {x : Str} {pos' pl : Pos} (hi : X.N[i]? = some x := by rfl) (hx : Loc X.env.scope x := by first | exact Or.inl rfl | exact Or.inr rfl) (hs : swapsWith (.List [] pl) (some (.Name x pos')) pos.line X.env = pure false := by rfl)
    (hf : X.fn x = true ∨ X.env.scope.names.lookup x = some .local := by first | exact .inl rfl | exact .inr rfl) : JS G k X L (.Assign [.Name x pos'] (.List [] pl) pos) R (some (L.set i (.acc []))) := fun C =>
  (ps_set C.nd hi hx (pe_lst pa_nil) hs hf).imp fun D σ H ⟨F0, H0, F, s0, st, E, O, r, n⟩ => by
    refine ⟨Nat.zero_le _, fun p hp => ?_⟩
    have hF := st.sub.no hp
    exact n _ rfl _ F _ (st.updNew hF (st.there s0 hp)) (KS.refl F) (E.setOwn hp hF ⟨p, [], rfl, hF, upd_same, .nil⟩) (O.setOwn (st.there s0 hp) E.len)
/-- the content of an owned list changes -/
theorem EnvOk.updOwn {F H : Hp} {σ : L2.St} (E : EnvOk F H σ L) {i : Nat} {p : Addr} {o : HO} {S S' : Slot} (hi : L[i]? = some S) (hS : S.own = true) (hσ : σ[i]? = some (some (.ref p))) (hS' : SlotOk F (upd H p o) (some (some (.ref p))) S') (ho : S'.own = true) : EnvOk F (upd H p o) σ (L.set i S') := by
  have hlt : i < L.length := (List.getElem?_eq_some_iff.mp hi).1
  refine ⟨by rw [List.length_set]; exact E.len, fun j s hj => ?_, fun j k a s t hj hk os ot ej ek => ?_⟩
  · by_cases hij : i = j
    · subst hij
      rw [List.getElem?_set_self hlt] at hj
      cases hj
      rw [hσ]
      exact hS'
    · rw [List.getElem?_set_ne hij] at hj
      have q := E.at_ j s hj
      have ne : ∀ ad, s.own = true → σ[j]? = some (some (V.ref ad)) → ad ≠ p := fun ad os ej z => by
        rw [z] at ej
        exact hij (E.dist i j p S s hi hj hS os hσ ej)
      cases s with
      | no => trivial
      | p P => exact q
      | acc ds => obtain ⟨ad, us, e1, e2, e3, e4⟩ := q; exact ⟨ad, us, e1, e2, by rw [upd_ne (ne ad rfl e1)]; exact e3, e4⟩
      | accd ds => obtain ⟨ad, us, e1, e2, e3, e4⟩ := q; exact ⟨ad, us, e1, e2, by rw [upd_ne (ne ad rfl e1)]; exact e3, e4⟩
  · have ex : ∀ (j : Nat) (s : Slot), (L.set i S')[j]? = some s → s.own = true → ∃ s' : Slot, L[j]? = some s' ∧ s'.own = true := fun j s hj os => by
      by_cases hij : i = j
      · subst hij; exact ⟨S, hi, hS⟩
      · rw [List.getElem?_set_ne hij] at hj; exact ⟨s, hj, os⟩
    obtain ⟨s', hj', os'⟩ := ex j s hj os
    obtain ⟨t', hk', ot'⟩ := ex k t hk ot
    exact E.dist j k a s' t' hj' hk' os' ot' ej ek
theorem OwnNew.updOwn {H0 : Hp} {σ : L2.St} (h : OwnNew H0 σ L) {i : Nat} {S S' : Slot} (hi : L[i]? = some S) (hS : S.own = true) : OwnNew H0 σ (L.set i S') := fun j s a hj os ej => by
  by_cases hij : i = j
  · subst hij; exact h i S a hi hS ej
  · rw [List.getElem?_set_ne hij] at hj; exact h j s a hj os ej
/-- x.append(e) -/
theorem js_append (i : Nat) {x : Str} {ds : List PyData} {d : PyData} {px ap cp : Pos} (hL : L[i]? = some (.acc ds)) (hlen : ds.length ≤ 100000) (he : JE G k X L e (isD d)) (hi : X.N[i]? = some x := by rfl) (hv : Vis X.env.scope x := by first | exact Or.inl rfl | exact Or.inr (Or.inl rfl) | exact Or.inr (Or.inr rfl))
    (hs : swapsWith (.Call (.Attribute (.Name x px) "append" ap) [e] [] cp) none pos.line X.env = pure false := by rfl) (hd : (x == ("__debug__" : Str)) = false := by decide) (hcd : (x == ("__classdict__" : Str)) = false := by decide)
    (hbase : attributeBase (.Name x px) "append" X.env (eval (.Name x px) X.env) = eval (.Name x px) X.env := by rfl)
    (hfew : ((backTo cp (starEach [e] X.env)).all (fun x => !x.1) && (backToKw cp (keywordEach [] X.env)).all (fun x => x.1.isSome) && decide (([e] : List Expr).length + ([] : List Keyword).length + (if ([] : List Keyword).isEmpty then 0 else 1) < 30)) = true := by rfl)
    (hline : (ap.endLine == cp.line) = true := by rfl) (hse : starEach [e] X.env = (false, eval e X.env) :: starEach [] X.env := by rfl) (hplain : (backTo cp (starEach [] X.env)).any (·.1) = false := by rfl) :
    JS G k X L (.Expr (.Call (.Attribute (.Name x px) "append" ap) [e] [] cp) pos) R (some (L.set i (.acc (ds ++ [d])))) := fun C =>
  (ps_expr (pe_bm PySem.F.plainAttrs_list PySem.F.slot_list_append PySem.F.type_list_append mt_append (pe_var hi hv hd hcd) (pa_cons (he C) pa_nil hse) hbase hfew hline hse hplain) hs).imp fun D σ H ⟨F0, H0, F, s0, st, E, O, r, n⟩ => by
    obtain ⟨ad, us, e1, e2, e3, e4⟩ := E.at_ i _ hL
    refine ⟨_, e1, .inl ⟨rfl, _, SqL.of e3⟩, tS_eval (D := D) st E fun v F1 H1 st1 k1 E1 p => ?_⟩
    obtain ⟨ad', us', f1, f2, f3, f4⟩ := E1.at_ i _ hL
    rw [e1] at f1
    cases f1
    have hl : us'.length < sizeLine := by rw [das_length f4]; exact Nat.lt_of_le_of_lt hlen (by decide)
    refine ⟨ad, us', v, rfl, rfl, f3, hl, n _ rfl σ F1 _ (st1.updNew f2 (O i _ ad hL rfl e1)) k1 (E1.updOwn hL rfl e1 ⟨ad, us' ++ [v], rfl, f2, upd_same, das_app f4 (.cons p .nil)⟩ rfl) (O.updOwn hL rfl)⟩
/-- an owned list goes to the frame -/
theorem EnvOk.freeze {T : List (Addr × Str)} {F0 H0 F H : Hp} {σ : L2.St} (st : Step T F0 H0 F H) (E : EnvOk F H σ L) (O : OwnNew H0 σ L) {i : Nat} {ds : List PyData} (hL : L[i]? = some (.acc ds)) :
    ∃ F', Step T F0 H0 F' H ∧ KS F F' ∧ EnvOk F' H σ (L.set i (.p (isD (.list ds)))) ∧ OwnNew H0 σ (L.set i (.p (isD (.list ds)))) := by
  obtain ⟨ad, us, e1, e2, e3, e4⟩ := E.at_ i _ hL
  have kp : Keep F (upd F ad (.lst us)) := Keep.new e2
  have ks : ∀ b o, F b = some o → upd F ad (.lst us) b = some o := fun b o q => by rw [upd_ne (ne_of_none q e2)]; exact q
  have hlt : i < L.length := (List.getElem?_eq_some_iff.mp hL).1
  have h0 := O i _ ad hL rfl e1
  refine ⟨upd F ad (.lst us), ⟨st.keep.trans kp, fun b o q n => ks b o (st.str b o q n), st.tab.ext ks, fun b o q => ?_, fun b o hb nb => ?_⟩, ⟨kp, fun b o q _ => ks b o q⟩, ⟨by rw [List.length_set]; exact E.len, fun j s hj => ?_, fun j k a s t hj hk os ot ej ek => ?_⟩, O.drop rfl⟩
  · by_cases hb : b = ad
    · subst hb; rw [upd_same] at q; cases q; exact e3
    · rw [upd_ne hb] at q; exact st.sub b o q
  · obtain ⟨q1, q2⟩ := st.own b o hb nb
    exact ⟨q1, by rw [upd_ne (ne_of_none hb h0)]; exact q2⟩
  · by_cases hij : i = j
    · subst hij
      rw [List.getElem?_set_self hlt] at hj
      cases hj
      exact ⟨_, e1, .lst upd_same (keep_ds kp _ _ e4)⟩
    · rw [List.getElem?_set_ne hij] at hj
      have q := E.at_ j s hj
      have ne : ∀ a, s.own = true → σ[j]? = some (some (V.ref a)) → a ≠ ad := fun a os ej z => by
        rw [z] at ej
        exact hij (E.dist i j ad _ s hL hj rfl os e1 ej)
      cases s with
      | no => trivial
      | p P => obtain ⟨v, q1, q2⟩ := q; exact ⟨v, q1, P.st kp q2⟩
      | acc ds => obtain ⟨a, us, e1, e2, e3, e4⟩ := q; exact ⟨a, us, e1, by rw [upd_ne (ne a rfl e1)]; exact e2, e3, keep_ds kp _ _ e4⟩
      | accd ds => obtain ⟨a, us, e1, e2, e3, e4⟩ := q; exact ⟨a, us, e1, by rw [upd_ne (ne a rfl e1)]; exact e2, e3, e4.keep kp⟩
  · have nj : i ≠ j := fun z => by
      subst z
      rw [List.getElem?_set_self hlt] at hj
      cases hj
      cases os
    have nk : i ≠ k := fun z => by
      subst z
      rw [List.getElem?_set_self hlt] at hk
      cases hk
      cases ot
    rw [List.getElem?_set_ne nj] at hj
    rw [List.getElem?_set_ne nk] at hk
    exact E.dist j k a s t hj hk os ot ej ek
theorem js_freeze (i : Nat) {ds : List PyData} (hL : L[i]? = some (.acc ds)) (h : JSs G k X (L.set i (.p (isD (.list ds)))) sts R N) : JSs G k X L sts R N := fun C => (h C).imp fun D σ H ⟨F0, H0, F, s0, st, E, O, r, n⟩ => by
  obtain ⟨F', st', ks, E', O'⟩ := EnvOk.freeze st E O hL
  exact ⟨F0, H0, F', s0, st', E', O', fun v F2 H2 st2 k2 p => r v F2 H2 st2 (ks.trans k2) p, fun L' e σ' F2 H2 st2 k2 E2 O2 => n L' e σ' F2 H2 st2 (ks.trans k2) E2 O2⟩
end
end K27
/-! K27, seventh part: loops by slots, defs. -/
namespace K27
open PySem L2 LamX
section
variable {G : Gc} {k : Nat} {X : Cx} {L L1 : List Slot} {a b c e tg iter : Expr} {es : List Expr} {pos : Pos} {st : Stmt} {sts body : List Stmt} {R : SP} {N : Option (List Slot)}
def tgAny (G : Gc) (k : Nat) (X : Cx) (tg : Expr) : TG := fun v σ H Q => ∃ P is Ps, JG G k X tg P is Ps ∧ tG P is Ps v σ H Q
theorem pg_any (C : CxOk G k X) : PG X tg (tgAny G k X tg) := ⟨fun pins s σ H v u Q I r ⟨P, is, Ps, h, q⟩ => (h C).run pins s σ H v u Q I r q⟩
def tbAny (G : Gc) (k : Nat) (X : Cx) (body : List Stmt) (R : SP) : TS := fun D σ H => ∃ L0 N0, JSs G k X L0 body R N0 ∧ tS G.T L0 R N0 D σ H
theorem pss_any (C : CxOk G k X) : PSs X body (tbAny G k X body R) := ⟨fun pins s σ H D I ⟨L0, N0, h, q⟩ => (h C).run pins s σ H D I q⟩
/-- what holds between two turns -/
def Btw (T : List (Addr × Str)) (F0 H0 F1 : Hp) (Li : List Slot) (σ : L2.St) (H : Hp) : Prop := ∃ F, Step T F0 H0 F H ∧ KS F1 F ∧ EnvOk F H σ Li ∧ OwnNew H0 σ Li
/-- a turn -/
structure Turns (G : Gc) (k : Nat) (X : Cx) (tg : Expr) (body : List Stmt) (R : SP) {α : Type} (xs : List α) (P : α → SP) (is : List Nat) (Ps : α → List SP) (Inv : Nat → List Slot) : Prop where
  tg : ∀ x, x ∈ xs → JG G k X tg (P x) is (Ps x)
  body : ∀ (i : Nat) (x : α), xs[i]? = some x → ∃ L1, JSs G k X (setsL (Inv i) is (Ps x)) body R (some L1) ∧ Ent L1 (Inv (i + 1))
theorem for_turn {α : Type} {xs : List α} {P : α → SP} {is : List Nat} {Ps : α → List SP} {Inv : Nat → List Slot} {F0 H0 F1 : Hp} {σ : L2.St} {H : Hp} {i : Nat} {x : α} {v : V} {D D' : Ends} (s0 : Sub F0 H0) (B : Turns G k X tg body R xs P is Ps Inv) (hx : xs[i]? = some x) (h : Btw G.T F0 H0 F1 (Inv i) σ H)
    (pv : ∀ F, KS F1 F → (P x).P v F) (r : ∀ v F' H', Step G.T F0 H0 F' H' → KS F1 F' → R.P v F' → D.rt v H') (nx : ∀ σ' H', Btw G.T F0 H0 F1 (Inv (i + 1)) σ' H' → D.nx σ' H') : tgAny G k X tg v σ H fun σ2 H2 => tbAny G k X body R D σ2 H2 := by
  obtain ⟨F, st, ks, E, O⟩ := h
  obtain ⟨L1, hb, en⟩ := B.body i x hx
  exact ⟨_, _, _, B.tg x (List.mem_of_getElem? hx), F, st.sub, pv F ks, fun vs hvs => ⟨_, _, hb, F0, H0, F, s0, st, E.sets hvs, O.sets (allP_length hvs).symm, fun v F' H' st' k' p => r v F' H' st' (ks.trans k') p,
    fun L' e σ' F' H' st' k' E' O' => by cases e; exact nx σ' H' ⟨F', st', ks.trans k', en.e _ _ _ E', en.o _ _ O'⟩⟩⟩
theorem js_forT {α : Type} {xs : List α} {P : α → SP} {is : List Nat} {Ps : α → List SP} (Inv : Nat → List Slot) (hi : JE G k X L iter (isTupP (xs.map P))) (h0 : Ent L (Inv 0)) (B : Turns G k X tg body R xs P is Ps Inv) (hp : PassesOwn (model X.prog X.w) X.A X.env X.xe := by exact PassesOwn.never) (hfs : ∀ x, foldedSetIterable iter X.env x = pure x := by intro _; rfl) :
    JS G k X L (.For tg iter body [] pos) R (some (Inv xs.length)) := fun C =>
  (ps_for hp C.calm (pi_tup (hi C)) (pg_any C) (pss_any C) hfs).imp fun D σ H ⟨F0, H0, F, s0, st, E, O, r, n⟩ => tS_eval (D := D) st E fun v F1 H1 st1 k1 E1 p => by
    obtain ⟨ad, vs, rfl, h1, h2⟩ := p
    have hvl : vs.length = xs.length := by rw [allP_length h2, List.length_map]
    refine ⟨ad, rfl, ⟨vs, h1.sq st1.sub⟩, for_tup (K := X.K) (a := ad) (xs := vs) (fun i σ' H' => Btw G.T F0 H0 F1 (Inv i) σ' H') ⟨F1, st1, KS.refl F1, h0.e _ _ _ E1, h0.o _ _ O⟩ (fun i σ' H' _ ⟨F', st', ks', _⟩ => (h1.keep ks'.w).sq st'.sub) ?_ ?_⟩
    · rintro i u σ' H' hu hB
      obtain ⟨Pu, hPu, pu⟩ := allP_getV h2 hu
      rw [List.getElem?_map] at hPu
      cases hx : xs[i]? with
      | none => rw [hx] at hPu; cases hPu
      | some x =>
        rw [hx] at hPu
        cases hPu
        exact for_turn (D' := D) s0 B hx hB (fun F' ks => (P x).st ks.w pu) (fun v F' H' st' k' p => r v F' H' st' (k1.trans k') p) fun σ' H' h => h
    · rintro σ' H' ⟨F', st', ks', E', O'⟩
      rw [hvl] at E' O'
      exact n _ rfl σ' F' H' st' (k1.trans ks') E' O'
theorem js_forL {α : Type} {xs : List α} {P : α → SP} {is : List Nat} {Ps : α → List SP} (Inv : Nat → List Slot) (hi : JE G k X L iter (isLstP (xs.map P))) (h0 : Ent L (Inv 0)) (B : Turns G k X tg body R xs P is Ps Inv) (hp : PassesOwn (model X.prog X.w) X.A X.env X.xe := by exact PassesOwn.never) (hfs : ∀ x, foldedSetIterable iter X.env x = pure x := by intro _; rfl) :
    JS G k X L (.For tg iter body [] pos) R (some (Inv xs.length)) := fun C =>
  (ps_for hp C.calm (pi_list (hi C)) (pg_any C) (pss_any C) hfs).imp fun D σ H ⟨F0, H0, F, s0, st, E, O, r, n⟩ => tS_eval (D := D) st E fun v F1 H1 st1 k1 E1 p => by
    obtain ⟨ad, vs, rfl, h1, h2⟩ := p
    have hvl : vs.length = xs.length := by rw [allP_length h2, List.length_map]
    refine ⟨ad, rfl, ⟨vs, SqL.of (st1.sub _ _ h1)⟩, for_list (K := X.K) (a := ad) (xs := vs) (fun i σ' H' => Btw G.T F0 H0 F1 (Inv i) σ' H') ⟨F1, st1, KS.refl F1, h0.e _ _ _ E1, h0.o _ _ O⟩ (fun i σ' H' _ ⟨F', st', ks', _⟩ => SqL.of (st'.sub _ _ (ks'.str _ _ h1 fun _ z => nomatch z))) ?_ ?_⟩
    · rintro i u σ' H' hu hB
      obtain ⟨Pu, hPu, pu⟩ := allP_getV h2 hu
      rw [List.getElem?_map] at hPu
      cases hx : xs[i]? with
      | none => rw [hx] at hPu; cases hPu
      | some x =>
        rw [hx] at hPu
        cases hPu
        exact for_turn (D' := D) s0 B hx hB (fun F' ks => (P x).st ks.w pu) (fun v F' H' st' k' p => r v F' H' st' (k1.trans k') p) fun σ' H' h => h
    · rintro σ' H' ⟨F', st', ks', E', O'⟩
      rw [hvl] at E' O'
      exact n _ rfl σ' F' H' st' (k1.trans ks') E' O'
/-- for x in range(n) -/
theorem js_forR1 {n : Nat} {is : List Nat} {Ps : Nat → List SP} {p : Pos} (Inv : Nat → List Slot) (hi : JE G k X L a (isI n)) (hn : n ≤ 100000) (h0 : Ent L (Inv 0)) (B : Turns G k X tg body R (List.range n) (fun i : Nat => isI i) is Ps Inv) (hm : G.mg "range" = none) (hg : Gl X "range" := by rfl)
    (hs : starEach [a] X.env = [(false, eval a X.env)] := by rfl) (hp : PassesOwn (model X.prog X.w) X.A X.env X.xe := by exact PassesOwn.never) :
    JS G k X L (.For tg (.Call (.Name "range" p) [a] [] pos) body [] pos') R (some (Inv n)) := fun C =>
  (ps_for hp C.calm (pi_range1 hg (by rw [C.mg]; exact hm) (pa_cons (hi C) pa_nil hs) hs) (pg_any C) (pss_any C)).imp fun D σ H ⟨F0, H0, F, s0, st, E, O, r, nn⟩ => tS_eval (D := D) st E fun v F1 H1 st1 k1 E1 p => by
    cases da_int p
    refine ⟨n, rfl, by omega, by omega, for_range (lo := 0) (n := (n : Int).toNat) (fun i σ' H' => Btw G.T F0 H0 F1 (Inv i) σ' H') ⟨F1, st1, KS.refl F1, h0.e _ _ _ E1, h0.o _ _ O⟩ ?_ ?_⟩
    · rintro i σ' H' hu hB
      have hx : (List.range n)[i]? = some i := by rw [List.getElem?_range (by simpa using hu)]
      have ez : (0 : Int) + (i : Int) = (i : Int) := by omega
      rw [ez]
      exact for_turn (D' := D) s0 B hx hB (fun F' ks => .int _) (fun v F' H' st' k' p => r v F' H' st' (k1.trans k') p) fun σ' H' h => h
    · rintro σ' H' ⟨F', st', ks', E', O'⟩
      rw [Int.toNat_natCast] at E' O'
      exact nn _ rfl σ' F' H' st' (k1.trans ks') E' O'

theorem js_rt (he : JE G k X L e R) : JSs G k X L (.Return (some e) pos :: sts) R N := js_end (js_ret he)
theorem no_tf {p : Prop} (h : false = true) : p := nomatch h
theorem no_ft {p : Prop} (h : true = false) : p := nomatch h
/-! ### a def -/
/-- the slots at a def's entry -/
def initL (Ps : List SP) (n : Nat) : List Slot := Ps.map .p ++ List.replicate (n - Ps.length) .no
theorem env_start {F H : Hp} {N : List Str} {Ps : List SP} {vs : List V} (h : AllP Ps vs F) (hn : Ps.length ≤ N.length) : EnvOk F H (L2.start N vs) (initL Ps N.length) := by
  have hl := allP_length h
  refine ⟨?_, fun i s hi => ?_, fun i j a s t hi hj os => ?_⟩
  · unfold L2.start initL; simp [hl]
  · unfold initL at hi
    by_cases hlt : i < Ps.length
    · rw [List.getElem?_append_left (by simpa using hlt), List.getElem?_map, List.getElem?_eq_getElem hlt] at hi
      cases hi
      obtain ⟨v, e1, p⟩ := allP_get h (List.getElem?_eq_getElem hlt)
      refine ⟨v, ?_, p⟩
      unfold L2.start
      rw [List.getElem?_append_left (by simpa [hl] using hlt), List.getElem?_map, e1]
      rfl
    · rw [List.getElem?_append_right (by simpa using hlt)] at hi
      have := List.mem_of_getElem? hi
      rw [List.mem_replicate] at this
      rw [this.2]
      trivial
  · unfold initL at hi
    have := List.mem_of_getElem? hi
    rw [List.mem_append, List.mem_map, List.mem_replicate] at this
    rcases this with ⟨P, _, e⟩ | ⟨_, e⟩ <;> subst e <;> cases os
theorem own_start {H0 : Hp} {σ : L2.St} {Ps : List SP} {n : Nat} : OwnNew H0 σ (initL Ps n) := fun i s a hi os _ => by
  unfold initL at hi
  have := List.mem_of_getElem? hi
  rw [List.mem_append, List.mem_map, List.mem_replicate] at this
  rcases this with ⟨P, _, e⟩ | ⟨_, e⟩ <;> subst e <;> cases os
theorem fn_ok {x qual : Str} {st : Stmt} {f : Addr} {fd : FuncData} {N ps : List Str} {I : Type} {pre : I → Prop} {Ps : I → List SP} {Rr : I → SP} (F : Fun G.K x qual st f fd) (S : FnScope N ps (defScope st)) (hl : ∀ i, (Ps i).length = ps.length)
    (hbody : ∀ i, pre i → ∀ (cdv : Value) (A : Around) (outer : List Env) (s : Shared) (H : Hp) (E : XK), JSs G k (defCx G N qual st f cdv A outer s H E) (initL (Ps i) N.length) (defBody st) (Rr i) none) : FnOk G.P G.w G.K G.mg G.base CX0 (k + 1) f fd ps (SpF G.T pre Ps Rr) := by
  refine F.ok S (fun vs H Q E h => ?_) (fun cdv A outer s H vs Q E hr h => ?_)
  · obtain ⟨i, hp, F, sF, t, p, q⟩ := h
    rw [allP_length p, hl]
  · obtain ⟨i, hp, F, sF, t, p, q⟩ := h
    refine ⟨_, hbody i hp cdv A outer s H E ⟨rfl, rfl, rfl, rfl, rfl, rfl, S.nd, hr⟩, F, H, F, sF, Step.refl t sF, env_start p ?_, own_start, fun v F' H' st' _ p' => q v F' H' st' p', fun L' e => by cases e⟩
    rw [hl]
    have := S.pre
    rw [← this, List.length_take]
    omega
end
end K27
/-! K27: the text by places. -/
namespace K27
open PySem L2 LamX
def top (i : Nat) : Stmt := PySem.Challenge.pw_windowtable_k27_reach_told.main.body.getD i (.Pass ⟨0, 0, 0, 0⟩)
/-- a cell: nothing, an int, a text -/
def cellB : PyData → Bool
  | .none | .int _ => true
  | .str s => PyData.strOk s
  | _ => false
theorem cell_flat {d : PyData} (h : cellB d = true) : flatD d = true := by cases d <;> first | rfl | cases h
/-- key_of, _law_rank -/
def mKey : PyData → PyData
  | .none => .tuple [.int 0, .int 0, .str ""]
  | .str s => .tuple [.int 2, .int 0, .str s]
  | .int i => .tuple [.int 1, .int i, .str ""]
  | d => d
/-- the built-in names that the text leaves alone -/
structure Bt (G : Gc) : Prop where
  len : G.mg "len" = none
  sorted : G.mg "sorted" = none
  tuple : G.mg "tuple" = none
  list : G.mg "list" = none
  set : G.mg "set" = none
  dict : G.mg "dict" = none
  int : G.mg "int" = none
  str : G.mg "str" = none
  isinstance : G.mg "isinstance" = none
  max : G.mg "max" = none
  range : G.mg "range" = none
  sum : G.mg "sum" = none
  repr : G.mg "repr" = none
  any : G.mg "any" = none
end K27
/-! K27, plain: the strictly ascending list of the members of a list of ints. -/
namespace K27
def sins (x : Int) : List Int → List Int
  | [] => [x]
  | y :: l => if x < y then x :: y :: l else if x = y then y :: l else y :: sins x l
def sset (l : List Int) : List Int := l.foldr sins []
theorem mem_sins {x y : Int} : ∀ {l : List Int}, y ∈ sins x l ↔ y = x ∨ y ∈ l
  | [] => by simp [sins]
  | z :: l => by
    unfold sins
    by_cases h1 : x < z
    · simp [h1]
    · by_cases h2 : x = z
      · subst h2; simp
      · simp only [h1, h2, if_false, List.mem_cons, mem_sins (l := l)]
        constructor
        · rintro (h | h | h) <;> simp [h]
        · rintro (h | h | h) <;> simp [h]
theorem mem_sset {y : Int} : ∀ {l : List Int}, y ∈ sset l ↔ y ∈ l
  | [] => by simp [sset]
  | z :: l => by
    show y ∈ sins z (sset l) ↔ _
    rw [mem_sins, mem_sset, List.mem_cons]
theorem sins_up {x : Int} : ∀ {l : List Int}, l.Pairwise (· < ·) → (sins x l).Pairwise (· < ·)
  | [], _ => by simp [sins]
  | z :: l, h => by
    unfold sins
    rw [List.pairwise_cons] at h
    by_cases h1 : x < z
    · simp only [h1, if_true, List.pairwise_cons]
      exact ⟨fun y hy => by
        rcases List.mem_cons.mp hy with e | e
        · omega
        · have := h.1 y e; omega, h⟩
    · by_cases h2 : x = z
      · simp only [h1, h2, if_false, if_true, List.pairwise_cons]
        simp only [Int.lt_irrefl, if_false, List.pairwise_cons]
        exact h
      · simp only [h1, h2, if_false, List.pairwise_cons]
        exact ⟨fun y hy => by
          rcases mem_sins.mp hy with e | e
          · omega
          · exact h.1 y e, sins_up h.2⟩
theorem sset_up : ∀ l : List Int, (sset l).Pairwise (· < ·)
  | [] => by simp [sset]
  | z :: l => sins_up (sset_up l)
theorem up_unique : ∀ {a b : List Int}, a.Pairwise (· < ·) → b.Pairwise (· < ·) → (∀ x, x ∈ a ↔ x ∈ b) → a = b
  | [], [], _, _, _ => rfl
  | [], y :: b, _, _, h => by have := (h y).mpr List.mem_cons_self; simp at this
  | x :: a, [], _, _, h => by have := (h x).mp List.mem_cons_self; simp at this
  | x :: a, y :: b, ha, hb, h => by
    rw [List.pairwise_cons] at ha hb
    have e : x = y := by
      have h1 := (h x).mp List.mem_cons_self
      have h2 := (h y).mpr List.mem_cons_self
      rcases List.mem_cons.mp h1 with e | e
      · exact e
      · rcases List.mem_cons.mp h2 with e2 | e2
        · exact e2.symm
        · have a1 := hb.1 x e
          have a2 := ha.1 y e2
          omega
    subst e
    rw [up_unique ha.2 hb.2 fun z => ?_]
    constructor
    · intro hz
      rcases List.mem_cons.mp ((h z).mp (List.mem_cons_of_mem _ hz)) with e | e
      · have := ha.1 z hz; omega
      · exact e
    · intro hz
      rcases List.mem_cons.mp ((h z).mpr (List.mem_cons_of_mem _ hz)) with e | e
      · have := hb.1 z hz; omega
      · exact e
theorem up_of_le {l : List Int} (h : l.Pairwise (· ≤ ·)) (n : l.Nodup) : l.Pairwise (· < ·) := by
  have : l.Pairwise (fun a b => a ≤ b ∧ a ≠ b) := List.Pairwise.and h n
  exact this.imp fun ⟨a, b⟩ => by omega
theorem sset_of_up {l : List Int} (h : l.Pairwise (· < ·)) : sset l = l := up_unique (sset_up l) h fun _ => mem_sset
theorem sset_congr {a b : List Int} (h : ∀ x, x ∈ a ↔ x ∈ b) : sset a = sset b := up_unique (sset_up a) (sset_up b) fun x => by rw [mem_sset, mem_sset]; exact h x
theorem sset_perm {a b : List Int} (h : b.Perm a) (u : b.Pairwise (· ≤ ·)) (n : a.Nodup) : b = sset a :=
  up_unique (up_of_le u (h.nodup_iff.mpr n)) (sset_up a) fun x => by rw [mem_sset]; exact h.mem_iff
theorem up_nodup {l : List Int} (h : l.Pairwise (· < ·)) : l.Nodup := h.imp fun h e => by omega
theorem sset_length_le : ∀ l : List Int, (sset l).length ≤ l.length
  | [] => by simp [sset]
  | z :: l => by
    have ih := sset_length_le l
    have : ∀ m : List Int, (sins z m).length ≤ m.length + 1 := fun m => by
      induction m with
      | nil => simp [sins]
      | cons y m ihm =>
        unfold sins
        by_cases h1 : z < y
        · simp [h1]
        · by_cases h2 : z = y
          · simp [h2]
          · simp only [h1, h2, if_false, List.length_cons]; omega
    have h := this (sset l)
    show (sins z (sset l)).length ≤ _
    simp only [List.length_cons]; omega
end K27
/-! K27, eighth part: list.index, sorted of ints, dict of a tuple of pairs. -/
namespace K27
open PySem L2 LamX
section
variable {G : Gc} {k : Nat} {X : Cx} {L : List Slot} {a b c e : Expr} {pos : Pos}
/-! ### xs.index(y) -/
def dpos : List PyData → PyData → Nat
  | [], _ => 0
  | z :: l, d => if PyData.eqv z d = true then 0 else dpos l d + 1
theorem dpos_at {d : PyData} : ∀ {ds : List PyData}, (ds.any fun z => PyData.eqv z d) = true → ∃ z, ds[dpos ds d]? = some z ∧ PyData.eqv z d = true ∧ ∀ (m : Nat) (z' : PyData), m < dpos ds d → ds[m]? = some z' → PyData.eqv z' d = false
  | [], h => by simp at h
  | z :: l, h => by
    unfold dpos
    by_cases hz : PyData.eqv z d = true
    · simp only [hz, if_true]
      exact ⟨z, rfl, hz, fun m z' hm => by omega⟩
    · simp only [hz, if_false]
      have h' : (l.any fun z => PyData.eqv z d) = true := by simpa [hz] using h
      obtain ⟨y, h1, h2, h3⟩ := dpos_at h'
      refine ⟨y, h1, h2, fun m z' hm he => ?_⟩
      cases m with
      | zero => simp at he; subst he; simpa using hz
      | succ m => exact h3 m z' (by simp at hm; omega) he
theorem je_index {o : Expr} {ds : List PyData} {d : PyData} {ap cp : Pos} (hf : flatD d = true) (hfs : ds.all flatD = true) (hin : (ds.any fun z => PyData.eqv z d) = true) (ho : JE G k X L o (isD (.list ds))) (he : JE G k X L e (isD d))
    (hbase : attributeBase o "index" X.env (eval o X.env) = eval o X.env := by rfl)
    (hfew : ((backTo cp (starEach [e] X.env)).all (fun x => !x.1) && (backToKw cp (keywordEach [] X.env)).all (fun x => x.1.isSome) && decide (([e] : List Expr).length + ([] : List Keyword).length + (if ([] : List Keyword).isEmpty then 0 else 1) < 30)) = true := by rfl)
    (hline : (ap.endLine == cp.line) = true := by rfl) (hse : starEach [e] X.env = (false, eval e X.env) :: starEach [] X.env := by rfl) (hplain : (backTo cp (starEach [] X.env)).any (·.1) = false := by rfl) :
    JE G k X L (.Call (.Attribute o "index" ap) [e] [] cp) (isI (dpos ds d : Nat)) := fun C =>
  (pe_bm PySem.F.plainAttrs_list PySem.F.slot_list_index PySem.F.type_list_index mt_index (ho C) ((ja_cons he ja_nil hse) C) hbase hfew hline hse hplain).imp fun σ H Q ⟨F, s, t, E, q⟩ => ⟨F, s, t, E, fun x F1 H1 st1 p1 => by
    obtain ⟨ad, xs, rfl, h1, d1⟩ := da_lst p1
    refine ⟨.inl ⟨rfl, _, SqL.of (st1.sub _ _ h1)⟩, F1, st1.sub, st1.tab, E.step st1, fun vs F2 H2 st2 p2 => ?_⟩
    obtain ⟨y, rfl, py⟩ := allP1 p2
    have h2 := st2.keep.obj _ _ h1 trivial
    have d2 := keep_ds st2.keep _ _ d1
    obtain ⟨z, e1, e2, e3⟩ := dpos_at hin
    obtain ⟨zv, hz, dz⟩ := das_get d2 e1
    have fz : ∀ {m : Nat} {u : PyData}, ds[m]? = some u → flatD u = true := fun h => List.all_eq_true.mp hfs _ (List.mem_of_getElem? h)
    refine ⟨ad, xs, y, dpos ds d, zv, rfl, rfl, SqL.of (st2.sub _ _ h2), da_flat py hf, das_flat d2 hfs, hz, by rw [da_eqV dz py (fz e1) hf]; exact e2, fun m z' hm hz' => ?_, q _ F2 H2 (st1.trans st2) (.int _)⟩
    obtain ⟨u, hu, du⟩ := das_getV d2 hz'
    rw [da_eqV du py (fz hu) hf]
    exact e3 m u hm hu⟩
/-! ### sorted(ints) -/
theorem je_sorted {ns : List Int} {p : Pos} (hn : ns.Nodup) (hm : G.mg "sorted" = none) (ha : JE G k X L a (isD (.list (ns.map .int)))) (hg : Gl X "sorted" := by rfl) (he : starEach [a] X.env = (false, eval a X.env) :: starEach [] X.env := by rfl) : JE G k X L (.Call (.Name "sorted" p) [a] [] pos) (isD (.list ((sset ns).map .int))) :=
  je_callB (fun _ => cr_sortedI) (fun vs F H Q s t p q => by
    obtain ⟨v, rfl, p1⟩ := allP1 p
    obtain ⟨ad, xs, rfl, h1, d1⟩ := da_lst p1
    have e := das_ints d1
    subst e
    refine ⟨ad, ns, rfl, SqL.of (s _ _ h1), fun ns' l perm up hl => ?_⟩
    rw [sset_perm perm up hn] 
    have st := Step.new (o := .lst ((sset ns).map V.int)) t s hl
    exact q _ _ _ st (.lst upd_same (das_of_ints _))) hm (by decide +kernel) (ja_cons ha ja_nil he) hg (by decide) (by decide) he

/-! ### dict(a tuple of pairs) -/
theorem call_dictT (hcalm : X.calm = true) : CallR X (.type "dict") (fun xs H Q => ∃ (a : Addr) (ps : List Addr) (kvs : List (Key × V)), xs = [V.ref a] ∧ TupAt H a (ps.map V.ref) ∧ Paired (fun p kv => SqT X.K H p [kV kv.1, kv.2]) ps kvs ∧
    ∀ p, H p = none → Q (.ref p) (upd H p (.dK (mergeK [] kvs)))) := by
  intro pins s σ H xs us Q I r ⟨a, ps, kvs, ex, ⟨o, ho, hod⟩, hp, q⟩
  subst ex
  have e := Vals.ref1 r
  subst e
  obtain ⟨hget, hz, its, rv, o', ho', hcls, n, hdat⟩ := I.hok a _ ho
  rw [hget] at ho'
  cases ho'
  have ei := refs_at rv
  subst ei
  rw [List.length_map] at hz
  obtain ⟨prs, rel, hl, hpr⟩ := pairs_of I hp
  have gu : ∀ j : Nat, ∃ u : Value, ∀ q, prs[j]? = some q → ∃ b, ps[j]? = some b ∧ PyProof.Rows.IsTup s.heap b #[u, q.2] ∧ keyIs q.1 u = true := fun j => by
    cases h : prs[j]? with
    | none => exact ⟨.none, fun q z => by cases z⟩
    | some q =>
      obtain ⟨b, u, e1, e2, e3⟩ := hpr j q h
      exact ⟨u, fun q' z => by cases z; exact ⟨b, e1, e2, e3⟩⟩
  have hlen : prs.length = ps.length := hl
  let us' : List (Value × Value) := (List.range prs.length).map fun j => (Classical.choose (gu j), (prs.getD j (.inl 0, .none)).2)
  have husl : us'.length = ps.length := by simp [us', hlen]
  have hus : ∀ (j : Nat) (kk v : Value), us'[j]? = some (kk, v) → ∃ q b, prs[j]? = some q ∧ v = q.2 ∧ ps[j]? = some b ∧ PyProof.Rows.IsTup s.heap b #[kk, v] ∧ keyIs q.1 kk = true := fun j kk v h => by
    have hj : j < prs.length := by
      have := (List.getElem?_eq_some_iff.mp h).1
      rw [husl] at this; omega
    have hq : prs[j]? = some prs[j] := List.getElem?_eq_getElem hj
    simp only [us', List.getElem?_map, List.getElem?_range hj, Option.map_some, Option.some.injEq, Prod.mk.injEq] at h
    obtain ⟨h1, h2⟩ := h
    have hD : prs.getD j (.inl 0, .none) = prs[j] := by rw [List.getD_eq_getElem?_getD, hq]; rfl
    rw [hD] at h2
    obtain ⟨b, e1, e2, e3⟩ := Classical.choose_spec (gu j) _ hq
    rw [h1, h2] at e2
    rw [h1] at e3
    exact ⟨prs[j], b, hq, h2.symm, e1, e2, e3⟩
  refine PySem.call_dict_pairs (knd := mixKind X.prog X.w) (kvs := prs) (PairArg.tuple a (ps.map Value.ref).toArray (fun j => ps.getD j 0) us') (I.ok.hd hcalm) ⟨⟨o, n, hget, hcls, hod, hdat⟩, by simp [husl], fun j kk v h => ?_⟩ ⟨by rw [husl, hlen], fun j kk v h => ?_⟩ (by rw [husl]; exact hz) fun h' tk hd' keep => ?_
  · obtain ⟨q0, b, e1, e2, e3, e4, e5⟩ := hus j kk v h
    have hb : ps.getD j 0 = b := by rw [List.getD_eq_getElem?_getD, e3]; rfl
    refine ⟨by simp [e3], ?_⟩
    show PairAt s.heap (ps.getD j 0) kk v
    rw [hb]
    exact .inl e4
  · obtain ⟨q0, b, e1, e2, e3, e4, e5⟩ := hus j kk v h
    exact ⟨q0.1, by rw [e1, e2], e5⟩
  · have hm : (s.heap.objs.size == sysModules) = false := beq_eq_false_iff_ne.mpr (Nat.ne_of_gt I.big)
    have hz2 : (mergeK [] kvs).length ≤ sizeLine := by
      have h1 := length_mergeK kvs []
      have h2 := rel.length
      simp only [List.length_nil] at h1
      omega
    have J := I.laid (t' := tk) (o := .dK (mergeK [] kvs)) (fun b o e => keep b o (by simp) e) (Nat.le_refl _) (show ObjOk X.prog X.w _ _ _ (.dK (mergeK [] kvs)) from ⟨hz2, hm, merged [] prs, KV.merge rel .nil, hd'⟩)
    exact ⟨.ref _, _, J, rfl, q _ (I.hok.fresh (Nat.le_refl _))⟩
theorem putK_new {kvs : List (Key × V)} {key : Key} {v : V} (h : key ∉ kvs.map (·.1)) : putK kvs key v = kvs ++ [(key, v)] := by
  unfold putK
  rw [if_neg]
  intro z
  obtain ⟨p, hp, e⟩ := List.any_eq_true.mp z
  exact h (List.mem_map.mpr ⟨p, hp, of_decide_eq_true e⟩)
theorem mergeK_nodup : ∀ (more kvs : List (Key × V)), ((kvs ++ more).map (·.1)).Nodup → mergeK kvs more = kvs ++ more
  | [], kvs, _ => by simp [mergeK]
  | kv :: more, kvs, h => by
    show mergeK (putK kvs kv.1 kv.2) more = _
    have hn : kv.1 ∉ kvs.map (·.1) := fun z => by
      rw [List.map_append, List.nodup_append] at h
      exact h.2.2 kv.1 z kv.1 (by simp) rfl
    rw [putK_new hn, mergeK_nodup more (kvs ++ [(kv.1, kv.2)]) (by simpa using h)]
    simp
/-- a dict's pairs as a tuple of pairs -/
def prD (kvs : List (Key × PyData)) : List PyData := kvs.map fun kv => .tuple [keyD kv.1, kv.2]
theorem das_pairs {K : PySem.W.Frag} {F H : Hp} (s : Sub F H) : ∀ {kvs : List (Key × PyData)} {vs : List V}, Das F vs (prD kvs) → ∃ (ps : List Addr) (xs : List (Key × V)), vs = ps.map V.ref ∧ Paired (fun p kv => SqT K H p [kV kv.1, kv.2]) ps xs ∧ DicAt F xs kvs
  | [], vs, h => by
    cases h
    exact ⟨[], [], rfl, .nil, rfl, .nil⟩
  | kv :: kvs, vs, h => by
    have h' : Das F vs (.tuple [keyD kv.1, kv.2] :: prD kvs) := h
    cases h' with
    | cons h1 h2 =>
      obtain ⟨ps, xs, rfl, hp, hd1, hd2⟩ := das_pairs s h2
      obtain ⟨t, ys, rfl, ht, dt⟩ := da_tup h1
      cases dt with
      | cons k1 r1 =>
        cases r1 with
        | cons v1 r2 =>
          cases r2
          cases da_key k1
          exact ⟨t :: ps, (kv.1, _) :: xs, rfl, .cons (ht.sq s) hp, by simp [hd1], .cons v1 hd2⟩
theorem je_dictT {kvs : List (Key × PyData)} {p : Pos} (hn : (kvs.map (·.1)).Nodup) (hm : G.mg "dict" = none) (ha : JE G k X L a (isD (.tuple (prD kvs)))) (hg : Gl X "dict" := by rfl) (he : starEach [a] X.env = (false, eval a X.env) :: starEach [] X.env := by rfl) : JE G k X L (.Call (.Name "dict" p) [a] [] pos) (isDic kvs) :=
  je_callTy (fun C => call_dictT C.calm) (fun vs F H Q s t p q => by
    obtain ⟨v, rfl, p1⟩ := allP1 p
    obtain ⟨ad, ys, rfl, h1, d1⟩ := da_tup p1
    obtain ⟨ps, xs, rfl, hp, hd⟩ := das_pairs (K := X.K) s d1
    refine ⟨ad, ps, xs, rfl, h1.sub s, hp, fun l hl => ?_⟩
    rw [mergeK_nodup xs [] (by rw [List.nil_append, hd.1]; exact hn), List.nil_append]
    have st := Step.new (o := .dK xs) t s hl
    exact q _ _ _ st ⟨l, xs, rfl, .inl upd_same, hd.keep st.keep⟩) hm (by decide +kernel) (ja_cons ha ja_nil he) hg (by decide) (by decide) he
end
end K27
/-! K27, ninth part: comprehensions in short. -/
namespace K27
open PySem L2 LamX
section
variable {G : Gc} {k : Nat} {X : Cx} {L : List Slot} {a b c e : Expr} {pos : Pos}
theorem pts_none : PTs X [] (tPT G.T L true) := ⟨fun pins s σ H Q I ⟨F, sF, t, E, q⟩ => pts_nil.run pins s σ H Q I (q F H (Step.refl t sF))⟩
theorem pts_test {c : Expr} {b : Bool} (h : JT G k X L c b) (C : CxOk G k X) : PTs X [c] (tPT G.T L b) := pts_one (h C)
variable {α : Type} {xs : List α} {P : α → SP} {own : List (Str × Nat)} {scope : Scope} {tg iter elt : Expr} {is : List Nat} {Ps : α → List SP} {f : α → Bool} {y : α → PyData}
theorem blk0 (inn : ∀ i ∈ is, i ∈ own.map (·.2)) (htg : ∀ (x : α), x ∈ xs → ∀ (s : Shared) (H : Hp) (C : Addr) (cl : List (Str × Addr)) (fp : List Addr), JG G k (X.blk s H scope (compEnvC scope cl C X.env) fp) tg (P x) is (Ps x))
    (helt : ∀ (x : α), x ∈ xs → ∀ (s : Shared) (H : Hp) (C : Addr) (cl : List (Str × Addr)) (fp : List Addr), JE G k (X.blk s H scope (compEnvC scope cl C X.env) fp) (blkL L own is (Ps x)) elt (isD (y x))) :
    Blk G k X L own scope tg [] elt xs P is Ps (fun _ => true) y := ⟨inn, htg, fun _ _ _ _ _ _ _ _ => pts_none, fun x hx _ => helt x hx⟩
theorem blk1 {c : Expr} (inn : ∀ i ∈ is, i ∈ own.map (·.2)) (htg : ∀ (x : α), x ∈ xs → ∀ (s : Shared) (H : Hp) (C : Addr) (cl : List (Str × Addr)) (fp : List Addr), JG G k (X.blk s H scope (compEnvC scope cl C X.env) fp) tg (P x) is (Ps x))
    (hc : ∀ (x : α), x ∈ xs → ∀ (s : Shared) (H : Hp) (C : Addr) (cl : List (Str × Addr)) (fp : List Addr), JT G k (X.blk s H scope (compEnvC scope cl C X.env) fp) (blkL L own is (Ps x)) c (f x))
    (helt : ∀ (x : α), x ∈ xs → f x = true → ∀ (s : Shared) (H : Hp) (C : Addr) (cl : List (Str × Addr)) (fp : List Addr), JE G k (X.blk s H scope (compEnvC scope cl C X.env) fp) (blkL L own is (Ps x)) elt (isD (y x))) :
    Blk G k X L own scope tg [c] elt xs P is Ps f y := ⟨inn, htg, fun x hx s H Ca cl fp C => pts_test (hc x hx s H Ca cl fp) C, helt⟩
theorem je_seqT {ds : List PyData} {d : α → PyData} (h : JE G k X L e (isD (.tuple ds))) (hd : ds = xs.map d) : JE G k X L e (isTupP (xs.map fun x => isD (d x))) := h.to fun v F p => by
  have := tupP_of p
  rw [hd, List.map_map] at this
  exact this
theorem je_seqL {ds : List PyData} {d : α → PyData} (h : JE G k X L e (isD (.list ds))) (hd : ds = xs.map d) : JE G k X L e (isLstP (xs.map fun x => isD (d x))) := h.to fun v F p => by
  have := lstP_of p
  rw [hd, List.map_map] at this
  exact this
theorem jg_tupD {es : List Expr} {kk : Nat} {is : List Nat} {ds : List PyData} (h : JGs G k X es is) (hl : ds.length = is.length := by rfl) (hn : (assignEach es X.env).length = is.length := by rfl) (hst : (assignEach es X.env).findIdx? (·.1) = none := by rfl) : JG G k X (.Tuple es kk pos) (isD (.tuple ds)) is (ds.map isD) :=
  JG.of (jg_tup h (by rw [List.length_map, hl]) hn hst) fun v F p => tupP_of p
/-- [e for t in a tuple of data] -/
theorem je_lcT0 {d : α → PyData} (hi : JE G k X L iter (isD (.tuple (xs.map d)))) (B : Blk G k X L own scope tg [] elt xs (fun x => isD (d x)) is Ps (fun _ => true) y) (hlen : xs.length ≤ 100000) (ok : blkC X.N X.env.scope scope own = true := by first | exact okc (by decide +kernel) | exact okb (by decide +kernel)) (hs : ∀ x, foldedSetIterable iter X.env x = pure x := by intro _; rfl) :
    JE G k X L (.ListComp elt [⟨tg, iter, [], 0⟩] scope pos) (isD (.list (xs.map y))) := (je_lcT (je_seqT hi rfl) B hlen ok hs).is (by rw [List.filter_eq_self.mpr fun _ _ => rfl])
theorem je_lcT1 {d : α → PyData} {c : Expr} (hi : JE G k X L iter (isD (.tuple (xs.map d)))) (B : Blk G k X L own scope tg [c] elt xs (fun x => isD (d x)) is Ps f y) (hlen : xs.length ≤ 100000) (ok : blkC X.N X.env.scope scope own = true := by first | exact okc (by decide +kernel) | exact okb (by decide +kernel)) (hs : ∀ x, foldedSetIterable iter X.env x = pure x := by intro _; rfl) :
    JE G k X L (.ListComp elt [⟨tg, iter, [c], 0⟩] scope pos) (isD (.list ((xs.filter f).map y))) := je_lcT (je_seqT hi rfl) B hlen ok hs
theorem je_lcL0 {d : α → PyData} (hi : JE G k X L iter (isD (.list (xs.map d)))) (B : Blk G k X L own scope tg [] elt xs (fun x => isD (d x)) is Ps (fun _ => true) y) (hlen : xs.length ≤ 100000) (ok : blkC X.N X.env.scope scope own = true := by first | exact okc (by decide +kernel) | exact okb (by decide +kernel)) (hs : ∀ x, foldedSetIterable iter X.env x = pure x := by intro _; rfl) :
    JE G k X L (.ListComp elt [⟨tg, iter, [], 0⟩] scope pos) (isD (.list (xs.map y))) := (je_lcL (je_seqL hi rfl) B hlen ok hs).is (by rw [List.filter_eq_self.mpr fun _ _ => rfl])
theorem je_lcL1 {d : α → PyData} {c : Expr} (hi : JE G k X L iter (isD (.list (xs.map d)))) (B : Blk G k X L own scope tg [c] elt xs (fun x => isD (d x)) is Ps f y) (hlen : xs.length ≤ 100000) (ok : blkC X.N X.env.scope scope own = true := by first | exact okc (by decide +kernel) | exact okb (by decide +kernel)) (hs : ∀ x, foldedSetIterable iter X.env x = pure x := by intro _; rfl) :
    JE G k X L (.ListComp elt [⟨tg, iter, [c], 0⟩] scope pos) (isD (.list ((xs.filter f).map y))) := je_lcL (je_seqL hi rfl) B hlen ok hs
/-! ### a pure fact kept at a place -/
def wi (P : SP) (φ : Prop) : SP := ⟨fun v F => P.P v F ∧ φ, fun h p => ⟨P.st h p.1, p.2⟩⟩
variable {sts : List Stmt} {R : SP} {N : Option (List Slot)}
theorem js_pure (i : Nat) {P : SP} {φ : Prop} (h : φ → JSs G k X (L.set i (.p P)) sts R N) (hi : slot L i = .p (wi P φ) := by rfl) : JSs G k X L sts R N := fun C => ⟨fun pins s σ H D I q => by
  obtain ⟨F0, H0, F, s0, st, E, O, r, n⟩ := q
  obtain ⟨v, e, p, hφ⟩ := E.var (slot_p hi)
  exact (h hφ C).run pins s σ H D I ⟨F0, H0, F, s0, st, E.weaken (slot_p hi) fun v F p => p.1, O.drop rfl, r, n⟩⟩
theorem ent_wi {L : List Slot} (i : Nat) {P : SP} {φ : Prop} (hφ : φ) (h : slot L i = .p P := by rfl) : Ent L (L.set i (.p (wi P φ))) := ent_weak i (slot_p h) fun v F p => ⟨p, hφ⟩
end
end K27
namespace K27
open PySem L2 LamX
/-- columns -/
def colD (c : Str × Str) : PyData := .tuple [.str c.1, .str c.2]
def ix (cols : List (Str × Str)) (name : Str) : Nat := dpos (cols.map fun c => .str c.1) (.str name)
def has (cols : List (Str × Str)) (name : Str) : Bool := (cols.map fun c => PyData.str c.1).any fun z => PyData.eqv z (.str name)
section
variable {G : Gc}
/-- number_of: the columns, the name -/
abbrev spNum (G : Gc) : Sp := SpF G.T (fun i : List (Str × Str) × Str => i.1.length ≤ 100 ∧ has i.1 i.2 = true) (fun i => [isD (.tuple (i.1.map colD)), isS i.2]) (fun i => isI (ix i.1 i.2 : Nat))
theorem sc6 : FnScope ["columns", "name", "other", "_"] ["columns", "name"] (defScope (top 6)) := ⟨rfl, rfl, rfl, by decide +kernel, rfl, by decide +kernel, by decide +kernel⟩
theorem flat_strs (cols : List (Str × Str)) : (cols.map fun c => PyData.str c.1).all flatD = true := by
  rw [List.all_eq_true]
  intro x hx
  obtain ⟨c, _, rfl⟩ := List.mem_map.mp hx
  rfl
theorem ok6 {f : Addr} {fd : FuncData} (F : Fun G.K "number_of" "number_of" (top 6) f fd) : FnOk G.P G.w G.K G.mg G.base CX0 1 f fd ["columns", "name"] (spNum G) := by
  refine fn_ok (k := 0) F sc6 (fun _ => rfl) ?_
  rintro ⟨cols, name⟩ ⟨hl, hh⟩ cdv A outer s H E
  refine js_rt (je_index rfl (flat_strs cols) hh (je_lcT0 (xs := cols) (d := colD) (own := [("other", 2), ("_", 3)]) (is := [2, 3]) (Ps := fun c => [isS c.1, isS c.2]) (y := fun c => .str c.1) (je_var 0)
    (blk0 (by decide) (fun x hx s H C cl fp => jg_tupD (jgs_name 2 (jgs_name 3 jgs_nil))) fun x hx s H C cl fp => je_var 2) (by show cols.length ≤ _; exact Nat.le_trans hl (by decide))) (je_var 1))
end
end K27
set_option maxHeartbeats 4000000
namespace K27
open PySem L2 LamX
local macro_rules | `(tactic| walk_at "norm") => `(tactic| refine JSs.norm (by dsimp only [setsL, wipeL, initL, List.set, List.map, List.append, List.replicate, List.length, HAppend.hAppend, Append.append]) ?_)
/-- a definition -/
structure Df where
  name : Str
  fn : Str
  col : Option Str
  num : Option Int
  part : List Str
  order : List (Str × Bool)
  frame : PyData
def oS : Option Str → PyData
  | none => .none
  | some s => .str s
def oI : Option Int → PyData
  | none => .none
  | some s => .int s
def ordD (o : Str × Bool) : PyData := .tuple [.str o.1, .bool o.2]
def Df.D (d : Df) : PyData := .tuple [.str d.name, .str d.fn, oS d.col, oI d.num, .tuple (d.part.map .str), .tuple (d.order.map ordD), d.frame]
/-- it fits columns -/
structure Fits (cols : List (Str × Str)) (d : Df) : Prop where
  lc : cols.length ≤ 100
  lp : d.part.length ≤ 100
  lo : d.order.length ≤ 100
  p : ∀ n ∈ d.part, has cols n = true
  o : ∀ n ∈ d.order, has cols n.1 = true
  c : ∀ n, d.col = some n → has cols n = true
/-- a list of places -/
def natsD (ns : List Nat) : List PyData := ns.map fun n : Nat => .int n
def mNums (cols : List (Str × Str)) (d : Df) : List Nat := d.part.map (ix cols)
def mKeys (cols : List (Str × Str)) (d : Df) : List (Nat × Bool) := d.order.map fun o => (ix cols o.1, o.2)
def mCol (cols : List (Str × Str)) (d : Df) : Option Nat := d.col.map (ix cols)
def keysD (ks : List (Nat × Bool)) : List PyData := ks.map fun o => .tuple [.int o.1, .bool o.2]
def oN : Option Nat → PyData
  | none => .none
  | some n => .int n
def at_ (ds : List PyData) (n : Nat) : PyData := ds.getD n .none
theorem atI_at {ds : List PyData} {n : Nat} (h : n < ds.length) : atI ds (n : Int) = some (at_ ds n) := atI_nat (by unfold at_; rw [List.getD_eq_getElem?_getD, List.getElem?_eq_getElem h]; rfl)
section
variable {G : Gc}
abbrev spVals (G : Gc) : Sp := SpF G.T (fun i : List PyData × List Nat => i.2.length ≤ 100 ∧ ∀ n ∈ i.2, n < i.1.length) (fun i => [isD (.tuple i.1), isD (.tuple (natsD i.2))]) (fun i => isD (.tuple (i.2.map (at_ i.1))))
theorem sc11 : FnScope ["cells", "numbers", "column"] ["cells", "numbers"] (defScope (top 11)) := ⟨rfl, rfl, rfl, by decide +kernel, rfl, by decide +kernel, by decide +kernel⟩
theorem ok11 (B : Bt G) {f : Addr} {fd : FuncData} (F : Fun G.K "values_at" "values_at" (top 11) f fd) : FnOk G.P G.w G.K G.mg G.base CX0 1 f fd ["cells", "numbers"] (spVals G) := by
  refine fn_ok (k := 0) F sc11 (fun _ => rfl) ?_
  rintro ⟨ds, ns⟩ ⟨hl, hh⟩ cdv A outer s H E
  exact js_rt (je_tupleL B.tuple (je_lcT0 (xs := ns) (d := fun n : Nat => .int n) (own := [("column", 2)]) (is := [2]) (Ps := fun n : Nat => [isI n]) (y := at_ ds) (je_var 1)
    (blk0 (by decide) (fun x hx s H C cl fp => jg_name 2) fun n hn s H C cl fp => je_ixT (atI_at (hh n hn)) (je_var 0) (je_var 2)) (Nat.le_trans hl (by decide))))
abbrev spParts (G : Gc) : Sp := SpF G.T (fun i : List (Str × Str) × Df => Fits i.1 i.2) (fun i => [isD i.2.D, isD (.tuple (i.1.map colD))]) (fun i => isD (.tuple [.tuple (natsD (mNums i.1 i.2)), .tuple (keysD (mKeys i.1 i.2)), oN (mCol i.1 i.2)]))
theorem sc7 : FnScope ["definition", "columns", "_", "column", "partition", "order", "numbers", "name", "keys", "down"] ["definition", "columns"] (defScope (top 7)) := ⟨rfl, rfl, rfl, by decide +kernel, rfl, by decide +kernel, by decide +kernel⟩
theorem ok7 (B : Bt G) (hN : Fn G "number_of" 1 (spNum G)) {f : Addr} {fd : FuncData} (F : Fun G.K "parts" "parts" (top 7) f fd) : FnOk G.P G.w G.K G.mg G.base CX0 2 f fd ["definition", "columns"] (spParts G) := by
  refine fn_ok (k := 1) F sc7 (fun _ => rfl) ?_
  rintro ⟨cols, nm, fn, col, num, part, order, fr⟩ ⟨lc, lp, lo, hp, ho, hc⟩ cdv A outer s H E
  refine js_cons (js_asgT (je_var 0) (jg_tupD (jgs_name 2 (jgs_name 2 (jgs_name 3 (jgs_name 2 (jgs_name 4 (jgs_name 5 (jgs_name 2 jgs_nil))))))))) ?_
  walk_at "norm"
  refine js_cons (js_asg 6 (je_tupleL B.tuple (je_lcT0 (xs := part) (d := PyData.str) (own := [("name", 7)]) (is := [7]) (Ps := fun n => [isS n]) (y := fun n => .int (ix cols n : Nat)) (je_var 4)
    (blk0 (by decide) (fun x hx s H C cl fp => jg_name 7) fun n hn s H C cl fp => je_call hN (cols, n) ⟨lc, hp n hn⟩ (ja_cons (je_var 1) (ja_cons (je_var 7) ja_nil))) (Nat.le_trans lp (by decide))))) ?_
  walk_at "norm"
  refine js_cons (js_asg 8 (je_tupleL B.tuple (je_lcT0 (xs := order) (d := ordD) (own := [("name", 7), ("down", 9)]) (is := [7, 9]) (Ps := fun n => [isS n.1, isB n.2]) (y := fun n => .tuple [.int (ix cols n.1 : Nat), .bool n.2]) (je_var 5)
    (blk0 (by decide) (fun x hx s H C cl fp => jg_tupD (jgs_name 7 (jgs_name 9 jgs_nil))) fun n hn s H C cl fp => je_tup (ja_cons (je_call hN (cols, n.1) ⟨lc, ho n hn⟩ (ja_cons (je_var 1) (ja_cons (je_var 7) ja_nil))) (ja_cons (je_var 9) ja_nil))) (Nat.le_trans lo (by decide))))) ?_
  walk_at "norm"
  have e1 : part.map (fun n => PyData.int (ix cols n : Nat)) = natsD (part.map (ix cols)) := by simp [natsD]
  have e2 : order.map (fun n => PyData.tuple [.int (ix cols n.1 : Nat), .bool n.2]) = keysD (order.map fun o => (ix cols o.1, o.2)) := by simp [keysD]
  rw [e1, e2]
  cases col with
  | none => exact js_rt (je_tup (ja_cons (je_var 6) (ja_cons (je_var 8) (ja_cons (je_if (jt_isN (je_var 3)) (fun _ => je_none) no_ft) ja_nil))))
  | some c => exact js_rt (je_tup (ja_cons (je_var 6) (ja_cons (je_var 8) (ja_cons (je_if (jt_isN (je_var 3)) no_tf fun _ => je_call hN (cols, c) ⟨lc, hc c rfl⟩ (ja_cons (je_var 1) (ja_cons (je_var 3) ja_nil))) ja_nil))))
end
end K27
set_option maxHeartbeats 200000
namespace K27
open PySem L2 LamX
section
variable {G : Gc}
abbrev spKey (G : Gc) : Sp := SpF G.T (fun c => cellB c = true) (fun c => [isD c]) (fun c => isD (mKey c))
theorem sc1 : FnScope ["value"] ["value"] (defScope (top 1)) := ⟨rfl, rfl, rfl, by decide +kernel, rfl, by decide +kernel, by decide +kernel⟩
theorem ok1 (B : Bt G) {f : Addr} {fd : FuncData} (F : Fun G.K "key_of" "key_of" (top 1) f fd) : FnOk G.P G.w G.K G.mg G.base CX0 1 f fd ["value"] (spKey G) := by
  refine fn_ok (k := 0) F sc1 (fun _ => rfl) fun c hc cdv A outer s H E => ?_
  cases c with
  | none => exact js_end (js_if (jt_isN (je_var 0)) (fun _ => js_rt (je_tup (ja_cons je_int (ja_cons je_int (ja_cons je_str ja_nil))))) no_ft)
  | int i => exact js_cons (js_if (jt_isN (je_var 0)) no_tf fun _ => js_nil) (js_rt (je_if (jt_val (je_isStr rfl B.isinstance B.str (je_var 0))) no_tf fun _ => je_tup (ja_cons je_int (ja_cons (je_var 0) (ja_cons je_str ja_nil)))))
  | str i => exact js_cons (js_if (jt_isN (je_var 0)) no_tf fun _ => js_nil) (js_rt (je_if (jt_val (je_isStr rfl B.isinstance B.str (je_var 0))) (fun _ => je_tup (ja_cons je_int (ja_cons je_int (ja_cons (je_var 0) ja_nil)))) no_ft))
  | _ => cases hc
theorem sc26 : FnScope ["_law_value_here"] ["_law_value_here"] (defScope (top 26)) := ⟨rfl, rfl, rfl, by decide +kernel, rfl, by decide +kernel, by decide +kernel⟩
theorem ok26 (B : Bt G) {f : Addr} {fd : FuncData} (F : Fun G.K "_law_rank" "_law_rank" (top 26) f fd) : FnOk G.P G.w G.K G.mg G.base CX0 1 f fd ["_law_value_here"] (spKey G) := by
  refine fn_ok (k := 0) F sc26 (fun _ => rfl) fun c hc cdv A outer s H E => ?_
  cases c with
  | none => exact js_end (js_if (jt_isN (je_var 0)) (fun _ => js_rt (je_tup (ja_cons je_int (ja_cons je_int (ja_cons je_str ja_nil))))) no_ft)
  | int i => exact js_cons (js_if (jt_isN (je_var 0)) no_tf fun _ => js_nil) (js_cons (js_if (jt_val (je_isStr rfl B.isinstance B.str (je_var 0))) no_tf fun _ => js_nil) (js_rt (je_tup (ja_cons je_int (ja_cons (je_var 0) (ja_cons je_str ja_nil))))))
  | str i => exact js_cons (js_if (jt_isN (je_var 0)) no_tf fun _ => js_nil) (js_end (js_if (jt_val (je_isStr rfl B.isinstance B.str (je_var 0))) (fun _ => js_rt (je_tup (ja_cons je_int (ja_cons je_int (ja_cons (je_var 0) ja_nil))))) no_ft))
  | _ => cases hc
end
end K27
set_option maxHeartbeats 1000000
namespace K27
open PySem L2 LamX
local macro_rules | `(tactic| walk_at "norm") => `(tactic| refine JSs.norm (by dsimp only [setsL, wipeL, initL, List.set, List.map, List.append, List.replicate, List.length, HAppend.hAppend, Append.append]) ?_)
/-! ### rows as a dict -/
abbrev Rows := List (Int × List PyData)
def rowsK (rows : Rows) : List (Key × PyData) := rows.map fun r => (Sum.inl r.1, .tuple r.2)
def cellsOf (rows : Rows) (id : Int) : List PyData := ((rows.find? fun r => decide (r.1 = id)).map (·.2)).getD []
def cell (rows : Rows) (id : Int) (c : Nat) : PyData := at_ (cellsOf rows id) c
def ids (rows : Rows) : List Int := rows.map (·.1)
structure RowsOk (rows : Rows) (w : Nat) : Prop where
  len : rows.length ≤ 100
  wd : w ≤ 100
  row : ∀ r ∈ rows, r.2.length = w ∧ ∀ c ∈ r.2, cellB c = true
  nd : (ids rows).Nodup
theorem rows_find {rows : Rows} {id : Int} (h : id ∈ ids rows) : ∃ r ∈ rows, r.1 = id ∧ cellsOf rows id = r.2 ∧ valD (rowsK rows) (.inl id) = some (.tuple r.2) := by
  induction rows with
  | nil => simp [ids] at h
  | cons r rs ih =>
    by_cases e : r.1 = id
    · exact ⟨r, List.mem_cons_self, e, by simp [cellsOf, e], by simp [valD, rowsK, e]⟩
    · have h' : id ∈ ids rs := by
        simp only [ids, List.map_cons, List.mem_cons] at h
        rcases h with h | h
        · exact absurd h.symm e
        · exact h
      obtain ⟨r', h1, h2, h3, h4⟩ := ih h'
      refine ⟨r', List.mem_cons_of_mem _ h1, h2, ?_, ?_⟩
      · rw [← h3]; simp [cellsOf, List.find?_cons, e]
      · rw [← h4]; simp [valD, rowsK, List.find?_cons, e]
theorem rows_val {rows : Rows} {id : Int} (h : id ∈ ids rows) : valD (rowsK rows) (.inl id) = some (.tuple (cellsOf rows id)) := by
  obtain ⟨r, _, _, e1, e2⟩ := rows_find h
  rw [e1, e2]
theorem rows_len {rows : Rows} {w : Nat} (R : RowsOk rows w) {id : Int} (h : id ∈ ids rows) : (cellsOf rows id).length = w := by
  obtain ⟨r, h1, _, e1, _⟩ := rows_find h
  rw [e1]
  exact (R.row r h1).1
theorem rows_cell {rows : Rows} {w : Nat} (R : RowsOk rows w) {id : Int} (h : id ∈ ids rows) {c : Nat} (hc : c < w) : cellB (cell rows id c) = true := by
  obtain ⟨r, h1, _, e1, _⟩ := rows_find h
  unfold cell at_
  rw [e1, List.getD_eq_getElem?_getD, List.getElem?_eq_getElem (by rw [(R.row r h1).1]; exact hc)]
  exact (R.row r h1).2 _ (List.getElem_mem _)
section
variable {G : Gc} {k : Nat} {X : Cx} {L : List Slot} {a b c e : Expr} {pos : Pos}
/-- rows[id][column] -/
theorem je_cell {rows : Rows} {w : Nat} (R : RowsOk rows w) {id : Int} {n : Nat} (hi : id ∈ ids rows) (hn : n < w) {p2 : Pos} (ha : JE G k X L a (isDic (rowsK rows))) (hb : JE G k X L b (isI id)) (hc : JE G k X L c (isI n)) (hs : NoSl b := by exact fun _ _ => rfl) (hs2 : PlainIx c := by intro _ _; rfl) :
    JE G k X L (.Subscript (.Subscript a b p2) c pos) (isD (cell rows id n)) := je_ixT (atI_at (by rw [rows_len R hi]; exact hn)) (je_dget (key := .inl id) rfl (rows_val hi) ha hb hs) hc hs2
/-! ### a > b of data -/
theorem op_gtD (hu : X.A.units + 64 < cLine) : OpR X (compareOp .Gt) (fun x y H Q => ∃ d e, Dp X.K H x d ∧ Dp X.K H y e ∧ PySem.W.alike d e = true ∧ d ≠ .none ∧ d.depth ≤ 60 ∧ Q (.bl (PySem.W.dataLt e d)) H) := by
  intro pins s σ H x y v u Q I rx ry ⟨d, e, hd, he, al, hn, dp, q⟩
  obtain ⟨as, r1⟩ := Dp.reads I d x v hd rx
  obtain ⟨bs, r2⟩ := Dp.reads I e y u he ry
  exact PySem.W.gt_data r1 r2 al hn (by omega) ⟨.bl _, H, I, rfl, q⟩
theorem je_gtD {d e : PyData} (al : PySem.W.alike d e = true) (hn : d ≠ .none) (dp : d.depth ≤ 60) (ha : JE G k X L a (isD d)) (hb : JE G k X L b (isD e)) : JE G k X L (.Compare a [.Gt] [b] pos) (isB (PySem.W.dataLt e d)) :=
  je_cmp (fun C => op_gtD C.hu64) (rd_val fun x y F H Q s p1 p2 q => ⟨d, e, da_dp s _ _ p1, da_dp s _ _ p2, al, hn, dp, q _ (.bl _)⟩) ha hb (nomark _)
end
theorem mKey_tup {c : PyData} (h : cellB c = true) : ∃ i j s, mKey c = .tuple [.int i, .int j, .str s] ∧ PyData.strOk s = true := by
  cases c <;> first | exact ⟨_, _, _, rfl, h⟩ | exact ⟨_, _, _, rfl, by first | rfl | decide +kernel⟩ | cases h
theorem alike_key {c d : PyData} (h : cellB c = true) (h' : cellB d = true) : PySem.W.alike (mKey c) (mKey d) = true := by
  obtain ⟨i, j, s, e, hs⟩ := mKey_tup h
  obtain ⟨i', j', s', e', _⟩ := mKey_tup h'
  rw [e, e']
  simp [PySem.W.alike, PySem.W.alikeAll]
theorem key_shaped {c : PyData} (h : cellB c = true) : SeqAt.shaped (mKey c) = true := by
  obtain ⟨i, j, s, e, hs⟩ := mKey_tup h
  rw [e]
  simp [SeqAt.shaped, PyData.canLay0, PyData.canLayAll0, PyData.depth, PyData.depthAll, hs]
theorem key_depth {c : PyData} (h : cellB c = true) : (mKey c).depth ≤ 60 := by
  obtain ⟨i, j, s, e, hs⟩ := mKey_tup h
  rw [e]
  simp [PyData.depth, PyData.depthAll]
theorem key_ne {c : PyData} (h : cellB c = true) : mKey c ≠ .none := by
  obtain ⟨i, j, s, e, _⟩ := mKey_tup h
  rw [e]
  exact fun z => nomatch z
/-! ### _law_ahead -/
def mAhead (cell : Int → Nat → PyData) : List (Nat × Bool) → Int → Int → Bool
  | [], one, other => decide (one < other)
  | (c, down) :: ks, one, other => if PyData.eqv (mKey (cell one c)) (mKey (cell other c)) = true then mAhead cell ks one other else PyData.eqv (.bool (PySem.W.dataLt (mKey (cell other c)) (mKey (cell one c)))) (.bool down)
section
variable {G : Gc}
structure IAhead where
  rows : Rows
  w : Nat
  keys : List (Nat × Bool)
  one : Int
  other : Int
structure IAhead.Ok (i : IAhead) : Prop where
  r : RowsOk i.rows i.w
  k : i.keys.length ≤ 100
  kc : ∀ c ∈ i.keys, c.1 < i.w
  h1 : i.one ∈ ids i.rows
  h2 : i.other ∈ ids i.rows
abbrev spAhead (G : Gc) : Sp := SpF G.T (fun i : IAhead => i.Ok) (fun i => [isDic (rowsK i.rows), isD (.list (keysD i.keys)), isI i.one, isI i.other]) (fun i => isB (mAhead (cell i.rows) i.keys i.one i.other))
theorem sc27 : FnScope ["_law_rows_here", "_law_keys", "_law_one", "_law_other", "_law_column", "_law_down", "_law_first", "_law_second"] ["_law_rows_here", "_law_keys", "_law_one", "_law_other"] (defScope (top 27)) := ⟨rfl, rfl, rfl, by decide +kernel, rfl, by decide +kernel, by decide +kernel⟩
theorem ok27 (B : Bt G) (hR : Fn G "_law_rank" 1 (spKey G)) {f : Addr} {fd : FuncData} (F : Fun G.K "_law_ahead" "_law_ahead" (top 27) f fd) : FnOk G.P G.w G.K G.mg G.base CX0 2 f fd ["_law_rows_here", "_law_keys", "_law_one", "_law_other"] (spAhead G) := by
  refine fn_ok (k := 1) F sc27 (fun _ => rfl) ?_
  rintro ⟨rows, w, keys, one, other⟩ ⟨r, kl, kc, h1, h2⟩ cdv A outer s H E
  dsimp only at *
  let fact : Nat → Prop := fun i => mAhead (cell rows) keys one other = mAhead (cell rows) (keys.drop i) one other
  let Inv : Nat → List Slot := fun i => [.p (isDic (rowsK rows)), .p (wi (isD (.list (keysD keys))) (fact i)), .p (isI one), .p (isI other), .no, .no, .no, .no]
  refine js_cons (js_forL (xs := keys) (P := fun c => isD (.tuple [.int c.1, .bool c.2])) (is := [4, 5]) (Ps := fun c => [isI c.1, isB c.2]) Inv (je_seqL (je_var 1) rfl) (ent_wi 1 rfl) ⟨fun c hc => jg_tupD (jgs_name 4 (jgs_name 5 jgs_nil)), fun i c hc => ⟨Inv (i + 1), ?_, Ent.refl _⟩⟩) ?_
  · have hm := List.mem_of_getElem? hc
    have hd : keys.drop i = c :: keys.drop (i + 1) := by
      obtain ⟨hl, e⟩ := List.getElem?_eq_some_iff.mp hc
      rw [List.drop_eq_getElem_cons hl, e]
    have b1 := rows_cell r h1 (kc c hm)
    have b2 := rows_cell r h2 (kc c hm)
    walk_at "norm"
    refine js_pure 1 fun hf => ?_
    walk_at "norm"
    refine js_cons (js_asg 6 (je_call hR (cell rows one c.1) b1 (ja_cons (je_cell r h1 (kc c hm) (je_var 0) (je_var 2) (je_var 4)) ja_nil))) ?_
    walk_at "norm"
    refine js_cons (js_asg 7 (je_call hR (cell rows other c.1) b2 (ja_cons (je_cell r h2 (kc c hm) (je_var 0) (je_var 3) (je_var 4)) ja_nil))) ?_
    walk_at "norm"
    cases hq : PyData.eqv (mKey (cell rows one c.1)) (mKey (cell rows other c.1)) with
    | false =>
      refine js_end (js_if (JT.is (d' := true) (jt_ne (key_shaped b1) (key_shaped b2) (je_var 6) (je_var 7)) (by rw [hq]; rfl)) (fun _ => js_rt ?_) no_ft)
      have e1 : mAhead (cell rows) keys one other = PyData.eqv (.bool (PySem.W.dataLt (mKey (cell rows other c.1)) (mKey (cell rows one c.1)))) (.bool c.2) := by
        rw [show mAhead (cell rows) keys one other = _ from hf, hd]
        simp [mAhead, hq]
      rw [e1]
      exact je_eq rfl rfl (je_gtD (alike_key b1 b2) (key_ne b1) (key_depth b1) (je_var 6) (je_var 7)) (je_var 5)
    | true =>
      refine js_cons (js_if (JT.is (d' := false) (jt_ne (key_shaped b1) (key_shaped b2) (je_var 6) (je_var 7)) (by rw [hq]; rfl)) no_tf fun _ => js_nil) (JSs.out js_nil ?_)
      have e1 : fact (i + 1) := by
        show mAhead (cell rows) keys one other = _
        rw [show mAhead (cell rows) keys one other = _ from hf, hd]
        simp [mAhead, hq]
      exact (ent_wi 1 e1).trans ((ent_drop 4).trans ((ent_drop 5).trans ((ent_drop 6).trans (ent_drop 7))))
  · walk_at "norm"
    refine js_pure 1 fun hf => js_rt ?_
    have e1 : mAhead (cell rows) keys one other = decide (one < other) := by
      rw [show mAhead (cell rows) keys one other = _ from hf, List.drop_length]
      rfl
    rw [e1]
    exact je_lt (je_var 2) (je_var 3)
end
end K27
namespace K27
open PySem L2 LamX
local macro_rules | `(tactic| walk_at "norm") => `(tactic| refine JSs.norm (by dsimp only [setsL, wipeL, initL, List.set, List.map, List.append, List.replicate, List.length, HAppend.hAppend, Append.append]) ?_)
theorem eqv_int (a b : Int) : PyData.eqv (.int a) (.int b) = decide (a = b) := by
  rw [PyData.eqv]
  exact Bool.beq_eq_decide_eq a b
theorem shaped_int (a : Int) : SeqAt.shaped (.int a) = true := by simp [SeqAt.shaped, PyData.canLay0, PyData.depth]
theorem cell_lay {d : PyData} (h : cellB d = true) : d.canLay0 = true ∧ d.depth = 0 := by
  cases d <;> first | (simp [PyData.canLay0, PyData.depth]; done) | (simpa [PyData.canLay0, PyData.depth, cellB] using h) | cases h
theorem cells_lay : ∀ {ds : List PyData}, ds.all cellB = true → PyData.canLayAll0 ds = true ∧ PyData.depthAll ds = 0
  | [], _ => by simp [PyData.canLayAll0, PyData.depthAll]
  | d :: ds, h => by
    simp only [List.all_cons, Bool.and_eq_true] at h
    obtain ⟨h1, h2⟩ := cell_lay h.1
    obtain ⟨h3, h4⟩ := cells_lay h.2
    simp [PyData.canLayAll0, PyData.depthAll, h1, h2, h3, h4]
theorem cells_shapedL {ds : List PyData} (h : ds.all cellB = true) : SeqAt.shaped (.list ds) = true := by
  obtain ⟨h1, h2⟩ := cells_lay h
  simp [SeqAt.shaped, PyData.canLay0, PyData.depth, h1, h2]
theorem cells_shapedT {ds : List PyData} (h : ds.all cellB = true) : SeqAt.shaped (.tuple ds) = true := by
  obtain ⟨h1, h2⟩ := cells_lay h
  simp [SeqAt.shaped, PyData.canLay0, PyData.depth, h1, h2]
/-! ### _law_place -/
def mPlace (cell : Int → Nat → PyData) (keys : List (Nat × Bool)) (ids : List Int) (one : Int) : Nat := (ids.filter fun o => !decide (o = one) && mAhead cell keys o one).length
structure IPlace where
  rows : Rows
  w : Nat
  keys : List (Nat × Bool)
  lst : List Int
  one : Int
structure IPlace.Ok (i : IPlace) : Prop where
  r : RowsOk i.rows i.w
  k : i.keys.length ≤ 100
  kc : ∀ c ∈ i.keys, c.1 < i.w
  l : i.lst.length ≤ 100
  h : ∀ x ∈ i.lst, x ∈ ids i.rows
  h1 : i.one ∈ ids i.rows
def intsD (l : List Int) : PyData := .list (l.map .int)
section
variable {G : Gc}
abbrev spPlace (G : Gc) : Sp := SpF G.T (fun i : IPlace => i.Ok) (fun i => [isDic (rowsK i.rows), isD (.list (keysD i.keys)), isD (intsD i.lst), isI i.one]) (fun i => isI (mPlace (cell i.rows) i.keys i.lst i.one : Nat))
theorem sc28 : FnScope ["_law_rows_here", "_law_keys", "_law_ids", "_law_one", "_law_other"] ["_law_rows_here", "_law_keys", "_law_ids", "_law_one"] (defScope (top 28)) := ⟨rfl, rfl, rfl, by decide +kernel, rfl, by decide +kernel, by decide +kernel⟩
theorem ok28 (B : Bt G) (hA : Fn G "_law_ahead" 2 (spAhead G)) {f : Addr} {fd : FuncData} (F : Fun G.K "_law_place" "_law_place" (top 28) f fd) : FnOk G.P G.w G.K G.mg G.base CX0 3 f fd ["_law_rows_here", "_law_keys", "_law_ids", "_law_one"] (spPlace G) := by
  refine fn_ok (k := 2) F sc28 (fun _ => rfl) ?_
  rintro ⟨rows, w, keys, l, one⟩ ⟨r, kl, kc, ll, hl, h1⟩ cdv A outer s H E
  dsimp only at *
  refine js_rt (JE.is (je_lenL B.len (je_lcL1 (xs := l) (d := PyData.int) (own := [("_law_other", 4)]) (is := [4]) (Ps := fun n => [isI n]) (y := PyData.int) (f := fun o => !decide (o = one) && mAhead (cell rows) keys o one) (je_var 2)
    (blk1 (by decide) (fun x hx s H C cl fp => jg_name 4) (fun x hx s H C cl fp => jw_pt (jw_and ((jt_ne (shaped_int _) (shaped_int _) (je_var 4) (je_var 3)).is (by rw [eqv_int])) fun _ => jw_and1 (jt_val (je_call hA ⟨rows, w, keys, x, one⟩ ⟨r, kl, kc, hl x hx, h1⟩ (ja_cons (je_var 0) (ja_cons (je_var 1) (ja_cons (je_var 4) (ja_cons (je_var 3) ja_nil)))))))) fun x hx _ s H C cl fp => je_var 4) (Nat.le_trans ll (by decide)))) ?_)
  simp [mPlace]
/-! ### _law_peers -/
def mPeers (cell : Int → Nat → PyData) (keys : List (Nat × Bool)) (one other : Int) : Bool := PyData.eqv (.list (keys.map fun c => cell one c.1)) (.list (keys.map fun c => cell other c.1))
abbrev spPeers (G : Gc) : Sp := SpF G.T (fun i : IAhead => i.Ok) (fun i => [isDic (rowsK i.rows), isD (.list (keysD i.keys)), isI i.one, isI i.other]) (fun i => isB (mPeers (cell i.rows) i.keys i.one i.other))
theorem sc30 : FnScope ["_law_rows_here", "_law_keys", "_law_one", "_law_other", "_law_column", "_law_down"] ["_law_rows_here", "_law_keys", "_law_one", "_law_other"] (defScope (top 30)) := ⟨rfl, rfl, rfl, by decide +kernel, rfl, by decide +kernel, by decide +kernel⟩
theorem all_cells {rows : Rows} {w : Nat} (r : RowsOk rows w) {id : Int} (h : id ∈ ids rows) {α : Type} {cs : List α} {n : α → Nat} (hc : ∀ c ∈ cs, n c < w) : (cs.map fun c => cell rows id (n c)).all cellB = true := by
  rw [List.all_eq_true]
  intro x hx
  obtain ⟨c, hm, rfl⟩ := List.mem_map.mp hx
  exact rows_cell r h (hc c hm)
theorem ok30 (B : Bt G) {f : Addr} {fd : FuncData} (F : Fun G.K "_law_peers" "_law_peers" (top 30) f fd) : FnOk G.P G.w G.K G.mg G.base CX0 1 f fd ["_law_rows_here", "_law_keys", "_law_one", "_law_other"] (spPeers G) := by
  refine fn_ok (k := 0) F sc30 (fun _ => rfl) ?_
  rintro ⟨rows, w, keys, one, other⟩ ⟨r, kl, kc, h1, h2⟩ cdv A outer s H E
  dsimp only at *
  refine js_rt (je_eq (cells_shapedL (all_cells r h1 kc)) (cells_shapedL (all_cells r h2 kc)) ?_ ?_)
  · exact je_lcL0 (xs := keys) (d := fun c => .tuple [.int c.1, .bool c.2]) (own := [("_law_column", 4), ("_law_down", 5)]) (is := [4, 5]) (Ps := fun c => [isI c.1, isB c.2]) (y := fun c => cell rows one c.1) (je_var 1)
      (blk0 (by decide) (fun x hx s H C cl fp => jg_tupD (jgs_name 4 (jgs_name 5 jgs_nil))) fun x hx s H C cl fp => je_cell r h1 (kc x hx) (je_var 0) (je_var 2) (je_var 4)) (Nat.le_trans kl (by decide))
  · exact je_lcL0 (xs := keys) (d := fun c => .tuple [.int c.1, .bool c.2]) (own := [("_law_column", 4), ("_law_down", 5)]) (is := [4, 5]) (Ps := fun c => [isI c.1, isB c.2]) (y := fun c => cell rows other c.1) (je_var 1)
      (blk0 (by decide) (fun x hx s H C cl fp => jg_tupD (jgs_name 4 (jgs_name 5 jgs_nil))) fun x hx s H C cl fp => je_cell r h2 (kc x hx) (je_var 0) (je_var 3) (je_var 4)) (Nat.le_trans kl (by decide))
/-! ### bounds -/
inductive Bnd where
  | start | ende | current
  | before (d : Int) | after (d : Int)
def Bnd.D : Bnd → PyData
  | .start => .tuple [.str "start"]
  | .ende => .tuple [.str "end"]
  | .current => .tuple [.str "current"]
  | .before d => .tuple [.str "before", .int d]
  | .after d => .tuple [.str "after", .int d]
def mFrom : Bnd → Int → Int → Bool
  | .start, _, _ => true
  | .before d, one, other => decide (one ≤ other + d)
  | .current, one, other => decide (one ≤ other)
  | .after d, one, other => decide (one + d ≤ other)
  | .ende, _, _ => false
def mUntil : Bnd → Int → Int → Bool
  | .ende, _, _ => true
  | .before d, one, other => decide (other + d ≤ one)
  | .current, one, other => decide (other ≤ one)
  | .after d, one, other => decide (other ≤ one + d)
  | .start, _, _ => false
abbrev spFrom (G : Gc) : Sp := SpF G.T (fun i : Bnd × Int × Int => i.1 ≠ .ende) (fun i => [isD i.1.D, isI i.2.1, isI i.2.2]) (fun i => isB (mFrom i.1 i.2.1 i.2.2))
abbrev spUntil (G : Gc) : Sp := SpF G.T (fun i : Bnd × Int × Int => i.1 ≠ .start) (fun i => [isD i.1.D, isI i.2.1, isI i.2.2]) (fun i => isB (mUntil i.1 i.2.1 i.2.2))
theorem sc31 : FnScope ["_law_bound_here", "_law_one", "_law_other"] ["_law_bound_here", "_law_one", "_law_other"] (defScope (top 31)) := ⟨rfl, rfl, rfl, by decide +kernel, rfl, by decide +kernel, by decide +kernel⟩
theorem sc32 : FnScope ["_law_bound_here", "_law_one", "_law_other"] ["_law_bound_here", "_law_one", "_law_other"] (defScope (top 32)) := ⟨rfl, rfl, rfl, by decide +kernel, rfl, by decide +kernel, by decide +kernel⟩
end
theorem atI0 {d : PyData} {ds : List PyData} : atI (d :: ds) 0 = some d := atI_nat (j := 0) rfl
theorem atI1 {d d' : PyData} {ds : List PyData} : atI (d :: d' :: ds) 1 = some d' := atI_nat (j := 1) rfl
section
variable {G : Gc} {k : Nat} {X : Cx} {L : List Slot} {a b c e : Expr} {pos : Pos}
/-- x[0] == 'word' -/
theorem jt_word {t u : Str} {r : Bool} {ds : List PyData} {i0 p0 p1 p2 j} (ht : SeqAt.shaped (.str t) = true) (hu : SeqAt.shaped (.str u) = true) (hr : PyData.eqv (.str t) (.str u) = r) (ha : JE G k X L a (isD (.tuple (.str t :: ds)))) : JT G k X L (.Compare (.Subscript a (.Constant (.int 0) i0 p0) p1) [.Eq] [.Constant (.str u) j p2] pos) r :=
  (jt_eq ht hu (je_ixT atI0 ha je_int) je_str).is hr
end
section
variable {G : Gc}
theorem ok31 {f : Addr} {fd : FuncData} (F : Fun G.K "_law_from" "_law_from" (top 31) f fd) : FnOk G.P G.w G.K G.mg G.base CX0 1 f fd ["_law_bound_here", "_law_one", "_law_other"] (spFrom G) := by
  refine fn_ok (k := 0) F sc31 (fun _ => rfl) ?_
  rintro ⟨bd, one, other⟩ hb cdv A outer s H E
  cases bd with
  | ende => exact absurd rfl hb
  | start => exact js_end (js_if (jt_word (t := "start") (r := true) (by decide +kernel) (by decide +kernel) (by decide +kernel) (je_var 0)) (fun _ => js_rt je_bool) no_ft)
  | before d => exact js_cons (js_if (jt_word (t := "before") (r := false) (by decide +kernel) (by decide +kernel) (by decide +kernel) (je_var 0)) no_tf fun _ => js_nil) (js_end (js_if (jt_word (t := "before") (r := true) (by decide +kernel) (by decide +kernel) (by decide +kernel) (je_var 0)) (fun _ => js_rt (je_le (je_var 1) (je_add (je_var 2) (je_ixT atI1 (je_var 0) je_int)))) no_ft))
  | current => exact js_cons (js_if (jt_word (t := "current") (r := false) (by decide +kernel) (by decide +kernel) (by decide +kernel) (je_var 0)) no_tf fun _ => js_nil) (js_cons (js_if (jt_word (t := "current") (r := false) (by decide +kernel) (by decide +kernel) (by decide +kernel) (je_var 0)) no_tf fun _ => js_nil)
      (js_end (js_if (jt_word (t := "current") (r := true) (by decide +kernel) (by decide +kernel) (by decide +kernel) (je_var 0)) (fun _ => js_rt (je_le (je_var 1) (je_var 2))) no_ft)))
  | after d => exact js_cons (js_if (jt_word (t := "after") (r := false) (by decide +kernel) (by decide +kernel) (by decide +kernel) (je_var 0)) no_tf fun _ => js_nil) (js_cons (js_if (jt_word (t := "after") (r := false) (by decide +kernel) (by decide +kernel) (by decide +kernel) (je_var 0)) no_tf fun _ => js_nil)
      (js_cons (js_if (jt_word (t := "after") (r := false) (by decide +kernel) (by decide +kernel) (by decide +kernel) (je_var 0)) no_tf fun _ => js_nil) (js_rt (je_le (je_add (je_var 1) (je_ixT atI1 (je_var 0) je_int)) (je_var 2)))))
theorem ok32 {f : Addr} {fd : FuncData} (F : Fun G.K "_law_until" "_law_until" (top 32) f fd) : FnOk G.P G.w G.K G.mg G.base CX0 1 f fd ["_law_bound_here", "_law_one", "_law_other"] (spUntil G) := by
  refine fn_ok (k := 0) F sc32 (fun _ => rfl) ?_
  rintro ⟨bd, one, other⟩ hb cdv A outer s H E
  cases bd with
  | start => exact absurd rfl hb
  | ende => exact js_end (js_if (jt_word (t := "end") (r := true) (by decide +kernel) (by decide +kernel) (by decide +kernel) (je_var 0)) (fun _ => js_rt je_bool) no_ft)
  | before d => exact js_cons (js_if (jt_word (t := "before") (r := false) (by decide +kernel) (by decide +kernel) (by decide +kernel) (je_var 0)) no_tf fun _ => js_nil) (js_end (js_if (jt_word (t := "before") (r := true) (by decide +kernel) (by decide +kernel) (by decide +kernel) (je_var 0)) (fun _ => js_rt (je_le (je_add (je_var 2) (je_ixT atI1 (je_var 0) je_int)) (je_var 1))) no_ft))
  | current => exact js_cons (js_if (jt_word (t := "current") (r := false) (by decide +kernel) (by decide +kernel) (by decide +kernel) (je_var 0)) no_tf fun _ => js_nil) (js_cons (js_if (jt_word (t := "current") (r := false) (by decide +kernel) (by decide +kernel) (by decide +kernel) (je_var 0)) no_tf fun _ => js_nil)
      (js_end (js_if (jt_word (t := "current") (r := true) (by decide +kernel) (by decide +kernel) (by decide +kernel) (je_var 0)) (fun _ => js_rt (je_le (je_var 2) (je_var 1))) no_ft)))
  | after d => exact js_cons (js_if (jt_word (t := "after") (r := false) (by decide +kernel) (by decide +kernel) (by decide +kernel) (je_var 0)) no_tf fun _ => js_nil) (js_cons (js_if (jt_word (t := "after") (r := false) (by decide +kernel) (by decide +kernel) (by decide +kernel) (je_var 0)) no_tf fun _ => js_nil)
      (js_cons (js_if (jt_word (t := "after") (r := false) (by decide +kernel) (by decide +kernel) (by decide +kernel) (je_var 0)) no_tf fun _ => js_nil) (js_rt (je_le (je_var 2) (je_add (je_var 1) (je_ixT atI1 (je_var 0) je_int))))))
end
end K27
namespace K27
open PySem L2 LamX
local macro_rules | `(tactic| walk_at "norm") => `(tactic| refine JSs.norm (by dsimp only [setsL, wipeL, initL, List.set, List.map, List.append, List.replicate, List.length, HAppend.hAppend, Append.append]) ?_)
section
variable {G : Gc} {k : Nat} {X : Cx} {L : List Slot} {a b c e : Expr} {pos : Pos} {R : SP}
theorem js_ifAsg (i : Nat) {x : Str} {pos' pos2 : Pos} {t : Bool} {d0 d1 : PyData} (hc : JT G k X L c t) (he : t = true → JE G k X L e (isD d1)) (h0 : slot L i = .p (isD d0) := by rfl) (hi : X.N[i]? = some x := by rfl) (hx : Loc X.env.scope x := by first | exact Or.inl rfl | exact Or.inr rfl) (hs : swapsWith e (some (.Name x pos')) pos2.line X.env = pure false := by rfl)
    (hf : X.fn x = true ∨ X.env.scope.names.lookup x = some .local := by first | exact .inl rfl | exact .inr rfl) : JS G k X L (.If c [.Assign [.Name x pos'] e pos2] [] pos) R (some (L.set i (.p (isD (if t = true then d1 else d0))))) := by
  cases t with
  | true => exact js_if hc (fun _ => js_cons (js_asg i (he rfl) hi hx hs hf) js_nil) no_ft
  | false => exact js_if hc no_tf fun _ => js_nil.out (ent_weak i (slot_p h0) fun v F p => p)
theorem rd_inF {K : PySem.W.Frag} {d : PyData} {ds : List PyData} (hd : flatD d = true) (hs : ds.all flatD = true) : RD2 G (rIn K false) (isD d) (isD (.tuple ds)) (isB (ds.any fun z => PyData.eqv z d)) := rd_val fun x y F H Q s p1 p2 q => by
  obtain ⟨ad, xs, rfl, h1, d1⟩ := da_tup p2
  refine ⟨ad, xs, rfl, .inr (h1.sq s), da_flat p1 hd, das_flat d1 hs, ?_⟩
  have e : inV x xs = ds.any fun z => PyData.eqv z d := any_eqV p1 hd d1 hs
  rw [if_neg Bool.false_ne_true, e]
  exact q _ (.bl _)
where any_eqV {F : Hp} {x : V} {d : PyData} (p1 : Da F x d) (hd : flatD d = true) : ∀ {xs : List V} {ds : List PyData}, Das F xs ds → ds.all flatD = true → (xs.any fun y => eqV y x) = ds.any fun z => PyData.eqv z d
  | _, _, .nil, _ => rfl
  | _, _, .cons h t, hs => by
    simp only [List.all_cons, Bool.and_eq_true] at hs
    simp only [List.any_cons, da_eqV h p1 hs.1 hd, any_eqV p1 hd t hs.2]
theorem rd_ninF {K : PySem.W.Frag} {d : PyData} {ds : List PyData} (hd : flatD d = true) (hs : ds.all flatD = true) : RD2 G (rIn K true) (isD d) (isD (.tuple ds)) (isB (!ds.any fun z => PyData.eqv z d)) := rd_val fun x y F H Q s p1 p2 q => by
  obtain ⟨ad, xs, rfl, h1, d1⟩ := da_tup p2
  refine ⟨ad, xs, rfl, .inr (h1.sq s), da_flat p1 hd, das_flat d1 hs, ?_⟩
  have e : inV x xs = ds.any fun z => PyData.eqv z d := rd_inF.any_eqV p1 hd d1 hs
  rw [if_pos rfl, e]
  exact q _ (.bl _)
theorem jt_inT {d : PyData} {ds : List PyData} {r : Bool} (hd : flatD d = true) (hs : ds.all flatD = true) (hr : (ds.any fun z => PyData.eqv z d) = r) (ha : JE G k X L a (isD d)) (hb : JE G k X L b (isD (.tuple ds))) (hm : behindInMarks .In b = false := by rfl) : JT G k X L (.Compare a [.In] [b] pos) r := (jt_cmp (fun _ => op_in_seq) (rd_inF hd hs) ha hb hm).is hr
theorem jt_ninT {d : PyData} {ds : List PyData} {r : Bool} (hd : flatD d = true) (hs : ds.all flatD = true) (hr : (!ds.any fun z => PyData.eqv z d) = r) (ha : JE G k X L a (isD d)) (hb : JE G k X L b (isD (.tuple ds))) (hm : behindInMarks .NotIn b = false := by rfl) : JT G k X L (.Compare a [.NotIn] [b] pos) r := (jt_cmp (fun _ => op_notIn_seq) (rd_ninF hd hs) ha hb hm).is hr
end
/-! ### _law_look -/
def mLook (at_ : Nat) (b : Bnd) (one other : Int) : Bool := if at_ = 0 then mFrom b one other else mUntil b one other
def BndOk (at_ : Nat) (b : Bnd) : Prop := (at_ = 0 ∧ b ≠ .ende) ∨ (at_ = 1 ∧ b ≠ .start)
/-! ### _law_group -/
def grpStep (p : Int → Int → Bool) (st : Int × Option Int) (o : Int) : Int × Option Int := (if (match st.2 with | none => true | some l => !p l o) = true then st.1 + 1 else st.1, some o)
def grpAux (p : Int → Int → Bool) : List Int → Int × Option Int → Int → Int
  | [], st, _ => st.1
  | o :: os, st, one => if o = one then (grpStep p st o).1 else grpAux p os (grpStep p st o) one
def mGroup (cell : Int → Nat → PyData) (keys : List (Nat × Bool)) (order : List Int) (one : Int) : Int := grpAux (mPeers cell keys) order (-1, none) one
section
variable {G : Gc}
abbrev spLook (G : Gc) : Sp := SpF G.T (fun i : Nat × Bnd × Int × Int => BndOk i.1 i.2.1) (fun i => [isI (i.1 : Nat), isD i.2.1.D, isI i.2.2.1, isI i.2.2.2]) (fun i => isB (mLook i.1 i.2.1 i.2.2.1 i.2.2.2))
theorem sc34 : FnScope ["_law_at", "_law_bound_here", "_law_one", "_law_other"] ["_law_at", "_law_bound_here", "_law_one", "_law_other"] (defScope (top 34)) := ⟨rfl, rfl, rfl, by decide +kernel, rfl, by decide +kernel, by decide +kernel⟩
theorem ok34 (hF : Fn G "_law_from" 1 (spFrom G)) (hU : Fn G "_law_until" 1 (spUntil G)) {f : Addr} {fd : FuncData} (F : Fun G.K "_law_look" "_law_look" (top 34) f fd) : FnOk G.P G.w G.K G.mg G.base CX0 2 f fd ["_law_at", "_law_bound_here", "_law_one", "_law_other"] (spLook G) := by
  refine fn_ok (k := 1) F sc34 (fun _ => rfl) ?_
  rintro ⟨n, bd, one, other⟩ hb cdv A outer s H E
  rcases hb with ⟨h0, hb⟩ | ⟨h0, hb⟩
  · dsimp only at h0; subst h0
    exact js_end (js_if (JT.is (d' := true) (jt_eq (shaped_int _) (shaped_int _) (je_var 0) je_int) (by rw [eqv_int]; rfl)) (fun _ => js_rt (je_call hF (bd, one, other) hb (ja_cons (je_var 1) (ja_cons (je_var 2) (ja_cons (je_var 3) ja_nil))))) no_ft)
  · dsimp only at h0; subst h0
    exact js_cons (js_if (JT.is (d' := false) (jt_eq (shaped_int _) (shaped_int _) (je_var 0) je_int) (by rw [eqv_int]; rfl)) no_tf fun _ => js_nil) (js_rt (je_call hU (bd, one, other) hb (ja_cons (je_var 1) (ja_cons (je_var 2) (ja_cons (je_var 3) ja_nil)))))
abbrev spGroup (G : Gc) : Sp := SpF G.T (fun i : IPlace => i.Ok) (fun i => [isDic (rowsK i.rows), isD (.list (keysD i.keys)), isD (intsD i.lst), isI i.one]) (fun i => isI (mGroup (cell i.rows) i.keys i.lst i.one))
theorem sc33 : FnScope ["_law_rows_here", "_law_keys", "_law_order", "_law_one", "_law_found", "_law_last", "_law_other"] ["_law_rows_here", "_law_keys", "_law_order", "_law_one"] (defScope (top 33)) := ⟨rfl, rfl, rfl, by decide +kernel, rfl, by decide +kernel, by decide +kernel⟩
theorem je_neg {k : Nat} {X : Cx} {L : List Slot} {a : Expr} {pos : Pos} {i : Int} (ha : JE G k X L a (isI i)) : JE G k X L (.UnaryOp .USub a pos) (isI (-i)) := fun C => (pe_un un_neg (ha C)).imp fun σ H Q ⟨F, s, t, E, q⟩ => ⟨F, s, t, E, fun v F1 H1 st1 p1 => ⟨i, da_int p1, q _ F1 H1 st1 (.int _)⟩⟩
theorem ok33 (B : Bt G) (hP : Fn G "_law_peers" 1 (spPeers G)) {f : Addr} {fd : FuncData} (F : Fun G.K "_law_group" "_law_group" (top 33) f fd) : FnOk G.P G.w G.K G.mg G.base CX0 2 f fd ["_law_rows_here", "_law_keys", "_law_order", "_law_one"] (spGroup G) := by
  refine fn_ok (k := 1) F sc33 (fun _ => rfl) ?_
  rintro ⟨rows, w, keys, order, one⟩ ⟨r, kl, kc, ll, hl, h1⟩ cdv A outer s H E
  dsimp only at *
  let p := mPeers (cell rows) keys
  let st : Nat → Int × Option Int := fun i => (order.take i).foldl (grpStep p) (-1, none)
  have st_succ : ∀ i x, order[i]? = some x → st (i + 1) = grpStep p (st i) x := fun i x hx => by
    show (order.take (i + 1)).foldl _ _ = _
    rw [List.take_add_one, hx, List.foldl_append]
    rfl
  have st_some : ∀ i x, (st i).2 = some x → x ∈ order := fun i => by
    induction i with
    | zero => intro x h; cases h
    | succ i ih =>
      intro x h
      cases hx : order[i]? with
      | none =>
        have e : order.take (i + 1) = order.take i := by rw [List.take_add_one, hx]; simp
        refine ih x ?_
        show ((order.take i).foldl (grpStep p) (-1, none)).2 = _
        rw [← e]; exact h
      | some y =>
        rw [st_succ i y hx] at h
        cases h
        exact List.mem_of_getElem? hx
  let fact : Nat → Prop := fun i => mGroup (cell rows) keys order one = grpAux p (order.drop i) (st i) one
  let Inv : Nat → List Slot := fun i => [.p (isDic (rowsK rows)), .p (isD (.list (keysD keys))), .p (wi (isD (intsD order)) (fact i)), .p (isI one), .p (isI (st i).1), .p (isD (oI (st i).2)), .no]
  refine js_cons (js_asg 4 (je_neg je_int)) ?_
  walk_at "norm"
  refine js_cons (js_asg 5 je_none) ?_
  walk_at "norm"
  refine js_cons (js_forL (xs := order) (P := fun c => isI c) (is := [6]) (Ps := fun c => [isI c]) Inv (je_seqL (je_var 2) rfl) ((ent_wi 2 (show fact 0 from rfl)).trans (Ent.refl _)) ⟨fun c hc => jg_name 6, fun i x hx => ⟨Inv (i + 1), ?_, Ent.refl _⟩⟩) ?_
  · have hm := List.mem_of_getElem? hx
    have hd : order.drop i = x :: order.drop (i + 1) := by
      obtain ⟨hl, e⟩ := List.getElem?_eq_some_iff.mp hx
      rw [List.drop_eq_getElem_cons hl, e]
    have es := st_succ i x hx
    walk_at "norm"
    refine js_pure 2 fun hf => ?_
    walk_at "norm"
    have hf' : mGroup (cell rows) keys order one = if x = one then (st (i + 1)).1 else grpAux p (order.drop (i + 1)) (st (i + 1)) one := by
      rw [show mGroup (cell rows) keys order one = _ from hf, hd, es]
      rfl
    refine js_cons (js_ifAsg 4 (d1 := .int ((st i).1 + 1)) (d0 := .int (st i).1) (t := match (st i).2 with | none => true | some l => !p l x) ?_ fun _ => je_add (je_var 4) je_int) ?_
    · cases e : (st i).2 with
      | none => exact jw_pt (jw_or (c := true) (d := true) (jt_isN (d := .none) ((je_var 5).is (by rw [e]; rfl))) no_ft)
      | some l => exact JT.is (jw_pt (jw_or (c := false) (jt_isN (d := .int l) ((je_var 5).is (by rw [e]; rfl))) fun _ => jw_or1 (jt_not (jt_val (je_call hP ⟨rows, w, keys, l, x⟩ ⟨r, kl, kc, hl l (st_some i l e), hl x hm⟩ (ja_cons (je_var 0) (ja_cons (je_var 1) (ja_cons ((je_var 5).is (by rw [e]; rfl)) (ja_cons (je_var 6) ja_nil))))))))) (by rfl)
    · walk_at "norm"
      have e2 : PyData.int x = oI (st (i + 1)).2 := by rw [es]; rfl
      refine js_cons (js_asg 5 ((je_var 6).is e2)) ?_
      walk_at "norm"
      have e1 : (if (match (st i).2 with | none => true | some l => !p l x) = true then PyData.int ((st i).1 + 1) else PyData.int (st i).1) = .int (st (i + 1)).1 := by
        rw [es]
        exact (apply_ite PyData.int _ _ _).symm
      rw [e1]
      by_cases ho : x = one
      · rw [if_pos ho] at hf'
        rw [hf']
        exact js_end (js_if (JT.is (d' := true) (jt_eq (shaped_int _) (shaped_int _) (je_var 6) (je_var 3)) (by rw [eqv_int]; exact decide_eq_true ho)) (fun _ => js_rt (je_var 4)) no_ft)
      · rw [if_neg ho] at hf'
        exact js_cons (js_if (JT.is (d' := false) (jt_eq (shaped_int _) (shaped_int _) (je_var 6) (je_var 3)) (by rw [eqv_int]; exact decide_eq_false ho)) no_tf fun _ => js_nil) (js_nil.out ((ent_wi 2 (show fact (i + 1) from hf')).trans (ent_drop 6)))
  · walk_at "norm"
    refine js_pure 2 fun hf => ?_
    have e1 : mGroup (cell rows) keys order one = (st order.length).1 := by
      rw [show mGroup (cell rows) keys order one = _ from hf, List.drop_length]
      rfl
    rw [e1]
    exact js_rt (je_var 4)
end
end K27
namespace K27
open PySem L2 LamX
local macro_rules | `(tactic| walk_at "norm") => `(tactic| refine JSs.norm (by dsimp only [setsL, wipeL, initL, List.set, List.map, List.append, List.replicate, List.length, HAppend.hAppend, Append.append]) ?_)
def Bnd.word : Bnd → Str
  | .start => "start" | .ende => "end" | .current => "current" | .before _ => "before" | .after _ => "after"
def Bnd.rest : Bnd → List PyData
  | .before d => [.int d] | .after d => [.int d] | _ => []
theorem Bnd.D_eq (b : Bnd) : b.D = .tuple (.str b.word :: b.rest) := by cases b <;> rfl
def Bnd.dist : Bnd → Bool
  | .before _ => true | .after _ => true | _ => false
inductive Unt where
  | rows | range | groups
def Unt.w : Unt → Str
  | .rows => "rows" | .range => "range" | .groups => "groups"
inductive Exc where
  | nothing | current | group | ties
def Exc.w : Exc → Str
  | .nothing => "nothing" | .current => "current" | .group => "group" | .ties => "ties"
structure Frm where
  unit : Unt
  lo : Bnd
  hi : Bnd
  ex : Exc
def Frm.D (f : Frm) : PyData := .tuple [.str f.unit.w, f.lo.D, f.hi.D, .str f.ex.w]
def Frm.at_ (f : Frm) (n : Nat) : Bnd := if n = 0 then f.lo else f.hi
def sgn (down : Bool) : Int := 1 - 2 * (if down = true then 1 else 0)
def mRangeAt (cell : Int → Nat → PyData) (keys : List (Nat × Bool)) (order : List Int) (b : Bnd) (n : Nat) (one other : Int) : Bool :=
  if b.dist = true then
    match keys with
    | [] => false
    | (c, down) :: _ =>
      match cell one c, cell other c with
      | .none, _ => mLook n .current (mGroup cell keys order one) (mGroup cell keys order other)
      | _, .none => PyData.eqv (.bool (PyData.eqv (.int n) (.int 0))) (.bool down)
      | .int m, .int t => mLook n b (sgn down * m) (sgn down * t)
      | _, _ => false
  else mLook n b (mGroup cell keys order one) (mGroup cell keys order other)
def mRange (cell : Int → Nat → PyData) (keys : List (Nat × Bool)) (order : List Int) (f : Frm) (one other : Int) : Bool := mRangeAt cell keys order (f.at_ 0) 0 one other && mRangeAt cell keys order (f.at_ 1) 1 one other
/-- a cell that is nothing or an int -/
def numB : PyData → Bool
  | .none | .int _ => true
  | _ => false
structure IFrm where
  rows : Rows
  w : Nat
  keys : List (Nat × Bool)
  lst : List Int
  frm : Frm
  one : Int
  other : Int
structure IFrm.Ok (i : IFrm) : Prop where
  r : RowsOk i.rows i.w
  k : i.keys.length ≤ 100
  kc : ∀ c ∈ i.keys, c.1 < i.w
  l : i.lst.length ≤ 100
  h : ∀ x ∈ i.lst, x ∈ ids i.rows
  h1 : i.one ∈ i.lst
  h2 : i.other ∈ i.lst
  lo : i.frm.lo ≠ .ende
  hi : i.frm.hi ≠ .start
  dist : i.frm.unit = .range → (i.frm.lo.dist = true ∨ i.frm.hi.dist = true) → ∃ c down, i.keys = [(c, down)] ∧ ∀ x ∈ ids i.rows, numB (cell i.rows x c) = true
section
variable {G : Gc}
abbrev spRange (G : Gc) : Sp := SpF G.T (fun i : IFrm => i.Ok ∧ i.frm.unit = .range) (fun i => [isDic (rowsK i.rows), isD (.list (keysD i.keys)), isD (intsD i.lst), isD i.frm.D, isI i.one, isI i.other]) (fun i => isB (mRange (cell i.rows) i.keys i.lst i.frm i.one i.other))
theorem sc35 : FnScope ["_law_rows_here", "_law_keys", "_law_order", "_law_frame_here", "_law_one", "_law_other", "_law_places", "_law_told", "_law_at", "_law_bound_here", "_law_column", "_law_down", "_law_mine", "_law_theirs", "_law_sign"] ["_law_rows_here", "_law_keys", "_law_order", "_law_frame_here", "_law_one", "_law_other"] (defScope (top 35)) := ⟨rfl, rfl, rfl, by decide +kernel, rfl, by decide +kernel, by decide +kernel⟩
theorem eqv_bool (a b : Bool) : PyData.eqv (.bool a) (.bool b) = decide (a = b) := by
  rw [PyData.eqv]
  exact Bool.beq_eq_decide_eq a b
theorem sgn_mul (down : Bool) (m : Int) : CMul (sgn down) m := by
  left
  unfold sgn
  cases down <;> decide
theorem ok35 (B : Bt G) (hG : Fn G "_law_group" 2 (spGroup G)) (hL : Fn G "_law_look" 2 (spLook G)) {f : Addr} {fd : FuncData} (F : Fun G.K "_law_range" "_law_range" (top 35) f fd) : FnOk G.P G.w G.K G.mg G.base CX0 3 f fd ["_law_rows_here", "_law_keys", "_law_order", "_law_frame_here", "_law_one", "_law_other"] (spRange G) := by
  refine fn_ok (k := 2) F sc35 (fun _ => rfl) ?_
  rintro ⟨rows, w, keys, order, fr, one, other⟩ ⟨⟨r, kl, kc, ll, hl, h1, h2, hlo, hhi, hdist⟩, hu⟩ cdv A outer s H E
  dsimp only at *
  have hd := hdist hu
  let p1 := mGroup (cell rows) keys order one
  let p2 := mGroup (cell rows) keys order other
  let told : List PyData := [.bool (mRangeAt (cell rows) keys order (fr.at_ 0) 0 one other), .bool (mRangeAt (cell rows) keys order (fr.at_ 1) 1 one other)]
  refine js_cons (js_asg 6 (je_tup (ds := [.int p1, .int p2]) (ja_cons (je_call hG ⟨rows, w, keys, order, one⟩ ⟨r, kl, kc, ll, hl, hl _ h1⟩ (ja_cons (je_var 0) (ja_cons (je_var 1) (ja_cons (je_var 2) (ja_cons (je_var 4) ja_nil))))) (ja_cons (je_call hG ⟨rows, w, keys, order, other⟩ ⟨r, kl, kc, ll, hl, hl _ h2⟩ (ja_cons (je_var 0) (ja_cons (je_var 1) (ja_cons (je_var 2) (ja_cons (je_var 5) ja_nil))))) ja_nil)))) ?_
  walk_at "norm"
  refine js_cons (js_newAcc 7) ?_
  walk_at "norm"
  let Inv : Nat → List Slot := fun i => [.p (isDic (rowsK rows)), .p (isD (.list (keysD keys))), .p (isD (intsD order)), .p (isD fr.D), .p (isI one), .p (isI other), .p (isD (.tuple [.int p1, .int p2])), .acc (told.take i), .no, .no, .no, .no, .no, .no, .no]
  refine js_cons (js_forT (xs := [0, 1]) (P := fun n : Nat => isI n) (is := [8]) (Ps := fun n => [isI n]) Inv (je_seqT (d := fun n : Nat => .int n) (je_tup (ds := [.int 0, .int 1]) (ja_cons je_int (ja_cons je_int ja_nil))) rfl) (Ent.refl _) ⟨fun c hc => jg_name 8, fun i n hn => ⟨Inv (i + 1), ?_, Ent.refl _⟩⟩) ?_
  · -- a turn
    have hn' : i < 2 ∧ n = i := by
      match i, hn with
      | 0, h => exact ⟨by omega, (Option.some.inj h).symm⟩
      | 1, h => exact ⟨by omega, (Option.some.inj h).symm⟩
      | i + 2, h => simp at h
    obtain ⟨hi2, rfl⟩ := hn'
    let bd := fr.at_ n
    have hb : atI [.str fr.unit.w, fr.lo.D, fr.hi.D, .str fr.ex.w] (1 + (n : Int)) = some bd.D := by
      rcases (show n = 0 ∨ n = 1 by omega) with rfl | rfl
      · exact atI_nat (j := 1) rfl
      · exact atI_nat (j := 2) rfl
    have hbo : BndOk n bd := by
      rcases (show n = 0 ∨ n = 1 by omega) with rfl | rfl
      · exact .inl ⟨rfl, hlo⟩
      · exact .inr ⟨rfl, hhi⟩
    have hbc : BndOk n .current := by
      rcases (show n = 0 ∨ n = 1 by omega) with rfl | rfl
      · exact .inl ⟨rfl, fun z => nomatch z⟩
      · exact .inr ⟨rfl, fun z => nomatch z⟩
    have ht : told.take (n + 1) = told.take n ++ [.bool (mRangeAt (cell rows) keys order bd n one other)] := by
      rcases (show n = 0 ∨ n = 1 by omega) with rfl | rfl <;> rfl
    have hlt : (told.take n).length ≤ 100000 := by
      rw [List.length_take]; have : told.length = 2 := rfl; omega
    walk_at "norm"
    refine js_cons (js_asg 9 (je_ixT hb (je_var 3) (je_add je_int (je_var 8)))) ?_
    have hdis : bd.dist = true → ∃ c down, keys = [(c, down)] ∧ ∀ x ∈ ids rows, numB (cell rows x c) = true := fun h => by
      rcases (show n = 0 ∨ n = 1 by omega) with rfl | rfl
      · exact hd (.inl h)
      · exact hd (.inr h)
    have tst : ((!([PyData.str "before", .str "after"] : List PyData).any fun z => PyData.eqv z (.str bd.word)) = !bd.dist) := by
      cases bd <;> first | decide +kernel | rfl
    have dr : ∀ L : List Slot, Ent L (((((((L.set 8 .no).set 9 .no).set 10 .no).set 11 .no).set 12 .no).set 13 .no).set 14 .no) := fun L =>
      (ent_drop 8).trans ((ent_drop 9).trans ((ent_drop 10).trans ((ent_drop 11).trans ((ent_drop 12).trans ((ent_drop 13).trans (ent_drop 14))))))
    have eI : Inv (n + 1) = [.p (isDic (rowsK rows)), .p (isD (.list (keysD keys))), .p (isD (intsD order)), .p (isD fr.D), .p (isI one), .p (isI other), .p (isD (.tuple [.int p1, .int p2])), .acc (told.take n ++ [.bool (mRangeAt (cell rows) keys order bd n one other)]), .no, .no, .no, .no, .no, .no, .no] := by
      show [_, _, _, _, _, _, _, Slot.acc (told.take (n + 1)), _, _, _, _, _, _, _] = _
      rw [ht]
    rw [eI]
    walk_at "norm"
    clear_value told
    cases hdd : bd.dist with
    | false =>
      have hv : mRangeAt (cell rows) keys order bd n one other = mLook n bd p1 p2 := by
        unfold mRangeAt
        rw [hdd, if_neg Bool.false_ne_true]
      rw [hv]
      exact js_cons (js_if (jt_ninT rfl rfl (r := true) (by rw [tst, hdd]; rfl) (je_ixT atI0 ((je_var 9).is (Bnd.D_eq bd)) je_int) (je_tup (ds := [.str "before", .str "after"]) (ja_cons je_str (ja_cons je_str ja_nil))))
        (fun _ => js_cons (js_append 7 rfl hlt (je_call hL (n, bd, p1, p2) hbo (ja_cons (je_var 8) (ja_cons (je_var 9) (ja_cons (je_ixT atI0 (je_var 6) je_int) (ja_cons (je_ixT atI1 (je_var 6) je_int) ja_nil)))))) (js_nil.out (dr _))) no_ft) js_nil
    | true =>
      obtain ⟨c, down, rfl, hnum⟩ := hdis hdd
      have hcw : c < w := kc (c, down) (by simp)
      have n1 := hnum one (hl _ h1)
      have n2 := hnum other (hl _ h2)
      refine js_cons (js_if (jt_ninT rfl rfl (r := false) (by rw [tst, hdd]; rfl) (je_ixT atI0 ((je_var 9).is (Bnd.D_eq bd)) je_int) (je_tup (ds := [.str "before", .str "after"]) (ja_cons je_str (ja_cons je_str ja_nil)))) no_tf fun _ => ?_) js_nil
      refine js_cons (js_asgT (je_ixL (d := .tuple [.int c, .bool down]) atI0 (je_var 1) je_int) (jg_tupD (jgs_name 10 (jgs_name 11 jgs_nil)))) ?_
      walk_at "norm"
      refine js_cons (js_asg 12 (je_cell r (hl _ h1) hcw (je_var 0) (je_var 4) (je_var 10))) ?_
      walk_at "norm"
      refine js_cons (js_asg 13 (je_cell r (hl _ h2) hcw (je_var 0) (je_var 5) (je_var 10))) ?_
      walk_at "norm"
      cases em : cell rows one c with
      | none =>
        have hv : mRangeAt (cell rows) [(c, down)] order bd n one other = mLook n .current p1 p2 := by
          unfold mRangeAt
          rw [hdd, if_pos rfl]
          simp only [em]
          rfl
        rw [hv]
        exact js_cons (js_if (jt_isN (je_var 12)) (fun _ => js_cons (js_append 7 rfl hlt (je_call hL (n, .current, p1, p2) hbc (ja_cons (je_var 8) (ja_cons (je_tup (ds := [.str "current"]) (ja_cons je_str ja_nil)) (ja_cons (je_ixT atI0 (je_var 6) je_int) (ja_cons (je_ixT atI1 (je_var 6) je_int) ja_nil)))))) (js_nil.out (dr _))) no_ft) js_nil
      | int m =>
        refine js_cons (js_if (jt_isN (d := .int m) (je_var 12)) no_tf fun _ => ?_) js_nil
        cases et : cell rows other c with
        | none =>
          have hv : mRangeAt (cell rows) [(c, down)] order bd n one other = PyData.eqv (.bool (PyData.eqv (.int n) (.int 0))) (.bool down) := by
            unfold mRangeAt
            rw [hdd, if_pos rfl]
            simp only [em, et]
          rw [hv]
          exact js_cons (js_if (jt_isN (d := .none) (je_var 13)) (fun _ => js_cons (js_append 7 rfl hlt (je_eq rfl rfl (je_eq (shaped_int _) (shaped_int _) (je_var 8) je_int) (je_var 11))) (js_nil.out (dr _))) no_ft) js_nil
        | int t =>
          have hv : mRangeAt (cell rows) [(c, down)] order bd n one other = mLook n bd (sgn down * m) (sgn down * t) := by
            unfold mRangeAt
            rw [hdd, if_pos rfl]
            simp only [em, et]
          rw [hv]
          refine js_cons (js_if (jt_isN (d := .int t) (je_var 13)) no_tf fun _ => ?_) js_nil
          refine js_cons (js_asg 14 (je_sub je_int (je_mul (.inl (by decide)) je_int (je_intB B.int (je_var 11))))) ?_
          walk_at "norm"
          exact js_cons (js_append 7 rfl hlt (je_call hL (n, bd, sgn down * m, sgn down * t) hbo (ja_cons (je_var 8) (ja_cons (je_var 9) (ja_cons (je_mul (sgn_mul down m) (je_var 14) (je_var 12)) (ja_cons (je_mul (sgn_mul down t) (je_var 14) (je_var 13)) ja_nil)))))) (js_nil.out (dr _))
        | _ => rw [et] at n2; cases n2
      | _ => rw [em] at n1; cases n1
  · walk_at "norm"
    refine js_freeze 7 (ds := told) rfl ?_
    walk_at "norm"
    exact js_rt (je_and (je_ixL (d := .bool (mRangeAt (cell rows) keys order (fr.at_ 0) 0 one other)) atI0 (je_var 7) je_int) fun _ => je_one (je_ixL (d := .bool (mRangeAt (cell rows) keys order (fr.at_ 1) 1 one other)) atI1 (je_var 7) je_int))
end
end K27
namespace K27
open PySem L2 LamX
local macro_rules | `(tactic| walk_at "norm") => `(tactic| refine JSs.norm (by dsimp only [setsL, wipeL, initL, List.set, List.map, List.append, List.replicate, List.length, HAppend.hAppend, Append.append]) ?_)
def mIdx (order : List Int) (one : Int) : Nat := dpos (order.map .int) (.int one)
def mInside (cell : Int → Nat → PyData) (keys : List (Nat × Bool)) (order : List Int) (f : Frm) (one other : Int) : Bool :=
  match f.unit with
  | .range => mRange cell keys order f one other
  | .rows => mFrom f.lo (mIdx order one) (mIdx order other) && mUntil f.hi (mIdx order one) (mIdx order other)
  | .groups => mFrom f.lo (mGroup cell keys order one) (mGroup cell keys order other) && mUntil f.hi (mGroup cell keys order one) (mGroup cell keys order other)
def mInFrame (cell : Int → Nat → PyData) (keys : List (Nat × Bool)) (order : List Int) (f : Frm) (one other : Int) : Bool :=
  let ins := mInside cell keys order f one other
  if (PyData.eqv (.str f.ex.w) (.str "nothing") || !ins) = true then ins
  else if one = other then PyData.eqv (.str f.ex.w) (.str "ties")
  else PyData.eqv (.str f.ex.w) (.str "current") || !mPeers cell keys one other
theorem mem_any {order : List Int} {x : Int} (h : x ∈ order) : ((order.map PyData.int).any fun z => PyData.eqv z (.int x)) = true := by
  rw [List.any_eq_true]
  exact ⟨.int x, List.mem_map.mpr ⟨x, h, rfl⟩, by rw [eqv_int]; exact decide_eq_true rfl⟩
theorem flat_ints (order : List Int) : (order.map PyData.int).all flatD = true := by
  rw [List.all_eq_true]
  intro x hx
  obtain ⟨c, _, rfl⟩ := List.mem_map.mp hx
  rfl
theorem shaped_ex (e : Exc) : SeqAt.shaped (.str e.w) = true := by cases e <;> decide +kernel
theorem shaped_un (e : Unt) : SeqAt.shaped (.str e.w) = true := by cases e <;> decide +kernel
section
variable {G : Gc}
abbrev spInFrame (G : Gc) : Sp := SpF G.T (fun i : IFrm => i.Ok) (fun i => [isDic (rowsK i.rows), isD (.list (keysD i.keys)), isD (intsD i.lst), isD i.frm.D, isI i.one, isI i.other]) (fun i => isB (mInFrame (cell i.rows) i.keys i.lst i.frm i.one i.other))
theorem sc36 : FnScope ["_law_rows_here", "_law_keys", "_law_order", "_law_frame_here", "_law_one", "_law_other", "_law_inside", "_law_mine", "_law_theirs"] ["_law_rows_here", "_law_keys", "_law_order", "_law_frame_here", "_law_one", "_law_other"] (defScope (top 36)) := ⟨rfl, rfl, rfl, by decide +kernel, rfl, by decide +kernel, by decide +kernel⟩
theorem ok36 (B : Bt G) (hR : Fn G "_law_range" 3 (spRange G)) (hF : Fn G "_law_from" 1 (spFrom G)) (hU : Fn G "_law_until" 1 (spUntil G)) (hG : Fn G "_law_group" 2 (spGroup G)) (hP : Fn G "_law_peers" 1 (spPeers G)) {f : Addr} {fd : FuncData} (F : Fun G.K "_law_in_frame" "_law_in_frame" (top 36) f fd) :
    FnOk G.P G.w G.K G.mg G.base CX0 4 f fd ["_law_rows_here", "_law_keys", "_law_order", "_law_frame_here", "_law_one", "_law_other"] (spInFrame G) := by
  refine fn_ok (k := 3) F sc36 (fun _ => rfl) ?_
  rintro ⟨rows, w, keys, order, fr, one, other⟩ hok cdv A outer s H E
  obtain ⟨r, kl, kc, ll, hl, h1, h2, hlo, hhi, hdist⟩ := id hok
  dsimp only at *
  have r1 := hl _ h1
  have r2 := hl _ h2
  let ins := mInside (cell rows) keys order fr one other
  let L1 : List Slot := [.p (isDic (rowsK rows)), .p (isD (.list (keysD keys))), .p (isD (intsD order)), .p (isD fr.D), .p (isI one), .p (isI other), .p (isB ins), .no, .no]
  refine js_cons (L1 := L1) ?_ ?_
  · -- what is inside
    cases hu : fr.unit with
    | range =>
      have hv : ins = mRange (cell rows) keys order fr one other := by show mInside _ _ _ _ _ _ = _; unfold mInside; rw [hu]
      refine js_if (JT.is (d' := true) (jt_eq (shaped_un fr.unit) (by decide +kernel) (je_ixT atI0 (je_var 3) je_int) je_str) (by rw [hu]; decide +kernel)) (fun _ => js_cons (js_asg 6 ?_) (js_nil.out (Ent.refl _))) no_ft
      show JE _ _ _ _ _ (isB ins)
      rw [hv]
      exact je_call hR ⟨rows, w, keys, order, fr, one, other⟩ ⟨hok, hu⟩ (ja_cons (je_var 0) (ja_cons (je_var 1) (ja_cons (je_var 2) (ja_cons (je_var 3) (ja_cons (je_var 4) (ja_cons (je_var 5) ja_nil))))))
    | rows =>
      have hv : ins = (mFrom fr.lo (mIdx order one) (mIdx order other) && mUntil fr.hi (mIdx order one) (mIdx order other)) := by show mInside _ _ _ _ _ _ = _; unfold mInside; rw [hu]
      refine js_if (JT.is (d' := false) (jt_eq (shaped_un fr.unit) (by decide +kernel) (je_ixT atI0 (je_var 3) je_int) je_str) (by rw [hu]; decide +kernel)) no_tf fun _ => js_cons ?_ js_nil
      refine js_if (JT.is (d' := true) (jt_eq (shaped_un fr.unit) (by decide +kernel) (je_ixT atI0 (je_var 3) je_int) je_str) (by rw [hu]; decide +kernel)) (fun _ => js_cons (js_asg 6 ?_) (js_nil.out (Ent.refl _))) no_ft
      show JE _ _ _ _ _ (isB ins)
      rw [hv]
      exact je_and (je_call hF (fr.lo, (mIdx order one : Int), (mIdx order other : Int)) hlo (ja_cons (je_ixT atI1 (je_var 3) je_int) (ja_cons (je_index rfl (flat_ints order) (mem_any h1) (je_var 2) (je_var 4)) (ja_cons (je_index rfl (flat_ints order) (mem_any h2) (je_var 2) (je_var 5)) ja_nil))))
        fun _ => je_one (je_call hU (fr.hi, (mIdx order one : Int), (mIdx order other : Int)) hhi (ja_cons (je_ixT (atI_nat (j := 2) rfl) (je_var 3) je_int) (ja_cons (je_index rfl (flat_ints order) (mem_any h1) (je_var 2) (je_var 4)) (ja_cons (je_index rfl (flat_ints order) (mem_any h2) (je_var 2) (je_var 5)) ja_nil))))
    | groups =>
      have hv : ins = (mFrom fr.lo (mGroup (cell rows) keys order one) (mGroup (cell rows) keys order other) && mUntil fr.hi (mGroup (cell rows) keys order one) (mGroup (cell rows) keys order other)) := by show mInside _ _ _ _ _ _ = _; unfold mInside; rw [hu]
      refine js_if (JT.is (d' := false) (jt_eq (shaped_un fr.unit) (by decide +kernel) (je_ixT atI0 (je_var 3) je_int) je_str) (by rw [hu]; decide +kernel)) no_tf fun _ => js_cons ?_ js_nil
      refine js_if (JT.is (d' := false) (jt_eq (shaped_un fr.unit) (by decide +kernel) (je_ixT atI0 (je_var 3) je_int) je_str) (by rw [hu]; decide +kernel)) no_tf fun _ => ?_
      refine js_cons (js_asg 7 (je_call hG ⟨rows, w, keys, order, one⟩ ⟨r, kl, kc, ll, hl, r1⟩ (ja_cons (je_var 0) (ja_cons (je_var 1) (ja_cons (je_var 2) (ja_cons (je_var 4) ja_nil)))))) ?_
      walk_at "norm"
      refine js_cons (js_asg 8 (je_call hG ⟨rows, w, keys, order, other⟩ ⟨r, kl, kc, ll, hl, r2⟩ (ja_cons (je_var 0) (ja_cons (je_var 1) (ja_cons (je_var 2) (ja_cons (je_var 5) ja_nil)))))) ?_
      walk_at "norm"
      refine js_cons (js_asg 6 (P := isB ins) ?_) (js_nil.out ((ent_drop 7).trans (ent_drop 8)))
      rw [hv]
      exact je_and (je_call hF (fr.lo, mGroup (cell rows) keys order one, mGroup (cell rows) keys order other) hlo (ja_cons (je_ixT atI1 (je_var 3) je_int) (ja_cons (je_var 7) (ja_cons (je_var 8) ja_nil))))
        fun _ => je_one (je_call hU (fr.hi, mGroup (cell rows) keys order one, mGroup (cell rows) keys order other) hhi (ja_cons (je_ixT (atI_nat (j := 2) rfl) (je_var 3) je_int) (ja_cons (je_var 7) (ja_cons (je_var 8) ja_nil))))
  · -- what is excluded
    have ex3 : atI [.str fr.unit.w, fr.lo.D, fr.hi.D, .str fr.ex.w] (3 : Int) = some (.str fr.ex.w) := atI_nat (j := 3) rfl
    have hdef : mInFrame (cell rows) keys order fr one other = if (PyData.eqv (.str fr.ex.w) (.str "nothing") || !ins) = true then ins else if one = other then PyData.eqv (.str fr.ex.w) (.str "ties") else PyData.eqv (.str fr.ex.w) (.str "current") || !mPeers (cell rows) keys one other := rfl
    rw [hdef]
    clear_value ins
    cases hn : (PyData.eqv (.str fr.ex.w) (.str "nothing") || !ins) with
    | true =>
      rw [if_pos rfl]
      exact js_end (js_if (JT.is (jw_pt (jw_or (jt_eq (shaped_ex fr.ex) (by decide +kernel) (je_ixT ex3 (je_var 3) je_int) je_str) fun _ => jw_or1 (jt_not (jt_val (je_var 6))))) hn) (fun _ => js_rt (je_var 6)) no_ft)
    | false =>
      rw [if_neg Bool.false_ne_true]
      refine js_cons (js_if (JT.is (jw_pt (jw_or (jt_eq (shaped_ex fr.ex) (by decide +kernel) (je_ixT ex3 (je_var 3) je_int) je_str) fun _ => jw_or1 (jt_not (jt_val (je_var 6))))) hn) no_tf fun _ => js_nil) ?_
      by_cases ho : one = other
      · rw [if_pos ho]
        exact js_end (js_if (JT.is (d' := true) (jt_eq (shaped_int _) (shaped_int _) (je_var 4) (je_var 5)) (by rw [eqv_int]; exact decide_eq_true ho)) (fun _ => js_rt (je_eq (shaped_ex fr.ex) (by decide +kernel) (je_ixT ex3 (je_var 3) je_int) je_str)) no_ft)
      · rw [if_neg ho]
        exact js_cons (js_if (JT.is (d' := false) (jt_eq (shaped_int _) (shaped_int _) (je_var 4) (je_var 5)) (by rw [eqv_int]; exact decide_eq_false ho)) no_tf fun _ => js_nil) (js_rt (je_or (je_eq (shaped_ex fr.ex) (by decide +kernel) (je_ixT ex3 (je_var 3) je_int) je_str) fun _ => je_one (je_not (je_call hP ⟨rows, w, keys, one, other⟩ ⟨r, kl, kc, r1, r2⟩ (ja_cons (je_var 0) (ja_cons (je_var 1) (ja_cons (je_var 4) (ja_cons (je_var 5) ja_nil))))))))
end
end K27
namespace K27
open PySem L2 LamX
local macro_rules | `(tactic| walk_at "norm") => `(tactic| refine JSs.norm (by dsimp only [setsL, wipeL, initL, List.set, List.map, List.append, List.replicate, List.length, HAppend.hAppend, Append.append]) ?_)
section
variable {G : Gc} {k : Nat} {X : Cx} {L : List Slot} {a b c e : Expr} {pos : Pos}
theorem cutV_take {xs : List V} {n : Nat} : cutV xs none (some (n : Int)) = xs.take n := by
  unfold cutV
  rw [HT.sIx_none, HT.sIx_nat, List.drop_zero, Nat.sub_zero]
  rcases Nat.le_total n xs.length with h | h
  · rw [Nat.min_eq_left h]
  · rw [Nat.min_eq_right h, List.take_of_length_le (Nat.le_refl _), List.take_of_length_le h]
/-- xs[:n] -/
theorem je_takeL {ds : List PyData} {n : Nat} {p2} (ha : JE G k X L a (isD (.list ds))) (hb : JE G k X L b (isI n)) : JE G k X L (.Subscript a (.Slice none (some b) none p2) pos) (isD (.list (ds.take n))) := fun C =>
  (pe_slice sl_list (ha C) po_none (po_some (hb C))).imp fun σ H Q ⟨F, s, t, E, q⟩ => ⟨F, s, t, E, fun x F1 H1 st1 p1 => ⟨F1, st1.sub, st1.tab, E.step st1, fun y F2 H2 st2 p2 => ⟨n, da_int p2, by
    obtain ⟨ad, xs, rfl, h1, d1⟩ := da_lst p1
    have h2 := st2.keep.obj _ _ h1 trivial
    refine ⟨ad, xs, rfl, SqL.of (st2.sub _ _ h2), fun l hl => ?_⟩
    rw [cutV_take]
    have st := Step.new (o := .lst (xs.take n)) st2.tab st2.sub hl
    exact q _ _ _ ((st1.trans st2).trans st) (.lst upd_same (dsT (keep_ds st.keep _ _ (keep_ds st2.keep _ _ d1))))⟩⟩⟩
where dsT {F : Hp} {xs : List V} {ds : List PyData} {n : Nat} (h : Das F xs ds) : Das F (xs.take n) (ds.take n) := das_take n h
/-- a <= b < c -/
theorem jt_chain {i j n : Int} (ha : JE G k X L a (isI i)) (hb : JE G k X L b (isI j)) (hc : JE G k X L c (isI n)) (hm : lastMarks [.LtE, .Lt] [b, c] = false := by with_unfolding_all rfl) : JT G k X L (.Compare a [.LtE, .Lt] [b, c] pos) (decide (i ≤ j) && decide (j < n)) := fun C =>
  (pt_chain op_le op_lt (ha C) (hb C) (hc C) hm).imp fun σ H Q ⟨F, s, t, E, q⟩ => ⟨F, s, t, E, fun x F1 H1 st1 p1 => ⟨F1, st1.sub, st1.tab, E.step st1, fun y F2 H2 st2 p2 => ⟨i, j, da_int p1, da_int p2, _, rfl, by
    by_cases h : i ≤ j
    · rw [if_pos (decide_eq_true h)]
      refine ⟨F2, st2.sub, st2.tab, (E.step st1).step st2, fun z F3 H3 st3 p3 => ⟨j, n, da_int p2, da_int p3, _, rfl, ?_⟩⟩
      have := q F3 H3 ((st1.trans st2).trans st3)
      rw [decide_eq_true h, Bool.true_and] at this
      exact this
    · rw [if_neg (by rw [decide_eq_false h]; exact Bool.false_ne_true)]
      refine ⟨false, rfl, ?_⟩
      have := q F2 H2 (st1.trans st2)
      rw [decide_eq_false h, Bool.false_and] at this
      exact this⟩⟩⟩
end
inductive Fnc where
  | number | rank | dense | tile | lag | lead | first | last | nth | size | count | different | sum | least | greatest | median
def Fnc.w : Fnc → Str
  | .number => "number" | .rank => "rank" | .dense => "dense" | .tile => "tile" | .lag => "lag" | .lead => "lead" | .first => "first" | .last => "last" | .nth => "nth" | .size => "size"
  | .count => "count" | .different => "different" | .sum => "sum" | .least => "least" | .greatest => "greatest" | .median => "median"
def Fnc.byPlace : Fnc → Bool
  | .number | .rank | .dense | .tile | .lag | .lead => true
  | _ => false
def mTile (pl n len : Int) : Int := if pl < len % n * (len / n + 1) then 1 + pl / (len / n + 1) else 1 + len % n + (pl - len % n * (len / n + 1)) / (if len / n > 1 then len / n else 1)
def mShift (cell : Int → Nat → PyData) (order : List Int) (a : Int) (col : Nat) : PyData := if (decide (0 ≤ a) && decide (a < (order.length : Nat))) = true then cell (order.getD a.toNat 0) col else .none
def mOfPlace (fn : Fnc) (num : Int) (cell : Int → Nat → PyData) (keys : List (Nat × Bool)) (order : List Int) (one : Int) (col : Nat) : PyData :=
  match fn with
  | .number => .int ((mIdx order one : Nat) + 1)
  | .rank => .int (1 + (((order.take (mIdx order one)).filter fun o => !mPeers cell keys one o).length : Nat))
  | .dense => .int (1 + mGroup cell keys order one)
  | .tile => .int (mTile (mIdx order one : Nat) num (order.length : Nat))
  | .lag => mShift cell order ((mIdx order one : Nat) - num) col
  | .lead => mShift cell order ((mIdx order one : Nat) + num) col
  | _ => .none
structure IPl where
  fn : Fnc
  num : Option Int
  rows : Rows
  w : Nat
  keys : List (Nat × Bool)
  lst : List Int
  one : Int
  col : Option Nat
structure IPl.Ok (i : IPl) : Prop where
  fn : i.fn.byPlace = true
  r : RowsOk i.rows i.w
  k : i.keys.length ≤ 100
  kc : ∀ c ∈ i.keys, c.1 < i.w
  l : i.lst.length ≤ 100
  h : ∀ x ∈ i.lst, x ∈ ids i.rows
  h1 : i.one ∈ i.lst
  tile : i.fn = .tile → ∃ n, i.num = some n ∧ 1 ≤ n ∧ n ≤ 100
  lag : i.fn = .lag ∨ i.fn = .lead → (∃ n, i.num = some n) ∧ ∃ c, i.col = some c ∧ c < i.w
theorem oN_eq (c : Option Nat) : oN c = match c with | none => .none | some n => .int n := by cases c <;> rfl
theorem shaped_fn (f : Fnc) : SeqAt.shaped (.str f.w) = true := by cases f <;> decide +kernel
section
variable {G : Gc}
abbrev spOfPlace (G : Gc) : Sp := SpF G.T (fun i : IPl => i.Ok) (fun i => [isS i.fn.w, isD (oI i.num), isDic (rowsK i.rows), isD (.list (keysD i.keys)), isD (intsD i.lst), isI i.one, isD (oN i.col)]) (fun i => isD (mOfPlace i.fn (i.num.getD 0) (cell i.rows) i.keys i.lst i.one (i.col.getD 0)))
theorem sc38 : FnScope ["_law_function", "_law_number", "_law_rows_here", "_law_keys", "_law_order", "_law_one", "_law_column", "_law_place_here", "_law_other", "_law_each", "_law_more", "_law_at"] ["_law_function", "_law_number", "_law_rows_here", "_law_keys", "_law_order", "_law_one", "_law_column"] (defScope (top 38)) := ⟨rfl, rfl, rfl, by decide +kernel, rfl, by decide +kernel, by decide +kernel⟩
theorem mIdx_lt {order : List Int} {one : Int} (h : one ∈ order) : mIdx order one < order.length := by
  obtain ⟨z, e, _⟩ := dpos_at (mem_any h)
  have := (List.getElem?_eq_some_iff.mp e).1
  simpa [mIdx] using this
theorem ok38 (B : Bt G) (hP : Fn G "_law_peers" 1 (spPeers G)) (hG : Fn G "_law_group" 2 (spGroup G)) {f : Addr} {fd : FuncData} (F : Fun G.K "_law_of_place" "_law_of_place" (top 38) f fd) :
    FnOk G.P G.w G.K G.mg G.base CX0 3 f fd ["_law_function", "_law_number", "_law_rows_here", "_law_keys", "_law_order", "_law_one", "_law_column"] (spOfPlace G) := by
  refine fn_ok (k := 2) F sc38 (fun _ => rfl) ?_
  rintro ⟨fn, num, rows, w, keys, order, one, col⟩ ⟨hfn, r, kl, kc, ll, hl, h1, htile, hlag⟩ cdv A outer s H E
  dsimp only at *
  have r1 := hl _ h1
  have hlt := mIdx_lt h1
  refine js_cons (js_asg 7 (je_index rfl (flat_ints order) (mem_any h1) (je_var 4) (je_var 5))) ?_
  walk_at "norm"
  show JSs _ _ _ [_, _, _, _, _, _, _, .p (isI (mIdx order one : Nat)), _, _, _, _] _ _ _
  cases fn with
  | number => exact js_end (js_if (JT.is (d' := true) (jt_eq (shaped_fn .number) (by decide +kernel) (je_var 0) je_str) (by decide +kernel)) (fun _ => js_rt (je_add (je_var 7) je_int)) no_ft)
  | rank =>
    refine js_cons (js_if (JT.is (d' := false) (jt_eq (shaped_fn .rank) (by decide +kernel) (je_var 0) je_str) (by decide +kernel)) no_tf fun _ => js_nil) ?_
    refine js_end (js_if (JT.is (d' := true) (jt_eq (shaped_fn .rank) (by decide +kernel) (je_var 0) je_str) (by decide +kernel)) (fun _ => js_rt ?_) no_ft)
    refine JE.is (je_add je_int (je_lenL B.len (je_lcL1 (xs := order.take (mIdx order one)) (d := PyData.int) (own := [("_law_other", 8)]) (is := [8]) (Ps := fun n => [isI n]) (y := PyData.int) (f := fun o => !mPeers (cell rows) keys one o) ((je_takeL (je_var 4) (je_var 7)).is (by rw [List.map_take]))
      (blk1 (by decide) (fun x hx s H C cl fp => jg_name 8) (fun x hx s H C cl fp => jt_not (jt_val (je_call hP ⟨rows, w, keys, one, x⟩ ⟨r, kl, kc, r1, hl x (List.mem_of_mem_take hx)⟩ (ja_cons (je_var 2) (ja_cons (je_var 3) (ja_cons (je_var 5) (ja_cons (je_var 8) ja_nil))))))) fun x hx _ s H C cl fp => je_var 8) (by rw [List.length_take]; omega)))) ?_
    simp [mOfPlace]
  | dense =>
    refine js_cons (js_if (JT.is (d' := false) (jt_eq (shaped_fn .dense) (by decide +kernel) (je_var 0) je_str) (by decide +kernel)) no_tf fun _ => js_nil) ?_
    refine js_cons (js_if (JT.is (d' := false) (jt_eq (shaped_fn .dense) (by decide +kernel) (je_var 0) je_str) (by decide +kernel)) no_tf fun _ => js_nil) ?_
    exact js_end (js_if (JT.is (d' := true) (jt_eq (shaped_fn .dense) (by decide +kernel) (je_var 0) je_str) (by decide +kernel)) (fun _ => js_rt (je_add je_int (je_call hG ⟨rows, w, keys, order, one⟩ ⟨r, kl, kc, ll, hl, r1⟩ (ja_cons (je_var 2) (ja_cons (je_var 3) (ja_cons (je_var 4) (ja_cons (je_var 5) ja_nil))))))) no_ft)
  | tile =>
    obtain ⟨n, rfl, hn1, hn2⟩ := htile rfl
    refine js_cons (js_if (JT.is (d' := false) (jt_eq (shaped_fn .tile) (by decide +kernel) (je_var 0) je_str) (by decide +kernel)) no_tf fun _ => js_nil) ?_
    refine js_cons (js_if (JT.is (d' := false) (jt_eq (shaped_fn .tile) (by decide +kernel) (je_var 0) je_str) (by decide +kernel)) no_tf fun _ => js_nil) ?_
    refine js_cons (js_if (JT.is (d' := false) (jt_eq (shaped_fn .tile) (by decide +kernel) (je_var 0) je_str) (by decide +kernel)) no_tf fun _ => js_nil) ?_
    refine js_end (js_if (JT.is (d' := true) (jt_eq (shaped_fn .tile) (by decide +kernel) (je_var 0) je_str) (by decide +kernel)) (fun _ => ?_) no_ft)
    have hlen : ((order.map PyData.int).length : Int) = (order.length : Nat) := by rw [List.length_map]
    have m1 : 0 ≤ (order.length : Int) % n := Int.emod_nonneg _ (by omega)
    have m2 : (order.length : Int) % n < n := Int.emod_lt_of_pos _ (by omega)
    have d1 : 0 ≤ (order.length : Int) / n := Int.ediv_nonneg (by omega) (by omega)
    have d2 : (order.length : Int) / n ≤ 100 := Int.le_trans (Int.ediv_le_self _ (by omega)) (by omega)
    refine js_cons (js_asg 9 (P := isI ((order.length : Int) / n)) (JE.is (je_fdiv (j := n) ⟨by omega, by omega⟩ (je_lenL B.len (je_var 4)) (je_var 1)) (by rw [hlen]))) ?_
    walk_at "norm"
    refine js_cons (js_asg 10 (P := isI ((order.length : Int) % n)) (JE.is (je_mod (j := n) (by omega) (je_intI B.int (je_lenL B.len (je_var 4))) (je_var 1)) (by rw [hlen]))) ?_
    walk_at "norm"
    have cm : CMul ((order.length : Int) % n) ((order.length : Int) / n + 1) := .inl ⟨by omega, by omega⟩
    show JSs _ _ _ _ _ (isI (mTile (mIdx order one : Nat) n (order.length : Nat))) _
    unfold mTile
    by_cases hc : ((mIdx order one : Nat) : Int) < (order.length : Int) % n * ((order.length : Int) / n + 1)
    · rw [if_pos hc]
      exact js_end (js_if (JT.is (d' := true) (jt_lt (je_var 7) (je_mul cm (je_var 10) (je_add (je_var 9) je_int))) (decide_eq_true hc)) (fun _ => js_rt (je_add je_int (je_fdiv ⟨by omega, by omega⟩ (je_var 7) (je_add (je_var 9) je_int)))) no_ft)
    · rw [if_neg hc]
      refine js_cons (js_if (JT.is (d' := false) (jt_lt (je_var 7) (je_mul cm (je_var 10) (je_add (je_var 9) je_int))) (decide_eq_false hc)) no_tf fun _ => js_nil) (js_rt (je_add (je_add je_int (je_var 10)) (je_fdiv ⟨?_, ?_⟩ (je_sub (je_var 7) (je_mul cm (je_var 10) (je_add (je_var 9) je_int))) (je_max2 B.max je_int (je_var 9)))))
      · split <;> omega
      · split <;> omega
  | lag =>
    obtain ⟨⟨n, rfl⟩, cc, rfl, hc⟩ := hlag (.inl rfl)
    refine js_cons (js_if (JT.is (d' := false) (jt_eq (shaped_fn .lag) (by decide +kernel) (je_var 0) je_str) (by decide +kernel)) no_tf fun _ => js_nil) ?_
    refine js_cons (js_if (JT.is (d' := false) (jt_eq (shaped_fn .lag) (by decide +kernel) (je_var 0) je_str) (by decide +kernel)) no_tf fun _ => js_nil) ?_
    refine js_cons (js_if (JT.is (d' := false) (jt_eq (shaped_fn .lag) (by decide +kernel) (je_var 0) je_str) (by decide +kernel)) no_tf fun _ => js_nil) ?_
    refine js_cons (js_if (JT.is (d' := false) (jt_eq (shaped_fn .lag) (by decide +kernel) (je_var 0) je_str) (by decide +kernel)) no_tf fun _ => js_nil) ?_
    let a : Int := (mIdx order one : Nat) - n
    have hlen : ((order.map PyData.int).length : Int) = (order.length : Nat) := by rw [List.length_map]
    have hR : mOfPlace .lag ((some n).getD 0) (cell rows) keys order one ((some cc).getD 0) = mShift (cell rows) order a cc := rfl
    rw [hR]
    refine js_cons (js_asg 11 (P := isI a) (je_ixL atI0 (je_lst (ds := [.int ((mIdx order one : Nat) - n), .int ((mIdx order one : Nat) + n)]) (ja_cons (je_sub (je_var 7) (je_var 1)) (ja_cons (je_add (je_var 7) (je_var 1)) ja_nil))) (je_intB (i := false) B.int (JE.is (je_eq (shaped_fn .lag) (by decide +kernel) (je_var 0) je_str) (congrArg PyData.bool (by decide +kernel)))))) ?_
    walk_at "norm"
    clear_value a
    unfold mShift
    cases hq : (decide (0 ≤ a) && decide (a < (order.length : Nat))) with
    | true =>
      rw [if_pos rfl]
      obtain ⟨g1, g2⟩ := Bool.and_eq_true_iff.mp hq
      have g1 := of_decide_eq_true g1
      have g2 := of_decide_eq_true g2
      have hn : a.toNat < order.length := by omega
      have hm : order.getD a.toNat 0 ∈ order := by rw [List.getD_eq_getElem?_getD, List.getElem?_eq_getElem hn]; exact List.getElem_mem hn
      have hat : atI (order.map PyData.int) a = some (.int (order.getD a.toNat 0)) := by
        have e : a = (a.toNat : Int) := by omega
        rw [e]
        refine atI_nat ?_
        rw [List.getElem?_map, List.getD_eq_getElem?_getD, Int.toNat_natCast, List.getElem?_eq_getElem hn]
        rfl
      exact js_end (js_if (JT.is (d' := true) (jt_chain je_int (je_var 11) (je_lenL B.len (je_var 4))) (by rw [hlen]; exact hq)) (fun _ => js_rt (je_cell r (hl _ hm) hc (je_var 2) (je_ixL hat (je_var 4) (je_var 11)) (je_var 6))) no_ft)
    | false =>
      rw [if_neg Bool.false_ne_true]
      exact js_cons (js_if (JT.is (d' := false) (jt_chain je_int (je_var 11) (je_lenL B.len (je_var 4))) (by rw [hlen]; exact hq)) no_tf fun _ => js_nil) (js_rt je_none)
  | lead =>
    obtain ⟨⟨n, rfl⟩, cc, rfl, hc⟩ := hlag (.inr rfl)
    refine js_cons (js_if (JT.is (d' := false) (jt_eq (shaped_fn .lead) (by decide +kernel) (je_var 0) je_str) (by decide +kernel)) no_tf fun _ => js_nil) ?_
    refine js_cons (js_if (JT.is (d' := false) (jt_eq (shaped_fn .lead) (by decide +kernel) (je_var 0) je_str) (by decide +kernel)) no_tf fun _ => js_nil) ?_
    refine js_cons (js_if (JT.is (d' := false) (jt_eq (shaped_fn .lead) (by decide +kernel) (je_var 0) je_str) (by decide +kernel)) no_tf fun _ => js_nil) ?_
    refine js_cons (js_if (JT.is (d' := false) (jt_eq (shaped_fn .lead) (by decide +kernel) (je_var 0) je_str) (by decide +kernel)) no_tf fun _ => js_nil) ?_
    let a : Int := (mIdx order one : Nat) + n
    have hlen : ((order.map PyData.int).length : Int) = (order.length : Nat) := by rw [List.length_map]
    have hR : mOfPlace .lead ((some n).getD 0) (cell rows) keys order one ((some cc).getD 0) = mShift (cell rows) order a cc := rfl
    rw [hR]
    refine js_cons (js_asg 11 (P := isI a) (je_ixL atI1 (je_lst (ds := [.int ((mIdx order one : Nat) - n), .int ((mIdx order one : Nat) + n)]) (ja_cons (je_sub (je_var 7) (je_var 1)) (ja_cons (je_add (je_var 7) (je_var 1)) ja_nil))) (je_intB (i := true) B.int (JE.is (je_eq (shaped_fn .lead) (by decide +kernel) (je_var 0) je_str) (congrArg PyData.bool (by decide +kernel)))))) ?_
    walk_at "norm"
    clear_value a
    unfold mShift
    cases hq : (decide (0 ≤ a) && decide (a < (order.length : Nat))) with
    | true =>
      rw [if_pos rfl]
      obtain ⟨g1, g2⟩ := Bool.and_eq_true_iff.mp hq
      have g1 := of_decide_eq_true g1
      have g2 := of_decide_eq_true g2
      have hn : a.toNat < order.length := by omega
      have hm : order.getD a.toNat 0 ∈ order := by rw [List.getD_eq_getElem?_getD, List.getElem?_eq_getElem hn]; exact List.getElem_mem hn
      have hat : atI (order.map PyData.int) a = some (.int (order.getD a.toNat 0)) := by
        have e : a = (a.toNat : Int) := by omega
        rw [e]
        refine atI_nat ?_
        rw [List.getElem?_map, List.getD_eq_getElem?_getD, Int.toNat_natCast, List.getElem?_eq_getElem hn]
        rfl
      exact js_end (js_if (JT.is (d' := true) (jt_chain je_int (je_var 11) (je_lenL B.len (je_var 4))) (by rw [hlen]; exact hq)) (fun _ => js_rt (je_cell r (hl _ hm) hc (je_var 2) (je_ixL hat (je_var 4) (je_var 11)) (je_var 6))) no_ft)
    | false =>
      rw [if_neg Bool.false_ne_true]
      exact js_cons (js_if (JT.is (d' := false) (jt_chain je_int (je_var 11) (je_lenL B.len (je_var 4))) (by rw [hlen]; exact hq)) no_tf fun _ => js_nil) (js_rt je_none)
  | _ => cases hfn
end
end K27
set_option maxHeartbeats 3200000
/-! K27, tenth part: a set of a list of ints or texts, sorted and counted. -/
namespace K27
open PySem L2 LamX PyProof.Rows
/-- the empty set object -/
abbrev set0 (w : World) : Obj := { cls := .type "set", dict := none, data := .set #[] 0 (.fresh 0 0 (!w.params.followText "set-order")) }
section
variable {P : Program} {w : World} {A : Around} {E : Value → Shared → Prop} {s : Shared}
/-- what fills the set from any walk over the items -/
def FillsBy (P : Program) (w : World) (items : Array Value) (Φ : Addr → Heap → Prop) : Prop :=
  ∀ (A : Around) (I : Addr) (fp wr : List Addr) (G : Array GenState → Array GenState → Prop) (Pv : Nat → Value → Prop) (St : Nat → Shared → Prop) (R : Result → Shared → Prop) (S : Addr) (s : Shared),
    WalksS P w A.in1 I fp wr G items.size Pv St → S ∉ fp → (∀ (i : Nat) v, Pv i v → items[i]? = some v) → St 0 s → s.heap.get? S = some (set0 w) →
    (∀ s', Moved (S :: wr) G s s' → Φ S s'.heap → R (.ok (.ret .none)) s') → codeAny (model P w) A (.builtin "set.update.loop" ⟨[.ref S, .ref I], []⟩) R s
theorem call_setL {l : Addr} {items : Array Value} {Φ : Addr → Heap → Prop} {Q : Value → Shared → Prop} (hh : A.handled = none) (hl : s.heap.IsList l items) (fill : FillsBy P w items Φ)
    (h : ∀ (g : Heap) (tk : Nat), Φ s.heap.objs.size g → (∀ b o, s.heap.get? b = some o → g.get? b = some o) → Q (.ref s.heap.objs.size) { s with heap := g, toks := tk }) : wpAny (model P w) A (call (.type "set") [.ref l]) Q E s := by
  obtain ⟨cc, tl, hmro⟩ := F.called_set.mro
  have made := F.called_set.made
  have hsub := F.called_set.sub
  refine wpAny_call (codeAny_of_tree ?_)
  show wpAny _ _ (callAny (.type "set") _) _ _ _
  refine wpAny_pure ⟨Code.quiet_builtin _ (by decide +kernel), codeAny_builtin F.entry_type_call ?_⟩
  rw [Around.under_plain (weight_type_call_type "set" [.ref l] []) rfl]
  have n1 := F.called_set.notType
  have n2 := F.called_set.canCreate
  have n3 := F.typeCall_set_1 (.ref l)
  repeat (any_goals (first | assumption | wp_step))
  refine codeAny_mono (code_set_led1 (.ref l) (E := E) (Q₁ := fun u s₁ => u = .ref s.heap.objs.size ∧ s₁ = { s with heap := s.heap.push (set0 w) }) ⟨rfl, rfl⟩) fun r s₁ hr => ?_
  cases r with
  | error e => exact hr
  | ok fl =>
    cases fl with
    | ret u =>
      obtain ⟨rfl, rfl⟩ := hr
      have new : (s.heap.push (set0 w)).get? s.heap.objs.size = some (set0 w) := Heap.get?_push_size _ rfl
      have isT : Shared.TypeIs { s with heap := s.heap.push (set0 w) } (.ref s.heap.objs.size) "set" := ⟨_, new, rfl⟩
      have li := F.called_set.init.lookup
      have bi := F.called_set.init.bind (.ref s.heap.objs.size)
      repeat (any_goals (first | assumption | wp_step))
      refine codeAny_mono (codeAny_call_builtin (R := wants (fun r s₂ => r = .none ∧ ∃ g tk, s₂ = { s with heap := g, toks := tk } ∧ Φ s.heap.objs.size g ∧ (∀ b o, s.heap.get? b = some o → g.get? b = some o)) E) F.called_set.init.plain F.entry_set_init (check_set_init_1 isT ?_)) fun r₂ s₂ h2 => ?_
      · obtain ⟨ol, hol, hcl, nl, hdl⟩ := hl
        obtain ⟨oc, od, odt, osl⟩ := ol
        simp only at hcl hdl
        subst hcl; subst hdl
        have hol2 : (s.heap.push (set0 w)).get? l = some { cls := .type "list", dict := od, data := .seq items nl, slots := osl } := Heap.get?_push_of_some _ hol
        have z1 := F.sub_list_set
        have z2 := F.sub_list_frozenset
        have z3 : (Value.type "list" == Value.type "dict") = false := by decide
        have isL : (s.heap.push (set0 w)).IsList l items := ⟨_, hol2, rfl, nl, rfl⟩
        unfold Builtin.«set.__init__» noKeywords Builtin.Frozenset.updateFrom
        generalize hPI : pyIter = PI
        wp_walk
        subst hPI
        refine wpAny_pyIter_list isL ?_
        refine wpAny_bind (wpAny_runValue ?_)
        have lS : l < s.heap.objs.size := Heap.lt_size hol
        have h3 : A.in1.in1.in1.handled = none := by simp [hh]
        have sz : (s.heap.push (set0 w)).objs.size = s.heap.objs.size + 1 := Heap.size_push ..
        have neI : l ≠ (s.heap.push (set0 w)).objs.size := by rw [sz]; exact Nat.ne_of_lt (Nat.lt_succ_of_lt lS)
        have nin : s.heap.objs.size ∉ [(s.heap.push (set0 w)).objs.size, l] := by
          rw [sz]; simp only [List.mem_cons, List.not_mem_nil, or_false, not_or]
          exact ⟨Nat.ne_of_lt (Nat.lt_succ_self _), Nat.ne_of_gt lS⟩
        refine fill _ _ _ _ _ _ _ _ s.heap.objs.size _ ((Walks.list h3 _ l neI items).toS) nin (fun i v e => e) ⟨⟨_, Heap.get?_push_size _ rfl, rfl, rfl⟩, (isL.push _)⟩ (Heap.get?_push_of_some _ new) ?_
        intro s' mv hS
        obtain ⟨g, g2, d', tk', os'⟩ := s'
        have e1 : g2 = s.gens := mv.gens
        have e2 : d' = s.drawn := mv.drawn
        have e3 : os' = s.os := mv.os
        subst e1; subst e2; subst e3
        show wpAny _ _ _ _ _ _
        refine wpAny_pure ?_
        show wpAny _ _ (ret Value.none) _ _ _
        refine wpAny_pure ⟨rfl, g, tk', rfl, hS, fun b o e => ?_⟩
        have b0 : b < s.heap.objs.size := Heap.lt_size e
        have b1 : b ≠ s.heap.objs.size := Nat.ne_of_lt b0
        have b2 : b ≠ (s.heap.push (set0 w)).objs.size := by rw [sz]; exact Nat.ne_of_lt (Nat.lt_succ_of_lt b0)
        exact mv.heap b o (by simp only [List.mem_cons, List.not_mem_nil, or_false, not_or]; exact ⟨b1, b2⟩) (Heap.get?_push_of_some _ (Heap.get?_push_of_some _ e))
      · cases r₂ with
        | error e => exact h2
        | ok fl₂ =>
          cases fl₂ with
          | ret r =>
            obtain ⟨rfl, g, tk, rfl, hS, hk⟩ := h2
            repeat (any_goals (first | assumption | wp_step))
            exact h _ _ hS hk
          | _ => exact h2.elim
    | _ => exact hr.elim
theorem fills_ints {items : Array Value} {ns : List Int} (hi : IntsAre items.toList ns) (hb : ns.length + 1 < scanBound) : FillsBy P w items (fun S h => ∃ c, c ≤ ns.length ∧ SetR w h S (fun j => decide (j ∈ ns)) c) := by
  intro A I fp wr G Pv St R S s W hS hv hst hnew hR
  have hsz : items.size = ns.length := by have := IntsAre.length hi; rw [Array.length_toList] at this; exact this
  refine set_update_ints W S hS ns hsz hb (fun i v hp => ?_) items.size 0 s (by omega) (Nat.zero_le _) hst ⟨0, Nat.le_refl 0, setR_new_at hnew⟩ fun s' c mv hc hR' => hR s' mv ⟨c, by omega, hR'⟩
  have e := hv i v hp
  have hlt : i < ns.length := by rw [← hsz]; exact (Array.getElem?_eq_some_iff.mp e).1
  obtain ⟨t, ev⟩ := IntsAre.int_at hi i v (by rw [Array.getElem?_toList]; exact e)
  refine ⟨ns[i], t, List.getElem?_eq_getElem hlt, ?_⟩
  rw [ev, List.getD_eq_getElem?_getD, List.getElem?_eq_getElem hlt]
  rfl
end
section
variable {G : Gc} {k : Nat} {X : Cx} {L : List Slot} {a b c e : Expr} {pos : Pos}
/-- set(ints): the set, its members -/
def isSetI (w : World) (ns : List Int) : SP := ⟨fun v F => ∃ a n, v = .ref a ∧ n ≤ ns.length ∧ F a = some (SetO w a (fun j => decide (j ∈ ns)) n), fun h ⟨a, n, e, l, q⟩ => ⟨a, n, e, l, h.obj _ _ q trivial⟩⟩
theorem call_setI (hc : X.calm = true) : CallR X (.type "set") (fun xs H Q => ∃ (a : Addr) (ns : List Int), xs = [V.ref a] ∧ SqL X.K H a (ns.map V.int) ∧ ns.length ≤ 1000 ∧ ∀ p n, H p = none → n ≤ ns.length → Q (.ref p) (upd H p (SetO X.w p (fun j => decide (j ∈ ns)) n))) := by
  intro pins s σ H xs us Q I r ⟨ad, ns, ex, hs, hl, q⟩
  subst ex
  have e := Vals.ref1 r
  subst e
  obtain ⟨its, rv, pl, hz⟩ := I.list hs
  refine call_setL (I.ok.hd hc) pl.isList (fills_ints (ns := ns) (by simpa using rv.ints) (by unfold scanBound; omega)) fun g tk ⟨n, hn, hR⟩ keep => ?_
  exact ⟨.ref _, _, I.laid (t' := tk) keep (Nat.le_refl _) (setO_new hR), rfl, q _ n (I.hok.fresh (Nat.le_refl _)) hn⟩
theorem je_setI {ns : List Int} {p : Pos} (hl : ns.length ≤ 1000) (hm : G.mg "set" = none) (ha : JE G k X L a (isD (.list (ns.map .int)))) (hg : Gl X "set" := by rfl) (he : starEach [a] X.env = (false, eval a X.env) :: starEach [] X.env := by rfl) : JE G k X L (.Call (.Name "set" p) [a] [] pos) (isSetI G.w ns) := fun C =>
  je_callTy (fun C => call_setI C.calm) (fun vs F H Q s t p q => by
    obtain ⟨v, rfl, p1⟩ := allP1 p
    obtain ⟨ad, xs, rfl, h1, d1⟩ := da_lst p1
    have e := das_ints d1
    subst e
    refine ⟨ad, ns, rfl, SqL.of (s _ _ h1), hl, fun l n hp hn => ?_⟩
    have st := Step.new (o := SetO X.w l (fun j => decide (j ∈ ns)) n) t s hp
    exact q _ _ _ st ⟨l, n, rfl, hn, by rw [← C.w]; exact upd_same⟩) hm (by decide +kernel) (ja_cons ha ja_nil he) hg (by decide) (by decide) he (by rfl) C
/-- sorted(set(ints)) -/
theorem je_sortedS {ns : List Int} {p : Pos} (hl : ns.length ≤ 60) (hm : G.mg "sorted" = none) (ha : JE G k X L a (isSetI G.w ns)) (hg : Gl X "sorted" := by rfl) (he : starEach [a] X.env = (false, eval a X.env) :: starEach [] X.env := by rfl) : JE G k X L (.Call (.Name "sorted" p) [a] [] pos) (isD (.list ((sset ns).map .int))) := fun C =>
  je_callB (fun C => cr_sortedSet C.calm) (fun vs F H Q s t p q => by
    obtain ⟨v, rfl, p1⟩ := allP1 p
    obtain ⟨ad, n, rfl, hn, h1⟩ := p1
    refine ⟨ad, _, n, rfl, by rw [C.w]; exact s _ _ h1, by omega, fun ns' l up mem _ hp => ?_⟩
    have e : ns' = sset ns := up_unique up (sset_up ns) fun x => by rw [mem, mem_sset]; simp
    subst e
    have st := Step.new (o := .lst ((sset ns).map V.int)) t s hp
    exact q _ _ _ st (.lst upd_same (das_of_ints _))) hm (by decide +kernel) (ja_cons ha ja_nil he) hg (by decide) (by decide) he (by rfl) C
end
end K27
set_option maxHeartbeats 1000000
namespace K27
open PySem L2 LamX
local macro_rules | `(tactic| walk_at "norm") => `(tactic| refine JSs.norm (by dsimp only [setsL, wipeL, initL, List.set, List.map, List.append, List.replicate, List.length, HAppend.hAppend, Append.append]) ?_)
section
variable {G : Gc} {k : Nat} {X : Cx} {L : List Slot} {a b c e : Expr} {pos : Pos} {R : SP}
/-- x = a + b, two lists: the new list is owned -/
theorem js_catAcc (i : Nat) {x : Str} {ds es : List PyData} {pos' pb : Pos} (hl : ds.length + es.length ≤ 100000) (ha : JE G k X L a (isD (.list ds))) (hb : JE G k X L b (isD (.list es))) (hi : X.N[i]? = some x := by rfl) (hx : Loc X.env.scope x := by first | exact Or.inl rfl | exact Or.inr rfl)
    (hs : swapsWith (.BinOp a .Add b pb) (some (.Name x pos')) pos.line X.env = pure false := by rfl) (hf : X.fn x = true ∨ X.env.scope.names.lookup x = some .local := by first | exact .inl rfl | exact .inr rfl) : JS G k X L (.Assign [.Name x pos'] (.BinOp a .Add b pb) pos) R (some (L.set i (.acc (ds ++ es)))) := fun C =>
  (ps_set C.nd hi hx (pe_op op_cat (ha C) (hb C)) hs hf).imp fun D σ H ⟨F0, H0, F, s0, st, E, O, r, n⟩ => by
    refine tS_eval (D := D) st E fun v F1 H1 st1 k1 E1 p1 => tS_eval (D := D) st1 E1 fun w F2 H2 st2 k2 E2 p2 => ?_
    obtain ⟨l1, xs, rfl, q1, d1⟩ := da_lst ((isD _).st k2.w p1)
    obtain ⟨l2, ys, rfl, q2, d2⟩ := da_lst p2
    refine ⟨l1, l2, xs, ys, rfl, rfl, st2.sub _ _ q1, st2.sub _ _ q2, by rw [das_length d1, das_length d2]; exact Nat.le_trans hl (by decide), fun p hp => ?_⟩
    have hF := st2.sub.no hp
    exact n _ rfl _ F2 _ (st2.updNew hF (st2.there s0 hp)) (k1.trans k2) (E2.setOwn hp hF ⟨p, _, rfl, hF, upd_same, das_app d1 d2⟩) (O.setOwn (st2.there s0 hp) E2.len)
end
/-- the columns that a definition looks at -/
def oL : Option Nat → List Int
  | none => []
  | some n => [(n : Int)]
def mFound (cols : List (Str × Str)) (d : Df) : List Int := (mNums cols d).map (fun n : Nat => (n : Int)) ++ (mKeys cols d).map (fun k => (k.1 : Int)) ++ oL (mCol cols d)
def mLooks (cols : List (Str × Str)) (d : Df) : List Int := sset (mFound cols d)
structure Fits2 (cols : List (Str × Str)) (d : Df) : Prop where
  f : Fits cols d
  p3 : d.part.length ≤ 10
  o3 : d.order.length ≤ 10
section
variable {G : Gc}
abbrev spLooks (G : Gc) : Sp := SpF G.T (fun i : List (Str × Str) × Df => Fits2 i.1 i.2) (fun i => [isD i.2.D, isD (.tuple (i.1.map colD))]) (fun i => isD (.tuple ((mLooks i.1 i.2).map .int)))
theorem found_len (cols : List (Str × Str)) (d : Df) (h : Fits2 cols d) : (mFound cols d).length ≤ 30 := by
  unfold mFound mNums mKeys mCol
  simp only [List.length_append, List.length_map]
  have := h.p3
  have := h.o3
  have : (oL (d.col.map (ix cols))).length ≤ 1 := by cases d.col <;> simp [oL]
  omega
theorem sc9 : FnScope ["definition", "columns", "numbers", "keys", "column", "found", "number", "_"] ["definition", "columns"] (defScope (top 9)) := ⟨rfl, rfl, rfl, by decide +kernel, rfl, by decide +kernel, by decide +kernel⟩
theorem ok9 (B : Bt G) (hP : Fn G "parts" 2 (spParts G)) {f : Addr} {fd : FuncData} (F : Fun G.K "looks_at" "looks_at" (top 9) f fd) : FnOk G.P G.w G.K G.mg G.base CX0 3 f fd ["definition", "columns"] (spLooks G) := by
  refine fn_ok (k := 2) F sc9 (fun _ => rfl) ?_
  rintro ⟨cols, d⟩ hf cdv A outer s H E
  have hlen := found_len cols d hf
  dsimp only at *
  refine js_cons (js_asgT (je_call hP (cols, d) hf.f (ja_cons (je_var 0) (ja_cons (je_var 1) ja_nil))) (jg_tupD (jgs_name 2 (jgs_name 3 (jgs_name 4 jgs_nil))))) ?_
  walk_at "norm"
  have hk : (mKeys cols d).length ≤ 100000 := by unfold mKeys; rw [List.length_map]; have := hf.o3; omega
  have hn : (natsD (mNums cols d)).length ≤ 10 := by unfold natsD mNums; rw [List.length_map, List.length_map]; exact hf.p3
  have hkk : ((mKeys cols d).map fun o => PyData.int o.1).length ≤ 10 := by unfold mKeys; rw [List.length_map, List.length_map]; exact hf.o3
  have c1 := fun {X : Cx} {L : List Slot} {it : Expr} {sc : Scope} {pos : Pos} => True
  refine js_cons (js_asg 5 (P := isD (.list ((mFound cols d).map .int))) ?_) (js_rt ?_)
  · cases hc : mCol cols d with
    | none =>
      refine JE.is (je_cat (ds := natsD (mNums cols d) ++ (mKeys cols d).map fun o => .int o.1) (es := []) (by rw [List.length_append]; simp only [List.length_nil]; omega) (je_cat (by omega) (je_listT B.list (je_var 2)) (je_lcT0 (xs := mKeys cols d) (d := fun o => .tuple [.int o.1, .bool o.2]) (own := [("number", 6), ("_", 7)]) (is := [6, 7]) (Ps := fun o => [isI o.1, isB o.2]) (y := fun o => .int o.1) (je_var 3)
        (blk0 (by decide) (fun x hx s H C cl fp => jg_tupD (jgs_name 6 (jgs_name 7 jgs_nil))) fun x hx s H C cl fp => je_var 6) hk)) (je_if (t := true) (jt_isN (d := .none) ((je_var 4).is rfl)) (fun _ => je_lst (ds := []) ja_nil) no_ft)) ?_
      unfold mFound
      rw [hc]
      simp [natsD, oL, Function.comp_def]
    | some n =>
      refine JE.is (je_cat (ds := natsD (mNums cols d) ++ (mKeys cols d).map fun o => .int o.1) (es := [.int n]) (by rw [List.length_append]; simp only [List.length_cons, List.length_nil]; omega) (je_cat (by omega) (je_listT B.list (je_var 2)) (je_lcT0 (xs := mKeys cols d) (d := fun o => .tuple [.int o.1, .bool o.2]) (own := [("number", 6), ("_", 7)]) (is := [6, 7]) (Ps := fun o => [isI o.1, isB o.2]) (y := fun o => .int o.1) (je_var 3)
        (blk0 (by decide) (fun x hx s H C cl fp => jg_tupD (jgs_name 6 (jgs_name 7 jgs_nil))) fun x hx s H C cl fp => je_var 6) hk)) (je_if (t := false) (jt_isN (d := .int n) ((je_var 4).is rfl)) no_tf fun _ => je_lst (ds := [.int n]) (ja_cons ((je_var 4).is rfl) ja_nil))) ?_
      unfold mFound
      rw [hc]
      simp [natsD, oL, Function.comp_def]
  · exact je_tupleL B.tuple (je_sortedS (by omega) B.sorted (je_setI (by omega) B.set (je_var 5)))
theorem sc40 : FnScope ["_law_definition_here", "_law_columns_here", "_law_names", "_law_name", "_law_kind", "_law_found", "_law_down"] ["_law_definition_here", "_law_columns_here"] (defScope (top 40)) := ⟨rfl, rfl, rfl, by decide +kernel, rfl, by decide +kernel, by decide +kernel⟩
def oSL : Option Str → List Str
  | none => []
  | some s => [s]
theorem ok40 (B : Bt G) {f : Addr} {fd : FuncData} (F : Fun G.K "_law_looks" "_law_looks" (top 40) f fd) : FnOk G.P G.w G.K G.mg G.base CX0 1 f fd ["_law_definition_here", "_law_columns_here"] (spLooks G) := by
  refine fn_ok (k := 0) F sc40 (fun _ => rfl) ?_
  rintro ⟨cols, nm, fn, col, num, part, order, fr⟩ hf cdv A outer s H E
  obtain ⟨⟨lc, lp, lo, hp, ho, hc⟩, p3, o3⟩ := id hf
  have hlen := found_len _ _ hf
  dsimp only at *
  refine js_cons (js_asg 2 (je_lcT0 (xs := cols) (d := colD) (own := [("_law_name", 3), ("_law_kind", 4)]) (is := [3, 4]) (Ps := fun c => [isS c.1, isS c.2]) (y := fun c => .str c.1) (je_var 1)
    (blk0 (by decide) (fun x hx s H C cl fp => jg_tupD (jgs_name 3 (jgs_name 4 jgs_nil))) fun x hx s H C cl fp => je_var 3) (Nat.le_trans lc (by decide)))) ?_
  walk_at "norm"
  refine js_cons (js_catAcc 5 (ds := part.map .str) (es := order.map fun o => .str o.1) (by rw [List.length_map, List.length_map]; omega) (je_listT B.list (je_ixT (atI_nat (j := 4) rfl) (je_var 0) je_int)) (je_lcT0 (xs := order) (d := ordD) (own := [("_law_name", 3), ("_law_down", 6)]) (is := [3, 6]) (Ps := fun o => [isS o.1, isB o.2]) (y := fun o => .str o.1) (je_ixT (atI_nat (j := 5) rfl) (je_var 0) je_int)
    (blk0 (by decide) (fun x hx s H C cl fp => jg_tupD (jgs_name 3 (jgs_name 6 jgs_nil))) fun x hx s H C cl fp => je_var 3) (Nat.le_trans lo (by decide)))) ?_
  walk_at "norm"
  have hall : ∀ x ∈ part ++ order.map (·.1) ++ oSL col, has cols x = true := fun x hx => by
    rcases List.mem_append.mp hx with h | h
    · rcases List.mem_append.mp h with h | h
      · exact hp x h
      · obtain ⟨o, h1, rfl⟩ := List.mem_map.mp h
        exact ho o h1
    · cases col with
      | none => cases h
      | some c => rw [List.mem_singleton.mp h]; exact hc c rfl
  have hfin : (part ++ order.map (·.1) ++ oSL col).map (fun x => PyData.int (ix cols x : Nat)) = (mFound cols ⟨nm, fn, col, num, part, order, fr⟩).map .int := by
    unfold mFound mNums mKeys mCol
    cases col <;> simp [oSL, oL, Function.comp_def]
  have hl2 : (part ++ order.map (·.1) ++ oSL col).length ≤ 100000 := by
    have : (oSL col).length ≤ 1 := by cases col <;> simp [oSL]
    simp only [List.length_append, List.length_map]; omega
  refine js_cons (L1 := [.p (isD (Df.mk nm fn col num part order fr).D), .p (isD (.tuple (cols.map colD))), .p (isD (.list (cols.map fun c => .str c.1))), .no, .no, .acc ((part ++ order.map (·.1) ++ oSL col).map .str), .no]) ?_ ?_
  · cases col with
    | none =>
      refine js_if (JT.is (d' := false) (jt_notN (d := .none) (je_ixT (atI_nat (j := 2) rfl) (je_var 0) je_int)) rfl) no_tf fun _ => js_nil.out ?_
      have e1 : (part ++ order.map (·.1) ++ oSL none).map PyData.str = part.map PyData.str ++ order.map fun o => PyData.str o.1 := by simp [oSL]
      rw [e1]
      exact Ent.refl _
    | some c =>
      have hl3 : (part.map PyData.str ++ order.map fun o => PyData.str o.1).length ≤ 100000 := by
        rw [List.length_append, List.length_map, List.length_map]; omega
      refine js_if (JT.is (d' := true) (jt_notN (d := .str c) (je_ixT (atI_nat (j := 2) rfl) (je_var 0) je_int)) rfl) (fun _ => js_cons (js_append 5 rfl hl3 (je_ixT (d := .str c) (atI_nat (j := 2) rfl) (je_var 0) je_int)) (js_nil.out ?_)) no_ft
      · have e1 : (part ++ order.map (·.1) ++ oSL (some c)).map PyData.str = (part.map PyData.str ++ order.map fun o => PyData.str o.1) ++ [PyData.str c] := by simp [oSL]
        rw [e1]
        exact Ent.refl _
  · refine js_freeze 5 (ds := (part ++ order.map (·.1) ++ oSL col).map .str) rfl ?_
    walk_at "norm"
    refine js_rt (je_tupleL B.tuple (je_sortedS (by omega) B.sorted (je_setI (by omega) B.set (JE.is (je_lcL0 (xs := part ++ order.map (·.1) ++ oSL col) (d := PyData.str) (own := [("_law_name", 3)]) (is := [3]) (Ps := fun x => [isS x]) (y := fun x => .int (ix cols x : Nat)) (je_var 5)
      (blk0 (by decide) (fun x hx s H C cl fp => jg_name 3) fun x hx s H C cl fp => je_index rfl (flat_strs cols) (hall x hx) (je_var 2) (je_var 3)) hl2) (by rw [hfin])))))
end
end K27
set_option maxHeartbeats 2000000
/-! K27, eleventh part: sorted(xs, key=f). -/
namespace K27
open PySem L2 LamX PyProof.Rows
open PySem.W (KeepsBut AllAlike Sortable dataLe dataKind SortsAt)
section
variable {X : Cx} {pins : List (Addr × Obj)} {σ : L2.St} {H : Hp} {s : Shared} {T : List (Addr × Str)} {F : Hp}
/-- an object that is not tracked and not pinned: it came in this call -/
structure Loose (X : Cx) (b : Addr) : Prop where
  l : b ≠ X.env.locals
  f : b ∉ X.fs
  n : X.s_0.heap.objs.size ≤ b
  c : ∀ x c, X.env.cells.lookup x = some c → c ≠ b
theorem loose_of (I : Inv X pins σ H s) {b : Addr} (h : s.heap.objs.size ≤ b) : Loose X b := by
  refine ⟨Nat.ne_of_gt (Nat.lt_of_lt_of_le I.lt h), I.nofs h, Nat.le_trans I.sz h, fun x c e z => ?_⟩
  obtain ⟨v, q⟩ := I.cell x c e
  exact absurd (Nat.lt_of_lt_of_le q.lt (by rw [z]; exact h)) (Nat.lt_irrefl _)
theorem Inv.unpin {p : Addr × Obj} (I : Inv X (p :: pins) σ H s) : Inv X pins σ H s :=
  ⟨I.ok, I.os, I.bare, I.base, I.loc, I.cell, I.free, I.freeC, fun q hq => I.pin q ((List.mem_append.mp hq).elim (fun z => List.mem_append_left _ z) fun z => List.mem_append_right _ (List.mem_cons_of_mem _ z)), I.hok, I.len⟩
theorem inv_pin {a : Addr} {o : Obj} (I : Inv X pins σ H s) (e : s.heap.get? a = some o) (n : H a = none) (l : Loose X a) (c : ∀ v, o.data ≠ .cell v) : Inv X ((a, o) :: pins) σ H s :=
  I.pins_of fun p hp => by
    rcases List.mem_cons.mp hp with rfl | hp
    · exact ⟨e, n, l.l, l.f, c⟩
    · exact I.pin p (List.mem_append_right _ hp)
/-- what a key function does -/
def KeyTurn (X : Cx) (T : List (Addr × Str)) (F H : Hp) (pins : List (Addr × Obj)) (σ : L2.St) (fv : Value) (v : V) (k : PyData) : Prop :=
  ∀ (pins' : List (Addr × Obj)) (F1 H1 : Hp) (s1 : Shared) (u : Value), (∀ p ∈ pins, p ∈ pins') → Step T F H F1 H1 → Inv X pins' σ H1 s1 → RelV v u →
    wpAny (model X.prog X.w) X.A.in1.in1 (call fv [u]) (EP X pins' σ fun y H2 => ∃ F2, Step T F1 H1 F2 H2 ∧ Da F2 y k) (fun _ _ => False) s1
theorem das_each {P : Program} {w : World} {F H : Hp} (I : Inv X pins σ H s) (k : Sub F H) : ∀ {ds : List PyData} {vs : List V} {us : List Value}, Das F vs ds → Vals vs us → PySem.W.EachIs (fun u d => ∃ as, Reads s.heap u d as) us ds
  | _, _, _, .nil, .nil => .nil
  | _, _, _, .cons h t, .cons r rs => .cons (Dp.reads I _ _ _ (da_dp k _ _ h) r) (das_each (P := P) (w := w) I k t rs)
theorem each_mk {α β : Type} {R : α → β → Prop} : ∀ {as : List α} {bs : List β}, as.length = bs.length → (∀ (i : Nat) (a : α) (b : β), as[i]? = some a → bs[i]? = some b → R a b) → PySem.W.EachIs R as bs
  | [], [], _, _ => .nil
  | [], _ :: _, h, _ => by simp at h
  | _ :: _, [], h, _ => by simp at h
  | a :: as, b :: bs, h, q => .cons (q 0 a b rfl rfl) (each_mk (by simpa using h) fun i x y e1 e2 => q (i + 1) x y (by simpa using e1) (by simpa using e2))
theorem each_split {β : Type} {F : Hp} {itm : β → PyData} : ∀ {us : List Value} {bs : List β}, PySem.W.EachIs (fun u b => ∃ v, RelV v u ∧ Da F v (itm b)) us bs → ∃ vs, Vals vs us ∧ Das F vs (bs.map itm)
  | _, _, .nil => ⟨[], .nil, .nil⟩
  | _, _, .cons ⟨v, r, d⟩ t => let ⟨vs, r2, d2⟩ := each_split t; ⟨v :: vs, .cons r r2, .cons d d2⟩
theorem vals_getU {vs : List V} {us : List Value} (r : Vals vs us) {i : Nat} {u : Value} (h : us[i]? = some u) : ∃ v, vs[i]? = some v ∧ RelV v u := by
  have hl := r.length
  have hi : i < us.length := (List.getElem?_eq_some_iff.mp h).1
  obtain ⟨u2, h1, h2⟩ := r.get (i := i) (x := vs[i]) (List.getElem?_eq_getElem (by omega))
  rw [h] at h1
  cases h1
  exact ⟨_, List.getElem?_eq_getElem (by omega), h2⟩
theorem vals_snoc {vs : List V} {us : List Value} {v : V} {u : Value} (r : Vals vs us) (h : RelV v u) : Vals (vs ++ [v]) (us ++ [u]) := r.append (.cons h .nil)
section
variable {β : Type} {bs : List β} {kf itm : β → PyData}
/-- the calls of the key function, one by one; then the sort -/
theorem keyI_rest {fv : Value} {a kS : Addr} {oa : Obj} {e1 : Nat} {vs : List Value} {xs : List V} {P : PySem.Fin → Shared → Prop} {E : Value → Shared → Prop} {s0 : Shared}
    (hoa : oa = seqObj "list" #[] e1) (rv : Vals xs vs) (hx : Das F xs (bs.map itm)) (hZ : bs.length ≤ 1000) (hal : AllAlike (bs.map kf)) (hsk : Sortable (bs.map kf)) (hu : ∀ d, d ∈ bs.map kf → X.A.in1.in1.units + d.depth < cLine)
    (I : Inv X pins σ (upd H a (.frz oa (.lst []))) s0) (sF : Sub F H) (tT : Tabs T F) (hHa : H a = none) (nk : s0.heap.get? kS = some (seqObj "list" #[] 0)) (hHk : H kS = none) (lk : Loose X kS) (hka : kS ≠ a) (hpk : ∀ p ∈ X.pn ++ pins, p.1 ≠ kS) (hl0 : ∀ o u, X.H_0 a ≠ some (.frz o u))
    (turn : ∀ (i : Nat) (v : V) (b : β), xs[i]? = some v → bs[i]? = some b → KeyTurn X T F H pins σ fv v (kf b))
    (h : ∀ F1 H1 h' tk g d vs', Step T F H F1 H1 → H1 a = none → Das F1 vs' ((bs.mergeSort (dataLe false kf)).map itm) → Inv X pins σ (upd H1 a (.lst vs')) { s0 with heap := h', toks := tk, gens := g, drawn := d } → P (.done (.ret .none)) { s0 with heap := h', toks := tk, gens := g, drawn := d }) :
    wpAny (model X.prog X.w) X.A.in1.in1 (ksk_rest a fv false vs.toArray e1 (.ref kS)) P E s0 := by
  have hxl : xs.length = bs.length := by rw [das_length hx, List.length_map]
  have hvl : vs.length = bs.length := by rw [← rv.length]; exact hxl
  have hZ' : vs.length ≤ sizeLine := by rw [hvl]; exact Nat.le_trans hZ (by decide)
  unfold ksk_rest
  refine wpAny_bind (wpAny_rule ?_)
  first
    | rw [List.forIn_toArray]
    | (rw [← Array.forIn_toList]; simp only [List.toList_toArray])
    | rw [← Array.forIn_toList]
  refine wpAny_bind (ksk_fold (fun i s' => ∃ F1 H1 kA e ks, s'.os = s0.os ∧ Step T F H F1 H1 ∧ H1 a = some (.frz oa (.lst [])) ∧ F1 a = none ∧ H1 kS = none ∧ Inv X pins σ H1 s' ∧ s'.heap.get? kS = some (seqObj "list" kA e) ∧ Vals ks kA.toList ∧ Das F1 ks ((bs.take i).map kf)) vs 0 s0 ?_ ?_ ?_)
  · have st : Step T F H F (upd H a (.frz oa (.lst []))) := Step.newOwn tT sF hHa
    exact ⟨F, _, #[], 0, [], rfl, st, upd_same, sF.no hHa, by rw [upd_ne hka]; exact hHk, I, nk, .nil, by rw [List.take_zero]; exact .nil⟩
  · rintro j x s' hxj ⟨F1, H1, kA, e, ks, hos, st, ha, fa, hk1, I1, nk1, rk, dk⟩
    simp only [Nat.zero_add] at dk ⊢
    have hj : j < bs.length := by rw [← hvl]; exact (List.getElem?_eq_some_iff.mp hxj).1
    obtain ⟨v, hv, rvj⟩ := vals_getU rv hxj
    have hb : bs[j]? = some bs[j] := List.getElem?_eq_getElem hj
    have hkl : kA.size = j := by
      have q1 := rk.length
      have q2 := das_length dk
      rw [List.length_map, List.length_take] at q2
      rw [← Array.length_toList, ← q1, q2]
      omega
    have I2 := inv_pin I1 nk1 hk1 lk (fun v z => by cases z)
    refine wpAny_bind (wpAny_attempt (wpAny_mono (turn j v bs[j] hv hb _ F1 H1 s' x (fun p hp => List.mem_cons_of_mem _ hp) st I2 rvj) (fun y s'' he => ?_) fun _ _ hF => hF.elim))
    obtain ⟨yv, H2, I3, ry, F2, st2, dy⟩ := he
    obtain ⟨p1, p2, p3, p4, p5⟩ := I3.pin (kS, seqObj "list" kA e) (List.mem_append_right _ (.head _))
    have p1 : s''.heap.get? kS = some (seqObj "list" kA e) := p1
    have p2 : H2 kS = none := p2
    have I4 : Inv X pins σ H2 s'' := Inv.unpin I3
    obtain ⟨ha2, fa2⟩ := st2.own a _ ha fa
    have s1 := Heap.SameBut.update s''.heap kS (Obj.mapSeq (·.push y))
    obtain ⟨c2, hc2⟩ : ∃ c2, (s''.heap.update kS (Obj.mapSeq (·.push y))).get? kS = some (seqObj "list" (kA.push y) c2) := ⟨_, get?_update_seq p1 (·.push y)⟩
    have hz1 : kA.size ≤ sizeLine := by rw [hkl]; omega
    refine wpAny_bind (listUpdate_at p1 rfl ?_ hz1 (Nat.le_trans (Nat.le_of_eq (Array.size_push ..)) (Nat.succ_le_succ hz1)))
    have I5 : Inv X pins σ H2 { s'' with heap := s''.heap.update kS (Obj.mapSeq (·.push y)), toks := s''.toks } := I4.turned (it := kS) (fun b o hb e => (s1.2 b hb).trans e) p2 lk.l (.inr lk.n) lk.c hpk
    have ek : (bs.take (j + 1)).map kf = (bs.take j).map kf ++ [kf bs[j]] := by rw [List.take_add_one, hb, List.map_append]; rfl
    refine wpAny_pure ⟨rfl, F2, H2, kA.push y, c2, ks ++ [yv], I4.os.trans I.os.symm, st.trans st2, ha2, fa2, p2, I5, hc2, ?_, ?_⟩
    · rw [Array.toList_push]; exact vals_snoc rk ry
    · rw [ek]; exact das_app (keep_ds st2.keep _ _ dk) (.cons dy .nil)
  · rintro s' ⟨F1, H1, kA, e, ks, hos, st, ha, fa, hk1, I1, nk1, rk, dk⟩
    have e3 : bs.take (0 + vs.length) = bs := List.take_of_length_le (by omega)
    rw [e3] at dk
    have hk' : PySem.W.EachIs (fun v k => ∃ as, Reads s'.heap v k as) kA.toList (bs.map kf) := das_each (P := X.prog) (w := X.w) I1 st.sub dk rk
    have hsz : kA.size = vs.length := by
      have q1 := rk.length
      have q2 := das_length dk
      rw [List.length_map] at q2
      rw [← Array.length_toList, ← q1, q2, hvl]
    obtain ⟨G, g1, g2⟩ := L2.restrict s'.heap fun b => decide (b ≠ kS)
    have gk : ∀ b o, b ≠ kS → s'.heap.get? b = some o → G.get? b = some o := fun b o hb e => by rw [g1 b (decide_eq_true hb)]; exact e
    have ga : G.get? kS = none := g2 kS (decide_eq_false fun z => z rfl)
    have gs : ∀ b o, G.get? b = some o → s'.heap.get? b = some o := fun b o e => by
      by_cases hb : b = kS
      · rw [hb, ga] at e; cases e
      · rw [← g1 b (decide_eq_true hb)]; exact e
    have na : s'.heap.get? a = some (seqObj "list" #[] e1) := by
      have := (I1.hok a _ ha).1
      rw [hoa] at this
      exact this
    refine wpAny_bind (listItems_at nk1 rfl ?_)
    refine PySem.W.keyH_end (κ := dataKind s'.heap (bs.map kf)) (h₁ := G) (s := s') (fun b o _ e => gs b o e) ga nk1 na hka (SortsAt.data hk' hal hsk hu) hsz hZ' fun h3 tk3 c k3 n3 => ?_
    have IG : Inv X pins σ H1 { s' with heap := G, toks := tk3 } := I1.turned (it := kS) (fun b o hb e => gk b o hb e) hk1 lk.l (.inr lk.n) lk.c hpk
    have IU : Inv X pins σ (upd H1 a (.lst [])) { s' with heap := G, toks := tk3 } := IG.unlock ha hl0
    have ko : PySem.W.KeyedOut false (bs.map kf) vs (PySem.W.sortVals (dataKind s'.heap (bs.map kf)) false kA.toList vs) := ⟨s'.heap, kA.toList, hal, rfl, hk'⟩
    have hR : PySem.W.EachIs (fun u b => ∃ v, RelV v u ∧ Da F1 v (itm b)) vs bs := each_mk hvl fun i u b e1 e2 => by
      obtain ⟨v, q1, q2⟩ := vals_getU rv e1
      obtain ⟨d, q3, q4⟩ := das_getV hx q1
      rw [List.getElem?_map, e2] at q3
      cases q3
      exact ⟨v, q2, keep_d st.keep _ _ q4⟩
    obtain ⟨vs', r', d'⟩ := each_split (PySem.W.keyedOut_each kf ko hR)
    have hol : vs'.length ≤ sizeLine := by
      rw [das_length d', List.length_map, List.length_mergeSort]
      exact Nat.le_trans hZ (by decide)
    have IW : Inv X pins σ (upd (upd H1 a (.lst [])) a (.lst vs')) { s' with heap := h3, toks := tk3 } := IU.write (e := a) (t' := tk3) (by rw [upd_same]; trivial) (.inl rfl) (fun b u hb q => k3 b u hb q) ⟨_, n3⟩ ⟨hol, _, c, r', n3⟩
    rw [upd_upd] at IW
    obtain ⟨hh, gg, dd, tt, oo⟩ := s'
    have hos : oo = s0.os := hos
    subst hos
    have e0 : upd H1 a (.lst vs') = upd (fun b => if b = a then none else H1 b) a (.lst vs') := by
      funext b; unfold upd; by_cases hb : b = a <;> simp [hb]
    refine h F1 (fun b => if b = a then none else H1 b) h3 tk3 gg dd vs' ?_ (by simp) d' (by rw [← e0]; exact IW)
    refine ⟨st.keep, st.str, st.tab, fun b o e => ?_, fun b o e n => ?_⟩
    · have hb : b ≠ a := fun z => by rw [z, fa] at e; cases e
      simp only [if_neg hb]
      exact st.sub b o e
    · have hb : b ≠ a := fun z => by rw [z, hHa] at e; cases e
      simp only [if_neg hb]
      exact st.own b o e n
end
end
end K27
namespace K27
open PySem L2 LamX PyProof.Rows
open PySem.W (KeepsBut AllAlike Sortable dataLe dataKind SortsAt)
section
variable {X : Cx} {pins : List (Addr × Obj)} {σ : L2.St} {H : Hp} {s : Shared} {T : List (Addr × Str)} {F : Hp} {β : Type} {bs : List β} {kf itm : β → PyData}
/-- what sorted(l, key=q) gives -/
theorem sortedKey_run {q l : Addr} {xs : List V} {Q : VK} (I : Inv X pins σ H s) (sF : Sub F H) (tT : Tabs T F) (hl : F l = some (.lst xs)) (hx : Das F xs (bs.map itm)) (hZ : bs.length ≤ 1000) (hal : AllAlike (bs.map kf)) (hsk : Sortable (bs.map kf)) (hu : ∀ d, d ∈ bs.map kf → X.A.in1.in1.units + d.depth < cLine)
    (turn : ∀ (v : V) (b : β), b ∈ bs → Da F v (itm b) → KeyTurn X T F H pins σ (.ref q) v (kf b))
    (hq : ∀ F1 H1 p vs', Step T F H F1 H1 → H1 p = none → Das F1 vs' ((bs.mergeSort (dataLe false kf)).map itm) → Q (.ref p) (upd H1 p (.lst vs'))) :
    wpAny (model X.prog X.w) X.A (call (.builtin "sorted") [.ref l] [(Str.ofString "key", .ref q)]) (EP X pins σ Q) X.xe s := by
  obtain ⟨vs, rv, pl, hz⟩ := I.list (SqL.of (K := X.K) (sF _ _ hl))
  have hvl : vs.length = bs.length := by rw [← rv.length, das_length hx, List.length_map]
  have hZ' : vs.length ≤ sizeLine := by rw [← rv.length]; exact hz
  refine PySem.W.sorted_of_sort pl.isList hZ' (ksk_s1 _ _) (fun x => ksk_l1 _ _) fun E' => ?_
  rw [ksk_t1]
  obtain ⟨a, ha⟩ : ∃ a, a = s.heap.objs.size + 1 := ⟨_, rfl⟩
  rw [← ha]
  have ho : (PySem.W.copyHeap s.heap vs).get? a = some (seqObj "list" vs.toArray 0) := by rw [ha]; exact PySem.W.copyHeap_at s.heap vs
  obtain ⟨e1, ho1⟩ : ∃ e1, ((PySem.W.copyHeap s.heap vs).update a (Obj.mapSeq fun _ => (#[] : Array Value))).get? a = some (seqObj "list" #[] e1) := ⟨_, get?_update_seq ho fun _ => #[]⟩
  have hHa : H a = none := I.hok.fresh (by rw [ha]; exact Nat.le_succ _)
  have kold : ∀ b o, s.heap.get? b = some o → (((PySem.W.copyHeap s.heap vs).update a (Obj.mapSeq fun _ => (#[] : Array Value))).push (seqObj "tuple" vs.toArray 0)).get? b = some o := fun b o e => by
    have hlt := Heap.lt_size e
    have hb : b ≠ a := by rw [ha]; exact Nat.ne_of_lt (Nat.lt_succ_of_lt hlt)
    exact Heap.get?_push_of_some _ ((Heap.get?_update_ne _ _ _ _ hb).trans (PySem.W.copyHeap_old e))
  obtain ⟨hm, hhm⟩ : ∃ hm, hm = ((PySem.W.copyHeap s.heap vs).update a (Obj.mapSeq fun _ => (#[] : Array Value))).push (seqObj "tuple" vs.toArray 0) := ⟨_, rfl⟩
  have hma : hm.get? a = some (seqObj "list" #[] e1) := by rw [hhm]; exact Heap.get?_push_of_some _ ho1
  have I1 : Inv X pins σ (upd H a (.frz (seqObj "list" #[] e1) (.lst []))) { s with heap := hm, toks := s.toks } :=
    I.laid (t' := s.toks) (fun b o e => by rw [hhm]; exact kold b o e) (by rw [ha]; exact Nat.le_succ _) ⟨hma, Nat.zero_le _, [], e1, .nil, hma⟩
  have I2 : Inv X pins σ (upd H a (.frz (seqObj "list" #[] e1) (.lst []))) { s with heap := hm.push (seqObj "list" #[] 0), toks := s.toks } := I1.kept (t' := s.toks) fun b o e => Heap.get?_push_of_some _ e
  have hle : s.heap.objs.size ≤ hm.objs.size := by rw [hhm, size_push', Heap.size_update]; unfold PySem.W.copyHeap; rw [size_push', Heap.size_update, size_push']; omega
  have hHk : H hm.objs.size = none := I.hok.fresh hle
  have hka : hm.objs.size ≠ a := Nat.ne_of_gt (Heap.lt_size hma)
  unfold ksk_tree
  refine wpAny_bind (listItems_at ho rfl ?_)
  refine wpAny_bind (listUpdate_at ho rfl ?_ (by rw [List.size_toArray]; exact hZ') (Nat.zero_le _))
  refine wpAny_bind (seqEpoch_at ho1 rfl ?_)
  refine wpAny_bind (wpAny_newTuple ?_ (by show vs.length ≤ _; exact hZ'))
  refine wpAny_bind (wpAny_newList ?_ (Nat.zero_le _))
  refine wpAny_holding ?_
  have eL : vs.toArray.toList = vs := by simp
  show wpAny _ _ (ksk_rest a (.ref q) false vs.toArray e1 (.ref (((PySem.W.copyHeap s.heap vs).update a (Obj.mapSeq fun _ => (#[] : Array Value))).push (seqObj "tuple" vs.toArray 0)).objs.size)) _ _ { s with heap := (((PySem.W.copyHeap s.heap vs).update a (Obj.mapSeq fun _ => (#[] : Array Value))).push (seqObj "tuple" vs.toArray 0)).push (seqObj "list" #[] 0) }
  rw [← hhm]
  refine keyI_rest (kf := kf) (itm := itm) (bs := bs) (H := H) (F := F) (T := T) (pins := pins) (σ := σ) (oa := seqObj "list" #[] e1) rfl rv hx hZ hal hsk hu I2 sF tT hHa (Heap.get?_push_size _ rfl) hHk (loose_of I hle) hka (fun p hp z => ?_) (fun o u z => ?_) (fun i v b hv hb => ?_) fun F1 H1 h' tk g d vs' st h1a d' IW => ⟨rfl, ?_⟩
  · have e := (I.pin p hp).1
    rw [z] at e
    exact absurd (Nat.lt_of_lt_of_le (Heap.lt_size e) hle) (Nat.lt_irrefl _)
  · have e := I.base.frzs _ _ _ z
    rw [hHa] at e; cases e
  · obtain ⟨d, e3, dv⟩ := das_getV hx hv
    rw [List.getElem?_map, hb] at e3
    cases e3
    exact turn v b (List.mem_of_getElem? hb) dv
  · exact ⟨.ref a, _, IW, rfl, hq F1 H1 a vs' st h1a d'⟩
theorem room2 {j : Nat} {A : Around} (r : Room (j + 1) A) : Room j A.in1.in1 :=
  ⟨r.hd, by have := r.dp; show A.depth + 3 * j + 5 < _; omega, by have := r.un; show A.units + 1 + 1 + 16 * j + 200 < _; omega⟩
end
section
variable {G : Gc} {k : Nat} {X : Cx} {L : List Slot} {a b c e : Expr} {es : List Expr} {pos : Pos} {β : Type} {bs : List β} {kf itm : β → PyData}
/-- a def of the text as a key -/
theorem fn_turn {j : Nat} {IT : Type} {pre : IT → Prop} {Ps : IT → List SP} {R : IT → SP} {f : Addr} {fd : FuncData} {ps : List Str} {v : V} {i : IT} {d kd : PyData} {F H : Hp} {pins : List (Addr × Obj)} {σ : L2.St} (C : CxOk G k X) (hj : j + 1 ≤ k) (Fo : FnOk G.P G.w G.K G.mg G.base CX0 j f fd ps (SpF G.T pre Ps R)) (hb : Binds G.K fd ps [])
    (hp : pre i) (hPs : Ps i = [isD d]) (hR : R i = isD kd) (dv : Da F v d) : KeyTurn X G.T F H pins σ (.ref f) v kd := by
  intro pins' F1 H1 s1 u hpp st I rv
  have F' : FnOk X.prog X.w X.K X.mg X.base CX0 j f fd ps (SpF G.T pre Ps R) := by rw [C.prog, C.w, C.K, C.mg, C.base]; exact Fo
  have hb' : Binds X.K fd ps [] := by rw [C.K]; exact hb
  have h : SpF G.T pre Ps R [v] H1 (fun y H2 => ∃ F2, Step G.T F1 H1 F2 H2 ∧ Da F2 y kd) E0 := ⟨i, hp, F1, st.sub, st.tab, by rw [hPs]; exact ⟨keep_d st.keep _ _ dv, trivial⟩, fun y F2 H2 st2 p2 => ⟨F2, st2, by rw [hR] at p2; exact p2⟩⟩
  have hl : ([u] : List Value).length = ps.length := F'.len _ _ _ _ h
  refine wpAny_call (codeAny_mono (F'.run X.A.in1.in1 X.stack s1 H1 ⟨[u], []⟩ [u] [v] _ E0 (room2 (C.room.mono hj)) I.env0.in1.in1 (by simpa using hb' s1 [u] I.kIn (by simpa using hl)) (.cons rv .nil) h) fun r s' hq => ?_)
  cases r with
  | error e => exact (show False from hq).elim
  | ok fl =>
    cases fl with
    | ret u => exact I.after hq
    | next => exact False.elim hq
    | brk => exact False.elim hq
    | cont => exact False.elim hq
theorem je_sortedKey {kx : Str} {j : Nat} {IT : Type} {pre : IT → Prop} {Ps : IT → List SP} {R : IT → SP} {p pk kp : Pos} (Fo : Fn G kx j (SpF G.T pre Ps R)) (ix : β → IT) (hpre : ∀ b ∈ bs, pre (ix b)) (hPs : ∀ b, Ps (ix b) = [isD (itm b)]) (hR : ∀ b, R (ix b) = isD (kf b))
    (hlen : bs.length ≤ 1000) (hal : AllAlike (bs.map kf)) (hsk : Sortable (bs.map kf)) (hdep : ∀ b ∈ bs, (kf b).depth ≤ 60) (hm : G.mg "sorted" = none) (ha : JE G k X L a (isD (.list (bs.map itm)))) (hj : j + 1 ≤ k := by decide) (hg : Gl X "sorted" := by rfl) (hg2 : Gl X kx := by rfl)
    (he : backTo pos (starEach [a] X.env) = (false, eval a X.env) :: backTo pos (starEach [] X.env) := by rfl) (hse : starEach [a] X.env = (false, eval a X.env) :: starEach [] X.env := by rfl) (hpl : (backTo pos (starEach [a] X.env)).any (·.1) = false := by rfl)
    (hall : (backToKw pos (keywordEach [⟨some (Str.ofString "key"), .Name kx pk, kp⟩] X.env)).all (·.1.isSome) = true := by rfl) (hnone : (backToKw pos (keywordEach [⟨some (Str.ofString "key"), .Name kx pk, kp⟩] X.env)).any (·.1.isNone) = false := by rfl)
    (hks : (backToKw pos (keywordEach [⟨some (Str.ofString "key"), .Name kx pk, kp⟩] X.env)).filterMap (·.1) = [Str.ofString "key"] := by rfl) (hd : (kx == ("__debug__" : Str)) = false := by decide) :
    JE G k X L (.Call (.Name "sorted" p) [a] [⟨some (Str.ofString "key"), .Name kx pk, kp⟩] pos) (isD (.list ((bs.mergeSort (dataLe false kf)).map itm))) := fun C => by
  obtain ⟨f, fd, ps, Fo, hmf, hk, hb⟩ := Fo
  have hcr : CallRK X (.builtin "sorted") [Str.ofString "key"] (fun vs zs H Q => ∃ (l : Addr) (F : Hp) (xs : List V), vs = [.ref l] ∧ zs = [.ref f] ∧ Sub F H ∧ Tabs G.T F ∧ F l = some (.lst xs) ∧ Das F xs (bs.map itm) ∧ ∀ F1 H1 p vs', Step G.T F H F1 H1 → H1 p = none → Das F1 vs' ((bs.mergeSort (dataLe false kf)).map itm) → Q (.ref p) (upd H1 p (.lst vs'))) := by
    intro pins s σ H vs zs us ws Q I r rz ⟨l, F, xs, e1, e2, sF, tT, hl, hx, hq⟩
    subst e1 e2
    have e1 := Vals.ref1 r
    have e2 := Vals.ref1 rz
    subst e1 e2
    refine sortedKey_run I sF tT hl hx hlen hal hsk (fun d hd => ?_) (fun v b hbm dv => fn_turn C hj Fo hb (hpre b hbm) (hPs b) (hR b) dv) hq
    obtain ⟨b, hb, rfl⟩ := List.mem_map.mp hd
    have := hdep b hb
    have := C.room.un
    show X.A.units + 1 + 1 + _ < _
    omega
  refine (pe_callBK hcr hg (by rw [C.mg]; exact hm) (by decide +kernel) ((ja_cons ha ja_nil hse) C) (pk_cons (pe_glob (v := .ref f) hg2 (by rw [C.mg]; exact hmf) rfl hd) pk_nil) (he := he) (hpl := hpl) (hall := hall) (hnone := hnone) (hks := hks)).imp fun σ H Q ⟨F, s, t, E, q⟩ => ⟨F, s, t, E, fun vs F1 H1 st1 p1 => ?_⟩
  obtain ⟨v, rfl, p2⟩ := allP1 p1
  obtain ⟨l, xs, rfl, h1, d1⟩ := da_lst p2
  refine ⟨l, F1, xs, rfl, rfl, st1.sub, st1.tab, h1, d1, fun F2 H2 p vs' st2 hp d2 => ?_⟩
  have st3 := Step.new (o := .lst vs') st2.tab st2.sub hp
  exact q _ _ _ ((st1.trans st2).trans st3) (.lst upd_same (keep_ds st3.keep _ _ d2))
end
end K27
/-! K27, twelfth part: sorted(xs, key=lambda x: ..). -/
namespace K27
open PySem L2 LamX PyProof.Rows
open PySem.W (AllAlike Sortable dataLe)
theorem codeO_ne' {c : Addr} {q : Str} (ps : Array Value) : CodeO c q ≠ .tbl ps := fun z => by unfold CodeO at z; cases z
/-- a table gets a code object -/
theorem Step.table {T : List (Addr × Str)} {F H : Hp} {P c : Addr} {q : Str} {ps : Array Value} {pos : Pos} (t : Tabs T F) (s : Sub F H) (hm : (P, q) ∈ T) (hu : ∀ p ∈ T, p.1 = P → p.2 = q) (hP : F P = some (.tbl ps)) (hc : H c = none) :
    Step T F H (upd (upd F P (.tbl (ps ++ #[rawInt pos.line, rawInt pos.col, .ref c]))) c (CodeO c q)) (upd (upd H P (.tbl (ps ++ #[rawInt pos.line, rawInt pos.col, .ref c]))) c (CodeO c q)) := by
  have nc : F c = none := s.no hc
  have nP : ∀ b u, F b = some u → (∀ p, u ≠ .tbl p) → b ≠ P := fun b u e n z => by rw [z, hP] at e; exact n ps (Option.some.inj e).symm
  have old : ∀ b u, F b = some u → (∀ p, u ≠ .tbl p) → upd (upd F P (.tbl (ps ++ #[rawInt pos.line, rawInt pos.col, .ref c]))) c (CodeO c q) b = some u := fun b u e n => by
    rw [upd_ne (ne_of_none e nc), upd_ne (nP b u e n)]; exact e
  have eL : (ps ++ #[rawInt pos.line, rawInt pos.col, .ref c]).toList = ps.toList ++ [rawInt pos.line, rawInt pos.col, .ref c] := by simp
  refine ⟨⟨fun b o e p => old b o e fun q z => by rw [z] at p; exact p, fun b k e => ?_, fun b o e => ?_⟩, old, fun p hp => ?_, (s.upd P _).upd c _, fun b o e n => ?_⟩
  · rcases e with e | ⟨o, e⟩
    · exact .inl (old b _ e fun _ z => nomatch z)
    · exact .inr ⟨o, old b _ e fun _ z => nomatch z⟩
  · by_cases hb : b = P
    · subst hb
      exact ⟨_, by rw [upd_ne (ne_of_none hP nc), upd_same]⟩
    · exact ⟨o, by rw [upd_ne (ne_of_none e nc), upd_ne hb]; exact e⟩
  · by_cases hb : p.1 = P
    · obtain ⟨ps', a1, a2, a3⟩ := t p hp
      rw [hb, hP] at a1
      cases a1
      rw [hu p hp hb, hb]
      rw [hu p hp hb] at a3
      refine ⟨_, by rw [upd_ne (ne_of_none hP nc), upd_same], by rw [eL]; exact PySem.TriplesOk_snoc _ _ _ _ a2, fun p' cv hcv => ?_⟩
      rw [eL] at hcv
      rcases among_app _ a2 hcv with z | z
      · obtain ⟨c0, e1, e2⟩ := a3 p' cv z
        exact ⟨c0, e1, old _ _ e2 codeO_ne'⟩
      · exact ⟨c, z, upd_same⟩
    · obtain ⟨ps', a1, a2, a3⟩ := t p hp
      refine ⟨ps', by rw [upd_ne (ne_of_none a1 nc), upd_ne hb]; exact a1, a2, fun p' cv hcv => ?_⟩
      obtain ⟨c0, e1, e2⟩ := a3 p' cv hcv
      exact ⟨c0, e1, old _ _ e2 codeO_ne'⟩
  · have h1 : b ≠ c := ne_of_none e hc
    have h2 : b ≠ P := fun z => by rw [z, hP] at n; cases n
    rw [upd_ne h1, upd_ne h2, upd_ne h1, upd_ne h2]
    exact ⟨e, n⟩
/-- the lambda's names: captured ones, globals, its own x -/
structure LamS1 (sc scope : Scope) (N : List Str) (x : Str) : Prop where
  kind : scope.kind = .function
  co : scope.isCoroutine = false
  gen : scope.isGenerator = false
  nocell : ∀ y ∈ scope.names, y.2 ≠ .cell
  own : ∀ y ∈ scope.names, y.2 = .local → y.1 = x
  free : ∀ y ∈ scope.names, y.2 = .free → sc.names.lookup y.1 = some .cell ∨ sc.names.lookup y.1 = some .free
  own1 : scope.names.lookup x = some .local
  nx : x ∉ N
theorem LamS1.has {X : Cx} {scope : Scope} {x : Str} (L : LamS1 X.env.scope scope X.N x) (ok : X.Ok) : ∀ y ∈ scope.names, y.2 = .free → ∃ c, X.env.cells.lookup y.1 = some c := fun y hy e => by
  rcases L.free y hy e with k | k
  · exact ok.has _ (.inl k)
  · exact ok.has _ (.inr k)
/-- the context of the lambda's body -/
def lamCx1 (X : Cx) (A : Around) (outer : List Env) (s : Shared) (H : Hp) (E : XK) (scope : Scope) (f c' : Addr) (x : Str) : Cx := { lamCx X A outer s H E scope f c' with N := X.N ++ [x], xe := fun e s' => wpAny (model X.prog X.w) (A.deeper (lamEnv X scope s.heap.objs.size f c')) (leaving (lamEnv X scope s.heap.objs.size f c') e) (fun _ s'' => CX0 outer H s E e s'') (fun e' s'' => CX0 outer H s E e' s'') s' }
section
variable {X : Cx} {pins : List (Addr × Obj)} {σ : L2.St} {H : Hp} {s : Shared}
theorem lam_start1 {A : Around} {outer : List Env} {E : XK} {scope : Scope} {f c' : Addr} {h₁ : Heap} {tk : Nat} {x : Str} {v : V} {u : Value} (I : Inv X pins σ H s) (L : LamS1 X.env.scope scope X.N x) (e0 : Env0 X.prog X.w X.K X.mg X.base A outer s H) (hd : A.handled = none) (rv : RelV v u)
    (hns : h₁.Ns s.heap.objs.size fun y => ([(x, u)] : List (Str × Value)).reverse.lookup y) (kp : ∀ b o, s.heap.get? b = some o → h₁.get? b = some o) :
    Inv (lamCx1 X A outer s H E scope f c' x) [] (σ ++ [some v]) H { s with heap := h₁, toks := tk } := by
  have hfree := L.has I.ok
  have cm : ∀ {y c}, (cloFrom X.env.cells scope.names []).lookup y = some c → X.env.cells.lookup y = some c := fun {y c} e => by
    rcases cloFrom_mem (PySem.mem_of_lookup e) with hm | ⟨h1, h2⟩
    · cases hm
    · obtain ⟨c1, hc⟩ := hfree _ h1 rfl
      have hc : X.env.cells.lookup y = some c1 := hc
      have e2 : c = c1 := by rw [h2, hc] <;> rfl
      rw [e2]
      exact hc
  have look : ∀ {y}, scope.names.lookup y = some .free → ∃ c, (cloFrom X.env.cells scope.names []).lookup y = some c := fun {y} hl => mem_lookup (cloFrom_has (cells := X.env.cells) (acc := []) (PySem.mem_of_lookup hl))
  have cellK : ∀ {c : Addr} {v : Option Value}, s.heap.IsCell c v → h₁.IsCell c v := fun {c v} ⟨o, ho, hd⟩ => ⟨o, kp _ _ ho, hd⟩
  have noA : ∀ b : Addr, b ∉ (lamCx1 X A outer s H E scope f c' x).ex := fun b z => absurd (show b ∈ ([] : List Addr) from z) (by simp)
  refine ⟨⟨e0.mod, L.kind, rfl, rfl, Nat.le_refl _, fun y z c e1 e2 => I.ok.inj y z c (cm e1) (cm e2), fun y hy => ?_, fun y c z _ => ?_, fun _ => hd, Around.frames_deeper e0.frames, .inr ⟨rfl, rfl⟩, fun b z => absurd z (noA b), e0.bs, e0.bsz, fun b _ _ => noA b,
      fun b z => absurd z (noA b), e0.funs, e0.frf⟩,
    rfl, e0.bare, Un.kept kp, ⟨_, hns, fun i y w e1 e2 e3 => ?_⟩, fun y c e => ?_, e0.hok.fresh (Nat.le_refl _), fun y c e => ?_, fun q hq => absurd (show q ∈ ([] : List (Addr × Obj)) ++ [] from hq) (by simp), e0.hok.kept kp, ?_⟩
  · have hy : scope.names.lookup y = some .cell ∨ scope.names.lookup y = some .free := hy
    rcases hy with hy | hy
    · exact absurd rfl (L.nocell _ (PySem.mem_of_lookup hy))
    · exact look hy
  · have z : false = true := z
    cases z
  · have e1 : (X.N ++ [x])[i]? = some y := e1
    have e3 : Vis scope y := e3
    by_cases hi : i < X.N.length
    · rw [List.getElem?_append_left hi] at e1
      rw [List.getElem?_append_left (by rw [I.len]; exact hi)] at e2
      have hyx : y ≠ x := fun z => L.nx (by rw [← z]; exact List.mem_of_getElem? e1)
      rcases e3 with k | k | k
      · exact absurd (L.own _ (PySem.mem_of_lookup k) rfl) hyx
      · exact absurd rfl (L.nocell _ (PySem.mem_of_lookup k))
      · obtain ⟨m, hn, hl⟩ := I.loc
        have hvis : Vis X.env.scope y := (L.free _ (PySem.mem_of_lookup k) rfl).elim (fun k => .inr (.inl k)) (fun k => .inr (.inr k))
        obtain ⟨w', r, q⟩ := hl i y w e1 e2 hvis
        obtain ⟨c2, h2⟩ := look k
        refine ⟨w', r, .inr ⟨.inr k, c2, h2, ?_⟩⟩
        have c1 := cm h2
        rcases q with ⟨k', _⟩ | ⟨_, c3, e', z⟩
        · have k' : X.env.scope.names.lookup y = some .local := k'
          rcases L.free _ (PySem.mem_of_lookup k) rfl with k2 | k2 <;> rw [show X.env.scope.names.lookup y = _ from k2] at k' <;> cases k'
        · rw [c1] at e'
          cases e'
          exact cellK z
    · have hi2 : i = X.N.length := by
        have := (List.getElem?_eq_some_iff.mp e1).1
        rw [List.length_append, List.length_singleton] at this
        omega
      subst hi2
      rw [List.getElem?_append_right (Nat.le_refl _), Nat.sub_self] at e1
      rw [← I.len, List.getElem?_append_right (Nat.le_refl _), Nat.sub_self] at e2
      cases e1
      cases e2
      exact ⟨u, rv, .inl ⟨L.own1, by simp⟩⟩
  · obtain ⟨w', z⟩ := I.cell y c (cm e)
    exact ⟨w', cellK z⟩
  · exact I.freeC y c (cm e)
  · show (σ ++ [some v]).length = (X.N ++ [x]).length
    rw [List.length_append, List.length_append, I.len]
    rfl
end
theorem lamCx_eq (X : Cx) (A : Around) (outer : List Env) (s : Shared) (H : Hp) (E : XK) (scope : Scope) (f c' : Addr) (x : Str) : (lamCx1 X A outer s H E scope f c' x).env = lamEnv X scope s.heap.objs.size f c' := rfl
theorem EnvOk.snoc {F H : Hp} {σ : L2.St} {L : List Slot} {v : V} {P : SP} (E : EnvOk F H σ L) (p : P.P v F) : EnvOk F H (σ ++ [some v]) (L ++ [.p P]) := by
  have hl := E.len
  have own : ∀ (i : Nat) (s : Slot), (L ++ [.p P])[i]? = some s → s.own = true → L[i]? = some s ∧ ∀ a, (σ ++ [some v])[i]? = some (some (V.ref a)) → σ[i]? = some (some (V.ref a)) := fun i s hi os => by
    by_cases h : i < L.length
    · rw [List.getElem?_append_left h] at hi
      exact ⟨hi, fun a e => by rw [List.getElem?_append_left (by omega)] at e; exact e⟩
    · rw [List.getElem?_append_right (by omega)] at hi
      cases hk : i - L.length with
      | zero => rw [hk] at hi; cases hi; cases os
      | succ n => rw [hk] at hi; simp at hi
  refine ⟨by rw [List.length_append, List.length_append, hl]; rfl, fun i s hi => ?_, fun i j a s t hi hj os ot ei ej => ?_⟩
  · by_cases h : i < L.length
    · rw [List.getElem?_append_left h] at hi
      rw [List.getElem?_append_left (by omega)]
      exact E.at_ i s hi
    · rw [List.getElem?_append_right (by omega)] at hi
      rw [List.getElem?_append_right (by omega), hl]
      cases hk : i - L.length with
      | zero => rw [hk] at hi; cases hi; exact ⟨v, rfl, p⟩
      | succ n => rw [hk] at hi; simp at hi
  · obtain ⟨q1, q2⟩ := own i s hi os
    obtain ⟨q3, q4⟩ := own j t hj ot
    exact E.dist i j a s t q1 q3 os ot (q2 a ei) (q4 a ej)
section
variable {G : Gc} {k : Nat} {X : Cx} {L : List Slot} {a b c e : Expr} {es : List Expr} {pos : Pos} {β : Type} {bs : List β} {kf itm : β → PyData}
/-- sorted(a, key=lambda x: body) -/
theorem je_sortedLam {x : Str} {j : Nat} {cc P : Addr} {params : Arguments} {body : Expr} {scope : Scope} {lpos p kp : Pos} (TB : TabB G.base G.mg cc P) (hcode : X.env.code = .ref cc) (hmT : (P, X.env.qual ++ "<lambda>") ∈ G.T) (hu : ∀ p ∈ G.T, p.1 = P → p.2 = X.env.qual ++ "<lambda>")
    (S : LamS1 X.env.scope scope X.N x) (hdef : defaultsOf params X.env = ([], [])) (hbind : ∀ (q : Str) (cl : List (Str × Addr)) (pm cv ctv u : Value), bindArgs (PySem.W.kla_fn "<lambda>" q params body scope cl pm cv ctv) ⟨[u], []⟩ = pure [(x, u)])
    (hbody : ∀ (b : β), b ∈ bs → ∀ (A : Around) (outer : List Env) (s : Shared) (H : Hp) (f c' : Addr), JE G j (lamCx1 X A outer s H E0 scope f c' x) (L ++ [.p (isD (itm b))]) body (isD (kf b)))
    (hlen : bs.length ≤ 1000) (hal : AllAlike (bs.map kf)) (hsk : Sortable (bs.map kf)) (hdep : ∀ b ∈ bs, (kf b).depth ≤ 60) (hm : G.mg "sorted" = none) (ha : JE G k X L a (isD (.list (bs.map itm)))) (hj : j + 2 ≤ k := by decide) (hg : Gl X "sorted" := by rfl)
    (he : backTo pos (starEach [a] X.env) = (false, eval a X.env) :: backTo pos (starEach [] X.env) := by rfl) (hse : starEach [a] X.env = (false, eval a X.env) :: starEach [] X.env := by rfl) (hpl : (backTo pos (starEach [a] X.env)).any (·.1) = false := by rfl)
    (hall : (backToKw pos (keywordEach [⟨some (Str.ofString "key"), .Lambda params body scope lpos, kp⟩] X.env)).all (·.1.isSome) = true := by rfl) (hnone : (backToKw pos (keywordEach [⟨some (Str.ofString "key"), .Lambda params body scope lpos, kp⟩] X.env)).any (·.1.isNone) = false := by rfl)
    (hks : (backToKw pos (keywordEach [⟨some (Str.ofString "key"), .Lambda params body scope lpos, kp⟩] X.env)).filterMap (·.1) = [Str.ofString "key"] := by rfl) :
    JE G k X L (.Call (.Name "sorted" p) [a] [⟨some (Str.ofString "key"), .Lambda params body scope lpos, kp⟩] pos) (isD (.list ((bs.mergeSort (dataLe false kf)).map itm))) := fun C => ⟨fun pins s σ H Q I h => by
  obtain ⟨F, sF, tT, E, q⟩ := h
  refine wpAny_Call_Name_kw (ld_blt I hg (by rw [C.mg]; exact hm) (show bootBuiltins "sorted" = some (.builtin "sorted") by decide +kernel) ?_)
  have tA : tPA G.T L [isD (.list (bs.map itm))] σ H (fun vs H1 => ∃ F1, Step G.T F H F1 H1 ∧ AllP [isD (.list (bs.map itm))] vs F1) := ⟨F, sF, tT, E, fun vs F1 H1 st p => ⟨F1, st, p⟩⟩
  refine PyProof.Rows.callWith_kw (thn (((ja_cons ha ja_nil hse) C).run pos pins s σ H _ I tA) fun us s1 ⟨vs, H1, I1, r1, F1, st1, p1⟩ => ?_) he hpl hall hnone
  obtain ⟨v, rfl, p2⟩ := allP1 p1
  obtain ⟨l, xs, rfl, h1, d1⟩ := da_lst p2
  have e1 := Vals.ref1 r1
  subst e1
  show wpAny _ _ (evalAll ((do let v ← eval (.Lambda params body scope lpos) X.env; standAt pos; pure v) :: [])) _ _ s1
  refine wpAny_evalAll_cons (wpAny_bind ?_)
  have TBX : TabB X.base X.mg cc P := by rw [C.base, C.mg]; exact TB
  obtain ⟨ps, hPF, ht, hcs⟩ := st1.tab _ hmT
  have hP := st1.sub _ _ hPF
  -- behind the lambda's making
  have cont : ∀ (f c' : Addr) (pm ctv : Value) (F2 H2 : Hp) (s2 : Shared), Inv X pins σ H2 s2 → Step G.T F1 H1 F2 H2 → s2.heap.get? f = some (PySem.W.kla_obj "<lambda>" (X.env.qual ++ "<lambda>") params body scope (cloFrom X.env.cells scope.names []) pm c' ctv) → H2 f = none → Loose X f → F2 c' = some (CodeO c' (X.env.qual ++ "<lambda>")) →
      wpAny (model X.prog X.w) X.A (do standAt pos; pure (Value.ref f)) (fun v s' => wpAny (model X.prog X.w) X.A (holding [v] (evalAll [])) (fun vs s' => wpAny (model X.prog X.w) X.A (call (.builtin "sorted") [.ref l] (List.zip ((backToKw pos (keywordEach [⟨some (Str.ofString "key"), .Lambda params body scope lpos, kp⟩] X.env)).filterMap (·.1)) (v :: vs))) (EP X pins σ Q) X.xe s') X.xe s') X.xe s2 := by
    intro f c' pm ctv F2 H2 s2 I2 st2 hf hfn hlo hco
    refine wpAny_bind (wpAny_standAt (wpAny_pure (wpAny_holding (wpAny_evalAll_nil ?_))))
    rw [hks]
    show wpAny _ _ (call (.builtin "sorted") [.ref l] [(Str.ofString "key", .ref f)]) _ _ s2
    have I3 := inv_pin I2 hf hfn hlo (fun v z => by cases z)
    have h2 := st2.keep.obj _ _ h1 trivial
    have d2 := keep_ds st2.keep _ _ d1
    refine wpAny_mono (sortedKey_run (T := G.T) (kf := kf) (itm := itm) (bs := bs) (Q := Q) I3 st2.sub st2.tab h2 d2 hlen hal hsk (fun d hd => ?_) (fun v b hb dv => ?_) fun F3 H3 p vs' st3 hp d3 => ?_) (fun u s' ⟨v, H', J, r, q⟩ => ⟨v, H', Inv.unpin J, r, q⟩) fun _ _ e => e
    · obtain ⟨b, hb, rfl⟩ := List.mem_map.mp hd
      have := hdep b hb
      have := C.room.un
      show X.A.units + 1 + 1 + _ < _
      omega
    · intro pins' F4 H4 s4 u hpp st4 I4 rv
      have of4 := (I4.pin (f, _) (List.mem_append_right _ (hpp _ (.head _)))).1
      obtain ⟨⟨oc, vs, t, hoc, hdc, hvc⟩, _, _⟩ := I4.hok c' _ (st4.sub _ _ (st4.str _ _ hco codeO_ne'))
      have hr4 : Room (j + 1) X.A.in1.in1 := room2 (C.room.mono hj)
      have J0 : ∀ (h₁ : Heap) (tk : Nat), h₁.Ns s4.heap.objs.size (fun y => ([(x, u)] : List (Str × Value)).reverse.lookup y) → (∀ b o, s4.heap.get? b = some o → h₁.get? b = some o) → Inv (lamCx1 X X.A.in1.in1 X.stack s4 H4 E0 scope f c' x) [] (σ ++ [some v]) H4 { s4 with heap := h₁, toks := tk } :=
        fun h₁ tk hns kp => lam_start1 I4 S I4.env0.in1.in1 hr4.hd rv hns kp
      have Cx : CxOk G j (lamCx1 X X.A.in1.in1 X.stack s4 H4 E0 scope f c' x) := ⟨C.K, C.mg, C.prog, C.w, C.base, rfl, by
        show (X.N ++ [x]).Nodup
        rw [List.nodup_append]
        exact ⟨C.nd, by simp, fun y hy z hz e => S.nx (by rw [← List.mem_singleton.mp hz, ← e]; exact hy)⟩, hr4.deeper _⟩
      have rc : codeAny (model X.prog X.w) X.A.in1.in1 (.call (.ref f) ⟨[u], []⟩) (CR CX0 X.stack X.prog X.w H4 s4 (fun y H5 => ∃ F5, Step G.T F4 H4 F5 H5 ∧ Da F5 y (kf b)) E0) s4 := by
        refine PySem.W.kla_callFunE hr4.depth of4 rfl S.co S.gen rfl ⟨c', oc, vs, t, rfl, hoc, hdc, hvc⟩ ?_
        rw [hbind]
        refine wpAny_pure (wpAny_newFunctionEnv S.nocell (fun y hy => by
          have e : y = (x, u) := by simpa using hy
          rw [e]; exact S.own1) (fun h₁ hns hsb => ⟨I4.nolimit.fresh _ hsb, ?_⟩) S.kind)
        show codeAny _ _ (.expr body (lamEnv X scope s4.heap.objs.size f c')) _ _
        have kp : ∀ b o, s4.heap.get? b = some o → h₁.get? b = some o := fun b o e => hsb.extBut b o (Nat.ne_of_lt (Heap.lt_size e)) (Heap.get?_push_of_some _ e)
        have J := J0 h₁ (s4.toks + ([(x, u)] : List (Str × Value)).length) hns kp
        have Es : EnvOk F4 H4 (σ ++ [some v]) (L ++ [.p (isD (itm b))]) := EnvOk.snoc ((((E.step st1).step st2).step st4)) (keep_d st4.keep _ _ dv)
        refine PySem.W.kla_codeExpr (wpAny_mono ((hbody b hb X.A.in1.in1 X.stack s4 H4 f c' Cx).run [] _ _ H4 (fun y H5 => ∃ F5, Step G.T F4 H4 F5 H5 ∧ Da F5 y (kf b)) J ⟨F4, st4.sub, st4.tab, Es, fun y F5 H5 st5 p5 => ⟨F5, st5, p5⟩⟩) (fun w s' hq => ?_) fun e s' hq => hq)
        obtain ⟨w', H', J', rv', q'⟩ := hq
        exact ⟨w', H', J'.os, J'.bare, J'.base, J'.hok, rv', q'⟩
      refine wpAny_call (codeAny_mono rc fun r s' hq => ?_)
      cases r with
      | error e => exact (show False from hq).elim
      | ok fl =>
        cases fl with
        | ret u => exact I4.after hq
        | next => exact False.elim hq
        | brk => exact False.elim hq
        | cont => exact False.elim hq
    · have st5 := Step.new (o := .lst vs') st3.tab st3.sub hp
      exact q _ _ _ (((st1.trans st2).trans st3).trans st5) (.lst upd_same (keep_ds st5.keep _ _ d3))
  refine PySem.W.kla_eval hdef ?_
  have bP : s1.heap.BuiltinsAt X.mg P := TBX.bm.keeps I1.bk
  have hP' : s1.heap.get? P = some { cls := .none, data := .fields ps } := I1.hok P _ hP
  have hfree := S.has I.ok
  cases hc : codeAmong lpos ps.toList with
  | none =>
    refine PySem.W.kla_makeFunction (mg := X.mg) (c := cc) (P := P) (ps := ps) (closure_ok hfree) I1.ok.glob (I1.mod.glob.keeps I1.bk) hcode (TBX.code.keeps I1.bk) hP' ht hc TBX.gP bP fun c' ctv h' tk hx hge hlt hrec htb => ?_
    obtain ⟨c2, oc, vs, t, e2, hoc, hd, hv⟩ := hrec
    cases e2
    have hsz : s1.heap.objs.size ≤ h'.objs.size := Nat.le_trans hge (Nat.le_of_lt hlt)
    have nC : H1 c' = none := I1.hok.fresh hge
    have I2 := inv_table (t' := tk) (q := X.env.qual ++ "<lambda>") (more := #[rawInt lpos.line, rawInt lpos.col, .ref c']) (h' := h'.push (PySem.W.kla_obj "<lambda>" (X.env.qual ++ "<lambda>") params body scope (cloFrom X.env.cells scope.names []) ((X.mg "__name__").getD .none) c' ctv)) I1 hP
      (fun b o hb e => Heap.get?_push_of_some _ (hx b o hb e)) (Heap.get?_push_of_some _ htb) hge ⟨oc, vs, t, Heap.get?_push_of_some _ hoc, hd, hv⟩
    have st2 := Step.table (pos := lpos) st1.tab st1.sub hmT hu hPF nC
    refine cont h'.objs.size c' _ ctv _ _ _ I2 st2 (Heap.get?_push_size _ rfl) ?_ (loose_of I1 hsz) upd_same
    have n1 : h'.objs.size ≠ c' := Nat.ne_of_gt hlt
    have n2 : h'.objs.size ≠ P := Nat.ne_of_gt (Nat.lt_of_lt_of_le (Heap.lt_size hP') hsz)
    rw [upd_ne n1, upd_ne n2]
    exact I1.hok.fresh hsz
  | some cv =>
    obtain ⟨c', e, hco⟩ := hcs lpos cv hc
    subst e
    refine PySem.W.kla_makeFunctionHit (mg := X.mg) (c := cc) (P := P) (ps := ps) (closure_ok hfree) I1.ok.glob (I1.mod.glob.keeps I1.bk) hcode (TBX.code.keeps I1.bk) hP' ht hc bP fun ctv h' tk hx hsz => ?_
    have I2 : Inv X pins σ H1 { s1 with heap := h'.push (PySem.W.kla_obj "<lambda>" (X.env.qual ++ "<lambda>") params body scope (cloFrom X.env.cells scope.names []) ((X.mg "__name__").getD .none) c' ctv), toks := tk } := I1.kept fun b o e => Heap.get?_push_of_some _ (hx b o e)
    exact cont h'.objs.size c' _ ctv F1 H1 _ I2 (Step.refl st1.tab st1.sub) (Heap.get?_push_size _ rfl) (I1.hok.fresh hsz) (loose_of I1 hsz) hco⟩
end
end K27
set_option maxHeartbeats 1000000
namespace K27
open PySem L2 LamX
local macro_rules | `(tactic| walk_at "norm") => `(tactic| refine JSs.norm (by dsimp only [setsL, wipeL, initL, List.set, List.map, List.append, List.replicate, List.length, HAppend.hAppend, Append.append]) ?_)
/-- a def whose code object is known -/
theorem fn_okC {G : Gc} {k : Nat} {x qual : Str} {st : Stmt} {f : Addr} {fd : FuncData} {N ps : List Str} {I : Type} {pre : I → Prop} {Ps : I → List SP} {Rr : I → SP} {c : Addr} (F : Fun G.K x qual st f fd) (hc : fd.code = .ref c) (S : FnScope N ps (defScope st)) (hl : ∀ i, (Ps i).length = ps.length)
    (hbody : ∀ i, pre i → ∀ (A : Around) (outer : List Env) (s : Shared) (H : Hp) (E : XK), JSs G k (defCx G N qual st f (.ref c) A outer s H E) (initL (Ps i) N.length) (defBody st) (Rr i) none) : FnOk G.P G.w G.K G.mg G.base CX0 (k + 1) f fd ps (SpF G.T pre Ps Rr) := by
  obtain ⟨oc, od, kV, doc, pm, an, cdv, ct, osl, rfl, lk, hcd⟩ := F.ex
  have hc : cdv = .ref c := hc
  subst hc
  refine fn_of lk hcd S (fun vs H Q E h => ?_) fun A outer s H vs Q E hr h => ?_
  · obtain ⟨i, hp, F, sF, t, p, q⟩ := h
    rw [allP_length p, hl]
  · obtain ⟨i, hp, F, sF, t, p, q⟩ := h
    refine ⟨_, PSs.nox (hbody i hp A outer s H E ⟨rfl, rfl, rfl, rfl, rfl, rfl, S.nd, hr⟩), F, H, F, sF, Step.refl t sF, env_start p ?_, own_start, fun v F' H' st' _ p' => q v F' H' st' p', fun L' e => by cases e⟩
    rw [hl]
    have := S.pre
    rw [← this, List.length_take]
    omega

open PySem.W (AllAlike Sortable dataLe)
/-- a def's code object and its table -/
structure TabOf (G : Gc) (c P : Addr) (q : Str) : Prop where
  tb : TabB G.base G.mg c P
  mem : (P, q) ∈ G.T
  one : ∀ p ∈ G.T, p.1 = P → p.2 = q
/-- the law's order -/
def mOrdered (cell : Int → Nat → PyData) (keys : List (Nat × Bool)) (ids : List Int) : List Int := ids.mergeSort (dataLe false fun n => .int (mPlace cell keys ids n : Nat))
structure IOrd where
  rows : Rows
  w : Nat
  keys : List (Nat × Bool)
  lst : List Int
structure IOrd.Ok (i : IOrd) : Prop where
  r : RowsOk i.rows i.w
  k : i.keys.length ≤ 100
  kc : ∀ c ∈ i.keys, c.1 < i.w
  l : i.lst.length ≤ 100
  h : ∀ x ∈ i.lst, x ∈ ids i.rows
section
variable {G : Gc}
abbrev spOrdered (G : Gc) : Sp := SpF G.T (fun i : IOrd => i.Ok) (fun i => [isDic (rowsK i.rows), isD (.list (keysD i.keys)), isD (intsD i.lst)]) (fun i => isD (intsD (mOrdered (cell i.rows) i.keys i.lst)))
theorem sc29 : FnScope ["_law_rows_here", "_law_keys", "_law_ids"] ["_law_rows_here", "_law_keys", "_law_ids"] (defScope (top 29)) := ⟨rfl, rfl, rfl, by decide +kernel, rfl, by decide +kernel, by decide +kernel⟩
theorem lamS1 : LamS1 (defScope (top 29)) { kind := PySem.ScopeKind.function, names := [(PySem.Str.ofString "_law_one", PySem.NameKind.local), (PySem.Str.ofString "_law_ids", PySem.NameKind.free), (PySem.Str.ofString "_law_keys", PySem.NameKind.free), (PySem.Str.ofString "_law_rows_here", PySem.NameKind.free), (PySem.Str.ofString "_law_place", PySem.NameKind.globalImplicit)], isGenerator := false, isCoroutine := false, more := [] } ["_law_rows_here", "_law_keys", "_law_ids"] "_law_one" :=
  ⟨rfl, rfl, rfl, by decide +kernel, by decide +kernel, by decide +kernel, by decide +kernel, by decide +kernel⟩
theorem ok29 (B : Bt G) (hP : Fn G "_law_place" 3 (spPlace G)) {c P : Addr} (hT : TabOf G c P "_law_ordered.<locals>.<lambda>") {f : Addr} {fd : FuncData} (F : Fun G.K "_law_ordered" "_law_ordered" (top 29) f fd) (hc : fd.code = .ref c) : FnOk G.P G.w G.K G.mg G.base CX0 6 f fd ["_law_rows_here", "_law_keys", "_law_ids"] (spOrdered G) := by
  refine fn_okC (k := 5) F hc sc29 (fun _ => rfl) ?_
  rintro ⟨rows, w, keys, lst⟩ ⟨r, kl, kc, ll, hl⟩ A outer s H E
  dsimp only at *
  refine js_rt (JE.is (je_sortedLam (j := 3) (bs := lst) (itm := PyData.int) (kf := fun n => .int (mPlace (cell rows) keys lst n : Nat)) hT.tb rfl hT.mem hT.one lamS1 rfl (fun _ _ _ _ _ _ => rfl) (fun b hb A outer s H f c' => je_call hP ⟨rows, w, keys, lst, b⟩ ⟨r, kl, kc, ll, hl, hl _ hb⟩ (ja_cons (je_var 0) (ja_cons (je_var 1) (ja_cons (je_var 2) (ja_cons (je_var 3) ja_nil))))) (by omega) (AllAlike.of fun a b => by simp [PySem.W.alike]) (Sortable.others fun b => ⟨by simp, by simp⟩) (fun b hb => by simp [PyData.depth]) B.sorted (je_var 2)) rfl)
end
end K27
set_option maxHeartbeats 2000000
/-! K27, thirteenth part: sets of keys counted, dict displays, get, or. -/
namespace K27
open PySem L2 LamX PyProof.Rows
def kin (k : Key) (l : List Key) : Bool := l.any fun x => decide (x = k)
theorem kin_snoc (k z : Key) (l : List Key) : kin k (l ++ [z]) = (kin k l || decide (k = z)) := by
  unfold kin
  rw [List.any_append]
  congr 1
  simp [eq_comm]
/-- how many different things -/
def dcR : List Key → Nat
  | [] => 0
  | k :: l => if kin k l then dcR l else dcR l + 1
def dcnt (l : List Key) : Nat := dcR l.reverse
theorem dcnt_snoc (l : List Key) (k : Key) : dcnt (l ++ [k]) = if kin k l then dcnt l else dcnt l + 1 := by
  unfold dcnt
  rw [List.reverse_append]
  show dcR (k :: l.reverse) = _
  have e : kin k l.reverse = kin k l := by simp [kin]
  simp [dcR, e]
theorem dcnt_le (l : List Key) : dcnt l ≤ l.length := by
  unfold dcnt
  have h : ∀ l : List Key, dcR l ≤ l.length := fun l => by
    induction l with
    | nil => exact Nat.le_refl _
    | cons k l ih =>
      unfold dcR
      rw [List.length_cons]
      split <;> omega
  have := h l.reverse
  rwa [List.length_reverse] at this
section
variable {P : Program} {w : World} {A : Around} {E : Value → Shared → Prop} {s : Shared}
theorem setOf_congr {h : Heap} {a : Addr} {S S' : Key → Bool} {n n' : Nat} (hS : h.SetOf (mixKind P w) a S n) (e : ∀ k, S k = S' k) (en : n = n') : h.SetOf (mixKind P w) a S' n' := by
  have : S = S' := funext e
  subst this; subst en; exact hS
theorem setOf_keep {h h' : Heap} {a : Addr} {S : Key → Bool} {n : Nat} (hS : h.SetOf (mixKind P w) a S n) (k : ∀ o, h.get? a = some o → h'.get? a = some o) : h'.SetOf (mixKind P w) a S n := by
  obtain ⟨o, es, ep, tb, ho, rest⟩ := hS
  exact ⟨o, es, ep, tb, k _ ho, rest⟩
theorem set_update_keys {I : Addr} {fp wr : List Addr} {G : Array GenState → Array GenState → Prop} {n : Nat} {Pv : Nat → Value → Prop} {St : Nat → Shared → Prop} {R : Result → Shared → Prop}
    (W : WalksS P w A.in1 I fp wr G n Pv St) (S : Addr) (hSf : S ∉ fp) (ks : List Key) (hn : n = ks.length) (hb : ks.length + 1 < scanBound) (hval : ∀ i v, Pv i v → ∃ k, ks[i]? = some k ∧ (mixKind P w).is k v = true ∧ v.scannable = true) :
    ∀ (j i : Nat) (s : Shared), n - i = j → i ≤ n → St i s → s.heap.SetOf (mixKind P w) S (fun k => kin k (ks.take i)) (dcnt (ks.take i)) →
      (∀ s', Moved (S :: wr) G s s' → s'.heap.SetOf (mixKind P w) S (fun k => kin k ks) (dcnt ks) → R (.ok (.ret .none)) s') →
      codeAny (model P w) A (.builtin "set.update.loop" ⟨[.ref S, .ref I], []⟩) R s := by
  have hSw : S ∉ wr := fun h => hSf (W.sub _ h)
  have hsub : ∀ b ∈ wr, b ∈ S :: wr := fun b hb => List.mem_cons_of_mem _ hb
  intro j
  induction j with
  | zero =>
    intro i s hk' hi hst hS hR
    have hin : i = n := by omega
    subst hin
    refine codeAny_builtin F.entry_set_update_loop ?_
    rw [Around.under_plainId F.plain_set_update_loop _]
    show wpAny _ A.in1 (pyNext (.ref I) >>= _) _ _ s
    refine wpAny_bind (W.done s _ _ hst fun s' hm => ?_)
    show wpAny _ A.in1 (ret Value.none) _ _ s'
    have e : ks.take i = ks := List.take_of_length_le (by omega)
    rw [e] at hS
    exact wpAny_pure (hR s' (hm.mono hsub) (setOf_keep hS fun o e => hm.heap S o hSw e))
  | succ j ih =>
    intro i s hk' hi hst hS hR
    have hlt : i < n := by omega
    refine codeAny_builtin F.entry_set_update_loop ?_
    rw [Around.under_plainId F.plain_set_update_loop _]
    show wpAny _ A.in1 (pyNext (.ref I) >>= _) _ _ s
    refine wpAny_bind (W.item i s _ _ hlt hst fun v s' hP hst' hm => ?_)
    obtain ⟨z, hz, hzv, hsc⟩ := hval i v hP
    have hS' : s'.heap.SetOf (mixKind P w) S (fun k => kin k (ks.take i)) (dcnt (ks.take i)) := setOf_keep hS fun o e => hm.heap S o hSw e
    show wpAny _ A.in1 (holding [v] (setAdd S v) >>= _) _ _ s'
    refine wpAny_bind (wpAny_holding ?_)
    unfold setAdd
    refine wpAny_holding ?_
    refine wpAny_bind ((mixKind P w).pyHash (k := z) hzv ?_)
    have hle : dcnt (ks.take i) ≤ ks.length := Nat.le_trans (dcnt_le _) (by rw [List.length_take]; omega)
    refine wpAny_setAddHashed_of (knd := mixKind P w) (s := { s' with toks := s'.toks + 1 }) hzv hsc hS' (by omega) fun h' hsb hS2 => ?_
    have et : ks.take (i + 1) = ks.take i ++ [z] := by rw [List.take_add_one, hz]; rfl
    have hS3 : h'.SetOf (mixKind P w) S (fun k => kin k (ks.take (i + 1))) (dcnt (ks.take (i + 1))) := setOf_congr hS2 (fun k => by rw [et, kin_snoc]) (by rw [et, dcnt_snoc])
    refine wpAny_pure ⟨plainId_quiet F.plain_set_update_loop _, ih (i + 1) _ (by omega) hlt (W.frame _ s' _ _ hst' (Nat.le_succ _) fun b hb o e => ?_) hS3 fun s'' hm'' hS'' => ?_⟩
    · rw [hsb.2 b (fun h : b = S => hSf (by rw [← h]; exact hb))]; exact e
    · refine hR s'' (Moved.trans W.gtrans ((hm.mono hsub).then_heap (Nat.le_succ _) fun b o hb e => ?_) hm'') hS''
      rw [hsb.2 b (fun h : b = S => hb (by rw [h]; exact List.mem_cons_self))]; exact e
theorem setOf_new {h : Heap} {a : Addr} (e : h.get? a = some (set0 w)) : h.SetOf (mixKind P w) a (fun k => kin k []) 0 :=
  ⟨_, #[], 0, _, e, ⟨rfl, rfl, rfl⟩, rfl, fun e he => absurd he (by simp), fun k => by simp [kin], by decide, by rfl, rfl⟩
theorem fills_keys {items : Array Value} {ks : List Key} (hi : ∀ (i : Nat) (v : Value), items[i]? = some v → ∃ k, ks[i]? = some k ∧ (mixKind P w).is k v = true ∧ v.scannable = true) (hl : items.size = ks.length) (hb : ks.length + 1 < scanBound) :
    FillsBy P w items (fun S h => h.SetOf (mixKind P w) S (fun k => kin k ks) (dcnt ks)) := by
  intro A I fp wr G Pv St R S s W hS hv hst hnew hR
  exact set_update_keys W S hS ks hl hb (fun i v hp => hi i v (hv i v hp)) items.size 0 s (by omega) (Nat.zero_le _) hst (by rw [List.take_zero]; exact setOf_new hnew) fun s' mv hR' => hR s' mv hR'
end
section
variable {G : Gc} {k : Nat} {X : Cx} {L : List Slot} {a b c e : Expr} {es : List Expr} {pos : Pos}
/-- a set of keys, and how many they are -/
def SetK (P : Program) (w : World) (a : Addr) (ks : List Key) : HO := .ext fun h => h.SetOf (mixKind P w) a (fun k => kin k ks) (dcnt ks)
def isSetK (P : Program) (w : World) (ks : List Key) : SP := ⟨fun v F => ∃ a, v = .ref a ∧ F a = some (SetK P w a ks), fun h ⟨a, e, q⟩ => ⟨a, e, h.obj _ _ q trivial⟩⟩
theorem call_setK (hc : X.calm = true) : CallR X (.type "set") (fun xs H Q => ∃ (a : Addr) (ks : List Key), xs = [V.ref a] ∧ SqL X.K H a (ks.map kV) ∧ ks.length ≤ 1000 ∧ ∀ p, H p = none → Q (.ref p) (upd H p (SetK X.prog X.w p ks))) := by
  intro pins s σ H xs us Q I r ⟨ad, ks, ex, hs, hl, q⟩
  subst ex
  have e := Vals.ref1 r
  subst e
  obtain ⟨its, rv, pl, hz⟩ := I.list hs
  refine call_setL (I.ok.hd hc) pl.isList (fills_keys (ks := ks) (fun i v h => ?_) (by rw [List.size_toArray, ← rv.length, List.length_map]) (by unfold scanBound; omega)) fun g tk hR keep => ?_
  · rw [List.getElem?_toArray] at h
    obtain ⟨x, h1, h2⟩ := vals_getU rv h
    rw [List.getElem?_map] at h1
    cases hk : ks[i]? with
    | none => rw [hk] at h1; cases h1
    | some k =>
      rw [hk] at h1
      cases h1
      refine ⟨k, rfl, kV_is h2, ?_⟩
      cases k with
      | inl j => obtain ⟨t, rfl⟩ := h2; rfl
      | inr j => obtain ⟨t, rfl⟩ := h2; rfl
  · have hR' := hR
    obtain ⟨o, _, _, _, ho, _⟩ := hR
    exact ⟨.ref _, _, I.laid (t' := tk) keep (Nat.le_refl _) (show ObjOk X.prog X.w _ _ _ (SetK X.prog X.w s.heap.objs.size ks) from ⟨hR', ⟨o, ho⟩, fun h1 h2 q st => setOf_keep q st⟩), rfl, q _ (I.hok.fresh (Nat.le_refl _))⟩
theorem call_lenK : CallR X (.builtin "len") (fun xs H Q => ∃ (a : Addr) (ks : List Key), xs = [V.ref a] ∧ H a = some (SetK X.prog X.w a ks) ∧ Q (.int (dcnt ks)) H) := by
  intro pins s σ H xs us Q I r ⟨ad, ks, ex, hs, q⟩
  subst ex
  have e := Vals.ref1 r
  subst e
  obtain ⟨⟨o, es, ep, t, ho, hex, hd, _, _, hb, hf, hn⟩, _, _⟩ := I.hok ad _ hs
  refine call_len_set ho hex hd hf (by unfold scanBound at hb; omega) ?_
  exact ⟨.int (dcnt ks), H, I.tok _, ⟨_, by rw [hn]⟩, q⟩
theorem je_setK {ks : List Key} {p : Pos} (hl : ks.length ≤ 1000) (hm : G.mg "set" = none) (ha : JE G k X L a (isD (.list (ks.map keyD)))) (hg : Gl X "set" := by rfl) (he : starEach [a] X.env = (false, eval a X.env) :: starEach [] X.env := by rfl) : JE G k X L (.Call (.Name "set" p) [a] [] pos) (isSetK G.P G.w ks) := fun C =>
  je_callTy (fun C => call_setK C.calm) (fun vs F H Q s t p q => by
    obtain ⟨v, rfl, p1⟩ := allP1 p
    obtain ⟨ad, xs, rfl, h1, d1⟩ := da_lst p1
    have e : xs = ks.map kV := das_keysV d1
    subst e
    refine ⟨ad, ks, rfl, SqL.of (s _ _ h1), hl, fun l hp => ?_⟩
    have st := Step.new (o := SetK X.prog X.w l ks) t s hp
    exact q _ _ _ st ⟨l, rfl, by rw [← C.w, ← C.prog]; exact upd_same⟩) hm (by decide +kernel) (ja_cons ha ja_nil he) hg (by decide) (by decide) he (by rfl) C
where das_keysV {F : Hp} : ∀ {ks : List Key} {vs : List V}, Das F vs (ks.map keyD) → vs = ks.map kV
  | [], _, h => by cases h; rfl
  | key :: ks, _, h => by
    cases h with
    | cons h1 h2 => rw [da_key h1, das_keysV h2]; rfl
theorem je_lenK {ks : List Key} {p : Pos} (hm : G.mg "len" = none) (ha : JE G k X L a (isSetK G.P G.w ks)) (hg : Gl X "len" := by rfl) (he : starEach [a] X.env = (false, eval a X.env) :: starEach [] X.env := by rfl) : JE G k X L (.Call (.Name "len" p) [a] [] pos) (isI (dcnt ks : Nat)) := fun C =>
  je_callB (fun C => call_lenK) (fun vs F H Q s t p q => by
    obtain ⟨v, rfl, p1⟩ := allP1 p
    obtain ⟨ad, rfl, h1⟩ := p1
    exact ⟨ad, ks, rfl, by rw [C.prog, C.w]; exact s _ _ h1, q _ F H (Step.refl t s) (.int _)⟩) hm PySem.boot_len (ja_cons ha ja_nil he) hg (by decide) (by decide) he (by rfl) C
/-! ### x or y of a None or an int -/
def truD : PyData → Bool
  | .none => false
  | .bool b => b
  | .int i => i != 0
  | _ => true
theorem je_orN {d : PyData} {P : SP} {rest : List Expr} (hd : match d with | .none => True | .bool _ => True | .int _ => True | _ => False) (ha : JE G k X L a (isD d)) (h1 : truD d = true → ∀ v F, Da F v d → P.P v F) (hb : truD d = false → JE G k X L (.BoolOp .Or (b :: rest) pos) P) : JE G k X L (.BoolOp .Or (a :: b :: rest) pos) P := fun C => by
  have tru : ∀ {v : V} {F H : Hp}, Da F v d → TruV X.K v H (truD d) := fun {v F H} p => by
    cases p with
    | non => rfl
    | bl b => rfl
    | int i => rfl
    | str => cases hd
    | lst => cases hd
    | tup => cases hd
  cases hq : truD d with
  | true => exact (pe_orT (ha C) pe_never).imp fun σ H Q ⟨F, s, t, E, q⟩ => ⟨F, s, t, E, fun v F1 H1 st1 p1 => ⟨true, hq ▸ tru p1, by rw [if_pos rfl]; exact q v F1 H1 st1 (h1 hq v F1 p1)⟩⟩
  | false => exact (pe_orT (ha C) (hb hq C)).imp fun σ H Q ⟨F, s, t, E, q⟩ => ⟨F, s, t, E, fun v F1 H1 st1 p1 => ⟨false, hq ▸ tru p1, by rw [if_neg Bool.false_ne_true]; exact ⟨F1, st1.sub, st1.tab, E.step st1, fun v F2 H2 st2 p2 => q v F2 H2 (st1.trans st2) p2⟩⟩⟩
/-! ### dict displays -/
def JPs (G : Gc) (k : Nat) (X : Cx) (L : List Slot) (pos : Pos) (keys : List (Option Expr)) (values : List Expr) (kvs : List (Key × PyData)) : Prop := CxOk G k X → PPs X pos keys values (kvs.map fun kd => (tP G.T L (isD (keyD kd.1)), tP G.T L (isD kd.2)))
theorem jps_nil : JPs G k X L pos [] [] [] := fun _ => pps_nil
theorem jps_cons {key : Key} {d dk : PyData} {ke ve : Expr} {ks : List (Option Expr)} {vs : List Expr} {kvs : List (Key × PyData)} (hk : dk = keyD key) (h1 : JE G k X L ke (isD dk)) (h2 : JE G k X L ve (isD d)) (h3 : JPs G k X L pos ks vs kvs) : JPs G k X L pos (some ke :: ks) (ve :: vs) ((key, d) :: kvs) := fun C => by
  subst hk
  exact pps_cons (h1 C) (h2 C) (h3 C)
theorem tpairs_ok {σ : L2.St} : ∀ (kvs : List (Key × PyData)) (F H : Hp) (Q : List (V × V) → Hp → Prop), Sub F H → Tabs G.T F → EnvOk F H σ L → (∀ xs F' H', Step G.T F H F' H' → DicAt F' xs kvs → Q (xs.map fun kv => (kV kv.1, kv.2)) H') →
    tPairs (kvs.map fun kd => (tP G.T L (isD (keyD kd.1)), tP G.T L (isD kd.2))) σ H Q
  | [], F, H, Q, s, t, E, q => q [] F H (Step.refl t s) ⟨rfl, .nil⟩
  | kd :: kvs, F, H, Q, s, t, E, q => ⟨F, s, t, E, fun x F1 H1 st1 p1 => ⟨F1, st1.sub, st1.tab, E.step st1, fun y F2 H2 st2 p2 => tpairs_ok kvs F2 H2 _ st2.sub st2.tab ((E.step st1).step st2) fun xs F3 H3 st3 d3 => by
    cases da_key p1
    exact q ((kd.1, y) :: xs) F3 H3 ((st1.trans st2).trans st3) ⟨by simp [d3.1], .cons (keep_d st3.keep _ _ p2) d3.2⟩⟩⟩
theorem Step.take {T : List (Addr × Str)} {F0 H0 F H : Hp} {D : Addr} {o : HO} (st : Step T F0 H0 F H) (hF : F D = none) (hD : H0 D = none) : Step T F0 H0 (upd F D o) (upd H D o) := by
  refine ⟨st.keep.trans (Keep.new hF), fun b u e n => ?_, st.tab.ext fun b u e => ?_, st.sub.upd D o, fun b u hb nb => ?_⟩
  · rw [upd_ne (ne_of_none (st.str b u e n) hF)]; exact st.str b u e n
  · rw [upd_ne (ne_of_none e hF)]; exact e
  · obtain ⟨q1, q2⟩ := st.own b u hb nb
    rw [upd_ne (ne_of_none hb hD), upd_ne (ne_of_none hb hD)]
    exact ⟨q1, q2⟩
theorem je_disp {keys : List (Option Expr)} {values : List Expr} {kvs : List (Key × PyData)} (hn : (kvs.map (·.1)).Nodup) (h : JPs G k X L pos keys values kvs) (hkl : kvs.length ≤ 15 := by exact Nat.le_of_ble_eq_true rfl) (hall : keys.all (·.isSome) = true := by rfl) (hl : keys.length = values.length := by rfl) (h0 : keys ≠ [] := by exact List.cons_ne_nil _ _)
    (h15 : keys.length ≤ 15 := by exact Nat.le_of_ble_eq_true rfl) : JE G k X L (.Dict keys values pos) (isDic kvs) := fun C =>
  (pe_disp (h C) hall hl h0 h15).imp fun σ H Q ⟨F, s, t, E, q⟩ p hp => by
    have st0 : Step G.T F H F (upd H p (.dK [])) := Step.newOwn t s hp
    refine tpairs_ok kvs F (upd H p (.dK [])) _ st0.sub st0.tab (E.step st0) fun xs F2 H2 st2 d2 => ?_
    obtain ⟨q1, q2⟩ := st2.own p _ upd_same (s.no hp)
    have hxl : xs.length = kvs.length := by have := congrArg List.length d2.1; rwa [List.length_map, List.length_map] at this
    refine ⟨q1, xs, rfl, by rw [hxl]; exact hkl, ?_⟩
    rw [mergeK_nodup xs [] (by rw [List.nil_append, d2.1]; exact hn), List.nil_append]
    have st := Step.take (o := .dK xs) (st0.trans st2) q2 hp
    exact q _ _ _ st ⟨p, xs, rfl, .inl upd_same, d2.keep (Keep.new q2)⟩
/-- d.get(k, x) -/
theorem je_dgetD {o : Expr} {kvs : List (Key × PyData)} {key : Key} {d dk : PyData} {ap cp : Pos} (hk : dk = keyD key) (ho : JE G k X L o (isDic kvs)) (ha : JE G k X L a (isD dk)) (hb : JE G k X L b (isD d)) (m : M2 X o "get" ap a b cp := by exact ⟨rfl, rfl, rfl, rfl⟩) : JE G k X L (.Call (.Attribute o "get" ap) [a, b] [] cp) (isD ((valD kvs key).getD d)) :=
  fun C => (pe_dget2 (hu_of C.room) (ho C) (ha C) (hb C) m).imp fun σ H Q ⟨F, s, t, E, q⟩ => ⟨F, s, t, E, fun x F1 H1 st1 p1 => by
    obtain ⟨ad, xs, rfl, rd, da⟩ := p1
    refine ⟨ad, rfl, .inl ⟨xs, st1.sub.rd rd⟩, F1, st1.sub, st1.tab, E.step st1, fun y F2 H2 st2 p2 => ⟨F2, st2.sub, st2.tab, (E.step st1).step st2, fun z F3 H3 st3 p3 => ?_⟩⟩
    subst hk
    cases da_key p2
    have rd3 := st3.keep.dic _ _ (st2.keep.dic _ _ rd)
    have da3 := (da.keep st2.keep).keep st3.keep
    refine ⟨valV xs key, dget_of key (st3.sub.rd rd3), q _ F3 H3 ((st1.trans st2).trans st3) ?_⟩
    rcases dic_val key da3 with ⟨e1, e2⟩ | ⟨v, d', e1, e2, dv⟩
    · rw [e1, e2]; exact p3
    · rw [e1, e2]; exact dv⟩
end
end K27
set_option maxHeartbeats 1000000
namespace K27
open PySem L2 LamX
open PySem.W (AllAlike Sortable dataLe)
local macro_rules | `(tactic| walk_at "norm") => `(tactic| refine JSs.norm (by dsimp only [setsL, wipeL, initL, List.set, List.map, List.append, List.replicate, List.length, HAppend.hAppend, Append.append]) ?_)
def mKnown (given : List PyData) : List PyData := (given.filter fun d => !nonD d).mergeSort (dataLe false mKey)
def mAt (given : List PyData) (a : Int) : PyData := if (decide (0 ≤ a) && decide (a < (given.length : Nat))) = true then given.getD a.toNat .none else .none
def keyOf : PyData → Key
  | .int i => .inl i
  | .str s => .inr s
  | _ => .inl 0
def intOf : PyData → Int
  | .int i => i
  | _ => 0
def mOfValues (fn : Fnc) (num : Option Int) (given : List PyData) : PyData :=
  match fn with
  | .first => mAt given 0
  | .last => mAt given ((given.length : Nat) - 1)
  | .nth => mAt given (num.getD 1 - 1)
  | .size => .int (given.length : Nat)
  | .count => .int ((mKnown given).length : Nat)
  | .different => .int (dcnt ((mKnown given).map keyOf) : Nat)
  | .sum => if (mKnown given).length = 0 then .none else .int ((mKnown given).map intOf).sum
  | .least => (mKnown given).getD 0 .none
  | .greatest => (mKnown given).getD ((mKnown given).length - 1) .none
  | .median => (mKnown given).getD (((mKnown given).length - 1) / 2) .none
  | _ => .none
def Fnc.isAt : Fnc → Bool
  | .first | .last | .nth => true
  | _ => false
structure IVal where
  fn : Fnc
  num : Option Int
  given : List PyData
structure IVal.Ok (i : IVal) : Prop where
  fn : i.fn.byPlace = false
  num : ∀ n, i.num = some n → 1 ≤ n
  len : i.given.length ≤ 100
  cell : ∀ d ∈ i.given, cellB d = true
  sum : i.fn = .sum → ∀ d ∈ i.given, d = .none ∨ ∃ n, d = .int n
theorem mKey_alike {a b : PyData} (ha : cellB a = true) (hb : cellB b = true) : PySem.W.alike (mKey a) (mKey b) = true := by
  cases a <;> first | (cases ha; done) | (cases b <;> first | (cases hb; done) | (simp [mKey, PySem.W.alike, PySem.W.alikeAll]))
theorem mKey_tupR {a : PyData} (ha : cellB a = true) : ∃ x r, mKey a = .tuple (x :: r) := by
  cases a <;> first | (cases ha; done) | exact ⟨_, _, rfl⟩
theorem mKey_dep {a : PyData} (ha : cellB a = true) : (mKey a).depth ≤ 60 := by
  cases a <;> first | (cases ha; done) | (simp [mKey, PyData.depth, PyData.depthAll])
theorem known_mem {given : List PyData} {d : PyData} (h : d ∈ mKnown given) : d ∈ given ∧ nonD d = false := by
  have := (List.mergeSort_perm _ _).mem_iff.mp h
  rw [List.mem_filter] at this
  exact ⟨this.1, by simpa using this.2⟩
theorem known_len (given : List PyData) : (mKnown given).length ≤ given.length := by
  unfold mKnown
  rw [List.length_mergeSort]
  exact List.length_filter_le _ _
theorem known_keys {given : List PyData} (hc : ∀ d ∈ given, cellB d = true) : mKnown given = ((mKnown given).map keyOf).map keyD := by
  rw [List.map_map]
  conv => lhs; rw [← List.map_id (mKnown given)]
  refine List.map_congr_left fun d hd => ?_
  obtain ⟨h1, h2⟩ := known_mem hd
  have h3 := hc d h1
  cases d <;> first | rfl | (cases h3; done) | (cases h2; done)
theorem known_ints {given : List PyData} (hc : ∀ d ∈ given, d = .none ∨ ∃ n, d = .int n) : mKnown given = ((mKnown given).map intOf).map .int := by
  rw [List.map_map]
  conv => lhs; rw [← List.map_id (mKnown given)]
  refine List.map_congr_left fun d hd => ?_
  obtain ⟨h1, h2⟩ := known_mem hd
  rcases hc d h1 with rfl | ⟨n, rfl⟩
  · cases h2
  · rfl
theorem atI_atR {ds : List PyData} {a : Int} (h1 : 0 ≤ a) (h2 : a < (ds.length : Nat)) : atI ds a = some (ds.getD a.toNat .none) := by
  have e : a = (a.toNat : Int) := by omega
  rw [e]
  refine atI_nat ?_
  rw [List.getD_eq_getElem?_getD, Int.toNat_natCast, List.getElem?_eq_getElem (by omega)]
  rfl
section
variable {G : Gc}
abbrev spOfValues (G : Gc) : Sp := SpF G.T (fun i : IVal => i.Ok) (fun i => [isS i.fn.w, isD (oI i.num), isD (.list i.given)]) (fun i => isD (mOfValues i.fn i.num i.given))
theorem sc37 : FnScope ["_law_function", "_law_number", "_law_given", "_law_known", "_law_value_here", "_law_at"] ["_law_function", "_law_number", "_law_given"] (defScope (top 37)) := ⟨rfl, rfl, rfl, by decide +kernel, rfl, by decide +kernel, by decide +kernel⟩
theorem ok37 (B : Bt G) (hR : Fn G "_law_rank" 1 (spKey G)) {f : Addr} {fd : FuncData} (F : Fun G.K "_law_of_values" "_law_of_values" (top 37) f fd) :
    FnOk G.P G.w G.K G.mg G.base CX0 3 f fd ["_law_function", "_law_number", "_law_given"] (spOfValues G) := by
  refine fn_ok (k := 2) F sc37 (fun _ => rfl) ?_
  rintro ⟨fn, num, given⟩ ⟨hfn, hnum, hlen, hcell, hsum⟩ cdv A outer s H E
  dsimp only at *
  have hc : ∀ d ∈ given.filter (fun d => !nonD d), cellB d = true := fun d hd => hcell d (List.mem_filter.mp hd).1
  have hl1 : (given.filter fun d => !nonD d).length ≤ 100 := Nat.le_trans (List.length_filter_le _ _) hlen
  refine js_cons (js_asg 3 (P := isD (.list (mKnown given))) (JE.is (je_sortedKey (bs := given.filter fun d => !nonD d) (kf := mKey) (itm := id) hR id hc (fun _ => rfl) (fun _ => rfl) (by omega) (fun d hd d' hd' => by
      obtain ⟨b, hb, rfl⟩ := List.mem_map.mp hd
      obtain ⟨b', hb', rfl⟩ := List.mem_map.mp hd'
      exact mKey_alike (hc b hb) (hc b' hb')) (.inl fun d hd => by
      obtain ⟨b, hb, rfl⟩ := List.mem_map.mp hd
      exact mKey_tupR (hc b hb)) (fun b hb => mKey_dep (hc b hb)) B.sorted
    (JE.is (je_lcL1 (xs := given) (d := id) (own := [("_law_value_here", 4)]) (is := [4]) (Ps := fun d => [isD d]) (y := id) (f := fun d => !nonD d) ((je_var 2).is (by simp)) (blk1 (by decide) (fun x hx s H C cl fp => jg_name 4) (fun x hx s H C cl fp => jt_notN (je_var 4)) fun x hx _ s H C cl fp => je_var 4) (by omega)) rfl)) (by simp [mKnown]))) ?_
  walk_at "norm"
  have kl := known_len given
  cases hA : fn.isAt with
  | true =>
    obtain ⟨a, ha, hm⟩ : ∃ a : Int, (valD [(.inr "first", PyData.int 0), (.inr "last", PyData.int ((given.length : Nat) - 1))] (.inr fn.w)).getD (.int (num.getD 1 - 1)) = .int a ∧ mOfValues fn num given = mAt given a := by
      cases fn <;> first | (cases hA; done) | exact ⟨_, rfl, rfl⟩
    have hin : (([.str "first", .str "last", .str "nth"] : List PyData).any fun z => PyData.eqv z (.str fn.w)) = true := by
      cases fn <;> first | (cases hA; done) | decide +kernel
    refine js_end (js_if (jt_inT (d := .str fn.w) rfl rfl hin (je_var 0) (je_tup (ds := [.str "first", .str "last", .str "nth"]) (ja_cons je_str (ja_cons je_str (ja_cons je_str ja_nil))))) (fun _ => ?_) no_ft)
    have hnum1 : num.getD 1 - 1 = num.getD 1 - 1 := rfl
    refine js_cons (js_asg 5 (P := isI a) (JE.is (je_dgetD (kvs := [(.inr "first", PyData.int 0), (.inr "last", PyData.int ((given.length : Nat) - 1))]) (key := .inr fn.w) (d := .int (num.getD 1 - 1)) rfl (je_disp (show ([.inr "first", .inr "last"] : List Key).Nodup by decide +kernel) (jps_cons rfl je_str je_int (jps_cons rfl je_str (je_sub (je_lenL B.len (je_var 2)) je_int) jps_nil))) (je_var 0)
      (je_sub (i := num.getD 1) (je_orN (d := oI num) (by cases num <;> trivial) (je_var 1) (fun ht v F p => by
        cases num with
        | none => cases ht
        | some n => exact p) fun ht => je_one (JE.is je_int (by
        cases num with
        | none => rfl
        | some n =>
          have := hnum n rfl
          have h2 : (n != 0) = false := ht
          simp at h2
          omega))) je_int)) ha)) ?_
    walk_at "norm"
    rw [hm]
    unfold mAt
    cases hq : (decide (0 ≤ a) && decide (a < (given.length : Nat))) with
    | true =>
      rw [if_pos rfl]
      obtain ⟨g1, g2⟩ := Bool.and_eq_true_iff.mp hq
      have g1 := of_decide_eq_true g1
      have g2 := of_decide_eq_true g2
      exact js_end (js_if (JT.is (d' := true) (jt_chain je_int (je_var 5) (je_lenL B.len (je_var 2))) hq) (fun _ => js_rt (je_ixL (atI_atR g1 g2) (je_var 2) (je_var 5))) no_ft)
    | false =>
      rw [if_neg Bool.false_ne_true]
      exact js_cons (js_if (JT.is (d' := false) (jt_chain je_int (je_var 5) (je_lenL B.len (je_var 2))) hq) no_tf fun _ => js_nil) (js_rt je_none)
  | false =>
    have hin : (([.str "first", .str "last", .str "nth"] : List PyData).any fun z => PyData.eqv z (.str fn.w)) = false := by
      cases fn <;> first | (cases hA; done) | decide +kernel
    refine js_cons (js_if (jt_inT (d := .str fn.w) rfl rfl hin (je_var 0) (je_tup (ds := [.str "first", .str "last", .str "nth"]) (ja_cons je_str (ja_cons je_str (ja_cons je_str ja_nil))))) no_tf fun _ => js_nil) ?_
    by_cases h1 : fn = .size
    · subst h1
      exact js_end (js_if (JT.is (d' := true) (jt_eq (shaped_fn .size) (by decide +kernel) (je_var 0) je_str) (by decide +kernel)) (fun _ => js_rt (je_lenL B.len (je_var 2))) no_ft)
    refine js_cons (js_if (JT.is (d' := false) (jt_eq (shaped_fn fn) (by decide +kernel) (je_var 0) je_str) (by cases fn <;> first | exact absurd rfl h1 | decide +kernel)) no_tf fun _ => js_nil) ?_
    by_cases h2 : fn = .count
    · subst h2
      exact js_end (js_if (JT.is (d' := true) (jt_eq (shaped_fn .count) (by decide +kernel) (je_var 0) je_str) (by decide +kernel)) (fun _ => js_rt (je_lenL B.len (je_var 3))) no_ft)
    refine js_cons (js_if (JT.is (d' := false) (jt_eq (shaped_fn fn) (by decide +kernel) (je_var 0) je_str) (by cases fn <;> first | exact absurd rfl h2 | decide +kernel)) no_tf fun _ => js_nil) ?_
    by_cases h3 : fn = .different
    · subst h3
      exact js_end (js_if (JT.is (d' := true) (jt_eq (shaped_fn .different) (by decide +kernel) (je_var 0) je_str) (by decide +kernel)) (fun _ => js_rt (je_lenK B.len (je_setK (ks := (mKnown given).map keyOf) (by rw [List.length_map]; omega) B.set ((je_var 3).is (by rw [← known_keys hcell]))))) no_ft)
    refine js_cons (js_if (JT.is (d' := false) (jt_eq (shaped_fn fn) (by decide +kernel) (je_var 0) je_str) (by cases fn <;> first | exact absurd rfl h3 | decide +kernel)) no_tf fun _ => js_nil) ?_
    by_cases h0 : (mKnown given).length = 0
    · have hm : mOfValues fn num given = .none := by
        have e : mKnown given = [] := List.length_eq_zero_iff.mp h0
        cases fn <;> first | (cases hA; done) | (cases hfn; done) | exact absurd rfl h1 | exact absurd rfl h2 | exact absurd rfl h3 | (simp [mOfValues, e])
      rw [hm]
      exact js_end (js_if (JT.is (d' := true) (jt_eq (shaped_int _) (shaped_int _) (je_lenL B.len (je_var 3)) je_int) (by rw [eqv_int, h0]; rfl)) (fun _ => js_rt je_none) no_ft)
    refine js_cons (js_if (JT.is (d' := false) (jt_eq (shaped_int _) (shaped_int _) (je_lenL B.len (je_var 3)) je_int) (by rw [eqv_int]; exact decide_eq_false (by omega))) no_tf fun _ => js_nil) ?_
    by_cases h4 : fn = .sum
    · subst h4
      have hm : mOfValues .sum num given = .int ((mKnown given).map intOf).sum := by simp [mOfValues, h0]
      rw [hm]
      exact js_end (js_if (JT.is (d' := true) (jt_eq (shaped_fn .sum) (by decide +kernel) (je_var 0) je_str) (by decide +kernel)) (fun _ => js_rt (je_sum (ns := (mKnown given).map intOf) B.sum ((je_var 3).is (by rw [← known_ints (hsum rfl)])))) no_ft)
    refine js_cons (js_if (JT.is (d' := false) (jt_eq (shaped_fn fn) (by decide +kernel) (je_var 0) je_str) (by cases fn <;> first | exact absurd rfl h4 | decide +kernel)) no_tf fun _ => js_nil) ?_
    obtain ⟨i, hi, hd, hm⟩ : ∃ i : Nat, i < (mKnown given).length ∧ valD [(.inr "least", PyData.int 0), (.inr "greatest", PyData.int (((mKnown given).length : Nat) - 1)), (.inr "median", PyData.int ((((mKnown given).length : Nat) - 1) / 2))] (.inr fn.w) = some (.int (i : Nat)) ∧ mOfValues fn num given = (mKnown given).getD i .none := by
      cases fn <;> first | (cases hA; done) | (cases hfn; done) | exact absurd rfl h1 | exact absurd rfl h2 | exact absurd rfl h3 | exact absurd rfl h4 | skip
      · exact ⟨0, by omega, rfl, rfl⟩
      · refine ⟨(mKnown given).length - 1, by omega, ?_, rfl⟩
        have e : (((mKnown given).length - 1 : Nat) : Int) = ((mKnown given).length : Nat) - 1 := by omega
        rw [e]; rfl
      · refine ⟨((mKnown given).length - 1) / 2, by omega, ?_, rfl⟩
        have e : ((((mKnown given).length - 1) / 2 : Nat) : Int) = (((mKnown given).length : Nat) - 1) / 2 := by omega
        rw [e]; rfl
    rw [hm]
    have hat : atI (mKnown given) (i : Nat) = some ((mKnown given).getD i .none) := atI_atR (by omega) (by omega)
    refine js_rt (je_ixL hat (je_var 3) (je_dget (key := .inr fn.w) rfl hd (je_disp (show ([.inr "least", .inr "greatest", .inr "median"] : List Key).Nodup by decide +kernel) (jps_cons rfl je_str je_int (jps_cons rfl je_str (je_sub (je_lenL B.len (je_var 3)) je_int) (jps_cons rfl je_str (je_fdiv ⟨by omega, by omega⟩ (je_sub (je_lenL B.len (je_var 3)) je_int) je_int) jps_nil)))) (je_var 0)))
end
end K27
set_option maxHeartbeats 2000000
/-! K27, fourteenth part: dicts that are made, walks over a dict. -/
namespace K27
open PySem L2 LamX
section
variable {G : Gc} {k : Nat} {X : Cx} {L L1 : List Slot} {a b c e tg iter : Expr} {es : List Expr} {pos : Pos} {st : Stmt} {sts body : List Stmt} {R : SP} {N : Option (List Slot)}
/-- an owned thing goes to the frame -/
theorem EnvOk.freezeG {T : List (Addr × Str)} {F0 H0 F H : Hp} {σ : L2.St} (st : Step T F0 H0 F H) (E : EnvOk F H σ L) (O : OwnNew H0 σ L) {i : Nat} {S : Slot} {ad : Addr} {o : HO} {P : SP} (hL : L[i]? = some S) (hS : S.own = true) (e1 : σ[i]? = some (some (.ref ad))) (e2 : F ad = none) (e3 : H ad = some o) (hP : P.P (.ref ad) (upd F ad o)) :
    ∃ F', Step T F0 H0 F' H ∧ KS F F' ∧ EnvOk F' H σ (L.set i (.p P)) ∧ OwnNew H0 σ (L.set i (.p P)) := by
  have kp : Keep F (upd F ad o) := Keep.new e2
  have ks : ∀ b u, F b = some u → upd F ad o b = some u := fun b u q => by rw [upd_ne (ne_of_none q e2)]; exact q
  have hlt : i < L.length := (List.getElem?_eq_some_iff.mp hL).1
  have h0 := O i _ ad hL hS e1
  refine ⟨upd F ad o, ⟨st.keep.trans kp, fun b u q n => ks b u (st.str b u q n), st.tab.ext ks, fun b u q => ?_, fun b u hb nb => ?_⟩, ⟨kp, fun b u q _ => ks b u q⟩, ⟨by rw [List.length_set]; exact E.len, fun j s hj => ?_, fun j k a s t hj hk os ot ej ek => ?_⟩, O.drop rfl⟩
  · by_cases hb : b = ad
    · subst hb; rw [upd_same] at q; cases q; exact e3
    · rw [upd_ne hb] at q; exact st.sub b u q
  · obtain ⟨q1, q2⟩ := st.own b u hb nb
    exact ⟨q1, by rw [upd_ne (ne_of_none hb h0)]; exact q2⟩
  · by_cases hij : i = j
    · subst hij
      rw [List.getElem?_set_self hlt] at hj
      cases hj
      exact ⟨_, e1, hP⟩
    · rw [List.getElem?_set_ne hij] at hj
      have q := E.at_ j s hj
      have ne : ∀ a, s.own = true → σ[j]? = some (some (V.ref a)) → a ≠ ad := fun a os ej z => by
        rw [z] at ej
        exact hij (E.dist i j ad _ s hL hj hS os e1 ej)
      cases s with
      | no => trivial
      | p P => obtain ⟨v, q1, q2⟩ := q; exact ⟨v, q1, P.st kp q2⟩
      | acc ds => obtain ⟨a, us, e1, e2, e3, e4⟩ := q; exact ⟨a, us, e1, by rw [upd_ne (ne a rfl e1)]; exact e2, e3, keep_ds kp _ _ e4⟩
      | accd ds => obtain ⟨a, us, e1, e2, e3, e4⟩ := q; exact ⟨a, us, e1, by rw [upd_ne (ne a rfl e1)]; exact e2, e3, e4.keep kp⟩
  · have nj : i ≠ j := fun z => by
      subst z
      rw [List.getElem?_set_self hlt] at hj
      cases hj
      cases os
    have nk : i ≠ k := fun z => by
      subst z
      rw [List.getElem?_set_self hlt] at hk
      cases hk
      cases ot
    rw [List.getElem?_set_ne nj] at hj
    rw [List.getElem?_set_ne nk] at hk
    exact E.dist j k a s t hj hk os ot ej ek
theorem js_freezeD (i : Nat) {kvs : List (Key × PyData)} (hL : L[i]? = some (.accd kvs)) (h : JSs G k X (L.set i (.p (isDic kvs))) sts R N) : JSs G k X L sts R N := fun C => (h C).imp fun D σ H ⟨F0, H0, F, s0, st, E, O, r, n⟩ => by
  obtain ⟨ad, xs, e1, e2, e3, e4⟩ := E.at_ i _ hL
  obtain ⟨F', st', ks, E', O'⟩ := EnvOk.freezeG (P := isDic kvs) st E O hL rfl e1 e2 e3 ⟨ad, xs, rfl, .inl upd_same, e4.keep (Keep.new e2)⟩
  exact ⟨F0, H0, F', s0, st', E', O', fun v F2 H2 st2 k2 p => r v F2 H2 st2 (ks.trans k2) p, fun L' e σ' F2 H2 st2 k2 E2 O2 => n L' e σ' F2 H2 st2 (ks.trans k2) E2 O2⟩
/-- x = {} -/
theorem js_newDic (i : Nat) {x : Str} {pos' pl : Pos} (hi : X.N[i]? = some x := by rfl) (hx : Loc X.env.scope x := by first | exact Or.inl rfl | exact Or.inr rfl) (hs : swapsWith (.Dict [] [] pl) (some (.Name x pos')) pos.line X.env = pure false := by rfl)
    (hf : X.fn x = true ∨ X.env.scope.names.lookup x = some .local := by first | exact .inl rfl | exact .inr rfl) : JS G k X L (.Assign [.Name x pos'] (.Dict [] [] pl) pos) R (some (L.set i (.accd []))) := fun C =>
  (ps_set C.nd hi hx pe_dnewK hs hf).imp fun D σ H ⟨F0, H0, F, s0, st, E, O, r, n⟩ p hp => by
    have hF := st.sub.no hp
    exact n _ rfl _ F _ (st.updNew hF (st.there s0 hp)) (KS.refl F) (E.setOwn hp hF ⟨p, [], rfl, hF, upd_same, rfl, .nil⟩) (O.setOwn (st.there s0 hp) E.len)
/-- x[k] = e, a new key -/
theorem js_put (i : Nat) {x : Str} {kvs : List (Key × PyData)} {key : Key} {d dk : PyData} {px pos' : Pos} (hk : dk = keyD key) (hnew : key ∉ kvs.map (·.1)) (hlen : kvs.length ≤ 100000) (hL : L[i]? = some (.accd kvs)) (ha : JE G k X L a (isD dk)) (he : JE G k X L e (isD d)) (hi : X.N[i]? = some x := by rfl) (hv : Vis X.env.scope x := by first | exact Or.inl rfl | exact Or.inr (Or.inl rfl) | exact Or.inr (Or.inr rfl))
    (hs : swapsWith e (some (.Subscript (.Name x px) a pos')) pos.line X.env = pure false := by rfl) (hd : (x == ("__debug__" : Str)) = false := by decide) (hcd : (x == ("__classdict__" : Str)) = false := by decide) :
    JS G k X L (.Assign [.Subscript (.Name x px) a pos'] e pos) R (some (L.set i (.accd (kvs ++ [(key, d)])))) := fun C =>
  (ps_dput (hu_of C.room) (pe_var hi hv hd hcd) (ha C) (he C) hs).imp fun D σ H ⟨F0, H0, F, s0, st, E, O, r, n⟩ => by
    subst hk
    obtain ⟨ad, us, e1, e2, e3, e4⟩ := E.at_ i _ hL
    refine tS_eval (D := D) st E fun v F1 H1 st1 k1 E1 p1 => ⟨_, e1, tS_eval (D := D) st1 E1 fun y F2 H2 st2 k2 E2 p2 => ?_⟩
    cases da_key p2
    obtain ⟨ad', us', f1, f2, f3, f4⟩ := E2.at_ i _ hL
    rw [e1] at f1
    cases f1
    have hul : us'.length = kvs.length := by have := congrArg List.length f4.1; rwa [List.length_map, List.length_map] at this
    have hl : us'.length < sizeLine := by rw [hul]; exact Nat.lt_of_le_of_lt hlen (by decide)
    refine ⟨ad, _, rfl, DPut.k f3 hl, n _ rfl σ F2 _ (st2.updNew f2 (O i _ ad hL rfl e1)) (k1.trans k2) (E2.updOwn hL rfl e1 ⟨ad, _, rfl, f2, upd_same, ?_⟩ rfl) (O.updOwn hL rfl)⟩
    rw [putK_new (by rw [f4.1]; exact hnew)]
    refine ⟨by simp [f4.1], ?_⟩
    rw [List.map_append, List.map_append]
    exact das_app f4.2 (.cons (keep_d k2.w _ _ p1) .nil)
/-! ### for x in d -/
theorem for_keys {d : Addr} {o : Obj} {ks : List (Key × V)} {g : TG} {tb : TS} {D : Ends} {σ : L2.St} {H : Hp} (Pv : Nat → L2.St → Hp → Prop) (h0 : Pv 0 σ H) (hl : ∀ i σ H, i ≤ ks.length → Pv i σ H → H d = some (.frz o (.dK ks)))
    (hs : ∀ i key σ H, (ks.map (·.1))[i]? = some key → Pv i σ H → g (kV key) σ H fun σ2 H2 => tb { D with nx := Pv (i + 1), ct := Pv (i + 1), bk := D.nx } σ2 H2) (hd : ∀ σ H, Pv ks.length σ H → D.nx σ H) :
    ∃ W : Nat → Nat → L2.St → Hp → Prop, (∃ m, W 0 m σ H) ∧ ∀ i m σ H, W i m σ H →
      ((Itk d o ks).stop i H ∧ D.nx σ H) ∨ ((Itk d o ks).go i H ∧ ∃ N : L2.St → Hp → Prop, (∀ σ' H', N σ' H' → ∃ m', m' < m ∧ W (i + 1) m' σ' H') ∧ ∀ x H', (Itk d o ks).yld i H x H' → g x σ H' fun σ2 H2 => tb { D with nx := N, ct := N, bk := D.nx } σ2 H2) := by
  refine ⟨fun i m σ H => m = ks.length - i ∧ i ≤ ks.length ∧ Pv i σ H, ⟨ks.length, by simp, Nat.zero_le _, h0⟩, ?_⟩
  rintro i m σ H ⟨rfl, hi, p⟩
  have q := hl i σ H hi p
  by_cases hlt : i < ks.length
  · refine .inr ⟨⟨q, hlt⟩, Pv (i + 1), fun σ' H' p' => ⟨ks.length - (i + 1), by omega, rfl, hlt, p'⟩, fun x H' y => ?_⟩
    obtain ⟨e, key, v, hk, ex⟩ := y
    subst e ex
    exact hs i key σ _ (by rw [List.getElem?_map, hk]; rfl) p
  · have e : i = ks.length := by omega
    subst e
    exact .inl ⟨⟨q, Nat.le_refl _⟩, hd σ H p⟩
/-- the base while a dict is locked -/
theorem Step.lockBase {T : List (Addr × Str)} {F0 H0 F H : Hp} {d : Addr} {od : Obj} {ks : List (Key × V)} (s0 : Sub F0 H0) (st : Step T F0 H0 F H) (hd : F d = some (.dK ks)) :
    ∃ F0' H0', Sub F0' H0' ∧ Step T F0' H0' (upd F d (.frz od (.dK ks))) (upd H d (.frz od (.dK ks))) ∧ (∀ b, H0 b = none → H0' b = none) ∧ (∀ b, b ≠ d → H0' b = none → H0 b = none) ∧
      ∀ F2 H2, Step T F0' H0' F2 H2 → F2 d = some (.frz od (.dK ks)) → Step T F0 H0 (upd F2 d (.dK ks)) (upd H2 d (.dK ks)) := by
  obtain ⟨k1, t1, s1⟩ := Step.lock (od := od) st.tab st.sub hd
  cases h0 : F0 d with
  | none =>
    have hH0 : H0 d = none := by
      cases e : H0 d with
      | none => rfl
      | some u => have := (st.own d u e h0).2; rw [hd] at this; cases this
    refine ⟨F0, H0, s0, ⟨st.keep.trans k1, fun b o e n => ?_, t1, s1, fun b o e n => ?_⟩, fun b h => h, fun b _ h => h, fun F2 H2 st2 hf => ⟨st2.keep.trans (Keep.unlock hf), fun b o e n => ?_, tabs_but st2.tab hf (fun _ z => nomatch z) (fun _ _ z => nomatch z) fun b hb => upd_ne hb, st2.sub.upd d _, fun b o e n => ?_⟩⟩
    · have hb : b ≠ d := fun z => by rw [z, h0] at e; cases e
      rw [upd_ne hb]; exact st.str b o e n
    · have hb : b ≠ d := fun z => by rw [z, hH0] at e; cases e
      rw [upd_ne hb, upd_ne hb]; exact st.own b o e n
    · have hb : b ≠ d := fun z => by rw [z, h0] at e; cases e
      rw [upd_ne hb]; exact st2.str b o e n
    · have hb : b ≠ d := fun z => by rw [z, hH0] at e; cases e
      rw [upd_ne hb, upd_ne hb]; exact st2.own b o e n
  | some u0 =>
    have at0 : upd F0 d (.frz od (.dK ks)) d = some (.frz od (.dK ks)) := upd_same
    have nb : ∀ {b : Addr} {F' : Hp}, upd F' d (.frz od (.dK ks)) b = none → b ≠ d := fun {b F'} e z => by rw [z, upd_same] at e; cases e
    refine ⟨upd F0 d (.frz od (.dK ks)), upd H0 d (.frz od (.dK ks)), s0.upd d _, ⟨⟨fun b o e p => ?_, fun b k e => ?_, fun b o e => ?_⟩, fun b o e n => ?_, t1, s1, fun b o e n => ?_⟩, fun b h => ?_, fun b hb h => by rw [upd_ne hb] at h; exact h, fun F2 H2 st2 hf => ⟨⟨fun b o e p => ?_, fun b k e => ?_, fun b o e => ?_⟩, fun b o e n => ?_, tabs_but st2.tab hf (fun _ z => nomatch z) (fun _ _ z => nomatch z) fun b hb => upd_ne hb, st2.sub.upd d _, fun b o e n => ?_⟩⟩
    · by_cases hb : b = d
      · subst hb; rw [upd_same] at e; cases e; exact p.elim
      · rw [upd_ne hb] at e ⊢; exact st.keep.obj b o e p
    · by_cases hb : b = d
      · subst hb
        rcases e with e | ⟨o, e⟩ <;> rw [upd_same] at e <;> cases e
        exact .inr ⟨od, upd_same⟩
      · have := st.keep.dic b k (by
          rcases e with e | ⟨o, e⟩
          · exact .inl (by rw [upd_ne hb] at e; exact e)
          · exact .inr ⟨o, by rw [upd_ne hb] at e; exact e⟩)
        rcases this with e | ⟨o, e⟩
        · exact .inl (by rw [upd_ne hb]; exact e)
        · exact .inr ⟨o, by rw [upd_ne hb]; exact e⟩
    · by_cases hb : b = d
      · subst hb; exact ⟨_, upd_same⟩
      · rw [upd_ne hb] at e ⊢; exact st.keep.there b o e
    · by_cases hb : b = d
      · subst hb; rw [upd_same] at e; cases e; exact upd_same
      · rw [upd_ne hb] at e ⊢; exact st.str b o e n
    · have hb := nb n
      rw [upd_ne hb] at e n ⊢
      rw [upd_ne hb]
      exact st.own b o e n
    · have hb : b ≠ d := fun z => by rw [z] at h; rw [s0 d u0 h0] at h; cases h
      rw [upd_ne hb]; exact h
    · have hb : b ≠ d := fun z => by
        subst z
        have := st.keep.obj b o e p
        rw [hd] at this; cases this; exact p
      rw [upd_ne hb]
      exact st2.keep.obj b o (by rw [upd_ne hb]; exact e) p
    · by_cases hb : b = d
      · subst hb
        have := st.keep.dic b k e
        rcases this with e | ⟨o, e⟩ <;> rw [hd] at e <;> cases e
        exact .inl upd_same
      · have := st2.keep.dic b k (by
          rcases e with e | ⟨o, e⟩
          · exact .inl (by rw [upd_ne hb]; exact e)
          · exact .inr ⟨o, by rw [upd_ne hb]; exact e⟩)
        rcases this with e | ⟨o, e⟩
        · exact .inl (by rw [upd_ne hb]; exact e)
        · exact .inr ⟨o, by rw [upd_ne hb]; exact e⟩
    · by_cases hb : b = d
      · subst hb; exact ⟨_, upd_same⟩
      · rw [upd_ne hb]; exact st2.keep.there b o (by rw [upd_ne hb]; exact e)
    · by_cases hb : b = d
      · subst hb
        have := st.str b o e n
        rw [hd] at this; cases this
        exact upd_same
      · rw [upd_ne hb]; exact st2.str b o (by rw [upd_ne hb]; exact e) n
    · have hb : b ≠ d := fun z => by rw [z, h0] at n; cases n
      rw [upd_ne hb, upd_ne hb]
      exact st2.own b o (by rw [upd_ne hb]; exact e) (by rw [upd_ne hb]; exact n)
theorem EnvOk.unlockAt {F H : Hp} {σ : L2.St} {L : List Slot} {d : Addr} {u u' : HO} (E : EnvOk F H σ L) (k : Keep F (upd F d u')) (hd : F d = some u) : EnvOk (upd F d u') (upd H d u') σ L := by
  refine ⟨E.len, fun i sl hi => ?_, E.dist⟩
  have q0 := E.at_ i sl hi
  cases sl with
  | no => trivial
  | p P => obtain ⟨v, e1, e2⟩ := q0; exact ⟨v, e1, P.st k e2⟩
  | acc ds =>
    obtain ⟨ad, us, e1, e2, e3, e4⟩ := q0
    have hne : ad ≠ d := fun z => by rw [z, hd] at e2; cases e2
    exact ⟨ad, us, e1, by rw [upd_ne hne]; exact e2, by rw [upd_ne hne]; exact e3, keep_ds k _ _ e4⟩
  | accd ds =>
    obtain ⟨ad, us, e1, e2, e3, e4⟩ := q0
    have hne : ad ≠ d := fun z => by rw [z, hd] at e2; cases e2
    exact ⟨ad, us, e1, by rw [upd_ne hne]; exact e2, by rw [upd_ne hne]; exact e3, e4.keep k⟩
theorem js_forK (j : Nat) {kvs : List (Key × PyData)} {is : List Nat} {Ps : Key → List SP} {x : Str} {px : Pos} (Inv : Nat → List Slot) (hj : L[j]? = some (.p (isDic kvs))) (h0 : Ent L (Inv 0)) (B : Turns G k X tg body R (kvs.map (·.1)) (fun key => isD (keyD key)) is Ps Inv) (hN : X.N[j]? = some x := by rfl)
    (hv : Vis X.env.scope x := by first | exact Or.inl rfl | exact Or.inr (Or.inl rfl) | exact Or.inr (Or.inr rfl)) (hp : PassesOwn (model X.prog X.w) X.A X.env X.xe := by exact PassesOwn.never) (hfs : ∀ v, foldedSetIterable (.Name x px) X.env v = pure v := by intro _; rfl)
    (hdb : (x == ("__debug__" : Str)) = false := by decide) (hcd : (x == ("__classdict__" : Str)) = false := by decide) :
    JS G k X L (.For tg (.Name x px) body [] pos) R (some (Inv kvs.length)) := fun C => by
  have ps := ps_for (pos := pos) hp C.calm (pi_keys (pe_var (pos := px) hN hv hdb hcd)) (pg_any (tg := tg) C) (pss_any (body := body) (R := R) C) hfs
  have core : ∀ (F0 H0 F H : Hp) (σ : L2.St) (d : Addr) (o : Obj) (ks : List (Key × V)) (D : Ends), Sub F0 H0 → Step G.T F0 H0 F H → EnvOk F H σ L → OwnNew H0 σ L → σ[j]? = some (some (.ref d)) → F d = some (.frz o (.dK ks)) → ks.map (·.1) = kvs.map (·.1) →
      (∀ v F' H', Step G.T F0 H0 F' H' → KS F F' → R.P v F' → D.rt v H') → (∀ σ' F' H', Step G.T F0 H0 F' H' → KS F F' → EnvOk F' H' σ' (Inv kvs.length) → OwnNew H0 σ' (Inv kvs.length) → D.nx σ' H') →
      tFor (iKeys (tVar j)) (tgAny G k X tg) (tbAny G k X body R) D σ H := by
    intro F0 H0 F H σ d o ks D s0 st E O hσ hd hk r n
    have hkl : ks.length = kvs.length := by have := congrArg List.length hk; rwa [List.length_map, List.length_map] at this
    refine ⟨.ref d, hσ, d, o, rfl, .inl ⟨ks, st.sub _ _ hd, ?_⟩⟩
    refine for_keys (fun i σ' H' => Btw G.T F0 H0 F (Inv i) σ' H') ⟨F, st, KS.refl F, h0.e _ _ _ E, h0.o _ _ O⟩ (fun i σ' H' _ ⟨F', st', ks', _⟩ => st'.sub _ _ (ks'.str _ _ hd fun _ z => nomatch z)) ?_ ?_
    · rintro i key σ' H' hu hB
      rw [hk] at hu
      exact for_turn (D' := D) s0 B hu hB (fun F' ks => kV_da key) (fun v F' H' st' k' p => r v F' H' st' k' p) fun σ' H' h => h
    · rintro σ' H' ⟨F', st', ks', E', O'⟩
      rw [hkl] at E' O'
      exact n σ' F' H' st' ks' E' O'
  have ps2 : PS X (.For tg (.Name x px) body [] pos) (fun D σ H => tFor (iKeys (tVar j)) (tgAny G k X tg) (tbAny G k X body R) D σ H ∨ tLock (tFor (iKeys (tVar j)) (tgAny G k X tg) (tbAny G k X body R)) D σ H) :=
    ⟨fun pins s σ H D I h => h.elim (ps.run pins s σ H D I) ((ps_lock ps).run pins s σ H D I)⟩
  refine ps2.imp fun D σ H ⟨F0, H0, F, s0, st, E, O, r, n⟩ => ?_
  obtain ⟨v, hσ, d, ks, rfl, rd, dic⟩ := E.var hj
  rcases rd with hd | ⟨o, hd⟩
  · refine .inr ⟨d, _, st.sub _ _ hd, trivial, fun od => ?_⟩
    obtain ⟨F0', H0', s0', st', hn', hn2, back⟩ := Step.lockBase (od := od) s0 st hd
    obtain ⟨k1, _, _⟩ := Step.lock (od := od) st.tab st.sub hd
    have E1 : EnvOk (upd F d (.frz od (.dK ks))) (upd H d (.frz od (.dK ks))) σ L := E.unlockAt k1 hd
    have O1 : OwnNew H0' σ L := fun i s a h1 h2 h3 => hn' a (O i s a h1 h2 h3)
    have kf : ∀ F', KS (upd F d (.frz od (.dK ks))) F' → F' d = some (.frz od (.dK ks)) ∧ KS F (upd F' d (.dK ks)) := fun F' k => by
      have hf := k.str d _ upd_same fun _ z => nomatch z
      refine ⟨hf, ⟨(k1.trans k.w).trans (Keep.unlock hf), fun b o e nt => ?_⟩⟩
      by_cases hb : b = d
      · subst hb; rw [hd] at e; cases e; exact upd_same
      · rw [upd_ne hb]; exact k.str b o (by rw [upd_ne hb]; exact e) nt
    have oInv : ∀ σ' (Li : List Slot) F2 H2, Step G.T F0' H0' F2 H2 → EnvOk F2 H2 σ' Li → F2 d = some (.frz od (.dK ks)) → OwnNew H0' σ' Li → OwnNew H0 σ' Li := fun σ' Li F2 H2 st2 E2 hf O2 i s a h1 h2 h3 => by
      refine hn2 a (fun z => ?_) (O2 i s a h1 h2 h3)
      have q := E2.at_ i s h1
      cases s with
      | no => cases h2
      | p P => cases h2
      | acc ds => obtain ⟨ad, us, e1, e2, _⟩ := q; rw [h3] at e1; cases e1; rw [z, hf] at e2; cases e2
      | accd ds => obtain ⟨ad, us, e1, e2, _⟩ := q; rw [h3] at e1; cases e1; rw [z, hf] at e2; cases e2
    refine core F0' H0' _ _ σ d od ks _ s0' st' E1 O1 hσ upd_same dic.1 (fun v F' H' st2 k2 p => ?_) (fun σ' F' H' st2 k2 E2 O2 => ?_)
    · obtain ⟨hf, k3⟩ := kf F' k2
      exact ⟨st2.sub _ _ hf, r v _ _ (back F' H' st2 hf) k3 (R.st (Keep.unlock hf) p)⟩
    · obtain ⟨hf, k3⟩ := kf F' k2
      exact ⟨st2.sub _ _ hf, n _ rfl σ' _ _ (back F' H' st2 hf) k3 (E2.unlockAt (Keep.unlock hf) hf) (oInv σ' _ F' H' st2 E2 hf O2)⟩
  · exact .inl (core F0 H0 F H σ d o ks D s0 st E O hσ hd dic.1 r fun σ' F' H' st' k' E' O' => n _ rfl σ' F' H' st' k' E' O')
end
end K27
/-! K27, fifteenth part: x = [.. for ..] where x is used nowhere within. -/
namespace K27
open PySem L2 LamX
section
variable {G : Gc} {k : Nat} {X : Cx} {L : List Slot} {a b c e : Expr} {pos spos : Pos} {R : SP}
variable {α : Type} {xs : List α} {P : α → SP} {own : List (Str × Nat)} {scope : Scope} {tg iter elt : Expr} {ifs : List Expr} {is : List Nat} {Ps : α → List SP} {f : α → Bool} {y : α → PyData} {Ps' : Key → List SP} {f' : Key → Bool} {y' : Key → PyData}
theorem lcT_imp (B : Blk G k X L own scope tg ifs elt xs P is Ps f y) (hlen : xs.length ≤ 100000) {σ : L2.St} {H : Hp} {Q : VK} (h : tP G.T L (isD (.list ((xs.filter f).map y))) σ H Q) :
    tLc (iTup X.K (tP G.T L (isTupP (xs.map P)))) (gAll xs fun x => tG (P x) is (Ps x)) (ttAll xs fun x => tPT G.T (blkL L own is (Ps x)) (f x)) (teAll xs f fun x => tP G.T (blkL L own is (Ps x)) (isD (y x))) (own.map (·.2)) σ H Q := by
  obtain ⟨F, s, t, E, q⟩ := h
  exact ⟨F, s, t, E, fun v F1 H1 st1 p1 => by
    obtain ⟨ad, vs, rfl, h1, h2⟩ := p1
    refine ⟨ad, rfl, ⟨vs, h1.sq st1.sub⟩, fun D hD => ?_⟩
    have hD0 : H D = none := st1.there s hD
    have E1 := E.step st1
    have hvl : vs.length = xs.length := by rw [allP_length h2, List.length_map]
    refine lc_tup (K := X.K) (a := ad) (xs := vs) (fun i H' => LcAt G F1 H1 σ L D (((xs.take i).filter f).map y) H') (by simpa using lc_begin (ys := []) E1 (Step.refl st1.tab st1.sub) E1 hD hD) (fun i H' _ ⟨F', vs', st', _⟩ => (h1.keep st'.keep).sq st'.sub) ?_ ?_
    · rintro i u H' hu ⟨F', vs', st', E', fD, hD', dv⟩
      obtain ⟨Pu, hPu, pu⟩ := allP_getV h2 hu
      rw [List.getElem?_map] at hPu
      cases hx : xs[i]? with
      | none => rw [hx] at hPu; cases hPu
      | some x =>
        rw [hx] at hPu
        cases hPu
        exact lc_turn B.inn hx hlen E1 hD st' E' fD hD' dv ((P x).st st'.keep pu) fun _ h => h
    · intro H' h
      rw [hvl, List.take_length] at h
      exact lc_done hD h fun v F' H' st' p => q v F' H' (st1.trans st') p⟩
theorem lcL_imp (B : Blk G k X L own scope tg ifs elt xs P is Ps f y) (hlen : xs.length ≤ 100000) {σ : L2.St} {H : Hp} {Q : VK} (h : tP G.T L (isD (.list ((xs.filter f).map y))) σ H Q) :
    tLc (iList X.K (tP G.T L (isLstP (xs.map P)))) (gAll xs fun x => tG (P x) is (Ps x)) (ttAll xs fun x => tPT G.T (blkL L own is (Ps x)) (f x)) (teAll xs f fun x => tP G.T (blkL L own is (Ps x)) (isD (y x))) (own.map (·.2)) σ H Q := by
  obtain ⟨F, s, t, E, q⟩ := h
  exact ⟨F, s, t, E, fun v F1 H1 st1 p1 => by
    obtain ⟨ad, vs, rfl, h1, h2⟩ := p1
    refine ⟨ad, rfl, ⟨vs, SqL.of (st1.sub _ _ h1)⟩, fun D hD => ?_⟩
    have hD0 : H D = none := st1.there s hD
    have E1 := E.step st1
    have hvl : vs.length = xs.length := by rw [allP_length h2, List.length_map]
    refine lc_list (K := X.K) (a := ad) (xs := vs) (fun i H' => LcAt G F1 H1 σ L D (((xs.take i).filter f).map y) H') (by simpa using lc_begin (ys := []) E1 (Step.refl st1.tab st1.sub) E1 hD hD) (fun i H' _ ⟨F', vs', st', _⟩ => SqL.of (st'.sub _ _ (st'.keep.obj _ _ h1 trivial))) ?_ ?_
    · rintro i u H' hu ⟨F', vs', st', E', fD, hD', dv⟩
      obtain ⟨Pu, hPu, pu⟩ := allP_getV h2 hu
      rw [List.getElem?_map] at hPu
      cases hx : xs[i]? with
      | none => rw [hx] at hPu; cases hPu
      | some x =>
        rw [hx] at hPu
        cases hPu
        exact lc_turn B.inn hx hlen E1 hD st' E' fD hD' dv ((P x).st st'.keep pu) fun _ h => h
    · intro H' h
      rw [hvl, List.take_length] at h
      exact lc_done hD h fun v F' H' st' p => q v F' H' (st1.trans st') p⟩
theorem js_lcT (i : Nat) {z : Str} {pz : Pos} (hi : JE G k X L iter (isTupP (xs.map P))) (B : Blk G k X L own scope tg ifs elt xs P is Ps f y) (hlen : xs.length ≤ 100000) (hz : X.N[i]? = some z := by rfl) (hzl : X.env.scope.names.lookup z = some .local := by rfl)
    (ok : blkC X.N X.env.scope scope own = true := by first | exact okc (by decide +kernel) | exact okb (by decide +kernel)) (hs : ∀ x, foldedSetIterable iter X.env x = pure x := by intro _; rfl) (hsw : swapsWith (.ListComp elt [⟨tg, iter, ifs, 0⟩] scope pos) (some (.Name z pz)) spos.line X.env = pure true := by exact sw_true rfl rfl (by decide +kernel) (by decide +kernel)) :
    JS G k X L (.Assign [.Name z pz] (.ListComp elt [⟨tg, iter, ifs, 0⟩] scope pos) spos) R (some (L.set i (.p (isD (.list ((xs.filter f).map y)))))) := fun C =>
  (ps_setLc C.calm C.nd hz hzl hsw (pi_tup (hi C)) (blkOk_by ok) (fun s H Ca cl fp => pg_all fun x hx => B.tg x hx s H Ca cl fp (C.blk s H scope _ fp)) (fun s H Ca cl fp => pts_all fun x hx => B.test x hx s H Ca cl fp (C.blk s H scope _ fp))
    (fun s H Ca cl fp => pe_all fun x hx hf => B.elt x hx hf s H Ca cl fp (C.blk s H scope _ fp)) hs).imp fun D σ H ⟨F0, H0, F, s0, st, E, O, r, n⟩ => lcT_imp B hlen (tS_eval (D := D) st E fun v F1 H1 st1 k1 E1 p => n _ rfl _ F1 H1 st1 k1 (E1.set p) O.set)
theorem js_lcL (i : Nat) {z : Str} {pz : Pos} (hi : JE G k X L iter (isLstP (xs.map P))) (B : Blk G k X L own scope tg ifs elt xs P is Ps f y) (hlen : xs.length ≤ 100000) (hz : X.N[i]? = some z := by rfl) (hzl : X.env.scope.names.lookup z = some .local := by rfl)
    (ok : blkC X.N X.env.scope scope own = true := by first | exact okc (by decide +kernel) | exact okb (by decide +kernel)) (hs : ∀ x, foldedSetIterable iter X.env x = pure x := by intro _; rfl) (hsw : swapsWith (.ListComp elt [⟨tg, iter, ifs, 0⟩] scope pos) (some (.Name z pz)) spos.line X.env = pure true := by exact sw_true rfl rfl (by decide +kernel) (by decide +kernel)) :
    JS G k X L (.Assign [.Name z pz] (.ListComp elt [⟨tg, iter, ifs, 0⟩] scope pos) spos) R (some (L.set i (.p (isD (.list ((xs.filter f).map y)))))) := fun C =>
  (ps_setLc C.calm C.nd hz hzl hsw (pi_list (hi C)) (blkOk_by ok) (fun s H Ca cl fp => pg_all fun x hx => B.tg x hx s H Ca cl fp (C.blk s H scope _ fp)) (fun s H Ca cl fp => pts_all fun x hx => B.test x hx s H Ca cl fp (C.blk s H scope _ fp))
    (fun s H Ca cl fp => pe_all fun x hx hf => B.elt x hx hf s H Ca cl fp (C.blk s H scope _ fp)) hs).imp fun D σ H ⟨F0, H0, F, s0, st, E, O, r, n⟩ => lcL_imp B hlen (tS_eval (D := D) st E fun v F1 H1 st1 k1 E1 p => n _ rfl _ F1 H1 st1 k1 (E1.set p) O.set)
theorem lcK_imp (j : Nat) {kvs : List (Key × PyData)} (hj : L[j]? = some (.p (isDic kvs))) (B : Blk G k X L own scope tg ifs elt (kvs.map (·.1)) (fun key => isD (keyD key)) is Ps' f' y') (hlen : kvs.length ≤ 100000) {σ : L2.St} {H : Hp} {Q : VK} (h : tP G.T L (isD (.list (((kvs.map (·.1)).filter f').map y'))) σ H Q) :
    tLc (iKeys (tVar j)) (gAll (kvs.map (·.1)) fun x => tG (isD (keyD x)) is (Ps' x)) (ttAll (kvs.map (·.1)) fun x => tPT G.T (blkL L own is (Ps' x)) (f' x)) (teAll (kvs.map (·.1)) f' fun x => tP G.T (blkL L own is (Ps' x)) (isD (y' x))) (own.map (·.2)) σ H Q ∨ tLockE (tLc (iKeys (tVar j)) (gAll (kvs.map (·.1)) fun x => tG (isD (keyD x)) is (Ps' x)) (ttAll (kvs.map (·.1)) fun x => tPT G.T (blkL L own is (Ps' x)) (f' x)) (teAll (kvs.map (·.1)) f' fun x => tP G.T (blkL L own is (Ps' x)) (isD (y' x))) (own.map (·.2))) σ H Q := by
  have core : ∀ (F H : Hp) (σ : L2.St) (d : Addr) (o : Obj) (ks : List (Key × V)) (Q : VK), Sub F H → Tabs G.T F → EnvOk F H σ L → σ[j]? = some (some (.ref d)) → F d = some (.frz o (.dK ks)) → ks.map (·.1) = kvs.map (·.1) → (∀ v F' H', Step G.T F H F' H' → Da F' v (.list (((kvs.map (·.1)).filter f').map y')) → Q v H') →
      tLc (iKeys (tVar j)) (gAll (kvs.map (·.1)) fun x => tG (isD (keyD x)) is (Ps' x)) (ttAll (kvs.map (·.1)) fun x => tPT G.T (blkL L own is (Ps' x)) (f' x)) (teAll (kvs.map (·.1)) f' fun x => tP G.T (blkL L own is (Ps' x)) (isD (y' x))) (own.map (·.2)) σ H Q := by
    intro F H σ d o ks Q s t E hσ hd hk q
    refine ⟨.ref d, hσ, d, o, rfl, .inl ⟨ks, s _ _ hd, fun D hD => ?_⟩⟩
    have hkl : ks.length = (kvs.map (·.1)).length := by rw [← hk, List.length_map]
    refine lc_keys (fun i H' => LcAt G F H σ L D ((((kvs.map (·.1)).take i).filter f').map y') H') (by simpa using lc_begin (ys := []) E (Step.refl t s) E hD hD) (fun i H' _ ⟨F', vs', st', _⟩ => st'.sub _ _ (st'.str _ _ hd fun _ z => nomatch z)) ?_ ?_
    · rintro i key H' hu ⟨F', vs', st', E', fD, hD', dv⟩
      rw [hk] at hu
      exact lc_turn B.inn hu (by rw [List.length_map]; exact hlen) E hD st' E' fD hD' dv (kV_da key) fun _ h => h
    · intro H' h
      rw [hkl, List.take_length] at h
      exact lc_done hD h fun v F' H' st' p => q v F' H' st' p
  obtain ⟨F, s, t, E, q⟩ := h
  obtain ⟨v, hσ, d, ks, rfl, rd, dic⟩ := E.var hj
  rcases rd with hd | ⟨o, hd⟩
  · refine .inr ⟨d, _, s _ _ hd, trivial, fun od => ?_⟩
    obtain ⟨k1, t1, s1⟩ := Step.lock (od := od) t s hd
    refine core (upd F d (.frz od (.dK ks))) (upd H d (.frz od (.dK ks))) σ d od ks _ s1 t1 ?_ hσ upd_same dic.1 fun v F' H' st p => ?_
    · refine ⟨E.len, fun i sl hi => ?_, E.dist⟩
      have q0 := E.at_ i sl hi
      cases sl with
      | no => trivial
      | p P => obtain ⟨v, e1, e2⟩ := q0; exact ⟨v, e1, P.st k1 e2⟩
      | acc ds =>
        obtain ⟨ad, us, e1, e2, e3, e4⟩ := q0
        have hne : ad ≠ d := fun z => by rw [z, hd] at e2; cases e2
        exact ⟨ad, us, e1, by rw [upd_ne hne]; exact e2, by rw [upd_ne hne]; exact e3, keep_ds k1 _ _ e4⟩
      | accd ds =>
        obtain ⟨ad, us, e1, e2, e3, e4⟩ := q0
        have hne : ad ≠ d := fun z => by rw [z, hd] at e2; cases e2
        exact ⟨ad, us, e1, by rw [upd_ne hne]; exact e2, by rw [upd_ne hne]; exact e3, e4.keep k1⟩
    · obtain ⟨h1, h2, k2, st2⟩ := Step.unlocked s hd st
      exact ⟨h2, q v _ _ st2 (keep_d k2 _ _ p)⟩
  · exact .inl (core F H σ d o ks Q s t E hσ hd dic.1 q)
theorem js_lcK (i : Nat) {z : Str} {pz : Pos} (j : Nat) {kvs : List (Key × PyData)} {x : Str} {px : Pos} (hj : L[j]? = some (.p (isDic kvs))) (B : Blk G k X L own scope tg (ifs) elt (kvs.map (·.1)) (fun key => isD (keyD key)) is Ps' f' y') (hlen : kvs.length ≤ 100000) (hN : X.N[j]? = some x := by rfl) (hz : X.N[i]? = some z := by rfl) (hzl : X.env.scope.names.lookup z = some .local := by rfl)
    (hv : Vis X.env.scope x := by first | exact Or.inl rfl | exact Or.inr (Or.inl rfl) | exact Or.inr (Or.inr rfl)) (ok : blkC X.N X.env.scope scope own = true := by first | exact okc (by decide +kernel) | exact okb (by decide +kernel))  (hs : ∀ v, foldedSetIterable (.Name x px) X.env v = pure v := by intro _; rfl)
    (hdb : (x == ("__debug__" : Str)) = false := by decide) (hcd : (x == ("__classdict__" : Str)) = false := by decide) (hsw : swapsWith (.ListComp elt [⟨tg, .Name x px, ifs, 0⟩] scope pos) (some (.Name z pz)) spos.line X.env = pure true := by exact sw_true rfl rfl (by decide +kernel) (by decide +kernel)) :
    JS G k X L (.Assign [.Name z pz] (.ListComp elt [⟨tg, .Name x px, ifs, 0⟩] scope pos) spos) R (some (L.set i (.p (isD (.list (((kvs.map (·.1)).filter f').map y')))))) := fun C => by
  have ps := ps_setLc (spos := spos) (pos := pos) (py := pz) C.calm C.nd hz hzl hsw (pi_keys (pe_var (pos := px) hN hv hdb hcd)) (blkOk_by ok) (fun s H Ca cl fp => pg_all fun x hx => B.tg x hx s H Ca cl fp (C.blk s H scope _ fp)) (fun s H Ca cl fp => pts_all fun x hx => B.test x hx s H Ca cl fp (C.blk s H scope _ fp))
    (fun s H Ca cl fp => pe_all fun x hx hf => B.elt x hx hf s H Ca cl fp (C.blk s H scope _ fp)) hs
  refine PS.imp (t := fun D σ H => tAsg _ _ D σ H ∨ tLock (tAsg _ _) D σ H) ⟨fun pins s σ H D I h => h.elim (ps.run pins s σ H D I) ((ps_lock ps).run pins s σ H D I)⟩ fun D σ H ⟨F0, H0, F, s0, st, E, O, r, n⟩ => ?_
  rcases lcK_imp j hj B hlen (tS_eval (D := D) st E fun v F1 H1 st1 k1 E1 p => n _ rfl _ F1 H1 st1 k1 (E1.set p) O.set) with h | ⟨d, u, h1, h2, h3⟩
  · exact .inl h
  · exact .inr ⟨d, u, h1, h2, fun od => h3 od⟩
end
end K27
set_option maxHeartbeats 1000000
namespace K27
open PySem L2 LamX
open PySem.W (AllAlike Sortable dataLe)
local macro_rules | `(tactic| walk_at "norm") => `(tactic| refine JSs.norm (by dsimp only [setsL, wipeL, initL, List.set, List.map, List.append, List.replicate, List.length, HAppend.hAppend, Append.append]) ?_)
/-- a drawn definition -/
structure Dfn where
  name : Str
  fn : Fnc
  col : Option Str
  num : Option Int
  part : List Str
  order : List (Str × Bool)
  frm : Frm
def Dfn.df (d : Dfn) : Df := ⟨d.name, d.fn.w, d.col, d.num, d.part, d.order, d.frm.D⟩
def ColNum (rows : Rows) (i : Nat) : Prop := ∀ id ∈ ids rows, numB (cell rows id i) = true
structure DfnOk (cols : List (Str × Str)) (d : Dfn) : Prop where
  f : Fits2 cols d.df
  tile : d.fn = .tile → ∃ n, d.num = some n ∧ 1 ≤ n ∧ n ≤ 100
  lag : d.fn = .lag ∨ d.fn = .lead → (∃ n, d.num = some n) ∧ ∃ c, d.col = some c
  num : d.fn.byPlace = false → ∀ n, d.num = some n → 1 ≤ n
  lo : d.frm.lo ≠ .ende
  hi : d.frm.hi ≠ .start
  dist : d.frm.unit = .range → (d.frm.lo.dist || d.frm.hi.dist) = true → ∃ o, d.order = [o]
structure ICmp where
  cols : List (Str × Str)
  d : Dfn
  rows : Rows
structure ICmp.Ok (i : ICmp) : Prop where
  d : DfnOk i.cols i.d
  r : RowsOk i.rows i.cols.length
  sum : i.d.fn = .sum → ∀ c, i.d.col = some c → ColNum i.rows (ix i.cols c)
  dist : i.d.frm.unit = .range → (i.d.frm.lo.dist || i.d.frm.hi.dist) = true → ∀ o ∈ i.d.order, ColNum i.rows (ix i.cols o.1)
/-- the rows of one's partition -/
def mSame (cell : Int → Nat → PyData) (nums : List Nat) (o one : Int) : Bool := PyData.eqv (.list (nums.map fun n => cell o n)) (.list (nums.map fun n => cell one n))
def mIds (cell : Int → Nat → PyData) (nums : List Nat) (all : List Int) (one : Int) : List Int := all.filter fun o => mSame cell nums o one
def mGiven (cell : Int → Nat → PyData) (col : Option Nat) (inside : List Int) : List PyData :=
  match col with
  | none => List.replicate inside.length .none
  | some c => inside.map fun o => cell o c
def mValue (cell : Int → Nat → PyData) (d : Dfn) (keys : List (Nat × Bool)) (col : Option Nat) (order : List Int) (one : Int) : PyData :=
  if d.fn.byPlace = true then mOfPlace d.fn (d.num.getD 0) cell keys order one (col.getD 0)
  else mOfValues d.fn d.num (mGiven cell col (order.filter fun o => mInFrame cell keys order d.frm one o))
def mVal (cols : List (Str × Str)) (d : Dfn) (rows : Rows) (one : Int) : PyData :=
  mValue (cell rows) d (mKeys cols d.df) (mCol cols d.df) (mOrdered (cell rows) (mKeys cols d.df) (mIds (cell rows) (mNums cols d.df) (ids rows) one)) one
def valsK (cols : List (Str × Str)) (d : Dfn) (rows : Rows) : List (Key × PyData) := (ids rows).map fun one => (.inl one, mVal cols d rows one)
theorem JS.as {G : Gc} {k : Nat} {X : Cx} {L L1 L2 : List Slot} {st : Stmt} {R : SP} (h : JS G k X L st R (some L1)) (e : L1 = L2) : JS G k X L st R (some L2) := e ▸ h
def dropsL (L : List Slot) : List Nat → List Slot
  | [] => L
  | i :: is => dropsL (L.set i .no) is
theorem ent_drops : ∀ (is : List Nat) (L : List Slot), Ent L (dropsL L is)
  | [], L => Ent.refl L
  | i :: is, L => (ent_drop i).trans (ent_drops is _)
theorem rowsK_keys (rows : Rows) : (rowsK rows).map (·.1) = (ids rows).map Sum.inl := by simp [rowsK, ids]
theorem keys_filter (f : Int → Bool) (f' : Key → Bool) (h : ∀ n, f' (.inl n) = f n) : ∀ l : List Int, ((l.map (Sum.inl : Int → Key)).filter f').map keyD = (l.filter f).map PyData.int
  | [] => rfl
  | n :: l => by
    simp only [List.map_cons, List.filter_cons, h]
    cases f n with
    | true => simp [keys_filter f f' h l, keyD]
    | false => simpa using keys_filter f f' h l
theorem ordered_perm (cell : Int → Nat → PyData) (keys : List (Nat × Bool)) (l : List Int) : (mOrdered cell keys l).Perm l := List.mergeSort_perm _ _
theorem cell_eqv {a b : PyData} (ha : cellB a = true) (hb : cellB b = true) : PyData.eqv a b = true ↔ a = b := by
  cases a <;> first | (cases ha; done) | (cases b <;> first | (cases hb; done) | simp [PyData.eqv])
theorem cells_eqv : ∀ {as bs : List PyData}, as.all cellB = true → bs.all cellB = true → (PyData.eqvAll as bs = true ↔ as = bs)
  | [], [], _, _ => by simp [PyData.eqvAll]
  | [], _ :: _, _, _ => by simp [PyData.eqvAll]
  | _ :: _, [], _, _ => by simp [PyData.eqvAll]
  | a :: as, b :: bs, ha, hb => by
    simp only [List.all_cons, Bool.and_eq_true] at ha hb
    rw [PyData.eqvAll, Bool.and_eq_true, cell_eqv ha.1 hb.1, cells_eqv ha.2 hb.2]
    simp
theorem lists_eqv {as bs : List PyData} (ha : as.all cellB = true) (hb : bs.all cellB = true) : PyData.eqv (.list as) (.list bs) = true ↔ as = bs := by
  rw [PyData.eqv, cells_eqv ha hb]
theorem tups_eqv {as bs : List PyData} (ha : as.all cellB = true) (hb : bs.all cellB = true) : PyData.eqv (.tuple as) (.tuple bs) = true ↔ as = bs := by
  rw [PyData.eqv, cells_eqv ha hb]
theorem ix_lt {cols : List (Str × Str)} {n : Str} (h : has cols n = true) : ix cols n < cols.length := by
  obtain ⟨z, e, _⟩ := dpos_at h
  have := (List.getElem?_eq_some_iff.mp e).1
  simpa [ix] using this
section
variable {G : Gc}
abbrev spComputed (G : Gc) : Sp := SpF G.T (fun i : ICmp => i.Ok) (fun i => [isD i.d.df.D, isD (.tuple (i.cols.map colD)), isDic (rowsK i.rows)]) (fun i => isDic (valsK i.cols i.d i.rows))
theorem sc39 : FnScope ["_law_definition_here", "_law_columns_here", "_law_rows_here", "_law_names", "_law_name", "_law_kind", "_law_numbers", "_law_keys", "_law_down", "_law_column", "_law_found", "_law_one", "_law_ids", "_law_other", "_law_at", "_law_order", "_law_inside", "_law_given"] ["_law_definition_here", "_law_columns_here", "_law_rows_here"] (defScope (top 39)) := ⟨rfl, rfl, rfl, by decide +kernel, rfl, by decide +kernel, by decide +kernel⟩
theorem ok39 (B : Bt G) (hO : Fn G "_law_ordered" 6 (spOrdered G)) (hP : Fn G "_law_of_place" 3 (spOfPlace G)) (hF : Fn G "_law_in_frame" 4 (spInFrame G)) (hV : Fn G "_law_of_values" 3 (spOfValues G)) {f : Addr} {fd : FuncData} (F : Fun G.K "_law_computed" "_law_computed" (top 39) f fd) :
    FnOk G.P G.w G.K G.mg G.base CX0 7 f fd ["_law_definition_here", "_law_columns_here", "_law_rows_here"] (spComputed G) := by
  refine fn_ok (k := 6) F sc39 (fun _ => rfl) ?_
  rintro ⟨cols, d, rows⟩ hok cdv A outer s H E
  obtain ⟨nm, fn, col, num, part, order, frm⟩ := d
  obtain ⟨hd, r, hsum, hdist⟩ := hok
  obtain ⟨hfit, htile, hlag, hnum, hlo, hhi, hdo⟩ := id hd
  obtain ⟨⟨lc, lp, lo, hp, ho, hc⟩, p3, o3⟩ := id hfit
  dsimp only [Dfn.df] at *
  refine js_cons (js_asg 3 (je_lcT0 (xs := cols) (d := colD) (own := [("_law_name", 4), ("_law_kind", 5)]) (is := [4, 5]) (Ps := fun c => [isS c.1, isS c.2]) (y := fun c => .str c.1) (je_var 1)
    (blk0 (by decide) (fun x hx s H C cl fp => jg_tupD (jgs_name 4 (jgs_name 5 jgs_nil))) fun x hx s H C cl fp => je_var 4) (Nat.le_trans lc (by decide)))) ?_
  walk_at "norm"
  refine js_cons (js_asg 6 (je_lcT0 (xs := part) (d := PyData.str) (own := [("_law_name", 4)]) (is := [4]) (Ps := fun x => [isS x]) (y := fun x => .int (ix cols x : Nat)) (je_ixT (atI_nat (j := 4) rfl) (je_var 0) je_int)
      (blk0 (by decide) (fun x hx s H C cl fp => jg_name 4) fun x hx s H C cl fp => je_index rfl (flat_strs cols) (hp x hx) (je_var 3) (je_var 4)) (by omega))) ?_
  walk_at "norm"
  refine js_cons (js_asg 7 (je_lcT0 (xs := order) (d := ordD) (own := [("_law_name", 4), ("_law_down", 8)]) (is := [4, 8]) (Ps := fun o => [isS o.1, isB o.2]) (y := fun o => .tuple [.int (ix cols o.1 : Nat), .bool o.2]) (je_ixT (atI_nat (j := 5) rfl) (je_var 0) je_int)
    (blk0 (by decide) (fun x hx s H C cl fp => jg_tupD (jgs_name 4 (jgs_name 8 jgs_nil))) fun x hx s H C cl fp => je_tup (ds := [.int (ix cols x.1 : Nat), .bool x.2]) (ja_cons (je_index rfl (flat_strs cols) (ho x hx) (je_var 3) (je_var 4)) (ja_cons (je_var 8) ja_nil))) (by omega))) ?_
  walk_at "norm"
  refine js_cons (js_asg 9 (P := isD .none) je_none) ?_
  walk_at "norm"
  have hix : ∀ c, col = some c → ix cols c < cols.length := fun c h => ix_lt (hc c h)
  have hkl : (order.map fun o => (ix cols o.1, o.2)).length ≤ 100 := by rw [List.length_map]; omega
  have hkc : ∀ c ∈ order.map fun o => (ix cols o.1, o.2), c.1 < cols.length := fun c h => by
    obtain ⟨o, h1, rfl⟩ := List.mem_map.mp h
    exact ix_lt (ho o h1)
  have hnc : ∀ n ∈ part.map (ix cols), n < cols.length := fun n h => by
    obtain ⟨o, h1, rfl⟩ := List.mem_map.mp h
    exact ix_lt (hp o h1)
  have hrl : (ids rows).length ≤ 100 := by unfold ids; rw [List.length_map]; exact r.len
  let Inv : Nat → List Slot := fun i => [.p (isD (Df.mk nm fn.w col num part order frm.D).D), .p (isD (.tuple (cols.map colD))), .p (isDic (rowsK rows)), .p (isD (.list (cols.map fun c => .str c.1))), .no, .no, .p (isD (.list (part.map fun x => .int (ix cols x : Nat)))), .p (isD (.list (order.map fun o => .tuple [.int (ix cols o.1 : Nat), .bool o.2]))), .no, .p (isD (oN (col.map (ix cols)))), .accd ((valsK cols ⟨nm, fn, col, num, part, order, frm⟩ rows).take i), .no, .no, .no, .no, .no, .no, .no]
  refine js_cons (L1 := [.p (isD (Df.mk nm fn.w col num part order frm.D).D), .p (isD (.tuple (cols.map colD))), .p (isDic (rowsK rows)), .p (isD (.list (cols.map fun c => .str c.1))), .no, .no, .p (isD (.list (part.map fun x => .int (ix cols x : Nat)))), .p (isD (.list (order.map fun o => .tuple [.int (ix cols o.1 : Nat), .bool o.2]))), .no, .p (isD (oN (col.map (ix cols)))), .no, .no, .no, .no, .no, .no, .no, .no]) ?_ ?_
  · cases col with
    | none =>
      exact js_if (JT.is (d' := false) (jt_notN (d := .none) (je_ixT (atI_nat (j := 2) rfl) (je_var 0) je_int)) rfl) no_tf fun _ => js_nil
    | some c =>
      exact js_if (JT.is (d' := true) (jt_notN (d := .str c) (je_ixT (atI_nat (j := 2) rfl) (je_var 0) je_int)) rfl) (fun _ => js_cons (js_asg 9 (P := isD (oN (some (ix cols c)))) (je_index (d := .str c) rfl (flat_strs cols) (hc c rfl) (je_var 3) (je_ixT (d := .str c) (atI_nat (j := 2) rfl) (je_var 0) je_int))) js_nil) no_ft
  refine js_cons (js_newDic 10) ?_
  walk_at "norm"
  refine js_cons (L1 := Inv (rowsK rows).length) (js_forK 2 (kvs := rowsK rows) (is := [11]) (Ps := fun key => [isD (keyD key)]) Inv rfl (Ent.refl _) ⟨fun x hx => jg_name 11, fun i key hi => ?_⟩) ?_
  · rw [rowsK_keys, List.getElem?_map] at hi
    cases hone : (ids rows)[i]? with
    | none => rw [hone] at hi; cases hi
    | some one =>
      rw [hone] at hi
      cases hi
      have h1 : one ∈ ids rows := List.mem_of_getElem? hone
      let lst := mIds (cell rows) (part.map (ix cols)) (ids rows) one
      let keys : List (Nat × Bool) := order.map fun o => (ix cols o.1, o.2)
      let ord := mOrdered (cell rows) keys lst
      have hlst : ∀ x ∈ lst, x ∈ ids rows := fun x hx => (List.mem_filter.mp hx).1
      have hone' : one ∈ lst := List.mem_filter.mpr ⟨h1, by
        unfold mSame
        exact (lists_eqv (all_cells r h1 hnc) (all_cells r h1 hnc)).mpr rfl⟩
      have hord : ∀ x, x ∈ ord ↔ x ∈ lst := fun x => (ordered_perm _ _ _).mem_iff
      have hlen : lst.length ≤ 100 := Nat.le_trans (List.length_filter_le _ _) hrl
      have hol : ord.length ≤ 100 := by rw [(ordered_perm _ _ _).length_eq]; exact hlen
      have hord' : ∀ x ∈ ord, x ∈ ids rows := fun x hx => hlst x ((hord x).mp hx)
      have ek : (order.map fun o => PyData.tuple [.int (ix cols o.1 : Nat), .bool o.2]) = keysD keys := by simp [keysD, keys]
      have hval : mVal cols ⟨nm, fn, col, num, part, order, frm⟩ rows one = mValue (cell rows) ⟨nm, fn, col, num, part, order, frm⟩ keys (col.map (ix cols)) ord one := rfl
      have htake : (valsK cols ⟨nm, fn, col, num, part, order, frm⟩ rows).take (i + 1) = (valsK cols ⟨nm, fn, col, num, part, order, frm⟩ rows).take i ++ [(.inl one, mVal cols ⟨nm, fn, col, num, part, order, frm⟩ rows one)] := by
        rw [List.take_add_one]
        unfold valsK
        rw [List.getElem?_map, hone]
        rfl
      have hnew : (Sum.inl one : Key) ∉ ((valsK cols ⟨nm, fn, col, num, part, order, frm⟩ rows).take i).map (·.1) := fun z => by
        have e : ((valsK cols ⟨nm, fn, col, num, part, order, frm⟩ rows).take i).map (·.1) = ((ids rows).take i).map Sum.inl := by
          unfold valsK
          rw [← List.map_take, List.map_map]
          rfl
        rw [e] at z
        obtain ⟨o, ho1, ho2⟩ := List.mem_map.mp z
        cases ho2
        obtain ⟨j, hj, ej⟩ := List.getElem_of_mem ho1
        rw [List.getElem_take] at ej
        rw [List.length_take] at hj
        obtain ⟨hi1, hi2⟩ := List.getElem?_eq_some_iff.mp hone
        have := (List.getElem_inj r.nd).mp (ej.trans hi2.symm)
        omega
      have hvl : ((valsK cols ⟨nm, fn, col, num, part, order, frm⟩ rows).take i).length ≤ 100000 := by
        rw [List.length_take]
        unfold valsK
        rw [List.length_map]
        omega
      have lc1 : ∀ {X : Cx} {L : List Slot} {j : Nat} {e : Expr} (x : Int), True := fun _ => trivial
      refine ⟨Inv (i + 1), ?_, Ent.refl _⟩
      show JSs _ _ _ [_, _, _, _, _, _, _, _, _, _, .accd ((valsK cols ⟨nm, fn, col, num, part, order, frm⟩ rows).take i), .p (isI one), _, _, _, _, _, _] _ _ _
      have elst : (PyData.list ((((rowsK rows).map (·.1)).filter fun key => match key with | .inl o => mSame (cell rows) (part.map (ix cols)) o one | .inr _ => false).map keyD)) = intsD lst := by
        rw [rowsK_keys, keys_filter (fun o => mSame (cell rows) (part.map (ix cols)) o one) _ (fun _ => rfl)]; rfl
      refine js_cons (js_lcK (own := [("_law_other", 13)]) (is := [13]) 12 2 (kvs := rowsK rows) (Ps' := fun key => [isD (keyD key)]) (y' := keyD) (f' := fun key => match key with | .inl o => mSame (cell rows) (part.map (ix cols)) o one | .inr _ => false) rfl
        (blk1 (by decide) (fun x hx s H C cl fp => jg_name 13) (fun x hx s H C cl fp => by
          rw [rowsK_keys] at hx
          obtain ⟨o, ho1, rfl⟩ := List.mem_map.mp hx
          refine JT.is (jt_eq (d := .list (part.map fun x => cell rows o (ix cols x))) (e := .list (part.map fun x => cell rows one (ix cols x))) (cells_shapedL (all_cells r ho1 fun x hx => ix_lt (hp x hx))) (cells_shapedL (all_cells r h1 fun x hx => ix_lt (hp x hx)))
            (je_lcL0 (xs := part) (d := fun x => .int (ix cols x : Nat)) (own := [("_law_at", 14)]) (is := [14]) (Ps := fun x => [isI (ix cols x : Nat)]) (y := fun x => cell rows o (ix cols x)) (je_var 6) (blk0 (by decide) (fun x hx s H C cl fp => jg_name 14) fun x hx s H C cl fp => je_cell r ho1 (ix_lt (hp x hx)) (je_var 2) (je_var 13) (je_var 14)) (by omega))
            (je_lcL0 (xs := part) (d := fun x => .int (ix cols x : Nat)) (own := [("_law_at", 14)]) (is := [14]) (Ps := fun x => [isI (ix cols x : Nat)]) (y := fun x => cell rows one (ix cols x)) (je_var 6) (blk0 (by decide) (fun x hx s H C cl fp => jg_name 14) fun x hx s H C cl fp => je_cell r h1 (ix_lt (hp x hx)) (je_var 2) (je_var 11) (je_var 14)) (by omega))) ?_
          simp [mSame, Function.comp_def]) fun x hx _ s H C cl fp => je_var 13) (by rw [rowsK, List.length_map]; have := r.len; omega)) ?_
      rw [elst]
      walk_at "norm"
      refine js_cons (js_asg 15 (P := isD (intsD ord)) (je_call hO ⟨rows, cols.length, keys, lst⟩ ⟨r, hkl, hkc, hlen, hlst⟩ (ja_cons (je_var 2) (ja_cons ((je_var 7).is (by rw [ek])) (ja_cons (je_var 12) ja_nil))))) ?_
      walk_at "norm"
      have hin : (([.str "number", .str "rank", .str "dense", .str "tile", .str "lag", .str "lead"] : List PyData).any fun z => PyData.eqv z (.str fn.w)) = fn.byPlace := by cases fn <;> decide +kernel
      refine js_cons (js_if (t := fn.byPlace) (jt_inT (d := .str fn.w) rfl rfl hin (je_ixT (atI_nat (j := 1) rfl) (je_var 0) je_int) (je_tup (ds := [.str "number", .str "rank", .str "dense", .str "tile", .str "lag", .str "lead"]) (ja_cons je_str (ja_cons je_str (ja_cons je_str (ja_cons je_str (ja_cons je_str (ja_cons je_str ja_nil)))))))) (fun hb => ?_) (fun hb => ?_)) js_nil
      · refine JSs.out (js_cons (js_put 10 (key := .inl one) (d := mVal cols ⟨nm, fn, col, num, part, order, frm⟩ rows one) rfl hnew hvl rfl (je_var 11) (JE.is (je_call hP ⟨fn, num, rows, cols.length, keys, ord, one, col.map (ix cols)⟩ ⟨hb, r, hkl, hkc, hol, hord', (hord one).mpr hone', htile, fun h => ?_⟩
          (ja_cons (je_ixT (atI_nat (j := 1) rfl) (je_var 0) je_int) (ja_cons (je_ixT (atI_nat (j := 3) rfl) (je_var 0) je_int) (ja_cons (je_var 2) (ja_cons ((je_var 7).is (by rw [ek])) (ja_cons (je_var 15) (ja_cons (je_var 11) (ja_cons (je_var 9) ja_nil)))))))) (by rw [hval]; unfold mValue; rw [if_pos hb]))) js_nil) ?_
        · obtain ⟨q1, c, rfl⟩ := hlag h
          exact ⟨q1, ix cols c, rfl, ix_lt (hc c rfl)⟩
        · refine (ent_drops [11, 12, 15] _).trans ?_
          simp only [Inv, htake]
          exact Ent.refl _
      · let ins := ord.filter fun o => mInFrame (cell rows) keys ord frm one o
        have hil : ins.length ≤ 100 := Nat.le_trans (List.length_filter_le _ _) hol
        have hins : ∀ x ∈ ins, x ∈ ids rows := fun x hx => hord' x (List.mem_filter.mp hx).1
        refine js_cons (js_lcL (P := fun n => isI n) 16 (xs := ord) (own := [("_law_other", 13)]) (is := [13]) (Ps := fun n => [isI n]) (y := PyData.int) (f := fun o => mInFrame (cell rows) keys ord frm one o) (je_seqL (d := PyData.int) (je_var 15) rfl)
          (blk1 (by decide) (fun x hx s H C cl fp => jg_name 13) (fun x hx s H C cl fp => jt_val (je_call hF ⟨rows, cols.length, keys, ord, frm, one, x⟩ ⟨r, hkl, hkc, hol, hord', (hord one).mpr hone', hx, hlo, hhi, fun hu hdd => ?_⟩ (ja_cons (je_var 2) (ja_cons ((je_var 7).is (by rw [ek])) (ja_cons (je_var 15) (ja_cons (je_ixT (d := frm.D) (atI_nat (j := 6) rfl) (je_var 0) je_int) (ja_cons (je_var 11) (ja_cons (je_var 13) ja_nil)))))))) fun x hx _ s H C cl fp => je_var 13) (by omega)) ?_
        · have hdd' : (frm.lo.dist || frm.hi.dist) = true := by rcases hdd with h | h <;> simp [h]
          obtain ⟨o, rfl⟩ := hdo hu hdd'
          exact ⟨ix cols o.1, o.2, rfl, hdist hu hdd' o (List.mem_singleton.mpr rfl)⟩
        walk_at "norm"
        refine js_cons (js_asg 17 (P := isD (.list (List.replicate ins.length .none))) (JE.is (je_rep (ds := [.none]) (n := ins.length) (by simp only [List.length_cons, List.length_nil]; omega) (by omega) (je_lst (ds := [.none]) (ja_cons je_none ja_nil)) (JE.is (je_lenL B.len (je_var 16)) (by rw [List.length_map]))) (by congr 1; exact List.flatten_replicate_singleton))) ?_
        walk_at "norm"
        have hfin : mVal cols ⟨nm, fn, col, num, part, order, frm⟩ rows one = mOfValues fn num (mGiven (cell rows) (col.map (ix cols)) ins) := by
          rw [hval]; unfold mValue; rw [if_neg (by rw [hb]; exact Bool.false_ne_true)]
        let Lg : List Slot := [.p (isD (Df.mk nm fn.w col num part order frm.D).D), .p (isD (.tuple (cols.map colD))), .p (isDic (rowsK rows)), .p (isD (.list (cols.map fun c => .str c.1))), .no, .no, .p (isD (.list (part.map fun x => .int (ix cols x : Nat)))), .p (isD (.list (order.map fun o => .tuple [.int (ix cols o.1 : Nat), .bool o.2]))), .no, .p (isD (oN (col.map (ix cols)))), .accd ((valsK cols ⟨nm, fn, col, num, part, order, frm⟩ rows).take i), .p (isI one), .p (isD (intsD lst)), .no, .no, .p (isD (intsD ord)), .p (isD (intsD ins)), .p (isD (.list (mGiven (cell rows) (col.map (ix cols)) ins)))]
        refine js_cons (L1 := Lg) ?_ ?_
        · cases col with
          | none => exact js_if (JT.is (d' := false) (jt_notN (d := .none) (je_var 9)) rfl) no_tf fun _ => js_nil
          | some c => exact js_if (JT.is (d' := true) (jt_notN (d := .int (ix cols c : Nat)) (je_var 9)) rfl) (fun _ => js_cons (JS.as (js_lcL (P := fun n => isI n) (f := fun _ => true) 17 (xs := ins) (own := [("_law_other", 13)]) (is := [13]) (Ps := fun n => [isI n]) (y := fun o => cell rows o (ix cols c)) (je_seqL (d := PyData.int) (je_var 16) rfl)
              (blk0 (by decide) (fun x hx s H C cl fp => jg_name 13) fun x hx s H C cl fp => je_cell r (hins x hx) (ix_lt (hc c rfl)) (je_var 2) (je_var 13) (je_var 9)) (by omega)) (by rw [List.filter_eq_self.mpr fun _ _ => rfl]; rfl)) js_nil) no_ft
        · have hgl : (mGiven (cell rows) (col.map (ix cols)) ins).length ≤ 100 := by
            cases col with
            | none => simp only [mGiven, Option.map_none, List.length_replicate]; exact hil
            | some c => simp only [mGiven, Option.map_some, List.length_map]; exact hil
          refine JSs.out (js_cons (js_put 10 (key := .inl one) (d := mVal cols ⟨nm, fn, col, num, part, order, frm⟩ rows one) rfl hnew hvl rfl (je_var 11) (JE.is (je_call hV ⟨fn, num, mGiven (cell rows) (col.map (ix cols)) ins⟩ ⟨hb, hnum hb, hgl, fun x hx => ?_, fun hs x hx => ?_⟩
            (ja_cons (je_ixT (atI_nat (j := 1) rfl) (je_var 0) je_int) (ja_cons (je_ixT (atI_nat (j := 3) rfl) (je_var 0) je_int) (ja_cons (je_var 17) ja_nil)))) (by rw [hfin]))) js_nil) ?_
          · cases col with
            | none => rw [(List.mem_replicate.mp hx).2]; rfl
            | some c =>
              obtain ⟨o, ho1, rfl⟩ := List.mem_map.mp hx
              exact rows_cell r (hins o ho1) (ix_lt (hc c rfl))
          · cases col with
            | none => exact .inl (List.mem_replicate.mp hx).2
            | some c =>
              obtain ⟨o, ho1, rfl⟩ := List.mem_map.mp hx
              have := hsum hs c rfl o (hins o ho1)
              cases hq : cell rows o (ix cols c) <;> rw [hq] at this <;> first | exact .inl rfl | exact .inr ⟨_, rfl⟩ | cases this
          · refine (ent_drops [11, 12, 15, 16, 17] _).trans ?_
            simp only [Inv, htake]
            exact Ent.refl _
  · have e : (rowsK rows).length = (valsK cols ⟨nm, fn, col, num, part, order, frm⟩ rows).length := by simp [rowsK, valsK, ids]
    refine JSs.norm (L' := [.p (isD (Df.mk nm fn.w col num part order frm.D).D), .p (isD (.tuple (cols.map colD))), .p (isDic (rowsK rows)), .p (isD (.list (cols.map fun c => .str c.1))), .no, .no, .p (isD (.list (part.map fun x => .int (ix cols x : Nat)))), .p (isD (.list (order.map fun o => .tuple [.int (ix cols o.1 : Nat), .bool o.2]))), .no, .p (isD (oN (col.map (ix cols)))), .accd (valsK cols ⟨nm, fn, col, num, part, order, frm⟩ rows), .no, .no, .no, .no, .no, .no, .no]) (by show Inv _ = _; simp only [Inv]; rw [e, List.take_length]) ?_
    refine js_freezeD 10 rfl ?_
    walk_at "norm"
    exact js_rt (je_var 10)
end
end K27
set_option maxHeartbeats 2000000
/-! K27, sixteenth part: what may be one of several data; the box of draws. -/
namespace K27
open PySem L2 LamX PyProof.Rows
/-- one of these data -/
def isX (S : PyData → Prop) : SP := ⟨fun v F => ∃ d, S d ∧ Da F v d, fun h ⟨d, s, q⟩ => ⟨d, s, keep_d h _ _ q⟩⟩
inductive All2 : List (PyData → Prop) → List PyData → Prop
  | nil : All2 [] []
  | cons {S : PyData → Prop} {d : PyData} {Ss : List (PyData → Prop)} {ds : List PyData} : S d → All2 Ss ds → All2 (S :: Ss) (d :: ds)
theorem allP_X {F : Hp} : ∀ {Ss : List (PyData → Prop)} {vs : List V}, AllP (Ss.map isX) vs F → ∃ ds, All2 Ss ds ∧ Das F vs ds
  | [], [], _ => ⟨[], .nil, .nil⟩
  | S :: Ss, v :: vs, h => let ⟨d, s, q⟩ := h.1; let ⟨ds, a, q2⟩ := allP_X h.2; ⟨d :: ds, .cons s a, .cons q q2⟩
  | [], _ :: _, h => h.elim
  | _ :: _, [], h => h.elim
theorem all2_length : ∀ {Ss : List (PyData → Prop)} {ds : List PyData}, All2 Ss ds → ds.length = Ss.length
  | _, _, .nil => rfl
  | _, _, .cons _ t => congrArg (· + 1) (all2_length t)
section
variable {G : Gc} {k : Nat} {X : Cx} {L : List Slot} {a b c e : Expr} {es : List Expr} {pos : Pos} {R : SP} {N : Option (List Slot)} {sts : List Stmt} {S S1 S2 : PyData → Prop}
theorem JE.x {d : PyData} (h : JE G k X L e (isD d)) (s : S d) : JE G k X L e (isX S) := h.to fun v F p => ⟨d, s, p⟩
theorem JE.xx (h : JE G k X L e (isX S1)) (s : ∀ d, S1 d → S d) : JE G k X L e (isX S) := h.to fun v F ⟨d, q, p⟩ => ⟨d, s d q, p⟩
/-- at a place: one by one -/
theorem js_ex (i : Nat) {S : PyData → Prop} (h : ∀ d, S d → JSs G k X (L.set i (.p (isD d))) sts R N) (hi : slot L i = .p (isX S) := by rfl) : JSs G k X L sts R N := fun C => ⟨fun pins s σ H D I q => by
  obtain ⟨F0, H0, F, s0, st, E, O, r, n⟩ := q
  obtain ⟨v, e, d, hs, p⟩ := E.var (slot_p hi)
  refine (h d hs C).run pins s σ H D I ⟨F0, H0, F, s0, st, ?_, O.drop rfl, r, n⟩
  have D := E.drop (i := i)
  have hlt : i < L.length := (List.getElem?_eq_some_iff.mp (slot_p hi)).1
  refine ⟨by rw [List.length_set]; exact E.len, fun j s hj => ?_, fun j k a s t hj hk os ot ej ek => ?_⟩
  · by_cases hij : i = j
    · subst hij
      rw [List.getElem?_set_self hlt] at hj
      cases hj
      exact ⟨v, e, p⟩
    · rw [List.getElem?_set_ne hij] at hj
      exact E.at_ j s hj
  · have nj : i ≠ j := fun z => by
      subst z
      rw [List.getElem?_set_self hlt] at hj
      cases hj
      cases os
    have nk : i ≠ k := fun z => by
      subst z
      rw [List.getElem?_set_self hlt] at hk
      cases hk
      cases ot
    rw [List.getElem?_set_ne nj] at hj
    rw [List.getElem?_set_ne nk] at hk
    exact E.dist j k a s t hj hk os ot ej ek⟩
theorem je_tupX {Ss : List (PyData → Prop)} {x1 pos} (h : JA G k X L es (Ss.map isX)) (hl : Ss.length ≤ 1000 := by exact Nat.le_of_ble_eq_true rfl) : JE G k X L (.Tuple es x1 pos) (isX fun d => ∃ ds, d = .tuple ds ∧ All2 Ss ds) :=
  fun C => (pe_tupZ (h C)).imp fun σ H Q ⟨F, s, t, E, q⟩ => ⟨F, s, t, E, fun vs F1 H1 st1 p1 => by
    obtain ⟨ds, ha, d⟩ := allP_X p1
    refine ⟨?_, fun p o hp ho => ?_⟩
    · rw [das_length d, all2_length ha]; exact Nat.le_trans hl (by decide)
    · obtain ⟨st2, dd⟩ := Step.newTup st1.tab st1.sub hp ho d
      exact q _ _ _ (st1.trans st2) ⟨_, ⟨ds, rfl, ha⟩, dd⟩⟩
theorem je_lstX {Ss : List (PyData → Prop)} {pos} (h : JA G k X L es (Ss.map isX)) (hl : Ss.length ≤ 1000 := by exact Nat.le_of_ble_eq_true rfl) : JE G k X L (.List es pos) (isX fun d => ∃ ds, d = .list ds ∧ All2 Ss ds) :=
  fun C => (pe_lst (h C)).imp fun σ H Q ⟨F, s, t, E, q⟩ => ⟨F, s, t, E, fun vs F1 H1 st1 p1 => by
    obtain ⟨ds, ha, d⟩ := allP_X p1
    refine ⟨?_, fun p hp => ?_⟩
    · rw [das_length d, all2_length ha]; exact Nat.le_trans hl (by decide)
    · have st2 : Step G.T F1 H1 (upd F1 p (.lst vs)) (upd H1 p (.lst vs)) := Step.new st1.tab st1.sub hp
      exact q _ _ _ (st1.trans st2) ⟨_, ⟨ds, rfl, ha⟩, .lst upd_same (keep_ds st2.keep _ _ d)⟩⟩
theorem rd_X {r : R2} (h : ∀ d e, S1 d → S2 e → RD2 G r (isD d) (isD e) (isX S)) : RD2 G r (isX S1) (isX S2) (isX S) := fun x y F H Q s t ⟨d, hd, p1⟩ ⟨e, he, p2⟩ q => h d e hd he x y F H Q s t p1 p2 q
theorem RD2.x {r : R2} {P1 P2 : SP} {d : PyData} (h : RD2 G r P1 P2 (isD d)) (s : S d) : RD2 G r P1 P2 (isX S) := fun x y F H Q sF t p1 p2 q => h x y F H Q sF t p1 p2 fun v F' H' st p => q v F' H' st ⟨d, s, p⟩
/-- l[i] -/
theorem je_ixX (ha : JE G k X L a (isX S1)) (hb : JE G k X L b (isX S2)) (h : ∀ d e, S1 d → S2 e → ∃ ds n z, d = .list ds ∧ e = .int n ∧ atI ds n = some z ∧ S z) (hs : PlainIx b := by intro _ _; rfl) : JE G k X L (.Subscript a b pos) (isX S) :=
  je_ix (fun _ => ix_list) (rd_X fun d e hd he => by
    obtain ⟨ds, n, z, rfl, rfl, h1, h2⟩ := h d e hd he
    exact (rd_ixL h1).x h2) ha hb hs
/-- ints: a op b -/
theorem je_subX (ha : JE G k X L a (isX S1)) (hb : JE G k X L b (isX S2)) (h : ∀ d e, S1 d → S2 e → ∃ i j, d = .int i ∧ e = .int j ∧ S (.int (i - j))) : JE G k X L (.BinOp a .Sub b pos) (isX S) := je_op (fun _ => op_sub) (rd_X fun d e hd he => by
  obtain ⟨i, j, rfl, rfl, s⟩ := h d e hd he
  exact (rd_i0 (d := .int (i - j)) fun _ => .int _).x s) ha hb
theorem je_addX (ha : JE G k X L a (isX S1)) (hb : JE G k X L b (isX S2)) (h : ∀ d e, S1 d → S2 e → ∃ i j, d = .int i ∧ e = .int j ∧ S (.int (i + j))) : JE G k X L (.BinOp a .Add b pos) (isX S) := je_op (fun _ => op_add) (rd_X fun d e hd he => by
  obtain ⟨i, j, rfl, rfl, s⟩ := h d e hd he
  exact (rd_i0 (d := .int (i + j)) fun _ => .int _).x s) ha hb
theorem je_modX (ha : JE G k X L a (isX S1)) (hb : JE G k X L b (isX S2)) (h : ∀ d e, S1 d → S2 e → ∃ i j, d = .int i ∧ e = .int j ∧ 0 < j ∧ S (.int (i % j))) : JE G k X L (.BinOp a .Mod b pos) (isX S) := je_op (fun _ => op_mod) (rd_X fun d e hd he => by
  obtain ⟨i, j, rfl, rfl, hj, s⟩ := h d e hd he
  exact (rd_i (C := fun _ j => 0 < j) (d := .int (i % j)) hj fun _ => .int _).x s) ha hb
theorem je_eqX (ha : JE G k X L a (isX S1)) (hb : JE G k X L b (isX S2)) (h : ∀ d e, S1 d → S2 e → SeqAt.shaped d = true ∧ SeqAt.shaped e = true ∧ S (.bool (PyData.eqv d e))) : JE G k X L (.Compare a [.Eq] [b] pos) (isX S) := je_cmp (fun C => op_eqD C.hu64) (rd_X fun d e hd he => (rd_eq (h d e hd he).1 (h d e hd he).2.1).x (h d e hd he).2.2) ha hb (nomark _)
theorem je_gtX (ha : JE G k X L a (isX S1)) (hb : JE G k X L b (isX S2)) (h : ∀ d e, S1 d → S2 e → ∃ i j, d = .int i ∧ e = .int j ∧ S (.bool (decide (j < i)))) : JE G k X L (.Compare a [.Gt] [b] pos) (isX S) := je_cmp (fun _ => op_gt) (rd_X fun d e hd he => by
  obtain ⟨i, j, rfl, rfl, s⟩ := h d e hd he
  exact RD2.x rd_gt s) ha hb (nomark _)
/-- a * n -/
theorem je_repX {ds : List PyData} (ha : JE G k X L a (isD (.list ds))) (hb : JE G k X L b (isX S2)) (h : ∀ e, S2 e → ∃ n : Nat, e = .int n ∧ ds.length * n ≤ 100000 ∧ n ≤ 100000 ∧ S (.list (List.replicate n ds).flatten)) : JE G k X L (.BinOp a .Mult b pos) (isX S) :=
  je_op (P1 := isD (.list ds)) (P2 := isX S2) (fun _ => op_rep) (fun x y F H Q s t p1 ⟨e, he, p2⟩ q => by
    obtain ⟨n, rfl, h1, h2, h3⟩ := h e he
    exact (RD2.x (rd_rep h1 h2) h3) x y F H Q s t p1 p2 q) ha hb
theorem je_catX (ha : JE G k X L a (isX S1)) (hb : JE G k X L b (isX S2)) (h : ∀ d e, S1 d → S2 e → ∃ ds es, d = .list ds ∧ e = .list es ∧ ds.length + es.length ≤ 100000 ∧ S (.list (ds ++ es))) : JE G k X L (.BinOp a .Add b pos) (isX S) := je_op (fun _ => op_cat) (rd_X fun d e hd he => by
  obtain ⟨ds, es, rfl, rfl, hl, s⟩ := h d e hd he
  exact (rd_cat hl).x s) ha hb
/-- int(..), tuple(..) -/
theorem je_intX {p : Pos} (hm : G.mg "int" = none) (ha : JE G k X L a (isX S1)) (h : ∀ d, S1 d → (∃ i, d = .int i ∧ S (.int i)) ∨ ∃ i : Bool, d = .bool i ∧ S (.int (if i then 1 else 0))) (hg : Gl X "int" := by rfl) (he : starEach [a] X.env = (false, eval a X.env) :: starEach [] X.env := by rfl) : JE G k X L (.Call (.Name "int" p) [a] [] pos) (isX S) :=
  je_callTy (fun _ => call_int1) (fun vs F H Q s t p q => by
    obtain ⟨v, rfl, d, hd, p1⟩ := allP1 p
    rcases h d hd with ⟨i, rfl, hs⟩ | ⟨i, rfl, hs⟩
    · exact .inl ⟨i, by rw [da_int p1], q _ F H (Step.refl t s) ⟨_, hs, .int i⟩⟩
    · exact .inr ⟨i, by rw [da_bl p1], q _ F H (Step.refl t s) ⟨_, hs, .int _⟩⟩) hm (by decide +kernel) (ja_cons ha ja_nil he) hg (by decide) (by decide) he
theorem je_tupleLX {p : Pos} (hm : G.mg "tuple" = none) (ha : JE G k X L a (isX S1)) (h : ∀ d, S1 d → ∃ ds, d = .list ds ∧ S (.tuple ds)) (hg : Gl X "tuple" := by rfl) (he : starEach [a] X.env = (false, eval a X.env) :: starEach [] X.env := by rfl) : JE G k X L (.Call (.Name "tuple" p) [a] [] pos) (isX S) :=
  je_callTy (fun _ => call_tupleZ) (fun vs F H Q s t p q => by
    obtain ⟨v, rfl, d, hd, p1⟩ := allP1 p
    obtain ⟨ds, rfl, hs⟩ := h d hd
    obtain ⟨ad, xs, rfl, h1, d1⟩ := da_lst p1
    exact ⟨ad, xs, rfl, SqL.of (s _ _ h1), fun l o hl ho => by
      obtain ⟨st, dd⟩ := Step.newTup t s hl ho d1
      exact q _ _ _ st ⟨_, hs, dd⟩⟩) hm (by decide +kernel) (ja_cons ha ja_nil he) hg (by decide) (by decide) he
/-! ### tests of which both ends are possible -/
def tPB (T : List (Addr × Str)) (L : List Slot) : TT := fun σ H Q => ∃ F, Sub F H ∧ Tabs T F ∧ EnvOk F H σ L ∧ ∀ (b : Bool) F' H', Step T F H F' H' → Q b H'
def JB (G : Gc) (k : Nat) (X : Cx) (L : List Slot) (e : Expr) : Prop := CxOk G k X → PT X e (tPB G.T L)
theorem jb_cmp {op : CmpOp} {r : R2} (ho : CxOk G k X → OpR X (compareOp op) r) (hr : RD2 G r (isX S1) (isX S2) (isX fun d => ∃ b, d = .bool b)) (ha : JE G k X L a (isX S1)) (hb : JE G k X L b (isX S2)) (hm : behindInMarks op b = false) : JB G k X L (.Compare a [op] [b] pos) :=
  fun C => (pt_cmpR (ho C) (ha C) (hb C) hm).imp fun σ H Q ⟨F, s, t, E, q⟩ =>
    ⟨F, s, t, E, fun x F1 H1 st1 p1 => ⟨F1, st1.sub, st1.tab, E.step st1, fun y F2 H2 st2 p2 => hr x y F2 H2 _ st2.sub st2.tab ((isX S1).st st2.keep p1) p2 fun v F' H' st p => by
      obtain ⟨d, ⟨b, rfl⟩, p⟩ := p
      exact ⟨b, da_bl p, q b F' H' ((st1.trans st2).trans st)⟩⟩⟩
theorem jb_eq (ha : JE G k X L a (isX S1)) (hb : JE G k X L b (isX S2)) (h : ∀ d e, S1 d → S2 e → SeqAt.shaped d = true ∧ SeqAt.shaped e = true) : JB G k X L (.Compare a [.Eq] [b] pos) := jb_cmp (fun C => op_eqD C.hu64) (rd_X fun d e hd he => (rd_eq (h d e hd he).1 (h d e hd he).2).x ⟨_, rfl⟩) ha hb (nomark _)
theorem jb_gt (ha : JE G k X L a (isX S1)) (hb : JE G k X L b (isX S2)) (h : ∀ d e, S1 d → S2 e → ∃ i j, d = .int i ∧ e = .int j) : JB G k X L (.Compare a [.Gt] [b] pos) := jb_cmp (fun _ => op_gt) (rd_X fun d e hd he => by
  obtain ⟨i, j, rfl, rfl⟩ := h d e hd he
  exact RD2.x rd_gt ⟨_, rfl⟩) ha hb (nomark _)
theorem js_ifB {th el : List Stmt} (hc : JB G k X L c) (ha : JSs G k X L th R N) (hb : JSs G k X L el R N) : JS G k X L (.If c th el pos) R N := fun C =>
  (ps_if (hc C) (ha C) (hb C)).imp fun D σ H ⟨F0, H0, F, s0, st, E, O, r, n⟩ => ⟨F, st.sub, st.tab, E, fun b F1 H1 st1 => by
      have g : tS G.T L R N D σ H1 := ⟨F0, H0, F1, s0, st.trans st1, E.step st1, O, fun v F' H' st' k' p => r v F' H' st' (st1.ks.trans k') p, fun L' e σ' F' H' st' k' E' O' => n L' e σ' F' H' st' (st1.ks.trans k') E' O'⟩
      dsimp only
      split <;> exact g⟩
/-! ### the box -/
def BoxO (a d : Addr) : HO := .ext fun h => ∃ (n : Int) (t : Tok) (m : Nat), 0 ≤ n ∧ h.get? a = some { cls := .type "list", data := .seq #[.ref d, .int n t] m }
def isBox (ns : List Int) : SP := ⟨fun v F => ∃ a d, v = .ref a ∧ F a = some (BoxO a d) ∧ Da F (.ref d) (.list (ns.map .int)), fun h ⟨a, d, e, q, p⟩ => ⟨a, d, e, h.obj _ _ q trivial, keep_d h _ _ p⟩⟩
def natS (d : PyData) : Prop := ∃ n : Nat, d = .int n
def belowS (m : Nat) (d : PyData) : Prop := ∃ n : Nat, n < m ∧ d = .int n
theorem ix_box : IxR X (fun x y H Q => ∃ p d, x = .ref p ∧ H p = some (BoxO p d) ∧ ((y = .int 1 ∧ ∀ n : Nat, Q (.int n) H) ∨ (y = .int 0 ∧ Q (.ref d) H))) := by
  intro value slice pins s σ H x y v u Q I rx ry ⟨p, d, ex, hp, h⟩ hs
  subst ex
  cases rx
  obtain ⟨⟨n, t, m, h0, hg⟩, _, _⟩ := I.hok p _ hp
  have il : s.heap.IsList p #[.ref d, .int n t] := ⟨_, hg, rfl, m, rfl⟩
  rcases h with ⟨ey, q⟩ | ⟨ey, q⟩ <;> subst ey <;> obtain ⟨t2, rfl⟩ := ry
  · have e : n = (n.toNat : Int) := by omega
    exact item_listR (x := .int n t) il (by decide) (by decide) rfl ⟨.int n.toNat, H, I, ⟨t, by rw [← e]⟩, q n.toNat⟩ hs
  · exact item_listR (x := .ref d) il (by decide) (by decide) rfl ⟨.ref d, H, I, rfl, q⟩ hs
theorem je_box1 {ns : List Int} (ha : JE G k X L a (isBox ns)) (hb : JE G k X L b (isI 1)) (hs : PlainIx b := by intro _ _; rfl) : JE G k X L (.Subscript a b pos) (isX natS) :=
  je_ix (P1 := isBox ns) (P2 := isI 1) (fun _ => ix_box) (fun x y F H Q s t ⟨p, d, ex, hp, _⟩ p2 q => ⟨p, d, ex, s _ _ hp, .inl ⟨da_int p2, fun n => q _ F H (Step.refl t s) ⟨_, ⟨n, rfl⟩, .int _⟩⟩⟩) ha hb hs
theorem je_box0 {ns : List Int} (ha : JE G k X L a (isBox ns)) (hb : JE G k X L b (isI 0)) (hs : PlainIx b := by intro _ _; rfl) : JE G k X L (.Subscript a b pos) (isD (.list (ns.map .int))) :=
  je_ix (P1 := isBox ns) (P2 := isI 0) (fun _ => ix_box) (fun x y F H Q s t ⟨p, d, ex, hp, dd⟩ p2 q => ⟨p, d, ex, s _ _ hp, .inr ⟨da_int p2, q _ F H (Step.refl t s) dd⟩⟩) ha hb hs
theorem box_ok {P : Program} {w : World} {H : Hp} {h : Heap} {p d : Addr} {n : Int} {t : Tok} {m : Nat} (h0 : 0 ≤ n) (hg : h.get? p = some { cls := .type "list", data := .seq #[.ref d, .int n t] m }) : ObjOk P w H h p (BoxO p d) :=
  ⟨⟨n, t, m, h0, hg⟩, ⟨_, hg⟩, fun h1 h2 ⟨n, t, m, a, b⟩ st => ⟨n, t, m, a, st _ b⟩⟩
theorem upd_self {H : Hp} {a : Addr} {o : HO} (h : H a = some o) : upd H a o = H := by
  funext b; unfold upd; by_cases hb : b = a
  · rw [if_pos hb, hb, h]
  · rw [if_neg hb]
theorem set_box : PSet X (fun o i v H Q => ∃ p d n, o = .ref p ∧ i = .int 1 ∧ v = .int n ∧ 0 ≤ n ∧ H p = some (BoxO p d) ∧ Q H) := by
  intro pins s σ H o i v ov iv u Q I ro ri rv ⟨p, d, n, eo, ei, ev, hn, hp, q⟩
  subst eo ei ev
  cases ro
  obtain ⟨t, rfl⟩ := ri
  obtain ⟨t2, rfl⟩ := rv
  obtain ⟨⟨n0, t0, m, h0, hg⟩, _, _⟩ := I.hok p _ hp
  have ho : s.heap.get? p = some (seqObj "list" #[.ref d, .int n0 t0] m) := hg
  obtain ⟨e2, he2⟩ : ∃ e2, (s.heap.update p (Obj.mapSeq (·.setIfInBounds 1 (.int n t2)))).get? p = some (seqObj "list" (#[.ref d, .int n0 t0].setIfInBounds 1 (.int n t2)) e2) := ⟨_, get?_update_seq ho (·.setIfInBounds 1 (.int n t2))⟩
  have I2 : Inv X pins σ (upd H p (BoxO p d)) { s with heap := s.heap.update p (Obj.mapSeq (·.setIfInBounds 1 (.int n t2))), toks := s.toks } :=
    I.write (e := p) (by rw [hp]; trivial) (.inl rfl) (fun b u hb q => (Heap.get?_update_ne _ _ _ _ hb).trans q) ⟨_, he2⟩ (box_ok hn he2)
  rw [upd_self hp] at I2
  exact PySem.W.ki_setAt (k := 1) (items := #[.ref d, .int n0 t0]) ho (by decide) (by decide) (show (1 : Int) < (2 : Nat) by decide) ⟨H, I2, q⟩
/-- box[1] = e -/
theorem js_setBox {ns : List Int} {o ix : Expr} {tpos : Pos} (ho : JE G k X L o (isBox ns)) (hi : JE G k X L ix (isI 1)) (he : JE G k X L e (isX natS)) (hs : swapsWithSole [.Subscript o ix tpos] e pos.line X.env = pure false := by rfl) (hw : swappedStores [.Subscript o ix tpos] e X.env = pure none := by rfl)
    (h1 : (assignEach [.Subscript o ix tpos] X.env).map (·.2) = [assign (.Subscript o ix tpos) X.env] := by rfl) (ha : ∀ v, assign (.Subscript o ix tpos) X.env v = (do
      let ov ← holding [v] (eval o X.env)
      let iv ← holding [v, ov] (eval ix X.env)
      standAt tpos
      holding [v, ov, iv] (setItem ov iv v)
      release [v, ov, iv] []) := by intro _; rfl) : JS G k X L (.Assign [.Subscript o ix tpos] e pos) R (some L) := fun C =>
  (ps_asg (he C) (pg_sub (ho C) (hi C) set_box ha) hs hw h1).imp fun D σ H ⟨F0, H0, F, s0, st, E, O, r, n⟩ => tS_eval (D := D) st E fun v F1 H1 st1 k1 E1 p1 => tS_eval (D := D) st1 E1 fun ov F2 H2 st2 k2 E2 p2 => tS_eval (D := D) st2 E2 fun iv F3 H3 st3 k3 E3 p3 => by
    obtain ⟨d, ⟨m, rfl⟩, p1⟩ := p1
    obtain ⟨p, dd, rfl, hp, _⟩ := p2
    exact ⟨p, dd, m, rfl, da_int p3, da_int p1, Int.natCast_nonneg m, st3.sub _ _ (k3.w.obj _ _ hp trivial), n _ rfl σ F3 H3 st3 ((k1.trans k2).trans k3) E3 O⟩
end
end K27
set_option maxHeartbeats 1000000
namespace K27
open PySem L2 LamX
local macro_rules | `(tactic| walk_at "norm") => `(tactic| refine JSs.norm (by dsimp only [setsL, wipeL, initL, List.set, List.map, List.append, List.replicate, List.length, HAppend.hAppend, Append.append]) ?_)
/-- the script -/
def isScr (K : PySem.W.Frag) (ns : List Int) : SP := ⟨fun v F => ∃ a, v = .ref a ∧ SqL K F a (ns.map V.int), fun h ⟨a, e, q⟩ => ⟨a, e, by
  rcases q with (q | ⟨o, q⟩) | q
  · exact .inl (.inl (h.obj _ _ q trivial))
  · exact .inl (.inr ⟨o, h.obj _ _ q trivial⟩)
  · exact .inr q⟩⟩
theorem SqL.sub {K : PySem.W.Frag} {F H : Hp} (s : Sub F H) {a : Addr} {xs : List V} (h : SqL K F a xs) : SqL K H a xs := h.elim (fun r => .inl (s.rd r)) .inr
section
variable {G : Gc} {k : Nat} {X : Cx} {L L1 : List Slot} {a b c e tg iter : Expr} {es : List Expr} {pos : Pos} {st : Stmt} {sts body : List Stmt} {R : SP} {N : Option (List Slot)}
theorem je_lenScr {ns : List Int} {p : Pos} (hm : G.mg "len" = none) (ha : JE G k X L a (isScr G.K ns)) (hg : Gl X "len" := by rfl) (he : starEach [a] X.env = (false, eval a X.env) :: starEach [] X.env := by rfl) : JE G k X L (.Call (.Name "len" p) [a] [] pos) (isI ns.length) := fun C =>
  je_callB (fun _ => call_len_seq) (fun vs F H Q s t p q => by
    obtain ⟨v, rfl, p1⟩ := allP1 p
    obtain ⟨ad, rfl, h1⟩ := p1
    exact ⟨ad, ns.map V.int, rfl, .inl (by rw [C.K]; exact SqL.sub s h1), q _ F H (Step.refl t s) (by rw [List.length_map]; exact .int _)⟩) hm PySem.boot_len (ja_cons ha ja_nil he) hg (by decide) (by decide) he (by rfl) C
theorem je_ixScr {ns : List Int} {n : Nat} {z : Int} (h : ns[n]? = some z) (ha : JE G k X L a (isScr G.K ns)) (hb : JE G k X L b (isI n)) (hs : PlainIx b := by intro _ _; rfl) : JE G k X L (.Subscript a b pos) (isI z) := fun C =>
  je_ix (P1 := isScr G.K ns) (P2 := isI n) (fun _ => ix_list) (fun x y F H Q s t ⟨p, ex, hp⟩ p2 q => ⟨p, ns.map V.int, n, .int z, ex, da_int p2, by rw [C.K]; exact SqL.sub s hp, by
    have := (List.getElem?_eq_some_iff.mp h).1
    unfold atI ixN
    rw [List.length_map]
    simp [this, (List.getElem?_eq_some_iff.mp h).2], q _ F H (Step.refl t s) (.int z)⟩) ha hb hs C
/-- for x in range(0, n) -/
theorem js_forR2 {n : Nat} {is : List Nat} {Ps : Nat → List SP} {p : Pos} (Inv : Nat → List Slot) (ha : JE G k X L a (isI 0)) (hi : JE G k X L b (isI n)) (hn : n ≤ 100000) (h0 : Ent L (Inv 0)) (B : Turns G k X tg body R (List.range n) (fun i : Nat => isI i) is Ps Inv) (hm : G.mg "range" = none) (hg : Gl X "range" := by rfl)
    (hs : starEach [a, b] X.env = [(false, eval a X.env), (false, eval b X.env)] := by rfl) (hs2 : starEach [b] X.env = [(false, eval b X.env)] := by rfl) (hp : PassesOwn (model X.prog X.w) X.A X.env X.xe := by exact PassesOwn.never) :
    JS G k X L (.For tg (.Call (.Name "range" p) [a, b] [] pos) body [] pos') R (some (Inv n)) := fun C =>
  (ps_for hp C.calm (pi_range2 hg (by rw [C.mg]; exact hm) (pa_cons (ha C) (pa_cons (hi C) pa_nil hs2) (by rw [hs, hs2])) hs hs2) (pg_any C) (pss_any C)).imp fun D σ H ⟨F0, H0, F, s0, st, E, O, r, nn⟩ => tS_eval (D := D) st E fun v F1 H1 st1 k1 E1 p => tS_eval (D := D) st1 E1 fun w F2 H2 st2 k2 E2 p2 => by
    cases da_int p
    cases da_int p2
    refine ⟨0, n, rfl, ⟨by omega, by omega, by omega, by omega⟩, for_range (lo := 0) (n := ((n : Int) - 0).toNat) (fun i σ' H' => Btw G.T F0 H0 F2 (Inv i) σ' H') ⟨F2, st2, KS.refl F2, h0.e _ _ _ E2, h0.o _ _ O⟩ ?_ ?_⟩
    · rintro i σ' H' hu hB
      have hx : (List.range n)[i]? = some i := by rw [List.getElem?_range (by simpa using hu)]
      have ez : (0 : Int) + (i : Int) = (i : Int) := by omega
      rw [ez]
      exact for_turn (D' := D) s0 B hx hB (fun F' ks => .int _) (fun v F' H' st' k' p => r v F' H' st' ((k1.trans k2).trans k') p) fun σ' H' h => h
    · rintro σ' H' ⟨F', st', ks', E', O'⟩
      have en : ((n : Int) - 0).toNat = n := by omega
      rw [en] at E' O'
      exact nn _ rfl σ' F' H' st' ((k1.trans k2).trans ks') E' O'
end
def mCell (ns : List Int) (n : Nat) : Int := ns.getD n 0
section
variable {G : Gc}
abbrev spCell (G : Gc) : Sp := SpF G.T (fun i : List Int × Nat => True) (fun i => [isScr G.K i.1, isI i.2]) (fun i => isI (mCell i.1 i.2))
theorem sc14 : FnScope ["_law_script", "_law_k"] ["_law_script", "_law_k"] (defScope (top 14)) := ⟨rfl, rfl, rfl, by decide +kernel, rfl, by decide +kernel, by decide +kernel⟩
theorem ok14 (B : Bt G) {f : Addr} {fd : FuncData} (F : Fun G.K "_law_cell" "_law_cell" (top 14) f fd) : FnOk G.P G.w G.K G.mg G.base CX0 1 f fd ["_law_script", "_law_k"] (spCell G) := by
  refine fn_ok (k := 0) F sc14 (fun _ => rfl) ?_
  rintro ⟨ns, n⟩ _ cdv A outer s H E
  dsimp only
  by_cases h : n < ns.length
  · have e : ns[n]? = some (mCell ns n) := by unfold mCell; rw [List.getD_eq_getElem?_getD, List.getElem?_eq_getElem h]; rfl
    exact js_end (js_if (JT.is (d' := true) (jt_lt (je_var 1) (je_lenScr B.len (je_var 0))) (decide_eq_true (by omega))) (fun _ => js_rt (je_ixScr e (je_var 0) (je_var 1))) no_ft)
  · have e : mCell ns n = 0 := by unfold mCell; rw [List.getD_eq_getElem?_getD, List.getElem?_eq_none (by omega)]; rfl
    refine js_cons (js_if (JT.is (d' := false) (jt_lt (je_var 1) (je_lenScr B.len (je_var 0))) (decide_eq_false (by omega))) no_tf fun _ => js_nil) (js_rt ?_)
    exact JE.is je_int (by rw [e])
/-! ### _law_digits -/
def st1 (p : Int × List Int) : Int × List Int := if p.1 > 0 then (p.1 / 1000, p.2 ++ [p.1 % 1000]) else p
def st2 (j : Nat) (p : Int × List Int) : Int × List Int := let s := (p.1 * 16807 + 7 * (j : Int) + 1) % 2147483647; (s, p.2 ++ [s / 997 % 1000])
def it1 : Nat → Int × List Int → Int × List Int
  | 0, p => p
  | n + 1, p => st1 (it1 n p)
def it2 : Nat → Int × List Int → Int × List Int
  | 0, p => p
  | n + 1, p => st2 n (it2 n p)
def pos1 (c : Int) : Int := if c < 0 then 1 - 2 * c else c
def mTurn (ns : List Int) (k : Nat) (acc : List Int) : List Int :=
  if pos1 (mCell ns k) ≥ 10 ^ 18 then (it1 60 (pos1 (mCell ns k), acc)).2 else (it2 12 ((pos1 (mCell ns k) * 48271 + (k : Int) * 69621 + 11) % 2147483647, acc)).2
def mDigits (ns : List Int) : Nat → List Int
  | 0 => []
  | n + 1 => mTurn ns n (mDigits ns n)
theorem it1_len (p : Int × List Int) : ∀ n, (it1 n p).2.length ≤ p.2.length + n
  | 0 => Nat.le_refl _
  | n + 1 => by
    have := it1_len p n
    show (st1 (it1 n p)).2.length ≤ _
    unfold st1
    split
    · simp only [List.length_append, List.length_singleton]; omega
    · omega
theorem it2_len (p : Int × List Int) : ∀ n, (it2 n p).2.length ≤ p.2.length + n
  | 0 => Nat.le_refl _
  | n + 1 => by
    have := it2_len p n
    show (st2 n (it2 n p)).2.length ≤ _
    unfold st2
    simp only [List.length_append, List.length_singleton]; omega
theorem mDigits_len (ns : List Int) : ∀ n, (mDigits ns n).length ≤ 60 * n
  | 0 => Nat.le_refl _
  | n + 1 => by
    have := mDigits_len ns n
    show (mTurn ns n (mDigits ns n)).length ≤ _
    unfold mTurn
    split
    · have := it1_len (pos1 (mCell ns n), mDigits ns n) 60
      dsimp only at this
      omega
    · have := it2_len ((pos1 (mCell ns n) * 48271 + (n : Int) * 69621 + 11) % 2147483647, mDigits ns n) 12
      dsimp only at this
      omega
abbrev spDigits (G : Gc) : Sp := SpF G.T (fun _ : List Int => True) (fun ns => [isScr G.K ns, isI 0, isI 50]) (fun ns => isD (.list ((mDigits ns 50).map .int)))
theorem sc15 : FnScope ["_law_script", "_law_first", "_law_last", "_law_digits_here", "_law_k", "_law_cell_here", "_law_place_here", "_law_seed"] ["_law_script", "_law_first", "_law_last"] (defScope (top 15)) := ⟨rfl, rfl, rfl, by decide +kernel, rfl, by decide +kernel, by decide +kernel⟩
theorem ok15 (B : Bt G) (hC : Fn G "_law_cell" 1 (spCell G)) {f : Addr} {fd : FuncData} (F : Fun G.K "_law_digits" "_law_digits" (top 15) f fd) : FnOk G.P G.w G.K G.mg G.base CX0 2 f fd ["_law_script", "_law_first", "_law_last"] (spDigits G) := by
  refine fn_ok (k := 1) F sc15 (fun _ => rfl) ?_
  rintro ns _ cdv A outer s H E
  refine js_cons (js_newAcc 3) ?_
  walk_at "norm"
  let Inv : Nat → List Slot := fun i => [.p (isScr G.K ns), .p (isI 0), .p (isI 50), .acc ((mDigits ns i).map .int), .no, .no, .no, .no]
  refine js_cons (L1 := Inv 50) (js_forR2 (n := 50) (is := [4]) (Ps := fun i : Nat => [isI i]) Inv (je_var 1) (je_var 2) (by decide) (Ent.refl _) ⟨fun x hx => jg_name 4, fun i x hx => ?_⟩ B.range) ?_
  · obtain ⟨hi, e⟩ := List.getElem?_eq_some_iff.mp hx
    rw [List.getElem_range] at e
    subst e
    rw [List.length_range] at hi
    have hlen := mDigits_len ns i
    refine ⟨Inv (i + 1), ?_, Ent.refl _⟩
    show JSs _ _ _ [_, _, _, .acc ((mDigits ns i).map .int), .p (isI i), _, _, _] _ _ _
    refine js_cons (js_asg 5 (P := isI (mCell ns i)) (je_call hC (ns, i) trivial (ja_cons (je_var 0) (ja_cons (je_var 4) ja_nil)))) ?_
    walk_at "norm"
    refine js_cons (L1 := [.p (isScr G.K ns), .p (isI 0), .p (isI 50), .acc ((mDigits ns i).map .int), .p (isI i), .p (isI (pos1 (mCell ns i))), .no, .no]) ?_ ?_
    · by_cases h : mCell ns i < 0
      · have e : pos1 (mCell ns i) = 1 - 2 * mCell ns i := if_pos h
        rw [e]
        exact js_if (JT.is (d' := true) (jt_lt (je_var 5) je_int) (decide_eq_true h)) (fun _ => js_cons (js_asg 5 (je_sub je_int (je_mul (.inl ⟨by decide, by decide⟩) je_int (je_var 5)))) js_nil) no_ft
      · have e : pos1 (mCell ns i) = mCell ns i := if_neg h
        rw [e]
        exact js_if (JT.is (d' := false) (jt_lt (je_var 5) je_int) (decide_eq_false h)) no_tf fun _ => js_nil
    generalize hc : pos1 (mCell ns i) = cc
    have hturn : mDigits ns (i + 1) = mTurn ns i (mDigits ns i) := rfl
    by_cases h : cc ≥ 10 ^ 18
    · have ht : mDigits ns (i + 1) = (it1 60 (cc, mDigits ns i)).2 := by rw [hturn]; unfold mTurn; rw [hc, if_pos h]
      refine js_cons (js_if (JT.is (d' := true) (jt_ge (je_var 5) (je_pow (i := 10) (j := 18) ⟨by decide, by decide, by decide⟩ je_int je_int)) (decide_eq_true h)) (fun _ => ?_) no_ft) js_nil
      let Inv1 : Nat → List Slot := fun j => [.p (isScr G.K ns), .p (isI 0), .p (isI 50), .acc ((it1 j (cc, mDigits ns i)).2.map .int), .p (isI i), .p (isI (it1 j (cc, mDigits ns i)).1), .no, .no]
      refine JSs.out (js_cons (L1 := Inv1 60) (js_forR1 (n := 60) (is := [6]) (Ps := fun j : Nat => [isI j]) Inv1 je_int (by decide) (Ent.refl _) ⟨fun x hx => jg_name 6, fun j x hx => ?_⟩ B.range) js_nil) ?_
      · obtain ⟨hj, e⟩ := List.getElem?_eq_some_iff.mp hx
        rw [List.getElem_range] at e
        subst e
        rw [List.length_range] at hj
        have hl1 := it1_len (cc, mDigits ns i) j
        refine ⟨Inv1 (j + 1), ?_, Ent.refl _⟩
        show JSs _ _ _ [_, _, _, .acc ((it1 j (cc, mDigits ns i)).2.map .int), _, .p (isI (it1 j (cc, mDigits ns i)).1), .p (isI j), _] _ _ _
        have hs : it1 (j + 1) (cc, mDigits ns i) = st1 (it1 j (cc, mDigits ns i)) := rfl
        simp only [Inv1, hs]
        generalize hp : it1 j (cc, mDigits ns i) = p at hl1
        obtain ⟨c0, ac⟩ := p
        dsimp only at hl1 ⊢
        by_cases h0 : c0 > 0
        · have e1 : st1 (c0, ac) = (c0 / 1000, ac ++ [c0 % 1000]) := if_pos h0
          rw [e1]
          refine JSs.out (js_cons (js_if (JT.is (d' := true) (jt_gt (je_var 5) je_int) (decide_eq_true h0)) (fun _ => js_cons (js_append 3 (d := .int (c0 % 1000)) rfl (by rw [List.length_map]; omega) (je_mod (by decide) (je_intI B.int (je_var 5)) je_int)) (js_cons (js_asg 5 (P := isI (c0 / 1000)) (je_fdiv ⟨by decide, by decide⟩ (je_var 5) je_int)) js_nil)) no_ft) js_nil) ?_
          refine (ent_drops [6] _).trans ?_
          simp only [List.map_append, List.map_cons, List.map_nil]
          exact Ent.refl _
        · have e1 : st1 (c0, ac) = (c0, ac) := if_neg h0
          rw [e1]
          exact JSs.out (js_cons (js_if (JT.is (d' := false) (jt_gt (je_var 5) je_int) (decide_eq_false h0)) no_tf fun _ => js_nil) js_nil) (ent_drops [6] _)
      · refine (ent_drops [4, 5] _).trans ?_
        simp only [Inv, ht]
        exact Ent.refl _
    · have ht : mDigits ns (i + 1) = (it2 12 ((cc * 48271 + (i : Int) * 69621 + 11) % 2147483647, mDigits ns i)).2 := by rw [hturn]; unfold mTurn; rw [hc, if_neg h]
      refine js_cons (js_if (JT.is (d' := false) (jt_ge (je_var 5) (je_pow (i := 10) (j := 18) ⟨by decide, by decide, by decide⟩ je_int je_int)) (decide_eq_false h)) no_tf (fun _ => ?_)) js_nil
      refine js_cons (js_asg 7 (P := isI ((cc * 48271 + (i : Int) * 69621 + 11) % 2147483647)) (je_mod (by decide) (je_intI B.int (je_add (je_add (je_mul (.inr ⟨by decide, by decide⟩) (je_var 5) je_int) (je_mul (.inr ⟨by decide, by decide⟩) (je_var 4) je_int)) je_int)) je_int)) ?_
      walk_at "norm"
      generalize (cc * 48271 + (i : Int) * 69621 + 11) % 2147483647 = sd at ht ⊢
      let Inv1 : Nat → List Slot := fun j => [.p (isScr G.K ns), .p (isI 0), .p (isI 50), .acc ((it2 j (sd, mDigits ns i)).2.map .int), .p (isI i), .p (isI cc), .no, .p (isI (it2 j (sd, mDigits ns i)).1)]
      refine JSs.out (js_cons (L1 := Inv1 12) (js_forR1 (n := 12) (is := [6]) (Ps := fun j : Nat => [isI j]) Inv1 je_int (by decide) (Ent.refl _) ⟨fun x hx => jg_name 6, fun j x hx => ?_⟩ B.range) js_nil) ?_
      · obtain ⟨hj, e⟩ := List.getElem?_eq_some_iff.mp hx
        rw [List.getElem_range] at e
        subst e
        rw [List.length_range] at hj
        have hl1 := it2_len (sd, mDigits ns i) j
        refine ⟨Inv1 (j + 1), ?_, Ent.refl _⟩
        show JSs _ _ _ [_, _, _, .acc ((it2 j (sd, mDigits ns i)).2.map .int), _, _, .p (isI j), .p (isI (it2 j (sd, mDigits ns i)).1)] _ _ _
        have hs : it2 (j + 1) (sd, mDigits ns i) = st2 j (it2 j (sd, mDigits ns i)) := rfl
        simp only [Inv1, hs]
        generalize hp : it2 j (sd, mDigits ns i) = p at hl1
        obtain ⟨c0, ac⟩ := p
        dsimp only [st2] at hl1 ⊢
        refine JSs.out (js_cons (js_asg 7 (P := isI ((c0 * 16807 + 7 * (j : Int) + 1) % 2147483647)) (je_mod (by decide) (je_intI B.int (je_add (je_add (je_mul (.inr ⟨by decide, by decide⟩) (je_var 7) je_int) (je_mul (.inl ⟨by decide, by decide⟩) je_int (je_var 6))) je_int)) je_int)) (js_cons (js_append 3 (d := .int ((c0 * 16807 + 7 * (j : Int) + 1) % 2147483647 / 997 % 1000)) rfl (by rw [List.length_map]; omega) (je_mod (by decide) (je_intI B.int (je_fdiv ⟨by decide, by decide⟩ (je_var 7) je_int)) je_int)) js_nil)) ?_
        refine (ent_drops [6] _).trans ?_
        simp only [List.map_append, List.map_cons, List.map_nil]
        exact Ent.refl _
      · refine (ent_drops [4, 5, 7] _).trans ?_
        simp only [Inv, ht]
        exact Ent.refl _
  · refine js_freeze 3 (ds := (mDigits ns 50).map .int) rfl ?_
    walk_at "norm"
    exact js_rt (je_var 3)
/-! ### _law_draw -/
abbrev spDraw (G : Gc) : Sp := SpF G.T (fun i : List Int × Nat => 0 < i.2) (fun i => [isBox i.1, isI i.2]) (fun i => isX (belowS i.2))
theorem sc16 : FnScope ["_law_box", "_law_many", "_law_at"] ["_law_box", "_law_many"] (defScope (top 16)) := ⟨rfl, rfl, rfl, by decide +kernel, rfl, by decide +kernel, by decide +kernel⟩
theorem below_mod {x : Int} {m : Nat} (h : 0 < m) : belowS m (.int (x % (m : Int))) := by
  have h1 : 0 ≤ x % (m : Int) := Int.emod_nonneg _ (by omega)
  have h2 : x % (m : Int) < m := Int.emod_lt_of_pos _ (by omega)
  exact ⟨(x % (m : Int)).toNat, by omega, by congr 1; omega⟩
theorem ok16 (B : Bt G) {f : Addr} {fd : FuncData} (F : Fun G.K "_law_draw" "_law_draw" (top 16) f fd) : FnOk G.P G.w G.K G.mg G.base CX0 1 f fd ["_law_box", "_law_many"] (spDraw G) := by
  refine fn_ok (k := 0) F sc16 (fun _ => rfl) ?_
  rintro ⟨ns, m⟩ hm cdv A outer s H E
  dsimp only at *
  refine js_cons (js_asg 2 (P := isX natS) (je_box1 (je_var 0) je_int)) ?_
  walk_at "norm"
  refine js_ex 2 (S := natS) fun d ⟨n, hd⟩ => ?_
  subst hd
  walk_at "norm"
  refine js_cons (js_setBox (je_var 0) je_int (JE.x (d := .int ((n : Int) + 1)) (je_add (je_var 2) je_int) ⟨n + 1, by simp⟩)) ?_
  have hlen : ((ns.map PyData.int).length : Int) = (ns.length : Nat) := by rw [List.length_map]
  by_cases h : n < ns.length
  · have hat : atI (ns.map PyData.int) (n : Nat) = some (.int (ns.getD n 0)) := atI_nat (by rw [List.getElem?_map, List.getD_eq_getElem?_getD, List.getElem?_eq_getElem h]; rfl)
    exact js_end (js_if (JT.is (d' := true) (jt_lt (je_var 2) (je_lenL B.len (je_box0 (je_var 0) je_int))) (decide_eq_true (by rw [hlen]; omega))) (fun _ => js_rt (JE.x (je_mod (by omega) (je_intI B.int (je_ixL hat (je_box0 (je_var 0) je_int) (je_var 2))) (je_var 1)) (below_mod hm))) no_ft)
  · exact js_cons (js_if (JT.is (d' := false) (jt_lt (je_var 2) (je_lenL B.len (je_box0 (je_var 0) je_int))) (decide_eq_false (by rw [hlen]; omega))) no_tf fun _ => js_nil) (js_rt (JE.x (je_mod (by omega) (je_intI B.int (je_add (je_mul (.inr ⟨by decide, by decide⟩) (je_var 2) je_int) je_int)) (je_var 1)) (below_mod hm)))
end
end K27
set_option maxHeartbeats 2000000
/-! K27, seventeenth part: comprehensions whose elements are drawn. -/
namespace K27
open PySem L2 LamX
/-- what a walk may have collected: each thing's datum, or (sk) nothing -/
inductive Coll {α : Type} (sk : Bool) (Y : α → PyData → Prop) : List α → List PyData → Prop
  | nil : Coll sk Y [] []
  | take {x : α} {d : PyData} {xs : List α} {ds : List PyData} : Y x d → Coll sk Y xs ds → Coll sk Y (x :: xs) (d :: ds)
  | skip {x : α} {xs : List α} {ds : List PyData} : sk = true → Coll sk Y xs ds → Coll sk Y (x :: xs) ds
section
variable {α : Type} {sk : Bool} {Y : α → PyData → Prop}
theorem Coll.snoc {x : α} {d : PyData} (h : Y x d) : ∀ {xs : List α} {ds : List PyData}, Coll sk Y xs ds → Coll sk Y (xs ++ [x]) (ds ++ [d])
  | _, _, .nil => .take h .nil
  | _, _, .take q t => .take q (t.snoc h)
  | _, _, .skip q t => .skip q (t.snoc h)
theorem Coll.snocS {x : α} (h : sk = true) : ∀ {xs : List α} {ds : List PyData}, Coll sk Y xs ds → Coll sk Y (xs ++ [x]) ds
  | _, _, .nil => .skip h .nil
  | _, _, .take q t => .take q (t.snocS h)
  | _, _, .skip q t => .skip q (t.snocS h)
theorem Coll.length : ∀ {xs : List α} {ds : List PyData}, Coll sk Y xs ds → ds.length ≤ xs.length
  | _, _, .nil => Nat.le_refl _
  | _, _, .take q t => Nat.succ_le_succ t.length
  | _, _, .skip q t => Nat.le_succ_of_le t.length
end
def tPSk (sk : Bool) (T : List (Addr × Str)) (L : List Slot) : TT := fun σ H Q => ∃ F, Sub F H ∧ Tabs T F ∧ EnvOk F H σ L ∧ ∀ (b : Bool) F' H', (b = true ∨ sk = true) → Step T F H F' H' → Q b H'
/-- what a comprehension's parts do -/
structure BlkX (G : Gc) (k : Nat) (X : Cx) (L : List Slot) (own : List (Str × Nat)) (scope : Scope) (tg : Expr) (ifs : List Expr) (elt : Expr) {α : Type} (xs : List α) (P : α → SP) (is : List Nat) (Ps : α → List SP) (sk : Bool) (Y : α → PyData → Prop) : Prop where
  inn : ∀ i ∈ is, i ∈ own.map (·.2)
  tg : ∀ (x : α), x ∈ xs → ∀ (s : Shared) (H : Hp) (C : Addr) (cl : List (Str × Addr)) (fp : List Addr), JG G k (X.blk s H scope (compEnvC scope cl C X.env) fp) tg (P x) is (Ps x)
  test : ∀ (x : α), x ∈ xs → ∀ (s : Shared) (H : Hp) (C : Addr) (cl : List (Str × Addr)) (fp : List Addr), CxOk G k (X.blk s H scope (compEnvC scope cl C X.env) fp) → PTs (X.blk s H scope (compEnvC scope cl C X.env) fp) ifs (tPSk sk G.T (blkL L own is (Ps x)))
  elt : ∀ (x : α), x ∈ xs → ∀ (s : Shared) (H : Hp) (C : Addr) (cl : List (Str × Addr)) (fp : List Addr), JE G k (X.blk s H scope (compEnvC scope cl C X.env) fp) (blkL L own is (Ps x)) elt (isX (Y x))
section
variable {G : Gc} {k : Nat} {X : Cx} {L : List Slot} {a b c e : Expr} {pos : Pos}
variable {α : Type} {xs : List α} {P : α → SP} {own : List (Str × Nat)} {scope : Scope} {tg iter elt : Expr} {ifs : List Expr} {is : List Nat} {Ps : α → List SP} {sk : Bool} {Y : α → PyData → Prop}
theorem blkX0 (inn : ∀ i ∈ is, i ∈ own.map (·.2)) (htg : ∀ (x : α), x ∈ xs → ∀ (s : Shared) (H : Hp) (C : Addr) (cl : List (Str × Addr)) (fp : List Addr), JG G k (X.blk s H scope (compEnvC scope cl C X.env) fp) tg (P x) is (Ps x))
    (helt : ∀ (x : α), x ∈ xs → ∀ (s : Shared) (H : Hp) (C : Addr) (cl : List (Str × Addr)) (fp : List Addr), JE G k (X.blk s H scope (compEnvC scope cl C X.env) fp) (blkL L own is (Ps x)) elt (isX (Y x))) :
    BlkX G k X L own scope tg [] elt xs P is Ps false Y := ⟨inn, htg, fun _ _ _ _ _ _ _ _ => ⟨fun pins s σ H Q I ⟨F, sF, t, E, q⟩ => pts_nil.run pins s σ H Q I (q true F H (.inl rfl) (Step.refl t sF))⟩, helt⟩
theorem blkX1 {c : Expr} (inn : ∀ i ∈ is, i ∈ own.map (·.2)) (htg : ∀ (x : α), x ∈ xs → ∀ (s : Shared) (H : Hp) (C : Addr) (cl : List (Str × Addr)) (fp : List Addr), JG G k (X.blk s H scope (compEnvC scope cl C X.env) fp) tg (P x) is (Ps x))
    (hc : ∀ (x : α), x ∈ xs → ∀ (s : Shared) (H : Hp) (C : Addr) (cl : List (Str × Addr)) (fp : List Addr), JB G k (X.blk s H scope (compEnvC scope cl C X.env) fp) (blkL L own is (Ps x)) c)
    (helt : ∀ (x : α), x ∈ xs → ∀ (s : Shared) (H : Hp) (C : Addr) (cl : List (Str × Addr)) (fp : List Addr), JE G k (X.blk s H scope (compEnvC scope cl C X.env) fp) (blkL L own is (Ps x)) elt (isX (Y x))) :
    BlkX G k X L own scope tg [c] elt xs P is Ps true Y := ⟨inn, htg, fun x hx s H Ca cl fp C => ⟨fun pins s' σ H' Q I ⟨F, sF, t, E, q⟩ => (pts_one (hc x hx s H Ca cl fp C)).run pins s' σ H' Q I ⟨F, sF, t, E, fun b F' H' st => q b F' H' (.inr rfl) st⟩⟩, helt⟩
def LcX (G : Gc) (F0 H0 : Hp) (σ : L2.St) (L : List Slot) (D : Addr) {α : Type} (sk : Bool) (Y : α → PyData → Prop) (xs : List α) (H : Hp) : Prop := ∃ ys, Coll sk Y xs ys ∧ LcAt G F0 H0 σ L D ys H
theorem lc_turnX {zs : List α} {F0 H0 : Hp} {σ : L2.St} {D : Addr} {v : V} {H : Hp} {i : Nat} {x : α} {Nx : Hp → Prop}
    (B : BlkX G k X L own scope tg ifs elt xs P is Ps sk Y) (hx : zs[i]? = some x) (hm : x ∈ xs) (hlen : zs.length ≤ 100000) (E0 : EnvOk F0 H0 σ L) (hD0 : H0 D = none) (h : LcX G F0 H0 σ L D sk Y (zs.take i) H) (pv : ∀ F, Keep F0 F → (P x).P v F)
    (nx : ∀ H', LcX G F0 H0 σ L D sk Y (zs.take (i + 1)) H' → Nx H') :
    gAll xs (fun x => tG (P x) is (Ps x)) v (wipe σ (own.map (·.2))) H fun σ2 H2 => wipe σ2 (own.map (·.2)) = wipe σ (own.map (·.2)) ∧ ttAll xs (fun x => tPSk sk G.T (blkL L own is (Ps x))) σ2 H2 fun b H3 =>
      if b = true then teAll xs (fun _ => true) (fun x => tP G.T (blkL L own is (Ps x)) (isX (Y x))) σ2 H3 fun w H4 => ∃ acc, H4 D = some (.lst acc) ∧ acc.length < sizeLine ∧ Nx (upd H4 D (.lst (acc ++ [w]))) else Nx H3 := by
  obtain ⟨ys, hc, F, vs, st, E, fD, hD, dv⟩ := h
  have et : zs.take (i + 1) = zs.take i ++ [x] := by rw [List.take_add_one, hx]; rfl
  refine ⟨x, hm, F, st.sub, pv F st.keep, fun ws hws => ⟨wipe_sets B.inn, x, hm, F, st.sub, st.tab, (E.wipe _).sets hws, fun b F1 H1 hb st1 => ?_⟩⟩
  obtain ⟨hD1, fD1⟩ := st1.own D _ hD fD
  cases b with
  | true =>
    rw [if_pos rfl]
    refine ⟨x, hm, rfl, F1, st1.sub, st1.tab, ((E.wipe _).sets hws).step st1, fun w F2 H2 st2 ⟨d, hy, p2⟩ => ?_⟩
    obtain ⟨hD2, fD2⟩ := st2.own D _ hD1 fD1
    refine ⟨vs, hD2, ?_, nx _ ⟨ys ++ [d], by rw [et]; exact hc.snoc hy, F2, vs ++ [w], ((st.trans st1).trans st2).updNew fD2 hD0, ((E.step st1).step st2).updNew E0 hD0, fD2, upd_same, das_app (keep_ds (st1.trans st2).keep _ _ dv) (.cons p2 .nil)⟩⟩
    have h1 := das_length dv
    have h2 := hc.length
    rw [List.length_take] at h2
    have : vs.length ≤ 100000 := by omega
    exact Nat.lt_of_le_of_lt this (by decide)
  | false =>
    rw [if_neg Bool.false_ne_true]
    have hsk : sk = true := by rcases hb with z | z; cases z; exact z
    exact nx _ ⟨ys, by rw [et]; exact hc.snocS hsk, F1, vs, st.trans st1, E.step st1, fD1, hD1, keep_ds st1.keep _ _ dv⟩
theorem pe_lcBX {wi : TI} (C : CxOk G k X) (hi : PI X tg iter wi) (ok : BlkOk X.N X.env.scope scope own) (B : BlkX G k X L own scope tg ifs elt xs P is Ps sk Y) (hs : ∀ x, foldedSetIterable iter X.env x = pure x) :
    PE X (.ListComp elt [⟨tg, iter, ifs, 0⟩] scope pos) (tLc wi (gAll xs fun x => tG (P x) is (Ps x)) (ttAll xs fun x => tPSk sk G.T (blkL L own is (Ps x))) (teAll xs (fun _ => true) fun x => tP G.T (blkL L own is (Ps x)) (isX (Y x))) (own.map (·.2))) :=
  pe_lc C.calm C.nd hi ok (fun s H Ca cl fp => pg_all fun x hx => B.tg x hx s H Ca cl fp (C.blk s H scope _ fp)) (fun s H Ca cl fp => pts_all fun x hx => B.test x hx s H Ca cl fp (C.blk s H scope _ fp))
    (fun s H Ca cl fp => pe_all fun x hx hf => B.elt x hx s H Ca cl fp (C.blk s H scope _ fp)) hs
theorem je_lcTX (hi : JE G k X L iter (isTupP (xs.map P))) (B : BlkX G k X L own scope tg ifs elt xs P is Ps sk Y) (hlen : xs.length ≤ 100000) (ok : blkC X.N X.env.scope scope own = true := by first | exact okc (by decide +kernel) | exact okb (by decide +kernel))  (hs : ∀ x, foldedSetIterable iter X.env x = pure x := by intro _; rfl) :
    JE G k X L (.ListComp elt [⟨tg, iter, ifs, 0⟩] scope pos) (isX fun d => ∃ ys, d = .list ys ∧ Coll sk Y xs ys) := fun C =>
  (pe_lcBX C (pi_tup (hi C)) (blkOk_by ok) B hs).imp fun σ H Q ⟨F, s, t, E, q⟩ => ⟨F, s, t, E, fun v F1 H1 st1 p1 => by
    obtain ⟨ad, vs, rfl, h1, h2⟩ := p1
    refine ⟨ad, rfl, ⟨vs, h1.sq st1.sub⟩, fun D hD => ?_⟩
    have hD0 : H D = none := st1.there s hD
    have E1 := E.step st1
    have hvl : vs.length = xs.length := by rw [allP_length h2, List.length_map]
    refine lc_tup (K := X.K) (a := ad) (xs := vs) (fun i H' => LcX G F1 H1 σ L D sk Y (xs.take i) H') ⟨[], by rw [List.take_zero]; exact .nil, lc_begin (ys := []) E1 (Step.refl st1.tab st1.sub) E1 hD hD⟩ (fun i H' _ ⟨_, _, F', vs', st', _⟩ => (h1.keep st'.keep).sq st'.sub) ?_ ?_
    · rintro i u H' hu hB
      obtain ⟨Pu, hPu, pu⟩ := allP_getV h2 hu
      rw [List.getElem?_map] at hPu
      cases hx : xs[i]? with
      | none => rw [hx] at hPu; cases hPu
      | some x =>
        rw [hx] at hPu
        cases hPu
        exact lc_turnX B hx (List.mem_of_getElem? hx) hlen E1 hD hB (fun F k => (P x).st k pu) fun _ h => h
    · rintro H' ⟨ys, hc, h⟩
      rw [hvl, List.take_length] at hc
      exact lc_done hD h fun v F' H' st' p => q v F' H' (st1.trans st') ⟨_, ⟨ys, rfl, hc⟩, p⟩⟩
theorem je_lcLX (hi : JE G k X L iter (isLstP (xs.map P))) (B : BlkX G k X L own scope tg ifs elt xs P is Ps sk Y) (hlen : xs.length ≤ 100000) (ok : blkC X.N X.env.scope scope own = true := by first | exact okc (by decide +kernel) | exact okb (by decide +kernel))  (hs : ∀ x, foldedSetIterable iter X.env x = pure x := by intro _; rfl) :
    JE G k X L (.ListComp elt [⟨tg, iter, ifs, 0⟩] scope pos) (isX fun d => ∃ ys, d = .list ys ∧ Coll sk Y xs ys) := fun C =>
  (pe_lcBX C (pi_list (hi C)) (blkOk_by ok) B hs).imp fun σ H Q ⟨F, s, t, E, q⟩ => ⟨F, s, t, E, fun v F1 H1 st1 p1 => by
    obtain ⟨ad, vs, rfl, h1, h2⟩ := p1
    refine ⟨ad, rfl, ⟨vs, SqL.of (st1.sub _ _ h1)⟩, fun D hD => ?_⟩
    have hD0 : H D = none := st1.there s hD
    have E1 := E.step st1
    have hvl : vs.length = xs.length := by rw [allP_length h2, List.length_map]
    refine lc_list (K := X.K) (a := ad) (xs := vs) (fun i H' => LcX G F1 H1 σ L D sk Y (xs.take i) H') ⟨[], by rw [List.take_zero]; exact .nil, lc_begin (ys := []) E1 (Step.refl st1.tab st1.sub) E1 hD hD⟩ (fun i H' _ ⟨_, _, F', vs', st', _⟩ => SqL.of (st'.sub _ _ (st'.keep.obj _ _ h1 trivial))) ?_ ?_
    · rintro i u H' hu hB
      obtain ⟨Pu, hPu, pu⟩ := allP_getV h2 hu
      rw [List.getElem?_map] at hPu
      cases hx : xs[i]? with
      | none => rw [hx] at hPu; cases hPu
      | some x =>
        rw [hx] at hPu
        cases hPu
        exact lc_turnX B hx (List.mem_of_getElem? hx) hlen E1 hD hB (fun F k => (P x).st k pu) fun _ h => h
    · rintro H' ⟨ys, hc, h⟩
      rw [hvl, List.take_length] at hc
      exact lc_done hD h fun v F' H' st' p => q v F' H' (st1.trans st') ⟨_, ⟨ys, rfl, hc⟩, p⟩⟩
/-- [e for x in range(drawn)] -/
theorem je_lcRX {m : Nat} {Ps : Nat → List SP} {Y : Nat → PyData → Prop} {p rpos : Pos} (hi : JE G k X L a (isX (belowS m))) (B : BlkX G k X L own scope tg [] elt (List.range m) (fun i : Nat => isI i) is Ps sk Y) (hm0 : m ≤ 100000) (hm : G.mg "range" = none) (hg : Gl X "range" := by rfl)
    (hs1 : starEach [a] X.env = [(false, eval a X.env)] := by rfl) (ok : blkC X.N X.env.scope scope own = true := by first | exact okc (by decide +kernel) | exact okb (by decide +kernel)) (hs : ∀ x, foldedSetIterable (.Call (.Name "range" p) [a] [] rpos) X.env x = pure x := by intro _; rfl) :
    JE G k X L (.ListComp elt [⟨tg, .Call (.Name "range" p) [a] [] rpos, [], 0⟩] scope pos) (isX fun d => ∃ n ys, n < m ∧ d = .list ys ∧ Coll sk Y (List.range n) ys) := fun C =>
  (pe_lcBX C (pi_range1 hg (by rw [C.mg]; exact hm) (pa_cons (hi C) pa_nil hs1) hs1) (blkOk_by ok) B hs).imp fun σ H Q ⟨F, s, t, E, q⟩ => ⟨F, s, t, E, fun v F1 H1 st1 p1 => by
    obtain ⟨d, ⟨n, hn, rfl⟩, p1⟩ := p1
    cases da_int p1
    refine ⟨n, rfl, by omega, by omega, fun D hD => ?_⟩
    have hD0 : H D = none := st1.there s hD
    have E1 := E.step st1
    refine lc_range (lo := 0) (n := (n : Int).toNat) (fun i H' => LcX G F1 H1 σ L D sk Y ((List.range n).take i) H') ⟨[], by rw [List.take_zero]; exact .nil, lc_begin (ys := []) E1 (Step.refl st1.tab st1.sub) E1 hD hD⟩ ?_ ?_
    · rintro i H' hu hB
      have hu' : i < n := by simpa using hu
      have hx : (List.range n)[i]? = some i := by rw [List.getElem?_range hu']
      have ez : (0 : Int) + (i : Int) = (i : Int) := by omega
      rw [ez]
      exact lc_turnX B hx (List.mem_range.mpr (by omega)) (by rw [List.length_range]; omega) E1 hD hB (fun F k => .int _) fun _ h => h
    · rintro H' ⟨ys, hc, h⟩
      rw [Int.toNat_natCast, List.take_of_length_le (by rw [List.length_range]; exact Nat.le_refl _)] at hc
      exact lc_done hD h fun v F' H' st' p => q v F' H' (st1.trans st') ⟨_, ⟨n, ys, hn, rfl, hc⟩, p⟩⟩
end
end K27
set_option maxHeartbeats 1000000
namespace K27
open PySem L2 LamX
local macro_rules | `(tactic| walk_at "norm") => `(tactic| refine JSs.norm (by dsimp only [setsL, wipeL, initL, List.set, List.map, List.append, List.replicate, List.length, HAppend.hAppend, Append.append]) ?_)
def base3 : List (Str × Str) := [("who", "text"), ("day", "integer"), ("paid", "integer")]
def tagL (b : Bool) : List (Str × Str) := if b then [("tag", "text")] else []
def colsOf (b : Bool) : List (Str × Str) := base3 ++ tagL b
def colsS (d : PyData) : Prop := ∃ b, d = .tuple ((colsOf b).map colD)
def boolS (d : PyData) : Prop := ∃ b : Bool, d = .bool b
theorem below_int {m : Nat} {d : PyData} (h : belowS m d) : SeqAt.shaped d = true := by obtain ⟨n, _, rfl⟩ := h; exact shaped_int _
section
variable {G : Gc}
theorem sc18 : FnScope ["_law_box", "_law_rows_here"] ["_law_box"] (defScope (top 18)) := ⟨rfl, rfl, rfl, by decide +kernel, rfl, by decide +kernel, by decide +kernel⟩
abbrev spColumns (G : Gc) : Sp := SpF G.T (fun _ : List Int => True) (fun ns => [isBox ns]) (fun _ => isX colsS)
theorem ok18 (B : Bt G) (hD : Fn G "_law_draw" 1 (spDraw G)) {f : Addr} {fd : FuncData} (F : Fun G.K "_law_columns" "_law_columns" (top 18) f fd) : FnOk G.P G.w G.K G.mg G.base CX0 2 f fd ["_law_box"] (spColumns G) := by
  refine fn_ok (k := 1) F sc18 (fun _ => rfl) ?_
  rintro ns _ cdv A outer s H E
  refine js_cons (js_asg 1 (P := isD (.list (base3.map colD))) (je_lst (ds := [colD ("who", "text"), colD ("day", "integer"), colD ("paid", "integer")]) (ja_cons (je_tup (ds := [.str "who", .str "text"]) (ja_cons je_str (ja_cons je_str ja_nil))) (ja_cons (je_tup (ds := [.str "day", .str "integer"]) (ja_cons je_str (ja_cons je_str ja_nil))) (ja_cons (je_tup (ds := [.str "paid", .str "integer"]) (ja_cons je_str (ja_cons je_str ja_nil))) ja_nil))))) ?_
  walk_at "norm"
  refine js_rt (je_tupleLX (S1 := fun d => ∃ b, d = .list ((colsOf b).map colD)) B.tuple (je_catX (S1 := fun d => d = .list (base3.map colD)) (S2 := fun d => ∃ b, d = .list ((tagL b).map colD)) (JE.x (je_var 1) rfl)
    (je_repX (S2 := fun d => ∃ n : Nat, n ≤ 1 ∧ d = .int n) (ds := [colD ("tag", "text")]) (je_lst (ds := [colD ("tag", "text")]) (ja_cons (je_tup (ds := [.str "tag", .str "text"]) (ja_cons je_str (ja_cons je_str ja_nil))) ja_nil)) (je_intX (S1 := boolS) B.int (je_eqX (S1 := belowS 3) (S2 := fun d => d = .int 0) (je_call hD (ns, 3) (Nat.succ_pos _) (ja_cons (je_var 0) (ja_cons je_int ja_nil))) (JE.x je_int rfl) (fun d e hd he => ⟨below_int hd, by rw [he]; exact shaped_int _, _, rfl⟩)) ?_) ?_) ?_) ?_)
  · rintro d ⟨b, rfl⟩
    exact .inr ⟨b, rfl, if b then 1 else 0, by cases b <;> decide, by cases b <;> rfl⟩
  · rintro e ⟨n, hn, rfl⟩
    refine ⟨n, rfl, by simp only [List.length_cons, List.length_nil]; omega, by omega, ?_⟩
    have : n = 0 ∨ n = 1 := by omega
    rcases this with rfl | rfl
    · exact ⟨false, rfl⟩
    · exact ⟨true, rfl⟩
  · rintro d e rfl ⟨b, rfl⟩
    refine ⟨_, _, rfl, rfl, by cases b <;> decide, b, ?_⟩
    unfold colsOf
    rw [List.map_append]
  · rintro d ⟨b, rfl⟩
    exact ⟨_, rfl, b, rfl⟩
/-! ### _law_value -/
def valS (kind : Str) (d : PyData) : Prop := d = .none ∨ (kind = "text" ∧ ∃ s, d = .str s ∧ PyData.strOk s = true) ∨ (kind = "integer" ∧ ∃ i, d = .int i)
theorem sc19 : FnScope ["_law_box", "_law_kind"] ["_law_box", "_law_kind"] (defScope (top 19)) := ⟨rfl, rfl, rfl, by decide +kernel, rfl, by decide +kernel, by decide +kernel⟩
abbrev spValue (G : Gc) : Sp := SpF G.T (fun i : List Int × Str => i.2 = "text" ∨ i.2 = "integer") (fun i => [isBox i.1, isS i.2]) (fun i => isX (valS i.2))
def intS (d : PyData) : Prop := ∃ i, d = .int i
theorem below_intS {m : Nat} {d : PyData} (h : belowS m d) : intS d := by obtain ⟨n, _, rfl⟩ := h; exact ⟨_, rfl⟩
theorem all2_3 {S1 S2 S3 : PyData → Prop} {ds : List PyData} (h : All2 [S1, S2, S3] ds) : ∃ a b c, ds = [a, b, c] ∧ S1 a ∧ S2 b ∧ S3 c := by
  cases h with
  | cons h1 t => cases t with
    | cons h2 t => cases t with
      | cons h3 t => cases t; exact ⟨_, _, _, rfl, h1, h2, h3⟩
theorem all2_2 {S1 S2 : PyData → Prop} {ds : List PyData} (h : All2 [S1, S2] ds) : ∃ a b, ds = [a, b] ∧ S1 a ∧ S2 b := by
  cases h with
  | cons h1 t => cases t with
    | cons h2 t => cases t; exact ⟨_, _, rfl, h1, h2⟩
theorem ok19 (B : Bt G) (hD : Fn G "_law_draw" 1 (spDraw G)) {f : Addr} {fd : FuncData} (F : Fun G.K "_law_value" "_law_value" (top 19) f fd) : FnOk G.P G.w G.K G.mg G.base CX0 2 f fd ["_law_box", "_law_kind"] (spValue G) := by
  refine fn_ok (k := 1) F sc19 (fun _ => rfl) ?_
  rintro ⟨ns, kind⟩ hk cdv A outer s H E
  dsimp only at *
  refine js_cons (js_ifB (jb_eq (S1 := belowS 6) (S2 := fun d => d = .int 0) (je_call hD (ns, 6) (Nat.succ_pos _) (ja_cons (je_var 0) (ja_cons je_int ja_nil))) (JE.x je_int rfl) (fun d e hd he => ⟨below_int hd, by rw [he]; exact shaped_int _⟩)) (js_rt (JE.x je_none (.inl rfl))) js_nil) ?_
  by_cases ht : kind = "text"
  · subst ht
    refine js_end (js_if (JT.is (d' := true) (jt_eq (d := .str "text") (by decide +kernel) (by decide +kernel) (je_var 1) je_str) (by decide +kernel)) (fun _ => js_rt (je_ixX (S1 := fun d => d = .list [.str "ann", .str "bob", .str "c", .str ""]) (S2 := belowS 4) (JE.x (je_lst (ds := [.str "ann", .str "bob", .str "c", .str ""]) (ja_cons je_str (ja_cons je_str (ja_cons je_str (ja_cons je_str ja_nil))))) rfl) (je_call hD (ns, 4) (Nat.succ_pos _) (ja_cons (je_var 0) (ja_cons je_int ja_nil))) ?_)) no_ft)
    rintro d e rfl ⟨n, hn, rfl⟩
    have : n = 0 ∨ n = 1 ∨ n = 2 ∨ n = 3 := by omega
    rcases this with rfl | rfl | rfl | rfl <;> exact ⟨_, _, _, rfl, rfl, atI_nat rfl, .inr (.inl ⟨rfl, _, rfl, by decide +kernel⟩)⟩
  · have hi : kind = "integer" := by rcases hk with h | h; exact absurd h ht; exact h
    subst hi
    refine js_cons (js_if (JT.is (d' := false) (jt_eq (d := .str "integer") (by decide +kernel) (by decide +kernel) (je_var 1) je_str) (by decide +kernel)) no_tf fun _ => js_nil) (js_rt ?_)
    refine je_ixX (S1 := fun d => ∃ ds, d = .list ds ∧ All2 [intS, intS, intS] ds) (S2 := belowS 3) (je_lstX (Ss := [intS, intS, intS]) (ja_cons ((je_call hD (ns, 6) (Nat.succ_pos _) (ja_cons (je_var 0) (ja_cons je_int ja_nil))).xx fun d h => below_intS h) (ja_cons (je_subX (S1 := intS) (S2 := intS) ((je_call hD (ns, 6) (Nat.succ_pos _) (ja_cons (je_var 0) (ja_cons je_int ja_nil))).xx fun d h => below_intS h) (JE.x je_int ⟨_, rfl⟩) (fun d e ⟨i, h1⟩ ⟨j, h2⟩ => ⟨i, j, h1, h2, _, rfl⟩))
      (ja_cons (je_subX (S1 := intS) (S2 := intS) ((je_call hD (ns, 40) (Nat.succ_pos _) (ja_cons (je_var 0) (ja_cons je_int ja_nil))).xx fun d h => below_intS h) (JE.x je_int ⟨_, rfl⟩) (fun d e ⟨i, h1⟩ ⟨j, h2⟩ => ⟨i, j, h1, h2, _, rfl⟩)) ja_nil)))) (je_call hD (ns, 3) (Nat.succ_pos _) (ja_cons (je_var 0) (ja_cons je_int ja_nil))) ?_
    rintro d e ⟨ds, rfl, ha⟩ ⟨n, hn, rfl⟩
    obtain ⟨a, b, c, rfl, ⟨i, rfl⟩, ⟨j, rfl⟩, ⟨l, rfl⟩⟩ := all2_3 ha
    have : n = 0 ∨ n = 1 ∨ n = 2 := by omega
    rcases this with rfl | rfl | rfl <;> exact ⟨_, _, _, rfl, rfl, atI_nat rfl, .inr (.inr ⟨rfl, _, rfl⟩)⟩
/-! ### _law_pick -/
theorem sc20 : FnScope ["_law_box", "_law_rows_here"] ["_law_box", "_law_rows_here"] (defScope (top 20)) := ⟨rfl, rfl, rfl, by decide +kernel, rfl, by decide +kernel, by decide +kernel⟩
abbrev spPick (G : Gc) : Sp := SpF G.T (fun i : List Int × List PyData => 0 < i.2.length) (fun i => [isBox i.1, isD (.list i.2)]) (fun i => isX (· ∈ i.2))
theorem ok20 (B : Bt G) (hD : Fn G "_law_draw" 1 (spDraw G)) {f : Addr} {fd : FuncData} (F : Fun G.K "_law_pick" "_law_pick" (top 20) f fd) : FnOk G.P G.w G.K G.mg G.base CX0 2 f fd ["_law_box", "_law_rows_here"] (spPick G) := by
  refine fn_ok (k := 1) F sc20 (fun _ => rfl) ?_
  rintro ⟨ns, rows⟩ hl cdv A outer s H E
  dsimp only at *
  refine js_rt (je_ixX (S1 := fun d => d = .list rows) (S2 := belowS rows.length) (JE.x (je_var 1) rfl) (je_modX (S1 := intS) (S2 := fun d => d = .int (rows.length : Nat)) (je_intX (S1 := belowS 90) B.int (je_call hD (ns, 90) (Nat.succ_pos _) (ja_cons (je_var 0) (ja_cons je_int ja_nil))) (fun d h => by
    obtain ⟨i, e⟩ := below_intS h
    exact .inl ⟨i, e, i, rfl⟩)) (JE.x (je_lenL B.len (je_var 1)) rfl) ?_) ?_)
  · rintro d e ⟨i, rfl⟩ rfl
    exact ⟨i, _, rfl, rfl, by omega, below_mod hl⟩
  · rintro d e rfl ⟨n, hn, rfl⟩
    exact ⟨rows, n, rows[n], rfl, rfl, atI_nat (List.getElem?_eq_getElem hn), List.getElem_mem hn⟩
/-! ### _law_bound -/
def bndS (first : Bool) (d : PyData) : Prop := ∃ b : Bnd, d = b.D ∧ (first = true → b ≠ .ende) ∧ (first = false → b ≠ .start)
theorem sc21 : FnScope ["_law_box", "_law_first", "_law_kind"] ["_law_box", "_law_first"] (defScope (top 21)) := ⟨rfl, rfl, rfl, by decide +kernel, rfl, by decide +kernel, by decide +kernel⟩
abbrev spBound (G : Gc) : Sp := SpF G.T (fun i : List Int × Bool => True) (fun i => [isBox i.1, isB i.2]) (fun i => isX (bndS i.2))
theorem ok21 (B : Bt G) (hD : Fn G "_law_draw" 1 (spDraw G)) {f : Addr} {fd : FuncData} (F : Fun G.K "_law_bound" "_law_bound" (top 21) f fd) : FnOk G.P G.w G.K G.mg G.base CX0 2 f fd ["_law_box", "_law_first"] (spBound G) := by
  refine fn_ok (k := 1) F sc21 (fun _ => rfl) ?_
  rintro ⟨ns, first⟩ _ cdv A outer s H E
  dsimp only at *
  refine js_cons (js_asg 2 (je_call hD (ns, 4) (Nat.succ_pos _) (ja_cons (je_var 0) (ja_cons je_int ja_nil)))) ?_
  walk_at "norm"
  refine js_ex 2 (S := belowS 4) fun d ⟨n, hn, hd⟩ => ?_
  subst hd
  walk_at "norm"
  by_cases h0 : n = 0
  · subst h0
    refine js_end (js_if (JT.is (d' := true) (jt_eq (shaped_int _) (shaped_int _) (je_var 2) je_int) (by decide +kernel)) (fun _ => js_rt ?_) no_ft)
    cases first with
    | true => exact JE.x (d := Bnd.start.D) (je_ixL (n := 1) (atI_nat (j := 1) rfl) (je_lst (ds := [Bnd.ende.D, Bnd.start.D]) (ja_cons (je_tup (ds := [.str "end"]) (ja_cons je_str ja_nil)) (ja_cons (je_tup (ds := [.str "start"]) (ja_cons je_str ja_nil)) ja_nil))) (je_intB (i := true) B.int (je_var 1))) ⟨.start, rfl, fun _ => (by simp), fun h => (by cases h)⟩
    | false => exact JE.x (d := Bnd.ende.D) (je_ixL (n := 0) (atI_nat (j := 0) rfl) (je_lst (ds := [Bnd.ende.D, Bnd.start.D]) (ja_cons (je_tup (ds := [.str "end"]) (ja_cons je_str ja_nil)) (ja_cons (je_tup (ds := [.str "start"]) (ja_cons je_str ja_nil)) ja_nil))) (je_intB (i := false) B.int (je_var 1))) ⟨.ende, rfl, fun h => (by cases h), fun _ => (by simp)⟩
  refine js_cons (js_if (JT.is (d' := false) (jt_eq (shaped_int _) (shaped_int _) (je_var 2) je_int) (by rw [eqv_int]; exact decide_eq_false (by omega))) no_tf fun _ => js_nil) ?_
  by_cases h1 : n = 1
  · subst h1
    exact js_end (js_if (JT.is (d' := true) (jt_eq (shaped_int _) (shaped_int _) (je_var 2) je_int) (by decide +kernel)) (fun _ => js_rt (JE.x (d := Bnd.current.D) (je_tup (ds := [.str "current"]) (ja_cons je_str ja_nil)) ⟨.current, rfl, fun _ => (by simp), fun _ => (by simp)⟩)) no_ft)
  refine js_cons (js_if (JT.is (d' := false) (jt_eq (shaped_int _) (shaped_int _) (je_var 2) je_int) (by rw [eqv_int]; exact decide_eq_false (by omega))) no_tf fun _ => js_nil) (js_rt ?_)
  refine (je_tupX (Ss := [fun d => d = .str "before" ∨ d = .str "after", intS]) (ja_cons (je_ixX (S1 := fun d => d = .list [.str "before", .str "after"]) (S2 := belowS 2) (JE.x (je_lst (ds := [.str "before", .str "after"]) (ja_cons je_str (ja_cons je_str ja_nil))) rfl) (je_call hD (ns, 2) (Nat.succ_pos _) (ja_cons (je_var 0) (ja_cons je_int ja_nil))) ?_) (ja_cons ((je_call hD (ns, 4) (Nat.succ_pos _) (ja_cons (je_var 0) (ja_cons je_int ja_nil))).xx fun d h => below_intS h) ja_nil))).xx ?_
  · rintro d e rfl ⟨n, hn, rfl⟩
    have : n = 0 ∨ n = 1 := by omega
    rcases this with rfl | rfl
    · exact ⟨_, _, _, rfl, rfl, atI_nat rfl, .inl rfl⟩
    · exact ⟨_, _, _, rfl, rfl, atI_nat rfl, .inr rfl⟩
  · rintro d ⟨ds, rfl, ha⟩
    obtain ⟨a, b, rfl, h1, i, rfl⟩ := all2_2 ha
    rcases h1 with rfl | rfl
    · exact ⟨.before i, rfl, fun _ => (by simp), fun _ => (by simp)⟩
    · exact ⟨.after i, rfl, fun _ => (by simp), fun _ => (by simp)⟩
/-! ### _law_cells, _law_rows -/
def KindOk (cols : List (Str × Str)) : Prop := cols.length ≤ 100 ∧ ∀ c ∈ cols, c.2 = "text" ∨ c.2 = "integer"
def cellsS (cols : List (Str × Str)) (d : PyData) : Prop := ∃ ds, d = .tuple ds ∧ Coll false (fun c => valS c.2) cols ds
theorem sc24 : FnScope ["_law_box", "_law_columns_here", "_law_name", "_law_kind"] ["_law_box", "_law_columns_here"] (defScope (top 24)) := ⟨rfl, rfl, rfl, by decide +kernel, rfl, by decide +kernel, by decide +kernel⟩
abbrev spCells (G : Gc) : Sp := SpF G.T (fun i : List Int × List (Str × Str) => KindOk i.2) (fun i => [isBox i.1, isD (.tuple (i.2.map colD))]) (fun i => isX (cellsS i.2))
theorem ok24 (B : Bt G) (hV : Fn G "_law_value" 2 (spValue G)) {f : Addr} {fd : FuncData} (F : Fun G.K "_law_cells" "_law_cells" (top 24) f fd) : FnOk G.P G.w G.K G.mg G.base CX0 3 f fd ["_law_box", "_law_columns_here"] (spCells G) := by
  refine fn_ok (k := 2) F sc24 (fun _ => rfl) ?_
  rintro ⟨ns, cols⟩ hk cdv A outer s H E
  dsimp only at *
  refine js_rt (je_tupleLX (S1 := fun d => ∃ ys, d = .list ys ∧ Coll false (fun c : Str × Str => valS c.2) cols ys) B.tuple (je_lcTX (xs := cols) (P := fun c => isD (colD c)) (own := [("_law_name", 2), ("_law_kind", 3)]) (is := [2, 3]) (Ps := fun c => [isS c.1, isS c.2]) (je_seqT (d := colD) (je_var 1) rfl)
    (blkX0 (by decide) (fun x hx s H C cl fp => jg_tupD (jgs_name 2 (jgs_name 3 jgs_nil))) fun x hx s H C cl fp => je_call hV (ns, x.2) (hk.2 x hx) (ja_cons (je_var 0) (ja_cons (je_var 3) ja_nil))) (Nat.le_trans hk.1 (by decide))) ?_)
  rintro d ⟨ys, rfl, hc⟩
  exact ⟨ys, rfl, ys, rfl, hc⟩
def rowY (cols : List (Str × Str)) (n : Nat) (d : PyData) : Prop := ∃ (id : Int) (ds : List PyData), d = .tuple [.int id, .tuple ds] ∧ (id = 2 * (n : Int) + 1 ∨ id = 2 * (n : Int) + 2) ∧ Coll false (fun c => valS c.2) cols ds
def rowsS (cols : List (Str × Str)) (most : Nat) (d : PyData) : Prop := ∃ n ys, n < most + 1 ∧ d = .tuple ys ∧ Coll false (rowY cols) (List.range n) ys
theorem sc25 : FnScope ["_law_box", "_law_columns_here", "_law_most", "_law_k"] ["_law_box", "_law_columns_here", "_law_most"] (defScope (top 25)) := ⟨rfl, rfl, rfl, by decide +kernel, rfl, by decide +kernel, by decide +kernel⟩
abbrev spRows (G : Gc) : Sp := SpF G.T (fun i : List Int × List (Str × Str) × Nat => KindOk i.2.1 ∧ i.2.2 ≤ 100) (fun i => [isBox i.1, isD (.tuple (i.2.1.map colD)), isI (i.2.2 : Nat)]) (fun i => isX (rowsS i.2.1 i.2.2))
theorem ok25 (B : Bt G) (hD : Fn G "_law_draw" 1 (spDraw G)) (hC : Fn G "_law_cells" 3 (spCells G)) {f : Addr} {fd : FuncData} (F : Fun G.K "_law_rows" "_law_rows" (top 25) f fd) : FnOk G.P G.w G.K G.mg G.base CX0 4 f fd ["_law_box", "_law_columns_here", "_law_most"] (spRows G) := by
  refine fn_ok (k := 3) F sc25 (fun _ => rfl) ?_
  rintro ⟨ns, cols, most⟩ ⟨hk, hm⟩ cdv A outer s H E
  dsimp only at *
  refine js_rt (je_tupleLX (S1 := fun d => ∃ n ys, n < most + 1 ∧ d = .list ys ∧ Coll false (rowY cols) (List.range n) ys) B.tuple (je_lcRX (m := most + 1) (own := [("_law_k", 3)]) (is := [3]) (Ps := fun i : Nat => [isI i]) (je_call hD (ns, most + 1) (Nat.succ_pos _) (ja_cons (je_var 0) (ja_cons (JE.is (je_add (je_var 2) je_int) (by simp)) ja_nil)))
    (blkX0 (by decide) (fun x hx s H C cl fp => jg_name 3) fun x hx s H C cl fp => (je_tupX (Ss := [fun d => d = .int (2 * (x : Int) + 1) ∨ d = .int (2 * (x : Int) + 2), cellsS cols]) (ja_cons (je_addX (S1 := fun d => d = .int (2 * (x : Int) + 1)) (S2 := belowS 2) (JE.x (je_add (je_mul (.inr ⟨by decide, by decide⟩) (je_intI B.int (je_var 3)) je_int) je_int) (by rw [Int.mul_comm])) (je_call hD (ns, 2) (Nat.succ_pos _) (ja_cons (je_var 0) (ja_cons je_int ja_nil))) ?_) (ja_cons (je_call hC (ns, cols) hk (ja_cons (je_var 0) (ja_cons (je_var 1) ja_nil))) ja_nil))).xx ?_) (by omega) B.range) ?_)
  · rintro d e rfl ⟨n, hn, rfl⟩
    refine ⟨_, _, rfl, rfl, ?_⟩
    have : n = 0 ∨ n = 1 := by omega
    rcases this with rfl | rfl
    · left; congr 1
    · right; congr 1
  · rintro d ⟨ds, rfl, ha⟩
    obtain ⟨a, b, rfl, h1, ds, rfl, hc⟩ := all2_2 ha
    rcases h1 with rfl | rfl
    · exact ⟨_, ds, rfl, .inl rfl, hc⟩
    · exact ⟨_, ds, rfl, .inr rfl, hc⟩
  · rintro d ⟨n, ys, hn, rfl, hc⟩
    exact ⟨ys, rfl, n, ys, hn, rfl, hc⟩
end
end K27
namespace K27
open PySem L2 LamX
local macro_rules | `(tactic| walk_at "norm") => `(tactic| refine JSs.norm (by dsimp only [setsL, wipeL, initL, List.set, List.map, List.append, List.replicate, List.length, HAppend.hAppend, Append.append]) ?_)
def kindsK (cols : List (Str × Str)) : List (Key × PyData) := cols.map fun c => (.inr c.1, .str c.2)
def txtN (n : Str) : Bool := decide (n = "who") || decide (n = "tag")
theorem has_mem {cols : List (Str × Str)} {n : Str} : has cols n = true ↔ n ∈ cols.map (·.1) := by
  unfold has
  rw [List.any_map, List.any_eq_true, List.mem_map]
  constructor
  · rintro ⟨c, h1, h2⟩
    have h2 : PyData.eqv (.str c.1) (.str n) = true := h2
    rw [PyData.eqv] at h2
    exact ⟨c, h1, eq_of_beq h2⟩
  · rintro ⟨c, h1, rfl⟩
    refine ⟨c, h1, ?_⟩
    show PyData.eqv (.str c.1) (.str c.1) = true
    rw [PyData.eqv]
    exact beq_self_eq_true _
theorem names_of {b : Bool} {n : Str} (h : has (colsOf b) n = true) : n = "who" ∨ n = "day" ∨ n = "paid" ∨ (b = true ∧ n = "tag") := by
  have h := has_mem.mp h
  cases b with
  | true => simpa [colsOf, base3, tagL] using h
  | false => simpa [colsOf, base3, tagL] using h
theorem kind_val {b : Bool} {n : Str} (h : has (colsOf b) n = true) : ∃ kd, valD (kindsK (colsOf b)) (.inr n) = some (.str kd) ∧ ((txtN n = true ∧ kd = "text") ∨ (txtN n = false ∧ kd = "integer")) := by
  rcases names_of h with rfl | rfl | rfl | ⟨rfl, rfl⟩
  · exact ⟨"text", by cases b <;> rfl, .inl ⟨by decide +kernel, rfl⟩⟩
  · exact ⟨"integer", by cases b <;> rfl, .inr ⟨by decide +kernel, rfl⟩⟩
  · exact ⟨"integer", by cases b <;> rfl, .inr ⟨by decide +kernel, rfl⟩⟩
  · exact ⟨"text", rfl, .inl ⟨by decide +kernel, rfl⟩⟩
theorem all2_4 {S1 S2 S3 S4 : PyData → Prop} {ds : List PyData} (h : All2 [S1, S2, S3, S4] ds) : ∃ a b c d, ds = [a, b, c, d] ∧ S1 a ∧ S2 b ∧ S3 c ∧ S4 d := by
  cases h with
  | cons h1 t => cases t with
    | cons h2 t => cases t with
      | cons h3 t => cases t with
        | cons h4 t => cases t; exact ⟨_, _, _, _, rfl, h1, h2, h3, h4⟩
def untS (d : PyData) : Prop := ∃ u : Unt, d = .str u.w
def excS (d : PyData) : Prop := ∃ u : Exc, d = .str u.w
def bdsS (t : Bool) (d : PyData) : Prop := ∃ lo hi : Bnd, d = .list [lo.D, hi.D] ∧ lo ≠ .ende ∧ hi ≠ .start ∧ (t = true → lo.dist = false ∧ hi.dist = false)
def frmS (order : List (Str × Bool)) (d : PyData) : Prop := ∃ f : Frm, d = f.D ∧ f.lo ≠ .ende ∧ f.hi ≠ .start ∧ (f.unit = .range → (f.lo.dist || f.hi.dist) = true → ∃ o, order = [o] ∧ txtN o.1 = false)
structure IFr where
  ns : List Int
  b : Bool
  order : List (Str × Bool)
structure IFr.Ok (i : IFr) : Prop where
  len : i.order.length ≤ 100
  h : ∀ o ∈ i.order, has (colsOf i.b) o.1 = true
section
variable {G : Gc}
theorem sc22 : FnScope ["_law_box", "_law_keys", "_law_kinds", "_law_unit", "_law_bounds"] ["_law_box", "_law_keys", "_law_kinds"] (defScope (top 22)) := ⟨rfl, rfl, rfl, by decide +kernel, rfl, by decide +kernel, by decide +kernel⟩
abbrev spFrame (G : Gc) : Sp := SpF G.T (fun i : IFr => i.Ok) (fun i => [isBox i.ns, isD (.tuple (i.order.map ordD)), isDic (kindsK (colsOf i.b))]) (fun i => isX (frmS i.order))
theorem ok22 (B : Bt G) (hD : Fn G "_law_draw" 1 (spDraw G)) (hB : Fn G "_law_bound" 2 (spBound G)) {f : Addr} {fd : FuncData} (F : Fun G.K "_law_frame" "_law_frame" (top 22) f fd) : FnOk G.P G.w G.K G.mg G.base CX0 3 f fd ["_law_box", "_law_keys", "_law_kinds"] (spFrame G) := by
  refine fn_ok (k := 2) F sc22 (fun _ => rfl) ?_
  rintro ⟨ns, b, order⟩ ⟨hl, hh⟩ cdv A outer s H E
  dsimp only at *
  refine js_cons (js_asg 3 (P := isX untS) (je_ixX (S1 := fun d => d = .list [.str "rows", .str "range", .str "groups"]) (S2 := belowS 3) (JE.x (je_lst (ds := [.str "rows", .str "range", .str "groups"]) (ja_cons je_str (ja_cons je_str (ja_cons je_str ja_nil)))) rfl) (je_call hD (ns, 3) (Nat.succ_pos _) (ja_cons (je_var 0) (ja_cons je_int ja_nil))) ?_)) ?_
  · rintro d e rfl ⟨n, hn, rfl⟩
    have : n = 0 ∨ n = 1 ∨ n = 2 := by omega
    rcases this with rfl | rfl | rfl
    · exact ⟨_, _, _, rfl, rfl, atI_nat rfl, .rows, rfl⟩
    · exact ⟨_, _, _, rfl, rfl, atI_nat rfl, .range, rfl⟩
    · exact ⟨_, _, _, rfl, rfl, atI_nat rfl, .groups, rfl⟩
  walk_at "norm"
  refine js_ex 3 (S := untS) fun d ⟨u, hd⟩ => ?_
  subst hd
  walk_at "norm"
  refine js_cons (js_asg 4 (P := isX (bdsS false)) ((je_lstX (Ss := [bndS true, bndS false]) (ja_cons (je_call hB (ns, true) trivial (ja_cons (je_var 0) (ja_cons je_bool ja_nil))) (ja_cons (je_call hB (ns, false) trivial (ja_cons (je_var 0) (ja_cons je_bool ja_nil))) ja_nil))).xx ?_)) ?_
  · rintro d ⟨ds, rfl, ha⟩
    obtain ⟨_, _, rfl, ⟨lo, rfl, h1, _⟩, ⟨hi, rfl, _, h2⟩⟩ := all2_2 ha
    exact ⟨lo, hi, rfl, h1 rfl, h2 rfl, fun z => (by cases z)⟩
  walk_at "norm"
  have hlen : ((order.map ordD).length : Int) = (order.length : Nat) := by rw [List.length_map]
  obtain ⟨t, ht1, ht2⟩ : ∃ t : Bool, (t = false → u = .range → ∃ o, order = [o] ∧ txtN o.1 = false) ∧
      JT G 2 (defCx G ["_law_box", "_law_keys", "_law_kinds", "_law_unit", "_law_bounds"] "_law_frame" (top 22) f cdv A outer s H E) [.p (isBox ns), .p (isD (.tuple (order.map ordD))), .p (isDic (kindsK (colsOf b))), .p (isD (.str u.w)), .p (isX (bdsS false))] (match (defBody (top 22)).getD 2 (.Pass ⟨0, 0, 0, 0⟩) with | .If c _ _ _ => c | _ => .Constant .none 0 ⟨0, 0, 0, 0⟩) t := by
    by_cases hu : u = .range
    · subst hu
      have j0 : ∀ {t : Bool}, (t = true → t = true) := fun h => h
      by_cases h1 : order.length = 1
      · obtain ⟨o, rfl⟩ : ∃ o, order = [o] := by
          cases order with
          | nil => simp at h1
          | cons o r => cases r with
            | nil => exact ⟨o, rfl⟩
            | cons _ _ => simp at h1
        obtain ⟨kd, e1, e2⟩ := kind_val (hh o (List.mem_singleton.mpr rfl))
        refine ⟨txtN o.1, fun h _ => ⟨o, rfl, h⟩, ?_⟩
        refine JT.is (d := true && (false || txtN o.1)) (jw_pt (jw_and (JT.is (d' := true) (jt_eq (d := .str Unt.range.w) (by decide +kernel) (by decide +kernel) (je_var 3) je_str) (by decide +kernel)) fun _ => jw_and1 (jw_pt (jw_or (JT.is (d' := false) (jt_ne (shaped_int _) (shaped_int _) (je_lenT B.len (je_var 1)) je_int) (by rfl)) fun _ => jw_or1 (JT.is (d' := txtN o.1) (jt_eq (d := .str kd) (by rcases e2 with ⟨_, rfl⟩ | ⟨_, rfl⟩ <;> decide +kernel) (by decide +kernel) (je_dget (key := .inr o.1) rfl e1 (je_var 2) (je_ixT (atI_nat (j := 0) rfl) (je_ixT (d := ordD o) (atI_nat (j := 0) rfl) (je_var 1) je_int) je_int)) je_str) ?_))))) (by simp)
        rcases e2 with ⟨e2, rfl⟩ | ⟨e2, rfl⟩ <;> rw [e2] <;> decide +kernel
      · refine ⟨true, fun h => (by cases h), ?_⟩
        refine JT.is (d := true && (true || false)) (jw_pt (jw_and (JT.is (d' := true) (jt_eq (d := .str Unt.range.w) (by decide +kernel) (by decide +kernel) (je_var 3) je_str) (by decide +kernel)) fun _ => jw_and1 (jw_pt (jw_or (JT.is (d' := true) (jt_ne (shaped_int _) (shaped_int _) (je_lenT B.len (je_var 1)) je_int) (by rw [eqv_int, hlen]; simp; omega)) no_ft)))) rfl
    · refine ⟨false, fun _ h => absurd h hu, ?_⟩
      exact JT.is (d := false && false) (jw_pt (jw_and (JT.is (d' := false) (jt_eq (d := .str u.w) (by cases u <;> decide +kernel) (by decide +kernel) (je_var 3) je_str) (by cases u <;> first | exact absurd rfl hu | decide +kernel)) no_tf)) rfl
  refine js_cons (L1 := [.p (isBox ns), .p (isD (.tuple (order.map ordD))), .p (isDic (kindsK (colsOf b))), .p (isD (.str u.w)), .p (isX (bdsS t))]) (js_if ht2 (fun h => ?_) (fun h => ?_)) ?_
  · subst h
    refine js_cons (js_asg 4 (P := isX (bdsS true)) ((je_lstX (Ss := [fun d => ∃ b : Bnd, d = b.D ∧ b ≠ .ende ∧ b.dist = false, fun d => ∃ b : Bnd, d = b.D ∧ b ≠ .start ∧ b.dist = false]) (ja_cons (je_ixX (S1 := fun d => d = .list [Bnd.start.D, Bnd.current.D]) (S2 := belowS 2) (JE.x (je_lst (ds := [Bnd.start.D, Bnd.current.D]) (ja_cons (je_tup (ds := [.str "start"]) (ja_cons je_str ja_nil)) (ja_cons (je_tup (ds := [.str "current"]) (ja_cons je_str ja_nil)) ja_nil))) rfl) (je_call hD (ns, 2) (Nat.succ_pos _) (ja_cons (je_var 0) (ja_cons je_int ja_nil))) ?_)
      (ja_cons (je_ixX (S1 := fun d => d = .list [Bnd.current.D, Bnd.ende.D]) (S2 := belowS 2) (JE.x (je_lst (ds := [Bnd.current.D, Bnd.ende.D]) (ja_cons (je_tup (ds := [.str "current"]) (ja_cons je_str ja_nil)) (ja_cons (je_tup (ds := [.str "end"]) (ja_cons je_str ja_nil)) ja_nil))) rfl) (je_call hD (ns, 2) (Nat.succ_pos _) (ja_cons (je_var 0) (ja_cons je_int ja_nil))) ?_) ja_nil))).xx ?_)) js_nil
    · rintro d e rfl ⟨n, hn, rfl⟩
      have : n = 0 ∨ n = 1 := by omega
      rcases this with rfl | rfl
      · exact ⟨_, _, _, rfl, rfl, atI_nat rfl, .start, rfl, (by simp), rfl⟩
      · exact ⟨_, _, _, rfl, rfl, atI_nat rfl, .current, rfl, (by simp), rfl⟩
    · rintro d e rfl ⟨n, hn, rfl⟩
      have : n = 0 ∨ n = 1 := by omega
      rcases this with rfl | rfl
      · exact ⟨_, _, _, rfl, rfl, atI_nat rfl, .current, rfl, (by simp), rfl⟩
      · exact ⟨_, _, _, rfl, rfl, atI_nat rfl, .ende, rfl, (by simp), rfl⟩
    · rintro d ⟨ds, rfl, ha⟩
      obtain ⟨_, _, rfl, ⟨lo, rfl, h1, h2⟩, ⟨hi, rfl, h3, h4⟩⟩ := all2_2 ha
      exact ⟨lo, hi, rfl, h1, h3, fun _ => ⟨h2, h4⟩⟩
  · subst h
    exact js_nil
  refine js_ex 4 (S := bdsS t) fun d ⟨lo, hi, hd, h1, h2, h3⟩ => ?_
  subst hd
  walk_at "norm"
  refine js_rt ((je_tupX (Ss := [fun d => d = .str u.w, fun d => d = lo.D, fun d => d = hi.D, excS]) (ja_cons (JE.x (je_var 3) rfl) (ja_cons (JE.x (je_ixL (atI_nat (j := 0) rfl) (je_var 4) je_int) rfl) (ja_cons (JE.x (je_ixL (atI_nat (j := 1) rfl) (je_var 4) je_int) rfl) (ja_cons (je_ixX (S1 := fun d => d = .list [.str "nothing", .str "nothing", .str "current", .str "group", .str "ties"]) (S2 := belowS 5) (JE.x (je_lst (ds := [.str "nothing", .str "nothing", .str "current", .str "group", .str "ties"]) (ja_cons je_str (ja_cons je_str (ja_cons je_str (ja_cons je_str (ja_cons je_str ja_nil)))))) rfl) (je_call hD (ns, 5) (Nat.succ_pos _) (ja_cons (je_var 0) (ja_cons je_int ja_nil))) ?_) ja_nil))))).xx ?_)
  · rintro d e rfl ⟨n, hn, rfl⟩
    have : n = 0 ∨ n = 1 ∨ n = 2 ∨ n = 3 ∨ n = 4 := by omega
    rcases this with rfl | rfl | rfl | rfl | rfl
    · exact ⟨_, _, _, rfl, rfl, atI_nat rfl, .nothing, rfl⟩
    · exact ⟨_, _, _, rfl, rfl, atI_nat rfl, .nothing, rfl⟩
    · exact ⟨_, _, _, rfl, rfl, atI_nat rfl, .current, rfl⟩
    · exact ⟨_, _, _, rfl, rfl, atI_nat rfl, .group, rfl⟩
    · exact ⟨_, _, _, rfl, rfl, atI_nat rfl, .ties, rfl⟩
  · rintro d ⟨ds, rfl, ha⟩
    obtain ⟨_, _, _, _, rfl, rfl, rfl, rfl, ex, rfl⟩ := all2_4 ha
    refine ⟨⟨u, lo, hi, ex⟩, rfl, h1, h2, fun hu hdd => ?_⟩
    dsimp only at hu hdd
    cases t with
    | true => obtain ⟨q1, q2⟩ := h3 rfl; rw [q1, q2] at hdd; cases hdd
    | false => exact ht1 rfl hu
end
end K27
namespace K27
open PySem L2 LamX
local macro_rules | `(tactic| walk_at "norm") => `(tactic| refine JSs.norm (by dsimp only [setsL, wipeL, initL, List.set, List.map, List.append, List.replicate, List.length, HAppend.hAppend, Append.append]) ?_)
def fncS (d : PyData) : Prop := ∃ fn : Fnc, d = .str fn.w
def Fnc.noCol : Fnc → Bool
  | .number | .rank | .dense | .tile | .size => true
  | _ => false
def Fnc.sumMed : Fnc → Bool
  | .sum | .median => true
  | _ => false
def Fnc.tn : Fnc → Bool
  | .tile | .nth => true
  | _ => false
def Fnc.ll : Fnc → Bool
  | .lag | .lead => true
  | _ => false
def colS (b : Bool) (fn : Fnc) (d : PyData) : Prop := ∃ col : Option Str, d = oS col ∧ (∀ c, col = some c → has (colsOf b) c = true) ∧ (fn.noCol = false → ∃ c, col = some c) ∧ (fn = .sum → ∀ c, col = some c → txtN c = false)
def numS (fn : Fnc) (d : PyData) : Prop := ∃ num : Option Int, d = oI num ∧ (fn = .tile → ∃ n, num = some n ∧ 1 ≤ n ∧ n ≤ 100) ∧ (fn = .lag ∨ fn = .lead → ∃ n, num = some n) ∧ (fn.byPlace = false → ∀ n, num = some n → 1 ≤ n)
def numS1 (fn : Fnc) (d : PyData) : Prop := ∃ num : Option Int, d = oI num ∧ (fn.tn = true → ∃ n, num = some n ∧ 1 ≤ n ∧ n ≤ 100) ∧ (fn.tn = false → num = none)
def partS (b : Bool) (d : PyData) : Prop := ∃ part : List Str, d = .tuple (part.map .str) ∧ part.length ≤ 1 ∧ ∀ n ∈ part, has (colsOf b) n = true
def keysS (b : Bool) (d : PyData) : Prop := ∃ ks : List Str, d = .list (ks.map .str) ∧ ks.length ≤ 2 ∧ ∀ n ∈ ks, has (colsOf b) n = true
def ordS (b : Bool) (d : PyData) : Prop := ∃ order : List (Str × Bool), d = .tuple (order.map ordD) ∧ order.length ≤ 2 ∧ ∀ o ∈ order, has (colsOf b) o.1 = true
def dfnS (b : Bool) (d : PyData) : Prop := ∃ df : Dfn, d = df.df.D ∧ DfnOk (colsOf b) df ∧ (df.fn = .sum → ∀ c, df.col = some c → txtN c = false) ∧ (df.frm.unit = .range → (df.frm.lo.dist || df.frm.hi.dist) = true → ∀ o ∈ df.order, txtN o.1 = false)
def nameS (b : Bool) (d : PyData) : Prop := ∃ c, d = .str c ∧ has (colsOf b) c = true
theorem has_who (b : Bool) : has (colsOf b) "who" = true := by cases b <;> decide +kernel
theorem has_day (b : Bool) : has (colsOf b) "day" = true := by cases b <;> decide +kernel
theorem has_paid (b : Bool) : has (colsOf b) "paid" = true := by cases b <;> decide +kernel
theorem all2_5 {S1 S2 S3 S4 S5 : PyData → Prop} {ds : List PyData} (h : All2 [S1, S2, S3, S4, S5] ds) : ∃ a b c d e, ds = [a, b, c, d, e] ∧ S1 a ∧ S2 b ∧ S3 c ∧ S4 d ∧ S5 e := by
  cases h with
  | cons h1 t =>
    obtain ⟨b, c, d, e, rfl, h2, h3, h4, h5⟩ := all2_4 t
    exact ⟨_, b, c, d, e, rfl, h1, h2, h3, h4, h5⟩
theorem all2_7 {S1 S2 S3 S4 S5 S6 S7 : PyData → Prop} {ds : List PyData} (h : All2 [S1, S2, S3, S4, S5, S6, S7] ds) : ∃ a b c d e f g, ds = [a, b, c, d, e, f, g] ∧ S1 a ∧ S2 b ∧ S3 c ∧ S4 d ∧ S5 e ∧ S6 f ∧ S7 g := by
  cases h with
  | cons h1 t => cases t with
    | cons h2 t =>
      obtain ⟨c, d, e, f, g, rfl, h3, h4, h5, h6, h7⟩ := all2_5 t
      exact ⟨_, _, c, d, e, f, g, rfl, h1, h2, h3, h4, h5, h6, h7⟩
theorem coll_ord {b : Bool} : ∀ {ks : List Str} {ds : List PyData}, Coll false (fun (x : Str) d => ∃ t : Bool, d = ordD (x, t)) ks ds → (∀ n ∈ ks, has (colsOf b) n = true) → ∃ order : List (Str × Bool), ds = order.map ordD ∧ order.length = ks.length ∧ ∀ o ∈ order, has (colsOf b) o.1 = true
  | _, _, .nil, _ => ⟨[], rfl, rfl, by simp⟩
  | _, _, .take ⟨t, e⟩ r, h => by
    obtain ⟨order, e2, hl, ho⟩ := coll_ord r fun n hn => h n (List.mem_cons_of_mem _ hn)
    subst e e2
    exact ⟨_ :: order, rfl, congrArg (· + 1) hl, fun o hm => by
      rcases List.mem_cons.mp hm with rfl | hm
      · exact h _ (.head _)
      · exact ho o hm⟩
  | _, _, .skip z _, _ => by cases z
section
variable {G : Gc}
theorem sc23 : FnScope ["_law_box", "_law_name", "_law_columns_here", "_law_kinds", "_law_names", "_law_other", "_law_kind", "_law_function", "_law_column", "_law_number", "_law_partition", "_law_keys", "_law_order", "_law_key"] ["_law_box", "_law_name", "_law_columns_here"] (defScope (top 23)) := ⟨rfl, rfl, rfl, by decide +kernel, rfl, by decide +kernel, by decide +kernel⟩
abbrev spDefinition (G : Gc) : Sp := SpF G.T (fun i : List Int × Bool => True) (fun i => [isBox i.1, isS "da", isD (.tuple ((colsOf i.2).map colD))]) (fun i => isX (dfnS i.2))
def allFns : List PyData := [.str "number", .str "rank", .str "dense", .str "tile", .str "lag", .str "lead", .str "first", .str "last", .str "nth", .str "size", .str "count", .str "different", .str "sum", .str "least", .str "greatest", .str "median"]
theorem fns_mem {d : PyData} (h : d ∈ allFns) : fncS d := by
  simp only [allFns, List.mem_cons, List.not_mem_nil, or_false] at h
  rcases h with rfl | rfl | rfl | rfl | rfl | rfl | rfl | rfl | rfl | rfl | rfl | rfl | rfl | rfl | rfl | rfl
  · exact ⟨.number, rfl⟩
  · exact ⟨.rank, rfl⟩
  · exact ⟨.dense, rfl⟩
  · exact ⟨.tile, rfl⟩
  · exact ⟨.lag, rfl⟩
  · exact ⟨.lead, rfl⟩
  · exact ⟨.first, rfl⟩
  · exact ⟨.last, rfl⟩
  · exact ⟨.nth, rfl⟩
  · exact ⟨.size, rfl⟩
  · exact ⟨.count, rfl⟩
  · exact ⟨.different, rfl⟩
  · exact ⟨.sum, rfl⟩
  · exact ⟨.least, rfl⟩
  · exact ⟨.greatest, rfl⟩
  · exact ⟨.median, rfl⟩
theorem ok23 (B : Bt G) (hD : Fn G "_law_draw" 1 (spDraw G)) (hP : Fn G "_law_pick" 2 (spPick G)) (hF : Fn G "_law_frame" 3 (spFrame G)) {f : Addr} {fd : FuncData} (F : Fun G.K "_law_definition" "_law_definition" (top 23) f fd) : FnOk G.P G.w G.K G.mg G.base CX0 4 f fd ["_law_box", "_law_name", "_law_columns_here"] (spDefinition G) := by
  refine fn_ok (k := 3) F sc23 (fun _ => rfl) ?_
  rintro ⟨ns, b⟩ _ cdv A outer s H E
  dsimp only at *
  have hprD : prD (kindsK (colsOf b)) = (colsOf b).map colD := by simp [prD, kindsK, colD, keyD, Function.comp_def]
  have hnd : ((kindsK (colsOf b)).map (·.1)).Nodup := by cases b <;> decide +kernel
  refine js_cons (js_asg 3 (je_dictT (kvs := kindsK (colsOf b)) hnd B.dict ((je_var 2).is (by rw [hprD])))) ?_
  walk_at "norm"
  let nms : List PyData := (colsOf b).map fun c => .str c.1
  have hnms : ∀ d ∈ nms, nameS b d := fun d hd => by
    obtain ⟨c, h1, rfl⟩ := List.mem_map.mp hd
    exact ⟨c.1, rfl, has_mem.mpr (List.mem_map.mpr ⟨c, h1, rfl⟩)⟩
  have hnl : 0 < nms.length := by cases b <;> decide
  refine js_cons (L1 := [.p (isBox ns), .p (isS "da"), .p (isD (.tuple ((colsOf b).map colD))), .p (isDic (kindsK (colsOf b))), .p (isD (.list nms)), .no, .no, .no, .no, .no, .no, .no, .no, .no]) ((js_lcT (P := fun c => isD (colD c)) (y := fun c => .str c.1) (f := fun _ => true) (own := [("_law_other", 5), ("_law_kind", 6)]) (is := [5, 6]) (Ps := fun c => [isS c.1, isS c.2]) 4 (xs := colsOf b) (je_seqT (d := colD) (je_var 2) rfl) (blk0 (by decide) (fun x hx s H C cl fp => jg_tupD (jgs_name 5 (jgs_name 6 jgs_nil))) fun x hx s H C cl fp => je_var 5) (by cases b <;> decide)).as (by rw [List.filter_eq_self.mpr fun _ _ => rfl]; rfl)) ?_
  have pick : ∀ {X : Cx} {L : List Slot} {o n : Expr} {p pos : Pos}, True := trivial
  refine js_cons (js_asg 7 (P := isX fncS) ((je_call hP (ns, allFns) (Nat.succ_pos _) (ja_cons (je_var 0) (ja_cons (je_lst (ds := allFns) (ja_cons je_str (ja_cons je_str (ja_cons je_str (ja_cons je_str (ja_cons je_str (ja_cons je_str (ja_cons je_str (ja_cons je_str (ja_cons je_str (ja_cons je_str (ja_cons je_str (ja_cons je_str (ja_cons je_str (ja_cons je_str (ja_cons je_str (ja_cons je_str ja_nil))))))))))))))))) ja_nil))).xx fun d h => fns_mem h)) ?_
  walk_at "norm"
  refine js_ex 7 (S := fncS) fun d ⟨fn, hd⟩ => ?_
  subst hd
  walk_at "norm"
  refine js_cons (js_asg 8 (P := isD .none) je_none) ?_
  walk_at "norm"
  refine js_cons (L1 := [.p (isBox ns), .p (isS "da"), .p (isD (.tuple ((colsOf b).map colD))), .p (isDic (kindsK (colsOf b))), .p (isD (.list nms)), .no, .no, .p (isS fn.w), .p (isX (colS b fn)), .no, .no, .no, .no, .no]) ?_ ?_
  · have hin : (!([.str "number", .str "rank", .str "dense", .str "tile", .str "size"] : List PyData).any fun z => PyData.eqv z (.str fn.w)) = !fn.noCol := by cases fn <;> decide +kernel
    refine js_if (jt_ninT (d := .str fn.w) rfl rfl hin (je_var 7) (je_tup (ds := [.str "number", .str "rank", .str "dense", .str "tile", .str "size"]) (ja_cons je_str (ja_cons je_str (ja_cons je_str (ja_cons je_str (ja_cons je_str ja_nil))))))) (fun h => ?_) (fun h => ?_)
    · refine js_cons (js_asg 8 (P := isX (nameS b)) ((je_call hP (ns, nms) hnl (ja_cons (je_var 0) (ja_cons (je_var 4) ja_nil))).xx fun d h => hnms d h)) ?_
      walk_at "norm"
      refine js_ex 8 (S := nameS b) fun d ⟨c, hd, hc⟩ => ?_
      subst hd
      walk_at "norm"
      obtain ⟨kd, e1, e2⟩ := kind_val hc
      have hin2 : (([.str "sum", .str "median"] : List PyData).any fun z => PyData.eqv z (.str fn.w)) = fn.sumMed := by cases fn <;> decide +kernel
      have hkd : PyData.eqv (.str kd) (.str "text") = txtN c := by rcases e2 with ⟨q, rfl⟩ | ⟨q, rfl⟩ <;> rw [q] <;> decide +kernel
      have hks : SeqAt.shaped (.str kd) = true := by rcases e2 with ⟨q, rfl⟩ | ⟨q, rfl⟩ <;> decide +kernel
      have tst := fun {X : Cx} {L : List Slot} {pos : Pos} => True
      cases ht : fn.sumMed && txtN c with
      | true =>
        refine JSs.out (js_cons (js_if (JT.is (d' := true) (jw_pt (jw_and (jt_inT (d := .str fn.w) rfl rfl hin2 (je_var 7) (je_tup (ds := [.str "sum", .str "median"]) (ja_cons je_str (ja_cons je_str ja_nil)))) fun _ => jw_and1 (JT.is (d' := txtN c) (jt_eq hks (by decide +kernel) (je_dget (key := .inr c) rfl e1 (je_var 3) (je_var 8)) je_str) hkd))) ht) (fun _ => js_cons (js_asg 8 (P := isS "paid") je_str) js_nil) no_ft) js_nil) ?_
        exact ent_weak 8 rfl fun v F p => ⟨_, ⟨some "paid", rfl, fun c h => (by cases h; exact has_paid b), fun _ => ⟨_, rfl⟩, fun _ c h => (by cases h; decide +kernel)⟩, p⟩
      | false =>
        refine JSs.out (js_cons (js_if (JT.is (d' := false) (jw_pt (jw_and (jt_inT (d := .str fn.w) rfl rfl hin2 (je_var 7) (je_tup (ds := [.str "sum", .str "median"]) (ja_cons je_str (ja_cons je_str ja_nil)))) fun _ => jw_and1 (JT.is (d' := txtN c) (jt_eq hks (by decide +kernel) (je_dget (key := .inr c) rfl e1 (je_var 3) (je_var 8)) je_str) hkd))) ht) no_tf (fun _ => js_nil)) js_nil) ?_
        refine ent_weak 8 rfl fun v F p => ⟨_, ⟨some c, rfl, fun c h => (by cases h; exact hc), fun _ => ⟨_, rfl⟩, fun hs c' h => ?_⟩, p⟩
        cases h
        subst hs
        exact ht
    · refine js_nil.out (ent_weak 8 rfl fun v F p => ⟨_, ⟨none, rfl, fun c h => (by cases h), fun hn => ?_, fun _ c h => (by cases h)⟩, p⟩)
      rw [hn] at h
      cases h
  refine js_cons (js_asg 9 (P := isD .none) je_none) ?_
  walk_at "norm"
  refine js_cons (L1 := [.p (isBox ns), .p (isS "da"), .p (isD (.tuple ((colsOf b).map colD))), .p (isDic (kindsK (colsOf b))), .p (isD (.list nms)), .no, .no, .p (isS fn.w), .p (isX (colS b fn)), .p (isX (numS1 fn)), .no, .no, .no, .no]) ?_ ?_
  · have hin : (([.str "tile", .str "nth"] : List PyData).any fun z => PyData.eqv z (.str fn.w)) = fn.tn := by cases fn <;> decide +kernel
    refine js_if (jt_inT (d := .str fn.w) rfl rfl hin (je_var 7) (je_tup (ds := [.str "tile", .str "nth"]) (ja_cons je_str (ja_cons je_str ja_nil)))) (fun h => ?_) (fun h => ?_)
    · refine JSs.out (js_cons (js_asg 9 (P := isX fun d => ∃ n : Int, d = .int n ∧ 1 ≤ n ∧ n ≤ 100) (je_addX (S1 := fun d => d = .int 1) (S2 := belowS 3) (JE.x je_int rfl) (je_call hD (ns, 3) (Nat.succ_pos _) (ja_cons (je_var 0) (ja_cons je_int ja_nil))) ?_)) js_nil) (ent_weak 9 rfl ?_)
      · rintro d e rfl ⟨n, hn, rfl⟩
        have hn : n < 3 := hn
        exact ⟨1, n, rfl, rfl, _, rfl, by omega, by omega⟩
      · rintro v F ⟨d, ⟨n, rfl, h1, h2⟩, p⟩
        exact ⟨_, ⟨some n, rfl, fun _ => ⟨n, rfl, h1, h2⟩, fun z => (by rw [h] at z; cases z)⟩, p⟩
    · exact js_nil.out (ent_weak 9 rfl fun v F p => ⟨_, ⟨none, rfl, fun z => (by rw [h] at z; cases z), fun _ => rfl⟩, p⟩)
  refine js_cons (L1 := [.p (isBox ns), .p (isS "da"), .p (isD (.tuple ((colsOf b).map colD))), .p (isDic (kindsK (colsOf b))), .p (isD (.list nms)), .no, .no, .p (isS fn.w), .p (isX (colS b fn)), .p (isX (numS fn)), .no, .no, .no, .no]) ?_ ?_
  · have hin : (([.str "lag", .str "lead"] : List PyData).any fun z => PyData.eqv z (.str fn.w)) = fn.ll := by cases fn <;> decide +kernel
    refine js_if (jt_inT (d := .str fn.w) rfl rfl hin (je_var 7) (je_tup (ds := [.str "lag", .str "lead"]) (ja_cons je_str (ja_cons je_str ja_nil)))) (fun h => ?_) (fun h => ?_)
    · refine JSs.out (js_cons (js_asg 9 (P := isX (belowS 3)) (je_call hD (ns, 3) (Nat.succ_pos _) (ja_cons (je_var 0) (ja_cons je_int ja_nil)))) js_nil) (ent_weak 9 rfl ?_)
      rintro v F ⟨d, ⟨n, _, rfl⟩, p⟩
      exact ⟨_, ⟨some n, rfl, fun z => (by subst z; cases h), fun _ => ⟨_, rfl⟩, fun z => (by cases fn <;> first | (cases h; done) | (cases z; done))⟩, p⟩
    · refine js_nil.out (ent_weak 9 rfl ?_)
      rintro v F ⟨d, ⟨num, rfl, h1, h2⟩, p⟩
      refine ⟨_, ⟨num, rfl, fun z => h1 (by rw [z]; rfl), fun z => ?_, fun z n hn => ?_⟩, p⟩
      · rcases z with z | z <;> rw [z] at h <;> cases h
      · cases htn : fn.tn with
        | true => obtain ⟨m, e, q, _⟩ := h1 htn; rw [hn] at e; cases e; exact q
        | false => rw [h2 htn] at hn; cases hn
  refine js_cons (js_asg 10 (P := isX (partS b)) (je_tupleLX (S1 := fun d => ∃ part : List Str, d = .list (part.map .str) ∧ part.length ≤ 1 ∧ ∀ n ∈ part, has (colsOf b) n = true) B.tuple (je_ixX (S1 := fun d => ∃ c, d = .list [.list [], .list [.str "who"], .list [.str c]] ∧ has (colsOf b) c = true) (S2 := belowS 3) ((je_lstX (Ss := [fun d => d = .list [], fun d => d = .list [.str "who"], fun d => ∃ c, d = .list [.str c] ∧ has (colsOf b) c = true]) (ja_cons (JE.x (je_lst (ds := []) ja_nil) rfl) (ja_cons (JE.x (je_lst (ds := [.str "who"]) (ja_cons je_str ja_nil)) rfl) (ja_cons ((je_lstX (Ss := [nameS b]) (ja_cons ((je_call hP (ns, nms) hnl (ja_cons (je_var 0) (ja_cons (je_var 4) ja_nil))).xx fun d h => hnms d h) ja_nil)).xx ?_) ja_nil)))).xx ?_) (je_call hD (ns, 3) (Nat.succ_pos _) (ja_cons (je_var 0) (ja_cons je_int ja_nil))) ?_) ?_)) ?_
  · rintro d ⟨ds, rfl, ha⟩
    cases ha with
    | cons h1 t => cases t; obtain ⟨c, rfl, hc⟩ := h1; exact ⟨c, rfl, hc⟩
  · rintro d ⟨ds, rfl, ha⟩
    obtain ⟨_, _, _, rfl, rfl, rfl, c, rfl, hc⟩ := all2_3 ha
    exact ⟨c, rfl, hc⟩
  · rintro d e ⟨c, rfl, hc⟩ ⟨n, hn, rfl⟩
    have : n = 0 ∨ n = 1 ∨ n = 2 := by omega
    rcases this with rfl | rfl | rfl
    · exact ⟨_, _, _, rfl, rfl, atI_nat rfl, [], rfl, by simp, by simp⟩
    · exact ⟨_, _, _, rfl, rfl, atI_nat rfl, ["who"], rfl, by simp, fun n hn => (by rw [List.mem_singleton.mp hn]; exact has_who b)⟩
    · exact ⟨_, _, _, rfl, rfl, atI_nat rfl, [c], rfl, by simp, fun n hn => (by rw [List.mem_singleton.mp hn]; exact hc)⟩
  · rintro d ⟨part, rfl, h1, h2⟩
    exact ⟨_, rfl, part, rfl, h1, h2⟩
  walk_at "norm"
  refine js_cons (js_asg 11 (P := isX (keysS b)) (je_ixX (S1 := fun d => ∃ c e, d = .list [.list [], .list [.str "day"], .list [.str "paid"], .list [.str c], .list [.str "day", .str e]] ∧ has (colsOf b) c = true ∧ has (colsOf b) e = true) (S2 := belowS 5) ((je_lstX (Ss := [fun d => d = .list [], fun d => d = .list [.str "day"], fun d => d = .list [.str "paid"], fun d => ∃ c, d = .list [.str c] ∧ has (colsOf b) c = true, fun d => ∃ c, d = .list [.str "day", .str c] ∧ has (colsOf b) c = true]) (ja_cons (JE.x (je_lst (ds := []) ja_nil) rfl) (ja_cons (JE.x (je_lst (ds := [.str "day"]) (ja_cons je_str ja_nil)) rfl) (ja_cons (JE.x (je_lst (ds := [.str "paid"]) (ja_cons je_str ja_nil)) rfl) (ja_cons ((je_lstX (Ss := [nameS b]) (ja_cons ((je_call hP (ns, nms) hnl (ja_cons (je_var 0) (ja_cons (je_var 4) ja_nil))).xx fun d h => hnms d h) ja_nil)).xx ?_)
    (ja_cons ((je_lstX (Ss := [fun d => d = .str "day", nameS b]) (ja_cons (JE.x je_str rfl) (ja_cons ((je_call hP (ns, nms) hnl (ja_cons (je_var 0) (ja_cons (je_var 4) ja_nil))).xx fun d h => hnms d h) ja_nil))).xx ?_) ja_nil)))))).xx ?_) (je_call hD (ns, 5) (Nat.succ_pos _) (ja_cons (je_var 0) (ja_cons je_int ja_nil))) ?_)) ?_
  · rintro d ⟨ds, rfl, ha⟩
    cases ha with
    | cons h1 t => cases t; obtain ⟨c, rfl, hc⟩ := h1; exact ⟨c, rfl, hc⟩
  · rintro d ⟨ds, rfl, ha⟩
    obtain ⟨_, _, rfl, rfl, c, rfl, hc⟩ := all2_2 ha
    exact ⟨c, rfl, hc⟩
  · rintro d ⟨ds, rfl, ha⟩
    obtain ⟨_, _, _, _, _, rfl, rfl, rfl, rfl, ⟨c, rfl, hc⟩, ⟨e, rfl, he⟩⟩ := all2_5 ha
    exact ⟨c, e, rfl, hc, he⟩
  · rintro d e ⟨c, g, rfl, hc, hg⟩ ⟨n, hn, rfl⟩
    have : n = 0 ∨ n = 1 ∨ n = 2 ∨ n = 3 ∨ n = 4 := by omega
    rcases this with rfl | rfl | rfl | rfl | rfl
    · exact ⟨_, _, _, rfl, rfl, atI_nat rfl, [], rfl, by simp, by simp⟩
    · exact ⟨_, _, _, rfl, rfl, atI_nat rfl, ["day"], rfl, by simp, fun n hn => (by rw [List.mem_singleton.mp hn]; exact has_day b)⟩
    · exact ⟨_, _, _, rfl, rfl, atI_nat rfl, ["paid"], rfl, by simp, fun n hn => (by rw [List.mem_singleton.mp hn]; exact has_paid b)⟩
    · exact ⟨_, _, _, rfl, rfl, atI_nat rfl, [c], rfl, by simp, fun n hn => (by rw [List.mem_singleton.mp hn]; exact hc)⟩
    · refine ⟨_, _, _, rfl, rfl, atI_nat rfl, ["day", g], rfl, by simp, fun n hn => ?_⟩
      rcases List.mem_cons.mp hn with rfl | hn
      · exact has_day b
      · rw [List.mem_singleton.mp hn]; exact hg
  walk_at "norm"
  refine js_ex 11 (S := keysS b) fun d ⟨ks, hd, hk1, hk2⟩ => ?_
  subst hd
  walk_at "norm"
  refine js_cons (js_asg 12 (P := isX (ordS b)) (je_tupleLX (S1 := fun d => ∃ ys, d = .list ys ∧ Coll false (fun (x : Str) d => ∃ t : Bool, d = ordD (x, t)) ks ys) B.tuple (je_lcLX (xs := ks) (P := fun x => isS x) (own := [("_law_key", 13)]) (is := [13]) (Ps := fun x => [isS x]) (je_seqL (d := PyData.str) (je_var 11) rfl)
    (blkX0 (by decide) (fun x hx s H C cl fp => jg_name 13) fun x hx s H C cl fp => (je_tupX (Ss := [fun d => d = .str x, boolS]) (ja_cons (JE.x (je_var 13) rfl) (ja_cons (je_eqX (S1 := belowS 3) (S2 := fun d => d = .int 0) (je_call hD (ns, 3) (Nat.succ_pos _) (ja_cons (je_var 0) (ja_cons je_int ja_nil))) (JE.x je_int rfl) (fun d e hd he => ⟨below_int hd, by rw [he]; exact shaped_int _, _, rfl⟩)) ja_nil))).xx ?_) (by omega)) ?_)) ?_
  · rintro d ⟨ds, rfl, ha⟩
    obtain ⟨_, _, rfl, rfl, t, rfl⟩ := all2_2 ha
    exact ⟨t, rfl⟩
  · rintro d ⟨ys, rfl, hc⟩
    obtain ⟨order, rfl, hl, ho⟩ := coll_ord hc hk2
    exact ⟨_, rfl, order, rfl, by omega, ho⟩
  walk_at "norm"
  refine js_ex 12 (S := ordS b) fun d ⟨order, hd, ho1, ho2⟩ => ?_
  subst hd
  walk_at "norm"
  refine js_rt ((je_tupX (Ss := [fun d => d = .str "da", fun d => d = .str fn.w, colS b fn, numS fn, partS b, fun d => d = .tuple (order.map ordD), frmS order]) (ja_cons (JE.x (je_var 1) rfl) (ja_cons (JE.x (je_var 7) rfl) (ja_cons (je_var 8) (ja_cons (je_var 9) (ja_cons (je_var 10) (ja_cons (JE.x (je_var 12) rfl) (ja_cons (je_call hF ⟨ns, b, order⟩ ⟨by dsimp only; omega, ho2⟩ (ja_cons (je_var 0) (ja_cons (je_var 12) (ja_cons (je_var 3) ja_nil)))) ja_nil)))))))).xx ?_)
  rintro d ⟨ds, rfl, ha⟩
  obtain ⟨_, _, _, _, _, _, _, rfl, rfl, rfl, ⟨col, rfl, hc1, hc2, hc3⟩, ⟨num, rfl, hn1, hn2, hn3⟩, ⟨part, rfl, hp1, hp2⟩, rfl, ⟨fr, rfl, hf1, hf2, hf3⟩⟩ := all2_7 ha
  refine ⟨⟨"da", fn, col, num, part, order, fr⟩, rfl, ⟨⟨⟨by cases b <;> decide, by dsimp only [Dfn.df]; omega, by dsimp only [Dfn.df]; omega, hp2, ho2, hc1⟩, by dsimp only [Dfn.df]; omega, by dsimp only [Dfn.df]; omega⟩, hn1, fun h => ⟨hn2 h, hc2 (by rcases h with h | h <;> (have h : fn = _ := h; subst h; rfl))⟩, hn3, hf1, hf2, fun hu hd => ?_⟩, hc3, fun hu hd o ho => ?_⟩
  · obtain ⟨o, e, _⟩ := hf3 hu hd
    exact ⟨o, e⟩
  · obtain ⟨o', e, ht⟩ := hf3 hu hd
    dsimp only at ho
    rw [e] at ho
    rw [List.mem_singleton.mp ho]
    exact ht
end
end K27
set_option maxHeartbeats 2000000
/-! K27, eighteenth part: any(test for x in a tuple of ints). -/
namespace K27
open PySem L2 LamX PyProof.Rows PySem.Spec
/-- the test, worked out in the generator's own frame -/
def EltI (X : Cx) (P : Addr) (scope : Scope) (x : Str) (elt : Expr) (h : Heap) (cols : List Int) (pb : Int → Bool) : Prop :=
  ∀ (n : Int), n ∈ cols → ∀ (C : Addr) (code : Value) (bi : Addr) (A' : Around) (E' : Value → Shared → Prop) (s₂ : Shared) (m₂ : Str → Option Value) (t : Tok), A'.handled = none → A'.units ≤ X.A.units + 8 →
    (∀ b o, b ≠ P → h.get? b = some o → s₂.heap.get? b = some o) → s₂.heap.Ns C m₂ → m₂ x = some (.int n t) →
    wpAny (model X.prog X.w) A' (eval elt (genEnv scope (cloFrom X.env.cells scope.names []) C code bi X.env)) (fun y s₃ => y = .bool (pb n) ∧ Keeps s₂ s₃) E' s₂
def trI (pb : Int → Bool) (l : List Int) (j : Nat) : Bool := match l[j]? with
  | some b => pb b
  | none => false
theorem trI_some {pb : Int → Bool} {l : List Int} {j : Nat} {b : Int} (h : l[j]? = some b) : trI pb l j = pb b := by unfold trI; rw [h]
theorem any_trI (l : List Int) (pb : Int → Bool) : (List.range l.length).any (trI pb l) = l.any pb := by
  rw [Bool.eq_iff_iff, List.any_eq_true, List.any_eq_true]
  constructor
  · intro ⟨j, hj, h⟩
    have hj' := List.mem_range.mp hj
    rw [trI_some (List.getElem?_eq_getElem hj')] at h
    exact ⟨l[j], List.getElem_mem hj', h⟩
  · intro ⟨b, hb, h⟩
    obtain ⟨j, hj, e⟩ := List.getElem_of_mem hb
    exact ⟨j, List.mem_range.mpr hj, by rw [trI_some (List.getElem?_eq_getElem hj), e]; exact h⟩
/-- the generator's names, as the text has them -/
structure GenSt (sc scope : Scope) (x : Str) : Prop where
  kind : scope.kind = .function
  co : scope.isCoroutine = false
  cell : ∀ y ∈ scope.names, y.2 ≠ .cell
  dot : scope.names.lookup (".0" : Str) = some NameKind.local
  loc : scope.names.lookup x = some .local
  free : ∀ y ∈ scope.names, y.2 = .free → sc.names.lookup y.1 = some .cell ∨ sc.names.lookup y.1 = some .free
section
variable {G : Gc} {k : Nat} {X : Cx} {L : List Slot}
theorem je_anyT {c P : Addr} {elt iter : Expr} {x : Str} {px p pos gpos : Pos} {scope : Scope} {pb : Int → Bool} {cols : List Int} (TB : TabB G.base G.mg c P) (hcode : X.env.code = .ref c) (hmT : (P, X.env.qual ++ "<genexpr>") ∈ G.T) (hu : ∀ p ∈ G.T, p.1 = P → p.2 = X.env.qual ++ "<genexpr>")
    (S0 : GenSt X.env.scope scope x) (hi : JE G k X L iter (isD (.tuple (cols.map .int)))) (hm : G.mg "any" = none)
    (hel : CxOk G k X → GxR.GenS X.env scope x → ∀ (pins : List (Addr × Obj)) (σ : L2.St) (F H : Hp) (s : Shared) (ps : Array Value), Inv X pins σ H s → Sub F H → EnvOk F H σ L → F P = some (.tbl ps) → EltI X P scope x elt s.heap cols pb)
    (hg : Gl X "any" := by rfl) (hs : ∀ v, genFold iter X.env v = pure v := by intro _; rfl)
    (he : starEach [.GeneratorExp elt [⟨.Name x px, iter, [], 0⟩] scope gpos] X.env = (false, eval (.GeneratorExp elt [⟨.Name x px, iter, [], 0⟩] scope gpos) X.env) :: starEach [] X.env := by rfl) :
    JE G k X L (.Call (.Name "any" p) [.GeneratorExp elt [⟨.Name x px, iter, [], 0⟩] scope gpos] [] pos) (isB (cols.any pb)) := fun C0 => ⟨fun pins s σ H Q I h => by
  obtain ⟨F, sF, tT, E, q⟩ := h
  have TBX : TabB X.base X.mg c P := by rw [C0.base, C0.mg]; exact TB
  refine wpAny_Call_Name_kw (ld_blt I hg (by rw [C0.mg]; exact hm) boot_any ?_)
  refine PyProof.Rows.callWith_builtin1 ?_ he (by rfl)
  rw [he]
  show wpAny _ _ (spliced ((false, eval (.GeneratorExp elt [⟨.Name x px, iter, [], 0⟩] scope gpos) X.env) :: backTo pos (starEach [] X.env))) _ _ s
  refine Calls.spliced_cons ?_
  have hhd : X.A.handled = none := C0.room.hd
  have S : GxR.GenS X.env scope x := ⟨S0.kind, S0.co, S0.cell, S0.dot, S0.loc, fun y hy e => (S0.free y hy e).elim (fun k => I.ok.has _ (.inl k)) fun k => I.ok.has _ (.inr k)⟩
  refine wpAny_GeneratorExp_walksQD hhd S.co (closure_ok S.free) S.cell S.dot S.loc S.kind (by have := C0.room.dp; omega) ?_ hs
  refine thn ((hi C0).run pins s σ H (fun v H1 => ∃ F1, Step G.T F H F1 H1 ∧ Da F1 v (.tuple (cols.map .int))) I ⟨F, sF, tT, E, fun v F1 H1 st p => ⟨F1, st, p⟩⟩) fun xv s1 ⟨v, H1, I1, r1, F1, st1, p1⟩ => ?_
  obtain ⟨ad, xs, rfl, ht, dx⟩ := da_tup p1
  obtain rfl : xv = Value.ref ad := r1
  have ex := das_ints dx
  subst ex
  obtain ⟨its, rvi, itup, hz⟩ := I1.tuple (ht.sq (K := X.K) st1.sub)
  have hil : its.length = cols.length := by rw [← rvi.length, List.length_map]
  have hitem : ∀ (i : Nat) (v : Value), its.toArray[i]? = some v → ∃ n t, cols[i]? = some n ∧ v = .int n t := fun i v e => by
    rw [List.getElem?_toArray] at e
    obtain ⟨y, h1, h2⟩ := vals_getU rvi e
    rw [List.getElem?_map] at h1
    cases hc : cols[i]? with
    | none => rw [hc] at h1; cases h1
    | some n => rw [hc] at h1; cases h1; obtain ⟨t, e⟩ := h2; exact ⟨n, t, rfl, e⟩
  obtain ⟨ps, hPF, htr, hcs⟩ := st1.tab _ hmT
  have hPF : F1 P = some (.tbl ps) := hPF
  have hP : H1 P = some (.tbl ps) := st1.sub _ _ hPF
  have hel1 := hel C0 S pins σ F1 H1 s1 ps I1 st1.sub (E.step st1) hPF
  refine wpAny_pyIter_tuple (t := ad) (items := its.toArray) itup ?_
  obtain ⟨o, ho⟩ : ∃ o : Obj, o = { cls := .type "tuple_iterator", data := .fields #[.ref ad, .int 0 0] } := ⟨_, rfl⟩
  rw [← ho]
  have hPs : s1.heap.get? P = some { cls := .none, data := .fields ps } := I1.hok P _ hP
  have hPlt : P < s1.heap.objs.size := Heap.lt_size hPs
  have hP2 : (s1.heap.push o).get? P = some { cls := .none, data := .fields ps } := Heap.get?_push_of_some _ hPs
  have cd : PySem.W.CodeHd (s1.heap.push o) c P := TBX.code.keeps fun b u e => Heap.get?_push_of_some _ (I1.bk b u e)
  have lim2 : (s1.heap.push o).NoLimit := I1.nolimit.push o
  have sz2 : (s1.heap.push o).objs.size = s1.heap.objs.size + 1 := Heap.size_push ..
  have hadlt : ad < s1.heap.objs.size := by obtain ⟨ot, hot, _⟩ := itup; exact Heap.lt_size hot
  have ne_ad : ad ≠ s1.heap.objs.size := Nat.ne_of_lt hadlt
  have it0 : (s1.heap.push o).IsTupleIter s1.heap.objs.size ad 0 := ⟨_, Heap.get?_push_size _ (by rw [ho]; rfl), by rw [ho]; exact ⟨rfl, rfl⟩⟩
  have itup2 : (s1.heap.push o).IsTuple ad its.toArray := by obtain ⟨ot, hot, r⟩ := itup; exact ⟨ot, Heap.get?_push_of_some _ hot, r⟩
  have adP : ad ≠ P := fun z => by
    obtain ⟨oo, q1, _⟩ := ht
    rw [z, hPF] at q1; cases q1
  have cont : ∀ (code : Value) (h3 : Heap) (tk : Nat) (ps' : Array Value), Heap.ExtBut P (s1.heap.push o) h3 → (s1.heap.push o).objs.size ≤ h3.objs.size → h3.get? P = some { cls := .none, data := .fields ps' } →
      (∀ s' : Shared, (∀ b u, b ≠ P → b ≠ s1.heap.objs.size → h3.get? b = some u → s'.heap.get? b = some u) → s'.heap.get? P = some { cls := .none, data := .fields ps' } → AllBare s'.gens → s'.os = s1.os → ∃ F2 H2, Step G.T F1 H1 F2 H2 ∧ Inv X pins σ H2 s') →
      wpAny (model X.prog X.w) X.A (builtinsFor X.env.globals X.env.builtins) (fun bi s₄ =>
        ∃ Ia fp wr n₀ Pf St₀ pz Fv, Value.ref s1.heap.objs.size = .ref Ia ∧ (∀ A' : Around, A'.handled = none → Walks X.prog X.w A' Ia fp wr n₀ Pf St₀) ∧ St₀ 0 s₄.heap ∧ (∀ b ∈ fp, b < s₄.heap.objs.size) ∧ s₄.heap.NoLimit ∧ cStatics ∉ wr ∧
          (∀ href : Heap, (∀ b o, s₄.heap.get? b = some o → href.get? b = some o) →
            QuietGenD X.prog X.w (genEnv scope (cloFrom X.env.cells scope.names []) s₄.heap.objs.size code bi X.env) x [] elt (List.range s₄.heap.objs.size) wr Pf pz Fv href (X.A.depth + 1) (X.A.units + 8)) ∧
          (∀ a h₅ tk gs, gs.bare = true → s₄.heap.objs.size < a → h₅.objs.size = a + 1 → (∀ b o, s₄.heap.get? b = some o → h₅.get? b = some o) →
            WalksS X.prog X.w X.A.in4 a (a :: s₄.heap.objs.size :: List.range s₄.heap.objs.size) (s₄.heap.objs.size :: wr) (GenOnlyQ s₄.gens.size) (passing pz n₀ 0).length
              (fun j y => ∃ i, (passing pz n₀ 0)[j]? = some i ∧ Fv i y) (GenAt X.prog X.w X.A.in4 a s₄.gens.size s₄.heap.objs.size (List.range s₄.heap.objs.size) wr pz n₀ Fv) →
            GenAt X.prog X.w X.A.in4 a s₄.gens.size s₄.heap.objs.size (List.range s₄.heap.objs.size) wr pz n₀ Fv 0 { s₄ with gens := s₄.gens.push gs, toks := tk, heap := h₅ } →
            wpAny (model X.prog X.w) X.A (spliced (backTo pos (starEach [] X.env))) (fun vs s' => wpAny (model X.prog X.w) X.A (call (.builtin "any") (Value.ref a :: vs)) (EP X pins σ Q) X.xe s') X.xe { s₄ with gens := s₄.gens.push gs, toks := tk, heap := h₅ })) X.xe { s1 with heap := h3, toks := tk } := by
    intro code h3 tk ps' hx hsz hP3 fin
    obtain ⟨bm, ob, e1, e2, e3, e4, e5, e6, e7, e8⟩ := TBX.bm
    have hcP : cStatics ≠ P := fun e => by
      obtain ⟨_, hns, _⟩ := I1.nolimit
      obtain ⟨o', es, ep, ho, hd, _⟩ := hns
      rw [e, hPs] at ho
      cases ho
      cases hd
    have hcl : cStatics < s1.heap.objs.size := let ⟨_, hns, _⟩ := I1.nolimit; hns.lt
    have keep3 : ∀ b u, b ≠ P → s1.heap.get? b = some u → h3.get? b = some u := fun b u hb e => hx b u hb (Heap.get?_push_of_some _ e)
    refine wpAny_builtinsFor (m := X.mg) (by rw [I1.ok.glob]; exact ((I1.mod.glob.keeps I1.bk).push o).extBut hx TBX.gP) e1 e2 (keep3 _ _ e4 (I1.bk _ _ e5)) e6 e7 e8 ?_
    have hIP : s1.heap.objs.size ≠ P := Nat.ne_of_gt hPlt
    refine ⟨s1.heap.objs.size, [s1.heap.objs.size, ad], [s1.heap.objs.size], its.toArray.size, (fun i v => its.toArray[i]? = some v), (fun i h => h.IsTupleIter s1.heap.objs.size ad i ∧ h.IsTuple ad its.toArray), (fun _ => true), (fun i y => ∃ n, cols[i]? = some n ∧ y = .bool (pb n)), rfl, fun A' hA => Walks.tuple hA _ ad ne_ad its.toArray, ?_, ?_, lim2.extBut hx hcP, ?_, ?_, ?_⟩
    · exact ⟨it0.at fun u e => hx _ u hIP e, itup2.extBut hx adP⟩
    · intro b hb
      show b < h3.objs.size
      simp only [List.mem_cons, List.not_mem_nil, or_false] at hb
      have hsz' : s1.heap.objs.size + 1 ≤ h3.objs.size := by rw [← sz2]; exact hsz
      rcases hb with z | z
      · rw [z]; exact hsz'
      · rw [z]; exact Nat.lt_of_lt_of_le hadlt (Nat.le_of_succ_le hsz')
    · intro z
      simp only [List.mem_cons, List.not_mem_nil, or_false] at z
      rw [z] at hcl
      exact Nat.lt_irrefl _ hcl
    · intro href hhref
      refine ⟨fun A' E' i v s₂ m₂ hA _ _ hPv hn hm hk => ?_, fun A' E' i v s₂ m₂ hA _ hAu hPv hp hn hm hk => ?_⟩
      · simp only [List.forIn_nil]
        exact wpAny_pure ⟨rfl, GxR.keeps_refl _⟩
      · obtain ⟨n, t, hc, rfl⟩ := hitem i v hPv
        refine wpAny_mono (hel1 n (List.mem_of_getElem? hc) _ code _ A' E' s₂ m₂ t hA hAu (fun b u hb e => ?_) hn hm) (fun y s3 r => ⟨⟨n, hc, r.1⟩, r.2⟩) fun _ _ e => e
        have hlt := Heap.lt_size e
        have e3 : h3.get? b = some u := keep3 b u hb e
        exact hk b (List.mem_range.mpr (Heap.lt_size e3)) (fun z => Nat.ne_of_lt hlt (List.mem_singleton.mp z)) u (hhref b u e3)
    · intro g h5 tk5 gs hgb hag hsz5 hk5 W5 hat
      simp only [GxR.passing_true, List.length_range] at W5
      have W6 := W5.in4_1
      refine Calls.spliced_nil ?_
      refine call_any_walkS (W6.self 0 _ _ _ hat ⟨g, _, _, _, _, _, _, trI pb cols, rfl, W6, hat, ?_, fun s' hmv => ?_⟩)
      · intro j y sj Qj Ej hy hQj
        obtain ⟨i, hij, n, hcc, rfl⟩ := hy
        obtain ⟨hj, ej⟩ := List.getElem?_eq_some_iff.mp hij
        rw [List.getElem_range] at ej
        subst ej
        have hQ2 : Qj (trI pb cols j) sj := hQj
        rw [trI_some hcc] at hQ2
        exact wpAny_truthy_bool hQ2
      · have nwr : ∀ b, b < s1.heap.objs.size ∨ (b < h3.objs.size ∧ b ≠ s1.heap.objs.size) → b ∉ h3.objs.size :: [s1.heap.objs.size] := fun b hb z => by
          simp only [List.mem_cons, List.not_mem_nil, or_false] at z
          rcases z with z | z
          · have z : b = h3.objs.size := z
            omega
          · omega
        have kk : ∀ b u, b ≠ s1.heap.objs.size → h3.get? b = some u → s'.heap.get? b = some u := fun b u hb e => hmv.heap b u (nwr b (.inr ⟨Heap.lt_size e, hb⟩)) (hk5 b u e)
        obtain ⟨F2, H2, st2, J⟩ := fin s' (fun b u _ hb e => kk b u hb e) (kk P _ (Nat.ne_of_lt hPlt) hP3) (AllBare.movedS (I1.bare.push hgb) hmv) hmv.os
        refine ⟨.bl _, H2, J, rfl, q _ F2 H2 (st1.trans st2) ?_⟩
        have e : (List.range its.toArray.size).any (trI pb cols) = cols.any pb := by rw [List.size_toArray, hil]; exact any_trI cols pb
        rw [e]
        exact .bl _
  refine ⟨lim2, ?_⟩
  cases hf : codeAmong gpos ps.toList with
  | none =>
    refine wpAny_genexprCodeX hcode (cd.code hP2 htr) (cd.tab hP2) hf fun c' h' tk hx hge hlt hco' hrec htab' _ => ?_
    have hge' : s1.heap.objs.size + 1 ≤ c' := by rw [← sz2]; exact hge
    refine cont _ h' tk _ hx (Nat.le_trans hge (Nat.le_of_lt hlt)) htab'.2 fun s' hk hP' hb hos => ?_
    obtain ⟨c2, oc, vs, t, e2, hoc, hd, hv⟩ := hrec
    cases e2
    have nC : H1 c' = none := I1.hok.fresh (Nat.le_of_succ_le hge')
    have J1 := inv_table (t' := s'.toks) (q := X.env.qual ++ "<genexpr>") (more := #[rawInt gpos.line, rawInt gpos.col, .ref c']) (h' := s'.heap) I1 hP (fun b u hb e => hk b u hb (Nat.ne_of_lt (Heap.lt_size e)) (hx b u hb (Heap.get?_push_of_some _ e))) hP' (Nat.le_of_succ_le hge') ⟨oc, vs, t, hk _ _ (Nat.ne_of_gt (Nat.lt_of_lt_of_le hPlt (Nat.le_of_succ_le hge'))) (Nat.ne_of_gt (show s1.heap.objs.size < c' from hge')) hoc, hd, hv⟩
    have hPc : P ≠ c' := Nat.ne_of_lt (Nat.lt_of_lt_of_le hPlt (Nat.le_of_succ_le hge'))
    have J2 := GxR.inv_tab (ps := ps ++ #[rawInt gpos.line, rawInt gpos.col, .ref c']) (P := P) (more := #[]) (h' := s'.heap) (g' := s'.gens) (d' := s'.drawn) (t' := s'.toks) J1 (by rw [upd_ne hPc, upd_same]) (fun b u _ e => e) (by rw [Array.append_empty]; exact hP') hb
    rw [Array.append_empty, upd_self (by rw [upd_ne hPc, upd_same])] at J2
    have e9 := GxR.sh_eta s1 s' hos
    refine ⟨_, _, Step.table (pos := gpos) st1.tab st1.sub hmT hu hPF nC, ?_⟩
    rw [← e9]
    exact J2
  | some cv =>
    refine wpAny_genexprCode_hit hcode (cd.code hP2 htr) hf ?_
    refine cont cv (s1.heap.push o) s1.toks ps (Heap.ExtBut.refl _ _) (Nat.le_refl _) hP2 fun s' hk hP' hb hos => ?_
    have J2 := GxR.inv_tab (ps := ps) (P := P) (more := #[]) (h' := s'.heap) (g' := s'.gens) (d' := s'.drawn) (t' := s'.toks) I1 hP (fun b u hb e => hk b u hb (Nat.ne_of_lt (Heap.lt_size e)) (Heap.get?_push_of_some _ e)) (by rw [Array.append_empty]; exact hP') hb
    rw [Array.append_empty, upd_self hP] at J2
    have e9 := GxR.sh_eta s1 s' hos
    refine ⟨F1, H1, Step.refl st1.tab st1.sub, ?_⟩
    rw [← e9]
    exact J2⟩
end
end K27
set_option maxHeartbeats 1000000
namespace K27
open PySem L2 LamX PyProof.Rows PySem.Spec
local macro_rules | `(tactic| walk_at "norm") => `(tactic| refine JSs.norm (by dsimp only [setsL, wipeL, initL, List.set, List.map, List.append, List.replicate, List.length, HAppend.hAppend, Append.append]) ?_)
section
variable {X : Cx} {pins : List (Addr × Obj)} {σ : L2.St} {H : Hp} {s : Shared} {F : Hp} {L : List Slot}
/-- a captured name, seen from the generator's frame -/
theorem clo_get {cells : List (Str × Addr)} {scope : Scope} {x : Str} {c : Addr} (hfree : ∀ y ∈ scope.names, y.2 = NameKind.free → ∃ c, cells.lookup y.1 = some c) (h : scope.names.lookup x = some .free) (hc : cells.lookup x = some c) : (cloFrom cells scope.names []).lookup x = some c := by
  obtain ⟨c2, e2⟩ := mem_lookup (cloFrom_has (cells := cells) (acc := []) (PySem.mem_of_lookup h))
  rcases cloFrom_mem (PySem.mem_of_lookup e2) with hm | ⟨h1, h2⟩
  · cases hm
  · obtain ⟨c1, hc1⟩ := hfree _ h1 rfl
    have hc1 : cells.lookup x = some c1 := hc1
    have e3 : c2 = c1 := by rw [h2, hc1] <;> rfl
    rw [e2, e3, ← hc1, hc]
theorem cell_at (I : Inv X pins σ H s) {i : Nat} {x : Str} {v : V} (hN : X.N[i]? = some x) (hσ : σ[i]? = some (some v)) (hk : X.env.scope.names.lookup x = some .cell) : ∃ u c, RelV v u ∧ X.env.cells.lookup x = some c ∧ s.heap.IsCell c (some u) := by
  obtain ⟨m, hn, hl⟩ := I.loc
  obtain ⟨u, r, l⟩ := hl i x v hN hσ (.inr (.inl hk))
  rcases l with ⟨k, _⟩ | ⟨_, c, hc, hcell⟩
  · have k : X.env.scope.names.lookup x = some .local := k
    rw [hk] at k; cases k
  · exact ⟨u, c, r, hc, hcell⟩
theorem flat_reads {F : Hp} {v : V} {u : Value} {d : PyData} (h : Da F v d) (c : cellB d = true) (r : RelV v u) (hp : Heap) : Reads hp u d [] := by
  cases h with
  | non => cases (show u = Value.none from r); exact .none
  | bl b => cases c
  | int i => obtain ⟨t, rfl⟩ := (show ∃ t, u = Value.int i t from r); exact .int _ _
  | str x => obtain ⟨t, rfl⟩ := (show ∃ t, u = Value.str x t from r); exact .str _ _
  | lst => cases c
  | tup => cases c
theorem keeps_trans {s1 s2 s3 : Shared} (a : Keeps s1 s2) (b : Keeps s2 s3) : Keeps s1 s3 := by
  obtain ⟨h1, t1, rfl, k1⟩ := a
  obtain ⟨h2, t2, rfl, k2⟩ := b
  exact ⟨h2, t2, rfl, fun b o e => k2 b o (k1 b o e)⟩
/-- d[n][x] in the generator's frame -/
theorem elt_cell {P : Addr} {scope : Scope} {xd xn xc : Str} {rows : Rows} {w : Nat} {id : Int} {n : Int} {i j : Nat} {ps : Array Value} {p1 p2 p3 p4 p5 : Pos} (I : Inv X pins σ H s) (sF : Sub F H) (E : EnvOk F H σ L) (hP : F P = some (.tbl ps)) (S : GxR.GenS X.env scope xc)
    (hi : slot L i = .p (isDic (rowsK rows))) (hj : slot L j = .p (isI id)) (hNi : X.N[i]? = some xd) (hNj : X.N[j]? = some xn) (ki : X.env.scope.names.lookup xd = some .cell) (kj : X.env.scope.names.lookup xn = some .cell) (fi : scope.names.lookup xd = some .free) (fj : scope.names.lookup xn = some .free)
    (r : RowsOk rows w) (hid : id ∈ ids rows) (hn0 : 0 ≤ n) (hnw : n < w) (hd1 : (xd == ("__debug__" : Str)) = false) (hd2 : (xn == ("__debug__" : Str)) = false) (hd3 : (xc == ("__debug__" : Str)) = false) (hc1 : (xd == ("__classdict__" : Str)) = false) (hc2 : (xn == ("__classdict__" : Str)) = false)
    {C : Addr} {code : Value} {bi : Addr} {A' : Around} {E' : Value → Shared → Prop} {s₂ : Shared} {m₂ : Str → Option Value} {t : Tok} {Q : Value → Shared → Prop} (hk : ∀ b o, b ≠ P → s.heap.get? b = some o → s₂.heap.get? b = some o) (hn : s₂.heap.Ns C m₂) (hm : m₂ xc = some (.int n t))
    (hq : ∀ u s₃, Keeps s₂ s₃ → (∀ hp, Reads hp u (cell rows id n.toNat) []) → Q u s₃) : wpAny (model X.prog X.w) A' (eval (.Subscript (.Subscript (.Name xd p1) (.Name xn p2) p3) (.Name xc p4) p5) (genEnv scope (cloFrom X.env.cells scope.names []) C code bi X.env)) Q E' s₂ := by
  obtain ⟨vd, hσ, ad, xs, rfl, rd, da⟩ := E.var (slot_p hi)
  obtain ⟨vn, hσn, pn⟩ := E.var (slot_p hj)
  cases da_int pn
  obtain ⟨ud, cd, rud, ccd, icd⟩ := cell_at I hNi hσ ki
  obtain rfl : ud = Value.ref ad := rud
  obtain ⟨un, cn, run, ccn, icn⟩ := cell_at I hNj hσn kj
  obtain ⟨tn, rfl⟩ := (show ∃ t, un = Value.int id t from run)
  have hPs : s.heap.get? P = some { cls := .none, data := .fields ps } := I.hok P _ (sF _ _ hP)
  have cellK : ∀ {c : Addr} {v : Option Value}, s.heap.IsCell c v → s₂.heap.IsCell c v := fun {c v} ⟨o, ho, hd⟩ => ⟨o, hk _ _ (fun z => by rw [z, hPs] at ho; cases ho; cases hd) ho, hd⟩
  rcases dic_val (.inl id) da with ⟨_, e2⟩ | ⟨vt, d', e1, e2, dv⟩
  · rw [rows_val hid] at e2; cases e2
  rw [rows_val hid] at e2
  cases e2
  obtain ⟨at_, ys, rfl, ht, dys⟩ := da_tup dv
  obtain ⟨z, hsys, vs, rel, dd⟩ := dk_rd I.hok (sF.rd rd)
  obtain ⟨w', hw, rw'⟩ := RelO.some_of (v := .ref at_) (o := valueAt vs (.inl id)) (by have := rel.val (.inl id); rw [e1] at this; exact this)
  obtain rfl : w' = Value.ref at_ := rw'
  have adP : ad ≠ P := fun z => by
    rcases rd with q | ⟨o, q⟩ <;> rw [z, hP] at q <;> cases q
  have atP : at_ ≠ P := fun z => by obtain ⟨oo, q1, _⟩ := ht; rw [z, hP] at q1; cases q1
  have dd2 : s₂.heap.DictOf (mixKind X.prog X.w) ad vs := by
    obtain ⟨o, es, ep, ho, rest⟩ := dd
    exact ⟨o, es, ep, hk _ _ adP ho, rest⟩
  obtain ⟨its, rvi, itup, hz⟩ := I.tuple (ht.sq (K := X.K) sF)
  have itup2 : IsTup s₂.heap at_ its.toArray := by
    obtain ⟨o, ho, r⟩ := itup
    exact ⟨o, hk _ _ atP ho, r⟩
  have hlen : ys.length = w := by rw [das_length dys, rows_len r hid]
  have hnn : n.toNat < ys.length := by omega
  have hcd : (cellsOf rows id)[n.toNat]? = some (cell rows id n.toNat) := by
    unfold cell K27.at_
    rw [List.getD_eq_getElem?_getD, List.getElem?_eq_getElem (by rw [rows_len r hid]; omega)]
    rfl
  obtain ⟨y, hy, dy⟩ := das_get dys hcd
  obtain ⟨uy, huy, ruy⟩ := rvi.get hy
  have hkind : (genEnv scope (cloFrom X.env.cells scope.names []) C code bi X.env).scope.kind = .function := S.kind
  have hil : its.length = ys.length := rvi.length.symm
  refine Subscript_ (wpAny_mono (subD_of (Q := fun u s₃ => u = .ref at_ ∧ s₃ = { s₂ with toks := s₂.toks + 1 }) PySem.F.slot_dict_getitem.lookup (fun _ _ => rfl) ?_) (fun u s₃ hu => ?_) fun _ _ e => e)
  · refine wpAny_Name (wpAny_loadName_free hkind fi (clo_get S.free fi ccd) (cellK icd) ?_ hc1) hd1
    refine wpAny_Name (wpAny_loadName_free hkind fj (clo_get S.free fj ccn) (cellK icn) ?_ hc2) hd2
    exact ⟨dd2.typeIs, wpAny_getItem_of (kV_is (k := .inl id) ⟨tn, rfl⟩) dd2.mapOf hw ⟨rfl, rfl⟩⟩
  · obtain ⟨rfl, rfl⟩ := hu
    refine wpAny_Name (wpAny_loadName_local hkind S.loc (show ({ s₂ with toks := s₂.toks + 1 } : Shared).heap.Ns _ _ from hn) hm ?_) hd3
    have hn63 := line63
    refine subscriptTail_builtinR (x := uy) (PyProof.Rows.IsTup.typeIs (s := { s₂ with toks := s₂.toks + 1 }) itup2) slot_tuple_getitem.lookup
      (getItem_tuple (j := n.toNat) (Q := fun r s' => r = uy ∧ Q r s') itup2 (by omega) (by omega) (seqIndex_of hn0 (by rw [List.size_toArray]; omega)) (by simpa using huy) ⟨rfl, hq uy _ (GxR.keeps_tok _ _) fun hp => flat_reads dy (rows_cell r hid (by omega)) ruy hp⟩) rfl
end
section
variable {G : Gc} {k : Nat} {X : Cx} {L : List Slot} {a b c e : Expr} {pos : Pos}
/-- k in d -/
theorem pc_inP {op : CmpOp} {neg : Bool} {kvs : List (Key × PyData)} {key : Key} {dk : PyData} (hop : (op = .In ∧ neg = false) ∨ (op = .NotIn ∧ neg = true)) (hk : dk = keyD key) (ha : JE G k X L a (isD dk)) (hb : JE G k X L b (isDic kvs)) (C : CxOk G k X) : PC X op a b (tP G.T L (isB (neg != (valD kvs key).isSome))) := by
  have main : ∀ (σ : L2.St) (H : Hp) (Q : VK), tP G.T L (isB (neg != (valD kvs key).isSome)) σ H Q → tP G.T L (isD dk) σ H fun y H1 => tP G.T L (isDic kvs) σ H1 fun x H2 => ∃ a o, x = .ref a ∧ DGet H2 a y o ∧ Q (.bl (neg != o.isSome)) H2 := fun σ H Q ⟨F, s, t, E, q⟩ => ⟨F, s, t, E, fun y F1 H1 st1 p1 => ⟨F1, st1.sub, st1.tab, E.step st1, fun x F2 H2 st2 p2 => by
    subst hk
    cases da_key p1
    obtain ⟨ad, xs, rfl, rd, da⟩ := p2
    refine ⟨ad, valV xs key, rfl, dget_of key (st2.sub.rd rd), ?_⟩
    have e : (valV xs key).isSome = (valD kvs key).isSome := by
      rcases dic_val key da with ⟨e1, e2⟩ | ⟨v, d', e1, e2, dv⟩
      · rw [e1, e2]; rfl
      · rw [e1, e2]; rfl
    rw [e]
    exact q _ F2 H2 (st1.trans st2) (.bl _)⟩⟩
  rcases hop with ⟨rfl, rfl⟩ | ⟨rfl, rfl⟩
  · refine ⟨fun pins s σ H Q I h => (pc_din (hu_of C.room) (ha C) (hb C)).run pins s σ H Q I ?_⟩
    obtain ⟨F, s', t, E, q⟩ := main σ H Q h
    exact ⟨F, s', t, E, fun y F1 H1 st1 p1 => by
      obtain ⟨F', s2, t2, E2, q2⟩ := q y F1 H1 st1 p1
      refine ⟨F', s2, t2, E2, fun x F2 H2 st2 p2 => ?_⟩
      obtain ⟨a, o, e, g, hq⟩ := q2 x F2 H2 st2 p2
      refine ⟨a, o, e, g, ?_⟩
      have e2 : (false != o.isSome) = o.isSome := by cases o.isSome <;> rfl
      rw [e2] at hq
      exact hq⟩
  · refine ⟨fun pins s σ H Q I h => (pc_dnotin (hu_of C.room) (ha C) (hb C)).run pins s σ H Q I ?_⟩
    obtain ⟨F, s', t, E, q⟩ := main σ H Q h
    exact ⟨F, s', t, E, fun y F1 H1 st1 p1 => by
      obtain ⟨F', s2, t2, E2, q2⟩ := q y F1 H1 st1 p1
      refine ⟨F', s2, t2, E2, fun x F2 H2 st2 p2 => ?_⟩
      obtain ⟨a, o, e, g, hq⟩ := q2 x F2 H2 st2 p2
      refine ⟨a, o, e, g, ?_⟩
      have e2 : (true != o.isSome) = !o.isSome := by cases o.isSome <;> rfl
      rw [e2] at hq
      exact hq⟩
theorem je_din {kvs : List (Key × PyData)} {key : Key} {dk : PyData} (hk : dk = keyD key) (ha : JE G k X L a (isD dk)) (hb : JE G k X L b (isDic kvs)) (h1 : behindInMarks .In b = false := by rfl) : JE G k X L (.Compare a [.In] [b] pos) (isB (valD kvs key).isSome) := fun C => by
  have := pe_cmp (pos := pos) (pc_inP (op := .In) (neg := false) (.inl ⟨rfl, rfl⟩) hk ha hb C) h1
  have e : (false != (valD kvs key).isSome) = (valD kvs key).isSome := by cases (valD kvs key).isSome <;> rfl
  rw [e] at this
  exact this
theorem jt_din {kvs : List (Key × PyData)} {key : Key} {dk : PyData} (hk : dk = keyD key) (ha : JE G k X L a (isD dk)) (hb : JE G k X L b (isDic kvs)) (h1 : behindInMarks .In b = false := by rfl) : JT G k X L (.Compare a [.In] [b] pos) (valD kvs key).isSome := fun C =>
  (pt_cmp (pc_inP (op := .In) (neg := false) (.inl ⟨rfl, rfl⟩) hk ha hb C) h1).imp fun σ H Q ⟨F, s, t, E, q⟩ => ⟨F, s, t, E, fun v F1 H1 st1 p1 => ⟨_, da_bl p1, by
    have e : (false != (valD kvs key).isSome) = (valD kvs key).isSome := by cases (valD kvs key).isSome <;> rfl
    rw [e]; exact q F1 H1 st1⟩⟩
theorem jt_dnin {kvs : List (Key × PyData)} {key : Key} {dk : PyData} (hk : dk = keyD key) (ha : JE G k X L a (isD dk)) (hb : JE G k X L b (isDic kvs)) (h1 : behindInMarks .NotIn b = false := by rfl) : JT G k X L (.Compare a [.NotIn] [b] pos) (!(valD kvs key).isSome) := fun C =>
  (pt_cmp (pc_inP (op := .NotIn) (neg := true) (.inr ⟨rfl, rfl⟩) hk ha hb C) h1).imp fun σ H Q ⟨F, s, t, E, q⟩ => ⟨F, s, t, E, fun v F1 H1 st1 p1 => ⟨_, da_bl p1, by
    have e : (true != (valD kvs key).isSome) = !(valD kvs key).isSome := by cases (valD kvs key).isSome <;> rfl
    rw [e]; exact q F1 H1 st1⟩⟩
end
theorem rows_some {rows : Rows} {id : Int} : (valD (rowsK rows) (.inl id)).isSome = decide (id ∈ ids rows) := by
  by_cases h : id ∈ ids rows
  · rw [rows_val h, decide_eq_true h]; rfl
  · rw [decide_eq_false h]
    unfold valD rowsK
    rw [List.find?_map, Option.isSome_map, Option.isSome_map, Bool.eq_false_iff]
    intro z
    obtain ⟨r, h1⟩ := Option.isSome_iff_exists.mp z
    have h2 := List.find?_some h1
    have h3 := List.mem_of_find?_eq_some h1
    simp only [Function.comp_apply, decide_eq_true_eq] at h2
    exact h (List.mem_map.mpr ⟨r, h3, by injection h2⟩)
def rowD (r : Int × List PyData) : PyData := .tuple [.int r.1, .tuple r.2]
theorem prD_rows (rows : Rows) : prD (rowsK rows) = rows.map rowD := by simp [prD, rowsK, rowD, keyD, Function.comp_def]
theorem rowsK_nodup {rows : Rows} (h : (ids rows).Nodup) : ((rowsK rows).map (·.1)).Nodup := by
  rw [rowsK_keys]
  exact List.Pairwise.map _ (fun a b hab e => hab (by injection e)) h
theorem rowsK_keyD (rows : Rows) : ((rowsK rows).map (·.1)).map keyD = (ids rows).map PyData.int := by rw [rowsK_keys, List.map_map]; rfl
theorem cell_shaped {d : PyData} (h : cellB d = true) : SeqAt.shaped d = true := by
  cases d <;> first | (cases h; done) | rfl | exact shaped_int _ | skip
  rename_i x
  have hx : PyData.strOk x = true := h
  simp [SeqAt.shaped, PyData.canLay0, PyData.depth, hx]
def mRowIds (rows : Rows) : List Int := sset (ids rows)
def diffB (rows others : Rows) (looks : List Int) (n : Int) : Bool := looks.any fun c => !PyData.eqv (cell rows n c.toNat) (cell others n c.toNat)
def movB (rows others : Rows) (looks : List Int) (n : Int) : Bool := !decide (n ∈ ids rows) || !decide (n ∈ ids others) || diffB rows others looks n
def mMoved (rows others : Rows) (looks : List Int) : List Int := (sset (ids rows ++ ids others)).filter (movB rows others looks)
structure IMov where
  looks : List Int
  rows : Rows
  others : Rows
  w : Nat
structure IMov.Ok (i : IMov) : Prop where
  r : RowsOk i.rows i.w
  o : RowsOk i.others i.w
  rl : i.rows.length ≤ 20
  ol : i.others.length ≤ 20
  c : ∀ c ∈ i.looks, 0 ≤ c ∧ c < i.w
theorem nodup_len : ∀ {l m : List Int}, l.Nodup → (∀ x ∈ l, x ∈ m) → l.length ≤ m.length
  | [], _, _, _ => Nat.zero_le _
  | x :: l, m, h, s => by
    have h' := List.nodup_cons.mp h
    have hx : x ∈ m := s x List.mem_cons_self
    have ih := nodup_len (l := l) (m := m.erase x) h'.2 fun y hy => (List.mem_erase_of_ne fun e => h'.1 (by rw [← e]; exact hy)).mpr (s y (List.mem_cons_of_mem _ hy))
    rw [List.length_erase_of_mem hx] at ih
    have : 0 < m.length := List.length_pos_of_mem hx
    rw [List.length_cons]
    omega
theorem sset_len (l : List Int) : (sset l).length ≤ l.length := nodup_len (up_nodup (sset_up l)) fun x hx => mem_sset.mp hx
section
variable {G : Gc}
abbrev spRowIds (G : Gc) : Sp := SpF G.T (fun rows : Rows => rows.length ≤ 100 ∧ (ids rows).Nodup) (fun rows => [isD (.tuple (rows.map rowD))]) (fun rows => isD (intsD (mRowIds rows)))
theorem sc3 : FnScope ["rows", "number", "_"] ["rows"] (defScope (top 3)) := ⟨rfl, rfl, rfl, by decide +kernel, rfl, by decide +kernel, by decide +kernel⟩
theorem ok3 (B : Bt G) {f : Addr} {fd : FuncData} (F : Fun G.K "row_ids" "row_ids" (top 3) f fd) : FnOk G.P G.w G.K G.mg G.base CX0 1 f fd ["rows"] (spRowIds G) := by
  refine fn_ok (k := 0) F sc3 (fun _ => rfl) ?_
  rintro rows ⟨hl, hnd⟩ cdv A outer s H E
  exact js_rt (je_sorted (ns := ids rows) hnd B.sorted (JE.is (je_lcT0 (xs := rows) (d := rowD) (own := [("number", 1), ("_", 2)]) (is := [1, 2]) (Ps := fun r => [isI r.1, isD (.tuple r.2)]) (y := fun r => .int r.1) (je_var 0)
    (blk0 (by decide) (fun x hx s H C cl fp => jg_tupD (jgs_name 1 (jgs_name 2 jgs_nil))) fun x hx s H C cl fp => je_var 1) (Nat.le_trans hl (by decide))) (by simp [ids, Function.comp_def])))
abbrev spMoved (G : Gc) : Sp := SpF G.T (fun i : IMov => i.Ok) (fun i => [isD (.tuple (i.looks.map .int)), isD (.tuple (i.rows.map rowD)), isD (.tuple (i.others.map rowD))]) (fun i => isD (intsD (mMoved i.rows i.others i.looks)))
theorem sc10 : FnScope ["looks", "rows", "others", "ahead", "behind", "found", "number", "column"] ["looks", "rows", "others"] (defScope (top 10)) := ⟨rfl, rfl, rfl, by decide +kernel, rfl, by decide +kernel, by decide +kernel⟩
theorem genSt10 : GenSt (defScope (top 10)) { kind := PySem.ScopeKind.function, names := [(PySem.Str.ofString ".0", PySem.NameKind.local), (PySem.Str.ofString "column", PySem.NameKind.local), (PySem.Str.ofString "ahead", PySem.NameKind.free), (PySem.Str.ofString "behind", PySem.NameKind.free), (PySem.Str.ofString "number", PySem.NameKind.free)], isGenerator := true, isCoroutine := false, more := [] } "column" :=
  ⟨rfl, rfl, by decide +kernel, by decide +kernel, by decide +kernel, by decide +kernel⟩
theorem ok10 (B : Bt G) {c P : Addr} (hT : TabOf G c P "moved.<locals>.<genexpr>") {f : Addr} {fd : FuncData} (F : Fun G.K "moved" "moved" (top 10) f fd) (hc : fd.code = .ref c) : FnOk G.P G.w G.K G.mg G.base CX0 1 f fd ["looks", "rows", "others"] (spMoved G) := by
  refine fn_okC (k := 0) F hc sc10 (fun _ => rfl) ?_
  rintro ⟨looks, rows, others, w⟩ ⟨r, o, rl, ol, hcl⟩ A outer s H E
  dsimp only at *
  refine js_cons (js_asg 3 (je_dictT (kvs := rowsK rows) (rowsK_nodup r.nd) B.dict ((je_var 1).is (by rw [prD_rows])))) ?_
  walk_at "norm"
  refine js_cons (js_asg 4 (je_dictT (kvs := rowsK others) (rowsK_nodup o.nd) B.dict ((je_var 2).is (by rw [prD_rows])))) ?_
  walk_at "norm"
  refine js_cons (js_newAcc 5) ?_
  walk_at "norm"
  let all : List Int := sset (ids rows ++ ids others)
  have hal : (ids rows ++ ids others).length ≤ 40 := by simp only [ids, List.length_append, List.length_map]; omega
  have hall : all.length ≤ 40 := Nat.le_trans (sset_len _) hal
  let Inv : Nat → List Slot := fun i => [.p (isD (.tuple (looks.map .int))), .p (isD (.tuple (rows.map rowD))), .p (isD (.tuple (others.map rowD))), .p (isDic (rowsK rows)), .p (isDic (rowsK others)), .acc (((all.take i).filter (movB rows others looks)).map .int), .no, .no]
  refine js_cons (L1 := Inv all.length) (js_forL (xs := all) (P := fun n => isI n) (is := [6]) (Ps := fun n => [isI n]) Inv (je_seqL (d := PyData.int) (je_sortedS (ns := ids rows ++ ids others) (by omega) B.sorted (je_setI (by omega) B.set (JE.is (je_cat (ds := ((rowsK rows).map (·.1)).map keyD) (es := ((rowsK others).map (·.1)).map keyD) (by simp only [rowsK, List.length_map]; omega) (je_listD B.list (je_var 3)) (je_listD B.list (je_var 4))) (by rw [rowsK_keyD, rowsK_keyD, List.map_append])))) rfl) (Ent.refl _) ⟨fun x hx => jg_name 6, fun i n hn => ?_⟩) ?_
  · refine ⟨Inv (i + 1), ?_, Ent.refl _⟩
    have hm : n ∈ all := List.mem_of_getElem? hn
    have htake : (all.take (i + 1)).filter (movB rows others looks) = (all.take i).filter (movB rows others looks) ++ if movB rows others looks n = true then [n] else [] := filter_take_succ hn
    have hlen : ((all.take i).filter (movB rows others looks)).length ≤ 100000 := by
      have h1 := List.length_filter_le (movB rows others looks) (all.take i)
      rw [List.length_take] at h1
      omega
    show JSs _ _ _ [_, _, _, _, _, .acc (((all.take i).filter (movB rows others looks)).map .int), .p (isI n), _] _ _ _
    cases hq : !decide (n ∈ ids rows) || !decide (n ∈ ids others) with
    | true =>
      have hmov : movB rows others looks n = true := by unfold movB; rw [hq, Bool.true_or]
      refine JSs.out (js_cons (js_if (JT.is (d' := true) (jw_pt (jw_or (JT.is (d' := !decide (n ∈ ids rows)) (jt_dnin (key := .inl n) rfl (je_var 6) (je_var 3)) (by rw [rows_some])) fun _ => jw_or1 (JT.is (d' := !decide (n ∈ ids others)) (jt_dnin (key := .inl n) rfl (je_var 6) (je_var 4)) (by rw [rows_some])))) hq) (fun _ => js_cons (js_append 5 rfl (by rw [List.length_map]; exact hlen) (je_var 6)) js_nil) no_ft) js_nil) ?_
      refine (ent_drops [6] _).trans ?_
      simp only [Inv, htake, hmov, if_true, List.map_append, List.map_cons, List.map_nil]
      exact Ent.refl _
    | false =>
      have h2 := Bool.or_eq_false_iff.mp hq
      have hr : n ∈ ids rows := by simpa using h2.1
      have ho : n ∈ ids others := by simpa using h2.2
      have hmov : movB rows others looks n = diffB rows others looks n := by unfold movB; rw [hq, Bool.false_or]
      refine JSs.out (js_cons (js_if (JT.is (d' := false) (jw_pt (jw_or (JT.is (d' := !decide (n ∈ ids rows)) (jt_dnin (key := .inl n) rfl (je_var 6) (je_var 3)) (by rw [rows_some])) fun _ => jw_or1 (JT.is (d' := !decide (n ∈ ids others)) (jt_dnin (key := .inl n) rfl (je_var 6) (je_var 4)) (by rw [rows_some])))) hq) no_tf (fun _ => js_cons (L1 := [.p (isD (.tuple (looks.map .int))), .p (isD (.tuple (rows.map rowD))), .p (isD (.tuple (others.map rowD))), .p (isDic (rowsK rows)), .p (isDic (rowsK others)), .acc (((all.take (i + 1)).filter (movB rows others looks)).map .int), .p (isI n), .no]) (js_if (t := diffB rows others looks n) (jt_val (je_anyT (cols := looks) (pb := fun c => !PyData.eqv (cell rows n c.toNat) (cell others n c.toNat)) hT.tb rfl hT.mem hT.one genSt10 (je_var 0) B.any fun C0 S pins σ F H s ps I sF E hP => ?_)) (fun h => ?_) (fun h => ?_)) js_nil)) js_nil) ?_
      · intro cn hcn Ca code bi A' E' s₂ m₂ t hA hAu hk hns hm2
        obtain ⟨g1, g2⟩ := hcl cn hcn
        refine wpAny_Compare1 ?_
        refine elt_cell (i := 3) (j := 6) I sF E hP S rfl rfl rfl rfl (show List.lookup (Str.ofString "ahead") (defScope (top 10)).names = some NameKind.cell by decide +kernel) (show List.lookup (Str.ofString "number") (defScope (top 10)).names = some NameKind.cell by decide +kernel) (by decide +kernel) (by decide +kernel) r hr g1 g2 (by decide) (by decide) (by decide) (by decide) (by decide) hk hns hm2 fun u s₃ k3 r1 => ?_
        have k3' := k3
        obtain ⟨h3, t3, e3, kp3⟩ := k3
        subst e3
        refine elt_cell (i := 4) (j := 6) I sF E hP S rfl rfl rfl rfl (show List.lookup (Str.ofString "behind") (defScope (top 10)).names = some NameKind.cell by decide +kernel) (show List.lookup (Str.ofString "number") (defScope (top 10)).names = some NameKind.cell by decide +kernel) (by decide +kernel) (by decide +kernel) o ho g1 g2 (by decide) (by decide) (by decide) (by decide) (by decide) (fun b u hb e => kp3 b u (hk b u hb e)) (by
          obtain ⟨on, es, ep, q1, q2⟩ := hns
          exact ⟨on, es, ep, kp3 _ _ q1, q2⟩) hm2 fun u2 s₄ k4 r2 => ?_
        have hw1 := rows_cell r hr (c := cn.toNat) (by omega)
        have hw2 := rows_cell o ho (c := cn.toNat) (by omega)
        refine SeqAt.compareNe_shaped (r1 _) (r2 _) (cell_shaped hw1) (cell_shaped hw2) ?_ ⟨rfl, keeps_trans k3' k4⟩
        have := C0.room.un
        omega
      · refine js_cons (js_append 5 rfl (by rw [List.length_map]; exact hlen) (je_var 6)) (js_nil.out ?_)
        rw [htake, if_pos (by rw [hmov]; exact h), List.map_append]
        exact Ent.refl _
      · refine js_nil.out ?_
        rw [htake, if_neg (by rw [hmov, h]; exact Bool.false_ne_true), List.append_nil]
        exact Ent.refl _
      · exact ent_drops [6] _
  · refine js_freeze 5 (ds := ((all.take all.length).filter (movB rows others looks)).map .int) rfl ?_
    walk_at "norm"
    exact js_rt (JE.is (je_var 5) (by rw [List.take_length]; rfl))
end
end K27
set_option maxHeartbeats 2000000
/-! K27, nineteenth part: a dict of lists whose keys are nested tuples. -/
namespace K27
open PySem L2 LamX PyProof.Rows
mutual
def nk : PyData → NestedKey
  | .none => .none
  | .bool b => .num (if b = true then 1 else 0)
  | .int i => .num i
  | .str s => .text s
  | .tuple ds => .tup (nks ds)
  | _ => .none
def nks : List PyData → List NestedKey
  | [] => []
  | d :: ds => nk d :: nks ds
end
mutual
def tupB : PyData → Bool
  | .none | .bool _ | .int _ | .str _ => true
  | .tuple ds => tupsB ds
  | _ => false
def tupsB : List PyData → Bool
  | [] => true
  | d :: ds => tupB d && tupsB ds
end
section
variable {X : Cx} {pins : List (Addr × Obj)} {σ : L2.St} {H : Hp} {s : Shared} {F : Hp}
mutual
theorem da_nested (I : Inv X pins σ H s) (k : Sub F H) : ∀ (d : PyData) (v : V) (u : Value), Da F v d → tupB d = true → RelV v u → NestedIs s.heap (nk d) u
  | .none, _, u, h, _, r => by cases h; cases (show u = Value.none from r); exact .none
  | .bool b, _, u, h, _, r => by cases h; cases (show u = Value.bool b from r); exact .bool rfl
  | .int i, _, u, h, _, r => by cases h; obtain ⟨t, rfl⟩ := (show ∃ t, u = Value.int i t from r); exact .int _ _
  | .str x, _, u, h, _, r => by cases h; obtain ⟨t, rfl⟩ := (show ∃ t, u = Value.str x t from r); exact .text _ _
  | .list ds, _, _, _, z, _ => by cases z
  | .dict _, _, _, _, z, _ => by cases z
  | .tuple ds, _, u, h, z, r => by
    cases h with
    | @tup a xs _ h1 h2 =>
      cases (show u = Value.ref a from r)
      obtain ⟨its, rv, ⟨o, ho, hc, n, hd⟩, hz⟩ := I.tuple (h1.sq (K := X.K) k)
      exact .tup ho hc hd (by simpa using das_nested I k ds xs its h2 z rv)
theorem das_nested (I : Inv X pins σ H s) (k : Sub F H) : ∀ (ds : List PyData) (vs : List V) (us : List Value), Das F vs ds → tupsB ds = true → Vals vs us → NestedAll s.heap (nks ds) us
  | [], _, _, h, _, r => by cases h; cases r; exact .nil
  | d :: ds, _, _, h, z, r => by
    have z : (tupB d && tupsB ds) = true := z
    rw [Bool.and_eq_true] at z
    cases h with
    | cons h1 h2 =>
      cases r with
      | cons r1 r2 => exact .cons (da_nested I k d _ _ h1 z.1 r1) (das_nested I k ds _ _ h2 z.2 r2)
end
end
/-- an entry: the key's datum, where the key's tuple and the list stand, the list -/
structure NEnt where
  kd : PyData
  ka : Addr
  la : Addr
  ns : List Int
def xsOf (es : List NEnt) : List (NestedKey × Addr × Value) := es.map fun e => (nk e.kd, e.ka, .ref e.la)
def NDic (P : Program) (w : World) (a : Addr) (xs : List (NestedKey × Addr × Value)) : HO := .ext fun h => ∃ o es ep, h.get? a = some o ∧ o.ExactDict ∧ o.data = .dict es ep ∧ es.toList = xs.map (entryOfKey (nestedKind P w))
abbrev KVs := List (PyData × List Int)
structure KeyOk (d : PyData) : Prop where
  t : tupB d = true
  dp : (nk d).depth ≤ 8
/-- what is held of the dict at D -/
structure NRes (P : Program) (w : World) (F H : Hp) (D : Addr) (es : List NEnt) : Prop where
  f : F D = none
  h : H D = some (NDic P w D (xsOf es))
  sys : (D == sysModules) = false
  nd : (es.map fun e => nk e.kd).Nodup
  len : es.length ≤ 1000
  key : ∀ e ∈ es, Da F (.ref e.ka) e.kd ∧ KeyOk e.kd
  lst : ∀ e ∈ es, F e.la = none ∧ H e.la = some (.lst (e.ns.map V.int)) ∧ e.ns.length ≤ 1000
  dist : (es.map fun e => e.la).Nodup
theorem NRes.step {P : Program} {w : World} {T : List (Addr × Str)} {F H F1 H1 : Hp} {D : Addr} {es : List NEnt} (r : NRes P w F H D es) (st : Step T F H F1 H1) : NRes P w F1 H1 D es := by
  obtain ⟨h1, f1⟩ := st.own D _ r.h r.f
  exact ⟨f1, h1, r.sys, r.nd, r.len, fun e he => ⟨keep_d st.keep _ _ (r.key e he).1, (r.key e he).2⟩, fun e he => by
    obtain ⟨q1, q2, q3⟩ := r.lst e he
    obtain ⟨q4, q5⟩ := st.own e.la _ q2 q1
    exact ⟨q5, q4, q3⟩, r.dist⟩
section
variable {X : Cx} {pins : List (Addr × Obj)} {σ : L2.St} {H : Hp} {s : Shared} {F : Hp} {D : Addr} {es : List NEnt}
theorem NRes.dict (I : Inv X pins σ H s) (sF : Sub F H) (r : NRes X.prog X.w F H D es) : s.heap.DictOfH (nestedKind X.prog X.w) D (xsOf es) := by
  obtain ⟨⟨o, ds, ep, h1, h2, h3, h4⟩, _, _⟩ := I.hok D _ r.h
  refine ⟨o, ds, ep, h1, h2, h3, h4, fun x hx => ?_, by simpa [xsOf, Function.comp_def] using r.nd⟩
  obtain ⟨e, he, rfl⟩ := List.mem_map.mp hx
  obtain ⟨k1, k2⟩ := r.key e he
  exact ⟨da_nested I sF _ _ _ k1 k2.t rfl, k2.dp⟩
theorem ndic_ok {P : Program} {w : World} {H : Hp} {h : Heap} {xs : List (NestedKey × Addr × Value)} (d : h.DictOfH (nestedKind P w) D xs) : ObjOk P w H h D (NDic P w D xs) := by
  obtain ⟨o, ds, ep, h1, h2, h3, h4, _, _⟩ := d
  exact ⟨⟨o, ds, ep, h1, h2, h3, h4⟩, ⟨o, h1⟩, fun g1 g2 ⟨o, ds, ep, a, b⟩ st => ⟨o, ds, ep, st _ a, b⟩⟩
theorem atKey_some {es : List NEnt} {e : NEnt} {k : NestedKey} (nd : (es.map fun e => nk e.kd).Nodup) (he : e ∈ es) (hk : nk e.kd = k) : atKey (xsOf es) k = some (e.ka, .ref e.la) := by
  obtain ⟨i, hi, rfl⟩ := List.getElem_of_mem he
  refine atKey_of_get (by simpa [xsOf, Function.comp_def] using nd) (i := i) ?_
  unfold xsOf
  rw [List.getElem?_map, List.getElem?_eq_getElem hi]
  simp [hk]
theorem atKey_no {es : List NEnt} {k : NestedKey} (h : ∀ e ∈ es, nk e.kd ≠ k) : atKey (xsOf es) k = none := by
  refine atKey_none_of_get fun j p e => ?_
  unfold xsOf at e
  rw [List.getElem?_map] at e
  cases q : es[j]? with
  | none => rw [q] at e; cases e
  | some x =>
    rw [q] at e
    have e := Option.some.inj e
    exact h x (List.mem_of_getElem? q) (congrArg Prod.fst e)
/-- found.setdefault(key, []) -/
def tSetDef (P : Program) (w : World) (td ty tx : TE) : TE := fun σ H Q => td σ H fun x H1 => (∃ D xs, x = .ref D ∧ H1 D = some (NDic P w D xs)) ∧ ty σ H1 fun y H2 => tx σ H2 fun z H3 =>
  ∃ F D es ka kd la, x = .ref D ∧ y = .ref ka ∧ z = .ref la ∧ Sub F H3 ∧ NRes P w F H3 D es ∧ Da F y kd ∧ KeyOk kd ∧ (∀ e ∈ es, nk e.kd = nk kd → Q (.ref e.la) H3) ∧ ((∀ e ∈ es, nk e.kd ≠ nk kd) → Q z (upd H3 D (NDic P w D (xsOf es ++ [(nk kd, ka, .ref la)]))))
theorem pe_setdef {o e f : Expr} {apos cpos : Pos} {td ty tx : TE} (hu : X.A.units + 60 < cLine) (ho : PE X o td) (he : PE X e ty) (hf : PE X f tx) (m : M2 X o "setdefault" apos e f cpos) : PE X (.Call (.Attribute o "setdefault" apos) [e, f] [] cpos) (tSetDef X.prog X.w td ty tx) := by
  refine ⟨fun pins s σ H Q I h => ?_⟩
  refine wpAny_Call_method m.base m.few m.line PySem.F.plainAttrs_dict PySem.F.slot_dict_setdefault PySem.F.type_dict_setdefault (thn (ho.run pins s σ H _ I h) fun u s1 ⟨x, H1, I1, rx, ⟨D, xs, ex, hd⟩, q1⟩ => ?_)
  subst ex
  obtain rfl : u = Value.ref D := rx
  obtain ⟨⟨ob, es0, ep0, g1, g2, _⟩, _, _⟩ := I1.hok D _ hd
  refine ⟨⟨ob, g1, g2.1⟩, fun b q => by cases q; exact ⟨ob, g1, g2.2.1⟩, ?_⟩
  rw [m.trees]
  refine Calls.callWith_builtin rfl (Calls.evalArgs_plain (Calls.spliced_cons (thn (he.run pins s1 σ H1 _ I1 q1) fun iv s2 ⟨y, H2, I2, ry, q2⟩ =>
    Calls.spliced_cons (thn (hf.run pins s2 σ H2 _ I2 q2) fun fv s3 ⟨z, H3, I3, rz, F, D', es, ka, kd, la, e1, e2, e3, sF, res, dk, ok, h1, h2⟩ => Calls.spliced_nil ?_))))
  cases e1
  subst e2 e3
  obtain rfl : iv = Value.ref ka := ry
  obtain rfl : fv = Value.ref la := rz
  have dd := res.dict I3 sF
  refine call_setdefault_heap (knd := nestedKind X.prog X.w) (k := nk kd) (show X.A.units + 1 + 8 < cLine by omega) ⟨da_nested I3 sF _ _ _ dk ok.t rfl, ok.dp⟩ res.sys dd (fun p hp => ?_) (fun hn h' hd' hsb => ?_) (by unfold xsOf; rw [List.length_map]; have := res.len; rw [sizeLine_eq]; omega)
  · have hex : ∃ e ∈ es, nk e.kd = nk kd := by
      refine Classical.byContradiction fun hc => ?_
      rw [atKey_no (fun e he hk => hc ⟨e, he, hk⟩)] at hp
      cases hp
    obtain ⟨e, he, hk⟩ := hex
    rw [atKey_some res.nd he hk] at hp
    cases hp
    exact ⟨.ref e.la, H3, I3.tok _, rfl, h1 e he hk⟩
  · have hno : ∀ e ∈ es, nk e.kd ≠ nk kd := fun e he hk => by
      rw [atKey_some res.nd he hk] at hn
      cases hn
    rw [storedH_new hn] at hd'
    have I4 := I3.write (e := D) (o := NDic X.prog X.w D (xsOf es ++ [(nk kd, ka, .ref la)])) (h' := h') (t' := s3.toks + (nestedKind X.prog X.w).draws (nk kd)) (by rw [res.h]; trivial) (.inl rfl) (fun b u hb q => (hsb.2 b hb).trans q) (by
      obtain ⟨ob, _, _, q1, _⟩ := hd'
      exact ⟨ob, q1⟩) (ndic_ok hd')
    exact ⟨.ref la, _, I4, rfl, h2 hno⟩
end
/-- a group gets a number -/
def addKv : KVs → PyData → Int → KVs
  | [], kd, n => [(kd, [n])]
  | (k, ns) :: r, kd, n => if (decide (nk k = nk kd)) = true then (k, ns ++ [n]) :: r else (k, ns) :: addKv r kd n
def addEs (es : List NEnt) (kd : PyData) (n : Int) : List NEnt := es.map fun e => if (decide (nk e.kd = nk kd)) = true then { e with ns := e.ns ++ [n] } else e
def kvOf (es : List NEnt) : KVs := es.map fun e => (e.kd, e.ns)
theorem addEs_kv {kd : PyData} {n : Int} : ∀ {es : List NEnt}, (es.map fun e => nk e.kd).Nodup → (∃ e ∈ es, nk e.kd = nk kd) → kvOf (addEs es kd n) = addKv (kvOf es) kd n
  | [], _, h => by obtain ⟨e, he, _⟩ := h; cases he
  | e :: es, nd, h => by
    have nd' := List.nodup_cons.mp nd
    by_cases hk : nk e.kd = nk kd
    · have hrest : addEs es kd n = es := by
        unfold addEs
        conv => rhs; rw [← List.map_id es]
        refine List.map_congr_left fun x hx => ?_
        rw [if_neg]
        · rfl
        · intro z
          exact nd'.1 (List.mem_map.mpr ⟨x, hx, (of_decide_eq_true z).trans hk.symm⟩)
      show kvOf ((if _ then _ else _) :: addEs es kd n) = _
      rw [hrest, if_pos (decide_eq_true hk)]
      show (e.kd, e.ns ++ [n]) :: kvOf es = addKv ((e.kd, e.ns) :: kvOf es) kd n
      unfold addKv
      rw [if_pos (decide_eq_true hk)]
    · have ih := addEs_kv (kd := kd) (n := n) (es := es) nd'.2 (by
        obtain ⟨x, hx, h2⟩ := h
        rcases List.mem_cons.mp hx with rfl | hx
        · exact absurd h2 hk
        · exact ⟨x, hx, h2⟩)
      show kvOf ((if _ then _ else _) :: addEs es kd n) = _
      rw [if_neg (by rw [decide_eq_false hk]; exact Bool.false_ne_true)]
      show (e.kd, e.ns) :: kvOf (addEs es kd n) = addKv ((e.kd, e.ns) :: kvOf es) kd n
      unfold addKv
      rw [if_neg (by rw [decide_eq_false hk]; exact Bool.false_ne_true), ih]
theorem addKv_new {kd : PyData} {n : Int} : ∀ {kvs : KVs}, (∀ e ∈ kvs, nk e.1 ≠ nk kd) → addKv kvs kd n = kvs ++ [(kd, [n])]
  | [], _ => rfl
  | (k, ns) :: r, h => by
    unfold addKv
    rw [if_neg (by rw [decide_eq_false (h _ List.mem_cons_self)]; exact Bool.false_ne_true), addKv_new fun e he => h e (List.mem_cons_of_mem _ he)]
    rfl
end K27
/-! K27, twentieth part: statements while such a dict is made. -/
namespace K27
open PySem L2 LamX PyProof.Rows
def noOwn (L : List Slot) : Prop := ∀ s ∈ L, s.own = false
theorem own_no {H0 : Hp} {σ : L2.St} {L : List Slot} (h : noOwn L) : OwnNew H0 σ L := fun i s a hi os _ => by
  rw [h s (List.mem_of_getElem? hi)] at os; cases os
def tN (G : Gc) (D : Addr) (L : List Slot) (kvs : KVs) (R : SP) (N : Option (List Slot × KVs)) : TS := fun Dd σ H => ∃ F0 H0 F es, Sub F0 H0 ∧ Step G.T F0 H0 F H ∧ EnvOk F H σ L ∧ NRes G.P G.w F H D es ∧ kvOf es = kvs ∧ H0 D = none ∧ (∀ e ∈ es, H0 e.la = none) ∧
  (∀ v F' H', Step G.T F0 H0 F' H' → KS F F' → R.P v F' → Dd.rt v H') ∧
  (∀ L' kvs', N = some (L', kvs') → ∀ σ' F' H' es', Step G.T F0 H0 F' H' → KS F F' → EnvOk F' H' σ' L' → NRes G.P G.w F' H' D es' → kvOf es' = kvs' → (∀ e ∈ es', H0 e.la = none) → Dd.nx σ' H')
def JN (G : Gc) (k : Nat) (X : Cx) (D : Addr) (L : List Slot) (kvs : KVs) (st : Stmt) (R : SP) (N : Option (List Slot × KVs)) : Prop := CxOk G k X → PS X st (tN G D L kvs R N)
def JNs (G : Gc) (k : Nat) (X : Cx) (D : Addr) (L : List Slot) (kvs : KVs) (sts : List Stmt) (R : SP) (N : Option (List Slot × KVs)) : Prop := CxOk G k X → PSs X sts (tN G D L kvs R N)
theorem updE_kd {c : Prop} [Decidable c] {e : NEnt} {x : List Int} : (if c then { e with ns := x } else e : NEnt).kd = e.kd := by split <;> rfl
theorem updE_ka {c : Prop} [Decidable c] {e : NEnt} {x : List Int} : (if c then { e with ns := x } else e : NEnt).ka = e.ka := by split <;> rfl
theorem updE_la {c : Prop} [Decidable c] {e : NEnt} {x : List Int} : (if c then { e with ns := x } else e : NEnt).la = e.la := by split <;> rfl
theorem addEs_kd (es : List NEnt) (kd : PyData) (n : Int) : (addEs es kd n).map (fun e => nk e.kd) = es.map fun e => nk e.kd := by
  unfold addEs
  rw [List.map_map]
  exact List.map_congr_left fun x _ => congrArg nk updE_kd
theorem addEs_xs (es : List NEnt) (kd : PyData) (n : Int) : xsOf (addEs es kd n) = xsOf es := by
  unfold addEs xsOf
  rw [List.map_map]
  refine List.map_congr_left fun x _ => ?_
  simp only [Function.comp_apply, updE_kd, updE_ka, updE_la]
theorem addEs_la (es : List NEnt) (kd : PyData) (n : Int) : (addEs es kd n).map (fun e => e.la) = es.map fun e => e.la := by
  unfold addEs
  rw [List.map_map]
  exact List.map_congr_left fun x _ => updE_la
section
variable {G : Gc} {k : Nat} {X : Cx} {D : Addr} {L L1 : List Slot} {kvs kvs1 : KVs} {a b c e tg iter : Expr} {es : List Expr} {pos : Pos} {st : Stmt} {sts body : List Stmt} {R : SP} {N : Option (List Slot × KVs)}
theorem jn_nil : JNs G k X D L kvs [] R (some (L, kvs)) := fun C => pss_nil.imp fun Dd σ H ⟨F0, H0, F, es, s0, st, E, r, hk, hD, hl, rt, n⟩ => n L kvs rfl σ F H es st (KS.refl F) E r hk hl
theorem jn_cons (h1 : JN G k X D L kvs st R (some (L1, kvs1))) (h2 : JNs G k X D L1 kvs1 sts R N) : JNs G k X D L kvs (st :: sts) R N := fun C => (pss_cons (h1 C) (h2 C)).imp fun Dd σ H ⟨F0, H0, F, es, s0, st, E, r, hk, hD, hl, rt, n⟩ =>
  ⟨F0, H0, F, es, s0, st, E, r, hk, hD, hl, rt, fun L' kvs' e σ1 F1 H1 es1 st1 k1 E1 r1 hk1 hl1 => by
    cases e
    exact ⟨F0, H0, F1, es1, s0, st1, E1, r1, hk1, hD, hl1, fun v F' H' st' k' p => rt v F' H' st' (k1.trans k') p, fun L' kvs' e σ' F' H' es' st' k' E' r' hk' hl' => n L' kvs' e σ' F' H' es' st' (k1.trans k') E' r' hk' hl'⟩⟩
theorem JNs.norm {L' : List Slot} (e : L = L') (h : JNs G k X D L' kvs sts R N) : JNs G k X D L kvs sts R N := e ▸ h
theorem JNs.out {L' : List Slot} {kvs' : KVs} (h : JNs G k X D L kvs sts R (some (L', kvs'))) (e : Ent L' L1) (ek : kvs' = kvs1) : JNs G k X D L kvs sts R (some (L1, kvs1)) := fun C => (h C).imp fun Dd σ H ⟨F0, H0, F, es, s0, st, E, r, hk, hD, hl, rt, n⟩ =>
  ⟨F0, H0, F, es, s0, st, E, r, hk, hD, hl, rt, fun L2 kvs2 q σ' F' H' es' st' k' E' r' hk' hl' => by cases q; exact n L1 kvs1 rfl σ' F' H' es' st' k' (e.e _ _ _ E') r' (hk'.trans ek) hl'⟩
/-- a statement that leaves the dict alone -/
theorem jn_js (h : JS G k X L st R (some L1)) (hL : noOwn L) : JN G k X D L kvs st R (some (L1, kvs)) := fun C => (h C).imp fun Dd σ H ⟨F0, H0, F, es, s0, st, E, r, hk, hD, hl, rt, n⟩ =>
  ⟨F, H, F, st.sub, Step.refl st.tab st.sub, E, own_no hL, fun v F' H' st' k' p => rt v F' H' (st.trans st') k' p, fun L' e σ' F' H' st' k' E' O' => by
    cases e
    exact n L1 kvs rfl σ' F' H' es (st.trans st') k' E' (r.step st') hk hl⟩
theorem jn_if {t : Bool} {th el : List Stmt} (hc : JT G k X L c t) (ha : t = true → JNs G k X D L kvs th R N) (hb : t = false → JNs G k X D L kvs el R N) : JN G k X D L kvs (.If c th el pos) R N := fun C => by
  have go : ∀ {F0 H0 F : Hp} {es : List NEnt} {Dd : Ends} {σ : L2.St} {H : Hp}, Sub F0 H0 → Step G.T F0 H0 F H → EnvOk F H σ L → NRes G.P G.w F H D es → kvOf es = kvs → H0 D = none → (∀ e ∈ es, H0 e.la = none) → (∀ v F' H', Step G.T F0 H0 F' H' → KS F F' → R.P v F' → Dd.rt v H') →
      (∀ L' kvs', N = some (L', kvs') → ∀ σ' F' H' es', Step G.T F0 H0 F' H' → KS F F' → EnvOk F' H' σ' L' → NRes G.P G.w F' H' D es' → kvOf es' = kvs' → (∀ e ∈ es', H0 e.la = none) → Dd.nx σ' H') → ∀ F1 H1, Step G.T F H F1 H1 → tN G D L kvs R N Dd σ H1 := fun s0 st E r hk hD hl rt n F1 H1 st1 =>
    ⟨_, _, F1, _, s0, st.trans st1, E.step st1, r.step st1, hk, hD, hl, fun v F' H' st' k' p => rt v F' H' st' (st1.ks.trans k') p, fun L' kvs' e σ' F' H' es' st' k' E' r' hk' hl' => n L' kvs' e σ' F' H' es' st' (st1.ks.trans k') E' r' hk' hl'⟩
  cases t with
  | true => exact (ps_if (hc C) (ha rfl C) pss_never').imp fun Dd σ H ⟨F0, H0, F, es, s0, st, E, r, hk, hD, hl, rt, n⟩ => ⟨F, st.sub, st.tab, E, fun F1 H1 st1 => by
      dsimp only; rw [if_pos rfl]
      exact go s0 st E r hk hD hl rt n F1 H1 st1⟩
  | false => exact (ps_if (hc C) pss_never' (hb rfl C)).imp fun Dd σ H ⟨F0, H0, F, es, s0, st, E, r, hk, hD, hl, rt, n⟩ => ⟨F, st.sub, st.tab, E, fun F1 H1 st1 => by
      dsimp only; rw [if_neg Bool.false_ne_true]
      exact go s0 st E r hk hD hl rt n F1 H1 st1⟩
/-- d.setdefault(k, []).append(n) -/
theorem jn_app (hno : noOwn L) {o ke ne : Expr} {ap cp ap2 cp2 lp : Pos} {kd : PyData} {n : Int} (hkd : KeyOk kd) (hb : ∃ ds, kd = .tuple ds) (hlen : kvs.length < 1000 ∧ ∀ e ∈ kvs, e.2.length < 1000) (ho : JE G k X L o (isV (.ref D))) (hk : JE G k X L ke (isD kd)) (hn : JE G k X L ne (isI n))
    (hs : swapsWith (.Call (.Attribute (.Call (.Attribute o "setdefault" ap) [ke, .List [] lp] [] cp) "append" ap2) [ne] [] cp2) none pos.line X.env = pure false := by rfl) (m : M2 X o "setdefault" ap ke (.List [] lp) cp := by exact ⟨rfl, rfl, rfl, rfl⟩)
    (hbase : attributeBase (.Call (.Attribute o "setdefault" ap) [ke, .List [] lp] [] cp) "append" X.env (eval (.Call (.Attribute o "setdefault" ap) [ke, .List [] lp] [] cp) X.env) = eval (.Call (.Attribute o "setdefault" ap) [ke, .List [] lp] [] cp) X.env := by rfl)
    (hfew : ((backTo cp2 (starEach [ne] X.env)).all (fun x => !x.1) && (backToKw cp2 (keywordEach [] X.env)).all (fun x => x.1.isSome) && decide (([ne] : List Expr).length + ([] : List Keyword).length + (if ([] : List Keyword).isEmpty then 0 else 1) < 30)) = true := by rfl)
    (hline : (ap2.endLine == cp2.line) = true := by rfl) (hse : starEach [ne] X.env = (false, eval ne X.env) :: starEach [] X.env := by rfl) (hplain : (backTo cp2 (starEach [] X.env)).any (·.1) = false := by rfl) :
    JN G k X D L kvs (.Expr (.Call (.Attribute (.Call (.Attribute o "setdefault" ap) [ke, .List [] lp] [] cp) "append" ap2) [ne] [] cp2) pos) R (some (L, addKv kvs kd n)) := fun C => by
  have hu : X.A.units + 60 < cLine := by have := C.room.un; omega
  refine (ps_expr (pe_bm PySem.F.plainAttrs_list PySem.F.slot_list_append PySem.F.type_list_append mt_append (pe_setdef hu (ho C) (hk C) (pe_lst pa_nil) m) (pa_cons (hn C) pa_nil hse) hbase hfew hline hse hplain) hs).imp fun Dd σ H ⟨F0, H0, F, es, s0, st, E, r, hkv, hD, hl, rt, nx⟩ => ?_
  have hPw : NRes X.prog X.w F H D es := by rw [C.prog, C.w]; exact r
  refine ⟨F, st.sub, st.tab, E, fun x F1 H1 st1 hx => ⟨⟨D, xsOf es, hx, by have := (r.step st1).h; rw [C.prog, C.w]; exact this⟩, F1, st1.sub, st1.tab, E.step st1, fun y F2 H2 st2 dy => ⟨Nat.zero_le _, fun la hla => ?_⟩⟩⟩
  obtain ⟨ds, rfl⟩ := hb
  obtain ⟨ka, ys, rfl, ht, dys⟩ := da_tup dy
  have st12 := st1.trans st2
  have r2 := r.step st12
  have st3 : Step G.T F2 H2 F2 (upd H2 la (.lst [])) := Step.newOwn st2.tab st2.sub hla
  have r3 := r2.step st3
  have fla : F2 la = none := st2.sub.no hla
  have E3 := ((E.step st1).step st2).step st3
  have hla0 : H0 la = none := st.there s0 (st1.there st.sub (st2.there st1.sub hla))
  refine ⟨F2, D, es, ka, .tuple ds, la, hx, rfl, rfl, st3.sub, by rw [C.prog, C.w]; exact r3, dy, hkd, fun e he hke => ?_, fun hno2 => ?_⟩
  · -- the key is there
    obtain ⟨q1, q2, q3⟩ := r3.lst e he
    refine ⟨.inl ⟨rfl, _, SqL.of q2⟩, F2, st3.sub, st3.tab, E3, fun v F4 H4 st4 pv => ?_⟩
    have r4 := r3.step st4
    obtain ⟨q4, q5, q6⟩ := r4.lst e he
    cases da_int pv
    have hln : e.ns.length < 1000 := hlen.2 (e.kd, e.ns) (by rw [← hkv]; exact List.mem_map.mpr ⟨e, he, rfl⟩)
    refine ⟨e.la, e.ns.map V.int, .int n, rfl, rfl, q5, by rw [List.length_map, sizeLine_eq]; omega, ?_⟩
    have stA := ((st12.trans st3).trans st4)
    have eD : e.la ≠ D := fun z => by rw [z, r4.h] at q5; cases q5
    have hmap := addEs_kd es (.tuple ds) n
    have hmapx := addEs_xs es (.tuple ds) n
    have hmapl := addEs_la es (.tuple ds) n
    have memx : ∀ x ∈ addEs es (.tuple ds) n, ∃ y ∈ es, x.kd = y.kd ∧ x.ka = y.ka ∧ x.la = y.la ∧ ((nk y.kd = nk (.tuple ds) ∧ x.ns = y.ns ++ [n]) ∨ (nk y.kd ≠ nk (.tuple ds) ∧ x.ns = y.ns)) := fun x hx => by
      obtain ⟨y, hy, rfl⟩ := List.mem_map.mp hx
      refine ⟨y, hy, ?_⟩
      split
      · rename_i h; exact ⟨rfl, rfl, rfl, .inl ⟨of_decide_eq_true h, rfl⟩⟩
      · rename_i h; exact ⟨rfl, rfl, rfl, .inr ⟨fun z => h (decide_eq_true z), rfl⟩⟩
    have uniq : ∀ y ∈ es, nk y.kd = nk (.tuple ds) → y = e := fun y hy hyk => by
      obtain ⟨i, hi, rfl⟩ := List.getElem_of_mem hy
      obtain ⟨j, hj, rfl⟩ := List.getElem_of_mem he
      have hij : i = j := (List.getElem_inj (i := i) (j := j) (h₀ := by simpa using hi) (h₁ := by simpa using hj) r.nd).mp (by simp [hyk, hke])
      subst hij
      rfl
    have launiq : ∀ y ∈ es, y.la = e.la → y = e := fun y hy hyl => by
      obtain ⟨i, hi, rfl⟩ := List.getElem_of_mem hy
      obtain ⟨j, hj, rfl⟩ := List.getElem_of_mem he
      have hij : i = j := (List.getElem_inj (i := i) (j := j) (h₀ := by simpa using hi) (h₁ := by simpa using hj) r.dist).mp (by simp [hyl])
      subst hij
      rfl
    have st5 : Step G.T F0 H0 F4 (upd H4 e.la (.lst (e.ns.map V.int ++ [.int n]))) := (st.trans stA).updNew q4 (hl e he)
    refine nx L _ rfl σ F4 _ (addEs es (.tuple ds) n) st5 (stA.ks) ?_ ?_ ?_ ?_
    · have E4 := (E3.step st4)
      refine ⟨E4.len, fun j sl hj => ?_, E4.dist⟩
      have q := E4.at_ j sl hj
      cases sl with
      | no => trivial
      | p P => exact q
      | acc ds => have := hno _ (List.mem_of_getElem? hj); cases this
      | accd ds => have := hno _ (List.mem_of_getElem? hj); cases this
    · refine ⟨r4.f, by rw [upd_ne (Ne.symm eD), hmapx]; exact r4.h, r4.sys, by rw [hmap]; exact r4.nd, by unfold addEs; rw [List.length_map]; exact r4.len, fun x hx => ?_, fun x hx => ?_, by rw [hmapl]; exact r4.dist⟩
      · obtain ⟨y, hy, e1, e2, e3, _⟩ := memx x hx
        rw [e1, e2]
        exact r4.key y hy
      · obtain ⟨y, hy, e1, e2, e3, e4⟩ := memx x hx
        obtain ⟨w1, w2, w3⟩ := r4.lst y hy
        rw [e3]
        rcases e4 with ⟨e4, e5⟩ | ⟨e4, e5⟩
        · have := uniq y hy e4
          subst this
          refine ⟨w1, by rw [upd_same, e5, List.map_append]; rfl, by rw [e5, List.length_append, List.length_singleton]; omega⟩
        · have hne : y.la ≠ e.la := fun z => e4 (by rw [launiq y hy z]; exact hke)
          exact ⟨w1, by rw [upd_ne hne, e5]; exact w2, by rw [e5]; exact w3⟩
    · rw [addEs_kv r.nd ⟨e, he, hke⟩, hkv]
    · intro x hx
      obtain ⟨y, hy, e1, e2, e3, _⟩ := memx x hx
      rw [e3]
      exact hl y hy
  · -- a new key
    have hla1 : ∀ e ∈ es, e.la ≠ la := fun e he z => by
      have q := (r2.lst e he).2.1
      rw [z, hla] at q; cases q
    have hDl : D ≠ la := fun z => by have q := r2.h; rw [z, hla] at q; cases q
    let es1 : List NEnt := es ++ [⟨.tuple ds, ka, la, []⟩]
    have hxs : xsOf es1 = xsOf es ++ [(nk (.tuple ds), ka, .ref la)] := by simp [xsOf, es1]
    have hH : ∀ b, b ≠ D → upd (upd H2 la (.lst [])) D (NDic X.prog X.w D (xsOf es ++ [(nk (.tuple ds), ka, .ref la)])) b = upd H2 la (.lst []) b := fun b hb => upd_ne hb
    have rD : NRes X.prog X.w F2 (upd (upd H2 la (.lst [])) D (NDic X.prog X.w D (xsOf es ++ [(nk (.tuple ds), ka, .ref la)]))) D es1 := by
      refine ⟨r2.f, by rw [upd_same, hxs], r2.sys, ?_, by simp only [es1, List.length_append, List.length_singleton]; have := hlen.1; rw [← hkv] at this; unfold kvOf at this; rw [List.length_map] at this; omega, fun x hx => ?_, fun x hx => ?_, ?_⟩
      · simp only [es1, List.map_append, List.map_cons, List.map_nil]
        rw [List.nodup_append]
        refine ⟨r2.nd, by simp, fun a ha b hb e => ?_⟩
        obtain ⟨y, hy, rfl⟩ := List.mem_map.mp ha
        rw [List.mem_singleton.mp hb] at e
        exact hno2 y hy e
      · rcases List.mem_append.mp hx with hx | hx
        · exact r2.key x hx
        · rw [List.mem_singleton.mp hx]; exact ⟨dy, hkd⟩
      · rcases List.mem_append.mp hx with hx | hx
        · obtain ⟨w1, w2, w3⟩ := r2.lst x hx
          have hxD : x.la ≠ D := fun z => by rw [z, r2.h] at w2; cases w2
          exact ⟨w1, by rw [upd_ne hxD, upd_ne (hla1 x hx)]; exact w2, w3⟩
        · rw [List.mem_singleton.mp hx]
          exact ⟨fla, by rw [upd_ne (Ne.symm hDl), upd_same]; rfl, Nat.zero_le _⟩
      · simp only [es1, List.map_append, List.map_cons, List.map_nil]
        rw [List.nodup_append]
        refine ⟨r2.dist, by simp, fun a ha b hb e => ?_⟩
        obtain ⟨y, hy, rfl⟩ := List.mem_map.mp ha
        rw [List.mem_singleton.mp hb] at e
        exact hla1 y hy e
    have stB : Step G.T F0 H0 F2 (upd (upd H2 la (.lst [])) D (NDic X.prog X.w D (xsOf es ++ [(nk (.tuple ds), ka, .ref la)]))) := ((st.trans st12).trans st3).updNew r2.f hD
    have EB : EnvOk F2 (upd (upd H2 la (.lst [])) D (NDic X.prog X.w D (xsOf es ++ [(nk (.tuple ds), ka, .ref la)]))) σ L := by
      refine ⟨E3.len, fun j sl hj => ?_, E3.dist⟩
      have q := E3.at_ j sl hj
      cases sl with
      | no => trivial
      | p P => exact q
      | acc ds => have := hno _ (List.mem_of_getElem? hj); cases this
      | accd ds => have := hno _ (List.mem_of_getElem? hj); cases this
    have qla : upd (upd H2 la (.lst [])) D (NDic X.prog X.w D (xsOf es ++ [(nk (.tuple ds), ka, .ref la)])) la = some (.lst []) := by rw [upd_ne (Ne.symm hDl), upd_same]
    refine ⟨.inl ⟨rfl, _, SqL.of qla⟩, F2, stB.sub, stB.tab, EB, fun v F4 H4 st4 pv => ?_⟩
    have r4 := rD.step st4
    obtain ⟨q4, q5⟩ := st4.own la _ qla fla
    cases da_int pv
    refine ⟨la, [], .int n, rfl, rfl, q4, by rw [sizeLine_eq]; decide, ?_⟩
    have st5 : Step G.T F0 H0 F4 (upd H4 la (.lst ([] ++ [.int n]))) := (stB.trans st4).updNew q5 hla0
    let es2 : List NEnt := es ++ [⟨.tuple ds, ka, la, [n]⟩]
    have m1 : ∀ x ∈ es2, ∃ y ∈ es1, x.kd = y.kd ∧ x.ka = y.ka ∧ x.la = y.la ∧ ((x ∈ es ∧ x = y) ∨ (x.la = la ∧ x.ns = [n])) := fun x hx => by
      rcases List.mem_append.mp hx with hx | hx
      · exact ⟨x, List.mem_append_left _ hx, rfl, rfl, rfl, .inl ⟨hx, rfl⟩⟩
      · rw [List.mem_singleton.mp hx]
        exact ⟨⟨.tuple ds, ka, la, []⟩, List.mem_append_right _ (List.mem_singleton.mpr rfl), rfl, rfl, rfl, .inr ⟨rfl, rfl⟩⟩
    refine nx L _ rfl σ F4 _ es2 st5 (((st12.trans st3).ks).trans (st4.ks)) ?_ ?_ ?_ ?_
    · have E4 := EB.step st4
      refine ⟨E4.len, fun j sl hj => ?_, E4.dist⟩
      have q := E4.at_ j sl hj
      cases sl with
      | no => trivial
      | p P => exact q
      | acc ds => have := hno _ (List.mem_of_getElem? hj); cases this
      | accd ds => have := hno _ (List.mem_of_getElem? hj); cases this
    · have r4' : NRes G.P G.w F4 H4 D es1 := by rw [← C.prog, ← C.w]; exact r4
      refine ⟨r4'.f, by rw [upd_ne hDl]; have := r4'.h; simpa [xsOf, es1, es2] using this, r4'.sys, by simpa [es1, es2] using r4'.nd, by simpa [es1, es2] using r4'.len, fun x hx => ?_, fun x hx => ?_, by simpa [es1, es2] using r4'.dist⟩
      · obtain ⟨y, hy, e1, e2, _⟩ := m1 x hx
        rw [e1, e2]
        exact r4'.key y hy
      · obtain ⟨y, hy, e1, e2, e3, e4⟩ := m1 x hx
        rcases e4 with ⟨e4, e5⟩ | ⟨e4, e5⟩
        · subst e5
          obtain ⟨w1, w2, w3⟩ := r4'.lst x hy
          exact ⟨w1, by rw [upd_ne (hla1 x e4)]; exact w2, w3⟩
        · rw [e4, e5]
          exact ⟨q5, by rw [upd_same]; rfl, by simp⟩
    · have e1 : kvOf es2 = kvs ++ [(.tuple ds, [n])] := by rw [← hkv]; simp [kvOf, es2]
      rw [e1, addKv_new fun e he => ?_]
      rw [← hkv] at he
      obtain ⟨y, hy, rfl⟩ := List.mem_map.mp he
      exact hno2 y hy
    · intro x hx
      rcases List.mem_append.mp hx with hx | hx
      · exact hl x hx
      · rw [List.mem_singleton.mp hx]; exact hla0
end
end K27
/-! K27, twenty-first part: the loop, the start and the end of such a dict; sorted(d), d[k]. -/
namespace K27
open PySem L2 LamX PyProof.Rows
open PySem.W (AllAlike Sortable dataLe dataKind SortsAt)
section
variable {G : Gc} {k : Nat} {X : Cx} {D : Addr} {L L1 : List Slot} {kvs kvs1 : KVs} {a b c e tg iter : Expr} {es : List Expr} {pos : Pos} {st : Stmt} {sts body : List Stmt} {R : SP} {N : Option (List Slot × KVs)}
def tbAnyN (G : Gc) (k : Nat) (X : Cx) (D : Addr) (body : List Stmt) (R : SP) : TS := fun Dd σ H => ∃ L0 kvs0 N0, JNs G k X D L0 kvs0 body R N0 ∧ tN G D L0 kvs0 R N0 Dd σ H
theorem pss_anyN (C : CxOk G k X) : PSs X body (tbAnyN G k X D body R) := ⟨fun pins s σ H Dd I ⟨L0, kvs0, N0, h, q⟩ => (h C).run pins s σ H Dd I q⟩
def BtwN (G : Gc) (D : Addr) (F0 H0 F1 : Hp) (Li : List Slot) (kvs : KVs) (σ : L2.St) (H : Hp) : Prop := ∃ F es, Step G.T F0 H0 F H ∧ KS F1 F ∧ EnvOk F H σ Li ∧ NRes G.P G.w F H D es ∧ kvOf es = kvs ∧ ∀ e ∈ es, H0 e.la = none
structure TurnsN (G : Gc) (k : Nat) (X : Cx) (D : Addr) (tg : Expr) (body : List Stmt) (R : SP) {α : Type} (xs : List α) (P : α → SP) (is : List Nat) (Ps : α → List SP) (Li : List Slot) (K : Nat → KVs) : Prop where
  tg : ∀ x, x ∈ xs → JG G k X tg (P x) is (Ps x)
  body : ∀ (i : Nat) (x : α), xs[i]? = some x → ∃ L1, JNs G k X D (setsL Li is (Ps x)) (K i) body R (some (L1, K (i + 1))) ∧ Ent L1 Li
theorem jn_forL {α : Type} {xs : List α} {P : α → SP} {is : List Nat} {Ps : α → List SP} (Li : List Slot) (K : Nat → KVs) (hi : JE G k X L iter (isLstP (xs.map P))) (h0 : Ent L Li) (hK : K 0 = kvs) (B : TurnsN G k X D tg body R xs P is Ps Li K) (hp : PassesOwn (model X.prog X.w) X.A X.env X.xe := by exact PassesOwn.never) (hfs : ∀ x, foldedSetIterable iter X.env x = pure x := by intro _; rfl) :
    JN G k X D L kvs (.For tg iter body [] pos) R (some (Li, K xs.length)) := fun C =>
  (ps_for hp C.calm (pi_list (hi C)) (pg_any C) (pss_anyN C) hfs).imp fun Dd σ H ⟨F0, H0, F, es, s0, st, E, r, hk, hD, hl, rt, n⟩ => ⟨F, st.sub, st.tab, E, fun v F1 H1 st1 p => by
    obtain ⟨ad, vs, rfl, h1, h2⟩ := p
    have hvl : vs.length = xs.length := by rw [allP_length h2, List.length_map]
    refine ⟨ad, rfl, ⟨vs, SqL.of (st1.sub _ _ h1)⟩, for_list (K := X.K) (a := ad) (xs := vs) (fun i σ' H' => BtwN G D F0 H0 F1 Li (K i) σ' H') ⟨F1, es, st.trans st1, KS.refl F1, h0.e _ _ _ (E.step st1), r.step st1, hk.trans hK.symm, hl⟩ (fun i σ' H' _ ⟨F', _, st', ks', _⟩ => SqL.of (st'.sub _ _ (ks'.str _ _ h1 fun _ z => nomatch z))) ?_ ?_⟩
    · rintro i u σ' H' hu ⟨F', es', st', ks', E', r', hk', hl'⟩
      obtain ⟨Pu, hPu, pu⟩ := allP_getV h2 hu
      rw [List.getElem?_map] at hPu
      cases hx : xs[i]? with
      | none => rw [hx] at hPu; cases hPu
      | some x =>
        rw [hx] at hPu
        cases hPu
        obtain ⟨L1, hb, en⟩ := B.body i x hx
        exact ⟨_, _, _, B.tg x (List.mem_of_getElem? hx), F', st'.sub, (P x).st ks'.w pu, fun ws hws => ⟨_, _, _, hb, F0, H0, F', es', s0, st', E'.sets hws, r', hk', hD, hl', fun v F2 H2 st2 k2 p => rt v F2 H2 st2 ((st1.ks.trans ks').trans k2) p,
          fun L' kvs' e σ2 F2 H2 es2 st2 k2 E2 r2 hk2 hl2 => by cases e; exact ⟨F2, es2, st2, ks'.trans k2, en.e _ _ _ E2, r2, hk2, hl2⟩⟩⟩
    · rintro σ' H' ⟨F', es', st', ks', E', r', hk', hl'⟩
      rw [hvl] at hk'
      exact n _ _ rfl σ' F' H' es' st' (st1.ks.trans ks') E' r' hk' hl'⟩
/-- d = {} -/
theorem pe_dnewN : PE X (.Dict [] [] pos) (fun _ H Q => ∀ p, H p = none → (p == sysModules) = false → Q (.ref p) (upd H p (NDic X.prog X.w p []))) := ⟨fun pins s σ H Q I h => by
  have hd : (s.heap.push { cls := .type "dict", data := .dict #[] }).DictOfH (nestedKind X.prog X.w) s.heap.objs.size [] := Heap.DictOfH.new s.heap
  exact wpAny_Dict_empty ⟨.ref s.heap.objs.size, _, I.laid (a := s.heap.objs.size) (o := NDic X.prog X.w s.heap.objs.size []) (t' := s.toks) (fun _ _ q => Heap.get?_push_of_some _ q) (Nat.le_refl _) (ndic_ok hd), rfl, h _ (I.hok.fresh (Nat.le_refl _)) (beq_eq_false_iff_ne.mpr (Ne.symm (Nat.ne_of_lt I.big)))⟩⟩
theorem js_newN (i : Nat) {x : Str} {pos' pl : Pos} {N' : Option (List Slot)} (h : ∀ D, JNs G k X D (L.set i (.p (isV (.ref D)))) [] sts R none) (hi : X.N[i]? = some x := by rfl) (hx : Loc X.env.scope x := by first | exact Or.inl rfl | exact Or.inr rfl) (hs : swapsWith (.Dict [] [] pl) (some (.Name x pos')) pos.line X.env = pure false := by rfl)
    (hf : X.fn x = true ∨ X.env.scope.names.lookup x = some .local := by first | exact .inl rfl | exact .inr rfl) : JSs G k X L (.Assign [.Name x pos'] (.Dict [] [] pl) pos :: sts) R N' := fun C => by
  have ps2 : PSs X sts (fun Dd σ H => ∃ D, tN G D (L.set i (.p (isV (.ref D)))) [] R none Dd σ H) := ⟨fun pins s σ H Dd I ⟨D, q⟩ => (h D C).run pins s σ H Dd I q⟩
  refine (pss_cons (ps_set C.nd hi hx pe_dnewN hs hf) ps2).imp fun Dd σ H ⟨F0, H0, F, s0, st, E, O, r, n⟩ p hp hsys => ?_
  have hF := st.sub.no hp
  have st1 : Step G.T F H F (upd H p (NDic X.prog X.w p [])) := Step.newOwn st.tab st.sub hp
  refine ⟨p, F0, H0, F, [], s0, st.updNew hF (st.there s0 hp), (E.step st1).set rfl, ⟨hF, by rw [← C.prog, ← C.w]; exact upd_same, hsys, List.nodup_nil, Nat.zero_le _, fun e he => (by cases he), fun e he => (by cases he), List.nodup_nil⟩, rfl, st.there s0 hp, fun e he => (by cases he), fun v F' H' st' k' p => r v F' H' st' k' p, fun L' kvs' e => (by cases e)⟩
/-- the whole dict, in the frame -/
def isND (P : Program) (w : World) (kvs : KVs) : SP := ⟨fun v F => ∃ (D : Addr) (es : List NEnt), v = .ref D ∧ F D = some (NDic P w D (xsOf es)) ∧ (D == sysModules) = false ∧ (es.map fun e : NEnt => nk e.kd).Nodup ∧ es.length ≤ 1000 ∧ kvOf es = kvs ∧ ∀ e ∈ es, Da F (.ref e.ka) e.kd ∧ KeyOk e.kd ∧ Da F (.ref e.la) (.list (e.ns.map .int)),
  fun h ⟨D, es, e1, e2, e3, e4, e5, e6, e7⟩ => ⟨D, es, e1, h.obj _ _ e2 trivial, e3, e4, e5, e6, fun e he => ⟨keep_d h _ _ (e7 e he).1, (e7 e he).2.1, keep_d h _ _ (e7 e he).2.2⟩⟩⟩
theorem jn_freeze (i : Nat) (hL : slot L i = .p (isV (.ref D))) (hno : noOwn L) (h : JSs G k X (L.set i (.p (isND G.P G.w kvs))) sts R none) : JNs G k X D L kvs sts R N := fun C => (h C).imp fun Dd σ H ⟨F0, H0, F, es, s0, st, E, r, hk, hD, hl, rt, n⟩ => by
  let F' : Hp := fun b => open Classical in if F b = none ∧ (b = D ∨ ∃ e ∈ es, b = e.la) then H b else F b
  have old : ∀ b o, F b = some o → F' b = some o := fun b o e => by
    show (if _ then _ else _) = _
    rw [if_neg (fun z => by rw [z.1] at e; cases e)]
    exact e
  have inD : F' D = H D := by
    show (if _ then _ else _) = _
    rw [if_pos ⟨r.f, .inl rfl⟩]
  have inL : ∀ e ∈ es, F' e.la = H e.la := fun e he => by
    show (if _ then _ else _) = _
    rw [if_pos ⟨(r.lst e he).1, .inr ⟨e, he, rfl⟩⟩]
  have kp : Keep F F' := Keep.of old
  have sub : Sub F' H := fun b o e => by
    have e : (open Classical in if F b = none ∧ (b = D ∨ ∃ e ∈ es, b = e.la) then H b else F b) = some o := e
    split at e
    · exact e
    · exact st.sub b o e
  have st' : Step G.T F0 H0 F' H := ⟨st.keep.trans kp, fun b o e n => old b o (st.str b o e n), st.tab.ext old, sub, fun b o e n => by
    obtain ⟨q1, q2⟩ := st.own b o e n
    refine ⟨q1, ?_⟩
    show (if _ then _ else _) = _
    rw [if_neg, q2]
    rintro ⟨_, z | ⟨x, hx, z⟩⟩
    · rw [z, hD] at e; cases e
    · rw [z, hl x hx] at e; cases e⟩
  have ks : KS F F' := ⟨kp, fun b o e _ => old b o e⟩
  have hlt : i < L.length := (List.getElem?_eq_some_iff.mp (slot_p hL)).1
  obtain ⟨v, hv, pv⟩ := E.var (slot_p hL)
  have pv : v = .ref D := pv
  subst pv
  refine ⟨F0, H0, F', s0, st', ⟨by rw [List.length_set]; exact E.len, fun j sl hj => ?_, fun j k a s t hj hk os => ?_⟩, own_no ?_, fun v F2 H2 st2 k2 p => rt v F2 H2 st2 (ks.trans k2) p, fun L' e => by cases e⟩
  · by_cases hij : i = j
    · subst hij
      rw [List.getElem?_set_self hlt] at hj
      cases hj
      refine ⟨.ref D, hv, D, es, rfl, by rw [inD]; exact r.h, r.sys, r.nd, r.len, hk, fun e he => ⟨keep_d kp _ _ (r.key e he).1, (r.key e he).2, ?_⟩⟩
      exact .lst (by rw [inL e he]; exact (r.lst e he).2.1) (das_of_ints _)
    · rw [List.getElem?_set_ne hij] at hj
      have q := E.at_ j sl hj
      cases sl with
      | no => trivial
      | p P => obtain ⟨v, q1, q2⟩ := q; exact ⟨v, q1, P.st kp q2⟩
      | acc ds => have := hno _ (List.mem_of_getElem? hj); cases this
      | accd ds => have := hno _ (List.mem_of_getElem? hj); cases this
  · exfalso
    have : s.own = false := by
      rcases List.mem_or_eq_of_mem_set (List.mem_of_getElem? hj) with h | h
      · exact hno _ h
      · rw [h]; rfl
    rw [this] at os; cases os
  · intro s hs
    rcases List.mem_or_eq_of_mem_set hs with h | h
    · exact hno _ h
    · rw [h]; rfl
/-- d[k] -/
def getKv (kvs : KVs) (kd : PyData) : List Int := ((kvs.find? fun e => decide (nk e.1 = nk kd)).map (·.2)).getD []
theorem je_nget {kd : PyData} (hkd : KeyOk kd) (hb : ∃ ds, kd = .tuple ds) (hin : ∃ e ∈ kvs, nk e.1 = nk kd) (ha : JE G k X L a (isND G.P G.w kvs)) (hk : JE G k X L b (isD kd)) (hs : NoSl b := by exact fun _ _ => rfl) : JE G k X L (.Subscript a b pos) (isD (.list ((getKv kvs kd).map .int))) := fun C => ⟨fun pins s σ H Q I ⟨F, sF, tT, E, q⟩ => by
  refine subD_of PySem.F.slot_dict_getitem.lookup hs (thn ((ha C).run pins s σ H (fun v H1 => ∃ F1, Step G.T F H F1 H1 ∧ (isND G.P G.w kvs).P v F1) I ⟨F, sF, tT, E, fun v F1 H1 st1 p1 => ⟨F1, st1, p1⟩⟩) fun u s1 ⟨v, H1, I1, r1, F1, st1, p1⟩ => ?_)
  refine thn ((hk C).run pins s1 σ H1 (fun v H2 => ∃ F2, Step G.T F1 H1 F2 H2 ∧ Da F2 v kd) I1 ⟨F1, st1.sub, st1.tab, E.step st1, fun v F1 H1 st1 p1 => ⟨F1, st1, p1⟩⟩) fun iv s2 ⟨y, H2, I2, r2, F2, st2, p2⟩ => ?_
  obtain ⟨D, es, rfl, e2, e3, e4, e5, e6, e7⟩ := (isND G.P G.w kvs).st st2.keep p1
  obtain rfl : u = Value.ref D := r1
  obtain ⟨ds, rfl⟩ := hb
  obtain ⟨ka, ys, rfl, ht, dys⟩ := da_tup p2
  obtain rfl : iv = Value.ref ka := r2
  have hH : H2 D = some (NDic X.prog X.w D (xsOf es)) := by rw [C.prog, C.w]; exact st2.sub _ _ e2
  have dd : s2.heap.DictOfH (nestedKind X.prog X.w) D (xsOf es) := by
    obtain ⟨⟨o, dss, ep, h1, h2, h3, h4⟩, _, _⟩ := I2.hok D _ hH
    refine ⟨o, dss, ep, h1, h2, h3, h4, fun x hx => ?_, by simpa [xsOf, Function.comp_def] using e4⟩
    obtain ⟨e, he, rfl⟩ := List.mem_map.mp hx
    obtain ⟨k1, k2, _⟩ := e7 e he
    exact ⟨da_nested I2 st2.sub _ _ _ k1 k2.t rfl, k2.dp⟩
  refine ⟨dd.typeIs, ?_⟩
  obtain ⟨x, hx, hxk⟩ := hin
  rw [← e6] at hx
  obtain ⟨e, he, rfl⟩ := List.mem_map.mp hx
  have hu : X.A.units + 1 + 8 < cLine := by have := C.room.un; omega
  refine wpAny_getItem_heap (knd := nestedKind X.prog X.w) (k := nk (.tuple ds)) hu ⟨da_nested I2 st2.sub _ _ _ p2 hkd.t rfl, hkd.dp⟩ dd (atKey_some e4 he hxk) ?_
  have hget : getKv kvs (.tuple ds) = e.ns := by
    rw [← e6]
    unfold getKv
    have hfind : ∀ {l : List NEnt}, (l.map fun e => nk e.kd).Nodup → e ∈ l → ((kvOf l).find? fun z => decide (nk z.1 = nk (.tuple ds))) = some (e.kd, e.ns) := fun {l} hnd hm => by
      induction l with
      | nil => cases hm
      | cons z l ih =>
        have hnd' := List.nodup_cons.mp hnd
        show (((z.kd, z.ns) :: kvOf l).find? _) = _
        rcases List.mem_cons.mp hm with rfl | hm
        · rw [List.find?_cons_of_pos (by exact decide_eq_true hxk)]
        · have hne : nk z.kd ≠ nk (.tuple ds) := fun w => hnd'.1 (List.mem_map.mpr ⟨e, hm, hxk.trans w.symm⟩)
          rw [List.find?_cons_of_neg (by simpa using hne)]
          exact ih hnd'.2 hm
    rw [hfind e4 he]
    rfl
  refine ⟨.ref e.la, H2, I2.tok _, rfl, q _ F2 H2 (st1.trans st2) ?_⟩
  rw [hget]
  exact (e7 e he).2.2⟩
end
end K27
/-! K27, twenty-second part: sorted(d). -/
namespace K27
open PySem L2 LamX PyProof.Rows
open PySem.W (AllAlike Sortable dataLe dataKind SortsAt)
section
variable {X : Cx}
theorem call_sortedN (hcalm : X.calm = true) (hu : X.A.units + 200 < cLine) : CallR X (.builtin "sorted") (fun xs H Q => ∃ (F : Hp) (T : List (Addr × Str)) (kvs : KVs), ∃ v, xs = [v] ∧ Sub F H ∧ Tabs T F ∧ (isND X.prog X.w kvs).P v F ∧ AllAlike (kvs.map (·.1)) ∧ (Sortable (kvs.map (·.1)) ∨ kvs.length ≤ 1) ∧ (∀ d ∈ kvs.map (·.1), d.depth ≤ 60) ∧
    ∀ p vs', H p = none → Das F vs' ((kvs.map (·.1)).mergeSort (dataLe false id)) → Q (.ref p) (upd H p (.lst vs'))) := by
  intro pins s σ H xs us Q I r ⟨F, T, kvs, v, ex, sF, tT, ⟨D, es, e1, e2, e3, e4, e5, e6, e7⟩, hal, hsk, hdp, q⟩
  subst ex e1
  obtain rfl := Vals.ref1 r
  have hH := sF _ _ e2
  obtain ⟨⟨o, des, ep, h1, h2, h3, h4⟩, _, _⟩ := I.hok D _ hH
  have raw : s.heap.DictRaw D des ep := ⟨o, h1, h2, h3⟩
  have hsz : des.size = es.length := by rw [← Array.length_toList, h4, List.length_map]; simp [xsOf]
  have hks : kvs.map (·.1) = es.map (·.kd) := by rw [← e6]; simp [kvOf, Function.comp_def]
  refine Calls.call_function_entry PyProof.Rows.kind_sorted PyProof.Rows.plain_sorted PyProof.Rows.entry_sorted (PyProof.Rows.args_sorted1 _) ?_
  unfold Builtin.«sorted»
  refine wpAny_bind (m := checkCount "sorted" 1 1 _) (wpAny_pure ?_)
  refine wpAny_bind (PySem.W.kdu_collect (A := X.A.in1) (KdlSrc.rawDict (es := des) (ep := ep) e3) (I.ok.hd hcalm) raw (by rw [hsz, sizeLine_eq]; omega) fun h' tk acc hk hacc => ?_)
  have hal2 : acc.toList.length = es.length := by rw [Array.length_toList, hacc.1, hsz]
  have I1 : Inv X pins σ H { s with heap := h', toks := tk } := I.kept hk
  have hitem : ∀ (j : Nat) (u : Value), acc.toList[j]? = some u → ∃ e, es[j]? = some e ∧ u = .ref e.ka := fun j u hu => by
    obtain ⟨hi, eu⟩ := hacc.2 j u (by rw [← Array.getElem?_toList]; exact hu)
    have hj : j < es.length := by rw [← hsz]; exact hi
    refine ⟨es[j], List.getElem?_eq_getElem hj, ?_⟩
    have e9 : des.toList[j]? = some (entryOfKey (nestedKind X.prog X.w) (nk es[j].kd, es[j].ka, .ref es[j].la)) := by
      rw [h4]; unfold xsOf; rw [List.map_map, List.getElem?_map, List.getElem?_eq_getElem hj]; rfl
    rw [Array.getElem?_toList, Array.getElem?_eq_getElem hi] at e9
    rw [eu, Option.some.inj e9]
    rfl
  have hR : PySem.W.EachIs (fun u d => ∃ v, RelV v u ∧ Da F v d) acc.toList (kvs.map (·.1)) := each_mk (by rw [hks, List.length_map]; exact hal2) fun i u d a1 a2 => by
    obtain ⟨e, he, rfl⟩ := hitem i u a1
    rw [hks, List.getElem?_map, he] at a2
    cases a2
    exact ⟨.ref e.ka, rfl, (e7 e (List.mem_of_getElem? he)).1⟩
  have hz2 : acc.toList.length ≤ sizeLine := by rw [hal2, sizeLine_eq]; omega
  refine wpAny_bind (wpAny_newList ?_ hz2)
  have hoL : (h'.push (seqObj "list" acc.toList.toArray 0)).get? h'.objs.size = some (seqObj "list" acc.toList.toArray 0) := Heap.get?_push_size _ rfl
  have hkeep : ∀ b u, h'.get? b = some u → (PySem.W.sortingHeap (h'.push (seqObj "list" acc.toList.toArray 0)) h'.objs.size acc.toList).get? b = some u := fun b u e =>
    PySem.W.sortingHeap_old (Nat.ne_of_lt (Heap.lt_size e)) (Heap.get?_push_of_some _ e)
  have hre : PySem.W.EachIs (fun u d => ∃ as, Reads (PySem.W.sortingHeap (h'.push (seqObj "list" acc.toList.toArray 0)) h'.objs.size acc.toList) u d as) acc.toList (kvs.map (·.1)) := hR.mono fun u d ⟨v, rv, dv⟩ => by
    obtain ⟨as, rr⟩ := Dp.reads I1 d v u (da_dp sF _ _ dv) rv
    exact ⟨as, PyProof.Rows.Reads.keeps hkeep rr⟩
  show wpAny _ _ _ _ _ { s with heap := h'.push (seqObj "list" acc.toList.toArray 0), toks := tk }
  have hre' : PySem.W.EachIs (fun u d => ∃ as, Reads (PySem.W.sortingHeap (h'.push (seqObj "list" acc.toList.toArray 0)) h'.objs.size acc.toList) u (id d) as) acc.toList (kvs.map (·.1)) := hre
  have hal' : AllAlike ((kvs.map (·.1)).map id) := by rw [List.map_id]; exact hal
  rcases hsk with hsk | hsk1
  · refine wpAny_bind (wpAny_holding (wpAny_call_entry PyProof.Rows.slot_list_sort ⟨_, hoL, rfl⟩ PyProof.Rows.entry_list_sort
      (PySem.W.list_sort_vals (κ := dataKind (PySem.W.sortingHeap (h'.push (seqObj "list" acc.toList.toArray 0)) h'.objs.size acc.toList) ((kvs.map (·.1)).map id)) (s := { s with heap := h'.push (seqObj "list" acc.toList.toArray 0), toks := tk }) hoL
        (SortsAt.data (s := { s with heap := PySem.W.sortingHeap (h'.push (seqObj "list" acc.toList.toArray 0)) h'.objs.size acc.toList, toks := tk }) (by rw [List.map_id]; exact hre) hal' (by rw [List.map_id]; exact hsk) (fun d hd => by
          rw [List.map_id] at hd
          have := hdp d hd
          show X.A.units + 1 + 1 + _ < _
          omega)) hz2 ⟨_, rfl, ?_⟩)
      (PyProof.Rows.args_list_sort _)))
    obtain ⟨vs', r', d'⟩ := each_split (itm := id) (PySem.W.sortVals_data (enc := id) false hR hre' hal')
    rw [List.map_id] at d'
    obtain ⟨e', he'⟩ := PyProof.Rows.sortedHeap_at (vs := acc.toList) (out := (PySem.W.sortVals (dataKind (PySem.W.sortingHeap (h'.push (seqObj "list" acc.toList.toArray 0)) h'.objs.size acc.toList) ((kvs.map (·.1)).map id)) false acc.toList acc.toList).toArray) hoL
    have hlen : vs'.length ≤ sizeLine := by
      rw [das_length d', List.length_mergeSort, hks, List.length_map, sizeLine_eq]; omega
    refine wpAny_pure ⟨_, rfl, .ref h'.objs.size, upd H h'.objs.size (.lst vs'), I1.laid (t' := tk) (fun b u e => ?_) (Nat.le_refl _)
      (show ObjOk X.prog X.w _ _ _ (.lst vs') from ⟨hlen, _, e', r', he'⟩), rfl, q _ _ (I1.hok.fresh (Nat.le_refl _)) d'⟩
    have hb : b < h'.objs.size := Heap.lt_size e
    rw [PyProof.Rows.sortedHeap_old (Nat.ne_of_lt hb) (by rw [size_push']; exact Nat.lt_succ_of_lt hb)]
    exact Heap.get?_push_of_some _ e

  · have hvl : acc.toList.length ≤ 1 := by rw [hal2]; have := congrArg List.length e6; unfold kvOf at this; rw [List.length_map] at this; omega
    refine wpAny_bind (wpAny_holding (wpAny_call_entry PyProof.Rows.slot_list_sort ⟨_, hoL, rfl⟩ PyProof.Rows.entry_list_sort (by
      rw [PySem.W.plain_is_rev]
      refine SrtR.list_sort_ordR (b := false) (s := { s with heap := h'.push (seqObj "list" acc.toList.toArray 0), toks := tk }) SrtO.swo_int hoL hz2 (fun h2 => absurd h2 (by omega)) fun out g1 g2 => ⟨_, rfl, ?_⟩
      have hp : out.Perm acc.toList := g2.perm
      have hout : out = acc.toList := by
        have hl := hp.length_eq
        cases hA : acc.toList with
        | nil => rw [hA] at hl; exact List.length_eq_zero_iff.mp hl
        | cons u r =>
          rw [hA] at hvl
          have hr : r = [] := List.length_eq_zero_iff.mp (by simp only [List.length_cons] at hvl; omega)
          subst hr
          rw [hA] at hp
          exact List.perm_singleton.mp hp
      subst hout
      obtain ⟨vs', r', d'⟩ := each_split (itm := id) hR
      rw [List.map_id] at d'
      obtain ⟨e', he'⟩ := PyProof.Rows.sortedHeap_at (vs := acc.toList) (out := acc.toList.toArray) hoL
      have hlen : vs'.length ≤ sizeLine := by
        rw [das_length d', hks, List.length_map, sizeLine_eq]; omega
      have hms : (kvs.map (·.1)).mergeSort (dataLe false id) = kvs.map (·.1) := by
        cases hK : kvs with
        | nil => simp
        | cons u r =>
          have hr : r = [] := List.length_eq_zero_iff.mp (by rw [hK] at hsk1; simp only [List.length_cons] at hsk1; omega)
          subst hr
          simp
      refine wpAny_pure ⟨_, rfl, .ref h'.objs.size, upd H h'.objs.size (.lst vs'), I1.laid (t' := tk) (fun b u e => ?_) (Nat.le_refl _)
        (show ObjOk X.prog X.w _ _ _ (.lst vs') from ⟨hlen, _, e', r', he'⟩), rfl, q _ _ (I1.hok.fresh (Nat.le_refl _)) (by rw [hms]; exact d')⟩
      have hb : b < h'.objs.size := Heap.lt_size e
      rw [PyProof.Rows.sortedHeap_old (Nat.ne_of_lt hb) (by rw [size_push']; exact Nat.lt_succ_of_lt hb)]
      exact Heap.get?_push_of_some _ e) (PyProof.Rows.args_list_sort _)))
end
section
variable {G : Gc} {k : Nat} {X : Cx} {L : List Slot} {a b c e : Expr} {pos : Pos} {kvs : KVs}
theorem je_sortedN {p : Pos} (hal : AllAlike (kvs.map (·.1))) (hsk : Sortable (kvs.map (·.1)) ∨ kvs.length ≤ 1) (hdp : ∀ d ∈ kvs.map (·.1), d.depth ≤ 60) (hm : G.mg "sorted" = none) (ha : JE G k X L a (isND G.P G.w kvs)) (hg : Gl X "sorted" := by rfl) (he : starEach [a] X.env = (false, eval a X.env) :: starEach [] X.env := by rfl) :
    JE G k X L (.Call (.Name "sorted" p) [a] [] pos) (isD (.list ((kvs.map (·.1)).mergeSort (dataLe false id)))) := fun C =>
  je_callB (fun C => call_sortedN C.calm (by have := C.room.un; omega)) (fun vs F H Q s t p q => by
    obtain ⟨v, rfl, p1⟩ := allP1 p
    refine ⟨F, G.T, kvs, v, rfl, s, t, by rw [C.prog, C.w]; exact p1, hal, hsk, hdp, fun p vs' hp d => ?_⟩
    have st := Step.new (o := .lst vs') t s hp
    exact q _ _ _ st (.lst upd_same (keep_ds st.keep _ _ d))) hm (by decide +kernel) (ja_cons ha ja_nil he) hg (by decide) (by decide) he (by rfl) C
end
end K27
set_option maxHeartbeats 1000000
namespace K27
open PySem L2 LamX
open PySem.W (AllAlike Sortable dataLe)
local macro_rules | `(tactic| walk_at "norm") => `(tactic| refine JSs.norm (by dsimp only [setsL, wipeL, initL, List.set, List.map, List.append, List.replicate, List.length, HAppend.hAppend, Append.append]) ?_)
local macro_rules | `(tactic| walk_at "normN") => `(tactic| refine JNs.norm (by dsimp only [setsL, wipeL, initL, List.set, List.map, List.append, List.replicate, List.length, HAppend.hAppend, Append.append]) ?_)
theorem list_snoc {α : Type} {P : List α → Prop} (nil : P []) (append_singleton : ∀ (l : List α) (n : α), P l → P (l ++ [n])) (l : List α) : P l := by
  have h : ∀ r : List α, P r.reverse := fun r => by
    induction r with
    | nil => exact nil
    | cons x r ih => rw [List.reverse_cons]; exact append_singleton _ _ ih
  have := h l.reverse
  rwa [List.reverse_reverse] at this
/-- a row's key -/
def gKey (cell : Int → Nat → PyData) (nums : List Nat) (n : Int) : PyData := .tuple (nums.map fun c => mKey (cell n c))
def mGroups (gk : Int → PyData) (l : List Int) : KVs := l.foldl (fun K n => addKv K (gk n) n) []
def mParts (kvs : KVs) : List (List Int) := ((kvs.map (·.1)).mergeSort (dataLe false id)).map (getKv kvs)
def partsD (l : List (List Int)) : PyData := .list (l.map fun g => .tuple (g.map .int))
theorem groups_snoc (gk : Int → PyData) (l : List Int) (n : Int) : mGroups gk (l ++ [n]) = addKv (mGroups gk l) (gk n) n := by unfold mGroups; rw [List.foldl_append]; rfl
theorem addKv_len {kd : PyData} {n : Int} {m : Nat} : ∀ {kvs : KVs}, (∀ e ∈ kvs, e.2.length ≤ m) → (addKv kvs kd n).length ≤ kvs.length + 1 ∧ ∀ e ∈ addKv kvs kd n, e.2.length ≤ m + 1
  | [], _ => ⟨Nat.le_refl _, fun e he => by rw [List.mem_singleton.mp he]; simp⟩
  | (k, ns) :: r, h => by
    unfold addKv
    split
    · refine ⟨by simp, fun e he => ?_⟩
      rcases List.mem_cons.mp he with rfl | he
      · have : ns.length ≤ m := h (k, ns) List.mem_cons_self
        simp only [List.length_append, List.length_singleton]
        omega
      · exact Nat.le_succ_of_le (h e (List.mem_cons_of_mem _ he))
    · obtain ⟨h1, h2⟩ := addKv_len (kd := kd) (n := n) (kvs := r) fun e he => h e (List.mem_cons_of_mem _ he)
      refine ⟨by simp only [List.length_cons]; omega, fun e he => ?_⟩
      rcases List.mem_cons.mp he with rfl | he
      · exact Nat.le_succ_of_le (h _ List.mem_cons_self)
      · exact h2 e he
theorem addKv_keys {kd : PyData} {n : Int} : ∀ {kvs : KVs} {e : PyData × List Int}, e ∈ addKv kvs kd n → e.1 = kd ∨ ∃ x ∈ kvs, e.1 = x.1
  | [], e, h => .inl (by rw [List.mem_singleton.mp h])
  | (k, ns) :: r, e, h => by
    unfold addKv at h
    split at h
    · rcases List.mem_cons.mp h with rfl | h
      · exact .inr ⟨(k, ns), List.mem_cons_self, rfl⟩
      · exact .inr ⟨e, List.mem_cons_of_mem _ h, rfl⟩
    · rcases List.mem_cons.mp h with rfl | h
      · exact .inr ⟨(k, ns), List.mem_cons_self, rfl⟩
      · rcases addKv_keys h with h | ⟨x, hx, e1⟩
        · exact .inl h
        · exact .inr ⟨x, List.mem_cons_of_mem _ hx, e1⟩
theorem groups_len (gk : Int → PyData) : ∀ (l : List Int), (mGroups gk l).length ≤ l.length ∧ ∀ e ∈ mGroups gk l, e.2.length ≤ l.length := fun l => by
  induction l using list_snoc with
  | nil => exact ⟨Nat.le_refl _, fun e he => by cases he⟩
  | append_singleton l n ih =>
    rw [groups_snoc]
    obtain ⟨h1, h2⟩ := addKv_len (kd := gk n) (n := n) ih.2
    rw [List.length_append, List.length_singleton]
    exact ⟨Nat.le_trans h1 (Nat.succ_le_succ ih.1), h2⟩
theorem groups_keys (gk : Int → PyData) : ∀ (l : List Int) (e : PyData × List Int), e ∈ mGroups gk l → ∃ n ∈ l, e.1 = gk n := fun l => by
  induction l using list_snoc with
  | nil => intro e he; cases he
  | append_singleton l n ih =>
    intro e he
    rw [groups_snoc] at he
    rcases addKv_keys he with h | ⟨x, hx, e1⟩
    · exact ⟨n, by simp, h⟩
    · obtain ⟨m, hm, e2⟩ := ih x hx
      exact ⟨m, List.mem_append_left _ hm, e1.trans e2⟩
theorem alikeAll_keys {cell : Int → Nat → PyData} {a b : Int} : ∀ {nums : List Nat}, (∀ c ∈ nums, cellB (cell a c) = true ∧ cellB (cell b c) = true) → PySem.W.alikeAll (nums.map fun c => mKey (cell a c)) (nums.map fun c => mKey (cell b c)) = true
  | [], _ => by simp [PySem.W.alikeAll]
  | c :: nums, h => by
    obtain ⟨h1, h2⟩ := h c List.mem_cons_self
    simp only [List.map_cons, PySem.W.alikeAll, mKey_alike h1 h2, alikeAll_keys fun c hc => h c (List.mem_cons_of_mem _ hc), Bool.and_self]
theorem key_depthR : ∀ {ds : List PyData}, (∀ d ∈ ds, d.depth ≤ 1) → PyData.depthAll ds ≤ 1
  | [], _ => by simp [PyData.depthAll]
  | d :: ds, h => by
    have h1 := h d List.mem_cons_self
    have h2 := key_depthR (ds := ds) fun x hx => h x (List.mem_cons_of_mem _ hx)
    simp only [PyData.depthAll]
    omega
theorem mKey_depth1 {a : PyData} (ha : cellB a = true) : (mKey a).depth ≤ 1 := by
  cases a <;> first | (cases ha; done) | (simp [mKey, PyData.depth, PyData.depthAll])
theorem nk_depths : ∀ {ds : List PyData}, (∀ d ∈ ds, (nk d).depth ≤ 1) → NestedKey.depthAll (nks ds) ≤ 1
  | [], _ => by simp [nks, NestedKey.depthAll]
  | d :: ds, h => by
    have h1 := h d List.mem_cons_self
    have h2 := nk_depths (ds := ds) fun x hx => h x (List.mem_cons_of_mem _ hx)
    simp only [nks, NestedKey.depthAll]
    omega
theorem tups_all : ∀ {ds : List PyData}, (∀ d ∈ ds, tupB d = true) → tupsB ds = true
  | [], _ => rfl
  | d :: ds, h => by
    show (tupB d && tupsB ds) = true
    rw [h d List.mem_cons_self, tups_all fun x hx => h x (List.mem_cons_of_mem _ hx)]
    rfl
theorem gKey_ok {cell : Int → Nat → PyData} {nums : List Nat} {n : Int} (h : ∀ c ∈ nums, cellB (cell n c) = true) : KeyOk (gKey cell nums n) := by
  constructor
  · show tupsB _ = true
    refine tups_all fun d hd => ?_
    obtain ⟨c, hc, rfl⟩ := List.mem_map.mp hd
    have := h c hc
    cases hq : cell n c <;> rw [hq] at this <;> first | (cases this; done) | rfl
  · show (NestedKey.tup (nks _)).depth ≤ 8
    have : NestedKey.depthAll (nks (nums.map fun c => mKey (cell n c))) ≤ 1 := nk_depths fun d hd => by
      obtain ⟨c, hc, rfl⟩ := List.mem_map.mp hd
      have := h c hc
      cases hq : cell n c <;> rw [hq] at this <;> first | (cases this; done) | (simp [mKey, nk, nks, NestedKey.depth, NestedKey.depthAll])
    simp only [NestedKey.depth]
    omega
/-- what the sort of the keys asks -/
theorem groups_sort {cell : Int → Nat → PyData} {nums : List Nat} {l : List Int} (h : ∀ n ∈ l, ∀ c ∈ nums, cellB (cell n c) = true) :
    AllAlike ((mGroups (gKey cell nums) l).map (·.1)) ∧ (Sortable ((mGroups (gKey cell nums) l).map (·.1)) ∨ (mGroups (gKey cell nums) l).length ≤ 1) ∧ ∀ d ∈ (mGroups (gKey cell nums) l).map (·.1), d.depth ≤ 60 := by
  have key : ∀ d ∈ (mGroups (gKey cell nums) l).map (·.1), ∃ n ∈ l, d = gKey cell nums n := fun d hd => by
    obtain ⟨e, he, rfl⟩ := List.mem_map.mp hd
    exact groups_keys _ _ e he
  refine ⟨fun d hd d' hd' => ?_, ?_, fun d hd => ?_⟩
  · obtain ⟨n, hn, rfl⟩ := key d hd
    obtain ⟨m, hm, rfl⟩ := key d' hd'
    simp only [gKey, PySem.W.alike]
    exact alikeAll_keys fun c hc => ⟨h n hn c hc, h m hm c hc⟩
  · cases nums with
    | cons c nums =>
      refine .inl (.inl fun d hd => ?_)
      obtain ⟨n, hn, rfl⟩ := key d hd
      exact ⟨_, _, rfl⟩
    | nil =>
      refine .inr ?_
      have hk : ∀ (l : List Int), mGroups (gKey cell []) l = [] ∨ ∃ ns, mGroups (gKey cell []) l = [(.tuple [], ns)] := fun l => by
        induction l using list_snoc with
        | nil => exact .inl rfl
        | append_singleton l n ih =>
          rw [groups_snoc]
          rcases ih with ih | ⟨ns, ih⟩
          · rw [ih]; exact .inr ⟨[n], rfl⟩
          · rw [ih]; exact .inr ⟨ns ++ [n], by simp [addKv, gKey]⟩
      rcases hk l with h | ⟨ns, h⟩ <;> rw [h] <;> simp
  · obtain ⟨n, hn, rfl⟩ := key d hd
    have : PyData.depthAll (nums.map fun c => mKey (cell n c)) ≤ 1 := key_depthR fun d hd => by
      obtain ⟨c, hc, rfl⟩ := List.mem_map.mp hd
      exact mKey_depth1 (h n hn c hc)
    simp only [gKey, PyData.depth]
    omega
section
variable {G : Gc}
structure IPart where
  rows : Rows
  w : Nat
  nums : List Nat
structure IPart.Ok (i : IPart) : Prop where
  r : RowsOk i.rows i.w
  n : ∀ c ∈ i.nums, c < i.w
  l : i.nums.length ≤ 100
abbrev spPartitions (G : Gc) : Sp := SpF G.T (fun i : IPart => i.Ok) (fun i => [isD (.tuple (i.rows.map rowD)), isD (.tuple (natsD i.nums))]) (fun i => isD (partsD (mParts (mGroups (gKey (cell i.rows) i.nums) (mRowIds i.rows)))))
theorem sc4 : FnScope ["rows", "numbers", "cells", "found", "number", "key", "column"] ["rows", "numbers"] (defScope (top 4)) := ⟨rfl, rfl, rfl, by decide +kernel, rfl, by decide +kernel, by decide +kernel⟩
theorem parts_tail {X : Cx} {k : Nat} {L : List Slot} {kvs : KVs} {i : Nat} : True := trivial
theorem ok4 (B : Bt G) (hI : Fn G "row_ids" 1 (spRowIds G)) (hK : Fn G "key_of" 1 (spKey G)) {f : Addr} {fd : FuncData} (F : Fun G.K "partitions" "partitions" (top 4) f fd) : FnOk G.P G.w G.K G.mg G.base CX0 2 f fd ["rows", "numbers"] (spPartitions G) := by
  refine fn_ok (k := 1) F sc4 (fun _ => rfl) ?_
  rintro ⟨rows, w, nums⟩ ⟨r, hn, hl⟩ cdv A outer s H E
  dsimp only at *
  refine js_cons (js_asg 2 (je_dictT (kvs := rowsK rows) (rowsK_nodup r.nd) B.dict ((je_var 0).is (by rw [prD_rows])))) ?_
  walk_at "norm"
  let ids' := mRowIds rows
  have hmem : ∀ n ∈ ids', n ∈ ids rows := fun n hn => mem_sset.mp hn
  have hcl : ∀ n ∈ ids', ∀ c ∈ nums, cellB (cell rows n c) = true := fun n hm c hc => rows_cell r (hmem n hm) (hn c hc)
  have hil : ids'.length ≤ 100 := Nat.le_trans (sset_len _) (by unfold ids; rw [List.length_map]; exact r.len)
  refine js_newN 3 fun D => ?_
  walk_at "normN"
  let K : Nat → KVs := fun i => mGroups (gKey (cell rows) nums) (ids'.take i)
  let L0 : List Slot := [.p (isD (.tuple (rows.map rowD))), .p (isD (.tuple (natsD nums))), .p (isDic (rowsK rows)), .p (isV (.ref D)), .no, .no, .no]
  have no0 : noOwn L0 := fun s hs => by
    simp only [L0, List.mem_cons, List.not_mem_nil, or_false] at hs
    rcases hs with rfl | rfl | rfl | rfl | rfl | rfl | rfl <;> rfl
  refine jn_cons (jn_forL (xs := ids') (P := fun n => isI n) (is := [4]) (Ps := fun n => [isI n]) L0 K (je_seqL (d := PyData.int) (je_call hI rows ⟨r.len, r.nd⟩ (ja_cons (je_var 0) ja_nil)) rfl) (Ent.refl _) rfl ⟨fun x hx => jg_name 4, fun i n hx => ?_⟩) ?_
  · have hm : n ∈ ids' := List.mem_of_getElem? hx
    have htake : ids'.take (i + 1) = ids'.take i ++ [n] := by rw [List.take_add_one, hx]; rfl
    have hK1 : K (i + 1) = addKv (K i) (gKey (cell rows) nums n) n := by simp only [K]; rw [htake, groups_snoc]
    have hgl := groups_len (gKey (cell rows) nums) (ids'.take i)
    rw [List.length_take] at hgl
    refine ⟨L0, ?_, Ent.refl _⟩
    show JNs _ _ _ _ [_, _, _, .p (isV (.ref D)), .p (isI n), _, _] _ _ _ _
    have no1 : noOwn [.p (isD (.tuple (rows.map rowD))), .p (isD (.tuple (natsD nums))), .p (isDic (rowsK rows)), .p (isV (.ref D)), .p (isI n), .no, .no] := fun s hs => by
      simp only [List.mem_cons, List.not_mem_nil, or_false] at hs
      rcases hs with rfl | rfl | rfl | rfl | rfl | rfl | rfl <;> rfl
    refine jn_cons (jn_js (js_asg 5 (P := isD (gKey (cell rows) nums n)) (je_tupleL B.tuple (je_lcT0 (xs := nums) (d := fun c : Nat => .int c) (own := [("column", 6)]) (is := [6]) (Ps := fun c : Nat => [isI c]) (y := fun c => mKey (cell rows n c)) (je_var 1)
      (blk0 (by decide) (fun x hx s H C cl fp => jg_name 6) fun c hc s H C cl fp => je_call hK (cell rows n c) (hcl n hm c hc) (ja_cons (je_cell r (hmem n hm) (hn c hc) (je_var 2) (je_var 4) (je_var 6)) ja_nil)) (by omega)))) no1) ?_
    walk_at "normN"
    have no2 : noOwn [.p (isD (.tuple (rows.map rowD))), .p (isD (.tuple (natsD nums))), .p (isDic (rowsK rows)), .p (isV (.ref D)), .p (isI n), .p (isD (gKey (cell rows) nums n)), .no] := fun s hs => by
      simp only [List.mem_cons, List.not_mem_nil, or_false] at hs
      rcases hs with rfl | rfl | rfl | rfl | rfl | rfl | rfl <;> rfl
    exact JNs.out (jn_cons (jn_app no2 (gKey_ok fun c hc => hcl n hm c hc) ⟨_, rfl⟩ ⟨by have := hgl.1; simp only [K]; omega, fun e he => by have := hgl.2 e he; omega⟩ (je_var 3) (je_var 5) (je_var 4)) jn_nil) (ent_drops [4, 5] _) hK1.symm
  · have hfull : K ids'.length = mGroups (gKey (cell rows) nums) ids' := by simp only [K]; rw [List.take_length]
    rw [hfull]
    obtain ⟨s1, s2, s3⟩ := groups_sort (cell := cell rows) (nums := nums) (l := ids') hcl
    refine jn_freeze 3 rfl no0 ?_
    walk_at "norm"
    generalize hkv : mGroups (gKey (cell rows) nums) ids' = kvs at s1 s2 s3
    have hkin : ∀ kd ∈ (kvs.map (·.1)).mergeSort (dataLe false id), ∃ n ∈ ids', kd = gKey (cell rows) nums n := fun kd hk => by
      obtain ⟨e, he, rfl⟩ := List.mem_map.mp ((List.mergeSort_perm _ _).mem_iff.mp hk)
      rw [← hkv] at he
      exact groups_keys _ _ e he
    have hkl : ((kvs.map (·.1)).mergeSort (dataLe false id)).length ≤ 100 := by
      rw [List.length_mergeSort, List.length_map, ← hkv]
      exact Nat.le_trans (groups_len _ _).1 hil
    refine js_rt (JE.is (je_lcL0 (xs := (kvs.map (·.1)).mergeSort (dataLe false id)) (d := fun d => d) (own := [("key", 5)]) (is := [5]) (Ps := fun d => [isD d]) (y := fun d => .tuple ((getKv kvs d).map .int)) (JE.is (je_sortedN s1 s2 s3 B.sorted (je_var 3)) (by simp))
      (blk0 (by decide) (fun x hx s H C cl fp => jg_name 5) fun kd hk s H C cl fp => je_tupleL B.tuple (je_nget (by
        obtain ⟨n, hm, rfl⟩ := hkin kd hk
        exact gKey_ok fun c hc => hcl n hm c hc) (by
        obtain ⟨n, hm, rfl⟩ := hkin kd hk
        exact ⟨_, rfl⟩) (by
        obtain ⟨e, he, rfl⟩ := List.mem_map.mp ((List.mergeSort_perm _ _).mem_iff.mp hk)
        exact ⟨e, he, rfl⟩) (je_var 3) (je_var 5))) (by omega)) (by simp [partsD, mParts]))
end
end K27
namespace K27
open PySem L2 LamX
open PySem.W (AllAlike Sortable dataLe)
local macro_rules | `(tactic| walk_at "norm") => `(tactic| refine JSs.norm (by dsimp only [setsL, wipeL, initL, List.set, List.map, List.append, List.replicate, List.length, HAppend.hAppend, Append.append]) ?_)
theorem addKv_mem {kd : PyData} {n : Int} : ∀ {kvs : KVs} {e : PyData × List Int}, e ∈ addKv kvs kd n → e ∈ kvs ∨ (e.1 = kd ∧ e.2 = [n]) ∨ ∃ x ∈ kvs, nk x.1 = nk kd ∧ e = (x.1, x.2 ++ [n])
  | [], e, h => by rw [List.mem_singleton.mp h]; exact .inr (.inl ⟨rfl, rfl⟩)
  | (k, ns) :: r, e, h => by
    unfold addKv at h
    split at h
    · rename_i hk
      rcases List.mem_cons.mp h with rfl | h
      · exact .inr (.inr ⟨(k, ns), List.mem_cons_self, of_decide_eq_true hk, rfl⟩)
      · exact .inl (List.mem_cons_of_mem _ h)
    · rcases List.mem_cons.mp h with rfl | h
      · exact .inl List.mem_cons_self
      · rcases addKv_mem h with h | h | ⟨x, hx, q⟩
        · exact .inl (List.mem_cons_of_mem _ h)
        · exact .inr (.inl h)
        · exact .inr (.inr ⟨x, List.mem_cons_of_mem _ hx, q⟩)
theorem groups_mem (gk : Int → PyData) (l : List Int) : ∀ e ∈ mGroups gk l, e.2 ≠ [] ∧ ∀ n ∈ e.2, n ∈ l ∧ nk (gk n) = nk e.1 := by
  refine list_snoc (P := fun l => ∀ e ∈ mGroups gk l, e.2 ≠ [] ∧ ∀ n ∈ e.2, n ∈ l ∧ nk (gk n) = nk e.1) (fun e he => by cases he) (fun l n ih e he => ?_) l
  rw [groups_snoc] at he
  rcases addKv_mem he with h | ⟨h1, h2⟩ | ⟨x, hx, hk, rfl⟩
  · obtain ⟨q1, q2⟩ := ih e h
    exact ⟨q1, fun m hm => ⟨List.mem_append_left _ (q2 m hm).1, (q2 m hm).2⟩⟩
  · rw [h1, h2]
    exact ⟨by simp, fun m hm => by rw [List.mem_singleton.mp hm]; exact ⟨by simp, rfl⟩⟩
  · obtain ⟨q1, q2⟩ := ih x hx
    refine ⟨by simp, fun m hm => ?_⟩
    rcases List.mem_append.mp hm with hm | hm
    · exact ⟨List.mem_append_left _ (q2 m hm).1, (q2 m hm).2⟩
    · rw [List.mem_singleton.mp hm]; exact ⟨by simp, hk.symm⟩
theorem getKv_mem {kvs : KVs} {kd : PyData} (h : ∃ e ∈ kvs, nk e.1 = nk kd) : ∃ e ∈ kvs, nk e.1 = nk kd ∧ getKv kvs kd = e.2 := by
  unfold getKv
  cases q : kvs.find? fun e => decide (nk e.1 = nk kd) with
  | none =>
    obtain ⟨e, he, hk⟩ := h
    have := List.find?_eq_none.mp q e he
    exact absurd (decide_eq_true hk) this
  | some e =>
    have h2 : decide (nk e.1 = nk kd) = true := by have := List.find?_some q; exact this
    exact ⟨e, List.mem_of_find?_eq_some q, of_decide_eq_true h2, rfl⟩
theorem parts_mem {kvs : KVs} {g : List Int} (h : g ∈ mParts kvs) : ∃ e ∈ kvs, g = e.2 := by
  obtain ⟨kd, hk, rfl⟩ := List.mem_map.mp h
  obtain ⟨e, he, rfl⟩ := List.mem_map.mp ((List.mergeSort_perm _ _).mem_iff.mp hk)
  obtain ⟨x, hx, _, e2⟩ := getKv_mem ⟨e, he, rfl⟩
  exact ⟨x, hx, e2⟩
def vals (cell : Int → Nat → PyData) (nums : List Nat) (n : Int) : PyData := .tuple (nums.map fun c => cell n c)
def rz (nums : List Nat) (n : Int) (r : Rows) : List PyData := if n ∈ ids r then [vals (cell r) nums n] else []
def mReached (nums : List Nat) (rows others : Rows) (l : List Int) : List PyData := l.flatMap fun n => [rows, others].flatMap (rz nums n)
def hitB (reached : List PyData) (others : Rows) (nums : List Nat) (g : List Int) : Bool := reached.any fun z => PyData.eqv z (vals (cell others) nums (g.headD 0))
def mTouched (cols : List (Str × Str)) (d : Df) (rows others : Rows) : List (List Int) :=
  (mParts (mGroups (gKey (cell others) (mNums cols d)) (mRowIds others))).filter (hitB (mReached (mNums cols d) rows others (mMoved rows others (mLooks cols d))) others (mNums cols d))
theorem lay_all : ∀ {ds : List PyData}, (∀ d ∈ ds, d.canLay0 = true ∧ d.depth ≤ 1) → PyData.canLayAll0 ds = true ∧ PyData.depthAll ds ≤ 1
  | [], _ => by simp [PyData.canLayAll0, PyData.depthAll]
  | d :: ds, h => by
    obtain ⟨h1, h2⟩ := h d List.mem_cons_self
    obtain ⟨h3, h4⟩ := lay_all (ds := ds) fun x hx => h x (List.mem_cons_of_mem _ hx)
    simp only [PyData.canLayAll0, PyData.depthAll, h1, h3, Bool.and_self, true_and]
    omega
theorem list_shaped {ds : List PyData} (h : ∀ d ∈ ds, d.canLay0 = true ∧ d.depth ≤ 1) : SeqAt.shaped (.list ds) = true := by
  obtain ⟨h1, h2⟩ := lay_all h
  unfold SeqAt.shaped
  rw [Bool.and_eq_true]
  refine ⟨h1, decide_eq_true ?_⟩
  simp only [PyData.depth]
  omega
theorem tup_lay {cs : List PyData} (h : cs.all cellB = true) : (PyData.tuple cs).canLay0 = true ∧ (PyData.tuple cs).depth ≤ 1 := by
  obtain ⟨h1, h2⟩ := cells_lay h
  exact ⟨h1, by simp only [PyData.depth]; omega⟩
theorem lst_lay {cs : List PyData} (h : cs.all cellB = true) : (PyData.list cs).canLay0 = true ∧ (PyData.list cs).depth ≤ 1 := by
  obtain ⟨h1, h2⟩ := cells_lay h
  exact ⟨h1, by simp only [PyData.depth]; omega⟩
theorem vals_cells {r : Rows} {w : Nat} (hr : RowsOk r w) {nums : List Nat} (hn : ∀ c ∈ nums, c < w) {n : Int} (hm : n ∈ ids r) : (nums.map fun c => cell r n c).all cellB = true := all_cells hr hm hn
theorem reached_mem {nums : List Nat} {rows others : Rows} {l : List Int} {d : PyData} (h : d ∈ mReached nums rows others l) : ∃ n ∈ l, ∃ r, (r = rows ∨ r = others) ∧ n ∈ ids r ∧ d = vals (cell r) nums n := by
  obtain ⟨n, hn, h2⟩ := List.mem_flatMap.mp h
  obtain ⟨r, hr, h3⟩ := List.mem_flatMap.mp h2
  unfold rz at h3
  split at h3
  · rename_i hm
    exact ⟨n, hn, r, by simpa using hr, hm, List.mem_singleton.mp h3⟩
  · cases h3
theorem rz_len (nums : List Nat) (n : Int) (r : Rows) : (rz nums n r).length ≤ 1 := by unfold rz; split <;> simp
section
variable {G : Gc} {k : Nat} {X : Cx} {L : List Slot} {a b c e : Expr} {es : List Expr} {pos : Pos}
theorem je_tupP {Ps : List SP} {x1 pos} (h : JA G k X L es Ps) (hl : Ps.length ≤ 1000 := by exact Nat.le_of_ble_eq_true rfl) : JE G k X L (.Tuple es x1 pos) (isTupP Ps) :=
  fun C => (pe_tupZ (h C)).imp fun σ H Q ⟨F, s, t, E, q⟩ => ⟨F, s, t, E, fun vs F1 H1 st1 p1 => by
    refine ⟨by rw [allP_length p1]; exact Nat.le_trans hl (by decide), fun p o hp ho => ?_⟩
    have st2 : Step G.T F1 H1 (upd F1 p (.frz o (.tup vs))) (upd H1 p (.frz o (.tup vs))) := Step.new st1.tab st1.sub hp
    exact q _ _ _ (st1.trans st2) ⟨p, vs, rfl, ⟨o, upd_same, ho⟩, p1.keep st2.keep⟩⟩
end
structure ITch where
  cols : List (Str × Str)
  d : Df
  rows : Rows
  others : Rows
structure ITch.Ok (i : ITch) : Prop where
  f : Fits2 i.cols i.d
  r : RowsOk i.rows i.cols.length
  o : RowsOk i.others i.cols.length
  rl : i.rows.length ≤ 20
  ol : i.others.length ≤ 20
theorem looks_range {cols : List (Str × Str)} {d : Df} (f : Fits2 cols d) : ∀ c ∈ mLooks cols d, 0 ≤ c ∧ c < (cols.length : Nat) := fun c hc => by
  have hc := mem_sset.mp hc
  unfold mFound mNums mKeys mCol at hc
  have key : ∀ n, has cols n = true → 0 ≤ ((ix cols n : Nat) : Int) ∧ ((ix cols n : Nat) : Int) < (cols.length : Nat) := fun n hn => ⟨by omega, by have := ix_lt hn; omega⟩
  rcases List.mem_append.mp hc with h | h
  · rcases List.mem_append.mp h with h | h
    · obtain ⟨n, hn, rfl⟩ := List.mem_map.mp h
      obtain ⟨s, hs, rfl⟩ := List.mem_map.mp hn
      exact key s (f.f.p s hs)
    · obtain ⟨o, ho, rfl⟩ := List.mem_map.mp h
      obtain ⟨s, hs, rfl⟩ := List.mem_map.mp ho
      exact key s.1 (f.f.o s hs)
  · cases hcol : d.col with
    | none => rw [hcol] at h; cases h
    | some s =>
      rw [hcol] at h
      rw [List.mem_singleton.mp h]
      exact key s (f.f.c s hcol)
theorem nums_lt {cols : List (Str × Str)} {d : Df} (f : Fits2 cols d) : ∀ c ∈ mNums cols d, c < cols.length := fun c hc => by
  obtain ⟨s, hs, rfl⟩ := List.mem_map.mp hc
  exact ix_lt (f.f.p s hs)
section
variable {G : Gc}
abbrev spTouched (G : Gc) : Sp := SpF G.T (fun i : ITch => i.Ok) (fun i => [isD i.d.D, isD (.tuple (i.cols.map colD)), isD (.tuple (i.rows.map rowD)), isD (.tuple (i.others.map rowD))]) (fun i => isD (partsD (mTouched i.cols i.d i.rows i.others)))
theorem sc12 : FnScope ["definition", "columns", "rows", "others", "numbers", "ahead", "behind", "reached", "number", "known", "found", "group"] ["definition", "columns", "rows", "others"] (defScope (top 12)) := ⟨rfl, rfl, rfl, by decide +kernel, rfl, by decide +kernel, by decide +kernel⟩
theorem ok12 (B : Bt G) (hP : Fn G "parts" 2 (spParts G)) (hL : Fn G "looks_at" 3 (spLooks G)) (hM : Fn G "moved" 1 (spMoved G)) (hV : Fn G "values_at" 1 (spVals G)) (hQ : Fn G "partitions" 2 (spPartitions G)) {f : Addr} {fd : FuncData} (F : Fun G.K "touched" "touched" (top 12) f fd) :
    FnOk G.P G.w G.K G.mg G.base CX0 4 f fd ["definition", "columns", "rows", "others"] (spTouched G) := by
  refine fn_ok (k := 3) F sc12 (fun _ => rfl) ?_
  rintro ⟨cols, d, rows, others⟩ ⟨hf, r, o, rl, ol⟩ cdv A outer s H E
  dsimp only at *
  have hnl : (mNums cols d).length ≤ 100 := by unfold mNums; rw [List.length_map]; exact hf.f.lp
  have hnc := nums_lt hf
  refine js_cons (js_asg 4 (P := isD (.tuple (natsD (mNums cols d)))) (je_ixT (atI_nat (j := 0) rfl) (je_call hP (cols, d) hf.f (ja_cons (je_var 0) (ja_cons (je_var 1) ja_nil))) je_int)) ?_
  walk_at "norm"
  refine js_cons (js_asg 5 (je_dictT (kvs := rowsK rows) (rowsK_nodup r.nd) B.dict ((je_var 2).is (by rw [prD_rows])))) ?_
  walk_at "norm"
  refine js_cons (js_asg 6 (je_dictT (kvs := rowsK others) (rowsK_nodup o.nd) B.dict ((je_var 3).is (by rw [prD_rows])))) ?_
  walk_at "norm"
  refine js_cons (js_newAcc 7) ?_
  walk_at "norm"
  let mv := mMoved rows others (mLooks cols d)
  let nums := mNums cols d
  have hmvl : mv.length ≤ 40 := Nat.le_trans (List.length_filter_le _ _) (Nat.le_trans (sset_len _) (by simp only [ids, List.length_append, List.length_map]; omega))
  have hbound : ∀ l : List Int, (l.flatMap fun n => [rows, others].flatMap (rz nums n)).length ≤ 2 * l.length := fun l => by
    induction l with
    | nil => exact Nat.zero_le _
    | cons n l ih =>
      have h1 := rz_len nums n rows
      have h2 := rz_len nums n others
      simp only [List.flatMap_cons, List.flatMap_nil, List.append_nil, List.length_append, List.length_cons] at ih ⊢
      omega
  let Inv : Nat → List Slot := fun i => [.p (isD d.D), .p (isD (.tuple (cols.map colD))), .p (isD (.tuple (rows.map rowD))), .p (isD (.tuple (others.map rowD))), .p (isD (.tuple (natsD nums))), .p (isDic (rowsK rows)), .p (isDic (rowsK others)), .acc ((mv.take i).flatMap fun n => [rows, others].flatMap (rz nums n)), .no, .no, .no, .no]
  refine js_cons (L1 := Inv mv.length) (js_forL (xs := mv) (P := fun n => isI n) (is := [8]) (Ps := fun n => [isI n]) Inv (je_seqL (d := PyData.int) (je_call hM ⟨mLooks cols d, rows, others, cols.length⟩ ⟨r, o, rl, ol, looks_range hf⟩ (ja_cons (je_call hL (cols, d) hf (ja_cons (je_var 0) (ja_cons (je_var 1) ja_nil))) (ja_cons (je_var 2) (ja_cons (je_var 3) ja_nil)))) rfl) (Ent.refl _) ⟨fun x hx => jg_name 8, fun i n hn => ?_⟩) ?_
  · refine ⟨Inv (i + 1), ?_, Ent.refl _⟩
    have htake : mv.take (i + 1) = mv.take i ++ [n] := by rw [List.take_add_one, hn]; rfl
    let base := (mv.take i).flatMap fun n => [rows, others].flatMap (rz nums n)
    have hbl : base.length ≤ 80 := by
      have := hbound (mv.take i)
      rw [List.length_take] at this
      simp only [base]; omega
    let Inv1 : Nat → List Slot := fun j => [.p (isD d.D), .p (isD (.tuple (cols.map colD))), .p (isD (.tuple (rows.map rowD))), .p (isD (.tuple (others.map rowD))), .p (isD (.tuple (natsD nums))), .p (isDic (rowsK rows)), .p (isDic (rowsK others)), .acc (base ++ (([rows, others] : List Rows).take j).flatMap (rz nums n)), .p (isI n), .no, .no, .no]
    refine JSs.out (js_cons (L1 := Inv1 2) (js_forT (xs := [rows, others]) (P := fun r => isDic (rowsK r)) (is := [9]) (Ps := fun r => [isDic (rowsK r)]) Inv1 (je_tupP (Ps := [isDic (rowsK rows), isDic (rowsK others)]) (ja_cons (je_var 5) (ja_cons (je_var 6) ja_nil))) ?_ ⟨fun x hx => jg_name 9, fun j kr hj => ?_⟩) js_nil) ?_
    · simp only [Inv1, List.take_zero, List.flatMap_nil, List.append_nil]
      exact Ent.refl _
    · have hkr : kr = rows ∨ kr = others := by simpa using List.mem_of_getElem? hj
      have hkok : RowsOk kr cols.length := by rcases hkr with rfl | rfl; exact r; exact o
      have ht2 : ([rows, others] : List Rows).take (j + 1) = ([rows, others] : List Rows).take j ++ [kr] := by rw [List.take_add_one, hj]; rfl
      have hb2 : (base ++ (([rows, others] : List Rows).take j).flatMap (rz nums n)).length ≤ 100000 := by
        have hj2 : j < 2 := (List.getElem?_eq_some_iff.mp hj).1
        have h1 := rz_len nums n rows
        have h2 := rz_len nums n others
        rw [List.length_append]
        have : j = 0 ∨ j = 1 := by omega
        rcases this with rfl | rfl <;> simp <;> omega
      refine ⟨Inv1 (j + 1), ?_, Ent.refl _⟩
      show JSs _ _ _ [_, _, _, _, _, _, _, .acc (base ++ (([rows, others] : List Rows).take j).flatMap (rz nums n)), .p (isI n), .p (isDic (rowsK kr)), _, _] _ _ _
      by_cases hm : n ∈ ids kr
      · have hrz : rz nums n kr = [vals (cell kr) nums n] := if_pos hm
        refine JSs.out (js_cons (js_if (JT.is (d' := true) (jt_din (key := .inl n) rfl (je_var 8) (je_var 9)) (by rw [rows_some]; exact decide_eq_true hm)) (fun _ => js_cons (js_append 7 (d := vals (cell kr) nums n) rfl hb2 (je_call hV (cellsOf kr n, nums) ⟨hnl, fun c hc => by rw [rows_len hkok hm]; exact hnc c hc⟩ (ja_cons (je_dget (key := .inl n) rfl (rows_val hm) (je_var 9) (je_var 8)) (ja_cons (je_var 4) ja_nil)))) js_nil) no_ft) js_nil) ?_
        refine (ent_drops [9] _).trans ?_
        simp only [Inv1, ht2, List.flatMap_append, List.flatMap_cons, List.flatMap_nil, List.append_nil, hrz, ← List.append_assoc]
        exact Ent.refl _
      · have hrz : rz nums n kr = [] := if_neg hm
        refine JSs.out (js_cons (js_if (JT.is (d' := false) (jt_din (key := .inl n) rfl (je_var 8) (je_var 9)) (by rw [rows_some]; exact decide_eq_false hm)) no_tf (fun _ => js_nil)) js_nil) ?_
        refine (ent_drops [9] _).trans ?_
        simp only [Inv1, ht2, List.flatMap_append, List.flatMap_cons, List.flatMap_nil, List.append_nil, hrz]
        exact Ent.refl _
    · refine (ent_drops [8] _).trans ?_
      have he : base ++ (([rows, others] : List Rows).take 2).flatMap (rz nums n) = (mv.take (i + 1)).flatMap fun n => [rows, others].flatMap (rz nums n) := by
        rw [htake, List.flatMap_append, List.flatMap_singleton]
        rfl
      show Ent (dropsL [_, _, _, _, _, _, _, .acc (base ++ (([rows, others] : List Rows).take 2).flatMap (rz nums n)), _, _, _, _] [8]) _
      rw [he]
      exact Ent.refl _
  · let rch := mReached nums rows others mv
    refine js_freeze 7 (ds := (mv.take mv.length).flatMap fun n => [rows, others].flatMap (rz nums n)) rfl ?_
    rw [List.take_length]
    walk_at "norm"
    show JSs _ _ _ [_, _, _, _, _, _, _, .p (isD (.list rch)), _, _, _, _] _ _ _
    refine js_cons (js_newAcc 10) ?_
    walk_at "norm"
    let pt := mParts (mGroups (gKey (cell others) nums) (mRowIds others))
    have hrs : SeqAt.shaped (.list rch) = true := list_shaped fun z hz => by
      obtain ⟨n, _, q, hq, hm, rfl⟩ := reached_mem hz
      have hqo : RowsOk q cols.length := by rcases hq with rfl | rfl; exact r; exact o
      exact tup_lay (vals_cells hqo hnc hm)
    have hpt : ∀ g ∈ pt, g ≠ [] ∧ ∀ n ∈ g, n ∈ ids others := fun g hg => by
      obtain ⟨e, he, rfl⟩ := parts_mem hg
      obtain ⟨q1, q2⟩ := groups_mem _ _ e he
      exact ⟨q1, fun n hn => mem_sset.mp (q2 n hn).1⟩
    have hptl : pt.length ≤ 100 := by
      simp only [pt, mParts, List.length_map, List.length_mergeSort]
      refine Nat.le_trans (groups_len _ _).1 (Nat.le_trans (sset_len _) ?_)
      unfold ids; rw [List.length_map]; omega
    let Inv : Nat → List Slot := fun i => [.p (isD d.D), .p (isD (.tuple (cols.map colD))), .p (isD (.tuple (rows.map rowD))), .p (isD (.tuple (others.map rowD))), .p (isD (.tuple (natsD nums))), .p (isDic (rowsK rows)), .p (isDic (rowsK others)), .p (isD (.list rch)), .no, .no, .acc (((pt.take i).filter (hitB rch others nums)).map fun g => .tuple (g.map .int)), .no]
    refine js_cons (L1 := Inv pt.length) (js_forL (xs := pt) (P := fun g => isD (.tuple (g.map .int))) (is := [11]) (Ps := fun g => [isD (.tuple (g.map .int))]) Inv (je_seqL (d := fun g : List Int => .tuple (g.map .int)) (je_call hQ ⟨others, cols.length, nums⟩ ⟨o, hnc, hnl⟩ (ja_cons (je_var 3) (ja_cons (je_var 4) ja_nil))) rfl) (Ent.refl _) ⟨fun x hx => jg_name 11, fun i g hg => ?_⟩) ?_
    · refine ⟨Inv (i + 1), ?_, Ent.refl _⟩
      obtain ⟨q1, q2⟩ := hpt g (List.mem_of_getElem? hg)
      obtain ⟨n, gr, rfl⟩ : ∃ n gr, g = n :: gr := by cases g with | nil => exact absurd rfl q1 | cons n gr => exact ⟨n, gr, rfl⟩
      have hm : n ∈ ids others := q2 n List.mem_cons_self
      have htake : (pt.take (i + 1)).filter (hitB rch others nums) = (pt.take i).filter (hitB rch others nums) ++ if hitB rch others nums (n :: gr) = true then [n :: gr] else [] := filter_take_succ hg
      have hvl : ((((pt.take i).filter (hitB rch others nums)).map fun g : List Int => PyData.tuple (g.map .int))).length ≤ 100000 := by
        rw [List.length_map]
        have h1 := List.length_filter_le (hitB rch others nums) (pt.take i)
        rw [List.length_take] at h1
        omega
      show JSs _ _ _ [_, _, _, _, _, _, _, _, _, _, .acc (((pt.take i).filter (hitB rch others nums)).map fun g => .tuple (g.map .int)), .p (isD (.tuple ((n :: gr).map .int)))] _ _ _
      have tst : JT G 3 (defCx G ["definition", "columns", "rows", "others", "numbers", "ahead", "behind", "reached", "number", "known", "found", "group"] "touched" (top 12) f cdv A outer s H E) [.p (isD d.D), .p (isD (.tuple (cols.map colD))), .p (isD (.tuple (rows.map rowD))), .p (isD (.tuple (others.map rowD))), .p (isD (.tuple (natsD nums))), .p (isDic (rowsK rows)), .p (isDic (rowsK others)), .p (isD (.list rch)), .no, .no, .acc (((pt.take i).filter (hitB rch others nums)).map fun g => .tuple (g.map .int)), .p (isD (.tuple ((n :: gr).map .int)))]
          (match (defBody (top 12)).getD 6 (.Pass ⟨0, 0, 0, 0⟩) with | .For _ _ [.If c _ _ _] _ _ => c | _ => .Constant .none 0 ⟨0, 0, 0, 0⟩) (hitB rch others nums (n :: gr)) := by
        exact jt_in (d := vals (cell others) nums n) (cells_shapedT (vals_cells o hnc hm)) hrs (je_call hV (cellsOf others n, nums) ⟨hnl, fun c hc => by rw [rows_len o hm]; exact hnc c hc⟩ (ja_cons (je_dget (key := .inl n) rfl (rows_val hm) (je_var 6) (je_ixT (d := .int n) (atI_nat (j := 0) rfl) (je_var 11) je_int)) (ja_cons (je_var 4) ja_nil))) (je_var 7)
      cases hb : hitB rch others nums (n :: gr) with
      | true =>
        rw [hb] at tst
        refine JSs.out (js_cons (js_if tst (fun _ => js_cons (js_append 10 (d := .tuple ((n :: gr).map .int)) rfl hvl (je_var 11)) js_nil) no_ft) js_nil) ?_
        refine (ent_drops [11] _).trans ?_
        simp only [Inv, htake, hb, if_true, List.map_append, List.map_cons, List.map_nil]
        exact Ent.refl _
      | false =>
        rw [hb] at tst
        refine JSs.out (js_cons (js_if tst no_tf (fun _ => js_nil)) js_nil) ?_
        refine (ent_drops [11] _).trans ?_
        simp only [Inv, htake, hb, Bool.false_eq_true, if_false, List.append_nil]
        exact Ent.refl _
    · refine js_freeze 10 (ds := ((pt.take pt.length).filter (hitB rch others nums)).map fun g => .tuple (g.map .int)) rfl ?_
      rw [List.take_length]
      walk_at "norm"
      exact js_rt (JE.is (je_var 10) rfl)
end
end K27
namespace K27
open PySem L2 LamX
open PySem.W (AllAlike Sortable dataLe)
local macro_rules | `(tactic| walk_at "norm") => `(tactic| refine JSs.norm (by dsimp only [setsL, wipeL, initL, List.set, List.map, List.append, List.replicate, List.length, HAppend.hAppend, Append.append]) ?_)
local macro_rules | `(tactic| walk_at "normN") => `(tactic| refine JNs.norm (by dsimp only [setsL, wipeL, initL, List.set, List.map, List.append, List.replicate, List.length, HAppend.hAppend, Append.append]) ?_)
section
variable {G : Gc} {k : Nat} {X : Cx} {L : List Slot} {a b c e : Expr} {pos : Pos}
/-- sorted(d) of a dict of ints -/
theorem je_sortedDI {kvs : List (Key × PyData)} {ns : List Int} {p : Pos} (hk : kvs.map (·.1) = ns.map Sum.inl) (hn : ns.Nodup) (hl : ns.length < 64) (hm : G.mg "sorted" = none) (ha : JE G k X L a (isDic kvs)) (hg : Gl X "sorted" := by rfl) (he : starEach [a] X.env = (false, eval a X.env) :: starEach [] X.env := by rfl) : JE G k X L (.Call (.Name "sorted" p) [a] [] pos) (isD (.list ((sset ns).map .int))) := fun C =>
  je_callB (fun C => call_sortedDI C.calm) (fun vs F H Q s t p q => by
    obtain ⟨v, rfl, p1⟩ := allP1 p
    obtain ⟨ad, xs, rfl, rd, d1⟩ := p1
    refine ⟨ad, xs, ns, rfl, s.rd rd, d1.1.trans hk, hl, fun ns' l perm up hl => ?_⟩
    rw [sset_perm perm up hn]
    have st := Step.new (o := .lst ((sset ns).map V.int)) t s hl
    exact q _ _ _ st (.lst upd_same (das_of_ints _))) hm (by decide +kernel) (ja_cons ha ja_nil he) hg (by decide) (by decide) he (by rfl) C
end
def lvals (cell : Int → Nat → PyData) (nums : List Nat) (n : Int) : PyData := .list (nums.map fun c => cell n c)
def sameB (rows others : Rows) (looks : List Int) (n : Int) : Bool := decide (n ∈ ids rows) && (decide (n ∈ ids others) && PyData.eqv (.list (looks.map fun c => cell rows n c.toNat)) (.list (looks.map fun c => cell others n c.toNat)))
def hz (rows others : Rows) (looks : List Int) (nums : List Nat) (n : Int) (r : Rows) : List PyData := if (decide (n ∈ ids r) && !sameB rows others looks n) = true then [lvals (cell r) nums n] else []
def mHit (nums : List Nat) (looks : List Int) (rows others : Rows) (l : List Int) : List PyData := l.flatMap fun n => [rows, others].flatMap (hz rows others looks nums n)
def dueB (hit : List PyData) (others : Rows) (nums : List Nat) (n : Int) : Bool := hit.any fun z => PyData.eqv z (lvals (cell others) nums n)
def mDue (cols : List (Str × Str)) (d : Df) (rows others : Rows) : List (List Int) :=
  mParts (mGroups (gKey (cell others) (mNums cols d)) ((sset (ids others)).filter (dueB (mHit (mNums cols d) (mLooks cols d) rows others (sset (ids rows ++ ids others))) others (mNums cols d))))
theorem hz_len (rows others : Rows) (looks : List Int) (nums : List Nat) (n : Int) (r : Rows) : (hz rows others looks nums n r).length ≤ 1 := by unfold hz; split <;> simp
theorem hit_mem {nums : List Nat} {looks : List Int} {rows others : Rows} {l : List Int} {d : PyData} (h : d ∈ mHit nums looks rows others l) : ∃ n ∈ l, ∃ r, (r = rows ∨ r = others) ∧ n ∈ ids r ∧ sameB rows others looks n = false ∧ d = lvals (cell r) nums n := by
  obtain ⟨n, hn, h2⟩ := List.mem_flatMap.mp h
  obtain ⟨r, hr, h3⟩ := List.mem_flatMap.mp h2
  unfold hz at h3
  split at h3
  · rename_i hm
    rw [Bool.and_eq_true] at hm
    exact ⟨n, hn, r, by simpa using hr, of_decide_eq_true hm.1, by simpa using hm.2, List.mem_singleton.mp h3⟩
  · cases h3
section
variable {G : Gc}
abbrev spDue (G : Gc) : Sp := SpF G.T (fun i : ITch => i.Ok) (fun i => [isD i.d.D, isD (.tuple (i.cols.map colD)), isDic (rowsK i.rows), isDic (rowsK i.others)]) (fun i => isD (partsD (mDue i.cols i.d i.rows i.others)))
theorem sc41 : FnScope ["_law_definition_here", "_law_columns_here", "_law_ahead_here", "_law_behind", "_law_names", "_law_name", "_law_kind", "_law_numbers", "_law_looks_here", "_law_hit", "_law_one", "_law_same_here", "_law_at", "_law_rows_here", "_law_found", "_law_key", "_law_value_here"] ["_law_definition_here", "_law_columns_here", "_law_ahead_here", "_law_behind"] (defScope (top 41)) := ⟨rfl, rfl, rfl, by decide +kernel, rfl, by decide +kernel, by decide +kernel⟩
theorem ok41 (B : Bt G) (hL : Fn G "_law_looks" 1 (spLooks G)) (hK : Fn G "_law_rank" 1 (spKey G)) {f : Addr} {fd : FuncData} (F : Fun G.K "_law_due" "_law_due" (top 41) f fd) :
    FnOk G.P G.w G.K G.mg G.base CX0 2 f fd ["_law_definition_here", "_law_columns_here", "_law_ahead_here", "_law_behind"] (spDue G) := by
  refine fn_ok (k := 1) F sc41 (fun _ => rfl) ?_
  rintro ⟨cols, d, rows, others⟩ ⟨hf, r, o, rl, ol⟩ cdv A outer s H E
  dsimp only at *
  have hnl : (mNums cols d).length ≤ 100 := by unfold mNums; rw [List.length_map]; exact hf.f.lp
  have hnc := nums_lt hf
  have hlc := looks_range hf
  have hll : (mLooks cols d).length ≤ 100 := by
    refine Nat.le_trans (sset_len _) ?_
    have h3 := hf.p3
    have h4 := hf.o3
    simp only [mFound, mNums, mKeys, List.length_append, List.length_map]
    have : (oL (mCol cols d)).length ≤ 1 := by cases mCol cols d <;> simp [oL]
    omega
  refine js_cons (js_asg 4 (je_lcT0 (xs := cols) (d := colD) (own := [("_law_name", 5), ("_law_kind", 6)]) (is := [5, 6]) (Ps := fun c => [isS c.1, isS c.2]) (y := fun c => .str c.1) (je_var 1)
    (blk0 (by decide) (fun x hx s H C cl fp => jg_tupD (jgs_name 5 (jgs_name 6 jgs_nil))) fun x hx s H C cl fp => je_var 5) (Nat.le_trans hf.f.lc (by decide)))) ?_
  walk_at "norm"
  refine js_cons (JS.as (L2 := [.p (isD d.D), .p (isD (.tuple (cols.map colD))), .p (isDic (rowsK rows)), .p (isDic (rowsK others)), .p (isD (.list (cols.map fun c => .str c.1))), .no, .no, .p (isD (.list (natsD (mNums cols d)))), .no, .no, .no, .no, .no, .no, .no, .no, .no]) (js_lcT 7 (P := fun n => isS n) (f := fun _ => true) (xs := d.part) (own := [("_law_name", 5)]) (is := [5]) (Ps := fun n => [isS n]) (y := fun n => .int (ix cols n : Nat)) (je_seqT (d := PyData.str) (je_ixT (atI_nat (j := 4) rfl) (je_var 0) je_int) rfl)
    (blk0 (by decide) (fun x hx s H C cl fp => jg_name 5) fun x hx s H C cl fp => je_index rfl (flat_strs cols) (hf.f.p x hx) (je_var 4) (je_var 5)) (by have := hf.f.lp; omega)) (by rw [List.filter_eq_self.mpr fun _ _ => rfl]; simp [natsD, mNums, Function.comp_def])) ?_
  refine js_cons (js_asg 8 (P := isD (.tuple ((mLooks cols d).map .int))) (je_call hL (cols, d) hf (ja_cons (je_var 0) (ja_cons (je_var 1) ja_nil)))) ?_
  walk_at "norm"
  refine js_cons (js_newAcc 9) ?_
  walk_at "norm"
  let nums := mNums cols d
  let looks := mLooks cols d
  have hnl' : nums.length ≤ 100 := hnl
  have hll' : looks.length ≤ 100 := hll
  let all : List Int := sset (ids rows ++ ids others)
  have hal : (ids rows ++ ids others).length ≤ 40 := by simp only [ids, List.length_append, List.length_map]; omega
  have hall : all.length ≤ 40 := Nat.le_trans (sset_len _) hal
  have hbound : ∀ l : List Int, (mHit nums looks rows others l).length ≤ 2 * l.length := fun l => by
    unfold mHit
    induction l with
    | nil => exact Nat.zero_le _
    | cons n l ih =>
      have h1 := hz_len rows others looks nums n rows
      have h2 := hz_len rows others looks nums n others
      simp only [List.flatMap_cons, List.flatMap_nil, List.append_nil, List.length_append, List.length_cons] at ih ⊢
      omega
  have hcl : ∀ {q : Rows} (hq : RowsOk q cols.length) {n : Int} (hm : n ∈ ids q), (looks.map fun c => cell q n c.toNat).all cellB = true := fun hq n hm => by
    rw [List.all_eq_true]
    intro z hz
    obtain ⟨c, hc, rfl⟩ := List.mem_map.mp hz
    have := hlc c hc
    exact rows_cell hq hm (by omega)
  let Inv : Nat → List Slot := fun i => [.p (isD d.D), .p (isD (.tuple (cols.map colD))), .p (isDic (rowsK rows)), .p (isDic (rowsK others)), .p (isD (.list (cols.map fun c => .str c.1))), .no, .no, .p (isD (.list (natsD nums))), .p (isD (.tuple (looks.map .int))), .acc (mHit nums looks rows others (all.take i)), .no, .no, .no, .no, .no, .no, .no]
  refine js_cons (L1 := Inv all.length) (js_forL (xs := all) (P := fun n => isI n) (is := [10]) (Ps := fun n => [isI n]) Inv (je_seqL (d := PyData.int) (je_sortedS (ns := ids rows ++ ids others) (by omega) B.sorted (je_setI (by omega) B.set (JE.is (je_cat (ds := ((rowsK rows).map (·.1)).map keyD) (es := ((rowsK others).map (·.1)).map keyD) (by simp only [rowsK, List.length_map]; omega) (je_listD B.list (je_var 2)) (je_listD B.list (je_var 3))) (by rw [rowsK_keyD, rowsK_keyD, List.map_append])))) rfl) (Ent.refl _) ⟨fun x hx => jg_name 10, fun i n hn => ?_⟩) ?_
  · refine ⟨Inv (i + 1), ?_, Ent.refl _⟩
    have hm : n ∈ all := List.mem_of_getElem? hn
    have htake : all.take (i + 1) = all.take i ++ [n] := by rw [List.take_add_one, hn]; rfl
    let base := mHit nums looks rows others (all.take i)
    have hbl : base.length ≤ 80 := by
      have := hbound (all.take i)
      rw [List.length_take] at this
      simp only [base]; omega
    show JSs _ _ _ [_, _, _, _, _, _, _, _, _, .acc base, .p (isI n), _, _, _, _, _, _] _ _ _
    refine js_cons (js_asg 11 (P := isB (sameB rows others looks n)) (je_and (JE.is (je_din (key := .inl n) rfl (je_var 10) (je_var 2)) (by rw [rows_some])) fun h1 => je_and (JE.is (je_din (key := .inl n) rfl (je_var 10) (je_var 3)) (by rw [rows_some])) fun h2 => je_one
      (je_eq (d := .list (looks.map fun c => cell rows n c.toNat)) (e := .list (looks.map fun c => cell others n c.toNat)) (cells_shapedL (hcl r (of_decide_eq_true h1))) (cells_shapedL (hcl o (of_decide_eq_true h2)))
        (je_lcT0 (xs := looks) (d := PyData.int) (own := [("_law_at", 12)]) (is := [12]) (Ps := fun c => [isI c]) (y := fun c => cell rows n c.toNat) (je_var 8) (blk0 (by decide) (fun x hx s H C cl fp => jg_name 12) fun c hc s H C cl fp => je_cell r (of_decide_eq_true h1) (by have := hlc c hc; omega) (je_var 2) (je_var 10) ((je_var 12).is (by have := hlc c hc; rw [Int.toNat_of_nonneg this.1]))) (by omega))
        (je_lcT0 (xs := looks) (d := PyData.int) (own := [("_law_at", 12)]) (is := [12]) (Ps := fun c => [isI c]) (y := fun c => cell others n c.toNat) (je_var 8) (blk0 (by decide) (fun x hx s H C cl fp => jg_name 12) fun c hc s H C cl fp => je_cell o (of_decide_eq_true h2) (by have := hlc c hc; omega) (je_var 3) (je_var 10) ((je_var 12).is (by have := hlc c hc; rw [Int.toNat_of_nonneg this.1]))) (by omega))))) ?_
    walk_at "norm"
    let Inv1 : Nat → List Slot := fun j => [.p (isD d.D), .p (isD (.tuple (cols.map colD))), .p (isDic (rowsK rows)), .p (isDic (rowsK others)), .p (isD (.list (cols.map fun c => .str c.1))), .no, .no, .p (isD (.list (natsD nums))), .p (isD (.tuple (looks.map .int))), .acc (base ++ (([rows, others] : List Rows).take j).flatMap (hz rows others looks nums n)), .p (isI n), .p (isB (sameB rows others looks n)), .no, .no, .no, .no, .no]
    refine JSs.out (js_cons (L1 := Inv1 2) (js_forT (xs := [rows, others]) (P := fun r => isDic (rowsK r)) (is := [13]) (Ps := fun r => [isDic (rowsK r)]) Inv1 (je_tupP (Ps := [isDic (rowsK rows), isDic (rowsK others)]) (ja_cons (je_var 2) (ja_cons (je_var 3) ja_nil))) ?_ ⟨fun x hx => jg_name 13, fun j kr hj => ?_⟩) js_nil) ?_
    · simp only [Inv1, List.take_zero, List.flatMap_nil, List.append_nil]
      exact Ent.refl _
    · have hkr : kr = rows ∨ kr = others := by simpa using List.mem_of_getElem? hj
      have hkok : RowsOk kr cols.length := by rcases hkr with rfl | rfl; exact r; exact o
      have ht2 : ([rows, others] : List Rows).take (j + 1) = ([rows, others] : List Rows).take j ++ [kr] := by rw [List.take_add_one, hj]; rfl
      have hb2 : (base ++ (([rows, others] : List Rows).take j).flatMap (hz rows others looks nums n)).length ≤ 100000 := by
        have hj2 : j < 2 := (List.getElem?_eq_some_iff.mp hj).1
        have h1 := hz_len rows others looks nums n rows
        have h2 := hz_len rows others looks nums n others
        rw [List.length_append]
        have : j = 0 ∨ j = 1 := by omega
        rcases this with rfl | rfl <;> simp <;> omega
      refine ⟨Inv1 (j + 1), ?_, Ent.refl _⟩
      show JSs _ _ _ [_, _, _, _, _, _, _, _, _, .acc (base ++ (([rows, others] : List Rows).take j).flatMap (hz rows others looks nums n)), .p (isI n), .p (isB (sameB rows others looks n)), _, .p (isDic (rowsK kr)), _, _, _] _ _ _
      have he : base ++ (([rows, others] : List Rows).take (j + 1)).flatMap (hz rows others looks nums n) = (base ++ (([rows, others] : List Rows).take j).flatMap (hz rows others looks nums n)) ++ hz rows others looks nums n kr := by
        rw [ht2, List.flatMap_append, List.flatMap_singleton, List.append_assoc]
      cases hq : decide (n ∈ ids kr) && !sameB rows others looks n with
      | true =>
        have hm : n ∈ ids kr := of_decide_eq_true (Bool.and_eq_true_iff.mp hq).1
        have hrz : hz rows others looks nums n kr = [lvals (cell kr) nums n] := if_pos hq
        refine JSs.out (js_cons (js_if (JT.is (d' := true) (jw_pt (jw_and (JT.is (d' := decide (n ∈ ids kr)) (jt_din (key := .inl n) rfl (je_var 10) (je_var 13)) (by rw [rows_some])) fun _ => jw_and1 (jt_not (jt_val (je_var 11))))) hq) (fun _ => js_cons (js_append 9 (d := lvals (cell kr) nums n) rfl hb2
          (je_lcL0 (xs := nums) (d := fun c : Nat => .int c) (own := [("_law_at", 12)]) (is := [12]) (Ps := fun c : Nat => [isI c]) (y := fun c => cell kr n c) (je_var 7) (blk0 (by decide) (fun x hx s H C cl fp => jg_name 12) fun c hc s H C cl fp => je_cell hkok hm (hnc c hc) (je_var 13) (je_var 10) (je_var 12)) (by omega))) js_nil) no_ft) js_nil) ?_
        refine (ent_drops [13] _).trans ?_
        simp only [Inv1, he, hrz]
        exact Ent.refl _
      | false =>
        have hrz : hz rows others looks nums n kr = [] := if_neg (by rw [hq]; exact Bool.false_ne_true)
        refine JSs.out (js_cons (js_if (JT.is (d' := false) (jw_pt (jw_and (JT.is (d' := decide (n ∈ ids kr)) (jt_din (key := .inl n) rfl (je_var 10) (je_var 13)) (by rw [rows_some])) fun _ => jw_and1 (jt_not (jt_val (je_var 11))))) hq) no_tf (fun _ => js_nil)) js_nil) ?_
        refine (ent_drops [13] _).trans ?_
        simp only [Inv1, he, hrz, List.append_nil]
        exact Ent.refl _
    · refine (ent_drops [10, 11] _).trans ?_
      have he : base ++ (([rows, others] : List Rows).take 2).flatMap (hz rows others looks nums n) = mHit nums looks rows others (all.take (i + 1)) := by
        unfold mHit
        rw [htake, List.flatMap_append, List.flatMap_singleton]
        rfl
      show Ent (dropsL [_, _, _, _, _, _, _, _, _, .acc (base ++ (([rows, others] : List Rows).take 2).flatMap (hz rows others looks nums n)), _, _, _, _, _, _, _] [10, 11]) _
      rw [he]
      exact Ent.refl _
  · let hit := mHit nums looks rows others all
    refine js_freeze 9 (ds := mHit nums looks rows others (all.take all.length)) rfl ?_
    rw [List.take_length]
    walk_at "norm"
    show JSs _ _ _ [_, _, _, _, _, _, _, _, _, .p (isD (.list hit)), _, _, _, _, _, _, _] _ _ _
    have hhs : SeqAt.shaped (.list hit) = true := list_shaped fun z hz => by
      obtain ⟨n, _, q, hq, hm, _, rfl⟩ := hit_mem hz
      have hqo : RowsOk q cols.length := by rcases hq with rfl | rfl; exact r; exact o
      exact lst_lay (vals_cells hqo hnc hm)
    let bs : List Int := sset (ids others)
    have hbs : ∀ n ∈ bs, n ∈ ids others := fun n hn => mem_sset.mp hn
    have hbl : bs.length ≤ 20 := Nat.le_trans (sset_len _) (by unfold ids; rw [List.length_map]; exact ol)
    refine js_newN 14 fun D => ?_
    walk_at "normN"
    let gk := gKey (cell others) nums
    let K : Nat → KVs := fun i => mGroups gk ((bs.take i).filter (dueB hit others nums))
    let L0 : List Slot := [.p (isD d.D), .p (isD (.tuple (cols.map colD))), .p (isDic (rowsK rows)), .p (isDic (rowsK others)), .p (isD (.list (cols.map fun c => .str c.1))), .no, .no, .p (isD (.list (natsD nums))), .p (isD (.tuple (looks.map .int))), .p (isD (.list hit)), .no, .no, .no, .no, .p (isV (.ref D)), .no, .no]
    have no0 : noOwn L0 := fun s hs => by
      simp only [L0, List.mem_cons, List.not_mem_nil, or_false] at hs
      rcases hs with rfl | rfl | rfl | rfl | rfl | rfl | rfl | rfl | rfl | rfl | rfl | rfl | rfl | rfl | rfl | rfl | rfl <;> rfl
    refine jn_cons (jn_forL (xs := bs) (P := fun n => isI n) (is := [10]) (Ps := fun n => [isI n]) L0 K (je_seqL (d := PyData.int) (je_sortedDI (rowsK_keys others) o.nd (by unfold ids; rw [List.length_map]; omega) B.sorted (je_var 3)) rfl) (Ent.refl _) rfl ⟨fun x hx => jg_name 10, fun i n hx => ?_⟩) ?_
    · have hm : n ∈ ids others := hbs n (List.mem_of_getElem? hx)
      have htake : (bs.take (i + 1)).filter (dueB hit others nums) = (bs.take i).filter (dueB hit others nums) ++ if dueB hit others nums n = true then [n] else [] := filter_take_succ hx
      have hcn : ∀ c ∈ nums, cellB (cell others n c) = true := fun c hc => rows_cell o hm (hnc c hc)
      have hgl := groups_len gk ((bs.take i).filter (dueB hit others nums))
      have hfl := List.length_filter_le (dueB hit others nums) (bs.take i)
      rw [List.length_take] at hfl
      refine ⟨L0, ?_, Ent.refl _⟩
      show JNs _ _ _ _ [_, _, _, _, _, _, _, _, _, _, .p (isI n), _, _, _, .p (isV (.ref D)), _, _] _ _ _ _
      have no1 : noOwn [.p (isD d.D), .p (isD (.tuple (cols.map colD))), .p (isDic (rowsK rows)), .p (isDic (rowsK others)), .p (isD (.list (cols.map fun c => .str c.1))), .no, .no, .p (isD (.list (natsD nums))), .p (isD (.tuple (looks.map .int))), .p (isD (.list hit)), .p (isI n), .no, .no, .no, .p (isV (.ref D)), .no, .no] := fun s hs => by
        simp only [List.mem_cons, List.not_mem_nil, or_false] at hs
        rcases hs with rfl | rfl | rfl | rfl | rfl | rfl | rfl | rfl | rfl | rfl | rfl | rfl | rfl | rfl | rfl | rfl | rfl <;> rfl
      refine jn_cons (jn_js (JS.as (L2 := [.p (isD d.D), .p (isD (.tuple (cols.map colD))), .p (isDic (rowsK rows)), .p (isDic (rowsK others)), .p (isD (.list (cols.map fun c => .str c.1))), .no, .no, .p (isD (.list (natsD nums))), .p (isD (.tuple (looks.map .int))), .p (isD (.list hit)), .p (isI n), .no, .no, .no, .p (isV (.ref D)), .p (isD (lvals (cell others) nums n)), .no]) (js_lcL 15 (P := fun c : Nat => isI c) (f := fun _ => true) (xs := nums) (own := [("_law_at", 12)]) (is := [12]) (Ps := fun c : Nat => [isI c]) (y := fun c => cell others n c) (je_seqL (d := fun c : Nat => .int c) (je_var 7) rfl)
        (blk0 (by decide) (fun x hx s H C cl fp => jg_name 12) fun c hc s H C cl fp => je_cell o hm (hnc c hc) (je_var 3) (je_var 10) (je_var 12)) (by omega)) (by rw [List.filter_eq_self.mpr fun _ _ => rfl]; rfl)) no1) ?_
      have no2 : noOwn [.p (isD d.D), .p (isD (.tuple (cols.map colD))), .p (isDic (rowsK rows)), .p (isDic (rowsK others)), .p (isD (.list (cols.map fun c => .str c.1))), .no, .no, .p (isD (.list (natsD nums))), .p (isD (.tuple (looks.map .int))), .p (isD (.list hit)), .p (isI n), .no, .no, .no, .p (isV (.ref D)), .p (isD (lvals (cell others) nums n)), .no] := fun s hs => by
        simp only [List.mem_cons, List.not_mem_nil, or_false] at hs
        rcases hs with rfl | rfl | rfl | rfl | rfl | rfl | rfl | rfl | rfl | rfl | rfl | rfl | rfl | rfl | rfl | rfl | rfl <;> rfl
      cases hb : dueB hit others nums n with
      | true =>
        refine JNs.out (jn_cons (jn_if (JT.is (d' := true) (jt_in (d := lvals (cell others) nums n) (cells_shapedL (vals_cells o hnc hm)) hhs (je_var 15) (je_var 9)) hb) (fun _ => jn_cons (jn_app no2 (kd := gk n) (n := n) (gKey_ok hcn) ⟨_, rfl⟩ ⟨by have := hgl.1; simp only [K]; omega, fun e he => by have := hgl.2 e he; omega⟩ (je_var 14)
          (je_tupleL B.tuple (je_lcL0 (xs := nums.map fun c => cell others n c) (d := fun d => d) (own := [("_law_value_here", 16)]) (is := [16]) (Ps := fun d => [isD d]) (y := mKey) ((je_var 15).is (by simp [lvals])) (blk0 (by decide) (fun x hx s H C cl fp => jg_name 16) fun z hz s H C cl fp => je_call hK z (by obtain ⟨c, hc, rfl⟩ := List.mem_map.mp hz; exact hcn c hc) (ja_cons (je_var 16) ja_nil)) (by rw [List.length_map]; omega)) |>.is (by simp [gk, gKey, Function.comp_def])) (je_var 10)) jn_nil) no_ft) jn_nil) (ent_drops [10, 15] _) ?_
        simp only [K, htake, hb, if_true, groups_snoc]
      | false =>
        refine JNs.out (jn_cons (jn_if (JT.is (d' := false) (jt_in (d := lvals (cell others) nums n) (cells_shapedL (vals_cells o hnc hm)) hhs (je_var 15) (je_var 9)) hb) no_tf (fun _ => jn_nil)) jn_nil) (ent_drops [10, 15] _) ?_
        simp only [K, htake, hb, Bool.false_eq_true, if_false, List.append_nil]
    · let l := bs.filter (dueB hit others nums)
      have hfull : K bs.length = mGroups gk l := by simp only [K]; rw [List.take_length]
      rw [hfull]
      have hlm : ∀ n ∈ l, ∀ c ∈ nums, cellB (cell others n c) = true := fun n hn c hc => rows_cell o (hbs n (List.mem_filter.mp hn).1) (hnc c hc)
      have hlb : l.length ≤ 20 := Nat.le_trans (List.length_filter_le _ _) hbl
      obtain ⟨s1, s2, s3⟩ := groups_sort (cell := cell others) (nums := nums) (l := l) hlm
      refine jn_freeze 14 rfl no0 ?_
      walk_at "norm"
      have hres : mDue cols d rows others = mParts (mGroups gk l) := rfl
      rw [hres]
      generalize hkv : mGroups gk l = kvs
      have hkv' : mGroups (gKey (cell others) nums) l = kvs := hkv
      rw [hkv'] at s1 s2 s3
      have hkin : ∀ kd ∈ (kvs.map (·.1)).mergeSort (dataLe false id), ∃ n ∈ l, kd = gKey (cell others) nums n := fun kd hk => by
        obtain ⟨e, he, rfl⟩ := List.mem_map.mp ((List.mergeSort_perm _ _).mem_iff.mp hk)
        rw [← hkv] at he
        exact groups_keys _ _ e he
      have hkl : ((kvs.map (·.1)).mergeSort (dataLe false id)).length ≤ 100 := by
        rw [List.length_mergeSort, List.length_map, ← hkv]
        exact Nat.le_trans (groups_len _ _).1 (by omega)
      refine js_rt (JE.is (je_lcL0 (xs := (kvs.map (·.1)).mergeSort (dataLe false id)) (d := fun d => d) (own := [("_law_key", 15)]) (is := [15]) (Ps := fun d => [isD d]) (y := fun d => .tuple ((getKv kvs d).map .int)) (JE.is (je_sortedN s1 s2 s3 B.sorted (je_var 14)) (by simp))
        (blk0 (by decide) (fun x hx s H C cl fp => jg_name 15) fun kd hk s H C cl fp => je_tupleL B.tuple (je_nget (by
          obtain ⟨n, hm, rfl⟩ := hkin kd hk
          exact gKey_ok fun c hc => hlm n hm c hc) (by
          obtain ⟨n, hm, rfl⟩ := hkin kd hk
          exact ⟨_, rfl⟩) (by
          obtain ⟨e, he, rfl⟩ := List.mem_map.mp ((List.mergeSort_perm _ _).mem_iff.mp hk)
          exact ⟨e, he, rfl⟩) (je_var 14) (je_var 15))) (by omega)) (by simp [partsD, mParts]))
end
end K27
set_option maxHeartbeats 2000000
/-! K27, part 23: defs that are called where no repr is under way; repr of data. -/
namespace K27
open PySem PySem.Spec PyProof.Rows L2 LamX
/-- FnOk where no repr is under way -/
structure FnG (P : Program) (w : World) (K : PySem.W.Frag) (mg : Str → Option Value) (base : Heap) (k : Nat) (f : Addr) (fd : FuncData) (ps : List Str) (sp : Sp) : Prop where
  len : ∀ vs H Q E, sp vs H Q E → vs.length = ps.length
  run : ∀ (A : Around), A.guards = some [] → Room k A → ∀ (outer : List Env) (s : Shared) (H : Hp) (args : Args) (us : List Value) (vs : List V) (Q : VK) (E : XK), Env0 P w K mg base A outer s H → BindsTo s fd args (ps.zip us) → Vals vs us → sp vs H Q E →
    codeAny (model P w) A (.call (.ref f) args) (CR CX0 outer P w H s Q E) s
theorem fn_okG {G : Gc} {k : Nat} {x qual : Str} {st : Stmt} {f : Addr} {fd : FuncData} {N ps : List Str} {I : Type} {pre : I → Prop} {Ps : I → List SP} {Rr : I → SP} (F : Fun G.K x qual st f fd) (S : FnScope N ps (defScope st)) (hl : ∀ i, (Ps i).length = ps.length)
    (hbody : ∀ i, pre i → ∀ (cdv : Value) (A : Around), A.guards = some [] → ∀ (outer : List Env) (s : Shared) (H : Hp) (E : XK), JSs G k (defCx G N qual st f cdv A outer s H E) (initL (Ps i) N.length) (defBody st) (Rr i) none) : FnG G.P G.w G.K G.mg G.base (k + 1) f fd ps (SpF G.T pre Ps Rr) := by
  obtain ⟨oc, od, kV, doc, pm, an, cdv, ct, osl, rfl, lk, hcd⟩ := F.ex
  have hlen : ∀ vs H Q E, SpF G.T pre Ps Rr vs H Q E → vs.length = ps.length := fun vs H Q E ⟨i, hp, F, sF, t, p, q⟩ => by rw [allP_length p, hl]
  refine ⟨hlen, fun A hA hr outer s H args us vs Q E e0 hb r hsp => ?_⟩
  have hvl := hlen _ _ _ _ hsp
  obtain ⟨i, hp, F0, sF, t, p, q⟩ := hsp
  have up : ∀ b o, G.base.get? b = some o → s.heap.get? b = some o := fun b o e => (e0.bs b o e).1
  have KX : G.K.In s.heap := e0.mod.kin.keeps up
  have lim : s.heap.NoLimit := e0.mod.nolimit.keeps up
  refine codeAny_call_function hr.depth (KX _ _ lk) rfl S.co S.gen rfl (PySem.W.codeRec_of KX hcd) (hb _ _ _ _ ?_)
  refine wpAny_newFunctionEnv_cells S.kind (fun y hy => ?_) fun env he s1 x => ?_
  · exact (S.par y.1 (List.of_mem_zip (a := y.1) (b := y.2) hy).1).imp id fun q => ⟨q, PySem.W.cellsFrom_some _ _ _ (.inl q)⟩
  subst he
  refine ⟨lim.keeps x.toInCall.keep, codeAny_func ?_⟩
  have I0 : Inv (cxOf CX0 G.P G.w G.K G.mg G.base N qual (defScope st) f cdv A outer s H E) [] (start N vs) H s1 := inv_start S hr.hd e0 hvl r x
  have body := PSs.nox (hbody i hp cdv A hA outer s H E ⟨rfl, rfl, rfl, rfl, rfl, rfl, S.nd, hr.deeper _⟩)
  have hq : tS G.T (initL (Ps i) N.length) (Rr i) none { nx := fun _ H' => Q .non H', rt := Q } (start N vs) H := by
    refine ⟨F0, H, F0, sF, Step.refl t sF, env_start p ?_, own_start, fun v F' H' st' _ p' => q v F' H' st' p', fun L' e => by cases e⟩
    rw [hl]
    have := S.pre
    rw [← this, List.length_take]
    omega
  refine wpAny_mono (body.run [] s1 (start N vs) H _ I0 hq) (fun fl s' hs => ?_) fun e s' hs => hs
  cases fl with
  | ret u =>
    obtain ⟨v, σ', H', J, rv, q⟩ := hs
    exact ⟨v, H', J.os, J.bare, J.base, J.hok, rv, q⟩
  | next =>
    obtain ⟨σ', H', J, q⟩ := hs
    exact ⟨V.non, H', J.os, J.bare, J.base, J.hok, rfl, q⟩
  | brk => let ⟨_, _, _, q⟩ := hs; exact q.elim
  | cont => let ⟨_, _, _, q⟩ := hs; exact q.elim
/-- such a def at its name -/
def FnGd (G : Gc) (x : Str) (j : Nat) (sp : Sp) : Prop := ∃ (f : Addr) (fd : FuncData) (ps : List Str), FnG G.P G.w G.K G.mg G.base j f fd ps sp ∧ G.mg x = some (.ref f) ∧ PySem.W.keepIn G.K (.ref f) = true ∧ Binds G.K fd ps []
section
variable {G : Gc} {k : Nat} {X : Cx} {L : List Slot} {a b c e : Expr} {es : List Expr} {pos : Pos}
theorem pe_fnG {x : Str} {j : Nat} {sp : Sp} {t : TA} {p : Pos} (hA : X.A.guards = some []) (F : FnGd G x j sp) (hj : j ≤ k) (C : CxOk G k X) (ha : PA X (e :: es) t) (hg : Gl X x) (hdb : (x == ("__debug__" : Str)) = false)
    (he : starEach (e :: es) X.env = (false, eval e X.env) :: starEach es X.env) (hpl : (backTo pos (starEach es X.env)).any (·.1) = false) : PE X (.Call (.Name x p) (e :: es) [] pos) (tCall sp [] E0 t) := by
  obtain ⟨f, fd, ps, F, hm, hk, hb⟩ := F
  rw [← C.prog, ← C.w, ← C.K, ← C.mg, ← C.base] at F
  rw [← C.mg] at hm
  rw [← C.K] at hk hb
  refine ⟨fun pins s σ H Q I h => wpAny_Call_Name_kw (ld_glob I hg hm ?_ hdb)⟩
  refine PySem.W.callWith_K (h₀ := X.base) I.ok.mod.kin hk (thn (ha.run pos pins s σ H _ I h) fun us s1 ⟨vs, H1, I1, r, q⟩ => ⟨I1.kIn, ?_⟩) he hpl
  have q' : sp (vs ++ []) H1 Q E0 := q
  rw [List.append_nil] at q'
  have hl : us.length = ps.length := by rw [← r.length]; exact F.len _ _ _ _ q'
  have hb' := hb s1 us I1.kIn (by rw [List.append_nil]; exact hl)
  rw [List.append_nil] at hb'
  refine wpAny_call (codeAny_mono (F.run X.A hA (C.room.mono hj) X.stack s1 H1 ⟨us, []⟩ us vs Q E0 I1.env0 hb' r q') fun r s' hq => ?_)
  cases r with
  | error e => exact hq.elim
  | ok fl =>
    cases fl with
    | ret u => exact I1.after hq
    | next => exact hq.elim
    | brk => exact hq.elim
    | cont => exact hq.elim
theorem je_callG {x : Str} {j : Nat} {I : Type} {pre : I → Prop} {Ps : I → List SP} {R : I → SP} {p : Pos} (hA : X.A.guards = some []) (F : FnGd G x j (SpF G.T pre Ps R)) (i : I) (hp : pre i) (ha : JA G k X L (e :: es) (Ps i)) (hj : j ≤ k := by decide) (hg : Gl X x := by rfl) (hdb : (x == ("__debug__" : Str)) = false := by decide)
    (he : starEach (e :: es) X.env = (false, eval e X.env) :: starEach es X.env := by rfl) (hpl : (backTo pos (starEach es X.env)).any (·.1) = false := by rfl) : JE G k X L (.Call (.Name x p) (e :: es) [] pos) (R i) :=
  fun C => (pe_fnG hA F hj C (ha C) hg hdb he hpl).imp fun σ H Q ⟨F, s, t, E, q⟩ => ⟨F, s, t, E, fun vs F1 H1 st1 p1 => ⟨i, hp, F1, st1.sub, st1.tab, by rw [List.append_nil]; exact p1, fun v F' H' st p => q v F' H' (st1.trans st) p⟩⟩
/-- repr(x) of data in one object -/
theorem call_reprD (hA : X.A.guards = some []) (hu : X.A.units + 65 < cLine) : CallR X (.builtin "repr") (fun xs H Q => ∃ (a : Addr) (d : PyData), xs = [V.ref a] ∧ Dp X.K H (V.ref a) d ∧ d.showable = true ∧ d.hasDict = false ∧ d.depth ≤ 60 ∧ d.shown.length ≤ sizeLine ∧ Q (.str d.shown) H) := by
  intro pins s σ H xs us Q I r ⟨a, d, ex, hd, h1, h2, h3, h4, q⟩
  subst ex
  have e := Vals.ref1 r
  subst e
  obtain ⟨as, rd⟩ := Dp.reads I d (.ref a) (.ref a) hd rfl
  exact repr_of_reads' rd h1 (fun z => by rw [h2] at z; cases z) hA (by omega) (fun _ _ e => e) (fun h' u tk hk => ⟨.str _, H, I.kept hk, ⟨u, rfl⟩, q⟩) h4
theorem je_repr {d : PyData} {p : Pos} (hA : X.A.guards = some []) (hd : (∃ ds, d = .list ds) ∨ ∃ ds, d = .tuple ds) (h1 : d.showable = true) (h2 : d.hasDict = false) (h3 : d.depth ≤ 60) (h4 : d.shown.length ≤ sizeLine) (hm : G.mg "repr" = none) (ha : JE G k X L a (isD d)) (hg : Gl X "repr" := by rfl)
    (he : starEach [a] X.env = (false, eval a X.env) :: starEach [] X.env := by rfl) : JE G k X L (.Call (.Name "repr" p) [a] [] pos) (isS d.shown) :=
  je_callB (fun C => call_reprD hA C.hu) (fun vs F H Q s t p q => by
    obtain ⟨v, rfl, p1⟩ := allP1 p
    have hv : ∃ a, v = V.ref a := by
      rcases hd with ⟨ds, rfl⟩ | ⟨ds, rfl⟩
      · obtain ⟨a, xs, e, _⟩ := da_lst p1; exact ⟨a, e⟩
      · obtain ⟨a, xs, e, _⟩ := da_tup p1; exact ⟨a, e⟩
    obtain ⟨a, rfl⟩ := hv
    exact ⟨a, d, rfl, da_dp s _ _ p1, h1, h2, h3, h4, q _ F H (Step.refl t s) (.str _)⟩) hm (by decide +kernel) (ja_cons ha ja_nil he) hg (by decide) (by decide) he
/-- the same text -/
theorem je_eqS {x y : Str} (ha : JE G k X L a (isS x)) (hb : JE G k X L b (isS y)) : JE G k X L (.Compare a [.Eq] [b] pos) (isB (decide (x = y))) :=
  je_cmp (fun _ => op_eq) (rd_val fun v u F H Q s p1 p2 q => by
    cases p1; cases p2
    refine ⟨rfl, ?_⟩
    have e : decide (V.str x = V.str y) = decide (x = y) := by by_cases h : x = y <;> simp [h]
    rw [e]
    exact q _ (.bl _)) ha hb (nomark _)
end
structure ISame where
  d : PyData
structure ISame.Ok (i : ISame) : Prop where
  o : (∃ ds, i.d = .list ds) ∨ ∃ ds, i.d = .tuple ds
  s : i.d.showable = true
  n : i.d.hasDict = false
  p : i.d.depth ≤ 60
  l : i.d.shown.length ≤ sizeLine
end K27
set_option maxHeartbeats 1000000
namespace K27
open PySem L2 LamX
open PySem.W (AllAlike Sortable dataLe)
local macro_rules | `(tactic| walk_at "norm") => `(tactic| refine JSs.norm (by dsimp only [setsL, wipeL, initL, List.set, List.map, List.append, List.replicate, List.length, HAppend.hAppend, Append.append]) ?_)
section
variable {G : Gc}
abbrev spSame (G : Gc) : Sp := SpF G.T (fun i : ISame => i.Ok) (fun i => [isD i.d, isD i.d]) (fun _ => isB true)
theorem sc17 : FnScope ["_law_actual", "_law_due_here"] ["_law_actual", "_law_due_here"] (defScope (top 17)) := ⟨rfl, rfl, rfl, by decide +kernel, rfl, by decide +kernel, by decide +kernel⟩
theorem ok17 (B : Bt G) (hm : G.mg "repr" = none) {f : Addr} {fd : FuncData} (F : Fun G.K "_law_same" "_law_same" (top 17) f fd) : FnG G.P G.w G.K G.mg G.base 1 f fd ["_law_actual", "_law_due_here"] (spSame G) := by
  refine fn_okG (k := 0) F sc17 (fun _ => rfl) ?_
  rintro ⟨d⟩ ok cdv A hA outer s H E
  exact js_rt (JE.is (je_eqS (je_repr hA ok.o ok.s ok.n ok.p ok.l hm (je_var 0)) (je_repr hA ok.o ok.s ok.n ok.p ok.l hm (je_var 1))) (by rw [decide_eq_true rfl]))
end
end K27
/-! K27, the plain law, first part: the order, the values, unchanged where the looked-at cells are. -/
namespace K27
open PySem
open PySem.W (AllAlike Sortable dataLe dataLt keyToks keyToksAll)
theorem tok_key {a b : PyData} (ha : cellB a = true) (hb : cellB b = true) (h : keyToks (mKey a) = keyToks (mKey b)) : a = b := by
  cases a <;> first | (cases ha; done) | (cases b <;> first | (cases hb; done) | rfl | (simp [mKey, keyToks, keyToksAll] at h; try (first | (rw [h]; done) | (rw [PySem.W.str_of_cps (congrArg Array.toList h)]; done) | (exact absurd h (by decide)))))
theorem key_eqv {a b : PyData} (ha : cellB a = true) (hb : cellB b = true) : PyData.eqv (mKey a) (mKey b) = true ↔ a = b := by
  cases a <;> first | (cases ha; done) | (cases b <;> first | (cases hb; done) | simp [mKey, PyData.eqv, PyData.eqvAll])
/-- the strict order of cells, one way or the other -/
def klt (down : Bool) (x y : PyData) : Bool := if down = true then dataLt (mKey y) (mKey x) else dataLt (mKey x) (mKey y)
theorem dlt_total {x y : PyData} (hx : cellB x = true) (hy : cellB y = true) (h : x ≠ y) : dataLt (mKey x) (mKey y) = true ∨ dataLt (mKey y) (mKey x) = true := by
  cases h1 : dataLt (mKey x) (mKey y) with
  | true => exact .inl rfl
  | false =>
    cases h2 : dataLt (mKey y) (mKey x) with
    | true => exact .inr rfl
    | false => exact absurd (tok_key hx hy (PyProof.Rows.lex_total _ _ h1 h2)) h
theorem dlt_trans {x y z : PyData} (h1 : dataLt x y = true) (h2 : dataLt y z = true) : dataLt x z = true := PyProof.Rows.lex_trans _ _ _ h1 h2
theorem dlt_asymm {x y : PyData} (h1 : dataLt x y = true) : dataLt y x = false := by
  cases h2 : dataLt y x with
  | false => rfl
  | true =>
    have h3 : dataLt x x = true := dlt_trans h1 h2
    have h4 : dataLt x x = false := PyProof.Rows.lex_irrefl _
    exact h3.symm.trans h4
theorem klt_total {d : Bool} {x y : PyData} (hx : cellB x = true) (hy : cellB y = true) (h : x ≠ y) : klt d x y = true ∨ klt d y x = true := by
  cases d with
  | true => exact (dlt_total hx hy h).symm
  | false => exact dlt_total hx hy h
theorem klt_trans {d : Bool} {x y z : PyData} (h1 : klt d x y = true) (h2 : klt d y z = true) : klt d x z = true := by
  cases d with
  | true => exact dlt_trans (x := mKey z) (y := mKey y) (z := mKey x) h2 h1
  | false => exact dlt_trans (x := mKey x) (y := mKey y) (z := mKey z) h1 h2
theorem klt_asymm {d : Bool} {x y : PyData} (h1 : klt d x y = true) : klt d y x = false := by
  cases d with
  | true => exact dlt_asymm (x := mKey y) (y := mKey x) h1
  | false => exact dlt_asymm (x := mKey x) (y := mKey y) h1
theorem klt_ne {d : Bool} {x y : PyData} (h1 : klt d x y = true) : x ≠ y := fun e => by
  subst e
  have := klt_asymm h1
  rw [h1] at this; cases this
section
variable {cell : Int → Nat → PyData}
def CellsAt (cell : Int → Nat → PyData) (keys : List (Nat × Bool)) (a : Int) : Prop := ∀ c ∈ keys, cellB (cell a c.1) = true
theorem ahead_cons {c : Nat} {down : Bool} {ks : List (Nat × Bool)} {a b : Int} (ha : cellB (cell a c) = true) (hb : cellB (cell b c) = true) :
    (cell a c = cell b c → mAhead cell ((c, down) :: ks) a b = mAhead cell ks a b) ∧ (cell a c ≠ cell b c → mAhead cell ((c, down) :: ks) a b = klt down (cell a c) (cell b c)) := by
  refine ⟨fun e => ?_, fun e => ?_⟩
  · rw [mAhead, if_pos ((key_eqv ha hb).mpr e)]
  · rw [mAhead, if_neg (fun z => e ((key_eqv ha hb).mp z))]
    have eb : ∀ p q : Bool, PyData.eqv (.bool p) (.bool q) = (p == q) := fun p q => by cases p <;> cases q <;> rfl
    rw [eb]
    cases down with
    | true => unfold klt; rw [if_pos rfl]; cases dataLt (mKey (cell b c)) (mKey (cell a c)) <;> rfl
    | false =>
      unfold klt
      rw [if_neg Bool.false_ne_true]
      rcases dlt_total ha hb e with h | h
      · rw [h, dlt_asymm h]; rfl
      · rw [h, dlt_asymm h]; rfl
theorem ahead_total : ∀ {ks : List (Nat × Bool)} {a b : Int}, CellsAt cell ks a → CellsAt cell ks b → a ≠ b → mAhead cell ks a b = true ∨ mAhead cell ks b a = true
  | [], a, b, _, _, h => by
    simp only [mAhead, decide_eq_true_eq]
    omega
  | (c, down) :: ks, a, b, ha, hb, h => by
    have a1 := ha (c, down) List.mem_cons_self
    have b1 := hb (c, down) List.mem_cons_self
    by_cases e : cell a c = cell b c
    · rw [(ahead_cons a1 b1).1 e, (ahead_cons b1 a1).1 e.symm]
      exact ahead_total (fun x hx => ha x (List.mem_cons_of_mem _ hx)) (fun x hx => hb x (List.mem_cons_of_mem _ hx)) h
    · rw [(ahead_cons a1 b1).2 e, (ahead_cons b1 a1).2 (Ne.symm e)]
      exact klt_total a1 b1 e
theorem ahead_trans : ∀ {ks : List (Nat × Bool)} {a b d : Int}, CellsAt cell ks a → CellsAt cell ks b → CellsAt cell ks d → mAhead cell ks a b = true → mAhead cell ks b d = true → mAhead cell ks a d = true
  | [], a, b, d, _, _, _, h1, h2 => by
    simp only [mAhead, decide_eq_true_eq] at h1 h2 ⊢
    omega
  | (c, down) :: ks, a, b, d, ha, hb, hd, h1, h2 => by
    have a1 := ha (c, down) List.mem_cons_self
    have b1 := hb (c, down) List.mem_cons_self
    have d1 := hd (c, down) List.mem_cons_self
    by_cases e1 : cell a c = cell b c
    · rw [(ahead_cons a1 b1).1 e1] at h1
      by_cases e2 : cell b c = cell d c
      · rw [(ahead_cons b1 d1).1 e2] at h2
        rw [(ahead_cons a1 d1).1 (e1.trans e2)]
        exact ahead_trans (fun x hx => ha x (List.mem_cons_of_mem _ hx)) (fun x hx => hb x (List.mem_cons_of_mem _ hx)) (fun x hx => hd x (List.mem_cons_of_mem _ hx)) h1 h2
      · rw [(ahead_cons b1 d1).2 e2] at h2
        rw [(ahead_cons a1 d1).2 (by rw [e1]; exact e2), e1]
        exact h2
    · rw [(ahead_cons a1 b1).2 e1] at h1
      by_cases e2 : cell b c = cell d c
      · rw [(ahead_cons a1 d1).2 (by rw [← e2]; exact e1), ← e2]
        exact h1
      · rw [(ahead_cons b1 d1).2 e2] at h2
        have h3 := klt_trans h1 h2
        rw [(ahead_cons a1 d1).2 (klt_ne h3)]
        exact h3
theorem ahead_irrefl : ∀ {ks : List (Nat × Bool)} {a : Int}, CellsAt cell ks a → mAhead cell ks a a = false
  | [], a, _ => by simp [mAhead]
  | (c, down) :: ks, a, ha => by
    have a1 := ha (c, down) List.mem_cons_self
    rw [(ahead_cons a1 a1).1 rfl]
    exact ahead_irrefl fun x hx => ha x (List.mem_cons_of_mem _ hx)
theorem ahead_congr {cell' : Int → Nat → PyData} : ∀ {ks : List (Nat × Bool)} {a b : Int}, (∀ c ∈ ks, cell a c.1 = cell' a c.1 ∧ cell b c.1 = cell' b c.1) → mAhead cell ks a b = mAhead cell' ks a b
  | [], _, _, _ => rfl
  | (c, down) :: ks, a, b, h => by
    obtain ⟨h1, h2⟩ := h (c, down) List.mem_cons_self
    dsimp only at h1 h2
    rw [mAhead, mAhead, h1, h2, ahead_congr fun c hc => h c (List.mem_cons_of_mem _ hc)]
theorem filter_lt {p q : Int → Bool} : ∀ {l : List Int}, (∀ x ∈ l, p x = true → q x = true) → (∃ x ∈ l, q x = true ∧ p x = false) → (l.filter p).length < (l.filter q).length
  | [], _, ⟨_, h, _⟩ => by cases h
  | y :: l, h, ⟨x, hx, hq, hp⟩ => by
    have h' : ∀ x ∈ l, p x = true → q x = true := fun x hx => h x (List.mem_cons_of_mem _ hx)
    have le : (l.filter p).length ≤ (l.filter q).length := by
      clear hx hq hp x
      induction l with
      | nil => exact Nat.le_refl _
      | cons z l ih =>
        have ih := ih (fun x hx => h x (by rcases List.mem_cons.mp hx with rfl | hx; exact List.mem_cons_self; exact List.mem_cons_of_mem _ (List.mem_cons_of_mem _ hx))) fun x hx => h' x (List.mem_cons_of_mem _ hx)
        have hz := h' z List.mem_cons_self
        rw [List.filter_cons, List.filter_cons]
        split
        · rename_i hpz
          rw [if_pos (hz hpz)]
          exact Nat.succ_le_succ ih
        · split
          · exact Nat.le_succ_of_le ih
          · exact ih
    rcases List.mem_cons.mp hx with rfl | hx
    · rw [List.filter_cons_of_neg (by rw [hp]; exact Bool.false_ne_true), List.filter_cons_of_pos hq]
      exact Nat.lt_succ_of_le le
    · have ih := filter_lt h' ⟨x, hx, hq, hp⟩
      have hy := h y List.mem_cons_self
      rw [List.filter_cons, List.filter_cons]
      split
      · rename_i hpy
        rw [if_pos (hy hpy)]
        exact Nat.succ_lt_succ ih
      · split
        · exact Nat.lt_succ_of_lt ih
        · exact ih
theorem place_lt {ks : List (Nat × Bool)} {l : List Int} (hc : ∀ x ∈ l, CellsAt cell ks x) {a b : Int} (ha : a ∈ l) (hb : b ∈ l) (h : mAhead cell ks a b = true) : mPlace cell ks l a < mPlace cell ks l b := by
  have hab : a ≠ b := fun e => by subst e; rw [ahead_irrefl (hc a ha)] at h; cases h
  refine filter_lt (fun x hx hp => ?_) ⟨a, ha, by simp [hab, h], by simp⟩
  rw [Bool.and_eq_true] at hp ⊢
  have h2 := ahead_trans (hc x hx) (hc a ha) (hc b hb) hp.2 h
  refine ⟨?_, h2⟩
  have : x ≠ b := fun e => by subst e; rw [ahead_irrefl (hc x hx)] at h2; cases h2
  simp [this]
theorem place_inj {ks : List (Nat × Bool)} {l : List Int} (hc : ∀ x ∈ l, CellsAt cell ks x) {a b : Int} (ha : a ∈ l) (hb : b ∈ l) (h : mPlace cell ks l a = mPlace cell ks l b) : a = b := by
  by_cases e : a = b
  · exact e
  · rcases ahead_total (hc a ha) (hc b hb) e with q | q
    · have := place_lt hc ha hb q; omega
    · have := place_lt hc hb ha q; omega
theorem map_inj_on {α β : Type} {f : α → β} : ∀ {l m : List α}, (∀ x ∈ l, ∀ y ∈ m, f x = f y → x = y) → l.map f = m.map f → l = m
  | [], [], _, _ => rfl
  | [], _ :: _, _, h => by cases h
  | _ :: _, [], _, h => by cases h
  | x :: l, y :: m, hi, h => by
    simp only [List.map_cons, List.cons.injEq] at h
    rw [hi x List.mem_cons_self y List.mem_cons_self h.1, map_inj_on (fun a ha b hb => hi a (List.mem_cons_of_mem _ ha) b (List.mem_cons_of_mem _ hb)) h.2]
theorem ordered_up {ks : List (Nat × Bool)} {l : List Int} (hn : l.Nodup) (hc : ∀ x ∈ l, CellsAt cell ks x) : ((mOrdered cell ks l).map fun n => (mPlace cell ks l n : Int)).Pairwise (· < ·) := by
  have hp := ordered_perm cell ks l
  have hnd : (mOrdered cell ks l).Nodup := hp.nodup_iff.mpr hn
  have hs : (mOrdered cell ks l).Pairwise fun a b => dataLe false (fun n => .int (mPlace cell ks l n : Nat)) a b = true := PySem.W.sort_pairwise (PySem.W.sortLe_total _ _ _) l
  rw [List.pairwise_map]
  have h2 : (mOrdered cell ks l).Pairwise fun a b => (mPlace cell ks l a : Int) ≤ mPlace cell ks l b := hs.imp fun {a b} h => by
    rw [PySem.W.dataLe_eq] at h
    have h : (!dataLt (.int (mPlace cell ks l b : Nat)) (.int (mPlace cell ks l a : Nat))) = true := h
    rw [PySem.W.dataLt_int, Bool.not_eq_true', decide_eq_false_iff_not] at h
    omega
  refine (List.Pairwise.and h2 hnd).imp_of_mem fun {a b} ha hb ⟨h1, h2⟩ => ?_
  have ha' := hp.mem_iff.mp ha
  have hb' := hp.mem_iff.mp hb
  have : mPlace cell ks l a ≠ mPlace cell ks l b := fun e => h2 (place_inj hc ha' hb' e)
  omega
theorem ordered_eq {cell' : Int → Nat → PyData} {ks : List (Nat × Bool)} {l m : List Int} (hp : m.Perm l) (hn : l.Nodup) (hc : ∀ x ∈ l, CellsAt cell ks x) (he : ∀ x ∈ l, ∀ c ∈ ks, cell x c.1 = cell' x c.1) : mOrdered cell' ks m = mOrdered cell ks l := by
  have hc' : ∀ x ∈ m, CellsAt cell' ks x := fun x hx c hk => by rw [← he x (hp.mem_iff.mp hx) c hk]; exact hc x (hp.mem_iff.mp hx) c hk
  have hpl : ∀ x ∈ l, mPlace cell' ks m x = mPlace cell ks l x := fun x hx => by
    unfold mPlace
    rw [(hp.filter _).length_eq]
    congr 1
    refine List.filter_congr fun y hy => ?_
    rw [ahead_congr (cell := cell') (cell' := cell) fun c hk => ⟨(he y hy c hk).symm, (he x hx c hk).symm⟩]
  have p1 := ordered_perm cell ks l
  have p2 := ordered_perm cell' ks m
  have u1 := ordered_up hn hc
  have u2 := ordered_up (hp.nodup_iff.mpr hn) hc'
  have e2 : (mOrdered cell' ks m).map (fun n => (mPlace cell' ks m n : Int)) = (mOrdered cell' ks m).map fun n => (mPlace cell ks l n : Int) := List.map_congr_left fun x hx => by rw [hpl x (hp.mem_iff.mp (p2.mem_iff.mp hx))]
  rw [e2] at u2
  have := up_unique u2 u1 fun x => by
    rw [List.mem_map, List.mem_map]
    refine ⟨fun ⟨n, h1, h2⟩ => ⟨n, p1.mem_iff.mpr (hp.mem_iff.mp (p2.mem_iff.mp h1)), h2⟩, fun ⟨n, h1, h2⟩ => ⟨n, p2.mem_iff.mpr (hp.mem_iff.mpr (p1.mem_iff.mp h1)), h2⟩⟩
  exact map_inj_on (fun a ha b hb e => place_inj hc (hp.mem_iff.mp (p2.mem_iff.mp ha)) (p1.mem_iff.mp hb) (by omega)) this
end
end K27
/-! K27, the plain law, second part: a row that is not reached keeps its value. -/
namespace K27
open PySem
open PySem.W (AllAlike Sortable dataLe dataLt)
section
variable {cell cell' : Int → Nat → PyData} {keys : List (Nat × Bool)} {order : List Int}
def AgreeK (cell cell' : Int → Nat → PyData) (keys : List (Nat × Bool)) (order : List Int) : Prop := ∀ x ∈ order, ∀ c ∈ keys, cell x c.1 = cell' x c.1
theorem peers_congr (h : AgreeK cell cell' keys order) {a b : Int} (ha : a ∈ order) (hb : b ∈ order) : mPeers cell keys a b = mPeers cell' keys a b := by
  unfold mPeers
  rw [List.map_congr_left fun c hc => h a ha c hc, List.map_congr_left (f := fun c : Nat × Bool => cell b c.1) fun c hc => h b hb c hc]
theorem grp_congr {p q : Int → Int → Bool} (h : ∀ a ∈ order, ∀ b ∈ order, p a b = q a b) (one : Int) : ∀ (os : List Int) (st : Int × Option Int), (∀ o ∈ os, o ∈ order) → (∀ l, st.2 = some l → l ∈ order) → grpAux p os st one = grpAux q os st one
  | [], _, _, _ => rfl
  | o :: os, st, ho, hs => by
    have e : grpStep p st o = grpStep q st o := by
      unfold grpStep
      cases hq : st.2 with
      | none => rfl
      | some l => simp only [h l (hs l hq) o (ho o List.mem_cons_self)]
    rw [grpAux, grpAux, e]
    split
    · rfl
    · refine grp_congr h one os _ (fun x hx => ho x (List.mem_cons_of_mem _ hx)) fun l hl => ?_
      have e2 : (grpStep q st o).2 = some o := rfl
      rw [e2] at hl
      cases hl
      exact ho o List.mem_cons_self
theorem group_congr (h : AgreeK cell cell' keys order) (one : Int) : mGroup cell keys order one = mGroup cell' keys order one :=
  grp_congr (fun a ha b hb => peers_congr h ha hb) one order _ (fun _ h => h) fun l hl => by cases hl
theorem rangeAt_congr (h : AgreeK cell cell' keys order) {b : Bnd} {n : Nat} {one other : Int} (h1 : one ∈ order) (h2 : other ∈ order) : mRangeAt cell keys order b n one other = mRangeAt cell' keys order b n one other := by
  unfold mRangeAt
  rw [group_congr h one, group_congr h other]
  split
  · cases keys with
    | nil => rfl
    | cons c ks =>
      obtain ⟨c, down⟩ := c
      dsimp only
      rw [h one h1 (c, down) List.mem_cons_self, h other h2 (c, down) List.mem_cons_self]
  · rfl
theorem inFrame_congr (h : AgreeK cell cell' keys order) {f : Frm} {one other : Int} (h1 : one ∈ order) (h2 : other ∈ order) : mInFrame cell keys order f one other = mInFrame cell' keys order f one other := by
  have hi : mInside cell keys order f one other = mInside cell' keys order f one other := by
    unfold mInside mRange
    rw [rangeAt_congr h h1 h2, rangeAt_congr h h1 h2, group_congr h one, group_congr h other]
  unfold mInFrame
  rw [hi, peers_congr h h1 h2]
theorem val_congr {d : Dfn} {col : Option Nat} {one : Int} (h : AgreeK cell cell' keys order) (h1 : one ∈ order) (hc : ∀ x ∈ order, ∀ c, col = some c → cell x c = cell' x c) (hl : d.fn = .lag ∨ d.fn = .lead → ∃ c, col = some c) :
    mValue cell d keys col order one = mValue cell' d keys col order one := by
  have hsh : (∃ c, col = some c) → ∀ a : Int, mShift cell order a (col.getD 0) = mShift cell' order a (col.getD 0) := fun ⟨c, e⟩ a => by
    subst e
    unfold mShift
    split
    · rename_i hb
      rw [Bool.and_eq_true, decide_eq_true_eq, decide_eq_true_eq] at hb
      refine hc _ ?_ c rfl
      rw [List.getD_eq_getElem?_getD, List.getElem?_eq_getElem (by omega)]
      exact List.getElem_mem _
    · rfl
  unfold mValue
  split
  · unfold mOfPlace
    cases hf : d.fn <;> dsimp only
    · have : ((order.take (mIdx order one)).filter fun o => !mPeers cell keys one o) = (order.take (mIdx order one)).filter fun o => !mPeers cell' keys one o := List.filter_congr fun x hx => by rw [peers_congr h h1 (List.mem_of_mem_take hx)]
      rw [this]
    · rw [group_congr h one]
    · exact hsh (hl (.inl hf)) _
    · exact hsh (hl (.inr hf)) _
  · have hfl : (order.filter fun o => mInFrame cell keys order d.frm one o) = order.filter fun o => mInFrame cell' keys order d.frm one o := List.filter_congr fun x hx => inFrame_congr h h1 hx
    rw [hfl]
    congr 1
    unfold mGiven
    cases col with
    | none => rfl
    | some c => exact List.map_congr_left fun x hx => hc x (List.mem_filter.mp hx).1 c rfl
end
/-! ### groups -/
theorem addKv_ks {kd : PyData} {n : Int} : ∀ {kvs : KVs}, (kvs.map fun e => nk e.1).Nodup → ((addKv kvs kd n).map fun e => nk e.1).Nodup
  | [], _ => by simp [addKv]
  | (k, ns) :: r, h => by
    unfold addKv
    split
    · exact h
    · rename_i hk
      rw [List.map_cons, List.nodup_cons] at h ⊢
      refine ⟨fun z => ?_, addKv_ks h.2⟩
      obtain ⟨e, he, q⟩ := List.mem_map.mp z
      rcases addKv_mem he with h1 | ⟨h1, _⟩ | ⟨x, hx, _, rfl⟩
      · exact h.1 (List.mem_map.mpr ⟨e, h1, q⟩)
      · rw [h1] at q
        exact hk (decide_eq_true q.symm)
      · exact h.1 (List.mem_map.mpr ⟨x, hx, q⟩)
theorem groups_ks (gk : Int → PyData) (l : List Int) : ((mGroups gk l).map fun e => nk e.1).Nodup := by
  refine list_snoc (P := fun l => ((mGroups gk l).map fun e => nk e.1).Nodup) List.nodup_nil (fun l n ih => ?_) l
  rw [groups_snoc]
  exact addKv_ks ih
theorem addKv_has {kd : PyData} {n : Int} : ∀ (kvs : KVs), ∃ e ∈ addKv kvs kd n, nk e.1 = nk kd ∧ n ∈ e.2
  | [] => ⟨(kd, [n]), List.mem_cons_self, rfl, by simp⟩
  | (k, ns) :: r => by
    unfold addKv
    split
    · rename_i hk
      exact ⟨(k, ns ++ [n]), List.mem_cons_self, of_decide_eq_true hk, by simp⟩
    · obtain ⟨e, he, h1, h2⟩ := addKv_has (kd := kd) (n := n) r
      exact ⟨e, List.mem_cons_of_mem _ he, h1, h2⟩
theorem addKv_keeps {kd : PyData} {n m : Int} : ∀ {kvs : KVs} {e : PyData × List Int}, e ∈ kvs → m ∈ e.2 → ∃ x ∈ addKv kvs kd n, nk x.1 = nk e.1 ∧ m ∈ x.2
  | (k, ns) :: r, e, he, hm => by
    unfold addKv
    split
    · rcases List.mem_cons.mp he with rfl | he
      · exact ⟨(k, ns ++ [n]), List.mem_cons_self, rfl, List.mem_append_left _ hm⟩
      · exact ⟨e, List.mem_cons_of_mem _ he, rfl, hm⟩
    · rcases List.mem_cons.mp he with rfl | he
      · exact ⟨(k, ns), List.mem_cons_self, rfl, hm⟩
      · obtain ⟨x, hx, h1, h2⟩ := addKv_keeps (kd := kd) (n := n) he hm
        exact ⟨x, List.mem_cons_of_mem _ hx, h1, h2⟩
theorem groups_cover (gk : Int → PyData) (l : List Int) : ∀ m ∈ l, ∃ e ∈ mGroups gk l, nk e.1 = nk (gk m) ∧ m ∈ e.2 := by
  refine list_snoc (P := fun l => ∀ m ∈ l, ∃ e ∈ mGroups gk l, nk e.1 = nk (gk m) ∧ m ∈ e.2) (fun m hm => by cases hm) (fun l n ih m hm => ?_) l
  rw [groups_snoc]
  rcases List.mem_append.mp hm with h | h
  · obtain ⟨e, he, h1, h2⟩ := ih m h
    obtain ⟨x, hx, h3, h4⟩ := addKv_keeps (kd := gk n) (n := n) he h2
    exact ⟨x, hx, h3.trans h1, h4⟩
  · rw [List.mem_singleton.mp h]
    exact addKv_has _
theorem getKv_of {kvs : KVs} (h : (kvs.map fun e => nk e.1).Nodup) {e : PyData × List Int} (he : e ∈ kvs) : getKv kvs e.1 = e.2 := by
  obtain ⟨x, hx, h1, h2⟩ := getKv_mem (kd := e.1) ⟨e, he, rfl⟩
  rw [h2]
  have : x = e := by
    clear h2
    induction kvs with
    | nil => cases he
    | cons y r ih =>
      rw [List.map_cons, List.nodup_cons] at h
      rcases List.mem_cons.mp hx with rfl | hx' <;> rcases List.mem_cons.mp he with rfl | he'
      · rfl
      · exact absurd (List.mem_map.mpr ⟨e, he', h1.symm⟩) h.1
      · exact absurd (List.mem_map.mpr ⟨x, hx', h1⟩) h.1
      · exact ih h.2 he' hx'
  rw [this]
theorem parts_has {gk : Int → PyData} {l : List Int} {m : Int} (h : m ∈ l) : ∃ g ∈ mParts (mGroups gk l), m ∈ g := by
  obtain ⟨e, he, _, h2⟩ := groups_cover gk l m h
  refine ⟨e.2, List.mem_map.mpr ⟨e.1, (List.mergeSort_perm _ _).mem_iff.mpr (List.mem_map.mpr ⟨e, he, rfl⟩), getKv_of (groups_ks gk l) he⟩, h2⟩
/-! ### what is not reached -/
theorem cellsL_refl {ds : List PyData} (h : ds.all cellB = true) : PyData.eqv (.list ds) (.list ds) = true := (lists_eqv h h).mpr rfl
theorem hit_in {nums : List Nat} {looks : List Int} {rows others r : Rows} (hr : r = rows ∨ r = others) {n : Int} (hn : n ∈ ids r) (hs : sameB rows others looks n = false) : lvals (cell r) nums n ∈ mHit nums looks rows others (sset (ids rows ++ ids others)) := by
  refine List.mem_flatMap.mpr ⟨n, mem_sset.mpr ?_, List.mem_flatMap.mpr ⟨r, by rcases hr with rfl | rfl <;> simp, ?_⟩⟩
  · rcases hr with rfl | rfl
    · exact List.mem_append_left _ hn
    · exact List.mem_append_right _ hn
  · unfold hz
    rw [if_pos (by rw [hs, decide_eq_true hn]; rfl)]
    exact List.mem_singleton.mpr rfl
theorem looks_cells {q : Rows} {w : Nat} (hq : RowsOk q w) {looks : List Int} (hl : ∀ c ∈ looks, 0 ≤ c ∧ c < w) {n : Int} (hm : n ∈ ids q) : (looks.map fun c => cell q n c.toNat).all cellB = true := by
  rw [List.all_eq_true]
  intro z hz
  obtain ⟨c, hc, rfl⟩ := List.mem_map.mp hz
  have := hl c hc
  exact rows_cell hq hm (by omega)
theorem same_iff {rows others : Rows} {w : Nat} (r : RowsOk rows w) (o : RowsOk others w) {looks : List Int} (hl : ∀ c ∈ looks, 0 ≤ c ∧ c < w) {n : Int} :
    sameB rows others looks n = true ↔ n ∈ ids rows ∧ n ∈ ids others ∧ ∀ c ∈ looks, cell rows n c.toNat = cell others n c.toNat := by
  unfold sameB
  rw [Bool.and_eq_true, Bool.and_eq_true, decide_eq_true_eq, decide_eq_true_eq]
  refine ⟨fun ⟨h1, h2, h3⟩ => ⟨h1, h2, ?_⟩, fun ⟨h1, h2, h3⟩ => ⟨h1, h2, ?_⟩⟩
  · have := (lists_eqv (looks_cells r hl h1) (looks_cells o hl h2)).mp h3
    exact fun c hc => List.map_inj_left.mp this c hc
  · exact (lists_eqv (looks_cells r hl h1) (looks_cells o hl h2)).mpr (List.map_congr_left h3)
theorem part_iff {q : Rows} {w : Nat} (hq : RowsOk q w) {nums : List Nat} (hn : ∀ c ∈ nums, c < w) {a b : Int} (ha : a ∈ ids q) (hb : b ∈ ids q) : mSame (cell q) nums a b = true ↔ lvals (cell q) nums a = lvals (cell q) nums b := by
  unfold mSame lvals
  rw [lists_eqv (vals_cells hq hn ha) (vals_cells hq hn hb)]
  exact ⟨fun h => by rw [h], fun h => by injection h⟩
theorem look_num {cols : List (Str × Str)} {d : Df} {c : Nat} (h : c ∈ mNums cols d) : (c : Int) ∈ mLooks cols d := mem_sset.mpr (List.mem_append_left _ (List.mem_append_left _ (List.mem_map.mpr ⟨c, h, rfl⟩)))
theorem look_key {cols : List (Str × Str)} {d : Df} {c : Nat × Bool} (h : c ∈ mKeys cols d) : (c.1 : Int) ∈ mLooks cols d := mem_sset.mpr (List.mem_append_left _ (List.mem_append_right _ (List.mem_map.mpr ⟨c, h, rfl⟩)))
theorem look_col {cols : List (Str × Str)} {d : Df} {c : Nat} (h : mCol cols d = some c) : (c : Int) ∈ mLooks cols d := mem_sset.mpr (List.mem_append_right _ (by rw [h]; exact List.mem_singleton.mpr rfl))
/-- a row of the later table that no due partition holds: it stood in the former one, and its value is the same -/
theorem unreached {cols : List (Str × Str)} {d : Dfn} {rows others : Rows} (hf : Fits2 cols d.df) (hlag : d.fn = .lag ∨ d.fn = .lead → ∃ c, d.col = some c) (r : RowsOk rows cols.length) (o : RowsOk others cols.length) {one : Int} (h1 : one ∈ ids others)
    (hu : ∀ g ∈ mDue cols d.df rows others, one ∉ g) : one ∈ ids rows ∧ mVal cols d rows one = mVal cols d others one := by
  have hl := looks_range hf
  have hn := nums_lt hf
  let nums := mNums cols d.df
  let looks := mLooks cols d.df
  let hit := mHit nums looks rows others (sset (ids rows ++ ids others))
  have hdue : dueB hit others nums one = false := by
    cases q : dueB hit others nums one with
    | false => rfl
    | true =>
      obtain ⟨g, hg, hm⟩ := parts_has (gk := gKey (cell others) nums) (List.mem_filter.mpr ⟨mem_sset.mpr h1, q⟩)
      exact absurd hm (hu g hg)
  have hno : ∀ z ∈ hit, z ≠ lvals (cell others) nums one := fun z hz e => by
    have := (List.any_eq_false.mp hdue) z hz
    rw [e] at this
    exact this (cellsL_refl (vals_cells o hn h1))
  have agree : ∀ n, sameB rows others looks n = true → (∀ c ∈ nums, cell rows n c = cell others n c) ∧ (∀ c ∈ mKeys cols d.df, cell rows n c.1 = cell others n c.1) ∧ ∀ c, mCol cols d.df = some c → cell rows n c = cell others n c := fun n hs => by
    obtain ⟨_, _, q⟩ := (same_iff r o hl).mp hs
    exact ⟨fun c hc => q c (look_num hc), fun c hc => q c.1 (look_key hc), fun c hc => q c (look_col hc)⟩
  have hone : sameB rows others looks one = true := by
    cases q : sameB rows others looks one with
    | true => rfl
    | false => exact absurd rfl (hno _ (hit_in (.inr rfl) h1 q))
  obtain ⟨hr1, _, _⟩ := (same_iff r o hl).mp hone
  have hv : lvals (cell rows) nums one = lvals (cell others) nums one := by unfold lvals; rw [List.map_congr_left (agree one hone).1]
  have hR : ∀ n ∈ ids rows, mSame (cell rows) nums n one = true → sameB rows others looks n = true := fun n hm hs => by
    cases q : sameB rows others looks n with
    | true => rfl
    | false => exact absurd (((part_iff r hn hm hr1).mp hs).trans hv) (hno _ (hit_in (.inl rfl) hm q))
  have hO : ∀ n ∈ ids others, mSame (cell others) nums n one = true → sameB rows others looks n = true := fun n hm hs => by
    cases q : sameB rows others looks n with
    | true => rfl
    | false => exact absurd ((part_iff o hn hm h1).mp hs) (hno _ (hit_in (.inr rfl) hm q))
  refine ⟨hr1, ?_⟩
  let l := mIds (cell rows) nums (ids rows) one
  let m := mIds (cell others) nums (ids others) one
  have hln : l.Nodup := r.nd.filter _
  have hmn : m.Nodup := o.nd.filter _
  have hsl : ∀ n ∈ l, sameB rows others looks n = true := fun n h => hR n (List.mem_filter.mp h).1 (List.mem_filter.mp h).2
  have hp : m.Perm l := (List.perm_ext_iff_of_nodup hmn hln).mpr fun n => by
    constructor
    · intro h
      obtain ⟨q1, q2⟩ := List.mem_filter.mp h
      have hs := hO n q1 q2
      obtain ⟨p1, _, _⟩ := (same_iff r o hl).mp hs
      refine List.mem_filter.mpr ⟨p1, (part_iff r hn p1 hr1).mpr ?_⟩
      rw [hv, ← (part_iff o hn q1 h1).mp q2]
      unfold lvals
      rw [List.map_congr_left (agree n hs).1]
    · intro h
      obtain ⟨q1, q2⟩ := List.mem_filter.mp h
      have hs := hR n q1 q2
      obtain ⟨_, p1, _⟩ := (same_iff r o hl).mp hs
      refine List.mem_filter.mpr ⟨p1, (part_iff o hn p1 h1).mpr ?_⟩
      rw [← hv, ← (part_iff r hn q1 hr1).mp q2]
      unfold lvals
      rw [List.map_congr_left (agree n hs).1]
  have hkl : ∀ c ∈ mKeys cols d.df, c.1 < cols.length := fun c hc => by
    have := hl c.1 (look_key hc)
    omega
  have ho : mOrdered (cell others) (mKeys cols d.df) m = mOrdered (cell rows) (mKeys cols d.df) l := ordered_eq hp hln (fun x hx c hc => rows_cell r (List.mem_filter.mp hx).1 (hkl c hc)) fun x hx c hc => (agree x (hsl x hx)).2.1 c hc
  have hmem : ∀ x ∈ mOrdered (cell rows) (mKeys cols d.df) l, x ∈ l := fun x hx => (ordered_perm _ _ _).mem_iff.mp hx
  show mValue (cell rows) d (mKeys cols d.df) (mCol cols d.df) (mOrdered (cell rows) (mKeys cols d.df) l) one = mValue (cell others) d (mKeys cols d.df) (mCol cols d.df) (mOrdered (cell others) (mKeys cols d.df) m) one
  rw [ho]
  refine val_congr (fun x hx c hc => (agree x (hsl x (hmem x hx))).2.1 c hc) ?_ (fun x hx c hc => (agree x (hsl x (hmem x hx))).2.2 c hc) fun h => ?_
  · refine (ordered_perm _ _ _).mem_iff.mpr (List.mem_filter.mpr ⟨hr1, (part_iff r hn hr1 hr1).mpr rfl⟩)
  · obtain ⟨c, e⟩ := hlag h
    exact ⟨ix cols c, by unfold mCol; rw [show d.df.col = d.col from rfl, e]; rfl⟩
end K27
/-! K27, the plain law, third part: what touched gives is what is due. -/
namespace K27
open PySem
open PySem.W (AllAlike Sortable dataLe dataLt)
/-! ### which values are hit -/
theorem mov_same {rows others : Rows} {w : Nat} (r : RowsOk rows w) (o : RowsOk others w) {looks : List Int} (hl : ∀ c ∈ looks, 0 ≤ c ∧ c < w) (n : Int) : movB rows others looks n = !sameB rows others looks n := by
  rw [← Bool.not_inj_iff, Bool.not_not, Bool.eq_iff_iff, same_iff r o hl]
  unfold movB diffB
  simp only [Bool.not_or, Bool.not_not, Bool.and_eq_true, decide_eq_true_eq, Bool.not_eq_true', List.any_eq_false, Bool.not_eq_false', and_assoc]
  refine and_congr_right fun h1 => and_congr_right fun h2 => forall_congr' fun c => forall_congr' fun hc => ?_
  have := hl c hc
  have e := cell_eqv (rows_cell r h1 (c := c.toNat) (by omega)) (rows_cell o h2 (c := c.toNat) (by omega))
  rw [← e]
  cases PyData.eqv (cell rows n c.toNat) (cell others n c.toNat) <;> simp
theorem vals_eqv {as bs : List PyData} : PyData.eqv (.tuple as) (.tuple bs) = PyData.eqv (.list as) (.list bs) := by rw [PyData.eqv, PyData.eqv]
theorem reach_hit {rows others : Rows} {w : Nat} (r : RowsOk rows w) (o : RowsOk others w) {looks : List Int} (hl : ∀ c ∈ looks, 0 ≤ c ∧ c < w) (nums : List Nat) (n : Int) :
    ((mReached nums rows others (mMoved rows others looks)).any fun z => PyData.eqv z (vals (cell others) nums n)) = dueB (mHit nums looks rows others (sset (ids rows ++ ids others))) others nums n := by
  unfold dueB mReached mHit mMoved
  generalize sset (ids rows ++ ids others) = l
  induction l with
  | nil => rfl
  | cons m l ih =>
    rw [List.filter_cons, mov_same r o hl]
    have one : ∀ q : Rows, ((hz rows others looks nums m q).any fun z => PyData.eqv z (lvals (cell others) nums n)) = if sameB rows others looks m = true then false else (rz nums m q).any fun z => PyData.eqv z (vals (cell others) nums n) := fun q => by
      unfold hz rz
      by_cases hm : m ∈ ids q
      · rw [if_pos hm, decide_eq_true hm]
        cases sameB rows others looks m with
        | true => rfl
        | false =>
          show (PyData.eqv (lvals (cell q) nums m) (lvals (cell others) nums n) || false) = (PyData.eqv (vals (cell q) nums m) (vals (cell others) nums n) || false)
          unfold lvals vals
          rw [vals_eqv]
      · rw [if_neg hm, decide_eq_false hm]
        cases sameB rows others looks m <;> rfl
    rw [List.flatMap_cons, List.any_append, ← ih]
    simp only [List.flatMap_cons, List.flatMap_nil, List.any_append, one]
    cases sameB rows others looks m with
    | true => simp
    | false => simp [List.flatMap_cons, List.any_append, Bool.or_assoc]
/-! ### keys -/
theorem nkey_inj {a b : PyData} (ha : cellB a = true) (hb : cellB b = true) (h : nk (mKey a) = nk (mKey b)) : a = b := by
  cases a <;> first | (cases ha; done) | (cases b <;> first | (cases hb; done) | rfl | (simp [mKey, nk, nks] at h; try (first | (rw [h]; done) | (exact absurd h (by decide)))))
theorem nks_inj {α : Type} {f g : α → PyData} : ∀ {l : List α}, (∀ c ∈ l, cellB (f c) = true ∧ cellB (g c) = true) → nks (l.map fun c => mKey (f c)) = nks (l.map fun c => mKey (g c)) → ∀ c ∈ l, f c = g c
  | [], _, _, _, hc => by cases hc
  | x :: l, hb, h, c, hc => by
    simp only [List.map_cons, nks, List.cons.injEq] at h
    obtain ⟨h1, h2⟩ := hb x List.mem_cons_self
    rcases List.mem_cons.mp hc with rfl | hc
    · exact nkey_inj h1 h2 h.1
    · exact nks_inj (fun c hc => hb c (List.mem_cons_of_mem _ hc)) h.2 c hc
theorem gKey_inj {cell : Int → Nat → PyData} {nums : List Nat} {a b : Int} (ha : ∀ c ∈ nums, cellB (cell a c) = true) (hb : ∀ c ∈ nums, cellB (cell b c) = true) (h : nk (gKey cell nums a) = nk (gKey cell nums b)) : lvals cell nums a = lvals cell nums b := by
  have h' : nks (nums.map fun c => mKey (cell a c)) = nks (nums.map fun c => mKey (cell b c)) := by
    unfold gKey nk at h
    injection h
  unfold lvals
  rw [List.map_congr_left (nks_inj (f := fun c => cell a c) (g := fun c => cell b c) (fun c hc => ⟨ha c hc, hb c hc⟩) h')]
/-! ### groups of some, some of the groups -/
def hd (p : Int → Bool) (g : List Int) : Bool := p (g.headD 0)
theorem headD_snoc {ns : List Int} {n : Int} (h : ns ≠ []) : (ns ++ [n]).headD 0 = ns.headD 0 := by
  cases ns with
  | nil => exact absurd rfl h
  | cons x r => rfl
theorem flt_pos {p : Int → Bool} {k : PyData} {ns : List Int} {K : KVs} (h : hd p ns = true) : List.filter (fun e : PyData × List Int => hd p e.2) ((k, ns) :: K) = (k, ns) :: K.filter fun e => hd p e.2 := List.filter_cons_of_pos h
theorem flt_neg {p : Int → Bool} {k : PyData} {ns : List Int} {K : KVs} (h : hd p ns = false) : List.filter (fun e : PyData × List Int => hd p e.2) ((k, ns) :: K) = K.filter fun e => hd p e.2 := List.filter_cons_of_neg (by show ¬ hd p ns = true; rw [h]; exact Bool.false_ne_true)
theorem addKv_filter {p : Int → Bool} {kd : PyData} {n : Int} : ∀ {K : KVs}, (∀ e ∈ K, e.2 ≠ [] ∧ (nk e.1 = nk kd → hd p e.2 = p n)) → (addKv K kd n).filter (fun e => hd p e.2) = if p n = true then addKv (K.filter fun e => hd p e.2) kd n else K.filter fun e => hd p e.2
  | [], _ => by
    unfold addKv
    cases q : p n with
    | true =>
      rw [if_pos rfl, flt_pos (show hd p [n] = true from q)]
      rfl
    | false =>
      rw [if_neg Bool.false_ne_true, flt_neg (show hd p [n] = false from q)]
  | (k, ns) :: r, h => by
    obtain ⟨h1, h2⟩ := h (k, ns) List.mem_cons_self
    have ih := addKv_filter (p := p) (kd := kd) (n := n) (K := r) fun e he => h e (List.mem_cons_of_mem _ he)
    by_cases hk : nk k = nk kd
    · have h2 := h2 hk
      have e1 : addKv ((k, ns) :: r) kd n = (k, ns ++ [n]) :: r := by rw [addKv, if_pos (decide_eq_true hk)]
      have h3 : hd p (ns ++ [n]) = p n := by unfold hd; rw [headD_snoc h1]; exact h2
      rw [e1]
      cases q : p n with
      | true =>
        rw [if_pos rfl, flt_pos (h3.trans q), flt_pos (show hd p ns = true from h2.trans q), addKv, if_pos (decide_eq_true hk)]
      | false =>
        rw [if_neg Bool.false_ne_true, flt_neg (h3.trans q), flt_neg (show hd p ns = false from h2.trans q)]
    · have e1 : ∀ s : KVs, addKv ((k, ns) :: s) kd n = (k, ns) :: addKv s kd n := fun s => by rw [addKv, if_neg (by rw [decide_eq_false hk]; exact Bool.false_ne_true)]
      rw [e1]
      cases q : hd p ns with
      | true =>
        rw [flt_pos q, flt_pos q, ih, e1]
        split <;> rfl
      | false =>
        rw [flt_neg q, flt_neg q, ih]
theorem groups_filter {p : Int → Bool} {gk : Int → PyData} (l : List Int) : (∀ a ∈ l, ∀ b ∈ l, nk (gk a) = nk (gk b) → p a = p b) → mGroups gk (l.filter p) = (mGroups gk l).filter fun e => hd p e.2 := by
  refine list_snoc (P := fun l => (∀ a ∈ l, ∀ b ∈ l, nk (gk a) = nk (gk b) → p a = p b) → mGroups gk (l.filter p) = (mGroups gk l).filter fun e => hd p e.2) (fun _ => rfl) (fun l n ih h => ?_) l
  have ih := ih fun a ha b hb => h a (List.mem_append_left _ ha) b (List.mem_append_left _ hb)
  rw [List.filter_append, groups_snoc, addKv_filter (fun e he => ?_)]
  · cases q : p n with
    | true =>
      rw [if_pos rfl, List.filter_cons_of_pos q, List.filter_nil, groups_snoc, ih]
    | false =>
      rw [if_neg Bool.false_ne_true, List.filter_cons_of_neg (by rw [q]; exact Bool.false_ne_true), List.filter_nil, List.append_nil, ih]
  · obtain ⟨h1, h2⟩ := groups_mem gk l e he
    refine ⟨h1, fun hk => ?_⟩
    unfold hd
    cases hq : e.2 with
    | nil => exact absurd hq h1
    | cons x r =>
      obtain ⟨q1, q2⟩ := h2 x (by rw [hq]; exact List.mem_cons_self)
      exact h x (List.mem_append_left _ q1) n (by simp) (q2.trans hk)
theorem sort_filter {α : Type} {le : α → α → Bool} (h : PySem.W.TotalLe le) (p : α → Bool) (l : List α) : (l.mergeSort le).filter p = (l.filter p).mergeSort le := by
  refine PySem.W.sort_unique h ((PySem.W.sort_pairwise h l).sublist List.filter_sublist) fun c => ?_
  rw [List.filter_filter, List.filter_filter]
  have e1 : ∀ m : List α, (m.filter fun a => PySem.W.sameRank le c a && p a) = (m.filter (PySem.W.sameRank le c)).filter p := fun m => by
    rw [List.filter_filter]
    exact List.filter_congr fun x _ => Bool.and_comm _ _
  rw [e1, e1, PySem.W.sort_stable h l c]
theorem parts_filter {p : Int → Bool} {K : KVs} (hk : (K.map fun e => nk e.1).Nodup) : mParts (K.filter fun e => hd p e.2) = (mParts K).filter (hd p) := by
  have hk' : ((K.filter fun e => hd p e.2).map fun e => nk e.1).Nodup := hk.sublist (List.filter_sublist.map _)
  have e1 : (K.filter fun e => hd p e.2).map (·.1) = (K.map (·.1)).filter fun kd => hd p (getKv K kd) := by
    rw [List.filter_map]
    congr 1
    refine List.filter_congr fun e he => ?_
    show hd p e.2 = hd p (getKv K e.1)
    rw [getKv_of hk he]
  unfold mParts
  have hT : PySem.W.TotalLe (dataLe false (id : PyData → PyData)) := PySem.W.sortLe_total _ _ _
  rw [e1, ← sort_filter (le := dataLe false id) hT, List.filter_map]
  refine List.map_congr_left fun kd hkd => ?_
  obtain ⟨q1, q2⟩ := List.mem_filter.mp hkd
  obtain ⟨e, he, rfl⟩ := List.mem_map.mp ((List.mergeSort_perm _ _).mem_iff.mp q1)
  have q2 : hd p (getKv K e.1) = true := q2
  rw [getKv_of hk he] at q2 ⊢
  exact getKv_of hk' (List.mem_filter.mpr ⟨he, q2⟩)
/-- the law of touched -/
theorem touched_due {cols : List (Str × Str)} {d : Df} {rows others : Rows} (hf : Fits2 cols d) (r : RowsOk rows cols.length) (o : RowsOk others cols.length) : mTouched cols d rows others = mDue cols d rows others := by
  have hl := looks_range hf
  have hn := nums_lt hf
  unfold mTouched mDue
  rw [groups_filter, parts_filter (groups_ks _ _)]
  · refine List.filter_congr fun g hg => ?_
    unfold hitB hd
    exact reach_hit r o hl _ _
  · intro a ha b hb h
    have ha := mem_sset.mp ha
    have hb := mem_sset.mp hb
    unfold dueB
    rw [gKey_inj (fun c hc => rows_cell o ha (hn c hc)) (fun c hc => rows_cell o hb (hn c hc)) h]
end K27
set_option maxHeartbeats 2000000
/-! K27, part 24: the box made; tuples cut and joined; and of a sure test and an open one. -/
namespace K27
open PySem PySem.Spec PyProof.Rows L2 LamX
section
variable {G : Gc} {k : Nat} {X : Cx} {L : List Slot} {a b c e : Expr} {es : List Expr} {pos : Pos} {ta : TA}
theorem pe_box {es : List Expr} {t : TA} (h : PA X es t) : PE X (.List es pos) (fun σ H Q => t σ H fun xs H1 => ∃ d n, xs = [V.ref d, V.int n] ∧ 0 ≤ n ∧ ∀ p, H1 p = none → Q (.ref p) (upd H1 p (BoxO p d))) := ⟨fun pins s σ H Q I hq => wpAny_List_spliced (thn (h.run pos pins s σ H _ I hq) fun us s1 ⟨xs, H1, I1, r, d, n, ex, hn, q⟩ => by
  subst ex
  cases r with
  | cons r1 r =>
    cases r with
    | cons r2 r =>
      cases r
      cases r1
      obtain ⟨t, rfl⟩ := r2
      have hp : H1 s1.heap.objs.size = none := I1.hok.fresh (Nat.le_refl _)
      refine ⟨(by decide : (2 : Nat) ≤ sizeLine), .ref s1.heap.objs.size, upd H1 s1.heap.objs.size (BoxO s1.heap.objs.size d), ?_, rfl, q _ hp⟩
      exact I1.laid (t' := s1.toks) (fun b u e => Heap.get?_push_of_some _ e) (Nat.le_refl _) (box_ok (t := t) (m := 0) hn (Heap.get?_push_size _ rfl)))⟩
/-- [digits, 0] -/
theorem je_newBox {ns : List Int} {n : Int} (hn : 0 ≤ n) (h : JA G k X L es [isD (.list (ns.map .int)), isI n]) : JE G k X L (.List es pos) (isBox ns) := fun C =>
  (pe_box (h C)).imp fun σ H Q ⟨F, s, t, E, q⟩ => ⟨F, s, t, E, fun vs F1 H1 st1 p1 => by
    obtain ⟨v, w, rfl, p1, p2⟩ := allP2 p1
    obtain ⟨ad, xs, rfl, h1, d1⟩ := da_lst p1
    refine ⟨ad, n, by rw [da_int p2], hn, fun p hp => ?_⟩
    have st := Step.new (o := BoxO p ad) st1.tab st1.sub hp
    exact q _ _ _ (st1.trans st) ⟨p, ad, rfl, upd_same, keep_d st.keep _ _ p1⟩⟩
/-! ### tuples joined -/
def rCatZ (K : PySem.W.Frag) : R2 := fun x y H Q => ∃ a b xs ys, x = .ref a ∧ y = .ref b ∧ SqT K H a xs ∧ SqT K H b ys ∧ ys ≠ [] ∧ xs.length + ys.length ≤ sizeLine ∧
  (xs = [] → Q (.ref b) H) ∧ (xs ≠ [] → ∀ p o, H p = none → o.dict = none → Q (.ref p) (upd H p (.frz o (.tup (xs ++ ys)))))
theorem op_catZ : OpR X (binaryOp .Add) (rCatZ X.K) := by
  intro pins s σ H x y v u Q I rx ry ⟨a, b, xs, ys, ex, ey, ha, hb, hy, hz, q0, q2⟩
  subst ex; subst ey
  cases rx
  cases ry
  obtain ⟨its, r1, p1, _⟩ := I.tuple ha
  obtain ⟨its2, r2, p2, _⟩ := I.tuple hb
  by_cases hx : xs = []
  · subst hx
    cases r1
    exact cat_tup0 p1 p2 ⟨.ref b, H, I, rfl, q0 rfl⟩
  · refine HT.cat_tup p1 p2 (fun z => hx (r1.nil_iff.mp z)) (fun z => absurd (r2.nil_iff.mp z) hy) (fun z => ?_) (by rw [← r1.length, ← r2.length]; exact hz)
    let o : Obj := { cls := .type "tuple", data := .seq (its ++ its2).toArray }
    have new : (s.heap.push o).get? s.heap.objs.size = some o := Heap.get?_push_size _ rfl
    have hl : (xs ++ ys).length ≤ sizeLine := by rw [List.length_append]; exact hz
    exact ⟨.ref s.heap.objs.size, upd H s.heap.objs.size (.frz o (.tup (xs ++ ys))), I.laid (t' := s.toks) (fun b ob q => Heap.get?_push_of_some _ q) (Nat.le_refl _) ⟨new, hl, _, r1.append r2, o, new, rfl, _, rfl⟩, rfl, q2 hx _ o (I.hok.fresh (Nat.le_refl _)) rfl⟩
theorem das_append {F : Hp} : ∀ {vs ws : List V} {ds es : List PyData}, Das F vs ds → Das F ws es → Das F (vs ++ ws) (ds ++ es)
  | _, _, _, _, .nil, h => h
  | _, _, _, _, .cons a t, h => .cons a (das_append t h)
theorem je_catT {ds es : List PyData} (hl : ds.length + es.length ≤ 100000) (he : es ≠ []) (ha : JE G k X L a (isD (.tuple ds))) (hb : JE G k X L b (isD (.tuple es))) : JE G k X L (.BinOp a .Add b pos) (isD (.tuple (ds ++ es))) :=
  je_op (fun _ => op_catZ) (fun x y F H Q s t p1 p2 q => by
    obtain ⟨a1, xs, rfl, h1, d1⟩ := da_tup p1
    obtain ⟨b1, ys, rfl, h2, d2⟩ := da_tup p2
    have l1 := das_length d1
    have l2 := das_length d2
    refine ⟨a1, b1, xs, ys, rfl, rfl, h1.sq s, h2.sq s, fun z => ?_, ?_, fun z => ?_, fun z p o hp ho => ?_⟩
    · subst z
      exact he (List.length_eq_zero_iff.mp l2.symm)
    · rw [l1, l2]; exact Nat.le_trans hl (by decide)
    · subst z
      have : ds = [] := List.length_eq_zero_iff.mp l1.symm
      subst this
      exact q _ F H (Step.refl t s) p2
    · obtain ⟨st, dd⟩ := Step.newTup t s hp ho (das_append d1 d2)
      exact q _ _ _ st dd) ha hb
/-! ### t[1:] of a tuple of one or more -/
theorem sl_tupZ : SlR X (fun x lo hi H Q => ∃ a xs, x = .ref a ∧ SqT X.K H a xs ∧ ¬ (HT.sIx xs.length 0 lo = 0 ∧ HT.sIx xs.length xs.length hi = xs.length) ∧ ∀ p o, H p = none → o.dict = none → Q (.ref p) (upd H p (.frz o (.tup (cutV xs lo hi))))) := by
  intro pins s σ H x v vl vu lo hi sl Q I rx hs pl pu ⟨a, xs, ex, hx, hw, q⟩
  subst ex
  cases rx
  obtain ⟨its, r, ht, hz⟩ := I.tuple hx
  have hlen : its.toArray.size = xs.length := by rw [List.size_toArray]; exact r.length.symm
  refine ⟨"tuple", _, PyProof.Rows.slot_tuple_getitem.lookup, ht.typeIs, ?_⟩
  refine HT.getItem_tuple_cut ht hs pl pu (by rw [hlen]; exact hw) ?_ (by rw [hlen]; exact hz)
  rw [hlen]
  let cut : List Value := (its.drop (HT.sIx xs.length 0 lo)).take (HT.sIx xs.length xs.length hi - HT.sIx xs.length 0 lo)
  let o : Obj := { cls := .type "tuple", data := .seq cut.toArray }
  have new : (s.heap.push o).get? s.heap.objs.size = some o := Heap.get?_push_size _ rfl
  exact ⟨.ref s.heap.objs.size, upd H s.heap.objs.size (.frz o (.tup (cutV xs lo hi))), I.laid (t' := s.toks) (fun b ob q => Heap.get?_push_of_some _ q) (Nat.le_refl _) ⟨new, Nat.le_trans (cutV_length xs lo hi) hz, _, (r.drop _).take _, o, new, rfl, _, rfl⟩, rfl, q _ o (I.hok.fresh (Nat.le_refl _)) rfl⟩
theorem cutV_tail {xs : List V} (h : xs ≠ []) : cutV xs (some 1) none = xs.drop 1 := by
  unfold cutV
  have hl : 1 ≤ xs.length := by cases xs with | nil => exact absurd rfl h | cons x r => simp
  rw [HT.sIx_none, show (1 : Int) = ((1 : Nat) : Int) from rfl, HT.sIx_nat, Nat.min_eq_left hl]
  exact List.take_of_length_le (by rw [List.length_drop]; omega)
theorem je_tailT {ds : List PyData} {p2} (hd : ds ≠ []) (ha : JE G k X L a (isD (.tuple ds))) (hb : JE G k X L b (isI 1)) : JE G k X L (.Subscript a (.Slice (some b) none none p2) pos) (isD (.tuple (ds.drop 1))) := fun C =>
  (pe_slice sl_tupZ (ha C) (po_some (hb C)) po_none).imp fun σ H Q ⟨F, s, t, E, q⟩ => ⟨F, s, t, E, fun x F1 H1 st1 p1 => ⟨F1, st1.sub, st1.tab, E.step st1, fun y F2 H2 st2 p2 => ⟨1, da_int p2, by
    obtain ⟨ad, xs, rfl, h1, d1⟩ := da_tup p1
    have hx : xs ≠ [] := fun z => by
      subst z
      exact hd (List.length_eq_zero_iff.mp (das_length d1).symm)
    have hl : 1 ≤ xs.length := by cases xs with | nil => exact absurd rfl hx | cons x r => simp
    refine ⟨ad, xs, rfl, (h1.keep st2.keep).sq st2.sub, fun z => ?_, fun l o hl ho => ?_⟩
    · have z1 := z.1
      rw [show (1 : Int) = ((1 : Nat) : Int) from rfl, HT.sIx_nat] at z1
      omega
    · rw [cutV_tail hx]
      obtain ⟨st, dd⟩ := Step.newTup st2.tab st2.sub hl ho (das_drop 1 (keep_ds st2.keep _ _ d1))
      exact q _ _ _ ((st1.trans st2).trans st) dd⟩⟩⟩
/-- a and b, a sure -/
theorem jb_and (ha : JT G k X L a true) (hb : JB G k X L b) : JB G k X L (.BoolOp .And [a, b] pos) := fun C =>
  (pw_and (ha C) (pw_and1 (hb C))).pt.imp fun σ H Q ⟨F, s, t, E, q⟩ => ⟨F, s, t, E, fun F1 H1 st1 => by
    dsimp only
    rw [if_pos rfl]
    exact ⟨F1, st1.sub, st1.tab, E.step st1, fun b F2 H2 st2 => q b F2 H2 (st1.trans st2)⟩⟩
end
end K27
set_option maxHeartbeats 1000000
/-! K27, what law needs of its data. -/
namespace K27
open PySem L2 LamX
open PySem.W (AllAlike Sortable dataLe dataLt)
/-! ### repr of ints and of lists of tuples of ints -/
theorem ints_short : ∀ {l : List Int}, (∀ n ∈ l, n.natAbs < 1000) → PyData.leavesShortAll 13 (l.map .int) = true ∧ PyData.showableAll (l.map .int) = true ∧ PyData.hasDictAll (l.map .int) = false ∧ PyData.depthAll (l.map .int) = 0 ∧ PyData.bulkAll (l.map .int) = l.length
  | [], _ => by simp [PyData.leavesShortAll, PyData.showableAll, PyData.hasDictAll, PyData.depthAll, PyData.bulkAll]
  | n :: l, h => by
    obtain ⟨h1, h2, h3, h4, h5⟩ := ints_short (l := l) fun m hm => h m (List.mem_cons_of_mem _ hm)
    have hn := h n List.mem_cons_self
    have e1 : (PyData.shown (.int n)).length ≤ 13 := PyData.shown_int_le (by omega)
    have e2 : n.natAbs.log2 < 1920 := by
      have : n.natAbs.log2 ≤ n.natAbs := Nat.log2_le_self _
      omega
    simp only [List.map_cons, PyData.leavesShortAll, PyData.leavesShort, PyData.showableAll, PyData.showable, PyData.hasDictAll, PyData.hasDict, PyData.depthAll, PyData.depth, PyData.bulkAll, PyData.bulk, h1, h2, h3, h4, h5, decide_eq_true e1, decide_eq_true e2, List.length_cons]
    refine ⟨rfl, rfl, rfl, rfl, by omega⟩
theorem same_ints {l : List Int} (h : ∀ n ∈ l, n.natAbs < 1000) (hl : l.length ≤ 100) : ISame.Ok ⟨.tuple (l.map .int)⟩ := by
  obtain ⟨h1, h2, h3, h4, h5⟩ := ints_short h
  refine ⟨.inr ⟨_, rfl⟩, h2, h3, ?_, ?_⟩
  · simp only [PyData.depth, h4]
    omega
  · refine PyData.shown_fits_bulk (B := 13) (by decide) (by decide) (by simpa only [PyData.leavesShort] using h1) ?_
    show PyData.bulkAll _ ≤ _
    rw [h5]
    omega
theorem parts_short {m : Nat} : ∀ {gs : List (List Int)}, (∀ g ∈ gs, g.length ≤ m ∧ ∀ n ∈ g, n.natAbs < 1000) → PyData.leavesShortAll 13 (gs.map fun g => .tuple (g.map .int)) = true ∧ PyData.showableAll (gs.map fun g => .tuple (g.map .int)) = true ∧ PyData.hasDictAll (gs.map fun g => .tuple (g.map .int)) = false ∧ PyData.depthAll (gs.map fun g => .tuple (g.map .int)) ≤ 1 ∧ PyData.bulkAll (gs.map fun g => .tuple (g.map .int)) ≤ gs.length * (m + 1)
  | [], _ => by simp [PyData.leavesShortAll, PyData.showableAll, PyData.hasDictAll, PyData.depthAll, PyData.bulkAll]
  | g :: gs, h => by
    obtain ⟨h1, h2, h3, h4, h5⟩ := parts_short (m := m) (gs := gs) fun x hx => h x (List.mem_cons_of_mem _ hx)
    obtain ⟨hg, hn⟩ := h g List.mem_cons_self
    obtain ⟨g1, g2, g3, g4, g5⟩ := ints_short hn
    simp only [List.map_cons, PyData.leavesShortAll, PyData.leavesShort, PyData.showableAll, PyData.showable, PyData.hasDictAll, PyData.hasDict, PyData.depthAll, PyData.depth, PyData.bulkAll, PyData.bulk, h1, h2, h3, g1, g2, g3, g4, g5, List.length_cons]
    refine ⟨rfl, rfl, rfl, by omega, ?_⟩
    rw [Nat.add_mul]
    omega
theorem same_parts {gs : List (List Int)} (h : ∀ g ∈ gs, g.length ≤ 100 ∧ ∀ n ∈ g, n.natAbs < 1000) (hl : gs.length ≤ 100) : ISame.Ok ⟨partsD gs⟩ := by
  obtain ⟨h1, h2, h3, h4, h5⟩ := parts_short h
  refine ⟨.inl ⟨_, rfl⟩, h2, h3, ?_, ?_⟩
  · unfold partsD
    simp only [PyData.depth]
    omega
  · refine PyData.shown_fits_bulk (B := 13) (by decide) (by decide) (by unfold partsD; simpa only [PyData.leavesShort] using h1) ?_
    show PyData.bulkAll _ ≤ _
    refine Nat.le_trans h5 ?_
    have := Nat.mul_le_mul_right 101 hl
    omega
theorem due_small {cols : List (Str × Str)} {d : Df} {rows others : Rows} (hl : others.length ≤ 20) : (mDue cols d rows others).length ≤ 100 ∧ ∀ g ∈ mDue cols d rows others, g.length ≤ 100 ∧ ∀ n ∈ g, n ∈ ids others := by
  unfold mDue
  generalize hq : (sset (ids others)).filter _ = l
  have hll : l.length ≤ 20 := by
    rw [← hq]
    exact Nat.le_trans (List.length_filter_le _ _) (Nat.le_trans (sset_len _) (by unfold ids; rw [List.length_map]; exact hl))
  have hm : ∀ n ∈ l, n ∈ ids others := fun n hn => by
    rw [← hq] at hn
    exact mem_sset.mp (List.mem_filter.mp hn).1
  generalize gKey (cell others) (mNums cols d) = gk
  have h1 := groups_len gk l
  refine ⟨?_, fun g hg => ?_⟩
  · simp only [mParts, List.length_map, List.length_mergeSort]
    have := h1.1
    omega
  · obtain ⟨e, he, rfl⟩ := parts_mem hg
    have := h1.2 e he
    exact ⟨by omega, fun n hn => hm n ((groups_mem gk l e he).2 n hn).1⟩
/-! ### values are cells -/
theorem getD_cell {l : List PyData} (h : ∀ d ∈ l, cellB d = true) (n : Nat) : cellB (l.getD n .none) = true := by
  rw [List.getD_eq_getElem?_getD]
  cases q : l[n]? with
  | none => rfl
  | some d => exact h d (List.mem_of_getElem? q)
theorem known_cell {l : List PyData} (h : ∀ d ∈ l, cellB d = true) : ∀ d ∈ mKnown l, cellB d = true := fun d hd => h d (List.mem_filter.mp ((List.mergeSort_perm _ _).mem_iff.mp hd)).1
theorem mAt_cell {l : List PyData} (h : ∀ d ∈ l, cellB d = true) (a : Int) : cellB (mAt l a) = true := by
  unfold mAt
  split
  · exact getD_cell h _
  · rfl
theorem ofValues_cell {fn : Fnc} {num : Option Int} {l : List PyData} (h : ∀ d ∈ l, cellB d = true) : cellB (mOfValues fn num l) = true := by
  unfold mOfValues
  cases fn <;> dsimp only <;> first | rfl | exact mAt_cell h _ | exact getD_cell (known_cell h) _ | (split <;> rfl)
theorem val_cell {cols : List (Str × Str)} {d : Dfn} {rows : Rows} (hf : Fits2 cols d.df) (hlag : d.fn = .lag ∨ d.fn = .lead → ∃ c, d.col = some c) (r : RowsOk rows cols.length) {one : Int} : cellB (mVal cols d rows one) = true := by
  have hcol : ∀ c, mCol cols d.df = some c → c < cols.length := fun c h => by
    have := looks_range hf c (look_col h)
    omega
  have ho : ∀ x ∈ mOrdered (cell rows) (mKeys cols d.df) (mIds (cell rows) (mNums cols d.df) (ids rows) one), x ∈ ids rows := fun x hx => (List.mem_filter.mp ((ordered_perm _ _ _).mem_iff.mp hx)).1
  unfold mVal mValue
  generalize mOrdered (cell rows) (mKeys cols d.df) (mIds (cell rows) (mNums cols d.df) (ids rows) one) = order at ho
  have hsh : (∃ c, mCol cols d.df = some c) → ∀ a : Int, cellB (mShift (cell rows) order a ((mCol cols d.df).getD 0)) = true := fun ⟨c, e⟩ a => by
    rw [e]
    unfold mShift
    split
    · rename_i hb
      rw [Bool.and_eq_true, decide_eq_true_eq, decide_eq_true_eq] at hb
      refine rows_cell r (ho _ ?_) (hcol c e)
      rw [List.getD_eq_getElem?_getD, List.getElem?_eq_getElem (by omega)]
      exact List.getElem_mem _
    · rfl
  have hsome : (∃ c, d.col = some c) → ∃ c, mCol cols d.df = some c := fun ⟨c, e⟩ => ⟨ix cols c, by unfold mCol; rw [show d.df.col = d.col from rfl, e]; rfl⟩
  split
  · unfold mOfPlace
    cases hfn : d.fn <;> dsimp only <;> first | rfl | exact hsh (hsome (hlag (.inl hfn))) _ | exact hsh (hsome (hlag (.inr hfn))) _
  · refine ofValues_cell fun x hx => ?_
    unfold mGiven at hx
    cases hc : mCol cols d.df with
    | none =>
      rw [hc] at hx
      rw [(List.mem_replicate.mp hx).2]; rfl
    | some c =>
      rw [hc] at hx
      obtain ⟨o, h1, rfl⟩ := List.mem_map.mp hx
      exact rows_cell r (ho o (List.mem_filter.mp h1).1) (hcol c hc)
/-! ### rows that are drawn -/
structure Good (b : Bool) (rows : Rows) (B L : Nat) : Prop where
  row : ∀ r ∈ rows, Coll false (fun c : Str × Str => valS c.2) (colsOf b) r.2
  nd : (ids rows).Nodup
  bd : ∀ n ∈ ids rows, 1 ≤ n ∧ n ≤ B
  len : rows.length ≤ L
theorem val_kind {k : Str} {d : PyData} (h : valS k d) : cellB d = true := by
  rcases h with rfl | ⟨_, s, rfl, h⟩ | ⟨_, i, rfl⟩
  · rfl
  · exact h
  · rfl
theorem coll_cells : ∀ {cols : List (Str × Str)} {ds : List PyData}, Coll false (fun c : Str × Str => valS c.2) cols ds → ds.length = cols.length ∧ ∀ c ∈ ds, cellB c = true
  | _, _, .nil => ⟨rfl, fun c hc => by cases hc⟩
  | _, _, .take h t => by
    obtain ⟨h1, h2⟩ := coll_cells t
    refine ⟨by rw [List.length_cons, List.length_cons, h1], fun c hc => ?_⟩
    rcases List.mem_cons.mp hc with rfl | hc
    · exact val_kind h
    · exact h2 c hc
  | _, _, .skip z _ => by cases z
theorem Good.ok {b : Bool} {rows : Rows} {B L : Nat} (g : Good b rows B L) (hL : L ≤ 100) : RowsOk rows (colsOf b).length :=
  ⟨Nat.le_trans g.len hL, by cases b <;> decide, fun r hr => coll_cells (g.row r hr), g.nd⟩
end K27
/-! K27, what law needs of its rows. -/
namespace K27
open PySem L2 LamX
theorem coll_at : ∀ {cols : List (Str × Str)} {ds : List PyData}, Coll false (fun c : Str × Str => valS c.2) cols ds → ∀ (i : Nat) (c : Str × Str), cols[i]? = some c → ∃ d, ds[i]? = some d ∧ valS c.2 d
  | _, _, .nil, i, c, h => by simp at h
  | _, _, .take h t, i, c, hc => by
    cases i with
    | zero => cases hc; exact ⟨_, rfl, h⟩
    | succ i => exact coll_at t i c hc
  | _, _, .skip z _, _, _, _ => by cases z
theorem num_col {b : Bool} {n : Str} (h : has (colsOf b) n = true) (ht : txtN n = false) : ∃ c : Str × Str, (colsOf b)[ix (colsOf b) n]? = some c ∧ c.2 = "integer" := by
  rcases names_of h with rfl | rfl | rfl | ⟨rfl, rfl⟩
  · exact absurd ht (by decide +kernel)
  · cases b <;> exact ⟨("day", "integer"), by decide +kernel, rfl⟩
  · cases b <;> exact ⟨("paid", "integer"), by decide +kernel, rfl⟩
  · exact absurd ht (by decide +kernel)
theorem Good.num {b : Bool} {rows : Rows} {B L : Nat} (g : Good b rows B L) {n : Str} (h : has (colsOf b) n = true) (ht : txtN n = false) : ColNum rows (ix (colsOf b) n) := fun id hid => by
  obtain ⟨r, hr, _, h2, _⟩ := rows_find hid
  obtain ⟨c, hc, e⟩ := num_col h ht
  obtain ⟨d, hd, hv⟩ := coll_at (g.row r hr) _ c hc
  have : cell rows id (ix (colsOf b) n) = d := by
    unfold cell at_
    rw [h2, List.getD_eq_getElem?_getD, hd]
    rfl
  rw [this]
  rw [e] at hv
  rcases hv with rfl | ⟨z, _⟩ | ⟨_, i, rfl⟩
  · rfl
  · exact absurd z (by decide +kernel)
  · rfl
theorem rows_of : ∀ {xs : List Nat} {ys : List PyData} {b : Bool}, Coll false (rowY (colsOf b)) xs ys → xs.Pairwise (· < ·) → ∃ rows : Rows, ys = rows.map rowD ∧ rows.length = xs.length ∧ (∀ r ∈ rows, Coll false (fun c : Str × Str => valS c.2) (colsOf b) r.2) ∧ (ids rows).Pairwise (· < ·) ∧ ∀ n ∈ ids rows, ∃ x ∈ xs, n = 2 * (x : Int) + 1 ∨ n = 2 * (x : Int) + 2
  | _, _, _, .nil, _ => ⟨[], rfl, rfl, by simp, by simp [ids], by simp [ids]⟩
  | _, _, _, .take (x := x) (xs := xs) ⟨id, ds, e, h, hc⟩ t, hp => by
    rw [List.pairwise_cons] at hp
    obtain ⟨rows, e2, h1, h2, h3, h4⟩ := rows_of t hp.2
    subst e e2
    refine ⟨(id, ds) :: rows, rfl, by rw [List.length_cons, List.length_cons, h1], fun r hr => ?_, ?_, fun n hn => ?_⟩
    · rcases List.mem_cons.mp hr with rfl | hr
      · exact hc
      · exact h2 r hr
    · show (id :: ids rows).Pairwise (· < ·)
      rw [List.pairwise_cons]
      refine ⟨fun n hn => ?_, h3⟩
      obtain ⟨y, hy, q⟩ := h4 n hn
      have := hp.1 y hy
      omega
    · have hn : n ∈ id :: ids rows := hn
      rcases List.mem_cons.mp hn with rfl | hn
      · exact ⟨x, List.mem_cons_self, h⟩
      · obtain ⟨y, hy, q⟩ := h4 n hn
        exact ⟨y, List.mem_cons_of_mem _ hy, q⟩
  | _, _, _, .skip z _, _ => by cases z
def goodS (b : Bool) (B L : Nat) (d : PyData) : Prop := ∃ rows : Rows, d = .tuple (rows.map rowD) ∧ Good b rows B L
theorem rows_good {b : Bool} {d : PyData} (h : rowsS (colsOf b) 6 d) : goodS b 12 6 d := by
  obtain ⟨n, ys, hn, rfl, hc⟩ := h
  obtain ⟨rows, e, h1, h2, h3, h4⟩ := rows_of hc List.pairwise_lt_range
  subst e
  rw [List.length_range] at h1
  refine ⟨rows, rfl, h2, up_nodup h3, fun m hm => ?_, by omega⟩
  obtain ⟨x, hx, q⟩ := h4 m hm
  have := List.mem_range.mp hx
  omega
theorem some_sub : ∀ {rows : Rows} {ys : List PyData}, Coll true (fun (r : Int × List PyData) d => d = rowD r) rows ys → ∃ sub : Rows, ys = sub.map rowD ∧ sub.Sublist rows
  | _, _, .nil => ⟨[], rfl, List.Sublist.slnil⟩
  | _, _, .take e t => by
    obtain ⟨sub, e2, s⟩ := some_sub t
    subst e e2
    exact ⟨_ :: sub, rfl, s.cons₂ _⟩
  | _, _, .skip _ t => by
    obtain ⟨sub, e2, s⟩ := some_sub t
    exact ⟨sub, e2, s.cons _⟩
theorem Good.sub {b : Bool} {rows sub : Rows} {B L : Nat} (g : Good b rows B L) (s : sub.Sublist rows) : Good b sub B L :=
  ⟨fun r hr => g.row r (s.subset hr), g.nd.sublist (s.map _), fun n hn => g.bd n ((s.map _).subset hn), Nat.le_trans s.length_le g.len⟩
theorem Good.turn {b : Bool} {r : Int × List PyData} {rest : Rows} {B L : Nat} (g : Good b (r :: rest) B L) {ds : List PyData} (hd : Coll false (fun c : Str × Str => valS c.2) (colsOf b) ds) : Good b (rest ++ [(r.1, ds)]) B L := by
  refine ⟨fun x hx => ?_, ?_, fun n hn => ?_, ?_⟩
  · rcases List.mem_append.mp hx with hx | hx
    · exact g.row x (List.mem_cons_of_mem _ hx)
    · rw [List.mem_singleton.mp hx]; exact hd
  · have h := g.nd
    unfold ids at h ⊢
    rw [List.map_append]
    rw [List.map_cons, List.nodup_cons] at h
    rw [List.nodup_append]
    exact ⟨h.2, by simp, fun a ha c hc e => h.1 (by rw [List.map_cons, List.map_nil, List.mem_singleton] at hc; rw [← hc, ← e]; exact ha)⟩
  · refine g.bd n ?_
    unfold ids at hn ⊢
    rw [List.map_append, List.mem_append] at hn
    rw [List.map_cons]
    rcases hn with h | h
    · exact List.mem_cons_of_mem _ h
    · rw [List.map_cons, List.map_nil, List.mem_singleton] at h
      rw [h]
      exact List.mem_cons_self
  · have := g.len
    rw [List.length_append, List.length_singleton]
    rw [List.length_cons] at this
    exact this
theorem Good.more {b : Bool} {rows : Rows} (g : Good b rows 12 6) {ds : List PyData} (hd : Coll false (fun c : Str × Str => valS c.2) (colsOf b) ds) : Good b (rows ++ [(60, ds)]) 60 7 := by
  refine ⟨fun x hx => ?_, ?_, fun n hn => ?_, ?_⟩
  · rcases List.mem_append.mp hx with hx | hx
    · exact g.row x hx
    · rw [List.mem_singleton.mp hx]; exact hd
  · have h := g.nd
    have hb := g.bd
    unfold ids at h hb ⊢
    rw [List.map_append, List.nodup_append]
    refine ⟨h, by simp, fun a ha c hc e => ?_⟩
    rw [List.map_cons, List.map_nil, List.mem_singleton] at hc
    have := hb a ha
    omega
  · unfold ids at hn
    rw [List.map_append, List.mem_append] at hn
    rcases hn with h | h
    · have := g.bd n h
      omega
    · rw [List.map_cons, List.map_nil, List.mem_singleton] at h
      omega
  · have := g.len
    rw [List.length_append, List.length_singleton]
    omega
theorem Good.wide {b : Bool} {rows : Rows} (g : Good b rows 12 6) : Good b rows 60 7 := ⟨g.row, g.nd, fun n hn => by have := g.bd n hn; omega, by have := g.len; omega⟩
section
variable {G : Gc} {k : Nat} {X : Cx} {L : List Slot} {a b c e : Expr} {pos : Pos} {S S1 S2 : PyData → Prop}
theorem rd_catZ {K : PySem.W.Frag} {ds es : List PyData} (hl : ds.length + es.length ≤ 100000) (he : es ≠ []) : RD2 G (rCatZ K) (isD (.tuple ds)) (isD (.tuple es)) (isD (.tuple (ds ++ es))) := fun x y F H Q s t p1 p2 q => by
  obtain ⟨a1, xs, rfl, h1, d1⟩ := da_tup p1
  obtain ⟨b1, ys, rfl, h2, d2⟩ := da_tup p2
  have l1 := das_length d1
  have l2 := das_length d2
  refine ⟨a1, b1, xs, ys, rfl, rfl, h1.sq s, h2.sq s, fun z => ?_, ?_, fun z => ?_, fun z p o hp ho => ?_⟩
  · subst z
    exact he (List.length_eq_zero_iff.mp l2.symm)
  · rw [l1, l2]; exact Nat.le_trans hl (by decide)
  · subst z
    have : ds = [] := List.length_eq_zero_iff.mp l1.symm
    subst this
    exact q _ F H (Step.refl t s) p2
  · obtain ⟨st, dd⟩ := Step.newTup t s hp ho (das_append d1 d2)
    exact q _ _ _ st dd
theorem je_catTX (ha : JE G k X L a (isX S1)) (hb : JE G k X L b (isX S2)) (h : ∀ d e, S1 d → S2 e → ∃ ds es, d = .tuple ds ∧ e = .tuple es ∧ ds.length + es.length ≤ 100000 ∧ es ≠ [] ∧ S (.tuple (ds ++ es))) : JE G k X L (.BinOp a .Add b pos) (isX S) := je_op (fun _ => op_catZ) (rd_X fun d e hd he => by
  obtain ⟨ds, es, rfl, rfl, hl, hn, hs⟩ := h d e hd he
  exact RD2.x (rd_catZ hl hn) hs) ha hb
end
/-! ### the values by their rows -/
theorem vals_at {cols : List (Str × Str)} {d : Dfn} {rows : Rows} {n : Int} (h : n ∈ ids rows) : valD (valsK cols d rows) (.inl n) = some (mVal cols d rows n) := by
  unfold valD valsK
  rw [List.find?_map]
  cases q : (ids rows).find? ((fun kd : Key × PyData => decide (kd.1 = (.inl n : Key))) ∘ fun one => (.inl one, mVal cols d rows one)) with
  | none =>
    have := List.find?_eq_none.mp q n h
    simp at this
  | some m =>
    have h1 := List.find?_some q
    simp only [Function.comp_apply, decide_eq_true_eq] at h1
    have : m = n := by injection h1
    subst this
    rfl
end K27
set_option maxHeartbeats 2000000
namespace K27
open PySem L2 LamX
open PySem.W (AllAlike Sortable dataLe)
local macro_rules | `(tactic| walk_at "norm") => `(tactic| refine JSs.norm (by dsimp only [setsL, wipeL, initL, List.set, List.map, List.append, List.replicate, List.length, HAppend.hAppend, Append.append]) ?_)
section
variable {G : Gc}
abbrev spLaw (G : Gc) : Sp := SpF G.T (fun _ : List Int => True) (fun ns => [isScr G.K ns]) (fun _ => isB true)
theorem sc42 : FnScope ["_law_script", "_law_box", "_law_turn", "_law_columns_here", "_law_definition_here", "_law_rows_here", "_law_others", "_law_row", "_law_due_here", "_law_reached", "_law_ids", "_law_ahead_here", "_law_behind", "_law_one"] ["_law_script"] (defScope (top 42)) := ⟨rfl, rfl, rfl, by decide +kernel, rfl, by decide +kernel, by decide +kernel⟩
theorem ok42 (B : Bt G) (hDig : Fn G "_law_digits" 2 (spDigits G)) (hDraw : Fn G "_law_draw" 1 (spDraw G)) (hCol : Fn G "_law_columns" 2 (spColumns G)) (hDef : Fn G "_law_definition" 4 (spDefinition G)) (hCells : Fn G "_law_cells" 3 (spCells G)) (hRows : Fn G "_law_rows" 4 (spRows G)) (hDue : Fn G "_law_due" 2 (spDue G)) (hSame : FnGd G "_law_same" 1 (spSame G)) (hLA : Fn G "looks_at" 3 (spLooks G)) (hLL : Fn G "_law_looks" 1 (spLooks G)) (hT : Fn G "touched" 4 (spTouched G)) (hC : Fn G "_law_computed" 7 (spComputed G))
    {f : Addr} {fd : FuncData} (F : Fun G.K "law" "law" (top 42) f fd) : FnG G.P G.w G.K G.mg G.base 8 f fd ["_law_script"] (spLaw G) := by
  refine fn_okG (k := 7) F sc42 (fun _ => rfl) ?_
  rintro ns _ cdv A hA outer s H E
  refine js_cons (js_asg 1 (P := isBox (mDigits ns 50)) (je_newBox (n := 0) (by decide) (ja_cons (je_call hDig ns trivial (ja_cons (je_var 0) (ja_cons je_int (ja_cons je_int ja_nil)))) (ja_cons je_int ja_nil)))) ?_
  walk_at "norm"
  generalize mDigits ns 50 = dg
  let Inv : Nat → List Slot := fun _ => [.p (isScr G.K ns), .p (isBox dg), .no, .no, .no, .no, .no, .no, .no, .no, .no, .no, .no, .no]
  refine js_cons (L1 := Inv 2) (js_forR1 (n := 2) (is := [2]) (Ps := fun i : Nat => [isI i]) Inv (JE.is je_int rfl) (by decide) (Ent.refl _) ⟨fun x hx => jg_name 2, fun i n hn => ?_⟩ B.range) (js_rt je_bool)
  refine ⟨Inv (i + 1), ?_, Ent.refl _⟩
  show JSs _ _ _ [.p (isScr G.K ns), .p (isBox dg), .p (isI n), .no, .no, .no, .no, .no, .no, .no, .no, .no, .no, .no] _ _ _
  refine js_cons (js_asg 3 (P := isX colsS) (je_call hCol dg trivial (ja_cons (je_var 1) ja_nil))) ?_
  walk_at "norm"
  refine js_ex 3 (S := colsS) fun d ⟨b, hd⟩ => ?_
  subst hd
  walk_at "norm"
  refine js_cons (js_asg 4 (P := isX (dfnS b)) (je_call hDef (dg, b) trivial (ja_cons (je_var 1) (ja_cons je_str (ja_cons (je_var 3) ja_nil))))) ?_
  walk_at "norm"
  refine js_ex 4 (S := dfnS b) fun d ⟨df, hd, hdf, hsum, hdist⟩ => ?_
  subst hd
  walk_at "norm"
  have hk : KindOk (colsOf b) := ⟨by cases b <;> decide, by cases b <;> (intro c hc; simp [colsOf, base3, tagL] at hc; rcases hc with rfl | rfl | rfl | rfl <;> simp)⟩
  refine js_cons (js_asg 5 (P := isX (rowsS (colsOf b) 6)) (je_call hRows (dg, colsOf b, 6) ⟨hk, (by show (6 : Nat) ≤ 100; omega)⟩ (ja_cons (je_var 1) (ja_cons (je_var 3) (ja_cons (JE.is je_int rfl) ja_nil))))) ?_
  walk_at "norm"
  refine js_ex 5 (S := rowsS (colsOf b) 6) fun d hd => ?_
  obtain ⟨rows, rfl, g⟩ := rows_good hd
  walk_at "norm"
  refine js_cons (js_asg 6 (P := isX (goodS b 12 6)) (je_tupleLX (S1 := fun d => ∃ ys, d = .list ys ∧ Coll true (fun (r : Int × List PyData) d => d = rowD r) rows ys) B.tuple (je_lcTX (xs := rows) (P := fun r => isD (rowD r)) (own := [("_law_row", 7)]) (is := [7]) (Ps := fun r => [isD (rowD r)]) (je_seqT (d := rowD) (je_var 5) rfl)
    (blkX1 (by decide) (fun x hx s H C cl fp => jg_name 7) (fun x hx s H C cl fp => jb_gt (S1 := belowS 5) (S2 := fun d => d = .int 0) (je_call hDraw (dg, 5) (Nat.succ_pos _) (ja_cons (je_var 1) (ja_cons je_int ja_nil))) (JE.x je_int rfl) (fun d e hd he => by obtain ⟨m, _, rfl⟩ := hd; subst he; exact ⟨_, _, rfl, rfl⟩)) fun x hx s H C cl fp => JE.x (je_var 7) rfl) (by have := g.len; omega)) ?_)) ?_
  · rintro d ⟨ys, rfl, hc⟩
    obtain ⟨sub, rfl, hs⟩ := some_sub hc
    exact ⟨_, rfl, sub, rfl, g.sub hs⟩
  walk_at "norm"
  refine js_ex 6 (S := goodS b 12 6) fun d ⟨o1, hd, g1⟩ => ?_
  subst hd
  walk_at "norm"
  have hcl := hk
  let L6 : SP → List Slot := fun P => [.p (isScr G.K ns), .p (isBox dg), .p (isI n), .p (isD (.tuple ((colsOf b).map colD))), .p (isD df.df.D), .p (isD (.tuple (rows.map rowD))), .p P, .no, .no, .no, .no, .no, .no, .no]
  refine js_cons (L1 := L6 (isX (goodS b 12 6))) ?_ ?_
  · cases o1 with
    | nil =>
      refine js_if (t := false) (JT.is (d' := false) (jw_pt (jw_and (d := false) (JT.is (d' := false) (jt_gt (je_lenT B.len (je_var 6)) je_int) (by decide)) fun h => (by cases h))) (by rfl)) no_tf fun _ => JSs.out js_nil (ent_weak 6 rfl fun v F p => ⟨_, ⟨[], rfl, g1⟩, p⟩)
    | cons r0 rest =>
      refine js_ifB (jb_and (JT.is (d' := true) (jt_gt (je_lenT B.len (je_var 6)) je_int) (by simp)) (jb_eq (S1 := belowS 2) (S2 := fun d => d = .int 0) (je_call hDraw (dg, 2) (Nat.succ_pos _) (ja_cons (je_var 1) (ja_cons je_int ja_nil))) (JE.x je_int rfl) (fun d e hd he => ⟨below_int hd, by rw [he]; exact shaped_int _⟩))) ?_ (JSs.out js_nil (ent_weak 6 rfl fun v F p => ⟨_, ⟨r0 :: rest, rfl, g1⟩, p⟩))
      refine js_cons (js_asg 6 (P := isX (goodS b 12 6)) (je_catTX (S1 := fun d => d = .tuple (rest.map rowD)) (S2 := fun d => ∃ ds, d = .tuple [rowD (r0.1, ds)] ∧ Coll false (fun c : Str × Str => valS c.2) (colsOf b) ds) (JE.x (je_tailT (ds := (r0 :: rest).map rowD) (List.cons_ne_nil _ _) (je_var 6) je_int) rfl)
        ((je_tupX (Ss := [fun d => ∃ ds, d = rowD (r0.1, ds) ∧ Coll false (fun c : Str × Str => valS c.2) (colsOf b) ds]) (ja_cons ((je_tupX (Ss := [fun d => d = .int r0.1, cellsS (colsOf b)]) (ja_cons (JE.x (je_ixT (d := .int r0.1) (atI_nat (j := 0) rfl) (je_ixT (d := rowD r0) (atI_nat (j := 0) rfl) (je_var 6) je_int) je_int) rfl) (ja_cons (je_call hCells (dg, colsOf b) hk (ja_cons (je_var 1) (ja_cons (je_var 3) ja_nil))) ja_nil))).xx ?_) ja_nil)).xx ?_) ?_)) js_nil
      · rintro d ⟨ds, rfl, ha⟩
        obtain ⟨_, _, rfl, rfl, ds, rfl, hc⟩ := all2_2 ha
        exact ⟨ds, rfl, hc⟩
      · rintro d ⟨ds, rfl, ha⟩
        cases ha with
        | cons h1 t =>
          cases t
          obtain ⟨ds, rfl, hc⟩ := h1
          exact ⟨ds, rfl, hc⟩
      · rintro d e rfl ⟨ds, rfl, hc⟩
        refine ⟨_, _, rfl, rfl, ?_, List.cons_ne_nil _ _, rest ++ [(r0.1, ds)], by rw [List.map_append]; rfl, g1.turn hc⟩
        have := g1.len
        rw [List.length_cons] at this
        rw [List.length_map]
        simp only [List.length_cons, List.length_nil]
        omega
  refine js_ex 6 (S := goodS b 12 6) fun d ⟨o2, hd, g2⟩ => ?_
  subst hd
  show JSs _ _ _ [.p (isScr G.K ns), .p (isBox dg), .p (isI n), .p (isD (.tuple ((colsOf b).map colD))), .p (isD df.df.D), .p (isD (.tuple (rows.map rowD))), .p (isD (.tuple (o2.map rowD))), .no, .no, .no, .no, .no, .no, .no] _ _ _
  refine js_cons (L1 := L6 (isX (goodS b 60 7))) ?_ ?_
  · refine js_ifB (jb_eq (S1 := belowS 3) (S2 := fun d => d = .int 0) (je_call hDraw (dg, 3) (Nat.succ_pos _) (ja_cons (je_var 1) (ja_cons je_int ja_nil))) (JE.x je_int rfl) (fun d e hd he => ⟨below_int hd, by rw [he]; exact shaped_int _⟩)) ?_ (JSs.out js_nil (ent_weak 6 rfl fun v F p => ⟨_, ⟨o2, rfl, g2.wide⟩, p⟩))
    refine js_cons (js_asg 6 (P := isX (goodS b 60 7)) (je_catTX (S1 := fun d => d = .tuple (o2.map rowD)) (S2 := fun d => ∃ ds, d = .tuple [rowD (60, ds)] ∧ Coll false (fun c : Str × Str => valS c.2) (colsOf b) ds) (JE.x (je_var 6) rfl)
      ((je_tupX (Ss := [fun d => ∃ ds, d = rowD (60, ds) ∧ Coll false (fun c : Str × Str => valS c.2) (colsOf b) ds]) (ja_cons ((je_tupX (Ss := [fun d => d = .int 60, cellsS (colsOf b)]) (ja_cons (JE.x je_int rfl) (ja_cons (je_call hCells (dg, colsOf b) hk (ja_cons (je_var 1) (ja_cons (je_var 3) ja_nil))) ja_nil))).xx ?_) ja_nil)).xx ?_) ?_)) js_nil
    · rintro d ⟨ds, rfl, ha⟩
      obtain ⟨_, _, rfl, rfl, ds, rfl, hc⟩ := all2_2 ha
      exact ⟨ds, rfl, hc⟩
    · rintro d ⟨ds, rfl, ha⟩
      cases ha with
      | cons h1 t =>
        cases t
        obtain ⟨ds, rfl, hc⟩ := h1
        exact ⟨ds, rfl, hc⟩
    · rintro d e rfl ⟨ds, rfl, hc⟩
      refine ⟨_, _, rfl, rfl, ?_, List.cons_ne_nil _ _, o2 ++ [(60, ds)], by rw [List.map_append]; rfl, g2.more hc⟩
      have := g2.len
      rw [List.length_map]
      simp only [List.length_cons, List.length_nil]
      omega
  refine js_ex 6 (S := goodS b 60 7) fun d ⟨others, hd, go⟩ => ?_
  subst hd
  show JSs _ _ _ [.p (isScr G.K ns), .p (isBox dg), .p (isI n), .p (isD (.tuple ((colsOf b).map colD))), .p (isD df.df.D), .p (isD (.tuple (rows.map rowD))), .p (isD (.tuple (others.map rowD))), .no, .no, .no, .no, .no, .no, .no] _ _ _
  have r := g.ok (by decide)
  have o := go.ok (by decide)
  have hf := hdf.f
  have hlag : df.fn = .lag ∨ df.fn = .lead → ∃ c, df.col = some c := fun h => (hdf.lag h).2
  have hit : ITch.Ok ⟨colsOf b, df.df, rows, others⟩ := ⟨hf, r, o, Nat.le_trans g.len (by decide), Nat.le_trans go.len (by decide)⟩
  refine js_cons (js_asg 8 (P := isD (partsD (mDue (colsOf b) df.df rows others))) (je_call hDue ⟨colsOf b, df.df, rows, others⟩ hit (ja_cons (je_var 4) (ja_cons (je_var 3) (ja_cons (je_dictT (kvs := rowsK rows) (rowsK_nodup r.nd) B.dict ((je_var 5).is (by rw [prD_rows]))) (ja_cons (je_dictT (kvs := rowsK others) (rowsK_nodup o.nd) B.dict ((je_var 6).is (by rw [prD_rows]))) ja_nil)))))) ?_
  walk_at "norm"
  have hds := due_small (cols := colsOf b) (d := df.df) (rows := rows) (others := others) (by have := go.len; omega)
  have hdok : ISame.Ok ⟨partsD (mDue (colsOf b) df.df rows others)⟩ := same_parts (fun gr hg => ⟨(hds.2 gr hg).1, fun m hm => by have := go.bd m ((hds.2 gr hg).2 m hm); omega⟩) hds.1
  have hlk := looks_range hf
  have hwd : (colsOf b).length ≤ 100 := hk.1
  have hlok : ISame.Ok ⟨.tuple ((mLooks (colsOf b) df.df).map .int)⟩ := same_ints (fun m hm => by have := hlk m hm; omega) (by
    refine Nat.le_trans (sset_len _) ?_
    have h3 := hf.p3
    have h4 := hf.o3
    simp only [mFound, mNums, mKeys, List.length_append, List.length_map]
    have : (oL (mCol (colsOf b) df.df)).length ≤ 1 := by cases mCol (colsOf b) df.df <;> simp [oL]
    omega)
  refine js_cons (js_if (JT.is (d' := false) (jw_pt (jw_or (jt_not (jt_val (je_callG hA hSame ⟨.tuple ((mLooks (colsOf b) df.df).map .int)⟩ hlok (ja_cons (je_call hLA (colsOf b, df.df) hf (ja_cons (je_var 4) (ja_cons (je_var 3) ja_nil))) (ja_cons (je_call hLL (colsOf b, df.df) hf (ja_cons (je_var 4) (ja_cons (je_var 3) ja_nil))) ja_nil))))) fun _ => jw_or1 (jt_not (jt_val (je_callG hA hSame ⟨partsD (mDue (colsOf b) df.df rows others)⟩ hdok
    (ja_cons (JE.is (je_call hT ⟨colsOf b, df.df, rows, others⟩ hit (ja_cons (je_var 4) (ja_cons (je_var 3) (ja_cons (je_var 5) (ja_cons (je_var 6) ja_nil))))) (by rw [touched_due hf r o])) (ja_cons (je_var 8) ja_nil))))))) rfl) no_tf fun _ => js_nil) ?_
  refine js_cons (js_asg 9 (P := isD (.list [])) (je_lst (ds := []) ja_nil)) ?_
  walk_at "norm"
  let due := mDue (colsOf b) df.df rows others
  have hflen : ∀ m, ((due.take m).flatten).length ≤ 100 * m := fun m => by
    induction m with
    | zero => simp
    | succ m ih =>
      rw [List.take_add_one, List.flatten_append, List.length_append]
      cases q : due[m]? with
      | none => rw [Option.toList_none, List.flatten_nil, List.length_nil]; omega
      | some gr =>
        have := (hds.2 gr (List.mem_of_getElem? q)).1
        rw [Option.toList_some, List.flatten_cons, List.flatten_nil, List.append_nil]
        omega
  let Inv2 : Nat → List Slot := fun m => [.p (isScr G.K ns), .p (isBox dg), .p (isI n), .p (isD (.tuple ((colsOf b).map colD))), .p (isD df.df.D), .p (isD (.tuple (rows.map rowD))), .p (isD (.tuple (others.map rowD))), .no, .p (isD (partsD due)), .p (isD (.list ((due.take m).flatten.map .int))), .no, .no, .no, .no]
  refine js_cons (L1 := Inv2 due.length) (js_forL (xs := due) (P := fun gr => isD (.tuple (gr.map .int))) (is := [10]) (Ps := fun gr => [isD (.tuple (gr.map .int))]) Inv2 (je_seqL (d := fun gr : List Int => .tuple (gr.map .int)) (je_var 8) rfl) (Ent.refl _) ⟨fun x hx => jg_name 10, fun m gr hg => ?_⟩) ?_
  · refine ⟨Inv2 (m + 1), ?_, Ent.refl _⟩
    show JSs _ _ _ [_, _, _, _, _, _, _, _, _, .p (isD (.list ((due.take m).flatten.map .int))), .p (isD (.tuple (gr.map .int))), _, _, _] _ _ _
    have hgl := (hds.2 gr (List.mem_of_getElem? hg)).1
    have hml : m < due.length := (List.getElem?_eq_some_iff.mp hg).1
    have h2 := hds.1
    have h2 : due.length ≤ 100 := h2
    have htake : (due.take (m + 1)).flatten.map PyData.int = (due.take m).flatten.map .int ++ gr.map .int := by
      rw [List.take_add_one, hg, List.flatten_append, List.map_append]
      simp
    refine JSs.out (js_cons (js_asg 9 (P := isD (.list ((due.take (m + 1)).flatten.map .int))) (JE.is (je_cat (ds := (due.take m).flatten.map PyData.int) (es := gr.map PyData.int) (by rw [List.length_map, List.length_map]; have := hflen m; omega) (je_var 9) (je_listT B.list (je_var 10))) (by rw [htake]))) js_nil) ?_
    exact ent_drops [10] _
  · show JSs _ _ _ [_, _, _, _, _, _, _, _, _, .p (isD (.list ((due.take due.length).flatten.map .int))), _, _, _, _] _ _ _
    rw [List.take_length]
    have hcr : ICmp.Ok ⟨colsOf b, df, rows⟩ := ⟨hdf, r, fun h c hc => g.num (hf.f.c c hc) (hsum h c hc), fun h1 h2 x hx => g.num (hf.f.o x hx) (hdist h1 h2 x hx)⟩
    have hco : ICmp.Ok ⟨colsOf b, df, others⟩ := ⟨hdf, o, fun h c hc => go.num (hf.f.c c hc) (hsum h c hc), fun h1 h2 x hx => go.num (hf.f.o x hx) (hdist h1 h2 x hx)⟩
    refine js_cons (js_asg 11 (P := isDic (valsK (colsOf b) df rows)) (je_call hC ⟨colsOf b, df, rows⟩ hcr (ja_cons (je_var 4) (ja_cons (je_var 3) (ja_cons (je_dictT (kvs := rowsK rows) (rowsK_nodup r.nd) B.dict ((je_var 5).is (by rw [prD_rows]))) ja_nil))))) ?_
    walk_at "norm"
    refine js_cons (js_asg 12 (P := isDic (valsK (colsOf b) df others)) (je_call hC ⟨colsOf b, df, others⟩ hco (ja_cons (je_var 4) (ja_cons (je_var 3) (ja_cons (je_dictT (kvs := rowsK others) (rowsK_nodup o.nd) B.dict ((je_var 6).is (by rw [prD_rows]))) ja_nil))))) ?_
    walk_at "norm"
    have hkeys : (valsK (colsOf b) df others).map (·.1) = (ids others).map Sum.inl := by unfold valsK; rw [List.map_map]; rfl
    have hshf : SeqAt.shaped (.list (due.flatten.map .int)) = true := list_shaped fun z hz => by
      obtain ⟨m, _, rfl⟩ := List.mem_map.mp hz
      exact ⟨by simp [PyData.canLay0], by simp [PyData.depth]⟩
    refine JSs.out (js_cons (js_if (JT.is (d' := false) (jt_gt (je_lenL (ds := []) B.len (JE.is (je_lcK (own := [("_law_one", 13)]) (is := [13]) 12 (kvs := valsK (colsOf b) df others) (Ps' := fun key => [isD (keyD key)]) (y' := keyD) (f' := fun _ => false) rfl
      (blk1 (by decide) (fun x hx s H C cl fp => jg_name 13) (fun x hx s H C cl fp => ?_) fun x hx _ s H C cl fp => je_var 13) (by unfold valsK; rw [List.length_map]; unfold ids; rw [List.length_map]; have := go.len; omega)) (by simp))) je_int) (by decide)) no_tf fun _ => js_nil) js_nil) ?_
    · rw [hkeys] at hx
      obtain ⟨m, hm, rfl⟩ := List.mem_map.mp hx
      by_cases hin : m ∈ due.flatten
      · exact JT.is (jw_pt (jw_and (d := false) (JT.is (d' := false) (jt_nin (d := .int m) (shaped_int _) hshf (je_var 13) (je_var 9)) (by rw [mem_any hin]; rfl)) fun h => (by cases h))) (d' := false) (d := false && false) rfl
      · obtain ⟨hr, hv⟩ := unreached hf hlag r o hm fun gr hg hmg => hin (List.mem_flatten.mpr ⟨gr, hg, hmg⟩)
        have hc := val_cell hf hlag r (one := m)
        have hno : ((due.flatten.map PyData.int).any fun z => PyData.eqv z (.int m)) = false := by
          rw [List.any_eq_false]
          intro z hz
          obtain ⟨q, hq, rfl⟩ := List.mem_map.mp hz
          rw [eqv_int, decide_eq_true_eq]
          exact fun e => hin (e ▸ hq)
        exact JT.is (d' := false) (jw_pt (jw_and (JT.is (d' := true) (jt_nin (d := .int m) (shaped_int _) hshf (je_var 13) (je_var 9)) (by rw [hno]; rfl)) fun _ => jw_and1 (JT.is (d' := false) (jt_ne (d := mVal (colsOf b) df rows m) (e := mVal (colsOf b) df rows m) (cell_shaped hc) (cell_shaped hc) (je_dget (key := .inl m) rfl (by rw [vals_at hm, hv]) (je_var 12) (je_var 13)) (je_dget (key := .inl m) rfl (vals_at hr) (je_var 11) (je_var 13))) (by rw [(cell_eqv hc hc).mpr rfl]; rfl)))) rfl
    · exact ent_drops [2, 3, 4, 5, 6, 8, 9, 11, 12] _
end
end K27
/-! K27: the end, where the law is a def that is called while no repr is under way. -/
namespace K27
open PySem PySem.Spec PyProof.Rows L2 LamX
/-- what is tracked as law begins: the tables, and the script where the text does not hold it -/
def startH (K : PySem.W.Frag) (a : Addr) (vs : List Value) (ns : List Int) (ts : List Addr) : Hp := fun b => if b ∈ ts then some (.tbl #[]) else if b = a ∧ K.lookup a = none then some (.frz { cls := .type "list", data := .seq vs.toArray } (.lst (ns.map V.int))) else none
theorem start_tab {K : PySem.W.Frag} {a : Addr} {vs : List Value} {ns : List Int} {ts : List Addr} {b : Addr} (h : b ∈ ts) : startH K a vs ns ts b = some (.tbl #[]) := if_pos h
theorem start_cases {K : PySem.W.Frag} {a : Addr} {vs : List Value} {ns : List Int} {ts : List Addr} (b : Addr) :
    (b ∈ ts ∧ startH K a vs ns ts b = some (.tbl #[])) ∨ (b ∉ ts ∧ b = a ∧ K.lookup a = none ∧ startH K a vs ns ts b = some (.frz { cls := .type "list", data := .seq vs.toArray } (.lst (ns.map V.int)))) ∨ startH K a vs ns ts b = none := by
  by_cases h1 : b ∈ ts
  · exact .inl ⟨h1, if_pos h1⟩
  · by_cases h2 : b = a ∧ K.lookup a = none
    · exact .inr (.inl ⟨h1, h2.1, h2.2, (if_neg h1).trans (if_pos h2)⟩)
    · exact .inr (.inr ((if_neg h1).trans (if_neg h2)))
theorem law_callG {P : Program} {w : World} {K : PySem.W.Frag} {mg mb : Str → Option Value} {k : Nat} {fa a : Addr} {cs : List (Addr × Addr)} {fd : FuncData} {x : Str} {T : List (Addr × Str)} {s₁ : Shared} {vs : List Value} {ns : List Int}
    (KX : K.In s₁.heap) (hns : s₁.heap.Ns mainGlobals mg) (hb : s₁.heap.Ns builtinsNs mb) (hbb : ∀ x : Str, x ≠ "__name__" → mb x = bootBuiltins x) (hlim : s₁.heap.NoLimit) (hg : s₁.gens = #[])
    (hT : ∀ p ∈ cs, s₁.heap.get? p.2 = some { cls := .none, data := .fields #[] }) (nT : ∀ p ∈ cs, K.lookup p.2 = none) (C : ∀ p ∈ cs, PySem.W.CodeHd s₁.heap p.1 p.2)
    (hbm : ∃ (bm : Addr) (ob : Obj), mg "__builtins__" = some (.ref bm) ∧ bm ≠ builtinsNs ∧ s₁.heap.get? bm = some ob ∧ ob.cls = .type "module" ∧ ob.dict = some builtinsNs ∧ ob.data = .plain)
    (ha : s₁.heap.get? a = some { cls := .type "list", data := .seq vs.toArray }) (hi : IntsAre vs ns) (hl : ns.length ≤ sizeLine) (hr : Room k callerA) (hTm : ∀ p ∈ T, ∃ q ∈ cs, q.2 = p.1)
    (F : ∀ base : Heap, K.In base → base.Ns mainGlobals mg → (∀ p ∈ cs, TabB base mg p.1 p.2) → FnG P w K mg base k fa fd [x] (spLaw ⟨K, mg, P, w, base, T⟩)) (hbind : ∀ (s : Shared) (u : Value), BindsTo s fd ⟨[u], []⟩ [(x, u)]) :
    codeAny (model P w) callerA (.call (.ref fa) ⟨[.ref a], []⟩) (fun r s' => r = .ok (.ret (.bool true)) ∧ OldK s₁.heap s'.heap ∧ s'.os = s₁.os ∧ AllBare s'.gens) s₁ := by
  have rv := vals_ints hi
  have lenV := hi.length
  let ts : List Addr := cs.map (·.2)
  let H := startH K a vs ns ts
  have inT : ∀ p ∈ cs, p.2 ∈ ts := fun p hp => List.mem_map.mpr ⟨p, hp, rfl⟩
  have isT : ∀ b ∈ ts, s₁.heap.get? b = some { cls := .none, data := .fields #[] } := fun b h => by
    obtain ⟨p, hp, e⟩ := List.mem_map.mp h
    rw [← e]
    exact hT p hp
  have aT : a ∉ ts := fun z => by
    have q := isT a z
    rw [ha] at q
    injection q with q
    injection q with _ _ q
    cases q
  have hH : ∀ p ∈ cs, H p.2 = some (.tbl #[]) := fun p hp => start_tab (inT p hp)
  -- what is tracked: tables, and perhaps the script
  have hin : ∀ b, H b ≠ none → b ∈ ts ∨ (b = a ∧ K.lookup a = none) := fun b h => by
    rcases start_cases (K := K) (a := a) (vs := vs) (ns := ns) (ts := ts) b with ⟨h1, _⟩ | ⟨_, h1, h2, _⟩ | h1
    · exact .inl h1
    · exact .inr ⟨h1, h2⟩
    · exact absurd h1 h
  have hok : HOk P w H s₁.heap := fun b u e => by
    rcases start_cases (K := K) (a := a) (vs := vs) (ns := ns) (ts := ts) b with ⟨h1, h2⟩ | ⟨_, h1, _, h2⟩ | h1
    · cases h2.symm.trans e
      exact isT b h1
    · cases h2.symm.trans e
      rw [h1]
      exact ⟨ha, by rw [List.length_map]; exact hl, vs, _, rv, ha⟩
    · cases h1.symm.trans e
  have hS : SqL K H a (ns.map V.int) := by
    cases hk : K.lookup a with
    | some o =>
      have e := KX a o hk
      rw [ha] at e
      cases e
      exact .inr ⟨_, vs.toArray, _, hk, rfl, rfl, rfl, by rw [List.size_toArray, lenV]; exact hl, by simpa using rv⟩
    | none => exact .inl (.inr ⟨{ cls := .type "list", data := .seq vs.toArray }, (if_neg aT).trans (if_pos ⟨rfl, hk⟩)⟩)
  have plainB : ∀ {b : Addr} {o : Obj}, s₁.heap.get? b = some o → (∀ us n, o.data ≠ .seq us n) → o.data ≠ .fields #[] → H b = none := fun {b o} e h1 h2 => by
    cases q : H b with
    | none => rfl
    | some u =>
      rcases hin b (by rw [q]; exact fun z => nomatch z) with h | ⟨h, _⟩
      · rw [isT b h] at e
        cases e
        exact absurd rfl h2
      · rw [h, ha] at e
        cases e
        exact absurd rfl (h1 _ _)
  have nsB : ∀ {b : Addr} {m : Str → Option Value}, s₁.heap.Ns b m → (hidT s₁.heap H).Ns b m := fun {b m} ⟨o, es, ep, e, d, r⟩ =>
    ⟨o, es, ep, hidT_get e (plainB e (fun us n z => by rw [d] at z; cases z) fun z => by rw [d] at z; cases z), d, r⟩
  have kB : K.In (hidT s₁.heap H) := fun b o e => hidT_get (KX b o e) (by
    cases q : H b with
    | none => rfl
    | some u =>
      rcases hin b (by rw [q]; exact fun z => nomatch z) with h | ⟨h, h2⟩
      · obtain ⟨p, hp, ep⟩ := List.mem_map.mp h
        rw [← ep, nT p hp] at e
        cases e
      · rw [h, h2] at e
        cases e)
  have hM : L2.Mod K mg (hidT s₁.heap H) := ⟨kB, nsB hns, ⟨mb, nsB hb, hbb⟩, let ⟨mc, h1, h2⟩ := hlim; ⟨mc, nsB h1, h2⟩⟩
  have TB : ∀ p ∈ cs, TabB (hidT s₁.heap H) mg p.1 p.2 := fun p hp => by
    have hTp := hT p hp
    refine ⟨?_, ?_, fun z => ?_⟩
    · obtain ⟨o, us, file, tf, flags, tg, inF, text, tt, e1, r1, r2, r3, r4, r5, r6, r7, r8, hne⟩ := C p hp
      exact ⟨o, us, file, tf, flags, tg, inF, text, tt, hidT_get e1 (plainB e1 (fun vs n z => by rw [r2] at z; cases z) fun z => by rw [r2] at z; cases z; simp at r3), r1, r2, r3, r4, r5, r6, r7, r8, hne⟩
    · obtain ⟨bm, ob, b1, b2, b3, b4, b5, b6⟩ := hbm
      refine ⟨bm, ob, b1, b2, fun q => ?_, fun q => ?_, hidT_get b3 (plainB b3 (fun vs n z => by rw [b6] at z; cases z) fun z => by rw [b6] at z; cases z), b4, b5, b6⟩
      · obtain ⟨o, es, ep, e, hd, _⟩ := hns
        rw [q, e] at b3
        cases b3
        rw [hd] at b6
        cases b6
      · rw [q, hTp] at b3
        cases b3
        cases b6
    · obtain ⟨o, es, ep, e, hd, _⟩ := hns
      rw [z, hTp] at e
      cases e
      cases hd
  have e0 : Env0 P w K mg (hidT s₁.heap H) callerA [] s₁ H := ⟨rfl, hM, fun b o e => of_hidT e, Nat.le_of_eq (hidT_size _ _), trivial, fun b hb => absurd (show b ∈ ([] : List Addr) from hb) (by simp), hok, .of_eq hg⟩
  have hsp : spLaw ⟨K, mg, P, w, hidT s₁.heap H, T⟩ [.ref a] H (fun v _ => v = .bl true) fun _ _ _ => False :=
    ⟨ns, trivial, H, Sub.refl H, fun p hp => let ⟨q, hq, e⟩ := hTm p hp; TabS.nil (e ▸ hH q hq), ⟨⟨a, rfl, hS⟩, trivial⟩, fun v F' H' _ p => by cases p; rfl⟩
  refine codeAny_mono ((F _ kB (nsB hns) TB).run callerA rfl hr [] s₁ H ⟨[.ref a], []⟩ [.ref a] [.ref a] _ _ e0 (hbind s₁ (.ref a)) (.cons rfl .nil) hsp) fun r s' h => ?_
  cases r with
  | error e => exact False.elim h
  | ok fl =>
    cases fl with
    | next => exact False.elim h
    | brk => exact False.elim h
    | cont => exact False.elim h
    | ret u =>
      obtain ⟨v, H', os, bare, un, hok', r', q⟩ := h
      have q : v = .bl true := q
      subst q
      obtain rfl : u = Value.bool true := r'
      have stays : ∀ b o, b ∉ ts → s₁.heap.get? b = some o → s'.heap.get? b = some o := fun b o nb e => by
        rcases start_cases (K := K) (a := a) (vs := vs) (ns := ns) (ts := ts) b with ⟨h1, _⟩ | ⟨_, h1, _, h2⟩ | h1
        · exact absurd h1 nb
        · obtain ⟨e2, _⟩ := hok' b _ (un.frzs b _ _ h2)
          rw [h1, ha] at e
          cases e
          exact e2
        · exact un.keep b o e h1 (by intro z; exact absurd (show b ∈ ([] : List Addr) from z) (by simp)) (by simp)
      have grown : ∀ p ∈ cs, ∃ more : Array Value, s'.heap.get? p.2 = some { cls := .none, data := .fields more } := fun p hp => by
        obtain ⟨more, z⟩ := un.tbls p.2 #[] (hH p hp)
        exact ⟨_, hok' p.2 _ z⟩
      refine ⟨rfl, ⟨fun b o e => ?_, fun b o e => ?_⟩, os, bare⟩
      · by_cases hb : b ∈ ts
        · obtain ⟨p, hp, rfl⟩ := List.mem_map.mp hb
          obtain ⟨more, hm⟩ := grown p hp
          rw [hT p hp] at e
          cases e
          exact .inr (.inl ⟨((C p hp).tab (hT p hp)).isCodeTable, rfl, #[], more, rfl, by rw [Array.empty_append]; exact hm⟩)
        · exact .inl (stays b o hb e)
      · by_cases hb : b ∈ ts
        · obtain ⟨p, hp, rfl⟩ := List.mem_map.mp hb
          obtain ⟨more, hm⟩ := grown p hp
          exact ⟨_, hm⟩
        · exact ⟨o, stays b o hb e⟩
end K27
/-! K27: the walk of the law over a head that is read by a Hook. -/
namespace K27
open PySem PySem.Spec PyProof.Rows L2 LamX
/-- what is known of law at the head's heap -/
def LawAtG (l : PySem.W.OpenLaw) (w : World) (K : PySem.W.Frag) (x : Str) (k : Nat) (mg : Str → Option Value) (fa : Addr) (h : Heap) : Prop :=
  ∃ (fd : FuncData) (cs : List (Addr × Addr)) (T : List (Addr × Str)), (∀ p ∈ cs, h.get? p.2 = some { cls := .none, data := .fields #[] }) ∧ (∀ p ∈ cs, K.lookup p.2 = none) ∧ (∀ p ∈ cs, PySem.W.CodeHd h p.1 p.2) ∧ (∀ p ∈ T, ∃ q ∈ cs, q.2 = p.1) ∧ (∀ (s : Shared) (u : Value), BindsTo s fd ⟨[u], []⟩ [(x, u)]) ∧
    ∀ base : Heap, K.In base → base.Ns mainGlobals mg → (∀ p ∈ cs, TabB base mg p.1 p.2) → FnG l.prog w K mg base k fa fd [x] (spLaw ⟨K, mg, l.prog, w, base, T⟩)
theorem walk_lawE {l : PySem.W.OpenLaw} {n k : Nat} {q : Program} {loose : List Str} {XP : (Str → Option Value) → Heap → Prop} {YP : World → Heap → Prop} {d : DefRec} {x : Str}
    (hn : l.most = some n) (hn2 : n ≤ sizeLine) (hdf : d.params.defaults = []) (hr : Room k callerA)
    (F : ∀ (w : World) (mg : Str → Option Value) (fa : Addr) (h : Heap), YP w h → h.Ns mainGlobals mg → mg d.name = some (.ref fa) → ∃ K : PySem.W.Frag, K.In h ∧ LawAtG l w K x k mg fa h) :
    PySem.W.WalkO q loose XP YP l.row.toRowW d [] (fun f vs => PySem.call f vs) := by
  refine Att.attach_callB hn hdf fun w s₀ s₁ mg mb fa o pm cd doc a vs ns G Y ho hd hcd hmg hobj hints hlen hbits hg => ?_
  obtain ⟨K, KX, fd, cs, T, hT, nT, C, hTm, hb, hF⟩ := F w mg fa _ Y G.T.g hmg
  exact law_callG KX G.T.g G.T.b G.T.builtins G.T.nolimit hg hT nT C G.T.bmain hobj hints (Nat.le_trans hlen hn2) hr hTm hF hb
/-- a def without defaults, as the layer's Fun -/
theorem fun_ofD {K : PySem.W.Frag} {x : Str} {st : Stmt} {kws : List (Str × V)} {f : Addr} {fd : FuncData} (F : FunD K x x (defArgs st) (defBody st) (defScope st) [] kws f fd) : Fun K x x st f fd := by
  obtain ⟨oc, od, dV, kV, doc, pm, an, cdv, ct, osl, e, lk, hcd, hD, _⟩ := F.ex
  rcases hD with ⟨_, rfl⟩ | ⟨z, _⟩
  · exact ⟨⟨oc, od, kV, doc, pm, an, cdv, ct, osl, e, lk, hcd⟩, F.kp⟩
  · exact absurd rfl z
/-- the code object of a def at a module's name -/
theorem code_at {K : PySem.W.Frag} {x : Str} {st : Stmt} {fd : FuncData} (F : Fun K x x st (He.ga K x) fd) : fd.code = .ref (He.codeOf K (x, none)) := by
  obtain ⟨oc, od, kV, doc, pm, an, cdv, ct, osl, rfl, lk, hcd⟩ := F.ex
  obtain ⟨c, rfl⟩ := He.codeIn_ref hcd
  have e := He.codeOf_eq (K := K) (p := (x, none)) (c := c) lk rfl
  rw [e]
  all_goals rfl
end K27
/-! K27: the head's facts, by names. -/
namespace K27
open PySem PySem.Spec PyProof.Rows L2 LamX
def dd (x : Str) (i : Nat) : He.DefD := ⟨(x, none), x, x, defArgs (top i), defBody (top i), defScope (top i), [], []⟩
def hfn : List He.DefD := [dd "key_of" 1, dd "row_ids" 3, dd "partitions" 4, dd "number_of" 6, dd "parts" 7, dd "looks_at" 9, dd "moved" 10, dd "values_at" 11, dd "touched" 12, dd "_law_cell" 14, dd "_law_digits" 15, dd "_law_draw" 16, dd "_law_same" 17, dd "_law_columns" 18, dd "_law_value" 19, dd "_law_pick" 20, dd "_law_bound" 21, dd "_law_frame" 22, dd "_law_definition" 23, dd "_law_cells" 24, dd "_law_rows" 25, dd "_law_rank" 26, dd "_law_ahead" 27, dd "_law_place" 28, dd "_law_ordered" 29, dd "_law_peers" 30, dd "_law_from" 31, dd "_law_until" 32, dd "_law_group" 33, dd "_law_look" 34, dd "_law_range" 35, dd "_law_in_frame" 36, dd "_law_of_values" 37, dd "_law_of_place" 38, dd "_law_computed" 39, dd "_law_looks" 40, dd "_law_due" 41, dd "law" 42]
def hfa : List He.Fa := [.glo "key_of", .glo "row_ids", .glo "partitions", .glo "number_of", .glo "parts", .glo "looks_at", .glo "moved", .glo "values_at", .glo "touched", .glo "_law_cell", .glo "_law_digits", .glo "_law_draw", .glo "_law_same", .glo "_law_columns", .glo "_law_value", .glo "_law_pick", .glo "_law_bound", .glo "_law_frame", .glo "_law_definition", .glo "_law_cells", .glo "_law_rows", .glo "_law_rank", .glo "_law_ahead", .glo "_law_place", .glo "_law_ordered", .glo "_law_peers", .glo "_law_from", .glo "_law_until", .glo "_law_group", .glo "_law_look", .glo "_law_range", .glo "_law_in_frame", .glo "_law_of_values", .glo "_law_of_place", .glo "_law_computed", .glo "_law_looks", .glo "_law_due", .glo "law"] ++ [.free "len", .free "sorted", .free "tuple", .free "list", .free "set", .free "dict", .free "int", .free "str", .free "isinstance", .free "max", .free "range", .free "sum", .free "repr", .free "any"]
def htf : List He.Defn := [("moved", none), ("_law_ordered", none)]
def hex_ (K : PySem.W.Frag) : Bool := !decide ((He.cT K ("moved", none)).2 = (He.cT K ("_law_ordered", none)).2)
abbrev Says (w : World) (h : Heap) (K : PySem.W.Frag) : Prop := He.SaysX hfa hfn [] htf hex_ w h K
theorem fun_at {w : World} {h : Heap} {K : PySem.W.Frag} (c : Says w h K) {x : Str} {i : Nat} (j : Nat) (e : hfn[j]? = some (dd x i)) : ∃ fd, FunD K x x (defArgs (top i)) (defBody (top i)) (defScope (top i)) [] [] (He.ga K x) fd := c.t.d.def_ j e
theorem glo_at {w : World} {h : Heap} {K : PySem.W.Frag} {mg : Str → Option Value} (X : K.In h) (Gm : h.Ns mainGlobals mg) (c : Says w h K) {x : Str} (j : Nat) (e : hfa[j]? = some (.glo x)) : mg x = some (.ref (He.ga K x)) := He.glo_ok X Gm (c.t.d.fact j e)
theorem free_at {w : World} {h : Heap} {K : PySem.W.Frag} {mg : Str → Option Value} (X : K.In h) (Gm : h.Ns mainGlobals mg) (c : Says w h K) {x : Str} (j : Nat) (e : hfa[j]? = some (.free x)) : mg x = none := He.free_ok X Gm (c.t.d.fact j e)
end K27
/-! K27: from what stands at the names to law's promise. -/
namespace K27
open PySem PySem.Spec PyProof.Rows L2 LamX
theorem law_at {l : PySem.W.OpenLaw} {w : World} {K : PySem.W.Frag} {h : Heap} {mg : Str → Option Value} {f : Addr} (X : K.In h) (Gm : h.Ns mainGlobals mg) (c : Says w h K) (hfa : mg "law" = some (.ref f)) : LawAtG l w K "_law_script" 8 mg f h := by
  have key : ∀ p ∈ htf.map (He.cT K), h.get? p.2 = some { cls := .none, data := .fields #[] } ∧ K.lookup p.2 = none ∧ PySem.W.CodeHd h p.1 p.2 := fun p hp => by
    obtain ⟨d, hd, rfl⟩ := List.mem_map.mp hp
    exact ⟨c.empty d hd, c.out d hd, PySem.W.codeHd_of_K X (c.hd d hd)⟩
  have ne : (He.cT K ("moved", none)).2 ≠ (He.cT K ("_law_ordered", none)).2 := fun z => by
    have m := c.more
    unfold hex_ at m
    rw [decide_eq_true z] at m
    cases m
  let T : List (Addr × Str) := [((He.cT K ("moved", none)).2, "moved.<locals>.<genexpr>"), ((He.cT K ("_law_ordered", none)).2, "_law_ordered.<locals>.<lambda>")]
  obtain ⟨fd1, D1⟩ := fun_at c 0 (x := "key_of") (i := 1) rfl
  obtain ⟨fd3, D3⟩ := fun_at c 1 (x := "row_ids") (i := 3) rfl
  obtain ⟨fd4, D4⟩ := fun_at c 2 (x := "partitions") (i := 4) rfl
  obtain ⟨fd6, D6⟩ := fun_at c 3 (x := "number_of") (i := 6) rfl
  obtain ⟨fd7, D7⟩ := fun_at c 4 (x := "parts") (i := 7) rfl
  obtain ⟨fd9, D9⟩ := fun_at c 5 (x := "looks_at") (i := 9) rfl
  obtain ⟨fd10, D10⟩ := fun_at c 6 (x := "moved") (i := 10) rfl
  obtain ⟨fd11, D11⟩ := fun_at c 7 (x := "values_at") (i := 11) rfl
  obtain ⟨fd12, D12⟩ := fun_at c 8 (x := "touched") (i := 12) rfl
  obtain ⟨fd14, D14⟩ := fun_at c 9 (x := "_law_cell") (i := 14) rfl
  obtain ⟨fd15, D15⟩ := fun_at c 10 (x := "_law_digits") (i := 15) rfl
  obtain ⟨fd16, D16⟩ := fun_at c 11 (x := "_law_draw") (i := 16) rfl
  obtain ⟨fd17, D17⟩ := fun_at c 12 (x := "_law_same") (i := 17) rfl
  obtain ⟨fd18, D18⟩ := fun_at c 13 (x := "_law_columns") (i := 18) rfl
  obtain ⟨fd19, D19⟩ := fun_at c 14 (x := "_law_value") (i := 19) rfl
  obtain ⟨fd20, D20⟩ := fun_at c 15 (x := "_law_pick") (i := 20) rfl
  obtain ⟨fd21, D21⟩ := fun_at c 16 (x := "_law_bound") (i := 21) rfl
  obtain ⟨fd22, D22⟩ := fun_at c 17 (x := "_law_frame") (i := 22) rfl
  obtain ⟨fd23, D23⟩ := fun_at c 18 (x := "_law_definition") (i := 23) rfl
  obtain ⟨fd24, D24⟩ := fun_at c 19 (x := "_law_cells") (i := 24) rfl
  obtain ⟨fd25, D25⟩ := fun_at c 20 (x := "_law_rows") (i := 25) rfl
  obtain ⟨fd26, D26⟩ := fun_at c 21 (x := "_law_rank") (i := 26) rfl
  obtain ⟨fd27, D27⟩ := fun_at c 22 (x := "_law_ahead") (i := 27) rfl
  obtain ⟨fd28, D28⟩ := fun_at c 23 (x := "_law_place") (i := 28) rfl
  obtain ⟨fd29, D29⟩ := fun_at c 24 (x := "_law_ordered") (i := 29) rfl
  obtain ⟨fd30, D30⟩ := fun_at c 25 (x := "_law_peers") (i := 30) rfl
  obtain ⟨fd31, D31⟩ := fun_at c 26 (x := "_law_from") (i := 31) rfl
  obtain ⟨fd32, D32⟩ := fun_at c 27 (x := "_law_until") (i := 32) rfl
  obtain ⟨fd33, D33⟩ := fun_at c 28 (x := "_law_group") (i := 33) rfl
  obtain ⟨fd34, D34⟩ := fun_at c 29 (x := "_law_look") (i := 34) rfl
  obtain ⟨fd35, D35⟩ := fun_at c 30 (x := "_law_range") (i := 35) rfl
  obtain ⟨fd36, D36⟩ := fun_at c 31 (x := "_law_in_frame") (i := 36) rfl
  obtain ⟨fd37, D37⟩ := fun_at c 32 (x := "_law_of_values") (i := 37) rfl
  obtain ⟨fd38, D38⟩ := fun_at c 33 (x := "_law_of_place") (i := 38) rfl
  obtain ⟨fd39, D39⟩ := fun_at c 34 (x := "_law_computed") (i := 39) rfl
  obtain ⟨fd40, D40⟩ := fun_at c 35 (x := "_law_looks") (i := 40) rfl
  obtain ⟨fd41, D41⟩ := fun_at c 36 (x := "_law_due") (i := 41) rfl
  obtain ⟨fd42, D42⟩ := fun_at c 37 (x := "law") (i := 42) rfl
  have e := hfa.symm.trans (glo_at X Gm c 37 (x := "law") rfl)
  cases e
  refine ⟨fd42, htf.map (He.cT K), T, fun p hp => (key p hp).1, fun p hp => (key p hp).2.1, fun p hp => (key p hp).2.2, fun p hp => ?_, fun s v => FunD.bindsA (ps := ["_law_script"]) D42 (fun _ _ _ _ _ _ us hl => match us, hl with | [_], _ => rfl) s [v] rfl, fun base hK hN TB => ?_⟩
  · rcases List.mem_cons.mp hp with rfl | hp
    · exact ⟨_, List.mem_map.mpr ⟨("moved", none), List.mem_cons_self, rfl⟩, rfl⟩
    · rcases List.mem_cons.mp hp with rfl | hp
      · exact ⟨_, List.mem_map.mpr ⟨("_law_ordered", none), List.mem_cons_of_mem _ List.mem_cons_self, rfl⟩, rfl⟩
      · cases hp
  let G : Gc := ⟨K, mg, l.prog, w, base, T⟩
  have B : Bt G := ⟨free_at X Gm c 38 rfl, free_at X Gm c 39 rfl, free_at X Gm c 40 rfl, free_at X Gm c 41 rfl, free_at X Gm c 42 rfl, free_at X Gm c 43 rfl, free_at X Gm c 44 rfl, free_at X Gm c 45 rfl, free_at X Gm c 46 rfl, free_at X Gm c 47 rfl, free_at X Gm c 48 rfl, free_at X Gm c 49 rfl, free_at X Gm c 50 rfl, free_at X Gm c 51 rfl⟩
  have T10 : TabOf G (He.codeOf K ("moved", none)) (He.cT K ("moved", none)).2 "moved.<locals>.<genexpr>" := ⟨TB _ (List.mem_map.mpr ⟨("moved", none), List.mem_cons_self, rfl⟩), List.mem_cons_self, fun p hp e => by
    rcases List.mem_cons.mp hp with rfl | hp
    · rfl
    · rcases List.mem_cons.mp hp with rfl | hp
      · exact absurd e.symm ne
      · cases hp⟩
  have T29 : TabOf G (He.codeOf K ("_law_ordered", none)) (He.cT K ("_law_ordered", none)).2 "_law_ordered.<locals>.<lambda>" := ⟨TB _ (List.mem_map.mpr ⟨("_law_ordered", none), List.mem_cons_of_mem _ List.mem_cons_self, rfl⟩), List.mem_cons_of_mem _ List.mem_cons_self, fun p hp e => by
    rcases List.mem_cons.mp hp with rfl | hp
    · exact absurd e ne
    · rcases List.mem_cons.mp hp with rfl | hp
      · rfl
      · cases hp⟩
  have f1 : Fn G "key_of" 1 (spKey G) := ⟨_, _, _, ok1 (G := G) B (fun_ofD D1), glo_at X Gm c 0 rfl, D1.kp, ((fun_ofD D1).binds (ps := ["value"]) fun _ _ _ _ _ _ us hl => match us, hl with | [_], _ => rfl)⟩
  have f3 : Fn G "row_ids" 1 (spRowIds G) := ⟨_, _, _, ok3 (G := G) B (fun_ofD D3), glo_at X Gm c 1 rfl, D3.kp, ((fun_ofD D3).binds (ps := ["rows"]) fun _ _ _ _ _ _ us hl => match us, hl with | [_], _ => rfl)⟩
  have f4 : Fn G "partitions" 2 (spPartitions G) := ⟨_, _, _, ok4 (G := G) B f3 f1 (fun_ofD D4), glo_at X Gm c 2 rfl, D4.kp, ((fun_ofD D4).binds (ps := ["rows", "numbers"]) fun _ _ _ _ _ _ us hl => match us, hl with | [_, _], _ => rfl)⟩
  have f6 : Fn G "number_of" 1 (spNum G) := ⟨_, _, _, ok6 (G := G) (fun_ofD D6), glo_at X Gm c 3 rfl, D6.kp, ((fun_ofD D6).binds (ps := ["columns", "name"]) fun _ _ _ _ _ _ us hl => match us, hl with | [_, _], _ => rfl)⟩
  have f7 : Fn G "parts" 2 (spParts G) := ⟨_, _, _, ok7 (G := G) B f6 (fun_ofD D7), glo_at X Gm c 4 rfl, D7.kp, ((fun_ofD D7).binds (ps := ["definition", "columns"]) fun _ _ _ _ _ _ us hl => match us, hl with | [_, _], _ => rfl)⟩
  have f9 : Fn G "looks_at" 3 (spLooks G) := ⟨_, _, _, ok9 (G := G) B f7 (fun_ofD D9), glo_at X Gm c 5 rfl, D9.kp, ((fun_ofD D9).binds (ps := ["definition", "columns"]) fun _ _ _ _ _ _ us hl => match us, hl with | [_, _], _ => rfl)⟩
  have f10 : Fn G "moved" 1 (spMoved G) := ⟨_, _, _, ok10 (G := G) B T10 (fun_ofD D10) (code_at (fun_ofD D10)), glo_at X Gm c 6 rfl, D10.kp, ((fun_ofD D10).binds (ps := ["looks", "rows", "others"]) fun _ _ _ _ _ _ us hl => match us, hl with | [_, _, _], _ => rfl)⟩
  have f11 : Fn G "values_at" 1 (spVals G) := ⟨_, _, _, ok11 (G := G) B (fun_ofD D11), glo_at X Gm c 7 rfl, D11.kp, ((fun_ofD D11).binds (ps := ["cells", "numbers"]) fun _ _ _ _ _ _ us hl => match us, hl with | [_, _], _ => rfl)⟩
  have f12 : Fn G "touched" 4 (spTouched G) := ⟨_, _, _, ok12 (G := G) B f7 f9 f10 f11 f4 (fun_ofD D12), glo_at X Gm c 8 rfl, D12.kp, ((fun_ofD D12).binds (ps := ["definition", "columns", "rows", "others"]) fun _ _ _ _ _ _ us hl => match us, hl with | [_, _, _, _], _ => rfl)⟩
  have f14 : Fn G "_law_cell" 1 (spCell G) := ⟨_, _, _, ok14 (G := G) B (fun_ofD D14), glo_at X Gm c 9 rfl, D14.kp, ((fun_ofD D14).binds (ps := ["_law_script", "_law_k"]) fun _ _ _ _ _ _ us hl => match us, hl with | [_, _], _ => rfl)⟩
  have f15 : Fn G "_law_digits" 2 (spDigits G) := ⟨_, _, _, ok15 (G := G) B f14 (fun_ofD D15), glo_at X Gm c 10 rfl, D15.kp, ((fun_ofD D15).binds (ps := ["_law_script", "_law_first", "_law_last"]) fun _ _ _ _ _ _ us hl => match us, hl with | [_, _, _], _ => rfl)⟩
  have f16 : Fn G "_law_draw" 1 (spDraw G) := ⟨_, _, _, ok16 (G := G) B (fun_ofD D16), glo_at X Gm c 11 rfl, D16.kp, ((fun_ofD D16).binds (ps := ["_law_box", "_law_many"]) fun _ _ _ _ _ _ us hl => match us, hl with | [_, _], _ => rfl)⟩
  have f17 : FnGd G "_law_same" 1 (spSame G) := ⟨_, _, _, ok17 (G := G) B B.repr (fun_ofD D17), glo_at X Gm c 12 rfl, D17.kp, ((fun_ofD D17).binds (ps := ["_law_actual", "_law_due_here"]) fun _ _ _ _ _ _ us hl => match us, hl with | [_, _], _ => rfl)⟩
  have f18 : Fn G "_law_columns" 2 (spColumns G) := ⟨_, _, _, ok18 (G := G) B f16 (fun_ofD D18), glo_at X Gm c 13 rfl, D18.kp, ((fun_ofD D18).binds (ps := ["_law_box"]) fun _ _ _ _ _ _ us hl => match us, hl with | [_], _ => rfl)⟩
  have f19 : Fn G "_law_value" 2 (spValue G) := ⟨_, _, _, ok19 (G := G) B f16 (fun_ofD D19), glo_at X Gm c 14 rfl, D19.kp, ((fun_ofD D19).binds (ps := ["_law_box", "_law_kind"]) fun _ _ _ _ _ _ us hl => match us, hl with | [_, _], _ => rfl)⟩
  have f20 : Fn G "_law_pick" 2 (spPick G) := ⟨_, _, _, ok20 (G := G) B f16 (fun_ofD D20), glo_at X Gm c 15 rfl, D20.kp, ((fun_ofD D20).binds (ps := ["_law_box", "_law_rows_here"]) fun _ _ _ _ _ _ us hl => match us, hl with | [_, _], _ => rfl)⟩
  have f21 : Fn G "_law_bound" 2 (spBound G) := ⟨_, _, _, ok21 (G := G) B f16 (fun_ofD D21), glo_at X Gm c 16 rfl, D21.kp, ((fun_ofD D21).binds (ps := ["_law_box", "_law_first"]) fun _ _ _ _ _ _ us hl => match us, hl with | [_, _], _ => rfl)⟩
  have f22 : Fn G "_law_frame" 3 (spFrame G) := ⟨_, _, _, ok22 (G := G) B f16 f21 (fun_ofD D22), glo_at X Gm c 17 rfl, D22.kp, ((fun_ofD D22).binds (ps := ["_law_box", "_law_keys", "_law_kinds"]) fun _ _ _ _ _ _ us hl => match us, hl with | [_, _, _], _ => rfl)⟩
  have f23 : Fn G "_law_definition" 4 (spDefinition G) := ⟨_, _, _, ok23 (G := G) B f16 f20 f22 (fun_ofD D23), glo_at X Gm c 18 rfl, D23.kp, ((fun_ofD D23).binds (ps := ["_law_box", "_law_name", "_law_columns_here"]) fun _ _ _ _ _ _ us hl => match us, hl with | [_, _, _], _ => rfl)⟩
  have f24 : Fn G "_law_cells" 3 (spCells G) := ⟨_, _, _, ok24 (G := G) B f19 (fun_ofD D24), glo_at X Gm c 19 rfl, D24.kp, ((fun_ofD D24).binds (ps := ["_law_box", "_law_columns_here"]) fun _ _ _ _ _ _ us hl => match us, hl with | [_, _], _ => rfl)⟩
  have f25 : Fn G "_law_rows" 4 (spRows G) := ⟨_, _, _, ok25 (G := G) B f16 f24 (fun_ofD D25), glo_at X Gm c 20 rfl, D25.kp, ((fun_ofD D25).binds (ps := ["_law_box", "_law_columns_here", "_law_most"]) fun _ _ _ _ _ _ us hl => match us, hl with | [_, _, _], _ => rfl)⟩
  have f26 : Fn G "_law_rank" 1 (spKey G) := ⟨_, _, _, ok26 (G := G) B (fun_ofD D26), glo_at X Gm c 21 rfl, D26.kp, ((fun_ofD D26).binds (ps := ["_law_value_here"]) fun _ _ _ _ _ _ us hl => match us, hl with | [_], _ => rfl)⟩
  have f27 : Fn G "_law_ahead" 2 (spAhead G) := ⟨_, _, _, ok27 (G := G) B f26 (fun_ofD D27), glo_at X Gm c 22 rfl, D27.kp, ((fun_ofD D27).binds (ps := ["_law_rows_here", "_law_keys", "_law_one", "_law_other"]) fun _ _ _ _ _ _ us hl => match us, hl with | [_, _, _, _], _ => rfl)⟩
  have f28 : Fn G "_law_place" 3 (spPlace G) := ⟨_, _, _, ok28 (G := G) B f27 (fun_ofD D28), glo_at X Gm c 23 rfl, D28.kp, ((fun_ofD D28).binds (ps := ["_law_rows_here", "_law_keys", "_law_ids", "_law_one"]) fun _ _ _ _ _ _ us hl => match us, hl with | [_, _, _, _], _ => rfl)⟩
  have f29 : Fn G "_law_ordered" 6 (spOrdered G) := ⟨_, _, _, ok29 (G := G) B f28 T29 (fun_ofD D29) (code_at (fun_ofD D29)), glo_at X Gm c 24 rfl, D29.kp, ((fun_ofD D29).binds (ps := ["_law_rows_here", "_law_keys", "_law_ids"]) fun _ _ _ _ _ _ us hl => match us, hl with | [_, _, _], _ => rfl)⟩
  have f30 : Fn G "_law_peers" 1 (spPeers G) := ⟨_, _, _, ok30 (G := G) B (fun_ofD D30), glo_at X Gm c 25 rfl, D30.kp, ((fun_ofD D30).binds (ps := ["_law_rows_here", "_law_keys", "_law_one", "_law_other"]) fun _ _ _ _ _ _ us hl => match us, hl with | [_, _, _, _], _ => rfl)⟩
  have f31 : Fn G "_law_from" 1 (spFrom G) := ⟨_, _, _, ok31 (G := G) (fun_ofD D31), glo_at X Gm c 26 rfl, D31.kp, ((fun_ofD D31).binds (ps := ["_law_bound_here", "_law_one", "_law_other"]) fun _ _ _ _ _ _ us hl => match us, hl with | [_, _, _], _ => rfl)⟩
  have f32 : Fn G "_law_until" 1 (spUntil G) := ⟨_, _, _, ok32 (G := G) (fun_ofD D32), glo_at X Gm c 27 rfl, D32.kp, ((fun_ofD D32).binds (ps := ["_law_bound_here", "_law_one", "_law_other"]) fun _ _ _ _ _ _ us hl => match us, hl with | [_, _, _], _ => rfl)⟩
  have f33 : Fn G "_law_group" 2 (spGroup G) := ⟨_, _, _, ok33 (G := G) B f30 (fun_ofD D33), glo_at X Gm c 28 rfl, D33.kp, ((fun_ofD D33).binds (ps := ["_law_rows_here", "_law_keys", "_law_order", "_law_one"]) fun _ _ _ _ _ _ us hl => match us, hl with | [_, _, _, _], _ => rfl)⟩
  have f34 : Fn G "_law_look" 2 (spLook G) := ⟨_, _, _, ok34 (G := G) f31 f32 (fun_ofD D34), glo_at X Gm c 29 rfl, D34.kp, ((fun_ofD D34).binds (ps := ["_law_at", "_law_bound_here", "_law_one", "_law_other"]) fun _ _ _ _ _ _ us hl => match us, hl with | [_, _, _, _], _ => rfl)⟩
  have f35 : Fn G "_law_range" 3 (spRange G) := ⟨_, _, _, ok35 (G := G) B f33 f34 (fun_ofD D35), glo_at X Gm c 30 rfl, D35.kp, ((fun_ofD D35).binds (ps := ["_law_rows_here", "_law_keys", "_law_order", "_law_frame_here", "_law_one", "_law_other"]) fun _ _ _ _ _ _ us hl => match us, hl with | [_, _, _, _, _, _], _ => rfl)⟩
  have f36 : Fn G "_law_in_frame" 4 (spInFrame G) := ⟨_, _, _, ok36 (G := G) B f35 f31 f32 f33 f30 (fun_ofD D36), glo_at X Gm c 31 rfl, D36.kp, ((fun_ofD D36).binds (ps := ["_law_rows_here", "_law_keys", "_law_order", "_law_frame_here", "_law_one", "_law_other"]) fun _ _ _ _ _ _ us hl => match us, hl with | [_, _, _, _, _, _], _ => rfl)⟩
  have f37 : Fn G "_law_of_values" 3 (spOfValues G) := ⟨_, _, _, ok37 (G := G) B f26 (fun_ofD D37), glo_at X Gm c 32 rfl, D37.kp, ((fun_ofD D37).binds (ps := ["_law_function", "_law_number", "_law_given"]) fun _ _ _ _ _ _ us hl => match us, hl with | [_, _, _], _ => rfl)⟩
  have f38 : Fn G "_law_of_place" 3 (spOfPlace G) := ⟨_, _, _, ok38 (G := G) B f30 f33 (fun_ofD D38), glo_at X Gm c 33 rfl, D38.kp, ((fun_ofD D38).binds (ps := ["_law_function", "_law_number", "_law_rows_here", "_law_keys", "_law_order", "_law_one", "_law_column"]) fun _ _ _ _ _ _ us hl => match us, hl with | [_, _, _, _, _, _, _], _ => rfl)⟩
  have f39 : Fn G "_law_computed" 7 (spComputed G) := ⟨_, _, _, ok39 (G := G) B f29 f38 f36 f37 (fun_ofD D39), glo_at X Gm c 34 rfl, D39.kp, ((fun_ofD D39).binds (ps := ["_law_definition_here", "_law_columns_here", "_law_rows_here"]) fun _ _ _ _ _ _ us hl => match us, hl with | [_, _, _], _ => rfl)⟩
  have f40 : Fn G "_law_looks" 1 (spLooks G) := ⟨_, _, _, ok40 (G := G) B (fun_ofD D40), glo_at X Gm c 35 rfl, D40.kp, ((fun_ofD D40).binds (ps := ["_law_definition_here", "_law_columns_here"]) fun _ _ _ _ _ _ us hl => match us, hl with | [_, _], _ => rfl)⟩
  have f41 : Fn G "_law_due" 2 (spDue G) := ⟨_, _, _, ok41 (G := G) B f40 f26 (fun_ofD D41), glo_at X Gm c 36 rfl, D41.kp, ((fun_ofD D41).binds (ps := ["_law_definition_here", "_law_columns_here", "_law_ahead_here", "_law_behind"]) fun _ _ _ _ _ _ us hl => match us, hl with | [_, _, _, _], _ => rfl)⟩
  exact ok42 (G := G) B f15 f16 f18 f23 f24 f25 f41 f17 f9 f40 f12 f39 (fun_ofD D42)
end K27
set_option maxHeartbeats 0
/-! K27: the head's run, the law. -/
namespace K27
open PySem PySem.Spec PyProof.Rows L2 LamX
abbrev R : PySem.W.OpenRow := PySem.W.OpenLaw.row PySem.Challenge.rw_windowtable_k27_reach_told
def hnames : List Str := (["key_of", "row_ids", "partitions", "number_of", "parts", "looks_at", "moved", "values_at", "touched", "_law_cell"] : List Str) ++ (["_law_digits", "_law_draw", "_law_same", "_law_columns", "_law_value", "_law_pick", "_law_bound", "_law_frame", "_law_definition", "_law_cells"] : List Str) ++ (["_law_rows", "_law_rank", "_law_ahead", "_law_place", "_law_ordered", "_law_peers", "_law_from", "_law_until", "_law_group", "_law_look"] : List Str) ++ (["_law_range", "_law_in_frame", "_law_of_values", "_law_of_place", "_law_computed", "_law_looks", "_law_due"] : List Str)
abbrev hk : PySem.W.Hook := He.hookX 4 hfa hfn [] htf hex_
def ob (s : PySem.W.SharedT) : He.AlX := He.obsX 4 hfa hfn [] htf hex_ (HandSHeadRun.getT s)
theorem ob_eq (s : PySem.W.SharedT) : ob s = hk.obs s.abs := He.obsX_eq (HandSHeadRun.getT_eq s)
theorem run (w : World) : HandSHeadRun.RunEq R (PySem.W.view R.prog [42]) hk ob 4000 hnames w := by
  intro os
  kernel_rfl
end K27
open PySem PySem.W PySem.Calls PyProof.Rows
theorem PySem.Challenge.cw_windowtable_k27_reach_told_holds : PySem.Challenge.rw_windowtable_k27_reach_told.Holds := by
  w_on; o_law
  refine HandSHeadRun.head_any (r := K27.R) (q := view K27.R.prog [42]) (H := K27.hk) (ob := K27.ob) (M := 4000) (loose := K27.hnames) (d := HandSHeadRun.topDef K27.R.prog 42) (kwd := []) K27.ob_eq
    (by kernel_rfl) (fun s => by kernel_rfl) K27.run (by kernel_rfl) (by kernel_rfl) (by kernel_rfl) (by rfl) (by first | assumption | decide +kernel) (by decide +kernel) ⟨rfl, rfl, rfl, rfl, rfl, by decide +kernel⟩ ?hw ?hc
  case hw => w_witness2
  case hc =>
    refine K27.walk_lawE (l := PySem.Challenge.rw_windowtable_k27_reach_told) (n := 63) (k := 8) (x := "_law_script") rfl (by decide) (by kernel_rfl) ⟨rfl, by decide, by decide⟩ ?F
    intro w mg fa h Y G hmg0
    obtain ⟨K, KX, c⟩ := Y
    have hmg : mg ("law" : PySem.Str) = some (.ref fa) := by
      have e : (HandSHeadRun.topDef K27.R.prog 42).name = ("law" : PySem.Str) := by kernel_rfl
      rw [← e]
      exact hmg0
    exact ⟨K, KX, K27.law_at KX G c hmg⟩
