import PyProof.Rows.All
import Wide.All
import OpenK.AllK
import Wide.FinOn
import HandS.ForMost
import HandS.SortInts
import HandS.Strs
import HandS.Deep
import HandS.Style
import HandS.RevRange
import HandS.SetFor
import HandS.Set
import HandS.WordsDict
import KE.KDictPairs
import HandS.DictComp
import HandS.Text
import HandS.More
import PyProof.SliceStr2
import KE.KRevSl
import PyProof.P3Eq
import PySem.Challenge.RW_straightways_k74_unfolded_by_crossings
set_option Elab.async false
set_option linter.all false
set_option maxRecDepth 100000
namespace VX
open PySem PySem.Spec PyProof.Rows L2

/-- values of the pure reading: a datum, an owned object, the script -/
inductive PV where
  | dat (d : PyData)
  | ptr (k : Nat)
  | scr (ns : List Int)
inductive SO where
  | lst (xs : List PV)
  | dic (kvs : List (Key × PV))
  | tpl (xs : List PV)
  | dtu (kvs : List (List Key × PV))
  | gone
abbrev Sto := List SO
abbrev Evn := List (Option PV)

mutual
inductive Dt (H : Hp) : V → PyData → Prop
  | non : Dt H .non .none
  | bl (b : Bool) : Dt H (.bl b) (.bool b)
  | int (i : Int) : Dt H (.int i) (.int i)
  | str (x : Str) : Dt H (.str x) (.str x)
  | lst {a : Addr} {xs : List V} {ds : List PyData} : H a = some (.lst xs) → DtAll H xs ds → Dt H (.ref a) (.list ds)
  | tup {a : Addr} {xs : List V} {ds : List PyData} : H a = some (.tup xs) → DtAll H xs ds → Dt H (.ref a) (.tuple ds)
inductive DtAll (H : Hp) : List V → List PyData → Prop
  | nil : DtAll H [] []
  | cons {v : V} {vs : List V} {d : PyData} {ds : List PyData} : Dt H v d → DtAll H vs ds → DtAll H (v :: vs) (d :: ds)
end
mutual
theorem Dt.mono {H H' : Hp} (s : Same H H') : ∀ {v : V} {d : PyData}, Dt H v d → Dt H' v d
  | _, _, .non => .non
  | _, _, .bl b => .bl b
  | _, _, .int b => .int b
  | _, _, .str b => .str b
  | _, _, .lst h a => .lst (s _ _ h) (DtAll.mono s a)
  | _, _, .tup h a => .tup (s _ _ h) (DtAll.mono s a)
theorem DtAll.mono {H H' : Hp} (s : Same H H') : ∀ {v : List V} {d : List PyData}, DtAll H v d → DtAll H' v d
  | _, _, .nil => .nil
  | _, _, .cons h a => .cons (Dt.mono s h) (DtAll.mono s a)
end
mutual
theorem Dt.dp {K : PySem.W.Frag} {H : Hp} : ∀ {v : V} {d : PyData}, Dt H v d → Dp K H v d
  | _, _, .non => .non
  | _, _, .bl b => .bl b
  | _, _, .int b => .int b
  | _, _, .str b => .str b
  | _, _, .lst h a => .lst (SqL.of h) (DtAll.dp a)
  | _, _, .tup h a => .tup (SqT.of h) (DtAll.dp a)
theorem DtAll.dp {K : PySem.W.Frag} {H : Hp} : ∀ {v : List V} {d : List PyData}, DtAll H v d → DpAll K H v d
  | _, _, .nil => .nil
  | _, _, .cons h a => .cons (Dt.dp h) (DtAll.dp a)
end

/-- the world: what stays for good, all that is tracked, where owned objects stand -/
structure Wd where
  Hi : Hp
  H : Hp
  at' : Nat → Addr

section
variable (K : PySem.W.Frag)
def RPV (W : Wd) (n : Nat) : PV → V → Prop
  | .dat d, v => Dt W.Hi v d
  | .ptr k, v => k < n ∧ v = .ref (W.at' k)
  | .scr ns, v => ∃ a, v = .ref a ∧ SqL K W.Hi a (ns.map V.int)
abbrev Pvs (W : Wd) (n : Nat) : List PV → List V → Prop := Paired (RPV K W n)
abbrev Kvs (W : Wd) (n : Nat) : List (Key × PV) → List (Key × V) → Prop := Paired fun p q => p.1 = q.1 ∧ RPV K W n p.2 q.2
abbrev Tvs (W : Wd) (n : Nat) : List (List Key × PV) → List (List Key × V) → Prop := Paired fun p q => p.1 = q.1 ∧ RPV K W n p.2 q.2
def RO (W : Wd) (n : Nat) : SO → Option HO → Prop
  | .lst xs, o => ∃ vs, o = some (.lst vs) ∧ Pvs K W n xs vs
  | .dic kvs, o => ∃ kws, o = some (.dK kws) ∧ Kvs K W n kvs kws
  | .tpl xs, o => ∃ vs, o = some (.tup vs) ∧ Pvs K W n xs vs
  | .dtu kvs, o => ∃ kws, o = some (.dT kws) ∧ Tvs K W n kvs kws
  | .gone, _ => True
structure Rl (W : Wd) (μ : Sto) : Prop where
  sub : Same W.Hi W.H
  ob : ∀ k o, μ[k]? = some o → RO K W μ.length o (W.H (W.at' k))
  off : ∀ k o, μ[k]? = some o → o ≠ .gone → W.Hi (W.at' k) = none
  inj : ∀ j k o u, μ[j]? = some o → μ[k]? = some u → o ≠ .gone → u ≠ .gone → W.at' j = W.at' k → j = k
  th : ∀ k, k < μ.length → ∃ o, W.H (W.at' k) = some o
end
structure Ext (W : Wd) (n : Nat) (W' : Wd) (n' : Nat) : Prop where
  im : Same W.Hi W'.Hi
  io : ∀ k, k < n → W'.at' k = W.at' k
  le : n ≤ n'
  fr : ∀ a o, W.H a = some o → (∀ k, k < n → W.at' k ≠ a) → W'.H a = some o
  nw : ∀ a o, W'.Hi a = some o → W.Hi a = none → W.H a = none ∨ ∃ k, k < n ∧ W.at' k = a
  np : ∀ k, n ≤ k → k < n' → W.H (W'.at' k) = none
  th : ∀ a o, W.H a = some o → ∃ u, W'.H a = some u
theorem Ext.refl (W : Wd) (n : Nat) : Ext W n W n :=
  ⟨Same.refl _, fun _ _ => rfl, Nat.le_refl _, fun _ _ h _ => h, fun a o h h' => (by rw [h] at h'; cases h'), fun k h h' => absurd h' (Nat.not_lt.mpr h), fun _ o h => ⟨o, h⟩⟩
theorem Ext.trans {W W1 W2 : Wd} {n n1 n2 : Nat} (a : Ext W n W1 n1) (b : Ext W1 n1 W2 n2) : Ext W n W2 n2 where
  im := a.im.trans b.im
  io := fun k hk => (b.io k (Nat.lt_of_lt_of_le hk a.le)).trans (a.io k hk)
  le := Nat.le_trans a.le b.le
  fr := fun x o h hk => b.fr x o (a.fr x o h hk) fun k hk1 e => by
    by_cases hn : k < n
    · exact hk k hn ((a.io k hn).symm.trans e)
    · have := a.np k (Nat.not_lt.mp hn) hk1
      rw [e, h] at this; cases this
  nw := fun x o h hn => by
    cases q : W1.Hi x with
    | some u => exact a.nw x u q hn
    | none =>
      rcases b.nw x o h q with h1 | ⟨k, hk, e⟩
      · cases r : W.H x with
        | none => exact .inl rfl
        | some u =>
          obtain ⟨u', h2⟩ := a.th x u r
          rw [h1] at h2; cases h2
      · by_cases hn : k < n
        · exact .inr ⟨k, hn, (a.io k hn).symm.trans e⟩
        · have := a.np k (Nat.not_lt.mp hn) hk
          rw [e] at this; exact .inl this
  np := fun k h1 h2 => by
    by_cases h3 : k < n1
    · rw [b.io k h3]; exact a.np k h1 h3
    · have := b.np k (Nat.not_lt.mp h3) h2
      cases r : W.H (W2.at' k) with
      | none => rfl
      | some u =>
        obtain ⟨u', h2⟩ := a.th _ u r
        rw [this] at h2; cases h2
  th := fun x o h => by
    obtain ⟨u, h1⟩ := a.th x o h
    exact b.th x u h1
section
variable {K : PySem.W.Frag} {W W' : Wd} {n n' : Nat} {μ μ' : Sto}
theorem RPV.mono {p : PV} {v : V} (e : Ext W n W' n') (h : RPV K W n p v) : RPV K W' n' p v := by
  cases p with
  | dat d => exact Dt.mono e.im h
  | ptr k => exact ⟨Nat.lt_of_lt_of_le h.1 e.le, by rw [e.io k h.1]; exact h.2⟩
  | scr ns => obtain ⟨a, e1, e2⟩ := h; exact ⟨a, e1, e.im.seq e2⟩
theorem Pvs.mono {ps : List PV} {vs : List V} (e : Ext W n W' n') (h : Pvs K W n ps vs) : Pvs K W' n' ps vs := L2.Paired.mapP h fun _ _ q => q.mono e
/-- what the sources ask of a later world: no more than this -/
structure ExtL (W : Wd) (n : Nat) (W' : Wd) (n' : Nat) : Prop where
  im : Same W.Hi W'.Hi
  io : ∀ k, k < n → W'.at' k = W.at' k
  le : n ≤ n'
theorem Ext.l {W W' : Wd} {n n' : Nat} (e : Ext W n W' n') : ExtL W n W' n' := ⟨e.im, e.io, e.le⟩
theorem ExtL.refl (W : Wd) (n : Nat) : ExtL W n W n := (Ext.refl W n).l
theorem ExtL.trans {W W1 W2 : Wd} {n n1 n2 : Nat} (a : ExtL W n W1 n1) (b : ExtL W1 n1 W2 n2) : ExtL W n W2 n2 :=
  ⟨fun x o h => b.im x o (a.im x o h), fun k h => (b.io k (Nat.lt_of_lt_of_le h a.le)).trans (a.io k h), Nat.le_trans a.le b.le⟩
theorem RPV.monoL {p : PV} {v : V} (e : ExtL W n W' n') (h : RPV K W n p v) : RPV K W' n' p v := by
  cases p with
  | dat d => exact Dt.mono e.im h
  | ptr k => exact ⟨Nat.lt_of_lt_of_le h.1 e.le, by rw [e.io k h.1]; exact h.2⟩
  | scr ns => obtain ⟨a, e1, e2⟩ := h; exact ⟨a, e1, e.im.seq e2⟩
theorem Pvs.monoL {ps : List PV} {vs : List V} (e : ExtL W n W' n') (h : Pvs K W n ps vs) : Pvs K W' n' ps vs := L2.Paired.mapP h fun _ _ q => q.monoL e
theorem Tvs.mono {ps : List (List Key × PV)} {vs : List (List Key × V)} (e : Ext W n W' n') (h : Tvs K W n ps vs) : Tvs K W' n' ps vs := L2.Paired.mapP h fun _ _ q => ⟨q.1, q.2.mono e⟩
theorem Kvs.mono {ps : List (Key × PV)} {vs : List (Key × V)} (e : Ext W n W' n') (h : Kvs K W n ps vs) : Kvs K W' n' ps vs := L2.Paired.mapP h fun _ _ q => ⟨q.1, q.2.mono e⟩
theorem Pvs.get {ps : List PV} {vs : List V} {i : Nat} {p : PV} (h : Pvs K W n ps vs) (e : ps[i]? = some p) : ∃ v, vs[i]? = some v ∧ RPV K W n p v := by
  induction h generalizing i with
  | nil => simp at e
  | cons r t ih =>
    cases i with
    | zero => simp at e; subst e; exact ⟨_, rfl, r⟩
    | succ i => simp at e; obtain ⟨v, h1, h2⟩ := ih e; exact ⟨v, by simpa using h1, h2⟩
theorem Pvs.append {ps qs : List PV} {vs ws : List V} (h : Pvs K W n ps vs) (h' : Pvs K W n qs ws) : Pvs K W n (ps ++ qs) (vs ++ ws) := by
  induction h with
  | nil => exact h'
  | cons r t ih => exact .cons r ih
theorem Pvs.set {ps : List PV} {vs : List V} {p : PV} {v : V} (h : Pvs K W n ps vs) (r : RPV K W n p v) (i : Nat) : Pvs K W n (ps.set i p) (vs.set i v) := by
  induction h generalizing i with
  | nil => exact .nil
  | cons q t ih =>
    cases i with
    | zero => exact .cons r t
    | succ i => exact .cons q (ih i)
theorem Pvs.drop {ps : List PV} {vs : List V} (h : Pvs K W n ps vs) (i : Nat) : Pvs K W n (ps.drop i) (vs.drop i) := by
  induction h generalizing i with
  | nil => simp; exact .nil
  | cons q t ih =>
    cases i with
    | zero => exact .cons q t
    | succ i => simpa using ih i
theorem Pvs.take {ps : List PV} {vs : List V} (h : Pvs K W n ps vs) (i : Nat) : Pvs K W n (ps.take i) (vs.take i) := by
  induction h generalizing i with
  | nil => simp; exact .nil
  | cons q t ih =>
    cases i with
    | zero => exact .nil
    | succ i => exact .cons q (ih i)
theorem Pvs.eraseIdx {ps : List PV} {vs : List V} (h : Pvs K W n ps vs) (i : Nat) : Pvs K W n (ps.eraseIdx i) (vs.eraseIdx i) := by
  induction h generalizing i with
  | nil => simp; exact .nil
  | cons q t ih =>
    cases i with
    | zero => exact t
    | succ i => exact .cons q (ih i)
theorem Pvs.reverse {ps : List PV} {vs : List V} (h : Pvs K W n ps vs) : Pvs K W n ps.reverse vs.reverse := by
  induction h with
  | nil => exact .nil
  | cons q t ih => simp only [List.reverse_cons]; exact ih.append (.cons q .nil)
def asDat : PV → Option PyData
  | .dat d => some d
  | _ => none
def asDats : List PV → Option (List PyData)
  | [] => some []
  | .dat d :: r => (asDats r).map (d :: ·)
  | _ :: _ => none
theorem asDats_map : ∀ ds : List PyData, asDats (ds.map PV.dat) = some ds
  | [] => rfl
  | d :: r => by simp [asDats, asDats_map r]
theorem asDats_eq : ∀ {xs : List PV} {ds : List PyData}, asDats xs = some ds → xs = ds.map PV.dat
  | [], _, h => by simp [asDats] at h; subst h; rfl
  | .dat d :: r, ds, h => by
    cases q : asDats r with
    | none => simp [asDats, q] at h
    | some es => simp [asDats, q] at h; subst h; rw [asDats_eq q]; rfl
  | .ptr _ :: _, _, h => by simp [asDats] at h
  | .scr _ :: _, _, h => by simp [asDats] at h
theorem DtAll.pvs : ∀ {vs : List V} {ds : List PyData}, DtAll W.Hi vs ds → Pvs K W n (ds.map PV.dat) vs
  | _, _, .nil => .nil
  | _, _, .cons h a => .cons h (DtAll.pvs a)
theorem Pvs.dt : ∀ {ds : List PyData} {vs : List V}, Pvs K W n (ds.map PV.dat) vs → DtAll W.Hi vs ds
  | [], _, .nil => .nil
  | _ :: _, _, .cons h a => .cons h (Pvs.dt a)
theorem Pvs.length {ps : List PV} {vs : List V} (h : Pvs K W n ps vs) : ps.length = vs.length := Paired.length h

/-! ### new objects -/
def cap : Nat := 1000000
theorem cap_ok {m : Nat} (h : m ≤ cap) : m ≤ sizeLine := Nat.le_trans h (by decide)
theorem cap_lt {m : Nat} (h : m < cap) : m < sizeLine := Nat.lt_of_lt_of_le h (by decide)
/-- something tracked that nobody here speaks of -/
theorem Rl.junk {p : Addr} {o : HO} (R : Rl K W μ) (hp : W.H p = none) : Rl K ⟨W.Hi, upd W.H p o, W.at'⟩ μ ∧ Ext W μ.length ⟨W.Hi, upd W.H p o, W.at'⟩ μ.length := by
  have sm : Same W.H (upd W.H p o) := fun b u e => by rw [upd_ne (ne_of_none e hp)]; exact e
  refine ⟨⟨R.sub.trans sm, fun k u h => ?_, R.off, R.inj, fun k hk => let ⟨u, e⟩ := R.th k hk; ⟨u, sm _ _ e⟩⟩, ⟨Same.refl _, fun _ _ => rfl, Nat.le_refl _, fun a u h _ => sm a u h, fun a u h h' => ?_, fun k h h' => absurd h' (Nat.not_lt.mpr h), fun a u h => ⟨u, sm a u h⟩⟩⟩
  · have := R.ob k u h
    cases u with
    | gone => trivial
    | lst xs => obtain ⟨vs, e, r⟩ := this; exact ⟨vs, sm _ _ e, r⟩
    | dic kvs => obtain ⟨vs, e, r⟩ := this; exact ⟨vs, sm _ _ e, r⟩
    | tpl xs => obtain ⟨vs, e, r⟩ := this; exact ⟨vs, sm _ _ e, r⟩
    | dtu kvs => obtain ⟨vs, e, r⟩ := this; exact ⟨vs, sm _ _ e, r⟩
  · exact absurd (h.symm.trans h') (by simp)
/-- a new thing that stays for good -/
theorem Rl.imm {p : Addr} {o : HO} (R : Rl K W μ) (hp : W.H p = none) : Rl K ⟨upd W.Hi p o, upd W.H p o, W.at'⟩ μ ∧ Ext W μ.length ⟨upd W.Hi p o, upd W.H p o, W.at'⟩ μ.length := by
  have sm : Same W.H (upd W.H p o) := fun b u e => by rw [upd_ne (ne_of_none e hp)]; exact e
  have hpi : W.Hi p = none := by
    cases q : W.Hi p with
    | none => rfl
    | some u => rw [R.sub _ _ q] at hp; cases hp
  have smi : Same W.Hi (upd W.Hi p o) := fun b u e => by rw [upd_ne (ne_of_none e hpi)]; exact e
  have E : Ext W μ.length ⟨upd W.Hi p o, upd W.H p o, W.at'⟩ μ.length := by
    refine ⟨smi, fun _ _ => rfl, Nat.le_refl _, fun a u h _ => sm a u h, fun a u h h' => ?_, fun k h h' => absurd h' (Nat.not_lt.mpr h), fun a u h => ⟨u, sm a u h⟩⟩
    by_cases ha : a = p
    · subst ha; exact .inl hp
    · simp only [] at h; rw [upd_ne ha, h'] at h; cases h
  refine ⟨⟨fun a u h => ?_, fun k u h => ?_, fun k u h hg => ?_, R.inj, fun k hk => let ⟨u, e⟩ := R.th k hk; ⟨u, sm _ _ e⟩⟩, E⟩
  · simp only [] at h ⊢
    by_cases ha : a = p
    · subst ha; rw [upd_same] at h ⊢; exact h
    · rw [upd_ne ha] at h ⊢; exact R.sub _ _ h
  · have := R.ob k u h
    cases u with
    | gone => trivial
    | lst xs => obtain ⟨vs, e, r⟩ := this; exact ⟨vs, sm _ _ e, r.mono E⟩
    | dic kvs => obtain ⟨vs, e, r⟩ := this; exact ⟨vs, sm _ _ e, r.mono E⟩
    | tpl xs => obtain ⟨vs, e, r⟩ := this; exact ⟨vs, sm _ _ e, r.mono E⟩
    | dtu kvs => obtain ⟨vs, e, r⟩ := this; exact ⟨vs, sm _ _ e, r.mono E⟩
  · have h1 := R.ob k u h
    have h2 := R.off k u h hg
    have : W.at' k ≠ p := fun z => by
      rw [z, hp] at h1
      cases u with
      | gone => exact hg rfl
      | lst xs => obtain ⟨vs, e, r⟩ := h1; cases e
      | dic kvs => obtain ⟨vs, e, r⟩ := h1; cases e
      | tpl xs => obtain ⟨vs, e, r⟩ := h1; cases e
      | dtu kvs => obtain ⟨vs, e, r⟩ := h1; cases e
    simp only []
    rw [upd_ne this]; exact h2
/-- a new owned object -/
theorem Rl.own {p : Addr} {o : SO} {ho : HO} (R : Rl K W μ) (hp : W.H p = none) (hg : o ≠ .gone) (ho' : RO K W μ.length o (some ho)) :
    Rl K ⟨W.Hi, upd W.H p ho, fun k => if k = μ.length then p else W.at' k⟩ (μ ++ [o]) ∧ Ext W μ.length ⟨W.Hi, upd W.H p ho, fun k => if k = μ.length then p else W.at' k⟩ (μ ++ [o]).length := by
  have sm : Same W.H (upd W.H p ho) := fun b u e => by rw [upd_ne (ne_of_none e hp)]; exact e
  have hpi : W.Hi p = none := by
    cases q : W.Hi p with
    | none => rfl
    | some u => rw [R.sub _ _ q] at hp; cases hp
  have E : Ext W μ.length ⟨W.Hi, upd W.H p ho, fun k => if k = μ.length then p else W.at' k⟩ (μ ++ [o]).length := by
    refine ⟨Same.refl _, fun k h => if_neg (Nat.ne_of_lt h), by simp, fun a u h _ => sm a u h, fun a u h h' => ?_, fun k h h' => ?_, fun a u h => ⟨u, sm a u h⟩⟩
    · exact absurd (h.symm.trans h') (by simp)
    · have : k = μ.length := by simp at h'; omega
      simp only [this, if_pos]; exact hp
  have nat : ∀ k u, μ[k]? = some u → u ≠ .gone → W.at' k ≠ p := fun k u h hg z => by
    have h1 := R.ob k u h
    rw [z, hp] at h1
    cases u with
    | gone => exact hg rfl
    | lst xs => obtain ⟨vs, e, r⟩ := h1; cases e
    | dic kvs => obtain ⟨vs, e, r⟩ := h1; cases e
    | tpl xs => obtain ⟨vs, e, r⟩ := h1; cases e
    | dtu kvs => obtain ⟨vs, e, r⟩ := h1; cases e
  have lt : ∀ k (u : SO), μ[k]? = some u → k < μ.length := fun k u h => (List.getElem?_eq_some_iff.mp h).1
  have get : ∀ k u, (μ ++ [o])[k]? = some u → (k < μ.length ∧ μ[k]? = some u) ∨ (k = μ.length ∧ u = o) := fun k u h => by
    by_cases hk : k < μ.length
    · rw [List.getElem?_append_left hk] at h; exact .inl ⟨hk, h⟩
    · rw [List.getElem?_append_right (Nat.not_lt.mp hk)] at h
      have : k - μ.length = 0 := by
        cases q : k - μ.length with
        | zero => rfl
        | succ m => rw [q] at h; simp at h
      rw [this] at h; simp at h
      exact .inr ⟨by omega, h.symm⟩
  refine ⟨⟨R.sub.trans sm, fun k u h => ?_, fun k u h hu => ?_, fun j k u1 u2 h1 h2 g1 g2 e => ?_, fun k hk => ?_⟩, E⟩
  · rcases get k u h with ⟨hk, h⟩ | ⟨rfl, rfl⟩
    · simp only [if_neg (Nat.ne_of_lt hk)]
      have := R.ob k u h
      cases u with
      | gone => trivial
      | lst xs => obtain ⟨vs, e, r⟩ := this; exact ⟨vs, sm _ _ e, r.mono E⟩
      | dic kvs => obtain ⟨vs, e, r⟩ := this; exact ⟨vs, sm _ _ e, r.mono E⟩
      | tpl xs => obtain ⟨vs, e, r⟩ := this; exact ⟨vs, sm _ _ e, r.mono E⟩
      | dtu kvs => obtain ⟨vs, e, r⟩ := this; exact ⟨vs, sm _ _ e, r.mono E⟩
    · simp only [if_pos, upd_same]
      cases u with
      | gone => trivial
      | lst xs => obtain ⟨vs, e, r⟩ := ho'; exact ⟨vs, e, r.mono E⟩
      | dic kvs => obtain ⟨vs, e, r⟩ := ho'; exact ⟨vs, e, r.mono E⟩
      | tpl xs => obtain ⟨vs, e, r⟩ := ho'; exact ⟨vs, e, r.mono E⟩
      | dtu kvs => obtain ⟨vs, e, r⟩ := ho'; exact ⟨vs, e, r.mono E⟩
  · rcases get k u h with ⟨hk, h⟩ | ⟨rfl, rfl⟩
    · simp only [if_neg (Nat.ne_of_lt hk)]; exact R.off k u h hu
    · simp only [if_pos]; exact hpi
  · rcases get j u1 h1 with ⟨hj, q1⟩ | ⟨hj, q1⟩ <;> rcases get k u2 h2 with ⟨hk, q2⟩ | ⟨hk, q2⟩
    · simp only [if_neg (Nat.ne_of_lt hk), if_neg (Nat.ne_of_lt hj)] at e
      exact R.inj j k u1 u2 q1 q2 g1 g2 e
    · subst hk
      simp only [if_neg (Nat.ne_of_lt hj), if_pos] at e
      exact absurd e (nat j u1 q1 g1)
    · subst hj
      simp only [if_neg (Nat.ne_of_lt hk), if_pos] at e
      exact absurd e.symm (nat k u2 q2 g2)
    · rw [hj, hk]
  · simp only []
    by_cases hk' : k = μ.length
    · rw [if_pos hk']; exact ⟨_, upd_same⟩
    · rw [if_neg hk']
      obtain ⟨u, e⟩ := R.th k (by simp at hk; omega)
      exact ⟨u, sm _ _ e⟩
/-- an owned object is changed -/
theorem Rl.put {k : Nat} {o u : SO} {ho : HO} (R : Rl K W μ) (hk : μ[k]? = some o) (hg : o ≠ .gone) (hu : u ≠ .gone) (ho' : RO K W μ.length u (some ho)) :
    Rl K ⟨W.Hi, upd W.H (W.at' k) ho, W.at'⟩ (μ.set k u) ∧ Ext W μ.length ⟨W.Hi, upd W.H (W.at' k) ho, W.at'⟩ (μ.set k u).length := by
  have lk : k < μ.length := (List.getElem?_eq_some_iff.mp hk).1
  have E : Ext W μ.length ⟨W.Hi, upd W.H (W.at' k) ho, W.at'⟩ (μ.set k u).length := by
    refine ⟨Same.refl _, fun _ _ => rfl, by simp, fun a x h hn => ?_, fun a x h h' => ?_, fun j h h' => ?_, fun a x h => ?_⟩
    · simp only []; rw [upd_ne (fun z => hn k lk z.symm)]; exact h
    · exact absurd (h.symm.trans h') (by simp)
    · simp at h'; omega
    · by_cases ha : a = W.at' k
      · subst ha; exact ⟨_, upd_same⟩
      · exact ⟨x, by simp only []; rw [upd_ne ha]; exact h⟩
  refine ⟨⟨fun a x h => ?_, fun j x h => ?_, fun j x h hx => ?_, fun i j x y h1 h2 g1 g2 e => ?_, fun j hj => ?_⟩, E⟩
  · simp only [] at h ⊢
    by_cases ha : a = W.at' k
    · subst ha; rw [R.off k o hk hg] at h; cases h
    · rw [upd_ne ha]; exact R.sub _ _ h
  · simp only []
    by_cases hj : j = k
    · subst hj
      rw [List.getElem?_set_self lk] at h
      cases h
      rw [upd_same]
      cases u with
      | gone => trivial
      | lst xs => obtain ⟨vs, e, r⟩ := ho'; exact ⟨vs, e, r.mono E⟩
      | dic kvs => obtain ⟨vs, e, r⟩ := ho'; exact ⟨vs, e, r.mono E⟩
      | tpl xs => obtain ⟨vs, e, r⟩ := ho'; exact ⟨vs, e, r.mono E⟩
      | dtu kvs => obtain ⟨vs, e, r⟩ := ho'; exact ⟨vs, e, r.mono E⟩
    · rw [List.getElem?_set_ne (fun z => hj z.symm)] at h
      have := R.ob j x h
      cases x with
      | gone => trivial
      | lst xs =>
        have ne : W.at' j ≠ W.at' k := fun z => hj (R.inj j k _ _ h hk (by simp) hg z)
        obtain ⟨vs, e, r⟩ := this; exact ⟨vs, by rw [upd_ne ne]; exact e, r.mono E⟩
      | dic kvs =>
        have ne : W.at' j ≠ W.at' k := fun z => hj (R.inj j k _ _ h hk (by simp) hg z)
        obtain ⟨vs, e, r⟩ := this; exact ⟨vs, by rw [upd_ne ne]; exact e, r.mono E⟩
      | tpl xs =>
        have ne : W.at' j ≠ W.at' k := fun z => hj (R.inj j k _ _ h hk (by simp) hg z)
        obtain ⟨vs, e, r⟩ := this; exact ⟨vs, by rw [upd_ne ne]; exact e, r.mono E⟩
      | dtu kvs =>
        have ne : W.at' j ≠ W.at' k := fun z => hj (R.inj j k _ _ h hk (by simp) hg z)
        obtain ⟨vs, e, r⟩ := this; exact ⟨vs, by rw [upd_ne ne]; exact e, r.mono E⟩
  · by_cases hj : j = k
    · subst hj; exact R.off _ o hk hg
    · rw [List.getElem?_set_ne (fun z => hj z.symm)] at h; exact R.off j x h hx
  · have e1 : ∃ x', μ[i]? = some x' ∧ x' ≠ .gone := by
      by_cases hj : i = k
      · subst hj; exact ⟨o, hk, hg⟩
      · rw [List.getElem?_set_ne (fun z => hj z.symm)] at h1; exact ⟨x, h1, g1⟩
    have e2 : ∃ x', μ[j]? = some x' ∧ x' ≠ .gone := by
      by_cases hj : j = k
      · subst hj; exact ⟨o, hk, hg⟩
      · rw [List.getElem?_set_ne (fun z => hj z.symm)] at h2; exact ⟨y, h2, g2⟩
    obtain ⟨x1, q1, q2⟩ := e1
    obtain ⟨x2, q3, q4⟩ := e2
    exact R.inj i j x1 x2 q1 q3 q2 q4 e
  · simp only []
    by_cases ha : W.at' j = W.at' k
    · rw [ha]; exact ⟨_, upd_same⟩
    · rw [upd_ne ha]; exact R.th j (by simpa using hj)
/-- an owned list of data is frozen -/
theorem Rl.freeze {k : Nat} {ds : List PyData} (R : Rl K W μ) (hk : μ[k]? = some (.lst (ds.map PV.dat))) :
    ∃ W' : Wd, W'.H = W.H ∧ Rl K W' (μ.set k .gone) ∧ Ext W μ.length W' (μ.set k .gone).length ∧ Dt W'.Hi (.ref (W.at' k)) (.list ds) := by
  obtain ⟨vs, e, r⟩ := R.ob k _ hk
  have off := R.off k _ hk (by simp)
  have lk : k < μ.length := (List.getElem?_eq_some_iff.mp hk).1
  have smi : Same W.Hi (upd W.Hi (W.at' k) (.lst vs)) := fun b u e => by rw [upd_ne (ne_of_none e off)]; exact e
  have E : Ext W μ.length ⟨upd W.Hi (W.at' k) (.lst vs), W.H, W.at'⟩ (μ.set k .gone).length := by
    refine ⟨smi, fun _ _ => rfl, by simp, fun a u h _ => h, fun a u h h' => ?_, fun k h h' => ?_, fun a u h => ⟨u, h⟩⟩
    · by_cases ha : a = W.at' k
      · subst ha; exact .inr ⟨k, lk, rfl⟩
      · simp only [] at h; rw [upd_ne ha, h'] at h; cases h
    · simp at h'; omega
  refine ⟨⟨upd W.Hi (W.at' k) (.lst vs), W.H, W.at'⟩, rfl, ⟨fun a u h => ?_, fun j x h => ?_, fun j x h hx => ?_, fun i j x y h1 h2 g1 g2 e => ?_, fun j hj => R.th j (by simpa using hj)⟩, E, ?_⟩
  · simp only [] at h ⊢
    by_cases ha : a = W.at' k
    · subst ha; rw [upd_same] at h; cases h; exact e
    · rw [upd_ne ha] at h; exact R.sub _ _ h
  · simp only []
    by_cases hj : j = k
    · subst hj; rw [List.getElem?_set_self lk] at h; cases h; trivial
    · rw [List.getElem?_set_ne (fun z => hj z.symm)] at h
      have := R.ob j x h
      cases x with
      | gone => trivial
      | lst xs => obtain ⟨vs, e, r⟩ := this; exact ⟨vs, e, r.mono E⟩
      | dic kvs => obtain ⟨vs, e, r⟩ := this; exact ⟨vs, e, r.mono E⟩
      | tpl xs => obtain ⟨vs, e, r⟩ := this; exact ⟨vs, e, r.mono E⟩
      | dtu kvs => obtain ⟨vs, e, r⟩ := this; exact ⟨vs, e, r.mono E⟩
  · have hj : j ≠ k := fun z => by subst z; rw [List.getElem?_set_self lk] at h; cases h; exact hx rfl
    rw [List.getElem?_set_ne (fun z => hj z.symm)] at h
    have ne : W.at' j ≠ W.at' k := fun z => hj (R.inj j k _ _ h hk hx (by simp) z)
    simp only []
    rw [upd_ne ne]; exact R.off j x h hx
  · have hi : i ≠ k := fun z => by subst z; rw [List.getElem?_set_self lk] at h1; cases h1; exact g1 rfl
    have hj : j ≠ k := fun z => by subst z; rw [List.getElem?_set_self lk] at h2; cases h2; exact g2 rfl
    rw [List.getElem?_set_ne (fun z => hi z.symm)] at h1
    rw [List.getElem?_set_ne (fun z => hj z.symm)] at h2
    exact R.inj i j x y h1 h2 g1 g2 e
  · exact .lst upd_same (DtAll.mono smi (Pvs.dt r))
end
end VX
namespace VX
open PySem PySem.Spec PyProof.Rows L2

abbrev EvF := Evn → Sto → Option (PV × Sto)
abbrev TsF := Evn → Sto → Option (Bool × Sto)
abbrev ArF := Evn → Sto → Option (List PV × Sto)
abbrev OpF := PV → PV → Sto → Option (PV × Sto)
abbrev CaF := List PV → Sto → Option (PV × Sto)

section
variable (K : PySem.W.Frag)
def Kont (W : Wd) (n : Nat) (μ' : Sto) (v : PV) (Q : VK) : Prop := ∀ x W', Rl K W' μ' → Ext W n W' μ'.length → RPV K W' μ'.length v x → Q x W'.H
def KontT (W : Wd) (n : Nat) (μ' : Sto) (b : Bool) (Q : Bool → Hp → Prop) : Prop := ∀ W', Rl K W' μ' → Ext W n W' μ'.length → Q b W'.H
def KontA (W : Wd) (n : Nat) (μ' : Sto) (vs : List PV) (Q : List V → Hp → Prop) : Prop := ∀ xs W', Rl K W' μ' → Ext W n W' μ'.length → Pvs K W' μ'.length vs xs → Q xs W'.H
structure EnvR (W : Wd) (n : Nat) (σ : L2.St) (ε : Evn) : Prop where
  len : σ.length = ε.length
  get : ∀ (i : Nat) p, ε[i]? = some (some p) → ∃ x, σ[i]? = some (some x) ∧ RPV K W n p x
def Adq (te : TE) (ev : EvF) : Prop := ∀ W σ ε μ v μ' Q, Rl K W μ → EnvR K W μ.length σ ε → ev ε μ = some (v, μ') → Kont K W μ.length μ' v Q → te σ W.H Q
def AdqT (tt : TT) (ev : TsF) : Prop := ∀ W σ ε μ b μ' Q, Rl K W μ → EnvR K W μ.length σ ε → ev ε μ = some (b, μ') → KontT K W μ.length μ' b Q → tt σ W.H Q
def AdqA (ta : TA) (ev : ArF) : Prop := ∀ W σ ε μ vs μ' Q, Rl K W μ → EnvR K W μ.length σ ε → ev ε μ = some (vs, μ') → KontA K W μ.length μ' vs Q → ta σ W.H Q
/-- a two-place operation by values; a call by values -/
def AOp (r : R2) (f : OpF) : Prop := ∀ W μ x y px py v μ' Q, Rl K W μ → RPV K W μ.length px x → RPV K W μ.length py y → f px py μ = some (v, μ') → Kont K W μ.length μ' v Q → r x y W.H Q
def ACa (r : List V → Hp → VK → Prop) (f : CaF) : Prop := ∀ W μ xs ps v μ' Q, Rl K W μ → Pvs K W μ.length ps xs → f ps μ = some (v, μ') → Kont K W μ.length μ' v Q → r xs W.H Q
end
theorem EnvR.mono {K : PySem.W.Frag} {W W' : Wd} {n n' : Nat} {σ : L2.St} {ε : Evn} (h : EnvR K W n σ ε) (e : Ext W n W' n') : EnvR K W' n' σ ε :=
  ⟨h.len, fun i p q => let ⟨x, h1, h2⟩ := h.get i p q; ⟨x, h1, h2.mono e⟩⟩
theorem EnvR.set {K : PySem.W.Frag} {W : Wd} {n : Nat} {σ : L2.St} {ε : Evn} {p : PV} {x : V} (h : EnvR K W n σ ε) (i : Nat) (r : RPV K W n p x) : EnvR K W n (σ.set i (some x)) (ε.set i (some p)) := by
  refine ⟨by simp [h.len], fun j q e => ?_⟩
  by_cases hj : i = j
  · subst hj
    have hl : i < ε.length := by
      have := (List.getElem?_eq_some_iff.mp e).1
      simpa using this
    rw [List.getElem?_set_self hl] at e
    cases e
    exact ⟨x, List.getElem?_set_self (by rw [h.len]; exact hl), r⟩
  · rw [List.getElem?_set_ne hj] at e ⊢
    exact h.get j q e

structure VE (X : Cx) (e : Expr) (te : TE) (ev : EvF) : Prop where
  pe : PE X e te
  ad : Adq X.K te ev
structure VT (X : Cx) (e : Expr) (tt : TT) (ev : TsF) : Prop where
  pt : PT X e tt
  ad : AdqT X.K tt ev
structure VW (X : Cx) (e : Expr) (tt : TT) (ev : TsF) : Prop where
  pw : PW X e tt
  ad : AdqT X.K tt ev
structure VA (X : Cx) (es : List Expr) (ta : TA) (ev : ArF) : Prop where
  pa : PA X es ta
  ad : AdqA X.K ta ev

/-! ### the functions -/
@[simp] def eVar (i : Nat) : EvF := fun ε μ => match ε[i]? with | some (some v) => some (v, μ) | _ => none
@[simp] def eC (d : PyData) : EvF := fun _ μ => some (.dat d, μ)
@[simp] def eOp (f : OpF) (a b : EvF) : EvF := fun ε μ => (a ε μ).bind fun x => (b ε x.2).bind fun y => f x.1 y.1 y.2
@[simp] def eUn (f : PV → Option PV) (a : EvF) : EvF := fun ε μ => (a ε μ).bind fun x => (f x.1).map fun v => (v, x.2)
@[simp] def aNil : ArF := fun _ μ => some ([], μ)
@[simp] def aCons (a : EvF) (r : ArF) : ArF := fun ε μ => (a ε μ).bind fun x => (r ε x.2).bind fun y => some (x.1 :: y.1, y.2)
@[simp] def eCa (f : CaF) (a : ArF) : EvF := fun ε μ => (a ε μ).bind fun x => f x.1 x.2
@[simp] def eIf (t : TsF) (a b : EvF) : EvF := fun ε μ => (t ε μ).bind fun c => if c.1 = true then a ε c.2 else b ε c.2
@[simp] def tsE (a : EvF) : TsF := fun ε μ => (a ε μ).bind fun x => match x.1 with | .dat (.bool b) => some (b, x.2) | _ => none
@[simp] def tsAnd (a b : TsF) : TsF := fun ε μ => (a ε μ).bind fun c => if c.1 = true then b ε c.2 else some (false, c.2)
@[simp] def tsOr (a b : TsF) : TsF := fun ε μ => (a ε μ).bind fun c => if c.1 = true then some (true, c.2) else b ε c.2
@[simp] def tsNot (a : TsF) : TsF := fun ε μ => (a ε μ).bind fun c => some (!c.1, c.2)
@[simp] def eAnd (a b : EvF) : EvF := fun ε μ => (a ε μ).bind fun x => match x.1 with | .dat (.bool c) => (if c = true then b ε x.2 else some (.dat (.bool false), x.2)) | _ => none
@[simp] def eOr (a b : EvF) : EvF := fun ε μ => (a ε μ).bind fun x => match x.1 with | .dat (.bool c) => (if c = true then some (.dat (.bool true), x.2) else b ε x.2) | _ => none
@[simp] def eNot (a : EvF) : EvF := fun ε μ => (a ε μ).bind fun x => match x.1 with | .dat (.bool c) => some (.dat (.bool (!c)), x.2) | _ => none
@[simp] def mkL (own : Bool) (xs : List PV) (μ : Sto) : Option (PV × Sto) :=
  if xs.length ≤ cap then (if own then some (.ptr μ.length, μ ++ [.lst xs]) else (asDats xs).map fun ds => (.dat (.list ds), μ)) else none
@[simp] def mkT (xs : List PV) (μ : Sto) : Option (PV × Sto) :=
  if xs.length ≤ cap then (asDats xs).map fun ds => (.dat (.tuple ds), μ) else none
@[simp] def eLst (own : Bool) (a : ArF) : EvF := eCa (mkL own) a
@[simp] def eTup (a : ArF) : EvF := eCa mkT a
/-- a list's items -/
@[simp] def lstOf (μ : Sto) : PV → Option (List PV)
  | .dat (.list ds) => some (ds.map PV.dat)
  | .ptr k => match μ[k]? with | some (.lst xs) => some xs | _ => none
  | _ => none
/-- .. the script among them -/
@[simp] def lstOfS (μ : Sto) : PV → Option (List PV)
  | .scr ns => some (ns.map fun n => PV.dat (.int n))
  | p => lstOf μ p
@[simp] def seqOf (μ : Sto) : PV → Option (List PV)
  | .dat (.tuple ds) => some (ds.map PV.dat)
  | p => lstOfS μ p
/-- the datum as it stands -/
@[simp] def asD (μ : Sto) : PV → Option PyData
  | .dat d => some d
  | .ptr k => match μ[k]? with | some (.lst xs) => (asDats xs).map PyData.list | _ => none
  | _ => none

section
variable {K : PySem.W.Frag} {W W' : Wd} {n n' : Nat} {μ μ' : Sto}
theorem Kont.ext {v : PV} {Q : VK} (k : Kont K W n μ' v Q) (e : Ext W n W' n') : Kont K W' n' μ' v Q := fun x W2 R E r => k x W2 R (e.trans E) r
theorem KontT.ext {v : Bool} {Q : Bool → Hp → Prop} (k : KontT K W n μ' v Q) (e : Ext W n W' n') : KontT K W' n' μ' v Q := fun W2 R E => k W2 R (e.trans E)
theorem KontA.ext {v : List PV} {Q : List V → Hp → Prop} (k : KontA K W n μ' v Q) (e : Ext W n W' n') : KontA K W' n' μ' v Q := fun x W2 R E r => k x W2 R (e.trans E) r
theorem Kont.now {v : PV} {Q : VK} {x : V} (k : Kont K W μ.length μ v Q) (R : Rl K W μ) (r : RPV K W μ.length v x) : Q x W.H := k x W R (Ext.refl _ _) r
theorem asD_ok {p : PV} {x : V} {d : PyData} (R : Rl K W μ) (r : RPV K W μ.length p x) (h : asD μ p = some d) : Dp K W.H x d := by
  cases p with
  | dat e => simp [asD] at h; subst h; exact (Dt.mono R.sub r).dp
  | ptr k =>
    simp only [asD] at h
    cases q : μ[k]? with
    | none => rw [q] at h; cases h
    | some o =>
      rw [q] at h
      cases o with
      | lst xs =>
        simp only [Option.map_eq_some_iff] at h
        obtain ⟨ds, h1, rfl⟩ := h
        obtain ⟨vs, e, r2⟩ := R.ob k _ q
        rw [asDats_eq h1] at r2
        rw [r.2]
        exact .lst (SqL.of e) (DtAll.mono R.sub (Pvs.dt r2)).dp
      | dic kvs => cases h
      | tpl xs => cases h
      | dtu kvs => cases h
      | gone => cases h
  | scr ns => cases h
theorem lstOf_ok {p : PV} {x : V} {xs : List PV} (R : Rl K W μ) (r : RPV K W μ.length p x) (h : lstOf μ p = some xs) : ∃ a vs, x = .ref a ∧ W.H a = some (.lst vs) ∧ Pvs K W μ.length xs vs := by
  cases p with
  | dat e =>
    cases e with
    | list ds =>
      simp [lstOf] at h; subst h
      cases r with
      | lst e a => exact ⟨_, _, rfl, R.sub _ _ e, DtAll.pvs a⟩
    | none => cases h
    | bool => cases h
    | int => cases h
    | str => cases h
    | tuple => cases h
    | dict => cases h
  | ptr k =>
    simp only [lstOf] at h
    cases q : μ[k]? with
    | none => rw [q] at h; cases h
    | some o =>
      rw [q] at h
      cases o with
      | lst xs =>
        cases h
        obtain ⟨vs, e, r2⟩ := R.ob k _ q
        exact ⟨_, vs, r.2, e, r2⟩
      | dic kvs => cases h
      | tpl xs => cases h
      | dtu kvs => cases h
      | gone => cases h
  | scr ns => cases h
theorem lstOfS_ok {p : PV} {x : V} {xs : List PV} (R : Rl K W μ) (r : RPV K W μ.length p x) (h : lstOfS μ p = some xs) : ∃ a vs, x = .ref a ∧ SqL K W.H a vs ∧ Pvs K W μ.length xs vs := by
  have key : lstOf μ p = some xs → ∃ a vs, x = .ref a ∧ SqL K W.H a vs ∧ Pvs K W μ.length xs vs := fun h => by
    obtain ⟨a, vs, e1, e2, e3⟩ := lstOf_ok R r h
    exact ⟨a, vs, e1, SqL.of e2, e3⟩
  cases p with
  | dat e => exact key h
  | ptr k => exact key h
  | scr ns =>
    cases h
    obtain ⟨a, e1, e2⟩ := r
    refine ⟨a, _, e1, R.sub.seq e2, ?_⟩
    clear e2 key
    induction ns with
    | nil => exact .nil
    | cons m r ih => exact .cons (.int m) ih
theorem seqOf_ok {p : PV} {x : V} {xs : List PV} (R : Rl K W μ) (r : RPV K W μ.length p x) (h : seqOf μ p = some xs) : ∃ a vs, x = .ref a ∧ (SqL K W.H a vs ∨ SqT K W.H a vs) ∧ Pvs K W μ.length xs vs := by
  have key : lstOfS μ p = some xs → ∃ a vs, x = .ref a ∧ (SqL K W.H a vs ∨ SqT K W.H a vs) ∧ Pvs K W μ.length xs vs := fun h => by
    obtain ⟨a, vs, e1, e2, e3⟩ := lstOfS_ok R r h
    exact ⟨a, vs, e1, .inl e2, e3⟩
  cases p with
  | dat e =>
    cases e with
    | tuple ds =>
      simp [seqOf] at h; subst h
      cases r with
      | tup e a => exact ⟨_, _, rfl, .inr (SqT.of (R.sub _ _ e)), DtAll.pvs a⟩
    | none => exact key h
    | bool => exact key h
    | int => exact key h
    | str => exact key h
    | list => exact key h
    | dict => exact key h
  | ptr k => exact key h
  | scr ns => exact key h
theorem mkL_ok {own : Bool} {xs : List PV} {vs : List V} {v : PV} {Q : VK} (R : Rl K W μ) (r : Pvs K W μ.length xs vs) (h : mkL own xs μ = some (v, μ')) (k : Kont K W μ.length μ' v Q) :
    vs.length ≤ sizeLine ∧ ∀ p, W.H p = none → Q (.ref p) (upd W.H p (.lst vs)) := by
  unfold mkL at h
  by_cases hc : xs.length ≤ cap
  · rw [if_pos hc] at h
    refine ⟨by rw [← r.length]; exact cap_ok hc, fun p hp => ?_⟩
    cases own with
    | true =>
      simp only [if_true] at h
      cases h
      obtain ⟨R', E⟩ := R.own (o := .lst xs) (ho := .lst vs) hp (by simp) ⟨vs, rfl, r⟩
      exact k _ _ R' E ⟨by simp, by simp⟩
    | false =>
      simp only [Bool.false_eq_true, if_false, Option.map_eq_some_iff] at h
      obtain ⟨ds, h1, h2⟩ := h
      cases h2
      rw [asDats_eq h1] at r
      obtain ⟨R', E⟩ := R.imm (o := .lst vs) hp
      exact k _ _ R' E (.lst upd_same (DtAll.mono E.im (Pvs.dt r)))
  · rw [if_neg hc] at h; cases h
theorem mkT_ok {xs : List PV} {vs : List V} {v : PV} {Q : VK} (R : Rl K W μ) (r : Pvs K W μ.length xs vs) (h : mkT xs μ = some (v, μ')) (k : Kont K W μ.length μ' v Q) :
    vs.length ≤ sizeLine ∧ ∀ p, W.H p = none → Q (.ref p) (upd W.H p (.tup vs)) := by
  unfold mkT at h
  by_cases hc : xs.length ≤ cap
  · rw [if_pos hc] at h
    refine ⟨by rw [← r.length]; exact cap_ok hc, fun p hp => ?_⟩
    simp only [Option.map_eq_some_iff] at h
    obtain ⟨ds, h1, h2⟩ := h
    cases h2
    rw [asDats_eq h1] at r
    obtain ⟨R', E⟩ := R.imm (o := .tup vs) hp
    exact k _ _ R' E (.tup upd_same (DtAll.mono E.im (Pvs.dt r)))
  · rw [if_neg hc] at h; cases h
end

/-! ### names, constants, operators -/
section
variable {X : Cx} {a b c e o : Expr} {es rest : List Expr} {ta tb tc te : TE} {ea eb ec ev : EvF} {tt tu : TT} {et eu : TsF} {tl : TA} {el : ArF} {pos p : Pos}
theorem ve_var (i : Nat) {x : Str} {pos : Pos} (hN : X.N[i]? = some x := by rfl) (hv : Vis X.env.scope x := by first | exact Or.inl rfl | exact Or.inr (Or.inl rfl) | exact Or.inr (Or.inr rfl))
    (hd : (x == ("__debug__" : Str)) = false := by decide) (hcd : (x == ("__classdict__" : Str)) = false := by decide) : VE X (.Name x pos) (tVar i) (eVar i) := by
  refine ⟨pe_var hN hv hd hcd, fun W σ ε μ v μ' Q R En h k => ?_⟩
  unfold eVar at h
  cases q : ε[i]? with
  | none => rw [q] at h; cases h
  | some u =>
    rw [q] at h
    cases u with
    | none => cases h
    | some u =>
      cases h
      obtain ⟨x, h1, h2⟩ := En.get i _ q
      exact ⟨x, h1, k.now R h2⟩
theorem adq_c {K : PySem.W.Frag} {v : V} {d : PyData} (h : ∀ H, Dt H v d) : Adq K (tC v) (eC d) := fun W σ ε μ u μ' Q R En e k => by
  cases e
  exact k.now R (h _)
theorem ve_int {i j pos} : VE X (.Constant (.int i) j pos) (tC (.int i)) (eC (.int i)) := ⟨pe_int, adq_c fun _ => .int i⟩
theorem ve_bl {b j pos} : VE X (.Constant (.bool b) j pos) (tC (.bl b)) (eC (.bool b)) := ⟨pe_bl, adq_c fun _ => .bl b⟩
theorem ve_non {j pos} : VE X (.Constant .none j pos) (tC .non) (eC .none) := ⟨pe_non, adq_c fun _ => .non⟩
theorem ve_str {x j pos} : VE X (.Constant (.str x) j pos) (tC (.str x)) (eC (.str x)) := ⟨pe_str, adq_c fun _ => .str x⟩
theorem ve_gint {x : Str} {i : Int} {t : Tok} {pos : Pos} (hg : Gl X x) (hm : X.mg x = some (.int i t)) (hd : (x == ("__debug__" : Str)) = false := by decide) : VE X (.Name x pos) (tC (.int i)) (eC (.int i)) := ⟨pe_glob hg hm ⟨t, rfl⟩ hd, adq_c fun _ => .int i⟩
theorem ve_gstr {x : Str} {i : Str} {t : Tok} {pos : Pos} (hg : Gl X x) (hm : X.mg x = some (.str i t)) (hd : (x == ("__debug__" : Str)) = false := by decide) : VE X (.Name x pos) (tC (.str i)) (eC (.str i)) := ⟨pe_glob hg hm ⟨t, rfl⟩ hd, adq_c fun _ => .str i⟩
theorem adq_op {K : PySem.W.Frag} {r : R2} {f : OpF} (ha : Adq K ta ea) (hb : Adq K tb eb) (hr : AOp K r f) : Adq K (tOp r ta tb) (eOp f ea eb) := fun W σ ε μ v μ' Q R En h k => by
  unfold eOp at h
  simp only [Option.bind_eq_some_iff] at h
  obtain ⟨⟨x, μ1⟩, h1, ⟨y, μ2⟩, h2, h3⟩ := h
  refine ha W σ ε μ x μ1 _ R En h1 fun vx W1 R1 E1 r1 => ?_
  refine hb W1 σ ε μ1 y μ2 _ R1 (En.mono E1) h2 fun vy W2 R2 E2 r2 => ?_
  exact hr W2 μ2 vx vy x y v μ' Q R2 (r1.mono E2) r2 h3 (k.ext (E1.trans E2))
theorem ve_op {op : Operator} {r : R2} {f : OpF} (ho : OpR X (binaryOp op) r) (hr : AOp X.K r f) (ha : VE X a ta ea) (hb : VE X b tb eb) : VE X (.BinOp a op b pos) (tOp r ta tb) (eOp f ea eb) := ⟨pe_op ho ha.pe hb.pe, adq_op ha.ad hb.ad hr⟩
theorem ve_cmp {op : CmpOp} {r : R2} {f : OpF} (ho : OpR X (compareOp op) r) (hr : AOp X.K r f) (ha : VE X a ta ea) (hb : VE X b tb eb) (hm : behindInMarks op b = false) : VE X (.Compare a [op] [b] pos) (tOp r ta tb) (eOp f ea eb) := ⟨pe_cmpR ho ha.pe hb.pe hm, adq_op ha.ad hb.ad hr⟩
theorem ve_ix {r : R2} {f : OpF} (ho : IxR X r) (hr : AOp X.K r f) (ha : VE X a ta ea) (hb : VE X b tb eb) (hs : PlainIx b) : VE X (.Subscript a b pos) (tOp r ta tb) (eOp f ea eb) := ⟨pe_ix ho ha.pe hb.pe hs, adq_op ha.ad hb.ad hr⟩
def AUn (K : PySem.W.Frag) (r : V → Hp → VK → Prop) (f : PV → Option PV) : Prop := ∀ W μ x px v Q, Rl K W μ → RPV K W μ.length px x → f px = some v → Kont K W μ.length μ v Q → r x W.H Q
theorem ve_un {op : UnaryOp} {r : V → Hp → VK → Prop} {f : PV → Option PV} (ho : UnR X (unaryOp op) r) (hr : AUn X.K r f) (ha : VE X a ta ea) : VE X (.UnaryOp op a pos) (tUn r ta) (eUn f ea) := by
  refine ⟨pe_un ho ha.pe, fun W σ ε μ v μ' Q R En h k => ?_⟩
  unfold eUn at h
  simp only [Option.bind_eq_some_iff, Option.map_eq_some_iff] at h
  obtain ⟨⟨x, μ1⟩, h1, u, h2, h3⟩ := h
  cases h3
  exact ha.ad W σ ε μ x μ1 _ R En h1 fun vx W1 R1 E1 r1 => hr W1 μ1 vx x v Q R1 r1 h2 (k.ext E1)
theorem va_nil : VA X [] tNil aNil := ⟨pa_nil, fun W σ ε μ v μ' Q R En h k => by cases h; exact k _ W R (Ext.refl _ _) .nil⟩
theorem va_cons (ha : VE X e te ev) (hr : VA X es tl el) (hs : starEach (e :: es) X.env = (false, eval e X.env) :: starEach es X.env := by rfl) : VA X (e :: es) (tCons te tl) (aCons ev el) := by
  refine ⟨pa_cons ha.pe hr.pa hs, fun W σ ε μ v μ' Q R En h k => ?_⟩
  unfold aCons at h
  simp only [Option.bind_eq_some_iff] at h
  obtain ⟨⟨x, μ1⟩, h1, ⟨y, μ2⟩, h2, h3⟩ := h
  cases h3
  refine ha.ad W σ ε μ x μ1 _ R En h1 fun vx W1 R1 E1 r1 => ?_
  refine hr.ad W1 σ ε μ1 y μ2 _ R1 (En.mono E1) h2 fun vy W2 R2 E2 r2 => ?_
  exact k _ W2 R2 (E1.trans E2) (.cons (r1.mono E2) r2)
theorem ve_lst (own : Bool) (h : VA X es tl el) : VE X (.List es pos) (tLst tl) (eLst own el) := by
  refine ⟨pe_lst h.pa, fun W σ ε μ v μ' Q R En q k => ?_⟩
  unfold eLst eCa at q
  simp only [Option.bind_eq_some_iff] at q
  obtain ⟨⟨xs, μ1⟩, h1, h2⟩ := q
  exact h.ad W σ ε μ xs μ1 _ R En h1 fun vs W1 R1 E1 r1 => mkL_ok R1 r1 h2 (k.ext E1)
theorem ve_tup {x1} (h : VA X es tl el) : VE X (.Tuple es x1 pos) (tTup tl) (eTup el) := by
  refine ⟨pe_tup h.pa, fun W σ ε μ v μ' Q R En q k => ?_⟩
  unfold eTup eCa at q
  simp only [Option.bind_eq_some_iff] at q
  obtain ⟨⟨xs, μ1⟩, h1, h2⟩ := q
  exact h.ad W σ ε μ xs μ1 _ R En h1 fun vs W1 R1 E1 r1 => mkT_ok R1 r1 h2 (k.ext E1)
theorem adq_ca {K : PySem.W.Frag} {r : List V → Hp → VK → Prop} {f : CaF} (h : AdqA K tl el) (hr : ACa K r f) : Adq K (tCB r tl) (eCa f el) := fun W σ ε μ v μ' Q R En q k => by
  unfold eCa at q
  simp only [Option.bind_eq_some_iff] at q
  obtain ⟨⟨xs, μ1⟩, h1, h2⟩ := q
  exact h W σ ε μ xs μ1 _ R En h1 fun vs W1 R1 E1 r1 => hr W1 μ1 vs xs v μ' Q R1 r1 h2 (k.ext E1)
theorem ve_ca {x : Str} {id : String} {r : List V → Hp → VK → Prop} {f : CaF} (hc : CallR X (.builtin id) r) (hr : ACa X.K r f) (hg : Gl X x) (hm : X.mg x = none) (hv : bootBuiltins x = some (.builtin id)) (h : VA X (e :: es) tl el) (hn : x ≠ "__name__" := by decide) (hdb : (x == ("__debug__" : Str)) = false := by decide)
    (he : starEach (e :: es) X.env = (false, eval e X.env) :: starEach es X.env := by rfl) (hpl : (backTo pos (starEach es X.env)).any (·.1) = false := by rfl) : VE X (.Call (.Name x p) (e :: es) [] pos) (tCB r tl) (eCa f el) :=
  ⟨pe_callB hc hg hm hv h.pa hn hdb he hpl, adq_ca h.ad hr⟩
theorem ve_caT {x : Str} {T : String} {r : List V → Hp → VK → Prop} {f : CaF} (hc : CallR X (.type T) r) (hr : ACa X.K r f) (hg : Gl X x) (hm : X.mg x = none) (hv : bootBuiltins x = some (.type T)) (h : VA X (e :: es) tl el) (hn : x ≠ "__name__" := by decide) (hdb : (x == ("__debug__" : Str)) = false := by decide)
    (he : starEach (e :: es) X.env = (false, eval e X.env) :: starEach es X.env := by rfl) (hpl : (backTo pos (starEach es X.env)).any (·.1) = false := by rfl) : VE X (.Call (.Name x p) (e :: es) [] pos) (tCB r tl) (eCa f el) :=
  ⟨pe_callTy hc hg hm hv h.pa hn hdb he hpl, adq_ca h.ad hr⟩
/-! ### tests -/
theorem adq_tE {K : PySem.W.Frag} (h : Adq K te ev) : AdqT K (tB te) (tsE ev) := fun W σ ε μ v μ' Q R En q k => by
  unfold tsE at q
  simp only [Option.bind_eq_some_iff] at q
  obtain ⟨⟨x, μ1⟩, h1, h2⟩ := q
  refine h W σ ε μ x μ1 _ R En h1 fun vx W1 R1 E1 r1 => ?_
  split at h2
  · rename_i bb e
    cases h2
    simp only [] at e
    subst e
    cases r1
    exact ⟨_, rfl, k W1 R1 E1⟩
  · cases h2
theorem vt_val (h : VE X e te ev) (he : ∀ whole, isTrue e X.env whole = (do let v ← whole; standAt e.pos; holding [v] (truthy v)) := by intro _; rfl) : VT X e (tB te) (tsE ev) := ⟨pt_val h.pe he, adq_tE h.ad⟩
theorem vt_cmp {op : CmpOp} {r : R2} {f : OpF} (ho : OpR X (compareOp op) r) (hr : AOp X.K r f) (ha : VE X a ta ea) (hb : VE X b tb eb) (hm : behindInMarks op b = false) : VT X (.Compare a [op] [b] pos) (tTest (tOp r ta tb)) (tsE (eOp f ea eb)) :=
  ⟨pt_cmpR ho ha.pe hb.pe hm, adq_tE (adq_op ha.ad hb.ad hr)⟩
theorem adq_and {K : PySem.W.Frag} (h : AdqT K tt et) (h' : AdqT K tu eu) : AdqT K (tAnd tt tu) (tsAnd et eu) := fun W σ ε μ v μ' Q R En q k => by
  unfold tsAnd at q
  simp only [Option.bind_eq_some_iff] at q
  obtain ⟨⟨c, μ1⟩, h1, h2⟩ := q
  refine h W σ ε μ c μ1 _ R En h1 fun W1 R1 E1 => ?_
  cases c with
  | true => exact iteT (h' W1 σ ε μ1 v μ' Q R1 (En.mono E1) h2 (k.ext E1))
  | false => cases h2; exact iteF (k W1 R1 E1)
theorem adq_or {K : PySem.W.Frag} (h : AdqT K tt et) (h' : AdqT K tu eu) : AdqT K (tOr tt tu) (tsOr et eu) := fun W σ ε μ v μ' Q R En q k => by
  unfold tsOr at q
  simp only [Option.bind_eq_some_iff] at q
  obtain ⟨⟨c, μ1⟩, h1, h2⟩ := q
  refine h W σ ε μ c μ1 _ R En h1 fun W1 R1 E1 => ?_
  cases c with
  | false => exact iteF (h' W1 σ ε μ1 v μ' Q R1 (En.mono E1) h2 (k.ext E1))
  | true => cases h2; exact iteT (k W1 R1 E1)
theorem vw_and1 (ha : VT X a tt et) : VW X (.BoolOp .And [a] pos) tt et := ⟨pw_and1 ha.pt, ha.ad⟩
theorem vw_or1 (ha : VT X a tt et) : VW X (.BoolOp .Or [a] pos) tt et := ⟨pw_or1 ha.pt, ha.ad⟩
theorem vw_and (ha : VT X a tt et) (hb : VW X (.BoolOp .And (b :: rest) pos) tu eu) : VW X (.BoolOp .And (a :: b :: rest) pos) (tAnd tt tu) (tsAnd et eu) := ⟨pw_and ha.pt hb.pw, adq_and ha.ad hb.ad⟩
theorem vw_or (ha : VT X a tt et) (hb : VW X (.BoolOp .Or (b :: rest) pos) tu eu) : VW X (.BoolOp .Or (a :: b :: rest) pos) (tOr tt tu) (tsOr et eu) := ⟨pw_or ha.pt hb.pw, adq_or ha.ad hb.ad⟩
theorem VW.vt (h : VW X a tt et) : VT X a tt et := ⟨h.pw.pt, h.ad⟩
theorem vt_not (ha : VT X a tt et) : VT X (.UnaryOp .Not a pos) (tNot tt) (tsNot et) := by
  refine ⟨pt_not ha.pt, fun W σ ε μ v μ' Q R En q k => ?_⟩
  unfold tsNot at q
  simp only [Option.bind_eq_some_iff] at q
  obtain ⟨⟨c, μ1⟩, h1, h2⟩ := q
  cases h2
  exact ha.ad W σ ε μ c μ1 _ R En h1 fun W1 R1 E1 => k W1 R1 E1
theorem ve_if (hc : VT X c tt et) (ha : VE X a ta ea) (hb : VE X b tb eb) : VE X (.IfExp c a b pos) (tIf tt ta tb) (eIf et ea eb) := by
  refine ⟨pe_ifExp hc.pt ha.pe hb.pe, fun W σ ε μ v μ' Q R En q k => ?_⟩
  unfold eIf at q
  simp only [Option.bind_eq_some_iff] at q
  obtain ⟨⟨c, μ1⟩, h1, h2⟩ := q
  refine hc.ad W σ ε μ c μ1 _ R En h1 fun W1 R1 E1 => ?_
  cases c with
  | true => exact iteT (ha.ad W1 σ ε μ1 v μ' Q R1 (En.mono E1) h2 (k.ext E1))
  | false => exact iteF (hb.ad W1 σ ε μ1 v μ' Q R1 (En.mono E1) h2 (k.ext E1))
/-! ### and, or, not as values -/
theorem rpv_bl {K : PySem.W.Frag} {W : Wd} {n : Nat} {b : Bool} {x : V} (h : RPV K W n (.dat (.bool b)) x) : x = .bl b := by cases h; rfl
theorem ve_one {op} (h : VE X a ta ea) : VE X (.BoolOp op [a] pos) ta ea := ⟨pe_one h.pe, h.ad⟩
theorem ve_and (ha : VE X a ta ea) (hb : VE X (.BoolOp .And (b :: rest) pos) tb eb) : VE X (.BoolOp .And (a :: b :: rest) pos) (tAndV ta tb) (eAnd ea eb) := by
  refine ⟨pe_and ha.pe hb.pe, fun W σ ε μ v μ' Q R En q k => ?_⟩
  unfold eAnd at q
  simp only [Option.bind_eq_some_iff] at q
  obtain ⟨⟨x, μ1⟩, h1, h2⟩ := q
  refine ha.ad W σ ε μ x μ1 _ R En h1 fun vx W1 R1 E1 r1 => ?_
  split at h2
  · rename_i c e
    simp only [] at e h2
    subst e
    obtain rfl := rpv_bl r1
    cases c with
    | true => exact ⟨_, rfl, iteT (hb.ad W1 σ ε μ1 v μ' Q R1 (En.mono E1) h2 (k.ext E1))⟩
    | false => cases h2; exact ⟨_, rfl, iteF (k _ W1 R1 E1 (.bl false))⟩
  · cases h2
theorem ve_or (ha : VE X a ta ea) (hb : VE X (.BoolOp .Or (b :: rest) pos) tb eb) : VE X (.BoolOp .Or (a :: b :: rest) pos) (tOrV ta tb) (eOr ea eb) := by
  refine ⟨pe_or ha.pe hb.pe, fun W σ ε μ v μ' Q R En q k => ?_⟩
  unfold eOr at q
  simp only [Option.bind_eq_some_iff] at q
  obtain ⟨⟨x, μ1⟩, h1, h2⟩ := q
  refine ha.ad W σ ε μ x μ1 _ R En h1 fun vx W1 R1 E1 r1 => ?_
  split at h2
  · rename_i c e
    simp only [] at e h2
    subst e
    obtain rfl := rpv_bl r1
    cases c with
    | false => exact ⟨_, rfl, iteF (hb.ad W1 σ ε μ1 v μ' Q R1 (En.mono E1) h2 (k.ext E1))⟩
    | true => cases h2; exact ⟨_, rfl, iteT (k _ W1 R1 E1 (.bl true))⟩
  · cases h2
theorem ve_not (ha : VE X a ta ea) : VE X (.UnaryOp .Not a pos) (tNotV ta) (eNot ea) := by
  refine ⟨pe_not ha.pe, fun W σ ε μ v μ' Q R En q k => ?_⟩
  unfold eNot at q
  simp only [Option.bind_eq_some_iff] at q
  obtain ⟨⟨x, μ1⟩, h1, h2⟩ := q
  refine ha.ad W σ ε μ x μ1 _ R En h1 fun vx W1 R1 E1 r1 => ?_
  split at h2
  · rename_i c e
    simp only [] at e h2
    subst e
    obtain rfl := rpv_bl r1
    cases h2
    exact ⟨_, rfl, k _ W1 R1 E1 (.bl _)⟩
  · cases h2
end
end VX
namespace VX
open PySem PySem.Spec PyProof.Rows L2

inductive Out where
  | nx (ε : Evn) (μ : Sto)
  | rt (v : PV) (μ : Sto)
  | bk (ε : Evn) (μ : Sto)
  | ct (ε : Evn) (μ : Sto)
abbrev RnF := Evn → Sto → Option Out
abbrev TgF := PV → Evn → Sto → Option (Evn × Sto)
abbrev SrF := Evn → Sto → Option ((List PV × Option Nat) × Sto)

section
variable (K : PySem.W.Frag)
def OutOk (W : Wd) (n : Nat) (D : Ends) : Out → Prop
  | .nx ε μ => ∀ W' σ', Rl K W' μ → Ext W n W' μ.length → EnvR K W' μ.length σ' ε → D.nx σ' W'.H
  | .rt v μ => ∀ W' x, Rl K W' μ → Ext W n W' μ.length → RPV K W' μ.length v x → D.rt x W'.H
  | .bk ε μ => ∀ W' σ', Rl K W' μ → Ext W n W' μ.length → EnvR K W' μ.length σ' ε → D.bk σ' W'.H
  | .ct ε μ => ∀ W' σ', Rl K W' μ → Ext W n W' μ.length → EnvR K W' μ.length σ' ε → D.ct σ' W'.H
def AdqS (ts : TS) (rn : RnF) : Prop := ∀ W σ ε μ out D, Rl K W μ → EnvR K W μ.length σ ε → rn ε μ = some out → OutOk K W μ.length D out → ts D σ W.H
def AdqG (g : TG) (tg : TgF) : Prop := ∀ W σ ε μ v x ε' μ' (Q : L2.St → Hp → Prop), Rl K W μ → EnvR K W μ.length σ ε → RPV K W μ.length v x → tg v ε μ = some (ε', μ') →
  (∀ W' σ', Rl K W' μ' → Ext W μ.length W' μ'.length → EnvR K W' μ'.length σ' ε' → Q σ' W'.H) → g x σ W.H Q
def AdqGs (g : TGs) (tg : List PV → Evn → Sto → Option (Evn × Sto)) : Prop := ∀ W σ ε μ vs xs ε' μ' (Q : L2.St → Hp → Prop), Rl K W μ → EnvR K W μ.length σ ε → Pvs K W μ.length vs xs → tg vs ε μ = some (ε', μ') →
  (∀ W' σ', Rl K W' μ' → Ext W μ.length W' μ'.length → EnvR K W' μ'.length σ' ε' → Q σ' W'.H) → g xs σ W.H Q
/-- a guard: the owned list k is still as it was -/
def Grd (items : List PV) (μ : Sto) : Option Nat → Prop
  | none => True
  | some k => μ[k]? = some (.lst items)
def Gives (J : It) (items : List PV) (ok : Option Nat) (W0 : Wd) (n0 : Nat) : Prop := ∀ W μ, Rl K W μ → ExtL W0 n0 W μ.length → Grd items μ ok →
  (∀ (i : Nat) p, items[i]? = some p → J.go i W.H ∧ ∀ x H', J.yld i W.H x H' → ∃ W', W'.H = H' ∧ Rl K W' μ ∧ Ext W μ.length W' μ.length ∧ RPV K W' μ.length p x) ∧ J.stop items.length W.H
def AdqI (wi : TI) (src : SrF) : Prop := ∀ W σ ε μ items ok μ' (R : It → Hp → Prop), Rl K W μ → EnvR K W μ.length σ ε → src ε μ = some ((items, ok), μ') →
  (∀ W' J, Rl K W' μ' → Ext W μ.length W' μ'.length → Gives K J items ok W' μ'.length → R J W'.H) → wi σ W.H R
end
structure VS (X : Cx) (st : Stmt) (ts : TS) (rn : RnF) : Prop where
  ps : PS X st ts
  ad : AdqS X.K ts rn
structure VSs (X : Cx) (sts : List Stmt) (ts : TS) (rn : RnF) : Prop where
  ps : PSs X sts ts
  ad : AdqS X.K ts rn
structure VG (X : Cx) (e : Expr) (g : TG) (tg : TgF) : Prop where
  pg : PG X e g
  ad : AdqG X.K g tg
structure VGs (X : Cx) (es : List Expr) (g : TGs) (tg : List PV → Evn → Sto → Option (Evn × Sto)) : Prop where
  pg : PGs X es g
  ad : AdqGs X.K g tg
structure VI (X : Cx) (tg iter : Expr) (wi : TI) (src : SrF) : Prop where
  pi : PI X tg iter wi
  ad : AdqI X.K wi src

theorem OutOk.ext {K : PySem.W.Frag} {W W' : Wd} {n n' : Nat} {D : Ends} {o : Out} (k : OutOk K W n D o) (e : Ext W n W' n') : OutOk K W' n' D o := by
  cases o with
  | nx ε μ => exact fun W2 σ2 R E En => k W2 σ2 R (e.trans E) En
  | rt ε μ => exact fun W2 σ2 R E En => k W2 σ2 R (e.trans E) En
  | bk ε μ => exact fun W2 σ2 R E En => k W2 σ2 R (e.trans E) En
  | ct ε μ => exact fun W2 σ2 R E En => k W2 σ2 R (e.trans E) En

/-! ### statements -/
@[simp] def sSeq (a b : RnF) : RnF := fun ε μ => (a ε μ).bind fun o => match o with | .nx ε' μ' => b ε' μ' | o => some o
@[simp] def sNil : RnF := fun ε μ => some (.nx ε μ)
@[simp] def sBrk : RnF := fun ε μ => some (.bk ε μ)
@[simp] def sCnt : RnF := fun ε μ => some (.ct ε μ)
@[simp] def sSet (i : Nat) (e : EvF) : RnF := fun ε μ => (e ε μ).bind fun x => some (.nx (ε.set i (some x.1)) x.2)
@[simp] def sRet (e : EvF) : RnF := fun ε μ => (e ε μ).bind fun x => some (.rt x.1 x.2)
@[simp] def sRetN : RnF := fun ε μ => some (.rt (.dat .none) μ)
@[simp] def sIf (t : TsF) (a b : RnF) : RnF := fun ε μ => (t ε μ).bind fun c => if c.1 = true then a ε c.2 else b ε c.2
@[simp] def sExpr (e : EvF) : RnF := fun ε μ => (e ε μ).bind fun x => some (.nx ε x.2)
@[simp] def sAsg (e : EvF) (g : TgF) : RnF := fun ε μ => (e ε μ).bind fun x => (g x.1 ε x.2).bind fun y => some (.nx y.1 y.2)
/-- the turn's end -/
@[simp] def turnO (k : RnF) : Out → Option Out
  | .nx ε μ => k ε μ
  | .ct ε μ => k ε μ
  | .bk ε μ => some (.nx ε μ)
  | .rt v μ => some (.rt v μ)
def whileN (c : TsF) (b : RnF) : Nat → RnF
  | 0 => fun _ _ => none
  | m + 1 => fun ε μ => (c ε μ).bind fun r => if r.1 = true then (b ε r.2).bind (turnO (whileN c b m)) else some (.nx ε r.2)
mutual
def dEq : PyData → PyData → Bool
  | .none, .none => true
  | .bool a, .bool b => a == b
  | .int a, .int b => a == b
  | .str a, .str b => a == b
  | .list a, .list b => dsEq a b
  | .tuple a, .tuple b => dsEq a b
  | _, _ => false
def dsEq : List PyData → List PyData → Bool
  | [], [] => true
  | a :: as, b :: bs => dEq a b && dsEq as bs
  | _, _ => false
end
mutual
theorem dEq_eq : ∀ a b : PyData, dEq a b = true → a = b
  | .none, b, h => by cases b <;> simp_all [dEq]
  | .bool x, b, h => by cases b <;> simp_all [dEq]
  | .int x, b, h => by cases b <;> simp_all [dEq]
  | .str x, b, h => by cases b <;> simp_all [dEq]
  | .dict x, b, h => by cases b <;> simp_all [dEq]
  | .list x, b, h => by
    cases b with
    | list y => rw [dsEq_eq x y (by simpa [dEq] using h)]
    | _ => simp_all [dEq]
  | .tuple x, b, h => by
    cases b with
    | tuple y => rw [dsEq_eq x y (by simpa [dEq] using h)]
    | _ => simp_all [dEq]
theorem dsEq_eq : ∀ a b : List PyData, dsEq a b = true → a = b
  | [], [], _ => rfl
  | [], _ :: _, h => by simp [dsEq] at h
  | _ :: _, [], h => by simp [dsEq] at h
  | a :: as, b :: bs, h => by
    simp only [dsEq, Bool.and_eq_true] at h
    rw [dEq_eq a b h.1, dsEq_eq as bs h.2]
end
def pEq : PV → PV → Bool
  | .dat a, .dat b => dEq a b
  | .ptr a, .ptr b => a == b
  | .scr a, .scr b => a == b
  | _, _ => false
theorem pEq_eq {a b : PV} (h : pEq a b = true) : a = b := by
  cases a <;> cases b <;> simp_all [pEq]
  exact dEq_eq _ _ h
def psEq : List PV → List PV → Bool
  | [], [] => true
  | a :: as, b :: bs => pEq a b && psEq as bs
  | _, _ => false
theorem psEq_eq : ∀ {a b : List PV}, psEq a b = true → a = b
  | [], [], _ => rfl
  | [], _ :: _, h => by simp [psEq] at h
  | _ :: _, [], h => by simp [psEq] at h
  | a :: as, b :: bs, h => by
    simp only [psEq, Bool.and_eq_true] at h
    rw [pEq_eq h.1, psEq_eq h.2]
def okG (items : List PV) (ok : Option Nat) (μ : Sto) : Bool := match ok with
  | none => true
  | some k => match μ[k]? with | some (.lst xs) => psEq xs items | _ => false
def forD (G : Sto → Bool) (tg : TgF) (b : RnF) : List PV → RnF
  | [] => fun ε μ => if G μ = true then some (.nx ε μ) else none
  | p :: r => fun ε μ => if G μ = true then (tg p ε μ).bind fun y => (b y.1 y.2).bind (turnO (forD G tg b r)) else none
def sFor (src : SrF) (tg : TgF) (b : RnF) : RnF := fun ε μ => (src ε μ).bind fun x => forD (okG x.1.1 x.1.2) tg b x.1.1 ε x.2
@[simp] def tgN (i : Nat) : TgF := fun v ε μ => some (ε.set i (some v), μ)
@[simp] def tgsNil : List PV → Evn → Sto → Option (Evn × Sto) := fun vs ε μ => match vs with | [] => some (ε, μ) | _ => none
@[simp] def tgsCons (t : TgF) (u : List PV → Evn → Sto → Option (Evn × Sto)) : List PV → Evn → Sto → Option (Evn × Sto) := fun vs ε μ => match vs with
  | v :: r => (t v ε μ).bind fun y => u r y.1 y.2
  | [] => none
@[simp] def tgT (n : Nat) (u : List PV → Evn → Sto → Option (Evn × Sto)) : TgF := fun v ε μ => match v with
  | .dat (.tuple ds) => if ds.length = n then u (ds.map PV.dat) ε μ else none
  | .ptr k => match μ[k]? with | some (.tpl xs) => if xs.length = n then u xs ε μ else none | _ => none
  | _ => none

section
variable {X : Cx} {st : Stmt} {rest sts sts' : List Stmt} {ts us : TS} {rn rm : RnF} {e c tg iter : Expr} {te : TE} {ev : EvF} {tt : TT} {et : TsF} {pos : Pos} {g : TG} {gf : TgF} {gs : TGs} {gfs : List PV → Evn → Sto → Option (Evn × Sto)} {wi : TI} {src : SrF}
theorem vss_nil : VSs X [] tNext sNil := ⟨pss_nil, fun W σ ε μ out D R En h k => by cases h; exact k W σ R (Ext.refl _ _) En⟩
theorem vss_one (h : VS X st ts rn) : VSs X [st] ts rn := ⟨pss_one h.ps, h.ad⟩
theorem adq_seq {K : PySem.W.Frag} (h1 : AdqS K ts rn) (h2 : AdqS K us rm) : AdqS K (tSeq ts us) (sSeq rn rm) := fun W σ ε μ out D R En h k => by
  unfold sSeq at h
  simp only [Option.bind_eq_some_iff] at h
  obtain ⟨o, q1, q2⟩ := h
  refine h1 W σ ε μ o _ R En q1 ?_
  cases o with
  | nx ε1 μ1 => exact fun W1 σ1 R1 E1 En1 => h2 W1 σ1 ε1 μ1 out D R1 En1 q2 (k.ext E1)
  | rt v μ1 => cases q2; exact k
  | bk ε1 μ1 => cases q2; exact k
  | ct ε1 μ1 => cases q2; exact k
theorem vss_cons (h1 : VS X st ts rn) (h2 : VSs X rest us rm) : VSs X (st :: rest) (tSeq ts us) (sSeq rn rm) := ⟨pss_cons h1.ps h2.ps, adq_seq h1.ad h2.ad⟩
theorem vs_pass : VS X (.Pass pos) tNext sNil := ⟨ps_pass, fun W σ ε μ out D R En h k => by cases h; exact k W σ R (Ext.refl _ _) En⟩
theorem vs_break : VS X (.Break pos) tBreak sBrk := ⟨ps_break, fun W σ ε μ out D R En h k => by cases h; exact k W σ R (Ext.refl _ _) En⟩
theorem vs_continue : VS X (.Continue pos) tCont sCnt := ⟨ps_continue, fun W σ ε μ out D R En h k => by cases h; exact k W σ R (Ext.refl _ _) En⟩
theorem adq_set {K : PySem.W.Frag} {i : Nat} (h : Adq K te ev) : AdqS K (tAsg te (gName i)) (sSet i ev) := fun W σ ε μ out D R En q k => by
  unfold sSet at q
  simp only [Option.bind_eq_some_iff] at q
  obtain ⟨⟨x, μ1⟩, q1, q2⟩ := q
  cases q2
  exact h W σ ε μ x μ1 _ R En q1 fun vx W1 R1 E1 r1 => k W1 _ R1 E1 ((En.mono E1).set i r1)
theorem vs_set {i : Nat} {x : Str} {pos' : Pos} (hN : X.N.Nodup) (hi : X.N[i]? = some x) (hx : Loc X.env.scope x) (he : VE X e te ev) (hs : swapsWith e (some (.Name x pos')) pos.line X.env = pure false := by rfl)
    (hf : X.fn x = true ∨ X.env.scope.names.lookup x = some .local := by first | exact .inl rfl | exact .inr rfl | assumption) : VS X (.Assign [.Name x pos'] e pos) (tAsg te (gName i)) (sSet i ev) := ⟨ps_set hN hi hx he.pe hs hf, adq_set he.ad⟩
theorem vs_ret (he : VE X e te ev) : VS X (.Return (some e) pos) (tRet te) (sRet ev) := ⟨ps_ret he.pe, fun W σ ε μ out D R En q k => by
  unfold sRet at q
  simp only [Option.bind_eq_some_iff] at q
  obtain ⟨⟨x, μ1⟩, q1, q2⟩ := q
  cases q2
  exact he.ad W σ ε μ x μ1 _ R En q1 fun vx W1 R1 E1 r1 => k W1 _ R1 E1 r1⟩
theorem vs_retN : VS X (.Return none pos) tRetN sRetN := ⟨ps_retN, fun W σ ε μ out D R En q k => by cases q; exact k W _ R (Ext.refl _ _) .non⟩
theorem vs_expr (he : VE X e te ev) (hs : swapsWith e none pos.line X.env = pure false := by rfl) : VS X (.Expr e pos) (tDrop te) (sExpr ev) := ⟨ps_expr he.pe hs, fun W σ ε μ out D R En q k => by
  unfold sExpr at q
  simp only [Option.bind_eq_some_iff] at q
  obtain ⟨⟨x, μ1⟩, q1, q2⟩ := q
  cases q2
  exact he.ad W σ ε μ x μ1 _ R En q1 fun vx W1 R1 E1 r1 => k W1 _ R1 E1 (En.mono E1)⟩
theorem vs_if (hc : VT X c tt et) (ha : VSs X sts ts rn) (hb : VSs X sts' us rm) : VS X (.If c sts sts' pos) (tIfS tt ts us) (sIf et rn rm) := ⟨ps_if hc.pt ha.ps hb.ps, fun W σ ε μ out D R En q k => by
  unfold sIf at q
  simp only [Option.bind_eq_some_iff] at q
  obtain ⟨⟨b, μ1⟩, q1, q2⟩ := q
  refine hc.ad W σ ε μ b μ1 _ R En q1 fun W1 R1 E1 => ?_
  cases b with
  | true => exact iteT (ha.ad W1 σ ε μ1 out D R1 (En.mono E1) q2 (k.ext E1))
  | false => exact iteF (hb.ad W1 σ ε μ1 out D R1 (En.mono E1) q2 (k.ext E1))⟩
/-! ### targets -/
theorem adq_gN {K : PySem.W.Frag} (i : Nat) : AdqG K (gName i) (tgN i) := fun W σ ε μ v x ε' μ' Q R En r h k => by
  cases h
  exact k W _ R (Ext.refl _ _) (En.set i r)
theorem vg_name {i : Nat} {x : Str} (hN : X.N.Nodup) (hi : X.N[i]? = some x) (hx : Loc X.env.scope x) (hf : X.fn x = true ∨ X.env.scope.names.lookup x = some .local := by first | exact .inl rfl | exact .inr rfl | assumption) : VG X (.Name x pos) (gName i) (tgN i) :=
  ⟨pg_name hN hi hx hf, adq_gN i⟩
theorem vgs_nil : VGs X [] gNil tgsNil := ⟨pgs_nil, fun W σ ε μ vs xs ε' μ' Q R En r h k => by
  cases r with
  | nil => cases h; exact ⟨rfl, k W σ R (Ext.refl _ _) En⟩
  | cons => cases h⟩
theorem vgs_cons {es : List Expr} (h1 : VG X e g gf) (h2 : VGs X es gs gfs) (hs : (assignEach (e :: es) X.env).map (·.2) = assign e X.env :: (assignEach es X.env).map (·.2) := by rfl) : VGs X (e :: es) (gCons g gs) (tgsCons gf gfs) := ⟨pgs_cons h1.pg h2.pg hs, fun W σ ε μ vs xs ε' μ' Q R En r h k => by
  cases r with
  | nil => cases h
  | cons rx rr =>
    unfold tgsCons at h
    simp only [Option.bind_eq_some_iff] at h
    obtain ⟨⟨ε1, μ1⟩, q1, q2⟩ := h
    exact ⟨_, _, rfl, h1.ad W σ ε μ _ _ ε1 μ1 _ R En rx q1 fun W1 σ1 R1 E1 En1 => h2.ad W1 σ1 ε1 μ1 _ _ ε' μ' Q R1 En1 (Pvs.mono E1 rr) q2 fun W2 σ2 R2 E2 En2 => k W2 σ2 R2 (E1.trans E2) En2⟩⟩
theorem vg_tup {es : List Expr} {k : Nat} {n : Nat} (hc : X.calm = true) (h : VGs X es gs gfs) (hn : (assignEach es X.env).length = n := by rfl) (hst : (assignEach es X.env).findIdx? (·.1) = none := by rfl) : VG X (.Tuple es k pos) (gTup X.K n gs) (tgT n gfs) := ⟨pg_tup hc h.pg hn hst, fun W σ ε μ v x ε' μ' Q R En r q k => by
  unfold tgT at q
  split at q
  · rename_i ds
    by_cases hl : ds.length = n
    · rw [if_pos hl] at q
      cases r with
      | tup e a =>
        exact ⟨_, _, rfl, SqT.of (R.sub _ _ e), by have := Pvs.length (DtAll.pvs (K := X.K) (W := W) (n := μ.length) a); simp at this; omega, h.ad W σ ε μ _ _ ε' μ' Q R En (DtAll.pvs a) q k⟩
    · rw [if_neg hl] at q; cases q
  · rename_i kp
    split at q
    · rename_i xs hk
      by_cases hl : xs.length = n
      · rw [if_pos hl] at q
        obtain ⟨vs, e, r2⟩ := R.ob _ _ hk
        exact ⟨_, _, r.2, SqT.of e, by have := Pvs.length r2; omega, h.ad W σ ε μ _ _ ε' μ' Q R En r2 q k⟩
      · rw [if_neg hl] at q; cases q
    · cases q
  · cases q⟩
theorem vs_asg (he : VE X e te ev) (hg : VG X tg g gf) (hs : swapsWithSole [tg] e pos.line X.env = pure false := by rfl) (hw : swappedStores [tg] e X.env = pure none := by rfl) (h1 : (assignEach [tg] X.env).map (·.2) = [assign tg X.env] := by rfl) :
    VS X (.Assign [tg] e pos) (tAsg te g) (sAsg ev gf) := ⟨ps_asg he.pe hg.pg hs hw h1, fun W σ ε μ out D R En q k => by
  unfold sAsg at q
  simp only [Option.bind_eq_some_iff] at q
  obtain ⟨⟨x, μ1⟩, q1, ⟨ε2, μ2⟩, q2, q3⟩ := q
  cases q3
  exact he.ad W σ ε μ x μ1 _ R En q1 fun vx W1 R1 E1 r1 => hg.ad W1 σ ε μ1 x vx ε2 μ2 _ R1 (En.mono E1) r1 q2 fun W2 σ2 R2 E2 En2 => k W2 σ2 R2 (E1.trans E2) En2⟩
/-! ### while -/
theorem adq_while {K : PySem.W.Frag} (m : Nat) (hc : AdqT K tt et) (hb : AdqS K ts rn) : AdqS K (tWhile tt ts) (whileN et rn m) := fun W σ ε μ out D R En q k => by
  refine ⟨fun m σ' H' => ∃ W' ε' μ', W'.H = H' ∧ Rl K W' μ' ∧ Ext W μ.length W' μ'.length ∧ EnvR K W' μ'.length σ' ε' ∧ whileN et rn m ε' μ' = some out, ⟨m, W, ε, μ, rfl, R, Ext.refl _ _, En, q⟩, fun m1 σ1 H1 h => ?_⟩
  obtain ⟨W1, ε1, μ1, rfl, R1, E1, En1, q1⟩ := h
  cases m1 with
  | zero => cases q1
  | succ m2 =>
    unfold whileN at q1
    simp only [Option.bind_eq_some_iff] at q1
    obtain ⟨⟨b, μ2⟩, q2, q3⟩ := q1
    refine hc W1 σ1 ε1 μ1 b μ2 _ R1 En1 q2 fun W2 R2 E2 => ?_
    cases b with
    | false => cases q3; exact iteF (k W2 σ1 R2 (E1.trans E2) (En1.mono E2))
    | true =>
      refine iteT ⟨fun σ' H' => ∃ W' ε' μ', W'.H = H' ∧ Rl K W' μ' ∧ Ext W μ.length W' μ'.length ∧ EnvR K W' μ'.length σ' ε' ∧ whileN et rn m2 ε' μ' = some out, fun σ' H' h => ⟨m2, Nat.lt_succ_self _, h⟩, ?_⟩
      simp only [if_true, Option.bind_eq_some_iff] at q3
      obtain ⟨o, q4, q5⟩ := q3
      refine hb W2 σ1 ε1 μ2 o _ R2 (En1.mono E2) q4 ?_
      cases o with
      | nx ε3 μ3 => exact fun W3 σ3 R3 E3 En3 => ⟨W3, ε3, μ3, rfl, R3, (E1.trans E2).trans E3, En3, q5⟩
      | ct ε3 μ3 => exact fun W3 σ3 R3 E3 En3 => ⟨W3, ε3, μ3, rfl, R3, (E1.trans E2).trans E3, En3, q5⟩
      | bk ε3 μ3 => cases q5; exact fun W3 σ3 R3 E3 En3 => k W3 σ3 R3 ((E1.trans E2).trans E3) En3
      | rt v μ3 => cases q5; exact fun W3 σ3 R3 E3 En3 => k W3 σ3 R3 ((E1.trans E2).trans E3) En3
theorem vs_while (m : Nat) (hp : PassesOwn (model X.prog X.w) X.A X.env X.xe) (hc : VT X c tt et) (hb : VSs X sts ts rn) : VS X (.While c sts [] pos) (tWhile tt ts) (whileN et rn m) := ⟨ps_while hp hc.pt hb.ps, adq_while m hc.ad hb.ad⟩
/-! ### for -/
theorem okG_ok {items : List PV} {ok : Option Nat} {μ : Sto} (h : okG items ok μ = true) : Grd items μ ok := by
  cases ok with
  | none => trivial
  | some k =>
    unfold okG at h
    simp only [] at h
    unfold Grd
    split at h
    · rename_i xs e
      rw [psEq_eq h] at e
      exact e
    · cases h
theorem adq_for {K : PySem.W.Frag} (hi : AdqI K wi src) (hg : AdqG K g gf) (hb : AdqS K ts rn) : AdqS K (tFor wi g ts) (sFor src gf rn) := fun W σ ε μ out D R En q k => by
  unfold sFor at q
  simp only [Option.bind_eq_some_iff] at q
  obtain ⟨⟨⟨items, ok⟩, μ1⟩, q1, q2⟩ := q
  refine hi W σ ε μ items ok μ1 _ R En q1 fun W1 J R1 E1 G => ?_
  refine ⟨fun i m σ' H' => ∃ W' ε' μ', W'.H = H' ∧ Rl K W' μ' ∧ Ext W1 μ1.length W' μ'.length ∧ EnvR K W' μ'.length σ' ε' ∧ i + m = items.length ∧ forD (okG items ok) gf rn (items.drop i) ε' μ' = some out,
    ⟨items.length, W1, ε, μ1, rfl, R1, Ext.refl _ _, En.mono E1, by omega, by simpa using q2⟩, fun i m σ2 H2 h => ?_⟩
  obtain ⟨W2, ε2, μ2, rfl, R2, E2, En2, em, q3⟩ := h
  cases m with
  | zero =>
    have : items.drop i = [] := List.drop_eq_nil_of_le (by omega)
    rw [this] at q3
    simp only [forD] at q3
    by_cases hG : okG items ok μ2 = true
    · rw [if_pos hG] at q3
      cases q3
      have := (G W2 μ2 R2 E2.l (okG_ok hG)).2
      rw [show items.length = i by omega] at this
      exact .inl ⟨this, k W2 σ2 R2 (E1.trans E2) En2⟩
    · rw [if_neg hG] at q3; cases q3
  | succ m =>
    have hi' : i < items.length := by omega
    rw [List.drop_eq_getElem_cons hi'] at q3
    simp only [forD] at q3
    by_cases hG : okG items ok μ2 = true
    · rw [if_pos hG] at q3
      simp only [Option.bind_eq_some_iff] at q3
      obtain ⟨⟨ε3, μ3⟩, q4, o, q5, q6⟩ := q3
      obtain ⟨go, yl⟩ := (G W2 μ2 R2 E2.l (okG_ok hG)).1 i _ (List.getElem?_eq_getElem hi')
      refine .inr ⟨go, fun σ' H' => ∃ W' ε' μ', W'.H = H' ∧ Rl K W' μ' ∧ Ext W1 μ1.length W' μ'.length ∧ EnvR K W' μ'.length σ' ε' ∧ (i + 1) + m = items.length ∧ forD (okG items ok) gf rn (items.drop (i + 1)) ε' μ' = some out, fun σ' H' h => ⟨m, Nat.lt_succ_self _, h⟩, fun x H' hy => ?_⟩
      obtain ⟨W3, rfl, R3, E3, r3⟩ := yl x H' hy
      refine hg W3 σ2 ε2 μ2 _ x ε3 μ3 _ R3 (En2.mono E3) r3 q4 fun W4 σ4 R4 E4 En4 => ?_
      refine hb W4 σ4 ε3 μ3 o _ R4 En4 q5 ?_
      have E14 := (E2.trans E3).trans E4
      cases o with
      | nx ε5 μ5 => exact fun W5 σ5 R5 E5 En5 => ⟨W5, ε5, μ5, rfl, R5, E14.trans E5, En5, by omega, q6⟩
      | ct ε5 μ5 => exact fun W5 σ5 R5 E5 En5 => ⟨W5, ε5, μ5, rfl, R5, E14.trans E5, En5, by omega, q6⟩
      | bk ε5 μ5 => cases q6; exact fun W5 σ5 R5 E5 En5 => k W5 σ5 R5 (E1.trans (E14.trans E5)) En5
      | rt v μ5 => cases q6; exact fun W5 σ5 R5 E5 En5 => k W5 σ5 R5 (E1.trans (E14.trans E5)) En5
    · rw [if_neg hG] at q3; cases q3
theorem vs_for (hp : PassesOwn (model X.prog X.w) X.A X.env X.xe) (hc : X.calm = true) (hi : VI X tg iter wi src) (hg : VG X tg g gf) (hb : VSs X sts ts rn) (hs : ∀ x, foldedSetIterable iter X.env x = pure x := by intro _; rfl) :
    VS X (.For tg iter sts [] pos) (tFor wi g ts) (sFor src gf rn) := ⟨ps_for hp hc hi.pi hg.pg hb.ps hs, adq_for hi.ad hg.ad hb.ad⟩
end

/-! ### comprehensions -/
@[simp] def wipeE (ε : Evn) : List Nat → Evn
  | [] => ε
  | v :: vs => (wipeE ε vs).set v none
theorem EnvR.wipe {K : PySem.W.Frag} {W : Wd} {n : Nat} {σ : L2.St} {ε : Evn} (h : EnvR K W n σ ε) : ∀ vs : List Nat, EnvR K W n (L2.wipe σ vs) (wipeE ε vs)
  | [] => h
  | v :: vs => by
    have ih := h.wipe vs
    refine ⟨by simp [L2.wipe, wipeE, ih.len], fun i p e => ?_⟩
    unfold wipeE at e
    unfold L2.wipe
    by_cases hv : v = i
    · subst hv
      by_cases hl : v < (wipeE ε vs).length
      · rw [List.getElem?_set_self hl] at e; cases e
      · rw [List.getElem?_eq_none (by simp; omega)] at e; cases e
    · rw [List.getElem?_set_ne hv] at e ⊢
      exact ih.get i p e
def lcD (G : Sto → Bool) (tg : TgF) (tt : TsF) (te : EvF) (w : Evn) : List PV → Sto → Option (List PV × Sto)
  | [], μ => if G μ = true then some ([], μ) else none
  | p :: r, μ => if G μ = true then (tg p w μ).bind fun y => (tt y.1 y.2).bind fun b => if b.1 = true then (te y.1 b.2).bind fun v => (lcD G tg tt te w r v.2).bind fun z => some (v.1 :: z.1, z.2) else lcD G tg tt te w r b.2 else none
def eLc (own : Bool) (src : SrF) (tg : TgF) (tt : TsF) (te : EvF) (vs : List Nat) : EvF := fun ε μ => (src ε μ).bind fun x => (lcD (okG x.1.1 x.1.2) tg tt te (wipeE ε vs) x.1.1 x.2).bind fun z => mkL own z.1 z.2
@[simp] def tsYes : TsF := fun _ μ => some (true, μ)
/-- the target stores nothing but the block's own names -/
def OnlyG (g : TG) (vs : List Nat) : Prop := ∀ v σ H (Q : L2.St → Hp → Prop), g v σ H Q → g v σ H fun σ' H' => Q σ' H' ∧ L2.wipe σ' vs = L2.wipe σ vs
def OnlyGs (g : TGs) (vs : List Nat) : Prop := ∀ v σ H (Q : L2.St → Hp → Prop), g v σ H Q → g v σ H fun σ' H' => Q σ' H' ∧ L2.wipe σ' vs = L2.wipe σ vs
theorem wipe_set {σ : L2.St} {x : Option V} {i : Nat} : ∀ {vs : List Nat}, i ∈ vs → L2.wipe (σ.set i x) vs = L2.wipe σ vs
  | [], h => by simp at h
  | v :: vs, h => by
    have key : ∀ (us : List Nat), L2.wipe (σ.set i x) us = (L2.wipe σ us) ∨ L2.wipe (σ.set i x) us = (L2.wipe σ us).set i x := by
      intro us
      induction us with
      | nil => exact .inr rfl
      | cons u us ih =>
        show (L2.wipe (σ.set i x) us).set u none = (L2.wipe σ us).set u none ∨ (L2.wipe (σ.set i x) us).set u none = ((L2.wipe σ us).set u none).set i x
        rcases ih with ih | ih
        · rw [ih]; exact .inl rfl
        · rw [ih]
          by_cases hu : i = u
          · subst hu; rw [List.set_set]; exact .inl rfl
          · rw [List.set_comm _ _ hu]; exact .inr rfl
    show (L2.wipe (σ.set i x) vs).set v none = (L2.wipe σ vs).set v none
    rcases List.mem_cons.mp h with rfl | h
    · rcases key vs with e | e
      · rw [e]
      · rw [e, List.set_set]
    · rw [wipe_set h]
theorem onlyN {i : Nat} {vs : List Nat} (h : i ∈ vs := by decide) : OnlyG (gName i) vs := fun v σ H Q q => ⟨q, wipe_set h⟩
theorem onlyNil {vs : List Nat} : OnlyGs gNil vs := fun v σ H Q q => ⟨q.1, q.2, rfl⟩
/-- targets are monotone -/
def MonoG (g : TG) : Prop := ∀ v σ H (Q Q' : L2.St → Hp → Prop), (∀ a b, Q a b → Q' a b) → g v σ H Q → g v σ H Q'
def MonoGs (g : TGs) : Prop := ∀ v σ H (Q Q' : L2.St → Hp → Prop), (∀ a b, Q a b → Q' a b) → g v σ H Q → g v σ H Q'
theorem monoN {i : Nat} : MonoG (gName i) := fun _ _ _ _ _ m h => m _ _ h
theorem monoNil : MonoGs gNil := fun _ _ _ _ _ m h => ⟨h.1, m _ _ h.2⟩
theorem monoCons {g : TG} {gs : TGs} (h1 : MonoG g) (h2 : MonoGs gs) : MonoGs (gCons g gs) := fun v σ H Q Q' m ⟨a, r, e, q⟩ => ⟨a, r, e, h1 _ _ _ _ _ (fun _ _ z => h2 _ _ _ _ _ m z) q⟩
theorem monoT {K : PySem.W.Frag} {n : Nat} {gs : TGs} (h : MonoGs gs) : MonoG (gTup K n gs) := fun v σ H Q Q' m ⟨a, xs, e1, e2, e3, q⟩ => ⟨a, xs, e1, e2, e3, h _ _ _ _ _ m q⟩
theorem onlyCons {g : TG} {gs : TGs} {vs : List Nat} (m1 : MonoG g) (m2 : MonoGs gs) (h1 : OnlyG g vs) (h2 : OnlyGs gs vs) : OnlyGs (gCons g gs) vs := fun v σ H Q ⟨a, r, e, q⟩ =>
  ⟨a, r, e, m1 _ _ _ _ _ (fun σ1 H1 z => m2 _ _ _ _ _ (fun σ2 H2 w => ⟨w.1, w.2.trans z.2⟩) (h2 _ _ _ _ z.1)) (h1 _ _ _ _ q)⟩
theorem onlyT {K : PySem.W.Frag} {n : Nat} {gs : TGs} {vs : List Nat} (h : OnlyGs gs vs) : OnlyG (gTup K n gs) vs := fun v σ H Q ⟨a, xs, e1, e2, e3, q⟩ => ⟨a, xs, e1, e2, e3, h _ _ _ _ q⟩
theorem wipe_wipe {σ : L2.St} : ∀ vs : List Nat, L2.wipe (L2.wipe σ vs) vs = L2.wipe σ vs := by
  have key : ∀ (us vs : List Nat), (∀ u ∈ us, u ∈ vs) → L2.wipe (L2.wipe σ us) vs = L2.wipe σ vs := by
    intro us
    induction us with
    | nil => intro vs _; rfl
    | cons u us ih =>
      intro vs h
      show L2.wipe ((L2.wipe σ us).set u none) vs = _
      rw [wipe_set (h u List.mem_cons_self)]
      exact ih vs fun z hz => h z (List.mem_cons_of_mem _ hz)
  exact fun vs => key vs vs fun _ h => h

section
variable {K : PySem.W.Frag}
/-- a list that is being made, known to nobody -/
structure Side (W : Wd) (n : Nat) (D : Addr) (vs : List V) : Prop where
  at_ : W.H D = some (.lst vs)
  im : W.Hi D = none
  ne : ∀ k, k < n → W.at' k ≠ D
theorem Side.ext {W W' : Wd} {n n' : Nat} {D : Addr} {vs : List V} (s : Side W n D vs) (e : Ext W n W' n') : Side W' n' D vs where
  at_ := e.fr _ _ s.at_ s.ne
  im := by
    cases q : W'.Hi D with
    | none => rfl
    | some o =>
      rcases e.nw D o q s.im with h | ⟨k, hk, h⟩
      · rw [s.at_] at h; cases h
      · exact absurd h (s.ne k hk)
  ne := fun k hk z => by
    by_cases hn : k < n
    · exact s.ne k hn ((e.io k hn).symm.trans z)
    · have := e.np k (Nat.not_lt.mp hn) hk
      rw [z, s.at_] at this; cases this
theorem Side.put {W W0 : Wd} {n0 : Nat} {μ : Sto} {D : Addr} {vs ws : List V} (R : Rl K W μ) (s : Side W μ.length D vs) (E : Ext W0 n0 W μ.length) (h0 : W0.H D = none) :
    Rl K ⟨W.Hi, upd W.H D (.lst ws), W.at'⟩ μ ∧ Ext W0 n0 ⟨W.Hi, upd W.H D (.lst ws), W.at'⟩ μ.length ∧ Side ⟨W.Hi, upd W.H D (.lst ws), W.at'⟩ μ.length D ws ∧ (∀ {p x}, RPV K W μ.length p x → RPV K ⟨W.Hi, upd W.H D (.lst ws), W.at'⟩ μ.length p x) := by
  have tr : ∀ {p x}, RPV K W μ.length p x → RPV K ⟨W.Hi, upd W.H D (.lst ws), W.at'⟩ μ.length p x := fun {p x} h => by cases p <;> exact h
  refine ⟨⟨fun a o h => ?_, fun k o h => ?_, R.off, R.inj, fun k hk => let ⟨u, e⟩ := R.th k hk; ⟨u, by simp only []; rw [upd_ne (s.ne k hk)]; exact e⟩⟩, ⟨E.im, E.io, E.le, fun a o h hk => ?_, E.nw, E.np, fun a o h => ?_⟩, ⟨upd_same, s.im, s.ne⟩, tr⟩
  · have ne : a ≠ D := fun z => by subst z; simp only [] at h; rw [s.im] at h; cases h
    simp only [] at h ⊢
    rw [upd_ne ne]; exact R.sub _ _ h
  · have lk : k < μ.length := (List.getElem?_eq_some_iff.mp h).1
    have := R.ob k o h
    simp only []
    rw [upd_ne (s.ne k lk)]
    cases o with
    | gone => trivial
    | lst xs => obtain ⟨vs, e, r⟩ := this; exact ⟨vs, e, L2.Paired.mapP r fun _ _ q => tr q⟩
    | dic kvs => obtain ⟨vs, e, r⟩ := this; exact ⟨vs, e, L2.Paired.mapP r fun _ _ q => ⟨q.1, tr q.2⟩⟩
    | tpl xs => obtain ⟨vs, e, r⟩ := this; exact ⟨vs, e, L2.Paired.mapP r fun _ _ q => tr q⟩
    | dtu kvs => obtain ⟨vs, e, r⟩ := this; exact ⟨vs, e, L2.Paired.mapP r fun _ _ q => ⟨q.1, tr q.2⟩⟩
  · have ne : a ≠ D := fun z => by subst z; rw [h0] at h; cases h
    simp only []
    rw [upd_ne ne]; exact E.fr a o h hk
  · by_cases ha : a = D
    · subst ha; rw [h0] at h; cases h
    · obtain ⟨u, hu⟩ := E.th a o h
      exact ⟨u, by simp only []; rw [upd_ne ha]; exact hu⟩
/-- .. is made known -/
theorem Side.mkL {W W0 : Wd} {n0 : Nat} {μ μ' : Sto} {D : Addr} {vs : List V} {xs : List PV} {own : Bool} {v : PV} {Q : VK} (R : Rl K W μ) (s : Side W μ.length D vs) (E : Ext W0 n0 W μ.length) (h0 : W0.H D = none) (r : Pvs K W μ.length xs vs)
    (h : mkL own xs μ = some (v, μ')) (k : Kont K W0 n0 μ' v Q) : Q (.ref D) W.H := by
  unfold VX.mkL at h
  by_cases hc : xs.length ≤ cap
  · rw [if_pos hc] at h
    cases own with
    | true =>
      simp only [if_true] at h
      cases h
      have E2 : Ext W0 n0 ⟨W.Hi, W.H, fun k => if k = μ.length then D else W.at' k⟩ (μ ++ [SO.lst xs]).length := by
        refine ⟨E.im, fun k hk => ?_, Nat.le_trans E.le (by simp), E.fr, E.nw, fun k h1 h2 => ?_, E.th⟩
        · simp only []; rw [if_neg (by have := E.le; omega)]; exact E.io k hk
        · simp only []
          by_cases hk : k = μ.length
          · rw [if_pos hk]; exact h0
          · rw [if_neg hk]; exact E.np k h1 (by simp at h2; omega)
      have tr : ∀ {p x}, RPV K W μ.length p x → RPV K ⟨W.Hi, W.H, fun k => if k = μ.length then D else W.at' k⟩ (μ ++ [SO.lst xs]).length p x := fun {p x} h => by
        cases p with
        | dat d => exact h
        | scr ns => exact h
        | ptr j => exact ⟨by simp; have := h.1; omega, by simp only []; rw [if_neg (by have := h.1; omega)]; exact h.2⟩
      have lt : ∀ k (u : SO), μ[k]? = some u → k < μ.length := fun k u h => (List.getElem?_eq_some_iff.mp h).1
      have get : ∀ k u, (μ ++ [SO.lst xs])[k]? = some u → (k < μ.length ∧ μ[k]? = some u) ∨ (k = μ.length ∧ u = .lst xs) := fun k u h => by
        by_cases hk : k < μ.length
        · rw [List.getElem?_append_left hk] at h; exact .inl ⟨hk, h⟩
        · rw [List.getElem?_append_right (Nat.not_lt.mp hk)] at h
          have : k - μ.length = 0 := by
            cases q : k - μ.length with
            | zero => rfl
            | succ m => rw [q] at h; simp at h
          rw [this] at h; simp at h
          exact .inr ⟨by omega, h.symm⟩
      refine k _ ⟨W.Hi, W.H, fun k => if k = μ.length then D else W.at' k⟩ ⟨R.sub, fun j u h => ?_, fun j u h hu => ?_, fun i j u1 u2 h1 h2 g1 g2 e => ?_, fun j hj => ?_⟩ E2 ⟨by simp, by simp⟩
      · rcases get j u h with ⟨hk, h⟩ | ⟨rfl, rfl⟩
        · simp only []; rw [if_neg (Nat.ne_of_lt hk)]
          have := R.ob j u h
          cases u with
          | gone => trivial
          | lst ys => obtain ⟨ws, e, r⟩ := this; exact ⟨ws, e, L2.Paired.mapP r fun _ _ q => tr q⟩
          | dic kvs => obtain ⟨ws, e, r⟩ := this; exact ⟨ws, e, L2.Paired.mapP r fun _ _ q => ⟨q.1, tr q.2⟩⟩
          | tpl ys => obtain ⟨ws, e, r⟩ := this; exact ⟨ws, e, L2.Paired.mapP r fun _ _ q => tr q⟩
          | dtu kvs => obtain ⟨ws, e, r⟩ := this; exact ⟨ws, e, L2.Paired.mapP r fun _ _ q => ⟨q.1, tr q.2⟩⟩
        · simp only [if_pos]
          exact ⟨vs, s.at_, L2.Paired.mapP r fun _ _ q => tr q⟩
      · rcases get j u h with ⟨hk, h⟩ | ⟨rfl, rfl⟩
        · simp only []; rw [if_neg (Nat.ne_of_lt hk)]; exact R.off j u h hu
        · simp only [if_pos]; exact s.im
      · rcases get i u1 h1 with ⟨hj, q1⟩ | ⟨hj, q1⟩ <;> rcases get j u2 h2 with ⟨hk, q2⟩ | ⟨hk, q2⟩
        · simp only [if_neg (Nat.ne_of_lt hk), if_neg (Nat.ne_of_lt hj)] at e
          exact R.inj i j u1 u2 q1 q2 g1 g2 e
        · subst hk
          simp only [if_neg (Nat.ne_of_lt hj), if_pos] at e
          exact absurd e (s.ne _ hj)
        · subst hj
          simp only [if_neg (Nat.ne_of_lt hk), if_pos] at e
          exact absurd e.symm (s.ne _ hk)
        · rw [hj, hk]
      · simp only []
        by_cases hk' : j = μ.length
        · rw [if_pos hk']; exact ⟨_, s.at_⟩
        · rw [if_neg hk']; exact R.th j (by simp at hj; omega)
    | false =>
      simp only [Bool.false_eq_true, if_false, Option.map_eq_some_iff] at h
      obtain ⟨ds, h1, h2⟩ := h
      cases h2
      rw [asDats_eq h1] at r
      have smi : Same W.Hi (upd W.Hi D (.lst vs)) := fun b u e => by rw [upd_ne (ne_of_none e s.im)]; exact e
      have tr : ∀ {p x}, RPV K W μ.length p x → RPV K ⟨upd W.Hi D (.lst vs), W.H, W.at'⟩ μ.length p x := fun {p x} h => by
        cases p with
        | dat d => exact Dt.mono smi h
        | scr ns => obtain ⟨a, e1, e2⟩ := h; exact ⟨a, e1, smi.seq e2⟩
        | ptr j => exact h
      refine k _ ⟨upd W.Hi D (.lst vs), W.H, W.at'⟩ ⟨fun a o h => ?_, fun j u h => ?_, fun j u h hu => ?_, R.inj, R.th⟩ ⟨E.im.trans smi, E.io, E.le, E.fr, fun a o h hn => ?_, E.np, E.th⟩ (.lst upd_same (DtAll.mono smi (Pvs.dt r)))
      · simp only [] at h ⊢
        by_cases ha : a = D
        · subst ha; rw [upd_same] at h; cases h; exact s.at_
        · rw [upd_ne ha] at h; exact R.sub _ _ h
      · have := R.ob j u h
        cases u with
        | gone => trivial
        | lst ys => obtain ⟨ws, e, r⟩ := this; exact ⟨ws, e, L2.Paired.mapP r fun _ _ q => tr q⟩
        | dic kvs => obtain ⟨ws, e, r⟩ := this; exact ⟨ws, e, L2.Paired.mapP r fun _ _ q => ⟨q.1, tr q.2⟩⟩
        | tpl ys => obtain ⟨ws, e, r⟩ := this; exact ⟨ws, e, L2.Paired.mapP r fun _ _ q => tr q⟩
        | dtu kvs => obtain ⟨ws, e, r⟩ := this; exact ⟨ws, e, L2.Paired.mapP r fun _ _ q => ⟨q.1, tr q.2⟩⟩
      · have lk : j < μ.length := (List.getElem?_eq_some_iff.mp h).1
        simp only []; rw [upd_ne (s.ne j lk)]; exact R.off j u h hu
      · by_cases ha : a = D
        · subst ha; exact .inl h0
        · simp only [] at h; rw [upd_ne ha] at h; exact E.nw a o h hn
  · rw [if_neg hc] at h; cases h
theorem Side.new {W : Wd} {μ : Sto} {D : Addr} (R : Rl K W μ) (hD : W.H D = none) :
    Rl K ⟨W.Hi, upd W.H D (.lst []), W.at'⟩ μ ∧ Ext W μ.length ⟨W.Hi, upd W.H D (.lst []), W.at'⟩ μ.length ∧ Side ⟨W.Hi, upd W.H D (.lst []), W.at'⟩ μ.length D [] := by
  obtain ⟨R1, E1⟩ := R.junk (o := .lst []) hD
  refine ⟨R1, E1, upd_same, ?_, fun k hk' z => ?_⟩
  · cases q : W.Hi D with
    | none => rfl
    | some u => rw [R.sub _ _ q] at hD; cases hD
  · obtain ⟨u, e⟩ := R.th k hk'
    simp only [] at z
    rw [z, hD] at e; cases e
end
end VX
namespace VX
open PySem PySem.Spec PyProof.Rows L2

/-! ### the readings by the functions alone -/
section
variable (K : PySem.W.Frag)
def uE (ev : EvF) : TE := fun σ H Q => ∃ W ε μ v μ', W.H = H ∧ Rl K W μ ∧ EnvR K W μ.length σ ε ∧ ev ε μ = some (v, μ') ∧ Kont K W μ.length μ' v Q
def uT (ev : TsF) : TT := fun σ H Q => ∃ W ε μ v μ', W.H = H ∧ Rl K W μ ∧ EnvR K W μ.length σ ε ∧ ev ε μ = some (v, μ') ∧ KontT K W μ.length μ' v Q
def uA (ev : ArF) : TA := fun σ H Q => ∃ W ε μ v μ', W.H = H ∧ Rl K W μ ∧ EnvR K W μ.length σ ε ∧ ev ε μ = some (v, μ') ∧ KontA K W μ.length μ' v Q
def uS (rn : RnF) : TS := fun D σ H => ∃ W ε μ out, W.H = H ∧ Rl K W μ ∧ EnvR K W μ.length σ ε ∧ rn ε μ = some out ∧ OutOk K W μ.length D out
def uG (tg : TgF) : TG := fun x σ H Q => ∃ W ε μ v ε' μ', W.H = H ∧ Rl K W μ ∧ EnvR K W μ.length σ ε ∧ RPV K W μ.length v x ∧ tg v ε μ = some (ε', μ') ∧ (∀ W' σ', Rl K W' μ' → Ext W μ.length W' μ'.length → EnvR K W' μ'.length σ' ε' → Q σ' W'.H)
def uGs (tg : List PV → Evn → Sto → Option (Evn × Sto)) : TGs := fun x σ H Q => ∃ W ε μ v ε' μ', W.H = H ∧ Rl K W μ ∧ EnvR K W μ.length σ ε ∧ Pvs K W μ.length v x ∧ tg v ε μ = some (ε', μ') ∧ (∀ W' σ', Rl K W' μ' → Ext W μ.length W' μ'.length → EnvR K W' μ'.length σ' ε' → Q σ' W'.H)
def uI (src : SrF) : TI := fun σ H R => ∃ W ε μ items ok μ', W.H = H ∧ Rl K W μ ∧ EnvR K W μ.length σ ε ∧ src ε μ = some ((items, ok), μ') ∧ (∀ W' J, Rl K W' μ' → Ext W μ.length W' μ'.length → Gives K J items ok W' μ'.length → R J W'.H)
end
theorem adqU {K : PySem.W.Frag} {ev : EvF} : Adq K (uE K ev) ev := fun W σ ε μ v μ' Q R En h k => ⟨W, ε, μ, v, μ', rfl, R, En, h, k⟩
theorem adqUT {K : PySem.W.Frag} {ev : TsF} : AdqT K (uT K ev) ev := fun W σ ε μ v μ' Q R En h k => ⟨W, ε, μ, v, μ', rfl, R, En, h, k⟩
theorem adqUA {K : PySem.W.Frag} {ev : ArF} : AdqA K (uA K ev) ev := fun W σ ε μ v μ' Q R En h k => ⟨W, ε, μ, v, μ', rfl, R, En, h, k⟩
theorem adqUS {K : PySem.W.Frag} {ev : RnF} : AdqS K (uS K ev) ev := fun W σ ε μ out D R En h k => ⟨W, ε, μ, out, rfl, R, En, h, k⟩
theorem adqUG {K : PySem.W.Frag} {ev : TgF} : AdqG K (uG K ev) ev := fun W σ ε μ v x ε' μ' Q R En r h k => ⟨W, ε, μ, v, ε', μ', rfl, R, En, r, h, k⟩
theorem adqUGs {K : PySem.W.Frag} {ev : List PV → Evn → Sto → Option (Evn × Sto)} : AdqGs K (uGs K ev) ev := fun W σ ε μ v x ε' μ' Q R En r h k => ⟨W, ε, μ, v, ε', μ', rfl, R, En, r, h, k⟩
theorem adqUI {K : PySem.W.Frag} {src : SrF} : AdqI K (uI K src) src := fun W σ ε μ items ok μ' R Rl En h k => ⟨W, ε, μ, items, ok, μ', rfl, Rl, En, h, k⟩
def ME (X : Cx) (e : Expr) (ev : EvF) : Prop := PE X e (uE X.K ev)
def MT (X : Cx) (e : Expr) (ev : TsF) : Prop := PT X e (uT X.K ev)
def MW (X : Cx) (e : Expr) (ev : TsF) : Prop := PW X e (uT X.K ev)
def MA (X : Cx) (es : List Expr) (ev : ArF) : Prop := PA X es (uA X.K ev)
def MS (X : Cx) (st : Stmt) (rn : RnF) : Prop := PS X st (uS X.K rn)
def MSs (X : Cx) (sts : List Stmt) (rn : RnF) : Prop := PSs X sts (uS X.K rn)
def MG (X : Cx) (e : Expr) (tg : TgF) : Prop := PG X e (uG X.K tg)
def MGs (X : Cx) (es : List Expr) (tg : List PV → Evn → Sto → Option (Evn × Sto)) : Prop := PGs X es (uGs X.K tg)
def MI (X : Cx) (tg iter : Expr) (src : SrF) : Prop := PI X tg iter (uI X.K src)
section
variable {X : Cx} {e tg iter : Expr} {es : List Expr} {st : Stmt} {sts : List Stmt}
theorem VE.m {te : TE} {ev : EvF} (h : VE X e te ev) : ME X e ev := ⟨fun pins s σ H Q I q => by obtain ⟨W, ε, μ, v, μ', rfl, R, En, q, k⟩ := q; exact h.pe.run pins s σ _ Q I (h.ad W σ ε μ v μ' Q R En q k)⟩
theorem ME.v {ev : EvF} (h : ME X e ev) : VE X e (uE X.K ev) ev := ⟨h, adqU⟩
theorem VT.m {te : TT} {ev : TsF} (h : VT X e te ev) : MT X e ev := ⟨fun pins s σ H Q I q => by obtain ⟨W, ε, μ, v, μ', rfl, R, En, q, k⟩ := q; exact h.pt.run pins s σ _ Q I (h.ad W σ ε μ v μ' Q R En q k)⟩
theorem MT.v {ev : TsF} (h : MT X e ev) : VT X e (uT X.K ev) ev := ⟨h, adqUT⟩
theorem VW.m {te : TT} {ev : TsF} (h : VW X e te ev) : MW X e ev := ⟨fun whole pins s σ H Q I q => by obtain ⟨W, ε, μ, v, μ', rfl, R, En, q, k⟩ := q; exact h.pw.run whole pins s σ _ Q I (h.ad W σ ε μ v μ' Q R En q k)⟩
theorem MW.v {ev : TsF} (h : MW X e ev) : VW X e (uT X.K ev) ev := ⟨h, adqUT⟩
theorem VA.m {te : TA} {ev : ArF} (h : VA X es te ev) : MA X es ev := ⟨fun pos pins s σ H Q I q => by obtain ⟨W, ε, μ, v, μ', rfl, R, En, q, k⟩ := q; exact h.pa.run pos pins s σ _ Q I (h.ad W σ ε μ v μ' Q R En q k)⟩
theorem MA.v {ev : ArF} (h : MA X es ev) : VA X es (uA X.K ev) ev := ⟨h, adqUA⟩
theorem VS.m {ts : TS} {rn : RnF} (h : VS X st ts rn) : MS X st rn := ⟨fun pins s σ H D I q => by obtain ⟨W, ε, μ, out, rfl, R, En, q, k⟩ := q; exact h.ps.run pins s σ _ D I (h.ad W σ ε μ out D R En q k)⟩
theorem MS.v {rn : RnF} (h : MS X st rn) : VS X st (uS X.K rn) rn := ⟨h, adqUS⟩
theorem VSs.m {ts : TS} {rn : RnF} (h : VSs X sts ts rn) : MSs X sts rn := ⟨fun pins s σ H D I q => by obtain ⟨W, ε, μ, out, rfl, R, En, q, k⟩ := q; exact h.ps.run pins s σ _ D I (h.ad W σ ε μ out D R En q k)⟩
theorem MSs.v {rn : RnF} (h : MSs X sts rn) : VSs X sts (uS X.K rn) rn := ⟨h, adqUS⟩
theorem VG.m {g : TG} {gf : TgF} (h : VG X e g gf) : MG X e gf := ⟨fun pins s σ H v u Q I r q => by obtain ⟨W, ε, μ, v', ε', μ', rfl, R, En, rv, q, k⟩ := q; exact h.pg.run pins s σ _ v u Q I r (h.ad W σ ε μ v' v ε' μ' Q R En rv q k)⟩
theorem MG.v {gf : TgF} (h : MG X e gf) : VG X e (uG X.K gf) gf := ⟨h, adqUG⟩
theorem VGs.m {g : TGs} {gf : List PV → Evn → Sto → Option (Evn × Sto)} (h : VGs X es g gf) : MGs X es gf := ⟨fun pins s σ H v u Q I r q => by obtain ⟨W, ε, μ, v', ε', μ', rfl, R, En, rv, q, k⟩ := q; exact h.pg.run pins s σ _ v u Q I r (h.ad W σ ε μ v' v ε' μ' Q R En rv q k)⟩
theorem MGs.v {gf : List PV → Evn → Sto → Option (Evn × Sto)} (h : MGs X es gf) : VGs X es (uGs X.K gf) gf := ⟨h, adqUGs⟩
theorem VI.m {wi : TI} {src : SrF} (h : VI X tg iter wi src) : MI X tg iter src := ⟨fun pins s σ H R I q => by obtain ⟨W, ε, μ, items, ok, μ', rfl, Rr, En, q, k⟩ := q; exact h.pi.run pins s σ _ R I (h.ad W σ ε μ items ok μ' R Rr En q k)⟩
theorem MI.v {src : SrF} (h : MI X tg iter src) : VI X tg iter (uI X.K src) src := ⟨h, adqUI⟩
end

/-! ### the rules, by the functions alone -/
section
variable {X : Cx} {a b c e o tg iter elt : Expr} {es rest : List Expr} {sts sts' srest : List Stmt} {st : Stmt} {ea eb ec ev : EvF} {et eu : TsF} {el : ArF} {rn rm : RnF} {gf : TgF} {gfs : List PV → Evn → Sto → Option (Evn × Sto)} {src : SrF} {pos p : Pos}
theorem m_var (i : Nat) {x : Str} {pos : Pos} (hN : X.N[i]? = some x := by rfl) (hv : Vis X.env.scope x := by first | exact Or.inl rfl | exact Or.inr (Or.inl rfl) | exact Or.inr (Or.inr rfl))
    (hd : (x == ("__debug__" : Str)) = false := by decide) (hcd : (x == ("__classdict__" : Str)) = false := by decide) : ME X (.Name x pos) (eVar i) := (ve_var i hN hv hd hcd).m
theorem m_int {i j pos} : ME X (.Constant (.int i) j pos) (eC (.int i)) := ve_int.m
theorem m_bl {b j pos} : ME X (.Constant (.bool b) j pos) (eC (.bool b)) := ve_bl.m
theorem m_non {j pos} : ME X (.Constant .none j pos) (eC .none) := ve_non.m
theorem m_str {x j pos} : ME X (.Constant (.str x) j pos) (eC (.str x)) := ve_str.m
theorem m_gint {x : Str} {i : Int} {t : Tok} {pos : Pos} (hg : Gl X x) (hm : X.mg x = some (.int i t)) (hd : (x == ("__debug__" : Str)) = false := by decide) : ME X (.Name x pos) (eC (.int i)) := (ve_gint hg hm hd).m
theorem m_gstr {x : Str} {i : Str} {t : Tok} {pos : Pos} (hg : Gl X x) (hm : X.mg x = some (.str i t)) (hd : (x == ("__debug__" : Str)) = false := by decide) : ME X (.Name x pos) (eC (.str i)) := (ve_gstr hg hm hd).m
theorem m_op {op : Operator} {r : R2} {f : OpF} (ho : OpR X (binaryOp op) r) (hr : AOp X.K r f) (ha : ME X a ea) (hb : ME X b eb) : ME X (.BinOp a op b pos) (eOp f ea eb) := (ve_op ho hr ha.v hb.v).m
theorem m_cmp {op : CmpOp} {r : R2} {f : OpF} (ho : OpR X (compareOp op) r) (hr : AOp X.K r f) (ha : ME X a ea) (hb : ME X b eb) (hm : behindInMarks op b = false) : ME X (.Compare a [op] [b] pos) (eOp f ea eb) := (ve_cmp ho hr ha.v hb.v hm).m
theorem m_ixR {r : R2} {f : OpF} (ho : IxR X r) (hr : AOp X.K r f) (ha : ME X a ea) (hb : ME X b eb) (hs : PlainIx b) : ME X (.Subscript a b pos) (eOp f ea eb) := (ve_ix ho hr ha.v hb.v hs).m
theorem m_un {op : UnaryOp} {r : V → Hp → VK → Prop} {f : PV → Option PV} (ho : UnR X (unaryOp op) r) (hr : AUn X.K r f) (ha : ME X a ea) : ME X (.UnaryOp op a pos) (eUn f ea) := (ve_un ho hr ha.v).m
theorem a_nil : MA X [] aNil := va_nil.m
theorem a_cons (ha : ME X e ev) (hr : MA X es el) (hs : starEach (e :: es) X.env = (false, eval e X.env) :: starEach es X.env := by rfl) : MA X (e :: es) (aCons ev el) := (va_cons ha.v hr.v hs).m
theorem m_lst (own : Bool) (h : MA X es el) : ME X (.List es pos) (eLst own el) := (ve_lst own h.v).m
theorem m_tup {x1} (h : MA X es el) : ME X (.Tuple es x1 pos) (eTup el) := (ve_tup h.v).m
theorem m_ca {x : Str} {id : String} {r : List V → Hp → VK → Prop} {f : CaF} (hc : CallR X (.builtin id) r) (hr : ACa X.K r f) (hg : Gl X x) (hm : X.mg x = none) (hv : bootBuiltins x = some (.builtin id)) (h : MA X (e :: es) el) (hn : x ≠ "__name__" := by decide) (hdb : (x == ("__debug__" : Str)) = false := by decide)
    (he : starEach (e :: es) X.env = (false, eval e X.env) :: starEach es X.env := by rfl) (hpl : (backTo pos (starEach es X.env)).any (·.1) = false := by rfl) : ME X (.Call (.Name x p) (e :: es) [] pos) (eCa f el) := (ve_ca hc hr hg hm hv h.v hn hdb he hpl).m
theorem m_caT {x : Str} {T : String} {r : List V → Hp → VK → Prop} {f : CaF} (hc : CallR X (.type T) r) (hr : ACa X.K r f) (hg : Gl X x) (hm : X.mg x = none) (hv : bootBuiltins x = some (.type T)) (h : MA X (e :: es) el) (hn : x ≠ "__name__" := by decide) (hdb : (x == ("__debug__" : Str)) = false := by decide)
    (he : starEach (e :: es) X.env = (false, eval e X.env) :: starEach es X.env := by rfl) (hpl : (backTo pos (starEach es X.env)).any (·.1) = false := by rfl) : ME X (.Call (.Name x p) (e :: es) [] pos) (eCa f el) := (ve_caT hc hr hg hm hv h.v hn hdb he hpl).m
theorem t_val (h : ME X e ev) (he : ∀ whole, isTrue e X.env whole = (do let v ← whole; standAt e.pos; holding [v] (truthy v)) := by intro _; rfl) : MT X e (tsE ev) := (vt_val h.v he).m
theorem t_cmp {op : CmpOp} {r : R2} {f : OpF} (ho : OpR X (compareOp op) r) (hr : AOp X.K r f) (ha : ME X a ea) (hb : ME X b eb) (hm : behindInMarks op b = false) : MT X (.Compare a [op] [b] pos) (tsE (eOp f ea eb)) := (vt_cmp ho hr ha.v hb.v hm).m
theorem w_and1 (ha : MT X a et) : MW X (.BoolOp .And [a] pos) et := (vw_and1 ha.v).m
theorem w_or1 (ha : MT X a et) : MW X (.BoolOp .Or [a] pos) et := (vw_or1 ha.v).m
theorem w_and (ha : MT X a et) (hb : MW X (.BoolOp .And (b :: rest) pos) eu) : MW X (.BoolOp .And (a :: b :: rest) pos) (tsAnd et eu) := (vw_and ha.v hb.v).m
theorem w_or (ha : MT X a et) (hb : MW X (.BoolOp .Or (b :: rest) pos) eu) : MW X (.BoolOp .Or (a :: b :: rest) pos) (tsOr et eu) := (vw_or ha.v hb.v).m
theorem t_w (h : MW X a et) : MT X a et := h.v.vt.m
theorem t_not (ha : MT X a et) : MT X (.UnaryOp .Not a pos) (tsNot et) := (vt_not ha.v).m
theorem m_if (hc : MT X c et) (ha : ME X a ea) (hb : ME X b eb) : ME X (.IfExp c a b pos) (eIf et ea eb) := (ve_if hc.v ha.v hb.v).m
theorem m_one {op} (h : ME X a ea) : ME X (.BoolOp op [a] pos) ea := (ve_one h.v).m
theorem m_and (ha : ME X a ea) (hb : ME X (.BoolOp .And (b :: rest) pos) eb) : ME X (.BoolOp .And (a :: b :: rest) pos) (eAnd ea eb) := (ve_and ha.v hb.v).m
theorem m_or (ha : ME X a ea) (hb : ME X (.BoolOp .Or (b :: rest) pos) eb) : ME X (.BoolOp .Or (a :: b :: rest) pos) (eOr ea eb) := (ve_or ha.v hb.v).m
theorem m_not (ha : ME X a ea) : ME X (.UnaryOp .Not a pos) (eNot ea) := (ve_not ha.v).m
/-! statements -/
theorem ss_nil : MSs X [] sNil := vss_nil.m
theorem ss_one (h : MS X st rn) : MSs X [st] rn := (vss_one h.v).m
theorem ss_cons (h1 : MS X st rn) (h2 : MSs X srest rm) : MSs X (st :: srest) (sSeq rn rm) := (vss_cons h1.v h2.v).m
theorem s_pass : MS X (.Pass pos) sNil := vs_pass.m
theorem s_break : MS X (.Break pos) sBrk := vs_break.m
theorem s_continue : MS X (.Continue pos) sCnt := vs_continue.m
theorem s_set {i : Nat} {x : Str} {pos' : Pos} (hN : X.N.Nodup) (hi : X.N[i]? = some x) (hx : Loc X.env.scope x) (he : ME X e ev) (hs : swapsWith e (some (.Name x pos')) pos.line X.env = pure false := by rfl)
    (hf : X.fn x = true ∨ X.env.scope.names.lookup x = some .local := by first | exact .inl rfl | exact .inr rfl | assumption) : MS X (.Assign [.Name x pos'] e pos) (sSet i ev) := (vs_set hN hi hx he.v hs hf).m
theorem s_ret (he : ME X e ev) : MS X (.Return (some e) pos) (sRet ev) := (vs_ret he.v).m
theorem s_retN : MS X (.Return none pos) sRetN := vs_retN.m
theorem s_expr (he : ME X e ev) (hs : swapsWith e none pos.line X.env = pure false := by rfl) : MS X (.Expr e pos) (sExpr ev) := (vs_expr he.v hs).m
theorem s_if (hc : MT X c et) (ha : MSs X sts rn) (hb : MSs X sts' rm) : MS X (.If c sts sts' pos) (sIf et rn rm) := (vs_if hc.v ha.v hb.v).m
theorem g_name {i : Nat} {x : Str} (hN : X.N.Nodup) (hi : X.N[i]? = some x) (hx : Loc X.env.scope x) (hf : X.fn x = true ∨ X.env.scope.names.lookup x = some .local := by first | exact .inl rfl | exact .inr rfl | assumption) : MG X (.Name x pos) (tgN i) := (vg_name hN hi hx hf).m
theorem gs_nil : MGs X [] tgsNil := vgs_nil.m
theorem gs_cons (h1 : MG X e gf) (h2 : MGs X es gfs) (hs : (assignEach (e :: es) X.env).map (·.2) = assign e X.env :: (assignEach es X.env).map (·.2) := by rfl) : MGs X (e :: es) (tgsCons gf gfs) := (vgs_cons h1.v h2.v hs).m
theorem g_tup {es : List Expr} {k n : Nat} (hc : X.calm = true) (h : MGs X es gfs) (hn : (assignEach es X.env).length = n := by rfl) (hst : (assignEach es X.env).findIdx? (·.1) = none := by rfl) : MG X (.Tuple es k pos) (tgT n gfs) := (vg_tup hc h.v hn hst).m
theorem s_asg (he : ME X e ev) (hg : MG X tg gf) (hs : swapsWithSole [tg] e pos.line X.env = pure false := by rfl) (hw : swappedStores [tg] e X.env = pure none := by rfl) (h1 : (assignEach [tg] X.env).map (·.2) = [assign tg X.env] := by rfl) :
    MS X (.Assign [tg] e pos) (sAsg ev gf) := (vs_asg he.v hg.v hs hw h1).m
theorem s_while (m : Nat) (hp : PassesOwn (model X.prog X.w) X.A X.env X.xe) (hc : MT X c et) (hb : MSs X sts rn) : MS X (.While c sts [] pos) (whileN et rn m) := (vs_while m hp hc.v hb.v).m
theorem s_for (hp : PassesOwn (model X.prog X.w) X.A X.env X.xe) (hc : X.calm = true) (hi : MI X tg iter src) (hg : MG X tg gf) (hb : MSs X sts rn) (hs : ∀ x, foldedSetIterable iter X.env x = pure x := by intro _; rfl) :
    MS X (.For tg iter sts [] pos) (sFor src gf rn) := (vs_for hp hc hi.v hg.v hb.v hs).m
end

/-! ### comprehensions -/
theorem adq_lc {K : PySem.W.Frag} {wi : TI} {src : SrF} {g : TG} {gf : TgF} {tt : TT} {et : TsF} {te : TE} {ev : EvF} {vs : List Nat} (own : Bool) (hi : AdqI K wi src) (hg : AdqG K g gf) (hO : OnlyG g vs) (mG : MonoG g) (ht : AdqT K tt et) (he : Adq K te ev) :
    Adq K (tLc wi g tt te vs) (eLc own src gf et ev vs) := fun W σ ε μ v μ' Q R En q k => by
  unfold eLc at q
  simp only [Option.bind_eq_some_iff] at q
  obtain ⟨⟨⟨items, ok⟩, μ1⟩, q1, ⟨xs, μ2⟩, q2, q3⟩ := q
  have hcap : xs.length ≤ cap := by
    unfold mkL at q3
    by_cases h : xs.length ≤ cap
    · exact h
    · rw [if_neg h] at q3; cases q3
  refine hi W σ ε μ items ok μ1 _ R En q1 fun W1 J R1 E1 G => fun D hD => ?_
  have hD0 : W.H D = none := by
    cases z : W.H D with
    | none => rfl
    | some u => obtain ⟨u', e⟩ := E1.th D u z; rw [hD] at e; cases e
  obtain ⟨R1', E1', S1⟩ := Side.new R1 hD
  refine ⟨fun i m H' => ∃ W' μ' acc ws rest, W'.H = H' ∧ Rl K W' μ' ∧ Ext W1 μ1.length W' μ'.length ∧ Side W' μ'.length D ws ∧ Pvs K W' μ'.length acc ws ∧ i + m = items.length ∧ lcD (okG items ok) gf et ev (wipeE ε vs) (items.drop i) μ' = some (rest, μ2) ∧ acc ++ rest = xs,
    ⟨items.length, _, μ1, [], [], xs, rfl, R1', E1', S1, .nil, by omega, by simpa using q2, rfl⟩, fun i m H2 h => ?_⟩
  obtain ⟨W2, μ3, acc, ws, rest, rfl, R2, E2, S2, r2, em, q4, ea⟩ := h
  cases m with
  | zero =>
    have : items.drop i = [] := List.drop_eq_nil_of_le (by omega)
    rw [this] at q4
    simp only [lcD] at q4
    by_cases hG : okG items ok μ3 = true
    · rw [if_pos hG] at q4
      cases q4
      have st := (G W2 μ2 R2 E2.l (okG_ok hG)).2
      rw [show items.length = i by omega] at st
      rw [List.append_nil] at ea
      subst ea
      exact .inl ⟨st, Side.mkL R2 S2 (E1.trans E2) hD0 r2 q3 k⟩
    · rw [if_neg hG] at q4; cases q4
  | succ m =>
    have hi' : i < items.length := by omega
    rw [List.drop_eq_getElem_cons hi'] at q4
    simp only [lcD] at q4
    by_cases hG : okG items ok μ3 = true
    · rw [if_pos hG] at q4
      simp only [Option.bind_eq_some_iff] at q4
      obtain ⟨⟨ε4, μ4⟩, q5, ⟨bb, μ5⟩, q6, q7⟩ := q4
      obtain ⟨go, yl⟩ := (G W2 μ3 R2 E2.l (okG_ok hG)).1 i _ (List.getElem?_eq_getElem hi')
      refine .inr ⟨go, fun H' => ∃ W' μ' acc ws rest, W'.H = H' ∧ Rl K W' μ' ∧ Ext W1 μ1.length W' μ'.length ∧ Side W' μ'.length D ws ∧ Pvs K W' μ'.length acc ws ∧ (i + 1) + m = items.length ∧ lcD (okG items ok) gf et ev (wipeE ε vs) (items.drop (i + 1)) μ' = some (rest, μ2) ∧ acc ++ rest = xs, fun H' h => ⟨m, Nat.lt_succ_self _, h⟩, fun x H' hy => ?_⟩
      obtain ⟨W3, rfl, R3, E3, r3⟩ := yl x H' hy
      have En3 : EnvR K W3 μ3.length (L2.wipe σ vs) (wipeE ε vs) := (En.mono ((E1.trans E2).trans E3)).wipe vs
      refine mG _ _ _ _ _ ?_ (hO _ _ _ _ (hg W3 (L2.wipe σ vs) (wipeE ε vs) μ3 _ x ε4 μ4 (fun σ' H' => tt σ' H' fun b H3 => if b = true then te σ' H3 fun y H4 => ∃ acc, H4 D = some (.lst acc) ∧ acc.length < sizeLine ∧ (∃ W' μ' acc' ws rest, W'.H = upd H4 D (.lst (acc ++ [y])) ∧ Rl K W' μ' ∧ Ext W1 μ1.length W' μ'.length ∧ Side W' μ'.length D ws ∧ Pvs K W' μ'.length acc' ws ∧ (i + 1) + m = items.length ∧ lcD (okG items ok) gf et ev (wipeE ε vs) (items.drop (i + 1)) μ' = some (rest, μ2) ∧ acc' ++ rest = xs) else (∃ W' μ' acc' ws rest, W'.H = H3 ∧ Rl K W' μ' ∧ Ext W1 μ1.length W' μ'.length ∧ Side W' μ'.length D ws ∧ Pvs K W' μ'.length acc' ws ∧ (i + 1) + m = items.length ∧ lcD (okG items ok) gf et ev (wipeE ε vs) (items.drop (i + 1)) μ' = some (rest, μ2) ∧ acc' ++ rest = xs)) R3 En3 r3 q5 fun W4 σ4 R4 E4 En4 => ?_))
      · rintro a b ⟨h1, h2⟩
        exact ⟨h2.trans (wipe_wipe vs), h1⟩
      · refine ht W4 σ4 ε4 μ4 bb μ5 _ R4 En4 q6 fun W5 R5 E5 => ?_
        have E25 := (E3.trans E4).trans E5
        cases bb with
        | false =>
          simp only [Bool.false_eq_true, if_false] at q7
          exact iteF ⟨W5, μ5, acc, ws, rest, rfl, R5, E2.trans E25, S2.ext E25, Pvs.mono E25 r2, by omega, q7, ea⟩
        | true =>
          simp only [if_true, Option.bind_eq_some_iff] at q7
          obtain ⟨⟨y, μ6⟩, q8, ⟨zs, μ7⟩, q9, q10⟩ := q7
          cases q10
          refine iteT (he W5 σ4 ε4 μ5 y μ6 _ R5 (En4.mono E5) q8 fun vy W6 R6 E6 r6 => ?_)
          have E26 := E25.trans E6
          have S6 := S2.ext E26
          obtain ⟨R7, E7, S7, tr⟩ := Side.put (ws := ws ++ [vy]) R6 S6 (E2.trans E26) hD
          refine ⟨ws, S6.at_, ?_, ⟨_, μ6, acc ++ [y], ws ++ [vy], zs, rfl, R7, E7, S7, ?_, by omega, q9, by rw [← ea]; simp⟩⟩
          · have : acc.length = ws.length := r2.length
            rw [← ea] at hcap
            refine cap_lt ?_
            simp at hcap; omega
          · exact L2.Paired.mapP ((Pvs.mono E26 r2).append (.cons r6 .nil)) fun _ _ q => tr q
    · rw [if_neg hG] at q4; cases q4
section
variable {X : Cx} {elt tg iter : Expr} {ifs : List Expr} {scope : Scope} {own : List (Str × Nat)} {pos : Pos} {src : SrF} {et : TsF} {ev : EvF}
/-- a clause's tests -/
def MTs (X : Cx) (ifs : List Expr) (ev : TsF) : Prop := PTs X ifs (uT X.K ev)
theorem ts_nil : MTs X [] tsYes := ⟨fun pins s σ H Q I q => by
  obtain ⟨W, ε, μ, v, μ', rfl, R, En, h, k⟩ := q
  cases h
  exact pts_nil.run pins s σ _ Q I (k W R (Ext.refl _ _))⟩
theorem ts_one {c : Expr} (h : MT X c et) : MTs X [c] et := pts_one h
/-- [elt for NAME in ..] -/
theorem m_lc (mk : Bool) (i : Nat) (hc : X.calm = true) (hN : X.N.Nodup) (hi : MI X tg iter src) (ok : BlkOk X.N X.env.scope scope own) (hg : ∀ (s : Shared) (H : Hp) (C : Addr) (cl : List (Str × Addr)) (fp : List Addr), PG (X.blk s H scope (compEnvC scope cl C X.env) fp) tg (gName i))
    (ht : ∀ (s : Shared) (H : Hp) (C : Addr) (cl : List (Str × Addr)) (fp : List Addr), MTs (X.blk s H scope (compEnvC scope cl C X.env) fp) ifs et) (he : ∀ (s : Shared) (H : Hp) (C : Addr) (cl : List (Str × Addr)) (fp : List Addr), ME (X.blk s H scope (compEnvC scope cl C X.env) fp) elt ev)
    (hm : i ∈ own.map (·.2) := by decide) (hs : ∀ x, foldedSetIterable iter X.env x = pure x := by intro _; rfl) : ME X (.ListComp elt [⟨tg, iter, ifs, 0⟩] scope pos) (eLc mk src (tgN i) et ev (own.map (·.2))) :=
  VE.m ⟨pe_lc (tt := uT X.K et) (te := uE X.K ev) hc hN hi ok hg ht he hs, adq_lc mk adqUI (adq_gN i) (onlyN hm) monoN adqUT adqU⟩
theorem s_setLc {j : Nat} {y : Str} {py spos : Pos} (mk : Bool) (i : Nat) (hc : X.calm = true) (hN : X.N.Nodup) (hy : X.N[j]? = some y) (hyl : X.env.scope.names.lookup y = some .local) (hsw : swapsWith (.ListComp elt [⟨tg, iter, ifs, 0⟩] scope pos) (some (.Name y py)) spos.line X.env = pure true)
    (hi : MI X tg iter src) (ok : BlkOk X.N X.env.scope scope own) (hg : ∀ (s : Shared) (H : Hp) (C : Addr) (cl : List (Str × Addr)) (fp : List Addr), PG (X.blk s H scope (compEnvC scope cl C X.env) fp) tg (gName i))
    (ht : ∀ (s : Shared) (H : Hp) (C : Addr) (cl : List (Str × Addr)) (fp : List Addr), MTs (X.blk s H scope (compEnvC scope cl C X.env) fp) ifs et) (he : ∀ (s : Shared) (H : Hp) (C : Addr) (cl : List (Str × Addr)) (fp : List Addr), ME (X.blk s H scope (compEnvC scope cl C X.env) fp) elt ev)
    (hm : i ∈ own.map (·.2) := by decide) (hs : ∀ x, foldedSetIterable iter X.env x = pure x := by intro _; rfl) : MS X (.Assign [.Name y py] (.ListComp elt [⟨tg, iter, ifs, 0⟩] scope pos) spos) (sSet j (eLc mk src (tgN i) et ev (own.map (·.2)))) :=
  VS.m ⟨ps_setLc (tt := uT X.K et) (te := uE X.K ev) hc hN hy hyl hsw hi ok hg ht he hs, adq_set (adq_lc mk adqUI (adq_gN i) (onlyN hm) monoN adqUT adqU)⟩
/-- targets of names within a block -/
inductive Nms (X : Cx) : List Expr → List Nat → Prop
  | nil : Nms X [] []
  | cons {e es i is} : PG X e (gName i) → Nms X es is → ((assignEach (e :: es) X.env).map (·.2) = assign e X.env :: (assignEach es X.env).map (·.2)) → Nms X (e :: es) (i :: is)
def gNs : List Nat → TGs
  | [] => gNil
  | i :: is => gCons (gName i) (gNs is)
@[simp] def tgNs : List Nat → List PV → Evn → Sto → Option (Evn × Sto)
  | [] => tgsNil
  | i :: is => tgsCons (tgN i) (tgNs is)
theorem Nms.pgs {X : Cx} : ∀ {es : List Expr} {is : List Nat}, Nms X es is → PGs X es (gNs is)
  | _, _, .nil => pgs_nil
  | _, _, .cons h t s => pgs_cons h t.pgs s
theorem adq_gNs {K : PySem.W.Frag} : ∀ is : List Nat, AdqGs K (gNs is) (tgNs is)
  | [] => fun W σ ε μ vs xs ε' μ' Q R En r h k => by
    cases r with
    | nil => cases h; exact ⟨rfl, k W σ R (Ext.refl _ _) En⟩
    | cons => cases h
  | i :: is => fun W σ ε μ vs xs ε' μ' Q R En r h k => by
    cases r with
    | nil => cases h
    | cons rx rr =>
      have h' : (tgNs is) _ (ε.set i _) μ = some (ε', μ') := h
      exact ⟨_, _, rfl, (adq_gNs is) W _ _ μ _ _ ε' μ' Q R (En.set i rx) rr h' k⟩
theorem monoNs : ∀ is : List Nat, MonoGs (gNs is)
  | [] => monoNil
  | i :: is => monoCons monoN (monoNs is)
theorem onlyNs {vs : List Nat} : ∀ {is : List Nat}, (∀ i ∈ is, i ∈ vs) → OnlyGs (gNs is) vs
  | [], _ => onlyNil
  | i :: is, h => onlyCons monoN (monoNs is) (onlyN (h i List.mem_cons_self)) (onlyNs fun j hj => h j (List.mem_cons_of_mem _ hj))
theorem adq_gT {K : PySem.W.Frag} {n : Nat} {gs : TGs} {gfs : List PV → Evn → Sto → Option (Evn × Sto)} (h : AdqGs K gs gfs) : AdqG K (gTup K n gs) (tgT n gfs) := fun W σ ε μ v x ε' μ' Q R En r q k => by
  unfold tgT at q
  split at q
  · rename_i ds
    by_cases hl : ds.length = n
    · rw [if_pos hl] at q
      cases r with
      | tup e a =>
        exact ⟨_, _, rfl, SqT.of (R.sub _ _ e), by have := Pvs.length (DtAll.pvs (K := K) (W := W) (n := μ.length) a); simp at this; omega, h W σ ε μ _ _ ε' μ' Q R En (DtAll.pvs a) q k⟩
    · rw [if_neg hl] at q; cases q
  · rename_i kp
    split at q
    · rename_i xs hk
      by_cases hl : xs.length = n
      · rw [if_pos hl] at q
        obtain ⟨vs, e, r2⟩ := R.ob _ _ hk
        exact ⟨_, _, r.2, SqT.of e, by have := Pvs.length r2; omega, h W σ ε μ _ _ ε' μ' Q R En r2 q k⟩
      · rw [if_neg hl] at q; cases q
    · cases q
  · cases q
/-- [elt for a, b in ..] -/
theorem m_lcT {kk : Nat} {tes : List Expr} {tpos : Pos} (mk : Bool) (is : List Nat) (n : Nat) (hc : X.calm = true) (hN : X.N.Nodup) (hi : MI X (.Tuple tes kk tpos) iter src) (ok : BlkOk X.N X.env.scope scope own)
    (hg : ∀ (s : Shared) (H : Hp) (C : Addr) (cl : List (Str × Addr)) (fp : List Addr), Nms (X.blk s H scope (compEnvC scope cl C X.env) fp) tes is)
    (hn : ∀ (s : Shared) (H : Hp) (C : Addr) (cl : List (Str × Addr)) (fp : List Addr), (assignEach tes (X.blk s H scope (compEnvC scope cl C X.env) fp).env).length = n)
    (hst : ∀ (s : Shared) (H : Hp) (C : Addr) (cl : List (Str × Addr)) (fp : List Addr), (assignEach tes (X.blk s H scope (compEnvC scope cl C X.env) fp).env).findIdx? (·.1) = none)
    (ht : ∀ (s : Shared) (H : Hp) (C : Addr) (cl : List (Str × Addr)) (fp : List Addr), MTs (X.blk s H scope (compEnvC scope cl C X.env) fp) ifs et) (he : ∀ (s : Shared) (H : Hp) (C : Addr) (cl : List (Str × Addr)) (fp : List Addr), ME (X.blk s H scope (compEnvC scope cl C X.env) fp) elt ev)
    (hm : ∀ i ∈ is, i ∈ own.map (·.2) := by decide) (hs : ∀ x, foldedSetIterable iter X.env x = pure x := by intro _; rfl) : ME X (.ListComp elt [⟨.Tuple tes kk tpos, iter, ifs, 0⟩] scope pos) (eLc mk src (tgT n (tgNs is)) et ev (own.map (·.2))) :=
  VE.m ⟨pe_lc (g := gTup X.K n (gNs is)) (tt := uT X.K et) (te := uE X.K ev) hc hN hi ok (fun s H C cl fp => pg_tup (X := X.blk s H scope (compEnvC scope cl C X.env) fp) hc (hg s H C cl fp).pgs (hn s H C cl fp) (hst s H C cl fp)) ht he hs, adq_lc mk adqUI (adq_gT (adq_gNs is)) (onlyT (onlyNs hm)) (monoT (monoNs is)) adqUT adqU⟩
end

/-! ### defs -/
@[simp] def startE (m : Nat) (ps : List PV) : Evn := ps.map some ++ List.replicate (m - ps.length) none
@[simp] def fnP (m n : Nat) (rn : RnF) (ds : List PyData) : Option PyData :=
  if ds.length = n then match rn (startE m (ds.map PV.dat)) [] with
    | some (.rt (.dat d) _) => some d
    | some (.nx _ _) => some .none
    | _ => none
  else none
@[simp] def fnG (m n : Nat) (rn : RnF) (ps : List PV) (μ : Sto) : Option (PV × Sto) :=
  if ps.length = n then match rn (startE m ps) μ with
    | some (.rt v μ') => some (v, μ')
    | some (.nx _ μ') => some (.dat .none, μ')
    | _ => none
  else none
def spP (n : Nat) (F : List PyData → Option PyData) : Sp := fun vs H Q _ => vs.length = n ∧ ∃ ds d Hi, Same Hi H ∧ DtAll Hi vs ds ∧ F ds = some d ∧
  ∀ x Hi' H', Same Hi Hi' → Same Hi' H' → Same H H' → (∀ a o, Hi' a = some o → Hi a = none → H a = none) → Dt Hi' x d → Q x H'
def spG (K : PySem.W.Frag) (n : Nat) (F : List PV → Sto → Option (PV × Sto)) : Sp := fun vs H Q _ => vs.length = n ∧ ∃ W ps μ v μ', W.H = H ∧ Rl K W μ ∧ Pvs K W μ.length ps vs ∧ F ps μ = some (v, μ') ∧ Kont K W μ.length μ' v Q
theorem startR {K : PySem.W.Frag} {W : Wd} {n : Nat} {N : List Str} {ps : List PV} {vs : List V} (h : Pvs K W n ps vs) : EnvR K W n (L2.start N vs) (startE N.length ps) := by
  have hl := h.length
  refine ⟨by simp [L2.start, startE, hl], fun i p e => ?_⟩
  unfold startE at e
  unfold L2.start
  by_cases hi : i < ps.length
  · rw [List.getElem?_append_left (by simpa using hi), List.getElem?_map] at e
    cases q : ps[i]? with
    | none => rw [q] at e; cases e
    | some p' =>
      rw [q] at e; cases e
      obtain ⟨v, h1, h2⟩ := h.get q
      exact ⟨v, by rw [List.getElem?_append_left (by simp; omega), List.getElem?_map, h1]; rfl, h2⟩
  · rw [List.getElem?_append_right (by simpa using hi), List.getElem?_replicate] at e
    split at e <;> cases e
section
variable {P : Program} {w : World} {K : PySem.W.Frag} {mg : Str → Option Value} {base : Heap} {x qual : Str} {st : Stmt} {f : Addr} {fd : FuncData} {N ps : List Str} {k : Nat} {rn : RnF}
theorem fn_pure (F : Fun K x qual st f fd) (S : FnScope N ps (defScope st)) (hb : ∀ (cdv : Value) (A : Around) (outer : List PySem.Env) (s : Shared) (H : Hp) (E : XK), Room k (A.deeper (envOfC qual (defScope st) s.heap.objs.size f cdv)) → MSs (cxOf CX0 P w K mg base N qual (defScope st) f cdv A outer s H E).nox (defBody st) rn) :
    FnOk P w K mg base CX0 (k + 1) f fd ps (spP ps.length (fnP N.length ps.length rn)) := by
  refine F.ok S (fun vs H Q E h => h.1) (fun cdv A outer s H vs Q E hr h => ⟨_, hb cdv A outer s H E hr, ?_⟩)
  obtain ⟨hl, ds, d, Hi, sm, hd, hF, q⟩ := h
  unfold fnP at hF
  have R : Rl K ⟨Hi, H, fun _ => 0⟩ [] := ⟨sm, fun k o h => by simp at h, fun k o h => by simp at h, fun j k o u h => by simp at h, fun k h => by simp at h⟩
  have rp : Pvs K ⟨Hi, H, fun _ => 0⟩ 0 (ds.map PV.dat) vs := DtAll.pvs hd
  have fin : ∀ W' : Wd, ∀ n' x, Ext ⟨Hi, H, fun _ => 0⟩ 0 W' n' → ∀ μ', Rl K W' μ' → Dt W'.Hi x d → Q x W'.H := fun W' n' x E1 μ' R' r =>
    q x W'.Hi W'.H E1.im R'.sub (fun a o h => E1.fr a o h fun k hk => absurd hk (Nat.not_lt_zero _)) (fun a o h h' => by
      rcases E1.nw a o h h' with z | ⟨k, hk, _⟩
      · exact z
      · exact absurd hk (Nat.not_lt_zero _)) r
  split at hF
  · split at hF
    · rename_i d' μ' e
      cases hF
      exact ⟨⟨Hi, H, fun _ => 0⟩, _, [], _, rfl, R, startR rp, e, fun W' x R' E1 r => fin W' _ x E1 _ R' r⟩
    · rename_i ε' μ' e
      cases hF
      exact ⟨⟨Hi, H, fun _ => 0⟩, _, [], _, rfl, R, startR rp, e, fun W' σ' R' E1 r => fin W' _ .non E1 _ R' .non⟩
    · cases hF
  · cases hF
theorem fn_gen (F : Fun K x qual st f fd) (S : FnScope N ps (defScope st)) (hb : ∀ (cdv : Value) (A : Around) (outer : List PySem.Env) (s : Shared) (H : Hp) (E : XK), Room k (A.deeper (envOfC qual (defScope st) s.heap.objs.size f cdv)) → MSs (cxOf CX0 P w K mg base N qual (defScope st) f cdv A outer s H E).nox (defBody st) rn) :
    FnOk P w K mg base CX0 (k + 1) f fd ps (spG K ps.length (fnG N.length ps.length rn)) := by
  refine F.ok S (fun vs H Q E h => h.1) (fun cdv A outer s H vs Q E hr h => ⟨_, hb cdv A outer s H E hr, ?_⟩)
  obtain ⟨hl, W, ps', μ, v, μ', rfl, R, rp, hF, q⟩ := h
  unfold fnG at hF
  split at hF
  · split at hF
    · rename_i v' μ2 e
      cases hF
      exact ⟨W, _, μ, _, rfl, R, startR rp, e, fun W' x R' E1 r => q x W' R' E1 r⟩
    · rename_i ε' μ2 e
      cases hF
      exact ⟨W, _, μ, _, rfl, R, startR rp, e, fun W' σ' R' E1 r => q .non W' R' E1 .non⟩
    · cases hF
  · cases hF
end
@[simp] def eCallP (n : Nat) (F : List PyData → Option PyData) (el : ArF) : EvF := fun ε μ => (el ε μ).bind fun x => if x.1.length = n then (asDats x.1).bind fun ds => (F ds).map fun d => (.dat d, x.2) else none
@[simp] def eCallG (n : Nat) (F : List PV → Sto → Option (PV × Sto)) (el : ArF) : EvF := fun ε μ => (el ε μ).bind fun x => if x.1.length = n then F x.1 x.2 else none
theorem pure_ok {K : PySem.W.Frag} {n : Nat} {F : List PyData → Option PyData} {W : Wd} {μ : Sto} {xs : List V} {ds : List PyData} {d : PyData} {Q : VK} {E : XK} (R : Rl K W μ) (r : Pvs K W μ.length (ds.map PV.dat) xs) (hn : ds.length = n) (hF : F ds = some d) (k : Kont K W μ.length μ (.dat d) Q) : spP n F xs W.H Q E := by
  have hl := r.length
  refine ⟨by simp at hl; omega, ds, d, W.Hi, R.sub, Pvs.dt r, hF, fun x Hi' H' s1 s2 s3 fr rx => ?_⟩
  have E1 : Ext W μ.length ⟨Hi', H', W.at'⟩ μ.length := ⟨s1, fun _ _ => rfl, Nat.le_refl _, fun a o h _ => s3 a o h, fun a o h h' => .inl (fr a o h h'), fun k h h' => absurd h' (Nat.not_lt.mpr h), fun a o h => ⟨o, s3 a o h⟩⟩
  refine k x ⟨Hi', H', W.at'⟩ ⟨s2, fun j o h => ?_, fun j o h hg => ?_, R.inj, fun j hj => let ⟨u, e⟩ := R.th j hj; ⟨u, s3 _ _ e⟩⟩ E1 rx
  · have := R.ob j o h
    cases o with
    | gone => trivial
    | lst xs => obtain ⟨vs, e, r⟩ := this; exact ⟨vs, s3 _ _ e, r.mono E1⟩
    | dic kvs => obtain ⟨vs, e, r⟩ := this; exact ⟨vs, s3 _ _ e, r.mono E1⟩
    | tpl xs => obtain ⟨vs, e, r⟩ := this; exact ⟨vs, s3 _ _ e, r.mono E1⟩
    | dtu kvs => obtain ⟨vs, e, r⟩ := this; exact ⟨vs, s3 _ _ e, r.mono E1⟩
  · have lk : j < μ.length := (List.getElem?_eq_some_iff.mp h).1
    cases q : Hi' (W.at' j) with
    | none => exact q
    | some u =>
      obtain ⟨u', e⟩ := R.th j lk
      have := fr _ _ q (R.off j o h hg)
      rw [e] at this; cases this
section
variable {X : Cx} {k : Nat} {f : Addr} {fd : FuncData} {ps : List Str} {x : Str} {p pos : Pos} {e : Expr} {es : List Expr} {el : ArF} {n : Nat}
theorem m_callP {F : List PyData → Option PyData} (G : FnOk X.prog X.w X.K X.mg X.base CX0 k f fd ps (spP n F)) (hr : Room k X.A) (hg : Gl X x) (hm : X.mg x = some (.ref f)) (hk : PySem.W.keepIn X.K (.ref f) = true) (hb : Binds X.K fd ps []) (ha : MA X (e :: es) el)
    (hdb : (x == ("__debug__" : Str)) = false := by decide) (he : starEach (e :: es) X.env = (false, eval e X.env) :: starEach es X.env := by rfl) (hpl : (backTo pos (starEach es X.env)).any (·.1) = false := by rfl) : ME X (.Call (.Name x p) (e :: es) [] pos) (eCallP n F el) :=
  VE.m ⟨pe_call G hr hg hm hk hb .nil pass0 ha hdb he hpl, fun W σ ε μ v μ' Q R En q kk => by
    unfold eCallP at q
    simp only [Option.bind_eq_some_iff] at q
    obtain ⟨⟨xs, μ1⟩, h1, h2⟩ := q
    refine adqUA W σ ε μ xs μ1 _ R En h1 fun vs W1 R1 E1 r1 => ?_
    by_cases hl : xs.length = n
    · simp only [hl, if_pos, Option.bind_eq_some_iff, Option.map_eq_some_iff] at h2
      obtain ⟨ds, h3, d, h4, h5⟩ := h2
      cases h5
      rw [asDats_eq h3] at r1 hl
      rw [List.append_nil]
      exact pure_ok R1 r1 (by simpa using hl) h4 (kk.ext E1)
    · simp only [hl, if_false] at h2; cases h2⟩
theorem m_callG {F : List PV → Sto → Option (PV × Sto)} (G : FnOk X.prog X.w X.K X.mg X.base CX0 k f fd ps (spG X.K n F)) (hr : Room k X.A) (hg : Gl X x) (hm : X.mg x = some (.ref f)) (hk : PySem.W.keepIn X.K (.ref f) = true) (hb : Binds X.K fd ps []) (ha : MA X (e :: es) el)
    (hdb : (x == ("__debug__" : Str)) = false := by decide) (he : starEach (e :: es) X.env = (false, eval e X.env) :: starEach es X.env := by rfl) (hpl : (backTo pos (starEach es X.env)).any (·.1) = false := by rfl) : ME X (.Call (.Name x p) (e :: es) [] pos) (eCallG n F el) :=
  VE.m ⟨pe_call G hr hg hm hk hb .nil pass0 ha hdb he hpl, fun W σ ε μ v μ' Q R En q kk => by
    unfold eCallG at q
    simp only [Option.bind_eq_some_iff] at q
    obtain ⟨⟨xs, μ1⟩, h1, h2⟩ := q
    refine adqUA W σ ε μ xs μ1 _ R En h1 fun vs W1 R1 E1 r1 => ?_
    by_cases hl : xs.length = n
    · simp only [hl, if_pos] at h2
      have := r1.length
      rw [List.append_nil]
      exact ⟨by omega, W1, xs, μ1, v, μ', rfl, R1, r1, h2, kk.ext E1⟩
    · simp only [hl, if_false] at h2; cases h2⟩
end
end VX
namespace VX
open PySem PySem.Spec PyProof.Rows L2

theorem OpR.or3 {X : Cx} {f : Value → Value → Sem Value} {r1 r2 r3 : R2} (h1 : OpR X f r1) (h2 : OpR X f r2) (h3 : OpR X f r3) : OpR X f (fun x y H Q => r1 x y H Q ∨ r2 x y H Q ∨ r3 x y H Q) :=
  fun pins s σ H x y v u Q I rx ry h => by
    rcases h with h | h | h
    · exact h1 pins s σ H x y v u Q I rx ry h
    · exact h2 pins s σ H x y v u Q I rx ry h
    · exact h3 pins s σ H x y v u Q I rx ry h

/-! ### the functions -/
@[simp] def fAdd (own : Bool) : OpF := fun x y μ => match x, y with
  | .dat (.int i), .dat (.int j) => some (.dat (.int (i + j)), μ)
  | .dat (.str i), .dat (.str j) => if i.length + j.length ≤ cap then some (.dat (.str (i ++ j)), μ) else none
  | x, y => (lstOf μ x).bind fun xs => (lstOf μ y).bind fun ys => mkL own (xs ++ ys) μ
@[simp] def fII (g : Int → Int → Int) : OpF := fun x y μ => match x, y with
  | .dat (.int i), .dat (.int j) => some (.dat (.int (g i j)), μ)
  | _, _ => none
@[simp] def fIB (g : Int → Int → Bool) : OpF := fun x y μ => match x, y with
  | .dat (.int i), .dat (.int j) => some (.dat (.bool (g i j)), μ)
  | _, _ => none
@[simp] def fSub : OpF := fII fun i j => i - j
/-- a whole number's bounds, told so that the kernel has nothing to unfold -/
def inB (m : Nat) : Int → Bool
  | .ofNat n => Nat.ble n m
  | .negSucc n => Nat.ble n m
theorem inB_iff {m : Nat} {j : Int} : inB m j = true ↔ -((m : Int) + 1) ≤ j ∧ j < (m : Int) + 1 := by
  cases j with
  | ofNat n => simp only [inB, Nat.ble_eq, Int.ofNat_eq_natCast]; omega
  | negSucc n => simp only [inB, Nat.ble_eq, Int.negSucc_eq]; omega
theorem p62 : (2 : Int) ^ 62 = 4611686018427387904 := by decide
theorem p63 : (2 : Int) ^ 63 = 9223372036854775808 := by decide
theorem p64 : (2 : Int) ^ 64 = 18446744073709551616 := by decide
def inIx : Int → Bool := inB 9223372036854775807
theorem inIx_ok {j : Int} (h : inIx j = true) : -(2 ^ 63) ≤ j ∧ j < 2 ^ 63 := by
  rw [p63]
  exact inB_iff.mp h
theorem inIx_int {j : Int} (h : -100000 ≤ j) (h' : j ≤ 100000) : inIx j = true := inB_iff.mpr ⟨Int.le_trans (by decide) h, Int.lt_of_le_of_lt h' (by decide)⟩
@[simp] theorem inIx_z : inIx 0 = true := inIx_int (by decide) (by decide)
@[simp] theorem inIx_nat {n : Nat} (h : n ≤ 100000) : inIx (n : Int) = true := inIx_int (by omega) (by omega)
def inMul : Int → Bool := inB 18446744073709551614
theorem inMul_ok {j : Int} (h : inMul j = true) : -(2 ^ 64) < j ∧ j < 2 ^ 64 := by
  rw [p64]
  have := inB_iff.mp h
  omega
@[simp] def fMul (own : Bool) : OpF := fun x y μ => match x, y with
  | .dat (.int i), .dat (.int j) => if (inMul i || inMul j) = true then some (.dat (.int (i * j)), μ) else none
  | x, .dat (.int j) => (lstOf μ x).bind fun xs => if xs.length * j.toNat ≤ cap ∧ inIx j = true then mkL own (List.replicate j.toNat xs).flatten μ else none
  | _, _ => none
@[simp] def fDiv : OpF := fun x y μ => match x, y with
  | .dat (.int i), .dat (.int j) => if 0 < j ∧ j < 1073741824 then some (.dat (.int (i / j)), μ) else none
  | _, _ => none
@[simp] def fMod : OpF := fun x y μ => match x, y with
  | .dat (.int i), .dat (.int j) => if 0 < j then some (.dat (.int (i % j)), μ) else none
  | _, _ => none
@[simp] def fLt : OpF := fIB fun i j => decide (i < j)
@[simp] def fLe : OpF := fIB fun i j => decide (i ≤ j)
@[simp] def fGt : OpF := fIB fun i j => decide (j < i)
@[simp] def fGe : OpF := fIB fun i j => decide (j ≤ i)
@[simp] def fEq (neg : Bool) : OpF := fun x y μ => (asD μ x).bind fun d => (asD μ y).bind fun e => if SeqAt.shaped d = true ∧ SeqAt.shaped e = true then some (.dat (.bool (if neg then !PyData.eqv d e else PyData.eqv d e)), μ) else none
@[simp] def isNonP : PV → Bool
  | .dat .none => true
  | _ => false
@[simp] def fIs (neg : Bool) : OpF := fun x y μ => match y with
  | .dat .none => some (.dat (.bool (if neg then !isNonP x else isNonP x)), μ)
  | _ => none
@[simp] def flatD : PyData → Bool
  | .none => true
  | .bool _ => true
  | .int _ => true
  | .str _ => true
  | _ => false
@[simp] def fIn (neg : Bool) : OpF := fun x y μ => match x, y with
  | .dat (.str w), .dat (.str z) => (match w.cps.toList with | [c] => some (.dat (.bool (if neg then !decide (c ∈ z.cps.toList) else decide (c ∈ z.cps.toList))), μ) | _ => none)
  | .dat d, .dat (.tuple ds) => if flatD d = true ∧ ds.all flatD = true then some (.dat (.bool (if neg then !(ds.any fun z => PyData.eqv z d) else ds.any fun z => PyData.eqv z d)), μ) else none
  | x, y => (asD μ x).bind fun d => (asD μ y).bind fun e => match e with
    | .list ds => if SeqAt.shaped d = true ∧ SeqAt.shaped (.list ds) = true then some (.dat (.bool (if neg then !(ds.any fun z => PyData.eqv z d) else ds.any fun z => PyData.eqv z d)), μ) else none
    | _ => none
@[simp] def fIx : OpF := fun x y μ => match x, y with
  | .dat (.str z), .dat (.int i) => if z.length ≤ cap then (atI z.cps.toList i).map fun c => (.dat (.str ⟨#[c]⟩), μ) else none
  | x, .dat (.int i) => (seqOf μ x).bind fun xs => (atI xs i).map fun v => (v, μ)
  | _, _ => none
@[simp] def fNeg : PV → Option PV
  | .dat (.int i) => some (.dat (.int (-i)))
  | _ => none

theorem op_addA {X : Cx} : OpR X (binaryOp .Add) (fun x y H Q => rI0 (fun i j => .int (i + j)) x y H Q ∨ (fun x y H Q => ∃ i j, x = .str i ∧ y = .str j ∧ i.length + j.length ≤ sizeLine ∧ Q (.str (i ++ j)) H) x y H Q ∨ rCat x y H Q) := OpR.or3 op_add op_add_str op_cat
section
variable {K : PySem.W.Frag} {W : Wd} {n : Nat} {μ : Sto}
theorem rpv_int {i : Int} {x : V} (h : RPV K W n (.dat (.int i)) x) : x = .int i := by cases h; rfl
theorem rpv_str {i : Str} {x : V} (h : RPV K W n (.dat (.str i)) x) : x = .str i := by cases h; rfl
theorem rpv_non {x : V} (h : RPV K W n (.dat .none) x) : x = .non := by cases h; rfl
theorem Pvs.atI {ps : List PV} {vs : List V} {i : Int} {p : PV} (h : Pvs K W n ps vs) (e : L2.atI ps i = some p) : ∃ v, L2.atI vs i = some v ∧ RPV K W n p v := by
  unfold L2.atI at e ⊢
  rw [← h.length]
  cases q : ixN ps.length i with
  | none => rw [q] at e; cases e
  | some j =>
    rw [q] at e
    obtain ⟨v, h1, h2⟩ := h.get (show ps[j]? = some p from e)
    exact ⟨v, h1, h2⟩
theorem Pvs.flatten {ps : List PV} {vs : List V} (h : Pvs K W n ps vs) : ∀ m : Nat, Pvs K W n (List.replicate m ps).flatten (List.replicate m vs).flatten
  | 0 => .nil
  | m + 1 => by
    simp only [List.replicate_succ, List.flatten_cons]
    exact h.append (h.flatten m)
theorem ao_add (own : Bool) : AOp K (fun x y H Q => rI0 (fun i j => .int (i + j)) x y H Q ∨ (fun x y H Q => ∃ i j, x = .str i ∧ y = .str j ∧ i.length + j.length ≤ sizeLine ∧ Q (.str (i ++ j)) H) x y H Q ∨ rCat x y H Q) (fAdd own) := fun W μ x y px py v μ' Q R rx ry h k => by
  unfold fAdd at h
  split at h
  · cases h; obtain rfl := rpv_int rx; obtain rfl := rpv_int ry
    exact .inl ⟨_, _, rfl, rfl, k.now R (.int _)⟩
  · rename_i i j
    obtain rfl := rpv_str rx; obtain rfl := rpv_str ry
    by_cases hc : i.length + j.length ≤ cap
    · rw [if_pos hc] at h; cases h
      exact .inr (.inl ⟨_, _, rfl, rfl, cap_ok hc, k.now R (.str _)⟩)
    · rw [if_neg hc] at h; cases h
  · simp only [Option.bind_eq_some_iff] at h
    obtain ⟨xs, h1, ys, h2, h3⟩ := h
    obtain ⟨a, vs, rfl, ea, ra⟩ := lstOf_ok R rx h1
    obtain ⟨b, ws, rfl, eb, rb⟩ := lstOf_ok R ry h2
    obtain ⟨z, q⟩ := mkL_ok R (ra.append rb) h3 k
    exact .inr (.inr ⟨a, b, vs, ws, rfl, rfl, ea, eb, by simpa using z, q⟩)
theorem ao_II {g : Int → Int → Int} : AOp K (rI0 fun i j => .int (g i j)) (fII g) := fun W μ x y px py v μ' Q R rx ry h k => by
  unfold fII at h
  split at h
  · cases h; obtain rfl := rpv_int rx; obtain rfl := rpv_int ry
    exact ⟨_, _, rfl, rfl, k.now R (.int _)⟩
  · cases h
theorem ao_IB {g : Int → Int → Bool} : AOp K (rI0 fun i j => .bl (g i j)) (fIB g) := fun W μ x y px py v μ' Q R rx ry h k => by
  unfold fIB at h
  split at h
  · cases h; obtain rfl := rpv_int rx; obtain rfl := rpv_int ry
    exact ⟨_, _, rfl, rfl, k.now R (.bl _)⟩
  · cases h
theorem op_mulA {X : Cx} : OpR X (binaryOp .Mult) (fun x y H Q => rI CMul (fun i j => .int (i * j)) x y H Q ∨ rRep x y H Q) := OpR.or op_mul op_rep
theorem ao_mul (own : Bool) : AOp K (fun x y H Q => rI CMul (fun i j => .int (i * j)) x y H Q ∨ rRep x y H Q) (fMul own) := fun W μ x y px py v μ' Q R rx ry h k => by
  unfold fMul at h
  split at h
  · rename_i i j
    obtain rfl := rpv_int rx; obtain rfl := rpv_int ry
    by_cases hc : (inMul i || inMul j) = true
    · rw [if_pos hc] at h; cases h
      refine .inl ⟨_, _, rfl, rfl, ?_, k.now R (.int _)⟩
      rw [Bool.or_eq_true] at hc
      exact hc.imp inMul_ok inMul_ok
    · rw [if_neg hc] at h; cases h
  · rename_i j _
    simp only [Option.bind_eq_some_iff] at h
    obtain ⟨xs, h1, h2⟩ := h
    obtain ⟨a, vs, rfl, ea, ra⟩ := lstOf_ok R rx h1
    obtain rfl := rpv_int ry
    by_cases hc : xs.length * j.toNat ≤ cap ∧ inIx j = true
    · rw [if_pos hc] at h2
      obtain ⟨z, q⟩ := mkL_ok R (Pvs.flatten ra j.toNat) h2 k
      exact .inr ⟨a, j, vs, rfl, rfl, ea, (inIx_ok hc.2).1, (inIx_ok hc.2).2, by rw [← ra.length]; exact cap_ok hc.1, q⟩
    · rw [if_neg hc] at h2; cases h2
  · cases h
theorem ao_div : AOp K (rI CDiv fun i j => .int (i / j)) fDiv := fun W μ x y px py v μ' Q R rx ry h k => by
  unfold fDiv at h
  split at h
  · rename_i i j
    obtain rfl := rpv_int rx; obtain rfl := rpv_int ry
    by_cases hc : 0 < j ∧ j < 1073741824
    · rw [if_pos hc] at h; cases h
      exact ⟨_, _, rfl, rfl, hc, k.now R (.int _)⟩
    · rw [if_neg hc] at h; cases h
  · cases h
theorem ao_mod : AOp K (rI (fun _ j => 0 < j) fun i j => .int (i % j)) fMod := fun W μ x y px py v μ' Q R rx ry h k => by
  unfold fMod at h
  split at h
  · rename_i i j
    obtain rfl := rpv_int rx; obtain rfl := rpv_int ry
    by_cases hc : 0 < j
    · rw [if_pos hc] at h; cases h
      exact ⟨_, _, rfl, rfl, hc, k.now R (.int _)⟩
    · rw [if_neg hc] at h; cases h
  · cases h
theorem ao_eq : AOp K (rEqD K) (fEq false) := fun W μ x y px py v μ' Q R rx ry h k => by
  unfold fEq at h
  simp only [Option.bind_eq_some_iff] at h
  obtain ⟨d, h1, e, h2, h3⟩ := h
  split at h3
  · rename_i hc
    cases h3
    exact ⟨d, e, asD_ok R rx h1, asD_ok R ry h2, hc.1, hc.2, k.now R (.bl _)⟩
  · cases h3
theorem ao_ne : AOp K (rNeD K) (fEq true) := fun W μ x y px py v μ' Q R rx ry h k => by
  unfold fEq at h
  simp only [Option.bind_eq_some_iff] at h
  obtain ⟨d, h1, e, h2, h3⟩ := h
  split at h3
  · rename_i hc
    cases h3
    exact ⟨d, e, asD_ok R rx h1, asD_ok R ry h2, hc.1, hc.2, k.now R (.bl _)⟩
  · cases h3
theorem isNon_ok {p : PV} {x : V} (h : RPV K W n p x) : decide (x = .non) = isNonP p := by
  cases p with
  | dat d =>
    cases h <;> simp [isNonP]
  | ptr k => obtain ⟨_, rfl⟩ := h; simp [isNonP]
  | scr ns => obtain ⟨a, rfl, _⟩ := h; simp [isNonP]
theorem ao_is : AOp K (fun x y H Q => y = .non ∧ Q (.bl (decide (x = .non))) H) (fIs false) := fun W μ x y px py v μ' Q R rx ry h k => by
  unfold fIs at h
  split at h
  · cases h
    refine ⟨rpv_non ry, ?_⟩
    rw [isNon_ok rx]
    exact k.now R (.bl _)
  · cases h
theorem ao_isnot : AOp K (fun x y H Q => y = .non ∧ Q (.bl (!decide (x = .non))) H) (fIs true) := fun W μ x y px py v μ' Q R rx ry h k => by
  unfold fIs at h
  split at h
  · cases h
    refine ⟨rpv_non ry, ?_⟩
    rw [isNon_ok rx]
    exact k.now R (.bl _)
  · cases h
theorem flat_ok {d : PyData} {v : V} {H : Hp} (h : Dt H v d) (f : flatD d = true) : flatV v = true := by
  cases h <;> first | rfl | cases f
theorem eqV_ok {d e : PyData} {v w : V} {H : Hp} (h : Dt H v d) (h' : Dt H w e) (f : flatD d = true) (f' : flatD e = true) : eqV v w = PyData.eqv d e := by
  cases h <;> cases h' <;> simp_all [eqV, PyData.eqv, flatD]
theorem inV_ok {d : PyData} {v : V} {H : Hp} (h : Dt H v d) (f : flatD d = true) : ∀ {ds : List PyData} {vs : List V}, DtAll H vs ds → ds.all flatD = true → vs.all flatV = true ∧ inV v vs = ds.any fun z => PyData.eqv z d
  | _, _, .nil, _ => ⟨rfl, rfl⟩
  | _, _, .cons a r, g => by
    simp only [List.all_cons, Bool.and_eq_true] at g
    obtain ⟨h1, h2⟩ := inV_ok h f r g.2
    refine ⟨by simp only [List.all_cons, Bool.and_eq_true]; exact ⟨flat_ok a g.1, h1⟩, ?_⟩
    unfold inV at h2 ⊢
    simp only [List.any_cons]
    rw [h2, eqV_ok a h g.1 f]
def rInA (K : PySem.W.Frag) : R2 := fun x y H Q => (fun x y H Q => ∃ (c : Nat) (z : Str), x = .str ⟨#[c]⟩ ∧ y = .str z ∧ Q (.bl (decide (c ∈ z.cps.toList))) H) x y H Q ∨ rIn K false x y H Q ∨ rInD K x y H Q
def rNotInA (K : PySem.W.Frag) : R2 := fun x y H Q => (fun x y H Q => ∃ (c : Nat) (z : Str), x = .str ⟨#[c]⟩ ∧ y = .str z ∧ Q (.bl (!decide (c ∈ z.cps.toList))) H) x y H Q ∨ rIn K true x y H Q ∨ rNotInD K x y H Q
theorem op_inA {X : Cx} (hu : X.A.units + 65 < cLine) : OpR X (compareOp .In) (rInA X.K) := OpR.or3 op_in_sign op_in_seq (op_inD hu)
theorem op_notInA {X : Cx} (hu : X.A.units + 65 < cLine) : OpR X (compareOp .NotIn) (rNotInA X.K) := OpR.or3 op_notIn_sign op_notIn_seq (op_notInD hu)
theorem str_of_cps {w : Str} {c : Nat} (h : w.cps.toList = [c]) : w = ⟨#[c]⟩ := by
  cases w with
  | mk a =>
    have : a = #[c] := by
      apply Array.ext'
      simpa using h
    rw [this]
theorem ao_in : AOp K (rInA K) (fIn false) := fun W μ x y px py v μ' Q R rx ry h k => by
  unfold fIn at h
  split at h
  · rename_i w z
    obtain rfl := rpv_str rx; obtain rfl := rpv_str ry
    split at h
    · rename_i c e
      cases h
      rw [str_of_cps e]
      exact .inl ⟨c, z, rfl, rfl, k.now R (.bl _)⟩
    · cases h
  · rename_i d ds _
    split at h
    · rename_i hc
      cases h
      cases ry with
      | tup e a =>
        obtain ⟨h1, h2⟩ := inV_ok rx hc.1 a hc.2
        refine .inr (.inl ⟨_, _, rfl, .inr (SqT.of (R.sub _ _ e)), flat_ok rx hc.1, h1, ?_⟩)
        rw [if_neg (by decide), h2]
        exact k.now R (.bl _)
    · cases h
  · simp only [Option.bind_eq_some_iff] at h
    obtain ⟨d, h1, e, h2, h3⟩ := h
    split at h3
    · rename_i ds
      split at h3
      · rename_i hc
        cases h3
        exact .inr (.inr ⟨d, ds, asD_ok R rx h1, asD_ok R ry h2, hc.1, hc.2, k.now R (.bl _)⟩)
      · cases h3
    · cases h3
theorem ao_notIn : AOp K (rNotInA K) (fIn true) := fun W μ x y px py v μ' Q R rx ry h k => by
  unfold fIn at h
  split at h
  · rename_i w z
    obtain rfl := rpv_str rx; obtain rfl := rpv_str ry
    split at h
    · rename_i c e
      cases h
      rw [str_of_cps e]
      exact .inl ⟨c, z, rfl, rfl, k.now R (.bl _)⟩
    · cases h
  · rename_i d ds _
    split at h
    · rename_i hc
      cases h
      cases ry with
      | tup e a =>
        obtain ⟨h1, h2⟩ := inV_ok rx hc.1 a hc.2
        refine .inr (.inl ⟨_, _, rfl, .inr (SqT.of (R.sub _ _ e)), flat_ok rx hc.1, h1, ?_⟩)
        rw [if_pos rfl, h2]
        exact k.now R (.bl _)
    · cases h
  · simp only [Option.bind_eq_some_iff] at h
    obtain ⟨d, h1, e, h2, h3⟩ := h
    split at h3
    · rename_i ds
      split at h3
      · rename_i hc
        cases h3
        exact .inr (.inr ⟨d, ds, asD_ok R rx h1, asD_ok R ry h2, hc.1, hc.2, k.now R (.bl _)⟩)
      · cases h3
    · cases h3
theorem ix_any {X : Cx} : IxR X (rIx X.K) := IxR.or ix_list (IxR.or ix_tup ix_str)
theorem ao_ix : AOp K (rIx K) fIx := fun W μ x y px py v μ' Q R rx ry h k => by
  unfold fIx at h
  split at h
  · rename_i z i
    obtain rfl := rpv_str rx; obtain rfl := rpv_int ry
    by_cases hc : z.length ≤ cap
    · rw [if_pos hc] at h
      simp only [Option.map_eq_some_iff] at h
      obtain ⟨c, h1, h2⟩ := h
      cases h2
      exact .inr (.inr ⟨z, i, c, rfl, rfl, cap_ok hc, h1, k.now R (.str _)⟩)
    · rw [if_neg hc] at h; cases h
  · obtain rfl := rpv_int ry
    simp only [Option.bind_eq_some_iff, Option.map_eq_some_iff] at h
    obtain ⟨xs, h1, u, h2, h3⟩ := h
    cases h3
    obtain ⟨a, vs, rfl, e, r⟩ := seqOf_ok R rx h1
    obtain ⟨w, h4, h5⟩ := Pvs.atI r h2
    rcases e with e | e
    · exact .inl ⟨a, vs, _, w, rfl, rfl, e, h4, k.now R h5⟩
    · exact .inr (.inl ⟨a, vs, _, w, rfl, rfl, e, h4, k.now R h5⟩)
  · cases h
theorem au_neg : AUn K (rU fun i => .int (-i)) fNeg := fun W μ x px v Q R rx h k => by
  unfold fNeg at h
  split at h
  · cases h; obtain rfl := rpv_int rx
    exact ⟨_, rfl, k.now R (.int _)⟩
  · cases h
end
/-! ### the rules -/
section
variable {X : Cx} {a b c e o : Expr} {ea eb ec ev : EvF} {pos : Pos}
theorem m_add (own : Bool) (ha : ME X a ea) (hb : ME X b eb) : ME X (.BinOp a .Add b pos) (eOp (fAdd own) ea eb) := m_op op_addA (ao_add own) ha hb
theorem m_sub (ha : ME X a ea) (hb : ME X b eb) : ME X (.BinOp a .Sub b pos) (eOp fSub ea eb) := m_op op_sub ao_II ha hb
theorem m_mul (own : Bool) (ha : ME X a ea) (hb : ME X b eb) : ME X (.BinOp a .Mult b pos) (eOp (fMul own) ea eb) := m_op op_mulA (ao_mul own) ha hb
theorem m_div (ha : ME X a ea) (hb : ME X b eb) : ME X (.BinOp a .FloorDiv b pos) (eOp fDiv ea eb) := m_op op_fdiv ao_div ha hb
theorem m_mod (ha : ME X a ea) (hb : ME X b eb) : ME X (.BinOp a .Mod b pos) (eOp fMod ea eb) := m_op op_mod ao_mod ha hb
theorem m_lt (ha : ME X a ea) (hb : ME X b eb) : ME X (.Compare a [.Lt] [b] pos) (eOp fLt ea eb) := m_cmp op_lt ao_IB ha hb (nomark _)
theorem m_le (ha : ME X a ea) (hb : ME X b eb) : ME X (.Compare a [.LtE] [b] pos) (eOp fLe ea eb) := m_cmp op_le ao_IB ha hb (nomark _)
theorem m_gt (ha : ME X a ea) (hb : ME X b eb) : ME X (.Compare a [.Gt] [b] pos) (eOp fGt ea eb) := m_cmp op_gt ao_IB ha hb (nomark _)
theorem m_ge (ha : ME X a ea) (hb : ME X b eb) : ME X (.Compare a [.GtE] [b] pos) (eOp fGe ea eb) := m_cmp op_ge ao_IB ha hb (nomark _)
theorem m_eq (hu : X.A.units + 65 < cLine) (ha : ME X a ea) (hb : ME X b eb) : ME X (.Compare a [.Eq] [b] pos) (eOp (fEq false) ea eb) := m_cmp (op_eqD (by omega)) ao_eq ha hb (nomark _)
theorem m_ne (hu : X.A.units + 65 < cLine) (ha : ME X a ea) (hb : ME X b eb) : ME X (.Compare a [.NotEq] [b] pos) (eOp (fEq true) ea eb) := m_cmp (op_neD (by omega)) ao_ne ha hb (nomark _)
theorem m_is (ha : ME X a ea) (hb : ME X b eb) : ME X (.Compare a [.Is] [b] pos) (eOp (fIs false) ea eb) := m_cmp op_isN ao_is ha hb (nomark _)
theorem m_isnot (ha : ME X a ea) (hb : ME X b eb) : ME X (.Compare a [.IsNot] [b] pos) (eOp (fIs true) ea eb) := m_cmp op_notN ao_isnot ha hb (nomark _)
theorem m_in (hu : X.A.units + 65 < cLine) (ha : ME X a ea) (hb : ME X b eb) (hm : behindInMarks .In b = false := by rfl) : ME X (.Compare a [.In] [b] pos) (eOp (fIn false) ea eb) := m_cmp (op_inA hu) ao_in ha hb hm
theorem m_notin (hu : X.A.units + 65 < cLine) (ha : ME X a ea) (hb : ME X b eb) (hm : behindInMarks .NotIn b = false := by rfl) : ME X (.Compare a [.NotIn] [b] pos) (eOp (fIn true) ea eb) := m_cmp (op_notInA hu) ao_notIn ha hb hm
theorem m_ix (ha : ME X a ea) (hb : ME X b eb) (hs : PlainIx b := by intro _ _; rfl) : ME X (.Subscript a b pos) (eOp fIx ea eb) := m_ixR ix_any ao_ix ha hb hs
theorem m_neg (ha : ME X a ea) : ME X (.UnaryOp .USub a pos) (eUn fNeg ea) := m_un un_neg au_neg ha
/-- a test by a comparison -/
theorem t_of (h : ME X e ev) (he : ∀ whole, isTrue e X.env whole = (do let v ← whole; standAt e.pos; holding [v] (truthy v)) := by intro _; rfl) : MT X e (tsE ev) := t_val h he
/-! chains -/
@[simp] def eCh (f g : OpF) (a b c : EvF) : EvF := fun ε μ => (a ε μ).bind fun x => (b ε x.2).bind fun y => (f x.1 y.1 y.2).bind fun z => match z.1 with
  | .dat (.bool true) => (c ε z.2).bind fun w => g y.1 w.1 w.2
  | .dat (.bool false) => some (.dat (.bool false), z.2)
  | _ => none
theorem adq_ch {K : PySem.W.Frag} {r r' : R2} {f g : OpF} {ta tb tc : TE} (ha : Adq K ta ea) (hb : Adq K tb eb) (hc : Adq K tc ec) (hr : AOp K r f) (hr' : AOp K r' g) : Adq K (tChain r r' ta tb tc) (eCh f g ea eb ec) := fun W σ ε μ v μ' Q R En h k => by
  unfold eCh at h
  simp only [Option.bind_eq_some_iff] at h
  obtain ⟨⟨x, μ1⟩, h1, ⟨y, μ2⟩, h2, ⟨z, μ3⟩, h3, h4⟩ := h
  refine ha W σ ε μ x μ1 _ R En h1 fun vx W1 R1 E1 r1 => ?_
  refine hb W1 σ ε μ1 y μ2 _ R1 (En.mono E1) h2 fun vy W2 R2 E2 r2 => ?_
  refine hr W2 μ2 vx vy x y z μ3 _ R2 (r1.mono E2) r2 h3 fun vz W3 R3 E3 r3 => ?_
  split at h4
  · rename_i e1
    simp only [] at e1 h4
    subst e1
    obtain rfl := rpv_bl r3
    simp only [Option.bind_eq_some_iff] at h4
    obtain ⟨⟨w, μ4⟩, h5, h6⟩ := h4
    refine ⟨true, rfl, iteT (hc W3 σ ε μ3 w μ4 _ R3 (((En.mono E1).mono E2).mono E3) h5 fun vw W4 R4 E4 r4 => ?_)⟩
    exact hr' W4 μ4 vy vw y w v μ' Q R4 ((r2.mono E3).mono E4) r4 h6 (k.ext (((E1.trans E2).trans E3).trans E4))
  · rename_i e1
    simp only [] at e1
    subst e1
    obtain rfl := rpv_bl r3
    cases h4
    exact ⟨false, rfl, iteF (k _ W3 R3 ((E1.trans E2).trans E3) (.bl false))⟩
  · cases h4
theorem m_chain {op op' : CmpOp} {r r' : R2} {f g : OpF} (ho : OpR X (compareOp op) r) (ho' : OpR X (compareOp op') r') (hr : AOp X.K r f) (hr' : AOp X.K r' g) (ha : ME X a ea) (hb : ME X b eb) (hc : ME X c ec) (hm : lastMarks [op, op'] [b, c] = false := by with_unfolding_all rfl) :
    ME X (.Compare a [op, op'] [b, c] pos) (eCh f g ea eb ec) := VE.m ⟨pe_chain ho ho' ha hb hc hm, adq_ch adqU adqU adqU hr hr'⟩
theorem t_chain {op op' : CmpOp} {r r' : R2} {f g : OpF} (ho : OpR X (compareOp op) r) (ho' : OpR X (compareOp op') r') (hr : AOp X.K r f) (hr' : AOp X.K r' g) (ha : ME X a ea) (hb : ME X b eb) (hc : ME X c ec) (hm : lastMarks [op, op'] [b, c] = false := by with_unfolding_all rfl) :
    MT X (.Compare a [op, op'] [b, c] pos) (tsE (eCh f g ea eb ec)) := VT.m ⟨pt_chain ho ho' ha hb hc hm, adq_tE (adq_ch adqU adqU adqU hr hr')⟩
/-! truth of any value -/
@[simp] def truP (μ : Sto) : PV → Option Bool
  | .dat .none => some false
  | .dat (.bool b) => some b
  | .dat (.int i) => some (i != 0)
  | .dat (.str z) => if z.length ≤ cap then some ((z.length : Int) != 0) else none
  | .ptr k => match μ[k]? with | some (.lst xs) => some (!xs.isEmpty) | some (.dic xs) => some (!xs.isEmpty) | _ => none
  | p => (seqOf μ p).map fun xs => !xs.isEmpty
@[simp] def tsTru (a : EvF) : TsF := fun ε μ => (a ε μ).bind fun x => (truP x.2 x.1).map fun b => (b, x.2)
theorem isEmpty_pvs {K : PySem.W.Frag} {W : Wd} {n : Nat} {xs : List PV} {vs : List V} (h : Pvs K W n xs vs) : xs.isEmpty = vs.isEmpty := by cases h <;> rfl
theorem isEmpty_kvs {K : PySem.W.Frag} {W : Wd} {n : Nat} {xs : List (Key × PV)} {vs : List (Key × V)} (h : Kvs K W n xs vs) : xs.isEmpty = vs.isEmpty := by cases h <;> rfl
theorem truP_ok {K : PySem.W.Frag} {W : Wd} {μ : Sto} {p : PV} {x : V} {b : Bool} (R : Rl K W μ) (r : RPV K W μ.length p x) (h : truP μ p = some b) : TruV K x W.H b := by
  have seq : ∀ q : PV, RPV K W μ.length q x → (seqOf μ q).map (fun xs => !xs.isEmpty) = some b → TruV K x W.H b := fun q r h => by
    simp only [Option.map_eq_some_iff] at h
    obtain ⟨xs, h1, rfl⟩ := h
    obtain ⟨a, vs, rfl, e, r2⟩ := seqOf_ok R r h1
    rw [isEmpty_pvs r2]
    rcases e with e | e
    · exact .inl ⟨vs, e, rfl⟩
    · exact .inr (.inl ⟨vs, e, rfl⟩)
  cases p with
  | dat d =>
    cases d with
    | none => cases h; rw [rpv_non r]; exact rfl
    | bool b' => cases h; rw [rpv_bl r]; exact rfl
    | int i => cases h; rw [rpv_int r]; exact rfl
    | str z =>
      rw [rpv_str r]
      simp only [truP] at h
      split at h
      · rename_i hc
        cases h
        exact ⟨cap_ok hc, rfl⟩
      · cases h
    | list ds => exact seq _ r h
    | tuple ds => exact seq _ r h
    | dict ds => exact seq _ r h
  | ptr k =>
    simp only [truP] at h
    split at h
    · rename_i xs q
      cases h
      obtain ⟨vs, e, r2⟩ := R.ob k _ q
      rw [r.2, isEmpty_pvs r2]
      exact .inl ⟨vs, SqL.of e, rfl⟩
    · rename_i xs q
      cases h
      obtain ⟨vs, e, r2⟩ := R.ob k _ q
      rw [r.2, isEmpty_kvs r2]
      exact .inr (.inr ⟨vs, e, rfl⟩)
    · cases h
  | scr ns => exact seq _ r h
theorem t_tru (h : ME X e ev) (he : ∀ whole, isTrue e X.env whole = (do let v ← whole; standAt e.pos; holding [v] (truthy v)) := by intro _; rfl) : MT X e (tsTru ev) :=
  VT.m ⟨pt_truth h he, fun W σ ε μ v μ' Q R En q k => by
    unfold tsTru at q
    simp only [Option.bind_eq_some_iff, Option.map_eq_some_iff] at q
    obtain ⟨⟨x, μ1⟩, h1, b, h2, h3⟩ := q
    cases h3
    exact adqU W σ ε μ x μ1 _ R En h1 fun vx W1 R1 E1 r1 => ⟨_, truP_ok R1 r1 h2, k W1 R1 E1⟩⟩
end
end VX
namespace VX
open PySem PySem.Spec PyProof.Rows L2

/-! ### ints, bools in lists -/
@[simp] def asInts : List PV → Option (List Int)
  | [] => some []
  | .dat (.int i) :: r => (asInts r).map (i :: ·)
  | _ :: _ => none
@[simp] def asBls : List PV → Option (List Bool)
  | [] => some []
  | .dat (.bool i) :: r => (asBls r).map (i :: ·)
  | _ :: _ => none
theorem asInts_map : ∀ ns : List Int, asInts (ns.map fun n => PV.dat (.int n)) = some ns
  | [] => rfl
  | n :: r => by simp [asInts, asInts_map r]
theorem asBls_map : ∀ ns : List Bool, asBls (ns.map fun n => PV.dat (.bool n)) = some ns
  | [] => rfl
  | n :: r => by simp [asBls, asBls_map r]
section
variable {K : PySem.W.Frag} {W : Wd} {n : Nat} {μ : Sto}
theorem asInts_ok : ∀ {xs : List PV} {vs : List V} {ns : List Int}, Pvs K W n xs vs → asInts xs = some ns → vs = ns.map V.int
  | _, _, _, .nil, h => by cases h; rfl
  | p :: xs, v :: vs, ns, .cons r t, h => by
    unfold asInts at h
    split at h
    · rename_i e; cases e
    · rename_i i r' e
      cases e
      simp only [Option.map_eq_some_iff] at h
      obtain ⟨ms, h1, rfl⟩ := h
      rw [rpv_int r, asInts_ok t h1]; rfl
    · cases h
theorem asBls_ok : ∀ {xs : List PV} {vs : List V} {ns : List Bool}, Pvs K W n xs vs → asBls xs = some ns → vs = ns.map V.bl
  | _, _, _, .nil, h => by cases h; rfl
  | p :: xs, v :: vs, ns, .cons r t, h => by
    unfold asBls at h
    split at h
    · rename_i e; cases e
    · rename_i i r' e
      cases e
      simp only [Option.map_eq_some_iff] at h
      obtain ⟨ms, h1, rfl⟩ := h
      rw [rpv_bl r, asBls_ok t h1]; rfl
    · cases h
theorem pvsInts {ns : List Int} : Pvs K W n (ns.map fun m => PV.dat (.int m)) (ns.map V.int) := by
  induction ns with
  | nil => exact .nil
  | cons m r ih => exact .cons (.int m) ih
end
def ins (x : Int) : List Int → List Int
  | [] => [x]
  | y :: ys => if x ≤ y then x :: y :: ys else y :: ins x ys
def isort : List Int → List Int
  | [] => []
  | x :: xs => ins x (isort xs)
theorem ins_perm (x : Int) : ∀ ys, (ins x ys).Perm (x :: ys)
  | [] => .refl _
  | y :: ys => by
    unfold ins
    split
    · exact .refl _
    · exact ((ins_perm x ys).cons y).trans (.swap x y ys)
theorem isort_perm : ∀ xs, (isort xs).Perm xs
  | [] => .refl _
  | x :: xs => (ins_perm x _).trans ((isort_perm xs).cons x)
theorem ins_sorted (x : Int) : ∀ ys : List Int, ys.Pairwise (· ≤ ·) → (ins x ys).Pairwise (· ≤ ·)
  | [], _ => by simp [ins]
  | y :: ys, h => by
    unfold ins
    rw [List.pairwise_cons] at h
    split
    · rename_i hc
      refine List.pairwise_cons.mpr ⟨fun z hz => ?_, List.pairwise_cons.mpr h⟩
      rcases List.mem_cons.mp hz with rfl | hz
      · exact hc
      · exact Int.le_trans hc (h.1 z hz)
    · rename_i hc
      refine List.pairwise_cons.mpr ⟨fun z hz => ?_, ins_sorted x ys h.2⟩
      rcases List.mem_cons.mp ((ins_perm x ys).mem_iff.mp hz) with rfl | hz
      · omega
      · exact h.1 z hz
theorem isort_sorted : ∀ xs, (isort xs).Pairwise (· ≤ ·)
  | [] => .nil
  | x :: xs => ins_sorted x _ (isort_sorted xs)
theorem isort_uniq {ns ns' : List Int} (p : ns'.Perm ns) (s : ns'.Pairwise (· ≤ ·)) : ns' = isort ns :=
  (p.trans (isort_perm ns).symm).eq_of_pairwise (fun _ _ _ _ h1 h2 => Int.le_antisymm h1 h2) s (isort_sorted ns)
def maxI : List Int → Int
  | [] => 0
  | x :: xs => xs.foldl max x
def minI : List Int → Int
  | [] => 0
  | x :: xs => xs.foldl min x
theorem foldl_max (xs : List Int) : ∀ x : Int, (xs.foldl max x = x ∨ xs.foldl max x ∈ xs) ∧ x ≤ xs.foldl max x ∧ ∀ y ∈ xs, y ≤ xs.foldl max x := by
  induction xs with
  | nil => intro x; simp
  | cons y ys ih =>
    intro x
    obtain ⟨h1, h2, h3⟩ := ih (max x y)
    simp only [List.foldl_cons]
    refine ⟨?_, by omega, fun z hz => ?_⟩
    · rcases h1 with h1 | h1
      · rw [h1]
        rcases Int.le_total x y with h | h
        · rw [Int.max_eq_right h]; exact .inr List.mem_cons_self
        · rw [Int.max_eq_left h]; exact .inl rfl
      · exact .inr (List.mem_cons_of_mem _ h1)
    · rcases List.mem_cons.mp hz with rfl | hz
      · omega
      · exact h3 z hz
theorem foldl_min (xs : List Int) : ∀ x : Int, (xs.foldl min x = x ∨ xs.foldl min x ∈ xs) ∧ xs.foldl min x ≤ x ∧ ∀ y ∈ xs, xs.foldl min x ≤ y := by
  induction xs with
  | nil => intro x; simp
  | cons y ys ih =>
    intro x
    obtain ⟨h1, h2, h3⟩ := ih (min x y)
    simp only [List.foldl_cons]
    refine ⟨?_, by omega, fun z hz => ?_⟩
    · rcases h1 with h1 | h1
      · rw [h1]
        rcases Int.le_total x y with h | h
        · rw [Int.min_eq_left h]; exact .inl rfl
        · rw [Int.min_eq_right h]; exact .inr List.mem_cons_self
      · exact .inr (List.mem_cons_of_mem _ h1)
    · rcases List.mem_cons.mp hz with rfl | hz
      · omega
      · exact h3 z hz
theorem maxI_mem {ns : List Int} (h : ns ≠ []) : maxI ns ∈ ns := by
  cases ns with
  | nil => exact absurd rfl h
  | cons x xs =>
    rcases (foldl_max xs x).1 with h | h
    · show xs.foldl max x ∈ _; rw [h]; exact List.mem_cons_self
    · exact List.mem_cons_of_mem _ h
theorem maxI_ge {ns : List Int} {y : Int} (h : y ∈ ns) : y ≤ maxI ns := by
  cases ns with
  | nil => cases h
  | cons x xs =>
    rcases List.mem_cons.mp h with rfl | h
    · exact (foldl_max xs y).2.1
    · exact (foldl_max xs x).2.2 y h
theorem minI_mem {ns : List Int} (h : ns ≠ []) : minI ns ∈ ns := by
  cases ns with
  | nil => exact absurd rfl h
  | cons x xs =>
    rcases (foldl_min xs x).1 with h | h
    · show xs.foldl min x ∈ _; rw [h]; exact List.mem_cons_self
    · exact List.mem_cons_of_mem _ h
theorem minI_le {ns : List Int} {y : Int} (h : y ∈ ns) : minI ns ≤ y := by
  cases ns with
  | nil => cases h
  | cons x xs =>
    rcases List.mem_cons.mp h with rfl | h
    · exact (foldl_min xs y).2.1
    · exact (foldl_min xs x).2.2 y h
/-! ### calls -/
@[simp] def fLen : CaF := fun xs μ => match xs with
  | [.dat (.str z)] => if z.length ≤ cap then some (.dat (.int z.length), μ) else none
  | [p] => (seqOf μ p).map fun xs => (.dat (.int xs.length), μ)
  | _ => none
@[simp] def fAbs : CaF := fun xs μ => match xs with
  | [.dat (.int i)] => some (.dat (.int (if i < 0 then -i else i)), μ)
  | _ => none
@[simp] def fMax : CaF := fun xs μ => match xs with
  | [.dat (.int i), .dat (.int j)] => some (.dat (.int (if j > i then j else i)), μ)
  | [p] => (lstOfS μ p).bind fun xs => (asInts xs).bind fun ns => if ns = [] then none else some (.dat (.int (maxI ns)), μ)
  | _ => none
@[simp] def fMin : CaF := fun xs μ => match xs with
  | [.dat (.int i), .dat (.int j)] => some (.dat (.int (if j < i then j else i)), μ)
  | [p] => (lstOfS μ p).bind fun xs => (asInts xs).bind fun ns => if ns = [] then none else some (.dat (.int (minI ns)), μ)
  | _ => none
@[simp] def fSum : CaF := fun xs μ => match xs with
  | [p] => (lstOfS μ p).bind fun xs => (asInts xs).map fun ns => (.dat (.int ns.sum), μ)
  | _ => none
@[simp] def fAny : CaF := fun xs μ => match xs with
  | [p] => (lstOfS μ p).bind fun xs => (asBls xs).map fun ns => (.dat (.bool (ns.any id)), μ)
  | _ => none
@[simp] def fAll : CaF := fun xs μ => match xs with
  | [p] => (lstOfS μ p).bind fun xs => (asBls xs).map fun ns => (.dat (.bool (ns.all id)), μ)
  | _ => none
@[simp] def fSorted (own : Bool) : CaF := fun xs μ => match xs with
  | [p] => (lstOfS μ p).bind fun xs => (asInts xs).bind fun ns => mkL own ((isort ns).map fun n => .dat (.int n)) μ
  | _ => none
@[simp] def fList (own : Bool) : CaF := fun xs μ => match xs with
  | [p] => (seqOf μ p).bind fun xs => mkL own xs μ
  | _ => none
@[simp] def fInt : CaF := fun xs μ => match xs with
  | [.dat (.int i)] => some (.dat (.int i), μ)
  | [.dat (.bool b)] => some (.dat (.int (if b then 1 else 0)), μ)
  | _ => none
section
variable {K : PySem.W.Frag}
theorem pvs1 {W : Wd} {n : Nat} {p : PV} {xs : List V} (h : Pvs K W n [p] xs) : ∃ x, xs = [x] ∧ RPV K W n p x := by
  cases h with
  | cons r t => cases t; exact ⟨_, rfl, r⟩
theorem pvs2 {W : Wd} {n : Nat} {p q : PV} {xs : List V} (h : Pvs K W n [p, q] xs) : ∃ x y, xs = [x, y] ∧ RPV K W n p x ∧ RPV K W n q y := by
  cases h with
  | cons r t => cases t with | cons r' t => cases t; exact ⟨_, _, rfl, r, r'⟩
def rLenA (K : PySem.W.Frag) : List V → Hp → VK → Prop := fun xs H Q => (∃ p ys, xs = [.ref p] ∧ (SqL K H p ys ∨ SqT K H p ys) ∧ Q (.int ys.length) H) ∨ (∃ z, xs = [.str z] ∧ z.length ≤ sizeLine ∧ Q (.int z.length) H)
theorem ac_len : ACa K (rLenA K) fLen := fun W μ xs ps v μ' Q R r h k => by
  unfold fLen at h
  split at h
  · rename_i z
    obtain ⟨x, rfl, rx⟩ := pvs1 r
    obtain rfl := rpv_str rx
    split at h
    · rename_i hc; cases h
      exact .inr ⟨z, rfl, cap_ok hc, k.now R (.int _)⟩
    · cases h
  · obtain ⟨x, rfl, rx⟩ := pvs1 r
    simp only [Option.map_eq_some_iff] at h
    obtain ⟨xs, h1, h2⟩ := h
    cases h2
    obtain ⟨a, vs, rfl, e, r2⟩ := seqOf_ok R rx h1
    refine .inl ⟨a, vs, rfl, e, ?_⟩
    rw [← r2.length]
    exact k.now R (.int _)
  · cases h
theorem ac_abs : ACa K (fun xs H Q => ∃ i, xs = [.int i] ∧ Q (.int (if i < 0 then -i else i)) H) fAbs := fun W μ xs ps v μ' Q R r h k => by
  unfold fAbs at h
  split at h
  · cases h
    obtain ⟨x, rfl, rx⟩ := pvs1 r
    obtain rfl := rpv_int rx
    exact ⟨_, rfl, k.now R (.int _)⟩
  · cases h
def rMaxA (K : PySem.W.Frag) : List V → Hp → VK → Prop := fun xs H Q => (∃ i j, xs = [.int i, .int j] ∧ Q (.int (if j > i then j else i)) H) ∨ rMax K xs H Q
def rMinA (K : PySem.W.Frag) : List V → Hp → VK → Prop := fun xs H Q => (∃ i j, xs = [.int i, .int j] ∧ Q (.int (if j < i then j else i)) H) ∨ rMin K xs H Q
theorem ints_ok {W : Wd} {μ : Sto} {p : PV} {x : V} {xs : List PV} {ns : List Int} (R : Rl K W μ) (r : RPV K W μ.length p x) (h1 : lstOfS μ p = some xs) (h2 : asInts xs = some ns) : ∃ a, x = .ref a ∧ SqL K W.H a (ns.map V.int) := by
  obtain ⟨a, vs, rfl, e, r2⟩ := lstOfS_ok R r h1
  rw [asInts_ok r2 h2] at e
  exact ⟨a, rfl, e⟩
theorem bls_ok {W : Wd} {μ : Sto} {p : PV} {x : V} {xs : List PV} {ns : List Bool} (R : Rl K W μ) (r : RPV K W μ.length p x) (h1 : lstOfS μ p = some xs) (h2 : asBls xs = some ns) : ∃ a, x = .ref a ∧ SqL K W.H a (ns.map V.bl) := by
  obtain ⟨a, vs, rfl, e, r2⟩ := lstOfS_ok R r h1
  rw [asBls_ok r2 h2] at e
  exact ⟨a, rfl, e⟩
theorem ac_max : ACa K (rMaxA K) fMax := fun W μ xs ps v μ' Q R r h k => by
  unfold fMax at h
  split at h
  · cases h
    obtain ⟨x, y, rfl, rx, ry⟩ := pvs2 r
    obtain rfl := rpv_int rx; obtain rfl := rpv_int ry
    exact .inl ⟨_, _, rfl, k.now R (.int _)⟩
  · obtain ⟨x, rfl, rx⟩ := pvs1 r
    simp only [Option.bind_eq_some_iff] at h
    obtain ⟨xs, h1, ns, h2, h3⟩ := h
    split at h3
    · cases h3
    · rename_i hn
      cases h3
      obtain ⟨a, rfl, e⟩ := ints_ok R rx h1 h2
      refine .inr ⟨a, ns, rfl, e, List.length_pos_iff.mpr hn, fun m hm hle => ?_⟩
      have : m = maxI ns := Int.le_antisymm (maxI_ge hm) (hle _ (maxI_mem hn))
      rw [this]
      exact k.now R (.int _)
  · cases h
theorem ac_min : ACa K (rMinA K) fMin := fun W μ xs ps v μ' Q R r h k => by
  unfold fMin at h
  split at h
  · cases h
    obtain ⟨x, y, rfl, rx, ry⟩ := pvs2 r
    obtain rfl := rpv_int rx; obtain rfl := rpv_int ry
    exact .inl ⟨_, _, rfl, k.now R (.int _)⟩
  · obtain ⟨x, rfl, rx⟩ := pvs1 r
    simp only [Option.bind_eq_some_iff] at h
    obtain ⟨xs, h1, ns, h2, h3⟩ := h
    split at h3
    · cases h3
    · rename_i hn
      cases h3
      obtain ⟨a, rfl, e⟩ := ints_ok R rx h1 h2
      refine .inr ⟨a, ns, rfl, e, List.length_pos_iff.mpr hn, fun m hm hle => ?_⟩
      have : m = minI ns := Int.le_antisymm (hle _ (minI_mem hn)) (minI_le hm)
      rw [this]
      exact k.now R (.int _)
  · cases h
theorem ac_sum : ACa K (rSum K) fSum := fun W μ xs ps v μ' Q R r h k => by
  unfold fSum at h
  split at h
  · obtain ⟨x, rfl, rx⟩ := pvs1 r
    simp only [Option.bind_eq_some_iff, Option.map_eq_some_iff] at h
    obtain ⟨xs, h1, ns, h2, h3⟩ := h
    cases h3
    obtain ⟨a, rfl, e⟩ := ints_ok R rx h1 h2
    exact ⟨a, ns, rfl, e, k.now R (.int _)⟩
  · cases h
theorem ac_any : ACa K (rAny K) fAny := fun W μ xs ps v μ' Q R r h k => by
  unfold fAny at h
  split at h
  · obtain ⟨x, rfl, rx⟩ := pvs1 r
    simp only [Option.bind_eq_some_iff, Option.map_eq_some_iff] at h
    obtain ⟨xs, h1, ns, h2, h3⟩ := h
    cases h3
    obtain ⟨a, rfl, e⟩ := bls_ok R rx h1 h2
    exact ⟨a, ns, rfl, e, k.now R (.bl _)⟩
  · cases h
theorem ac_all : ACa K (rAll K) fAll := fun W μ xs ps v μ' Q R r h k => by
  unfold fAll at h
  split at h
  · obtain ⟨x, rfl, rx⟩ := pvs1 r
    simp only [Option.bind_eq_some_iff, Option.map_eq_some_iff] at h
    obtain ⟨xs, h1, ns, h2, h3⟩ := h
    cases h3
    obtain ⟨a, rfl, e⟩ := bls_ok R rx h1 h2
    exact ⟨a, ns, rfl, e, k.now R (.bl _)⟩
  · cases h
theorem ac_sorted (own : Bool) : ACa K (rSortedI K) (fSorted own) := fun W μ xs ps v μ' Q R r h k => by
  unfold fSorted at h
  split at h
  · obtain ⟨x, rfl, rx⟩ := pvs1 r
    simp only [Option.bind_eq_some_iff, Option.map_eq_some_iff] at h
    obtain ⟨xs, h1, ns, h2, h3⟩ := h
    obtain ⟨a, rfl, e⟩ := ints_ok R rx h1 h2
    refine ⟨a, ns, rfl, e, fun ns' p pm st hp => ?_⟩
    rw [isort_uniq pm st]
    exact (mkL_ok R pvsInts h3 k).2 p hp
  · cases h
def rListA (K : PySem.W.Frag) : List V → Hp → VK → Prop := fun xs H Q => ∃ p ys, xs = [.ref p] ∧ (SqL K H p ys ∨ SqT K H p ys) ∧ ∀ l, H l = none → Q (.ref l) (upd H l (.lst ys))
theorem ac_list (own : Bool) : ACa K (rListA K) (fList own) := fun W μ xs ps v μ' Q R r h k => by
  unfold fList at h
  split at h
  · obtain ⟨x, rfl, rx⟩ := pvs1 r
    simp only [Option.bind_eq_some_iff, Option.map_eq_some_iff] at h
    obtain ⟨xs, h1, h2⟩ := h
    obtain ⟨a, vs, rfl, e, r2⟩ := seqOf_ok R rx h1
    exact ⟨a, vs, rfl, e, (mkL_ok R r2 h2 k).2⟩
  · cases h
theorem ac_int : ACa K (fun xs H Q => (∃ i, xs = [.int i] ∧ Q (.int i) H) ∨ ∃ k, xs = [.bl k] ∧ Q (.int (if k then 1 else 0)) H) fInt := fun W μ xs ps v μ' Q R r h k => by
  unfold fInt at h
  split at h
  · cases h
    obtain ⟨x, rfl, rx⟩ := pvs1 r
    obtain rfl := rpv_int rx
    exact .inl ⟨_, rfl, k.now R (.int _)⟩
  · cases h
    obtain ⟨x, rfl, rx⟩ := pvs1 r
    obtain rfl := rpv_bl rx
    exact .inr ⟨_, rfl, k.now R (.int _)⟩
  · cases h
end
section
variable {X : Cx} {e e2 o iter tg : Expr} {es : List Expr} {el : ArF} {ev ev2 eo ei : EvF} {pos p : Pos}
theorem m_len (hg : Gl X "len") (hm : X.mg "len" = none) (h : MA X [e] el) (he : starEach (e :: []) X.env = (false, eval e X.env) :: starEach [] X.env := by rfl) (hpl : (backTo pos (starEach [] X.env)).any (·.1) = false := by rfl) : ME X (.Call (.Name "len" p) [e] [] pos) (eCa fLen el) := m_ca (CallR.or call_len_seq call_len_str) ac_len hg hm PySem.boot_len h (by decide) (by decide) he hpl
theorem m_abs (hg : Gl X "abs") (hm : X.mg "abs" = none) (h : MA X [e] el) (he : starEach (e :: []) X.env = (false, eval e X.env) :: starEach [] X.env := by rfl) (hpl : (backTo pos (starEach [] X.env)).any (·.1) = false := by rfl) : ME X (.Call (.Name "abs" p) [e] [] pos) (eCa fAbs el) := m_ca call_abs ac_abs hg hm (by decide +kernel) h (by decide) (by decide) he hpl
theorem m_max (hc : X.calm = true) (hg : Gl X "max") (hm : X.mg "max" = none) (h : MA X (e :: es) el) (he : starEach (e :: es) X.env = (false, eval e X.env) :: starEach es X.env := by rfl) (hpl : (backTo pos (starEach es X.env)).any (·.1) = false := by rfl) : ME X (.Call (.Name "max" p) (e :: es) [] pos) (eCa fMax el) := m_ca (CallR.or (call_max2 hc) (cr_max hc)) ac_max hg hm (by decide +kernel) h (by decide) (by decide) he hpl
theorem m_min (hc : X.calm = true) (hg : Gl X "min") (hm : X.mg "min" = none) (h : MA X (e :: es) el) (he : starEach (e :: es) X.env = (false, eval e X.env) :: starEach es X.env := by rfl) (hpl : (backTo pos (starEach es X.env)).any (·.1) = false := by rfl) : ME X (.Call (.Name "min" p) (e :: es) [] pos) (eCa fMin el) := m_ca (CallR.or (call_min2 hc) (cr_min hc)) ac_min hg hm (by decide +kernel) h (by decide) (by decide) he hpl
theorem m_sum (hc : X.calm = true) (hg : Gl X "sum") (hm : X.mg "sum" = none) (h : MA X [e] el) (he : starEach (e :: []) X.env = (false, eval e X.env) :: starEach [] X.env := by rfl) (hpl : (backTo pos (starEach [] X.env)).any (·.1) = false := by rfl) : ME X (.Call (.Name "sum" p) [e] [] pos) (eCa fSum el) := m_ca (cr_sum hc) ac_sum hg hm (by decide +kernel) h (by decide) (by decide) he hpl
theorem m_any (hc : X.calm = true) (hg : Gl X "any") (hm : X.mg "any" = none) (h : MA X [e] el) (he : starEach (e :: []) X.env = (false, eval e X.env) :: starEach [] X.env := by rfl) (hpl : (backTo pos (starEach [] X.env)).any (·.1) = false := by rfl) : ME X (.Call (.Name "any" p) [e] [] pos) (eCa fAny el) := m_ca (cr_any hc) ac_any hg hm (by decide +kernel) h (by decide) (by decide) he hpl
theorem m_all (hc : X.calm = true) (hg : Gl X "all") (hm : X.mg "all" = none) (h : MA X [e] el) (he : starEach (e :: []) X.env = (false, eval e X.env) :: starEach [] X.env := by rfl) (hpl : (backTo pos (starEach [] X.env)).any (·.1) = false := by rfl) : ME X (.Call (.Name "all" p) [e] [] pos) (eCa fAll el) := m_ca (cr_all hc) ac_all hg hm (by decide +kernel) h (by decide) (by decide) he hpl
theorem m_sorted (own : Bool) (hg : Gl X "sorted") (hm : X.mg "sorted" = none) (h : MA X [e] el) (he : starEach (e :: []) X.env = (false, eval e X.env) :: starEach [] X.env := by rfl) (hpl : (backTo pos (starEach [] X.env)).any (·.1) = false := by rfl) : ME X (.Call (.Name "sorted" p) [e] [] pos) (eCa (fSorted own) el) := m_ca cr_sortedI (ac_sorted own) hg hm (by decide +kernel) h (by decide) (by decide) he hpl
theorem m_list (own : Bool) (hg : Gl X "list") (hm : X.mg "list" = none) (h : MA X [e] el) (he : starEach (e :: []) X.env = (false, eval e X.env) :: starEach [] X.env := by rfl) (hpl : (backTo pos (starEach [] X.env)).any (·.1) = false := by rfl) : ME X (.Call (.Name "list" p) [e] [] pos) (eCa (fList own) el) := m_caT call_list_of (ac_list own) hg hm (by decide +kernel) h (by decide) (by decide) he hpl
theorem m_toint (hg : Gl X "int") (hm : X.mg "int" = none) (h : MA X [e] el) (he : starEach (e :: []) X.env = (false, eval e X.env) :: starEach [] X.env := by rfl) (hpl : (backTo pos (starEach [] X.env)).any (·.1) = false := by rfl) : ME X (.Call (.Name "int" p) [e] [] pos) (eCa fInt el) := m_caT call_int1 ac_int hg hm (by decide +kernel) h (by decide) (by decide) he hpl
/-! ### slices -/
def cutP {α : Type} (xs : List α) (lo hi : Option Int) : List α := (xs.drop (HT.sIx xs.length 0 lo)).take (HT.sIx xs.length xs.length hi - HT.sIx xs.length 0 lo)
abbrev PoF := Evn → Sto → Option (Option Int × Sto)
@[simp] def poN : PoF := fun _ μ => some (none, μ)
@[simp] def poE (e : EvF) : PoF := fun ε μ => (e ε μ).bind fun x => match x.1 with | .dat (.int i) => some (some i, x.2) | _ => none
@[simp] def fSl (own : Bool) (x : PV) (lo hi : Option Int) (μ : Sto) : Option (PV × Sto) := match x with
  | .dat (.str z) => if z.length ≤ cap then some (.dat (.str (cutS z lo hi)), μ) else none
  | .dat (.tuple ds) => if HT.sIx ds.length 0 lo = 0 ∧ HT.sIx ds.length ds.length hi = ds.length then none else mkT ((cutP ds lo hi).map PV.dat) μ
  | x => (lstOfS μ x).bind fun xs => mkL own (cutP xs lo hi) μ
@[simp] def eSl (own : Bool) (e : EvF) (lo hi : PoF) : EvF := fun ε μ => (e ε μ).bind fun x => (lo ε x.2).bind fun l => (hi ε l.2).bind fun u => fSl own x.1 l.1 u.1 u.2
def AdqO (K : PySem.W.Frag) (tl : TO) (ev : PoF) : Prop := ∀ W σ ε μ b μ' (Q : Option Int → Hp → Prop), Rl K W μ → EnvR K W μ.length σ ε → ev ε μ = some (b, μ') → (∀ W', Rl K W' μ' → Ext W μ.length W' μ'.length → Q b W'.H) → tl σ W.H Q
structure VO (X : Cx) (e : Option Expr) (tl : TO) (ev : PoF) : Prop where
  po : PO X e tl
  ad : AdqO X.K tl ev
def uO (K : PySem.W.Frag) (ev : PoF) : TO := fun σ H Q => ∃ W ε μ v μ', W.H = H ∧ Rl K W μ ∧ EnvR K W μ.length σ ε ∧ ev ε μ = some (v, μ') ∧ (∀ W', Rl K W' μ' → Ext W μ.length W' μ'.length → Q v W'.H)
def MO (X : Cx) (e : Option Expr) (ev : PoF) : Prop := PO X e (uO X.K ev)
theorem o_none : MO X none poN := ⟨fun pins s σ H Q I q => by obtain ⟨W, ε, μ, v, μ', rfl, R, En, h, k⟩ := q; cases h; exact po_none.run pins s σ _ Q I (k W R (Ext.refl _ _))⟩
theorem o_some (h : ME X e ev) : MO X (some e) (poE ev) := ⟨fun pins s σ H Q I q => by
  obtain ⟨W, ε, μ, v, μ', rfl, R, En, q, k⟩ := q
  unfold poE at q
  simp only [Option.bind_eq_some_iff] at q
  obtain ⟨⟨x, μ1⟩, h1, h2⟩ := q
  refine (po_some h).run pins s σ _ Q I (adqU W σ ε μ x μ1 _ R En h1 fun vx W1 R1 E1 r1 => ?_)
  split at h2
  · rename_i i e
    simp only [] at e h2
    subst e
    obtain rfl := rpv_int r1
    cases h2
    exact ⟨i, rfl, k W1 R1 E1⟩
  · cases h2⟩
def rSlA (K : PySem.W.Frag) : V → Option Int → Option Int → Hp → VK → Prop := fun x lo hi H Q => rSlS x lo hi H Q ∨ rSlT K x lo hi H Q ∨ rSlL K x lo hi H Q
theorem sl_any : SlR X (rSlA X.K) := fun pins s σ H x v vl vu lo hi sl Q I rx hs pl pu h => by
  rcases h with h | h | h
  · exact sl_str pins s σ H x v vl vu lo hi sl Q I rx hs pl pu h
  · exact sl_tup pins s σ H x v vl vu lo hi sl Q I rx hs pl pu h
  · exact sl_list pins s σ H x v vl vu lo hi sl Q I rx hs pl pu h
theorem cut_pvs {K : PySem.W.Frag} {W : Wd} {n : Nat} {xs : List PV} {vs : List V} (h : Pvs K W n xs vs) (lo hi : Option Int) : Pvs K W n (cutP xs lo hi) (cutV vs lo hi) := by
  unfold cutP cutV
  rw [h.length]
  exact (h.drop _).take _
theorem as_sl {K : PySem.W.Frag} (own : Bool) : ∀ W μ x px lo hi v μ' Q, Rl K W μ → RPV K W μ.length px x → fSl own px lo hi μ = some (v, μ') → Kont K W μ.length μ' v Q → rSlA K x lo hi W.H Q := fun W μ x px lo hi v μ' Q R rx h k => by
  unfold fSl at h
  split at h
  · rename_i z
    obtain rfl := rpv_str rx
    split at h
    · rename_i hc; cases h
      exact .inl ⟨z, rfl, cap_ok hc, k.now R (.str _)⟩
    · cases h
  · rename_i ds
    split at h
    · cases h
    · rename_i hc
      cases rx with
      | tup e a =>
        have r2 := DtAll.pvs (K := K) (n := μ.length) a
        have hl := r2.length
        rw [List.length_map] at hl
        have r3 := cut_pvs r2 lo hi
        have e3 : cutP (ds.map PV.dat) lo hi = (cutP ds lo hi).map PV.dat := by unfold cutP; simp
        rw [e3] at r3
        refine .inr (.inl ⟨_, _, rfl, SqT.of (R.sub _ _ e), by rw [← hl]; exact hc, (mkT_ok R r3 h k).2⟩)
  · simp only [Option.bind_eq_some_iff] at h
    obtain ⟨xs, h1, h2⟩ := h
    obtain ⟨a, vs, rfl, e, r2⟩ := lstOfS_ok R rx h1
    exact .inr (.inr ⟨a, vs, rfl, e, (mkL_ok R (cut_pvs r2 lo hi) h2 k).2⟩)
theorem m_slice {lo hi : Option Expr} {fl fh : PoF} {p2 : Pos} (own : Bool) (he : ME X e ev) (hl : MO X lo fl) (hu : MO X hi fh) : ME X (.Subscript e (.Slice lo hi none p2) pos) (eSl own ev fl fh) :=
  VE.m ⟨pe_slice sl_any he hl hu, fun W σ ε μ v μ' Q R En q k => by
    unfold eSl at q
    simp only [Option.bind_eq_some_iff] at q
    obtain ⟨⟨x, μ1⟩, h1, ⟨l, μ2⟩, h2, ⟨u, μ3⟩, h3, h4⟩ := q
    refine adqU W σ ε μ x μ1 _ R En h1 fun vx W1 R1 E1 r1 => ?_
    refine ⟨W1, ε, μ1, l, μ2, rfl, R1, En.mono E1, h2, fun W2 R2 E2 => ?_⟩
    refine ⟨W2, ε, μ2, u, μ3, rfl, R2, (En.mono E1).mono E2, h3, fun W3 R3 E3 => ?_⟩
    exact as_sl own W3 μ3 vx x l u v μ' Q R3 ((r1.mono E2).mono E3) h4 (k.ext ((E1.trans E2).trans E3))⟩
/-- xs[::-1] -/
@[simp] def fRevL (own : Bool) (x : PV) (μ : Sto) : Option (PV × Sto) := (lstOfS μ x).bind fun xs => mkL own xs.reverse μ
@[simp] def eRevL (own : Bool) (e : EvF) : EvF := fun ε μ => (e ε μ).bind fun x => fRevL own x.1 x.2
theorem m_rev {k : Nat} {p1 p2 p3 : Pos} (own : Bool) (he : ME X e ev) : ME X (.Subscript e (.Slice none none (some (.UnaryOp .USub (.Constant (.int 1) k p1) p2)) p3) pos) (eRevL own ev) :=
  VE.m ⟨pe_revL he, fun W σ ε μ v μ' Q R En q kk => by
    unfold eRevL fRevL at q
    simp only [Option.bind_eq_some_iff] at q
    obtain ⟨⟨x, μ1⟩, h1, xs, h2, h3⟩ := q
    refine adqU W σ ε μ x μ1 _ R En h1 fun vx W1 R1 E1 r1 => ?_
    obtain ⟨a, vs, rfl, e, r2⟩ := lstOfS_ok R1 r1 h2
    exact ⟨a, vs, rfl, e, (mkL_ok R1 (Pvs.reverse r2) h3 (kk.ext E1)).2⟩⟩
/-! ### methods of lists -/
@[simp] def eLM (f : PV → List PV → Sto → Option (PV × Sto)) (o : EvF) (el : ArF) : EvF := fun ε μ => (o ε μ).bind fun x => if (lstOf x.2 x.1).isSome = true then (el ε x.2).bind fun y => f x.1 y.1 y.2 else none
def AMt (K : PySem.W.Frag) (r : V → List V → Hp → VK → Prop) (f : PV → List PV → Sto → Option (PV × Sto)) : Prop := ∀ W μ x px xs ps v μ' Q, Rl K W μ → RPV K W μ.length px x → Pvs K W μ.length ps xs → f px ps μ = some (v, μ') → Kont K W μ.length μ' v Q → r x xs W.H Q
theorem adq_LM {K : PySem.W.Frag} {r : V → List V → Hp → VK → Prop} {f : PV → List PV → Sto → Option (PV × Sto)} {to : TE} {tl : TA} (ho : Adq K to eo) (hl : AdqA K tl el) (hr : AMt K r f) : Adq K (tBM K "list" r to tl) (eLM f eo el) := fun W σ ε μ v μ' Q R En q k => by
  unfold eLM at q
  simp only [Option.bind_eq_some_iff] at q
  obtain ⟨⟨x, μ1⟩, h1, h2⟩ := q
  refine ho W σ ε μ x μ1 _ R En h1 fun vx W1 R1 E1 r1 => ?_
  simp only [] at h2
  split at h2
  · rename_i hs
    obtain ⟨xs, hx⟩ := Option.isSome_iff_exists.mp hs
    obtain ⟨a, vs, rfl, e, r2⟩ := lstOf_ok R1 r1 hx
    simp only [Option.bind_eq_some_iff] at h2
    obtain ⟨⟨ys, μ2⟩, h3, h4⟩ := h2
    refine ⟨.inl ⟨rfl, vs, SqL.of e⟩, hl W1 σ ε μ1 ys μ2 _ R1 (En.mono E1) h3 fun ws W2 R2 E2 r3 => ?_⟩
    exact hr W2 μ2 _ x ws ys v μ' Q R2 (r1.mono E2) r3 h4 (k.ext (E1.trans E2))
  · cases h2
@[simp] def fApp : PV → List PV → Sto → Option (PV × Sto) := fun x ys μ => match x, ys with
  | .ptr k, [v] => match μ[k]? with
    | some (.lst xs) => if xs.length < cap then some (.dat .none, μ.set k (.lst (xs ++ [v]))) else none
    | _ => none
  | _, _ => none
@[simp] def fPopAt : PV → List PV → Sto → Option (PV × Sto) := fun x ys μ => match x, ys with
  | .ptr k, [.dat (.int i)] => match μ[k]? with
    | some (.lst xs) => if inIx i = true then (seqIndex? i xs.length).bind fun j => xs[j]?.map fun y => (y, μ.set k (.lst (xs.eraseIdx j))) else none
    | _ => none
  | _, _ => none
section
variable {K : PySem.W.Frag}
theorem am_app : AMt K rAppend fApp := fun W μ x px xs ps v μ' Q R rx rs h k => by
  unfold fApp at h
  split at h
  · rename_i kk w
    split at h
    · rename_i ys hk
      split at h
      · rename_i hc
        cases h
        obtain ⟨y, rfl, ry⟩ := pvs1 rs
        obtain ⟨vs, e, r2⟩ := R.ob kk _ hk
        obtain ⟨lk, rfl⟩ := rx
        obtain ⟨R', E'⟩ := R.put (u := .lst (ys ++ [w])) (ho := .lst (vs ++ [y])) hk (by simp) (by simp) ⟨_, rfl, r2.append (.cons ry .nil)⟩
        exact ⟨_, vs, y, rfl, rfl, e, by rw [← r2.length]; exact cap_lt hc, k .non _ R' E' .non⟩
      · cases h
    · cases h
  · cases h
theorem am_popAt : AMt K rPopAt fPopAt := fun W μ x px xs ps v μ' Q R rx rs h k => by
  unfold fPopAt at h
  split at h
  · rename_i kk i
    split at h
    · rename_i ys hk
      split at h
      · rename_i hc
        simp only [Option.bind_eq_some_iff, Option.map_eq_some_iff] at h
        obtain ⟨j, h1, y, h2, h3⟩ := h
        cases h3
        obtain ⟨y', rfl, ry⟩ := pvs1 rs
        obtain rfl := rpv_int ry
        obtain ⟨vs, e, r2⟩ := R.ob kk _ hk
        obtain ⟨lk, rfl⟩ := rx
        obtain ⟨w, h4, h5⟩ := r2.get h2
        obtain ⟨R', E'⟩ := R.put (u := .lst (ys.eraseIdx j)) (ho := .lst (vs.eraseIdx j)) hk (by simp) (by simp) ⟨_, rfl, r2.eraseIdx j⟩
        exact ⟨_, vs, i, j, w, rfl, rfl, e, (inIx_ok hc).1, (inIx_ok hc).2, by rw [← r2.length]; exact h1, h4, k w _ R' E' (h5.mono E')⟩
      · cases h
    · cases h
  · cases h
end
theorem m_app {apos cpos : Pos} (ho : ME X o eo) (ha : MA X [e] el) (hbase : attributeBase o "append" X.env (eval o X.env) = eval o X.env := by rfl)
    (hfew : ((backTo cpos (starEach (e :: []) X.env)).all (fun x => !x.1) && (backToKw cpos (keywordEach [] X.env)).all (fun x => x.1.isSome) && decide ((e :: []).length + ([] : List Keyword).length + (if ([] : List Keyword).isEmpty then 0 else 1) < 30)) = true := by rfl)
    (hline : (apos.endLine == cpos.line) = true := by rfl) (hs : starEach (e :: []) X.env = (false, eval e X.env) :: starEach [] X.env := by rfl) (hplain : (backTo cpos (starEach [] X.env)).any (·.1) = false := by rfl) : ME X (.Call (.Attribute o "append" apos) [e] [] cpos) (eLM fApp eo el) :=
  VE.m ⟨pe_bm PySem.F.plainAttrs_list PySem.F.slot_list_append PySem.F.type_list_append mt_append ho ha hbase hfew hline hs hplain, adq_LM adqU adqUA am_app⟩
theorem m_popAt {apos cpos : Pos} (ho : ME X o eo) (ha : MA X [e] el) (hbase : attributeBase o "pop" X.env (eval o X.env) = eval o X.env := by rfl)
    (hfew : ((backTo cpos (starEach (e :: []) X.env)).all (fun x => !x.1) && (backToKw cpos (keywordEach [] X.env)).all (fun x => x.1.isSome) && decide ((e :: []).length + ([] : List Keyword).length + (if ([] : List Keyword).isEmpty then 0 else 1) < 30)) = true := by rfl)
    (hline : (apos.endLine == cpos.line) = true := by rfl) (hs : starEach (e :: []) X.env = (false, eval e X.env) :: starEach [] X.env := by rfl) (hplain : (backTo cpos (starEach [] X.env)).any (·.1) = false := by rfl) : ME X (.Call (.Attribute o "pop" apos) [e] [] cpos) (eLM fPopAt eo el) :=
  VE.m ⟨pe_bm PySem.F.plainAttrs_list PySem.F.slot_list_pop PySem.F.type_list_pop mt_popAt ho ha hbase hfew hline hs hplain, adq_LM adqU adqUA am_popAt⟩
/-! ### o[i] = v of an owned list -/
@[simp] def tgSub (o i : EvF) : TgF := fun v ε μ => (o ε μ).bind fun x => (i ε x.2).bind fun y => match x.1, y.1 with
  | .ptr k, .dat (.int j) => (match y.2[k]? with
    | some (.lst xs) => (ixN xs.length j).map fun m => (ε, y.2.set k (.lst (xs.set m v)))
    | _ => none)
  | _, _ => none
theorem adq_gSub {K : PySem.W.Frag} {to ti : TE} (ho : Adq K to eo) (hi : Adq K ti ei) : AdqG K (gSub to ti rSetL) (tgSub eo ei) := fun W σ ε μ v x ε' μ' Q R En r h k => by
  unfold tgSub at h
  simp only [Option.bind_eq_some_iff] at h
  obtain ⟨⟨a, μ1⟩, h1, ⟨b, μ2⟩, h2, h3⟩ := h
  refine ho W σ ε μ a μ1 _ R En h1 fun va W1 R1 E1 r1 => ?_
  refine hi W1 σ ε μ1 b μ2 _ R1 (En.mono E1) h2 fun vb W2 R2 E2 r2 => ?_
  simp only [] at h3
  split at h3
  · rename_i kk j
    obtain rfl := rpv_int r2
    split at h3
    · rename_i xs hk
      simp only [Option.map_eq_some_iff] at h3
      obtain ⟨m, h4, h5⟩ := h3
      cases h5
      obtain ⟨vs, e, r3⟩ := R2.ob kk _ hk
      obtain ⟨lk, ea⟩ := r1.mono E2
      have rx := (r.mono E1).mono E2
      obtain ⟨R', E'⟩ := R2.put (u := .lst (xs.set m v)) (ho := .lst (vs.set m x)) hk (by simp) (by simp) ⟨_, rfl, r3.set rx m⟩
      exact ⟨_, vs, j, m, ea, rfl, e, by rw [← r3.length]; exact h4, k _ σ R' ((E1.trans E2).trans E') (((En.mono E1).mono E2).mono E')⟩
    · cases h3
  · cases h3
theorem g_sub {i : Expr} (ho : ME X o eo) (hi : ME X i ei) (ha : ∀ v, assign (.Subscript o i pos) X.env v = (do let ov ← holding [v] (eval o X.env); let iv ← holding [v, ov] (eval i X.env); standAt pos; holding [v, ov, iv] (setItem ov iv v); release [v, ov, iv] []) := by intro _; rfl) : MG X (.Subscript o i pos) (tgSub eo ei) :=
  VG.m ⟨pg_sub ho hi set_list ha, adq_gSub adqU adqU⟩
end
end VX
namespace VX
open PySem PySem.Spec PyProof.Rows L2

/-! ### what a loop walks -/
section
variable {K : PySem.W.Frag} {W0 : Wd} {n0 : Nat}
theorem pvs_getI {W : Wd} {n : Nat} {ps : List PV} {vs : List V} {i : Nat} {p : PV} {x : V} (h : Pvs K W n ps vs) (e : ps[i]? = some p) (e' : vs[i]? = some x) : RPV K W n p x := by
  obtain ⟨v, h1, h2⟩ := h.get e
  rw [h1] at e'; cases e'; exact h2
theorem gives_sq {a : Addr} {ps : List PV} {ok : Option Nat} (h : ∀ W μ, Rl K W μ → ExtL W0 n0 W μ.length → Grd ps μ ok → ∃ vs, SqL K W.H a vs ∧ Pvs K W μ.length ps vs) : Gives K (Itl K a) ps ok W0 n0 := fun W μ R E G => by
  obtain ⟨vs, hs, r⟩ := h W μ R E G
  refine ⟨fun i p e => ?_, vs, hs, by rw [r.length]; exact Nat.le_refl _⟩
  obtain ⟨v, h1, h2⟩ := r.get e
  refine ⟨⟨vs, v, hs, h1⟩, ?_⟩
  rintro x H' ⟨rfl, f⟩
  have := f vs hs
  rw [h1] at this; cases this
  exact ⟨W, rfl, R, Ext.refl _ _, h2⟩
theorem gives_tq {a : Addr} {ps : List PV} {ok : Option Nat} (h : ∀ W μ, Rl K W μ → ExtL W0 n0 W μ.length → Grd ps μ ok → ∃ vs, SqT K W.H a vs ∧ Pvs K W μ.length ps vs) : Gives K (Itt K a) ps ok W0 n0 := fun W μ R E G => by
  obtain ⟨vs, hs, r⟩ := h W μ R E G
  refine ⟨fun i p e => ?_, vs, hs, by rw [r.length]; exact Nat.le_refl _⟩
  obtain ⟨v, h1, h2⟩ := r.get e
  refine ⟨⟨vs, v, hs, h1⟩, ?_⟩
  rintro x H' ⟨rfl, f⟩
  have := f vs hs
  rw [h1] at this; cases this
  exact ⟨W, rfl, R, Ext.refl _ _, h2⟩
theorem gives_st {z : Str} : Gives K (Its z) (z.cps.toList.map fun c => PV.dat (.str ⟨#[c]⟩)) none W0 n0 := fun W μ R E G => by
  refine ⟨fun i p e => ?_, by simp [Its]⟩
  rw [List.getElem?_map] at e
  cases q : z.cps.toList[i]? with
  | none => rw [q] at e; cases e
  | some c =>
    rw [q] at e; cases e
    have hq : z.cps[i]? = some c := by simpa using q
    refine ⟨(Array.getElem?_eq_some_iff.mp hq).1, ?_⟩
    rintro x H' ⟨rfl, c', h1, rfl⟩
    rw [hq] at h1; cases h1
    exact ⟨W, rfl, R, Ext.refl _ _, .str _⟩
theorem gives_rg {lo : Int} {m : Nat} : Gives K (Itr lo m) ((List.range m).map fun i => PV.dat (.int (lo + (i : Nat)))) none W0 n0 := fun W μ R E G => by
  refine ⟨fun i p e => ?_, by simp [Itr]⟩
  rw [List.getElem?_map] at e
  cases q : (List.range m)[i]? with
  | none => rw [q] at e; cases e
  | some c =>
    rw [q] at e; cases e
    have hi : i < m := by simpa using (List.getElem?_eq_some_iff.mp q).1
    have : c = i := by rw [List.getElem?_range hi] at q; cases q; rfl
    subst this
    refine ⟨hi, ?_⟩
    rintro x H' ⟨rfl, rfl⟩
    exact ⟨W, rfl, R, Ext.refl _ _, .int _⟩
theorem gives_rc {lo c : Int} {m : Nat} : Gives K (Itc lo c m) ((List.range m).map fun i => PV.dat (.int (lo + (i : Nat) * c))) none W0 n0 := fun W μ R E G => by
  refine ⟨fun i p e => ?_, by simp [Itc]⟩
  rw [List.getElem?_map] at e
  cases q : (List.range m)[i]? with
  | none => rw [q] at e; cases e
  | some c =>
    rw [q] at e; cases e
    have hi : i < m := by simpa using (List.getElem?_eq_some_iff.mp q).1
    have : c = i := by rw [List.getElem?_range hi] at q; cases q; rfl
    subst this
    refine ⟨hi, ?_⟩
    rintro x H' ⟨rfl, rfl⟩
    exact ⟨W, rfl, R, Ext.refl _ _, .int _⟩
/-- pairs with the turn's number -/
def enumD (ds : List PyData) : List PyData := ds.zipIdx.map fun p => .tuple [.int (p.2 : Nat), p.1]
theorem gives_en {a : Addr} {ds : List PyData} {ok : Option Nat} (h : ∀ W μ, Rl K W μ → ExtL W0 n0 W μ.length → Grd ((enumD ds).map PV.dat) μ ok → ∃ vs, SqL K W.H a vs ∧ Pvs K W μ.length (ds.map PV.dat) vs) : Gives K (Ite K a) ((enumD ds).map PV.dat) ok W0 n0 := fun W μ R E G => by
  obtain ⟨vs, hs, r⟩ := h W μ R E G
  have hl := r.length
  simp only [List.length_map] at hl
  refine ⟨fun i p e => ?_, vs, hs, by simp [enumD]; omega⟩
  unfold enumD at e
  rw [List.getElem?_map, List.getElem?_map, List.getElem?_zipIdx] at e
  cases q : ds[i]? with
  | none => rw [q] at e; cases e
  | some d =>
    rw [q] at e; cases e
    obtain ⟨v, h1, h2⟩ := r.get (show (ds.map PV.dat)[i]? = some (PV.dat d) by rw [List.getElem?_map, q]; rfl)
    refine ⟨⟨vs, v, hs, h1⟩, ?_⟩
    rintro x H' ⟨T, y, rfl, hT, rfl, f⟩
    have := f vs hs
    rw [h1] at this; cases this
    obtain ⟨R', E'⟩ := R.imm (o := .tup [.int (i : Nat), v]) hT
    refine ⟨_, rfl, R', E', .tup upd_same (.cons ?_ (.cons (h2.mono E') .nil))⟩
    simp only [Nat.zero_add]
    exact .int _
theorem gives_zp {a b : Addr} {ds es : List PyData} (h : ∀ W μ, Rl K W μ → ExtL W0 n0 W μ.length → ∃ vs ws, SqL K W.H a vs ∧ SqL K W.H b ws ∧ Pvs K W μ.length (ds.map PV.dat) vs ∧ Pvs K W μ.length (es.map PV.dat) ws) :
    Gives K (Itz K a b) ((ds.zip es).map fun p => PV.dat (.tuple [p.1, p.2])) none W0 n0 := fun W μ R E G => by
  obtain ⟨vs, ws, hs, hs', r, r'⟩ := h W μ R E
  have hl := r.length
  have hl' := r'.length
  simp only [List.length_map] at hl hl'
  refine ⟨fun i p e => ?_, vs, ws, hs, hs', by simp; omega⟩
  rw [List.getElem?_map] at e
  cases q : (ds.zip es)[i]? with
  | none => rw [q] at e; cases e
  | some d =>
    rw [q] at e; cases e
    rw [List.getElem?_zip_eq_some] at q
    obtain ⟨v, h1, h2⟩ := r.get (show (ds.map PV.dat)[i]? = some (PV.dat d.1) by rw [List.getElem?_map, q.1]; rfl)
    obtain ⟨w, h3, h4⟩ := r'.get (show (es.map PV.dat)[i]? = some (PV.dat d.2) by rw [List.getElem?_map, q.2]; rfl)
    refine ⟨⟨vs, ws, v, w, hs, hs', h1, h3⟩, ?_⟩
    rintro x H' ⟨T, y, z, rfl, hT, rfl, f, g⟩
    have e1 := f vs hs
    rw [h1] at e1; cases e1
    have e2 := g ws hs'
    rw [h3] at e2; cases e2
    obtain ⟨R', E'⟩ := R.imm (o := .tup [v, w]) hT
    exact ⟨_, rfl, R', E', .tup upd_same (.cons (h2.mono E') (.cons (h4.mono E') .nil))⟩
theorem gives_rv {a : Addr} {ps : List PV} (h : ∀ W μ, Rl K W μ → ExtL W0 n0 W μ.length → ∃ vs, SqL K W.H a vs ∧ Pvs K W μ.length ps vs) : Gives K (Itv K a ps.length) ps.reverse none W0 n0 := fun W μ R E G => by
  obtain ⟨vs, hs, r⟩ := h W μ R E
  have hl := r.length
  refine ⟨fun i p e => ?_, by simp [Itv]⟩
  have hi : i < ps.length := by simpa using (List.getElem?_eq_some_iff.mp e).1
  rw [List.getElem?_reverse hi] at e
  obtain ⟨v, h1, h2⟩ := r.get e
  refine ⟨⟨hi, vs, v, hs, h1⟩, ?_⟩
  rintro x H' ⟨rfl, f⟩
  have := f vs hs
  rw [h1] at this; cases this
  exact ⟨W, rfl, R, Ext.refl _ _, h2⟩
end

/-! the sources -/
@[simp] def srcSeq (e : EvF) : SrF := fun ε μ => (e ε μ).bind fun x => match x.1 with
  | .dat (.str z) => some ((z.cps.toList.map fun c => PV.dat (.str ⟨#[c]⟩), none), x.2)
  | .dat (.list ds) => some ((ds.map PV.dat, none), x.2)
  | .dat (.tuple ds) => some ((ds.map PV.dat, none), x.2)
  | .scr ns => some ((ns.map fun n => PV.dat (.int n), none), x.2)
  | .ptr k => (match x.2[k]? with | some (.lst xs) => some ((xs, some k), x.2) | _ => none)
  | _ => none
def inRg : Int → Bool := inB 4611686018427387903
theorem inRg_ok {j : Int} (h : inRg j = true) : -(2 ^ 62) ≤ j ∧ j < 2 ^ 62 := by
  rw [p62]
  exact inB_iff.mp h
theorem inRg_int {j : Int} (h : -100000 ≤ j) (h' : j ≤ 100000) : inRg j = true := inB_iff.mpr ⟨Int.le_trans (by decide) h, Int.lt_of_le_of_lt h' (by decide)⟩
@[simp] theorem inRg_nat {n : Nat} (h : n ≤ 100000) : inRg (n : Int) = true := inRg_int (by omega) (by omega)
@[simp] theorem inRg_o : inRg 1 = true := inRg_int (by decide) (by decide)
@[simp] theorem inRg_z : inRg 0 = true := inRg_int (by decide) (by decide)
@[simp] def srcR1 (e : ArF) : SrF := fun ε μ => (e ε μ).bind fun x => match x.1 with
  | [.dat (.int j)] => if inRg j = true then some (((List.range j.toNat).map fun i => PV.dat (.int (i : Nat)), none), x.2) else none
  | _ => none
@[simp] def srcR2 (e : ArF) : SrF := fun ε μ => (e ε μ).bind fun x => match x.1 with
  | [.dat (.int i), .dat (.int j)] => if (inRg i && inRg j) = true then some (((List.range (j - i).toNat).map fun m => PV.dat (.int (i + (m : Nat))), none), x.2) else none
  | _ => none
@[simp] def srcEn (e : ArF) : SrF := fun ε μ => (e ε μ).bind fun x => match x.1 with
  | [p] => (lstOf x.2 p).bind fun xs => (asDats xs).bind fun ds => (match p with | .dat _ => some (((enumD ds).map PV.dat, none), x.2) | _ => none)
  | _ => none
@[simp] def srcZp (e : ArF) : SrF := fun ε μ => (e ε μ).bind fun x => match x.1 with
  | [.dat (.list ds), .dat (.list es)] => some (((ds.zip es).map fun p => PV.dat (.tuple [p.1, p.2]), none), x.2)
  | _ => none
@[simp] def srcRv (e : ArF) : SrF := fun ε μ => (e ε μ).bind fun x => match x.1 with
  | [.dat (.list ds)] => some (((ds.map PV.dat).reverse, none), x.2)
  | _ => none
section
variable {X : Cx} {e e2 o iter tg : Expr} {es : List Expr} {el : ArF} {ev ev2 eo ei : EvF} {pos p tpos : Pos} {elts : List Expr} {kk : Nat}
theorem pi_seq {te : TE} (h : PE X e te) : PI X tg e (fun σ H R => iStr te σ H R ∨ iList X.K te σ H R ∨ iTup X.K te σ H R) := ⟨fun pins s σ H R I q => by
  rcases q with q | q | q
  · exact (pi_str h).run pins s σ H R I q
  · exact (pi_list h).run pins s σ H R I q
  · exact (pi_tup h).run pins s σ H R I q⟩
theorem i_seq (h : ME X e ev) : MI X tg e (srcSeq ev) := VI.m ⟨pi_seq h, fun W σ ε μ items ok μ' Rr R En q k => by
  unfold srcSeq at q
  simp only [Option.bind_eq_some_iff] at q
  obtain ⟨⟨x, μ1⟩, h1, h2⟩ := q
  simp only [] at h2
  split at h2
  · cases h2
    exact .inl (adqU W σ ε μ _ _ _ R En h1 fun vx W1 R1 E1 r1 => ⟨_, rpv_str r1, k W1 _ R1 E1 gives_st⟩)
  · cases h2
    refine .inr (.inl (adqU W σ ε μ _ _ _ R En h1 fun vx W1 R1 E1 r1 => ?_))
    cases r1 with
    | lst e a => exact ⟨_, rfl, ⟨_, SqL.of (R1.sub _ _ e)⟩, k W1 _ R1 E1 (gives_sq fun W2 μ2 R2 E2 _ => ⟨_, SqL.of (R2.sub _ _ (E2.im _ _ e)), Pvs.monoL E2 (DtAll.pvs a)⟩)⟩
  · cases h2
    refine .inr (.inr (adqU W σ ε μ _ _ _ R En h1 fun vx W1 R1 E1 r1 => ?_))
    cases r1 with
    | tup e a => exact ⟨_, rfl, ⟨_, SqT.of (R1.sub _ _ e)⟩, k W1 _ R1 E1 (gives_tq fun W2 μ2 R2 E2 _ => ⟨_, SqT.of (R2.sub _ _ (E2.im _ _ e)), Pvs.monoL E2 (DtAll.pvs a)⟩)⟩
  · cases h2
    refine .inr (.inl (adqU W σ ε μ _ _ _ R En h1 fun vx W1 R1 E1 r1 => ?_))
    obtain ⟨a, rfl, e⟩ := r1
    exact ⟨_, rfl, ⟨_, R1.sub.seq e⟩, k W1 _ R1 E1 (gives_sq fun W2 μ2 R2 E2 _ => ⟨_, R2.sub.seq (E2.im.seq e), pvsInts⟩)⟩
  · rename_i kk
    split at h2
    · rename_i xs hk
      cases h2
      refine .inr (.inl (adqU W σ ε μ _ _ _ R En h1 fun vx W1 R1 E1 r1 => ?_))
      obtain ⟨lk, rfl⟩ := r1
      obtain ⟨vs, e, r⟩ := R1.ob kk _ hk
      refine ⟨_, rfl, ⟨vs, SqL.of e⟩, k W1 _ R1 E1 (gives_sq fun W2 μ2 R2 E2 G => ?_)⟩
      obtain ⟨ws, e2, r2⟩ := R2.ob kk _ G
      rw [E2.io kk lk] at e2
      exact ⟨ws, SqL.of e2, r2⟩
    · cases h2
  · cases h2⟩
theorem i_range1 (hg : Gl X "range") (hm : X.mg "range" = none) (ha : MA X [e] el) (hs : starEach [e] X.env = [(false, eval e X.env)] := by rfl) : MI X tg (.Call (.Name "range" p) [e] [] pos) (srcR1 el) :=
  VI.m ⟨pi_range1 hg hm ha hs, fun W σ ε μ items ok μ' Rr R En q k => by
    unfold srcR1 at q
    simp only [Option.bind_eq_some_iff] at q
    obtain ⟨⟨x, μ1⟩, h1, h2⟩ := q
    refine adqUA W σ ε μ _ μ1 _ R En h1 fun vx W1 R1 E1 r1 => ?_
    simp only [] at h2
    split at h2
    · rename_i j
      split at h2
      · rename_i hj
        cases h2
        obtain ⟨y, rfl, ry⟩ := pvs1 r1
        obtain rfl := rpv_int ry
        have hj := inRg_ok hj
        refine ⟨j, rfl, hj.1, hj.2, k W1 _ R1 E1 ?_⟩
        have := gives_rg (K := X.K) (W0 := W1) (n0 := μ'.length) (lo := 0) (m := j.toNat)
        simpa using this
      · cases h2
    · cases h2⟩
theorem i_range2 (hg : Gl X "range") (hm : X.mg "range" = none) (ha : MA X [e, e2] el) (hs : starEach [e, e2] X.env = [(false, eval e X.env), (false, eval e2 X.env)] := by rfl) (hs2 : starEach [e2] X.env = [(false, eval e2 X.env)] := by rfl) : MI X tg (.Call (.Name "range" p) [e, e2] [] pos) (srcR2 el) :=
  VI.m ⟨pi_range2 hg hm ha hs hs2, fun W σ ε μ items ok μ' Rr R En q k => by
    unfold srcR2 at q
    simp only [Option.bind_eq_some_iff] at q
    obtain ⟨⟨x, μ1⟩, h1, h2⟩ := q
    refine adqUA W σ ε μ _ μ1 _ R En h1 fun vx W1 R1 E1 r1 => ?_
    simp only [] at h2
    split at h2
    · rename_i i j
      split at h2
      · rename_i hj
        cases h2
        obtain ⟨y, z, rfl, ry, rz⟩ := pvs2 r1
        obtain rfl := rpv_int ry
        obtain rfl := rpv_int rz
        rw [Bool.and_eq_true] at hj
        have h1 := inRg_ok hj.1
        have h2 := inRg_ok hj.2
        exact ⟨i, j, rfl, ⟨h1.1, h1.2, h2.1, h2.2⟩, k W1 _ R1 E1 gives_rg⟩
      · cases h2
    · cases h2⟩
theorem i_enum (hg : Gl X "enumerate") (hm : X.mg "enumerate" = none) (ha : MA X [e] el) (hs : starEach [e] X.env = [(false, eval e X.env)] := by rfl) : MI X (.Tuple elts kk tpos) (.Call (.Name "enumerate" p) [e] [] pos) (srcEn el) :=
  VI.m ⟨pi_enum hg hm ha hs, fun W σ ε μ items ok μ' Rr R En q k => by
    unfold srcEn at q
    simp only [Option.bind_eq_some_iff] at q
    obtain ⟨⟨x, μ1⟩, h1, h2⟩ := q
    refine adqUA W σ ε μ _ μ1 _ R En h1 fun vx W1 R1 E1 r1 => ?_
    simp only [] at h2
    split at h2
    · simp only [Option.bind_eq_some_iff] at h2
      obtain ⟨xs, h3, ds, h4, h5⟩ := h2
      obtain ⟨y, rfl, ry⟩ := pvs1 r1
      split at h5
      · rename_i d
        cases h5
        rw [asDats_eq h4] at h3
        cases d with
        | list es =>
          simp only [lstOf, Option.some.injEq] at h3
          have : es = ds := by
            have := congrArg asDats h3
            rw [asDats_map, asDats_map] at this
            exact Option.some.inj this
          subst this
          cases ry with
          | lst e a => exact ⟨_, _, rfl, SqL.of (R1.sub _ _ e), k W1 _ R1 E1 (gives_en fun W2 μ2 R2 E2 _ => ⟨_, SqL.of (R2.sub _ _ (E2.im _ _ e)), Pvs.monoL E2 (DtAll.pvs a)⟩)⟩
        | _ => cases h3
      · cases h5
    · cases h2⟩
theorem i_zip (hg : Gl X "zip") (hm : X.mg "zip" = none) (ha : MA X [e, e2] el) (hs : starEach [e, e2] X.env = (false, eval e X.env) :: starEach [e2] X.env := by rfl) (hpl : (backTo pos (starEach [e2] X.env)).any (·.1) = false := by rfl) : MI X (.Tuple elts kk tpos) (.Call (.Name "zip" p) [e, e2] [] pos) (srcZp el) :=
  VI.m ⟨pi_zip hg hm ha hs hpl, fun W σ ε μ items ok μ' Rr R En q k => by
    unfold srcZp at q
    simp only [Option.bind_eq_some_iff] at q
    obtain ⟨⟨x, μ1⟩, h1, h2⟩ := q
    refine adqUA W σ ε μ _ μ1 _ R En h1 fun vx W1 R1 E1 r1 => ?_
    simp only [] at h2
    split at h2
    · cases h2
      obtain ⟨y, z, rfl, ry, rz⟩ := pvs2 r1
      cases ry with
      | lst e a => cases rz with
        | lst e' a' => exact ⟨_, _, _, _, rfl, SqL.of (R1.sub _ _ e), SqL.of (R1.sub _ _ e'), k W1 _ R1 E1 (gives_zp fun W2 μ2 R2 E2 => ⟨_, _, SqL.of (R2.sub _ _ (E2.im _ _ e)), SqL.of (R2.sub _ _ (E2.im _ _ e')), Pvs.monoL E2 (DtAll.pvs a), Pvs.monoL E2 (DtAll.pvs a')⟩)⟩
    · cases h2⟩
theorem i_rev (hg : Gl X "reversed") (hm : X.mg "reversed" = none) (ha : MA X [e] el) (hs : starEach [e] X.env = [(false, eval e X.env)] := by rfl) : MI X tg (.Call (.Name "reversed" p) [e] [] pos) (srcRv el) :=
  VI.m ⟨pi_reversed hg hm ha hs, fun W σ ε μ items ok μ' Rr R En q k => by
    unfold srcRv at q
    simp only [Option.bind_eq_some_iff] at q
    obtain ⟨⟨x, μ1⟩, h1, h2⟩ := q
    refine adqUA W σ ε μ _ μ1 _ R En h1 fun vx W1 R1 E1 r1 => ?_
    simp only [] at h2
    split at h2
    · cases h2
      obtain ⟨y, rfl, ry⟩ := pvs1 r1
      cases ry with
      | lst e a =>
        have hl := Pvs.length (DtAll.pvs (K := X.K) (W := W1) (n := μ'.length) a)
        refine ⟨_, _, rfl, SqL.of (R1.sub _ _ e), k W1 _ R1 E1 ?_⟩
        rw [← hl]
        exact gives_rv fun W2 μ2 R2 E2 => ⟨_, SqL.of (R2.sub _ _ (E2.im _ _ e)), Pvs.monoL E2 (DtAll.pvs a)⟩
    · cases h2⟩

/-! ### freezing -/
@[simp] def eFrz (e : EvF) : EvF := fun ε μ => (e ε μ).bind fun x => match x.1 with
  | .ptr k => (match x.2[k]? with | some (.lst xs) => (asDats xs).map fun ds => (.dat (.list ds), x.2.set k .gone) | _ => none)
  | v => some (v, x.2)
theorem m_frz (h : ME X e ev) : ME X e (eFrz ev) := VE.m ⟨h, fun W σ ε μ v μ' Q R En q k => by
  unfold eFrz at q
  simp only [Option.bind_eq_some_iff] at q
  obtain ⟨⟨x, μ1⟩, h1, h2⟩ := q
  refine adqU W σ ε μ x μ1 _ R En h1 fun vx W1 R1 E1 r1 => ?_
  simp only [] at h2
  split at h2
  · rename_i kk
    split at h2
    · rename_i xs hk
      simp only [Option.map_eq_some_iff] at h2
      obtain ⟨ds, h3, h4⟩ := h2
      cases h4
      rw [asDats_eq h3] at hk
      obtain ⟨W2, e2, R2, E2, d2⟩ := R1.freeze hk
      rw [← e2]
      exact k _ W2 R2 (E1.trans E2) (by rw [r1.2]; exact d2)
    · cases h2
  · cases h2
    exact k vx W1 R1 E1 r1⟩
@[simp] def frzS (i : Nat) (ε : Evn) (μ : Sto) : Option (Evn × Sto) := match ε[i]? with
  | some (some (.ptr k)) => (match μ[k]? with | some (.lst xs) => (asDats xs).map fun ds => (ε.set i (some (.dat (.list ds))), μ.set k .gone) | _ => none)
  | _ => none
@[simp] def sFrz (i : Nat) (rn : RnF) : RnF := fun ε μ => (frzS i ε μ).bind fun y => rn y.1 y.2
theorem ss_frz {sts : List Stmt} {rn : RnF} (i : Nat) (h : MSs X sts rn) : MSs X sts (sFrz i rn) := VSs.m ⟨h, fun W σ ε μ out D R En q k => by
  unfold sFrz at q
  simp only [Option.bind_eq_some_iff] at q
  obtain ⟨⟨ε1, μ1⟩, h1, h2⟩ := q
  unfold frzS at h1
  split at h1
  · rename_i kk hi
    split at h1
    · rename_i xs hk
      simp only [Option.map_eq_some_iff] at h1
      obtain ⟨ds, h3, h4⟩ := h1
      cases h4
      rw [asDats_eq h3] at hk
      obtain ⟨x, hx, rx⟩ := En.get i _ hi
      obtain ⟨W2, e2, R2, E2, d2⟩ := R.freeze hk
      rw [← e2]
      refine adqUS W2 σ _ _ out D R2 ?_ h2 (k.ext E2)
      have en := (En.mono E2).set i (p := .dat (.list ds)) (x := x) (by rw [rx.2]; exact d2)
      have : σ.set i (some x) = σ := by
        refine List.ext_getElem? fun j => ?_
        by_cases hj : i = j
        · subst hj; rw [List.getElem?_set_self (List.getElem?_eq_some_iff.mp hx).1, hx]
        · rw [List.getElem?_set_ne hj]
      rw [this] at en
      exact en
    · cases h1
  · cases h1⟩

/-! ### a, b = e1, e2 -/
@[simp] def sPar (i j : Nat) (el : ArF) : RnF := fun ε μ => (el ε μ).bind fun x => match x.1 with
  | [v, w] => some (.nx ((ε.set i (some v)).set j (some w)) x.2)
  | _ => none
theorem s_par {i j : Nat} {x y : Str} {a b : Expr} {px py pt : Pos} {kt k2 pt2} (hc : X.calm = true) (hN : X.N.Nodup) (hi : X.N[i]? = some x) (hj : X.N[j]? = some y) (hij : i ≠ j) (hx : X.env.scope.names.lookup x = some .local) (hy : X.env.scope.names.lookup y = some .local) (ha : MA X [a, b] el)
    (hw : swappedStores [.Tuple [.Name x px, .Name y py] kt pt] (.Tuple [a, b] k2 pt2) X.env = pure (some [x, y])) (hs : swapsWithSole [.Tuple [.Name x px, .Name y py] kt pt] (.Tuple [a, b] k2 pt2) pos.line X.env = pure false := by rfl) :
    MS X (.Assign [.Tuple [.Name x px, .Name y py] kt pt] (.Tuple [a, b] k2 pt2) pos) (sPar i j el) := VS.m ⟨ps_par hc hN hi hj hij hx hy ha hw hs, fun W σ ε μ out D R En q k => by
  unfold sPar at q
  simp only [Option.bind_eq_some_iff] at q
  obtain ⟨⟨xs, μ1⟩, h1, h2⟩ := q
  refine adqUA W σ ε μ xs μ1 _ R En h1 fun vs W1 R1 E1 r1 => ?_
  simp only [] at h2
  split at h2
  · cases h2
    obtain ⟨v, w, rfl, rv, rw'⟩ := pvs2 r1
    exact ⟨v, w, rfl, k W1 _ R1 E1 (((En.mono E1).set i rv).set j rw')⟩
  · cases h2⟩
/-- the general form: the pair is made, then taken apart -/
@[simp] def sAsgT (n : Nat) (el : ArF) (gfs : List PV → Evn → Sto → Option (Evn × Sto)) : RnF := fun ε μ => (el ε μ).bind fun x => if x.1.length = n ∧ n ≤ cap then (gfs x.1 ε x.2).bind fun y => some (.nx y.1 y.2) else none
theorem s_asgT {ts : List Expr} {kt k2 : Nat} {pt pt2 : Pos} {n : Nat} {gfs : List PV → Evn → Sto → Option (Evn × Sto)} (hc : X.calm = true) (ha : MA X es el) (hg : MGs X ts gfs) (hn : (assignEach ts X.env).length = n := by rfl) (hst : (assignEach ts X.env).findIdx? (·.1) = none := by rfl)
    (hs : swapsWithSole [.Tuple ts kt pt] (.Tuple es k2 pt2) pos.line X.env = pure false := by rfl) (hw : swappedStores [.Tuple ts kt pt] (.Tuple es k2 pt2) X.env = pure none := by rfl) (h1 : (assignEach [.Tuple ts kt pt] X.env).map (·.2) = [assign (.Tuple ts kt pt) X.env] := by rfl) :
    MS X (.Assign [.Tuple ts kt pt] (.Tuple es k2 pt2) pos) (sAsgT n el gfs) := VS.m ⟨ps_asg (pe_tup ha) (pg_tup hc hg hn hst) hs hw h1, fun W σ ε μ out D R En q k => by
  unfold sAsgT at q
  simp only [Option.bind_eq_some_iff] at q
  obtain ⟨⟨xs, μ1⟩, h1, h2⟩ := q
  refine adqUA W σ ε μ xs μ1 _ R En h1 fun vs W1 R1 E1 r1 => ?_
  simp only [] at h2
  split at h2
  · rename_i hl
    have hlen := r1.length
    simp only [Option.bind_eq_some_iff] at h2
    obtain ⟨⟨ε2, μ2⟩, h3, h4⟩ := h2
    cases h4
    refine ⟨cap_ok (by omega), fun p hp => ?_⟩
    obtain ⟨R2, E2⟩ := R1.junk (o := .tup vs) hp
    refine ⟨p, vs, rfl, SqT.of upd_same, by omega, ?_⟩
    exact adqUGs _ σ ε μ1 xs vs ε2 μ2 _ R2 ((En.mono E1).mono E2) (Pvs.mono E2 r1) h3 fun W3 σ3 R3 E3 En3 => k W3 σ3 R3 ((E1.trans E2).trans E3) En3
  · cases h2⟩

/-! ### x op= e -/
@[simp] def sAugI (i : Nat) (g : Int → Int → Int) (e : EvF) : RnF := fun ε μ => match ε[i]? with
  | some (some (.dat (.int a))) => (e ε μ).bind fun y => (match y.1 with | .dat (.int b) => some (.nx (ε.set i (some (.dat (.int (g a b))))) y.2) | _ => none)
  | _ => none
theorem s_augI {i : Nat} {x : Str} {op : Operator} {g : Int → Int → Int} {pos' : Pos} (hN : X.N.Nodup) (hi : X.N[i]? = some x) (hx : Loc X.env.scope x) (he : ME X e ev) (ho : PIp X op (ipI g)) (hf : X.fn x = true ∨ X.env.scope.names.lookup x = some .local := by first | exact .inl rfl | exact .inr rfl | assumption) :
    MS X (.AugAssign (.Name x pos') op e pos) (sAugI i g ev) := VS.m ⟨ps_aug hN hi hx he ho hf, fun W σ ε μ out D R En q k => by
  unfold sAugI at q
  split at q
  · rename_i a hi
    obtain ⟨x, h1, h2⟩ := En.get i _ hi
    obtain rfl := rpv_int h2
    simp only [Option.bind_eq_some_iff] at q
    obtain ⟨⟨y, μ1⟩, h3, h4⟩ := q
    refine ⟨_, h1, adqU W σ ε μ y μ1 _ R En h3 fun vx W1 R1 E1 r1 => ?_⟩
    simp only [] at h4
    split at h4
    · cases h4
      obtain rfl := rpv_int r1
      exact ⟨a, _, rfl, rfl, k W1 _ R1 E1 ((En.mono E1).set i (.int _))⟩
    · cases h4
  · cases q⟩
end
end VX
namespace VX
open PySem PySem.Spec PyProof.Rows L2

/-! ### a, b, c = e1, e2, e3 with plain local names: the stores go from the right -/
section
variable {X : Cx} {pos : Pos}
def tPar3 (i j l : Nat) (ta : TA) : TS := fun D σ H => ta σ H fun vs H1 => ∃ u v w, vs = [u, v, w] ∧ D.nx (((σ.set i (some u)).set j (some v)).set l (some w)) H1
theorem ps_par3 {i j l : Nat} {x y z : Str} {a b c : Expr} {ta : TA} {px py pz pt : Pos} {kt k2 pt2} (hc : X.calm = true) (hN : X.N.Nodup) (hi : X.N[i]? = some x) (hj : X.N[j]? = some y) (hl : X.N[l]? = some z) (h1 : i ≠ j) (h2 : i ≠ l) (h3 : j ≠ l)
    (hx : X.env.scope.names.lookup x = some .local) (hy : X.env.scope.names.lookup y = some .local) (hz : X.env.scope.names.lookup z = some .local) (ha : PA X [a, b, c] ta)
    (hw : swappedStores [.Tuple [.Name x px, .Name y py, .Name z pz] kt pt] (.Tuple [a, b, c] k2 pt2) X.env = pure (some [x, y, z])) (hs : swapsWithSole [.Tuple [.Name x px, .Name y py, .Name z pz] kt pt] (.Tuple [a, b, c] k2 pt2) pos.line X.env = pure false := by rfl) :
    PS X (.Assign [.Tuple [.Name x px, .Name y py, .Name z pz] kt pt] (.Tuple [a, b, c] k2 pt2) pos) (tPar3 i j l ta) := by
  constructor
  intro pins s σ H D I h
  rw [exec_Assign_arm]
  apply wpAny_bind
  apply wpAny_standAt
  rw [hs]
  apply wpAny_bind
  apply wpAny_pure
  rw [if_neg (by simp)]
  apply wpAny_bind
  refine Tuple_ (thn (ha.run _ pins s σ H _ I h) fun us s1 hus => ?_)
  obtain ⟨vs, H1, I1, r1, u, v, w, evs, q1⟩ := hus
  subst evs
  obtain ⟨u1, us1, rfl, ru, r2⟩ : ∃ u1 us1, us = u1 :: us1 ∧ RelV u u1 ∧ Vals [v, w] us1 := by
    cases r1 with
    | cons p q => exact ⟨_, _, rfl, p, q⟩
  obtain ⟨u2, u3, rfl, rv, rw'⟩ := Vals.two r2
  refine wpAny_newObj_type ?_ (by show 3 ≤ sizeLine; decide)
  have I2 : Inv X pins σ H1 { s1 with heap := s1.heap.push { cls := .type "tuple", data := .seq [u1, u2, u3].toArray } } := I1.kept (t' := s1.toks) fun b o e => Heap.get?_push_of_some _ e
  rw [hw]
  apply wpAny_bind
  apply wpAny_pure
  show wpAny (model X.prog X.w) X.A (do rule "assign.swapped-stores"; let items ← unpackItems (.ref s1.heap.objs.size) 3 none; assignInOrder [fun v => bindName X.env z v, fun v => bindName X.env y v, fun v => bindName X.env x v] items.reverse; pure Flow.next) _ _ _
  apply wpAny_bind
  apply wpAny_rule
  apply wpAny_bind
  refine unpackItems_tuple (items := #[u1, u2, u3]) (I.ok.hd hc) (IsTup.new s1.heap _) fun h' hx' => ?_
  have I3 := I2.kept (h' := h') (t' := s1.toks) fun b o e => hx' b o (Nat.ne_of_lt (Heap.lt_size e)) e
  show wpAny _ _ (assignInOrder [fun v => bindName X.env z v, fun v => bindName X.env y v, fun v => bindName X.env x v] [u3, u2, u1] >>= fun _ => pure Flow.next) _ _ _
  apply wpAny_bind
  refine assignInOrder_cons (wpAny_bindName (store_ok I3 hN hl (.inl hz) rw' (fun s2 I4 => ?_) (.inr hz)))
  refine assignInOrder_cons (wpAny_bindName (store_ok I4 hN hj (.inl hy) rv (fun s3 I5 => ?_) (.inr hy)))
  refine assignInOrder_cons (wpAny_bindName (store_ok I5 hN hi (.inl hx) ru (fun s4 I6 => assignInOrder_nil (wpAny_pure ?_)) (.inr hx)))
  rw [List.set_comm _ _ h3.symm, List.set_comm _ _ h2.symm, List.set_comm _ _ h1.symm] at I6
  exact ⟨_, H1, I6, q1⟩
@[simp] def sPar3 (i j l : Nat) (el : ArF) : RnF := fun ε μ => (el ε μ).bind fun x => match x.1 with
  | [u, v, w] => some (.nx (((ε.set i (some u)).set j (some v)).set l (some w)) x.2)
  | _ => none
theorem pvs3 {K : PySem.W.Frag} {W : Wd} {n : Nat} {p q r : PV} {xs : List V} (h : Pvs K W n [p, q, r] xs) : ∃ x y z, xs = [x, y, z] ∧ RPV K W n p x ∧ RPV K W n q y ∧ RPV K W n r z := by
  cases h with
  | cons r t => obtain ⟨y, z, rfl, h1, h2⟩ := pvs2 t; exact ⟨_, _, _, rfl, r, h1, h2⟩
theorem s_par3 {i j l : Nat} {x y z : Str} {a b c : Expr} {el : ArF} {px py pz pt : Pos} {kt k2 pt2} (hc : X.calm = true) (hN : X.N.Nodup) (hi : X.N[i]? = some x) (hj : X.N[j]? = some y) (hl : X.N[l]? = some z) (h1 : i ≠ j) (h2 : i ≠ l) (h3 : j ≠ l)
    (hx : X.env.scope.names.lookup x = some .local) (hy : X.env.scope.names.lookup y = some .local) (hz : X.env.scope.names.lookup z = some .local) (ha : MA X [a, b, c] el)
    (hw : swappedStores [.Tuple [.Name x px, .Name y py, .Name z pz] kt pt] (.Tuple [a, b, c] k2 pt2) X.env = pure (some [x, y, z])) (hs : swapsWithSole [.Tuple [.Name x px, .Name y py, .Name z pz] kt pt] (.Tuple [a, b, c] k2 pt2) pos.line X.env = pure false := by rfl) :
    MS X (.Assign [.Tuple [.Name x px, .Name y py, .Name z pz] kt pt] (.Tuple [a, b, c] k2 pt2) pos) (sPar3 i j l el) := VS.m ⟨ps_par3 hc hN hi hj hl h1 h2 h3 hx hy hz ha hw hs, fun W σ ε μ out D R En q k => by
  unfold sPar3 at q
  simp only [Option.bind_eq_some_iff] at q
  obtain ⟨⟨xs, μ1⟩, h1, h2⟩ := q
  refine adqUA W σ ε μ xs μ1 _ R En h1 fun vs W1 R1 E1 r1 => ?_
  simp only [] at h2
  split at h2
  · cases h2
    obtain ⟨u, v, w, rfl, ru, rv, rw'⟩ := pvs3 r1
    exact ⟨u, v, w, rfl, k W1 _ R1 E1 ((((En.mono E1).set i ru).set j rv).set l rw')⟩
  · cases h2⟩
end

/-! ### dicts with keys that are ints and texts -/
section
variable {κ : Type} [DecidableEq κ]
def valP (kvs : List (κ × PV)) (k : κ) : Option PV := match kvs with
  | [] => none
  | p :: r => if p.1 = k then some p.2 else valP r k
def putP (kvs : List (κ × PV)) (k : κ) (v : PV) : List (κ × PV) := match kvs with
  | [] => [(k, v)]
  | p :: r => if p.1 = k then (k, v) :: r else p :: putP r k v
end
@[simp] def keyP : PV → Option Key
  | .dat (.int i) => some (.inl i)
  | .dat (.str z) => some (.inr z)
  | _ => none
section
variable {K : PySem.W.Frag} {W : Wd} {n : Nat}
theorem valP_ok {kvs : List (Key × PV)} {kws : List (Key × V)} {k : Key} (h : Kvs K W n kvs kws) : (valP kvs k = none → valV kws k = none) ∧ ∀ p, valP kvs k = some p → ∃ v, valV kws k = some v ∧ RPV K W n p v := by
  induction h with
  | nil => exact ⟨fun _ => rfl, fun p e => by cases e⟩
  | @cons a b _ _ r t ih =>
    unfold valP
    by_cases e : a.1 = k
    · rw [if_pos e, valV_pos (by rw [← r.1]; exact e)]
      exact ⟨fun z => (by cases z), fun p z => (by cases z; exact ⟨_, rfl, r.2⟩)⟩
    · rw [if_neg e, valV_neg (by rw [← r.1]; exact e)]
      exact ih
/-- every key once -/
def NdK {α : Type} (kvs : List (Key × α)) : Prop := (kvs.map (·.1)).Nodup
theorem keys_kvs {kvs : List (Key × PV)} {kws : List (Key × V)} (h : Kvs K W n kvs kws) : kvs.map (·.1) = kws.map (·.1) := by
  induction h with
  | nil => rfl
  | cons r t ih => simp only [List.map_cons, r.1, ih]
theorem putV_cons {p : Key × V} {r : List (Key × V)} {k : Key} {v : V} (nd : NdK (p :: r)) : putK (p :: r) k v = if p.1 = k then (k, v) :: r else p :: putK r k v := by
  unfold NdK at nd
  simp only [List.map_cons, List.nodup_cons] at nd
  unfold putK
  by_cases e : p.1 = k
  · simp only [List.any_cons, e, decide_true, Bool.true_or, if_true, List.map_cons]
    congr 1
    rw [← e] at *
    have : ∀ q ∈ r, ¬ q.1 = p.1 := fun q hq z => nd.1 (List.mem_map.mpr ⟨q, hq, z⟩)
    conv => rhs; rw [← List.map_id r]
    exact List.map_congr_left fun q hq => by rw [if_neg (this q hq)]; rfl
  · simp only [List.any_cons, e, decide_false, Bool.false_or, if_false, List.map_cons]
    split
    · rfl
    · rfl
theorem putP_ok {k : Key} {p : PV} {v : V} (r : RPV K W n p v) : ∀ {kvs : List (Key × PV)} {kws : List (Key × V)}, Kvs K W n kvs kws → NdK kvs → Kvs K W n (putP kvs k p) (putK kws k v)
  | [], _, .nil, _ => .cons ⟨rfl, r⟩ .nil
  | a :: as, b :: bs, .cons q t, nd => by
    have nd' : NdK (b :: bs) := by
      unfold NdK at nd ⊢
      rw [← keys_kvs (K := K) (W := W) (n := n) (.cons q t)]; exact nd
    rw [putV_cons nd']
    unfold putP
    by_cases e : a.1 = k
    · rw [if_pos e, if_pos (by rw [← q.1]; exact e)]
      exact .cons ⟨rfl, r⟩ t
    · rw [if_neg e, if_neg (by rw [← q.1]; exact e)]
      refine .cons q (putP_ok r t ?_)
      unfold NdK at nd ⊢
      exact (List.nodup_cons.mp nd).2
end
theorem keys_put {k : Key} {p : PV} : ∀ kvs : List (Key × PV), (putP kvs k p).map (·.1) = kvs.map (·.1) ∨ ((putP kvs k p).map (·.1) = kvs.map (·.1) ++ [k] ∧ k ∉ kvs.map (·.1))
  | [] => .inr ⟨rfl, by simp⟩
  | a :: as => by
    unfold putP
    by_cases e : a.1 = k
    · rw [if_pos e]; exact .inl (by simp [e])
    · rw [if_neg e]
      rcases keys_put (k := k) (p := p) as with h | ⟨h, h'⟩
      · exact .inl (by simp only [List.map_cons, h])
      · refine .inr ⟨by simp only [List.map_cons, h, List.cons_append], fun z => ?_⟩
        simp only [List.map_cons, List.mem_cons] at z
        rcases z with z | z
        · exact e z.symm
        · exact h' z
theorem ndK_put {k : Key} {p : PV} {kvs : List (Key × PV)} (h : NdK kvs) : NdK (putP kvs k p) := by
  unfold NdK at h ⊢
  rcases keys_put (k := k) (p := p) kvs with e | ⟨e, hk⟩
  · rw [e]; exact h
  · rw [e, List.nodup_append]
    refine ⟨h, by simp, fun a ha b hb => ?_⟩
    simp only [List.mem_singleton] at hb
    subst hb
    intro z; subst z; exact hk ha
def ndB (kvs : List (Key × PV)) : Bool := decide ((kvs.map (·.1)).Nodup)
@[simp] def dicOf (μ : Sto) : PV → Option (Nat × List (Key × PV))
  | .ptr k => match μ[k]? with | some (.dic kvs) => some (k, kvs) | _ => none
  | _ => none
@[simp] def eDGet (o i : EvF) : EvF := fun ε μ => (o ε μ).bind fun x => (i ε x.2).bind fun y => (dicOf y.2 x.1).bind fun d => (keyP y.1).bind fun k => (valP d.2 k).map fun v => (v, y.2)
@[simp] def eDIn (neg : Bool) (i o : EvF) : EvF := fun ε μ => (i ε μ).bind fun y => (o ε y.2).bind fun x => (dicOf x.2 x.1).bind fun d => (keyP y.1).map fun k => (.dat (.bool (if neg then !(valP d.2 k).isSome else (valP d.2 k).isSome)), x.2)
@[simp] def sDPut (o i v : EvF) : RnF := fun ε μ => (v ε μ).bind fun z => (o ε z.2).bind fun x => (i ε x.2).bind fun y => (dicOf y.2 x.1).bind fun d => (keyP y.1).bind fun k =>
  if d.2.length < cap ∧ ndB d.2 = true then some (.nx ε (y.2.set d.1 (.dic (putP d.2 k z.1)))) else none
theorem dicOf_ok {K : PySem.W.Frag} {W : Wd} {μ : Sto} {p : PV} {x : V} {d : Nat × List (Key × PV)} (R : Rl K W μ) (r : RPV K W μ.length p x) (h : dicOf μ p = some d) : x = .ref (W.at' d.1) ∧ μ[d.1]? = some (.dic d.2) ∧ ∃ kws, W.H (W.at' d.1) = some (.dK kws) ∧ Kvs K W μ.length d.2 kws := by
  unfold dicOf at h
  split at h
  · rename_i k
    split at h
    · rename_i kvs hk
      cases h
      obtain ⟨kws, e, r2⟩ := R.ob k _ hk
      exact ⟨r.2, hk, kws, e, r2⟩
    · cases h
  · cases h
theorem keyP_ok {K : PySem.W.Frag} {W : Wd} {n : Nat} {p : PV} {x : V} {k : Key} (r : RPV K W n p x) (h : keyP p = some k) : x = kV k := by
  unfold keyP at h
  split at h
  · cases h; exact rpv_int r
  · cases h; exact rpv_str r
  · cases h
section
variable {X : Cx} {e e2 o i iter tg v : Expr} {es : List Expr} {el : ArF} {ev ev2 eo ei : EvF} {pos p tpos : Pos} {elts : List Expr} {kk : Nat}
theorem valP_get {K : PySem.W.Frag} {W : Wd} {n : Nat} {kvs : List (Key × PV)} {kws : List (Key × V)} {k : Key} (h : Kvs K W n kvs kws) : (valP kvs k).isSome = (valV kws k).isSome := by
  obtain ⟨h1, h2⟩ := valP_ok (k := k) h
  cases q : valP kvs k with
  | none => rw [h1 q]; rfl
  | some p => obtain ⟨v, e, _⟩ := h2 p q; rw [e]; rfl
theorem m_dget (hu : X.A.units + 65 < cLine) (ho : ME X o eo) (hi : ME X i ei) (hs : NoSl i := by intro _ _; rfl) : ME X (.Subscript o i pos) (eDGet eo ei) :=
  VE.m ⟨pe_dget (by omega) ho hi hs, fun W σ ε μ v μ' Q R En q k => by
    unfold eDGet at q
    simp only [Option.bind_eq_some_iff, Option.map_eq_some_iff] at q
    obtain ⟨⟨x, μ1⟩, h1, ⟨y, μ2⟩, h2, d, h3, kk, h4, w, h5, h6⟩ := q
    cases h6
    refine adqU W σ ε μ x μ1 _ R En h1 fun vx W1 R1 E1 r1 => ?_
    refine adqU W1 σ ε μ1 y μ2 _ R1 (En.mono E1) h2 fun vy W2 R2 E2 r2 => ?_
    obtain ⟨rfl, hk, kws, e, rk⟩ := dicOf_ok R2 (r1.mono E2) h3
    obtain rfl := keyP_ok r2 h4
    obtain ⟨u, e1, ru⟩ := (valP_ok rk).2 _ h5
    refine ⟨_, u, rfl, ?_, k u W2 R2 (E1.trans E2) ru⟩
    rw [← e1]
    exact DGet.k e⟩
theorem adq_din {K : PySem.W.Frag} : Adq K (tDIn (uE K ei) (uE K eo)) (eDIn false ei eo) := fun W σ ε μ v μ' Q R En q k => by
  unfold eDIn at q
  simp only [Option.bind_eq_some_iff, Option.map_eq_some_iff] at q
  obtain ⟨⟨y, μ1⟩, h1, ⟨x, μ2⟩, h2, d, h3, kk, h4, h5⟩ := q
  cases h5
  refine adqU W σ ε μ y μ1 _ R En h1 fun vy W1 R1 E1 r1 => ?_
  refine adqU W1 σ ε μ1 x μ2 _ R1 (En.mono E1) h2 fun vx W2 R2 E2 r2 => ?_
  obtain ⟨rfl, hk, kws, e, rk⟩ := dicOf_ok R2 r2 h3
  obtain rfl := keyP_ok (r1.mono E2) h4
  refine ⟨_, _, rfl, DGet.k e, ?_⟩
  rw [← valP_get rk]
  exact k _ W2 R2 (E1.trans E2) (.bl _)
theorem adq_dnotin {K : PySem.W.Frag} : Adq K (tDNotIn (uE K ei) (uE K eo)) (eDIn true ei eo) := fun W σ ε μ v μ' Q R En q k => by
  unfold eDIn at q
  simp only [Option.bind_eq_some_iff, Option.map_eq_some_iff] at q
  obtain ⟨⟨y, μ1⟩, h1, ⟨x, μ2⟩, h2, d, h3, kk, h4, h5⟩ := q
  cases h5
  refine adqU W σ ε μ y μ1 _ R En h1 fun vy W1 R1 E1 r1 => ?_
  refine adqU W1 σ ε μ1 x μ2 _ R1 (En.mono E1) h2 fun vx W2 R2 E2 r2 => ?_
  obtain ⟨rfl, hk, kws, e, rk⟩ := dicOf_ok R2 r2 h3
  obtain rfl := keyP_ok (r1.mono E2) h4
  refine ⟨_, _, rfl, DGet.k e, ?_⟩
  rw [← valP_get rk]
  exact k _ W2 R2 (E1.trans E2) (.bl _)
theorem m_din (hu : X.A.units + 65 < cLine) (hi : ME X i ei) (ho : ME X o eo) (h1 : behindInMarks .In o = false := by rfl) : ME X (.Compare i [.In] [o] pos) (eDIn false ei eo) := VE.m ⟨pe_cmp (pc_din (by omega) hi ho) h1, adq_din⟩
theorem m_dnotin (hu : X.A.units + 65 < cLine) (hi : ME X i ei) (ho : ME X o eo) (h1 : behindInMarks .NotIn o = false := by rfl) : ME X (.Compare i [.NotIn] [o] pos) (eDIn true ei eo) := VE.m ⟨pe_cmp (pc_dnotin (by omega) hi ho) h1, adq_dnotin⟩
theorem s_dput {pos' : Pos} (hu : X.A.units + 65 < cLine) (ho : ME X o eo) (hi : ME X i ei) (hv : ME X v ev) (hs : swapsWith v (some (.Subscript o i pos')) pos.line X.env = pure false := by rfl) : MS X (.Assign [.Subscript o i pos'] v pos) (sDPut eo ei ev) :=
  VS.m ⟨ps_dput (by omega) ho hi hv hs, fun W σ ε μ out D R En q k => by
    unfold sDPut at q
    simp only [Option.bind_eq_some_iff] at q
    obtain ⟨⟨z, μ1⟩, h1, ⟨x, μ2⟩, h2, ⟨y, μ3⟩, h3, d, h4, kk, h5, h6⟩ := q
    refine adqU W σ ε μ z μ1 _ R En h1 fun vz W1 R1 E1 r1 => ?_
    refine adqU W1 σ ε μ1 x μ2 _ R1 (En.mono E1) h2 fun vx W2 R2 E2 r2 => ?_
    refine adqU W2 σ ε μ2 y μ3 _ R2 ((En.mono E1).mono E2) h3 fun vy W3 R3 E3 r3 => ?_
    obtain ⟨rfl, hk, kws, e, rk⟩ := dicOf_ok R3 (r2.mono E3) h4
    obtain rfl := keyP_ok r3 h5
    simp only [] at h6
    split at h6
    · rename_i hc
      cases h6
      have rz := (r1.mono E2).mono E3
      have nd : (d.2.map (·.1)).Nodup := of_decide_eq_true hc.2
      obtain ⟨R4, E4⟩ := R3.put (u := .dic (putP d.2 kk z)) (ho := .dK (putK kws kk vz)) hk (by simp) (by simp) ⟨_, rfl, putP_ok rz rk nd⟩
      have hl : d.2.length = kws.length := Paired.length rk
      exact ⟨_, _, rfl, DPut.k e (by rw [← hl]; exact cap_lt hc.1), k _ σ R4 (((E1.trans E2).trans E3).trans E4) ((((En.mono E1).mono E2).mono E3).mono E4)⟩
    · cases h6⟩
/-! {k: v, ..} -/
abbrev PrF := Evn → Sto → Option (List (PV × PV) × Sto)
@[simp] def prNil : PrF := fun _ μ => some ([], μ)
@[simp] def prCons (a b : EvF) (r : PrF) : PrF := fun ε μ => (a ε μ).bind fun x => (b ε x.2).bind fun y => (r ε y.2).bind fun z => some ((x.1, y.1) :: z.1, z.2)
@[simp] def keysP : List (PV × PV) → Option (List (Key × PV))
  | [] => some []
  | (a, b) :: r => (keyP a).bind fun k => (keysP r).map fun t => (k, b) :: t
def mergeP (kvs more : List (Key × PV)) : List (Key × PV) := more.foldl (fun acc kv => putP acc kv.1 kv.2) kvs
@[simp] def eDic (pr : PrF) : EvF := fun ε μ => (pr ε μ).bind fun x => (keysP x.1).bind fun kvs => if kvs.length ≤ 15 then some (.ptr x.2.length, x.2 ++ [.dic (mergeP [] kvs)]) else none
abbrev PPvs (K : PySem.W.Frag) (W : Wd) (n : Nat) : List (PV × PV) → List (V × V) → Prop := Paired fun p q => RPV K W n p.1 q.1 ∧ RPV K W n p.2 q.2
def AdqP (K : PySem.W.Frag) (trs : List (TE × TE)) (pr : PrF) : Prop := ∀ W σ ε μ ps μ' (Q : List (V × V) → Hp → Prop), Rl K W μ → EnvR K W μ.length σ ε → pr ε μ = some (ps, μ') → (∀ qs W', Rl K W' μ' → Ext W μ.length W' μ'.length → PPvs K W' μ'.length ps qs → Q qs W'.H) → tPairs trs σ W.H Q
structure MP (X : Cx) (pos : Pos) (ks : List (Option Expr)) (vs : List Expr) (pr : PrF) : Prop where
  ex : ∃ trs, PPs X pos ks vs trs ∧ AdqP X.K trs pr
theorem p_nil : MP X pos [] [] prNil := ⟨[], pps_nil, fun W σ ε μ ps μ' Q R En q k => by cases q; exact k [] W R (Ext.refl _ _) .nil⟩
theorem p_cons {k v : Expr} {ks : List (Option Expr)} {vs : List Expr} {ek ev : EvF} {pr : PrF} (hk : ME X k ek) (hv : ME X v ev) (hr : MP X pos ks vs pr) : MP X pos (some k :: ks) (v :: vs) (prCons ek ev pr) := by
  obtain ⟨trs, h1, h2⟩ := hr
  refine ⟨_, pps_cons hk hv h1, fun W σ ε μ ps μ' Q R En q kk => ?_⟩
  unfold prCons at q
  simp only [Option.bind_eq_some_iff] at q
  obtain ⟨⟨x, μ1⟩, q1, ⟨y, μ2⟩, q2, ⟨z, μ3⟩, q3, q4⟩ := q
  cases q4
  refine adqU W σ ε μ x μ1 _ R En q1 fun vx W1 R1 E1 r1 => ?_
  refine adqU W1 σ ε μ1 y μ2 _ R1 (En.mono E1) q2 fun vy W2 R2 E2 r2 => ?_
  exact h2 W2 σ ε μ2 z _ _ R2 ((En.mono E1).mono E2) q3 fun qs W3 R3 E3 r3 => kk _ W3 R3 ((E1.trans E2).trans E3) (.cons ⟨(r1.mono E2).mono E3, r2.mono E3⟩ r3)
theorem keysP_ok {K : PySem.W.Frag} {W : Wd} {n : Nat} : ∀ {ps : List (PV × PV)} {qs : List (V × V)} {kvs : List (Key × PV)}, PPvs K W n ps qs → keysP ps = some kvs → ∃ kws : List (Key × V), qs = kws.map (fun kv => (kV kv.1, kv.2)) ∧ Kvs K W n kvs kws
  | _, _, _, .nil, h => by cases h; exact ⟨[], rfl, .nil⟩
  | (a, b) :: r, (x, y) :: t, kvs, .cons q qs, h => by
    unfold keysP at h
    simp only [Option.bind_eq_some_iff, Option.map_eq_some_iff] at h
    obtain ⟨k, h1, t', h2, rfl⟩ := h
    obtain ⟨kws, rfl, rk⟩ := keysP_ok qs h2
    have : x = kV k := keyP_ok q.1 h1
    exact ⟨(k, y) :: kws, by simp [this], .cons ⟨rfl, q.2⟩ rk⟩
theorem merge_ok {K : PySem.W.Frag} {W : Wd} {n : Nat} : ∀ {more : List (Key × PV)} {mw : List (Key × V)} {kvs : List (Key × PV)} {kws : List (Key × V)}, Kvs K W n more mw → Kvs K W n kvs kws → NdK kvs → Kvs K W n (mergeP kvs more) (mergeK kws mw) ∧ NdK (mergeP kvs more)
  | _, _, _, _, .nil, h, nd => ⟨h, nd⟩
  | a :: r, b :: t, kvs, kws, .cons q qs, h, nd => by
    have h1 := putP_ok (k := a.1) q.2 h nd
    have := merge_ok qs h1 (ndK_put nd)
    have e : mergeK kws (b :: t) = mergeK (putK kws a.1 b.2) t := by unfold mergeK; rw [List.foldl_cons, q.1]
    rw [e]
    exact this
theorem m_dic {keys : List (Option Expr)} {values : List Expr} {pr : PrF} (h : MP X pos keys values pr) (hall : keys.all (·.isSome) = true) (hl : keys.length = values.length) (h0 : keys ≠ []) (h15 : keys.length ≤ 15) : ME X (.Dict keys values pos) (eDic pr) := by
  obtain ⟨trs, h1, h2⟩ := h
  refine VE.m ⟨pe_disp h1 hall hl h0 h15, fun W σ ε μ v μ' Q R En q k => ?_⟩
  unfold eDic at q
  simp only [Option.bind_eq_some_iff] at q
  obtain ⟨⟨ps, μ1⟩, q1, kvs, q2, q3⟩ := q
  intro D hD
  obtain ⟨R1, E1⟩ := R.junk (o := .dK []) hD
  refine h2 _ σ ε μ ps μ1 _ R1 (En.mono E1) q1 fun qs W2 R2 E2 r2 => ?_
  have nk : ∀ j, j < μ.length → W.at' j ≠ D := fun j hj z => by obtain ⟨u, e⟩ := R.th j hj; rw [z, hD] at e; cases e
  have eD : W2.H D = some (.dK []) := E2.fr _ _ upd_same nk
  obtain ⟨kws, rfl, rk⟩ := keysP_ok r2 q2
  simp only [] at q3
  split at q3
  · rename_i hc
    cases q3
    have hle : kvs.length = kws.length := Paired.length rk
    refine ⟨eD, kws, rfl, by omega, ?_⟩
    have iD : W2.Hi D = none := by
      cases z : W2.Hi D with
      | none => rfl
      | some u =>
        have hiD : W.Hi D = none := by
          cases z2 : W.Hi D with
          | none => rfl
          | some u => rw [R.sub _ _ z2] at hD; cases hD
        rcases E2.nw D u z hiD with z3 | ⟨j, hj, z3⟩
        · simp only [] at z3; rw [upd_same] at z3; cases z3
        · exact absurd z3 (nk j hj)
    have nD : ∀ j, j < μ1.length → W2.at' j ≠ D := fun j hj z => by
      by_cases hn : j < μ.length
      · exact nk j hn ((E2.io j hn).symm.trans z)
      · have := E2.np j (Nat.not_lt.mp hn) hj
        simp only [] at this
        rw [z, upd_same] at this; cases this
    -- the world without the new dict, as if it had come last
    have mk := merge_ok rk (.nil : Kvs X.K W2 μ1.length [] []) (by simp [NdK])
    have E12 := E1.trans E2
    have smH : ∀ b u, b ≠ D → W2.H b = some u → upd W2.H D (.dK (mergeK [] kws)) b = some u := fun b u hb e => by rw [upd_ne hb]; exact e
    have tr : ∀ {p x}, RPV X.K W2 μ1.length p x → RPV X.K ⟨W2.Hi, upd W2.H D (.dK (mergeK [] kws)), fun k => if k = μ1.length then D else W2.at' k⟩ (μ1 ++ [SO.dic (mergeP [] kvs)]).length p x := fun {p x} h => by
      cases p with
      | dat d => exact h
      | scr ns => exact h
      | ptr j => exact ⟨by simp; have := h.1; omega, by simp only []; rw [if_neg (by have := h.1; omega)]; exact h.2⟩
    have get : ∀ j u, (μ1 ++ [SO.dic (mergeP [] kvs)])[j]? = some u → (j < μ1.length ∧ μ1[j]? = some u) ∨ (j = μ1.length ∧ u = .dic (mergeP [] kvs)) := fun j u h => by
      by_cases hk : j < μ1.length
      · rw [List.getElem?_append_left hk] at h; exact .inl ⟨hk, h⟩
      · rw [List.getElem?_append_right (Nat.not_lt.mp hk)] at h
        have : j - μ1.length = 0 := by
          cases q : j - μ1.length with
          | zero => rfl
          | succ m => rw [q] at h; simp at h
        rw [this] at h; simp at h
        exact .inr ⟨by omega, h.symm⟩
    refine k _ ⟨W2.Hi, upd W2.H D (.dK (mergeK [] kws)), fun k => if k = μ1.length then D else W2.at' k⟩ ⟨fun a u h => ?_, fun j u h => ?_, fun j u h hu => ?_, fun i j u1 u2 g1 g2 n1 n2 e => ?_, fun j hj => ?_⟩ ⟨E12.im, fun j hj => ?_, Nat.le_trans E12.le (by simp), fun a u h hk => ?_, E12.nw, fun j g1 g2 => ?_, fun a u h => ?_⟩ ⟨by simp, by simp⟩
    · have : a ≠ D := fun z => by subst z; simp only [] at h; rw [iD] at h; cases h
      exact smH a u this (R2.sub _ _ h)
    · rcases get j u h with ⟨hk, h⟩ | ⟨rfl, rfl⟩
      · simp only []; rw [if_neg (Nat.ne_of_lt hk)]
        have := R2.ob j u h
        cases u with
        | gone => trivial
        | lst ys => obtain ⟨ws, e, r⟩ := this; exact ⟨ws, smH _ _ (nD j hk) e, L2.Paired.mapP r fun _ _ q => tr q⟩
        | dic kvs => obtain ⟨ws, e, r⟩ := this; exact ⟨ws, smH _ _ (nD j hk) e, L2.Paired.mapP r fun _ _ q => ⟨q.1, tr q.2⟩⟩
        | tpl ys => obtain ⟨ws, e, r⟩ := this; exact ⟨ws, smH _ _ (nD j hk) e, L2.Paired.mapP r fun _ _ q => tr q⟩
        | dtu kvs => obtain ⟨ws, e, r⟩ := this; exact ⟨ws, smH _ _ (nD j hk) e, L2.Paired.mapP r fun _ _ q => ⟨q.1, tr q.2⟩⟩
      · simp only [if_pos]
        exact ⟨_, upd_same, L2.Paired.mapP mk.1 fun _ _ q => ⟨q.1, tr q.2⟩⟩
    · rcases get j u h with ⟨hk, h⟩ | ⟨rfl, rfl⟩
      · simp only []; rw [if_neg (Nat.ne_of_lt hk)]; exact R2.off j u h hu
      · simp only [if_pos]; exact iD
    · rcases get i u1 g1 with ⟨hj, p1⟩ | ⟨hj, p1⟩ <;> rcases get j u2 g2 with ⟨hk, p2⟩ | ⟨hk, p2⟩
      · simp only [if_neg (Nat.ne_of_lt hk), if_neg (Nat.ne_of_lt hj)] at e
        exact R2.inj i j u1 u2 p1 p2 n1 n2 e
      · subst hk
        simp only [if_neg (Nat.ne_of_lt hj), if_pos] at e
        exact absurd e (nD _ hj)
      · subst hj
        simp only [if_neg (Nat.ne_of_lt hk), if_pos] at e
        exact absurd e.symm (nD _ hk)
      · rw [hj, hk]
    · simp only []
      by_cases hk' : j = μ1.length
      · rw [if_pos hk']; exact ⟨_, upd_same⟩
      · rw [if_neg hk']
        have lj : j < μ1.length := by simp at hj; omega
        obtain ⟨u, e⟩ := R2.th j lj
        exact ⟨u, smH _ _ (nD j lj) e⟩
    · simp only []; rw [if_neg (by have := E12.le; omega)]; exact E12.io j hj
    · have : a ≠ D := fun z => by subst z; rw [hD] at h; cases h
      exact smH a u this (E12.fr a u h hk)
    · simp only []
      by_cases hk : j = μ1.length
      · rw [if_pos hk]; exact hD
      · rw [if_neg hk]; exact E12.np j g1 (by simp at g2; omega)
    · obtain ⟨u', e⟩ := E12.th a u h
      by_cases ha : a = D
      · subst ha; exact ⟨_, upd_same⟩
      · exact ⟨u', smH _ _ ha e⟩
  · cases q3
/-- {} -/
@[simp] def eDic0 : EvF := fun _ μ => some (.ptr μ.length, μ ++ [.dic []])
theorem m_dic0 : ME X (.Dict [] [] pos) eDic0 := VE.m ⟨pe_dnewK, fun W σ ε μ v μ' Q R En q k => by
  cases q
  intro p hp
  obtain ⟨R', E'⟩ := R.own (o := .dic []) (ho := .dK []) hp (by simp) ⟨[], rfl, .nil⟩
  exact k _ _ R' E' ⟨by simp, by simp⟩⟩
end
end VX
namespace VX
open PySem PySem.Spec PyProof.Rows L2

theorem hu65 {k : Nat} {A : Around} (hr : Room k A) : A.units + 65 < cLine := by have := hr.un; omega
/-- a def of the text, as it stands behind the top -/
def At (K : PySem.W.Frag) (mg : Str → Option Value) (name : Str) (st : Stmt) (ps : List Str) : Prop := ∃ f fd, Fun K name name st f fd ∧ mg name = some (.ref f) ∧ Binds K fd ps []
/-- a def that keeps a promise -/
def DefOk (P : Program) (w : World) (K : PySem.W.Frag) (mg : Str → Option Value) (base : Heap) (k : Nat) (name : Str) (sp : Sp) : Prop :=
  ∃ f fd ps, FnOk P w K mg base CX0 k f fd ps sp ∧ mg name = some (.ref f) ∧ PySem.W.keepIn K (.ref f) = true ∧ Binds K fd ps []
theorem DefOk.mono {P : Program} {w : World} {K : PySem.W.Frag} {mg : Str → Option Value} {base : Heap} {j k : Nat} {name : Str} {sp : Sp} (D : DefOk P w K mg base j name sp) (h : j ≤ k) : DefOk P w K mg base k name sp :=
  let ⟨f, fd, ps, F, r⟩ := D
  ⟨f, fd, ps, F.mono h, r⟩
section
variable {P : Program} {w : World} {K : PySem.W.Frag} {mg : Str → Option Value} {base : Heap} {x : Str} {st : Stmt} {N ps : List Str} {k : Nat} {rn : RnF}
theorem d_pure (T : At K mg x st ps) (S : FnScope N ps (defScope st)) (hb : ∀ (f : Addr) (cdv : Value) (A : Around) (outer : List PySem.Env) (s : Shared) (H : Hp) (E : XK), Room k (A.deeper (envOfC x (defScope st) s.heap.objs.size f cdv)) → MSs (cxOf CX0 P w K mg base N x (defScope st) f cdv A outer s H E).nox (defBody st) rn) :
    DefOk P w K mg base (k + 1) x (spP ps.length (fnP N.length ps.length rn)) := by
  obtain ⟨f, fd, F, g, b⟩ := T
  exact ⟨f, fd, ps, fn_pure F S (hb f), g, F.kp, b⟩
theorem d_gen (T : At K mg x st ps) (S : FnScope N ps (defScope st)) (hb : ∀ (f : Addr) (cdv : Value) (A : Around) (outer : List PySem.Env) (s : Shared) (H : Hp) (E : XK), Room k (A.deeper (envOfC x (defScope st) s.heap.objs.size f cdv)) → MSs (cxOf CX0 P w K mg base N x (defScope st) f cdv A outer s H E).nox (defBody st) rn) :
    DefOk P w K mg base (k + 1) x (spG K ps.length (fnG N.length ps.length rn)) := by
  obtain ⟨f, fd, F, g, b⟩ := T
  exact ⟨f, fd, ps, fn_gen F S (hb f), g, F.kp, b⟩
end
section
variable {X : Cx} {k : Nat} {x : Str} {p pos : Pos} {a b c e i o : Expr} {es : List Expr} {el : ArF} {n : Nat} {ea eb ec ev ei eo : EvF}
theorem m_cP {F : List PyData → Option PyData} (G : DefOk X.prog X.w X.K X.mg X.base k x (spP n F)) (hr : Room k X.A) (hg : Gl X x) (ha : MA X (e :: es) el)
    (hdb : (x == ("__debug__" : Str)) = false := by decide) (he : starEach (e :: es) X.env = (false, eval e X.env) :: starEach es X.env := by rfl) (hpl : (backTo pos (starEach es X.env)).any (·.1) = false := by rfl) : ME X (.Call (.Name x p) (e :: es) [] pos) (eCallP n F el) := by
  obtain ⟨f, fd, ps, F, g, kp, b⟩ := G
  exact m_callP F hr hg g kp b ha hdb he hpl
theorem m_cG {F : List PV → Sto → Option (PV × Sto)} (G : DefOk X.prog X.w X.K X.mg X.base k x (spG X.K n F)) (hr : Room k X.A) (hg : Gl X x) (ha : MA X (e :: es) el)
    (hdb : (x == ("__debug__" : Str)) = false := by decide) (he : starEach (e :: es) X.env = (false, eval e X.env) :: starEach es X.env := by rfl) (hpl : (backTo pos (starEach es X.env)).any (·.1) = false := by rfl) : ME X (.Call (.Name x p) (e :: es) [] pos) (eCallG n F el) := by
  obtain ⟨f, fd, ps, F, g, kp, b⟩ := G
  exact m_callG F hr hg g kp b ha hdb he hpl
/-! comparisons as tests -/
theorem t_lt (ha : ME X a ea) (hb : ME X b eb) : MT X (.Compare a [.Lt] [b] pos) (tsE (eOp fLt ea eb)) := t_cmp op_lt ao_IB ha hb (nomark _)
theorem t_le (ha : ME X a ea) (hb : ME X b eb) : MT X (.Compare a [.LtE] [b] pos) (tsE (eOp fLe ea eb)) := t_cmp op_le ao_IB ha hb (nomark _)
theorem t_gt (ha : ME X a ea) (hb : ME X b eb) : MT X (.Compare a [.Gt] [b] pos) (tsE (eOp fGt ea eb)) := t_cmp op_gt ao_IB ha hb (nomark _)
theorem t_ge (ha : ME X a ea) (hb : ME X b eb) : MT X (.Compare a [.GtE] [b] pos) (tsE (eOp fGe ea eb)) := t_cmp op_ge ao_IB ha hb (nomark _)
theorem t_eq (hu : X.A.units + 65 < cLine) (ha : ME X a ea) (hb : ME X b eb) : MT X (.Compare a [.Eq] [b] pos) (tsE (eOp (fEq false) ea eb)) := t_cmp (op_eqD (by omega)) ao_eq ha hb (nomark _)
theorem t_ne (hu : X.A.units + 65 < cLine) (ha : ME X a ea) (hb : ME X b eb) : MT X (.Compare a [.NotEq] [b] pos) (tsE (eOp (fEq true) ea eb)) := t_cmp (op_neD (by omega)) ao_ne ha hb (nomark _)
theorem t_is (ha : ME X a ea) (hb : ME X b eb) : MT X (.Compare a [.Is] [b] pos) (tsE (eOp (fIs false) ea eb)) := t_cmp op_isN ao_is ha hb (nomark _)
theorem t_isnot (ha : ME X a ea) (hb : ME X b eb) : MT X (.Compare a [.IsNot] [b] pos) (tsE (eOp (fIs true) ea eb)) := t_cmp op_notN ao_isnot ha hb (nomark _)
theorem t_in (hu : X.A.units + 65 < cLine) (ha : ME X a ea) (hb : ME X b eb) (hm : behindInMarks .In b = false := by rfl) : MT X (.Compare a [.In] [b] pos) (tsE (eOp (fIn false) ea eb)) := t_cmp (op_inA hu) ao_in ha hb hm
theorem t_notin (hu : X.A.units + 65 < cLine) (ha : ME X a ea) (hb : ME X b eb) (hm : behindInMarks .NotIn b = false := by rfl) : MT X (.Compare a [.NotIn] [b] pos) (tsE (eOp (fIn true) ea eb)) := t_cmp (op_notInA hu) ao_notIn ha hb hm
theorem t_din (hu : X.A.units + 65 < cLine) (hi : ME X i ei) (ho : ME X o eo) (h1 : behindInMarks .In o = false := by rfl) : MT X (.Compare i [.In] [o] pos) (tsE (eDIn false ei eo)) := VT.m ⟨pt_cmp (pc_din (by omega) hi ho) h1, adq_tE adq_din⟩
theorem t_dnotin (hu : X.A.units + 65 < cLine) (hi : ME X i ei) (ho : ME X o eo) (h1 : behindInMarks .NotIn o = false := by rfl) : MT X (.Compare i [.NotIn] [o] pos) (tsE (eDIn true ei eo)) := VT.m ⟨pt_cmp (pc_dnotin (by omega) hi ho) h1, adq_tE adq_dnotin⟩
end

/-! ### for i, c in enumerate(text) -/
def IteS (x : Str) : It :=
  ⟨fun i _ => i < x.cps.size, fun i H v H' => ∃ T c, v = .ref T ∧ H T = none ∧ H' = upd H T (.tup [.int (i : Nat), .str ⟨#[c]⟩]) ∧ x.cps[i]? = some c, fun i _ => i = x.cps.size⟩
theorem drawsS {P : Program} {w : World} {A : Around} (hh : A.handled = none) (it : Addr) (x : Str) (t : Tok) (ty : String) (hty : ty = "str_ascii_iterator" ∨ ty = "str_iterator") :
    Draws P w A it [it] x.cps.size (fun i v => ∃ c u, x.cps[i]? = some c ∧ v = .str ⟨#[c]⟩ u) (fun i h => h.IsStrIter it ty x t i) := by
  rcases hty with rfl | rfl
  · exact Draws.strAscii hh it x t
  · exact Draws.strWide hh it x t
theorem turnES {P : Program} {w : World} {K : PySem.W.Frag} {elts : List Expr} {kk : Nat} {tpos : Pos} (e it : Addr) (x : Str) (t : Tok) (ty : String) (hty : ty = "str_ascii_iterator" ∨ ty = "str_iterator") :
    Turn P w K (.Tuple elts kk tpos) (IteS x) [e, it] e (fun i h => (∃ old, IsEnum h e it ((i : Nat) : Int) old) ∧ h.IsStrIter it ty x t i ∧ e ≠ it) := by
  have two : ∀ b, b ∈ [e, it] → b = e ∨ b = it := fun b hb => by simpa using hb
  constructor
  case mem => simp
  case obj =>
    rintro i h ⟨⟨old, he⟩, ⟨o, ho, hc, hd⟩, _⟩ b hb
    rcases two b hb with rfl | rfl
    · exact ⟨_, he, fun v q => nomatch q⟩
    · exact ⟨o, ho, fun v q => (by rw [hd] at q; cases q)⟩
  case keep =>
    rintro i h h' ⟨⟨old, he⟩, ⟨o, ho, hc, hd⟩, hne⟩ k
    exact ⟨⟨old, k e (by simp) _ he⟩, ⟨o, k it (by simp) _ ho, hc, hd⟩, hne⟩
  case item =>
    intro X hP hw hK hcalm i pins s σ H E I hf st hg
    subst hP hw hK
    obtain ⟨⟨old, he⟩, hit, hne⟩ := st
    have hel : e < s.heap.objs.size := Heap.lt_size he
    have hil : it < s.heap.objs.size := by obtain ⟨_, q, _⟩ := hit; exact Heap.lt_size q
    have hh : X.A.in1.handled = none := by simpa using I.ok.hd hcalm
    refine wpAny_pyNext_enum_itemD (drawsS (P := X.prog) (w := X.w) hh it x t ty hty) he hit hg hne (by simpa using hne) fun v h' tk hv ho hit' hT hsz hk => ?_
    obtain ⟨c, u, hx, rfl⟩ := hv
    refine ⟨_, rfl, wpAny_letOwnedTupleGo_enum (s := { s with heap := h', toks := tk + 1 }) ho fun h2 he2 sb => ?_⟩
    have keepT : h2.get? s.heap.objs.size = h'.get? s.heap.objs.size := sb.2 _ (Nat.ne_of_gt hel)
    have new : ObjOk X.prog X.w (upd H s.heap.objs.size (.tup [.int (i : Nat), .str ⟨#[c]⟩])) h2 s.heap.objs.size (.tup [.int (i : Nat), .str ⟨#[c]⟩]) :=
      ⟨by show 2 ≤ sizeLine; decide, [.int i tk, .str ⟨#[c]⟩ u], .cons ⟨_, rfl⟩ (.cons ⟨_, rfl⟩ .nil), ⟨_, keepT.trans hT, rfl, _, rfl⟩⟩
    have I1 : Inv X pins σ (upd H s.heap.objs.size (.tup [.int (i : Nat), .str ⟨#[c]⟩])) { s with heap := h2, toks := tk + 1 } := by
      refine I.turnedNew (ch := [e, it]) (fun b ob hb q => ?_) hf (Nat.le_refl _) new
      have n1 : b ≠ e := fun z => hb (by simp [z])
      have n2 : b ≠ it := fun z => hb (by simp [z])
      exact (sb.2 b n1).trans (hk b ob n1 n2 q)
    refine ⟨.ref s.heap.objs.size, _, I1, rfl, ⟨_, c, rfl, I.hok.fresh (Nat.le_refl _), rfl, hx⟩, ⟨⟨.str ⟨#[c]⟩ u, ?_⟩, ?_, hne⟩, fun b hb => ?_⟩
    · have e1 : ((i + 1 : Nat) : Int) = (i : Int) + 1 := by omega
      rw [e1]; exact he2
    · obtain ⟨o, q1, q2, q3⟩ := hit'
      exact ⟨o, (sb.2 it (Ne.symm hne)).trans q1, q2, q3⟩
    · have hb' : b < s.heap.objs.size := by
        rcases two b hb with z | z
        · rw [z]; exact hel
        · rw [z]; exact hil
      rw [upd_ne (Nat.ne_of_lt hb')]
      exact (hf b hb).1
  case done =>
    intro X hP hw hK hcalm i pins s σ H E I hf st hg
    subst hP hw hK
    obtain ⟨⟨old, he⟩, hit, hne⟩ := st
    have hh : X.A.in1.handled = none := by simpa using I.ok.hd hcalm
    obtain ⟨f0, f1, f2, f3, f4, f5⟩ := hf it (by simp)
    have hi : i = x.cps.size := hg
    subst hi
    exact wpAny_pyNext_enum_endD (drawsS (P := X.prog) (w := X.w) hh it x t ty hty) he hit fun h' eb => ⟨rfl, I.turned (t' := s.toks) (fun b o hb q => eb b o hb q) f0 f1 f3 f4 f5⟩
  case self =>
    rintro A i s Q E ⟨⟨_, he⟩, _⟩ h
    exact wpAny_pyIter_enum he h
def iEnumS (ta : TA) : TI := fun σ H R => ta σ H fun vs H1 => ∃ x, vs = [.str x] ∧ R (IteS x) H1
theorem strTy (x : Str) : strIterType x = "str_ascii_iterator" ∨ strIterType x = "str_iterator" := by
  unfold strIterType
  split
  · exact .inl rfl
  · exact .inr rfl
theorem pi_enumS {X : Cx} {e : Expr} {ta : TA} {p pos tpos : Pos} {elts : List Expr} {kk : Nat} (hg : Gl X "enumerate") (hm : X.mg "enumerate" = none) (ha : PA X [e] ta) (hs : starEach [e] X.env = [(false, eval e X.env)] := by rfl) :
    PI X (.Tuple elts kk tpos) (.Call (.Name "enumerate" p) [e] [] pos) (iEnumS ta) := by
  constructor
  intro pins s σ H R I h
  refine Call_ (ld_blt I hg hm boot_enumerate (PyProof.Rows.callWith_type1 (thn (ha.run pos pins s σ H _ I h) fun us s1 hus => ?_) hs rfl))
  obtain ⟨vs, H1, I1, r1, x, rfl, q⟩ := hus
  obtain ⟨u, rfl, t, rfl⟩ := Vals.one r1
  refine call_enumerate_str fun h' he hit hsz hk => wpAny_pyIter_enum he ?_
  have I2 : Inv X pins σ H1 { s1 with heap := h' } := I1.kept (t' := s1.toks) hk
  refine ⟨s1.heap.objs.size + 1, [s1.heap.objs.size + 1, s1.heap.objs.size], _, _, H1, rfl, I2, turnES (s1.heap.objs.size + 1) s1.heap.objs.size x t _ (strTy x), ⟨⟨.none, he⟩, hit, Nat.succ_ne_self _⟩, fun b hb => ?_, q⟩
  have hle : s1.heap.objs.size ≤ b := by
    have e' : b = s1.heap.objs.size + 1 ∨ b = s1.heap.objs.size := by simpa using hb
    rcases e' with rfl | rfl
    · exact Nat.le_succ _
    · exact Nat.le_refl _
  exact I1.fpOk hle (I1.hok.fresh hle)
/-- enumerate of a list or a text -/
@[simp] def srcEnA (e : ArF) : SrF := fun ε μ => (e ε μ).bind fun x => match x.1 with
  | [.dat (.str z)] => some (((enumD (z.cps.toList.map fun c => .str ⟨#[c]⟩)).map PV.dat, none), x.2)
  | [.dat (.list ds)] => some (((enumD ds).map PV.dat, none), x.2)
  | _ => none
theorem gives_es {K : PySem.W.Frag} {W0 : Wd} {n0 : Nat} {z : Str} : Gives K (IteS z) ((enumD (z.cps.toList.map fun c => .str ⟨#[c]⟩)).map PV.dat) none W0 n0 := fun W μ R E G => by
  refine ⟨fun i p e => ?_, by simp [enumD, IteS]⟩
  unfold enumD at e
  rw [List.getElem?_map, List.getElem?_map, List.getElem?_zipIdx, List.getElem?_map] at e
  cases q : z.cps.toList[i]? with
  | none => rw [q] at e; cases e
  | some c =>
    rw [q] at e; cases e
    have hq : z.cps[i]? = some c := by simpa using q
    refine ⟨(Array.getElem?_eq_some_iff.mp hq).1, ?_⟩
    rintro x H' ⟨T, c', rfl, hT, rfl, h1⟩
    rw [hq] at h1; cases h1
    obtain ⟨R', E'⟩ := R.imm (o := .tup [.int (i : Nat), .str ⟨#[c]⟩]) hT
    refine ⟨_, rfl, R', E', .tup upd_same (.cons ?_ (.cons (.str _) .nil))⟩
    simp only [Nat.zero_add]
    exact .int _
theorem PI.or {X : Cx} {tg iter : Expr} {w1 w2 : TI} (h1 : PI X tg iter w1) (h2 : PI X tg iter w2) : PI X tg iter (fun σ H R => w1 σ H R ∨ w2 σ H R) := ⟨fun pins s σ H R I q => by
  rcases q with q | q
  · exact h1.run pins s σ H R I q
  · exact h2.run pins s σ H R I q⟩
theorem i_enumA {X : Cx} {e : Expr} {el : ArF} {p pos tpos : Pos} {elts : List Expr} {kk : Nat} (hg : Gl X "enumerate") (hm : X.mg "enumerate" = none) (ha : MA X [e] el) (hs : starEach [e] X.env = [(false, eval e X.env)] := by rfl) : MI X (.Tuple elts kk tpos) (.Call (.Name "enumerate" p) [e] [] pos) (srcEnA el) :=
  VI.m ⟨PI.or (pi_enumS hg hm ha hs) (pi_enum hg hm ha hs), fun W σ ε μ items ok μ' Rr R En q k => by
    unfold srcEnA at q
    simp only [Option.bind_eq_some_iff] at q
    obtain ⟨⟨x, μ1⟩, h1, h2⟩ := q
    simp only [] at h2
    split at h2
    · cases h2
      refine .inl (adqUA W σ ε μ _ _ _ R En h1 fun vx W1 R1 E1 r1 => ?_)
      obtain ⟨y, rfl, ry⟩ := pvs1 r1
      exact ⟨_, by rw [rpv_str ry], k W1 _ R1 E1 gives_es⟩
    · cases h2
      refine .inr (adqUA W σ ε μ _ _ _ R En h1 fun vx W1 R1 E1 r1 => ?_)
      obtain ⟨y, rfl, ry⟩ := pvs1 r1
      cases ry with
      | lst e a => exact ⟨_, _, rfl, SqL.of (R1.sub _ _ e), k W1 _ R1 E1 (gives_en fun W2 μ2 R2 E2 _ => ⟨_, SqL.of (R2.sub _ _ (E2.im _ _ e)), Pvs.monoL E2 (DtAll.pvs a)⟩)⟩
    · cases h2⟩
end VX
namespace VX
open PySem PySem.Spec PyProof.Rows L2
open Sem (wp)

/-! ### set(xs), xs a list of ints -/
abbrev noInts (w : World) : Obj := { cls := .type "set", dict := none, data := .set #[] 0 (.fresh 0 0 (!w.params.followText "set-order")) }
section
variable {P : Program} {w : World} {A : Around} {E : Value → Shared → Prop} {s : Shared}
set_option maxHeartbeats 3200000 in
theorem setOfList {l : Addr} {items : Array Value} (ns : List Int) {Q : Value → Shared → Prop} (hh : A.handled = none) (hl : s.heap.IsList l items) (hit : IntsAre items.toList ns) (hb : ns.length + 1 < scanBound)
    (h : ∀ (g : Heap) (tk c : Nat), SetR w g s.heap.objs.size (fun j => decide (j ∈ ns)) c → c ≤ ns.length → (∀ b o, s.heap.get? b = some o → g.get? b = some o) → Q (.ref s.heap.objs.size) { s with heap := g, toks := tk }) :
    wpAny (model P w) A (call (.type "set") [.ref l]) Q E s := by
  have hsz : items.size = ns.length := by
    have := IntsAre.length hit
    rw [Array.length_toList] at this
    exact this
  obtain ⟨c0, tl, hmro⟩ := PySem.F.called_set.mro
  have k1 := PySem.F.called_set.made
  have k2 := PySem.F.called_set.sub
  apply wpAny_call
  apply codeAny_of_tree
  show wpAny _ _ (callAny (.type "set") _) _ _ _
  apply wpAny_pure
  refine ⟨Code.quiet_builtin _ (by decide +kernel), codeAny_builtin PySem.F.entry_type_call ?_⟩
  rw [Around.under_plain (weight_type_call_type "set" [.ref l] []) rfl]
  have k3 := PySem.F.called_set.notType
  have k4 := PySem.F.called_set.canCreate
  have k5 := PySem.F.typeCall_set_1 (.ref l)
  repeat (any_goals (first | assumption | wp_step))
  have made := code_set_led1 (P := P) (w := w) (A := A.in1) (s := s) (.ref l) (E := E) (Q₁ := fun obj t => obj = .ref s.heap.objs.size ∧ t = { s with heap := s.heap.push (noInts w) }) ⟨rfl, rfl⟩
  refine codeAny_mono (code_set_led1 (.ref l) (E := E) (Q₁ := fun obj t => obj = .ref s.heap.objs.size ∧ t = { s with heap := s.heap.push (noInts w) }) ⟨rfl, rfl⟩) fun r t hr => ?_
  cases r with
  | error e => exact hr
  | ok fl =>
    cases fl with
    | ret obj =>
      obtain ⟨e1, e2⟩ := hr
      subst e1; subst e2
      have new : (s.heap.push (noInts w)).get? s.heap.objs.size = some (noInts w) := Heap.get?_push_size _ rfl
      have ty : Shared.TypeIs { s with heap := s.heap.push (noInts w) } (.ref s.heap.objs.size) "set" := ⟨_, new, rfl⟩
      have k6 := PySem.F.called_set.init.lookup
      have k7 := PySem.F.called_set.init.bind (.ref s.heap.objs.size)
      repeat (any_goals (first | assumption | wp_step))
      refine codeAny_mono (codeAny_call_builtin (R := wants (fun r t => r = .none ∧ ∃ g tk c, t = { s with heap := g, toks := tk } ∧ SetR w g s.heap.objs.size (fun j => decide (j ∈ ns)) c ∧ c ≤ ns.length ∧ ∀ b o, s.heap.get? b = some o → g.get? b = some o) E)
        PySem.F.called_set.init.plain PySem.F.entry_set_init (check_set_init_1 ty ?_)) fun r t hr => ?_
      · obtain ⟨ol, hol, hcl, nl, hdl⟩ := hl
        have lt : l < s.heap.objs.size := Heap.lt_size hol
        have z1 : (s.heap.push (noInts w)).objs.size = s.heap.objs.size + 1 := Heap.size_push ..
        obtain ⟨oc, od, odat, osl⟩ := ol
        simp only at hcl hdl
        subst hcl; subst hdl
        have keep : (s.heap.push (noInts w)).get? l = some { cls := .type "list", dict := od, data := .seq items nl, slots := osl } := Heap.get?_push_of_some _ hol
        have k8 := PySem.F.sub_list_set
        have k9 := PySem.F.sub_list_frozenset
        have k10 : (Value.type "list" == Value.type "dict") = false := by decide
        have isl : (s.heap.push (noInts w)).IsList l items := ⟨_, keep, rfl, nl, rfl⟩
        unfold Builtin.«set.__init__» noKeywords Builtin.Frozenset.updateFrom
        generalize hPI : pyIter = PI
        wp_walk
        subst hPI
        refine wpAny_pyIter_list isl ?_
        apply wpAny_bind
        apply wpAny_runValue
        have h3 : A.in1.in1.in1.handled = none := by simp [hh]
        have ne1 : l ≠ (s.heap.push (noInts w)).objs.size := by rw [z1]; exact Nat.ne_of_lt (Nat.lt_succ_of_lt lt)
        have off : s.heap.objs.size ∉ [(s.heap.push (noInts w)).objs.size, l] := fun hm => by
          rw [z1] at hm
          rcases List.mem_cons.mp hm with e | e
          · exact Nat.ne_of_lt (Nat.lt_succ_self _) e
          · exact Nat.ne_of_gt lt (List.mem_singleton.mp e)
        have val : ∀ (i : Nat) (v : Value), items[i]? = some v → ∃ k t, ns[i]? = some k ∧ v = .int k t := fun i v hv => by
          have hi : i < ns.length := by rw [← hsz]; exact (Array.getElem?_eq_some_iff.mp hv).1
          obtain ⟨t, e⟩ := PyProof.Rows.IntsAre.int_at hit i v (by rw [Array.getElem?_toList]; exact hv)
          exact ⟨ns[i], t, List.getElem?_eq_getElem hi, by rw [e, List.getD_eq_getElem?_getD, List.getElem?_eq_getElem hi]; rfl⟩
        refine set_update_ints ((Walks.list h3 _ l ne1 items).toS) s.heap.objs.size off ns hsz hb val (items.size - 0) 0 _ (by omega) (Nat.zero_le _) ⟨⟨_, Heap.get?_push_size _ rfl, rfl, rfl⟩, (isl.push _)⟩ ?start ?fin
        case start =>
          have still : ((s.heap.push (noInts w)).push { cls := .type "list_iterator", data := .fields #[.ref l, .int 0 0] }).get? s.heap.objs.size = some (noInts w) := Heap.get?_push_of_some _ new
          exact ⟨0, Nat.le_refl 0, setR_new_at still⟩
        case fin =>
          intro t c hm hc hS
          obtain ⟨g, ge, dr, tk, os⟩ := t
          have q1 : ge = s.gens := hm.gens
          have q2 : dr = s.drawn := hm.drawn
          have q3 : os = s.os := hm.os
          subst q1; subst q2; subst q3
          show wpAny _ _ _ _ _ _
          apply wpAny_pure
          show wpAny _ _ (ret Value.none) _ _ _
          apply wpAny_pure
          rw [hsz] at hc
          refine ⟨rfl, g, tk, c, rfl, hS, hc, fun b o e => ?_⟩
          have lb : b < s.heap.objs.size := Heap.lt_size e
          refine hm.heap b o (fun hm => ?_) (Heap.get?_push_of_some _ (Heap.get?_push_of_some _ e))
          rcases List.mem_cons.mp hm with e | e
          · exact Nat.ne_of_lt lb e
          · rw [z1] at e; exact Nat.ne_of_lt (Nat.lt_succ_of_lt lb) (List.mem_singleton.mp e)
      · cases r with
        | error e => exact hr
        | ok fl2 =>
          cases fl2 with
          | ret r =>
            obtain ⟨e1, g, tk, c, e2, hS, hc, kp⟩ := hr
            subst e1; subst e2
            repeat (any_goals (first | assumption | wp_step))
            exact h _ _ _ hS hc kp
          | _ => exact hr.elim
    | _ => exact hr.elim
end
def rSetI (K : PySem.W.Frag) (w : World) : List V → Hp → VK → Prop := fun xs H Q => ∃ (l : Addr) (ns : List Int), xs = [V.ref l] ∧ SqL K H l (ns.map V.int) ∧ ns.length < 64 ∧ ∀ p c, c ≤ ns.length → H p = none → Q (.ref p) (upd H p (SetO w p (fun j => decide (j ∈ ns)) c))
theorem cr_setI {X : Cx} (hc : X.calm = true) : CallR X (.type "set") (rSetI X.K X.w) := by
  intro pins s σ H xs us Q I r h
  obtain ⟨l, ns, rfl, hl, hf, q⟩ := h
  obtain ⟨u, rfl, ru⟩ := Vals.one r
  cases ru
  obtain ⟨its, rv, pl, hz⟩ := I.list hl
  have hi : IntsAre its ns := by
    clear q hl pl hz hf r
    induction ns generalizing its with
    | nil => cases rv; exact .nil
    | cons n ns ih =>
      cases rv with
      | cons a b =>
        obtain ⟨t, rfl⟩ := a
        constructor
        exact ih _ b
  refine setOfList (P := X.prog) (w := X.w) ns (I.ok.hd hc) pl.isList (by simpa using hi) (by unfold scanBound; omega) fun g tk c hS hc' kp => ?_
  exact ⟨.ref s.heap.objs.size, upd H s.heap.objs.size (SetO X.w s.heap.objs.size (fun j => decide (j ∈ ns)) c), I.laid (t' := tk) kp (Nat.le_refl _) (setO_new hS), rfl, q _ c hc' (I.hok.fresh (Nat.le_refl _))⟩

/-! ### sorted(set(xs)) -/
def uins (x : Int) : List Int → List Int
  | [] => [x]
  | y :: ys => if x < y then x :: y :: ys else if x = y then y :: ys else y :: uins x ys
def usort : List Int → List Int
  | [] => []
  | x :: xs => uins x (usort xs)
theorem mem_uins {x z : Int} : ∀ {ys : List Int}, z ∈ uins x ys ↔ z = x ∨ z ∈ ys
  | [] => by simp [uins]
  | y :: ys => by
    unfold uins
    split
    · simp
    · split
      · rename_i h; subst h; simp
      · simp only [List.mem_cons, mem_uins]
        constructor
        · rintro (h | h | h)
          · exact .inr (.inl h)
          · exact .inl h
          · exact .inr (.inr h)
        · rintro (h | h | h)
          · exact .inr (.inl h)
          · exact .inl h
          · exact .inr (.inr h)
theorem mem_usort {z : Int} : ∀ {xs : List Int}, z ∈ usort xs ↔ z ∈ xs
  | [] => by simp [usort]
  | x :: xs => by unfold usort; rw [mem_uins, mem_usort, List.mem_cons]
theorem uins_sorted {x : Int} : ∀ {ys : List Int}, ys.Pairwise (· < ·) → (uins x ys).Pairwise (· < ·)
  | [], _ => by simp [uins]
  | y :: ys, h => by
    unfold uins
    rw [List.pairwise_cons] at h
    split
    · rename_i hc
      refine List.pairwise_cons.mpr ⟨fun z hz => ?_, List.pairwise_cons.mpr h⟩
      rcases List.mem_cons.mp hz with rfl | hz
      · exact hc
      · exact Int.lt_trans hc (h.1 z hz)
    · split
      · exact List.pairwise_cons.mpr h
      · rename_i h1 h2
        refine List.pairwise_cons.mpr ⟨fun z hz => ?_, uins_sorted h.2⟩
        rcases mem_uins.mp hz with rfl | hz
        · omega
        · exact h.1 z hz
theorem usort_sorted : ∀ {xs : List Int}, (usort xs).Pairwise (· < ·)
  | [] => .nil
  | x :: xs => uins_sorted usort_sorted
theorem strict_uniq : ∀ {a b : List Int}, a.Pairwise (· < ·) → b.Pairwise (· < ·) → (∀ z, z ∈ a ↔ z ∈ b) → a = b
  | [], [], _, _, _ => rfl
  | [], y :: ys, _, _, h => absurd ((h y).mpr List.mem_cons_self) (by simp)
  | x :: xs, [], _, _, h => absurd ((h x).mp List.mem_cons_self) (by simp)
  | x :: xs, y :: ys, ha, hb, h => by
    rw [List.pairwise_cons] at ha hb
    have e : x = y := by
      have h1 := (h x).mp List.mem_cons_self
      have h2 := (h y).mpr List.mem_cons_self
      rcases List.mem_cons.mp h1 with e | e
      · exact e
      · rcases List.mem_cons.mp h2 with e2 | e2
        · exact e2.symm
        · have := hb.1 x e; have := ha.1 y e2; omega
    subst e
    congr 1
    refine strict_uniq ha.2 hb.2 fun z => ?_
    constructor
    · intro hz
      rcases List.mem_cons.mp ((h z).mp (List.mem_cons_of_mem _ hz)) with e | e
      · have := ha.1 z hz; omega
      · exact e
    · intro hz
      rcases List.mem_cons.mp ((h z).mpr (List.mem_cons_of_mem _ hz)) with e | e
      · have := hb.1 z hz; omega
      · exact e
@[simp] def fSortSet (own : Bool) : CaF := fun xs μ => match xs with
  | [p] => (lstOfS μ p).bind fun xs => (asInts xs).bind fun ns => if ns.length < 64 then mkL own ((usort ns).map fun n => .dat (.int n)) μ else none
  | _ => none
@[simp] def eSortSet (own : Bool) (el : ArF) : EvF := eCa (fSortSet own) el
section
variable {X : Cx} {e : Expr} {el : ArF} {p p2 pos q : Pos}
theorem m_sortset (own : Bool) (hc : X.calm = true) (hg : Gl X "sorted") (hm : X.mg "sorted" = none) (hg2 : Gl X "set") (hm2 : X.mg "set" = none) (h : MA X [e] el)
    (he : starEach (e :: []) X.env = (false, eval e X.env) :: starEach [] X.env := by rfl) (hpl : (backTo q (starEach [] X.env)).any (·.1) = false := by rfl)
    (he2 : starEach (.Call (.Name "set" p2) [e] [] q :: []) X.env = (false, eval (.Call (.Name "set" p2) [e] [] q) X.env) :: starEach [] X.env := by rfl) (hpl2 : (backTo pos (starEach [] X.env)).any (·.1) = false := by rfl) :
    ME X (.Call (.Name "sorted" p) [.Call (.Name "set" p2) [e] [] q] [] pos) (eSortSet own el) :=
  VE.m ⟨pe_callB (cr_sortedSet hc) hg hm (by decide +kernel) (pa_cons (pe_callTy (cr_setI hc) hg2 hm2 (by decide +kernel) h (by decide) (by decide) he hpl) pa_nil he2) (by decide) (by decide) he2 hpl2, fun W σ ε μ v μ' Q R En z k => by
    unfold eSortSet eCa at z
    simp only [Option.bind_eq_some_iff] at z
    obtain ⟨⟨xs, μ1⟩, h1, h2⟩ := z
    refine adqUA W σ ε μ xs μ1 _ R En h1 fun vs W1 R1 E1 r1 => ?_
    unfold fSortSet at h2
    simp only [] at h2
    split at h2
    · simp only [Option.bind_eq_some_iff] at h2
      obtain ⟨ys, h3, ns, h4, h5⟩ := h2
      split at h5
      · rename_i hlen
        obtain ⟨x, rfl, rx⟩ := pvs1 r1
        obtain ⟨a, rfl, e⟩ := ints_ok R1 rx h3 h4
        refine ⟨a, ns, rfl, e, hlen, fun D c hc' hD => ?_⟩
        obtain ⟨R2, E2⟩ := R1.junk (o := SetO X.w D (fun j => decide (j ∈ ns)) c) hD
        refine ⟨D, _, c, rfl, upd_same, by omega, fun ms p' st mem hl hp => ?_⟩
        have : ms = usort ns := strict_uniq st usort_sorted fun z => by rw [mem z, mem_usort]; simp
        rw [this]
        exact (mkL_ok R2 pvsInts h5 (k.ext (E1.trans E2))).2 p' hp
      · cases h5
    · cases h2⟩
end
end VX
namespace VX
open PySem PySem.Spec PyProof.Rows L2

/-! ### a def that returns a written tuple, known to be a plain one; dict of it -/
def spPT (n : Nat) (F : List PyData → Option PyData) : Sp := fun vs H Q _ => vs.length = n ∧ ∃ ds es Hi, Same Hi H ∧ DtAll Hi vs ds ∧ F ds = some (.tuple es) ∧
  ∀ p o ws Hi' H', Same Hi Hi' → Same Hi' H' → Same H H' → (∀ a o, Hi' a = some o → Hi a = none → H a = none) → o.dict = none → H' p = some (.frz o (.tup ws)) → Hi' p = none → H p = none → DtAll Hi' ws es → Q (.ref p) H'
def tTupF (t : TA) : TE := fun σ H Q => t σ H fun xs H1 => xs.length ≤ sizeLine ∧ ∀ p o, H1 p = none → o.dict = none → Q (.ref p) (upd H1 p (.frz o (.tup xs)))
section
variable {X : Cx} {es : List Expr} {t : TA} {el : ArF} {pos : Pos}
theorem pe_tupF {x1} (h : PA X es t) : PE X (.Tuple es x1 pos) (tTupF t) := by
  constructor
  intro pins s σ H Q I hq
  refine wpAny_Tuple_spliced (thn (h.run pos pins s σ H _ I hq) fun us s1 hus => ?_)
  obtain ⟨xs, H1, I1, r, z, q⟩ := hus
  refine ⟨by rw [← r.length]; exact z, ?_⟩
  have hf : H1 s1.heap.objs.size = none := I1.hok.fresh (Nat.le_refl _)
  have new := Heap.get?_push_size s1.heap (o := { cls := .type "tuple", data := .seq us.toArray }) rfl
  refine ⟨.ref s1.heap.objs.size, upd H1 s1.heap.objs.size (.frz { cls := .type "tuple", data := .seq us.toArray } (.tup xs)), I1.laid (t' := s1.toks) (fun b u e => Heap.get?_push_of_some _ e) (Nat.le_refl _) ?_, rfl, q _ _ hf rfl⟩
  exact ⟨new, z, us, r, ⟨_, new, rfl, _, rfl⟩⟩
end
section
variable {P : Program} {w : World} {K : PySem.W.Frag} {mg : Str → Option Value} {base : Heap} {x : Str} {st : Stmt} {N ps : List Str} {k : Nat} {es : List Expr} {el : ArF} {x1 : Nat} {pos pos' : Pos} {F : List PyData → Option PyData}
/-- body: return (e1, .., ek) -/
theorem d_tupT (T : At K mg x st ps) (S : FnScope N ps (defScope st)) (hbody : defBody st = [.Return (some (.Tuple es x1 pos)) pos']) (hF : ∀ ds d, F ds = some d → ∃ xs es' μ, el (startE N.length (ds.map PV.dat)) [] = some (xs, μ) ∧ asDats xs = some es' ∧ xs.length ≤ cap ∧ d = .tuple es')
    (hb : ∀ (f : Addr) (cdv : Value) (A : Around) (outer : List PySem.Env) (s : Shared) (H : Hp) (E : XK), Room k (A.deeper (envOfC x (defScope st) s.heap.objs.size f cdv)) → MA (cxOf CX0 P w K mg base N x (defScope st) f cdv A outer s H E).nox es el) :
    DefOk P w K mg base (k + 1) x (spPT ps.length F) := by
  obtain ⟨f, fd, Fn, g, b⟩ := T
  refine ⟨f, fd, ps, Fn.ok S (fun vs H Q E h => h.1) (fun cdv A outer s H vs Q E hr h => ?_), g, Fn.kp, b⟩
  obtain ⟨hl, ds, es0, Hi, sm, hd, hFd, q⟩ := h
  obtain ⟨xs, es', μ, h1, h2, h3, h4⟩ := hF ds _ hFd
  cases h4
  rw [hbody]
  refine ⟨_, pss_one (ps_ret (pe_tupF (hb f cdv A outer s H E hr))), ?_⟩
  have R : Rl K ⟨Hi, H, fun _ => 0⟩ [] := ⟨sm, fun k o h => by simp at h, fun k o h => by simp at h, fun j k o u h => by simp at h, fun k h => by simp at h⟩
  have rp : Pvs K ⟨Hi, H, fun _ => 0⟩ 0 (ds.map PV.dat) vs := DtAll.pvs hd
  refine ⟨⟨Hi, H, fun _ => 0⟩, _, [], _, μ, rfl, R, startR rp, h1, fun ys W' R' E1 r => ⟨by rw [← r.length]; exact cap_ok h3, fun p o hp ho => ?_⟩⟩
  rw [asDats_eq h2] at r
  have sm' : Same W'.H (upd W'.H p (.frz o (.tup ys))) := fun b u e => by rw [upd_ne (ne_of_none e hp)]; exact e
  have fr : Same H W'.H := fun a o h => E1.fr a o h fun k hk => absurd hk (Nat.not_lt_zero _)
  refine q p o ys W'.Hi _ E1.im (R'.sub.trans sm') (fr.trans sm') (fun a o h h' => ?_) ho upd_same ?_ (fr.free hp) (Pvs.dt r)
  · rcases E1.nw a o h h' with z | ⟨k, hk, _⟩
    · exact z
    · exact absurd hk (Nat.not_lt_zero _)
  · cases z : W'.Hi p with
    | none => rfl
    | some u => rw [R'.sub _ _ z] at hp; cases hp
end
theorem fnP_tup {m n : Nat} {el : ArF} {ds : List PyData} {d : PyData} (h : fnP m n (sRet (eTup el)) ds = some d) : ∃ xs es' μ, el (startE m (ds.map PV.dat)) [] = some (xs, μ) ∧ asDats xs = some es' ∧ xs.length ≤ cap ∧ d = .tuple es' := by
  unfold fnP at h
  split at h
  · unfold sRet eTup eCa mkT at h
    cases q : el (startE m (ds.map PV.dat)) [] with
    | none => rw [q] at h; cases h
    | some x =>
      obtain ⟨xs, μ⟩ := x
      rw [q] at h
      simp only [Option.bind_some] at h
      by_cases hc : xs.length ≤ cap
      · rw [if_pos hc] at h
        cases q2 : asDats xs with
        | none => rw [q2] at h; cases h
        | some es => rw [q2] at h; cases h; exact ⟨xs, es, μ, rfl, q2, hc, rfl⟩
      · rw [if_neg hc] at h; cases h
  · cases h
@[simp] def pairsD : List PyData → Option (List (Key × PyData))
  | [] => some []
  | .tuple [k, v] :: r => (keyP (.dat k)).bind fun k => (pairsD r).map fun t => (k, v) :: t
  | _ :: _ => none
theorem isTup_inj {h : Heap} {a : Addr} {xs ys : Array Value} (p : IsTup h a xs) (q : IsTup h a ys) : xs = ys := by
  obtain ⟨o, e, _, n, d⟩ := p
  obtain ⟨o', e', _, n', d'⟩ := q
  rw [e] at e'; cases e'
  rw [d] at d'
  injection d'
/-- the pairs as they stand -/
theorem pairs_at {X : Cx} {pins : List (Addr × Obj)} {σ : L2.St} {H : Hp} {s : Shared} (I : L2.Inv X pins σ H s) {Hi : Hp} (sm : Same Hi H) : ∀ {es : List PyData} {ws : List V} {us : List Value} {kvs : List (Key × PyData)}, DtAll Hi ws es → Vals ws us → pairsD es = some kvs →
    ∃ (Ts : List Addr) (kws : List (Key × V)) (prs : List (Key × Value)) (raw : List (Value × Value)), us = Ts.map Value.ref ∧ DtAll Hi (kws.map (·.2)) (kvs.map (·.2)) ∧ kws.map (·.1) = kvs.map (·.1) ∧ KV kws prs ∧ raw.length = es.length ∧ prs.length = es.length ∧ Ts.length = es.length ∧
      ∀ (j : Nat) k v, raw[j]? = some (k, v) → ∃ T kk, Ts[j]? = some T ∧ IsTup s.heap T #[k, v] ∧ prs[j]? = some (kk, v) ∧ keyIs kk k = true
  | [], _, _, _, .nil, .nil, h => by cases h; exact ⟨[], [], [], [], rfl, .nil, rfl, .nil, rfl, rfl, rfl, fun j k v e => by simp at e⟩
  | e :: es, _, _, kvs, .cons (v := wv) hd tl, .cons (b := u0) r0 rr, h => by
    unfold pairsD at h
    split at h
    · rename_i z; cases z
    · rename_i k v r' z
      cases z
      simp only [Option.bind_eq_some_iff, Option.map_eq_some_iff] at h
      obtain ⟨kk, h1, t, h2, rfl⟩ := h
      obtain ⟨Ts, kws, prs, raw, e1, e2, e3, e4, e5, e6, e7, e8⟩ := pairs_at I sm tl rr h2
      cases hd with
      | @tup a xs _ ha al =>
        cases al with
        | cons dk al =>
          cases al with
          | cons dv al =>
            cases al
            rename_i vk vv
            cases r0
            obtain ⟨its, rv, it, _⟩ := I.tuple (SqT.of (sm _ _ ha))
            obtain ⟨uk, uv, rfl, ruk, ruv⟩ := Vals.two rv
            have ek : vk = kV kk := keyP_ok (K := X.K) (W := ⟨Hi, H, fun _ => 0⟩) (n := 0) (p := .dat k) dk h1
            have ik : keyIs kk uk = true := by
              subst ek
              cases kk with
              | inl i => obtain ⟨t, rfl⟩ := ruk; exact keyIs_int i t
              | inr z => obtain ⟨t, rfl⟩ := ruk; exact keyIs_str z t
            refine ⟨a :: Ts, (kk, vv) :: kws, (kk, uv) :: prs, (uk, uv) :: raw, by rw [e1]; rfl, .cons dv e2, by simp [e3], .cons ⟨rfl, ruv⟩ e4, by simp [e5], by simp [e6], by simp [e7], fun j k' v' e => ?_⟩
            cases j with
            | zero => cases e; exact ⟨a, kk, rfl, it, rfl, ik⟩
            | succ j => exact e8 j k' v' (by simpa using e)
    · cases h
theorem cr_dictT {X : Cx} (hc : X.calm = true) : CallR X (.type "dict") (fun xs H Q => ∃ p o ws es kvs Hi, xs = [V.ref p] ∧ Same Hi H ∧ o.dict = none ∧ H p = some (.frz o (.tup ws)) ∧ DtAll Hi ws es ∧ es.length ≤ cap ∧ pairsD es = some kvs ∧
    ∀ D kws, H D = none → DtAll Hi (kws.map (·.2)) (kvs.map (·.2)) → kws.map (·.1) = kvs.map (·.1) → Q (.ref D) (upd H D (.dK (mergeK [] kws)))) := by
  intro pins s σ H xs us Q I r h
  obtain ⟨p, o, ws, es, kvs, Hi, rfl, sm, ho, hp, hd, hcap, hk, q⟩ := h
  obtain ⟨u, rfl, ru⟩ := Vals.one r
  cases ru
  obtain ⟨eo, hz, its, rv, it⟩ := I.hok _ _ hp
  obtain ⟨Ts, kws, prs, raw, e1, e2, e3, e4, e5, e6, e7, e8⟩ := pairs_at I sm hd rv hk
  obtain ⟨o', eo', hcl, n, hdat⟩ := it
  rw [eo] at eo'; cases eo'
  have wl : ws.length = es.length := by
    have := Pvs.length (DtAll.pvs (K := X.K) (W := ⟨Hi, H, fun _ => 0⟩) (n := 0) hd)
    simpa using this.symm
  have PA := PairArg.tuple (prog := X.prog) (w := X.w) p its.toArray (fun j => Ts.getD j 0) raw
  have ok : PlainSeq "tuple" s.heap p its.toArray ∧ PairItems s.heap its.toArray (fun j => Ts.getD j 0) raw := by
    refine ⟨⟨o, n, eo, hcl, ho, hdat⟩, by rw [e1]; simp; omega, fun j k v e => ?_⟩
    obtain ⟨T, kk, f1, f2, f3, f4⟩ := e8 j k v e
    refine ⟨?_, .inl ?_⟩
    · rw [e1]; simp [f1]
    · have : Ts.getD j 0 = T := by rw [List.getD_eq_getElem?_getD, f1]; rfl
      show s.heap.IsTuple (Ts.getD j 0) #[k, v]
      rw [this]
      obtain ⟨ob, g1, g2, m, g3⟩ := f2
      exact ⟨ob, g1, g2, m, g3⟩
  have have' : PairsHave (mixKind X.prog X.w) raw.length (PairRel raw) prs := by
    refine ⟨by omega, fun i key v e => ?_⟩
    obtain ⟨T, kk, f1, f2, f3, f4⟩ := e8 i key v e
    exact ⟨kk, f3, f4⟩
  refine PySem.call_dict_pairs (knd := mixKind X.prog X.w) PA (I.ok.hd hc) ok have' (by rw [e5]; exact cap_ok hcap) fun h' tk hd' kp => ?_
  have hm : (s.heap.objs.size == sysModules) = false := beq_eq_false_iff_ne.mpr (Nat.ne_of_gt I.big)
  have hlen : (mergeK [] kws).length ≤ sizeLine := by
    refine Nat.le_trans (length_mergeK kws []) ?_
    have := congrArg List.length e3
    have l4 : kws.length = prs.length := Paired.length e4
    simp at this ⊢
    rw [l4, e6]; exact cap_ok hcap
  have fresh : H s.heap.objs.size = none := I.hok.fresh (Nat.le_refl _)
  refine ⟨.ref s.heap.objs.size, upd H s.heap.objs.size (.dK (mergeK [] kws)), I.laid (t' := tk) (fun b u e => kp b u (by simp) e) (Nat.le_refl _) ?_, rfl, q _ kws fresh e2 e3⟩
  exact ⟨hlen, hm, merged [] prs, KV.merge e4 .nil, hd'⟩
@[simp] def eDicT (n : Nat) (F : List PyData → Option PyData) (el : ArF) : EvF := fun ε μ => (el ε μ).bind fun x => if x.1.length = n then (asDats x.1).bind fun ds => (F ds).bind fun d => (match d with
  | .tuple es => if es.length ≤ cap then (pairsD es).map fun kvs => (.ptr x.2.length, x.2 ++ [.dic (mergeP [] (kvs.map fun p => (p.1, .dat p.2)))]) else none
  | _ => none) else none
theorem kvs_of {K : PySem.W.Frag} {W : Wd} {n : Nat} : ∀ {kvs : List (Key × PyData)} {kws : List (Key × V)}, DtAll W.Hi (kws.map (·.2)) (kvs.map (·.2)) → kws.map (·.1) = kvs.map (·.1) → Kvs K W n (kvs.map fun p => (p.1, .dat p.2)) kws
  | [], [], _, _ => .nil
  | [], _ :: _, _, h => by simp at h
  | _ :: _, [], _, h => by simp at h
  | a :: as, b :: bs, h, e => by
    simp only [List.map_cons, List.cons.injEq] at e
    cases h with
    | cons h1 h2 => exact .cons ⟨e.1.symm, h1⟩ (kvs_of h2 e.2)
section
variable {X : Cx} {k : Nat} {x : Str} {p p2 q pos : Pos} {e : Expr} {es : List Expr} {el : ArF} {n : Nat}
theorem m_dicT {F : List PyData → Option PyData} (G : DefOk X.prog X.w X.K X.mg X.base k x (spPT n F)) (hr : Room k X.A) (hc : X.calm = true) (hg : Gl X "dict") (hm : X.mg "dict" = none) (hgx : Gl X x) (ha : MA X (e :: es) el)
    (hdb : (x == ("__debug__" : Str)) = false := by decide) (he : starEach (e :: es) X.env = (false, eval e X.env) :: starEach es X.env := by rfl) (hpl : (backTo q (starEach es X.env)).any (·.1) = false := by rfl)
    (he2 : starEach (.Call (.Name x p2) (e :: es) [] q :: []) X.env = (false, eval (.Call (.Name x p2) (e :: es) [] q) X.env) :: starEach [] X.env := by rfl) (hpl2 : (backTo pos (starEach [] X.env)).any (·.1) = false := by rfl) :
    ME X (.Call (.Name "dict" p) [.Call (.Name x p2) (e :: es) [] q] [] pos) (eDicT n F el) := by
  obtain ⟨f, fd, ps, Fn, g, kp, b⟩ := G
  refine VE.m ⟨pe_callTy (cr_dictT hc) hg hm (by decide +kernel) (pa_cons (pe_call Fn hr hgx g kp b .nil pass0 ha hdb he hpl) pa_nil he2) (by decide) (by decide) he2 hpl2, fun W σ ε μ v μ' Q R En z k => ?_⟩
  unfold eDicT at z
  simp only [Option.bind_eq_some_iff] at z
  obtain ⟨⟨xs, μ1⟩, h1, h2⟩ := z
  refine adqUA W σ ε μ xs μ1 _ R En h1 fun vs W1 R1 E1 r1 => ?_
  by_cases hl : xs.length = n
  · simp only [hl, if_pos, Option.bind_eq_some_iff] at h2
    obtain ⟨ds, h3, d, h4, h5⟩ := h2
    split at h5
    · rename_i es0
      split at h5
      · rename_i hcap
        simp only [Option.map_eq_some_iff] at h5
        obtain ⟨kvs, h6, h7⟩ := h5
        cases h7
        rw [asDats_eq h3] at r1 hl
        rw [List.append_nil]
        have hl' := r1.length
        refine ⟨by simp at hl hl'; omega, ds, es0, W1.Hi, R1.sub, Pvs.dt r1, h4, fun T o ws Hi' H' s1 s2 s3 fr ho hT hTi hT0 hd => ?_⟩
        -- the world behind the call
        have E2 : Ext W1 μ1.length ⟨Hi', H', W1.at'⟩ μ1.length := ⟨s1, fun _ _ => rfl, Nat.le_refl _, fun a o h _ => s3 a o h, fun a o h h' => .inl (fr a o h h'), fun k h h' => absurd h' (Nat.not_lt.mpr h), fun a o h => ⟨o, s3 a o h⟩⟩
        have R2 : Rl X.K ⟨Hi', H', W1.at'⟩ μ1 := by
          refine ⟨s2, fun j o h => ?_, fun j o h hg => ?_, R1.inj, fun j hj => let ⟨u, e⟩ := R1.th j hj; ⟨u, s3 _ _ e⟩⟩
          · have := R1.ob j o h
            cases o with
            | gone => trivial
            | lst xs => obtain ⟨vs, e, r⟩ := this; exact ⟨vs, s3 _ _ e, r.mono E2⟩
            | dic kvs => obtain ⟨vs, e, r⟩ := this; exact ⟨vs, s3 _ _ e, r.mono E2⟩
            | tpl xs => obtain ⟨vs, e, r⟩ := this; exact ⟨vs, s3 _ _ e, r.mono E2⟩
            | dtu kvs => obtain ⟨vs, e, r⟩ := this; exact ⟨vs, s3 _ _ e, r.mono E2⟩
          · have lk : j < μ1.length := (List.getElem?_eq_some_iff.mp h).1
            cases q : Hi' (W1.at' j) with
            | none => exact q
            | some u =>
              obtain ⟨u', e⟩ := R1.th j lk
              have := fr _ _ q (R1.off j o h hg)
              rw [e] at this; cases this
        refine ⟨T, o, ws, es0, kvs, Hi', rfl, s2, ho, hT, hd, hcap, h6, fun D kws hD dk' ek => ?_⟩
        have rk := kvs_of (K := X.K) (W := ⟨Hi', H', W1.at'⟩) (n := μ1.length) dk' ek
        have mk := merge_ok rk (.nil : Kvs X.K ⟨Hi', H', W1.at'⟩ μ1.length [] []) (by simp [NdK])
        obtain ⟨R3, E3⟩ := R2.own (o := .dic (mergeP [] (kvs.map fun p => (p.1, .dat p.2)))) (ho := .dK (mergeK [] kws)) hD (by simp) ⟨_, rfl, mk.1⟩
        exact k _ _ R3 ((E1.trans E2).trans E3) ⟨by simp, by simp⟩
      · cases h5
    · cases h5
  · simp only [hl, if_false] at h2; cases h2
end
end VX
namespace VX
open PySem PySem.Spec PyProof.Rows L2

section
variable {K : PySem.W.Frag} {h : Heap} {mg : Str → Option Value} {f : Addr} {name : Str} {st : Stmt} {ps : List Str} {od an : Option Addr} {sl : Array (Option Value)} {oc kV dc pm cd ct : Value}
theorem at_mk (X : K.In h) (G : h.Ns mainGlobals mg) (hb : ∀ (kV doc pm : Value) (an : Option Addr) (cdv ct : Value) (us : List Value), us.length = ps.length → bindArgs (PySem.W.fnOf name name (defArgs st) (defBody st) (defScope st) .none kV doc pm an cdv ct) ⟨us, []⟩ = pure (ps.zip us))
    (a : PySem.W.nsIn K mainGlobals name = some (some (.ref f))) (l : K.lookup f = some ⟨oc, od, .func (PySem.W.fnOf name name (defArgs st) (defBody st) (defScope st) .none kV dc pm an cd ct), sl⟩) (c : PySem.W.codeIn K cd name = true) (k : PySem.W.keepIn K (.ref f) = true) : At K mg name st ps := by
  have F := fun_mk (st := st) l c k
  exact ⟨f, _, F, PySem.W.mg_of X G a, F.binds hb⟩
end
theorem law_sp {F : List PV → Sto → Option (PV × Sto)} {K : PySem.W.Frag} {H : Hp} {a : Addr} {ns : List Int} (hF : ∃ μ, F [.scr ns] [] = some (.dat (.bool true), μ)) (hS : SqL K H a (ns.map V.int)) : spG K 1 F [.ref a] H (fun v _ => v = .bl true) fun _ _ _ => False := by
  obtain ⟨μ, hF⟩ := hF
  refine ⟨rfl, ⟨H, H, fun _ => 0⟩, [.scr ns], [], _, μ, rfl, ⟨Same.refl _, fun k o h => by simp at h, fun k o h => by simp at h, fun j k o u h => by simp at h, fun k h => by simp at h⟩, .cons ⟨a, rfl, hS⟩ .nil, hF, fun x W' R E r => rpv_bl r⟩
end VX
namespace VX
open PySem PySem.Spec PyProof.Rows L2

/-! ### more methods of lists: extend, index -/
@[simp] def fExt : PV → List PV → Sto → Option (PV × Sto) := fun x ys μ => match x, ys with
  | .ptr k, [v] => match μ[k]? with
    | some (.lst xs) => (lstOf μ v).bind fun zs => if xs.length + zs.length ≤ cap then some (.dat .none, μ.set k (.lst (xs ++ zs))) else none
    | _ => none
  | _, _ => none
@[simp] def fIdx : PV → List PV → Sto → Option (PV × Sto) := fun x ys μ => match ys with
  | [y] => (asD μ x).bind fun e => (asD μ y).bind fun d => match e with
    | .list ds => if SeqAt.shaped (.list ds) = true ∧ SeqAt.shaped d = true then (ds.findIdx? fun z => PyData.eqv z d).map fun j => (.dat (.int (j : Nat)), μ) else none
    | _ => none
  | _ => none
section
variable {K : PySem.W.Frag}
theorem am_ext : AMt K rExtend fExt := fun W μ x px xs ps v μ' Q R rx rs h k => by
  unfold fExt at h
  split at h
  · rename_i kk w
    split at h
    · rename_i ys hk
      simp only [Option.bind_eq_some_iff] at h
      obtain ⟨zs, h1, h2⟩ := h
      split at h2
      · rename_i hc
        cases h2
        obtain ⟨y, rfl, ry⟩ := pvs1 rs
        obtain ⟨b, us, rfl, eb, r3⟩ := lstOf_ok R ry h1
        obtain ⟨vs, e, r2⟩ := R.ob kk _ hk
        obtain ⟨lk, rfl⟩ := rx
        obtain ⟨R', E'⟩ := R.put (u := .lst (ys ++ zs)) (ho := .lst (vs ++ us)) hk (by simp) (by simp) ⟨_, rfl, r2.append r3⟩
        exact ⟨_, b, vs, us, rfl, rfl, e, eb, by rw [← r2.length, ← r3.length]; exact cap_ok hc, k .non _ R' E' .non⟩
      · cases h2
    · cases h
  · cases h
theorem am_idx : AMt K (rIndexD K) fIdx := fun W μ x px xs ps v μ' Q R rx rs h k => by
  unfold fIdx at h
  split at h
  · simp only [Option.bind_eq_some_iff] at h
    obtain ⟨e, h1, d, h2, h3⟩ := h
    split at h3
    · rename_i ds
      split at h3
      · rename_i hc
        simp only [Option.map_eq_some_iff] at h3
        obtain ⟨j, h4, h5⟩ := h3
        cases h5
        obtain ⟨y, rfl, ry⟩ := pvs1 rs
        have rl := asD_ok R rx h1
        have rd := asD_ok R ry h2
        obtain ⟨hj, hz, hno⟩ := List.findIdx?_eq_some_iff_getElem.mp h4
        have hx : ∃ a, x = V.ref a := by cases rl <;> exact ⟨_, rfl⟩
        obtain ⟨a, rfl⟩ := hx
        refine ⟨a, y, d, ds, j, ds[j], rfl, rfl, rl, rd, hc.1, hc.2, List.getElem?_eq_getElem hj, by simpa using hz, fun m z' hm hz' => ?_, k.now R (.int _)⟩
        obtain ⟨hm', e⟩ := List.getElem?_eq_some_iff.mp hz'
        subst e
        simpa using hno m hm
      · cases h3
    · cases h3
  · cases h
end
section
variable {X : Cx} {o e : Expr} {eo : EvF} {el : ArF}
theorem m_ext {apos cpos : Pos} (ho : ME X o eo) (ha : MA X [e] el) (hbase : attributeBase o "extend" X.env (eval o X.env) = eval o X.env := by rfl)
    (hfew : ((backTo cpos (starEach (e :: []) X.env)).all (fun x => !x.1) && (backToKw cpos (keywordEach [] X.env)).all (fun x => x.1.isSome) && decide ((e :: []).length + ([] : List Keyword).length + (if ([] : List Keyword).isEmpty then 0 else 1) < 30)) = true := by rfl)
    (hline : (apos.endLine == cpos.line) = true := by rfl) (hs : starEach (e :: []) X.env = (false, eval e X.env) :: starEach [] X.env := by rfl) (hplain : (backTo cpos (starEach [] X.env)).any (·.1) = false := by rfl) : ME X (.Call (.Attribute o "extend" apos) [e] [] cpos) (eLM fExt eo el) :=
  VE.m ⟨pe_bm PySem.F.plainAttrs_list PySem.F.slot_list_extend PySem.F.type_list_extend mt_extend ho ha hbase hfew hline hs hplain, adq_LM adqU adqUA am_ext⟩
theorem m_idx {apos cpos : Pos} (hu : X.A.units + 65 < cLine) (ho : ME X o eo) (ha : MA X [e] el) (hbase : attributeBase o "index" X.env (eval o X.env) = eval o X.env := by rfl)
    (hfew : ((backTo cpos (starEach (e :: []) X.env)).all (fun x => !x.1) && (backToKw cpos (keywordEach [] X.env)).all (fun x => x.1.isSome) && decide ((e :: []).length + ([] : List Keyword).length + (if ([] : List Keyword).isEmpty then 0 else 1) < 30)) = true := by rfl)
    (hline : (apos.endLine == cpos.line) = true := by rfl) (hs : starEach (e :: []) X.env = (false, eval e X.env) :: starEach [] X.env := by rfl) (hplain : (backTo cpos (starEach [] X.env)).any (·.1) = false := by rfl) : ME X (.Call (.Attribute o "index" apos) [e] [] cpos) (eLM fIdx eo el) :=
  VE.m ⟨pe_bm PySem.F.plainAttrs_list PySem.F.slot_list_index PySem.F.type_list_index (mt_indexD hu) ho ha hbase hfew hline hs hplain, adq_LM adqU adqUA am_idx⟩
end
/-! ### joining texts -/
@[simp] def asStrs : List PV → Option (List Str)
  | [] => some []
  | .dat (.str i) :: r => (asStrs r).map (i :: ·)
  | _ :: _ => none
@[simp] theorem asStrs_map : ∀ ns : List Str, asStrs (ns.map fun n => PV.dat (.str n)) = some ns
  | [] => rfl
  | n :: r => by simp [asStrs, asStrs_map r]
theorem asStrs_ok {K : PySem.W.Frag} {W : Wd} {n : Nat} : ∀ {xs : List PV} {vs : List V} {ns : List Str}, Pvs K W n xs vs → asStrs xs = some ns → vs = ns.map V.str
  | [], _, _, .nil, h => by cases h; rfl
  | x :: r, _, ns, .cons rx t, h => by
    unfold asStrs at h
    split at h
    · cases ‹_ :: _ = []›
    · rename_i e
      cases e
      simp only [Option.map_eq_some_iff] at h
      obtain ⟨ms, h1, rfl⟩ := h
      rw [rpv_str rx, asStrs_ok t h1]; rfl
    · cases h
def sumLen (a : Str) (ys : List Str) : Nat := (ys.map (·.length)).sum + ys.length * a.length
@[simp] def eJoin (o e : EvF) : EvF := fun ε μ => (o ε μ).bind fun x => (e ε x.2).bind fun y => match x.1 with
  | .dat (.str a) => (seqOf y.2 y.1).bind fun xs => (asStrs xs).bind fun ys => if sumLen a ys ≤ cap then some (.dat (.str (Txt.join a ys)), y.2) else none
  | _ => none
section
variable {X : Cx} {o e : Expr} {eo ee : EvF}
theorem m_join {apos pos : Pos} (ho : ME X o eo) (he : ME X e ee) (hs : starEach [e] X.env = [(false, eval e X.env)] := by rfl) (hbase : attributeBase o "join" X.env (eval o X.env) = eval o X.env := by rfl) (hline : (apos.endLine == pos.line) = true := by rfl) :
    ME X (.Call (.Attribute o "join" apos) [e] [] pos) (eJoin eo ee) :=
  VE.m ⟨pe_join ho he hs hbase hline, fun W σ ε μ v μ' Q R En q k => by
    unfold eJoin at q
    simp only [Option.bind_eq_some_iff] at q
    obtain ⟨⟨x, μ1⟩, h1, ⟨y, μ2⟩, h2, h3⟩ := q
    refine adqU W σ ε μ x μ1 _ R En h1 fun vx W1 R1 E1 r1 => ?_
    simp only [] at h3
    split at h3
    · rename_i a
      obtain rfl := rpv_str r1
      refine ⟨⟨a, rfl⟩, adqU W1 σ ε μ1 y μ2 _ R1 (En.mono E1) h2 fun vy W2 R2 E2 r2 => ?_⟩
      simp only [Option.bind_eq_some_iff] at h3
      obtain ⟨xs, h4, ys, h5, h6⟩ := h3
      split at h6
      · rename_i hc
        cases h6
        obtain ⟨p, vs, rfl, e, r3⟩ := seqOf_ok R2 r2 h4
        have := asStrs_ok r3 h5
        subst this
        exact ⟨a, p, ys, rfl, rfl, e, Nat.le_trans hc (by decide), k _ W2 R2 (E1.trans E2) (.str _)⟩
      · cases h6
    · cases h3⟩
end
/-! ### list(range(..)) -/
theorem pvs_ints {K : PySem.W.Frag} {W : Wd} {n : Nat} (f : Nat → Int) : ∀ l : List Nat, Pvs K W n (l.map fun i => PV.dat (.int (f i))) (l.map fun i => V.int (f i))
  | [] => .nil
  | x :: r => .cons (.int _) (pvs_ints f r)
@[simp] def eLRg1 (own : Bool) (e : EvF) : EvF := fun ε μ => (e ε μ).bind fun x => match x.1 with
  | .dat (.int j) => if inRg j = true then mkL own ((List.range j.toNat).map fun i => PV.dat (.int (i : Nat))) x.2 else none
  | _ => none
@[simp] def eLRg2 (own : Bool) (a b : EvF) : EvF := fun ε μ => (a ε μ).bind fun x => (b ε x.2).bind fun y => match x.1, y.1 with
  | .dat (.int i), .dat (.int j) => if (inRg i && inRg j) = true then mkL own ((List.range (j - i).toNat).map fun m => PV.dat (.int (i + (m : Nat)))) y.2 else none
  | _, _ => none
theorem mkL_len {own : Bool} {xs : List PV} {μ : Sto} {r : PV × Sto} (h : mkL own xs μ = some r) : xs.length ≤ cap := by
  unfold mkL at h
  split at h
  · assumption
  · cases h
section
variable {X : Cx} {e a b : Expr} {ev ea eb : EvF}
theorem m_lrg1 (own : Bool) {p pos q qos : Pos} (hc : X.calm = true) (hg : Gl X "list") (hm : X.mg "list" = none) (hg2 : Gl X "range") (hm2 : X.mg "range" = none) (he : ME X e ev)
    (na2 : starEach [e] X.env = (false, eval e X.env) :: starEach [] X.env := by rfl) (na : starEach [.Call (.Name "range" q) [e] [] qos] X.env = (false, eval (.Call (.Name "range" q) [e] [] qos) X.env) :: starEach [] X.env := by rfl) :
    ME X (.Call (.Name "list" p) [.Call (.Name "range" q) [e] [] qos] [] pos) (eLRg1 own ev) :=
  VE.m ⟨pe_listRg hc hg hm (prg_1 hg2 hm2 he na2) na, fun W σ ε μ v μ' Q R En q k => by
    unfold eLRg1 at q
    simp only [Option.bind_eq_some_iff] at q
    obtain ⟨⟨x, μ1⟩, h1, h2⟩ := q
    refine adqU W σ ε μ x μ1 _ R En h1 fun vx W1 R1 E1 r1 => ?_
    simp only [] at h2
    split at h2
    · rename_i j
      obtain rfl := rpv_int r1
      split at h2
      · rename_i hj
        have hb := inRg_ok hj
        have hl := mkL_len h2
        rw [List.length_map, List.length_range] at hl
        have hl2 : j.toNat ≤ 2 ^ 24 := Nat.le_trans hl (by decide)
        refine ⟨j, rfl, ⟨by decide, by decide, hb.1, hb.2, by rw [Int.sub_zero]; exact hl2⟩, ?_⟩
        have e : rgV 0 j = (List.range j.toNat).map fun i => V.int ((i : Nat) : Int) := by
          unfold rgV
          rw [Int.sub_zero]
          exact List.map_congr_left fun i _ => by rw [Int.zero_add]
        rw [e]
        exact (mkL_ok R1 (pvs_ints (fun i => (i : Int)) _) h2 (k.ext E1)).2
      · cases h2
    · cases h2⟩
end
/-! ### range(i, j, -1) -/
@[simp] def srcR3 (e : ArF) : SrF := fun ε μ => (e ε μ).bind fun x => match x.1 with
  | [.dat (.int i), .dat (.int j), .dat (.int c)] => if (inRg i && inRg j && decide (c = -1)) = true then some (((List.range (i - j).toNat).map fun m => PV.dat (.int (i + (m : Nat) * (-1))), none), x.2) else none
  | _ => none
section
variable {X : Cx} {tg a b c : Expr} {el : ArF}
theorem i_range3 {p pos : Pos} (hg : Gl X "range") (hm : X.mg "range" = none) (ha : MA X [a, b, c] el)
    (hs : starEach [a, b, c] X.env = (false, eval a X.env) :: starEach [b, c] X.env := by rfl) (hpl : (backTo pos (starEach [b, c] X.env)).any (·.1) = false := by rfl) : MI X tg (.Call (.Name "range" p) [a, b, c] [] pos) (srcR3 el) :=
  VI.m ⟨pi_range3 hg hm ha hs hpl, fun W σ ε μ items ok μ' Rr R En q k => by
    unfold srcR3 at q
    simp only [Option.bind_eq_some_iff] at q
    obtain ⟨⟨x, μ1⟩, h1, h2⟩ := q
    refine adqUA W σ ε μ _ μ1 _ R En h1 fun vx W1 R1 E1 r1 => ?_
    simp only [] at h2
    split at h2
    · rename_i i j c
      split at h2
      · rename_i hj
        cases h2
        obtain ⟨y, z, u, rfl, ry, rz, ru⟩ := pvs3 r1
        obtain rfl := rpv_int ry
        obtain rfl := rpv_int rz
        obtain rfl := rpv_int ru
        rw [Bool.and_eq_true, Bool.and_eq_true, decide_eq_true_eq] at hj
        obtain ⟨⟨g1, g2⟩, rfl⟩ := hj
        have h1 := inRg_ok g1
        have h2 := inRg_ok g2
        exact ⟨i, j, -1, _, rfl, RgC.neg h1.1 h1.2 h2.1 h2.2, k W1 _ R1 E1 gives_rc⟩
      · cases h2
    · cases h2⟩
end
/-! ### i ** j, i << j -/
def fPowL (g : Int → Int → Int) : OpF := fun x y μ => match x, y with
  | .dat (.int i), .dat (.int j) => if (inMul i && decide (0 ≤ j) && decide (j ≤ 1000000)) = true then some (.dat (.int (g i j)), μ) else none
  | _, _ => none
@[simp] def fPow : OpF := fPowL fun i j => i ^ j.toNat
@[simp] def fShl : OpF := fPowL fun i j => i * 2 ^ j.toNat
theorem ao_powL {K : PySem.W.Frag} (g : Int → Int → Int) : AOp K (rI CPow fun i j => .int (g i j)) (fPowL g) := fun W μ x y px py v μ' Q R rx ry h k => by
  unfold fPowL at h
  split at h
  · rename_i i j
    obtain rfl := rpv_int rx; obtain rfl := rpv_int ry
    split at h
    · rename_i hc
      cases h
      rw [Bool.and_eq_true, Bool.and_eq_true, decide_eq_true_eq, decide_eq_true_eq] at hc
      have hm := inMul_ok hc.1.1
      rw [p64] at hm
      refine ⟨_, _, rfl, rfl, ⟨hc.1.2, hc.2, ?_⟩, k.now R (.int _)⟩
      have e : (2 : Nat) ^ 64 = 18446744073709551616 := by decide
      rw [e]
      omega
    · cases h
  · cases h
section
variable {X : Cx} {a b : Expr} {ea eb : EvF} {pos : Pos}
theorem m_pow (ha : ME X a ea) (hb : ME X b eb) : ME X (.BinOp a .Pow b pos) (eOp fPow ea eb) := m_op op_pow (ao_powL _) ha hb
theorem m_shl (ha : ME X a ea) (hb : ME X b eb) : ME X (.BinOp a .LShift b pos) (eOp fShl ea eb) := m_op op_shl (ao_powL _) ha hb
end
/-! ### l.pop() -/
@[simp] def eLM0 (f : PV → Sto → Option (PV × Sto)) (o : EvF) : EvF := fun ε μ => (o ε μ).bind fun x => if (lstOf x.2 x.1).isSome = true then f x.1 x.2 else none
@[simp] def fPop : PV → Sto → Option (PV × Sto) := fun x μ => match x with
  | .ptr k => match μ[k]? with
    | some (.lst xs) => xs[xs.length - 1]?.map fun y => (y, μ.set k (.lst xs.dropLast))
    | _ => none
  | _ => none
theorem pvs_dropLast {K : PySem.W.Frag} {W : Wd} {n : Nat} : ∀ {xs : List PV} {vs : List V}, Pvs K W n xs vs → Pvs K W n xs.dropLast vs.dropLast
  | _, _, .nil => .nil
  | _, _, .cons r .nil => .nil
  | _, _, .cons r (.cons r2 t) => .cons r (pvs_dropLast (.cons r2 t))
section
variable {X : Cx} {o : Expr} {eo : EvF}
theorem m_pop {apos cpos : Pos} (ho : ME X o eo) (hbase : attributeBase o "pop" X.env (eval o X.env) = eval o X.env := by rfl) (hline : (apos.endLine == cpos.line) = true := by rfl) : ME X (.Call (.Attribute o "pop" apos) [] [] cpos) (eLM0 fPop eo) :=
  VE.m ⟨pe_bm0 PySem.F.plainAttrs_list PySem.F.slot_list_pop PySem.F.type_list_pop mt_pop ho hbase hline, fun W σ ε μ v μ' Q R En q k => by
    unfold eLM0 at q
    simp only [Option.bind_eq_some_iff] at q
    obtain ⟨⟨x, μ1⟩, h1, h2⟩ := q
    refine adqU W σ ε μ x μ1 _ R En h1 fun vx W1 R1 E1 r1 => ?_
    simp only [] at h2
    split at h2
    · rename_i hs
      obtain ⟨xs, hx⟩ := Option.isSome_iff_exists.mp hs
      obtain ⟨a, vs, rfl, e, r2⟩ := lstOf_ok R1 r1 hx
      refine ⟨.inl ⟨rfl, vs, SqL.of e⟩, ?_⟩
      unfold fPop at h2
      split at h2
      · rename_i kk
        split at h2
        · rename_i ys hk
          simp only [Option.map_eq_some_iff] at h2
          obtain ⟨y, h3, h4⟩ := h2
          cases h4
          obtain ⟨us, e2, r3⟩ := R1.ob kk _ hk
          obtain ⟨lk, hl⟩ := r1
          cases hl
          obtain ⟨R', E'⟩ := R1.put (u := .lst ys.dropLast) (ho := .lst us.dropLast) hk (by simp) (by simp) ⟨_, rfl, pvs_dropLast r3⟩
          obtain ⟨w, h5, h6⟩ := r3.get h3
          exact ⟨_, us, w, rfl, rfl, e2, by rw [← r3.length]; exact h5, k w _ R' (E1.trans E') (h6.mono E')⟩
        · cases h2
      · cases h2
    · cases h2⟩
end
/-! ### d.get(k, x) -/
@[simp] def eDGet2 (o i z : EvF) : EvF := fun ε μ => (o ε μ).bind fun x => (dicOf x.2 x.1).bind fun _ => (i ε x.2).bind fun y => (z ε y.2).bind fun w => (dicOf w.2 x.1).bind fun d => (keyP y.1).map fun k => ((valP d.2 k).getD w.1, w.2)
section
variable {X : Cx} {o i z : Expr} {eo ei ez : EvF}
theorem m_dget2 {apos cpos : Pos} (hu : X.A.units + 65 < cLine) (ho : ME X o eo) (hi : ME X i ei) (hz : ME X z ez) (m : M2 X o "get" apos i z cpos) : ME X (.Call (.Attribute o "get" apos) [i, z] [] cpos) (eDGet2 eo ei ez) :=
  VE.m ⟨pe_dget2 (by omega) ho hi hz m, fun W σ ε μ v μ' Q R En q k => by
    unfold eDGet2 at q
    simp only [Option.bind_eq_some_iff, Option.map_eq_some_iff] at q
    obtain ⟨⟨x, μ1⟩, h1, d0, h0, ⟨y, μ2⟩, h2, ⟨w, μ3⟩, h3, d, h4, kk, h5, h6⟩ := q
    cases h6
    refine adqU W σ ε μ x μ1 _ R En h1 fun vx W1 R1 E1 r1 => ?_
    obtain ⟨ex, hk0, kws0, e0, rk0⟩ := dicOf_ok R1 r1 h0
    refine ⟨_, ex, .inl ⟨kws0, .inl e0⟩, ?_⟩
    refine adqU W1 σ ε μ1 y μ2 _ R1 (En.mono E1) h2 fun vy W2 R2 E2 r2 => ?_
    refine adqU W2 σ ε μ2 w μ3 _ R2 ((En.mono E1).mono E2) h3 fun vw W3 R3 E3 r3 => ?_
    obtain ⟨ex2, hk, kws, e, rk⟩ := dicOf_ok R3 ((r1.mono E2).mono E3) h4
    obtain rfl := keyP_ok (r2.mono E3) h5
    have ea : W1.at' d0.1 = W3.at' d.1 := V.ref.inj (ex.symm.trans ex2)
    rw [ea]
    obtain ⟨g1, g2⟩ := valP_ok (k := kk) rk
    refine ⟨_, DGet.k e, ?_⟩
    cases q : valP d.2 kk with
    | none =>
      rw [g1 q]
      rw [q] at k
      exact k vw W3 R3 ((E1.trans E2).trans E3) r3
    | some p =>
      obtain ⟨u, e1, ru⟩ := g2 p q
      rw [e1]
      rw [q] at k
      exact k u W3 R3 ((E1.trans E2).trans E3) ru⟩
end
end VX
namespace VX
open PySem PySem.Spec PyProof.Rows L2

/-! ### {k: v for ..}: the dict is an owned object from its start -/
def dcD (G : Sto → Bool) (tg : TgF) (tt : TsF) (tk tv : EvF) (w : Evn) (j : Nat) : List PV → Sto → Option Sto
  | [], μ => if G μ = true then some μ else none
  | p :: r, μ => if G μ = true then (tg p w μ).bind fun y => (tt y.1 y.2).bind fun b => if b.1 = true then (tk y.1 b.2).bind fun k => (tv y.1 k.2).bind fun v => (keyP k.1).bind fun kk => (match v.2[j]? with
      | some (.dic kvs) => if kvs.length < cap ∧ ndB kvs = true then dcD G tg tt tk tv w j r (v.2.set j (.dic (putP kvs kk v.1))) else none
      | _ => none)
    else dcD G tg tt tk tv w j r b.2 else none
def eDc (src : SrF) (tg : TgF) (tt : TsF) (tk tv : EvF) (vs : List Nat) : EvF := fun ε μ => (src ε μ).bind fun x => (dcD (okG x.1.1 x.1.2) tg tt tk tv (wipeE ε vs) x.2.length x.1.1 (x.2 ++ [.dic []])).map fun μ' => (.ptr x.2.length, μ')
theorem adq_dc {K : PySem.W.Frag} {wi : TI} {src : SrF} {g : TG} {gf : TgF} {tt : TT} {et : TsF} {tk tv : TE} {ek ev : EvF} {vs : List Nat} (hi : AdqI K wi src) (hg : AdqG K g gf) (hO : OnlyG g vs) (mG : MonoG g) (ht : AdqT K tt et) (hk : Adq K tk ek) (hv : Adq K tv ev) :
    Adq K (tDc wi g tt tk tv vs) (eDc src gf et ek ev vs) := fun W σ ε μ v μ2 Q R En q k => by
  unfold eDc at q
  simp only [Option.bind_eq_some_iff, Option.map_eq_some_iff] at q
  obtain ⟨⟨⟨items, ok⟩, μ1⟩, q1, μx, q2, q3⟩ := q
  cases q3
  refine hi W σ ε μ items ok μ1 _ R En q1 fun W1 J R1 E1 G => fun D hD => ?_
  obtain ⟨R1', E1'⟩ := R1.own (o := .dic []) (ho := .dK []) hD (by simp) ⟨[], rfl, .nil⟩
  have aD : ∀ (W' : Wd) (n' : Nat), Ext ⟨W1.Hi, upd W1.H D (.dK []), fun k => if k = μ1.length then D else W1.at' k⟩ (μ1 ++ [SO.dic []]).length W' n' → W'.at' μ1.length = D := fun W' n' E => by
    rw [E.io μ1.length (by simp)]
    simp
  refine ⟨fun i m H' => ∃ W' μ', W'.H = H' ∧ Rl K W' μ' ∧ Ext ⟨W1.Hi, upd W1.H D (.dK []), fun k => if k = μ1.length then D else W1.at' k⟩ (μ1 ++ [SO.dic []]).length W' μ'.length ∧ i + m = items.length ∧ dcD (okG items ok) gf et ek ev (wipeE ε vs) μ1.length (items.drop i) μ' = some μ2,
    ⟨items.length, _, _, rfl, R1', Ext.refl _ _, by omega, by simpa using q2⟩, fun i m H2 h => ?_⟩
  obtain ⟨W2, μ3, rfl, R2, E2, em, q4⟩ := h
  cases m with
  | zero =>
    have : items.drop i = [] := List.drop_eq_nil_of_le (by omega)
    rw [this] at q4
    simp only [dcD] at q4
    by_cases hG : okG items ok μ3 = true
    · rw [if_pos hG] at q4
      cases q4
      have st := (G W2 μ2 R2 (E1'.trans E2).l (okG_ok hG)).2
      rw [show items.length = i by omega] at st
      have hl := E2.le
      rw [List.length_append] at hl
      exact .inl ⟨st, k (.ref D) W2 R2 (E1.trans (E1'.trans E2)) ⟨Nat.lt_of_lt_of_le (Nat.lt_succ_self _) hl, by rw [aD _ _ E2]⟩⟩
    · rw [if_neg hG] at q4; cases q4
  | succ m =>
    have hi' : i < items.length := by omega
    rw [List.drop_eq_getElem_cons hi'] at q4
    simp only [dcD] at q4
    by_cases hG : okG items ok μ3 = true
    · rw [if_pos hG] at q4
      simp only [Option.bind_eq_some_iff] at q4
      obtain ⟨⟨ε4, μ4⟩, q5, ⟨bb, μ5⟩, q6, q7⟩ := q4
      obtain ⟨go, yl⟩ := (G W2 μ3 R2 (E1'.trans E2).l (okG_ok hG)).1 i _ (List.getElem?_eq_getElem hi')
      refine .inr ⟨go, fun H' => ∃ W' μ', W'.H = H' ∧ Rl K W' μ' ∧ Ext ⟨W1.Hi, upd W1.H D (.dK []), fun k => if k = μ1.length then D else W1.at' k⟩ (μ1 ++ [SO.dic []]).length W' μ'.length ∧ (i + 1) + m = items.length ∧ dcD (okG items ok) gf et ek ev (wipeE ε vs) μ1.length (items.drop (i + 1)) μ' = some μ2, fun H' h => ⟨m, Nat.lt_succ_self _, h⟩, fun x H' hy => ?_⟩
      obtain ⟨W3, rfl, R3, E3, r3⟩ := yl x H' hy
      have En3 : EnvR K W3 μ3.length (L2.wipe σ vs) (wipeE ε vs) := (En.mono (((E1.trans E1').trans E2).trans E3)).wipe vs
      refine mG _ _ _ _ _ ?_ (hO _ _ _ _ (hg W3 (L2.wipe σ vs) (wipeE ε vs) μ3 _ x ε4 μ4 (fun σ' H' => tt σ' H' fun b H3 => if b = true then tk σ' H3 fun y H4 => tv σ' H4 fun z H5 => ∃ kvs k, y = kV k ∧ H5 D = some (.dK kvs) ∧ kvs.length < sizeLine ∧ (∃ W' μ', W'.H = upd H5 D (.dK (putK kvs k z)) ∧ Rl K W' μ' ∧ Ext ⟨W1.Hi, upd W1.H D (.dK []), fun k => if k = μ1.length then D else W1.at' k⟩ (μ1 ++ [SO.dic []]).length W' μ'.length ∧ (i + 1) + m = items.length ∧ dcD (okG items ok) gf et ek ev (wipeE ε vs) μ1.length (items.drop (i + 1)) μ' = some μ2)
        else (∃ W' μ', W'.H = H3 ∧ Rl K W' μ' ∧ Ext ⟨W1.Hi, upd W1.H D (.dK []), fun k => if k = μ1.length then D else W1.at' k⟩ (μ1 ++ [SO.dic []]).length W' μ'.length ∧ (i + 1) + m = items.length ∧ dcD (okG items ok) gf et ek ev (wipeE ε vs) μ1.length (items.drop (i + 1)) μ' = some μ2)) R3 En3 r3 q5 fun W4 σ4 R4 E4 En4 => ?_))
      · rintro a b ⟨h1, h2⟩
        exact ⟨h2.trans (wipe_wipe vs), h1⟩
      · refine ht W4 σ4 ε4 μ4 bb μ5 _ R4 En4 q6 fun W5 R5 E5 => ?_
        have E25 := (E3.trans E4).trans E5
        cases bb with
        | false =>
          simp only [Bool.false_eq_true, if_false] at q7
          exact iteF ⟨W5, μ5, rfl, R5, E2.trans E25, by omega, q7⟩
        | true =>
          simp only [if_true, Option.bind_eq_some_iff] at q7
          obtain ⟨⟨y, μ6⟩, q8, ⟨z, μ7⟩, q9, kk, q10, q11⟩ := q7
          refine iteT (hk W5 σ4 ε4 μ5 y μ6 _ R5 (En4.mono E5) q8 fun vy W6 R6 E6 r6 => hv W6 σ4 ε4 μ6 z μ7 _ R6 ((En4.mono E5).mono E6) q9 fun vz W7 R7 E7 r7 => ?_)
          have E27 := (E25.trans E6).trans E7
          obtain rfl := keyP_ok r6 q10
          simp only [] at q11
          split at q11
          · rename_i kvs hkj
            split at q11
            · rename_i hc
              obtain ⟨kws, e, rk⟩ := R7.ob _ _ hkj
              have nd : (kvs.map (·.1)).Nodup := of_decide_eq_true hc.2
              obtain ⟨R8, E8⟩ := R7.put (u := .dic (putP kvs kk z)) (ho := .dK (putK kws kk vz)) hkj (by simp) (by simp) ⟨_, rfl, putP_ok r7 rk nd⟩
              have hl : kvs.length = kws.length := Paired.length rk
              have ea := aD _ _ (E2.trans E27)
              rw [ea] at e
              refine ⟨kws, kk, rfl, e, by rw [← hl]; exact cap_lt hc.1, _, _, ?_, R8, (E2.trans E27).trans E8, by omega, q11⟩
              rw [← ea]
            · cases q11
          · cases q11
    · rw [if_neg hG] at q4; cases q4
section
variable {X : Cx} {kx vx tg iter : Expr} {ifs : List Expr} {scope : Scope} {own : List (Str × Nat)} {pos : Pos} {src : SrF} {et : TsF} {ek ev : EvF}
/-- {k: v for NAME in ..} -/
theorem m_dc (i : Nat) (hc : X.calm = true) (hN : X.N.Nodup) (hi : MI X tg iter src) (ok : BlkOk X.N X.env.scope scope own) (hg : ∀ (s : Shared) (H : Hp) (C : Addr) (cl : List (Str × Addr)) (fp : List Addr), PG (X.blk s H scope (compEnvC scope cl C X.env) fp) tg (gName i))
    (ht : ∀ (s : Shared) (H : Hp) (C : Addr) (cl : List (Str × Addr)) (fp : List Addr), MTs (X.blk s H scope (compEnvC scope cl C X.env) fp) ifs et) (hk : ∀ (s : Shared) (H : Hp) (C : Addr) (cl : List (Str × Addr)) (fp : List Addr), ME (X.blk s H scope (compEnvC scope cl C X.env) fp) kx ek)
    (he : ∀ (s : Shared) (H : Hp) (C : Addr) (cl : List (Str × Addr)) (fp : List Addr), ME (X.blk s H scope (compEnvC scope cl C X.env) fp) vx ev)
    (hm : i ∈ own.map (·.2) := by decide) (hs : ∀ x, foldedSetIterable iter X.env x = pure x := by intro _; rfl) : ME X (.DictComp kx vx [⟨tg, iter, ifs, 0⟩] scope pos) (eDc src (tgN i) et ek ev (own.map (·.2))) :=
  VE.m ⟨pe_dc (tt := uT X.K et) (tk := uE X.K ek) (tv := uE X.K ev) hc hN hi ok hg ht hk he hs, adq_dc adqUI (adq_gN i) (onlyN hm) monoN adqUT adqU adqU⟩
end
end VX
namespace VX
open PySem PySem.Spec PyProof.Rows L2

/-! ### [elt for .. in .. for .. in ..] -/
def lc2D (G : Sto → Bool) (tg : TgF) (tt : TsF) (src1 : SrF) (tg1 : TgF) (tt1 : TsF) (te : EvF) (vs1 : List Nat) (w : Evn) : List PV → Sto → Option (List PV × Sto)
  | [], μ => if G μ = true then some ([], μ) else none
  | p :: r, μ => if G μ = true then (tg p w μ).bind fun y => (tt y.1 y.2).bind fun b => if b.1 = true then (src1 y.1 b.2).bind fun x => (lcD (okG x.1.1 x.1.2) tg1 tt1 te (wipeE y.1 vs1) x.1.1 x.2).bind fun z => (lc2D G tg tt src1 tg1 tt1 te vs1 w r z.2).bind fun q => some (z.1 ++ q.1, q.2)
    else lc2D G tg tt src1 tg1 tt1 te vs1 w r b.2 else none
def eLc2 (own : Bool) (src : SrF) (tg : TgF) (tt : TsF) (src1 : SrF) (tg1 : TgF) (tt1 : TsF) (te : EvF) (vs vs1 : List Nat) : EvF := fun ε μ => (src ε μ).bind fun x => (lc2D (okG x.1.1 x.1.2) tg tt src1 tg1 tt1 te vs1 (wipeE ε vs) x.1.1 x.2).bind fun z => mkL own z.1 z.2
theorem EnvR.monoL {K : PySem.W.Frag} {W W' : Wd} {n n' : Nat} {σ : L2.St} {ε : Evn} (h : EnvR K W n σ ε) (e : ExtL W n W' n') : EnvR K W' n' σ ε :=
  ⟨h.1, fun i p q => let ⟨v, a, b⟩ := h.2 i p q; ⟨v, a, b.monoL e⟩⟩
theorem adq_lc2 {K : PySem.W.Frag} {wi wi1 : TI} {src src1 : SrF} {g g1 : TG} {gf gf1 : TgF} {tt tt1 : TT} {et et1 : TsF} {te : TE} {ev : EvF} {vs vs1 : List Nat} (own : Bool) (hi : AdqI K wi src) (hg : AdqG K g gf) (hO : OnlyG g vs) (mG : MonoG g) (ht : AdqT K tt et)
    (hi1 : AdqI K wi1 src1) (hg1 : AdqG K g1 gf1) (hO1 : OnlyG g1 vs1) (mG1 : MonoG g1) (ht1 : AdqT K tt1 et1) (he : Adq K te ev) :
    Adq K (tLc2 wi g tt wi1 g1 tt1 te vs vs1) (eLc2 own src gf et src1 gf1 et1 ev vs vs1) := fun W σ ε μ v μ' Q R En q k => by
  unfold eLc2 at q
  simp only [Option.bind_eq_some_iff] at q
  obtain ⟨⟨⟨items, ok⟩, μ1⟩, q1, ⟨xs, μ2⟩, q2, q3⟩ := q
  have hcap : xs.length ≤ cap := mkL_len q3
  refine hi W σ ε μ items ok μ1 _ R En q1 fun W1 J R1 E1 G => fun D hD => ?_
  have hD0 : W.H D = none := by
    cases z : W.H D with
    | none => rfl
    | some u => obtain ⟨u', e⟩ := E1.th D u z; rw [hD] at e; cases e
  obtain ⟨R1', E1', S1⟩ := Side.new R1 hD
  refine ⟨fun i m H' => ∃ W' μ' acc ws rest, W'.H = H' ∧ Rl K W' μ' ∧ Ext W1 μ1.length W' μ'.length ∧ Side W' μ'.length D ws ∧ Pvs K W' μ'.length acc ws ∧ i + m = items.length ∧ lc2D (okG items ok) gf et src1 gf1 et1 ev vs1 (wipeE ε vs) (items.drop i) μ' = some (rest, μ2) ∧ acc ++ rest = xs,
    ⟨items.length, _, μ1, [], [], xs, rfl, R1', E1', S1, .nil, by omega, by simpa using q2, rfl⟩, fun i m H2 h => ?_⟩
  obtain ⟨W2, μ3, acc, ws, rest, rfl, R2, E2, S2, r2, em, q4, ea⟩ := h
  cases m with
  | zero =>
    have : items.drop i = [] := List.drop_eq_nil_of_le (by omega)
    rw [this] at q4
    simp only [lc2D] at q4
    by_cases hG : okG items ok μ3 = true
    · rw [if_pos hG] at q4
      cases q4
      have st := (G W2 μ2 R2 E2.l (okG_ok hG)).2
      rw [show items.length = i by omega] at st
      rw [List.append_nil] at ea
      subst ea
      exact .inl ⟨st, Side.mkL R2 S2 (E1.trans E2) hD0 r2 q3 k⟩
    · rw [if_neg hG] at q4; cases q4
  | succ m =>
    have hi' : i < items.length := by omega
    rw [List.drop_eq_getElem_cons hi'] at q4
    simp only [lc2D] at q4
    by_cases hG : okG items ok μ3 = true
    · rw [if_pos hG] at q4
      simp only [Option.bind_eq_some_iff] at q4
      obtain ⟨⟨ε4, μ4⟩, q5, ⟨bb, μ5⟩, q6, q7⟩ := q4
      obtain ⟨go, yl⟩ := (G W2 μ3 R2 E2.l (okG_ok hG)).1 i _ (List.getElem?_eq_getElem hi')
      let Nx : Hp → Prop := fun H' => ∃ W' μ' acc ws rest, W'.H = H' ∧ Rl K W' μ' ∧ Ext W1 μ1.length W' μ'.length ∧ Side W' μ'.length D ws ∧ Pvs K W' μ'.length acc ws ∧ (i + 1) + m = items.length ∧ lc2D (okG items ok) gf et src1 gf1 et1 ev vs1 (wipeE ε vs) (items.drop (i + 1)) μ' = some (rest, μ2) ∧ acc ++ rest = xs
      refine .inr ⟨go, Nx, fun H' h => ⟨m, Nat.lt_succ_self _, h⟩, fun x H' hy => ?_⟩
      obtain ⟨W3, rfl, R3, E3, r3⟩ := yl x H' hy
      have En3 : EnvR K W3 μ3.length (L2.wipe σ vs) (wipeE ε vs) := (En.mono ((E1.trans E2).trans E3)).wipe vs
      refine mG _ _ _ _ _ ?_ (hO _ _ _ _ (hg W3 (L2.wipe σ vs) (wipeE ε vs) μ3 _ x ε4 μ4 (fun σ' H' => tt σ' H' fun b H3 => if b = true then wi1 σ' H3 fun J1 H4 => ∃ W1 : Nat → Nat → Hp → Prop, (∃ m, W1 0 m H4) ∧ ∀ j k H, W1 j k H →
          (J1.stop j H ∧ Nx H) ∨ (J1.go j H ∧ ∃ Nx1 : Hp → Prop, (∀ H', Nx1 H' → ∃ k', k' < k ∧ W1 (j + 1) k' H') ∧ ∀ x H', J1.yld j H x H' → g1 x (L2.wipe σ' vs1) H' fun σ3 H5 => L2.wipe σ3 vs1 = L2.wipe σ' vs1 ∧ tt1 σ3 H5 fun b H6 =>
            if b = true then te σ3 H6 fun y H7 => ∃ acc, H7 D = some (.lst acc) ∧ acc.length < sizeLine ∧ Nx1 (upd H7 D (.lst (acc ++ [y]))) else Nx1 H6) else Nx H3) R3 En3 r3 q5 fun W4 σ4 R4 E4 En4 => ?_))
      · rintro a b ⟨h1, h2⟩
        exact ⟨h2.trans (wipe_wipe vs), h1⟩
      · refine ht W4 σ4 ε4 μ4 bb μ5 _ R4 En4 q6 fun W5 R5 E5 => ?_
        have E25 := (E3.trans E4).trans E5
        cases bb with
        | false =>
          simp only [Bool.false_eq_true, if_false] at q7
          exact iteF ⟨W5, μ5, acc, ws, rest, rfl, R5, E2.trans E25, S2.ext E25, Pvs.mono E25 r2, by omega, q7, ea⟩
        | true =>
          simp only [if_true, Option.bind_eq_some_iff] at q7
          obtain ⟨⟨⟨items1, ok1⟩, μ6⟩, q8, ⟨zs, μ7⟩, q9, ⟨qs, μ8⟩, q10, q11⟩ := q7
          cases q11
          refine iteT (hi1 W5 σ4 ε4 μ5 items1 ok1 μ6 _ R5 (En4.mono E5) q8 fun W6 J1 R6 E6 G1 => ?_)
          have E26 := E25.trans E6
          refine ⟨fun j l H' => ∃ W' μ' acc' ws' rest', W'.H = H' ∧ Rl K W' μ' ∧ Ext W1 μ1.length W' μ'.length ∧ ExtL W6 μ6.length W' μ'.length ∧ Side W' μ'.length D ws' ∧ Pvs K W' μ'.length acc' ws' ∧ j + l = items1.length ∧ lcD (okG items1 ok1) gf1 et1 ev (wipeE ε4 vs1) (items1.drop j) μ' = some (rest', μ7) ∧ acc' ++ (rest' ++ qs) = xs,
            ⟨items1.length, W6, μ6, acc, ws, zs, rfl, R6, E2.trans E26, ExtL.refl _ _, S2.ext E26, Pvs.mono E26 r2, by omega, by simpa using q9, by simpa using ea⟩, fun j l H7 h => ?_⟩
          obtain ⟨W7, μ9, acc', ws', rest', rfl, R7, E17, E7, S7, r7, el, p4, pa⟩ := h
          cases l with
          | zero =>
            have : items1.drop j = [] := List.drop_eq_nil_of_le (by omega)
            rw [this] at p4
            simp only [lcD] at p4
            by_cases hG1 : okG items1 ok1 μ9 = true
            · rw [if_pos hG1] at p4
              cases p4
              have st := (G1 W7 _ R7 E7 (okG_ok hG1)).2
              rw [show items1.length = j by omega] at st
              rw [List.nil_append] at pa
              exact .inl ⟨st, W7, _, acc', ws', qs, rfl, R7, E17, S7, r7, by omega, q10, pa⟩
            · rw [if_neg hG1] at p4; cases p4
          | succ l =>
            have hj' : j < items1.length := by omega
            rw [List.drop_eq_getElem_cons hj'] at p4
            simp only [lcD] at p4
            by_cases hG1 : okG items1 ok1 μ9 = true
            · rw [if_pos hG1] at p4
              simp only [Option.bind_eq_some_iff] at p4
              obtain ⟨⟨ε9, μa⟩, p5, ⟨b1, μb⟩, p6, p7⟩ := p4
              obtain ⟨go1, yl1⟩ := (G1 W7 μ9 R7 E7 (okG_ok hG1)).1 j _ (List.getElem?_eq_getElem hj')
              let Nx1 : Hp → Prop := fun H' => ∃ W' μ' acc' ws' rest', W'.H = H' ∧ Rl K W' μ' ∧ Ext W1 μ1.length W' μ'.length ∧ ExtL W6 μ6.length W' μ'.length ∧ Side W' μ'.length D ws' ∧ Pvs K W' μ'.length acc' ws' ∧ (j + 1) + l = items1.length ∧ lcD (okG items1 ok1) gf1 et1 ev (wipeE ε4 vs1) (items1.drop (j + 1)) μ' = some (rest', μ7) ∧ acc' ++ (rest' ++ qs) = xs
              refine .inr ⟨go1, Nx1, fun H' h => ⟨l, Nat.lt_succ_self _, h⟩, fun x1 H' hy1 => ?_⟩
              obtain ⟨W8, rfl, R8, E8, r8⟩ := yl1 x1 H' hy1
              have En8 : EnvR K W8 μ9.length (L2.wipe σ4 vs1) (wipeE ε4 vs1) := (((((En4.mono E5).mono E6).monoL E7)).mono E8).wipe vs1
              refine mG1 _ _ _ _ _ ?_ (hO1 _ _ _ _ (hg1 W8 (L2.wipe σ4 vs1) (wipeE ε4 vs1) μ9 _ x1 ε9 μa (fun σ' H' => tt1 σ' H' fun b H6 => if b = true then te σ' H6 fun y H7 => ∃ acc, H7 D = some (.lst acc) ∧ acc.length < sizeLine ∧ Nx1 (upd H7 D (.lst (acc ++ [y]))) else Nx1 H6) R8 En8 r8 p5 fun W9 σ9 R9 E9 En9 => ?_))
              · rintro a b ⟨h1, h2⟩
                exact ⟨h2.trans (wipe_wipe vs1), h1⟩
              · refine ht1 W9 σ9 ε9 μa b1 μb _ R9 En9 p6 fun Wa Ra Ea => ?_
                have E7a := (E8.trans E9).trans Ea
                cases b1 with
                | false =>
                  simp only [Bool.false_eq_true, if_false] at p7
                  exact iteF ⟨Wa, μb, acc', ws', rest', rfl, Ra, E17.trans E7a, E7.trans E7a.l, S7.ext E7a, Pvs.mono E7a r7, by omega, p7, pa⟩
                | true =>
                  simp only [if_true, Option.bind_eq_some_iff] at p7
                  obtain ⟨⟨y, μc⟩, p8, ⟨us, μd⟩, p9, p10⟩ := p7
                  cases p10
                  refine iteT (he Wa σ9 ε9 μb y μc _ Ra (En9.mono Ea) p8 fun vy Wb Rb Eb rb => ?_)
                  have E7b := E7a.trans Eb
                  have Sb := S7.ext E7b
                  obtain ⟨Rc, Ec, Sc, tr⟩ := Side.put (ws := ws' ++ [vy]) Rb Sb (E17.trans E7b) hD
                  have EL := E7.trans E7b.l
                  refine ⟨ws', Sb.at_, ?_, ⟨_, μc, acc' ++ [y], ws' ++ [vy], us, rfl, Rc, Ec, ⟨EL.im, EL.io, EL.le⟩, Sc, ?_, by omega, p9, by rw [← pa]; simp⟩⟩
                  · have : acc'.length = ws'.length := r7.length
                    rw [← pa] at hcap
                    refine cap_lt ?_
                    simp at hcap; omega
                  · exact L2.Paired.mapP ((Pvs.mono E7b r7).append (.cons rb .nil)) fun _ _ q => tr q
            · rw [if_neg hG1] at p4; cases p4
    · rw [if_neg hG] at q4; cases q4
section
variable {X : Cx} {elt tg iter tg1 iter1 : Expr} {ifs ifs1 : List Expr} {scope : Scope} {own : List (Str × Nat)} {pos : Pos} {src src1 : SrF} {et et1 : TsF} {ev : EvF}
/-- [elt for NAME in .. for NAME in ..] -/
theorem m_lc2 (mk : Bool) (i i1 : Nat) (hc : X.calm = true) (hN : X.N.Nodup) (hi : MI X tg iter src) (ok : BlkOk X.N X.env.scope scope own)
    (hg : ∀ (s : Shared) (H : Hp) (C : Addr) (cl : List (Str × Addr)) (fp : List Addr), PG (X.blk s H scope (compEnvC scope cl C X.env) fp) tg (gName i))
    (ht : ∀ (s : Shared) (H : Hp) (C : Addr) (cl : List (Str × Addr)) (fp : List Addr), MTs (X.blk s H scope (compEnvC scope cl C X.env) fp) ifs et)
    (hi1 : ∀ (s : Shared) (H : Hp) (C : Addr) (cl : List (Str × Addr)) (fp : List Addr), MI (X.blk s H scope (compEnvC scope cl C X.env) fp) tg1 iter1 src1)
    (hg1 : ∀ (s : Shared) (H : Hp) (C : Addr) (cl : List (Str × Addr)) (fp : List Addr), PG (X.blk s H scope (compEnvC scope cl C X.env) fp) tg1 (gName i1))
    (ht1 : ∀ (s : Shared) (H : Hp) (C : Addr) (cl : List (Str × Addr)) (fp : List Addr), MTs (X.blk s H scope (compEnvC scope cl C X.env) fp) ifs1 et1)
    (he : ∀ (s : Shared) (H : Hp) (C : Addr) (cl : List (Str × Addr)) (fp : List Addr), ME (X.blk s H scope (compEnvC scope cl C X.env) fp) elt ev)
    (hm : i ∈ own.map (·.2) := by decide) (hm1 : ∀ j ∈ [i1], j ∈ own.map (·.2) := by decide) (hs : ∀ x, foldedSetIterable iter X.env x = pure x := by intro _; rfl) (hs1 : ∀ env x, foldedSetIterable iter1 env x = pure x := by intro _ _; rfl) :
    ME X (.ListComp elt [⟨tg, iter, ifs, 0⟩, ⟨tg1, iter1, ifs1, 0⟩] scope pos) (eLc2 mk src (tgN i) et src1 (tgN i1) et1 ev (own.map (·.2)) [i1]) :=
  VE.m ⟨pe_lc2 (tt := uT X.K et) (tt1 := uT X.K et1) (te := uE X.K ev) (wi1 := uI X.K src1) (g1 := gName i1) (vs1 := [i1]) hc hN hi ok hm1 hg ht hi1 hg1 ht1 he hs hs1, adq_lc2 mk adqUI (adq_gN i) (onlyN hm) monoN adqUT adqUI (adq_gN i1) (onlyN (by simp)) monoN adqUT adqU⟩
/-- [elt for NAME in .. for a, b in ..] -/
theorem m_lc2T {kk : Nat} {tes : List Expr} {tpos : Pos} (mk : Bool) (i : Nat) (is : List Nat) (n : Nat) (hc : X.calm = true) (hN : X.N.Nodup) (hi : MI X tg iter src) (ok : BlkOk X.N X.env.scope scope own)
    (hg : ∀ (s : Shared) (H : Hp) (C : Addr) (cl : List (Str × Addr)) (fp : List Addr), PG (X.blk s H scope (compEnvC scope cl C X.env) fp) tg (gName i))
    (ht : ∀ (s : Shared) (H : Hp) (C : Addr) (cl : List (Str × Addr)) (fp : List Addr), MTs (X.blk s H scope (compEnvC scope cl C X.env) fp) ifs et)
    (hi1 : ∀ (s : Shared) (H : Hp) (C : Addr) (cl : List (Str × Addr)) (fp : List Addr), MI (X.blk s H scope (compEnvC scope cl C X.env) fp) (.Tuple tes kk tpos) iter1 src1)
    (hg1 : ∀ (s : Shared) (H : Hp) (C : Addr) (cl : List (Str × Addr)) (fp : List Addr), Nms (X.blk s H scope (compEnvC scope cl C X.env) fp) tes is)
    (hn : ∀ (s : Shared) (H : Hp) (C : Addr) (cl : List (Str × Addr)) (fp : List Addr), (assignEach tes (X.blk s H scope (compEnvC scope cl C X.env) fp).env).length = n)
    (hst : ∀ (s : Shared) (H : Hp) (C : Addr) (cl : List (Str × Addr)) (fp : List Addr), (assignEach tes (X.blk s H scope (compEnvC scope cl C X.env) fp).env).findIdx? (·.1) = none)
    (ht1 : ∀ (s : Shared) (H : Hp) (C : Addr) (cl : List (Str × Addr)) (fp : List Addr), MTs (X.blk s H scope (compEnvC scope cl C X.env) fp) ifs1 et1)
    (he : ∀ (s : Shared) (H : Hp) (C : Addr) (cl : List (Str × Addr)) (fp : List Addr), ME (X.blk s H scope (compEnvC scope cl C X.env) fp) elt ev)
    (hm : i ∈ own.map (·.2) := by decide) (hm1 : ∀ j ∈ is, j ∈ own.map (·.2) := by decide) (hs : ∀ x, foldedSetIterable iter X.env x = pure x := by intro _; rfl) (hs1 : ∀ env x, foldedSetIterable iter1 env x = pure x := by intro _ _; rfl) :
    ME X (.ListComp elt [⟨tg, iter, ifs, 0⟩, ⟨.Tuple tes kk tpos, iter1, ifs1, 0⟩] scope pos) (eLc2 mk src (tgN i) et src1 (tgT n (tgNs is)) et1 ev (own.map (·.2)) is) :=
  VE.m ⟨pe_lc2 (tt := uT X.K et) (tt1 := uT X.K et1) (te := uE X.K ev) (wi1 := uI X.K src1) (g1 := gTup X.K n (gNs is)) (vs1 := is) hc hN hi ok hm1 hg ht hi1 (fun s H C cl fp => pg_tup (X := X.blk s H scope (compEnvC scope cl C X.env) fp) hc (hg1 s H C cl fp).pgs (hn s H C cl fp) (hst s H C cl fp)) ht1 he hs hs1,
    adq_lc2 mk adqUI (adq_gN i) (onlyN hm) monoN adqUT adqUI (adq_gT (adq_gNs is)) (onlyT (onlyNs fun j hj => hj)) (monoT (monoNs is)) adqUT adqU⟩
end
end VX
namespace VX
open PySem PySem.Spec PyProof.Rows L2

/-! ### dicts whose keys are tuples of ints and texts -/
def keyAs : List PyData → Option (List Key)
  | [] => some []
  | .int i :: r => (keyAs r).map (Sum.inl i :: ·)
  | .str z :: r => (keyAs r).map (Sum.inr z :: ·)
  | _ :: _ => none
@[simp] def keyT : PV → Option (List Key)
  | .dat (.tuple ds) => keyAs ds
  | _ => none
@[simp] def dtuOf (μ : Sto) : PV → Option (Nat × List (List Key × PV))
  | .ptr k => match μ[k]? with | some (.dtu kvs) => some (k, kvs) | _ => none
  | _ => none
theorem keyAs_ok {H : Hp} : ∀ {ds : List PyData} {vs : List V} {ks : List Key}, DtAll H vs ds → keyAs ds = some ks → vs = ks.map kV
  | [], _, _, .nil, h => by cases h; rfl
  | d :: ds, v :: vs, ks, .cons a b, h => by
    cases d with
    | int i =>
      simp only [keyAs, Option.map_eq_some_iff] at h
      obtain ⟨r, h1, rfl⟩ := h
      cases a
      rw [keyAs_ok b h1]; rfl
    | str z =>
      simp only [keyAs, Option.map_eq_some_iff] at h
      obtain ⟨r, h1, rfl⟩ := h
      cases a
      rw [keyAs_ok b h1]; rfl
    | none => cases h
    | bool => cases h
    | list => cases h
    | tuple => cases h
    | dict => cases h
section
variable {K : PySem.W.Frag} {W : Wd} {n : Nat} {μ : Sto}
theorem keyT_ok {p : PV} {x : V} {ks : List Key} (R : Rl K W μ) (r : RPV K W n p x) (h : keyT p = some ks) : ∃ b, x = .ref b ∧ W.H b = some (.tup (ks.map kV)) := by
  unfold keyT at h
  split at h
  · cases r with
    | tup e a =>
      refine ⟨_, rfl, ?_⟩
      rw [R.sub _ _ e, keyAs_ok a h]
  · cases h
theorem dtuOf_ok {p : PV} {x : V} {d : Nat × List (List Key × PV)} (R : Rl K W μ) (r : RPV K W μ.length p x) (h : dtuOf μ p = some d) : x = .ref (W.at' d.1) ∧ μ[d.1]? = some (.dtu d.2) ∧ ∃ kws, W.H (W.at' d.1) = some (.dT kws) ∧ Tvs K W μ.length d.2 kws := by
  unfold dtuOf at h
  split at h
  · rename_i k
    split at h
    · rename_i kvs hk
      cases h
      obtain ⟨kws, e, r2⟩ := R.ob k _ hk
      exact ⟨r.2, hk, kws, e, r2⟩
    · cases h
  · cases h
theorem valT_ok {kvs : List (List Key × PV)} {kws : List (List Key × V)} {k : List Key} (h : Tvs K W n kvs kws) : (valP kvs k = none → valV kws k = none) ∧ ∀ p, valP kvs k = some p → ∃ v, valV kws k = some v ∧ RPV K W n p v := by
  induction h with
  | nil => exact ⟨fun _ => rfl, fun p e => by cases e⟩
  | @cons a b _ _ r t ih =>
    unfold valP
    by_cases e : a.1 = k
    · rw [if_pos e, valV_pos (by rw [← r.1]; exact e)]
      exact ⟨fun z => (by cases z), fun p z => (by cases z; exact ⟨_, rfl, r.2⟩)⟩
    · rw [if_neg e, valV_neg (by rw [← r.1]; exact e)]
      exact ih
theorem keys_tvs {kvs : List (List Key × PV)} {kws : List (List Key × V)} (h : Tvs K W n kvs kws) : kvs.map (·.1) = kws.map (·.1) := by
  induction h with
  | nil => rfl
  | cons r t ih => simp only [List.map_cons, r.1, ih]
theorem putVT_cons {p : List Key × V} {r : List (List Key × V)} {k : List Key} {v : V} (nd : ((p :: r).map (·.1)).Nodup) : putK (p :: r) k v = if p.1 = k then (k, v) :: r else p :: putK r k v := by
  simp only [List.map_cons, List.nodup_cons] at nd
  unfold putK
  by_cases e : p.1 = k
  · simp only [List.any_cons, e, decide_true, Bool.true_or, if_true, List.map_cons]
    congr 1
    rw [← e] at *
    have : ∀ q ∈ r, ¬ q.1 = p.1 := fun q hq z => nd.1 (List.mem_map.mpr ⟨q, hq, z⟩)
    conv => rhs; rw [← List.map_id r]
    exact List.map_congr_left fun q hq => by rw [if_neg (this q hq)]; rfl
  · simp only [List.any_cons, e, decide_false, Bool.false_or, if_false, List.map_cons]
    split
    · rfl
    · rfl
theorem putT_ok {k : List Key} {p : PV} {v : V} (r : RPV K W n p v) : ∀ {kvs : List (List Key × PV)} {kws : List (List Key × V)}, Tvs K W n kvs kws → (kvs.map (·.1)).Nodup → Tvs K W n (putP kvs k p) (putK kws k v)
  | [], _, .nil, _ => .cons ⟨rfl, r⟩ .nil
  | a :: as, b :: bs, .cons q t, nd => by
    have nd' : ((b :: bs).map (·.1)).Nodup := by
      rw [← keys_tvs (K := K) (W := W) (n := n) (.cons q t)]; exact nd
    rw [putVT_cons nd']
    unfold putP
    by_cases e : a.1 = k
    · rw [if_pos e, if_pos (by rw [← q.1]; exact e)]
      exact .cons ⟨rfl, r⟩ t
    · rw [if_neg e, if_neg (by rw [← q.1]; exact e)]
      refine .cons q (putT_ok r t ?_)
      exact (List.nodup_cons.mp nd).2
theorem valT_get {kvs : List (List Key × PV)} {kws : List (List Key × V)} {k : List Key} (h : Tvs K W n kvs kws) : (valP kvs k).isSome = (valV kws k).isSome := by
  obtain ⟨h1, h2⟩ := valT_ok (k := k) h
  cases q : valP kvs k with
  | none => rw [h1 q]; rfl
  | some p => obtain ⟨v, e, _⟩ := h2 p q; rw [e]; rfl
end
def ndT (kvs : List (List Key × PV)) : Bool := decide ((kvs.map (·.1)).Nodup)
@[simp] def eTGet (o i : EvF) : EvF := fun ε μ => (o ε μ).bind fun x => (i ε x.2).bind fun y => (dtuOf y.2 x.1).bind fun d => (keyT y.1).bind fun k => (valP d.2 k).map fun v => (v, y.2)
@[simp] def eTIn (neg : Bool) (i o : EvF) : EvF := fun ε μ => (i ε μ).bind fun y => (o ε y.2).bind fun x => (dtuOf x.2 x.1).bind fun d => (keyT y.1).map fun k => (.dat (.bool (if neg then !(valP d.2 k).isSome else (valP d.2 k).isSome)), x.2)
@[simp] def sTPut (o i v : EvF) : RnF := fun ε μ => (v ε μ).bind fun z => (o ε z.2).bind fun x => (i ε x.2).bind fun y => (dtuOf y.2 x.1).bind fun d => (keyT y.1).bind fun k =>
  if d.2.length < cap ∧ ndT d.2 = true then some (.nx ε (y.2.set d.1 (.dtu (putP d.2 k z.1)))) else none
section
variable {X : Cx} {e e2 o i iter tg v : Expr} {es : List Expr} {el : ArF} {ev ev2 eo ei : EvF} {pos p tpos : Pos} {elts : List Expr} {kk : Nat}
theorem m_tget (hu : X.A.units + 65 < cLine) (ho : ME X o eo) (hi : ME X i ei) (hs : NoSl i := by intro _ _; rfl) : ME X (.Subscript o i pos) (eTGet eo ei) :=
  VE.m ⟨pe_dget (by omega) ho hi hs, fun W σ ε μ v μ' Q R En q k => by
    unfold eTGet at q
    simp only [Option.bind_eq_some_iff, Option.map_eq_some_iff] at q
    obtain ⟨⟨x, μ1⟩, h1, ⟨y, μ2⟩, h2, d, h3, kk, h4, w, h5, h6⟩ := q
    cases h6
    refine adqU W σ ε μ x μ1 _ R En h1 fun vx W1 R1 E1 r1 => ?_
    refine adqU W1 σ ε μ1 y μ2 _ R1 (En.mono E1) h2 fun vy W2 R2 E2 r2 => ?_
    obtain ⟨rfl, hk, kws, e, rk⟩ := dtuOf_ok R2 (r1.mono E2) h3
    obtain ⟨b, rfl, eb⟩ := keyT_ok R2 r2 h4
    obtain ⟨u, e1, ru⟩ := (valT_ok rk).2 _ h5
    refine ⟨_, u, rfl, ?_, k u W2 R2 (E1.trans E2) ru⟩
    rw [← e1]
    exact DGet.t e eb⟩
theorem adq_tin {K : PySem.W.Frag} : Adq K (tDIn (uE K ei) (uE K eo)) (eTIn false ei eo) := fun W σ ε μ v μ' Q R En q k => by
  unfold eTIn at q
  simp only [Option.bind_eq_some_iff, Option.map_eq_some_iff] at q
  obtain ⟨⟨y, μ1⟩, h1, ⟨x, μ2⟩, h2, d, h3, kk, h4, h5⟩ := q
  cases h5
  refine adqU W σ ε μ y μ1 _ R En h1 fun vy W1 R1 E1 r1 => ?_
  refine adqU W1 σ ε μ1 x μ2 _ R1 (En.mono E1) h2 fun vx W2 R2 E2 r2 => ?_
  obtain ⟨rfl, hk, kws, e, rk⟩ := dtuOf_ok R2 r2 h3
  obtain ⟨b, rfl, eb⟩ := keyT_ok R2 (r1.mono E2) h4
  refine ⟨_, _, rfl, DGet.t e eb, ?_⟩
  rw [← valT_get rk]
  exact k _ W2 R2 (E1.trans E2) (.bl _)
theorem adq_tnotin {K : PySem.W.Frag} : Adq K (tDNotIn (uE K ei) (uE K eo)) (eTIn true ei eo) := fun W σ ε μ v μ' Q R En q k => by
  unfold eTIn at q
  simp only [Option.bind_eq_some_iff, Option.map_eq_some_iff] at q
  obtain ⟨⟨y, μ1⟩, h1, ⟨x, μ2⟩, h2, d, h3, kk, h4, h5⟩ := q
  cases h5
  refine adqU W σ ε μ y μ1 _ R En h1 fun vy W1 R1 E1 r1 => ?_
  refine adqU W1 σ ε μ1 x μ2 _ R1 (En.mono E1) h2 fun vx W2 R2 E2 r2 => ?_
  obtain ⟨rfl, hk, kws, e, rk⟩ := dtuOf_ok R2 r2 h3
  obtain ⟨b, rfl, eb⟩ := keyT_ok R2 (r1.mono E2) h4
  refine ⟨_, _, rfl, DGet.t e eb, ?_⟩
  rw [← valT_get rk]
  exact k _ W2 R2 (E1.trans E2) (.bl _)
theorem m_tin (hu : X.A.units + 65 < cLine) (hi : ME X i ei) (ho : ME X o eo) (h1 : behindInMarks .In o = false := by rfl) : ME X (.Compare i [.In] [o] pos) (eTIn false ei eo) := VE.m ⟨pe_cmp (pc_din (by omega) hi ho) h1, adq_tin⟩
theorem m_tnotin (hu : X.A.units + 65 < cLine) (hi : ME X i ei) (ho : ME X o eo) (h1 : behindInMarks .NotIn o = false := by rfl) : ME X (.Compare i [.NotIn] [o] pos) (eTIn true ei eo) := VE.m ⟨pe_cmp (pc_dnotin (by omega) hi ho) h1, adq_tnotin⟩
theorem t_tin (hu : X.A.units + 65 < cLine) (hi : ME X i ei) (ho : ME X o eo) (h1 : behindInMarks .In o = false := by rfl) : MT X (.Compare i [.In] [o] pos) (tsE (eTIn false ei eo)) := VT.m ⟨pt_cmp (pc_din (by omega) hi ho) h1, adq_tE adq_tin⟩
theorem t_tnotin (hu : X.A.units + 65 < cLine) (hi : ME X i ei) (ho : ME X o eo) (h1 : behindInMarks .NotIn o = false := by rfl) : MT X (.Compare i [.NotIn] [o] pos) (tsE (eTIn true ei eo)) := VT.m ⟨pt_cmp (pc_dnotin (by omega) hi ho) h1, adq_tE adq_tnotin⟩
theorem s_tput {pos' : Pos} (hu : X.A.units + 65 < cLine) (ho : ME X o eo) (hi : ME X i ei) (hv : ME X v ev) (hs : swapsWith v (some (.Subscript o i pos')) pos.line X.env = pure false := by rfl) : MS X (.Assign [.Subscript o i pos'] v pos) (sTPut eo ei ev) :=
  VS.m ⟨ps_dput (by omega) ho hi hv hs, fun W σ ε μ out D R En q k => by
    unfold sTPut at q
    simp only [Option.bind_eq_some_iff] at q
    obtain ⟨⟨z, μ1⟩, h1, ⟨x, μ2⟩, h2, ⟨y, μ3⟩, h3, d, h4, kk, h5, h6⟩ := q
    refine adqU W σ ε μ z μ1 _ R En h1 fun vz W1 R1 E1 r1 => ?_
    refine adqU W1 σ ε μ1 x μ2 _ R1 (En.mono E1) h2 fun vx W2 R2 E2 r2 => ?_
    refine adqU W2 σ ε μ2 y μ3 _ R2 ((En.mono E1).mono E2) h3 fun vy W3 R3 E3 r3 => ?_
    obtain ⟨rfl, hk, kws, e, rk⟩ := dtuOf_ok R3 (r2.mono E3) h4
    obtain ⟨b, rfl, eb⟩ := keyT_ok R3 r3 h5
    simp only [] at h6
    split at h6
    · rename_i hc
      cases h6
      have rz := (r1.mono E2).mono E3
      have nd : (d.2.map (·.1)).Nodup := of_decide_eq_true hc.2
      obtain ⟨R4, E4⟩ := R3.put (u := .dtu (putP d.2 kk z)) (ho := .dT (putK kws kk vz)) hk (by simp) (by simp) ⟨_, rfl, putT_ok rz rk nd⟩
      have hl : d.2.length = kws.length := Paired.length rk
      exact ⟨_, _, rfl, DPut.t e eb (by rw [← hl]; exact cap_lt hc.1), k _ σ R4 (((E1.trans E2).trans E3).trans E4) ((((En.mono E1).mono E2).mono E3).mono E4)⟩
    · cases h6⟩
/-- {}, to have tuples as keys -/
@[simp] def eDicT0 : EvF := fun _ μ => some (.ptr μ.length, μ ++ [.dtu []])
theorem m_dicT0 : ME X (.Dict [] [] pos) eDicT0 := VE.m ⟨pe_dnewT, fun W σ ε μ v μ' Q R En q k => by
  cases q
  intro p hp
  obtain ⟨R', E'⟩ := R.own (o := .dtu []) (ho := .dT []) hp (by simp) ⟨[], rfl, .nil⟩
  exact k _ _ R' E' ⟨by simp, by simp⟩⟩
end

/-! ### a tuple of owned things -/
@[simp] def mkTp (xs : List PV) (μ : Sto) : Option (PV × Sto) := if xs.length ≤ cap then some (.ptr μ.length, μ ++ [.tpl xs]) else none
@[simp] def eTpl (a : ArF) : EvF := eCa mkTp a
theorem mkTp_ok {K : PySem.W.Frag} {W : Wd} {μ μ' : Sto} {xs : List PV} {vs : List V} {v : PV} {Q : VK} (R : Rl K W μ) (r : Pvs K W μ.length xs vs) (h : mkTp xs μ = some (v, μ')) (k : Kont K W μ.length μ' v Q) :
    vs.length ≤ sizeLine ∧ ∀ p, W.H p = none → Q (.ref p) (upd W.H p (.tup vs)) := by
  unfold mkTp at h
  by_cases hc : xs.length ≤ cap
  · rw [if_pos hc] at h
    cases h
    refine ⟨by rw [← r.length]; exact cap_ok hc, fun p hp => ?_⟩
    obtain ⟨R', E⟩ := R.own (o := .tpl xs) (ho := .tup vs) hp (by simp) ⟨vs, rfl, r⟩
    exact k _ _ R' E ⟨by simp, by simp⟩
  · rw [if_neg hc] at h; cases h
section
variable {X : Cx} {e : Expr} {es : List Expr} {el : ArF} {pos p : Pos}
theorem m_tpl {x1} (h : MA X es el) : ME X (.Tuple es x1 pos) (eTpl el) := VE.m ⟨pe_tup h.v.pa, fun W σ ε μ v μ' Q R En q k => by
  unfold eTpl eCa at q
  simp only [Option.bind_eq_some_iff] at q
  obtain ⟨⟨xs, μ1⟩, h1, h2⟩ := q
  exact h.v.ad W σ ε μ xs μ1 _ R En h1 fun vs W1 R1 E1 r1 => mkTp_ok R1 r1 h2 (k.ext E1)⟩
/-! ### len, sorted of dicts; int of a text -/
@[simp] def fLenD : CaF := fun xs μ => match xs with
  | [p] => (dicOf μ p).map fun d => (.dat (.int d.2.length), μ)
  | _ => none
def keyIs : List (Key × PV) → Option (List Int)
  | [] => some []
  | (.inl i, _) :: r => (keyIs r).map (i :: ·)
  | (.inr _, _) :: _ => none
@[simp] def fSortD (own : Bool) : CaF := fun xs μ => match xs with
  | [p] => (dicOf μ p).bind fun d => (keyIs d.2).bind fun ns => if ns.length < 64 then mkL own ((isort ns).map fun n => .dat (.int n)) μ else none
  | _ => none
@[simp] def fIntS : CaF := fun xs μ => match xs with
  | [.dat (.str z)] => if z.length ≤ 640 then (PySem.intText? z).map fun n => (.dat (.int n), μ) else none
  | _ => none
theorem ac_lenD {K : PySem.W.Frag} : ACa K (fun xs H Q => ∃ a kvs, xs = [V.ref a] ∧ H a = some (.dK kvs) ∧ Q (.int kvs.length) H) fLenD := fun W μ xs ps v μ' Q R r h k => by
  unfold fLenD at h
  split at h
  · obtain ⟨x, rfl, rx⟩ := pvs1 r
    simp only [Option.map_eq_some_iff] at h
    obtain ⟨d, h1, h2⟩ := h
    cases h2
    obtain ⟨rfl, hk, kws, e, rk⟩ := dicOf_ok R rx h1
    refine ⟨_, kws, rfl, e, ?_⟩
    rw [← Paired.length rk]
    exact k.now R (.int _)
  · cases h
theorem keyIs_ok {K : PySem.W.Frag} {W : Wd} {n : Nat} : ∀ {kvs : List (Key × PV)} {kws : List (Key × V)} {ns : List Int}, Kvs K W n kvs kws → keyIs kvs = some ns → kws.map (·.1) = ns.map Sum.inl
  | [], _, _, .nil, h => by cases h; rfl
  | (.inl i, p) :: kvs, b :: bs, ns, .cons q t, h => by
    simp only [keyIs, Option.map_eq_some_iff] at h
    obtain ⟨r, h1, rfl⟩ := h
    simp only [List.map_cons, ← q.1, keyIs_ok t h1]
  | (.inr _, _) :: _, _, _, _, h => by cases h
theorem ac_sortD {K : PySem.W.Frag} (own : Bool) : ACa K (fun xs H Q => ∃ (a : Addr) (kvs : List (Key × V)) (ks : List Int), xs = [.ref a] ∧ Rd H a (.dK kvs) ∧ kvs.map (·.1) = ks.map Sum.inl ∧ ks.length < 64 ∧
    ∀ (ys : List Int) (p : Addr), ys.Perm ks → ys.Pairwise (· ≤ ·) → H p = none → Q (.ref p) (upd H p (.lst (ys.map V.int)))) (fSortD own) := fun W μ xs ps v μ' Q R r h k => by
  unfold fSortD at h
  split at h
  · obtain ⟨x, rfl, rx⟩ := pvs1 r
    simp only [Option.bind_eq_some_iff] at h
    obtain ⟨d, h1, ns, h2, h3⟩ := h
    split at h3
    · rename_i hlen
      obtain ⟨rfl, hk, kws, e, rk⟩ := dicOf_ok R rx h1
      refine ⟨_, kws, ns, rfl, .inl e, keyIs_ok rk h2, hlen, fun ys p pm st hp => ?_⟩
      rw [isort_uniq pm st]
      exact (mkL_ok R pvsInts h3 k).2 p hp
    · cases h3
  · cases h
theorem ac_intS {K : PySem.W.Frag} : ACa K (fun xs H Q => ∃ a n, xs = [.str a] ∧ PySem.intText? a = some n ∧ a.length ≤ 640 ∧ Q (.int n) H) fIntS := fun W μ xs ps v μ' Q R r h k => by
  unfold fIntS at h
  split at h
  · rename_i z
    obtain ⟨x, rfl, rx⟩ := pvs1 r
    obtain rfl := rpv_str rx
    split at h
    · rename_i hl
      simp only [Option.map_eq_some_iff] at h
      obtain ⟨n, h1, h2⟩ := h
      cases h2
      exact ⟨z, n, rfl, h1, hl, k.now R (.int _)⟩
    · cases h
  · cases h
theorem m_lenD (hg : Gl X "len") (hm : X.mg "len" = none) (h : MA X [e] el) (he : starEach (e :: []) X.env = (false, eval e X.env) :: starEach [] X.env := by rfl) (hpl : (backTo pos (starEach [] X.env)).any (·.1) = false := by rfl) : ME X (.Call (.Name "len" p) [e] [] pos) (eCa fLenD el) := m_ca call_lenD ac_lenD hg hm PySem.boot_len h (by decide) (by decide) he hpl
theorem m_sortD (own : Bool) (hc : X.calm = true) (hg : Gl X "sorted") (hm : X.mg "sorted" = none) (h : MA X [e] el) (he : starEach (e :: []) X.env = (false, eval e X.env) :: starEach [] X.env := by rfl) (hpl : (backTo pos (starEach [] X.env)).any (·.1) = false := by rfl) : ME X (.Call (.Name "sorted" p) [e] [] pos) (eCa (fSortD own) el) := m_ca (call_sortedDI hc) (ac_sortD own) hg hm (by decide +kernel) h (by decide) (by decide) he hpl
theorem m_intS (hg : Gl X "int") (hm : X.mg "int" = none) (h : MA X [e] el) (he : starEach (e :: []) X.env = (false, eval e X.env) :: starEach [] X.env := by rfl) (hpl : (backTo pos (starEach [] X.env)).any (·.1) = false := by rfl) : ME X (.Call (.Name "int" p) [e] [] pos) (eCa fIntS el) := m_caT call_int_str ac_intS hg hm (by decide +kernel) h (by decide) (by decide) he hpl
/-! ### z[::-1], a text -/
theorem rev_ix (z : Str) : (Builtin.Str.strSliceIndices none none (-1) z.length).filterMap (z.cps[·]?) = z.cps.toList.reverse := by
  have e : Builtin.Str.strSliceIndices none none (-1) z.length = (List.range z.cps.size).reverse := by
    unfold Builtin.Str.strSliceIndices
    simp only [show ¬ ((-1 : Int) > 0) by omega, if_false]
    show sliceRange ((z.cps.size : Int) - 1) (-1) (-1) = _
    rw [PySem.W.krv_sliceRange, PySem.W.krv_range]
  rw [e, List.filterMap_reverse, PySem.W.krv_all]
def tRevS (te : TE) : TE := fun σ H Q => te σ H fun x H1 => ∃ z, x = .str z ∧ z.length ≤ sizeLine ∧ Q (.str ⟨z.cps.toList.reverse.toArray⟩) H1
theorem pe_revS {e : Expr} {te : TE} {k : Nat} {p1 p2 p3 pos : Pos} (he : PE X e te) : PE X (.Subscript e (.Slice none none (some (.UnaryOp .USub (.Constant (.int 1) k p1) p2)) p3) pos) (tRevS te) := by
  refine ⟨fun pins s σ H Q I h => ?_⟩
  refine Subscript_ (thn (he.run pins s σ H _ I h) fun v s1 ⟨x, H1, I1, r1, q1⟩ => ?_)
  obtain ⟨z, ex, hz, q⟩ := q1
  subst ex
  obtain ⟨t, rfl⟩ := r1
  have hst : PO X (some (.UnaryOp .USub (.Constant (.int 1) k p1) p2)) (tPart (tUn (rU fun i => .int (-i)) (tC (.int 1)))) := po_some (pe_un un_neg pe_int)
  refine wpAny_Slice (thn (po_none.run pins s1 σ H1 (fun o H2 => o = none ∧ H2 = H1) I1 ⟨rfl, rfl⟩) fun vl s2 ⟨l, H2, I2, pl, el, e2⟩ => ?_)
  subst el e2
  refine thn (po_none.run pins s2 σ H2 (fun o H3 => o = none ∧ H3 = H2) I2 ⟨rfl, rfl⟩) fun vu s3 ⟨u, H3, I3, pu, eu, e3⟩ => ?_
  subst eu e3
  refine thn (hst.run pins s3 σ H3 (fun o H4 => o = some (-1) ∧ H4 = H3) I3 ⟨1, rfl, -1, rfl, rfl, rfl⟩) fun vs s4 ⟨o, H4, I4, ps, eo, e4⟩ => ?_
  subst eo e4
  have I5 : Inv X pins σ H4 { s4 with heap := s4.heap.push { cls := .type "slice", data := .fields #[vl, vu, vs] } } := I4.kept (t' := s4.toks) fun b ob q => Heap.get?_push_of_some _ q
  show wpAny (model X.prog X.w) X.A (subscriptTail e (.Slice none none (some (.UnaryOp .USub (.Constant (.int 1) k p1) p2)) p3) (.str z t) (.ref s4.heap.objs.size)) (EP X pins σ Q) X.xe { s4 with heap := s4.heap.push { cls := .type "slice", data := .fields #[vl, vu, vs] } }
  refine tail_any (ops := [.str z t, .ref s4.heap.objs.size]) (typeIs_str _ _ _) (PySem.F.slot_str_getitem.lookup) ?_ (by with_unfolding_all rfl)
  obtain ⟨l, rfl, hl0⟩ := IsPart.raw pl
  obtain ⟨u, rfl, hu0⟩ := IsPart.raw pu
  obtain ⟨sp, rfl, hs0⟩ := IsPart.raw ps
  have el : l = none := by cases l with | none => rfl | some a => cases hl0
  have eu : u = none := by cases u with | none => rfl | some a => cases hu0
  subst el eu
  obtain ⟨t2, rfl⟩ : ∃ t2, sp = some (-1, t2) := by
    cases sp with
    | none => cases hs0
    | some a => obtain ⟨a1, a2⟩ := a; simp at hs0; exact ⟨a2, by rw [hs0]⟩
  refine wpAny_getItem_str_slice (l := none) (u := none) (st := some (-1, t2)) ⟨_, Heap.get?_push_size _ rfl, rfl, rfl⟩ rfl ?_
  show Made.post (if ((-1 : Int) == 1 && (Builtin.Str.strSliceIndices none none (-1) z.length).length == z.length) = true then Made.val (.str z t)
    else Made.str ⟨((Builtin.Str.strSliceIndices none none (-1) z.length).filterMap (z.cps[·]?)).toArray⟩) (EP X pins σ Q) _
  rw [if_neg (by simp), rev_ix]
  exact ⟨by simpa [Str.length] using hz, .str _, H4, I5.tok _, ⟨_, rfl⟩, q⟩
@[simp] def eRevS (e : EvF) : EvF := fun ε μ => (e ε μ).bind fun x => match x.1 with | .dat (.str z) => if z.length ≤ cap then some (.dat (.str ⟨z.cps.toList.reverse.toArray⟩), x.2) else none | _ => none
theorem m_revS {ev : EvF} {k : Nat} {p1 p2 p3 : Pos} (he : ME X e ev) : ME X (.Subscript e (.Slice none none (some (.UnaryOp .USub (.Constant (.int 1) k p1) p2)) p3) pos) (eRevS ev) :=
  VE.m ⟨pe_revS he, fun W σ ε μ v μ' Q R En q kk => by
    unfold eRevS at q
    simp only [Option.bind_eq_some_iff] at q
    obtain ⟨⟨x, μ1⟩, h1, h2⟩ := q
    refine adqU W σ ε μ x μ1 _ R En h1 fun vx W1 R1 E1 r1 => ?_
    simp only [] at h2
    split at h2
    · rename_i z
      split at h2
      · rename_i hl
        cases h2
        obtain rfl := rpv_str r1
        exact ⟨z, rfl, cap_ok hl, kk _ W1 R1 E1 (.str _)⟩
      · cases h2
    · cases h2⟩
end
end VX
namespace VX
open PySem L2

/-! ### reckoning with the functions -/
theorem forD_gen {G : Sto → Bool} {tg : TgF} {b : RnF} (I : Nat → Evn → Sto → Prop) (P : Out → Prop) (items : List PV) (hG : ∀ i ε μ, I i ε μ → G μ = true)
    (step : ∀ i p ε μ, items[i]? = some p → I i ε μ → ∃ ε1 μ1 o, tg p ε μ = some (ε1, μ1) ∧ b ε1 μ1 = some o ∧ (match o with | .nx ε μ => I (i + 1) ε μ | .ct ε μ => I (i + 1) ε μ | .bk ε μ => P (.nx ε μ) | .rt v μ => P (.rt v μ)))
    (last : ∀ ε μ, I items.length ε μ → P (.nx ε μ)) {ε : Evn} {μ : Sto} (h0 : I 0 ε μ) : ∃ o, forD G tg b items ε μ = some o ∧ P o := by
  have key : ∀ (m i : Nat) (ε : Evn) (μ : Sto), i + m = items.length → I i ε μ → ∃ o, forD G tg b (items.drop i) ε μ = some o ∧ P o := by
    intro m
    induction m with
    | zero =>
      intro i ε μ em h
      rw [List.drop_eq_nil_of_le (by omega)]
      refine ⟨.nx ε μ, by simp [forD, hG i ε μ h], last ε μ ?_⟩
      rw [show items.length = i by omega]; exact h
    | succ m ih =>
      intro i ε μ em h
      have hi : i < items.length := by omega
      rw [List.drop_eq_getElem_cons hi]
      obtain ⟨ε1, μ1, o, h1, h2, h3⟩ := step i _ ε μ (List.getElem?_eq_getElem hi) h
      simp only [forD, hG i ε μ h, if_true, h1, Option.bind_some, h2]
      cases o with
      | nx ε μ => exact ih (i + 1) ε μ (by omega) h3
      | ct ε μ => exact ih (i + 1) ε μ (by omega) h3
      | bk ε μ => exact ⟨_, rfl, h3⟩
      | rt v μ => exact ⟨_, rfl, h3⟩
  simpa using key items.length 0 ε μ (by omega) h0
/-- no break, no return -/
theorem forD_all {G : Sto → Bool} {tg : TgF} {b : RnF} (I : Nat → Evn → Sto → Prop) (items : List PV) (hG : ∀ i ε μ, I i ε μ → G μ = true)
    (step : ∀ i p ε μ, items[i]? = some p → I i ε μ → ∃ ε1 μ1 ε2 μ2, tg p ε μ = some (ε1, μ1) ∧ b ε1 μ1 = some (.nx ε2 μ2) ∧ I (i + 1) ε2 μ2)
    {ε : Evn} {μ : Sto} (h0 : I 0 ε μ) : ∃ ε' μ', forD G tg b items ε μ = some (.nx ε' μ') ∧ I items.length ε' μ' := by
  obtain ⟨o, h1, ε', μ', rfl, h2⟩ := forD_gen (G := G) (tg := tg) (b := b) I (fun o => ∃ ε' μ', o = .nx ε' μ' ∧ I items.length ε' μ') items hG (fun i p ε μ hp h => by
    obtain ⟨ε1, μ1, ε2, μ2, a, b, c⟩ := step i p ε μ hp h
    exact ⟨ε1, μ1, .nx ε2 μ2, a, b, c⟩) (fun ε μ h => ⟨ε, μ, rfl, h⟩) h0
  exact ⟨ε', μ', h1, h2⟩
theorem whileN_gen {c : TsF} {b : RnF} (I : Nat → Evn → Sto → Prop) (P : Out → Prop)
    (step : ∀ m ε μ, I m ε μ → ∃ t μ1, c ε μ = some (t, μ1) ∧ (t = false → P (.nx ε μ1)) ∧ (t = true → ∃ m', m = m' + 1 ∧ ∃ o, b ε μ1 = some o ∧ (match o with | .nx ε μ => I m' ε μ | .ct ε μ => I m' ε μ | .bk ε μ => P (.nx ε μ) | .rt v μ => P (.rt v μ)))) :
    ∀ (n m : Nat) (ε : Evn) (μ : Sto), m < n → I m ε μ → ∃ o, whileN c b n ε μ = some o ∧ P o := by
  intro n
  induction n with
  | zero => intro m ε μ h; omega
  | succ n ih =>
    intro m ε μ hm h
    obtain ⟨t, μ1, h1, h2, h3⟩ := step m ε μ h
    simp only [whileN, h1, Option.bind_some]
    cases t with
    | false => exact ⟨_, rfl, h2 rfl⟩
    | true =>
      obtain ⟨m', rfl, o, h4, h5⟩ := h3 rfl
      simp only [if_true, h4, Option.bind_some]
      cases o with
      | nx ε μ => exact ih m' ε μ (by omega) h5
      | ct ε μ => exact ih m' ε μ (by omega) h5
      | bk ε μ => exact ⟨_, rfl, h5⟩
      | rt v μ => exact ⟨_, rfl, h5⟩
/-- comprehensions without a test, without owned things -/
theorem lcD_map {G : Sto → Bool} {tg : TgF} {te : EvF} {w : Evn} {μ : Sto} (f : PV → PV) : ∀ items : List PV, (∀ p ∈ items, ∃ ε, tg p w μ = some (ε, μ) ∧ te ε μ = some (f p, μ)) → G μ = true → lcD G tg tsYes te w items μ = some (items.map f, μ)
  | [], _, hG => by simp [lcD, hG]
  | p :: r, h, hG => by
    obtain ⟨ε, h1, h2⟩ := h p List.mem_cons_self
    simp [lcD, hG, h1, tsYes, h2, lcD_map f r (fun q hq => h q (List.mem_cons_of_mem _ hq)) hG]
theorem lcD_filter {G : Sto → Bool} {tg : TgF} {tt : TsF} {te : EvF} {w : Evn} {μ : Sto} (t : PV → Bool) (f : PV → PV) : ∀ items : List PV, (∀ p ∈ items, ∃ ε, tg p w μ = some (ε, μ) ∧ tt ε μ = some (t p, μ) ∧ (t p = true → te ε μ = some (f p, μ))) → G μ = true → lcD G tg tt te w items μ = some ((items.filter t).map f, μ)
  | [], _, hG => by simp [lcD, hG]
  | p :: r, h, hG => by
    obtain ⟨ε, h1, h2, h3⟩ := h p List.mem_cons_self
    have ih := lcD_filter t f r (fun q hq => h q (List.mem_cons_of_mem _ hq)) hG
    cases q : t p with
    | true => simp [lcD, hG, h1, h2, q, h3 q, ih]
    | false => simp [lcD, hG, h1, h2, q, ih]
abbrev dN (n : Nat) : PyData := .int (n : Int)
abbrev dL (ns : List Nat) : PyData := .list (ns.map fun (n : Nat) => .int (n : Int))
theorem asDats_dats (ds : List PyData) : asDats (ds.map PV.dat) = some ds := asDats_map ds
theorem okG_none {items : List PV} : okG items none = fun _ => true := rfl
theorem atI_natD {α : Type} {xs : List α} {j : Nat} (h : j < xs.length) : atI xs (j : Int) = some xs[j] := atI_nat (List.getElem?_eq_getElem h)
theorem ixN_natD {n j : Nat} (h : j < n) : ixN n (j : Int) = some j := by
  unfold ixN
  rw [if_pos (by omega), if_pos (by omega)]
  simp
end VX
namespace VX
open PySem L2

/-! ### data without truth values and dicts: == is equality -/
mutual
def nb : PyData → Bool
  | .bool _ => false
  | .dict _ => false
  | .list ds => nbs ds
  | .tuple ds => nbs ds
  | _ => true
def nbs : List PyData → Bool
  | [] => true
  | d :: ds => nb d && nbs ds
end
mutual
theorem eq_of_eqv : ∀ (d e : PyData), nb d = true → nb e = true → PyData.eqv d e = true → d = e
  | .none, e, h, h', q => by cases e <;> simp_all [PyData.eqv, nb]
  | .bool b, e, h, h', q => by simp [nb] at h
  | .dict b, e, h, h', q => by simp [nb] at h
  | .int i, e, h, h', q => by cases e <;> simp_all [PyData.eqv, nb]
  | .str i, e, h, h', q => by cases e <;> simp_all [PyData.eqv, nb]
  | .list ds, e, h, h', q => by
    cases e with
    | list es =>
      simp only [nb] at h h'
      simp only [PyData.eqv] at q
      rw [eqs_of_eqv ds es h h' q]
    | _ => simp_all [PyData.eqv, nb]
  | .tuple ds, e, h, h', q => by
    cases e with
    | tuple es =>
      simp only [nb] at h h'
      simp only [PyData.eqv] at q
      rw [eqs_of_eqv ds es h h' q]
    | _ => simp_all [PyData.eqv, nb]
theorem eqs_of_eqv : ∀ (d e : List PyData), nbs d = true → nbs e = true → PyData.eqvAll d e = true → d = e
  | [], [], _, _, _ => rfl
  | [], _ :: _, _, _, q => by simp [PyData.eqvAll] at q
  | _ :: _, [], _, _, q => by simp [PyData.eqvAll] at q
  | d :: ds, e :: es, h, h', q => by
    simp only [nbs, Bool.and_eq_true] at h h'
    simp only [PyData.eqvAll, Bool.and_eq_true] at q
    rw [eq_of_eqv d e h.1 h'.1 q.1, eqs_of_eqv ds es h.2 h'.2 q.2]
end
mutual
theorem eqv_self : ∀ d : PyData, nb d = true → PyData.eqv d d = true
  | .none, _ => by simp [PyData.eqv]
  | .bool b, h => by simp [nb] at h
  | .dict b, h => by simp [nb] at h
  | .int i, _ => by simp [PyData.eqv]
  | .str i, _ => by simp [PyData.eqv]
  | .list ds, h => by simp only [PyData.eqv]; exact eqvAll_self ds (by simpa [nb] using h)
  | .tuple ds, h => by simp only [PyData.eqv]; exact eqvAll_self ds (by simpa [nb] using h)
theorem eqvAll_self : ∀ d : List PyData, nbs d = true → PyData.eqvAll d d = true
  | [], _ => by simp [PyData.eqvAll]
  | d :: ds, h => by
    simp only [nbs, Bool.and_eq_true] at h
    simp only [PyData.eqvAll, Bool.and_eq_true]
    exact ⟨eqv_self d h.1, eqvAll_self ds h.2⟩
end
theorem eqv_iff {d e : PyData} (h : nb d = true) (h' : nb e = true) : PyData.eqv d e = true ↔ d = e := ⟨eq_of_eqv d e h h', fun q => by rw [q]; exact eqv_self e h'⟩
open Classical in
theorem eqv_dec {d e : PyData} (h : nb d = true) (h' : nb e = true) : PyData.eqv d e = decide (d = e) := by
  by_cases q : d = e
  · rw [decide_eq_true q]; exact (eqv_iff h h').mpr q
  · rw [decide_eq_false q]
    cases z : PyData.eqv d e with
    | false => rfl
    | true => exact absurd ((eqv_iff h h').mp z) q
/-! shapes -/
def Sd (n : Nat) (d : PyData) : Prop := d.canLay0 = true ∧ d.depth ≤ n
def Sds (n : Nat) (ds : List PyData) : Prop := PyData.canLayAll0 ds = true ∧ PyData.depthAll ds ≤ n
theorem sds_nil {n : Nat} : Sds n [] := ⟨by simp [PyData.canLayAll0], by simp [PyData.depthAll]⟩
theorem sds_cons {n : Nat} {d : PyData} {ds : List PyData} (h : Sd n d) (h' : Sds n ds) : Sds n (d :: ds) := ⟨by simp [PyData.canLayAll0, h.1, h'.1], by simp only [PyData.depthAll]; have := h.2; have := h'.2; omega⟩
theorem sds_all {n : Nat} : ∀ {ds : List PyData}, (∀ d ∈ ds, Sd n d) → Sds n ds
  | [], _ => sds_nil
  | d :: ds, h => sds_cons (h d List.mem_cons_self) (sds_all fun e he => h e (List.mem_cons_of_mem _ he))
theorem sd_int {n : Nat} {i : Int} : Sd n (.int i) := ⟨by simp [PyData.canLay0], by simp [PyData.depth]⟩
theorem sd_non {n : Nat} : Sd n .none := ⟨by simp [PyData.canLay0], by simp [PyData.depth]⟩
theorem sd_list {n : Nat} {ds : List PyData} (h : Sds n ds) : Sd (n + 1) (.list ds) := ⟨by simp [PyData.canLay0, h.1], by simp only [PyData.depth]; have := h.2; omega⟩
theorem sd_tup {n : Nat} {ds : List PyData} (h : Sds n ds) : Sd (n + 1) (.tuple ds) := ⟨by simp [PyData.canLay0, h.1], by simp only [PyData.depth]; have := h.2; omega⟩
theorem Sd.shaped {n : Nat} {d : PyData} (h : Sd n d) (hn : n ≤ 64) : SeqAt.shaped d = true := by
  unfold SeqAt.shaped
  rw [h.1]
  simp only [Bool.true_and, decide_eq_true_eq]
  exact Nat.le_trans h.2 hn
@[simp] theorem shaped_int {i : Int} : SeqAt.shaped (.int i) = true := (sd_int (n := 0)).shaped (by decide)
@[simp] theorem shaped_non : SeqAt.shaped .none = true := (sd_non (n := 0)).shaped (by decide)

/-! ### lists of numbers, sealed -/
def iL (ns : List Nat) : List PyData := ns.map fun (n : Nat) => .int (n : Int)
def oL (ns : List Nat) : List PV := ns.map fun (n : Nat) => .dat (.int (n : Int))
def iZ (ns : List Int) : List PyData := ns.map fun n => .int n
def oZ (ns : List Int) : List PV := ns.map fun n => .dat (.int n)
def toZ (ns : List Nat) : List Int := ns.map fun (n : Nat) => (n : Int)
def g0 (ns : List Nat) (j : Nat) : Nat := ns.getD j 0
def z0 (ns : List Int) (j : Nat) : Int := ns.getD j 0
theorem iL_iZ (ns : List Nat) : iL ns = iZ (toZ ns) := by simp [iL, iZ, toZ]
@[simp] theorem map_iL (ns : List Nat) : (iL ns).map PV.dat = oL ns := by simp [iL, oL]
@[simp] theorem map_iZ (ns : List Int) : (iZ ns).map PV.dat = oZ ns := by simp [iZ, oZ]
@[simp] theorem len_iL (ns : List Nat) : (iL ns).length = ns.length := by simp [iL]
@[simp] theorem len_oL (ns : List Nat) : (oL ns).length = ns.length := by simp [oL]
@[simp] theorem len_iZ (ns : List Int) : (iZ ns).length = ns.length := by simp [iZ]
@[simp] theorem len_oZ (ns : List Int) : (oZ ns).length = ns.length := by simp [oZ]
@[simp] theorem len_toZ (ns : List Nat) : (toZ ns).length = ns.length := by simp [toZ]
@[simp] theorem asDats_oL (ns : List Nat) : asDats (oL ns) = some (iL ns) := by rw [← map_iL, asDats_map]
@[simp] theorem asDats_oZ (ns : List Int) : asDats (oZ ns) = some (iZ ns) := by rw [← map_iZ, asDats_map]
@[simp] theorem asInts_oZ (ns : List Int) : asInts (oZ ns) = some ns := asInts_map ns
@[simp] theorem asInts_oL (ns : List Nat) : asInts (oL ns) = some (toZ ns) := by
  have := asInts_map (toZ ns)
  simpa [oL, toZ, Function.comp_def] using this
@[simp] theorem oL_snoc (ns : List Nat) (n : Nat) : oL ns ++ [PV.dat (.int (n : Int))] = oL (ns ++ [n]) := by simp [oL]
@[simp] theorem oL_app (ns ms : List Nat) : oL ns ++ oL ms = oL (ns ++ ms) := by simp [oL]
@[simp] theorem oZ_app (ns ms : List Int) : oZ ns ++ oZ ms = oZ (ns ++ ms) := by simp [oZ]
theorem oL_nil : oL [] = [] := rfl
theorem oL_one (n : Nat) : oL [n] = [PV.dat (.int (n : Int))] := rfl
@[simp] theorem oL_set (ns : List Nat) (i n : Nat) : (oL ns).set i (PV.dat (.int (n : Int))) = oL (ns.set i n) := by simp [oL, List.map_set]
theorem g0_of {xs : List Nat} {j : Nat} (h : j < xs.length) : g0 xs j = xs[j] := by simp [g0, List.getElem?_eq_getElem h]
theorem z0_of {xs : List Int} {j : Nat} (h : j < xs.length) : z0 xs j = xs[j] := by simp [z0, List.getElem?_eq_getElem h]
theorem at_oL {ns : List Nat} {j : Nat} (h : j < ns.length) : L2.atI (oL ns) (j : Int) = some (PV.dat (.int ((g0 ns j : Nat) : Int))) := by
  rw [atI_natD (by simpa using h)]
  simp [oL, g0_of h]
theorem at_oZ {ns : List Int} {j : Nat} (h : j < ns.length) : L2.atI (oZ ns) (j : Int) = some (PV.dat (.int (z0 ns j))) := by
  rw [atI_natD (by simpa using h)]
  simp [oZ, z0_of h]
theorem nbs_iZ : ∀ ns : List Int, nbs (iZ ns) = true
  | [] => rfl
  | n :: ns => by
    have := nbs_iZ ns
    simpa [iZ, nbs, nb] using this
theorem nbs_iL (ns : List Nat) : nbs (iL ns) = true := by rw [iL_iZ]; exact nbs_iZ _
@[simp] theorem nb_iZ (ns : List Int) : nb (.list (iZ ns)) = true := by simp only [nb]; exact nbs_iZ ns
@[simp] theorem nb_iL (ns : List Nat) : nb (.list (iL ns)) = true := by simp only [nb]; exact nbs_iL ns
theorem sds_iZ {n : Nat} (ns : List Int) : Sds n (iZ ns) := sds_all fun d hd => by
  obtain ⟨i, _, rfl⟩ := List.mem_map.mp hd
  exact sd_int
theorem sds_iL {n : Nat} (ns : List Nat) : Sds n (iL ns) := by rw [iL_iZ]; exact sds_iZ _
@[simp] theorem shaped_iZ (ns : List Int) : SeqAt.shaped (.list (iZ ns)) = true := (sd_list (n := 0) (sds_iZ ns)).shaped (by decide)
@[simp] theorem shaped_iL (ns : List Nat) : SeqAt.shaped (.list (iL ns)) = true := (sd_list (n := 0) (sds_iL ns)).shaped (by decide)
theorem iZ_inj {a b : List Int} (h : iZ a = iZ b) : a = b := by
  induction a generalizing b with
  | nil => cases b with
    | nil => rfl
    | cons y ys => simp [iZ] at h
  | cons x xs ih => cases b with
    | nil => simp [iZ] at h
    | cons y ys =>
      simp only [iZ, List.map_cons, List.cons.injEq, PyData.int.injEq] at h
      rw [h.1, ih h.2]
theorem toZ_inj {a b : List Nat} (h : toZ a = toZ b) : a = b := by
  induction a generalizing b with
  | nil => cases b with
    | nil => rfl
    | cons y ys => simp [toZ] at h
  | cons x xs ih => cases b with
    | nil => simp [toZ] at h
    | cons y ys =>
      simp only [toZ, List.map_cons, List.cons.injEq] at h
      rw [Int.ofNat.inj h.1, ih h.2]
@[simp] theorem eqv_iZ (a b : List Int) : PyData.eqv (.list (iZ a)) (.list (iZ b)) = decide (a = b) := by
  by_cases q : a = b
  · rw [decide_eq_true q, q]; exact eqv_self _ (nb_iZ b)
  · rw [decide_eq_false q]
    cases z : PyData.eqv (.list (iZ a)) (.list (iZ b)) with
    | false => rfl
    | true => exact absurd (iZ_inj (PyData.list.inj (eq_of_eqv _ _ (nb_iZ a) (nb_iZ b) z))) q
@[simp] theorem eqv_iL (a b : List Nat) : PyData.eqv (.list (iL a)) (.list (iL b)) = decide (a = b) := by
  rw [iL_iZ, iL_iZ, eqv_iZ]
  by_cases q : a = b
  · simp [q]
  · rw [decide_eq_false q, decide_eq_false fun z => q (toZ_inj z)]
@[simp] theorem eqv_ints (a b : Int) : PyData.eqv (.int a) (.int b) = decide (a = b) := by simp [PyData.eqv]; rfl
@[simp] theorem any_iZ (a : List Int) (k : Int) : ((iZ a).any fun z => PyData.eqv z (.int k)) = decide (k ∈ a) := by
  induction a with
  | nil => simp [iZ]
  | cons x xs ih =>
    have e : iZ (x :: xs) = .int x :: iZ xs := rfl
    rw [e, List.any_cons, ih, eqv_ints]
    by_cases q : k = x
    · simp [q]
    · have q' : ¬ x = k := fun z => q z.symm
      simp [q, q']
@[simp] theorem mem_toZ {a : List Nat} {k : Nat} : (k : Int) ∈ toZ a ↔ k ∈ a := by
  unfold toZ
  rw [List.mem_map]
  constructor
  · rintro ⟨x, hx, e⟩; rw [← Int.ofNat.inj e]; exact hx
  · exact fun h => ⟨k, h, rfl⟩
@[simp] theorem any_iL (a : List Nat) (k : Nat) : ((iL a).any fun z => PyData.eqv z (.int (k : Int))) = decide (k ∈ a) := by
  rw [iL_iZ, any_iZ]
  by_cases q : k ∈ a
  · rw [decide_eq_true q, decide_eq_true (mem_toZ.mpr q)]
  · rw [decide_eq_false q, decide_eq_false fun z => q (mem_toZ.mp z)]
@[simp] theorem enum_len (ds : List PyData) : (enumD ds).length = ds.length := by simp [enumD]
theorem enum_get {ds : List PyData} {i : Nat} {p : PV} (h : ((enumD ds).map PV.dat)[i]? = some p) : ∃ d, ds[i]? = some d ∧ p = .dat (.tuple [.int (i : Int), d]) := by
  unfold enumD at h
  rw [List.getElem?_map, List.getElem?_map, List.getElem?_zipIdx] at h
  cases q : ds[i]? with
  | none => rw [q] at h; cases h
  | some d => rw [q] at h; cases h; exact ⟨d, rfl, by simp⟩
theorem get_oL {ns : List Nat} {i : Nat} {p : PV} (h : (oL ns)[i]? = some p) : i < ns.length ∧ p = .dat (.int ((g0 ns i : Nat) : Int)) := by
  have hi : i < ns.length := by simpa using (List.getElem?_eq_some_iff.mp h).1
  refine ⟨hi, ?_⟩
  simp only [oL, List.getElem?_map, List.getElem?_eq_getElem hi, Option.map_some, Option.some.injEq] at h
  rw [g0_of hi]; exact h.symm
theorem get_iL {ns : List Nat} {i : Nat} {p : PyData} (h : (iL ns)[i]? = some p) : i < ns.length ∧ p = .int ((g0 ns i : Nat) : Int) := by
  have hi : i < ns.length := by simpa using (List.getElem?_eq_some_iff.mp h).1
  refine ⟨hi, ?_⟩
  simp only [iL, List.getElem?_map, List.getElem?_eq_getElem hi, Option.map_some, Option.some.injEq] at h
  rw [g0_of hi]; exact h.symm
end VX
namespace CM
open PySem L2 VX
/-! turned_back (k66) -/
def B1_turned_back : RnF := sAsg (eVar 2) (tgSub (eVar 1) (eVar 3))
def L1_turned_back : RnF := sFor (srcEnA (aCons (eVar 0) (aNil))) (tgT 2 (tgsCons (tgN 2) (tgsCons (tgN 3) (tgsNil)))) B1_turned_back
def r_turned_back : RnF := sSeq (sSet 1 (eOp (fMul true) (eLst false (aCons (eC (.int 0)) (aNil))) (eCa fLen (aCons (eVar 0) (aNil))))) (sSeq (L1_turned_back) (sRet (eFrz (eVar 1))))
def F_turned_back : List PyData → Option PyData := fnP 4 1 r_turned_back
/-! left (k66) -/
def r_left : RnF := sRet (eCallP 1 F_turned_back (aCons (eOp fIx (eVar 0) (eC (.int 1))) (aNil)))
def F_left : List PyData → Option PyData := fnP 1 1 r_left
/-! down (k66) -/
def r_down : RnF := sRet (eCallP 1 F_turned_back (aCons (eOp fIx (eVar 0) (eC (.int 2))) (aNil)))
def F_down : List PyData → Option PyData := fnP 1 1 r_down
/-! near_lists (k66) -/
def r_near_lists : RnF := sRet (eTup (aCons (eTup (aCons (eC (.str "r")) (aCons (eOp fIx (eVar 0) (eC (.int 1))) (aNil)))) (aCons (eTup (aCons (eC (.str "l")) (aCons (eCallP 1 F_left (aCons (eVar 0) (aNil))) (aNil)))) (aCons (eTup (aCons (eC (.str "u")) (aCons (eOp fIx (eVar 0) (eC (.int 2))) (aNil)))) (aCons (eTup (aCons (eC (.str "d")) (aCons (eCallP 1 F_down (aCons (eVar 0) (aNil))) (aNil)))) (aNil))))))
def F_near_lists : List PyData → Option PyData := fnP 1 1 r_near_lists
/-! pool_of (k66) -/
def B1_pool_of : RnF := sSeq (sSet 8 (eOp fIx (eVar 7) (eOp fIx (eVar 4) (eVar 5)))) (sIf (tsAnd (tsE (eOp fLe (eOp fIx (eVar 1) (eVar 8)) (eVar 3))) (tsE (eOp (fIn true) (eVar 8) (eVar 4)))) (sExpr (eLM fApp (eVar 4) (aCons (eVar 8) (aNil)))) (sNil))
def L1_pool_of : RnF := sFor (srcSeq (eCallP 1 F_near_lists (aCons (eVar 0) (aNil)))) (tgT 2 (tgsCons (tgN 6) (tgsCons (tgN 7) (tgsNil)))) B1_pool_of
def B2_pool_of : RnF := sSeq (L1_pool_of) (sSet 5 (eOp (fAdd false) (eVar 5) (eC (.int 1))))
def L2_pool_of : RnF := whileN (tsE (eOp fLt (eVar 5) (eCa fLen (aCons (eVar 4) (aNil))))) B2_pool_of 2000
def r_pool_of : RnF := sSeq (sSet 4 (eIf (tsE (eOp fLe (eOp fIx (eVar 1) (eVar 2)) (eVar 3))) (eLst true (aCons (eVar 2) (aNil))) (eLst true (aNil)))) (sSeq (sSet 5 (eC (.int 0))) (sSeq (L2_pool_of) (sRet (eCa (fSorted false) (aCons (eVar 4) (aNil))))))
def F_pool_of : List PyData → Option PyData := fnP 9 4 r_pool_of
/-! word_within (k66) -/
def B1_word_within : RnF := sIf (tsAnd (tsE (eOp fLe (eOp fIx (eVar 1) (eOp fIx (eVar 9) (eVar 7))) (eVar 4))) (tsE (eDIn true (eOp fIx (eVar 9) (eVar 7)) (eVar 5)))) (sSeq (sDPut (eVar 5) (eOp fIx (eVar 9) (eVar 7)) (eOp (fAdd false) (eDGet (eVar 5) (eVar 7)) (eVar 8))) (sExpr (eLM fApp (eVar 6) (aCons (eOp fIx (eVar 9) (eVar 7)) (aNil))))) (sNil)
def L1_word_within : RnF := sFor (srcSeq (eCallP 1 F_near_lists (aCons (eVar 0) (aNil)))) (tgT 2 (tgsCons (tgN 8) (tgsCons (tgN 9) (tgsNil)))) B1_word_within
def B2_word_within : RnF := sSeq (sSet 7 (eLM fPopAt (eVar 6) (aCons (eC (.int 0)) (aNil)))) (L1_word_within)
def L2_word_within : RnF := whileN (tsTru (eVar 6)) B2_word_within 2000
def r_word_within : RnF := sSeq (sSet 5 (eDic (prCons (eVar 2) (eC (.str "")) (prNil)))) (sSeq (sSet 6 (eLst true (aCons (eVar 2) (aNil)))) (sSeq (L2_word_within) (sRet (eDGet (eVar 5) (eVar 3)))))
def F_word_within : List PyData → Option PyData := fnP 10 5 r_word_within
/-! lowest_pass (k66) -/
def C1_lowest_pass : EvF := eLc false (srcSeq (eVar 1)) (tgN 6) (tsE (eOp fLt (eVar 6) (eVar 4))) (eVar 6) [6]
def B1_lowest_pass : RnF := sIf (tsE (eOp (fIn false) (eVar 3) (eCallP 4 F_pool_of (aCons (eVar 0) (aCons (eVar 1) (aCons (eVar 2) (aCons (eVar 4) (aNil)))))))) (sSeq (sSet 5 (C1_lowest_pass)) (sSeq (sSet 7 (eIf (tsTru (eVar 5)) (eCallP 4 F_pool_of (aCons (eVar 0) (aCons (eVar 1) (aCons (eVar 2) (aCons (eCa fMax (aCons (eVar 5) (aNil))) (aNil)))))) (eLst false (aNil)))) (sRet (eTup (aCons (eVar 4) (aCons (eCallP 5 F_word_within (aCons (eVar 0) (aCons (eVar 1) (aCons (eVar 2) (aCons (eVar 3) (aCons (eVar 4) (aNil))))))) (aCons (eVar 7) (aNil)))))))) (sNil)
def L1_lowest_pass : RnF := sFor (srcSeq (eSortSet false (aCons (eVar 1) (aNil)))) (tgN 4) B1_lowest_pass
def r_lowest_pass : RnF := sSeq (L1_lowest_pass) (sRet (eC .none))
def F_lowest_pass : List PyData → Option PyData := fnP 8 4 r_lowest_pass
/-! lowest_pass_fault (k66) -/
def B1_lowest_pass_fault : RnF := sSeq (sIf (tsE (eDIn true (eVar 12) (eVar 8))) (sRet (eTup (aCons (eC (.str "sign")) (aCons (eVar 11) (aNil))))) (sNil)) (sSeq (sSet 9 (eOp fIx (eDGet (eVar 8) (eVar 12)) (eVar 9))) (sSet 10 (eCa fMax (aCons (eVar 10) (aCons (eOp fIx (eVar 1) (eVar 9)) (aNil))))))
def L1_lowest_pass_fault : RnF := sFor (srcEnA (aCons (eVar 6) (aNil))) (tgT 2 (tgsCons (tgN 11) (tgsCons (tgN 12) (tgsNil)))) B1_lowest_pass_fault
def C1_lowest_pass_fault : EvF := eLc false (srcSeq (eVar 7)) (tgN 13) (tsYes) (eCh fLe fLt (eC (.int 0)) (eVar 13) (eCa fLen (aCons (eVar 1) (aNil)))) [13]
def B2_lowest_pass_fault : RnF := sIf (tsAnd (tsE (eOp (fIn true) (eOp fIx (eVar 14) (eVar 13)) (eVar 7))) (tsE (eOp fLt (eOp fIx (eVar 1) (eOp fIx (eVar 14) (eVar 13))) (eVar 5)))) (sRet (eTup (aCons (eC (.str "leak")) (aCons (eVar 13) (aNil))))) (sNil)
def L2_lowest_pass_fault : RnF := sFor (srcSeq (eCallP 1 F_near_lists (aCons (eVar 0) (aNil)))) (tgT 2 (tgsCons (tgN 12) (tgsCons (tgN 14) (tgsNil)))) B2_lowest_pass_fault
def B3_lowest_pass_fault : RnF := sSeq (sIf (tsE (eOp fGe (eOp fIx (eVar 1) (eVar 13)) (eVar 5))) (sRet (eTup (aCons (eC (.str "high")) (aCons (eVar 13) (aNil))))) (sNil)) (L2_lowest_pass_fault)
def L3_lowest_pass_fault : RnF := sFor (srcSeq (eVar 7)) (tgN 13) B3_lowest_pass_fault
def r_lowest_pass_fault : RnF := sSeq (sAsg (eVar 4) (tgT 3 (tgsCons (tgN 5) (tgsCons (tgN 6) (tgsCons (tgN 7) (tgsNil)))))) (sSeq (sSet 8 (eDicT 1 F_near_lists (aCons (eVar 0) (aNil)))) (sSeq (sSet 9 (eVar 2)) (sSeq (sSet 10 (eOp fIx (eVar 1) (eVar 2))) (sSeq (L1_lowest_pass_fault) (sSeq (sIf (tsE (eOp (fEq true) (eVar 9) (eVar 3))) (sRet (eTup (aCons (eC (.str "end")) (aNil)))) (sNil)) (sSeq (sIf (tsE (eOp (fEq true) (eVar 10) (eVar 5))) (sRet (eTup (aCons (eC (.str "level")) (aNil)))) (sNil)) (sSeq (sIf (tsOr (tsE (eOp (fEq true) (eVar 7) (eSortSet false (aCons (eVar 7) (aNil))))) (tsNot (tsTru (eCa fAll (aCons (C1_lowest_pass_fault) (aNil)))))) (sRet (eTup (aCons (eC (.str "pool")) (aNil)))) (sNil)) (sSeq (sIf (tsOr (tsE (eOp (fEq false) (eVar 5) (eOp fIx (eVar 1) (eVar 2)))) (tsE (eOp (fEq false) (eVar 5) (eOp fIx (eVar 1) (eVar 3))))) (sRet (eC .none)) (sNil)) (sSeq (sIf (tsOr (tsE (eOp (fIn true) (eVar 2) (eVar 7))) (tsE (eOp (fIn false) (eVar 3) (eVar 7)))) (sRet (eTup (aCons (eC (.str "ends")) (aNil)))) (sNil)) (sSeq (L3_lowest_pass_fault) (sRet (eC .none))))))))))))
def F_lowest_pass_fault : List PyData → Option PyData := fnP 15 5 r_lowest_pass_fault
/-! pools (k66) -/
def C1_pools : EvF := eLc false (srcSeq (eVar 3)) (tgN 5) (tsYes) (eOp (fIn false) (eVar 4) (eVar 5)) [5]
def B1_pools : RnF := sIf (tsAnd (tsE (eOp fLe (eOp fIx (eVar 1) (eVar 4)) (eVar 2))) (tsNot (tsTru (eCa fAny (aCons (C1_pools) (aNil)))))) (sExpr (eLM fApp (eVar 3) (aCons (eCallP 4 F_pool_of (aCons (eVar 0) (aCons (eVar 1) (aCons (eVar 4) (aCons (eVar 2) (aNil)))))) (aNil)))) (sNil)
def L1_pools : RnF := sFor (srcR1 (aCons (eCa fLen (aCons (eVar 1) (aNil))) (aNil))) (tgN 4) B1_pools
def r_pools : RnF := sSeq (sSet 3 (eLst true (aNil))) (sSeq (L1_pools) (sRet (eFrz (eVar 3))))
def F_pools : List PyData → Option PyData := fnP 6 3 r_pools
/-! _law_state (k66) -/
def C1__law_state : EvF := eLc true (srcSeq (eSl false (eVar 0) (poN) (poE (eC (.int 63))))) (tgN 2) (tsYes) (eCa fAbs (aCons (eVar 2) (aNil))) [2]
def r__law_state : RnF := sSeq (sSet 1 (C1__law_state)) (sSeq (sIf (tsE (eOp (fEq false) (eCa fLen (aCons (eVar 1) (aNil))) (eC (.int 0)))) (sSet 1 (eLst true (aCons (eC (.int 0)) (aNil)))) (sNil)) (sRet (eLst true (aCons (eC (.int 0)) (aCons (eVar 1) (aNil))))))
def F__law_state : List PV → Sto → Option (PV × Sto) := fnG 3 1 r__law_state
/-! _law_take (k66) -/
def r__law_take : RnF := sSeq (sSet 2 (eOp fIx (eVar 0) (eC (.int 1)))) (sSeq (sSet 3 (eOp fMod (eOp fIx (eVar 0) (eC (.int 0))) (eCa fLen (aCons (eVar 2) (aNil))))) (sSeq (sSet 4 (eOp fIx (eVar 2) (eVar 3))) (sSeq (sIf (tsE (eOp fGe (eVar 4) (eC (.int 1000000000000000000)))) (sSeq (sAsg (eOp fDiv (eVar 4) (eVar 1)) (tgSub (eVar 2) (eVar 3))) (sRet (eOp fMod (eVar 4) (eVar 1)))) (sNil)) (sSeq (sAsg (eOp (fAdd false) (eOp fIx (eVar 0) (eC (.int 0))) (eC (.int 1))) (tgSub (eVar 0) (eC (.int 0)))) (sSeq (sSet 5 (eOp fMod (eCa fInt (aCons (eOp (fAdd false) (eOp (fMul false) (eVar 4) (eC (.int 48271))) (eOp (fMul false) (eOp fIx (eVar 0) (eC (.int 0))) (eC (.int 69621)))) (aNil))) (eC (.int 2147483647)))) (sSeq (sSet 5 (eOp fMod (eCa fInt (aCons (eOp (fAdd false) (eOp (fMul false) (eVar 5) (eC (.int 16807))) (eOp (fMul false) (eOp fIx (eVar 0) (eC (.int 0))) (eC (.int 7919)))) (aNil))) (eC (.int 1000000007)))) (sRet (eOp fMod (eOp fDiv (eVar 5) (eC (.int 7))) (eVar 1)))))))))
def F__law_take : List PV → Sto → Option (PV × Sto) := fnG 6 2 r__law_take
/-! _law_floor (k66) -/
def B1__law_floor : RnF := sSeq (sPar 5 6 (aCons (eCallG 2 F__law_take (aCons (eVar 0) (aCons (eOp (fAdd false) (eVar 4) (eC (.int 1))) (aNil)))) (aCons (eCallG 2 F__law_take (aCons (eVar 0) (aCons (eOp (fAdd false) (eVar 4) (eC (.int 1))) (aNil)))) (aNil)))) (sSeq (sSet 5 (eIf (tsAnd (tsE (eOp (fEq false) (eVar 5) (eVar 4))) (tsE (eOp (fEq false) (eVar 6) (eVar 4)))) (eC (.int 0)) (eVar 5))) (sSeq (sPar 2 3 (aCons (eOp (fAdd true) (eVar 2) (eLst false (aCons (eVar 4) (aNil)))) (aCons (eOp (fAdd true) (eVar 3) (eLst false (aCons (eVar 4) (aNil)))) (aNil)))) (sSeq (sIf (tsE (eOp fLt (eVar 5) (eVar 4))) (sAsgT 2 (aCons (eOp fIx (eVar 2) (eVar 5)) (aCons (eVar 4) (aNil))) (tgsCons (tgSub (eVar 2) (eVar 4)) (tgsCons (tgSub (eVar 2) (eVar 5)) (tgsNil)))) (sNil)) (sIf (tsE (eOp fLt (eVar 6) (eVar 4))) (sAsgT 2 (aCons (eOp fIx (eVar 3) (eVar 6)) (aCons (eVar 4) (aNil))) (tgsCons (tgSub (eVar 3) (eVar 4)) (tgsCons (tgSub (eVar 3) (eVar 6)) (tgsNil)))) (sNil)))))
def L1__law_floor : RnF := sFor (srcR2 (aCons (eC (.int 1)) (aCons (eOp (fAdd false) (eC (.int 1)) (eCallG 2 F__law_take (aCons (eVar 0) (aCons (eVar 1) (aNil))))) (aNil)))) (tgN 4) B1__law_floor
def r__law_floor : RnF := sSeq (sPar 2 3 (aCons (eLst true (aCons (eC (.int 0)) (aNil))) (aCons (eLst true (aCons (eC (.int 0)) (aNil))) (aNil)))) (sSeq (L1__law_floor) (sRet (eTup (aCons (eC (.str "floor")) (aCons (eFrz (eVar 2)) (aCons (eFrz (eVar 3)) (aNil)))))))
def F__law_floor : List PV → Sto → Option (PV × Sto) := fnG 7 2 r__law_floor
/-! _law_lists (k66) -/
def B1__law_lists : RnF := sSeq (sAsg (eVar 3) (tgSub (eDGet (eVar 2) (eC (.str "l"))) (eOp fIx (eOp fIx (eVar 0) (eC (.int 1))) (eVar 3)))) (sAsg (eVar 3) (tgSub (eDGet (eVar 2) (eC (.str "d"))) (eOp fIx (eOp fIx (eVar 0) (eC (.int 2))) (eVar 3))))
def L1__law_lists : RnF := sFor (srcR1 (aCons (eVar 1) (aNil))) (tgN 3) B1__law_lists
def r__law_lists : RnF := sSeq (sSet 1 (eCa fLen (aCons (eOp fIx (eVar 0) (eC (.int 1))) (aNil)))) (sSeq (sSet 2 (eDic (prCons (eC (.str "r")) (eOp fIx (eVar 0) (eC (.int 1))) (prCons (eC (.str "u")) (eOp fIx (eVar 0) (eC (.int 2))) (prCons (eC (.str "l")) (eOp (fMul true) (eLst false (aCons (eC (.int 0)) (aNil))) (eVar 1)) (prCons (eC (.str "d")) (eOp (fMul true) (eLst false (aCons (eC (.int 0)) (aNil))) (eVar 1)) (prNil))))))) (sSeq (L1__law_lists) (sRet (eVar 2))))
def F__law_lists : List PV → Sto → Option (PV × Sto) := fnG 4 1 r__law_lists
/-! _law_pool (k66) -/
def B1__law_pool : RnF := sSeq (sSet 9 (eOp fIx (eDGet (eVar 4) (eVar 8)) (eVar 7))) (sSet 5 (eIf (tsAnd (tsE (eOp fLe (eOp fIx (eVar 1) (eVar 9)) (eVar 3))) (tsE (eOp (fIn true) (eVar 9) (eVar 5)))) (eOp (fAdd false) (eVar 5) (eLst false (aCons (eVar 9) (aNil)))) (eVar 5)))
def L1__law_pool : RnF := sFor (srcSeq (eC (.str "rlud"))) (tgN 8) B1__law_pool
def B2__law_pool : RnF := L1__law_pool
def L2__law_pool : RnF := sFor (srcSeq (eSl false (eVar 5) (poN) (poE (eVar 6)))) (tgN 7) B2__law_pool
def B3__law_pool : RnF := sSeq (sSet 6 (eCa fLen (aCons (eVar 5) (aNil)))) (L2__law_pool)
def L3__law_pool : RnF := whileN (tsE (eOp fLt (eVar 6) (eCa fLen (aCons (eVar 5) (aNil))))) B3__law_pool 2000
def r__law_pool : RnF := sSeq (sPar3 4 5 6 (aCons (eCallG 1 F__law_lists (aCons (eVar 0) (aNil))) (aCons (eIf (tsE (eOp fLe (eOp fIx (eVar 1) (eVar 2)) (eVar 3))) (eLst false (aCons (eVar 2) (aNil))) (eLst false (aNil))) (aCons (eOp fSub (eC (.int 0)) (eC (.int 1))) (aNil))))) (sSeq (L3__law_pool) (sRet (eCa (fSorted false) (aCons (eVar 5) (aNil)))))
def F__law_pool : List PyData → Option PyData := fnP 10 4 r__law_pool
/-! _law_fault (k66) -/
def B1__law_fault : RnF := sSeq (sIf (tsE (eOp (fIn true) (eOp fIx (eVar 6) (eVar 11)) (eLst false (aCons (eC (.str "r")) (aCons (eC (.str "l")) (aCons (eC (.str "u")) (aCons (eC (.str "d")) (aNil)))))))) (sRet (eTup (aCons (eC (.str "sign")) (aCons (eVar 11) (aNil))))) (sNil)) (sSeq (sSet 9 (eOp fIx (eDGet (eVar 8) (eOp fIx (eVar 6) (eVar 11))) (eVar 9))) (sSet 10 (eCa fMax (aCons (eVar 10) (aCons (eOp fIx (eVar 1) (eVar 9)) (aNil))))))
def L1__law_fault : RnF := sFor (srcR1 (aCons (eCa fLen (aCons (eVar 6) (aNil))) (aNil))) (tgN 11) B1__law_fault
def C1__law_fault : EvF := eLc false (srcSeq (eVar 7)) (tgN 12) (tsNot (tsE (eCh fLe fLt (eC (.int 0)) (eVar 12) (eCa fLen (aCons (eVar 1) (aNil)))))) (eVar 12) [12]
def C2__law_fault : EvF := eLc false (srcSeq (eC (.str "rlud"))) (tgN 13) (tsAnd (tsE (eOp (fIn true) (eOp fIx (eDGet (eVar 8) (eVar 13)) (eVar 12)) (eVar 7))) (tsE (eOp fLt (eOp fIx (eVar 1) (eOp fIx (eDGet (eVar 8) (eVar 13)) (eVar 12))) (eVar 5)))) (eVar 13) [13]
def B2__law_fault : RnF := sSeq (sIf (tsE (eOp fGe (eOp fIx (eVar 1) (eVar 12)) (eVar 5))) (sRet (eTup (aCons (eC (.str "high")) (aCons (eVar 12) (aNil))))) (sNil)) (sIf (tsE (eOp fGt (eCa fLen (aCons (C2__law_fault) (aNil))) (eC (.int 0)))) (sRet (eTup (aCons (eC (.str "leak")) (aCons (eVar 12) (aNil))))) (sNil))
def L2__law_fault : RnF := sFor (srcSeq (eVar 7)) (tgN 12) B2__law_fault
def r__law_fault : RnF := sSeq (sAsg (eVar 4) (tgT 3 (tgsCons (tgN 5) (tgsCons (tgN 6) (tgsCons (tgN 7) (tgsNil)))))) (sSeq (sAsgT 3 (aCons (eCallG 1 F__law_lists (aCons (eVar 0) (aNil))) (aCons (eVar 2) (aCons (eOp fIx (eVar 1) (eVar 2)) (aNil)))) (tgsCons (tgN 8) (tgsCons (tgN 9) (tgsCons (tgN 10) (tgsNil))))) (sSeq (L1__law_fault) (sSeq (sIf (tsE (eOp (fEq true) (eVar 9) (eVar 3))) (sRet (eTup (aCons (eC (.str "end")) (aNil)))) (sNil)) (sSeq (sIf (tsE (eOp (fEq true) (eVar 10) (eVar 5))) (sRet (eTup (aCons (eC (.str "level")) (aNil)))) (sNil)) (sSeq (sIf (tsOr (tsE (eOp (fEq true) (eVar 7) (eSortSet false (aCons (eVar 7) (aNil))))) (tsE (eOp fGt (eCa fLen (aCons (C1__law_fault) (aNil))) (eC (.int 0))))) (sRet (eTup (aCons (eC (.str "pool")) (aNil)))) (sNil)) (sSeq (sIf (tsE (eOp (fIn false) (eVar 5) (eLst false (aCons (eOp fIx (eVar 1) (eVar 2)) (aCons (eOp fIx (eVar 1) (eVar 3)) (aNil)))))) (sRet (eC .none)) (sNil)) (sSeq (sIf (tsOr (tsE (eOp (fIn true) (eVar 2) (eVar 7))) (tsE (eOp (fIn false) (eVar 3) (eVar 7)))) (sRet (eTup (aCons (eC (.str "ends")) (aNil)))) (sNil)) (sSeq (L2__law_fault) (sRet (eC .none))))))))))
def F__law_fault : List PyData → Option PyData := fnP 14 5 r__law_fault
/-! law (k66) -/
def C1_law : EvF := eLc false (srcR1 (aCons (eVar 3) (aNil))) (tgN 5) (tsYes) (eCallG 2 F__law_take (aCons (eVar 1) (aCons (eC (.int 6)) (aNil)))) [5]
def C2_law : EvF := eLc false (srcSeq (eSortSet false (aCons (eVar 4) (aNil)))) (tgN 9) (tsE (eOp (fIn false) (eVar 7) (eCallP 4 F__law_pool (aCons (eVar 2) (aCons (eVar 4) (aCons (eVar 6) (aCons (eVar 9) (aNil)))))))) (eVar 9) [9]
def B1_law : RnF := sSeq (sSet 12 (eCallP 4 F__law_pool (aCons (eVar 2) (aCons (eVar 4) (aCons (eVar 5) (aCons (eVar 9) (aNil))))))) (sSeq (sIf (tsE (eOp (fEq true) (eCallP 4 F_pool_of (aCons (eVar 2) (aCons (eVar 4) (aCons (eVar 5) (aCons (eVar 9) (aNil)))))) (eVar 12))) (sRet (eC (.bool false))) (sNil)) (sSet 11 (eIf (tsAnd (tsE (eOp fGt (eCa fLen (aCons (eVar 12) (aNil))) (eC (.int 0)))) (tsE (eOp (fIn true) (eVar 12) (eVar 11)))) (eOp (fAdd false) (eVar 11) (eLst false (aCons (eVar 12) (aNil)))) (eVar 11))))
def L1_law : RnF := sFor (srcR1 (aCons (eVar 3) (aNil))) (tgN 5) B1_law
def B2_law : RnF := sIf (tsE (eOp fGt (eVar 8) (eCa fMax (aCons (eOp fIx (eCallP 4 F_lowest_pass (aCons (eVar 2) (aCons (eVar 4) (aCons (eVar 6) (aCons (eVar 13) (aNil)))))) (eC (.int 0))) (aCons (eOp fIx (eCallP 4 F_lowest_pass (aCons (eVar 2) (aCons (eVar 4) (aCons (eVar 13) (aCons (eVar 7) (aNil)))))) (eC (.int 0))) (aNil)))))) (sRet (eC (.bool false))) (sNil)
def L2_law : RnF := sFor (srcR1 (aCons (eVar 3) (aNil))) (tgN 13) B2_law
def B3_law : RnF := sSeq (sAsg (eVar 10) (tgT 3 (tgsCons (tgN 15) (tgsCons (tgN 16) (tgsCons (tgN 17) (tgsNil)))))) (sSeq (sSet 18 (eCallG 2 F__law_take (aCons (eVar 1) (aCons (eCa fMax (aCons (eC (.int 1)) (aCons (eCa fLen (aCons (eVar 17) (aNil))) (aNil)))) (aNil))))) (sSeq (sSet 19 (eCallG 2 F__law_take (aCons (eVar 1) (aCons (eC (.int 7)) (aNil))))) (sSeq (sIf (tsE (eOp (fEq false) (eVar 19) (eC (.int 0)))) (sSet 16 (eOp (fAdd false) (eVar 16) (eOp fIx (eC (.str "rlud")) (eCallG 2 F__law_take (aCons (eVar 1) (aCons (eC (.int 4)) (aNil))))))) (sIf (tsE (eOp (fEq false) (eVar 19) (eC (.int 1)))) (sSet 16 (eOp (fAdd false) (eVar 16) (eC (.str "x")))) (sIf (tsE (eOp (fEq false) (eVar 19) (eC (.int 2)))) (sSet 15 (eOp (fAdd false) (eVar 15) (eC (.int 1)))) (sIf (tsE (eOp (fEq false) (eVar 19) (eC (.int 3)))) (sSet 17 (eOp (fAdd false) (eSl false (eVar 17) (poN) (poE (eVar 18))) (eSl false (eVar 17) (poE (eOp (fAdd false) (eVar 18) (eC (.int 1)))) (poN)))) (sIf (tsE (eOp (fEq false) (eVar 19) (eC (.int 4)))) (sSet 17 (eSortSet false (aCons (eOp (fAdd false) (eVar 17) (eLst false (aCons (eCallG 2 F__law_take (aCons (eVar 1) (aCons (eOp (fAdd false) (eVar 3) (eC (.int 1))) (aNil)))) (aNil)))) (aNil)))) (sIf (tsE (eOp (fEq false) (eVar 19) (eC (.int 5)))) (sSet 17 (eRevL false (eVar 17))) (sSeq (sSet 16 (eOp (fAdd false) (eC (.str "rl")) (eVar 16))) (sSet 15 (eCa fMax (aCons (eVar 15) (aCons (eOp fIx (eVar 4) (eOp fIx (eOp fIx (eVar 2) (eC (.int 1))) (eVar 6))) (aNil)))))))))))) (sIf (tsE (eOp (fEq true) (eCallP 5 F_lowest_pass_fault (aCons (eVar 2) (aCons (eVar 4) (aCons (eVar 6) (aCons (eVar 7) (aCons (eTup (aCons (eVar 15) (aCons (eVar 16) (aCons (eVar 17) (aNil))))) (aNil))))))) (eCallP 5 F__law_fault (aCons (eVar 2) (aCons (eVar 4) (aCons (eVar 6) (aCons (eVar 7) (aCons (eTup (aCons (eVar 15) (aCons (eVar 16) (aCons (eVar 17) (aNil))))) (aNil))))))))) (sRet (eC (.bool false))) (sNil)))))
def L3_law : RnF := sFor (srcR1 (aCons (eC (.int 8)) (aNil))) (tgN 14) B3_law
def r_law : RnF := sSeq (sSet 1 (eCallG 1 F__law_state (aCons (eVar 0) (aNil)))) (sSeq (sSet 2 (eCallG 2 F__law_floor (aCons (eVar 1) (aCons (eC (.int 6)) (aNil))))) (sSeq (sSet 3 (eCa fLen (aCons (eOp fIx (eVar 2) (eC (.int 1))) (aNil)))) (sSeq (sSet 4 (C1_law)) (sSeq (sAsgT 2 (aCons (eCallG 2 F__law_take (aCons (eVar 1) (aCons (eVar 3) (aNil)))) (aCons (eCallG 2 F__law_take (aCons (eVar 1) (aCons (eVar 3) (aNil)))) (aNil))) (tgsCons (tgN 6) (tgsCons (tgN 7) (tgsNil)))) (sSeq (sSet 8 (eOp fIx (C2_law) (eC (.int 0)))) (sSeq (sSet 10 (eCallP 4 F_lowest_pass (aCons (eVar 2) (aCons (eVar 4) (aCons (eVar 6) (aCons (eVar 7) (aNil))))))) (sSeq (sIf (tsOr (tsE (eOp (fEq true) (eOp fIx (eVar 10) (eC (.int 0))) (eVar 8))) (tsOr (tsE (eOp (fIs true) (eCallP 5 F__law_fault (aCons (eVar 2) (aCons (eVar 4) (aCons (eVar 6) (aCons (eVar 7) (aCons (eVar 10) (aNil))))))) (eC .none))) (tsE (eOp (fIs true) (eCallP 5 F_lowest_pass_fault (aCons (eVar 2) (aCons (eVar 4) (aCons (eVar 6) (aCons (eVar 7) (aCons (eVar 10) (aNil))))))) (eC .none))))) (sRet (eC (.bool false))) (sNil)) (sSeq (sSet 9 (eOp fSub (eCallG 2 F__law_take (aCons (eVar 1) (aCons (eC (.int 7)) (aNil)))) (eC (.int 1)))) (sSeq (sSet 11 (eLst false (aNil))) (sSeq (L1_law) (sSeq (sIf (tsOr (tsE (eOp (fEq true) (eCallP 3 F_pools (aCons (eVar 2) (aCons (eVar 4) (aCons (eVar 9) (aNil))))) (eVar 11))) (tsOr (tsE (eOp (fEq true) (eOp fIx (eCallP 4 F_lowest_pass (aCons (eVar 2) (aCons (eVar 4) (aCons (eVar 7) (aCons (eVar 6) (aNil)))))) (eC (.int 0))) (eVar 8))) (tsE (eOp (fEq true) (eOp fIx (eCallP 4 F_lowest_pass (aCons (eVar 2) (aCons (eVar 4) (aCons (eVar 6) (aCons (eVar 6) (aNil)))))) (eC (.int 0))) (eOp fIx (eVar 4) (eVar 6)))))) (sRet (eC (.bool false))) (sNil)) (sSeq (L2_law) (sSeq (L3_law) (sRet (eC (.bool true))))))))))))))))
def F_law : List PV → Sto → Option (PV × Sto) := fnG 20 1 r_law
/-! behind (K74) -/
def C1_behind : EvF := eLc false (srcSeq (eVar 0)) (tgN 2) (tsYes) (eOp fIx (eVar 1) (eVar 2)) [2]
def r_behind : RnF := sRet (C1_behind)
def F_behind : List PyData → Option PyData := fnP 3 2 r_behind
/-! listed (K74) -/
def B1_listed : RnF := sIf (tsE (eDIn true (eVar 7) (eVar 3))) (sSeq (sDPut (eVar 3) (eVar 7) (eC (.bool true))) (sSeq (sExpr (eLM fApp (eVar 4) (aCons (eVar 7) (aNil)))) (sExpr (eLM fApp (eVar 5) (aCons (eVar 7) (aNil)))))) (sNil)
def L1_listed : RnF := sFor (srcSeq (eTup (aCons (eOp fIx (eVar 1) (eVar 6)) (aCons (eOp fIx (eVar 2) (eVar 6)) (aNil))))) (tgN 7) B1_listed
def B2_listed : RnF := sSeq (sSet 6 (eLM fPopAt (eVar 4) (aCons (eC (.int 0)) (aNil)))) (L1_listed)
def L2_listed : RnF := whileN (tsE (eOp fGt (eCa fLen (aCons (eVar 4) (aNil))) (eC (.int 0)))) B2_listed 2000
def r_listed : RnF := sSeq (sSet 4 (eCa (fList true) (aCons (eVar 0) (aNil)))) (sSeq (sSet 5 (eLst true (aNil))) (sSeq (L2_listed) (sRet (eFrz (eVar 5)))))
def F_listed : List PV → Sto → Option (PV × Sto) := fnG 8 4 r_listed
/-! order_from (K74) -/
def r_order_from : RnF := sRet (eOp (fAdd false) (eLst false (aCons (eVar 1) (aNil))) (eCallG 4 F_listed (aCons (eLst false (aCons (eVar 1) (aNil))) (aCons (eOp fIx (eVar 0) (eC (.int 1))) (aCons (eOp fIx (eVar 0) (eC (.int 2))) (aCons (eDic (prCons (eVar 1) (eC (.bool true)) (prNil))) (aNil)))))))
def F_order_from : List PyData → Option PyData := fnP 2 2 r_order_from
/-! rounds_of (K74) -/
def B1_rounds_of : RnF := sSeq (sDPut (eVar 1) (eVar 5) (eC (.bool true))) (sSeq (sExpr (eLM fApp (eVar 4) (aCons (eVar 5) (aNil)))) (sSet 5 (eOp fIx (eVar 0) (eVar 5))))
def L1_rounds_of : RnF := whileN (tsE (eDIn true (eVar 5) (eVar 1))) B1_rounds_of 2000
def B2_rounds_of : RnF := sSeq (sSet 4 (eLst true (aNil))) (sSeq (sSet 5 (eVar 3)) (sSeq (L1_rounds_of) (sIf (tsE (eOp fGt (eCa fLen (aCons (eVar 4) (aNil))) (eC (.int 0)))) (sExpr (eLM fApp (eVar 2) (aCons (eFrz (eVar 4)) (aNil)))) (sNil))))
def L2_rounds_of : RnF := sFor (srcR1 (aCons (eCa fLen (aCons (eVar 0) (aNil))) (aNil))) (tgN 3) B2_rounds_of
def r_rounds_of : RnF := sSeq (sSet 1 (eDic0)) (sSeq (sSet 2 (eLst true (aNil))) (sSeq (L2_rounds_of) (sRet (eFrz (eVar 2)))))
def F_rounds_of : List PyData → Option PyData := fnP 6 1 r_rounds_of
/-! corners (K74) -/
def r_corners : RnF := sSeq (sSet 1 (eCallP 2 F_behind (aCons (eCallP 2 F_behind (aCons (eOp fIx (eVar 0) (eC (.int 1))) (aCons (eOp fIx (eVar 0) (eC (.int 2))) (aNil)))) (aCons (eCallP 2 F_behind (aCons (eCallP 1 F_left (aCons (eVar 0) (aNil))) (aCons (eCallP 1 F_down (aCons (eVar 0) (aNil))) (aNil)))) (aNil))))) (sRet (eCallP 1 F_rounds_of (aCons (eVar 1) (aNil))))
def F_corners : List PyData → Option PyData := fnP 2 1 r_corners
/-! step_lists (K74) -/
def r_step_lists : RnF := sRet (eDic (prCons (eC (.str "r")) (eCa (fList false) (aCons (eOp fIx (eVar 0) (eC (.int 1))) (aNil))) (prCons (eC (.str "l")) (eCallP 1 F_left (aCons (eVar 0) (aNil))) (prCons (eC (.str "u")) (eCa (fList false) (aCons (eOp fIx (eVar 0) (eC (.int 2))) (aNil))) (prCons (eC (.str "d")) (eCallP 1 F_down (aCons (eVar 0) (aNil))) (prNil))))))
def F_step_lists : List PV → Sto → Option (PV × Sto) := fnG 1 1 r_step_lists
/-! trace (K74) -/
def B1_trace : RnF := sExpr (eLM fApp (eVar 4) (aCons (eOp fIx (eDGet (eVar 3) (eVar 5)) (eOp fIx (eVar 4) (eUn fNeg (eC (.int 1))))) (aNil)))
def L1_trace : RnF := sFor (srcSeq (eVar 2)) (tgN 5) B1_trace
def r_trace : RnF := sSeq (sSet 3 (eCallG 1 F_step_lists (aCons (eVar 0) (aNil)))) (sSeq (sSet 4 (eLst true (aCons (eVar 1) (aNil)))) (sSeq (L1_trace) (sRet (eFrz (eVar 4)))))
def F_trace : List PyData → Option PyData := fnP 6 3 r_trace
/-! led (K74) -/
def r_led : RnF := sRet (eOp fIx (eCallP 3 F_trace (aCons (eVar 0) (aCons (eVar 1) (aCons (eVar 2) (aNil))))) (eUn fNeg (eC (.int 1))))
def F_led : List PyData → Option PyData := fnP 3 3 r_led
/-! laid_fault (K74) -/
def C1_laid_fault : EvF := eLc false (srcSeq (eVar 3)) (tgN 4) (tsYes) (eCh fLe fLt (eC (.int 0)) (eVar 4) (eCa fLen (aCons (eOp fIx (eVar 1) (eC (.int 1))) (aNil)))) [4]
def B1_laid_fault : RnF := sIf (tsOr (tsE (eOp (fEq true) (eOp fIx (eOp fIx (eVar 1) (eC (.int 1))) (eOp fIx (eVar 3) (eVar 5))) (eOp fIx (eVar 3) (eOp fIx (eOp fIx (eVar 0) (eC (.int 1))) (eVar 5))))) (tsE (eOp (fEq true) (eOp fIx (eOp fIx (eVar 1) (eC (.int 2))) (eOp fIx (eVar 3) (eVar 5))) (eOp fIx (eVar 3) (eOp fIx (eOp fIx (eVar 0) (eC (.int 2))) (eVar 5)))))) (sRet (eTup (aCons (eC (.str "square")) (aCons (eVar 5) (aNil))))) (sNil)
def L1_laid_fault : RnF := sFor (srcR1 (aCons (eCa fLen (aCons (eOp fIx (eVar 0) (eC (.int 1))) (aNil))) (aNil))) (tgN 5) B1_laid_fault
def C2_laid_fault : EvF := eLc false (srcSeq (eVar 7)) (tgN 8) (tsYes) (eOp (fIn false) (eVar 8) (eC (.str "rlud"))) [8]
def B2_laid_fault : RnF := sIf (tsOr (tsNot (tsTru (eCa fAll (aCons (C2_laid_fault) (aNil))))) (tsOr (tsE (eOp (fEq true) (eCallP 3 F_led (aCons (eVar 0) (aCons (eC (.int 0)) (aCons (eVar 7) (aNil))))) (eC (.int 0)))) (tsE (eOp (fEq false) (eCallP 3 F_led (aCons (eVar 1) (aCons (eVar 6) (aCons (eVar 7) (aNil))))) (eVar 6))))) (sRet (eTup (aCons (eC (.str "word")) (aCons (eVar 6) (aNil))))) (sNil)
def L2_laid_fault : RnF := sFor (srcEnA (aCons (eOp fIx (eVar 2) (eC (.int 1))) (aNil))) (tgT 2 (tgsCons (tgN 6) (tgsCons (tgN 7) (tgsNil)))) B2_laid_fault
def r_laid_fault : RnF := sSeq (sIf (tsE (eOp (fEq false) (eOp fIx (eVar 2) (eC (.int 0))) (eC (.str "laid")))) (sSeq (sSet 3 (eOp fIx (eVar 2) (eC (.int 1)))) (sSeq (sIf (tsOr (tsE (eOp (fEq true) (eCa fLen (aCons (eVar 3) (aNil))) (eCa fLen (aCons (eOp fIx (eVar 0) (eC (.int 1))) (aNil))))) (tsNot (tsTru (eCa fAll (aCons (C1_laid_fault) (aNil)))))) (sRet (eTup (aCons (eC (.str "images")) (aNil)))) (sNil)) (sSeq (L1_laid_fault) (sRet (eC .none))))) (sNil)) (sSeq (sIf (tsE (eOp (fEq true) (eCa fLen (aCons (eOp fIx (eVar 2) (eC (.int 1))) (aNil))) (eCa fLen (aCons (eOp fIx (eVar 1) (eC (.int 1))) (aNil))))) (sRet (eTup (aCons (eC (.str "length")) (aNil)))) (sNil)) (sSeq (L2_laid_fault) (sRet (eC .none))))
def F_laid_fault : List PyData → Option PyData := fnP 9 3 r_laid_fault
/-! unfolded (K74) -/
def C1_unfolded : EvF := eLc false (srcR1 (aCons (eOp (fMul false) (eC (.int 2)) (eVar 2)) (aNil))) (tgN 4) (tsYes) (eOp (fAdd false) (eOp fIx (eOp fIx (eVar 0) (eC (.int 1))) (eOp fMod (eVar 4) (eVar 2))) (eOp (fMul false) (eVar 2) (eOp fMod (eOp (fAdd false) (eOp fDiv (eVar 4) (eVar 2)) (eOp fMod (eCa fIntS (aCons (eOp fIx (eVar 1) (eOp fMod (eVar 4) (eVar 2))) (aNil))) (eC (.int 2)))) (eC (.int 2))))) [4]
def C2_unfolded : EvF := eLc false (srcR1 (aCons (eOp (fMul false) (eC (.int 2)) (eVar 2)) (aNil))) (tgN 4) (tsYes) (eOp (fAdd false) (eOp fIx (eOp fIx (eVar 0) (eC (.int 2))) (eOp fMod (eVar 4) (eVar 2))) (eOp (fMul false) (eVar 2) (eOp fMod (eOp (fAdd false) (eOp fDiv (eVar 4) (eVar 2)) (eOp fDiv (eCa fIntS (aCons (eOp fIx (eVar 1) (eOp fMod (eVar 4) (eVar 2))) (aNil))) (eC (.int 2)))) (eC (.int 2))))) [4]
def r_unfolded : RnF := sSeq (sSet 2 (eCa fLen (aCons (eOp fIx (eVar 0) (eC (.int 1))) (aNil)))) (sSeq (sSet 3 (C1_unfolded)) (sSeq (sSet 5 (C2_unfolded)) (sSeq (sSet 6 (eCallP 2 F_order_from (aCons (eTup (aCons (eC (.str "floor")) (aCons (eVar 3) (aCons (eVar 5) (aNil))))) (aCons (eC (.int 0)) (aNil))))) (sRet (eIf (tsE (eOp (fEq false) (eCa fLen (aCons (eVar 6) (aNil))) (eOp (fMul false) (eC (.int 2)) (eVar 2)))) (eTup (aCons (eC (.str "floor")) (aCons (eVar 3) (aCons (eVar 5) (aNil))))) (eC .none))))))
def F_unfolded : List PyData → Option PyData := fnP 7 2 r_unfolded
/-! corner_of (K74) -/
def B1_corner_of : RnF := sAsg (eVar 2) (tgSub (eVar 1) (eVar 4))
def L1_corner_of : RnF := sFor (srcSeq (eVar 3)) (tgN 4) B1_corner_of
def B2_corner_of : RnF := L1_corner_of
def L2_corner_of : RnF := sFor (srcEnA (aCons (eCallP 1 F_corners (aCons (eVar 0) (aNil))) (aNil))) (tgT 2 (tgsCons (tgN 2) (tgsCons (tgN 3) (tgsNil)))) B2_corner_of
def r_corner_of : RnF := sSeq (sSet 1 (eOp (fMul true) (eLst false (aCons (eC (.int 0)) (aNil))) (eCa fLen (aCons (eOp fIx (eVar 0) (eC (.int 1))) (aNil))))) (sSeq (L2_corner_of) (sRet (eFrz (eVar 1))))
def F_corner_of : List PyData → Option PyData := fnP 5 1 r_corner_of
/-! flow_of (K74) -/
def B1_flow_of : RnF := sIf (tsE (eOp (fEq false) (eVar 7) (eC (.str "r")))) (sAsg (eOp (fAdd false) (eOp fIx (eVar 3) (eOp fIx (eVar 5) (eVar 6))) (eC (.int 1))) (tgSub (eVar 3) (eOp fIx (eVar 5) (eVar 6)))) (sIf (tsE (eOp (fEq false) (eVar 7) (eC (.str "l")))) (sAsg (eOp fSub (eOp fIx (eVar 3) (eOp fIx (eVar 5) (eOp (fAdd false) (eVar 6) (eC (.int 1))))) (eC (.int 1))) (tgSub (eVar 3) (eOp fIx (eVar 5) (eOp (fAdd false) (eVar 6) (eC (.int 1)))))) (sIf (tsE (eOp (fEq false) (eVar 7) (eC (.str "u")))) (sAsg (eOp (fAdd false) (eOp fIx (eVar 4) (eOp fIx (eVar 5) (eVar 6))) (eC (.int 1))) (tgSub (eVar 4) (eOp fIx (eVar 5) (eVar 6)))) (sAsg (eOp fSub (eOp fIx (eVar 4) (eOp fIx (eVar 5) (eOp (fAdd false) (eVar 6) (eC (.int 1))))) (eC (.int 1))) (tgSub (eVar 4) (eOp fIx (eVar 5) (eOp (fAdd false) (eVar 6) (eC (.int 1))))))))
def L1_flow_of : RnF := sFor (srcEnA (aCons (eVar 2) (aNil))) (tgT 2 (tgsCons (tgN 6) (tgsCons (tgN 7) (tgsNil)))) B1_flow_of
def r_flow_of : RnF := sSeq (sSet 3 (eOp (fMul true) (eLst false (aCons (eC (.int 0)) (aNil))) (eCa fLen (aCons (eOp fIx (eVar 0) (eC (.int 1))) (aNil))))) (sSeq (sSet 4 (eOp (fMul true) (eLst false (aCons (eC (.int 0)) (aNil))) (eCa fLen (aCons (eOp fIx (eVar 0) (eC (.int 1))) (aNil))))) (sSeq (sSet 5 (eCallP 3 F_trace (aCons (eVar 0) (aCons (eVar 1) (aCons (eVar 2) (aNil)))))) (sSeq (L1_flow_of) (sRet (eTup (aCons (eFrz (eVar 3)) (aCons (eFrz (eVar 4)) (aNil))))))))
def F_flow_of : List PyData → Option PyData := fnP 8 3 r_flow_of
/-! sides_of (K74) -/
def B1_sides_of : RnF := sSeq (sExpr (eLM fApp (eVar 4) (aCons (eTup (aCons (eC (.str "right")) (aCons (eVar 5) (aCons (eOp fIx (eVar 1) (eOp fIx (eVar 2) (eVar 5))) (aCons (eOp fIx (eVar 1) (eVar 5)) (aNil)))))) (aNil)))) (sExpr (eLM fApp (eVar 4) (aCons (eTup (aCons (eC (.str "up")) (aCons (eVar 5) (aCons (eOp fIx (eVar 1) (eVar 5)) (aCons (eOp fIx (eVar 1) (eOp fIx (eVar 3) (eVar 5))) (aNil)))))) (aNil))))
def L1_sides_of : RnF := sFor (srcR1 (aCons (eCa fLen (aCons (eOp fIx (eVar 0) (eC (.int 1))) (aNil))) (aNil))) (tgN 5) B1_sides_of
def r_sides_of : RnF := sSeq (sSet 1 (eCallP 1 F_corner_of (aCons (eVar 0) (aNil)))) (sSeq (sPar 2 3 (aCons (eCallP 1 F_down (aCons (eVar 0) (aNil))) (aCons (eCallP 1 F_left (aCons (eVar 0) (aNil))) (aNil)))) (sSeq (sSet 4 (eLst true (aNil))) (sSeq (L1_sides_of) (sRet (eFrz (eVar 4))))))
def F_sides_of : List PyData → Option PyData := fnP 6 1 r_sides_of
/-! crossing (K74) -/
def B1_crossing : RnF := sSeq (sPar 9 10 (aCons (eOp fIx (eVar 5) (eVar 7)) (aCons (eOp fIx (eVar 5) (eOp (fAdd false) (eVar 7) (eC (.int 1)))) (aNil)))) (sIf (tsE (eOp (fEq false) (eVar 8) (eC (.str "r")))) (sSet 6 (eOp (fAdd false) (eVar 6) (eOp fIx (eVar 4) (eVar 10)))) (sIf (tsE (eOp (fEq false) (eVar 8) (eC (.str "l")))) (sSet 6 (eOp fSub (eVar 6) (eOp fIx (eVar 4) (eVar 9)))) (sIf (tsE (eOp (fEq false) (eVar 8) (eC (.str "u")))) (sSet 6 (eOp fSub (eVar 6) (eOp fIx (eVar 3) (eVar 10)))) (sSet 6 (eOp (fAdd false) (eVar 6) (eOp fIx (eVar 3) (eVar 9)))))))
def L1_crossing : RnF := sFor (srcEnA (aCons (eOp fIx (eVar 2) (eC (.int 1))) (aNil))) (tgT 2 (tgsCons (tgN 7) (tgsCons (tgN 8) (tgsNil)))) B1_crossing
def r_crossing : RnF := sSeq (sAsg (eCallP 3 F_flow_of (aCons (eVar 0) (aCons (eOp fIx (eVar 1) (eC (.int 0))) (aCons (eOp fIx (eVar 1) (eC (.int 1))) (aNil))))) (tgT 2 (tgsCons (tgN 3) (tgsCons (tgN 4) (tgsNil))))) (sSeq (sSet 5 (eCallP 3 F_trace (aCons (eVar 0) (aCons (eOp fIx (eVar 2) (eC (.int 0))) (aCons (eOp fIx (eVar 2) (eC (.int 1))) (aNil)))))) (sSeq (sSet 6 (eC (.int 0))) (sSeq (L1_crossing) (sRet (eVar 6)))))
def F_crossing : List PyData → Option PyData := fnP 11 3 r_crossing
/-! tree_words (K74) -/
def B1_tree_words : RnF := sIf (tsE (eDIn true (eVar 9) (eVar 1))) (sSeq (sDPut (eVar 1) (eVar 9) (eOp (fAdd false) (eDGet (eVar 1) (eVar 6)) (eVar 8))) (sSeq (sTPut (eVar 2) (eVar 10) (eC (.bool true))) (sExpr (eLM fApp (eVar 3) (aCons (eVar 9) (aNil)))))) (sNil)
def L1_tree_words : RnF := sFor (srcSeq (eVar 7)) (tgT 3 (tgsCons (tgN 8) (tgsCons (tgN 9) (tgsCons (tgN 10) (tgsNil))))) B1_tree_words
def B2_tree_words : RnF := sSeq (sSet 6 (eLM fPopAt (eVar 3) (aCons (eC (.int 0)) (aNil)))) (sSeq (sSet 7 (eTup (aCons (eTup (aCons (eC (.str "r")) (aCons (eOp fIx (eOp fIx (eVar 0) (eC (.int 1))) (eVar 6)) (aCons (eTup (aCons (eC (.str "right")) (aCons (eVar 6) (aNil)))) (aNil))))) (aCons (eTup (aCons (eC (.str "l")) (aCons (eOp fIx (eVar 5) (eVar 6)) (aCons (eTup (aCons (eC (.str "right")) (aCons (eOp fIx (eVar 5) (eVar 6)) (aNil)))) (aNil))))) (aCons (eTup (aCons (eC (.str "u")) (aCons (eOp fIx (eOp fIx (eVar 0) (eC (.int 2))) (eVar 6)) (aCons (eTup (aCons (eC (.str "up")) (aCons (eVar 6) (aNil)))) (aNil))))) (aCons (eTup (aCons (eC (.str "d")) (aCons (eOp fIx (eVar 4) (eVar 6)) (aCons (eTup (aCons (eC (.str "up")) (aCons (eOp fIx (eVar 4) (eVar 6)) (aNil)))) (aNil))))) (aNil))))))) (L1_tree_words))
def L2_tree_words : RnF := whileN (tsTru (eVar 3)) B2_tree_words 2000
def r_tree_words : RnF := sSeq (sSet 1 (eDic (prCons (eC (.int 0)) (eC (.str "")) (prNil)))) (sSeq (sSet 2 (eDicT0)) (sSeq (sSet 3 (eLst true (aCons (eC (.int 0)) (aNil)))) (sSeq (sPar 4 5 (aCons (eCallP 1 F_down (aCons (eVar 0) (aNil))) (aCons (eCallP 1 F_left (aCons (eVar 0) (aNil))) (aNil)))) (sSeq (L2_tree_words) (sRet (eTpl (aCons (eVar 1) (aCons (eVar 2) (aNil)))))))))
def F_tree_words : List PV → Sto → Option (PV × Sto) := fnG 11 1 r_tree_words
/-! loops_of (K74) -/
def B1_loops_of : RnF := sIf (tsAnd (tsE (eOp (fEq false) (eVar 10) (eVar 5))) (tsAnd (tsE (eOp (fIn true) (eVar 11) (eVar 3))) (tsE (eTIn true (eTup (aCons (eVar 6) (aCons (eVar 7) (aNil)))) (eVar 2))))) (sSeq (sExpr (eLM fApp (eVar 3) (aCons (eVar 11) (aNil)))) (sSeq (sExpr (eLM fApp (eVar 4) (aCons (eVar 11) (aNil)))) (sTPut (eVar 2) (eTup (aCons (eVar 6) (aCons (eVar 7) (aNil)))) (eC (.bool true))))) (sNil)
def L1_loops_of : RnF := sFor (srcSeq (eTup (aCons (eTup (aCons (eVar 8) (aCons (eVar 9) (aNil)))) (aCons (eTup (aCons (eVar 9) (aCons (eVar 8) (aNil)))) (aNil))))) (tgT 2 (tgsCons (tgN 10) (tgsCons (tgN 11) (tgsNil)))) B1_loops_of
def B2_loops_of : RnF := L1_loops_of
def L2_loops_of : RnF := sFor (srcSeq (eCallP 1 F_sides_of (aCons (eVar 0) (aNil)))) (tgT 4 (tgsCons (tgN 6) (tgsCons (tgN 7) (tgsCons (tgN 8) (tgsCons (tgN 9) (tgsNil)))))) B2_loops_of
def B3_loops_of : RnF := sSeq (sSet 5 (eLM fPopAt (eVar 4) (aCons (eC (.int 0)) (aNil)))) (L2_loops_of)
def L3_loops_of : RnF := whileN (tsTru (eVar 4)) B3_loops_of 2000
def C1_loops_of : EvF := eLc false (srcSeq (eRevS (eDGet (eVar 1) (eVar 11)))) (tgN 14) (tsYes) (eDGet (eDic (prCons (eC (.str "r")) (eC (.str "l")) (prCons (eC (.str "l")) (eC (.str "r")) (prCons (eC (.str "u")) (eC (.str "d")) (prCons (eC (.str "d")) (eC (.str "u")) (prNil)))))) (eVar 14)) [14]
def B4_loops_of : RnF := sIf (tsE (eTIn true (eTup (aCons (eVar 6) (aCons (eVar 7) (aNil)))) (eVar 2))) (sSeq (sSet 11 (eIf (tsE (eOp (fEq false) (eVar 6) (eC (.str "right")))) (eOp fIx (eOp fIx (eVar 0) (eC (.int 1))) (eVar 7)) (eOp fIx (eOp fIx (eVar 0) (eC (.int 2))) (eVar 7)))) (sSeq (sSet 13 (eJoin (eC (.str "")) (C1_loops_of))) (sExpr (eLM fApp (eVar 12) (aCons (eOp (fAdd false) (eOp (fAdd false) (eDGet (eVar 1) (eVar 7)) (eIf (tsE (eOp (fEq false) (eVar 6) (eC (.str "right")))) (eC (.str "r")) (eC (.str "u")))) (eVar 13)) (aNil)))))) (sNil)
def L4_loops_of : RnF := sFor (srcSeq (eCallP 1 F_sides_of (aCons (eVar 0) (aNil)))) (tgT 4 (tgsCons (tgN 6) (tgsCons (tgN 7) (tgsCons (tgN 8) (tgsCons (tgN 9) (tgsNil)))))) B4_loops_of
def r_loops_of : RnF := sSeq (sAsg (eCallG 1 F_tree_words (aCons (eVar 0) (aNil))) (tgT 2 (tgsCons (tgN 1) (tgsCons (tgN 2) (tgsNil))))) (sSeq (sSet 3 (eLst true (aCons (eC (.int 0)) (aNil)))) (sSeq (sSet 4 (eLst true (aCons (eC (.int 0)) (aNil)))) (sSeq (L3_loops_of) (sSeq (sSet 12 (eLst true (aNil))) (sSeq (L4_loops_of) (sRet (eFrz (eVar 12))))))))
def F_loops_of : List PyData → Option PyData := fnP 15 1 r_loops_of
/-! _law_trace (K74) -/
def B1__law_trace : RnF := sExpr (eLM fApp (eVar 4) (aCons (eOp fIx (eDGet (eVar 3) (eVar 5)) (eOp fIx (eVar 4) (eUn fNeg (eC (.int 1))))) (aNil)))
def L1__law_trace : RnF := sFor (srcSeq (eVar 2)) (tgN 5) B1__law_trace
def r__law_trace : RnF := sSeq (sPar 3 4 (aCons (eCallG 1 F__law_lists (aCons (eVar 0) (aNil))) (aCons (eLst true (aCons (eVar 1) (aNil))) (aNil)))) (sSeq (L1__law_trace) (sRet (eFrz (eVar 4))))
def F__law_trace : List PyData → Option PyData := fnP 6 3 r__law_trace
/-! _law_words (K74) -/
def B1__law_words : RnF := sIf (tsE (eDIn true (eOp fIx (eDGet (eVar 1) (eVar 4)) (eVar 3)) (eVar 2))) (sDPut (eVar 2) (eOp fIx (eDGet (eVar 1) (eVar 4)) (eVar 3)) (eOp (fAdd false) (eDGet (eVar 2) (eVar 3)) (eVar 4))) (sNil)
def L1__law_words : RnF := sFor (srcSeq (eLst false (aCons (eC (.str "r")) (aCons (eC (.str "l")) (aCons (eC (.str "u")) (aCons (eC (.str "d")) (aNil))))))) (tgN 4) B1__law_words
def B2__law_words : RnF := L1__law_words
def L2__law_words : RnF := sFor (srcSeq (eCa (fSortD false) (aCons (eVar 2) (aNil)))) (tgN 3) B2__law_words
def B3__law_words : RnF := L2__law_words
def L3__law_words : RnF := whileN (tsE (eOp fLt (eCa fLenD (aCons (eVar 2) (aNil))) (eCa fLen (aCons (eOp fIx (eVar 0) (eC (.int 1))) (aNil))))) B3__law_words 2000
def r__law_words : RnF := sSeq (sPar 1 2 (aCons (eCallG 1 F__law_lists (aCons (eVar 0) (aNil))) (aCons (eDic0) (aNil)))) (sSeq (sDPut (eVar 2) (eC (.int 0)) (eC (.str ""))) (sSeq (L3__law_words) (sRet (eVar 2))))
def F__law_words : List PV → Sto → Option (PV × Sto) := fnG 5 1 r__law_words
/-! _law_back (K74) -/
def C1__law_back : EvF := eLc false (srcR3 (aCons (eOp fSub (eCa fLen (aCons (eVar 0) (aNil))) (eC (.int 1))) (aCons (eOp fSub (eC (.int 0)) (eC (.int 1))) (aCons (eOp fSub (eC (.int 0)) (eC (.int 1))) (aNil))))) (tgN 1) (tsYes) (eDGet (eDic (prCons (eC (.str "r")) (eC (.str "l")) (prCons (eC (.str "l")) (eC (.str "r")) (prCons (eC (.str "u")) (eC (.str "d")) (prCons (eC (.str "d")) (eC (.str "u")) (prNil)))))) (eOp fIx (eVar 0) (eVar 1))) [1]
def r__law_back : RnF := sRet (eJoin (eC (.str "")) (C1__law_back))
def F__law_back : List PyData → Option PyData := fnP 2 1 r__law_back
/-! _law_closed (K74) -/
def C1__law_closed : EvF := eLc false (srcR1 (aCons (eCallG 2 F__law_take (aCons (eVar 0) (aCons (eVar 3) (aNil)))) (aNil))) (tgN 5) (tsYes) (eOp fIx (eLst false (aCons (eC (.str "r")) (aCons (eC (.str "l")) (aCons (eC (.str "u")) (aCons (eC (.str "d")) (aNil)))))) (eCallG 2 F__law_take (aCons (eVar 0) (aCons (eC (.int 4)) (aNil))))) [5]
def r__law_closed : RnF := sSeq (sSet 4 (eJoin (eC (.str "")) (C1__law_closed))) (sSeq (sSet 6 (eCallG 1 F__law_words (aCons (eVar 1) (aNil)))) (sRet (eOp (fAdd false) (eOp (fAdd false) (eVar 4) (eCallP 1 F__law_back (aCons (eDGet (eVar 6) (eOp fIx (eCallP 3 F__law_trace (aCons (eVar 1) (aCons (eVar 2) (aCons (eVar 4) (aNil))))) (eUn fNeg (eC (.int 1))))) (aNil)))) (eDGet (eVar 6) (eVar 2)))))
def F__law_closed : List PV → Sto → Option (PV × Sto) := fnG 7 4 r__law_closed
/-! law_K74 (K74) -/
def B1_law_K74 : RnF := sSeq (sSet 9 (eIf (tsE (eOp (fIn false) (eOp fIx (eVar 5) (eVar 8)) (eLst false (aCons (eC (.str "r")) (aCons (eC (.str "u")) (aNil)))))) (eOp fIx (eVar 6) (eOp (fAdd false) (eVar 8) (eC (.int 1)))) (eOp fIx (eVar 6) (eVar 8)))) (sSeq (sSet 10 (eIf (tsE (eOp (fIn false) (eOp fIx (eVar 5) (eVar 8)) (eLst false (aCons (eC (.str "r")) (aCons (eC (.str "l")) (aNil)))))) (eC (.int 2)) (eC (.int 1)))) (sAsg (eIf (tsE (eOp (fEq false) (eOp fMod (eCa fInt (aCons (eOp fDiv (eOp fIx (eVar 7) (eVar 9)) (eVar 10)) (aNil))) (eC (.int 2))) (eC (.int 1)))) (eOp fSub (eOp fIx (eVar 7) (eVar 9)) (eVar 10)) (eOp (fAdd false) (eOp fIx (eVar 7) (eVar 9)) (eVar 10))) (tgSub (eVar 7) (eVar 9))))
def L1_law_K74 : RnF := sFor (srcR1 (aCons (eCa fLen (aCons (eVar 5) (aNil))) (aNil))) (tgN 8) B1_law_K74
def C1_law_K74 : EvF := eLc false (srcSeq (eVar 7)) (tgN 12) (tsYes) (eOp fIx (eC (.str "0123")) (eVar 12)) [12]
def C2_law_K74 : EvF := eLc false (srcSeq (eVar 4)) (tgN 14) (tsE (eOp (fEq false) (eOp fMod (eCallP 3 F_crossing (aCons (eVar 2) (aCons (eTup (aCons (eC (.int 0)) (aCons (eVar 14) (aNil)))) (aCons (eTup (aCons (eC (.int 0)) (aCons (eVar 5) (aNil)))) (aNil))))) (eC (.int 2))) (eC (.int 1)))) (eVar 14) [14]
def C3_law_K74 : EvF := eLc false (srcR1 (aCons (eOp (fMul false) (eC (.int 2)) (eVar 3)) (aNil))) (tgN 9) (tsYes) (eOp fMod (eVar 9) (eVar 3)) [9]
def B2_law_K74 : RnF := sSeq (sSet 9 (eCallG 2 F__law_take (aCons (eVar 1) (aCons (eVar 3) (aNil))))) (sSeq (sSet 14 (eCallG 4 F__law_closed (aCons (eVar 1) (aCons (eVar 2) (aCons (eVar 9) (aCons (eC (.int 9)) (aNil))))))) (sSeq (sSet 16 (eCallP 3 F_led (aCons (eVar 11) (aCons (eVar 9) (aCons (eVar 14) (aNil)))))) (sIf (tsOr (tsE (eOp (fIn true) (eVar 16) (eLst false (aCons (eVar 9) (aCons (eOp (fAdd false) (eVar 9) (eVar 3)) (aNil)))))) (tsE (eOp (fEq true) (eOp (fEq false) (eVar 16) (eVar 9)) (eOp (fEq false) (eOp fMod (eCallP 3 F_crossing (aCons (eVar 2) (aCons (eTup (aCons (eVar 9) (aCons (eVar 14) (aNil)))) (aCons (eTup (aCons (eC (.int 0)) (aCons (eVar 5) (aNil)))) (aNil))))) (eC (.int 2))) (eC (.int 0)))))) (sRet (eC (.bool false))) (sNil))))
def L2_law_K74 : RnF := sFor (srcR1 (aCons (eC (.int 6)) (aNil))) (tgN 15) B2_law_K74
def r_law_K74 : RnF := sSeq (sSet 1 (eCallG 1 F__law_state (aCons (eVar 0) (aNil)))) (sSeq (sSet 2 (eCallG 2 F__law_floor (aCons (eVar 1) (aCons (eC (.int 6)) (aNil))))) (sSeq (sSet 3 (eCa fLen (aCons (eOp fIx (eVar 2) (eC (.int 1))) (aNil)))) (sSeq (sSet 4 (eCallP 1 F_loops_of (aCons (eVar 2) (aNil)))) (sSeq (sIf (tsE (eOp (fEq false) (eCa fLen (aCons (eVar 4) (aNil))) (eC (.int 0)))) (sRet (eC (.bool true))) (sNil)) (sSeq (sSet 5 (eOp (fAdd false) (eOp fIx (eVar 4) (eCallG 2 F__law_take (aCons (eVar 1) (aCons (eCa fLen (aCons (eVar 4) (aNil))) (aNil))))) (eIf (tsE (eOp (fEq false) (eCallG 2 F__law_take (aCons (eVar 1) (aCons (eC (.int 2)) (aNil)))) (eC (.int 0)))) (eOp fIx (eVar 4) (eCallG 2 F__law_take (aCons (eVar 1) (aCons (eCa fLen (aCons (eVar 4) (aNil))) (aNil))))) (eC (.str ""))))) (sSeq (sPar 6 7 (aCons (eCallP 3 F_trace (aCons (eVar 2) (aCons (eC (.int 0)) (aCons (eVar 5) (aNil))))) (aCons (eOp (fMul true) (eLst false (aCons (eC (.int 0)) (aNil))) (eVar 3)) (aNil)))) (sSeq (sIf (tsE (eOp (fEq true) (eVar 6) (eCallP 3 F__law_trace (aCons (eVar 2) (aCons (eC (.int 0)) (aCons (eVar 5) (aNil))))))) (sRet (eC (.bool false))) (sNil)) (sSeq (L1_law_K74) (sSeq (sSet 11 (eCallP 2 F_unfolded (aCons (eVar 2) (aCons (eJoin (eC (.str "")) (C1_law_K74)) (aNil))))) (sSeq (sSet 13 (eOp fGt (eCa fLen (aCons (C2_law_K74) (aNil))) (eC (.int 0)))) (sSeq (sIf (tsE (eOp (fEq true) (eOp (fIs true) (eVar 11) (eC .none)) (eVar 13))) (sRet (eC (.bool false))) (sNil)) (sSeq (sIf (tsE (eOp (fIs false) (eVar 11) (eC .none))) (sRet (eC (.bool true))) (sNil)) (sSeq (sIf (tsE (eOp (fIs true) (eCallP 3 F_laid_fault (aCons (eVar 11) (aCons (eVar 2) (aCons (eTup (aCons (eC (.str "laid")) (aCons (C3_law_K74) (aNil)))) (aNil))))) (eC .none))) (sRet (eC (.bool false))) (sNil)) (sSeq (L2_law_K74) (sRet (eC (.bool true)))))))))))))))))
def F_law_K74 : List PV → Sto → Option (PV × Sto) := fnG 17 1 r_law_K74
end CM
namespace K74
open PySem PySem.Spec PyProof.Rows L2 VX CM
def topS (i : Nat) : Stmt := PySem.Challenge.pw_straightways_k74_unfolded_by_crossings.main.body.getD i (.Pass ⟨0, 0, 0, 0⟩)
/-! ### turned_back -/
abbrev s_turned_back : Stmt := topS 1
abbrev N_turned_back : List Str := ["numbers", "found", "at", "number"]
theorem sc_turned_back : FnScope N_turned_back ["numbers"] (defScope s_turned_back) := ⟨rfl, rfl, rfl, by decide +kernel, rfl, by decide +kernel, by decide +kernel⟩
/-! ### behind -/
abbrev s_behind : Stmt := topS 2
abbrev N_behind : List Str := ["first", "second", "number"]
theorem sc_behind : FnScope N_behind ["first", "second"] (defScope s_behind) := ⟨rfl, rfl, rfl, by decide +kernel, rfl, by decide +kernel, by decide +kernel⟩
/-! ### left -/
abbrev s_left : Stmt := topS 3
abbrev N_left : List Str := ["floor"]
theorem sc_left : FnScope N_left ["floor"] (defScope s_left) := ⟨rfl, rfl, rfl, by decide +kernel, rfl, by decide +kernel, by decide +kernel⟩
/-! ### down -/
abbrev s_down : Stmt := topS 4
abbrev N_down : List Str := ["floor"]
theorem sc_down : FnScope N_down ["floor"] (defScope s_down) := ⟨rfl, rfl, rfl, by decide +kernel, rfl, by decide +kernel, by decide +kernel⟩
/-! ### listed -/
abbrev s_listed : Stmt := topS 5
abbrev N_listed : List Str := ["row", "right", "up", "seen", "waiting", "found", "square", "there"]
theorem sc_listed : FnScope N_listed ["row", "right", "up", "seen"] (defScope s_listed) := ⟨rfl, rfl, rfl, by decide +kernel, rfl, by decide +kernel, by decide +kernel⟩
/-! ### order_from -/
abbrev s_order_from : Stmt := topS 6
abbrev N_order_from : List Str := ["floor", "start"]
theorem sc_order_from : FnScope N_order_from ["floor", "start"] (defScope s_order_from) := ⟨rfl, rfl, rfl, by decide +kernel, rfl, by decide +kernel, by decide +kernel⟩
/-! ### rounds_of -/
abbrev s_rounds_of : Stmt := topS 7
abbrev N_rounds_of : List Str := ["numbers", "seen", "found", "start", "row", "here"]
theorem sc_rounds_of : FnScope N_rounds_of ["numbers"] (defScope s_rounds_of) := ⟨rfl, rfl, rfl, by decide +kernel, rfl, by decide +kernel, by decide +kernel⟩
/-! ### corners -/
abbrev s_corners : Stmt := topS 8
abbrev N_corners : List Str := ["floor", "way"]
theorem sc_corners : FnScope N_corners ["floor"] (defScope s_corners) := ⟨rfl, rfl, rfl, by decide +kernel, rfl, by decide +kernel, by decide +kernel⟩
/-! ### step_lists -/
abbrev s_step_lists : Stmt := topS 10
abbrev N_step_lists : List Str := ["floor"]
theorem sc_step_lists : FnScope N_step_lists ["floor"] (defScope s_step_lists) := ⟨rfl, rfl, rfl, by decide +kernel, rfl, by decide +kernel, by decide +kernel⟩
/-! ### trace -/
abbrev s_trace : Stmt := topS 11
abbrev N_trace : List Str := ["floor", "square", "word", "lists", "found", "sign"]
theorem sc_trace : FnScope N_trace ["floor", "square", "word"] (defScope s_trace) := ⟨rfl, rfl, rfl, by decide +kernel, rfl, by decide +kernel, by decide +kernel⟩
/-! ### led -/
abbrev s_led : Stmt := topS 12
abbrev N_led : List Str := ["floor", "square", "word"]
theorem sc_led : FnScope N_led ["floor", "square", "word"] (defScope s_led) := ⟨rfl, rfl, rfl, by decide +kernel, rfl, by decide +kernel, by decide +kernel⟩
/-! ### laid_fault -/
abbrev s_laid_fault : Stmt := topS 14
abbrev N_laid_fault : List Str := ["one", "other", "told", "images", "image", "square", "goal", "word", "sign"]
theorem sc_laid_fault : FnScope N_laid_fault ["one", "other", "told"] (defScope s_laid_fault) := ⟨rfl, rfl, rfl, by decide +kernel, rfl, by decide +kernel, by decide +kernel⟩
/-! ### unfolded -/
abbrev s_unfolded : Stmt := topS 15
abbrev N_unfolded : List Str := ["floor", "word", "count", "right", "at", "up", "there"]
theorem sc_unfolded : FnScope N_unfolded ["floor", "word"] (defScope s_unfolded) := ⟨rfl, rfl, rfl, by decide +kernel, rfl, by decide +kernel, by decide +kernel⟩
/-! ### corner_of -/
abbrev s_corner_of : Stmt := topS 17
abbrev N_corner_of : List Str := ["floor", "found", "number", "row", "square"]
theorem sc_corner_of : FnScope N_corner_of ["floor"] (defScope s_corner_of) := ⟨rfl, rfl, rfl, by decide +kernel, rfl, by decide +kernel, by decide +kernel⟩
/-! ### flow_of -/
abbrev s_flow_of : Stmt := topS 18
abbrev N_flow_of : List Str := ["floor", "square", "word", "rights", "ups", "row", "at", "sign"]
theorem sc_flow_of : FnScope N_flow_of ["floor", "square", "word"] (defScope s_flow_of) := ⟨rfl, rfl, rfl, by decide +kernel, rfl, by decide +kernel, by decide +kernel⟩
/-! ### sides_of -/
abbrev s_sides_of : Stmt := topS 19
abbrev N_sides_of : List Str := ["floor", "corner", "below", "beside", "found", "square"]
theorem sc_sides_of : FnScope N_sides_of ["floor"] (defScope s_sides_of) := ⟨rfl, rfl, rfl, by decide +kernel, rfl, by decide +kernel, by decide +kernel⟩
/-! ### crossing -/
abbrev s_crossing : Stmt := topS 20
abbrev N_crossing : List Str := ["floor", "one", "other", "rights", "ups", "row", "total", "at", "sign", "here", "there"]
theorem sc_crossing : FnScope N_crossing ["floor", "one", "other"] (defScope s_crossing) := ⟨rfl, rfl, rfl, by decide +kernel, rfl, by decide +kernel, by decide +kernel⟩
/-! ### tree_words -/
abbrev s_tree_words : Stmt := topS 21
abbrev N_tree_words : List Str := ["floor", "words", "used", "waiting", "below", "beside", "square", "steps", "sign", "there", "side"]
theorem sc_tree_words : FnScope N_tree_words ["floor"] (defScope s_tree_words) := ⟨rfl, rfl, rfl, by decide +kernel, rfl, by decide +kernel, by decide +kernel⟩
/-! ### loops_of -/
abbrev s_loops_of : Stmt := topS 22
abbrev N_loops_of : List Str := ["floor", "words", "used", "known", "waiting", "corner", "kind", "square", "start", "end", "here", "there", "found", "home", "sign"]
theorem sc_loops_of : FnScope N_loops_of ["floor"] (defScope s_loops_of) := ⟨rfl, rfl, rfl, by decide +kernel, rfl, by decide +kernel, by decide +kernel⟩
/-! ### _law_state -/
abbrev s__law_state : Stmt := topS 24
abbrev N__law_state : List Str := ["script", "cells", "cell"]
theorem sc__law_state : FnScope N__law_state ["script"] (defScope s__law_state) := ⟨rfl, rfl, rfl, by decide +kernel, rfl, by decide +kernel, by decide +kernel⟩
/-! ### _law_take -/
abbrev s__law_take : Stmt := topS 25
abbrev N__law_take : List Str := ["state", "most", "cells", "at", "cell", "mixed"]
theorem sc__law_take : FnScope N__law_take ["state", "most"] (defScope s__law_take) := ⟨rfl, rfl, rfl, by decide +kernel, rfl, by decide +kernel, by decide +kernel⟩
/-! ### _law_floor -/
abbrev s__law_floor : Stmt := topS 26
abbrev N__law_floor : List Str := ["state", "most", "right", "up", "count", "side", "under"]
theorem sc__law_floor : FnScope N__law_floor ["state", "most"] (defScope s__law_floor) := ⟨rfl, rfl, rfl, by decide +kernel, rfl, by decide +kernel, by decide +kernel⟩
/-! ### _law_lists -/
abbrev s__law_lists : Stmt := topS 27
abbrev N__law_lists : List Str := ["floor", "count", "lists", "square"]
theorem sc__law_lists : FnScope N__law_lists ["floor"] (defScope s__law_lists) := ⟨rfl, rfl, rfl, by decide +kernel, rfl, by decide +kernel, by decide +kernel⟩
/-! ### _law_trace -/
abbrev s__law_trace : Stmt := topS 28
abbrev N__law_trace : List Str := ["floor", "square", "word", "lists", "row", "sign"]
theorem sc__law_trace : FnScope N__law_trace ["floor", "square", "word"] (defScope s__law_trace) := ⟨rfl, rfl, rfl, by decide +kernel, rfl, by decide +kernel, by decide +kernel⟩
/-! ### _law_words -/
abbrev s__law_words : Stmt := topS 29
abbrev N__law_words : List Str := ["floor", "lists", "words", "square", "sign"]
theorem sc__law_words : FnScope N__law_words ["floor"] (defScope s__law_words) := ⟨rfl, rfl, rfl, by decide +kernel, rfl, by decide +kernel, by decide +kernel⟩
/-! ### _law_back -/
abbrev s__law_back : Stmt := topS 30
abbrev N__law_back : List Str := ["word", "k"]
theorem sc__law_back : FnScope N__law_back ["word"] (defScope s__law_back) := ⟨rfl, rfl, rfl, by decide +kernel, rfl, by decide +kernel, by decide +kernel⟩
/-! ### _law_closed -/
abbrev s__law_closed : Stmt := topS 31
abbrev N__law_closed : List Str := ["state", "floor", "square", "most", "word", "k", "words"]
theorem sc__law_closed : FnScope N__law_closed ["state", "floor", "square", "most"] (defScope s__law_closed) := ⟨rfl, rfl, rfl, by decide +kernel, rfl, by decide +kernel, by decide +kernel⟩
/-! ### law -/
abbrev s_law : Stmt := topS 32
abbrev N_law : List Str := ["script", "state", "floor", "count", "loops", "loop", "row", "marks", "k", "square", "bit", "above", "mark", "odd", "word", "turn", "back"]
theorem sc_law : FnScope N_law ["script"] (defScope s_law) := ⟨rfl, rfl, rfl, by decide +kernel, rfl, by decide +kernel, by decide +kernel⟩
structure Tx (K : PySem.W.Frag) (mg : Str → Option Value) : Prop where
  z_abs : mg "abs" = none
  z_all : mg "all" = none
  z_enumerate : mg "enumerate" = none
  z_int : mg "int" = none
  z_len : mg "len" = none
  z_list : mg "list" = none
  z_range : mg "range" = none
  z_sorted : mg "sorted" = none
  f_turned_back : At K mg "turned_back" s_turned_back ["numbers"]
  f_behind : At K mg "behind" s_behind ["first", "second"]
  f_left : At K mg "left" s_left ["floor"]
  f_down : At K mg "down" s_down ["floor"]
  f_listed : At K mg "listed" s_listed ["row", "right", "up", "seen"]
  f_order_from : At K mg "order_from" s_order_from ["floor", "start"]
  f_rounds_of : At K mg "rounds_of" s_rounds_of ["numbers"]
  f_corners : At K mg "corners" s_corners ["floor"]
  f_step_lists : At K mg "step_lists" s_step_lists ["floor"]
  f_trace : At K mg "trace" s_trace ["floor", "square", "word"]
  f_led : At K mg "led" s_led ["floor", "square", "word"]
  f_laid_fault : At K mg "laid_fault" s_laid_fault ["one", "other", "told"]
  f_unfolded : At K mg "unfolded" s_unfolded ["floor", "word"]
  f_corner_of : At K mg "corner_of" s_corner_of ["floor"]
  f_flow_of : At K mg "flow_of" s_flow_of ["floor", "square", "word"]
  f_sides_of : At K mg "sides_of" s_sides_of ["floor"]
  f_crossing : At K mg "crossing" s_crossing ["floor", "one", "other"]
  f_tree_words : At K mg "tree_words" s_tree_words ["floor"]
  f_loops_of : At K mg "loops_of" s_loops_of ["floor"]
  f__law_state : At K mg "_law_state" s__law_state ["script"]
  f__law_take : At K mg "_law_take" s__law_take ["state", "most"]
  f__law_floor : At K mg "_law_floor" s__law_floor ["state", "most"]
  f__law_lists : At K mg "_law_lists" s__law_lists ["floor"]
  f__law_trace : At K mg "_law_trace" s__law_trace ["floor", "square", "word"]
  f__law_words : At K mg "_law_words" s__law_words ["floor"]
  f__law_back : At K mg "_law_back" s__law_back ["word"]
  f__law_closed : At K mg "_law_closed" s__law_closed ["state", "floor", "square", "most"]
  f_law : At K mg "law" s_law ["script"]
section
variable {P : Program} {w : World} {K : PySem.W.Frag} {mg : Str → Option Value} {base : Heap}
set_option maxHeartbeats 1000000
theorem d_turned_back (T : Tx K mg) : DefOk P w K mg base 1 "turned_back" (spP 1 F_turned_back) :=
  d_pure T.f_turned_back sc_turned_back fun f cdv A outer s H E hr => (ss_cons (s_set (i := 1) sc_turned_back.nd rfl (Or.inl rfl) (m_mul true (m_lst false (a_cons m_int a_nil)) (m_len rfl T.z_len (a_cons (m_var 0) a_nil)))) (ss_cons (s_for PassesOwn.never rfl (i_enumA rfl T.z_enumerate (a_cons (m_var 0) a_nil)) (g_tup rfl (gs_cons (g_name (i := 2) sc_turned_back.nd rfl (Or.inl rfl)) (gs_cons (g_name (i := 3) sc_turned_back.nd rfl (Or.inl rfl)) gs_nil))) (ss_one (s_asg (m_var 2) (g_sub (m_var 1) (m_var 3))))) (ss_one (s_ret (m_frz (m_var 1))))))
theorem d_behind (T : Tx K mg) : DefOk P w K mg base 1 "behind" (spP 2 F_behind) :=
  d_pure T.f_behind sc_behind fun f cdv A outer s H E hr => (ss_one (s_ret (m_lc (own := [("number", 2)]) false 2 rfl sc_behind.nd (i_seq (m_var 0)) (blkOk_by (own := [("number", 2)]) (N := N_behind) (sc := defScope s_behind) (by decide +kernel)) (fun _ _ _ _ _ => pg_name (i := 2) sc_behind.nd rfl (Or.inl rfl)) (fun _ _ _ _ _ => ts_nil) (fun _ _ _ _ _ => (m_ix (m_var 1) (m_var 2))))))
theorem d_left (T : Tx K mg) : DefOk P w K mg base 2 "left" (spP 1 F_left) :=
  d_pure T.f_left sc_left fun f cdv A outer s H E hr => (ss_one (s_ret (m_cP (d_turned_back T) (hr.mono (by decide)) rfl (a_cons (m_ix (m_var 0) m_int) a_nil))))
theorem d_down (T : Tx K mg) : DefOk P w K mg base 2 "down" (spP 1 F_down) :=
  d_pure T.f_down sc_down fun f cdv A outer s H E hr => (ss_one (s_ret (m_cP (d_turned_back T) (hr.mono (by decide)) rfl (a_cons (m_ix (m_var 0) m_int) a_nil))))
theorem d_listed (T : Tx K mg) : DefOk P w K mg base 1 "listed" (spG K 4 F_listed) :=
  d_gen T.f_listed sc_listed fun f cdv A outer s H E hr => (ss_cons (s_set (i := 4) sc_listed.nd rfl (Or.inl rfl) (m_list true rfl T.z_list (a_cons (m_var 0) a_nil))) (ss_cons (s_set (i := 5) sc_listed.nd rfl (Or.inl rfl) (m_lst true a_nil)) (ss_cons (s_while 2000 PassesOwn.never (t_gt (m_len rfl T.z_len (a_cons (m_var 4) a_nil)) m_int) (ss_cons (s_set (i := 6) sc_listed.nd rfl (Or.inl rfl) (m_popAt (m_var 4) (a_cons m_int a_nil))) (ss_one (s_for PassesOwn.never rfl (i_seq (m_tup (a_cons (m_ix (m_var 1) (m_var 6)) (a_cons (m_ix (m_var 2) (m_var 6)) a_nil)))) (g_name (i := 7) sc_listed.nd rfl (Or.inl rfl)) (ss_one (s_if (t_dnotin (hu65 hr) (m_var 7) (m_var 3)) (ss_cons (s_dput (hu65 hr) (m_var 3) (m_var 7) m_bl) (ss_cons (s_expr (m_app (m_var 4) (a_cons (m_var 7) a_nil))) (ss_one (s_expr (m_app (m_var 5) (a_cons (m_var 7) a_nil)))))) ss_nil)))))) (ss_one (s_ret (m_frz (m_var 5)))))))
theorem d_order_from (T : Tx K mg) : DefOk P w K mg base 2 "order_from" (spP 2 F_order_from) :=
  d_pure T.f_order_from sc_order_from fun f cdv A outer s H E hr => (ss_one (s_ret (m_add false (m_lst false (a_cons (m_var 1) a_nil)) (m_cG (d_listed T) (hr.mono (by decide)) rfl (a_cons (m_lst false (a_cons (m_var 1) a_nil)) (a_cons (m_ix (m_var 0) m_int) (a_cons (m_ix (m_var 0) m_int) (a_cons (m_dic (p_cons (m_var 1) m_bl p_nil) rfl rfl (by simp) (by decide)) a_nil))))))))
theorem d_rounds_of (T : Tx K mg) : DefOk P w K mg base 1 "rounds_of" (spP 1 F_rounds_of) :=
  d_pure T.f_rounds_of sc_rounds_of fun f cdv A outer s H E hr => (ss_cons (s_set (i := 1) sc_rounds_of.nd rfl (Or.inl rfl) m_dic0) (ss_cons (s_set (i := 2) sc_rounds_of.nd rfl (Or.inl rfl) (m_lst true a_nil)) (ss_cons (s_for PassesOwn.never rfl (i_range1 rfl T.z_range (a_cons (m_len rfl T.z_len (a_cons (m_var 0) a_nil)) a_nil)) (g_name (i := 3) sc_rounds_of.nd rfl (Or.inl rfl)) (ss_cons (s_set (i := 4) sc_rounds_of.nd rfl (Or.inl rfl) (m_lst true a_nil)) (ss_cons (s_set (i := 5) sc_rounds_of.nd rfl (Or.inl rfl) (m_var 3)) (ss_cons (s_while 2000 PassesOwn.never (t_dnotin (hu65 hr) (m_var 5) (m_var 1)) (ss_cons (s_dput (hu65 hr) (m_var 1) (m_var 5) m_bl) (ss_cons (s_expr (m_app (m_var 4) (a_cons (m_var 5) a_nil))) (ss_one (s_set (i := 5) sc_rounds_of.nd rfl (Or.inl rfl) (m_ix (m_var 0) (m_var 5))))))) (ss_one (s_if (t_gt (m_len rfl T.z_len (a_cons (m_var 4) a_nil)) m_int) (ss_one (s_expr (m_app (m_var 2) (a_cons (m_frz (m_var 4)) a_nil)))) ss_nil)))))) (ss_one (s_ret (m_frz (m_var 2)))))))
theorem d_corners (T : Tx K mg) : DefOk P w K mg base 3 "corners" (spP 1 F_corners) :=
  d_pure T.f_corners sc_corners fun f cdv A outer s H E hr => (ss_cons (s_set (i := 1) sc_corners.nd rfl (Or.inl rfl) (m_cP (d_behind T) (hr.mono (by decide)) rfl (a_cons (m_cP (d_behind T) (hr.mono (by decide)) rfl (a_cons (m_ix (m_var 0) m_int) (a_cons (m_ix (m_var 0) m_int) a_nil))) (a_cons (m_cP (d_behind T) (hr.mono (by decide)) rfl (a_cons (m_cP (d_left T) (hr.mono (by decide)) rfl (a_cons (m_var 0) a_nil)) (a_cons (m_cP (d_down T) (hr.mono (by decide)) rfl (a_cons (m_var 0) a_nil)) a_nil))) a_nil)))) (ss_one (s_ret (m_cP (d_rounds_of T) (hr.mono (by decide)) rfl (a_cons (m_var 1) a_nil)))))
theorem d_step_lists (T : Tx K mg) : DefOk P w K mg base 3 "step_lists" (spG K 1 F_step_lists) :=
  d_gen T.f_step_lists sc_step_lists fun f cdv A outer s H E hr => (ss_one (s_ret (m_dic (p_cons m_str (m_list false rfl T.z_list (a_cons (m_ix (m_var 0) m_int) a_nil)) (p_cons m_str (m_cP (d_left T) (hr.mono (by decide)) rfl (a_cons (m_var 0) a_nil)) (p_cons m_str (m_list false rfl T.z_list (a_cons (m_ix (m_var 0) m_int) a_nil)) (p_cons m_str (m_cP (d_down T) (hr.mono (by decide)) rfl (a_cons (m_var 0) a_nil)) p_nil)))) rfl rfl (by simp) (by decide))))
theorem d_trace (T : Tx K mg) : DefOk P w K mg base 4 "trace" (spP 3 F_trace) :=
  d_pure T.f_trace sc_trace fun f cdv A outer s H E hr => (ss_cons (s_set (i := 3) sc_trace.nd rfl (Or.inl rfl) (m_cG (d_step_lists T) (hr.mono (by decide)) rfl (a_cons (m_var 0) a_nil))) (ss_cons (s_set (i := 4) sc_trace.nd rfl (Or.inl rfl) (m_lst true (a_cons (m_var 1) a_nil))) (ss_cons (s_for PassesOwn.never rfl (i_seq (m_var 2)) (g_name (i := 5) sc_trace.nd rfl (Or.inl rfl)) (ss_one (s_expr (m_app (m_var 4) (a_cons (m_ix (m_dget (hu65 hr) (m_var 3) (m_var 5)) (m_ix (m_var 4) (m_neg m_int))) a_nil))))) (ss_one (s_ret (m_frz (m_var 4)))))))
theorem d_led (T : Tx K mg) : DefOk P w K mg base 5 "led" (spP 3 F_led) :=
  d_pure T.f_led sc_led fun f cdv A outer s H E hr => (ss_one (s_ret (m_ix (m_cP (d_trace T) (hr.mono (by decide)) rfl (a_cons (m_var 0) (a_cons (m_var 1) (a_cons (m_var 2) a_nil)))) (m_neg m_int))))
theorem d_laid_fault (T : Tx K mg) : DefOk P w K mg base 6 "laid_fault" (spP 3 F_laid_fault) :=
  d_pure T.f_laid_fault sc_laid_fault fun f cdv A outer s H E hr => (ss_cons (s_if (t_eq (hu65 hr) (m_ix (m_var 2) m_int) m_str) (ss_cons (s_set (i := 3) sc_laid_fault.nd rfl (Or.inl rfl) (m_ix (m_var 2) m_int)) (ss_cons (s_if (t_w (w_or (t_ne (hu65 hr) (m_len rfl T.z_len (a_cons (m_var 3) a_nil)) (m_len rfl T.z_len (a_cons (m_ix (m_var 0) m_int) a_nil))) (w_or1 (t_not (t_tru (m_all rfl rfl T.z_all (a_cons (m_lc (own := [("image", 4)]) false 4 rfl sc_laid_fault.nd (i_seq (m_var 3)) (blkOk_by (own := [("image", 4)]) (N := N_laid_fault) (sc := defScope s_laid_fault) (by decide +kernel)) (fun _ _ _ _ _ => pg_name (i := 4) sc_laid_fault.nd rfl (Or.inl rfl)) (fun _ _ _ _ _ => ts_nil) (fun _ _ _ _ _ => (m_chain op_le op_lt ao_IB ao_IB m_int (m_var 4) (m_len rfl T.z_len (a_cons (m_ix (m_var 1) m_int) a_nil))))) a_nil))))))) (ss_one (s_ret (m_tup (a_cons m_str a_nil)))) ss_nil) (ss_cons (s_for PassesOwn.never rfl (i_range1 rfl T.z_range (a_cons (m_len rfl T.z_len (a_cons (m_ix (m_var 0) m_int) a_nil)) a_nil)) (g_name (i := 5) sc_laid_fault.nd rfl (Or.inl rfl)) (ss_one (s_if (t_w (w_or (t_ne (hu65 hr) (m_ix (m_ix (m_var 1) m_int) (m_ix (m_var 3) (m_var 5))) (m_ix (m_var 3) (m_ix (m_ix (m_var 0) m_int) (m_var 5)))) (w_or1 (t_ne (hu65 hr) (m_ix (m_ix (m_var 1) m_int) (m_ix (m_var 3) (m_var 5))) (m_ix (m_var 3) (m_ix (m_ix (m_var 0) m_int) (m_var 5))))))) (ss_one (s_ret (m_tup (a_cons m_str (a_cons (m_var 5) a_nil))))) ss_nil))) (ss_one (s_ret m_non))))) ss_nil) (ss_cons (s_if (t_ne (hu65 hr) (m_len rfl T.z_len (a_cons (m_ix (m_var 2) m_int) a_nil)) (m_len rfl T.z_len (a_cons (m_ix (m_var 1) m_int) a_nil))) (ss_one (s_ret (m_tup (a_cons m_str a_nil)))) ss_nil) (ss_cons (s_for PassesOwn.never rfl (i_enumA rfl T.z_enumerate (a_cons (m_ix (m_var 2) m_int) a_nil)) (g_tup rfl (gs_cons (g_name (i := 6) sc_laid_fault.nd rfl (Or.inl rfl)) (gs_cons (g_name (i := 7) sc_laid_fault.nd rfl (Or.inl rfl)) gs_nil))) (ss_one (s_if (t_w (w_or (t_not (t_tru (m_all rfl rfl T.z_all (a_cons (m_lc (own := [("sign", 8)]) false 8 rfl sc_laid_fault.nd (i_seq (m_var 7)) (blkOk_by (own := [("sign", 8)]) (N := N_laid_fault) (sc := defScope s_laid_fault) (by decide +kernel)) (fun _ _ _ _ _ => pg_name (i := 8) sc_laid_fault.nd rfl (Or.inl rfl)) (fun _ _ _ _ _ => ts_nil) (fun _ _ _ _ _ => (m_in (hu65 hr) (m_var 8) m_str))) a_nil)))) (w_or (t_ne (hu65 hr) (m_cP (d_led T) (hr.mono (by decide)) rfl (a_cons (m_var 0) (a_cons m_int (a_cons (m_var 7) a_nil)))) m_int) (w_or1 (t_eq (hu65 hr) (m_cP (d_led T) (hr.mono (by decide)) rfl (a_cons (m_var 1) (a_cons (m_var 6) (a_cons (m_var 7) a_nil)))) (m_var 6)))))) (ss_one (s_ret (m_tup (a_cons m_str (a_cons (m_var 6) a_nil))))) ss_nil))) (ss_one (s_ret m_non)))))
theorem d_unfolded (T : Tx K mg) : DefOk P w K mg base 3 "unfolded" (spP 2 F_unfolded) :=
  d_pure T.f_unfolded sc_unfolded fun f cdv A outer s H E hr => (ss_cons (s_set (i := 2) sc_unfolded.nd rfl (Or.inr rfl) (m_len rfl T.z_len (a_cons (m_ix (m_var 0) m_int) a_nil))) (ss_cons (s_setLc (own := [("at", 4)]) false 4 rfl sc_unfolded.nd rfl rfl (sw_true rfl rfl rfl (by decide +kernel)) (i_range1 rfl T.z_range (a_cons (m_mul false m_int (m_var 2)) a_nil)) (blkOk_by (own := [("at", 4)]) (N := N_unfolded) (sc := defScope s_unfolded) (by decide +kernel)) (fun _ _ _ _ _ => pg_name (i := 4) sc_unfolded.nd rfl (Or.inl rfl)) (fun _ _ _ _ _ => ts_nil) (fun _ _ _ _ _ => (m_add false (m_ix (m_ix (m_var 0) m_int) (m_mod (m_var 4) (m_var 2))) (m_mul false (m_var 2) (m_mod (m_add false (m_div (m_var 4) (m_var 2)) (m_mod (m_intS rfl T.z_int (a_cons (m_ix (m_var 1) (m_mod (m_var 4) (m_var 2))) a_nil)) m_int)) m_int))))) (ss_cons (s_setLc (own := [("at", 4)]) false 4 rfl sc_unfolded.nd rfl rfl (sw_true rfl rfl rfl (by decide +kernel)) (i_range1 rfl T.z_range (a_cons (m_mul false m_int (m_var 2)) a_nil)) (blkOk_by (own := [("at", 4)]) (N := N_unfolded) (sc := defScope s_unfolded) (by decide +kernel)) (fun _ _ _ _ _ => pg_name (i := 4) sc_unfolded.nd rfl (Or.inl rfl)) (fun _ _ _ _ _ => ts_nil) (fun _ _ _ _ _ => (m_add false (m_ix (m_ix (m_var 0) m_int) (m_mod (m_var 4) (m_var 2))) (m_mul false (m_var 2) (m_mod (m_add false (m_div (m_var 4) (m_var 2)) (m_div (m_intS rfl T.z_int (a_cons (m_ix (m_var 1) (m_mod (m_var 4) (m_var 2))) a_nil)) m_int)) m_int))))) (ss_cons (s_set (i := 6) sc_unfolded.nd rfl (Or.inl rfl) (m_cP (d_order_from T) (hr.mono (by decide)) rfl (a_cons (m_tup (a_cons m_str (a_cons (m_var 3) (a_cons (m_var 5) a_nil)))) (a_cons m_int a_nil)))) (ss_one (s_ret (m_if (t_eq (hu65 hr) (m_len rfl T.z_len (a_cons (m_var 6) a_nil)) (m_mul false m_int (m_var 2))) (m_tup (a_cons m_str (a_cons (m_var 3) (a_cons (m_var 5) a_nil)))) m_non)))))))
theorem d_corner_of (T : Tx K mg) : DefOk P w K mg base 4 "corner_of" (spP 1 F_corner_of) :=
  d_pure T.f_corner_of sc_corner_of fun f cdv A outer s H E hr => (ss_cons (s_set (i := 1) sc_corner_of.nd rfl (Or.inl rfl) (m_mul true (m_lst false (a_cons m_int a_nil)) (m_len rfl T.z_len (a_cons (m_ix (m_var 0) m_int) a_nil)))) (ss_cons (s_for PassesOwn.never rfl (i_enumA rfl T.z_enumerate (a_cons (m_cP (d_corners T) (hr.mono (by decide)) rfl (a_cons (m_var 0) a_nil)) a_nil)) (g_tup rfl (gs_cons (g_name (i := 2) sc_corner_of.nd rfl (Or.inl rfl)) (gs_cons (g_name (i := 3) sc_corner_of.nd rfl (Or.inl rfl)) gs_nil))) (ss_one (s_for PassesOwn.never rfl (i_seq (m_var 3)) (g_name (i := 4) sc_corner_of.nd rfl (Or.inl rfl)) (ss_one (s_asg (m_var 2) (g_sub (m_var 1) (m_var 4))))))) (ss_one (s_ret (m_frz (m_var 1))))))
theorem d_flow_of (T : Tx K mg) : DefOk P w K mg base 5 "flow_of" (spP 3 F_flow_of) :=
  d_pure T.f_flow_of sc_flow_of fun f cdv A outer s H E hr => (ss_cons (s_set (i := 3) sc_flow_of.nd rfl (Or.inl rfl) (m_mul true (m_lst false (a_cons m_int a_nil)) (m_len rfl T.z_len (a_cons (m_ix (m_var 0) m_int) a_nil)))) (ss_cons (s_set (i := 4) sc_flow_of.nd rfl (Or.inl rfl) (m_mul true (m_lst false (a_cons m_int a_nil)) (m_len rfl T.z_len (a_cons (m_ix (m_var 0) m_int) a_nil)))) (ss_cons (s_set (i := 5) sc_flow_of.nd rfl (Or.inl rfl) (m_cP (d_trace T) (hr.mono (by decide)) rfl (a_cons (m_var 0) (a_cons (m_var 1) (a_cons (m_var 2) a_nil))))) (ss_cons (s_for PassesOwn.never rfl (i_enumA rfl T.z_enumerate (a_cons (m_var 2) a_nil)) (g_tup rfl (gs_cons (g_name (i := 6) sc_flow_of.nd rfl (Or.inl rfl)) (gs_cons (g_name (i := 7) sc_flow_of.nd rfl (Or.inl rfl)) gs_nil))) (ss_one (s_if (t_eq (hu65 hr) (m_var 7) m_str) (ss_one (s_asg (m_add false (m_ix (m_var 3) (m_ix (m_var 5) (m_var 6))) m_int) (g_sub (m_var 3) (m_ix (m_var 5) (m_var 6))))) (ss_one (s_if (t_eq (hu65 hr) (m_var 7) m_str) (ss_one (s_asg (m_sub (m_ix (m_var 3) (m_ix (m_var 5) (m_add false (m_var 6) m_int))) m_int) (g_sub (m_var 3) (m_ix (m_var 5) (m_add false (m_var 6) m_int))))) (ss_one (s_if (t_eq (hu65 hr) (m_var 7) m_str) (ss_one (s_asg (m_add false (m_ix (m_var 4) (m_ix (m_var 5) (m_var 6))) m_int) (g_sub (m_var 4) (m_ix (m_var 5) (m_var 6))))) (ss_one (s_asg (m_sub (m_ix (m_var 4) (m_ix (m_var 5) (m_add false (m_var 6) m_int))) m_int) (g_sub (m_var 4) (m_ix (m_var 5) (m_add false (m_var 6) m_int)))))))))))) (ss_one (s_ret (m_tup (a_cons (m_frz (m_var 3)) (a_cons (m_frz (m_var 4)) a_nil)))))))))
theorem d_sides_of (T : Tx K mg) : DefOk P w K mg base 5 "sides_of" (spP 1 F_sides_of) :=
  d_pure T.f_sides_of sc_sides_of fun f cdv A outer s H E hr => (ss_cons (s_set (i := 1) sc_sides_of.nd rfl (Or.inl rfl) (m_cP (d_corner_of T) (hr.mono (by decide)) rfl (a_cons (m_var 0) a_nil))) (ss_cons (s_par (i := 2) (j := 3) rfl sc_sides_of.nd rfl rfl (by decide) rfl rfl (a_cons (m_cP (d_down T) (hr.mono (by decide)) rfl (a_cons (m_var 0) a_nil)) (a_cons (m_cP (d_left T) (hr.mono (by decide)) rfl (a_cons (m_var 0) a_nil)) a_nil)) (by rfl)) (ss_cons (s_set (i := 4) sc_sides_of.nd rfl (Or.inl rfl) (m_lst true a_nil)) (ss_cons (s_for PassesOwn.never rfl (i_range1 rfl T.z_range (a_cons (m_len rfl T.z_len (a_cons (m_ix (m_var 0) m_int) a_nil)) a_nil)) (g_name (i := 5) sc_sides_of.nd rfl (Or.inl rfl)) (ss_cons (s_expr (m_app (m_var 4) (a_cons (m_tup (a_cons m_str (a_cons (m_var 5) (a_cons (m_ix (m_var 1) (m_ix (m_var 2) (m_var 5))) (a_cons (m_ix (m_var 1) (m_var 5)) a_nil))))) a_nil))) (ss_one (s_expr (m_app (m_var 4) (a_cons (m_tup (a_cons m_str (a_cons (m_var 5) (a_cons (m_ix (m_var 1) (m_var 5)) (a_cons (m_ix (m_var 1) (m_ix (m_var 3) (m_var 5))) a_nil))))) a_nil)))))) (ss_one (s_ret (m_frz (m_var 4))))))))
theorem d_crossing (T : Tx K mg) : DefOk P w K mg base 6 "crossing" (spP 3 F_crossing) :=
  d_pure T.f_crossing sc_crossing fun f cdv A outer s H E hr => (ss_cons (s_asg (m_cP (d_flow_of T) (hr.mono (by decide)) rfl (a_cons (m_var 0) (a_cons (m_ix (m_var 1) m_int) (a_cons (m_ix (m_var 1) m_int) a_nil)))) (g_tup rfl (gs_cons (g_name (i := 3) sc_crossing.nd rfl (Or.inl rfl)) (gs_cons (g_name (i := 4) sc_crossing.nd rfl (Or.inl rfl)) gs_nil)))) (ss_cons (s_set (i := 5) sc_crossing.nd rfl (Or.inl rfl) (m_cP (d_trace T) (hr.mono (by decide)) rfl (a_cons (m_var 0) (a_cons (m_ix (m_var 2) m_int) (a_cons (m_ix (m_var 2) m_int) a_nil))))) (ss_cons (s_set (i := 6) sc_crossing.nd rfl (Or.inl rfl) m_int) (ss_cons (s_for PassesOwn.never rfl (i_enumA rfl T.z_enumerate (a_cons (m_ix (m_var 2) m_int) a_nil)) (g_tup rfl (gs_cons (g_name (i := 7) sc_crossing.nd rfl (Or.inl rfl)) (gs_cons (g_name (i := 8) sc_crossing.nd rfl (Or.inl rfl)) gs_nil))) (ss_cons (s_par (i := 9) (j := 10) rfl sc_crossing.nd rfl rfl (by decide) rfl rfl (a_cons (m_ix (m_var 5) (m_var 7)) (a_cons (m_ix (m_var 5) (m_add false (m_var 7) m_int)) a_nil)) (by rfl)) (ss_one (s_if (t_eq (hu65 hr) (m_var 8) m_str) (ss_one (s_set (i := 6) sc_crossing.nd rfl (Or.inl rfl) (m_add false (m_var 6) (m_ix (m_var 4) (m_var 10))))) (ss_one (s_if (t_eq (hu65 hr) (m_var 8) m_str) (ss_one (s_set (i := 6) sc_crossing.nd rfl (Or.inl rfl) (m_sub (m_var 6) (m_ix (m_var 4) (m_var 9))))) (ss_one (s_if (t_eq (hu65 hr) (m_var 8) m_str) (ss_one (s_set (i := 6) sc_crossing.nd rfl (Or.inl rfl) (m_sub (m_var 6) (m_ix (m_var 3) (m_var 10))))) (ss_one (s_set (i := 6) sc_crossing.nd rfl (Or.inl rfl) (m_add false (m_var 6) (m_ix (m_var 3) (m_var 9))))))))))))) (ss_one (s_ret (m_var 6)))))))
theorem d_tree_words (T : Tx K mg) : DefOk P w K mg base 3 "tree_words" (spG K 1 F_tree_words) :=
  d_gen T.f_tree_words sc_tree_words fun f cdv A outer s H E hr => (ss_cons (s_set (i := 1) sc_tree_words.nd rfl (Or.inl rfl) (m_dic (p_cons m_int m_str p_nil) rfl rfl (by simp) (by decide))) (ss_cons (s_set (i := 2) sc_tree_words.nd rfl (Or.inl rfl) m_dicT0) (ss_cons (s_set (i := 3) sc_tree_words.nd rfl (Or.inl rfl) (m_lst true (a_cons m_int a_nil))) (ss_cons (s_par (i := 4) (j := 5) rfl sc_tree_words.nd rfl rfl (by decide) rfl rfl (a_cons (m_cP (d_down T) (hr.mono (by decide)) rfl (a_cons (m_var 0) a_nil)) (a_cons (m_cP (d_left T) (hr.mono (by decide)) rfl (a_cons (m_var 0) a_nil)) a_nil)) (by rfl)) (ss_cons (s_while 2000 PassesOwn.never (t_tru (m_var 3)) (ss_cons (s_set (i := 6) sc_tree_words.nd rfl (Or.inl rfl) (m_popAt (m_var 3) (a_cons m_int a_nil))) (ss_cons (s_set (i := 7) sc_tree_words.nd rfl (Or.inl rfl) (m_tup (a_cons (m_tup (a_cons m_str (a_cons (m_ix (m_ix (m_var 0) m_int) (m_var 6)) (a_cons (m_tup (a_cons m_str (a_cons (m_var 6) a_nil))) a_nil)))) (a_cons (m_tup (a_cons m_str (a_cons (m_ix (m_var 5) (m_var 6)) (a_cons (m_tup (a_cons m_str (a_cons (m_ix (m_var 5) (m_var 6)) a_nil))) a_nil)))) (a_cons (m_tup (a_cons m_str (a_cons (m_ix (m_ix (m_var 0) m_int) (m_var 6)) (a_cons (m_tup (a_cons m_str (a_cons (m_var 6) a_nil))) a_nil)))) (a_cons (m_tup (a_cons m_str (a_cons (m_ix (m_var 4) (m_var 6)) (a_cons (m_tup (a_cons m_str (a_cons (m_ix (m_var 4) (m_var 6)) a_nil))) a_nil)))) a_nil)))))) (ss_one (s_for PassesOwn.never rfl (i_seq (m_var 7)) (g_tup rfl (gs_cons (g_name (i := 8) sc_tree_words.nd rfl (Or.inl rfl)) (gs_cons (g_name (i := 9) sc_tree_words.nd rfl (Or.inl rfl)) (gs_cons (g_name (i := 10) sc_tree_words.nd rfl (Or.inl rfl)) gs_nil)))) (ss_one (s_if (t_dnotin (hu65 hr) (m_var 9) (m_var 1)) (ss_cons (s_dput (hu65 hr) (m_var 1) (m_var 9) (m_add false (m_dget (hu65 hr) (m_var 1) (m_var 6)) (m_var 8))) (ss_cons (s_tput (hu65 hr) (m_var 2) (m_var 10) m_bl) (ss_one (s_expr (m_app (m_var 3) (a_cons (m_var 9) a_nil)))))) ss_nil))))))) (ss_one (s_ret (m_tpl (a_cons (m_var 1) (a_cons (m_var 2) a_nil))))))))))
theorem d_loops_of (T : Tx K mg) : DefOk P w K mg base 6 "loops_of" (spP 1 F_loops_of) :=
  d_pure T.f_loops_of sc_loops_of fun f cdv A outer s H E hr => (ss_cons (s_asg (m_cG (d_tree_words T) (hr.mono (by decide)) rfl (a_cons (m_var 0) a_nil)) (g_tup rfl (gs_cons (g_name (i := 1) sc_loops_of.nd rfl (Or.inl rfl)) (gs_cons (g_name (i := 2) sc_loops_of.nd rfl (Or.inl rfl)) gs_nil)))) (ss_cons (s_set (i := 3) sc_loops_of.nd rfl (Or.inl rfl) (m_lst true (a_cons m_int a_nil))) (ss_cons (s_set (i := 4) sc_loops_of.nd rfl (Or.inl rfl) (m_lst true (a_cons m_int a_nil))) (ss_cons (s_while 2000 PassesOwn.never (t_tru (m_var 4)) (ss_cons (s_set (i := 5) sc_loops_of.nd rfl (Or.inl rfl) (m_popAt (m_var 4) (a_cons m_int a_nil))) (ss_one (s_for PassesOwn.never rfl (i_seq (m_cP (d_sides_of T) (hr.mono (by decide)) rfl (a_cons (m_var 0) a_nil))) (g_tup rfl (gs_cons (g_name (i := 6) sc_loops_of.nd rfl (Or.inl rfl)) (gs_cons (g_name (i := 7) sc_loops_of.nd rfl (Or.inl rfl)) (gs_cons (g_name (i := 8) sc_loops_of.nd rfl (Or.inl rfl)) (gs_cons (g_name (i := 9) sc_loops_of.nd rfl (Or.inl rfl)) gs_nil))))) (ss_one (s_for PassesOwn.never rfl (i_seq (m_tup (a_cons (m_tup (a_cons (m_var 8) (a_cons (m_var 9) a_nil))) (a_cons (m_tup (a_cons (m_var 9) (a_cons (m_var 8) a_nil))) a_nil)))) (g_tup rfl (gs_cons (g_name (i := 10) sc_loops_of.nd rfl (Or.inl rfl)) (gs_cons (g_name (i := 11) sc_loops_of.nd rfl (Or.inl rfl)) gs_nil))) (ss_one (s_if (t_w (w_and (t_eq (hu65 hr) (m_var 10) (m_var 5)) (w_and (t_notin (hu65 hr) (m_var 11) (m_var 3)) (w_and1 (t_tnotin (hu65 hr) (m_tup (a_cons (m_var 6) (a_cons (m_var 7) a_nil))) (m_var 2)))))) (ss_cons (s_expr (m_app (m_var 3) (a_cons (m_var 11) a_nil))) (ss_cons (s_expr (m_app (m_var 4) (a_cons (m_var 11) a_nil))) (ss_one (s_tput (hu65 hr) (m_var 2) (m_tup (a_cons (m_var 6) (a_cons (m_var 7) a_nil))) m_bl)))) ss_nil)))))))) (ss_cons (s_set (i := 12) sc_loops_of.nd rfl (Or.inl rfl) (m_lst true a_nil)) (ss_cons (s_for PassesOwn.never rfl (i_seq (m_cP (d_sides_of T) (hr.mono (by decide)) rfl (a_cons (m_var 0) a_nil))) (g_tup rfl (gs_cons (g_name (i := 6) sc_loops_of.nd rfl (Or.inl rfl)) (gs_cons (g_name (i := 7) sc_loops_of.nd rfl (Or.inl rfl)) (gs_cons (g_name (i := 8) sc_loops_of.nd rfl (Or.inl rfl)) (gs_cons (g_name (i := 9) sc_loops_of.nd rfl (Or.inl rfl)) gs_nil))))) (ss_one (s_if (t_tnotin (hu65 hr) (m_tup (a_cons (m_var 6) (a_cons (m_var 7) a_nil))) (m_var 2)) (ss_cons (s_set (i := 11) sc_loops_of.nd rfl (Or.inl rfl) (m_if (t_eq (hu65 hr) (m_var 6) m_str) (m_ix (m_ix (m_var 0) m_int) (m_var 7)) (m_ix (m_ix (m_var 0) m_int) (m_var 7)))) (ss_cons (s_set (i := 13) sc_loops_of.nd rfl (Or.inl rfl) (m_join m_str (m_lc (own := [("sign", 14)]) false 14 rfl sc_loops_of.nd (i_seq (m_revS (m_dget (hu65 hr) (m_var 1) (m_var 11)))) (blkOk_by (own := [("sign", 14)]) (N := N_loops_of) (sc := defScope s_loops_of) (by decide +kernel)) (fun _ _ _ _ _ => pg_name (i := 14) sc_loops_of.nd rfl (Or.inl rfl)) (fun _ _ _ _ _ => ts_nil) (fun _ _ _ _ _ => (m_dget (hu65 hr) (m_dic (p_cons m_str m_str (p_cons m_str m_str (p_cons m_str m_str (p_cons m_str m_str p_nil)))) rfl rfl (by simp) (by decide)) (m_var 14)))))) (ss_one (s_expr (m_app (m_var 12) (a_cons (m_add false (m_add false (m_dget (hu65 hr) (m_var 1) (m_var 7)) (m_if (t_eq (hu65 hr) (m_var 6) m_str) m_str m_str)) (m_var 13)) a_nil)))))) ss_nil))) (ss_one (s_ret (m_frz (m_var 12))))))))))
theorem d__law_state (T : Tx K mg) : DefOk P w K mg base 1 "_law_state" (spG K 1 F__law_state) :=
  d_gen T.f__law_state sc__law_state fun f cdv A outer s H E hr => (ss_cons (s_setLc (own := [("cell", 2)]) true 2 rfl sc__law_state.nd rfl rfl (sw_true rfl rfl rfl (by decide +kernel)) (i_seq (m_slice false (m_var 0) o_none (o_some m_int))) (blkOk_by (own := [("cell", 2)]) (N := N__law_state) (sc := defScope s__law_state) (by decide +kernel)) (fun _ _ _ _ _ => pg_name (i := 2) sc__law_state.nd rfl (Or.inl rfl)) (fun _ _ _ _ _ => ts_nil) (fun _ _ _ _ _ => (m_abs rfl T.z_abs (a_cons (m_var 2) a_nil)))) (ss_cons (s_if (t_eq (hu65 hr) (m_len rfl T.z_len (a_cons (m_var 1) a_nil)) m_int) (ss_one (s_set (i := 1) sc__law_state.nd rfl (Or.inl rfl) (m_lst true (a_cons m_int a_nil)))) ss_nil) (ss_one (s_ret (m_lst true (a_cons m_int (a_cons (m_var 1) a_nil)))))))
theorem d__law_take (T : Tx K mg) : DefOk P w K mg base 1 "_law_take" (spG K 2 F__law_take) :=
  d_gen T.f__law_take sc__law_take fun f cdv A outer s H E hr => (ss_cons (s_set (i := 2) sc__law_take.nd rfl (Or.inl rfl) (m_ix (m_var 0) m_int)) (ss_cons (s_set (i := 3) sc__law_take.nd rfl (Or.inl rfl) (m_mod (m_ix (m_var 0) m_int) (m_len rfl T.z_len (a_cons (m_var 2) a_nil)))) (ss_cons (s_set (i := 4) sc__law_take.nd rfl (Or.inl rfl) (m_ix (m_var 2) (m_var 3))) (ss_cons (s_if (t_ge (m_var 4) m_int) (ss_cons (s_asg (m_div (m_var 4) (m_var 1)) (g_sub (m_var 2) (m_var 3))) (ss_one (s_ret (m_mod (m_var 4) (m_var 1))))) ss_nil) (ss_cons (s_asg (m_add false (m_ix (m_var 0) m_int) m_int) (g_sub (m_var 0) m_int)) (ss_cons (s_set (i := 5) sc__law_take.nd rfl (Or.inl rfl) (m_mod (m_toint rfl T.z_int (a_cons (m_add false (m_mul false (m_var 4) m_int) (m_mul false (m_ix (m_var 0) m_int) m_int)) a_nil)) m_int)) (ss_cons (s_set (i := 5) sc__law_take.nd rfl (Or.inl rfl) (m_mod (m_toint rfl T.z_int (a_cons (m_add false (m_mul false (m_var 5) m_int) (m_mul false (m_ix (m_var 0) m_int) m_int)) a_nil)) m_int)) (ss_one (s_ret (m_mod (m_div (m_var 5) m_int) (m_var 1)))))))))))
theorem d__law_floor (T : Tx K mg) : DefOk P w K mg base 2 "_law_floor" (spG K 2 F__law_floor) :=
  d_gen T.f__law_floor sc__law_floor fun f cdv A outer s H E hr => (ss_cons (s_par (i := 2) (j := 3) rfl sc__law_floor.nd rfl rfl (by decide) rfl rfl (a_cons (m_lst true (a_cons m_int a_nil)) (a_cons (m_lst true (a_cons m_int a_nil)) a_nil)) (by rfl)) (ss_cons (s_for PassesOwn.never rfl (i_range2 rfl T.z_range (a_cons m_int (a_cons (m_add false m_int (m_cG (d__law_take T) (hr.mono (by decide)) rfl (a_cons (m_var 0) (a_cons (m_var 1) a_nil)))) a_nil))) (g_name (i := 4) sc__law_floor.nd rfl (Or.inl rfl)) (ss_cons (s_par (i := 5) (j := 6) rfl sc__law_floor.nd rfl rfl (by decide) rfl rfl (a_cons (m_cG (d__law_take T) (hr.mono (by decide)) rfl (a_cons (m_var 0) (a_cons (m_add false (m_var 4) m_int) a_nil))) (a_cons (m_cG (d__law_take T) (hr.mono (by decide)) rfl (a_cons (m_var 0) (a_cons (m_add false (m_var 4) m_int) a_nil))) a_nil)) (by rfl)) (ss_cons (s_set (i := 5) sc__law_floor.nd rfl (Or.inl rfl) (m_if (t_w (w_and (t_eq (hu65 hr) (m_var 5) (m_var 4)) (w_and1 (t_eq (hu65 hr) (m_var 6) (m_var 4))))) m_int (m_var 5))) (ss_cons (s_par (i := 2) (j := 3) rfl sc__law_floor.nd rfl rfl (by decide) rfl rfl (a_cons (m_add true (m_var 2) (m_lst false (a_cons (m_var 4) a_nil))) (a_cons (m_add true (m_var 3) (m_lst false (a_cons (m_var 4) a_nil))) a_nil)) (by rfl)) (ss_cons (s_if (t_lt (m_var 5) (m_var 4)) (ss_one (s_asgT rfl (a_cons (m_ix (m_var 2) (m_var 5)) (a_cons (m_var 4) a_nil)) (gs_cons (g_sub (m_var 2) (m_var 4)) (gs_cons (g_sub (m_var 2) (m_var 5)) gs_nil)))) ss_nil) (ss_one (s_if (t_lt (m_var 6) (m_var 4)) (ss_one (s_asgT rfl (a_cons (m_ix (m_var 3) (m_var 6)) (a_cons (m_var 4) a_nil)) (gs_cons (g_sub (m_var 3) (m_var 4)) (gs_cons (g_sub (m_var 3) (m_var 6)) gs_nil)))) ss_nil))))))) (ss_one (s_ret (m_tup (a_cons m_str (a_cons (m_frz (m_var 2)) (a_cons (m_frz (m_var 3)) a_nil))))))))
theorem d__law_lists (T : Tx K mg) : DefOk P w K mg base 1 "_law_lists" (spG K 1 F__law_lists) :=
  d_gen T.f__law_lists sc__law_lists fun f cdv A outer s H E hr => (ss_cons (s_set (i := 1) sc__law_lists.nd rfl (Or.inl rfl) (m_len rfl T.z_len (a_cons (m_ix (m_var 0) m_int) a_nil))) (ss_cons (s_set (i := 2) sc__law_lists.nd rfl (Or.inl rfl) (m_dic (p_cons m_str (m_ix (m_var 0) m_int) (p_cons m_str (m_ix (m_var 0) m_int) (p_cons m_str (m_mul true (m_lst false (a_cons m_int a_nil)) (m_var 1)) (p_cons m_str (m_mul true (m_lst false (a_cons m_int a_nil)) (m_var 1)) p_nil)))) rfl rfl (by simp) (by decide))) (ss_cons (s_for PassesOwn.never rfl (i_range1 rfl T.z_range (a_cons (m_var 1) a_nil)) (g_name (i := 3) sc__law_lists.nd rfl (Or.inl rfl)) (ss_cons (s_asg (m_var 3) (g_sub (m_dget (hu65 hr) (m_var 2) m_str) (m_ix (m_ix (m_var 0) m_int) (m_var 3)))) (ss_one (s_asg (m_var 3) (g_sub (m_dget (hu65 hr) (m_var 2) m_str) (m_ix (m_ix (m_var 0) m_int) (m_var 3))))))) (ss_one (s_ret (m_var 2))))))
theorem d__law_trace (T : Tx K mg) : DefOk P w K mg base 2 "_law_trace" (spP 3 F__law_trace) :=
  d_pure T.f__law_trace sc__law_trace fun f cdv A outer s H E hr => (ss_cons (s_par (i := 3) (j := 4) rfl sc__law_trace.nd rfl rfl (by decide) rfl rfl (a_cons (m_cG (d__law_lists T) (hr.mono (by decide)) rfl (a_cons (m_var 0) a_nil)) (a_cons (m_lst true (a_cons (m_var 1) a_nil)) a_nil)) (by rfl)) (ss_cons (s_for PassesOwn.never rfl (i_seq (m_var 2)) (g_name (i := 5) sc__law_trace.nd rfl (Or.inl rfl)) (ss_one (s_expr (m_app (m_var 4) (a_cons (m_ix (m_dget (hu65 hr) (m_var 3) (m_var 5)) (m_ix (m_var 4) (m_neg m_int))) a_nil))))) (ss_one (s_ret (m_frz (m_var 4))))))
theorem d__law_words (T : Tx K mg) : DefOk P w K mg base 2 "_law_words" (spG K 1 F__law_words) :=
  d_gen T.f__law_words sc__law_words fun f cdv A outer s H E hr => (ss_cons (s_par (i := 1) (j := 2) rfl sc__law_words.nd rfl rfl (by decide) rfl rfl (a_cons (m_cG (d__law_lists T) (hr.mono (by decide)) rfl (a_cons (m_var 0) a_nil)) (a_cons m_dic0 a_nil)) (by rfl)) (ss_cons (s_dput (hu65 hr) (m_var 2) m_int m_str) (ss_cons (s_while 2000 PassesOwn.never (t_lt (m_lenD rfl T.z_len (a_cons (m_var 2) a_nil)) (m_len rfl T.z_len (a_cons (m_ix (m_var 0) m_int) a_nil))) (ss_one (s_for PassesOwn.never rfl (i_seq (m_sortD false rfl rfl T.z_sorted (a_cons (m_var 2) a_nil))) (g_name (i := 3) sc__law_words.nd rfl (Or.inl rfl)) (ss_one (s_for PassesOwn.never rfl (i_seq (m_lst false (a_cons m_str (a_cons m_str (a_cons m_str (a_cons m_str a_nil)))))) (g_name (i := 4) sc__law_words.nd rfl (Or.inl rfl)) (ss_one (s_if (t_dnotin (hu65 hr) (m_ix (m_dget (hu65 hr) (m_var 1) (m_var 4)) (m_var 3)) (m_var 2)) (ss_one (s_dput (hu65 hr) (m_var 2) (m_ix (m_dget (hu65 hr) (m_var 1) (m_var 4)) (m_var 3)) (m_add false (m_dget (hu65 hr) (m_var 2) (m_var 3)) (m_var 4)))) ss_nil))))))) (ss_one (s_ret (m_var 2))))))
theorem d__law_back (T : Tx K mg) : DefOk P w K mg base 1 "_law_back" (spP 1 F__law_back) :=
  d_pure T.f__law_back sc__law_back fun f cdv A outer s H E hr => (ss_one (s_ret (m_join m_str (m_lc (own := [("k", 1)]) false 1 rfl sc__law_back.nd (i_range3 rfl T.z_range (a_cons (m_sub (m_len rfl T.z_len (a_cons (m_var 0) a_nil)) m_int) (a_cons (m_sub m_int m_int) (a_cons (m_sub m_int m_int) a_nil)))) (blkOk_by (own := [("k", 1)]) (N := N__law_back) (sc := defScope s__law_back) (by decide +kernel)) (fun _ _ _ _ _ => pg_name (i := 1) sc__law_back.nd rfl (Or.inl rfl)) (fun _ _ _ _ _ => ts_nil) (fun _ _ _ _ _ => (m_dget (hu65 hr) (m_dic (p_cons m_str m_str (p_cons m_str m_str (p_cons m_str m_str (p_cons m_str m_str p_nil)))) rfl rfl (by simp) (by decide)) (m_ix (m_var 0) (m_var 1))))))))
theorem d__law_closed (T : Tx K mg) : DefOk P w K mg base 3 "_law_closed" (spG K 4 F__law_closed) :=
  d_gen T.f__law_closed sc__law_closed fun f cdv A outer s H E hr => (ss_cons (s_set (i := 4) sc__law_closed.nd rfl (Or.inl rfl) (m_join m_str (m_lc (own := [("k", 5)]) false 5 rfl sc__law_closed.nd (i_range1 rfl T.z_range (a_cons (m_cG (d__law_take T) (hr.mono (by decide)) rfl (a_cons (m_var 0) (a_cons (m_var 3) a_nil))) a_nil)) (blkOk_by (own := [("k", 5)]) (N := N__law_closed) (sc := defScope s__law_closed) (by decide +kernel)) (fun _ _ _ _ _ => pg_name (i := 5) sc__law_closed.nd rfl (Or.inl rfl)) (fun _ _ _ _ _ => ts_nil) (fun _ _ _ _ _ => (m_ix (m_lst false (a_cons m_str (a_cons m_str (a_cons m_str (a_cons m_str a_nil))))) (m_cG (d__law_take T) (hr.mono (by decide)) rfl (a_cons (m_var 0) (a_cons m_int a_nil)))))))) (ss_cons (s_set (i := 6) sc__law_closed.nd rfl (Or.inl rfl) (m_cG (d__law_words T) (hr.mono (by decide)) rfl (a_cons (m_var 1) a_nil))) (ss_one (s_ret (m_add false (m_add false (m_var 4) (m_cP (d__law_back T) (hr.mono (by decide)) rfl (a_cons (m_dget (hu65 hr) (m_var 6) (m_ix (m_cP (d__law_trace T) (hr.mono (by decide)) rfl (a_cons (m_var 1) (a_cons (m_var 2) (a_cons (m_var 4) a_nil)))) (m_neg m_int))) a_nil))) (m_dget (hu65 hr) (m_var 6) (m_var 2)))))))
end
theorem law_fn {P : Program} {w : World} {K : PySem.W.Frag} {mg : Str → Option Value} {fa f : Addr} {h : Heap} {od an : Option Addr} {sl : Array (Option Value)} {oc kV dc pm cd ct : Value} (T : Tx K mg) (X : K.In h) (G : h.Ns mainGlobals mg) (hfa : mg "law" = some (.ref fa))
    (a : PySem.W.nsIn K mainGlobals "law" = some (some (.ref f))) (l : K.lookup f = some ⟨oc, od, .func (PySem.W.fnOf "law" "law" (defArgs s_law) (defBody s_law) (defScope s_law) .none kV dc pm an cd ct), sl⟩) (c : PySem.W.codeIn K cd "law" = true) (k : PySem.W.keepIn K (.ref f) = true) :
    ∃ fd : FuncData, (∀ (s : Shared) (v : Value), BindsTo s fd ⟨[v], []⟩ [("script", v)]) ∧ ∀ base : Heap, K.In base → base.Ns mainGlobals mg → FnOk P w K mg base CX0 7 fa fd ["script"] (spG K 1 F_law_K74) := by
  have e := hfa.symm.trans (PySem.W.mg_of X G a)
  cases e
  have F := fun_mk (st := s_law) l c k
  exact ⟨_, fun s v => .of_eq rfl, fun base _ _ => fn_gen F sc_law fun cdv A outer s H E hr => (ss_cons (s_set (i := 1) sc_law.nd rfl (Or.inl rfl) (m_cG (d__law_state T) (hr.mono (by decide)) rfl (a_cons (m_var 0) a_nil))) (ss_cons (s_set (i := 2) sc_law.nd rfl (Or.inr rfl) (m_cG (d__law_floor T) (hr.mono (by decide)) rfl (a_cons (m_var 1) (a_cons m_int a_nil)))) (ss_cons (s_set (i := 3) sc_law.nd rfl (Or.inr rfl) (m_len rfl T.z_len (a_cons (m_ix (m_var 2) m_int) a_nil))) (ss_cons (s_set (i := 4) sc_law.nd rfl (Or.inl rfl) (m_cP (d_loops_of T) (hr.mono (by decide)) rfl (a_cons (m_var 2) a_nil))) (ss_cons (s_if (t_eq (hu65 hr) (m_len rfl T.z_len (a_cons (m_var 4) a_nil)) m_int) (ss_one (s_ret m_bl)) ss_nil) (ss_cons (s_set (i := 5) sc_law.nd rfl (Or.inr rfl) (m_add false (m_ix (m_var 4) (m_cG (d__law_take T) (hr.mono (by decide)) rfl (a_cons (m_var 1) (a_cons (m_len rfl T.z_len (a_cons (m_var 4) a_nil)) a_nil)))) (m_if (t_eq (hu65 hr) (m_cG (d__law_take T) (hr.mono (by decide)) rfl (a_cons (m_var 1) (a_cons m_int a_nil))) m_int) (m_ix (m_var 4) (m_cG (d__law_take T) (hr.mono (by decide)) rfl (a_cons (m_var 1) (a_cons (m_len rfl T.z_len (a_cons (m_var 4) a_nil)) a_nil)))) m_str))) (ss_cons (s_par (i := 6) (j := 7) rfl sc_law.nd rfl rfl (by decide) rfl rfl (a_cons (m_cP (d_trace T) (hr.mono (by decide)) rfl (a_cons (m_var 2) (a_cons m_int (a_cons (m_var 5) a_nil)))) (a_cons (m_mul true (m_lst false (a_cons m_int a_nil)) (m_var 3)) a_nil)) (by rfl)) (ss_cons (s_if (t_ne (hu65 hr) (m_var 6) (m_cP (d__law_trace T) (hr.mono (by decide)) rfl (a_cons (m_var 2) (a_cons m_int (a_cons (m_var 5) a_nil))))) (ss_one (s_ret m_bl)) ss_nil) (ss_cons (s_for PassesOwn.never rfl (i_range1 rfl T.z_range (a_cons (m_len rfl T.z_len (a_cons (m_var 5) a_nil)) a_nil)) (g_name (i := 8) sc_law.nd rfl (Or.inl rfl)) (ss_cons (s_set (i := 9) sc_law.nd rfl (Or.inl rfl) (m_if (t_in (hu65 hr) (m_ix (m_var 5) (m_var 8)) (m_lst false (a_cons m_str (a_cons m_str a_nil)))) (m_ix (m_var 6) (m_add false (m_var 8) m_int)) (m_ix (m_var 6) (m_var 8)))) (ss_cons (s_set (i := 10) sc_law.nd rfl (Or.inl rfl) (m_if (t_in (hu65 hr) (m_ix (m_var 5) (m_var 8)) (m_lst false (a_cons m_str (a_cons m_str a_nil)))) m_int m_int)) (ss_one (s_asg (m_if (t_eq (hu65 hr) (m_mod (m_toint rfl T.z_int (a_cons (m_div (m_ix (m_var 7) (m_var 9)) (m_var 10)) a_nil)) m_int) m_int) (m_sub (m_ix (m_var 7) (m_var 9)) (m_var 10)) (m_add false (m_ix (m_var 7) (m_var 9)) (m_var 10))) (g_sub (m_var 7) (m_var 9))))))) (ss_cons (s_set (i := 11) sc_law.nd rfl (Or.inl rfl) (m_cP (d_unfolded T) (hr.mono (by decide)) rfl (a_cons (m_var 2) (a_cons (m_join m_str (m_lc (own := [("mark", 12)]) false 12 rfl sc_law.nd (i_seq (m_var 7)) (blkOk_by (own := [("mark", 12)]) (N := N_law) (sc := defScope s_law) (by decide +kernel)) (fun _ _ _ _ _ => pg_name (i := 12) sc_law.nd rfl (Or.inl rfl)) (fun _ _ _ _ _ => ts_nil) (fun _ _ _ _ _ => (m_ix m_str (m_var 12))))) a_nil)))) (ss_cons (s_set (i := 13) sc_law.nd rfl (Or.inl rfl) (m_gt (m_len rfl T.z_len (a_cons (m_lc (own := [("word", 14)]) false 14 rfl sc_law.nd (i_seq (m_var 4)) (blkOk_by (own := [("word", 14)]) (N := N_law) (sc := defScope s_law) (by decide +kernel)) (fun _ _ _ _ _ => pg_name (i := 14) sc_law.nd rfl (Or.inl rfl)) (fun _ _ _ _ _ => ts_one (t_eq (hu65 hr) (m_mod (m_cP (d_crossing T) (hr.mono (by decide)) rfl (a_cons (m_var 2) (a_cons (m_tup (a_cons m_int (a_cons (m_var 14) a_nil))) (a_cons (m_tup (a_cons m_int (a_cons (m_var 5) a_nil))) a_nil)))) m_int) m_int)) (fun _ _ _ _ _ => (m_var 14))) a_nil)) m_int)) (ss_cons (s_if (t_ne (hu65 hr) (m_isnot (m_var 11) m_non) (m_var 13)) (ss_one (s_ret m_bl)) ss_nil) (ss_cons (s_if (t_is (m_var 11) m_non) (ss_one (s_ret m_bl)) ss_nil) (ss_cons (s_if (t_isnot (m_cP (d_laid_fault T) (hr.mono (by decide)) rfl (a_cons (m_var 11) (a_cons (m_var 2) (a_cons (m_tup (a_cons m_str (a_cons (m_lc (own := [("square", 9)]) false 9 rfl sc_law.nd (i_range1 rfl T.z_range (a_cons (m_mul false m_int (m_var 3)) a_nil)) (blkOk_by (own := [("square", 9)]) (N := N_law) (sc := defScope s_law) (by decide +kernel)) (fun _ _ _ _ _ => pg_name (i := 9) sc_law.nd rfl (Or.inl rfl)) (fun _ _ _ _ _ => ts_nil) (fun _ _ _ _ _ => (m_mod (m_var 9) (m_var 3)))) a_nil))) a_nil)))) m_non) (ss_one (s_ret m_bl)) ss_nil) (ss_cons (s_for PassesOwn.never rfl (i_range1 rfl T.z_range (a_cons m_int a_nil)) (g_name (i := 15) sc_law.nd rfl (Or.inl rfl)) (ss_cons (s_set (i := 9) sc_law.nd rfl (Or.inl rfl) (m_cG (d__law_take T) (hr.mono (by decide)) rfl (a_cons (m_var 1) (a_cons (m_var 3) a_nil)))) (ss_cons (s_set (i := 14) sc_law.nd rfl (Or.inl rfl) (m_cG (d__law_closed T) (hr.mono (by decide)) rfl (a_cons (m_var 1) (a_cons (m_var 2) (a_cons (m_var 9) (a_cons m_int a_nil)))))) (ss_cons (s_set (i := 16) sc_law.nd rfl (Or.inl rfl) (m_cP (d_led T) (hr.mono (by decide)) rfl (a_cons (m_var 11) (a_cons (m_var 9) (a_cons (m_var 14) a_nil))))) (ss_one (s_if (t_w (w_or (t_notin (hu65 hr) (m_var 16) (m_lst false (a_cons (m_var 9) (a_cons (m_add false (m_var 9) (m_var 3)) a_nil)))) (w_or1 (t_ne (hu65 hr) (m_eq (hu65 hr) (m_var 16) (m_var 9)) (m_eq (hu65 hr) (m_mod (m_cP (d_crossing T) (hr.mono (by decide)) rfl (a_cons (m_var 2) (a_cons (m_tup (a_cons (m_var 9) (a_cons (m_var 14) a_nil))) (a_cons (m_tup (a_cons m_int (a_cons (m_var 5) a_nil))) a_nil)))) m_int) m_int))))) (ss_one (s_ret m_bl)) ss_nil)))))) (ss_one (s_ret m_bl)))))))))))))))))⟩
end K74
namespace CM
open PySem L2 VX
/-! ### turned_back, left, down, near_lists -/
def invTo (ns : List Nat) (i : Nat) : List Nat := (List.range i).foldl (fun f a => f.set (g0 ns a) a) (List.replicate ns.length 0)
/-- the list that leads back -/
def inv (ns : List Nat) : List Nat := invTo ns ns.length
theorem invTo_succ (ns : List Nat) (i : Nat) : invTo ns (i + 1) = (invTo ns i).set (g0 ns i) i := by
  unfold invTo; rw [List.range_succ, List.foldl_append]; rfl
@[simp] theorem invTo_len (ns : List Nat) (i : Nat) : (invTo ns i).length = ns.length := by
  induction i with
  | zero => simp [invTo]
  | succ i ih => rw [invTo_succ]; simpa using ih
@[simp] theorem inv_len (ns : List Nat) : (inv ns).length = ns.length := invTo_len _ _
/-- a list of numbers below its length -/
def Low (ns : List Nat) : Prop := ∀ j, j < ns.length → g0 ns j < ns.length
theorem L1_turned_back_eq (ns : List Nat) (hb : Low ns) (x y : Option PV) :
    ∃ x' y', L1_turned_back [some (.dat (.list (iL ns))), some (.ptr 0), x, y] [.lst (oL (invTo ns 0))] = some (.nx [some (.dat (.list (iL ns))), some (.ptr 0), x', y'] [.lst (oL (inv ns))]) := by
  unfold L1_turned_back sFor
  simp only [srcEnA, aCons, aNil, eVar, List.getElem?_cons_zero, Option.bind_some, okG_none]
  have key := forD_all (G := fun _ => true) (tg := tgT 2 (tgsCons (tgN 2) (tgsCons (tgN 3) tgsNil))) (b := B1_turned_back)
    (fun i ε μ => ∃ x' y', ε = [some (.dat (.list (iL ns))), some (.ptr 0), x', y'] ∧ μ = [.lst (oL (invTo ns i))]) ((enumD (iL ns)).map PV.dat) (fun _ _ _ _ => rfl) (fun i p ε μ hp h => by
      obtain ⟨x', y', rfl, rfl⟩ := h
      obtain ⟨d, h1, rfl⟩ := enum_get hp
      obtain ⟨hi, rfl⟩ := get_iL h1
      have hg := hb i hi
      refine ⟨_, _, [some (.dat (.list (iL ns))), some (.ptr 0), some (.dat (.int (i : Int))), some (.dat (.int ((g0 ns i : Nat) : Int)))], [.lst (oL (invTo ns (i + 1)))], rfl, ?_, _, _, rfl, rfl⟩
      simp [B1_turned_back, ixN_natD hg, invTo_succ]) (ε := [some (.dat (.list (iL ns))), some (.ptr 0), x, y]) (μ := [.lst (oL (invTo ns 0))]) ⟨x, y, rfl, rfl⟩
  obtain ⟨ε', μ', h1, x', y', rfl, rfl⟩ := key
  refine ⟨x', y', ?_⟩
  rw [h1]
  simp [inv]
theorem rep_oL (n : Nat) : List.replicate n (PV.dat (.int 0)) = oL (List.replicate n 0) := by simp [oL]
theorem F_turned_back_eq (ns : List Nat) (hl : ns.length ≤ 1000) (hb : Low ns) : F_turned_back [.list (iL ns)] = some (.list (iL (inv ns))) := by
  obtain ⟨x, y, h⟩ := L1_turned_back_eq ns hb none none
  have h1 : ns.length ≤ 1000000 := by omega
  have h2 : ns.length ≤ 100000 := by omega
  have h3 : oL (invTo ns 0) = List.replicate ns.length (PV.dat (.int 0)) := by rw [rep_oL]; rfl
  rw [h3] at h
  simp [F_turned_back, r_turned_back, cap, asDats, h1, h2, h]
/-- a floor as a datum -/
abbrev flo (R U : List Nat) : PyData := .tuple [.str "floor", .list (iL R), .list (iL U)]
theorem F_left_eq (R U : List Nat) (hl : R.length ≤ 1000) (hb : Low R) : F_left [flo R U] = some (.list (iL (inv R))) := by
  simp [F_left, r_left, asDats, F_turned_back_eq R hl hb, L2.atI, ixN]
theorem F_down_eq (R U : List Nat) (hl : U.length ≤ 1000) (hb : Low U) : F_down [flo R U] = some (.list (iL (inv U))) := by
  simp [F_down, r_down, asDats, F_turned_back_eq U hl hb, L2.atI, ixN]
theorem F_near_lists_eq (R U : List Nat) (hR : R.length ≤ 1000) (hU : U.length ≤ 1000) (bR : Low R) (bU : Low U) :
    F_near_lists [flo R U] = some (.tuple [.tuple [.str "r", .list (iL R)], .tuple [.str "l", .list (iL (inv R))], .tuple [.str "u", .list (iL U)], .tuple [.str "d", .list (iL (inv U))]]) := by
  simp [F_near_lists, r_near_lists, asDats, cap, F_left_eq R U hR bR, F_down_eq R U hU bU, L2.atI, ixN]
end CM
namespace CM
open PySem L2 VX

@[simp] theorem map_oZ (ns : List Int) : (ns.map fun n => PV.dat (.int n)) = oZ ns := rfl
/-! ### orders -/
theorem nodup_len : ∀ (n : Nat) (l : List Nat), l.Nodup → (∀ x ∈ l, x < n) → l.length ≤ n
  | 0, l, _, h => by
    cases l with
    | nil => exact Nat.le_refl 0
    | cons x r => exact absurd (h x List.mem_cons_self) (Nat.not_lt_zero _)
  | n + 1, l, nd, h => by
    have ih := nodup_len n (l.erase n) (nd.erase n) fun x hx => by
      rw [nd.mem_erase_iff] at hx
      have := h x hx.2
      omega
    by_cases hm : n ∈ l
    · rw [List.length_erase_of_mem hm] at ih; omega
    · rw [List.erase_of_not_mem hm] at ih; omega
/-- an order: each number below the length just once -/
structure Ord (ns : List Nat) : Prop where
  nd : ns.Nodup
  lt : ∀ x ∈ ns, x < ns.length
theorem g0_mem {ns : List Nat} {j : Nat} (h : j < ns.length) : g0 ns j ∈ ns := by rw [g0_of h]; exact List.getElem_mem h
theorem mem_g0 {ns : List Nat} {x : Nat} (h : x ∈ ns) : ∃ j, j < ns.length ∧ g0 ns j = x := by
  obtain ⟨j, hj, e⟩ := List.getElem_of_mem h
  exact ⟨j, hj, by rw [g0_of hj, e]⟩
theorem Ord.low {ns : List Nat} (o : Ord ns) : Low ns := fun j h => o.lt _ (g0_mem h)
theorem Ord.inj {ns : List Nat} (o : Ord ns) {i j : Nat} (hi : i < ns.length) (hj : j < ns.length) (e : g0 ns i = g0 ns j) : i = j := by
  rw [g0_of hi, g0_of hj] at e
  exact (List.getElem_inj o.nd).mp e
theorem Ord.surj {ns : List Nat} (o : Ord ns) {x : Nat} (h : x < ns.length) : x ∈ ns := by
  refine Classical.byContradiction fun hn => ?_
  have := nodup_len ns.length (x :: ns) (List.nodup_cons.mpr ⟨hn, o.nd⟩) fun y hy => by
    rcases List.mem_cons.mp hy with rfl | hy
    · exact h
    · exact o.lt y hy
  simp at this
  omega
theorem ord_of {ns : List Nat} (h : ∀ j, j < ns.length → g0 ns j < ns.length) (hi : ∀ i j, i < ns.length → j < ns.length → g0 ns i = g0 ns j → i = j) : Ord ns := by
  refine ⟨List.pairwise_iff_getElem.mpr fun i j h1 h2 hij e => ?_, fun x hx => ?_⟩
  · have := hi i j h1 h2 (by rw [g0_of h1, g0_of h2]; exact e)
    omega
  · obtain ⟨j, hj, rfl⟩ := mem_g0 hx
    exact h j hj
theorem g0_set {ns : List Nat} {i j v : Nat} (h : j < ns.length) : g0 (ns.set i v) j = if i = j then v else g0 ns j := by
  unfold g0
  simp only [List.getD_eq_getElem?_getD]
  by_cases e : i = j
  · subst e; simp [h]
  · simp [e]
theorem invTo_at {ns : List Nat} (o : Ord ns) (k : Nat) (hk : k ≤ ns.length) {i : Nat} (hi : i < k) : g0 (invTo ns k) (g0 ns i) = i := by
  induction k with
  | zero => omega
  | succ k ih =>
    rw [invTo_succ, g0_set (by simpa using o.low i (by omega))]
    by_cases e : g0 ns k = g0 ns i
    · rw [if_pos e]; exact o.inj (by omega) (by omega) e
    · rw [if_neg e]
      have : i ≠ k := fun z => e (by rw [z])
      exact ih (by omega) (by omega)
theorem inv_at {ns : List Nat} (o : Ord ns) {i : Nat} (h : i < ns.length) : g0 (inv ns) (g0 ns i) = i := invTo_at o _ (Nat.le_refl _) h
theorem at_inv {ns : List Nat} (o : Ord ns) {x : Nat} (h : x < ns.length) : g0 ns (g0 (inv ns) x) = x ∧ g0 (inv ns) x < ns.length := by
  obtain ⟨j, hj, rfl⟩ := mem_g0 (o.surj h)
  rw [inv_at o hj]
  exact ⟨rfl, hj⟩
theorem Ord.inv {ns : List Nat} (o : Ord ns) : Ord (inv ns) := by
  refine ord_of (fun j h => ?_) fun i j hi hj e => ?_
  · simp only [inv_len] at h ⊢; exact (at_inv o h).2
  · simp only [inv_len] at hi hj
    rw [← (at_inv o hi).1, ← (at_inv o hj).1, e]

/-! ### what hangs together -/
/-- what is reached from a over ok squares -/
inductive Rc (N : Nat → List Nat) (ok : Nat → Bool) (a : Nat) : Nat → Prop
  | refl : ok a = true → Rc N ok a a
  | step {b c : Nat} : Rc N ok a b → c ∈ N b → ok c = true → Rc N ok a c
theorem Rc.ok {N : Nat → List Nat} {ok : Nat → Bool} {a b : Nat} (h : Rc N ok a b) : ok b = true := by cases h <;> assumption
theorem Rc.ok0 {N : Nat → List Nat} {ok : Nat → Bool} {a b : Nat} (h : Rc N ok a b) : ok a = true := by induction h <;> assumption
theorem Rc.trans {N : Nat → List Nat} {ok : Nat → Bool} {a b c : Nat} (h : Rc N ok a b) (h' : Rc N ok b c) : Rc N ok a c := by
  induction h' with
  | refl => exact h
  | step _ m o ih => exact .step ih m o
theorem Rc.mono {N : Nat → List Nat} {ok ok' : Nat → Bool} {a b : Nat} (h : Rc N ok a b) (m : ∀ x, ok x = true → ok' x = true) : Rc N ok' a b := by
  induction h with
  | refl o => exact .refl (m _ o)
  | step _ mm o ih => exact .step ih mm (m _ o)
theorem Rc.lt {N : Nat → List Nat} {ok : Nat → Bool} {a b n : Nat} (h : Rc N ok a b) (ha : a < n) (hN : ∀ x, x < n → ∀ y ∈ N x, y < n) : b < n := by
  induction h with
  | refl => exact ha
  | step _ m _ ih => exact hN _ ih _ m
theorem Rc.symm {N : Nat → List Nat} {ok : Nat → Bool} {a b n : Nat} (h : Rc N ok a b) (ha : a < n) (hN : ∀ x, x < n → ∀ y ∈ N x, y < n) (hs : ∀ x y, x < n → y ∈ N x → x ∈ N y) : Rc N ok b a := by
  induction h with
  | refl o => exact .refl o
  | step h m o ih => exact (Rc.step (.refl o) (hs _ _ (h.lt ha hN) m) h.ok).trans ih
def addN (ok : Nat → Bool) (f : List Nat) (x : Nat) : List Nat := if ok x = true ∧ x ∉ f then f ++ [x] else f
theorem addN_sub {ok : Nat → Bool} {f : List Nat} {x y : Nat} (h : y ∈ f) : y ∈ addN ok f x := by
  unfold addN; split
  · exact List.mem_append_left _ h
  · exact h
theorem addN_has {ok : Nat → Bool} {f : List Nat} {x : Nat} (h : ok x = true) : x ∈ addN ok f x := by
  unfold addN
  by_cases e : x ∈ f
  · rw [if_neg (fun z => z.2 e)]; exact e
  · rw [if_pos ⟨h, e⟩]; simp
theorem addN_mem {ok : Nat → Bool} {f : List Nat} {x y : Nat} (h : y ∈ addN ok f x) : y ∈ f ∨ (y = x ∧ ok x = true) := by
  unfold addN at h; split at h
  · rename_i c
    rcases List.mem_append.mp h with h | h
    · exact .inl h
    · exact .inr ⟨by simpa using h, c.1⟩
  · exact .inl h
theorem addN_nd {ok : Nat → Bool} {f : List Nat} {x : Nat} (h : f.Nodup) : (addN ok f x).Nodup := by
  unfold addN; split
  · rename_i c
    rw [List.nodup_append]
    exact ⟨h, by simp, fun a ha b hb => by simp at hb; subst hb; intro z; subst z; exact c.2 ha⟩
  · exact h
theorem addN_pre {ok : Nat → Bool} {f : List Nat} {x : Nat} : ∃ t, addN ok f x = f ++ t := by
  unfold addN; split
  · exact ⟨_, rfl⟩
  · exact ⟨[], by simp⟩
def addsN (ok : Nat → Bool) (f xs : List Nat) : List Nat := xs.foldl (addN ok) f
theorem addsN_sub {ok : Nat → Bool} {xs : List Nat} : ∀ {f : List Nat} {y : Nat}, y ∈ f → y ∈ addsN ok f xs := by
  induction xs with
  | nil => intro f y h; exact h
  | cons x r ih => intro f y h; exact ih (addN_sub h)
theorem addsN_has {ok : Nat → Bool} {xs : List Nat} : ∀ {f : List Nat} {y : Nat}, y ∈ xs → ok y = true → y ∈ addsN ok f xs := by
  induction xs with
  | nil => intro f y h _; cases h
  | cons x r ih =>
    intro f y h o
    rcases List.mem_cons.mp h with rfl | h
    · show y ∈ addsN ok (addN ok f y) r
      exact addsN_sub (addN_has o)
    · exact ih h o
theorem addsN_mem {ok : Nat → Bool} {xs : List Nat} : ∀ {f : List Nat} {y : Nat}, y ∈ addsN ok f xs → y ∈ f ∨ (y ∈ xs ∧ ok y = true) := by
  induction xs with
  | nil => intro f y h; exact .inl h
  | cons x r ih =>
    intro f y h
    rcases ih h with h | h
    · rcases addN_mem h with h | ⟨rfl, o⟩
      · exact .inl h
      · exact .inr ⟨List.mem_cons_self, o⟩
    · exact .inr ⟨List.mem_cons_of_mem _ h.1, h.2⟩
theorem addsN_nd {ok : Nat → Bool} {xs : List Nat} : ∀ {f : List Nat}, f.Nodup → (addsN ok f xs).Nodup := by
  induction xs with
  | nil => intro f h; exact h
  | cons x r ih => intro f h; exact ih (addN_nd h)
theorem addsN_pre {ok : Nat → Bool} {xs : List Nat} : ∀ {f : List Nat}, ∃ t, addsN ok f xs = f ++ t := by
  induction xs with
  | nil => intro f; exact ⟨[], by simp [addsN]⟩
  | cons x r ih =>
    intro f
    obtain ⟨t, e⟩ := addN_pre (ok := ok) (f := f) (x := x)
    obtain ⟨u, e'⟩ := ih (f := addN ok f x)
    exact ⟨t ++ u, by show addsN ok (addN ok f x) r = _; rw [e', e]; simp⟩
/-- found ones: all reached, each once, below n -/
structure Fnd (N : Nat → List Nat) (ok : Nat → Bool) (s n : Nat) (f : List Nat) : Prop where
  nd : f.Nodup
  rc : ∀ x ∈ f, Rc N ok s x
  st : ok s = true → s ∈ f
theorem Fnd.start {N : Nat → List Nat} {ok : Nat → Bool} {s n : Nat} : Fnd N ok s n (if ok s = true then [s] else []) := by
  split
  · rename_i h; exact ⟨by simp, fun x hx => by simp at hx; subst hx; exact .refl h, fun _ => by simp⟩
  · rename_i h; exact ⟨by simp, fun x hx => by simp at hx, fun z => absurd z h⟩
theorem Fnd.adds {N : Nat → List Nat} {ok : Nat → Bool} {s n a : Nat} {f xs : List Nat} (h : Fnd N ok s n f) (ha : a ∈ f) (hx : ∀ x ∈ xs, x ∈ N a) : Fnd N ok s n (addsN ok f xs) := by
  refine ⟨addsN_nd h.nd, fun x hm => ?_, fun o => addsN_sub (h.st o)⟩
  rcases addsN_mem hm with hm | ⟨hm, o⟩
  · exact h.rc x hm
  · exact .step (h.rc a ha) (hx x hm) o
theorem Fnd.all {N : Nat → List Nat} {ok : Nat → Bool} {s n : Nat} {f : List Nat} (h : Fnd N ok s n f) (hc : ∀ x ∈ f, ∀ y ∈ N x, ok y = true → y ∈ f) : ∀ x, x ∈ f ↔ Rc N ok s x := fun x => ⟨h.rc x, fun r => by
  induction r with
  | refl o => exact h.st o
  | step _ m o ih => exact hc _ ih _ m o⟩
theorem Fnd.len {N : Nat → List Nat} {ok : Nat → Bool} {s n : Nat} {f : List Nat} (h : Fnd N ok s n f) (hs : s < n) (hN : ∀ x, x < n → ∀ y ∈ N x, y < n) : f.length ≤ n :=
  nodup_len n f h.nd fun x hx => (h.rc x hx).lt hs hN
/-- the pool: the ascending list of what is reached -/
structure IsPool (N : Nat → List Nat) (ok : Nat → Bool) (s : Nat) (Z : List Int) : Prop where
  up : Z.Pairwise (· < ·)
  mem : ∀ k, k ∈ Z ↔ ∃ x : Nat, k = (x : Int) ∧ Rc N ok s x
theorem IsPool.uniq {N : Nat → List Nat} {ok : Nat → Bool} {s : Nat} {Z Z' : List Int} (h : IsPool N ok s Z) (h' : IsPool N ok s Z') : Z = Z' := strict_uniq h.up h'.up fun k => by rw [h.mem, h'.mem]
theorem strict_of {ns : List Int} (s : ns.Pairwise (· ≤ ·)) (nd : ns.Nodup) : ns.Pairwise (· < ·) := by
  induction ns with
  | nil => exact .nil
  | cons x r ih =>
    rw [List.pairwise_cons] at s ⊢
    rw [List.nodup_cons] at nd
    refine ⟨fun y hy => ?_, ih s.2 nd.2⟩
    have := s.1 y hy
    have : x ≠ y := fun z => nd.1 (z ▸ hy)
    omega
theorem nodup_toZ {ns : List Nat} (h : ns.Nodup) : (toZ ns).Nodup := by
  unfold toZ
  induction ns with
  | nil => simp
  | cons x r ih =>
    rw [List.nodup_cons] at h
    rw [List.map_cons, List.nodup_cons]
    exact ⟨fun z => h.1 (mem_toZ.mp z), ih h.2⟩
theorem isPool_of {N : Nat → List Nat} {ok : Nat → Bool} {s n : Nat} {f : List Nat} (h : Fnd N ok s n f) (hc : ∀ x ∈ f, ∀ y ∈ N x, ok y = true → y ∈ f) : IsPool N ok s (isort (toZ f)) := by
  refine ⟨strict_of (isort_sorted _) ((isort_perm _).nodup_iff.mpr (nodup_toZ h.nd)), fun k => ?_⟩
  rw [(isort_perm _).mem_iff]
  constructor
  · intro hk
    obtain ⟨x, hx, rfl⟩ := List.mem_map.mp hk
    exact ⟨x, rfl, h.rc x hx⟩
  · rintro ⟨x, rfl, r⟩
    exact mem_toZ.mpr ((h.all hc x).mpr r)
/-- the four beside a square -/
def nbs4 (R U : List Nat) (a : Nat) : List Nat := [g0 R a, g0 (inv R) a, g0 U a, g0 (inv U) a]
/-- a floor -/
structure Flo (R U : List Nat) (n : Nat) : Prop where
  lR : R.length = n
  lU : U.length = n
  oR : Ord R
  oU : Ord U
  small : n ≤ 60
theorem Flo.nb_lt {R U : List Nat} {n : Nat} (F : Flo R U n) : ∀ x, x < n → ∀ y ∈ nbs4 R U x, y < n := by
  intro x hx y hy
  simp only [nbs4, List.mem_cons, List.not_mem_nil, or_false] at hy
  rcases hy with rfl | rfl | rfl | rfl
  · have := F.oR.low x (by rw [F.lR]; exact hx); rw [F.lR] at this; exact this
  · have := (at_inv F.oR (x := x) (by rw [F.lR]; exact hx)).2; rw [F.lR] at this; exact this
  · have := F.oU.low x (by rw [F.lU]; exact hx); rw [F.lU] at this; exact this
  · have := (at_inv F.oU (x := x) (by rw [F.lU]; exact hx)).2; rw [F.lU] at this; exact this
theorem Flo.nb_symm {R U : List Nat} {n : Nat} (F : Flo R U n) : ∀ x y, x < n → y ∈ nbs4 R U x → x ∈ nbs4 R U y := by
  intro x y hx hy
  have hR : x < R.length := by rw [F.lR]; exact hx
  have hU : x < U.length := by rw [F.lU]; exact hx
  simp only [nbs4, List.mem_cons, List.not_mem_nil, or_false] at hy ⊢
  rcases hy with rfl | rfl | rfl | rfl
  · exact .inr (.inl (inv_at F.oR hR).symm)
  · exact .inl (at_inv F.oR hR).1.symm
  · exact .inr (.inr (.inr (inv_at F.oU hU).symm))
  · exact .inr (.inr (.inl (at_inv F.oU hU).1.symm))
end CM
namespace CM
open PySem L2 VX

abbrev okL (lev : List Int) (most : Int) (x : Nat) : Bool := decide (z0 lev x ≤ most)
theorem B1_pool_of_eq {f row : List Nat} {lev : List Int} {most : Int} {i n : Nat} (hi : i < f.length) (hf : g0 f i < n) (hr : row.length = n) (hrow : g0 row (g0 f i) < n) (hl : lev.length = n) (hcap : f.length < 1000) (fl sq sg x : Option PV) :
    B1_pool_of [fl, some (.dat (.list (iZ lev))), sq, some (.dat (.int most)), some (.ptr 0), some (.dat (.int (i : Int))), sg, some (.dat (.list (iL row))), x] [.lst (oL f)] =
      some (.nx [fl, some (.dat (.list (iZ lev))), sq, some (.dat (.int most)), some (.ptr 0), some (.dat (.int (i : Int))), sg, some (.dat (.list (iL row))), some (.dat (.int ((g0 row (g0 f i) : Nat) : Int)))] [.lst (oL (addN (okL lev most) f (g0 row (g0 f i))))]) := by
  have a1 := at_oL hi
  have a2 := at_oL (ns := row) (j := g0 f i) (by omega)
  have a3 := at_oZ (ns := lev) (j := g0 row (g0 f i)) (by omega)
  have c : f.length < 1000000 := by omega
  by_cases h1 : z0 lev (g0 row (g0 f i)) ≤ most
  · by_cases h2 : g0 row (g0 f i) ∈ f
    · simp [B1_pool_of, a1, a2, a3, h1, h2, addN]
    · simp [B1_pool_of, a1, a2, a3, h1, h2, addN, cap, c]
  · simp [B1_pool_of, a1, a2, a3, h1, addN]
theorem g0_app {f t : List Nat} {i : Nat} (h : i < f.length) : g0 (f ++ t) i = g0 f i := by
  rw [g0_of h, g0_of (by simp; omega)]
  exact List.getElem_append_left h
theorem L1_pool_of_eq {R U f : List Nat} {lev : List Int} {most : Int} {i n : Nat} (F : Flo R U n) (hi : i < f.length) (hf : ∀ x ∈ f, x < n) (hl : lev.length = n) (hcap : f.length + 4 < 1000) (sq sg r x : Option PV) :
    ∃ sg' r' x', L1_pool_of [some (.dat (flo R U)), some (.dat (.list (iZ lev))), sq, some (.dat (.int most)), some (.ptr 0), some (.dat (.int (i : Int))), sg, r, x] [.lst (oL f)] =
      some (.nx [some (.dat (flo R U)), some (.dat (.list (iZ lev))), sq, some (.dat (.int most)), some (.ptr 0), some (.dat (.int (i : Int))), sg', r', x'] [.lst (oL (addsN (okL lev most) f (nbs4 R U (g0 f i))))]) := by
  have hn := F.small
  have ha : g0 f i < n := hf _ (g0_mem hi)
  have nb := F.nb_lt _ ha
  have step : ∀ (g : List Nat) (row : List Nat), (∃ t, g = f ++ t) → g.length < 1000 → row.length = n → g0 row (g0 f i) < n → ∀ sg x : Option PV, B1_pool_of [some (.dat (flo R U)), some (.dat (.list (iZ lev))), sq, some (.dat (.int most)), some (.ptr 0), some (.dat (.int (i : Int))), sg, some (.dat (.list (iL row))), x] [.lst (oL g)] =
      some (.nx [some (.dat (flo R U)), some (.dat (.list (iZ lev))), sq, some (.dat (.int most)), some (.ptr 0), some (.dat (.int (i : Int))), sg, some (.dat (.list (iL row))), some (.dat (.int ((g0 row (g0 f i) : Nat) : Int)))] [.lst (oL (addN (okL lev most) g (g0 row (g0 f i))))]) := by
    rintro g row ⟨t, rfl⟩ hg hr hrow sg x
    have e : g0 (f ++ t) i = g0 f i := g0_app hi
    have := B1_pool_of_eq (f := f ++ t) (row := row) (lev := lev) (most := most) (i := i) (n := n) (by simp; omega) (by rw [e]; exact ha) hr (by rw [e]; exact hrow) hl hg (some (.dat (flo R U))) sq sg x
    rw [e] at this
    exact this
  have pre : ∀ (g : List Nat) (y : Nat), (∃ t, g = f ++ t) → ∃ t, addN (okL lev most) g y = f ++ t := by
    rintro g y ⟨t, rfl⟩
    obtain ⟨u, e⟩ := addN_pre (ok := okL lev most) (f := f ++ t) (x := y)
    exact ⟨t ++ u, by rw [e]; simp⟩
  have len : ∀ (g : List Nat) (y : Nat), (addN (okL lev most) g y).length ≤ g.length + 1 := by
    intro g y; unfold addN; split <;> simp
  have n1 := nb (g0 R (g0 f i)) (by simp [nbs4])
  have n2 := nb (g0 (inv R) (g0 f i)) (by simp [nbs4])
  have n3 := nb (g0 U (g0 f i)) (by simp [nbs4])
  have n4 := nb (g0 (inv U) (g0 f i)) (by simp [nbs4])
  have p0 : ∃ t, f = f ++ t := ⟨[], by simp⟩
  have p1 := pre f (g0 R (g0 f i)) p0
  have p2 := pre _ (g0 (inv R) (g0 f i)) p1
  have p3 := pre _ (g0 U (g0 f i)) p2
  have l1 := len f (g0 R (g0 f i))
  have l2 := len (addN (okL lev most) f (g0 R (g0 f i))) (g0 (inv R) (g0 f i))
  have l3 := len (addN (okL lev most) (addN (okL lev most) f (g0 R (g0 f i))) (g0 (inv R) (g0 f i))) (g0 U (g0 f i))
  have s1 := step f R p0 (by omega) F.lR n1
  have s2 := step _ (inv R) p1 (by omega) (by rw [inv_len]; exact F.lR) n2
  have s3 := step _ U p2 (by omega) F.lU n3
  have s4 := step _ (inv U) p3 (by omega) (by rw [inv_len]; exact F.lU) n4
  have nl := F_near_lists_eq R U (by rw [F.lR]; omega) (by rw [F.lU]; omega) F.oR.low F.oU.low
  refine ⟨some (.dat (.str "d")), some (.dat (.list (iL (inv U)))), some (.dat (.int ((g0 (inv U) (g0 f i) : Nat) : Int))), ?_⟩
  unfold L1_pool_of sFor
  simp [asDats, nl, okG_none, forD, s1, s2, s3, s4, addsN, nbs4]
theorem L2_pool_of_eq {R U f : List Nat} {lev : List Int} {most : Int} {n s : Nat} (F : Flo R U n) (hs : s < n) (hl : lev.length = n) (hf : Fnd (nbs4 R U) (okL lev most) s n f) (sq sg r x : Option PV) :
    ∃ g a sg' r' x', L2_pool_of [some (.dat (flo R U)), some (.dat (.list (iZ lev))), sq, some (.dat (.int most)), some (.ptr 0), some (.dat (.int 0)), sg, r, x] [.lst (oL f)] =
      some (.nx [some (.dat (flo R U)), some (.dat (.list (iZ lev))), sq, some (.dat (.int most)), some (.ptr 0), a, sg', r', x'] [.lst (oL g)]) ∧ Fnd (nbs4 R U) (okL lev most) s n g ∧ ∀ x ∈ g, ∀ y ∈ nbs4 R U x, okL lev most y = true → y ∈ g := by
  have hn := F.small
  have key := whileN_gen (c := tsE (eOp fLt (eVar 5) (eCa fLen (aCons (eVar 4) aNil)))) (b := B2_pool_of)
    (fun m ε μ => ∃ (g : List Nat) (i : Nat) (sg' r' x' : Option PV), ε = [some (.dat (flo R U)), some (.dat (.list (iZ lev))), sq, some (.dat (.int most)), some (.ptr 0), some (.dat (.int (i : Int))), sg', r', x'] ∧ μ = [.lst (oL g)] ∧ Fnd (nbs4 R U) (okL lev most) s n g ∧ i ≤ g.length ∧ n - i ≤ m ∧ ∀ j, j < i → ∀ y ∈ nbs4 R U (g0 g j), okL lev most y = true → y ∈ g)
    (fun o => ∃ g a sg' r' x', o = .nx [some (.dat (flo R U)), some (.dat (.list (iZ lev))), sq, some (.dat (.int most)), some (.ptr 0), a, sg', r', x'] [.lst (oL g)] ∧ Fnd (nbs4 R U) (okL lev most) s n g ∧ ∀ x ∈ g, ∀ y ∈ nbs4 R U x, okL lev most y = true → y ∈ g)
    (fun m ε μ h => by
      obtain ⟨g, i, sg', r', x', rfl, rfl, hg, hi, hm, hc⟩ := h
      have hgl := hg.len hs F.nb_lt
      refine ⟨decide ((i : Int) < (g.length : Int)), [.lst (oL g)], by simp, fun hb => ?_, fun hb => ?_⟩
      · have hb' : ¬ (i : Int) < (g.length : Int) := of_decide_eq_false hb
        have ei : i = g.length := by omega
        refine ⟨g, _, sg', r', x', rfl, hg, fun x hx y hy ho => ?_⟩
        obtain ⟨j, hj, rfl⟩ := mem_g0 hx
        exact hc j (by omega) y hy ho
      · have hb' : (i : Int) < (g.length : Int) := of_decide_eq_true hb
        have hi' : i < g.length := by omega
        obtain ⟨m', rfl⟩ : ∃ m', m = m' + 1 := ⟨m - 1, by omega⟩
        refine ⟨m', rfl, ?_⟩
        obtain ⟨sg2, r2, x2, e⟩ := L1_pool_of_eq (f := g) (most := most) F hi' (fun x hx => (hg.rc x hx).lt hs F.nb_lt) hl (by omega) sq sg' r' x'
        obtain ⟨t, et⟩ := addsN_pre (ok := okL lev most) (f := g) (xs := nbs4 R U (g0 g i))
        refine ⟨.nx [some (.dat (flo R U)), some (.dat (.list (iZ lev))), sq, some (.dat (.int most)), some (.ptr 0), some (.dat (.int ((i + 1 : Nat) : Int))), sg2, r2, x2] [.lst (oL (addsN (okL lev most) g (nbs4 R U (g0 g i))))], by simp [B2_pool_of, e], ?_⟩
        refine ⟨_, i + 1, sg2, r2, x2, rfl, rfl, hg.adds (g0_mem hi') (fun x hx => hx), ?_, by omega, fun j hj y hy ho => ?_⟩
        · rw [et]; simp; omega
        · by_cases ej : j = i
          · subst ej
            rw [et, g0_app hi'] at hy
            exact addsN_has hy ho
          · have : j < i := by omega
            rw [et, g0_app (by omega)] at hy
            exact addsN_sub (hc j this y hy ho)) 2000 n
    [some (.dat (flo R U)), some (.dat (.list (iZ lev))), sq, some (.dat (.int most)), some (.ptr 0), some (.dat (.int 0)), sg, r, x] [.lst (oL f)] (by omega) ⟨f, 0, sg, r, x, rfl, rfl, hf, Nat.zero_le _, by omega, fun j hj => absurd hj (Nat.not_lt_zero _)⟩
  obtain ⟨o, h1, g, a, sg', r', x', rfl, h2, h3⟩ := key
  exact ⟨g, a, sg', r', x', h1, h2, h3⟩
theorem F_pool_of_eq {R U : List Nat} {lev : List Int} {most : Int} {n s : Nat} (F : Flo R U n) (hs : s < n) (hl : lev.length = n) :
    ∃ Z, F_pool_of [flo R U, .list (iZ lev), .int (s : Int), .int most] = some (.list (iZ Z)) ∧ IsPool (nbs4 R U) (okL lev most) s Z := by
  have hn := F.small
  obtain ⟨g, a, sg, r, x, e, h1, h2⟩ := L2_pool_of_eq (most := most) F hs hl Fnd.start (some (.dat (.int (s : Int)))) none none none
  refine ⟨_, ?_, isPool_of h1 h2⟩
  have a1 := at_oZ (ns := lev) (j := s) (by omega)
  have hgl := h1.len hs F.nb_lt
  have c : (isort (toZ g)).length ≤ 1000000 := by rw [(isort_perm _).length_eq]; simp; omega
  by_cases ho : z0 lev s ≤ most
  · simp only [okL, ho, decide_true, if_true] at e
    rw [oL_one] at e
    simp [F_pool_of, r_pool_of, a1, ho, cap, e, c]
  · simp only [okL, ho, decide_false, Bool.false_eq_true, if_false] at e
    rw [oL_nil] at e
    simp [F_pool_of, r_pool_of, a1, ho, cap, e, c]
end CM
namespace CM
open PySem L2 VX
@[simp] theorem atI_z {α : Type} (a : α) (l : List α) : L2.atI (a :: l) 0 = some a := atI_nat (j := 0) rfl
@[simp] theorem atI_o {α : Type} (a b : α) (l : List α) : L2.atI (a :: b :: l) 1 = some b := atI_nat (j := 1) rfl
@[simp] theorem atI_t {α : Type} (a b c : α) (l : List α) : L2.atI (a :: b :: c :: l) 2 = some c := atI_nat (j := 2) rfl
/-! ### _law_lists -/
def dicR (R U : List Nat) : List (Key × PV) := [(.inr "r", .dat (.list (iL R))), (.inr "u", .dat (.list (iL U))), (.inr "l", .ptr 0), (.inr "d", .ptr 1)]
theorem valP_hit {κ : Type} [DecidableEq κ] {k : κ} {v : PV} {r : List (κ × PV)} : valP ((k, v) :: r) k = some v := by simp [valP]
theorem valP_miss {κ : Type} [DecidableEq κ] {k k' : κ} {v : PV} {r : List (κ × PV)} (h : k' ≠ k) : valP ((k', v) :: r) k = valP r k := by simp [valP, h]
theorem putP_miss {κ : Type} [DecidableEq κ] {k k' : κ} {v w : PV} {r : List (κ × PV)} (h : k' ≠ k) : putP ((k', v) :: r) k w = (k', v) :: putP r k w := by simp [putP, h]
theorem inr_ne {a b : Str} (h : a ≠ b) : (Sum.inr a : Key) ≠ Sum.inr b := fun z => h (Sum.inr.inj z)
theorem valP_r (R U : List Nat) : valP (dicR R U) (.inr "r") = some (.dat (.list (iL R))) := valP_hit
theorem valP_u (R U : List Nat) : valP (dicR R U) (.inr "u") = some (.dat (.list (iL U))) := by
  unfold dicR
  rw [valP_miss (inr_ne (by decide)), valP_hit]
theorem valP_l (R U : List Nat) : valP (dicR R U) (.inr "l") = some (.ptr 0) := by
  unfold dicR
  rw [valP_miss (inr_ne (by decide)), valP_miss (inr_ne (by decide)), valP_hit]
theorem valP_d (R U : List Nat) : valP (dicR R U) (.inr "d") = some (.ptr 1) := by
  unfold dicR
  rw [valP_miss (inr_ne (by decide)), valP_miss (inr_ne (by decide)), valP_miss (inr_ne (by decide)), valP_hit]
theorem merge4 {k1 k2 k3 k4 : Str} {a b c d : PV} (h1 : k1 ≠ k2) (h2 : k1 ≠ k3) (h3 : k1 ≠ k4) (h4 : k2 ≠ k3) (h5 : k2 ≠ k4) (h6 : k3 ≠ k4) :
    mergeP [] [((.inr k1 : Key), a), (.inr k2, b), (.inr k3, c), (.inr k4, d)] = [((.inr k1 : Key), a), (.inr k2, b), (.inr k3, c), (.inr k4, d)] := by
  unfold mergeP
  simp only [List.foldl_cons, List.foldl_nil]
  have e0 : ∀ (k : Key) (v : PV), putP [] k v = [(k, v)] := fun k v => rfl
  rw [e0, putP_miss (inr_ne h1), e0, putP_miss (inr_ne h2), putP_miss (inr_ne h4), e0, putP_miss (inr_ne h3), putP_miss (inr_ne h5), putP_miss (inr_ne h6), e0]
theorem mergeR (R U : List Nat) (a b : PV) : mergeP [] [((.inr "r" : Key), .dat (.list (iL R))), (.inr "u", .dat (.list (iL U))), (.inr "l", a), (.inr "d", b)] = [((.inr "r" : Key), .dat (.list (iL R))), (.inr "u", .dat (.list (iL U))), (.inr "l", a), (.inr "d", b)] :=
  merge4 (by decide) (by decide) (by decide) (by decide) (by decide) (by decide)
def listsSt (R U iR iU : List Nat) : Sto := [.lst (oL iR), .lst (oL iU), .dic (dicR R U)]
theorem get_l {R U iR iU : List Nat} (a b d : Option PV) : eDGet (eVar 2) (eC (.str "l")) [a, b, some (.ptr 2), d] (listsSt R U iR iU) = some (.ptr 0, listsSt R U iR iU) := by
  simp [-valP, valP_l, listsSt]
theorem get_d {R U iR iU : List Nat} (a b d : Option PV) : eDGet (eVar 2) (eC (.str "d")) [a, b, some (.ptr 2), d] (listsSt R U iR iU) = some (.ptr 1, listsSt R U iR iU) := by
  simp [-valP, valP_d, listsSt]
theorem get_R {R U : List Nat} {μ : Sto} {i : Nat} (h : i < R.length) (b c : Option PV) : eOp fIx (eOp fIx (eVar 0) (eC (.int 1))) (eVar 3) [some (.dat (flo R U)), b, c, some (.dat (.int (i : Int)))] μ = some (.dat (.int ((g0 R i : Nat) : Int)), μ) := by
  simp [at_oL h]
theorem get_U {R U : List Nat} {μ : Sto} {i : Nat} (h : i < U.length) (b c : Option PV) : eOp fIx (eOp fIx (eVar 0) (eC (.int 2))) (eVar 3) [some (.dat (flo R U)), b, c, some (.dat (.int (i : Int)))] μ = some (.dat (.int ((g0 U i : Nat) : Int)), μ) := by
  simp [at_oL h]
theorem set_l {R U iR iU : List Nat} {i j : Nat} (h : i < R.length) (b : Option PV) (hj : g0 R i < iR.length) : tgSub (eDGet (eVar 2) (eC (.str "l"))) (eOp fIx (eOp fIx (eVar 0) (eC (.int 1))) (eVar 3)) (.dat (.int (j : Int))) [some (.dat (flo R U)), b, some (.ptr 2), some (.dat (.int (i : Int)))] (listsSt R U iR iU) = some ([some (.dat (flo R U)), b, some (.ptr 2), some (.dat (.int (i : Int)))], listsSt R U (iR.set (g0 R i) j) iU) := by
  unfold tgSub
  rw [get_l]
  simp only [Option.bind_some]
  rw [get_R h]
  simp [listsSt, ixN_natD hj]
theorem set_d {R U iR iU : List Nat} {i j : Nat} (h : i < U.length) (b : Option PV) (hj : g0 U i < iU.length) : tgSub (eDGet (eVar 2) (eC (.str "d"))) (eOp fIx (eOp fIx (eVar 0) (eC (.int 2))) (eVar 3)) (.dat (.int (j : Int))) [some (.dat (flo R U)), b, some (.ptr 2), some (.dat (.int (i : Int)))] (listsSt R U iR iU) = some ([some (.dat (flo R U)), b, some (.ptr 2), some (.dat (.int (i : Int)))], listsSt R U iR (iU.set (g0 U i) j)) := by
  unfold tgSub
  rw [get_d]
  simp only [Option.bind_some]
  rw [get_U h]
  simp [listsSt, ixN_natD hj]
theorem B1__law_lists_eq {R U : List Nat} {n i : Nat} (F : Flo R U n) (hi : i < n) (b : Option PV) : B1__law_lists [some (.dat (flo R U)), b, some (.ptr 2), some (.dat (.int (i : Int)))] (listsSt R U (invTo R i) (invTo U i)) = some (.nx [some (.dat (flo R U)), b, some (.ptr 2), some (.dat (.int (i : Int)))] (listsSt R U (invTo R (i + 1)) (invTo U (i + 1)))) := by
  have hR : i < R.length := by rw [F.lR]; exact hi
  have hU : i < U.length := by rw [F.lU]; exact hi
  have e3 : ∀ μ : Sto, eVar 3 [some (.dat (flo R U)), b, some (.ptr 2), some (.dat (.int (i : Int)))] μ = some (.dat (.int (i : Int)), μ) := fun _ => rfl
  unfold B1__law_lists sSeq sAsg
  rw [e3]
  simp only [Option.bind_some]
  rw [set_l hR b (by rw [invTo_len]; exact F.oR.low i hR)]
  simp only [Option.bind_some]
  rw [e3]
  simp only [Option.bind_some]
  rw [set_d hU b (by rw [invTo_len]; exact F.oU.low i hU)]
  simp only [Option.bind_some, invTo_succ]
theorem L1__law_lists_eq {R U : List Nat} {n : Nat} (F : Flo R U n) (x : Option PV) :
    ∃ x', L1__law_lists [some (.dat (flo R U)), some (.dat (.int (n : Int))), some (.ptr 2), x] (listsSt R U (invTo R 0) (invTo U 0)) = some (.nx [some (.dat (flo R U)), some (.dat (.int (n : Int))), some (.ptr 2), x'] (listsSt R U (inv R) (inv U))) := by
  have hn := F.small
  have key := forD_all (G := fun _ => true) (tg := tgN 3) (b := B1__law_lists)
    (fun i ε μ => ∃ x', ε = [some (.dat (flo R U)), some (.dat (.int (n : Int))), some (.ptr 2), x'] ∧ μ = listsSt R U (invTo R i) (invTo U i)) ((List.range n).map fun i => PV.dat (.int (i : Nat))) (fun _ _ _ _ => rfl) (fun i p ε μ hp h => by
      obtain ⟨x', rfl, rfl⟩ := h
      have hi : i < n := by simpa using (List.getElem?_eq_some_iff.mp hp).1
      have ep : p = .dat (.int (i : Int)) := by simpa [hi] using hp.symm
      subst ep
      refine ⟨_, _, [some (.dat (flo R U)), some (.dat (.int (n : Int))), some (.ptr 2), some (.dat (.int (i : Int)))], listsSt R U (invTo R (i + 1)) (invTo U (i + 1)), rfl, B1__law_lists_eq F hi _, _, rfl, rfl⟩
      ) (ε := [some (.dat (flo R U)), some (.dat (.int (n : Int))), some (.ptr 2), x]) (μ := listsSt R U (invTo R 0) (invTo U 0)) ⟨x, rfl, rfl⟩
  obtain ⟨ε', μ', h1, x', rfl, rfl⟩ := key
  refine ⟨x', ?_⟩
  unfold L1__law_lists sFor
  simp only [List.length_map, List.length_range] at h1
  have c : n ≤ 100000 := by omega
  simp [c, okG_none, h1, inv, F.lR, F.lU]
theorem F__law_lists_eq {R U : List Nat} {n : Nat} (F : Flo R U n) : F__law_lists [.dat (flo R U)] [] = some (.ptr 2, listsSt R U (inv R) (inv U)) := by
  have hn := F.small
  obtain ⟨x', h⟩ := L1__law_lists_eq F none
  have e1 : oL (invTo R 0) = List.replicate n (PV.dat (.int 0)) := by rw [rep_oL, ← F.lR]; rfl
  have e2 : oL (invTo U 0) = List.replicate n (PV.dat (.int 0)) := by rw [rep_oL, ← F.lU]; rfl
  unfold listsSt dicR at h
  rw [e1, e2] at h
  have c1 : n ≤ 1000000 := by omega
  have c2 : n ≤ 100000 := by omega
  simp [-valP, -putP, -mergeP, mergeR, F__law_lists, r__law_lists, F.lR, cap, asDats, c1, c2, h, listsSt, dicR]
end CM
namespace CM
open PySem L2 VX
theorem signs4s : ("rlud" : Str).cps.toList.map (fun c => (⟨#[c]⟩ : Str)) = [("r" : Str), "l", "u", "d"] := by decide
theorem signs4 : ("rlud" : Str).cps.toList.map (fun c => PV.dat (.str ⟨#[c]⟩)) = [.dat (.str "r"), .dat (.str "l"), .dat (.str "u"), .dat (.str "d")] := by
  have := congrArg (List.map fun s : Str => PV.dat (.str s)) signs4s
  rw [List.map_map] at this
  exact this
abbrev lsSt (R U : List Nat) : Sto := listsSt R U (inv R) (inv U)
theorem atD_r {R U : List Nat} {a : Nat} (h : a < R.length) (a0 a1 a2 a3 a5 a6 a9 : Option PV) : eOp fIx (eDGet (eVar 4) (eVar 8)) (eVar 7) [a0, a1, a2, a3, some (.ptr 2), a5, a6, some (.dat (.int (a : Int))), some (.dat (.str "r")), a9] (lsSt R U) = some (.dat (.int ((g0 R a : Nat) : Int)), lsSt R U) := by
  simp [valP_r, listsSt, at_oL h]
theorem atD_u {R U : List Nat} {a : Nat} (h : a < U.length) (a0 a1 a2 a3 a5 a6 a9 : Option PV) : eOp fIx (eDGet (eVar 4) (eVar 8)) (eVar 7) [a0, a1, a2, a3, some (.ptr 2), a5, a6, some (.dat (.int (a : Int))), some (.dat (.str "u")), a9] (lsSt R U) = some (.dat (.int ((g0 U a : Nat) : Int)), lsSt R U) := by
  simp [valP_u, listsSt, at_oL h]
theorem atD_l {R U : List Nat} {a : Nat} (h : a < (inv R).length) (a0 a1 a2 a3 a5 a6 a9 : Option PV) : eOp fIx (eDGet (eVar 4) (eVar 8)) (eVar 7) [a0, a1, a2, a3, some (.ptr 2), a5, a6, some (.dat (.int (a : Int))), some (.dat (.str "l")), a9] (lsSt R U) = some (.dat (.int ((g0 (inv R) a : Nat) : Int)), lsSt R U) := by
  simp [valP_l, listsSt, at_oL h]
theorem atD_d {R U : List Nat} {a : Nat} (h : a < (inv U).length) (a0 a1 a2 a3 a5 a6 a9 : Option PV) : eOp fIx (eDGet (eVar 4) (eVar 8)) (eVar 7) [a0, a1, a2, a3, some (.ptr 2), a5, a6, some (.dat (.int (a : Int))), some (.dat (.str "d")), a9] (lsSt R U) = some (.dat (.int ((g0 (inv U) a : Nat) : Int)), lsSt R U) := by
  simp [valP_d, listsSt, at_oL h]
theorem B1__law_pool_eq {μ : Sto} {f : List Nat} {lev : List Int} {most : Int} {z n : Nat} (a0 a2 a6 a7 a8 a9 : Option PV) (hl : lev.length = n) (hz : z < n) (hf : f.length < 1000)
    (hx : ∀ a9, eOp fIx (eDGet (eVar 4) (eVar 8)) (eVar 7) [a0, some (.dat (.list (iZ lev))), a2, some (.dat (.int most)), some (.ptr 2), some (.dat (.list (iL f))), a6, a7, a8, a9] μ = some (.dat (.int (z : Int)), μ)) :
    B1__law_pool [a0, some (.dat (.list (iZ lev))), a2, some (.dat (.int most)), some (.ptr 2), some (.dat (.list (iL f))), a6, a7, a8, a9] μ =
      some (.nx [a0, some (.dat (.list (iZ lev))), a2, some (.dat (.int most)), some (.ptr 2), some (.dat (.list (iL (addN (okL lev most) f z)))), a6, a7, a8, some (.dat (.int (z : Int)))] μ) := by
  have a3 := at_oZ (ns := lev) (j := z) (by omega)
  have c : f.length ≤ 999999 := by omega
  unfold B1__law_pool sSeq sSet
  rw [hx]
  by_cases h1 : z0 lev z ≤ most
  · by_cases h2 : z ∈ f
    · simp [a3, h1, h2, addN]
    · have e : oL f ++ [PV.dat (.int (z : Int))] = oL (f ++ [z]) := oL_snoc f z
      simp [a3, h1, h2, addN, cap, asDats, e, c]
  · simp [a3, h1, addN]
theorem L1__law_pool_eq {R U f : List Nat} {lev : List Int} {most : Int} {a n : Nat} (F : Flo R U n) (ha : a < n) (hl : lev.length = n) (hf : f.length + 4 < 1000) (a2 a6 a8 a9 : Option PV) :
    ∃ a8' a9', L1__law_pool [some (.dat (flo R U)), some (.dat (.list (iZ lev))), a2, some (.dat (.int most)), some (.ptr 2), some (.dat (.list (iL f))), a6, some (.dat (.int (a : Int))), a8, a9] (lsSt R U) =
      some (.nx [some (.dat (flo R U)), some (.dat (.list (iZ lev))), a2, some (.dat (.int most)), some (.ptr 2), some (.dat (.list (iL (addsN (okL lev most) f (nbs4 R U a))))), a6, some (.dat (.int (a : Int))), a8', a9'] (lsSt R U)) := by
  have nb := F.nb_lt _ ha
  have len : ∀ (g : List Nat) (y : Nat), (addN (okL lev most) g y).length ≤ g.length + 1 := by
    intro g y; unfold addN; split <;> simp
  have n1 := nb (g0 R a) (by simp [nbs4])
  have n2 := nb (g0 (inv R) a) (by simp [nbs4])
  have n3 := nb (g0 U a) (by simp [nbs4])
  have n4 := nb (g0 (inv U) a) (by simp [nbs4])
  have l1 := len f (g0 R a)
  have l2 := len (addN (okL lev most) f (g0 R a)) (g0 (inv R) a)
  have l3 := len (addN (okL lev most) (addN (okL lev most) f (g0 R a)) (g0 (inv R) a)) (g0 U a)
  have s1 := fun a9 => B1__law_pool_eq (f := f) (most := most) (some (.dat (flo R U))) a2 a6 (some (.dat (.int (a : Int)))) (some (.dat (.str "r"))) a9 hl n1 (by omega) (fun a9 => atD_r (R := R) (U := U) (by rw [F.lR]; exact ha) _ _ _ _ _ _ _)
  have s2 := fun a9 => B1__law_pool_eq (f := addN (okL lev most) f (g0 R a)) (most := most) (some (.dat (flo R U))) a2 a6 (some (.dat (.int (a : Int)))) (some (.dat (.str "l"))) a9 hl n2 (by omega) (fun a9 => atD_l (R := R) (U := U) (by rw [inv_len, F.lR]; exact ha) _ _ _ _ _ _ _)
  have s3 := fun a9 => B1__law_pool_eq (f := addN (okL lev most) (addN (okL lev most) f (g0 R a)) (g0 (inv R) a)) (most := most) (some (.dat (flo R U))) a2 a6 (some (.dat (.int (a : Int)))) (some (.dat (.str "u"))) a9 hl n3 (by omega) (fun a9 => atD_u (R := R) (U := U) (by rw [F.lU]; exact ha) _ _ _ _ _ _ _)
  have s4 := fun a9 => B1__law_pool_eq (f := addN (okL lev most) (addN (okL lev most) (addN (okL lev most) f (g0 R a)) (g0 (inv R) a)) (g0 U a)) (most := most) (some (.dat (flo R U))) a2 a6 (some (.dat (.int (a : Int)))) (some (.dat (.str "d"))) a9 hl n4 (by omega) (fun a9 => atD_d (R := R) (U := U) (by rw [inv_len, F.lU]; exact ha) _ _ _ _ _ _ _)
  refine ⟨some (.dat (.str "d")), some (.dat (.int ((g0 (inv U) a : Nat) : Int))), ?_⟩
  unfold L1__law_pool sFor srcSeq eC
  simp only [Option.bind_some, signs4]
  simp only [forD, okG_none, if_true, tgN, turnO, List.set_cons_succ, List.set_cons_zero, Option.bind_some, s1, s2, s3, s4]
  rfl
theorem addsN_len {ok : Nat → Bool} {xs : List Nat} : ∀ {f : List Nat}, (addsN ok f xs).length ≤ f.length + xs.length := by
  induction xs with
  | nil => intro f; exact Nat.le_refl _
  | cons x r ih =>
    intro f
    have h : (addN ok f x).length ≤ f.length + 1 := by unfold addN; split <;> simp
    have := ih (f := addN ok f x)
    show (addsN ok (addN ok f x) r).length ≤ _
    simp only [List.length_cons]; omega
theorem L2__law_pool_eq {R U f : List Nat} {lev : List Int} {most : Int} {n s : Nat} (F : Flo R U n) (hs : s < n) (hl : lev.length = n) (hf : Fnd (nbs4 R U) (okL lev most) s n f) (a2 a7 a8 a9 : Option PV) :
    ∃ g a7' a8' a9', L2__law_pool [some (.dat (flo R U)), some (.dat (.list (iZ lev))), a2, some (.dat (.int most)), some (.ptr 2), some (.dat (.list (iL f))), some (.dat (.int (f.length : Int))), a7, a8, a9] (lsSt R U) =
      some (.nx [some (.dat (flo R U)), some (.dat (.list (iZ lev))), a2, some (.dat (.int most)), some (.ptr 2), some (.dat (.list (iL g))), some (.dat (.int (f.length : Int))), a7', a8', a9'] (lsSt R U)) ∧ Fnd (nbs4 R U) (okL lev most) s n g ∧ f.length ≤ g.length ∧ ∀ j, j < f.length → ∀ y ∈ nbs4 R U (g0 g j), okL lev most y = true → y ∈ g := by
  have hn := F.small
  have key := forD_all (G := fun _ => true) (tg := tgN 7) (b := B2__law_pool)
    (fun i ε μ => ∃ (g : List Nat) (a7' a8' a9' : Option PV), ε = [some (.dat (flo R U)), some (.dat (.list (iZ lev))), a2, some (.dat (.int most)), some (.ptr 2), some (.dat (.list (iL g))), some (.dat (.int (f.length : Int))), a7', a8', a9'] ∧ μ = lsSt R U ∧ (∃ t, g = f ++ t) ∧ Fnd (nbs4 R U) (okL lev most) s n g ∧ ∀ j, j < i → ∀ y ∈ nbs4 R U (g0 g j), okL lev most y = true → y ∈ g)
    (oL f) (fun _ _ _ _ => rfl) (fun i p ε μ hp h => by
      obtain ⟨g, a7', a8', a9', rfl, rfl, ⟨t, rfl⟩, hg, hc⟩ := h
      obtain ⟨hi, rfl⟩ := get_oL hp
      have hgl := hg.len hs F.nb_lt
      have hm : g0 f i ∈ f ++ t := List.mem_append_left _ (g0_mem hi)
      obtain ⟨a82, a92, e⟩ := L1__law_pool_eq (f := f ++ t) (most := most) F ((hg.rc _ hm).lt hs F.nb_lt) hl (by omega) a2 (some (.dat (.int (f.length : Int)))) a8' a9'
      obtain ⟨u, eu⟩ := addsN_pre (ok := okL lev most) (f := f ++ t) (xs := nbs4 R U (g0 f i))
      refine ⟨_, _, _, _, rfl, e, _, _, _, _, rfl, rfl, ⟨t ++ u, by rw [eu, List.append_assoc]⟩, hg.adds hm (fun x hx => hx), fun j hj y hy ho => ?_⟩
      have hjl : j < (f ++ t).length := by simp; omega
      by_cases ej : j = i
      · subst ej
        rw [eu, g0_app hjl, g0_app hi] at hy
        exact addsN_has hy ho
      · rw [eu, g0_app hjl] at hy
        exact addsN_sub (hc j (by omega) y hy ho)) (ε := [some (.dat (flo R U)), some (.dat (.list (iZ lev))), a2, some (.dat (.int most)), some (.ptr 2), some (.dat (.list (iL f))), some (.dat (.int (f.length : Int))), a7, a8, a9]) (μ := lsSt R U)
      ⟨f, a7, a8, a9, rfl, rfl, ⟨[], by simp⟩, hf, fun j hj => absurd hj (Nat.not_lt_zero _)⟩
  obtain ⟨ε', μ', h1, g, a7', a8', a9', rfl, rfl, ⟨t, rfl⟩, hg, hc⟩ := key
  have hfl := hf.len hs F.nb_lt
  refine ⟨f ++ t, a7', a8', a9', ?_, hg, by simp, fun j hj => hc j (by simpa using hj)⟩
  have c : f.length ≤ 1000000 := by omega
  have e : cutP (oL f) none (some (f.length : Int)) = oL f := by
    unfold cutP
    rw [HT.sIx_none, HT.sIx_nat]
    simp only [len_oL, Nat.min_self, Nat.sub_zero, List.drop_zero]
    exact List.take_of_length_le (by simp)
  unfold L2__law_pool sFor
  simp [cap, c, e, okG_none, h1]
theorem L3__law_pool_eq {R U f : List Nat} {lev : List Int} {most : Int} {n s : Nat} (F : Flo R U n) (hs : s < n) (hl : lev.length = n) (hf : Fnd (nbs4 R U) (okL lev most) s n f) (a2 a7 a8 a9 : Option PV) :
    ∃ g a6' a7' a8' a9', L3__law_pool [some (.dat (flo R U)), some (.dat (.list (iZ lev))), a2, some (.dat (.int most)), some (.ptr 2), some (.dat (.list (iL f))), some (.dat (.int (-1))), a7, a8, a9] (lsSt R U) =
      some (.nx [some (.dat (flo R U)), some (.dat (.list (iZ lev))), a2, some (.dat (.int most)), some (.ptr 2), some (.dat (.list (iL g))), a6', a7', a8', a9'] (lsSt R U)) ∧ Fnd (nbs4 R U) (okL lev most) s n g ∧ ∀ x ∈ g, ∀ y ∈ nbs4 R U x, okL lev most y = true → y ∈ g := by
  have hn := F.small
  have key := whileN_gen (c := tsE (eOp fLt (eVar 6) (eCa fLen (aCons (eVar 5) aNil)))) (b := B3__law_pool)
    (fun m ε μ => ∃ (g : List Nat) (z : Int) (a7' a8' a9' : Option PV), ε = [some (.dat (flo R U)), some (.dat (.list (iZ lev))), a2, some (.dat (.int most)), some (.ptr 2), some (.dat (.list (iL g))), some (.dat (.int z)), a7', a8', a9'] ∧ μ = lsSt R U ∧ Fnd (nbs4 R U) (okL lev most) s n g ∧ -1 ≤ z ∧ z ≤ (g.length : Int) ∧ (n : Int) - z ≤ (m : Int) ∧ ∀ j : Nat, (j : Int) < z → ∀ y ∈ nbs4 R U (g0 g j), okL lev most y = true → y ∈ g)
    (fun o => ∃ g a6' a7' a8' a9', o = .nx [some (.dat (flo R U)), some (.dat (.list (iZ lev))), a2, some (.dat (.int most)), some (.ptr 2), some (.dat (.list (iL g))), a6', a7', a8', a9'] (lsSt R U) ∧ Fnd (nbs4 R U) (okL lev most) s n g ∧ ∀ x ∈ g, ∀ y ∈ nbs4 R U x, okL lev most y = true → y ∈ g)
    (fun m ε μ h => by
      obtain ⟨g, z, a7', a8', a9', rfl, rfl, hg, hz0, hz, hm, hc⟩ := h
      have hgl := hg.len hs F.nb_lt
      refine ⟨decide (z < (g.length : Int)), lsSt R U, by simp, fun hb => ?_, fun hb => ?_⟩
      · have hb' : ¬ z < (g.length : Int) := of_decide_eq_false hb
        refine ⟨g, _, a7', a8', a9', rfl, hg, fun x hx y hy ho => ?_⟩
        obtain ⟨j, hj, rfl⟩ := mem_g0 hx
        exact hc j (by omega) y hy ho
      · have hb' : z < (g.length : Int) := of_decide_eq_true hb
        obtain ⟨m', rfl⟩ : ∃ m', m = m' + 1 := ⟨m - 1, by omega⟩
        refine ⟨m', rfl, ?_⟩
        obtain ⟨g', a72, a82, a92, e, hg', hle, hc'⟩ := L2__law_pool_eq (f := g) (most := most) F hs hl hg a2 a7' a8' a9'
        refine ⟨.nx [some (.dat (flo R U)), some (.dat (.list (iZ lev))), a2, some (.dat (.int most)), some (.ptr 2), some (.dat (.list (iL g'))), some (.dat (.int (g.length : Int))), a72, a82, a92] (lsSt R U), by simp [B3__law_pool, e], ?_⟩
        exact ⟨g', _, a72, a82, a92, rfl, rfl, hg', by omega, by omega, by omega, fun j hj => hc' j (by omega)⟩) 2000 (n + 1)
    [some (.dat (flo R U)), some (.dat (.list (iZ lev))), a2, some (.dat (.int most)), some (.ptr 2), some (.dat (.list (iL f))), some (.dat (.int (-1))), a7, a8, a9] (lsSt R U) (by omega) ⟨f, -1, a7, a8, a9, rfl, rfl, hf, by omega, by omega, by omega, fun j hj => by omega⟩
  obtain ⟨o, h1, g, a6', a7', a8', a9', rfl, h2, h3⟩ := key
  exact ⟨g, a6', a7', a8', a9', h1, h2, h3⟩
theorem F__law_pool_eq {R U : List Nat} {lev : List Int} {most : Int} {n s : Nat} (F : Flo R U n) (hs : s < n) (hl : lev.length = n) :
    ∃ Z, F__law_pool [flo R U, .list (iZ lev), .int (s : Int), .int most] = some (.list (iZ Z)) ∧ IsPool (nbs4 R U) (okL lev most) s Z := by
  have hn := F.small
  obtain ⟨g, a6, a7, a8, a9, e, h1, h2⟩ := L3__law_pool_eq (most := most) F hs hl Fnd.start (some (.dat (.int (s : Int)))) none none none
  refine ⟨_, ?_, isPool_of h1 h2⟩
  have a1 := at_oZ (ns := lev) (j := s) (by omega)
  have hgl := h1.len hs F.nb_lt
  have c : (isort (toZ g)).length ≤ 1000000 := by rw [(isort_perm _).length_eq]; simp; omega
  have ll := F__law_lists_eq F
  by_cases ho : z0 lev s ≤ most
  · simp only [okL, ho, decide_true, if_true] at e
    rw [show iL [s] = [PyData.int (s : Int)] from rfl] at e
    simp [F__law_pool, r__law_pool, a1, ho, cap, ll, asDats, e, c]
  · simp only [okL, ho, decide_false, Bool.false_eq_true, if_false] at e
    rw [show iL [] = [] from rfl] at e
    simp [F__law_pool, r__law_pool, a1, ho, cap, ll, asDats, e, c]
theorem F__law_pool_pool {R U : List Nat} {lev : List Int} {most : Int} {n s : Nat} (F : Flo R U n) (hs : s < n) (hl : lev.length = n) :
    F__law_pool [flo R U, .list (iZ lev), .int (s : Int), .int most] = F_pool_of [flo R U, .list (iZ lev), .int (s : Int), .int most] := by
  obtain ⟨Z, e, h⟩ := F__law_pool_eq (most := most) F hs hl
  obtain ⟨Z', e', h'⟩ := F_pool_of_eq (most := most) F hs hl
  rw [e, e', h.uniq h']
end CM
namespace CM
open PySem L2 VX
/-! ### words and where they lead -/
def sgs (w : Str) : List Str := w.cps.toList.map fun c => (⟨#[c]⟩ : Str)
theorem sgs_app (a b : Str) : sgs (a ++ b) = sgs a ++ sgs b := by
  show List.map _ (a.cps ++ b.cps).toList = _
  rw [Array.toList_append, List.map_append]; rfl
@[simp] theorem sgs_len (a : Str) : (sgs a).length = a.length := by simp [sgs, Str.length]
theorem len_app (a b : Str) : (a ++ b).length = a.length + b.length := by
  show (a.cps ++ b.cps).size = _
  simp [Str.length]
theorem sgs_nil : sgs "" = [] := by decide
theorem sgs_r : sgs "r" = [("r" : Str)] := by decide
theorem sgs_l : sgs "l" = [("l" : Str)] := by decide
theorem sgs_u : sgs "u" = [("u" : Str)] := by decide
theorem sgs_d : sgs "d" = [("d" : Str)] := by decide
def rowOf (R U : List Nat) (c : Str) : Option (List Nat) := if c = "r" then some R else if c = "l" then some (inv R) else if c = "u" then some U else if c = "d" then some (inv U) else none
theorem rowOf_r {R U : List Nat} : rowOf R U "r" = some R := if_pos rfl
theorem rowOf_l {R U : List Nat} : rowOf R U "l" = some (inv R) := by unfold rowOf; rw [if_neg (by decide), if_pos rfl]
theorem rowOf_u {R U : List Nat} : rowOf R U "u" = some U := by unfold rowOf; rw [if_neg (by decide), if_neg (by decide), if_pos rfl]
theorem rowOf_d {R U : List Nat} : rowOf R U "d" = some (inv U) := by unfold rowOf; rw [if_neg (by decide), if_neg (by decide), if_neg (by decide), if_pos rfl]
theorem rowOf_nb {R U row : List Nat} {c : Str} (h : rowOf R U c = some row) (a : Nat) : g0 row a ∈ nbs4 R U a := by
  unfold rowOf at h
  split at h
  · cases h; simp [nbs4]
  · split at h
    · cases h; simp [nbs4]
    · split at h
      · cases h; simp [nbs4]
      · split at h
        · cases h; simp [nbs4]
        · cases h
/-- a word gone through: the sign that is none, or where it leads and the greatest level met -/
def wk (R U : List Nat) (lev : List Int) : List Str → Nat → Nat → Int → Nat ⊕ (Nat × Int)
  | [], _, h, m => .inr (h, m)
  | c :: cs, k, h, m => match rowOf R U c with
    | none => .inl k
    | some row => wk R U lev cs (k + 1) (g0 row h) (if z0 lev (g0 row h) > m then z0 lev (g0 row h) else m)
theorem wk_snoc {R U : List Nat} {lev : List Int} {c : Str} {row : List Nat} (hc : rowOf R U c = some row) : ∀ (cs : List Str) {k h h' : Nat} {m m' : Int}, wk R U lev cs k h m = .inr (h', m') → wk R U lev (cs ++ [c]) k h m = .inr (g0 row h', if z0 lev (g0 row h') > m' then z0 lev (g0 row h') else m')
  | [], k, h, h', m, m', e => by
    simp only [wk] at e
    cases e
    simp only [List.nil_append, wk, hc]
  | c' :: cs, k, h, h', m, m', e => by
    simp only [List.cons_append, wk] at e ⊢
    split at e
    · cases e
    · exact wk_snoc hc cs e
theorem wk_rc {R U : List Nat} {lev : List Int} {s : Nat} : ∀ (cs : List Str) {k h h' : Nat} {m m' : Int}, Rc (nbs4 R U) (okL lev m) s h → wk R U lev cs k h m = .inr (h', m') → m ≤ m' ∧ Rc (nbs4 R U) (okL lev m') s h'
  | [], k, h, h', m, m', r, e => by
    simp only [wk] at e
    cases e
    exact ⟨Int.le_refl _, r⟩
  | c' :: cs, k, h, h', m, m', r, e => by
    simp only [wk] at e
    split at e
    · cases e
    · rename_i row hc
      have := wk_rc (s := s) cs (m := if z0 lev (g0 row h) > m then z0 lev (g0 row h) else m) (.step (r.mono fun x hx => ?_) (rowOf_nb hc h) ?_) e
      · refine ⟨Int.le_trans ?_ this.1, this.2⟩
        split <;> omega
      · simp only [okL, decide_eq_true_eq] at hx ⊢
        split <;> omega
      · simp only [okL, decide_eq_true_eq]
        split <;> omega
/-- the top stays among the levels -/
theorem wk_top {R U : List Nat} {lev : List Int} {n : Nat} (F : Flo R U n) (hl : lev.length = n) : ∀ (cs : List Str) {k h h' : Nat} {m m' : Int}, h < n → m ∈ lev → wk R U lev cs k h m = .inr (h', m') → m' ∈ lev ∧ h' < n
  | [], k, h, h', m, m', hh, hm, e => by
    simp only [wk] at e
    cases e
    exact ⟨hm, hh⟩
  | c' :: cs, k, h, h', m, m', hh, hm, e => by
    simp only [wk] at e
    split at e
    · cases e
    · rename_i row hc
      have h1 := F.nb_lt _ hh _ (rowOf_nb hc h)
      refine wk_top F hl cs h1 ?_ e
      split
      · rw [z0_of (by omega)]; exact List.getElem_mem _
      · exact hm
/-! ### dictionaries from squares to words -/
def dK (D : List (Nat × Str)) : List (Key × PV) := D.map fun p => (.inl (p.1 : Int), .dat (.str p.2))
def vD : List (Nat × Str) → Nat → Option Str
  | [], _ => none
  | p :: r, k => if p.1 = k then some p.2 else vD r k
theorem valP_dK (k : Nat) : ∀ D : List (Nat × Str), valP (dK D) (.inl (k : Int)) = (vD D k).map fun w => .dat (.str w)
  | [] => rfl
  | p :: r => by
    have ih := valP_dK k r
    by_cases h : p.1 = k
    · subst h
      simp [dK, valP, vD]
    · have h' : (Sum.inl (p.1 : Int) : Key) ≠ .inl (k : Int) := fun z => h (by have := Sum.inl.inj z; omega)
      simp only [dK, List.map_cons, vD, if_neg h]
      rw [valP_miss h']
      exact ih
theorem putP_dK {k : Nat} {w : Str} : ∀ D : List (Nat × Str), vD D k = none → putP (dK D) (.inl (k : Int)) (.dat (.str w)) = dK (D ++ [(k, w)])
  | [], _ => rfl
  | p :: r, h => by
    simp only [vD] at h
    split at h
    · cases h
    · rename_i hne
      have h' : (Sum.inl (p.1 : Int) : Key) ≠ .inl (k : Int) := fun z => hne (by have := Sum.inl.inj z; omega)
      simp only [dK, List.map_cons, List.cons_append]
      rw [putP_miss h']
      exact congrArg _ (putP_dK r h)
theorem ndB_dK {D : List (Nat × Str)} (h : (D.map Prod.fst).Nodup) : ndB (dK D) = true := by
  unfold ndB
  rw [decide_eq_true_eq]
  unfold dK
  induction D with
  | nil => simp
  | cons p r ih =>
    rw [List.map_cons, List.nodup_cons] at h
    rw [List.map_cons, List.map_cons, List.nodup_cons]
    refine ⟨fun z => h.1 ?_, ih h.2⟩
    simp only [List.map_map, List.mem_map, Function.comp_apply, Sum.inl.injEq] at z
    obtain ⟨q, hq, e⟩ := z
    exact List.mem_map.mpr ⟨q, hq, by omega⟩
theorem vD_some {k : Nat} : ∀ {D : List (Nat × Str)}, k ∈ D.map Prod.fst → ∃ w, vD D k = some w
  | p :: r, h => by
    simp only [vD]
    by_cases e : p.1 = k
    · exact ⟨_, if_pos e⟩
    · rw [if_neg e]
      rw [List.map_cons, List.mem_cons] at h
      exact vD_some (h.resolve_left fun z => e z.symm)
theorem vD_none {k : Nat} : ∀ {D : List (Nat × Str)}, vD D k = none ↔ k ∉ D.map Prod.fst
  | [] => by simp [vD]
  | p :: r => by
    simp only [vD, List.map_cons, List.mem_cons, not_or]
    by_cases e : p.1 = k
    · simp [e]
    · rw [if_neg e, vD_none]
      exact ⟨fun h => ⟨fun z => e z.symm, h⟩, fun h => h.2⟩
theorem vD_mem {k : Nat} {w : Str} : ∀ {D : List (Nat × Str)}, vD D k = some w → (k, w) ∈ D
  | p :: r, h => by
    simp only [vD] at h
    split at h
    · rename_i e; cases h; subst e; exact List.mem_cons_self
    · exact List.mem_cons_of_mem _ (vD_mem h)
theorem vD_app {k : Nat} {w : Str} : ∀ {D t : List (Nat × Str)}, vD D k = some w → vD (D ++ t) k = some w
  | p :: r, t, h => by
    simp only [vD, List.cons_append] at h ⊢
    split at h
    · rename_i e; rw [if_pos e]; exact h
    · rename_i e; rw [if_neg e]; exact vD_app h
end CM
namespace CM
open PySem L2 VX
/-! ### word_within -/
abbrev WQ := List (Nat × Str) × List Nat
def stW (lev : List Int) (m : Int) (w0 : Str) (here : Nat) (st : WQ) (p : Str × List Nat) : WQ :=
  if z0 lev (g0 p.2 here) ≤ m ∧ vD st.1 (g0 p.2 here) = none then (st.1 ++ [(g0 p.2 here, w0 ++ p.1)], st.2 ++ [g0 p.2 here]) else st
theorem stW_sub {lev : List Int} {m : Int} {w0 : Str} {here : Nat} {st : WQ} {p : Str × List Nat} {k : Nat} {w : Str} (h : vD st.1 k = some w) : vD (stW lev m w0 here st p).1 k = some w := by
  unfold stW; split
  · exact vD_app h
  · exact h
theorem stW_len {lev : List Int} {m : Int} {w0 : Str} {here : Nat} {st : WQ} {p : Str × List Nat} : (stW lev m w0 here st p).1.length ≤ st.1.length + 1 := by
  unfold stW; split <;> simp
abbrev wSt (st : WQ) : Sto := [.dic (dK st.1), .lst (oL st.2)]
theorem B1_word_within_eq {lev : List Int} {m : Int} {w0 : Str} {here n : Nat} {st : WQ} {p : Str × List Nat} (hl : lev.length = n) (hp : p.2.length = n) (hh : here < n) (hz : g0 p.2 here < n) (hw : vD st.1 here = some w0)
    (hw0 : w0.length ≤ 100) (hp1 : p.1.length = 1) (hD : st.1.length < 1000) (nd : (st.1.map Prod.fst).Nodup) (hq : st.2.length < 1000) (a0 a2 a3 : Option PV) :
    B1_word_within [a0, some (.dat (.list (iZ lev))), a2, a3, some (.dat (.int m)), some (.ptr 0), some (.ptr 1), some (.dat (.int (here : Int))), some (.dat (.str p.1)), some (.dat (.list (iL p.2)))] (wSt st) =
      some (.nx [a0, some (.dat (.list (iZ lev))), a2, a3, some (.dat (.int m)), some (.ptr 0), some (.ptr 1), some (.dat (.int (here : Int))), some (.dat (.str p.1)), some (.dat (.list (iL p.2)))] (wSt (stW lev m w0 here st p))) := by
  have a1 := at_oL (ns := p.2) (j := here) (by omega)
  have a3 := at_oZ (ns := lev) (j := g0 p.2 here) (by omega)
  have v0 : valP (dK st.1) (.inl (here : Int)) = some (.dat (.str w0)) := by rw [valP_dK, hw]; rfl
  by_cases h1 : z0 lev (g0 p.2 here) ≤ m
  · cases h2 : vD st.1 (g0 p.2 here) with
    | none =>
      have v1 : valP (dK st.1) (.inl ((g0 p.2 here : Nat) : Int)) = none := by rw [valP_dK, h2]; rfl
      have c1 : (dK st.1).length < 1000000 := by simp [dK]; omega
      have c2 : w0.length + 1 ≤ 1000000 := by omega
      have c3 : st.2.length < 1000000 := by omega
      have e1 := putP_dK (k := g0 p.2 here) (w := w0 ++ p.1) st.1 h2
      have e2 := ndB_dK nd
      simp [B1_word_within, a1, a3, h1, v1, v0, stW, h2, cap, c1, c2, c3, e1, e2, hp1]
    | some w =>
      have v1 : valP (dK st.1) (.inl ((g0 p.2 here : Nat) : Int)) = some (.dat (.str w)) := by rw [valP_dK, h2]; rfl
      simp [B1_word_within, a1, a3, h1, v1, stW, h2]
  · simp [B1_word_within, a1, a3, h1, stW]
def rows4 (R U : List Nat) : List (Str × List Nat) := [("r", R), ("l", inv R), ("u", U), ("d", inv U)]
/-- what holds of the words and the squares still to be gone on from -/
structure WInv (R U : List Nat) (lev : List Int) (m : Int) (s n : Nat) (st : WQ) : Prop where
  nd : (st.1.map Prod.fst).Nodup
  good : ∀ k w, vD st.1 k = some w → ∃ top, wk R U lev (sgs w) 0 s (z0 lev s) = .inr (k, top) ∧ top ≤ m
  len : ∀ k w, vD st.1 k = some w → w.length + 1 ≤ st.1.length
  qs : ∀ x ∈ st.2, x ∈ st.1.map Prod.fst
  ql : st.2.length ≤ st.1.length
theorem WInv.rc {R U : List Nat} {lev : List Int} {m : Int} {s n : Nat} {st : WQ} (h : WInv R U lev m s n st) {k : Nat} (hk : k ∈ st.1.map Prod.fst) : Rc (nbs4 R U) (okL lev m) s k := by
  obtain ⟨w, hw⟩ := vD_some hk
  obtain ⟨top, e, ht⟩ := h.good k w hw
  refine (wk_rc (s := s) _ (.refl (by simp)) e).2.mono fun x hx => ?_
  simp only [okL, decide_eq_true_eq] at hx ⊢
  omega
theorem WInv.dl {R U : List Nat} {lev : List Int} {m : Int} {s n : Nat} {st : WQ} (h : WInv R U lev m s n st) (F : Flo R U n) (hs : s < n) : st.1.length ≤ n := by
  have := nodup_len n _ h.nd fun x hx => (h.rc hx).lt hs F.nb_lt
  simpa using this
theorem WInv.stW {R U : List Nat} {lev : List Int} {m : Int} {s n : Nat} {st : WQ} {w0 : Str} {here : Nat} {p : Str × List Nat} (h : WInv R U lev m s n st) (hw : vD st.1 here = some w0) (hp : rowOf R U p.1 = some p.2) (hp1 : sgs p.1 = [p.1]) : WInv R U lev m s n (stW lev m w0 here st p) := by
  unfold CM.stW
  split
  · rename_i c
    have l1 : p.1.length = 1 := by rw [← sgs_len, hp1]; rfl
    refine ⟨?_, fun k w e => ?_, fun k w e => ?_, fun x hx => ?_, by simpa using h.ql⟩
    · rw [List.map_append, List.nodup_append]
      refine ⟨h.nd, by simp, fun a ha b hb => ?_⟩
      simp at hb
      subst hb
      intro z
      subst z
      exact (vD_none.mp c.2) ha
    · cases e' : vD st.1 k with
      | some w' =>
        have := vD_app (t := [(g0 p.2 here, w0 ++ p.1)]) e'
        rw [this] at e
        cases e
        exact h.good k _ e'
      | none =>
        have hk := vD_mem e
        rw [List.mem_append] at hk
        rcases hk with hk | hk
        · exact absurd (List.mem_map.mpr ⟨_, hk, rfl⟩) (vD_none.mp e')
        · simp at hk
          obtain ⟨rfl, rfl⟩ := hk
          obtain ⟨top, e1, ht⟩ := h.good here w0 hw
          refine ⟨if z0 lev (g0 p.2 here) > top then z0 lev (g0 p.2 here) else top, ?_, ?_⟩
          · rw [sgs_app, hp1]; exact wk_snoc hp _ e1
          · split
            · exact c.1
            · exact ht
    · cases e' : vD st.1 k with
      | some w' =>
        have := vD_app (t := [(g0 p.2 here, w0 ++ p.1)]) e'
        rw [this] at e
        cases e
        have := h.len k _ e'
        simp; omega
      | none =>
        have hk := vD_mem e
        rw [List.mem_append] at hk
        rcases hk with hk | hk
        · exact absurd (List.mem_map.mpr ⟨_, hk, rfl⟩) (vD_none.mp e')
        · simp at hk
          obtain ⟨rfl, rfl⟩ := hk
          have := h.len here w0 hw
          rw [len_app, l1]
          simp; omega
    · simp only [List.map_append, List.mem_append] at hx ⊢
      rcases hx with hx | hx
      · exact .inl (h.qs x hx)
      · simp at hx; subst hx; exact .inr (by simp)
  · exact h
/-- nothing of st is lost, and each new one is behind -/
theorem stW_q {lev : List Int} {m : Int} {w0 : Str} {here : Nat} {st : WQ} {p : Str × List Nat} : ∃ t : List (Nat × Str), (stW lev m w0 here st p).1 = st.1 ++ t ∧ (stW lev m w0 here st p).2 = st.2 ++ t.map Prod.fst := by
  unfold stW; split
  · exact ⟨_, rfl, rfl⟩
  · exact ⟨[], by simp, by simp⟩
def foW (R U : List Nat) (lev : List Int) (m : Int) (w0 : Str) (here : Nat) (st : WQ) : WQ := (rows4 R U).foldl (stW lev m w0 here) st
theorem L1_word_within_eq {R U : List Nat} {lev : List Int} {m : Int} {w0 : Str} {s here n : Nat} {st : WQ} (F : Flo R U n) (hs : s < n) (hl : lev.length = n) (h : WInv R U lev m s n st) (hw : vD st.1 here = some w0) (a2 a3 a8 a9 : Option PV) :
    ∃ a8' a9', L1_word_within [some (.dat (flo R U)), some (.dat (.list (iZ lev))), a2, a3, some (.dat (.int m)), some (.ptr 0), some (.ptr 1), some (.dat (.int (here : Int))), a8, a9] (wSt st) =
      some (.nx [some (.dat (flo R U)), some (.dat (.list (iZ lev))), a2, a3, some (.dat (.int m)), some (.ptr 0), some (.ptr 1), some (.dat (.int (here : Int))), a8', a9'] (wSt (foW R U lev m w0 here st))) ∧ WInv R U lev m s n (foW R U lev m w0 here st) := by
  have hn := F.small
  have hhere : here ∈ st.1.map Prod.fst := by
    refine Classical.byContradiction fun z => ?_
    rw [vD_none.mpr z] at hw; cases hw
  have hh : here < n := (h.rc hhere).lt hs F.nb_lt
  have nb := F.nb_lt _ hh
  have step : ∀ (st : WQ) (p : Str × List Nat), WInv R U lev m s n st → vD st.1 here = some w0 → rowOf R U p.1 = some p.2 → sgs p.1 = [p.1] → p.2.length = n →
      (B1_word_within [some (.dat (flo R U)), some (.dat (.list (iZ lev))), a2, a3, some (.dat (.int m)), some (.ptr 0), some (.ptr 1), some (.dat (.int (here : Int))), some (.dat (.str p.1)), some (.dat (.list (iL p.2)))] (wSt st) =
      some (.nx [some (.dat (flo R U)), some (.dat (.list (iZ lev))), a2, a3, some (.dat (.int m)), some (.ptr 0), some (.ptr 1), some (.dat (.int (here : Int))), some (.dat (.str p.1)), some (.dat (.list (iL p.2)))] (wSt (stW lev m w0 here st p)))) ∧ WInv R U lev m s n (stW lev m w0 here st p) ∧ vD (stW lev m w0 here st p).1 here = some w0 := by
    intro st p h hw hp hp1 hpl
    have := h.dl F hs
    have := h.ql
    have := h.len _ _ hw
    exact ⟨B1_word_within_eq hl hpl hh (nb _ (rowOf_nb hp here)) hw (by omega) (by rw [← sgs_len, hp1]; rfl) (by omega) h.nd (by omega) _ _ _, h.stW hw hp hp1, stW_sub hw⟩
  obtain ⟨s1, h1, w1⟩ := step st ("r", R) h hw rowOf_r sgs_r F.lR
  obtain ⟨s2, h2, w2⟩ := step _ ("l", inv R) h1 w1 rowOf_l sgs_l (by rw [inv_len]; exact F.lR)
  obtain ⟨s3, h3, w3⟩ := step _ ("u", U) h2 w2 rowOf_u sgs_u F.lU
  obtain ⟨s4, h4, w4⟩ := step _ ("d", inv U) h3 w3 rowOf_d sgs_d (by rw [inv_len]; exact F.lU)
  have nl := F_near_lists_eq R U (by rw [F.lR]; omega) (by rw [F.lU]; omega) F.oR.low F.oU.low
  refine ⟨some (.dat (.str "d")), some (.dat (.list (iL (inv U)))), ?_, h4⟩
  unfold L1_word_within sFor
  simp [asDats, nl, okG_none, forD, s1, s2, s3, s4, foW, rows4]
theorem fo_q {lev : List Int} {m : Int} {w0 : Str} {here : Nat} : ∀ (ps : List (Str × List Nat)) (st : WQ), ∃ t : List (Nat × Str), (ps.foldl (stW lev m w0 here) st).1 = st.1 ++ t ∧ (ps.foldl (stW lev m w0 here) st).2 = st.2 ++ t.map Prod.fst
  | [], st => ⟨[], by simp, by simp⟩
  | p :: ps, st => by
    obtain ⟨t, h1, h2⟩ := stW_q (lev := lev) (m := m) (w0 := w0) (here := here) (st := st) (p := p)
    obtain ⟨u, h3, h4⟩ := fo_q ps (stW lev m w0 here st p)
    refine ⟨t ++ u, ?_, ?_⟩
    · rw [List.foldl_cons, h3, h1, List.append_assoc]
    · rw [List.foldl_cons, h4, h2, List.map_append, List.append_assoc]
theorem fo_has {lev : List Int} {m : Int} {w0 : Str} {here : Nat} : ∀ (ps : List (Str × List Nat)) (st : WQ), ∀ p ∈ ps, z0 lev (g0 p.2 here) ≤ m → g0 p.2 here ∈ (ps.foldl (stW lev m w0 here) st).1.map Prod.fst
  | p :: ps, st, p', hp, ho => by
    rw [List.foldl_cons]
    rcases List.mem_cons.mp hp with rfl | hp
    · obtain ⟨t, h1, _⟩ := fo_q (lev := lev) (m := m) (w0 := w0) (here := here) ps (stW lev m w0 here st p')
      rw [h1, List.map_append, List.mem_append]
      left
      unfold stW
      by_cases hv : vD st.1 (g0 p'.2 here) = none
      · rw [if_pos ⟨ho, hv⟩]; simp
      · rw [if_neg (fun z => hv z.2)]
        exact Classical.byContradiction fun z => hv (vD_none.mpr z)
    · exact fo_has ps _ p' hp ho
theorem nb_rows {R U : List Nat} {a y : Nat} (h : y ∈ nbs4 R U a) : ∃ p ∈ rows4 R U, g0 p.2 a = y := by
  simp only [nbs4, List.mem_cons, List.not_mem_nil, or_false] at h
  rcases h with rfl | rfl | rfl | rfl
  · exact ⟨("r", R), by simp [rows4], rfl⟩
  · exact ⟨("l", inv R), by simp [rows4], rfl⟩
  · exact ⟨("u", U), by simp [rows4], rfl⟩
  · exact ⟨("d", inv U), by simp [rows4], rfl⟩
theorem pop_q {D : List (Key × PV)} {x : Nat} {r : List Nat} (ε : Evn) (h : ε[6]? = some (some (.ptr 1))) :
    eLM fPopAt (eVar 6) (aCons (eC (.int 0)) aNil) ε [.dic D, .lst (oL (x :: r))] = some (.dat (.int (x : Int)), [.dic D, .lst (oL r)]) := by
  have e : oL (x :: r) = PV.dat (.int (x : Int)) :: oL r := rfl
  have e2 : seqIndex? 0 (r.length + 1) = some 0 := by
    unfold seqIndex?
    simp
  rw [e]
  simp [h, e2]
theorem L2_word_within_eq {R U : List Nat} {lev : List Int} {m : Int} {s n : Nat} {st : WQ} (F : Flo R U n) (hs : s < n) (hl : lev.length = n) (h : WInv R U lev m s n st) (h0 : s ∈ st.1.map Prod.fst)
    (hc : ∀ k ∈ st.1.map Prod.fst, k ∉ st.2 → ∀ y ∈ nbs4 R U k, okL lev m y = true → y ∈ st.1.map Prod.fst) (a2 a3 a7 a8 a9 : Option PV) :
    ∃ st' a7' a8' a9', L2_word_within [some (.dat (flo R U)), some (.dat (.list (iZ lev))), a2, a3, some (.dat (.int m)), some (.ptr 0), some (.ptr 1), a7, a8, a9] (wSt st) =
      some (.nx [some (.dat (flo R U)), some (.dat (.list (iZ lev))), a2, a3, some (.dat (.int m)), some (.ptr 0), some (.ptr 1), a7', a8', a9'] (wSt st')) ∧ WInv R U lev m s n st' ∧ s ∈ st'.1.map Prod.fst ∧ ∀ k ∈ st'.1.map Prod.fst, ∀ y ∈ nbs4 R U k, okL lev m y = true → y ∈ st'.1.map Prod.fst := by
  have hn := F.small
  have key := whileN_gen (c := tsTru (eVar 6)) (b := B2_word_within)
    (fun mm ε μ => ∃ (st : WQ) (a7' a8' a9' : Option PV), ε = [some (.dat (flo R U)), some (.dat (.list (iZ lev))), a2, a3, some (.dat (.int m)), some (.ptr 0), some (.ptr 1), a7', a8', a9'] ∧ μ = wSt st ∧ WInv R U lev m s n st ∧ s ∈ st.1.map Prod.fst ∧ (∀ k ∈ st.1.map Prod.fst, k ∉ st.2 → ∀ y ∈ nbs4 R U k, okL lev m y = true → y ∈ st.1.map Prod.fst) ∧ 2 * n + st.2.length ≤ mm + 2 * st.1.length)
    (fun o => ∃ (st' : WQ) (a7' a8' a9' : Option PV), o = .nx [some (.dat (flo R U)), some (.dat (.list (iZ lev))), a2, a3, some (.dat (.int m)), some (.ptr 0), some (.ptr 1), a7', a8', a9'] (wSt st') ∧ WInv R U lev m s n st' ∧ s ∈ st'.1.map Prod.fst ∧ ∀ k ∈ st'.1.map Prod.fst, ∀ y ∈ nbs4 R U k, okL lev m y = true → y ∈ st'.1.map Prod.fst)
    (fun mm ε μ hI => by
      obtain ⟨⟨D, q⟩, a7', a8', a9', rfl, rfl, h, h0, hc, hm⟩ := hI
      have hdl := h.dl F hs
      cases q with
      | nil =>
        refine ⟨false, wSt (D, []), by simp [oL_nil], fun _ => ⟨(D, []), a7', a8', a9', rfl, h, h0, fun k hk => hc k hk (by simp)⟩, fun z => by cases z⟩
      | cons x r =>
        refine ⟨true, wSt (D, x :: r), by simp [oL], (fun z => by cases z), fun _ => ?_⟩
        simp only [List.length_cons] at hm hdl
        obtain ⟨m', rfl⟩ : ∃ m', mm = m' + 1 := ⟨mm - 1, by omega⟩
        refine ⟨m', rfl, ?_⟩
        have hx : x ∈ D.map Prod.fst := h.qs x (by simp)
        obtain ⟨w0, hw⟩ := vD_some hx
        have h1 : WInv R U lev m s n (D, r) := ⟨h.nd, h.good, h.len, fun y hy => h.qs y (List.mem_cons_of_mem _ hy), by have := h.ql; simp at this ⊢; omega⟩
        obtain ⟨a8', a9', e, hI⟩ := L1_word_within_eq F hs hl h1 hw a2 a3 a8' a9'
        obtain ⟨t, e1, e2⟩ := fo_q (lev := lev) (m := m) (w0 := w0) (here := x) (rows4 R U) (D, r)
        have ha := fo_has (lev := lev) (m := m) (w0 := w0) (here := x) (rows4 R U) (D, r)
        refine ⟨.nx [some (.dat (flo R U)), some (.dat (.list (iZ lev))), a2, a3, some (.dat (.int m)), some (.ptr 0), some (.ptr 1), some (.dat (.int (x : Int))), a8', a9'] (wSt (foW R U lev m w0 x (D, r))), ?_, foW R U lev m w0 x (D, r), some (.dat (.int (x : Int))), a8', a9', rfl, rfl, hI, ?_, fun k hk hkq y hy ho => ?_, ?_⟩
        · unfold B2_word_within sSeq sSet
          rw [pop_q _ rfl]
          simp only [Option.bind_some, List.set_cons_succ, List.set_cons_zero, turnO, e]
        · unfold foW
          rw [e1, List.map_append, List.mem_append]
          exact .inl h0
        · by_cases ek : k = x
          · subst ek
            obtain ⟨p, hp, rfl⟩ := nb_rows hy
            simp only [okL, decide_eq_true_eq] at ho
            exact ha p hp ho
          · unfold foW at hk hkq ⊢
            rw [e1, List.map_append, List.mem_append] at hk ⊢
            rw [e2, List.mem_append, not_or] at hkq
            exact .inl (hc k (hk.resolve_right hkq.2) (by simp only [List.mem_cons, not_or]; exact ⟨ek, hkq.1⟩) y hy ho)
        · unfold foW
          rw [e1, e2, List.length_append, List.length_append, List.length_map]
          simp only []
          omega) 2000 (2 * n + st.2.length)
    [some (.dat (flo R U)), some (.dat (.list (iZ lev))), a2, a3, some (.dat (.int m)), some (.ptr 0), some (.ptr 1), a7, a8, a9] (wSt st) (by have := h.ql; have := h.dl F hs; omega) ⟨st, a7, a8, a9, rfl, rfl, h, h0, hc, by omega⟩
  obtain ⟨o, h1, st', a7', a8', a9', rfl, h2⟩ := key
  exact ⟨st', a7', a8', a9', h1, h2⟩
theorem F_word_within_eq {R U : List Nat} {lev : List Int} {m : Int} {s b n : Nat} (F : Flo R U n) (hs : s < n) (hl : lev.length = n) (hr : Rc (nbs4 R U) (okL lev m) s b) :
    ∃ w top, F_word_within [flo R U, .list (iZ lev), .int (s : Int), .int (b : Int), .int m] = some (.str w) ∧ wk R U lev (sgs w) 0 s (z0 lev s) = .inr (b, top) ∧ top ≤ m ∧ w.length ≤ 60 := by
  have hn := F.small
  have hsm : z0 lev s ≤ m := by simpa [okL] using hr.ok0
  have i0 : WInv R U lev m s n ([(s, "")], [s]) := by
    refine ⟨by simp, fun k w e => ?_, fun k w e => ?_, fun x hx => by simpa using hx, by simp⟩
    · have := vD_mem e
      simp at this
      obtain ⟨rfl, rfl⟩ := this
      exact ⟨_, by rw [sgs_nil]; rfl, hsm⟩
    · have := vD_mem e
      simp at this
      obtain ⟨rfl, rfl⟩ := this
      have e0 : ("" : Str).length = 0 := by decide
      simp [e0]
  obtain ⟨st, a7, a8, a9, e, h1, h2, h3⟩ := L2_word_within_eq (st := ([(s, "")], [s])) F hs hl i0 (by simp) (fun k hk hkq => absurd (by simpa using hk) (by simpa using hkq)) (some (.dat (.int (s : Int)))) (some (.dat (.int (b : Int)))) none none none
  have hb : b ∈ st.1.map Prod.fst := by
    clear e
    induction hr with
    | refl o => exact h2
    | step r mm o ih => exact h3 _ ih _ mm o
  obtain ⟨w, hw⟩ := vD_some hb
  obtain ⟨top, g1, g2⟩ := h1.good b w hw
  have g3 := h1.len b w hw
  have g4 := h1.dl F hs
  refine ⟨w, top, ?_, g1, g2, by omega⟩
  have v1 : valP (dK st.1) (.inl (b : Int)) = some (.dat (.str w)) := by rw [valP_dK, hw]; rfl
  have e0 : mergeP [] [((.inl (s : Int) : Key), PV.dat (.str ""))] = dK [(s, "")] := rfl
  simp only [wSt, oL_one] at e
  simp [F_word_within, r_word_within, cap, e0, e, v1]
end CM
namespace CM
open PySem L2 VX
theorem get_oZ {ns : List Int} {i : Nat} {p : PV} (h : (oZ ns)[i]? = some p) : i < ns.length ∧ p = .dat (.int (z0 ns i)) := by
  unfold oZ at h
  rw [List.getElem?_map, Option.map_eq_some_iff] at h
  obtain ⟨k, h1, rfl⟩ := h
  obtain ⟨hi, e⟩ := List.getElem?_eq_some_iff.mp h1
  exact ⟨hi, by rw [z0_of hi, e]⟩
theorem mem_z0 {ns : List Int} {x : Int} (h : x ∈ ns) : ∃ j, j < ns.length ∧ z0 ns j = x := by
  obtain ⟨j, hj, e⟩ := List.getElem_of_mem h
  exact ⟨j, hj, by rw [z0_of hj, e]⟩
theorem z0_mem {ns : List Int} {j : Nat} (h : j < ns.length) : z0 ns j ∈ ns := by rw [z0_of h]; exact List.getElem_mem h
theorem lcD_ints {G : Sto → Bool} {tg : TgF} {tt : TsF} {te : EvF} {w : Evn} {μ : Sto} (t : Int → Bool) : ∀ ns : List Int, (∀ k ∈ ns, ∃ ε, tg (.dat (.int k)) w μ = some (ε, μ) ∧ tt ε μ = some (t k, μ) ∧ (t k = true → te ε μ = some (.dat (.int k), μ))) → G μ = true → lcD G tg tt te w (oZ ns) μ = some (oZ (ns.filter t), μ)
  | [], _, hG => by simp [lcD, hG, oZ]
  | p :: r, h, hG => by
    obtain ⟨ε, h1, h2, h3⟩ := h p List.mem_cons_self
    have ih := lcD_ints (tg := tg) (tt := tt) (te := te) (w := w) t r (fun q hq => h q (List.mem_cons_of_mem _ hq)) hG
    have e : oZ (p :: r) = .dat (.int p) :: oZ r := rfl
    rw [e]
    cases q : t p with
    | true => simp [lcD, hG, h1, h2, q, h3 q, ih]; rfl
    | false => simp [lcD, hG, h1, h2, q, ih]
/-- the least level at which b is reached from s -/
structure IsLow (R U : List Nat) (lev : List Int) (s b : Nat) (L : Int) : Prop where
  mem : L ∈ lev
  rc : Rc (nbs4 R U) (okL lev L) s b
  min : ∀ m ∈ lev, m < L → ¬ Rc (nbs4 R U) (okL lev m) s b
theorem IsLow.uniq {R U : List Nat} {lev : List Int} {s b : Nat} {L L' : Int} (h : IsLow R U lev s b L) (h' : IsLow R U lev s b L') : L = L' := by
  rcases Int.lt_trichotomy L L' with c | c | c
  · exact absurd h.rc (h'.min L h.mem c)
  · exact c
  · exact absurd h'.rc (h.min L' h'.mem c)
/-- all hangs together -/
def Hang (R U : List Nat) (n : Nat) : Prop := ∀ x y, x < n → y < n → Rc (nbs4 R U) (fun _ => true) x y
theorem Hang.top {R U : List Nat} {n : Nat} {lev : List Int} (F : Flo R U n) (C : Hang R U n) (hl : lev.length = n) {s b : Nat} (hs : s < n) (hb : b < n) : ∃ m ∈ lev, Rc (nbs4 R U) (okL lev m) s b := by
  have hne : lev ≠ [] := by intro z; subst z; simp at hl; omega
  refine ⟨maxI lev, maxI_mem hne, ?_⟩
  have key : ∀ y, Rc (nbs4 R U) (fun _ => true) s y → Rc (nbs4 R U) (okL lev (maxI lev)) s y := by
    intro y h
    have hy : y < n := h.lt hs F.nb_lt
    induction h with
    | refl => exact .refl (by simpa [okL] using maxI_ge (z0_mem (by omega)))
    | step h mm _ ih => exact .step (ih (h.lt hs F.nb_lt)) mm (by simpa [okL] using maxI_ge (z0_mem (by omega)))
  exact key b (C s b hs hb)
/-- the pool that is told with the lowest pass -/
def PoolTold (R U : List Nat) (lev : List Int) (s : Nat) (L : Int) (Z : List Int) : Prop :=
  (Z = [] ∧ ∀ x ∈ lev, ¬ x < L) ∨ ∃ m ∈ lev, m < L ∧ (∀ x ∈ lev, x < L → x ≤ m) ∧ IsPool (nbs4 R U) (okL lev m) s Z
structure Told (R U : List Nat) (lev : List Int) (s b : Nat) (L : Int) (w : Str) (Z : List Int) : Prop where
  low : IsLow R U lev s b L
  word : ∃ top, wk R U lev (sgs w) 0 s (z0 lev s) = .inr (b, top) ∧ top ≤ L
  wlen : w.length ≤ 60
  pool : PoolTold R U lev s L Z
theorem C1_lowest_pass_eq {lev : List Int} {L : Int} (hl : lev.length ≤ 60) (a0 a2 a3 a5 a6 a7 : Option PV) :
    C1_lowest_pass [a0, some (.dat (.list (iZ lev))), a2, a3, some (.dat (.int L)), a5, a6, a7] [] = some (.dat (.list (iZ (lev.filter fun x => decide (x < L)))), []) := by
  have e := lcD_ints (G := fun _ => true) (tg := tgN 6) (tt := tsE (eOp fLt (eVar 6) (eVar 4))) (te := eVar 6) (w := [a0, some (.dat (.list (iZ lev))), a2, a3, some (.dat (.int L)), a5, none, a7]) (μ := []) (fun x => decide (x < L)) lev (fun k _ => ⟨_, rfl, by simp, fun _ => by simp⟩) rfl
  have h := List.length_filter_le (fun x => decide (x < L)) lev
  have c : (lev.filter fun x => decide (x < L)).length ≤ 1000000 := by omega
  unfold C1_lowest_pass eLc
  simp [-fLt, okG_none, e, c, cap]
theorem filter_emp {lev : List Int} {L : Int} (h : lev.filter (fun x => decide (x < L)) = []) : ∀ x ∈ lev, ¬ x < L := by
  intro x hx hlt
  have : x ∈ lev.filter fun x => decide (x < L) := List.mem_filter.mpr ⟨hx, by simpa using hlt⟩
  rw [h] at this
  cases this
theorem B1_lowest_pass_eq {R U : List Nat} {lev : List Int} {L : Int} {s b n : Nat} (F : Flo R U n) (hs : s < n) (hb : b < n) (hl : lev.length = n) (hL : L ∈ lev) (hmin : ∀ m ∈ lev, m < L → ¬ Rc (nbs4 R U) (okL lev m) s b) :
    (¬ Rc (nbs4 R U) (okL lev L) s b ∧ B1_lowest_pass [some (.dat (flo R U)), some (.dat (.list (iZ lev))), some (.dat (.int (s : Int))), some (.dat (.int (b : Int))), some (.dat (.int L)), none, none, none] [] = some (.nx [some (.dat (flo R U)), some (.dat (.list (iZ lev))), some (.dat (.int (s : Int))), some (.dat (.int (b : Int))), some (.dat (.int L)), none, none, none] [])) ∨
    ∃ w Z, B1_lowest_pass [some (.dat (flo R U)), some (.dat (.list (iZ lev))), some (.dat (.int (s : Int))), some (.dat (.int (b : Int))), some (.dat (.int L)), none, none, none] [] = some (.rt (.dat (.tuple [.int L, .str w, .list (iZ Z)])) []) ∧ Told R U lev s b L w Z := by
  have hn := F.small
  obtain ⟨Y, e1, hY⟩ := F_pool_of_eq (lev := lev) (most := L) F hs hl
  by_cases hr : Rc (nbs4 R U) (okL lev L) s b
  · right
    have hm : (b : Int) ∈ Y := (hY.mem _).mpr ⟨b, rfl, hr⟩
    obtain ⟨w, top, e2, g1, g2, g3⟩ := F_word_within_eq F hs hl hr
    have e3 := C1_lowest_pass_eq (lev := lev) (L := L) (by omega) (some (.dat (flo R U))) (some (.dat (.int (s : Int)))) (some (.dat (.int (b : Int)))) none none none
    by_cases he : lev.filter (fun x => decide (x < L)) = []
    · rw [he] at e3
      refine ⟨w, [], ?_, ⟨hL, hr, hmin⟩, ⟨top, g1, g2⟩, g3, .inl ⟨rfl, filter_emp he⟩⟩
      rw [show iZ [] = [] from rfl] at e3 ⊢
      simp [B1_lowest_pass, e1, hm, e3, e2, asDats, cap]
    · have hmm := maxI_mem he
      have hm2 := List.mem_filter.mp hmm
      simp only [decide_eq_true_eq] at hm2
      obtain ⟨Z, e4, hZ⟩ := F_pool_of_eq (lev := lev) (most := maxI (lev.filter fun x => decide (x < L))) F hs hl
      have e5 : (oZ (lev.filter fun x => decide (x < L))).isEmpty = false := by
        cases q : lev.filter (fun x => decide (x < L)) with
        | nil => exact absurd q he
        | cons x r => rfl
      refine ⟨w, Z, ?_, ⟨hL, hr, hmin⟩, ⟨top, g1, g2⟩, g3, .inr ⟨_, hm2.1, hm2.2, fun x hx hlt => maxI_ge (List.mem_filter.mpr ⟨hx, by simpa using hlt⟩), hZ⟩⟩
      simp [-List.isEmpty_eq_false_iff, -List.filter_eq_nil_iff, B1_lowest_pass, e1, hm, e3, e2, e4, e5, he, asDats, cap]
  · left
    have hm : ¬ (b : Int) ∈ Y := fun z => hr (by obtain ⟨x, ex, r⟩ := (hY.mem _).mp z; rwa [show b = x by omega])
    exact ⟨hr, by simp [B1_lowest_pass, e1, hm, asDats]⟩
theorem usort_len : ∀ xs : List Int, (usort xs).length ≤ xs.length := by
  have h : ∀ (x : Int) (ys : List Int), (uins x ys).length ≤ ys.length + 1 := by
    intro x ys
    induction ys with
    | nil => simp [uins]
    | cons y r ih => unfold uins; split <;> (try split) <;> simp <;> omega
  intro xs
  induction xs with
  | nil => exact Nat.le_refl _
  | cons x r ih => have := h x (usort r); simp only [usort, List.length_cons]; omega
theorem F_lowest_pass_eq {R U : List Nat} {lev : List Int} {s b n : Nat} (F : Flo R U n) (C : Hang R U n) (hs : s < n) (hb : b < n) (hl : lev.length = n) :
    ∃ L w Z, F_lowest_pass [flo R U, .list (iZ lev), .int (s : Int), .int (b : Int)] = some (.tuple [.int L, .str w, .list (iZ Z)]) ∧ Told R U lev s b L w Z := by
  have hn := F.small
  have hup : (usort lev).Pairwise (· < ·) := usort_sorted
  have key := forD_gen (G := fun _ => true) (tg := tgN 4) (b := B1_lowest_pass)
    (fun i ε μ => ∃ x4, ε = [some (.dat (flo R U)), some (.dat (.list (iZ lev))), some (.dat (.int (s : Int))), some (.dat (.int (b : Int))), x4, none, none, none] ∧ μ = [] ∧ ∀ j, j < i → j < (usort lev).length → ¬ Rc (nbs4 R U) (okL lev (z0 (usort lev) j)) s b)
    (fun o => ∃ L w Z, o = .rt (.dat (.tuple [.int L, .str w, .list (iZ Z)])) [] ∧ Told R U lev s b L w Z)
    (oZ (usort lev)) (fun _ _ _ _ => rfl) (fun i p ε μ hp h => by
      obtain ⟨x4, rfl, rfl, h⟩ := h
      obtain ⟨hi, rfl⟩ := get_oZ hp
      have hL : z0 (usort lev) i ∈ lev := mem_usort.mp (z0_mem hi)
      have hmin : ∀ m ∈ lev, m < z0 (usort lev) i → ¬ Rc (nbs4 R U) (okL lev m) s b := by
        intro m hm hlt
        obtain ⟨j, hj, rfl⟩ := mem_z0 (mem_usort.mpr hm)
        refine h j ?_ hj
        refine Nat.lt_of_not_le fun hle => ?_
        rcases Nat.lt_or_eq_of_le hle with c | c
        · have := List.pairwise_iff_getElem.mp hup i j hi hj c
          rw [z0_of hi, z0_of hj] at hlt
          omega
        · subst c; omega
      rcases B1_lowest_pass_eq F hs hb hl hL hmin with ⟨hr, e⟩ | ⟨w, Z, e, ht⟩
      · refine ⟨_, _, _, rfl, e, _, rfl, rfl, fun j hj hjl => ?_⟩
        by_cases ej : j = i
        · subst ej; exact hr
        · exact h j (by omega) hjl
      · exact ⟨_, _, _, rfl, e, _, w, Z, rfl, ht⟩)
    (fun ε μ h => by
      obtain ⟨x4, rfl, rfl, h⟩ := h
      obtain ⟨m, hm, hr⟩ := C.top F hl hs hb
      obtain ⟨j, hj, rfl⟩ := mem_z0 (mem_usort.mpr hm)
      exact absurd hr (h j (by simpa using hj) hj))
    (ε := [some (.dat (flo R U)), some (.dat (.list (iZ lev))), some (.dat (.int (s : Int))), some (.dat (.int (b : Int))), none, none, none, none]) (μ := []) ⟨none, rfl, rfl, fun j hj => absurd hj (Nat.not_lt_zero _)⟩
  obtain ⟨o, e, L, w, Z, rfl, ht⟩ := key
  refine ⟨L, w, Z, ?_, ht⟩
  have hul := usort_len lev
  have c : (usort lev).length ≤ 1000000 := by omega
  have c2 : lev.length < 64 := by omega
  simp [F_lowest_pass, r_lowest_pass, L1_lowest_pass, sFor, okG_none, e, c, c2, cap]
end CM
namespace CM
open PySem L2 VX
mutual
theorem dEq_self : ∀ d : PyData, nb d = true → dEq d d = true
  | .none, _ => by simp [dEq]
  | .bool x, _ => by simp [dEq]
  | .int x, _ => by simp [dEq]
  | .str x, _ => by simp [dEq]
  | .dict x, h => by simp [nb] at h
  | .list x, h => by simp only [dEq]; exact dsEq_self x (by simpa [nb] using h)
  | .tuple x, h => by simp only [dEq]; exact dsEq_self x (by simpa [nb] using h)
theorem dsEq_self : ∀ d : List PyData, nbs d = true → dsEq d d = true
  | [], _ => by simp [dsEq]
  | x :: r, h => by
    simp only [nbs, Bool.and_eq_true] at h
    simp only [dsEq, Bool.and_eq_true]
    exact ⟨dEq_self x h.1, dsEq_self r h.2⟩
end
theorem psEq_self : ∀ ds : List PyData, nbs ds = true → psEq (ds.map PV.dat) (ds.map PV.dat) = true
  | [], _ => by simp [psEq]
  | x :: r, h => by
    simp only [nbs, Bool.and_eq_true] at h
    simp only [List.map_cons, psEq, Bool.and_eq_true]
    exact ⟨dEq_self x h.1, psEq_self r h.2⟩
/-! ### lists of pools -/
def iP (Ls : List (List Int)) : List PyData := Ls.map fun Z => .list (iZ Z)
def oP (Ls : List (List Int)) : List PV := Ls.map fun Z => .dat (.list (iZ Z))
@[simp] theorem map_iP (Ls : List (List Int)) : (iP Ls).map PV.dat = oP Ls := by simp [iP, oP]
@[simp] theorem len_iP (Ls : List (List Int)) : (iP Ls).length = Ls.length := by simp [iP]
@[simp] theorem len_oP (Ls : List (List Int)) : (oP Ls).length = Ls.length := by simp [oP]
@[simp] theorem asDats_oP (Ls : List (List Int)) : asDats (oP Ls) = some (iP Ls) := by rw [← map_iP, asDats_map]
@[simp] theorem oP_snoc (Ls : List (List Int)) (Z : List Int) : oP Ls ++ [PV.dat (.list (iZ Z))] = oP (Ls ++ [Z]) := by simp [oP]
theorem nbs_iP : ∀ Ls : List (List Int), nbs (iP Ls) = true
  | [] => rfl
  | Z :: r => by
    have := nbs_iP r
    simp only [iP, List.map_cons, nbs, Bool.and_eq_true]
    exact ⟨nb_iZ Z, this⟩
@[simp] theorem nb_iP (Ls : List (List Int)) : nb (.list (iP Ls)) = true := by simp only [nb]; exact nbs_iP Ls
theorem sds_iP {n : Nat} (Ls : List (List Int)) : Sds (n + 1) (iP Ls) := sds_all fun d hd => by
  obtain ⟨Z, _, rfl⟩ := List.mem_map.mp hd
  exact sd_list (sds_iZ Z)
@[simp] theorem shaped_iP (Ls : List (List Int)) : SeqAt.shaped (.list (iP Ls)) = true := (sd_list (n := 1) (sds_iP Ls)).shaped (by decide)
theorem iP_inj {a b : List (List Int)} (h : iP a = iP b) : a = b := by
  induction a generalizing b with
  | nil => cases b with
    | nil => rfl
    | cons y s => simp [iP] at h
  | cons x r ih => cases b with
    | nil => simp [iP] at h
    | cons y s =>
      simp only [iP, List.map_cons, List.cons.injEq] at h
      have h1 : x = y := iZ_inj (by simpa using h.1)
      have h2 : r = s := ih h.2
      rw [h1, h2]
@[simp] theorem any_iP (Ls : List (List Int)) (Z : List Int) : ((iP Ls).any fun z => PyData.eqv z (.list (iZ Z))) = decide (Z ∈ Ls) := by
  induction Ls with
  | nil => simp [iP]
  | cons Y r ih =>
    simp only [iP, List.map_cons, List.any_cons, eqv_iZ]
    unfold iP at ih
    rw [ih]
    by_cases h : Y = Z
    · subst h; simp
    · have : ¬ Z = Y := fun z => h z.symm
      simp [h, this]
theorem psEq_oP (Ls : List (List Int)) : psEq (oP Ls) (oP Ls) = true := by rw [← map_iP]; exact psEq_self _ (nbs_iP Ls)
/-- the pools of all squares, by one choice -/
structure PoolsOf (R U : List Nat) (lev : List Int) (n : Nat) (most : Int) (P : Nat → List Int) : Prop where
  run : ∀ x, x < n → F_pool_of [flo R U, .list (iZ lev), .int (x : Int), .int most] = some (.list (iZ (P x)))
  law : ∀ x, x < n → F__law_pool [flo R U, .list (iZ lev), .int (x : Int), .int most] = some (.list (iZ (P x)))
  pool : ∀ x, x < n → IsPool (nbs4 R U) (okL lev most) x (P x)
theorem pools_of {R U : List Nat} {lev : List Int} {n : Nat} {most : Int} (F : Flo R U n) (hl : lev.length = n) : ∃ P, PoolsOf R U lev n most P := by
  have : ∀ x, ∃ Z, x < n → F_pool_of [flo R U, .list (iZ lev), .int (x : Int), .int most] = some (.list (iZ Z)) ∧ IsPool (nbs4 R U) (okL lev most) x Z := by
    intro x
    by_cases h : x < n
    · obtain ⟨Z, e, hZ⟩ := F_pool_of_eq (lev := lev) (most := most) F h hl
      exact ⟨Z, fun _ => ⟨e, hZ⟩⟩
    · exact ⟨[], fun z => absurd z h⟩
  obtain ⟨P, hP⟩ := Classical.axiomOfChoice this
  exact ⟨P, fun x h => (hP x h).1, fun x h => by rw [F__law_pool_pool F h hl]; exact (hP x h).1, fun x h => (hP x h).2⟩
def stP (P : Nat → List Int) (lev : List Int) (most : Int) (Ls : List (List Int)) (x : Nat) : List (List Int) := if z0 lev x ≤ most ∧ ¬ ∃ Z ∈ Ls, (x : Int) ∈ Z then Ls ++ [P x] else Ls
def lotsTo (P : Nat → List Int) (lev : List Int) (most : Int) (i : Nat) : List (List Int) := (List.range i).foldl (stP P lev most) []
theorem lotsTo_succ (P : Nat → List Int) (lev : List Int) (most : Int) (i : Nat) : lotsTo P lev most (i + 1) = stP P lev most (lotsTo P lev most i) i := by
  unfold lotsTo; rw [List.range_succ, List.foldl_append]; rfl
theorem lotsTo_len (P : Nat → List Int) (lev : List Int) (most : Int) (i : Nat) : (lotsTo P lev most i).length ≤ i := by
  induction i with
  | zero => simp [lotsTo]
  | succ i ih => rw [lotsTo_succ]; unfold stP; split <;> (try simp) <;> omega
theorem lotsTo_mem {P : Nat → List Int} {lev : List Int} {most : Int} {i : Nat} {Z : List Int} (h : Z ∈ lotsTo P lev most i) : ∃ y, y < i ∧ Z = P y := by
  induction i with
  | zero => simp [lotsTo] at h
  | succ i ih =>
    rw [lotsTo_succ] at h
    unfold stP at h
    split at h
    · rcases List.mem_append.mp h with h | h
      · obtain ⟨y, hy, e⟩ := ih h; exact ⟨y, by omega, e⟩
      · exact ⟨i, by omega, by simpa using h⟩
    · obtain ⟨y, hy, e⟩ := ih h; exact ⟨y, by omega, e⟩
/-- the law adds a lot just when the program does -/
theorem stP_law {R U : List Nat} {lev : List Int} {n : Nat} {most : Int} {P : Nat → List Int} (F : Flo R U n) (hP : PoolsOf R U lev n most P) {i : Nat} (hi : i < n) :
    stP P lev most (lotsTo P lev most i) i = if P i ≠ [] ∧ P i ∉ lotsTo P lev most i then lotsTo P lev most i ++ [P i] else lotsTo P lev most i := by
  have self : z0 lev i ≤ most → (i : Int) ∈ P i := fun h => ((hP.pool i hi).mem _).mpr ⟨i, rfl, .refl (decide_eq_true h)⟩
  have he : P i ≠ [] ↔ z0 lev i ≤ most := by
    constructor
    · intro h
      cases q : P i with
      | nil => exact absurd q h
      | cons z r =>
        obtain ⟨x, _, rc⟩ := ((hP.pool i hi).mem z).mp (by rw [q]; exact List.mem_cons_self)
        exact of_decide_eq_true rc.ok0
    · intro h z
      have := self h
      rw [z] at this
      cases this
  unfold stP
  by_cases h1 : z0 lev i ≤ most
  · have hm : (∃ Z ∈ lotsTo P lev most i, (i : Int) ∈ Z) ↔ P i ∈ lotsTo P lev most i := by
      constructor
      · rintro ⟨Z, hZ, hi'⟩
        obtain ⟨y, hy, rfl⟩ := lotsTo_mem hZ
        obtain ⟨x, ex, rc⟩ := ((hP.pool y (by omega)).mem _).mp hi'
        obtain rfl : x = i := by omega
        have rc' := rc.symm (n := n) (by omega) F.nb_lt F.nb_symm
        have : P y = P x := by
          refine IsPool.uniq (hP.pool y (by omega)) ⟨(hP.pool x hi).up, fun k => ?_⟩
          rw [(hP.pool x hi).mem]
          exact ⟨fun ⟨z, e, r⟩ => ⟨z, e, rc.trans r⟩, fun ⟨z, e, r⟩ => ⟨z, e, rc'.trans r⟩⟩
        rw [← this]; exact hZ
      · intro h; exact ⟨_, h, self h1⟩
    by_cases h2 : P i ∈ lotsTo P lev most i
    · rw [if_neg (fun z => z.2 (hm.mpr h2)), if_neg (fun z => z.2 h2)]
    · rw [if_pos ⟨h1, fun z => h2 (hm.mp z)⟩, if_pos ⟨he.mpr h1, h2⟩]
  · rw [if_neg (fun z => h1 z.1), if_neg (fun z => h1 (he.mp z.1))]
/-! ### pools -/
theorem asBls_map (bs : List Bool) : asBls (bs.map fun b => PV.dat (.bool b)) = some bs := by
  induction bs with
  | nil => rfl
  | cons b r ih => simp [asBls, ih]
theorem lcD_pools {G : Sto → Bool} {tg : TgF} {te : EvF} {w : Evn} {μ : Sto} (t : List Int → Bool) : ∀ Ls : List (List Int), (∀ Z ∈ Ls, ∃ ε, tg (.dat (.list (iZ Z))) w μ = some (ε, μ) ∧ te ε μ = some (.dat (.bool (t Z)), μ)) → G μ = true → lcD G tg tsYes te w (oP Ls) μ = some ((Ls.map t).map fun b => PV.dat (.bool b), μ)
  | [], _, hG => by simp [lcD, hG, oP]
  | Z :: r, h, hG => by
    obtain ⟨ε, h1, h2⟩ := h Z List.mem_cons_self
    have ih := lcD_pools t r (fun q hq => h q (List.mem_cons_of_mem _ hq)) hG
    have e : oP (Z :: r) = .dat (.list (iZ Z)) :: oP r := rfl
    rw [e]
    simp [lcD, hG, h1, tsYes, h2, ih]
theorem C1_pools_eq {Ls : List (List Int)} {x : Nat} (hl : Ls.length ≤ 60) (a0 a1 a2 a5 : Option PV) :
    C1_pools [a0, a1, a2, some (.ptr 0), some (.dat (.int (x : Int))), a5] [.lst (oP Ls)] = some (.dat (.list ((Ls.map fun Z => decide ((x : Int) ∈ Z)).map fun b => .bool b)), [.lst (oP Ls)]) := by
  have hG : okG (oP Ls) (some 0) [.lst (oP Ls)] = true := by unfold okG; simpa using psEq_oP Ls
  have e := lcD_pools (G := okG (oP Ls) (some 0)) (tg := tgN 5) (te := eOp (fIn false) (eVar 4) (eVar 5)) (w := [a0, a1, a2, some (.ptr 0), some (.dat (.int (x : Int))), none]) (μ := [.lst (oP Ls)]) (fun Z => decide ((x : Int) ∈ Z)) Ls (fun Z _ => ⟨_, rfl, by simp⟩) hG
  have c : Ls.length ≤ 1000000 := by omega
  have e2 : asDats ((Ls.map fun Z => decide ((x : Int) ∈ Z)).map fun b => PV.dat (.bool b)) = some ((Ls.map fun Z => decide ((x : Int) ∈ Z)).map fun b => .bool b) := by
    have := asDats_map ((Ls.map fun Z => decide ((x : Int) ∈ Z)).map fun b => PyData.bool b)
    rw [List.map_map] at this
    exact this
  unfold C1_pools eLc
  simp only [srcSeq, eVar, List.getElem?_cons_succ, List.getElem?_cons_zero, Option.bind_some, wipeE, List.set_cons_succ, List.set_cons_zero]
  rw [e]
  simp only [Option.bind_some, mkL, List.length_map, cap, if_pos c, e2, Option.map_some]
  rfl
theorem any_ex {Ls : List (List Int)} {k : Int} : ((Ls.map fun Z => decide (k ∈ Z)).any id) = decide (∃ Z ∈ Ls, k ∈ Z) := by
  induction Ls with
  | nil => simp
  | cons Z r ih =>
    rw [List.map_cons, List.any_cons, ih]
    simp
theorem B1_pools_eq {R U : List Nat} {lev : List Int} {n : Nat} {most : Int} {P : Nat → List Int} (hP : PoolsOf R U lev n most P) {Ls : List (List Int)} {x : Nat} (hx : x < n) (hl : lev.length = n) (hLs : Ls.length ≤ 60) :
    B1_pools [some (.dat (flo R U)), some (.dat (.list (iZ lev))), some (.dat (.int most)), some (.ptr 0), some (.dat (.int (x : Int))), none] [.lst (oP Ls)] =
      some (.nx [some (.dat (flo R U)), some (.dat (.list (iZ lev))), some (.dat (.int most)), some (.ptr 0), some (.dat (.int (x : Int))), none] [.lst (oP (stP P lev most Ls x))]) := by
  have a1 := at_oZ (ns := lev) (j := x) (by omega)
  have e := C1_pools_eq (Ls := Ls) (x := x) hLs (some (.dat (flo R U))) (some (.dat (.list (iZ lev)))) (some (.dat (.int most))) none
  have e2 : ∀ bs : List Bool, asBls ((bs.map fun b => PyData.bool b).map PV.dat) = some bs := by
    intro bs
    rw [List.map_map]
    exact asBls_map bs
  have e3 := hP.run x hx
  have c : Ls.length < 1000000 := by omega
  have t : eCa fAny (aCons C1_pools aNil) [some (.dat (flo R U)), some (.dat (.list (iZ lev))), some (.dat (.int most)), some (.ptr 0), some (.dat (.int (x : Int))), none] [.lst (oP Ls)] = some (.dat (.bool (decide (∃ Z ∈ Ls, (x : Int) ∈ Z))), [.lst (oP Ls)]) := by
    have := any_ex (Ls := Ls) (k := (x : Int))
    simp only [eCa, aCons, aNil, e, Option.bind_some, fAny, lstOfS, lstOf, e2, this, Option.map_some]
  by_cases h1 : z0 lev x ≤ most
  · by_cases h2 : ∃ Z ∈ Ls, (x : Int) ∈ Z
    · have h2' : ¬ ¬ ∃ Z ∈ Ls, (x : Int) ∈ Z := fun z => z h2
      rw [decide_eq_true h2] at t
      simp [-eCa, -fAny, B1_pools, a1, h1, t, stP, -not_exists, -not_and, h2']
    · rw [decide_eq_false h2] at t
      have e4 : stP P lev most Ls x = Ls ++ [P x] := if_pos ⟨h1, h2⟩
      simp [-eCa, -fAny, B1_pools, a1, h1, t, e4, e3, asDats, cap, c]
  · simp [B1_pools, a1, h1, stP]
theorem F_pools_eq {R U : List Nat} {lev : List Int} {n : Nat} {most : Int} {P : Nat → List Int} (F : Flo R U n) (hP : PoolsOf R U lev n most P) (hl : lev.length = n) :
    F_pools [flo R U, .list (iZ lev), .int most] = some (.list (iP (lotsTo P lev most n))) := by
  have hn := F.small
  have key := forD_all (G := fun _ => true) (tg := tgN 4) (b := B1_pools)
    (fun i ε μ => ∃ x', ε = [some (.dat (flo R U)), some (.dat (.list (iZ lev))), some (.dat (.int most)), some (.ptr 0), x', none] ∧ μ = [.lst (oP (lotsTo P lev most i))]) ((List.range n).map fun i => PV.dat (.int (i : Nat))) (fun _ _ _ _ => rfl) (fun i p ε μ hp h => by
      obtain ⟨x', rfl, rfl⟩ := h
      have hi : i < n := by simpa using (List.getElem?_eq_some_iff.mp hp).1
      have ep : p = .dat (.int (i : Int)) := by simpa [hi] using hp.symm
      subst ep
      have hll := lotsTo_len P lev most i
      exact ⟨_, _, _, _, rfl, B1_pools_eq hP hi hl (by omega), _, rfl, by rw [lotsTo_succ]⟩) (ε := [some (.dat (flo R U)), some (.dat (.list (iZ lev))), some (.dat (.int most)), some (.ptr 0), none, none]) (μ := [.lst (oP (lotsTo P lev most 0))]) ⟨none, rfl, rfl⟩
  obtain ⟨ε', μ', h1, x', rfl, rfl⟩ := key
  simp only [List.length_map, List.length_range] at h1
  have c : n ≤ 100000 := by omega
  have e0 : oP (lotsTo P lev most 0) = [] := rfl
  rw [e0] at h1
  simp [F_pools, r_pools, L1_pools, sFor, okG_none, h1, hl, c, cap]
end CM
namespace CM
open PySem L2 VX
/-! ### the word gone through, by the program and by the law -/
def dicN (R U : List Nat) : List (Key × PV) := [(.inr "r", .dat (.list (iL R))), (.inr "l", .dat (.list (iL (inv R)))), (.inr "u", .dat (.list (iL U))), (.inr "d", .dat (.list (iL (inv U))))]
theorem valP_N (R U : List Nat) (c : Str) : valP (dicN R U) (.inr c) = (rowOf R U c).map fun row => PV.dat (.list (iL row)) := by
  unfold dicN rowOf
  by_cases h1 : c = "r"
  · subst h1; rw [valP_hit, if_pos rfl]; rfl
  · rw [if_neg h1, valP_miss (inr_ne fun z => h1 z.symm)]
    by_cases h2 : c = "l"
    · subst h2; rw [valP_hit, if_pos rfl]; rfl
    · rw [if_neg h2, valP_miss (inr_ne fun z => h2 z.symm)]
      by_cases h3 : c = "u"
      · subst h3; rw [valP_hit, if_pos rfl]; rfl
      · rw [if_neg h3, valP_miss (inr_ne fun z => h3 z.symm)]
        by_cases h4 : c = "d"
        · subst h4; rw [valP_hit, if_pos rfl]; rfl
        · rw [if_neg h4, valP_miss (inr_ne fun z => h4 z.symm)]; rfl
theorem rowOf_len {R U row : List Nat} {c : Str} {n : Nat} (F : Flo R U n) (h : rowOf R U c = some row) : row.length = n := by
  unfold rowOf at h
  split at h
  · cases h; exact F.lR
  · split at h
    · cases h; rw [inv_len]; exact F.lR
    · split at h
      · cases h; exact F.lU
      · split at h
        · cases h; rw [inv_len]; exact F.lU
        · cases h
theorem B1_lpf_none {R U : List Nat} {c : Str} {i : Nat} (h : rowOf R U c = none) (a0 a1 a2 a3 a4 a5 a6 a7 a9 a10 a13 a14 : Option PV) :
    B1_lowest_pass_fault [a0, a1, a2, a3, a4, a5, a6, a7, some (.ptr 0), a9, a10, some (.dat (.int (i : Int))), some (.dat (.str c)), a13, a14] [.dic (dicN R U)] = some (.rt (.dat (.tuple [.str "sign", .int (i : Int)])) [.dic (dicN R U)]) := by
  have v := valP_N R U c
  rw [h] at v
  simp [B1_lowest_pass_fault, v, asDats, cap]
theorem B1_lpf_some {R U row : List Nat} {lev : List Int} {c : Str} {h n : Nat} {m : Int} (F : Flo R U n) (hl : lev.length = n) (hh : h < n) (hc : rowOf R U c = some row) (a0 a2 a3 a4 a5 a6 a7 a11 a13 a14 : Option PV) :
    B1_lowest_pass_fault [a0, some (.dat (.list (iZ lev))), a2, a3, a4, a5, a6, a7, some (.ptr 0), some (.dat (.int (h : Int))), some (.dat (.int m)), a11, some (.dat (.str c)), a13, a14] [.dic (dicN R U)] =
      some (.nx [a0, some (.dat (.list (iZ lev))), a2, a3, a4, a5, a6, a7, some (.ptr 0), some (.dat (.int ((g0 row h : Nat) : Int))), some (.dat (.int (if z0 lev (g0 row h) > m then z0 lev (g0 row h) else m))), a11, some (.dat (.str c)), a13, a14] [.dic (dicN R U)]) := by
  have v := valP_N R U c
  rw [hc] at v
  have a1 := at_oL (ns := row) (j := h) (by rw [rowOf_len F hc]; exact hh)
  have a2 := at_oZ (ns := lev) (j := g0 row h) (by rw [hl]; exact F.nb_lt _ hh _ (rowOf_nb hc h))
  simp [B1_lowest_pass_fault, v, a1, a2]
theorem sgs_get {w : Str} {i : Nat} (h : i < (sgs w).length) : ∃ c, L2.atI w.cps.toList (i : Int) = some c ∧ (⟨#[c]⟩ : Str) = (sgs w)[i] := by
  have h' : i < w.cps.toList.length := by simpa [sgs] using h
  exact ⟨_, atI_natD h', by simp [sgs]⟩
theorem wk_drop {R U : List Nat} {lev : List Int} {cs : List Str} {i h : Nat} {m : Int} (hi : i < cs.length) :
    wk R U lev (cs.drop i) i h m = match rowOf R U cs[i] with
    | none => .inl i
    | some row => wk R U lev (cs.drop (i + 1)) (i + 1) (g0 row h) (if z0 lev (g0 row h) > m then z0 lev (g0 row h) else m) := by
  rw [List.drop_eq_getElem_cons hi, wk] <;> (cases rowOf R U cs[i] <;> rfl)
theorem L1_lpf_eq {R U : List Nat} {lev : List Int} {w : Str} {s n : Nat} {m : Int} (F : Flo R U n) (hl : lev.length = n) (hs : s < n) (a0 a2 a3 a4 a5 a7 a11 a12 a13 a14 : Option PV) :
    ∃ o, L1_lowest_pass_fault [a0, some (.dat (.list (iZ lev))), a2, a3, a4, a5, some (.dat (.str w)), a7, some (.ptr 0), some (.dat (.int (s : Int))), some (.dat (.int m)), a11, a12, a13, a14] [.dic (dicN R U)] = some o ∧
      ((∃ k, wk R U lev (sgs w) 0 s m = .inl k ∧ o = .rt (.dat (.tuple [.str "sign", .int (k : Int)])) [.dic (dicN R U)]) ∨
       ∃ h top a11 a12, wk R U lev (sgs w) 0 s m = .inr (h, top) ∧ o = .nx [a0, some (.dat (.list (iZ lev))), a2, a3, a4, a5, some (.dat (.str w)), a7, some (.ptr 0), some (.dat (.int (h : Int))), some (.dat (.int top)), a11, a12, a13, a14] [.dic (dicN R U)]) := by
  have key := forD_gen (G := fun _ => true) (tg := tgT 2 (tgsCons (tgN 11) (tgsCons (tgN 12) tgsNil))) (b := B1_lowest_pass_fault)
    (fun i ε μ => ∃ (h : Nat) (m' : Int) (a11 a12 : Option PV), ε = [a0, some (.dat (.list (iZ lev))), a2, a3, a4, a5, some (.dat (.str w)), a7, some (.ptr 0), some (.dat (.int (h : Int))), some (.dat (.int m')), a11, a12, a13, a14] ∧ μ = [.dic (dicN R U)] ∧ h < n ∧ wk R U lev ((sgs w).drop i) i h m' = wk R U lev (sgs w) 0 s m)
    (fun o => (∃ k, wk R U lev (sgs w) 0 s m = .inl k ∧ o = .rt (.dat (.tuple [.str "sign", .int (k : Int)])) [.dic (dicN R U)]) ∨
       ∃ h top a11 a12, wk R U lev (sgs w) 0 s m = .inr (h, top) ∧ o = .nx [a0, some (.dat (.list (iZ lev))), a2, a3, a4, a5, some (.dat (.str w)), a7, some (.ptr 0), some (.dat (.int (h : Int))), some (.dat (.int top)), a11, a12, a13, a14] [.dic (dicN R U)])
    ((enumD ((sgs w).map fun c => .str c)).map PV.dat) (fun _ _ _ _ => rfl) (fun i p ε μ hp hI => by
      obtain ⟨h, m', a11, a12, rfl, rfl, hh, hw⟩ := hI
      obtain ⟨d, h1, rfl⟩ := enum_get hp
      rw [List.getElem?_map, Option.map_eq_some_iff] at h1
      obtain ⟨c, h1, rfl⟩ := h1
      obtain ⟨hi, ec⟩ := List.getElem?_eq_some_iff.mp h1
      rw [wk_drop hi, ec] at hw
      cases hc : rowOf R U c with
      | none =>
        rw [hc] at hw
        exact ⟨_, _, _, rfl, B1_lpf_none hc _ _ _ _ _ _ _ _ _ _ _ _, .inl ⟨i, hw.symm, rfl⟩⟩
      | some row =>
        rw [hc] at hw
        exact ⟨_, _, _, rfl, B1_lpf_some F hl hh hc _ _ _ _ _ _ _ _ _ _, _, _, _, _, rfl, rfl, F.nb_lt _ hh _ (rowOf_nb hc h), hw⟩)
    (fun ε μ hI => by
      obtain ⟨h, m', a11, a12, rfl, rfl, hh, hw⟩ := hI
      have e : (sgs w).drop ((enumD ((sgs w).map fun c => PyData.str c)).map PV.dat).length = [] := List.drop_eq_nil_of_le (by simp)
      rw [e, wk] at hw
      exact .inr ⟨h, m', a11, a12, hw.symm, rfl⟩)
    (ε := [a0, some (.dat (.list (iZ lev))), a2, a3, a4, a5, some (.dat (.str w)), a7, some (.ptr 0), some (.dat (.int (s : Int))), some (.dat (.int m)), a11, a12, a13, a14]) (μ := [.dic (dicN R U)]) ⟨s, m, a11, a12, rfl, rfl, hs, rfl⟩
  obtain ⟨o, e, h⟩ := key
  refine ⟨o, ?_, h⟩
  unfold L1_lowest_pass_fault sFor
  have e2 : (sgs w).map (fun c => PyData.str c) = w.cps.toList.map fun c => .str ⟨#[c]⟩ := by simp [sgs]
  rw [e2] at e
  simpa [okG_none] using e
/-! the law's -/
theorem any4 (c : Str) : ([PyData.str "r", .str "l", .str "u", .str "d"].any fun z => PyData.eqv z (.str c)) = (c == "r" || c == "l" || c == "u" || c == "d") := by
  have h : ∀ a : Str, PyData.eqv (.str a) (.str c) = (c == a) := by
    intro a
    rw [eqv_dec (by rfl) (by rfl)]
    by_cases e : a = c
    · subst e; simp
    · have : ¬ c = a := fun z => e z.symm
      simp [e, this]
  simp only [List.any_cons, List.any_nil, h, Bool.or_false, Bool.or_assoc]
theorem any4_row {R U : List Nat} {c : Str} : (c == "r" || c == "l" || c == "u" || c == "d") = (rowOf R U c).isSome := by
  unfold rowOf
  by_cases h1 : c = "r"
  · simp [h1]
  · by_cases h2 : c = "l"
    · rw [if_neg h1, if_pos h2]; simp [h2]
    · by_cases h3 : c = "u"
      · rw [if_neg h1, if_neg h2, if_pos h3]; simp [h3]
      · by_cases h4 : c = "d"
        · rw [if_neg h1, if_neg h2, if_neg h3, if_pos h4]; simp [h4]
        · rw [if_neg h1, if_neg h2, if_neg h3, if_neg h4]; simp [h1, h2, h3, h4]
/-- what a sign leads to, in the law's lists -/
theorem atD_any {R U row : List Nat} {c : Str} {h n : Nat} {eo es eh : EvF} {ε : Evn} (F : Flo R U n) (hh : h < n) (hc : rowOf R U c = some row) (e1 : eo ε (lsSt R U) = some (.ptr 2, lsSt R U)) (e2 : es ε (lsSt R U) = some (.dat (.str c), lsSt R U)) (e3 : eh ε (lsSt R U) = some (.dat (.int (h : Int)), lsSt R U)) :
    eOp fIx (eDGet eo es) eh ε (lsSt R U) = some (.dat (.int ((g0 row h : Nat) : Int)), lsSt R U) := by
  have hrow := rowOf_len F hc
  have a1 := at_oL (ns := row) (j := h) (by omega)
  unfold rowOf at hc
  split at hc
  · cases hc; rename_i q; subst q
    simp only [listsSt] at e1 e2 e3 ⊢
    simp [e1, e2, e3, valP_r, a1]
  · split at hc
    · cases hc; rename_i q; subst q
      simp only [listsSt] at e1 e2 e3 ⊢
      simp [e1, e2, e3, valP_l, a1]
    · split at hc
      · cases hc; rename_i q; subst q
        simp only [listsSt] at e1 e2 e3 ⊢
        simp [e1, e2, e3, valP_u, a1]
      · split at hc
        · cases hc; rename_i q; subst q
          simp only [listsSt] at e1 e2 e3 ⊢
          simp [e1, e2, e3, valP_d, a1]
        · cases hc
theorem shaped_str {c : Str} (h : PyData.strOk c = true) : SeqAt.shaped (.str c) = true := (show Sd 0 (.str c) from ⟨by simp [PyData.canLay0, h], by simp [PyData.depth]⟩).shaped (by decide)
def WOk (w : Str) : Prop := ∀ c ∈ sgs w, PyData.strOk c = true
theorem ok_r : PyData.strOk "r" = true := by
  rw [show ("r" : Str) = ⟨#[114]⟩ by decide]
  simp [PyData.strOk]
theorem ok_l : PyData.strOk "l" = true := by
  rw [show ("l" : Str) = ⟨#[108]⟩ by decide]
  simp [PyData.strOk]
theorem ok_u : PyData.strOk "u" = true := by
  rw [show ("u" : Str) = ⟨#[117]⟩ by decide]
  simp [PyData.strOk]
theorem ok_d : PyData.strOk "d" = true := by
  rw [show ("d" : Str) = ⟨#[100]⟩ by decide]
  simp [PyData.strOk]
theorem sgn_in {R U : List Nat} {w : Str} {i : Nat} (hi : i < (sgs w).length) (hwl : w.length ≤ 1000) (hok : WOk w) (a0 a1 a2 a3 a4 a5 a7 a8 a9 a10 a12 a13 : Option PV) (μ : Sto) :
    eOp fIx (eVar 6) (eVar 11) [a0, a1, a2, a3, a4, a5, some (.dat (.str w)), a7, a8, a9, a10, some (.dat (.int (i : Int))), a12, a13] μ = some (.dat (.str (sgs w)[i]), μ) ∧
    eOp (fIn true) (eOp fIx (eVar 6) (eVar 11)) (eLst false (aCons (eC (.str "r")) (aCons (eC (.str "l")) (aCons (eC (.str "u")) (aCons (eC (.str "d")) aNil))))) [a0, a1, a2, a3, a4, a5, some (.dat (.str w)), a7, a8, a9, a10, some (.dat (.int (i : Int))), a12, a13] μ = some (.dat (.bool (!(rowOf R U (sgs w)[i]).isSome)), μ) := by
  obtain ⟨c, e1, e2⟩ := sgs_get hi
  have c1 : w.length ≤ 1000000 := by omega
  have s1 : eOp fIx (eVar 6) (eVar 11) [a0, a1, a2, a3, a4, a5, some (.dat (.str w)), a7, a8, a9, a10, some (.dat (.int (i : Int))), a12, a13] μ = some (.dat (.str (sgs w)[i]), μ) := by
    rw [← e2]
    simp [e1, cap, c1]
  have s2 : eLst false (aCons (eC (.str "r")) (aCons (eC (.str "l")) (aCons (eC (.str "u")) (aCons (eC (.str "d")) aNil)))) [a0, a1, a2, a3, a4, a5, some (.dat (.str w)), a7, a8, a9, a10, some (.dat (.int (i : Int))), a12, a13] μ = some (.dat (.list [.str "r", .str "l", .str "u", .str "d"]), μ) := by
    simp [asDats, cap]
  have s3 : SeqAt.shaped (.list [PyData.str "r", .str "l", .str "u", .str "d"]) = true := (sd_list (n := 0) (sds_all fun d hd => by
    simp only [List.mem_cons, List.not_mem_nil, or_false] at hd
    rcases hd with rfl | rfl | rfl | rfl <;> exact ⟨by simp [PyData.canLay0, ok_r, ok_l, ok_u, ok_d], by simp [PyData.depth]⟩)).shaped (by decide)
  refine ⟨s1, ?_⟩
  have u : ∀ (f : OpF) (a b : EvF) (ε : Evn) (μ : Sto), eOp f a b ε μ = (a ε μ).bind fun x => (b ε x.2).bind fun y => f x.1 y.1 y.2 := fun _ _ _ _ _ => rfl
  rw [u, s1]
  simp only [Option.bind_some]
  rw [s2]
  simp only [Option.bind_some, fIn, asD, shaped_str (hok _ (List.getElem_mem hi)), s3, and_self, if_true, any4, any4_row (R := R) (U := U)]
theorem B1_lf_none {R U : List Nat} {w : Str} {i : Nat} (hi : i < (sgs w).length) (hwl : w.length ≤ 1000) (hok : WOk w) (h : rowOf R U (sgs w)[i] = none) (a0 a1 a2 a3 a4 a5 a7 a8 a9 a10 a12 a13 : Option PV) :
    B1__law_fault [a0, a1, a2, a3, a4, a5, some (.dat (.str w)), a7, a8, a9, a10, some (.dat (.int (i : Int))), a12, a13] (lsSt R U) = some (.rt (.dat (.tuple [.str "sign", .int (i : Int)])) (lsSt R U)) := by
  have e := (sgn_in (R := R) (U := U) hi hwl hok a0 a1 a2 a3 a4 a5 a7 a8 a9 a10 a12 a13 (lsSt R U)).2
  rw [h] at e
  unfold B1__law_fault sSeq sIf tsE
  rw [e]
  simp [asDats, cap]
theorem B1_lf_some {R U row : List Nat} {lev : List Int} {w : Str} {i h n : Nat} {m : Int} (F : Flo R U n) (hl : lev.length = n) (hh : h < n) (hi : i < (sgs w).length) (hwl : w.length ≤ 1000) (hok : WOk w) (hc : rowOf R U (sgs w)[i] = some row) (a0 a2 a3 a4 a5 a7 a12 a13 : Option PV) :
    B1__law_fault [a0, some (.dat (.list (iZ lev))), a2, a3, a4, a5, some (.dat (.str w)), a7, some (.ptr 2), some (.dat (.int (h : Int))), some (.dat (.int m)), some (.dat (.int (i : Int))), a12, a13] (lsSt R U) =
      some (.nx [a0, some (.dat (.list (iZ lev))), a2, a3, a4, a5, some (.dat (.str w)), a7, some (.ptr 2), some (.dat (.int ((g0 row h : Nat) : Int))), some (.dat (.int (if z0 lev (g0 row h) > m then z0 lev (g0 row h) else m))), some (.dat (.int (i : Int))), a12, a13] (lsSt R U)) := by
  obtain ⟨e0, e⟩ := sgn_in (R := R) (U := U) hi hwl hok a0 (some (.dat (.list (iZ lev)))) a2 a3 a4 a5 a7 (some (.ptr 2)) (some (.dat (.int (h : Int)))) (some (.dat (.int m))) a12 a13 (lsSt R U)
  rw [hc] at e
  have e2 := atD_any (eo := eVar 8) (es := eOp fIx (eVar 6) (eVar 11)) (eh := eVar 9) (ε := [a0, some (.dat (.list (iZ lev))), a2, a3, a4, a5, some (.dat (.str w)), a7, some (.ptr 2), some (.dat (.int (h : Int))), some (.dat (.int m)), some (.dat (.int (i : Int))), a12, a13]) F hh hc rfl e0 rfl
  have a2 := at_oZ (ns := lev) (j := g0 row h) (by rw [hl]; exact F.nb_lt _ hh _ (rowOf_nb hc h))
  unfold B1__law_fault sSeq sIf tsE
  rw [e]
  simp only [Option.bind_some, Option.isSome_some, Bool.not_true, Bool.false_eq_true, if_false, sNil, sSet]
  rw [e2]
  simp [a2]
theorem L1_lf_eq {R U : List Nat} {lev : List Int} {w : Str} {s n : Nat} {m : Int} (F : Flo R U n) (hl : lev.length = n) (hs : s < n) (hwl : w.length ≤ 1000) (hok : WOk w) (a0 a2 a3 a4 a5 a7 a11 a12 a13 : Option PV) :
    ∃ o, L1__law_fault [a0, some (.dat (.list (iZ lev))), a2, a3, a4, a5, some (.dat (.str w)), a7, some (.ptr 2), some (.dat (.int (s : Int))), some (.dat (.int m)), a11, a12, a13] (lsSt R U) = some o ∧
      ((∃ k, wk R U lev (sgs w) 0 s m = .inl k ∧ o = .rt (.dat (.tuple [.str "sign", .int (k : Int)])) (lsSt R U)) ∨
       ∃ h top a11, wk R U lev (sgs w) 0 s m = .inr (h, top) ∧ o = .nx [a0, some (.dat (.list (iZ lev))), a2, a3, a4, a5, some (.dat (.str w)), a7, some (.ptr 2), some (.dat (.int (h : Int))), some (.dat (.int top)), a11, a12, a13] (lsSt R U)) := by
  have key := forD_gen (G := fun _ => true) (tg := tgN 11) (b := B1__law_fault)
    (fun i ε μ => ∃ (h : Nat) (m' : Int) (a11 : Option PV), ε = [a0, some (.dat (.list (iZ lev))), a2, a3, a4, a5, some (.dat (.str w)), a7, some (.ptr 2), some (.dat (.int (h : Int))), some (.dat (.int m')), a11, a12, a13] ∧ μ = lsSt R U ∧ h < n ∧ wk R U lev ((sgs w).drop i) i h m' = wk R U lev (sgs w) 0 s m)
    (fun o => (∃ k, wk R U lev (sgs w) 0 s m = .inl k ∧ o = .rt (.dat (.tuple [.str "sign", .int (k : Int)])) (lsSt R U)) ∨
       ∃ h top a11, wk R U lev (sgs w) 0 s m = .inr (h, top) ∧ o = .nx [a0, some (.dat (.list (iZ lev))), a2, a3, a4, a5, some (.dat (.str w)), a7, some (.ptr 2), some (.dat (.int (h : Int))), some (.dat (.int top)), a11, a12, a13] (lsSt R U))
    ((List.range w.length).map fun i => PV.dat (.int (i : Nat))) (fun _ _ _ _ => rfl) (fun i p ε μ hp hI => by
      obtain ⟨h, m', a11, rfl, rfl, hh, hw⟩ := hI
      have hi : i < w.length := by simpa using (List.getElem?_eq_some_iff.mp hp).1
      have ep : p = .dat (.int (i : Int)) := by simpa [hi] using hp.symm
      subst ep
      have hi' : i < (sgs w).length := by simpa using hi
      rw [wk_drop hi'] at hw
      cases hc : rowOf R U (sgs w)[i] with
      | none =>
        rw [hc] at hw
        exact ⟨_, _, _, rfl, B1_lf_none hi' hwl hok hc _ _ _ _ _ _ _ _ _ _ _ _, .inl ⟨i, hw.symm, rfl⟩⟩
      | some row =>
        rw [hc] at hw
        exact ⟨_, _, _, rfl, B1_lf_some F hl hh hi' hwl hok hc _ _ _ _ _ _ _ _, _, _, _, rfl, rfl, F.nb_lt _ hh _ (rowOf_nb hc h), hw⟩)
    (fun ε μ hI => by
      obtain ⟨h, m', a11, rfl, rfl, hh, hw⟩ := hI
      have e : (sgs w).drop ((List.range w.length).map fun i => PV.dat (.int (i : Nat))).length = [] := List.drop_eq_nil_of_le (by simp)
      rw [e, wk] at hw
      exact .inr ⟨h, m', a11, hw.symm, rfl⟩)
    (ε := [a0, some (.dat (.list (iZ lev))), a2, a3, a4, a5, some (.dat (.str w)), a7, some (.ptr 2), some (.dat (.int (s : Int))), some (.dat (.int m)), a11, a12, a13]) (μ := lsSt R U) ⟨s, m, a11, rfl, rfl, hs, rfl⟩
  obtain ⟨o, e, h⟩ := key
  refine ⟨o, ?_, h⟩
  have c1 : w.length ≤ 1000000 := by omega
  have c2 : w.length ≤ 100000 := by omega
  unfold L1__law_fault sFor
  simpa [okG_none, cap, c1, c2] using e
end CM
namespace CM
open PySem L2 VX
/-! ### the pool gone through -/
abbrev outN (lev : List Int) (L : Int) (N : List Nat) (y : Nat) : Prop := y ∉ N ∧ z0 lev y < L
def scan (R U : List Nat) (lev : List Int) (L : Int) (N : List Nat) : List Nat → Option PyData
  | [] => none
  | x :: r => if z0 lev x ≥ L then some (.tuple [.str "high", .int (x : Int)]) else if ∃ y ∈ nbs4 R U x, outN lev L N y then some (.tuple [.str "leak", .int (x : Int)]) else scan R U lev L N r
theorem scan_drop {R U : List Nat} {lev : List Int} {L : Int} {N M : List Nat} {i : Nat} (hi : i < M.length) : scan R U lev L N (M.drop i) = if z0 lev (g0 M i) ≥ L then some (.tuple [.str "high", .int (g0 M i : Nat)]) else if ∃ y ∈ nbs4 R U (g0 M i), outN lev L N y then some (.tuple [.str "leak", .int (g0 M i : Nat)]) else scan R U lev L N (M.drop (i + 1)) := by
  rw [List.drop_eq_getElem_cons hi, scan, ← g0_of hi]
theorem B2_lpf_eq {lev : List Int} {L : Int} {N row : List Nat} {x n : Nat} (hl : lev.length = n) (hr : row.length = n) (hx : x < n) (hy : g0 row x < n) (μ : Sto) (a0 a2 a3 a4 a6 a8 a9 a10 a11 a12 : Option PV) :
    B2_lowest_pass_fault [a0, some (.dat (.list (iZ lev))), a2, a3, a4, some (.dat (.int L)), a6, some (.dat (.list (iL N))), a8, a9, a10, a11, a12, some (.dat (.int (x : Int))), some (.dat (.list (iL row)))] μ =
      if outN lev L N (g0 row x) then some (.rt (.dat (.tuple [.str "leak", .int (x : Int)])) μ) else some (.nx [a0, some (.dat (.list (iZ lev))), a2, a3, a4, some (.dat (.int L)), a6, some (.dat (.list (iL N))), a8, a9, a10, a11, a12, some (.dat (.int (x : Int))), some (.dat (.list (iL row)))] μ) := by
  have a1 := at_oL (ns := row) (j := x) (by omega)
  have a2 := at_oZ (ns := lev) (j := g0 row x) (by omega)
  by_cases h1 : g0 row x ∈ N
  · simp [B2_lowest_pass_fault, a1, a2, h1, asDats, cap, outN]
  · by_cases h2 : z0 lev (g0 row x) < L
    · simp [B2_lowest_pass_fault, a1, a2, h1, h2, asDats, cap, outN]
    · simp [B2_lowest_pass_fault, a1, a2, h1, h2, asDats, cap, outN]
theorem L2_lpf_eq {R U : List Nat} {lev : List Int} {L : Int} {N : List Nat} {x n : Nat} (F : Flo R U n) (hl : lev.length = n) (hx : x < n) (μ : Sto) (a2 a3 a4 a6 a8 a9 a10 a11 a12 a14 : Option PV) :
    ∃ o, L2_lowest_pass_fault [some (.dat (flo R U)), some (.dat (.list (iZ lev))), a2, a3, a4, some (.dat (.int L)), a6, some (.dat (.list (iL N))), a8, a9, a10, a11, a12, some (.dat (.int (x : Int))), a14] μ = some o ∧
      ((( ∃ y ∈ nbs4 R U x, outN lev L N y) ∧ o = .rt (.dat (.tuple [.str "leak", .int (x : Int)])) μ) ∨
       ((¬ ∃ y ∈ nbs4 R U x, outN lev L N y) ∧ ∃ a12 a14, o = .nx [some (.dat (flo R U)), some (.dat (.list (iZ lev))), a2, a3, a4, some (.dat (.int L)), a6, some (.dat (.list (iL N))), a8, a9, a10, a11, a12, some (.dat (.int (x : Int))), a14] μ)) := by
  have hn := F.small
  have nb := F.nb_lt _ hx
  have n1 := nb (g0 R x) (by simp [nbs4])
  have n2 := nb (g0 (inv R) x) (by simp [nbs4])
  have n3 := nb (g0 U x) (by simp [nbs4])
  have n4 := nb (g0 (inv U) x) (by simp [nbs4])
  have nl := F_near_lists_eq R U (by rw [F.lR]; omega) (by rw [F.lU]; omega) F.oR.low F.oU.low
  have st := fun (row : List Nat) (hr : row.length = n) (hy : g0 row x < n) a12 => B2_lpf_eq (L := L) (N := N) hl hr hx hy μ (some (.dat (flo R U))) a2 a3 a4 a6 a8 a9 a10 a11 a12
  have s1 := st R F.lR n1
  have s2 := st (inv R) (by rw [inv_len]; exact F.lR) n2
  have s3 := st U F.lU n3
  have s4 := st (inv U) (by rw [inv_len]; exact F.lU) n4
  unfold L2_lowest_pass_fault sFor
  by_cases c1 : outN lev L N (g0 R x)
  · refine ⟨_, ?_, .inl ⟨⟨_, by simp [nbs4], c1⟩, rfl⟩⟩
    simp only [if_pos c1] at s1
    simp [asDats, nl, okG_none, forD, s1]
  by_cases c2 : outN lev L N (g0 (inv R) x)
  · refine ⟨_, ?_, .inl ⟨⟨_, by simp [nbs4], c2⟩, rfl⟩⟩
    simp only [if_neg c1] at s1
    simp only [if_pos c2] at s2
    simp [asDats, nl, okG_none, forD, s1, s2]
  by_cases c3 : outN lev L N (g0 U x)
  · refine ⟨_, ?_, .inl ⟨⟨_, by simp [nbs4], c3⟩, rfl⟩⟩
    simp only [if_neg c1] at s1
    simp only [if_neg c2] at s2
    simp only [if_pos c3] at s3
    simp [asDats, nl, okG_none, forD, s1, s2, s3]
  by_cases c4 : outN lev L N (g0 (inv U) x)
  · refine ⟨_, ?_, .inl ⟨⟨_, by simp [nbs4], c4⟩, rfl⟩⟩
    simp only [if_neg c1] at s1
    simp only [if_neg c2] at s2
    simp only [if_neg c3] at s3
    simp only [if_pos c4] at s4
    simp [asDats, nl, okG_none, forD, s1, s2, s3, s4]
  · refine ⟨_, ?_, .inr ⟨?_, some (.dat (.str "d")), some (.dat (.list (iL (inv U)))), rfl⟩⟩
    · simp only [if_neg c1] at s1
      simp only [if_neg c2] at s2
      simp only [if_neg c3] at s3
      simp only [if_neg c4] at s4
      simp [asDats, nl, okG_none, forD, s1, s2, s3, s4]
    · rintro ⟨y, hy, c⟩
      simp only [nbs4, List.mem_cons, List.not_mem_nil, or_false] at hy
      rcases hy with rfl | rfl | rfl | rfl <;> contradiction
theorem L3_lpf_eq {R U : List Nat} {lev : List Int} {L : Int} {N : List Nat} {n : Nat} (F : Flo R U n) (hl : lev.length = n) (hN : ∀ x ∈ N, x < n) (μ : Sto) (a2 a3 a4 a6 a8 a9 a10 a11 a12 a13 a14 : Option PV) :
    ∃ o, L3_lowest_pass_fault [some (.dat (flo R U)), some (.dat (.list (iZ lev))), a2, a3, a4, some (.dat (.int L)), a6, some (.dat (.list (iL N))), a8, a9, a10, a11, a12, a13, a14] μ = some o ∧
      ((∃ v, scan R U lev L N N = some v ∧ o = .rt (.dat v) μ) ∨ (scan R U lev L N N = none ∧ ∃ ε, o = .nx ε μ)) := by
  have key := forD_gen (G := fun _ => true) (tg := tgN 13) (b := B3_lowest_pass_fault)
    (fun i ε μ' => ∃ a12 a13 a14, ε = [some (.dat (flo R U)), some (.dat (.list (iZ lev))), a2, a3, a4, some (.dat (.int L)), a6, some (.dat (.list (iL N))), a8, a9, a10, a11, a12, a13, a14] ∧ μ' = μ ∧ scan R U lev L N (N.drop i) = scan R U lev L N N)
    (fun o => (∃ v, scan R U lev L N N = some v ∧ o = .rt (.dat v) μ) ∨ (scan R U lev L N N = none ∧ ∃ ε, o = .nx ε μ))
    (oL N) (fun _ _ _ _ => rfl) (fun i p ε μ' hp hI => by
      obtain ⟨a12, a13, a14, rfl, rfl, hsc⟩ := hI
      obtain ⟨hi, rfl⟩ := get_oL hp
      have hx := hN _ (g0_mem hi)
      have a1 := at_oZ (ns := lev) (j := g0 N i) (by omega)
      rw [scan_drop hi] at hsc
      by_cases c1 : z0 lev (g0 N i) ≥ L
      · rw [if_pos c1] at hsc
        have c1' : L ≤ z0 lev (g0 N i) := c1
        exact ⟨_, _, .rt (.dat (.tuple [.str "high", .int (g0 N i : Nat)])) μ', rfl, by simp [B3_lowest_pass_fault, a1, c1', asDats, cap], .inl ⟨_, hsc.symm, rfl⟩⟩
      · rw [if_neg c1] at hsc
        have c1' : ¬ L ≤ z0 lev (g0 N i) := c1
        obtain ⟨o, e, h⟩ := L2_lpf_eq (L := L) (N := N) F hl hx μ' a2 a3 a4 a6 a8 a9 a10 a11 a12 a14
        rcases h with ⟨c2, rfl⟩ | ⟨c2, a12', a14', rfl⟩
        · rw [if_pos c2] at hsc
          exact ⟨_, _, .rt (.dat (.tuple [.str "leak", .int (g0 N i : Nat)])) μ', rfl, by simp [B3_lowest_pass_fault, a1, c1', e], .inl ⟨_, hsc.symm, rfl⟩⟩
        · rw [if_neg c2] at hsc
          exact ⟨_, _, .nx [some (.dat (flo R U)), some (.dat (.list (iZ lev))), a2, a3, a4, some (.dat (.int L)), a6, some (.dat (.list (iL N))), a8, a9, a10, a11, a12', some (.dat (.int (g0 N i : Nat))), a14'] μ', rfl, by simp [B3_lowest_pass_fault, a1, c1', e], _, _, _, rfl, rfl, hsc⟩)
    (fun ε μ' hI => by
      obtain ⟨a12, a13, a14, rfl, rfl, hsc⟩ := hI
      rw [List.drop_eq_nil_of_le (by simp), scan] at hsc
      exact .inr ⟨hsc.symm, _, rfl⟩)
    (ε := [some (.dat (flo R U)), some (.dat (.list (iZ lev))), a2, a3, a4, some (.dat (.int L)), a6, some (.dat (.list (iL N))), a8, a9, a10, a11, a12, a13, a14]) (μ := μ) ⟨a12, a13, a14, rfl, rfl, rfl⟩
  obtain ⟨o, e, h⟩ := key
  refine ⟨o, ?_, h⟩
  unfold L3_lowest_pass_fault sFor
  simpa [okG_none] using e
/-! the law's pool -/
def tSgn (R U : List Nat) (lev : List Int) (L : Int) (N : List Nat) (x : Nat) : PV → Bool
  | .dat (.str c) => (match rowOf R U c with | some row => decide (outN lev L N (g0 row x)) | none => false)
  | _ => false
theorem C2_lf_eq {R U : List Nat} {lev : List Int} {L : Int} {N : List Nat} {x n : Nat} (F : Flo R U n) (hl : lev.length = n) (hx : x < n) (a0 a2' a3 a4 a6 a9 a10 a11 a13 : Option PV) :
    ∃ ds, C2__law_fault [a0, some (.dat (.list (iZ lev))), a2', a3, a4, some (.dat (.int L)), a6, some (.dat (.list (iL N))), some (.ptr 2), a9, a10, a11, some (.dat (.int (x : Int))), a13] (lsSt R U) = some (.dat (.list ds), lsSt R U) ∧ (ds.length > 0 ↔ ∃ y ∈ nbs4 R U x, outN lev L N y) := by
  have step : ∀ p ∈ [PV.dat (.str "r"), .dat (.str "l"), .dat (.str "u"), .dat (.str "d")], ∃ ε, tgN 13 p [a0, some (.dat (.list (iZ lev))), a2', a3, a4, some (.dat (.int L)), a6, some (.dat (.list (iL N))), some (.ptr 2), a9, a10, a11, some (.dat (.int (x : Int))), none] (lsSt R U) = some (ε, lsSt R U) ∧
      tsAnd (tsE (eOp (fIn true) (eOp fIx (eDGet (eVar 8) (eVar 13)) (eVar 12)) (eVar 7))) (tsE (eOp fLt (eOp fIx (eVar 1) (eOp fIx (eDGet (eVar 8) (eVar 13)) (eVar 12))) (eVar 5))) ε (lsSt R U) = some (tSgn R U lev L N x p, lsSt R U) ∧ (tSgn R U lev L N x p = true → eVar 13 ε (lsSt R U) = some (id p, lsSt R U)) := by
    intro p hp
    obtain ⟨c, row, rfl, hc⟩ : ∃ c row, p = .dat (.str c) ∧ rowOf R U c = some row := by
      simp only [List.mem_cons, List.not_mem_nil, or_false] at hp
      rcases hp with rfl | rfl | rfl | rfl
      · exact ⟨_, _, rfl, rowOf_r⟩
      · exact ⟨_, _, rfl, rowOf_l⟩
      · exact ⟨_, _, rfl, rowOf_u⟩
      · exact ⟨_, _, rfl, rowOf_d⟩
    refine ⟨_, rfl, ?_, fun _ => rfl⟩
    have e2 := atD_any (eo := eVar 8) (es := eVar 13) (eh := eVar 12) (ε := [a0, some (.dat (.list (iZ lev))), a2', a3, a4, some (.dat (.int L)), a6, some (.dat (.list (iL N))), some (.ptr 2), a9, a10, a11, some (.dat (.int (x : Int))), some (.dat (.str c))]) F hx hc rfl rfl rfl
    have a2 := at_oZ (ns := lev) (j := g0 row x) (by rw [hl]; exact F.nb_lt _ hx _ (rowOf_nb hc x))
    have u : ∀ (f : OpF) (a b : EvF) (ε : Evn) (μ : Sto), eOp f a b ε μ = (a ε μ).bind fun x => (b ε x.2).bind fun y => f x.1 y.1 y.2 := fun _ _ _ _ _ => rfl
    simp only [List.set_cons_succ, List.set_cons_zero]
    have t1 : tsE (eOp (fIn true) (eOp fIx (eDGet (eVar 8) (eVar 13)) (eVar 12)) (eVar 7)) [a0, some (.dat (.list (iZ lev))), a2', a3, a4, some (.dat (.int L)), a6, some (.dat (.list (iL N))), some (.ptr 2), a9, a10, a11, some (.dat (.int (x : Int))), some (.dat (.str c))] (lsSt R U) = some (decide (g0 row x ∉ N), lsSt R U) := by
      unfold tsE
      rw [u, e2]
      by_cases h1 : g0 row x ∈ N
      · simp [h1]
      · simp [h1]
    have t2 : tsE (eOp fLt (eOp fIx (eVar 1) (eOp fIx (eDGet (eVar 8) (eVar 13)) (eVar 12))) (eVar 5)) [a0, some (.dat (.list (iZ lev))), a2', a3, a4, some (.dat (.int L)), a6, some (.dat (.list (iL N))), some (.ptr 2), a9, a10, a11, some (.dat (.int (x : Int))), some (.dat (.str c))] (lsSt R U) = some (decide (z0 lev (g0 row x) < L), lsSt R U) := by
      have v1 : eVar 1 [a0, some (.dat (.list (iZ lev))), a2', a3, a4, some (.dat (.int L)), a6, some (.dat (.list (iL N))), some (.ptr 2), a9, a10, a11, some (.dat (.int (x : Int))), some (.dat (.str c))] (lsSt R U) = some (.dat (.list (iZ lev)), lsSt R U) := rfl
      unfold tsE
      rw [u, u fIx (eVar 1), v1]
      simp only [Option.bind_some]
      rw [e2]
      simp [a2]
    unfold tsAnd
    rw [t1]
    simp only [Option.bind_some]
    by_cases h1 : g0 row x ∈ N
    · simp [-tsE, h1, tSgn, hc, outN]
    · rw [decide_eq_true h1, if_pos rfl, t2]
      simp [h1, tSgn, hc, outN]
  have e := lcD_filter (G := fun _ => true) (tSgn R U lev L N x) id _ step rfl
  have hd : ∃ ds : List PyData, ([PV.dat (.str "r"), .dat (.str "l"), .dat (.str "u"), .dat (.str "d")].filter (tSgn R U lev L N x)).map id = ds.map PV.dat ∧ ds.length ≤ 4 := by
    refine ⟨([PyData.str "r", .str "l", .str "u", .str "d"].filter fun d => tSgn R U lev L N x (.dat d)), ?_, ?_⟩
    · rw [List.map_id]
      show List.filter _ (List.map PV.dat [PyData.str "r", .str "l", .str "u", .str "d"]) = _
      rw [List.filter_map]
      rfl
    · exact List.length_filter_le _ _
  obtain ⟨ds, hd, hlen⟩ := hd
  refine ⟨ds, ?_, ?_⟩
  · unfold C2__law_fault eLc srcSeq eC
    simp only [Option.bind_some, signs4, okG_none, wipeE, List.set_cons_succ, List.set_cons_zero]
    rw [e, hd]
    have c : ds.length ≤ 1000000 := by omega
    simp [cap, c, asDats_map]
  · have hl2 : ds.length = ([PV.dat (.str "r"), .dat (.str "l"), .dat (.str "u"), .dat (.str "d")].filter (tSgn R U lev L N x)).length := by
      have := congrArg List.length hd
      simpa using this.symm
    rw [hl2, gt_iff_lt, List.length_pos_iff_exists_mem]
    constructor
    · rintro ⟨p, hp⟩
      obtain ⟨h1, h2⟩ := List.mem_filter.mp hp
      simp only [List.mem_cons, List.not_mem_nil, or_false] at h1
      rcases h1 with rfl | rfl | rfl | rfl
      · simp only [tSgn, rowOf_r, decide_eq_true_eq] at h2; exact ⟨_, by simp [nbs4], h2⟩
      · simp only [tSgn, rowOf_l, decide_eq_true_eq] at h2; exact ⟨_, by simp [nbs4], h2⟩
      · simp only [tSgn, rowOf_u, decide_eq_true_eq] at h2; exact ⟨_, by simp [nbs4], h2⟩
      · simp only [tSgn, rowOf_d, decide_eq_true_eq] at h2; exact ⟨_, by simp [nbs4], h2⟩
    · rintro ⟨y, hy, h⟩
      simp only [nbs4, List.mem_cons, List.not_mem_nil, or_false] at hy
      rcases hy with rfl | rfl | rfl | rfl
      · exact ⟨.dat (.str "r"), List.mem_filter.mpr ⟨by simp, by simp only [tSgn, rowOf_r]; exact decide_eq_true h⟩⟩
      · exact ⟨.dat (.str "l"), List.mem_filter.mpr ⟨by simp, by simp only [tSgn, rowOf_l]; exact decide_eq_true h⟩⟩
      · exact ⟨.dat (.str "u"), List.mem_filter.mpr ⟨by simp, by simp only [tSgn, rowOf_u]; exact decide_eq_true h⟩⟩
      · exact ⟨.dat (.str "d"), List.mem_filter.mpr ⟨by simp, by simp only [tSgn, rowOf_d]; exact decide_eq_true h⟩⟩
theorem L2_lf_eq {R U : List Nat} {lev : List Int} {L : Int} {N : List Nat} {n : Nat} (F : Flo R U n) (hl : lev.length = n) (hN : ∀ x ∈ N, x < n) (a0 a2 a3 a4 a6 a9 a10 a11 a12 a13 : Option PV) :
    ∃ o, L2__law_fault [a0, some (.dat (.list (iZ lev))), a2, a3, a4, some (.dat (.int L)), a6, some (.dat (.list (iL N))), some (.ptr 2), a9, a10, a11, a12, a13] (lsSt R U) = some o ∧
      ((∃ v, scan R U lev L N N = some v ∧ o = .rt (.dat v) (lsSt R U)) ∨ (scan R U lev L N N = none ∧ ∃ ε, o = .nx ε (lsSt R U))) := by
  have key := forD_gen (G := fun _ => true) (tg := tgN 12) (b := B2__law_fault)
    (fun i ε μ' => ∃ a12, ε = [a0, some (.dat (.list (iZ lev))), a2, a3, a4, some (.dat (.int L)), a6, some (.dat (.list (iL N))), some (.ptr 2), a9, a10, a11, a12, a13] ∧ μ' = lsSt R U ∧ scan R U lev L N (N.drop i) = scan R U lev L N N)
    (fun o => (∃ v, scan R U lev L N N = some v ∧ o = .rt (.dat v) (lsSt R U)) ∨ (scan R U lev L N N = none ∧ ∃ ε, o = .nx ε (lsSt R U)))
    (oL N) (fun _ _ _ _ => rfl) (fun i p ε μ' hp hI => by
      obtain ⟨a12, rfl, rfl, hsc⟩ := hI
      obtain ⟨hi, rfl⟩ := get_oL hp
      have hx := hN _ (g0_mem hi)
      have a1 := at_oZ (ns := lev) (j := g0 N i) (by omega)
      rw [scan_drop hi] at hsc
      by_cases c1 : z0 lev (g0 N i) ≥ L
      · rw [if_pos c1] at hsc
        have c1' : L ≤ z0 lev (g0 N i) := c1
        exact ⟨_, _, .rt (.dat (.tuple [.str "high", .int (g0 N i : Nat)])) (lsSt R U), rfl, by simp [B2__law_fault, a1, c1', asDats, cap], .inl ⟨_, hsc.symm, rfl⟩⟩
      · rw [if_neg c1] at hsc
        have c1' : ¬ L ≤ z0 lev (g0 N i) := c1
        obtain ⟨ds, e, h⟩ := C2_lf_eq (L := L) (N := N) F hl hx a0 a2 a3 a4 a6 a9 a10 a11 a13
        by_cases c2 : ∃ y ∈ nbs4 R U (g0 N i), outN lev L N y
        · rw [if_pos c2] at hsc
          have h' : 0 < ds.length := h.mpr c2
          exact ⟨_, _, .rt (.dat (.tuple [.str "leak", .int (g0 N i : Nat)])) (lsSt R U), rfl, by simp [B2__law_fault, a1, c1', e, h', asDats, cap], .inl ⟨_, hsc.symm, rfl⟩⟩
        · rw [if_neg c2] at hsc
          have h' : ds = [] := by
            cases ds with
            | nil => rfl
            | cons d r => exact absurd (h.mp (by simp)) c2
          subst h'
          exact ⟨_, _, .nx [a0, some (.dat (.list (iZ lev))), a2, a3, a4, some (.dat (.int L)), a6, some (.dat (.list (iL N))), some (.ptr 2), a9, a10, a11, some (.dat (.int (g0 N i : Nat))), a13] (lsSt R U), rfl, by simp [B2__law_fault, a1, c1', e], _, rfl, rfl, hsc⟩)
    (fun ε μ' hI => by
      obtain ⟨a12, rfl, rfl, hsc⟩ := hI
      rw [List.drop_eq_nil_of_le (by simp), scan] at hsc
      exact .inr ⟨hsc.symm, _, rfl⟩)
    (ε := [a0, some (.dat (.list (iZ lev))), a2, a3, a4, some (.dat (.int L)), a6, some (.dat (.list (iL N))), some (.ptr 2), a9, a10, a11, a12, a13]) (μ := lsSt R U) ⟨a12, rfl, rfl, rfl⟩
  obtain ⟨o, e, h⟩ := key
  refine ⟨o, ?_, h⟩
  unfold L2__law_fault sFor
  simpa [okG_none] using e
end CM
namespace CM
open PySem L2 VX
/-! ### the two that look for faults -/
abbrev inR (n : Nat) (x : Int) : Bool := decide (0 ≤ x) && decide (x < (n : Int))
theorem C1_lpf_eq {lev Z : List Int} {n : Nat} (hl : lev.length = n) (hZ : Z.length ≤ 64) (μ : Sto) (a0 a2 a3 a4 a5 a6 a8 a9 a10 a11 a12 a13 a14 : Option PV) :
    C1_lowest_pass_fault [a0, some (.dat (.list (iZ lev))), a2, a3, a4, a5, a6, some (.dat (.list (iZ Z))), a8, a9, a10, a11, a12, a13, a14] μ = some (.dat (.list ((Z.map (inR n)).map fun b => .bool b)), μ) := by
  have e := lcD_map (G := fun _ => true) (tg := tgN 13) (te := eCh fLe fLt (eC (.int 0)) (eVar 13) (eCa fLen (aCons (eVar 1) aNil))) (w := [a0, some (.dat (.list (iZ lev))), a2, a3, a4, a5, a6, some (.dat (.list (iZ Z))), a8, a9, a10, a11, a12, none, a14]) (μ := μ) (fun p => match p with | .dat (.int x) => .dat (.bool (inR n x)) | p => p) (oZ Z) (fun p hp => by
    obtain ⟨x, _, rfl⟩ := List.mem_map.mp hp
    refine ⟨_, rfl, ?_⟩
    by_cases h : (0 : Int) ≤ x
    · simp [h, hl]
    · simp [h]) rfl
  have e2 : (oZ Z).map (fun p => match p with | .dat (.int x) => PV.dat (.bool (inR n x)) | p => p) = ((Z.map (inR n)).map fun b => PyData.bool b).map PV.dat := by
    unfold oZ
    rw [List.map_map, List.map_map, List.map_map]
    rfl
  rw [e2] at e
  have c : Z.length ≤ 1000000 := by omega
  unfold C1_lowest_pass_fault eLc
  simp only [srcSeq, eVar, List.getElem?_cons_succ, List.getElem?_cons_zero, Option.bind_some, wipeE, List.set_cons_succ, List.set_cons_zero, okG_none, map_iZ]
  rw [e]
  simp only [Option.bind_some, mkL, List.length_map, cap, if_pos c, asDats_map, Option.map_some]
  rfl
theorem C1_lf_eq {lev Z : List Int} {n : Nat} (hl : lev.length = n) (hZ : Z.length ≤ 64) (μ : Sto) (a0 a2 a3 a4 a5 a6 a8 a9 a10 a11 a12 a13 : Option PV) :
    C1__law_fault [a0, some (.dat (.list (iZ lev))), a2, a3, a4, a5, a6, some (.dat (.list (iZ Z))), a8, a9, a10, a11, a12, a13] μ = some (.dat (.list (iZ (Z.filter fun x => !inR n x))), μ) := by
  have e := lcD_ints (G := fun _ => true) (tg := tgN 12) (tt := tsNot (tsE (eCh fLe fLt (eC (.int 0)) (eVar 12) (eCa fLen (aCons (eVar 1) aNil))))) (te := eVar 12) (w := [a0, some (.dat (.list (iZ lev))), a2, a3, a4, a5, a6, some (.dat (.list (iZ Z))), a8, a9, a10, a11, none, a13]) (μ := μ) (fun x => !inR n x) Z (fun x hx => by
    refine ⟨_, rfl, ?_, fun _ => by simp⟩
    by_cases h : (0 : Int) ≤ x
    · simp [h, hl]
    · simp [h]) rfl
  have h := List.length_filter_le (fun x => !inR n x) Z
  have c : (Z.filter fun x => !inR n x).length ≤ 1000000 := by omega
  unfold C1__law_fault eLc
  simp only [srcSeq, eVar, List.getElem?_cons_succ, List.getElem?_cons_zero, Option.bind_some, wipeE, List.set_cons_succ, List.set_cons_zero, okG_none, map_iZ]
  rw [e]
  simp only [Option.bind_some, mkL, len_oZ, cap, if_pos c, asDats_oZ, Option.map_some]
  rfl
def PoolFine (n : Nat) (Z : List Int) : Prop := Z = usort Z ∧ ∀ x ∈ Z, 0 ≤ x ∧ x < (n : Int)
open Classical in
noncomputable def faultR (R U : List Nat) (lev : List Int) (n s b : Nat) (L : Int) (Z : List Int) (h : Nat) (top : Int) : PyData :=
  if h ≠ b then .tuple [.str "end"] else if top ≠ L then .tuple [.str "level"] else if ¬ PoolFine n Z then .tuple [.str "pool"]
  else if L = z0 lev s ∨ L = z0 lev b then .none else if (s : Int) ∉ Z ∨ (b : Int) ∈ Z then .tuple [.str "ends"]
  else (scan R U lev L (Z.map Int.toNat) (Z.map Int.toNat)).getD .none
noncomputable def faultV (R U : List Nat) (lev : List Int) (n s b : Nat) (L : Int) (w : Str) (Z : List Int) : PyData :=
  match wk R U lev (sgs w) 0 s (z0 lev s) with
  | .inl k => .tuple [.str "sign", .int (k : Int)]
  | .inr (h, top) => faultR R U lev n s b L Z h top
theorem toNat_Z {n : Nat} {Z : List Int} (h : ∀ x ∈ Z, 0 ≤ x ∧ x < (n : Int)) : toZ (Z.map Int.toNat) = Z ∧ ∀ x ∈ Z.map Int.toNat, x < n := by
  refine ⟨?_, fun x hx => ?_⟩
  · unfold toZ
    rw [List.map_map]
    conv => rhs; rw [← List.map_id Z]
    refine List.map_congr_left fun x hx => ?_
    have := (h x hx).1
    simp only [Function.comp_apply, id]
    omega
  · obtain ⟨y, hy, rfl⟩ := List.mem_map.mp hx
    have := h y hy
    omega
/-- after the word, the program -/
abbrev restP : RnF := (sSeq (sIf (tsE (eOp (fEq true) (eVar 9) (eVar 3))) (sRet (eTup (aCons (eC (.str "end")) (aNil)))) (sNil)) (sSeq (sIf (tsE (eOp (fEq true) (eVar 10) (eVar 5))) (sRet (eTup (aCons (eC (.str "level")) (aNil)))) (sNil)) (sSeq (sIf (tsOr (tsE (eOp (fEq true) (eVar 7) (eSortSet false (aCons (eVar 7) (aNil))))) (tsNot (tsTru (eCa fAll (aCons (C1_lowest_pass_fault) (aNil)))))) (sRet (eTup (aCons (eC (.str "pool")) (aNil)))) (sNil)) (sSeq (sIf (tsOr (tsE (eOp (fEq false) (eVar 5) (eOp fIx (eVar 1) (eVar 2)))) (tsE (eOp (fEq false) (eVar 5) (eOp fIx (eVar 1) (eVar 3))))) (sRet (eC .none)) (sNil)) (sSeq (sIf (tsOr (tsE (eOp (fIn true) (eVar 2) (eVar 7))) (tsE (eOp (fIn false) (eVar 3) (eVar 7)))) (sRet (eTup (aCons (eC (.str "ends")) (aNil)))) (sNil)) (sSeq (L3_lowest_pass_fault) (sRet (eC .none))))))))
theorem all_inR {n : Nat} {Z : List Int} : ((Z.map (inR n)).all id) = decide (∀ x ∈ Z, 0 ≤ x ∧ x < (n : Int)) := by
  induction Z with
  | nil => simp
  | cons x r ih =>
    rw [List.map_cons, List.all_cons, ih]
    simp [inR]
theorem usort_c {Z : List Int} (hZ : Z.length < 64) : (usort Z).length ≤ 1000000 := by have := usort_len Z; omega
theorem t_pool {lev Z : List Int} {n : Nat} (hl : lev.length = n) (hZ : Z.length < 64) (μ : Sto) (a0 a2 a3 a4 a5 a6 a8 a9 a10 a11 a12 a13 a14 : Option PV) :
    ∃ t, tsOr (tsE (eOp (fEq true) (eVar 7) (eSortSet false (aCons (eVar 7) aNil)))) (tsNot (tsTru (eCa fAll (aCons C1_lowest_pass_fault aNil)))) [a0, some (.dat (.list (iZ lev))), a2, a3, a4, a5, a6, some (.dat (.list (iZ Z))), a8, a9, a10, a11, a12, a13, a14] μ = some (t, μ) ∧ (t = true ↔ ¬ PoolFine n Z) := by
  have e := C1_lpf_eq hl (by omega : Z.length ≤ 64) μ a0 a2 a3 a4 a5 a6 a8 a9 a10 a11 a12 a13 a14
  have c := usort_c hZ
  have e2 : ∀ bs : List Bool, asBls ((bs.map fun b => PyData.bool b).map PV.dat) = some bs := by
    intro bs
    rw [List.map_map]
    exact asBls_map bs
  have t1 : tsE (eOp (fEq true) (eVar 7) (eSortSet false (aCons (eVar 7) aNil))) [a0, some (.dat (.list (iZ lev))), a2, a3, a4, a5, a6, some (.dat (.list (iZ Z))), a8, a9, a10, a11, a12, a13, a14] μ = some (decide (Z ≠ usort Z), μ) := by
    simp [hZ, cap, c]
  have t2 : eCa fAll (aCons C1_lowest_pass_fault aNil) [a0, some (.dat (.list (iZ lev))), a2, a3, a4, a5, a6, some (.dat (.list (iZ Z))), a8, a9, a10, a11, a12, a13, a14] μ = some (.dat (.bool (decide (∀ x ∈ Z, 0 ≤ x ∧ x < (n : Int)))), μ) := by
    simp only [eCa, aCons, aNil, e, Option.bind_some, fAll, lstOfS, lstOf, e2, all_inR, Option.map_some]
  refine ⟨decide (Z ≠ usort Z) || !decide (∀ x ∈ Z, 0 ≤ x ∧ x < (n : Int)), ?_, ?_⟩
  · unfold tsOr
    rw [t1]
    by_cases h : Z = usort Z
    · have hd : decide (Z ≠ usort Z) = false := decide_eq_false fun z => z h
      rw [hd]
      simp only [Option.bind_some, Bool.false_eq_true, if_false, Bool.false_or, tsNot, tsTru]
      rw [t2]
      rfl
    · have hd : decide (Z ≠ usort Z) = true := decide_eq_true h
      rw [hd]
      simp
  · unfold PoolFine
    rw [Bool.or_eq_true, decide_eq_true_eq, Bool.not_eq_true', decide_eq_false_iff_not, Classical.not_and_iff_not_or_not]
theorem t_poolL {lev Z : List Int} {n : Nat} (hl : lev.length = n) (hZ : Z.length < 64) (μ : Sto) (a0 a2 a3 a4 a5 a6 a8 a9 a10 a11 a12 a13 : Option PV) :
    ∃ t, tsOr (tsE (eOp (fEq true) (eVar 7) (eSortSet false (aCons (eVar 7) aNil)))) (tsE (eOp fGt (eCa fLen (aCons C1__law_fault aNil)) (eC (.int 0)))) [a0, some (.dat (.list (iZ lev))), a2, a3, a4, a5, a6, some (.dat (.list (iZ Z))), a8, a9, a10, a11, a12, a13] μ = some (t, μ) ∧ (t = true ↔ ¬ PoolFine n Z) := by
  have e := C1_lf_eq hl (by omega : Z.length ≤ 64) μ a0 a2 a3 a4 a5 a6 a8 a9 a10 a11 a12 a13
  have c := usort_c hZ
  have t1 : tsE (eOp (fEq true) (eVar 7) (eSortSet false (aCons (eVar 7) aNil))) [a0, some (.dat (.list (iZ lev))), a2, a3, a4, a5, a6, some (.dat (.list (iZ Z))), a8, a9, a10, a11, a12, a13] μ = some (decide (Z ≠ usort Z), μ) := by
    simp [hZ, cap, c]
  have t2 : tsE (eOp fGt (eCa fLen (aCons C1__law_fault aNil)) (eC (.int 0))) [a0, some (.dat (.list (iZ lev))), a2, a3, a4, a5, a6, some (.dat (.list (iZ Z))), a8, a9, a10, a11, a12, a13] μ = some (decide (0 < (((Z.filter fun x => !inR n x).length : Nat) : Int)), μ) := by
    simp [-inR, e]
  have t3 : decide (0 < (((Z.filter fun x => !inR n x).length : Nat) : Int)) = !decide (∀ x ∈ Z, 0 ≤ x ∧ x < (n : Int)) := by
    by_cases h : ∀ x ∈ Z, 0 ≤ x ∧ x < (n : Int)
    · have : Z.filter (fun x => !inR n x) = [] := List.filter_eq_nil_iff.mpr fun x hx => by simp [inR, h x hx]
      rw [this, decide_eq_true h]
      rfl
    · rw [decide_eq_false h]
      simp only [Bool.not_false, decide_eq_true_eq]
      have ⟨x, hx, hn⟩ : ∃ x ∈ Z, ¬ (0 ≤ x ∧ x < (n : Int)) := by
        refine Classical.byContradiction fun z => h fun x hx => Classical.byContradiction fun z' => z ⟨x, hx, z'⟩
      have : x ∈ Z.filter fun x => !inR n x := List.mem_filter.mpr ⟨hx, by simp only [inR, Bool.not_eq_true', Bool.and_eq_false_iff, decide_eq_false_iff_not]; omega⟩
      have := List.length_pos_of_mem this
      omega
  rw [t3] at t2
  refine ⟨decide (Z ≠ usort Z) || !decide (∀ x ∈ Z, 0 ≤ x ∧ x < (n : Int)), ?_, ?_⟩
  · unfold tsOr
    rw [t1]
    by_cases h : Z = usort Z
    · have hd : decide (Z ≠ usort Z) = false := decide_eq_false fun z => z h
      rw [hd]
      simp only [Option.bind_some, Bool.false_eq_true, if_false, Bool.false_or]
      exact t2
    · have hd : decide (Z ≠ usort Z) = true := decide_eq_true h
      rw [hd]
      simp
  · unfold PoolFine
    rw [Bool.or_eq_true, decide_eq_true_eq, Bool.not_eq_true', decide_eq_false_iff_not, Classical.not_and_iff_not_or_not]
theorem seq_t {t : TsF} {A B C : RnF} {ε : Evn} {μ μ' : Sto} {v : PV} (h : t ε μ = some (true, μ)) (hA : A ε μ = some (.rt v μ')) : sSeq (sIf t A B) C ε μ = some (.rt v μ') := by
  unfold sSeq sIf; rw [h]; simp only [Option.bind_some, if_true, hA]
theorem seq_f {t : TsF} {A C : RnF} {ε : Evn} {μ : Sto} (h : t ε μ = some (false, μ)) : sSeq (sIf t A sNil) C ε μ = C ε μ := by
  unfold sSeq sIf; rw [h]; rfl
theorem seq_nx {A C : RnF} {ε ε' : Evn} {μ μ' : Sto} (h : A ε μ = some (.nx ε' μ')) : sSeq A C ε μ = C ε' μ' := by
  unfold sSeq; rw [h]; rfl
theorem seq_rt {A C : RnF} {ε : Evn} {μ μ' : Sto} {v : PV} (h : A ε μ = some (.rt v μ')) : sSeq A C ε μ = some (.rt v μ') := by
  unfold sSeq; rw [h]; rfl
theorem fnP_rt {m n : Nat} {rn : RnF} {ds : List PyData} {d : PyData} {μ : Sto} (hl : ds.length = n) (h : rn (startE m (ds.map PV.dat)) [] = some (.rt (.dat d) μ)) : fnP m n rn ds = some d := by
  unfold fnP; rw [if_pos hl, h]
theorem fnG_rt {m n : Nat} {rn : RnF} {ps : List PV} {v : PV} {μ μ' : Sto} (hl : ps.length = n) (h : rn (startE m ps) μ = some (.rt v μ')) : fnG m n rn ps μ = some (v, μ') := by
  unfold fnG; rw [if_pos hl, h]
theorem ret_1 (c : Str) (ε : Evn) (μ : Sto) : sRet (eTup (aCons (eC (.str c)) aNil)) ε μ = some (.rt (.dat (.tuple [.str c])) μ) := by simp [asDats, cap]
theorem restP_eq {R U : List Nat} {lev Z : List Int} {s b h n : Nat} {L top : Int} (F : Flo R U n) (hl : lev.length = n) (hs : s < n) (hb : b < n) (hZ : Z.length < 64) (μ : Sto) (a4 a6 a8 a11 a12 a13 a14 : Option PV) :
    restP [some (.dat (flo R U)), some (.dat (.list (iZ lev))), some (.dat (.int (s : Int))), some (.dat (.int (b : Int))), a4, some (.dat (.int L)), a6, some (.dat (.list (iZ Z))), a8, some (.dat (.int (h : Int))), some (.dat (.int top)), a11, a12, a13, a14] μ = some (.rt (.dat (faultR R U lev n s b L Z h top)) μ) := by
  have t1 : tsE (eOp (fEq true) (eVar 9) (eVar 3)) [some (.dat (flo R U)), some (.dat (.list (iZ lev))), some (.dat (.int (s : Int))), some (.dat (.int (b : Int))), a4, some (.dat (.int L)), a6, some (.dat (.list (iZ Z))), a8, some (.dat (.int (h : Int))), some (.dat (.int top)), a11, a12, a13, a14] μ = some (!decide ((h : Int) = (b : Int)), μ) := by simp
  have t2 : tsE (eOp (fEq true) (eVar 10) (eVar 5)) [some (.dat (flo R U)), some (.dat (.list (iZ lev))), some (.dat (.int (s : Int))), some (.dat (.int (b : Int))), a4, some (.dat (.int L)), a6, some (.dat (.list (iZ Z))), a8, some (.dat (.int (h : Int))), some (.dat (.int top)), a11, a12, a13, a14] μ = some (!decide (top = L), μ) := by simp
  obtain ⟨t, t3, ht⟩ := t_pool hl hZ μ (some (.dat (flo R U))) (some (.dat (.int (s : Int)))) (some (.dat (.int (b : Int)))) a4 (some (.dat (.int L))) a6 a8 (some (.dat (.int (h : Int)))) (some (.dat (.int top))) a11 a12 a13 a14
  have as := at_oZ (ns := lev) (j := s) (by omega)
  have ab := at_oZ (ns := lev) (j := b) (by omega)
  have t4 : tsOr (tsE (eOp (fEq false) (eVar 5) (eOp fIx (eVar 1) (eVar 2)))) (tsE (eOp (fEq false) (eVar 5) (eOp fIx (eVar 1) (eVar 3)))) [some (.dat (flo R U)), some (.dat (.list (iZ lev))), some (.dat (.int (s : Int))), some (.dat (.int (b : Int))), a4, some (.dat (.int L)), a6, some (.dat (.list (iZ Z))), a8, some (.dat (.int (h : Int))), some (.dat (.int top)), a11, a12, a13, a14] μ = some (decide (L = z0 lev s ∨ L = z0 lev b), μ) := by
    by_cases c1 : L = z0 lev s
    · simp [as, ab, c1]
    · by_cases c2 : L = z0 lev b
      · simp [as, ab, c1, c2]
      · simp [as, ab, c1, c2]
  have t5 : tsOr (tsE (eOp (fIn true) (eVar 2) (eVar 7))) (tsE (eOp (fIn false) (eVar 3) (eVar 7))) [some (.dat (flo R U)), some (.dat (.list (iZ lev))), some (.dat (.int (s : Int))), some (.dat (.int (b : Int))), a4, some (.dat (.int L)), a6, some (.dat (.list (iZ Z))), a8, some (.dat (.int (h : Int))), some (.dat (.int top)), a11, a12, a13, a14] μ = some (decide ((s : Int) ∉ Z ∨ (b : Int) ∈ Z), μ) := by
    by_cases c1 : (s : Int) ∈ Z
    · by_cases c2 : (b : Int) ∈ Z
      · simp [c1, c2]
      · simp [c1, c2]
    · simp [c1]
  unfold faultR
  by_cases h1 : h = b
  · rw [if_neg (fun z => z h1)]
    rw [decide_eq_true (by omega : (h : Int) = (b : Int))] at t1
    rw [restP, seq_f t1]
    by_cases h2 : top = L
    · rw [if_neg (fun z => z h2)]
      rw [decide_eq_true h2] at t2
      rw [seq_f t2]
      by_cases h3 : PoolFine n Z
      · rw [if_neg (fun z => z h3)]
        have : t = false := by
          cases t with
          | false => rfl
          | true => exact absurd h3 (ht.mp rfl)
        subst this
        rw [seq_f t3]
        by_cases h4 : L = z0 lev s ∨ L = z0 lev b
        · rw [if_pos h4]
          rw [decide_eq_true h4] at t4
          rw [seq_t t4]
          rfl
        · rw [if_neg h4]
          rw [decide_eq_false h4] at t4
          rw [seq_f t4]
          by_cases h5 : (s : Int) ∉ Z ∨ (b : Int) ∈ Z
          · rw [if_pos h5]
            rw [decide_eq_true h5] at t5
            rw [seq_t t5 (ret_1 _ _ _)]
          · rw [if_neg h5]
            rw [decide_eq_false h5] at t5
            rw [seq_f t5]
            obtain ⟨z1, z2⟩ := toNat_Z h3.2
            have z3 : iZ Z = iL (Z.map Int.toNat) := by rw [iL_iZ, z1]
            rw [z3]
            obtain ⟨o, e, hh⟩ := L3_lpf_eq (L := L) (N := Z.map Int.toNat) F hl z2 μ (some (.dat (.int (s : Int)))) (some (.dat (.int (b : Int)))) a4 a6 a8 (some (.dat (.int (h : Int)))) (some (.dat (.int top))) a11 a12 a13 a14
            unfold sSeq
            rw [e]
            rcases hh with ⟨v, hv, rfl⟩ | ⟨hv, ε, rfl⟩
            · rw [hv]; rfl
            · rw [hv]; rfl
      · rw [if_pos h3]
        have : t = true := ht.mpr h3
        subst this
        rw [seq_t t3 (ret_1 _ _ _)]
    · rw [if_pos h2]
      rw [decide_eq_false h2] at t2
      rw [seq_t t2 (ret_1 _ _ _)]
  · rw [if_pos h1]
    rw [decide_eq_false (by omega : ¬ (h : Int) = (b : Int))] at t1
    rw [restP, seq_t t1 (ret_1 _ _ _)]
abbrev restL : RnF := (sSeq (sIf (tsE (eOp (fEq true) (eVar 9) (eVar 3))) (sRet (eTup (aCons (eC (.str "end")) (aNil)))) (sNil)) (sSeq (sIf (tsE (eOp (fEq true) (eVar 10) (eVar 5))) (sRet (eTup (aCons (eC (.str "level")) (aNil)))) (sNil)) (sSeq (sIf (tsOr (tsE (eOp (fEq true) (eVar 7) (eSortSet false (aCons (eVar 7) (aNil))))) (tsE (eOp fGt (eCa fLen (aCons (C1__law_fault) (aNil))) (eC (.int 0))))) (sRet (eTup (aCons (eC (.str "pool")) (aNil)))) (sNil)) (sSeq (sIf (tsE (eOp (fIn false) (eVar 5) (eLst false (aCons (eOp fIx (eVar 1) (eVar 2)) (aCons (eOp fIx (eVar 1) (eVar 3)) (aNil)))))) (sRet (eC .none)) (sNil)) (sSeq (sIf (tsOr (tsE (eOp (fIn true) (eVar 2) (eVar 7))) (tsE (eOp (fIn false) (eVar 3) (eVar 7)))) (sRet (eTup (aCons (eC (.str "ends")) (aNil)))) (sNil)) (sSeq (L2__law_fault) (sRet (eC .none))))))))
theorem restL_eq {R U : List Nat} {lev Z : List Int} {s b h n : Nat} {L top : Int} (F : Flo R U n) (hl : lev.length = n) (hs : s < n) (hb : b < n) (hZ : Z.length < 64) (a4 a6 a11 a12 a13 : Option PV) :
    restL [some (.dat (flo R U)), some (.dat (.list (iZ lev))), some (.dat (.int (s : Int))), some (.dat (.int (b : Int))), a4, some (.dat (.int L)), a6, some (.dat (.list (iZ Z))), some (.ptr 2), some (.dat (.int (h : Int))), some (.dat (.int top)), a11, a12, a13] (lsSt R U) = some (.rt (.dat (faultR R U lev n s b L Z h top)) (lsSt R U)) := by
  generalize hμ : lsSt R U = μ
  have t1 : tsE (eOp (fEq true) (eVar 9) (eVar 3)) [some (.dat (flo R U)), some (.dat (.list (iZ lev))), some (.dat (.int (s : Int))), some (.dat (.int (b : Int))), a4, some (.dat (.int L)), a6, some (.dat (.list (iZ Z))), some (.ptr 2), some (.dat (.int (h : Int))), some (.dat (.int top)), a11, a12, a13] μ = some (!decide ((h : Int) = (b : Int)), μ) := by simp
  have t2 : tsE (eOp (fEq true) (eVar 10) (eVar 5)) [some (.dat (flo R U)), some (.dat (.list (iZ lev))), some (.dat (.int (s : Int))), some (.dat (.int (b : Int))), a4, some (.dat (.int L)), a6, some (.dat (.list (iZ Z))), some (.ptr 2), some (.dat (.int (h : Int))), some (.dat (.int top)), a11, a12, a13] μ = some (!decide (top = L), μ) := by simp
  obtain ⟨t, t3, ht⟩ := t_poolL hl hZ μ (some (.dat (flo R U))) (some (.dat (.int (s : Int)))) (some (.dat (.int (b : Int)))) a4 (some (.dat (.int L))) a6 (some (.ptr 2)) (some (.dat (.int (h : Int)))) (some (.dat (.int top))) a11 a12 a13
  have as := at_oZ (ns := lev) (j := s) (by omega)
  have ab := at_oZ (ns := lev) (j := b) (by omega)
  have t4 : tsE (eOp (fIn false) (eVar 5) (eLst false (aCons (eOp fIx (eVar 1) (eVar 2)) (aCons (eOp fIx (eVar 1) (eVar 3)) (aNil))))) [some (.dat (flo R U)), some (.dat (.list (iZ lev))), some (.dat (.int (s : Int))), some (.dat (.int (b : Int))), a4, some (.dat (.int L)), a6, some (.dat (.list (iZ Z))), some (.ptr 2), some (.dat (.int (h : Int))), some (.dat (.int top)), a11, a12, a13] μ = some (decide (L = z0 lev s ∨ L = z0 lev b), μ) := by
    have e1 : (eLst false (aCons (eOp fIx (eVar 1) (eVar 2)) (aCons (eOp fIx (eVar 1) (eVar 3)) (aNil)))) [some (.dat (flo R U)), some (.dat (.list (iZ lev))), some (.dat (.int (s : Int))), some (.dat (.int (b : Int))), a4, some (.dat (.int L)), a6, some (.dat (.list (iZ Z))), some (.ptr 2), some (.dat (.int (h : Int))), some (.dat (.int top)), a11, a12, a13] μ = some (.dat (.list [.int (z0 lev s), .int (z0 lev b)]), μ) := by
      simp [as, ab, asDats, cap]
    have ez : [PyData.int (z0 lev s), .int (z0 lev b)] = iZ [z0 lev s, z0 lev b] := rfl
    rw [ez] at e1
    have u : ∀ (f : OpF) (a b : EvF) (ε : Evn) (μ : Sto), eOp f a b ε μ = (a ε μ).bind fun x => (b ε x.2).bind fun y => f x.1 y.1 y.2 := fun _ _ _ _ _ => rfl
    have v5 : eVar 5 [some (.dat (flo R U)), some (.dat (.list (iZ lev))), some (.dat (.int (s : Int))), some (.dat (.int (b : Int))), a4, some (.dat (.int L)), a6, some (.dat (.list (iZ Z))), some (.ptr 2), some (.dat (.int (h : Int))), some (.dat (.int top)), a11, a12, a13] μ = some (.dat (.int L), μ) := rfl
    unfold tsE
    rw [u, v5]
    simp only [Option.bind_some]
    rw [e1]
    simp
  have t5 : tsOr (tsE (eOp (fIn true) (eVar 2) (eVar 7))) (tsE (eOp (fIn false) (eVar 3) (eVar 7))) [some (.dat (flo R U)), some (.dat (.list (iZ lev))), some (.dat (.int (s : Int))), some (.dat (.int (b : Int))), a4, some (.dat (.int L)), a6, some (.dat (.list (iZ Z))), some (.ptr 2), some (.dat (.int (h : Int))), some (.dat (.int top)), a11, a12, a13] μ = some (decide ((s : Int) ∉ Z ∨ (b : Int) ∈ Z), μ) := by
    by_cases c1 : (s : Int) ∈ Z
    · by_cases c2 : (b : Int) ∈ Z
      · simp [c1, c2]
      · simp [c1, c2]
    · simp [c1]
  unfold faultR
  by_cases h1 : h = b
  · rw [if_neg (fun z => z h1)]
    rw [decide_eq_true (by omega : (h : Int) = (b : Int))] at t1
    rw [restL, seq_f t1]
    by_cases h2 : top = L
    · rw [if_neg (fun z => z h2)]
      rw [decide_eq_true h2] at t2
      rw [seq_f t2]
      by_cases h3 : PoolFine n Z
      · rw [if_neg (fun z => z h3)]
        have : t = false := by
          cases t with
          | false => rfl
          | true => exact absurd h3 (ht.mp rfl)
        subst this
        rw [seq_f t3]
        by_cases h4 : L = z0 lev s ∨ L = z0 lev b
        · rw [if_pos h4]
          rw [decide_eq_true h4] at t4
          rw [seq_t t4]
          rfl
        · rw [if_neg h4]
          rw [decide_eq_false h4] at t4
          rw [seq_f t4]
          by_cases h5 : (s : Int) ∉ Z ∨ (b : Int) ∈ Z
          · rw [if_pos h5]
            rw [decide_eq_true h5] at t5
            rw [seq_t t5 (ret_1 _ _ _)]
          · rw [if_neg h5]
            rw [decide_eq_false h5] at t5
            rw [seq_f t5]
            obtain ⟨z1, z2⟩ := toNat_Z h3.2
            have z3 : iZ Z = iL (Z.map Int.toNat) := by rw [iL_iZ, z1]
            rw [z3]
            obtain ⟨o, e, hh⟩ := L2_lf_eq (L := L) (N := Z.map Int.toNat) F hl z2 (some (.dat (flo R U))) (some (.dat (.int (s : Int)))) (some (.dat (.int (b : Int)))) a4 a6 (some (.dat (.int (h : Int)))) (some (.dat (.int top))) a11 a12 a13
            subst hμ
            unfold sSeq
            rw [e]
            rcases hh with ⟨v, hv, rfl⟩ | ⟨hv, ε, rfl⟩
            · rw [hv]; rfl
            · rw [hv]; rfl
      · rw [if_pos h3]
        have : t = true := ht.mpr h3
        subst this
        rw [seq_t t3 (ret_1 _ _ _)]
    · rw [if_pos h2]
      rw [decide_eq_false h2] at t2
      rw [seq_t t2 (ret_1 _ _ _)]
  · rw [if_pos h1]
    rw [decide_eq_false (by omega : ¬ (h : Int) = (b : Int))] at t1
    rw [restL, seq_t t1 (ret_1 _ _ _)]
abbrev told (L : Int) (w : Str) (Z : List Int) : PyData := .tuple [.int L, .str w, .list (iZ Z)]
theorem F_lpf_eq {R U : List Nat} {lev Z : List Int} {w : Str} {s b n : Nat} {L : Int} (F : Flo R U n) (hl : lev.length = n) (hs : s < n) (hb : b < n) (hZ : Z.length < 64) :
    F_lowest_pass_fault [flo R U, .list (iZ lev), .int (s : Int), .int (b : Int), told L w Z] = some (faultV R U lev n s b L w Z) := by
  have hn := F.small
  have as := at_oZ (ns := lev) (j := s) (by omega)
  have nl := F_near_lists_eq R U (by rw [F.lR]; omega) (by rw [F.lU]; omega) F.oR.low F.oU.low
  have md : mergeP [] [((.inr "r" : Key), PV.dat (.list (iL R))), (.inr "l", .dat (.list (iL (inv R)))), (.inr "u", .dat (.list (iL U))), (.inr "d", .dat (.list (iL (inv U))))] = dicN R U := merge4 (by decide) (by decide) (by decide) (by decide) (by decide) (by decide)
  obtain ⟨o, e, h⟩ := L1_lpf_eq (w := w) (m := z0 lev s) F hl hs (some (.dat (flo R U))) (some (.dat (.int (s : Int)))) (some (.dat (.int (b : Int)))) (some (.dat (told L w Z))) (some (.dat (.int L))) (some (.dat (.list (iZ Z)))) none none none none
  unfold faultV
  rcases h with ⟨k, hk, rfl⟩ | ⟨h, top, a11, a12, hk, rfl⟩
  · rw [hk]
    simp [F_lowest_pass_fault, r_lowest_pass_fault, asDats, nl, md, as, e, cap]
  · rw [hk]
    have e2 := restP_eq (L := L) (Z := Z) (s := s) (b := b) (h := h) (top := top) F hl hs hb hZ [.dic (dicN R U)] (some (.dat (told L w Z))) (some (.dat (.str w))) (some (.ptr 0)) a11 a12 none none
    refine fnP_rt rfl (μ := [.dic (dicN R U)]) ?_
    have x1 : sAsg (eVar 4) (tgT 3 (tgsCons (tgN 5) (tgsCons (tgN 6) (tgsCons (tgN 7) (tgsNil))))) (startE 15 ([flo R U, .list (iZ lev), .int (s : Int), .int (b : Int), told L w Z].map PV.dat)) [] = some (.nx [some (.dat (flo R U)), some (.dat (.list (iZ lev))), some (.dat (.int (s : Int))), some (.dat (.int (b : Int))), some (.dat (told L w Z)), some (.dat (.int L)), some (.dat (.str w)), some (.dat (.list (iZ Z))), none, none, none, none, none, none, none] []) := rfl
    have x2 : sSet 8 (eDicT 1 F_near_lists (aCons (eVar 0) (aNil))) [some (.dat (flo R U)), some (.dat (.list (iZ lev))), some (.dat (.int (s : Int))), some (.dat (.int (b : Int))), some (.dat (told L w Z)), some (.dat (.int L)), some (.dat (.str w)), some (.dat (.list (iZ Z))), none, none, none, none, none, none, none] [] = some (.nx [some (.dat (flo R U)), some (.dat (.list (iZ lev))), some (.dat (.int (s : Int))), some (.dat (.int (b : Int))), some (.dat (told L w Z)), some (.dat (.int L)), some (.dat (.str w)), some (.dat (.list (iZ Z))), some (.ptr 0), none, none, none, none, none, none] [.dic (dicN R U)]) := by
      simp [asDats, nl, md, cap]
    have x3 : sSet 9 (eVar 2) [some (.dat (flo R U)), some (.dat (.list (iZ lev))), some (.dat (.int (s : Int))), some (.dat (.int (b : Int))), some (.dat (told L w Z)), some (.dat (.int L)), some (.dat (.str w)), some (.dat (.list (iZ Z))), some (.ptr 0), none, none, none, none, none, none] [.dic (dicN R U)] = some (.nx [some (.dat (flo R U)), some (.dat (.list (iZ lev))), some (.dat (.int (s : Int))), some (.dat (.int (b : Int))), some (.dat (told L w Z)), some (.dat (.int L)), some (.dat (.str w)), some (.dat (.list (iZ Z))), some (.ptr 0), some (.dat (.int (s : Int))), none, none, none, none, none] [.dic (dicN R U)]) := rfl
    have x4 : sSet 10 (eOp fIx (eVar 1) (eVar 2)) [some (.dat (flo R U)), some (.dat (.list (iZ lev))), some (.dat (.int (s : Int))), some (.dat (.int (b : Int))), some (.dat (told L w Z)), some (.dat (.int L)), some (.dat (.str w)), some (.dat (.list (iZ Z))), some (.ptr 0), some (.dat (.int (s : Int))), none, none, none, none, none] [.dic (dicN R U)] = some (.nx [some (.dat (flo R U)), some (.dat (.list (iZ lev))), some (.dat (.int (s : Int))), some (.dat (.int (b : Int))), some (.dat (told L w Z)), some (.dat (.int L)), some (.dat (.str w)), some (.dat (.list (iZ Z))), some (.ptr 0), some (.dat (.int (s : Int))), some (.dat (.int (z0 lev s))), none, none, none, none] [.dic (dicN R U)]) := by
      simp [as]
    rw [r_lowest_pass_fault, seq_nx x1, seq_nx x2, seq_nx x3, seq_nx x4, seq_nx e]
    exact e2
theorem F_lf_eq {R U : List Nat} {lev Z : List Int} {w : Str} {s b n : Nat} {L : Int} (F : Flo R U n) (hl : lev.length = n) (hs : s < n) (hb : b < n) (hZ : Z.length < 64) (hwl : w.length ≤ 1000) (hok : WOk w) :
    F__law_fault [flo R U, .list (iZ lev), .int (s : Int), .int (b : Int), told L w Z] = some (faultV R U lev n s b L w Z) := by
  have hn := F.small
  have as := at_oZ (ns := lev) (j := s) (by omega)
  have ll := F__law_lists_eq F
  obtain ⟨o, e, h⟩ := L1_lf_eq (w := w) (m := z0 lev s) F hl hs hwl hok (some (.dat (flo R U))) (some (.dat (.int (s : Int)))) (some (.dat (.int (b : Int)))) (some (.dat (told L w Z))) (some (.dat (.int L))) (some (.dat (.list (iZ Z)))) none none none
  have x1 : sAsg (eVar 4) (tgT 3 (tgsCons (tgN 5) (tgsCons (tgN 6) (tgsCons (tgN 7) (tgsNil))))) (startE 14 ([flo R U, .list (iZ lev), .int (s : Int), .int (b : Int), told L w Z].map PV.dat)) [] = some (.nx [some (.dat (flo R U)), some (.dat (.list (iZ lev))), some (.dat (.int (s : Int))), some (.dat (.int (b : Int))), some (.dat (told L w Z)), some (.dat (.int L)), some (.dat (.str w)), some (.dat (.list (iZ Z))), none, none, none, none, none, none] []) := rfl
  have x2 : sAsgT 3 (aCons (eCallG 1 F__law_lists (aCons (eVar 0) (aNil))) (aCons (eVar 2) (aCons (eOp fIx (eVar 1) (eVar 2)) (aNil)))) (tgsCons (tgN 8) (tgsCons (tgN 9) (tgsCons (tgN 10) (tgsNil)))) [some (.dat (flo R U)), some (.dat (.list (iZ lev))), some (.dat (.int (s : Int))), some (.dat (.int (b : Int))), some (.dat (told L w Z)), some (.dat (.int L)), some (.dat (.str w)), some (.dat (.list (iZ Z))), none, none, none, none, none, none] [] = some (.nx [some (.dat (flo R U)), some (.dat (.list (iZ lev))), some (.dat (.int (s : Int))), some (.dat (.int (b : Int))), some (.dat (told L w Z)), some (.dat (.int L)), some (.dat (.str w)), some (.dat (.list (iZ Z))), some (.ptr 2), some (.dat (.int (s : Int))), some (.dat (.int (z0 lev s))), none, none, none] (lsSt R U)) := by
    simp [ll, as, cap]
  unfold faultV
  rcases h with ⟨k, hk, rfl⟩ | ⟨h, top, a11, hk, rfl⟩
  · rw [hk]
    refine fnP_rt rfl (μ := lsSt R U) ?_
    rw [r__law_fault, seq_nx x1, seq_nx x2, seq_rt e]
  · rw [hk]
    have e2 := restL_eq (L := L) (Z := Z) (s := s) (b := b) (h := h) (top := top) F hl hs hb hZ (some (.dat (told L w Z))) (some (.dat (.str w))) a11 none none
    refine fnP_rt rfl (μ := lsSt R U) ?_
    rw [r__law_fault, seq_nx x1, seq_nx x2, seq_nx e]
    exact e2
end CM
namespace CM
open PySem L2 VX
/-! ### what lowest_pass tells has no fault -/
theorem scan_none {R U : List Nat} {lev : List Int} {L : Int} {N : List Nat} : ∀ M : List Nat, (∀ x ∈ M, z0 lev x < L ∧ ∀ y ∈ nbs4 R U x, ¬ outN lev L N y) → scan R U lev L N M = none
  | [], _ => rfl
  | x :: r, h => by
    obtain ⟨h1, h2⟩ := h x List.mem_cons_self
    rw [scan, if_neg (by omega), if_neg (fun ⟨y, hy, c⟩ => h2 y hy c)]
    exact scan_none r fun y hy => h y (List.mem_cons_of_mem _ hy)
theorem rowOf_ok {R U row : List Nat} {c : Str} (h : rowOf R U c = some row) : PyData.strOk c = true := by
  unfold rowOf at h
  split at h
  · rename_i q; subst q; exact ok_r
  · split at h
    · rename_i q; subst q; exact ok_l
    · split at h
      · rename_i q; subst q; exact ok_u
      · split at h
        · rename_i q; subst q; exact ok_d
        · cases h
theorem wk_ok {R U : List Nat} {lev : List Int} : ∀ (cs : List Str) {k h : Nat} {m : Int} {r : Nat × Int}, wk R U lev cs k h m = .inr r → ∀ c ∈ cs, PyData.strOk c = true
  | [], _, _, _, _, _, c, hc => by cases hc
  | c' :: cs, k, h, m, r, e, c, hc => by
    simp only [wk] at e
    split at e
    · cases e
    · rename_i row hr
      rcases List.mem_cons.mp hc with rfl | hc
      · exact rowOf_ok hr
      · exact wk_ok cs e c hc
theorem Told.wok {R U : List Nat} {lev Z : List Int} {s b : Nat} {L : Int} {w : Str} (h : Told R U lev s b L w Z) : WOk w := by
  obtain ⟨top, e, _⟩ := h.word
  exact wk_ok _ e
theorem Told.zlen {R U : List Nat} {lev Z : List Int} {s b n : Nat} {L : Int} {w : Str} (F : Flo R U n) (hs : s < n) (h : Told R U lev s b L w Z) : Z.length ≤ n ∧ (∀ x ∈ Z, 0 ≤ x ∧ x < (n : Int)) ∧ Z.Pairwise (· < ·) := by
  have hn := F.small
  rcases h.pool with ⟨rfl, _⟩ | ⟨m, _, _, _, hp⟩
  · exact ⟨Nat.zero_le _, (fun x hx => by cases hx), List.Pairwise.nil⟩
  · have hb : ∀ x ∈ Z, 0 ≤ x ∧ x < (n : Int) := fun x hx => by
      obtain ⟨y, rfl, r⟩ := (hp.mem x).mp hx
      have := r.lt hs F.nb_lt
      omega
    refine ⟨?_, hb, hp.up⟩
    obtain ⟨z1, z2⟩ := toNat_Z hb
    have nd : (Z.map Int.toNat).Nodup := by
      refine List.pairwise_map.mpr ((List.Pairwise.and_mem.mp hp.up).imp ?_)
      rintro x y ⟨hx, hy, hlt⟩ z
      have := hb x hx
      have := hb y hy
      omega
    have := nodup_len n _ nd z2
    simp at this
    omega
theorem fault_told {R U : List Nat} {lev Z : List Int} {s b n : Nat} {L : Int} {w : Str} (F : Flo R U n) (hl : lev.length = n) (hs : s < n) (hb : b < n) (h : Told R U lev s b L w Z) : faultV R U lev n s b L w Z = .none := by
  obtain ⟨top, e, ht⟩ := h.word
  have hsm : z0 lev s ∈ lev := z0_mem (by omega)
  have r1 := (wk_rc (s := s) _ (.refl (by simp)) e).2
  have r2 := (wk_top F hl _ hs hsm e).1
  have et : top = L := by
    rcases Int.lt_or_eq_of_le ht with c | c
    · exact absurd r1 (h.low.min top r2 c)
    · exact c
  subst et
  unfold faultV
  rw [e]
  show faultR R U lev n s b top Z b top = .none
  obtain ⟨_, hz, hup⟩ := h.zlen F hs
  unfold faultR
  rw [if_neg (fun z => z rfl), if_neg (fun z => z rfl), if_neg (fun z => z ⟨strict_uniq hup usort_sorted fun x => mem_usort.symm, hz⟩)]
  by_cases h4 : top = z0 lev s ∨ top = z0 lev b
  · rw [if_pos h4]
  rw [if_neg h4]
  have hlt : z0 lev s < top := by
    have : z0 lev s ≤ top := of_decide_eq_true h.low.rc.ok0
    have : z0 lev s ≠ top := fun z => h4 (.inl z.symm)
    omega
  rcases h.pool with ⟨rfl, hno⟩ | ⟨m, hm, hmL, hmax, hp⟩
  · exact absurd hlt (hno _ hsm)
  · have hsZ : (s : Int) ∈ Z := (hp.mem _).mpr ⟨s, rfl, .refl (decide_eq_true (hmax _ hsm hlt))⟩
    have hbZ : (b : Int) ∉ Z := fun z => by
      obtain ⟨x, ex, r⟩ := (hp.mem _).mp z
      have : b = x := by omega
      subst this
      exact h.low.min m hm hmL r
    rw [if_neg (fun z => z.elim (fun z => z hsZ) hbZ)]
    obtain ⟨z1, z2⟩ := toNat_Z hz
    have inN : ∀ x : Nat, x ∈ Z.map Int.toNat ↔ Rc (nbs4 R U) (okL lev m) s x := by
      intro x
      rw [← mem_toZ, z1, hp.mem]
      exact ⟨fun ⟨y, ey, r⟩ => by rwa [show x = y by omega], fun r => ⟨x, rfl, r⟩⟩
    rw [scan_none]
    · rfl
    · intro x hx
      have r := (inN x).mp hx
      have : z0 lev x ≤ m := of_decide_eq_true r.ok
      refine ⟨by omega, fun y hy c => c.1 ((inN y).mpr (.step r hy (decide_eq_true (hmax _ (z0_mem ?_) c.2))))⟩
      rw [hl]
      exact F.nb_lt _ (r.lt hs F.nb_lt) _ hy
end CM
namespace CM
open PySem L2 VX
/-! ### the script read -/
structure StA (μ : Sto) (p q : Nat) : Prop where
  ne : p ≠ q
  ex : ∃ (cs : List Int) (a : Int), μ[p]? = some (.lst [.dat (.int a), .ptr q]) ∧ μ[q]? = some (.lst (oZ cs)) ∧ cs ≠ [] ∧ cs.length ≤ 63
/-- all but p and q stays -/
structure Fr (p q : Nat) (μ μ' : Sto) : Prop where
  len : μ'.length = μ.length
  at' : ∀ k, k ≠ p → k ≠ q → μ'[k]? = μ[k]?
theorem Fr.refl (p q : Nat) (μ : Sto) : Fr p q μ μ := ⟨rfl, fun _ _ _ => rfl⟩
theorem Fr.trans {p q : Nat} {μ μ' μ'' : Sto} (h : Fr p q μ μ') (h' : Fr p q μ' μ'') : Fr p q μ μ'' := ⟨h'.len.trans h.len, fun k h1 h2 => (h'.at' k h1 h2).trans (h.at' k h1 h2)⟩
@[simp] theorem oZ_set (ns : List Int) (i : Nat) (n : Int) : (oZ ns).set i (PV.dat (.int n)) = oZ (ns.set i n) := by
  unfold oZ
  rw [List.map_set]
theorem F__law_take_eq {μ : Sto} {p q : Nat} (h : StA μ p q) {most : Nat} (h1 : 0 < most) (h2 : most ≤ 1000) :
    ∃ (v : Nat) (μ' : Sto), F__law_take [.ptr p, .dat (.int (most : Int))] μ = some (.dat (.int (v : Int)), μ') ∧ v < most ∧ StA μ' p q ∧ Fr p q μ μ' := by
  obtain ⟨cs, a, hp, hq, hne, hlen⟩ := h.ex
  have hpl : p < μ.length := (List.getElem?_eq_some_iff.mp hp).1
  have hql : q < μ.length := (List.getElem?_eq_some_iff.mp hq).1
  have hc0 : 0 < cs.length := List.length_pos_iff.mpr hne
  have hnn : 0 ≤ a % (cs.length : Int) := Int.emod_nonneg _ (by omega)
  have hlt : a % (cs.length : Int) < (cs.length : Int) := Int.emod_lt_of_pos _ (by omega)
  obtain ⟨j, ej⟩ : ∃ j : Nat, a % (cs.length : Int) = (j : Int) := ⟨(a % (cs.length : Int)).toNat, by omega⟩
  have hj : j < cs.length := by omega
  have aj := at_oZ hj
  have m1 : (0 : Int) < (most : Int) := by omega
  have m2 : (most : Int) < 1073741824 := by omega
  have emz : ∀ z : Int, ∃ v : Nat, z % (most : Int) = (v : Int) ∧ v < most := fun z => by
    have := Int.emod_nonneg z (b := (most : Int)) (by omega)
    have := Int.emod_lt_of_pos z m1
    exact ⟨(z % (most : Int)).toNat, by omega, by omega⟩
  by_cases hc : (1000000000000000000 : Int) ≤ z0 cs j
  · obtain ⟨v, ev, hv⟩ := emz (z0 cs j)
    refine ⟨v, μ.set q (.lst (oZ (cs.set j (z0 cs j / (most : Int))))), ?_, hv, ⟨h.ne, cs.set j (z0 cs j / (most : Int)), a, ?_, ?_, ?_, by simpa using hlen⟩, ⟨by simp, fun k k1 k2 => ?_⟩⟩
    · simp [F__law_take, r__law_take, hp, hq, ej, aj, hc, h1, m2, ev, hc0, ixN_natD hj]
    · rw [List.getElem?_set_ne (fun z => h.ne z.symm)]; exact hp
    · simp [hql]
    · intro z; rw [List.set_eq_nil_iff] at z; exact hne z
    · rw [List.getElem?_set_ne (fun z => k2 z.symm)]
  · obtain ⟨v, ev, hv⟩ := emz (((z0 cs j * 48271 + (a + 1) * 69621) % 2147483647 * 16807 + (a + 1) * 7919) % 1000000007 / 7)
    have sp : (μ.set p (.lst [.dat (.int (a + 1)), .ptr q]))[p]? = some (.lst [.dat (.int (a + 1)), .ptr q]) := by simp [hpl]
    refine ⟨v, μ.set p (.lst [.dat (.int (a + 1)), .ptr q]), ?_, hv, ⟨h.ne, cs, a + 1, ?_, ?_, hne, hlen⟩, ⟨by simp, fun k k1 k2 => ?_⟩⟩
    · simp [F__law_take, r__law_take, hp, hq, ej, aj, hc, h1, m2, ev, hc0, sp, inMul, inB, ixN]
    · simp [hpl]
    · rw [List.getElem?_set_ne h.ne]; exact hq
    · rw [List.getElem?_set_ne (fun z => k1 z.symm)]
end CM
namespace CM
open PySem L2 VX
theorem cutP_take (ns : List Int) (k : Nat) : cutP (oZ ns) none (some (k : Int)) = oZ (ns.take k) := by
  unfold cutP
  rw [HT.sIx_none, HT.sIx_nat]
  simp only [len_oZ, Nat.sub_zero, List.drop_zero]
  unfold oZ
  rw [← List.map_take]
  by_cases h : k ≤ ns.length
  · rw [Nat.min_eq_left h]
  · rw [Nat.min_eq_right (by omega), List.take_of_length_le (by omega : ns.length ≤ k), List.take_of_length_le (Nat.le_refl _)]
theorem F__law_state_eq {ns : List Int} (h : ns.length ≤ 63) : ∃ p q μ, F__law_state [.scr ns] [] = some (.ptr p, μ) ∧ StA μ p q := by
  have e := lcD_map (G := fun _ => true) (tg := tgN 2) (te := eCa fAbs (aCons (eVar 2) aNil)) (w := [some (.scr ns), none, none]) (μ := []) (fun p => match p with | .dat (.int x) => .dat (.int (if x < 0 then -x else x)) | p => p) (oZ (ns.take 63)) (fun p hp => by
    obtain ⟨x, _, rfl⟩ := List.mem_map.mp hp
    exact ⟨_, rfl, by simp⟩) rfl
  have e2 : (oZ (ns.take 63)).map (fun p => match p with | .dat (.int x) => PV.dat (.int (if x < 0 then -x else x)) | p => p) = oZ ((ns.take 63).map fun x => if x < 0 then -x else x) := by
    unfold oZ
    rw [List.map_map, List.map_map]
    rfl
  rw [e2] at e
  generalize hcs : ((ns.take 63).map fun x => if x < 0 then -x else x) = cs at e
  have hl : cs.length ≤ 63 := by rw [← hcs, List.length_map]; exact List.length_take_le _ _
  have ht : (ns.take 63).length ≤ 1000000 := by have := List.length_take_le 63 ns; omega
  have hc : cutP (oZ ns) none (some 63) = oZ (ns.take 63) := cutP_take ns 63
  have c1 : C1__law_state [some (.scr ns), none, none] [] = some (.ptr 0, [.lst (oZ cs)]) := by
    have s1 : srcSeq (eSl false (eVar 0) poN (poE (eC (.int 63)))) [some (.scr ns), none, none] [] = some ((oZ (ns.take 63), none), []) := by
      simp [-List.length_take, cap, ht, hc]
    have c : cs.length ≤ 1000000 := by omega
    unfold C1__law_state eLc
    rw [s1]
    simp only [Option.bind_some, okG_none, wipeE, List.set_cons_succ, List.set_cons_zero]
    rw [e]
    simp [cap, c]
  cases cs with
  | nil =>
    refine ⟨2, 1, [.lst [], .lst [.dat (.int 0)], .lst [.dat (.int 0), .ptr 1]], ?_, by decide, [0], 0, rfl, rfl, by simp, by decide⟩
    rw [show oZ [] = [] from rfl] at c1
    simp [F__law_state, r__law_state, c1, cap]
  | cons x r =>
    refine ⟨1, 0, [.lst (oZ (x :: r)), .lst [.dat (.int 0), .ptr 0]], ?_, by decide, x :: r, 0, rfl, rfl, by simp, hl⟩
    have hne : ¬ ((r.length : Int) + 1 = 0) := by omega
    simp [F__law_state, r__law_state, c1, cap, hne]
/-! ### a square put in -/
def insN (R : List Nat) (x : Nat) : List Nat := if x < R.length then ((R ++ [R.length]).set R.length (g0 R x)).set x R.length else R ++ [R.length]
@[simp] theorem insN_len (R : List Nat) (x : Nat) : (insN R x).length = R.length + 1 := by unfold insN; split <;> simp
theorem insN_old {R : List Nat} {x j : Nat} (hj : j < R.length) : g0 (insN R x) j = if x = j then R.length else g0 R j := by
  unfold insN
  by_cases h : x < R.length
  · rw [if_pos h, g0_set (by simp; omega)]
    by_cases e : x = j
    · rw [if_pos e, if_pos e]
    · rw [if_neg e, if_neg e, g0_set (by simp; omega), if_neg (by omega), g0_app hj]
  · rw [if_neg h, if_neg (by omega), g0_app hj]
theorem insN_new {R : List Nat} {x : Nat} : g0 (insN R x) R.length = if x < R.length then g0 R x else R.length := by
  unfold insN
  by_cases h : x < R.length
  · rw [if_pos h, if_pos h, g0_set (by simp), if_neg (by omega), g0_set (by simp), if_pos rfl]
  · rw [if_neg h, if_neg h]
    rw [g0_of (by simp)]
    simp
theorem insN_ord {R : List Nat} (o : Ord R) (x : Nat) : Ord (insN R x) := by
  have lowR : ∀ j, j < R.length → g0 R j < R.length := o.low
  refine ord_of (fun j h => ?_) fun i j hi hj e => ?_
  · rw [insN_len] at h ⊢
    by_cases hj : j < R.length
    · rw [insN_old hj]
      have := lowR j hj
      split <;> omega
    · have : j = R.length := by omega
      subst this
      rw [insN_new]
      split
      · have := lowR x (by assumption); omega
      · omega
  · rw [insN_len] at hi hj
    by_cases h1 : i < R.length
    · by_cases h2 : j < R.length
      · rw [insN_old h1, insN_old h2] at e
        have a := lowR i h1
        have b := lowR j h2
        by_cases c1 : x = i
        · by_cases c2 : x = j
          · omega
          · rw [if_pos c1, if_neg c2] at e; omega
        · by_cases c2 : x = j
          · rw [if_neg c1, if_pos c2] at e; omega
          · rw [if_neg c1, if_neg c2] at e; exact o.inj h1 h2 e
      · have : j = R.length := by omega
        subst this
        rw [insN_old h1, insN_new] at e
        have a := lowR i h1
        by_cases c1 : x = i
        · rw [if_pos c1, if_pos (by omega)] at e
          have b := lowR x (by omega)
          omega
        · rw [if_neg c1] at e
          split at e
          · have := o.inj h1 (by assumption) e; omega
          · omega
    · have : i = R.length := by omega
      subst this
      by_cases h2 : j < R.length
      · rw [insN_old h2, insN_new] at e
        have a := lowR j h2
        by_cases c1 : x = j
        · rw [if_pos c1, if_pos (by omega)] at e
          have b := lowR x (by omega)
          omega
        · rw [if_neg c1] at e
          split at e
          · have := o.inj (by assumption) h2 e; omega
          · omega
      · omega
theorem insN_flo {R U : List Nat} {n x y : Nat} (F : Flo R U n) (hn : n + 1 ≤ 60) : Flo (insN R x) (insN U y) (n + 1) :=
  ⟨by rw [insN_len, F.lR], by rw [insN_len, F.lU], insN_ord F.oR x, insN_ord F.oU y, hn⟩
theorem hang_ins {R U : List Nat} {n x y : Nat} (F : Flo R U n) (C : Hang R U n) (hn : n + 1 ≤ 60) (hx : x < n ∨ y < n) : Hang (insN R x) (insN U y) (n + 1) := by
  have F' := insN_flo (x := x) (y := y) F hn
  have sym : ∀ {a b : Nat}, a < n + 1 → Rc (nbs4 (insN R x) (insN U y)) (fun _ => true) a b → Rc (nbs4 (insN R x) (insN U y)) (fun _ => true) b a := fun ha r => r.symm ha F'.nb_lt F'.nb_symm
  have one : ∀ {a b : Nat}, b ∈ nbs4 (insN R x) (insN U y) a → Rc (nbs4 (insN R x) (insN U y)) (fun _ => true) a b := fun hb => .step (.refl rfl) hb rfl
  have sR : ∀ a, g0 (insN R x) a ∈ nbs4 (insN R x) (insN U y) a := fun a => by simp [nbs4]
  have sU : ∀ a, g0 (insN U y) a ∈ nbs4 (insN R x) (insN U y) a := fun a => by simp [nbs4]
  have eR : ∀ a, a < n → Rc (nbs4 (insN R x) (insN U y)) (fun _ => true) a (g0 R a) := by
    intro a ha
    have h1 := insN_old (R := R) (x := x) (j := a) (by rw [F.lR]; exact ha)
    by_cases e : x = a
    · rw [if_pos e] at h1
      have h2 := insN_new (R := R) (x := x)
      rw [if_pos (by rw [F.lR]; omega), e] at h2
      have s1 := one (sR a)
      have s2 := one (sR R.length)
      rw [e] at s1 s2
      rw [e] at h1
      rw [h1] at s1
      rw [h2] at s2
      rw [e]
      exact s1.trans s2
    · rw [if_neg e] at h1
      have s1 := one (sR a)
      rw [h1] at s1
      exact s1
  have eU : ∀ a, a < n → Rc (nbs4 (insN R x) (insN U y)) (fun _ => true) a (g0 U a) := by
    intro a ha
    have h1 := insN_old (R := U) (x := y) (j := a) (by rw [F.lU]; exact ha)
    by_cases e : y = a
    · rw [if_pos e] at h1
      have h2 := insN_new (R := U) (x := y)
      rw [if_pos (by rw [F.lU]; omega), e] at h2
      have s1 := one (sU a)
      have s2 := one (sU U.length)
      rw [e] at s1 s2
      rw [e] at h1
      rw [h1] at s1
      rw [h2] at s2
      rw [e]
      exact s1.trans s2
    · rw [if_neg e] at h1
      have s1 := one (sU a)
      rw [h1] at s1
      exact s1
  have old : ∀ {a b : Nat}, a < n → Rc (nbs4 R U) (fun _ => true) a b → Rc (nbs4 (insN R x) (insN U y)) (fun _ => true) a b := by
    intro a b ha r
    induction r with
    | refl => exact .refl rfl
    | @step b c r m _ ih =>
      have hb := r.lt ha F.nb_lt
      refine ih.trans ?_
      simp only [nbs4, List.mem_cons, List.not_mem_nil, or_false] at m
      rcases m with rfl | rfl | rfl | rfl
      · exact eR b hb
      · obtain ⟨h1, h2⟩ := at_inv F.oR (x := b) (by rw [F.lR]; exact hb)
        have h2' : g0 (inv R) b < n := by rw [← F.lR]; exact h2
        have := eR _ h2'
        rw [h1] at this
        exact sym (by omega) this
      · exact eU b hb
      · obtain ⟨h1, h2⟩ := at_inv F.oU (x := b) (by rw [F.lU]; exact hb)
        have h2' : g0 (inv U) b < n := by rw [← F.lU]; exact h2
        have := eU _ h2'
        rw [h1] at this
        exact sym (by omega) this
  obtain ⟨z, hz, rz⟩ : ∃ z, z < n ∧ Rc (nbs4 (insN R x) (insN U y)) (fun _ => true) z n := by
    rcases hx with h | h
    · refine ⟨x, h, ?_⟩
      have h1 := insN_old (R := R) (x := x) (j := x) (by rw [F.lR]; exact h)
      rw [if_pos rfl, F.lR] at h1
      have := one (sR x)
      rw [h1] at this
      exact this
    · refine ⟨y, h, ?_⟩
      have h1 := insN_old (R := U) (x := y) (j := y) (by rw [F.lU]; exact h)
      rw [if_pos rfl, F.lU] at h1
      have := one (sU y)
      rw [h1] at this
      exact this
  have toZ' : ∀ a, a < n + 1 → Rc (nbs4 (insN R x) (insN U y)) (fun _ => true) a z := by
    intro a ha
    by_cases h : a < n
    · exact old h (C a z h hz)
    · have : a = n := by omega
      subst this
      exact sym (by omega) rz
  intro a b ha hb
  exact (toZ' a ha).trans (sym hb (toZ' b hb))
end CM
namespace CM
open PySem L2 VX
/-! ### the floor put together -/
theorem seq_nx' {A C : RnF} {ε ε' : Evn} {μ μ' : Sto} {o : Out} (h : A ε μ = some (.nx ε' μ')) (h' : C ε' μ' = some o) : sSeq A C ε μ = some o := by rw [seq_nx h, h']
theorem StA.fr {μ μ' : Sto} {p q : Nat} (h : StA μ p q) (hp : μ'[p]? = μ[p]?) (hq : μ'[q]? = μ[q]?) : StA μ' p q := by
  obtain ⟨cs, a, h1, h2, h3⟩ := h.ex
  exact ⟨h.ne, cs, a, by rw [hp]; exact h1, by rw [hq]; exact h2, h3⟩
theorem StA.lt {μ : Sto} {p q : Nat} (h : StA μ p q) : p < μ.length ∧ q < μ.length := by
  obtain ⟨cs, a, h1, h2, h3⟩ := h.ex
  exact ⟨(List.getElem?_eq_some_iff.mp h1).1, (List.getElem?_eq_some_iff.mp h2).1⟩
theorem take_e {μ : Sto} {p q : Nat} (h : StA μ p q) {most : Nat} (h1 : 0 < most) (h2 : most ≤ 1000) {ε : Evn} {e1 e2 : EvF} (x1 : e1 ε μ = some (.ptr p, μ)) (x2 : e2 ε μ = some (.dat (.int (most : Int)), μ)) :
    ∃ (v : Nat) (μ' : Sto), eCallG 2 F__law_take (aCons e1 (aCons e2 aNil)) ε μ = some (.dat (.int (v : Int)), μ') ∧ v < most ∧ StA μ' p q ∧ Fr p q μ μ' := by
  obtain ⟨v, μ', e, r⟩ := F__law_take_eq h h1 h2
  refine ⟨v, μ', ?_, r⟩
  simp only [eCallG, aCons, aNil, x1, x2, Option.bind_some, List.length_cons, List.length_nil, if_pos, e]
structure FlSt (μ : Sto) (p q pr pu : Nat) (R U : List Nat) : Prop where
  st : StA μ p q
  r : μ[pr]? = some (.lst (oL R))
  u : μ[pu]? = some (.lst (oL U))
  n1 : pr ≠ p
  n2 : pr ≠ q
  n3 : pu ≠ p
  n4 : pu ≠ q
  n5 : pr ≠ pu
theorem FlSt.fr {μ μ' : Sto} {p q pr pu : Nat} {R U : List Nat} (h : FlSt μ p q pr pu R U) (s : StA μ' p q) (f : Fr p q μ μ') : FlSt μ' p q pr pu R U :=
  ⟨s, (f.at' pr h.n1 h.n2).trans h.r, (f.at' pu h.n3 h.n4).trans h.u, h.n1, h.n2, h.n3, h.n4, h.n5⟩
theorem swap_r {μ : Sto} {k c x : Nat} {R : List Nat} (hk : μ[k]? = some (.lst (oL (R ++ [R.length])))) (hc : c = R.length) (a0 a1 a3 a6 : Option PV) :
    sIf (tsE (eOp fLt (eVar 5) (eVar 4))) (sAsgT 2 (aCons (eOp fIx (eVar 2) (eVar 5)) (aCons (eVar 4) (aNil))) (tgsCons (tgSub (eVar 2) (eVar 4)) (tgsCons (tgSub (eVar 2) (eVar 5)) (tgsNil)))) (sNil) [a0, a1, some (.ptr k), a3, some (.dat (.int (c : Int))), some (.dat (.int (x : Int))), a6] μ =
      some (.nx [a0, a1, some (.ptr k), a3, some (.dat (.int (c : Int))), some (.dat (.int (x : Int))), a6] (μ.set k (.lst (oL (insN R x))))) := by
  subst hc
  have hkl : k < μ.length := (List.getElem?_eq_some_iff.mp hk).1
  by_cases h : x < R.length
  · have a := at_oL (ns := R ++ [R.length]) (j := x) (by simp; omega)
    rw [g0_app h] at a
    have i1 : ixN (oL (R ++ [R.length])).length (R.length : Int) = some R.length := ixN_natD (by simp)
    have i2 : ixN (oL ((R ++ [R.length]).set R.length (g0 R x))).length (x : Int) = some x := ixN_natD (by simp; omega)
    have sk : ∀ X, (μ.set k X)[k]? = some X := fun X => by simp [hkl]
    have e1 : insN R x = ((R ++ [R.length]).set R.length (g0 R x)).set x R.length := if_pos h
    have b : ((x : Int) < (R.length : Int)) := by omega
    have t : tsE (eOp fLt (eVar 5) (eVar 4)) [a0, a1, some (.ptr k), a3, some (.dat (.int (R.length : Int))), some (.dat (.int (x : Int))), a6] μ = some (true, μ) := by simp [h]
    have y1 : eOp fIx (eVar 2) (eVar 5) [a0, a1, some (.ptr k), a3, some (.dat (.int (R.length : Int))), some (.dat (.int (x : Int))), a6] μ = some (.dat (.int (g0 R x : Nat)), μ) := by
      simp [-oL_app, -oL_snoc, hk, a]
    have y2 : ∀ v : Nat, tgSub (eVar 2) (eVar 4) (.dat (.int (v : Int))) [a0, a1, some (.ptr k), a3, some (.dat (.int (R.length : Int))), some (.dat (.int (x : Int))), a6] μ = some ([a0, a1, some (.ptr k), a3, some (.dat (.int (R.length : Int))), some (.dat (.int (x : Int))), a6], μ.set k (.lst (oL ((R ++ [R.length]).set R.length v)))) := by
      intro v
      simp only [tgSub, eVar, List.getElem?_cons_succ, List.getElem?_cons_zero, Option.bind_some, hk, i1, Option.map_some, oL_set]
    have y3 : tgSub (eVar 2) (eVar 5) (.dat (.int (R.length : Int))) [a0, a1, some (.ptr k), a3, some (.dat (.int (R.length : Int))), some (.dat (.int (x : Int))), a6] (μ.set k (.lst (oL ((R ++ [R.length]).set R.length (g0 R x))))) = some ([a0, a1, some (.ptr k), a3, some (.dat (.int (R.length : Int))), some (.dat (.int (x : Int))), a6], μ.set k (.lst (oL (insN R x)))) := by
      simp only [tgSub, eVar, List.getElem?_cons_succ, List.getElem?_cons_zero, Option.bind_some, sk, i2, Option.map_some, oL_set, List.set_set, e1]
    unfold sIf
    rw [t]
    simp only [Option.bind_some, if_true, sAsgT, aCons, aNil, y1, eVar, List.getElem?_cons_succ, List.getElem?_cons_zero]
    simp only [List.length_cons, List.length_nil, cap]
    rw [if_pos (by decide)]
    have e5 : tgsCons (tgSub (eVar 2) (eVar 4)) (tgsCons (tgSub (eVar 2) (eVar 5)) tgsNil) [.dat (.int (g0 R x : Nat)), .dat (.int (R.length : Int))] [a0, a1, some (.ptr k), a3, some (.dat (.int (R.length : Int))), some (.dat (.int (x : Int))), a6] μ = some ([a0, a1, some (.ptr k), a3, some (.dat (.int (R.length : Int))), some (.dat (.int (x : Int))), a6], μ.set k (.lst (oL (insN R x)))) := by
      unfold tgsCons
      simp only []
      rw [y2]
      simp only [Option.bind_some]
      rw [y3]
      rfl
    exact congrArg (fun z => Option.bind z fun y => some (Out.nx y.1 y.2)) e5
  · have e1 : insN R x = R ++ [R.length] := if_neg h
    have t : tsE (eOp fLt (eVar 5) (eVar 4)) [a0, a1, some (.ptr k), a3, some (.dat (.int (R.length : Int))), some (.dat (.int (x : Int))), a6] μ = some (false, μ) := by simp [h]
    unfold sIf
    rw [t, e1]
    have : μ.set k (.lst (oL (R ++ [R.length]))) = μ := by
      refine List.ext_getElem? fun j => ?_
      by_cases e : k = j
      · subst e; rw [hk]; simp [hkl]
      · rw [List.getElem?_set_ne e]
    rw [this]
    rfl
theorem swap_u {μ : Sto} {k c x : Nat} {R : List Nat} (hk : μ[k]? = some (.lst (oL (R ++ [R.length])))) (hc : c = R.length) (a0 a1 a2 a5 : Option PV) :
    sIf (tsE (eOp fLt (eVar 6) (eVar 4))) (sAsgT 2 (aCons (eOp fIx (eVar 3) (eVar 6)) (aCons (eVar 4) (aNil))) (tgsCons (tgSub (eVar 3) (eVar 4)) (tgsCons (tgSub (eVar 3) (eVar 6)) (tgsNil)))) (sNil) [a0, a1, a2, some (.ptr k), some (.dat (.int (c : Int))), a5, some (.dat (.int (x : Int)))] μ =
      some (.nx [a0, a1, a2, some (.ptr k), some (.dat (.int (c : Int))), a5, some (.dat (.int (x : Int)))] (μ.set k (.lst (oL (insN R x))))) := by
  subst hc
  have hkl : k < μ.length := (List.getElem?_eq_some_iff.mp hk).1
  by_cases h : x < R.length
  · have a := at_oL (ns := R ++ [R.length]) (j := x) (by simp; omega)
    rw [g0_app h] at a
    have i1 : ixN (oL (R ++ [R.length])).length (R.length : Int) = some R.length := ixN_natD (by simp)
    have i2 : ixN (oL ((R ++ [R.length]).set R.length (g0 R x))).length (x : Int) = some x := ixN_natD (by simp; omega)
    have sk : ∀ X, (μ.set k X)[k]? = some X := fun X => by simp [hkl]
    have e1 : insN R x = ((R ++ [R.length]).set R.length (g0 R x)).set x R.length := if_pos h
    have t : tsE (eOp fLt (eVar 6) (eVar 4)) [a0, a1, a2, some (.ptr k), some (.dat (.int (R.length : Int))), a5, some (.dat (.int (x : Int)))] μ = some (true, μ) := by simp [h]
    have y1 : eOp fIx (eVar 3) (eVar 6) [a0, a1, a2, some (.ptr k), some (.dat (.int (R.length : Int))), a5, some (.dat (.int (x : Int)))] μ = some (.dat (.int (g0 R x : Nat)), μ) := by
      simp [-oL_app, -oL_snoc, hk, a]
    have y2 : ∀ v : Nat, tgSub (eVar 3) (eVar 4) (.dat (.int (v : Int))) [a0, a1, a2, some (.ptr k), some (.dat (.int (R.length : Int))), a5, some (.dat (.int (x : Int)))] μ = some ([a0, a1, a2, some (.ptr k), some (.dat (.int (R.length : Int))), a5, some (.dat (.int (x : Int)))], μ.set k (.lst (oL ((R ++ [R.length]).set R.length v)))) := by
      intro v
      simp only [tgSub, eVar, List.getElem?_cons_succ, List.getElem?_cons_zero, Option.bind_some, hk, i1, Option.map_some, oL_set]
    have y3 : tgSub (eVar 3) (eVar 6) (.dat (.int (R.length : Int))) [a0, a1, a2, some (.ptr k), some (.dat (.int (R.length : Int))), a5, some (.dat (.int (x : Int)))] (μ.set k (.lst (oL ((R ++ [R.length]).set R.length (g0 R x))))) = some ([a0, a1, a2, some (.ptr k), some (.dat (.int (R.length : Int))), a5, some (.dat (.int (x : Int)))], μ.set k (.lst (oL (insN R x)))) := by
      simp only [tgSub, eVar, List.getElem?_cons_succ, List.getElem?_cons_zero, Option.bind_some, sk, i2, Option.map_some, oL_set, List.set_set, e1]
    unfold sIf
    rw [t]
    simp only [Option.bind_some, if_true, sAsgT, aCons, aNil, y1, eVar, List.getElem?_cons_succ, List.getElem?_cons_zero]
    simp only [List.length_cons, List.length_nil, cap]
    rw [if_pos (by decide)]
    have e5 : tgsCons (tgSub (eVar 3) (eVar 4)) (tgsCons (tgSub (eVar 3) (eVar 6)) tgsNil) [.dat (.int (g0 R x : Nat)), .dat (.int (R.length : Int))] [a0, a1, a2, some (.ptr k), some (.dat (.int (R.length : Int))), a5, some (.dat (.int (x : Int)))] μ = some ([a0, a1, a2, some (.ptr k), some (.dat (.int (R.length : Int))), a5, some (.dat (.int (x : Int)))], μ.set k (.lst (oL (insN R x)))) := by
      unfold tgsCons
      simp only []
      rw [y2]
      simp only [Option.bind_some]
      rw [y3]
      rfl
    exact congrArg (fun z => Option.bind z fun y => some (Out.nx y.1 y.2)) e5
  · have e1 : insN R x = R ++ [R.length] := if_neg h
    have t : tsE (eOp fLt (eVar 6) (eVar 4)) [a0, a1, a2, some (.ptr k), some (.dat (.int (R.length : Int))), a5, some (.dat (.int (x : Int)))] μ = some (false, μ) := by simp [h]
    unfold sIf
    rw [t, e1]
    have : μ.set k (.lst (oL (R ++ [R.length]))) = μ := by
      refine List.ext_getElem? fun j => ?_
      by_cases e : k = j
      · subst e; rw [hk]; simp [hkl]
      · rw [List.getElem?_set_ne e]
    rw [this]
    rfl
theorem fadd_own {μ : Sto} {k c : Nat} {R : List Nat} {ε : Evn} {e1 e2 : EvF} (hk : μ[k]? = some (.lst (oL R))) (hR : R.length ≤ 1000) (x1 : e1 ε μ = some (.ptr k, μ)) (x2 : e2 ε μ = some (.dat (.int (c : Int)), μ)) :
    eOp (fAdd true) e1 (eLst false (aCons e2 aNil)) ε μ = some (.ptr μ.length, μ ++ [.lst (oL (R ++ [c]))]) := by
  have c1 : R.length ≤ 999999 := by omega
  have e : oL R ++ [PV.dat (.int (c : Int))] = oL (R ++ [c]) := oL_snoc R c
  simp [-oL_app, -oL_snoc, x1, x2, asDats, hk, cap, c1, e]
theorem B1__law_floor_eq {μ : Sto} {p q pr pu : Nat} {R U : List Nat} {n : Nat} (h : FlSt μ p q pr pu R U) (F : Flo R U n) (C : Hang R U n) (hn0 : 0 < n) (hn : n + 1 ≤ 60) (a1 a5 a6 : Option PV) :
    ∃ (pr' pu' : Nat) (R' U' : List Nat) (a5' a6' : Option PV) (μ' : Sto), B1__law_floor [some (.ptr p), a1, some (.ptr pr), some (.ptr pu), some (.dat (.int (n : Int))), a5, a6] μ = some (.nx [some (.ptr p), a1, some (.ptr pr'), some (.ptr pu'), some (.dat (.int (n : Int))), a5', a6'] μ') ∧
      FlSt μ' p q pr' pu' R' U' ∧ Flo R' U' (n + 1) ∧ Hang R' U' (n + 1) := by
  have m1 : ∀ (ε : Evn) (μ : Sto), ε[4]? = some (some (.dat (.int (n : Int)))) → eOp (fAdd false) (eVar 4) (eC (.int 1)) ε μ = some (.dat (.int ((n + 1 : Nat) : Int)), μ) := fun ε μ h => by simp [h]
  obtain ⟨x, μ1, t1, hx, s1, f1⟩ := take_e h.st (most := n + 1) (by omega) (by omega) (ε := [some (.ptr p), a1, some (.ptr pr), some (.ptr pu), some (.dat (.int (n : Int))), a5, a6]) (e1 := eVar 0) (e2 := eOp (fAdd false) (eVar 4) (eC (.int 1))) rfl (m1 _ _ rfl)
  obtain ⟨y, μ2, t2, hy, s2, f2⟩ := take_e s1 (most := n + 1) (by omega) (by omega) (ε := [some (.ptr p), a1, some (.ptr pr), some (.ptr pu), some (.dat (.int (n : Int))), a5, a6]) (e1 := eVar 0) (e2 := eOp (fAdd false) (eVar 4) (eC (.int 1))) rfl (m1 _ _ rfl)
  have h2 := h.fr s2 (f1.trans f2)
  have z1 : sPar 5 6 (aCons (eCallG 2 F__law_take (aCons (eVar 0) (aCons (eOp (fAdd false) (eVar 4) (eC (.int 1))) (aNil)))) (aCons (eCallG 2 F__law_take (aCons (eVar 0) (aCons (eOp (fAdd false) (eVar 4) (eC (.int 1))) (aNil)))) (aNil))) [some (.ptr p), a1, some (.ptr pr), some (.ptr pu), some (.dat (.int (n : Int))), a5, a6] μ = some (.nx [some (.ptr p), a1, some (.ptr pr), some (.ptr pu), some (.dat (.int (n : Int))), some (.dat (.int (x : Int))), some (.dat (.int (y : Int)))] μ2) := by
    have u : ∀ (i j : Nat) (a b : EvF) (ε : Evn) (μ μ1 μ2 : Sto) (v w : PV), a ε μ = some (v, μ1) → b ε μ1 = some (w, μ2) → sPar i j (aCons a (aCons b aNil)) ε μ = some (.nx ((ε.set i (some v)).set j (some w)) μ2) := fun i j a b ε μ μ1 μ2 v w h1 h2 => by
      simp only [sPar, aCons, aNil, h1, h2, Option.bind_some]
    exact u 5 6 _ _ _ _ _ _ _ _ t1 t2
  obtain ⟨x', ex', hx', hxy⟩ : ∃ x' : Nat, x' = (if x = n ∧ y = n then 0 else x) ∧ x' < n + 1 ∧ (0 < n → x' < n ∨ y < n) := by
    refine ⟨_, rfl, ?_, ?_⟩
    · split <;> omega
    · intro hn; split <;> omega
  have z2 : sSet 5 (eIf (tsAnd (tsE (eOp (fEq false) (eVar 5) (eVar 4))) (tsE (eOp (fEq false) (eVar 6) (eVar 4)))) (eC (.int 0)) (eVar 5)) [some (.ptr p), a1, some (.ptr pr), some (.ptr pu), some (.dat (.int (n : Int))), some (.dat (.int (x : Int))), some (.dat (.int (y : Int)))] μ2 = some (.nx [some (.ptr p), a1, some (.ptr pr), some (.ptr pu), some (.dat (.int (n : Int))), some (.dat (.int (x' : Int))), some (.dat (.int (y : Int)))] μ2) := by
    subst ex'
    by_cases c1 : x = n
    · subst c1
      by_cases c2 : y = x
      · subst c2; simp
      · have : ¬ (y : Int) = (x : Int) := by omega
        simp [c2, this]
    · have : ¬ (x : Int) = (n : Int) := by omega
      simp [c1, this]
  have lr := h2.st.lt
  have b1 : eOp (fAdd true) (eVar 2) (eLst false (aCons (eVar 4) (aNil))) [some (.ptr p), a1, some (.ptr pr), some (.ptr pu), some (.dat (.int (n : Int))), some (.dat (.int (x' : Int))), some (.dat (.int (y : Int)))] μ2 = some (.ptr μ2.length, μ2 ++ [SO.lst (oL (R ++ [n]))]) := fadd_own h2.r (by rw [F.lR]; omega) rfl rfl
  have hpu : pu < μ2.length := (List.getElem?_eq_some_iff.mp h2.u).1
  have b2 : eOp (fAdd true) (eVar 3) (eLst false (aCons (eVar 4) (aNil))) [some (.ptr p), a1, some (.ptr pr), some (.ptr pu), some (.dat (.int (n : Int))), some (.dat (.int (x' : Int))), some (.dat (.int (y : Int)))] (μ2 ++ [SO.lst (oL (R ++ [n]))]) = some (.ptr (μ2 ++ [SO.lst (oL (R ++ [n]))]).length, (μ2 ++ [SO.lst (oL (R ++ [n]))]) ++ [SO.lst (oL (U ++ [n]))]) := fadd_own (by rw [List.getElem?_append_left hpu]; exact h2.u) (by rw [F.lU]; omega) rfl rfl
  have z3 : sPar 2 3 (aCons (eOp (fAdd true) (eVar 2) (eLst false (aCons (eVar 4) (aNil)))) (aCons (eOp (fAdd true) (eVar 3) (eLst false (aCons (eVar 4) (aNil)))) (aNil))) [some (.ptr p), a1, some (.ptr pr), some (.ptr pu), some (.dat (.int (n : Int))), some (.dat (.int (x' : Int))), some (.dat (.int (y : Int)))] μ2 = some (.nx [some (.ptr p), a1, some (.ptr μ2.length), some (.ptr (μ2.length + 1)), some (.dat (.int (n : Int))), some (.dat (.int (x' : Int))), some (.dat (.int (y : Int)))] ((μ2 ++ [SO.lst (oL (R ++ [n]))]) ++ [SO.lst (oL (U ++ [n]))])) := by
    have u : ∀ (i j : Nat) (a b : EvF) (ε : Evn) (μ μ1 μ2 : Sto) (v w : PV), a ε μ = some (v, μ1) → b ε μ1 = some (w, μ2) → sPar i j (aCons a (aCons b aNil)) ε μ = some (.nx ((ε.set i (some v)).set j (some w)) μ2) := fun i j a b ε μ μ1 μ2 v w h1 h2 => by
      simp only [sPar, aCons, aNil, h1, h2, Option.bind_some]
    have := u 2 3 _ _ _ _ _ _ _ _ b1 b2
    rw [List.length_append] at this
    exact this
  generalize hμ3 : (μ2 ++ [SO.lst (oL (R ++ [n]))]) ++ [SO.lst (oL (U ++ [n]))] = μ3 at z3
  have g : ∀ k, k < μ2.length → μ3[k]? = μ2[k]? := fun k hk => by
    rw [← hμ3, List.append_assoc, List.getElem?_append_left hk]
  have gr : μ3[μ2.length]? = some (.lst (oL (R ++ [R.length]))) := by
    rw [← hμ3, List.append_assoc, List.getElem?_append_right (Nat.le_refl _), Nat.sub_self, F.lR]; rfl
  have gu : μ3[μ2.length + 1]? = some (.lst (oL (U ++ [U.length]))) := by
    rw [← hμ3, List.append_assoc, List.getElem?_append_right (by omega), Nat.add_sub_cancel_left, F.lU]; rfl
  have z4 := swap_r (c := n) (x := x') gr F.lR.symm (some (.ptr p)) a1 (some (.ptr (μ2.length + 1))) (some (.dat (.int (y : Int))))
  have gu' : (μ3.set μ2.length (.lst (oL (insN R x'))))[μ2.length + 1]? = some (.lst (oL (U ++ [U.length]))) := by
    rw [List.getElem?_set_ne (by omega)]; exact gu
  have z5 := swap_u (c := n) (x := y) gu' F.lU.symm (some (.ptr p)) a1 (some (.ptr μ2.length)) (some (.dat (.int (x' : Int))))
  have l3 : μ2.length + 1 < μ3.length := (List.getElem?_eq_some_iff.mp gu).1
  refine ⟨μ2.length, μ2.length + 1, insN R x', insN U y, some (.dat (.int (x' : Int))), some (.dat (.int (y : Int))), _, seq_nx' z1 (seq_nx' z2 (seq_nx' z3 (seq_nx' z4 z5))), ⟨h2.st.fr ?_ ?_, ?_, ?_, by omega, by omega, by omega, by omega, by omega⟩, insN_flo F hn, hang_ins F C hn (hxy hn0)⟩
  · rw [List.getElem?_set_ne (by omega), List.getElem?_set_ne (by omega), g _ lr.1]
  · rw [List.getElem?_set_ne (by omega), List.getElem?_set_ne (by omega), g _ lr.2]
  · rw [List.getElem?_set_ne (by omega)]
    exact List.getElem?_set_self (by omega)
  · exact List.getElem?_set_self (by rw [List.length_set]; omega)
theorem F__law_floor_eq {μ : Sto} {p q : Nat} (h : StA μ p q) : ∃ R U n μ', F__law_floor [.ptr p, .dat (.int 6)] μ = some (.dat (flo R U), μ') ∧ Flo R U n ∧ Hang R U n ∧ 0 < n ∧ n ≤ 6 ∧ StA μ' p q := by
  have lr := h.lt
  have z1 : sPar 2 3 (aCons (eLst true (aCons (eC (.int 0)) (aNil))) (aCons (eLst true (aCons (eC (.int 0)) (aNil))) (aNil))) (startE 7 [.ptr p, .dat (.int 6)]) μ = some (.nx [some (.ptr p), some (.dat (.int 6)), some (.ptr μ.length), some (.ptr (μ.length + 1)), none, none, none] ((μ ++ [SO.lst (oL [0])]) ++ [SO.lst (oL [0])])) := by
    simp [cap, oL]
  generalize hμ0 : (μ ++ [SO.lst (oL [0])]) ++ [SO.lst (oL [0])] = μ0 at z1
  have g : ∀ k, k < μ.length → μ0[k]? = μ[k]? := fun k hk => by rw [← hμ0, List.append_assoc, List.getElem?_append_left hk]
  have gr : μ0[μ.length]? = some (.lst (oL [0])) := by rw [← hμ0, List.append_assoc, List.getElem?_append_right (Nat.le_refl _), Nat.sub_self]; rfl
  have gu : μ0[μ.length + 1]? = some (.lst (oL [0])) := by rw [← hμ0, List.append_assoc, List.getElem?_append_right (by omega), Nat.add_sub_cancel_left]; rfl
  have f0 : FlSt μ0 p q μ.length (μ.length + 1) [0] [0] := ⟨h.fr (g _ lr.1) (g _ lr.2), gr, gu, by omega, by omega, by omega, by omega, by omega⟩
  have o0 : Ord [0] := ⟨by simp, by simp⟩
  have F0 : Flo [0] [0] 1 := ⟨rfl, rfl, o0, o0, by decide⟩
  have C0 : Hang [0] [0] 1 := fun x y hx hy => by
    have : x = y := by omega
    subst this; exact .refl rfl
  obtain ⟨v, μ1, t1, hv, s1, f1⟩ := take_e f0.st (most := 6) (by decide) (by decide) (ε := [some (.ptr p), some (.dat (.int 6)), some (.ptr μ.length), some (.ptr (μ.length + 1)), none, none, none]) (e1 := eVar 0) (e2 := eVar 1) rfl rfl
  have f2 := f0.fr s1 f1
  have key := forD_all (G := fun _ => true) (tg := tgN 4) (b := B1__law_floor)
    (fun i ε μ => ∃ (pr pu : Nat) (R U : List Nat) (a4 a5 a6 : Option PV), ε = [some (.ptr p), some (.dat (.int 6)), some (.ptr pr), some (.ptr pu), a4, a5, a6] ∧ FlSt μ p q pr pu R U ∧ Flo R U (i + 1) ∧ Hang R U (i + 1)) ((List.range v).map fun m => PV.dat (.int (1 + (m : Nat)))) (fun _ _ _ _ => rfl) (fun i pv ε μ hp hI => by
      obtain ⟨pr, pu, R, U, a4, a5, a6, rfl, hf, F, C⟩ := hI
      have hi : i < v := by simpa using (List.getElem?_eq_some_iff.mp hp).1
      have ep : pv = .dat (.int ((i + 1 : Nat) : Int)) := by
        have : PV.dat (.int (1 + (i : Int))) = pv := by simpa [hi] using hp
        rw [← this]
        congr 2
        omega
      subst ep
      obtain ⟨pr', pu', R', U', a5', a6', μ', e, r1, r2, r3⟩ := B1__law_floor_eq hf F C (by omega) (by omega) (some (.dat (.int 6))) a5 a6
      exact ⟨_, _, _, _, rfl, e, pr', pu', R', U', _, _, _, rfl, r1, r2, r3⟩)
      (ε := [some (.ptr p), some (.dat (.int 6)), some (.ptr μ.length), some (.ptr (μ.length + 1)), none, none, none]) (μ := μ1) ⟨_, _, _, _, _, _, _, rfl, f2, F0, C0⟩
  obtain ⟨ε', μ', e, pr, pu, R, U, a4, a5, a6, rfl, hf, F, C⟩ := key
  rw [List.length_map, List.length_range] at F C
  have z2 : L1__law_floor [some (.ptr p), some (.dat (.int 6)), some (.ptr μ.length), some (.ptr (μ.length + 1)), none, none, none] μ0 = some (.nx [some (.ptr p), some (.dat (.int 6)), some (.ptr pr), some (.ptr pu), a4, a5, a6] μ') := by
    have c : inRg (1 + (v : Int)) = true := inRg_int (by omega) (by omega)
    have c2 : (1 + (v : Int) - 1).toNat = v := by omega
    have y : srcR2 (aCons (eC (.int 1)) (aCons (eOp (fAdd false) (eC (.int 1)) (eCallG 2 F__law_take (aCons (eVar 0) (aCons (eVar 1) (aNil))))) (aNil))) [some (.ptr p), some (.dat (.int 6)), some (.ptr μ.length), some (.ptr (μ.length + 1)), none, none, none] μ0 = some (((List.range v).map fun m => PV.dat (.int (1 + (m : Nat))), none), μ1) := by
      have y1 : eOp (fAdd false) (eC (.int 1)) (eCallG 2 F__law_take (aCons (eVar 0) (aCons (eVar 1) (aNil)))) [some (.ptr p), some (.dat (.int 6)), some (.ptr μ.length), some (.ptr (μ.length + 1)), none, none, none] μ0 = some (.dat (.int (1 + (v : Int))), μ1) := by
        have u : ∀ (f : OpF) (a b : EvF) (ε : Evn) (μ : Sto), eOp f a b ε μ = (a ε μ).bind fun x => (b ε x.2).bind fun y => f x.1 y.1 y.2 := fun _ _ _ _ _ => rfl
        have v1 : ∀ ε μ, eC (.int 1) ε μ = some (.dat (.int 1), μ) := fun _ _ => rfl
        rw [u, v1]
        simp only [Option.bind_some]
        rw [t1]
        rfl
      simp only [srcR2, aCons, aNil, y1, eC, Option.bind_some, c, inRg_o, Bool.and_self, if_true, c2]
    unfold L1__law_floor sFor
    rw [y]
    simp only [Option.bind_some, okG_none]
    exact e
  have hpr : pr < μ'.length := (List.getElem?_eq_some_iff.mp hf.r).1
  refine ⟨R, U, v + 1, (μ'.set pr .gone).set pu .gone, ?_, F, C, by omega, by omega, hf.st.fr ?_ ?_⟩
  · refine fnG_rt rfl ?_
    rw [r__law_floor, seq_nx z1, seq_nx z2]
    have u2 : (μ'.set pr .gone)[pu]? = some (.lst (oL U)) := by rw [List.getElem?_set_ne hf.n5]; exact hf.u
    have x1 : eFrz (eVar 2) [some (.ptr p), some (.dat (.int 6)), some (.ptr pr), some (.ptr pu), a4, a5, a6] μ' = some (.dat (.list (iL R)), μ'.set pr .gone) := by simp [hf.r]
    have x2 : eFrz (eVar 3) [some (.ptr p), some (.dat (.int 6)), some (.ptr pr), some (.ptr pu), a4, a5, a6] (μ'.set pr .gone) = some (.dat (.list (iL U)), (μ'.set pr .gone).set pu .gone) := by simp [u2]
    simp [-eFrz, x1, x2, asDats, cap]
  · rw [List.getElem?_set_ne hf.n3, List.getElem?_set_ne hf.n1]
  · rw [List.getElem?_set_ne hf.n4, List.getElem?_set_ne hf.n2]
end CM
namespace CM
open PySem L2 VX
/-! ### words as steps over sides -/
def GW (cs : List Str) : Prop := ∀ c ∈ cs, c = "r" ∨ c = "l" ∨ c = "u" ∨ c = "d"
theorem GW.tl {c : Str} {cs : List Str} (h : GW (c :: cs)) : GW cs := fun x hx => h x (List.mem_cons_of_mem _ hx)
theorem GW.hd {c : Str} {cs : List Str} (h : GW (c :: cs)) : c = "r" ∨ c = "l" ∨ c = "u" ∨ c = "d" := h c List.mem_cons_self
theorem GW.app {a b : List Str} (h : GW a) (h' : GW b) : GW (a ++ b) := fun x hx => (List.mem_append.mp hx).elim (h x) (h' x)
theorem gw_nil : GW [] := fun x hx => by cases hx
def stp (R U : List Nat) (c : Str) (h : Nat) : Nat := if c = "r" then g0 R h else if c = "l" then g0 (inv R) h else if c = "u" then g0 U h else g0 (inv U) h
theorem stp_r {R U : List Nat} {h : Nat} : stp R U "r" h = g0 R h := if_pos rfl
theorem stp_l {R U : List Nat} {h : Nat} : stp R U "l" h = g0 (inv R) h := by unfold stp; rw [if_neg (by decide), if_pos rfl]
theorem stp_u {R U : List Nat} {h : Nat} : stp R U "u" h = g0 U h := by unfold stp; rw [if_neg (by decide), if_neg (by decide), if_pos rfl]
theorem stp_d {R U : List Nat} {h : Nat} : stp R U "d" h = g0 (inv U) h := by unfold stp; rw [if_neg (by decide), if_neg (by decide), if_neg (by decide)]
theorem stp_row {R U : List Nat} {c : Str} {h : Nat} (hc : c = "r" ∨ c = "l" ∨ c = "u" ∨ c = "d") : ∃ row, rowOf R U c = some row ∧ stp R U c h = g0 row h := by
  rcases hc with rfl | rfl | rfl | rfl
  · exact ⟨_, rowOf_r, stp_r⟩
  · exact ⟨_, rowOf_l, stp_l⟩
  · exact ⟨_, rowOf_u, stp_u⟩
  · exact ⟨_, rowOf_d, stp_d⟩
theorem stp_lt {R U : List Nat} {c : Str} {h n : Nat} (F : Flo R U n) (hc : c = "r" ∨ c = "l" ∨ c = "u" ∨ c = "d") (hh : h < n) : stp R U c h < n := by
  obtain ⟨row, h1, h2⟩ := stp_row (R := R) (U := U) (h := h) hc
  rw [h2]
  exact F.nb_lt _ hh _ (rowOf_nb h1 h)
def ends (R U : List Nat) : List Str → Nat → Nat
  | [], h => h
  | c :: cs, h => ends R U cs (stp R U c h)
def trc (R U : List Nat) : List Str → Nat → List Nat
  | [], h => [h]
  | c :: cs, h => h :: trc R U cs (stp R U c h)
theorem ends_lt {R U : List Nat} {n : Nat} (F : Flo R U n) : ∀ {cs : List Str} {h : Nat}, GW cs → h < n → ends R U cs h < n
  | [], h, _, hh => hh
  | c :: cs, h, g, hh => by
    show ends R U cs (stp R U c h) < n
    exact ends_lt F g.tl (stp_lt F g.hd hh)
theorem ends_app {R U : List Nat} : ∀ {a b : List Str} {h : Nat}, ends R U (a ++ b) h = ends R U b (ends R U a h)
  | [], b, h => rfl
  | c :: a, b, h => ends_app (a := a)
theorem trc_len {R U : List Nat} : ∀ {cs : List Str} {h : Nat}, (trc R U cs h).length = cs.length + 1
  | [], h => rfl
  | c :: cs, h => by simp [trc, trc_len (cs := cs)]
theorem trc_snoc {R U : List Nat} {c : Str} : ∀ {cs : List Str} {h : Nat}, trc R U (cs ++ [c]) h = trc R U cs h ++ [stp R U c (ends R U cs h)]
  | [], h => rfl
  | d :: cs, h => by simp only [List.cons_append, trc, ends, trc_snoc (cs := cs)]
theorem trc_at {R U : List Nat} : ∀ {cs : List Str} {h i : Nat}, i ≤ cs.length → g0 (trc R U cs h) i = ends R U (cs.take i) h
  | [], h, i, hi => by
    have : i = 0 := by simpa using hi
    subst this; rfl
  | c :: cs, h, 0, _ => rfl
  | c :: cs, h, i + 1, hi => by
    have := trc_at (R := R) (U := U) (cs := cs) (h := stp R U c h) (i := i) (by simpa using hi)
    simpa [trc, ends, g0] using this
theorem trc_last {R U : List Nat} {cs : List Str} {h : Nat} : g0 (trc R U cs h) cs.length = ends R U cs h := by
  rw [trc_at (Nat.le_refl _), List.take_length]
theorem trc_lt {R U : List Nat} {n : Nat} (F : Flo R U n) : ∀ {cs : List Str} {h : Nat}, GW cs → h < n → ∀ x ∈ trc R U cs h, x < n
  | [], h, _, hh, x, hx => by simp [trc] at hx; omega
  | c :: cs, h, g, hh, x, hx => by
    simp only [trc, List.mem_cons] at hx
    rcases hx with rfl | hx
    · exact hh
    · exact trc_lt F g.tl (stp_lt F g.hd hh) x hx
/-- the way back -/
def bk1 (c : Str) : Str := if c = "r" then "l" else if c = "l" then "r" else if c = "u" then "d" else "u"
theorem bk1_r : bk1 "r" = "l" := if_pos rfl
theorem bk1_l : bk1 "l" = "r" := by unfold bk1; rw [if_neg (by decide), if_pos rfl]
theorem bk1_u : bk1 "u" = "d" := by unfold bk1; rw [if_neg (by decide), if_neg (by decide), if_pos rfl]
theorem bk1_d : bk1 "d" = "u" := by unfold bk1; rw [if_neg (by decide), if_neg (by decide), if_neg (by decide)]
def bk (cs : List Str) : List Str := cs.reverse.map bk1
theorem bk_cons {c : Str} {cs : List Str} : bk (c :: cs) = bk cs ++ [bk1 c] := by simp [bk]
theorem bk_gw {cs : List Str} (h : GW cs) : GW (bk cs) := by
  intro x hx
  obtain ⟨c, hc, rfl⟩ := List.mem_map.mp hx
  rcases h c (List.mem_reverse.mp hc) with rfl | rfl | rfl | rfl
  · rw [bk1_r]; exact .inr (.inl rfl)
  · rw [bk1_l]; exact .inl rfl
  · rw [bk1_u]; exact .inr (.inr (.inr rfl))
  · rw [bk1_d]; exact .inr (.inr (.inl rfl))
theorem stp_bk {R U : List Nat} {c : Str} {h n : Nat} (F : Flo R U n) (hc : c = "r" ∨ c = "l" ∨ c = "u" ∨ c = "d") (hh : h < n) : stp R U (bk1 c) (stp R U c h) = h := by
  have hR : h < R.length := by rw [F.lR]; exact hh
  have hU : h < U.length := by rw [F.lU]; exact hh
  rcases hc with rfl | rfl | rfl | rfl
  · rw [bk1_r, stp_r, stp_l, inv_at F.oR hR]
  · rw [bk1_l, stp_r, stp_l, (at_inv F.oR hR).1]
  · rw [bk1_u, stp_u, stp_d, inv_at F.oU hU]
  · rw [bk1_d, stp_u, stp_d, (at_inv F.oU hU).1]
theorem ends_bk {R U : List Nat} {n : Nat} (F : Flo R U n) : ∀ {cs : List Str} {h : Nat}, GW cs → h < n → ends R U (bk cs) (ends R U cs h) = h
  | [], h, _, _ => rfl
  | c :: cs, h, g, hh => by
    rw [bk_cons, ends_app]
    show stp R U (bk1 c) (ends R U (bk cs) (ends R U cs (stp R U c h))) = h
    rw [ends_bk F g.tl (stp_lt F g.hd hh), stp_bk F g.hd hh]
/-! sides -/
abbrev Ed := Bool × Nat
def eW (R U : List Nat) (c : Str) (h : Nat) : Ed := if c = "r" then (true, h) else if c = "l" then (true, g0 (inv R) h) else if c = "u" then (false, h) else (false, g0 (inv U) h)
def eL (R U : List Nat) (c : Str) (h : Nat) : Ed := if c = "r" then (false, g0 R h) else if c = "l" then (false, h) else if c = "u" then (true, g0 U h) else (true, h)
theorem eW_r {R U : List Nat} {h : Nat} : eW R U "r" h = (true, h) := if_pos rfl
theorem eW_l {R U : List Nat} {h : Nat} : eW R U "l" h = (true, g0 (inv R) h) := by unfold eW; rw [if_neg (by decide), if_pos rfl]
theorem eW_u {R U : List Nat} {h : Nat} : eW R U "u" h = (false, h) := by unfold eW; rw [if_neg (by decide), if_neg (by decide), if_pos rfl]
theorem eW_d {R U : List Nat} {h : Nat} : eW R U "d" h = (false, g0 (inv U) h) := by unfold eW; rw [if_neg (by decide), if_neg (by decide), if_neg (by decide)]
theorem eL_r {R U : List Nat} {h : Nat} : eL R U "r" h = (false, g0 R h) := if_pos rfl
theorem eL_l {R U : List Nat} {h : Nat} : eL R U "l" h = (false, h) := by unfold eL; rw [if_neg (by decide), if_pos rfl]
theorem eL_u {R U : List Nat} {h : Nat} : eL R U "u" h = (true, g0 U h) := by unfold eL; rw [if_neg (by decide), if_neg (by decide), if_pos rfl]
theorem eL_d {R U : List Nat} {h : Nat} : eL R U "d" h = (true, h) := by unfold eL; rw [if_neg (by decide), if_neg (by decide), if_neg (by decide)]
def edW (R U : List Nat) : List Str → Nat → List Ed
  | [], _ => []
  | c :: cs, h => eW R U c h :: edW R U cs (stp R U c h)
def edL (R U : List Nat) : List Str → Nat → List Ed
  | [], _ => []
  | c :: cs, h => eL R U c h :: edL R U cs (stp R U c h)
theorem edW_app {R U : List Nat} : ∀ {a b : List Str} {h : Nat}, edW R U (a ++ b) h = edW R U a h ++ edW R U b (ends R U a h)
  | [], b, h => rfl
  | c :: a, b, h => by simp only [List.cons_append, edW, ends, edW_app (a := a)]
theorem edL_app {R U : List Nat} : ∀ {a b : List Str} {h : Nat}, edL R U (a ++ b) h = edL R U a h ++ edL R U b (ends R U a h)
  | [], b, h => rfl
  | c :: a, b, h => by simp only [List.cons_append, edL, ends, edL_app (a := a)]
theorem eW_lt {R U : List Nat} {c : Str} {h n : Nat} (F : Flo R U n) (hc : c = "r" ∨ c = "l" ∨ c = "u" ∨ c = "d") (hh : h < n) : (eW R U c h).2 < n := by
  have a := stp_lt F hc hh
  rcases hc with rfl | rfl | rfl | rfl
  · rw [eW_r]; exact hh
  · rw [eW_l]; rw [stp_l] at a; exact a
  · rw [eW_u]; exact hh
  · rw [eW_d]; rw [stp_d] at a; exact a
theorem eL_lt {R U : List Nat} {c : Str} {h n : Nat} (F : Flo R U n) (hc : c = "r" ∨ c = "l" ∨ c = "u" ∨ c = "d") (hh : h < n) : (eL R U c h).2 < n := by
  have a := stp_lt F hc hh
  rcases hc with rfl | rfl | rfl | rfl
  · rw [eL_r]; rw [stp_r] at a; exact a
  · rw [eL_l]; exact hh
  · rw [eL_u]; rw [stp_u] at a; exact a
  · rw [eL_d]; exact hh
theorem edL_lt {R U : List Nat} {n : Nat} (F : Flo R U n) : ∀ {cs : List Str} {h : Nat}, GW cs → h < n → ∀ e ∈ edL R U cs h, e.2 < n
  | [], h, _, _, e, he => by cases he
  | c :: cs, h, g, hh, e, he => by
    simp only [edL, List.mem_cons] at he
    rcases he with rfl | he
    · exact eL_lt F g.hd hh
    · exact edL_lt F g.tl (stp_lt F g.hd hh) e he
theorem eW_bk {R U : List Nat} {c : Str} {h n : Nat} (F : Flo R U n) (hc : c = "r" ∨ c = "l" ∨ c = "u" ∨ c = "d") (hh : h < n) : eW R U (bk1 c) (stp R U c h) = eW R U c h := by
  have hR : h < R.length := by rw [F.lR]; exact hh
  have hU : h < U.length := by rw [F.lU]; exact hh
  rcases hc with rfl | rfl | rfl | rfl
  · rw [bk1_r, stp_r, eW_l, eW_r, inv_at F.oR hR]
  · rw [bk1_l, stp_l, eW_l, eW_r]
  · rw [bk1_u, stp_u, eW_d, eW_u, inv_at F.oU hU]
  · rw [bk1_d, stp_d, eW_d, eW_u]
def sm (f : Ed → Nat) (es : List Ed) : Nat := (es.map f).sum
theorem sm_app {f : Ed → Nat} {a b : List Ed} : sm f (a ++ b) = sm f a + sm f b := by simp [sm]
theorem sm_cons {f : Ed → Nat} {a : Ed} {b : List Ed} : sm f (a :: b) = f a + sm f b := by simp [sm]
theorem sm_bk {R U : List Nat} {n : Nat} {f : Ed → Nat} (F : Flo R U n) : ∀ {cs : List Str} {h : Nat}, GW cs → h < n → sm f (edW R U (bk cs) (ends R U cs h)) = sm f (edW R U cs h)
  | [], h, _, _ => rfl
  | c :: cs, h, g, hh => by
    have ih := sm_bk (f := f) F (cs := cs) g.tl (stp_lt F g.hd hh)
    have e := ends_bk F (cs := cs) g.tl (stp_lt F g.hd hh)
    rw [bk_cons, edW_app, sm_app]
    show sm f (edW R U (bk cs) (ends R U cs (stp R U c h))) + sm f [eW R U (bk1 c) (ends R U (bk cs) (ends R U cs (stp R U c h)))] = _
    rw [ih, e, eW_bk F g.hd hh]
    simp [edW, sm]; omega
theorem dbl (A B : List Ed) : sm (fun e => B.count e) A = sm (fun e => A.count e) B := by
  induction A with
  | nil =>
    induction B with
    | nil => rfl
    | cons b B ih => rw [sm_cons, ← ih]; simp [sm]
  | cons a A ih =>
    rw [sm_cons, ih]
    have : ∀ B : List Ed, sm (fun e => (a :: A).count e) B = B.count a + sm (fun e => A.count e) B := by
      intro B
      induction B with
      | nil => simp [sm]
      | cons b B ih =>
        rw [sm_cons, sm_cons, ih, List.count_cons, List.count_cons]
        by_cases e : a = b
        · subst e; simp; omega
        · have e' : ¬ b = a := fun z => e z.symm
          simp [e, e']; omega
    exact (this B).symm
end CM
namespace CM
open PySem L2 VX
/-! ### sides, corners, what must be even -/
def allE (n : Nat) : List Ed := (List.range n).map (fun x => (true, x)) ++ (List.range n).map fun x => (false, x)
theorem mem_allE {n : Nat} {e : Ed} : e ∈ allE n ↔ e.2 < n := by
  obtain ⟨b, x⟩ := e
  unfold allE
  rw [List.mem_append, List.mem_map, List.mem_map]
  constructor
  · rintro (⟨y, hy, e⟩ | ⟨y, hy, e⟩)
    · cases e; exact List.mem_range.mp hy
    · cases e; exact List.mem_range.mp hy
  · intro h
    cases b with
    | true => exact .inl ⟨x, List.mem_range.mpr h, rfl⟩
    | false => exact .inr ⟨x, List.mem_range.mpr h, rfl⟩
theorem nodup_mapI {α β : Type} {f : α → β} (hf : ∀ a b, f a = f b → a = b) {l : List α} (h : l.Nodup) : (l.map f).Nodup := by
  induction l with
  | nil => exact List.nodup_nil
  | cons a l ih =>
    rw [List.nodup_cons] at h
    rw [List.map_cons, List.nodup_cons]
    refine ⟨fun z => ?_, ih h.2⟩
    obtain ⟨b, hb, e⟩ := List.mem_map.mp z
    rw [hf _ _ e] at hb
    exact h.1 hb
theorem allE_nd (n : Nat) : (allE n).Nodup := by
  unfold allE
  rw [List.nodup_append]
  refine ⟨nodup_mapI (fun a b e => by cases e; rfl) List.nodup_range, nodup_mapI (fun a b e => by cases e; rfl) List.nodup_range, fun a ha b hb e => ?_⟩
  subst e
  obtain ⟨x, _, rfl⟩ := List.mem_map.mp ha
  obtain ⟨y, _, e⟩ := List.mem_map.mp hb
  cases e
theorem sum_add2 {α : Type} (a b : α → Nat) : ∀ L : List α, (L.map fun x => a x + b x).sum = (L.map a).sum + (L.map b).sum
  | [] => rfl
  | x :: L => by simp only [List.map_cons, List.sum_cons, sum_add2 a b L]; omega
theorem sum_even {α : Type} {f : α → Nat} : ∀ {L : List α}, (∀ x ∈ L, f x % 2 = 0) → (L.map f).sum % 2 = 0
  | [], _ => rfl
  | x :: L, h => by
    have := sum_even (fun y hy => h y (List.mem_cons_of_mem _ hy))
    have := h x List.mem_cons_self
    simp only [List.map_cons, List.sum_cons]; omega
theorem sum_cong {α : Type} {f g : α → Nat} : ∀ {L : List α}, (∀ x ∈ L, f x = g x) → (L.map f).sum = (L.map g).sum
  | [], _ => rfl
  | x :: L, h => by
    simp only [List.map_cons, List.sum_cons, h x List.mem_cons_self, sum_cong fun y hy => h y (List.mem_cons_of_mem _ hy)]
theorem sum_one {α : Type} [DecidableEq α] {f : α → Nat} {a : α} : ∀ {L : List α}, L.Nodup → a ∈ L → (∀ x ∈ L, x ≠ a → f x % 2 = 0) → (L.map f).sum % 2 = f a % 2
  | x :: L, nd, ha, h => by
    rw [List.nodup_cons] at nd
    simp only [List.map_cons, List.sum_cons]
    by_cases e : x = a
    · subst e
      have := sum_even (f := f) (L := L) fun y hy => h y (List.mem_cons_of_mem _ hy) fun z => nd.1 (z ▸ hy)
      omega
    · have h1 := h x List.mem_cons_self e
      have h2 := sum_one (f := f) nd.2 ((List.mem_cons.mp ha).resolve_left fun z => e z.symm) fun y hy => h y (List.mem_cons_of_mem _ hy)
      omega
theorem perm_range {ns : List Nat} (o : Ord ns) : ns.Perm (List.range ns.length) :=
  (List.perm_ext_iff_of_nodup o.nd List.nodup_range).mpr fun x => ⟨fun h => List.mem_range.mpr (o.lt x h), fun h => o.surj (List.mem_range.mp h)⟩
theorem map_g0 (ns : List Nat) : (List.range ns.length).map (g0 ns) = ns := by
  apply List.ext_getElem
  · simp
  · intro i h1 h2; simp [g0_of h2]
theorem sum_perm {ns : List Nat} (o : Ord ns) (f : Nat → Nat) : ((List.range ns.length).map fun x => f (g0 ns x)).sum = ((List.range ns.length).map f).sum := by
  have e : ((List.range ns.length).map fun x => f (g0 ns x)) = ns.map f := by
    conv => rhs; rw [← map_g0 ns]
    rw [List.map_map]; rfl
  rw [e]
  exact ((perm_range o).map f).sum_nat
/-- the numbers of corners -/
structure Cor (R U C : List Nat) (n : Nat) : Prop where
  len : C.length = n
  kap : ∀ x, x < n → g0 C (g0 (inv U) (g0 (inv R) (g0 U (g0 R x)))) = g0 C x
def ind (a b : Nat) : Nat := if a = b then 1 else 0
theorem ind_eq {a b : Nat} (h : a = b) : ind a b = 1 := if_pos h
theorem ind_ne {a b : Nat} (h : a ≠ b) : ind a b = 0 := if_neg h
def stE (U C : List Nat) (e : Ed) : Nat := if e.1 then g0 C (g0 (inv U) e.2) else g0 C e.2
def enE (R C : List Nat) (e : Ed) : Nat := if e.1 then g0 C e.2 else g0 C (g0 (inv R) e.2)
def tgE (R U : List Nat) (e : Ed) : Nat := if e.1 then g0 R e.2 else g0 U e.2
def inE (R U C : List Nat) (c : Nat) (e : Ed) : Nat := ind (stE U C e) c + ind (enE R C e) c
theorem in_step {R U C : List Nat} {n h c : Nat} {s : Str} (F : Flo R U n) (hs : s = "r" ∨ s = "l" ∨ s = "u" ∨ s = "d") (hh : h < n) :
    (inE R U C c (eL R U s h)) = ind (g0 C h) c + ind (g0 C (stp R U s h)) c := by
  have hR : h < R.length := by rw [F.lR]; exact hh
  have hU : h < U.length := by rw [F.lU]; exact hh
  rcases hs with rfl | rfl | rfl | rfl
  · rw [eL_r, stp_r]; simp only [inE, stE, enE, Bool.false_eq_true, if_false, inv_at F.oR hR]; omega
  · rw [eL_l, stp_l]; simp only [inE, stE, enE, Bool.false_eq_true, if_false]
  · rw [eL_u, stp_u]; simp only [inE, stE, enE, if_true, inv_at F.oU hU]
  · rw [eL_d, stp_d]; simp only [inE, stE, enE, if_true]; omega
theorem D_loop {R U C : List Nat} {n c : Nat} (F : Flo R U n) : ∀ {cs : List Str} {h : Nat}, GW cs → h < n →
    sm (inE R U C c) (edL R U cs h) % 2 = (ind (g0 C h) c + ind (g0 C (ends R U cs h)) c) % 2
  | [], h, _, _ => by simp only [edL, sm, ends, List.map_nil, List.sum_nil]; omega
  | s :: cs, h, g, hh => by
    have ih := D_loop (C := C) (c := c) F (cs := cs) g.tl (stp_lt F g.hd hh)
    simp only [edL, ends, sm_cons, in_step F g.hd hh]
    omega
theorem D_grad {R U C : List Nat} {n c : Nat} (F : Flo R U n) (Q : Cor R U C n) (g : Nat → Nat) :
    sm (fun e => (g e.2 + g (tgE R U e)) * inE R U C c e) (allE n) % 2 = 0 := by
  have s1 : ((List.range n).map fun x => (g x + g (g0 R x)) * inE R U C c (true, x)).sum = ((List.range n).map fun x => g x * inE R U C c (true, x)).sum + ((List.range n).map fun x => g x * inE R U C c (true, g0 (inv R) x)).sum := by
    have e := sum_perm F.oR (fun y => g y * inE R U C c (true, g0 (inv R) y))
    rw [F.lR] at e
    rw [← e, ← sum_add2]
    refine sum_cong fun x hx => ?_
    have hx := List.mem_range.mp hx
    rw [inv_at F.oR (by rw [F.lR]; exact hx), Nat.add_mul]
  have s2 : ((List.range n).map fun x => (g x + g (g0 U x)) * inE R U C c (false, x)).sum = ((List.range n).map fun x => g x * inE R U C c (false, x)).sum + ((List.range n).map fun x => g x * inE R U C c (false, g0 (inv U) x)).sum := by
    have e := sum_perm F.oU (fun y => g y * inE R U C c (false, g0 (inv U) y))
    rw [F.lU] at e
    rw [← e, ← sum_add2]
    refine sum_cong fun x hx => ?_
    have hx := List.mem_range.mp hx
    rw [inv_at F.oU (by rw [F.lU]; exact hx), Nat.add_mul]
  have tot : sm (fun e => (g e.2 + g (tgE R U e)) * inE R U C c e) (allE n) = ((List.range n).map fun x => (g x + g (g0 R x)) * inE R U C c (true, x)).sum + ((List.range n).map fun x => (g x + g (g0 U x)) * inE R U C c (false, x)).sum := by
    unfold allE
    rw [sm_app]
    unfold sm
    rw [List.map_map, List.map_map]
    rfl
  rw [tot, s1, s2, ← sum_add2, ← sum_add2, ← sum_add2]
  refine sum_even fun x hx => ?_
  have hx := List.mem_range.mp hx
  have a1 := at_inv F.oR (x := x) (by rw [F.lR]; exact hx)
  have a2 := at_inv F.oU (x := x) (by rw [F.lU]; exact hx)
  have a3 := at_inv F.oR (x := g0 (inv U) x) (by have := a2.2; rw [F.lU] at this; rw [F.lR]; exact this)
  have k := Q.kap (g0 (inv R) (g0 (inv U) x)) (by have := a3.2; rw [F.lR] at this; exact this)
  rw [a3.1, a2.1] at k
  have : ∃ m, inE R U C c (true, x) + inE R U C c (true, g0 (inv R) x) + (inE R U C c (false, x) + inE R U C c (false, g0 (inv U) x)) = 2 * m := by
    simp only [inE, stE, enE, if_true, Bool.false_eq_true, if_false, k]
    refine ⟨ind (g0 C x) c + ind (g0 C (g0 (inv U) x)) c + ind (g0 C (g0 (inv R) x)) c + ind (g0 C (g0 (inv R) (g0 (inv U) x))) c, by omega⟩
  obtain ⟨m, e⟩ := this
  rw [← Nat.mul_add, ← Nat.mul_add, ← Nat.mul_add, e, Nat.mul_left_comm]
  exact Nat.mul_mod_right _ _
/-- how corners become known, each over a side -/
inductive CT (a b : Ed → Nat) : List Nat → List Ed → Prop
  | nil : CT a b [0] []
  | snoc {kn : List Nat} {K : List Ed} {e : Ed} {h t : Nat} : CT a b kn K → h ∈ kn → t ∉ kn → ((a e = h ∧ b e = t) ∨ (a e = t ∧ b e = h)) → CT a b (kn ++ [t]) (K ++ [e])
theorem CT.ends {a b : Ed → Nat} {kn : List Nat} {K : List Ed} (h : CT a b kn K) : ∀ e ∈ K, a e ∈ kn ∧ b e ∈ kn := by
  induction h with
  | nil => intro e he; cases he
  | snoc c hh ht q ih =>
    intro e he
    rcases List.mem_append.mp he with he | he
    · exact ⟨List.mem_append_left _ (ih e he).1, List.mem_append_left _ (ih e he).2⟩
    · simp only [List.mem_singleton] at he
      subst he
      rcases q with ⟨q1, q2⟩ | ⟨q1, q2⟩
      · rw [q1, q2]; exact ⟨List.mem_append_left _ hh, by simp⟩
      · rw [q1, q2]; exact ⟨by simp, List.mem_append_left _ hh⟩
theorem CT.even {R U C : List Nat} {n : Nat} {f : Ed → Nat} {kn : List Nat} {K : List Ed} (h : CT (stE U C) (enE R C) kn K) (hD : ∀ c, sm (fun e => f e * inE R U C c e) (allE n) % 2 = 0) (hK : ∀ e ∈ K, e.2 < n)
    (ho : ∀ e, e.2 < n → e ∉ K → f e % 2 = 0) : ∀ e, e.2 < n → f e % 2 = 0 := by
  induction h with
  | nil => exact fun e he => ho e he (by simp)
  | @snoc kn K e0 x t c hh ht q ih =>
    refine ih (fun e he => hK e (List.mem_append_left _ he)) fun e he hn => ?_
    by_cases e1 : e = e0
    · subst e1
      have key := sum_one (f := fun e => f e * inE R U C t e) (a := e) (allE_nd n) (mem_allE.mpr he) fun y hy hne => by
        by_cases m : y ∈ K
        · have z : inE R U C t y = 0 := by
            have := c.ends y m
            unfold inE
            rw [ind_ne (b := t) (fun z => ht (by rw [← z]; exact this.1)), ind_ne (b := t) (fun z => ht (by rw [← z]; exact this.2))]
          simp [z]
        · have := ho y (mem_allE.mp hy) (by simp [m, hne])
          rw [Nat.mul_mod, this]; simp
      have d := hD t
      unfold sm at d
      rw [d] at key
      have one : inE R U C t e = 1 := by
        have xt : x ≠ t := fun z => ht (z ▸ hh)
        unfold inE
        rcases q with ⟨q1, q2⟩ | ⟨q1, q2⟩
        · rw [ind_ne (by rw [q1]; exact xt), ind_eq q2]
        · rw [ind_eq q1, ind_ne (by rw [q2]; exact xt)]
      simp only [one, Nat.mul_one] at key
      exact key.symm
    · exact ho e he (by simp [hn, e1])
/-- a sum over all sides, each as often as it is met -/
theorem sm_count {n : Nat} (f : Ed → Nat) : ∀ {L : List Ed}, (∀ e ∈ L, e.2 < n) → sm (fun e => L.count e * f e) (allE n) = sm f L
  | [], _ => by
    have : ∀ M : List Ed, sm (fun e => ([] : List Ed).count e * f e) M = 0 := by
      intro M; induction M with
      | nil => rfl
      | cons a M ih => rw [sm_cons, ih]; simp
    rw [this]; rfl
  | a :: L, h => by
    have ih := sm_count (n := n) f (L := L) fun e he => h e (List.mem_cons_of_mem _ he)
    have one : ∀ M : List Ed, M.Nodup → sm (fun e => (if a == e then 1 else 0) * f e) M = if a ∈ M then f a else 0 := by
      intro M
      induction M with
      | nil => intro _; rfl
      | cons b M ih =>
        intro nd
        rw [List.nodup_cons] at nd
        rw [sm_cons, ih nd.2]
        by_cases e : a = b
        · subst e; simp [nd.1]
        · simp [e]
    have e1 : sm (fun e => (a :: L).count e * f e) (allE n) = sm (fun e => L.count e * f e) (allE n) + sm (fun e => (if a == e then 1 else 0) * f e) (allE n) := by
      unfold sm
      rw [← sum_add2]
      refine sum_cong fun x _ => ?_
      rw [List.count_cons, Nat.add_mul]
    rw [e1, ih, one _ (allE_nd n), if_pos (mem_allE.mpr (h a List.mem_cons_self)), sm_cons, Nat.add_comm]
/-- if all but the corners' sides agree, all agree -/
theorem all_even {R U C : List Nat} {n : Nat} {cs : List Str} {s : Nat} {kn : List Nat} {K : List Ed} {g : Nat → Nat} (F : Flo R U n) (Q : Cor R U C n) (hg : GW cs) (hs : s < n) (hc : ends R U cs s = s)
    (h : CT (stE U C) (enE R C) kn K) (hK : ∀ e ∈ K, e.2 < n) (ho : ∀ e, e.2 < n → e ∉ K → ((edL R U cs s).count e + (g e.2 + g (tgE R U e))) % 2 = 0) : ∀ e, e.2 < n → ((edL R U cs s).count e + (g e.2 + g (tgE R U e))) % 2 = 0 := by
  refine h.even (fun c => ?_) hK ho
  have e1 : sm (fun e => ((edL R U cs s).count e + (g e.2 + g (tgE R U e))) * inE R U C c e) (allE n) = sm (fun e => (edL R U cs s).count e * inE R U C c e) (allE n) + sm (fun e => (g e.2 + g (tgE R U e)) * inE R U C c e) (allE n) := by
    unfold sm
    rw [← sum_add2]
    exact sum_cong fun x _ => Nat.add_mul _ _ _
  have d1 := D_loop (C := C) (c := c) F hg hs
  rw [hc] at d1
  have d2 := D_grad (c := c) F Q g
  rw [e1, sm_count _ (edL_lt F hg hs)]
  omega
end CM
namespace CM
open PySem L2 VX
/-! ### the floor above -/
def upR (R : List Nat) (n : Nat) (f : Nat → Nat) : List Nat := (List.range (2 * n)).map fun a => g0 R (a % n) + n * ((a / n + f (a % n)) % 2)
@[simp] theorem upR_len {R : List Nat} {n : Nat} {f : Nat → Nat} : (upR R n f).length = 2 * n := by simp [upR]
theorem dm {n a : Nat} (h : a < 2 * n) : ∃ x b, a = x + n * b ∧ x < n ∧ b < 2 := by
  have hn : 0 < n := by omega
  refine ⟨a % n, a / n, (Nat.mod_add_div a n).symm, Nat.mod_lt _ hn, (Nat.div_lt_iff_lt_mul hn).mpr h⟩
theorem dm_mod {n x b : Nat} (hx : x < n) : (x + n * b) % n = x := by rw [Nat.add_mul_mod_self_left, Nat.mod_eq_of_lt hx]
theorem dm_div {n x b : Nat} (hx : x < n) : (x + n * b) / n = b := by rw [Nat.add_mul_div_left _ _ (by omega), Nat.div_eq_of_lt hx, Nat.zero_add]
theorem dm_lt {n x b : Nat} (hx : x < n) (hb : b < 2) : x + n * b < 2 * n := by
  have : b = 0 ∨ b = 1 := by omega
  rcases this with rfl | rfl <;> omega
theorem dm_inj {n x b x' b' : Nat} (hx : x < n) (hx' : x' < n) (e : x + n * b = x' + n * b') : x = x' ∧ b = b' := by
  refine ⟨?_, ?_⟩
  · rw [← dm_mod (n := n) (b := b) hx, e, dm_mod hx']
  · rw [← dm_div (n := n) (b := b) hx, e, dm_div hx']
theorem upR_at {R : List Nat} {n x b : Nat} {f : Nat → Nat} (hx : x < n) (hb : b < 2) : g0 (upR R n f) (x + n * b) = g0 R x + n * ((b + f x) % 2) := by
  have h := dm_lt hx hb
  rw [g0_of (by simpa using h)]
  simp only [upR, List.getElem_map, List.getElem_range, dm_mod hx, dm_div hx]
theorem upR_ord {R : List Nat} {n : Nat} {f : Nat → Nat} (o : Ord R) (hl : R.length = n) : Ord (upR R n f) := by
  refine ord_of (fun j h => ?_) fun i j hi hj e => ?_
  · simp only [upR_len] at h ⊢
    obtain ⟨x, b, rfl, hx, hb⟩ := dm h
    rw [upR_at hx hb]
    exact dm_lt (by have := o.low x (by omega); omega) (Nat.mod_lt _ (by decide))
  · simp only [upR_len] at hi hj
    obtain ⟨x, b, rfl, hx, hb⟩ := dm hi
    obtain ⟨y, d, rfl, hy, hd⟩ := dm hj
    rw [upR_at hx hb, upR_at hy hd] at e
    have l1 := o.low x (by omega)
    have l2 := o.low y (by omega)
    obtain ⟨e1, e2⟩ := dm_inj (by omega) (by omega) e
    have := o.inj (by omega) (by omega) e1
    subst this
    have : b = d := by omega
    rw [this]
theorem upR_inv {R : List Nat} {n x b : Nat} {f : Nat → Nat} (o : Ord R) (hl : R.length = n) (hx : x < n) (hb : b < 2) : g0 (inv (upR R n f)) (x + n * b) = g0 (inv R) x + n * ((b + f (g0 (inv R) x)) % 2) := by
  have a := at_inv o (x := x) (by omega)
  have hy : g0 (inv R) x < n := by omega
  have hm : (b + f (g0 (inv R) x)) % 2 < 2 := Nat.mod_lt _ (by decide)
  have k := upR_at (R := R) (f := f) hy hm
  rw [a.1] at k
  have e : ((b + f (g0 (inv R) x)) % 2 + f (g0 (inv R) x)) % 2 = b := by omega
  rw [e] at k
  rw [← k]
  exact inv_at (upR_ord o hl) (by simpa using dm_lt hy hm)
section
variable {R U : List Nat} {n : Nat} {m : Ed → Nat}
abbrev R2 (R : List Nat) (n : Nat) (m : Ed → Nat) : List Nat := upR R n fun x => m (true, x)
abbrev U2 (U : List Nat) (n : Nat) (m : Ed → Nat) : List Nat := upR U n fun x => m (false, x)
theorem flo2 (F : Flo R U n) (h : 2 * n ≤ 60) : Flo (R2 R n m) (U2 U n m) (2 * n) := ⟨upR_len, upR_len, upR_ord F.oR F.lR, upR_ord F.oU F.lU, h⟩
theorem stp2 (F : Flo R U n) {c : Str} {x b : Nat} (hc : c = "r" ∨ c = "l" ∨ c = "u" ∨ c = "d") (hx : x < n) (hb : b < 2) : stp (R2 R n m) (U2 U n m) c (x + n * b) = stp R U c x + n * ((b + m (eW R U c x)) % 2) := by
  rcases hc with rfl | rfl | rfl | rfl
  · rw [stp_r, stp_r, eW_r, upR_at hx hb]
  · rw [stp_l, stp_l, eW_l, upR_inv F.oR F.lR hx hb]
  · rw [stp_u, stp_u, eW_u, upR_at hx hb]
  · rw [stp_d, stp_d, eW_d, upR_inv F.oU F.lU hx hb]
theorem ends2 (F : Flo R U n) : ∀ {cs : List Str} {x b : Nat}, GW cs → x < n → b < 2 → ends (R2 R n m) (U2 U n m) cs (x + n * b) = ends R U cs x + n * ((b + sm m (edW R U cs x)) % 2)
  | [], x, b, _, hx, hb => by
    show x + n * b = x + n * ((b + 0) % 2)
    rw [Nat.add_zero, Nat.mod_eq_of_lt hb]
  | c :: cs, x, b, g, hx, hb => by
    show ends _ _ cs (stp _ _ c (x + n * b)) = _
    rw [stp2 F g.hd hx hb, ends2 F g.tl (stp_lt F g.hd hx) (Nat.mod_lt _ (by decide))]
    simp only [ends, edW, sm_cons]
    congr 2
    omega
end
theorem nodup_sub : ∀ {l m : List Nat}, l.Nodup → (∀ x ∈ l, x ∈ m) → l.length ≤ m.length
  | [], _, _, _ => Nat.zero_le _
  | x :: l, m, nd, h => by
    rw [List.nodup_cons] at nd
    have hx := h x List.mem_cons_self
    have ih := nodup_sub (l := l) (m := m.erase x) nd.2 fun y hy => by
      have hne : y ≠ x := fun z => nd.1 (z ▸ hy)
      exact (List.mem_erase_of_ne hne).mpr (h y (List.mem_cons_of_mem _ hy))
    rw [List.length_erase_of_mem hx] at ih
    have : 0 < m.length := List.length_pos_of_mem hx
    simp only [List.length_cons]; omega
/-- what is closed under an order is closed under its way back -/
theorem closed_inv {ns f : List Nat} (o : Ord ns) (nd : f.Nodup) (hl : ∀ x ∈ f, x < ns.length) (hc : ∀ x ∈ f, g0 ns x ∈ f) : ∀ x ∈ f, g0 (inv ns) x ∈ f := by
  intro x hx
  have nd2 : (f.map (g0 ns)).Nodup := by
    clear hc hx
    induction f with
    | nil => exact List.nodup_nil
    | cons a f ih =>
      rw [List.nodup_cons] at nd
      rw [List.map_cons, List.nodup_cons]
      refine ⟨fun z => ?_, ih nd.2 fun y hy => hl y (List.mem_cons_of_mem _ hy)⟩
      obtain ⟨b, hb, e⟩ := List.mem_map.mp z
      have := o.inj (hl b (List.mem_cons_of_mem _ hb)) (hl a List.mem_cons_self) e
      exact nd.1 (this ▸ hb)
  have hm : x ∈ f.map (g0 ns) := by
    refine Classical.byContradiction fun hn => ?_
    have := nodup_sub (l := x :: f.map (g0 ns)) (m := f) (List.nodup_cons.mpr ⟨hn, nd2⟩) fun y hy => by
      rcases List.mem_cons.mp hy with rfl | hy
      · exact hx
      · obtain ⟨z, hz, rfl⟩ := List.mem_map.mp hy
        exact hc z hz
    simp at this
    omega
  obtain ⟨y, hy, rfl⟩ := List.mem_map.mp hm
  rw [inv_at o (hl y hy)]
  exact hy
abbrev N2 (R U : List Nat) (a : Nat) : List Nat := [g0 R a, g0 U a]
abbrev yes : Nat → Bool := fun _ => true
theorem Flo.n2_lt {R U : List Nat} {n : Nat} (F : Flo R U n) : ∀ x, x < n → ∀ y ∈ N2 R U x, y < n := by
  intro x hx y hy
  simp only [N2, List.mem_cons, List.not_mem_nil, or_false] at hy
  rcases hy with rfl | rfl
  · exact F.nb_lt _ hx _ (by simp [nbs4])
  · exact F.nb_lt _ hx _ (by simp [nbs4])
theorem closed_stp {R U f : List Nat} {n : Nat} (F : Flo R U n) (nd : f.Nodup) (hl : ∀ x ∈ f, x < n) (hc : ∀ x ∈ f, ∀ y ∈ N2 R U x, y ∈ f) : ∀ {cs : List Str} {x : Nat}, GW cs → x ∈ f → ends R U cs x ∈ f
  | [], x, _, hx => hx
  | c :: cs, x, g, hx => by
    show ends R U cs (stp R U c x) ∈ f
    refine closed_stp F nd hl hc g.tl ?_
    have cR := closed_inv F.oR nd (fun y hy => by rw [F.lR]; exact hl y hy) fun y hy => hc y hy _ (by simp [N2])
    have cU := closed_inv F.oU nd (fun y hy => by rw [F.lU]; exact hl y hy) fun y hy => hc y hy _ (by simp [N2])
    rcases g.hd with rfl | rfl | rfl | rfl
    · rw [stp_r]; exact hc x hx _ (by simp [N2])
    · rw [stp_l]; exact cR x hx
    · rw [stp_u]; exact hc x hx _ (by simp [N2])
    · rw [stp_d]; exact cU x hx
/-- all sides agree: what is met from 0 above lies over each square just once -/
theorem up_none {R U f : List Nat} {n : Nat} {m : Ed → Nat} {g : Nat → Nat} (F : Flo R U n) (hn : 0 < n) (h0 : g 0 = 0) (hf : Fnd (N2 (R2 R n m) (U2 U n m)) yes 0 (2 * n) f)
    (hg : ∀ e : Ed, e.2 < n → (m e + (g e.2 + g (tgE R U e))) % 2 = 0) : f.length ≤ n := by
  have key : ∀ y, Rc (N2 (R2 R n m) (U2 U n m)) yes 0 y → ∃ x, x < n ∧ y = x + n * (g x % 2) := by
    intro y r
    induction r with
    | refl => exact ⟨0, hn, by simp [h0]⟩
    | step _ hm _ ih =>
      obtain ⟨x, hx, rfl⟩ := ih
      simp only [N2, List.mem_cons, List.not_mem_nil, or_false] at hm
      have b : g x % 2 < 2 := Nat.mod_lt _ (by decide)
      rcases hm with rfl | rfl
      · have q := hg (true, x) hx
        simp only [tgE, if_true] at q
        refine ⟨g0 R x, F.nb_lt _ hx _ (by simp [nbs4]), ?_⟩
        rw [upR_at hx b]
        congr 2; omega
      · have q := hg (false, x) hx
        simp only [tgE, Bool.false_eq_true, if_false] at q
        refine ⟨g0 U x, F.nb_lt _ hx _ (by simp [nbs4]), ?_⟩
        rw [upR_at hx b]
        congr 2; omega
  have nd2 : (f.map (· % n)).Nodup := by
    have nd := hf.nd
    have hr := hf.rc
    clear hf
    induction f with
    | nil => exact List.nodup_nil
    | cons a f ih =>
      rw [List.nodup_cons] at nd
      rw [List.map_cons, List.nodup_cons]
      refine ⟨fun z => ?_, ih nd.2 fun y hy => hr y (List.mem_cons_of_mem _ hy)⟩
      obtain ⟨c, hc, e⟩ := List.mem_map.mp z
      obtain ⟨x, hx, rfl⟩ := key a (hr a List.mem_cons_self)
      obtain ⟨y, hy, rfl⟩ := key c (hr c (List.mem_cons_of_mem _ hc))
      simp only [dm_mod hx, dm_mod hy] at e
      subst e
      exact nd.1 hc
  have := nodup_len n _ nd2 fun x hx => by
    obtain ⟨y, _, rfl⟩ := List.mem_map.mp hx
    exact Nat.mod_lt _ hn
  simpa using this
/-- some closed way is odd: all is met -/
theorem up_all {R U f : List Nat} {n : Nat} {m : Ed → Nat} {cs : List Str} (F : Flo R U n) (hn : 0 < n) (h60 : 2 * n ≤ 60) (hf : Fnd (N2 (R2 R n m) (U2 U n m)) yes 0 (2 * n) f) (hc : ∀ x ∈ f, ∀ y ∈ N2 (R2 R n m) (U2 U n m) x, y ∈ f)
    (hw : ∀ x, x < n → ∃ w, GW w ∧ ends R U w 0 = x) (hg : GW cs) (he : ends R U cs 0 = 0) (ho : sm m (edW R U cs 0) % 2 = 1) : f.length = 2 * n := by
  have F2 := flo2 (m := m) F h60
  have hl : ∀ x ∈ f, x < 2 * n := fun x hx => (hf.rc x hx).lt (by omega) F2.n2_lt
  have cl := fun {cs : List Str} {x : Nat} (g : GW cs) (hx : x ∈ f) => closed_stp F2 hf.nd hl hc g hx
  have z0 : 0 ∈ f := hf.st rfl
  have zn : n ∈ f := by
    have q := cl hg z0
    have e := ends2 (m := m) F (x := 0) (b := 0) hg hn (by decide)
    simp only [Nat.mul_zero, Nat.add_zero, Nat.zero_add] at e
    rw [e, he, ho] at q
    simpa using q
  have all : ∀ y, y < 2 * n → y ∈ f := by
    intro y hy
    obtain ⟨x, b, rfl, hx, hb⟩ := dm hy
    obtain ⟨w, gw, ew⟩ := hw x hx
    have e0 := ends2 (m := m) F (x := 0) (b := 0) gw hn (by decide)
    have e1 := ends2 (m := m) F (x := 0) (b := 1) gw hn (by decide)
    have q0 := cl gw z0
    have q1 := cl gw zn
    simp only [Nat.mul_zero, Nat.add_zero, Nat.zero_add, Nat.mul_one] at e0 e1
    rw [e0, ew] at q0
    rw [e1, ew] at q1
    rcases Nat.mod_two_eq_zero_or_one (sm m (edW R U w 0)) with z | z
    · have z1 : (1 + sm m (edW R U w 0)) % 2 = 1 := by omega
      rw [z] at q0
      rw [z1] at q1
      have : b = 0 ∨ b = 1 := by omega
      rcases this with rfl | rfl
      · exact q0
      · exact q1
    · have z1 : (1 + sm m (edW R U w 0)) % 2 = 0 := by omega
      rw [z] at q0
      rw [z1] at q1
      have : b = 0 ∨ b = 1 := by omega
      rcases this with rfl | rfl
      · exact q1
      · exact q0
  have a1 := nodup_len (2 * n) f hf.nd hl
  have a2 := nodup_sub (l := List.range (2 * n)) (m := f) List.nodup_range fun x hx => all x (List.mem_range.mp hx)
  simp at a2
  omega
end CM
namespace CM
open PySem L2 VX
/-! ### trace, led -/
def oS (cs : List Str) : List PV := cs.map fun c => .dat (.str c)
@[simp] theorem map_oS (w : Str) : (w.cps.toList.map fun c => PV.dat (.str ⟨#[c]⟩)) = oS (sgs w) := by simp [oS, sgs]
@[simp] theorem oS_len (cs : List Str) : (oS cs).length = cs.length := by simp [oS]
theorem get_oS {cs : List Str} {i : Nat} {p : PV} (h : (oS cs)[i]? = some p) : ∃ hi : i < cs.length, p = .dat (.str cs[i]) := by
  have hi : i < cs.length := by simpa using (List.getElem?_eq_some_iff.mp h).1
  refine ⟨hi, ?_⟩
  simp [oS, hi] at h
  exact h.symm
theorem trc_end {R U : List Nat} : ∀ {cs : List Str} {h : Nat}, ∃ p, trc R U cs h = p ++ [ends R U cs h]
  | [], h => ⟨[], rfl⟩
  | c :: cs, h => by
    obtain ⟨p, e⟩ := trc_end (R := R) (U := U) (cs := cs) (h := stp R U c h)
    exact ⟨h :: p, by simp only [trc, ends, e, List.cons_append]⟩
theorem gw_at {cs : List Str} (g : GW cs) {i : Nat} (h : i < cs.length) : cs[i] = "r" ∨ cs[i] = "l" ∨ cs[i] = "u" ∨ cs[i] = "d" := g _ (List.getElem_mem h)
theorem gw_take {cs : List Str} (g : GW cs) (i : Nat) : GW (cs.take i) := fun c hc => g c (List.mem_of_mem_take hc)
theorem take_snoc {α : Type} {cs : List α} {i : Nat} (h : i < cs.length) : cs.take (i + 1) = cs.take i ++ [cs[i]] := by rw [List.take_add_one]; simp [h]
theorem mergeN (a b c d : PV) : mergeP [] [((.inr "r" : Key), a), (.inr "l", b), (.inr "u", c), (.inr "d", d)] = [((.inr "r" : Key), a), (.inr "l", b), (.inr "u", c), (.inr "d", d)] :=
  merge4 (by decide) (by decide) (by decide) (by decide) (by decide) (by decide)
theorem F_step_lists_eq {R U : List Nat} {n : Nat} (F : Flo R U n) : F_step_lists [.dat (flo R U)] [] = some (.ptr 0, [.dic (dicN R U)]) := by
  have hn := F.small
  have c1 : R.length ≤ 1000000 := by rw [F.lR]; omega
  have c2 : U.length ≤ 1000000 := by rw [F.lU]; omega
  simp [-valP, -putP, -mergeP, F_step_lists, r_step_lists, cap, asDats, c1, c2, F_left_eq R U (by rw [F.lR]; omega) F.oR.low, F_down_eq R U (by rw [F.lU]; omega) F.oU.low, mergeN, dicN]
theorem last_oL {f : List Nat} {R U : List Nat} {cs : List Str} {s : Nat} (h : f = trc R U cs s) : L2.atI (oL f) (-1) = some (.dat (.int ((ends R U cs s : Nat) : Int))) := by
  obtain ⟨p, e⟩ := trc_end (R := R) (U := U) (cs := cs) (h := s)
  rw [h, e, ← oL_app, oL_one, L2.atI_last]
theorem B1_trace_eq {R U : List Nat} {n s : Nat} {cs : List Str} {c : Str} (F : Flo R U n) (hs : s < n) (g : GW cs) (hc : c = "r" ∨ c = "l" ∨ c = "u" ∨ c = "d") (hl : cs.length ≤ 1000) (a0 a1 a2 : Option PV) :
    B1_trace [a0, a1, a2, some (.ptr 0), some (.ptr 1), some (.dat (.str c))] [.dic (dicN R U), .lst (oL (trc R U cs s))] = some (.nx [a0, a1, a2, some (.ptr 0), some (.ptr 1), some (.dat (.str c))] [.dic (dicN R U), .lst (oL (trc R U (cs ++ [c]) s))]) := by
  obtain ⟨row, h1, h2⟩ := stp_row (R := R) (U := U) (h := ends R U cs s) hc
  have v := valP_N R U c
  rw [h1] at v
  have e := last_oL (R := R) (U := U) (cs := cs) (s := s) rfl
  have hE := ends_lt F g hs
  have a := at_oL (ns := row) (j := ends R U cs s) (by rw [rowOf_len F h1]; exact hE)
  have c1 : (trc R U cs s).length < 1000000 := by rw [trc_len]; omega
  rw [trc_snoc, h2]
  simp [-valP, B1_trace, v, e, a, cap, c1]
theorem F_trace_eq {R U : List Nat} {n s : Nat} {w : Str} (F : Flo R U n) (hs : s < n) (g : GW (sgs w)) (hl : w.length ≤ 1000) : F_trace [flo R U, .int (s : Int), .str w] = some (.list (iL (trc R U (sgs w) s))) := by
  have key := forD_all (G := fun _ => true) (tg := tgN 5) (b := B1_trace)
    (fun i ε μ => ∃ x, ε = [some (.dat (flo R U)), some (.dat (.int (s : Int))), some (.dat (.str w)), some (.ptr 0), some (.ptr 1), x] ∧ μ = [.dic (dicN R U), .lst (oL (trc R U ((sgs w).take i) s))]) (oS (sgs w)) (fun _ _ _ _ => rfl) (fun i p ε μ hp h => by
      obtain ⟨x, rfl, rfl⟩ := h
      obtain ⟨hi, rfl⟩ := get_oS hp
      refine ⟨_, _, _, _, rfl, B1_trace_eq F hs (gw_take g i) (gw_at g hi) (by rw [List.length_take]; simp at hi; omega) _ _ _, some (.dat (.str (sgs w)[i])), rfl, ?_⟩
      rw [take_snoc hi]) (ε := [some (.dat (flo R U)), some (.dat (.int (s : Int))), some (.dat (.str w)), some (.ptr 0), some (.ptr 1), none]) (μ := [.dic (dicN R U), .lst (oL (trc R U [] s))]) ⟨none, rfl, rfl⟩
  obtain ⟨ε', μ', h1, x, rfl, rfl⟩ := key
  rw [oS_len, List.take_length] at h1
  have e2 : oL (trc R U [] s) = [.dat (.int (s : Int))] := rfl
  rw [e2] at h1
  have c : (trc R U (sgs w) s).length ≤ 1000000 := by rw [trc_len]; simp; omega
  have L : L1_trace [some (.dat (flo R U)), some (.dat (.int (s : Int))), some (.dat (.str w)), some (.ptr 0), some (.ptr 1), none] [.dic (dicN R U), .lst [.dat (.int (s : Int))]] = some (.nx [some (.dat (flo R U)), some (.dat (.int (s : Int))), some (.dat (.str w)), some (.ptr 0), some (.ptr 1), x] [.dic (dicN R U), .lst (oL (trc R U (sgs w) s))]) := by
    unfold L1_trace sFor
    simp [okG_none, h1]
  simp [F_trace, r_trace, F_step_lists_eq F, cap, L]
theorem F_led_eq {R U : List Nat} {n s : Nat} {w : Str} (F : Flo R U n) (hs : s < n) (g : GW (sgs w)) (hl : w.length ≤ 1000) : F_led [flo R U, .int (s : Int), .str w] = some (.int ((ends R U (sgs w) s : Nat) : Int)) := by
  have e := last_oL (R := R) (U := U) (cs := sgs w) (s := s) rfl
  simp [F_led, r_led, asDats, F_trace_eq F hs g hl, e]
/-! the law's own -/
theorem atL_any {R U row : List Nat} {c : Str} {h n : Nat} {eo es eh : EvF} {ε : Evn} {μ : Sto} (F : Flo R U n) (m0 : μ[0]? = some (.lst (oL (inv R)))) (m1 : μ[1]? = some (.lst (oL (inv U)))) (m2 : μ[2]? = some (.dic (dicR R U))) (hh : h < n) (hc : rowOf R U c = some row)
    (e1 : eo ε μ = some (.ptr 2, μ)) (e2 : es ε μ = some (.dat (.str c), μ)) (e3 : eh ε μ = some (.dat (.int (h : Int)), μ)) :
    eOp fIx (eDGet eo es) eh ε μ = some (.dat (.int ((g0 row h : Nat) : Int)), μ) := by
  have hrow := rowOf_len F hc
  have a1 := at_oL (ns := row) (j := h) (by omega)
  unfold rowOf at hc
  split at hc
  · cases hc; rename_i q; subst q
    simp [-valP, e1, e2, e3, m2, valP_r, a1]
  · split at hc
    · cases hc; rename_i q; subst q
      simp [-valP, e1, e2, e3, m2, m0, valP_l, a1]
    · split at hc
      · cases hc; rename_i q; subst q
        simp [-valP, e1, e2, e3, m2, valP_u, a1]
      · split at hc
        · cases hc; rename_i q; subst q
          simp [-valP, e1, e2, e3, m2, m1, valP_d, a1]
        · cases hc
abbrev ltSt (R U : List Nat) (f : List Nat) : Sto := [.lst (oL (inv R)), .lst (oL (inv U)), .dic (dicR R U), .lst (oL f)]
theorem B1__law_trace_eq {R U : List Nat} {n s : Nat} {cs : List Str} {c : Str} (F : Flo R U n) (hs : s < n) (g : GW cs) (hc : c = "r" ∨ c = "l" ∨ c = "u" ∨ c = "d") (hl : cs.length ≤ 1000) (a0 a1 a2 : Option PV) :
    B1__law_trace [a0, a1, a2, some (.ptr 2), some (.ptr 3), some (.dat (.str c))] (ltSt R U (trc R U cs s)) = some (.nx [a0, a1, a2, some (.ptr 2), some (.ptr 3), some (.dat (.str c))] (ltSt R U (trc R U (cs ++ [c]) s))) := by
  obtain ⟨row, h1, h2⟩ := stp_row (R := R) (U := U) (h := ends R U cs s) hc
  have e := last_oL (R := R) (U := U) (cs := cs) (s := s) rfl
  have c1 : (trc R U cs s).length < 1000000 := by rw [trc_len]; omega
  have a := atL_any (eo := eVar 3) (es := eVar 5) (eh := eOp fIx (eVar 4) (eUn fNeg (eC (.int 1)))) (ε := [a0, a1, a2, some (.ptr 2), some (.ptr 3), some (.dat (.str c))]) (μ := ltSt R U (trc R U cs s)) F rfl rfl rfl (ends_lt F g hs) h1 rfl rfl (by simp [e])
  rw [trc_snoc, h2]
  unfold B1__law_trace
  rw [show (eLM fApp (eVar 4) (aCons (eOp fIx (eDGet (eVar 3) (eVar 5)) (eOp fIx (eVar 4) (eUn fNeg (eC (.int 1))))) aNil)) = (fun ε μ => (eVar 4 ε μ).bind fun x => if (lstOf x.2 x.1).isSome = true then (aCons (eOp fIx (eDGet (eVar 3) (eVar 5)) (eOp fIx (eVar 4) (eUn fNeg (eC (.int 1))))) aNil ε x.2).bind fun y => fApp x.1 y.1 y.2 else none) from rfl]
  simp only [sExpr, aCons, eVar, List.getElem?_cons_succ, List.getElem?_cons_zero, Option.bind_some]
  rw [a]
  simp [cap, c1]
theorem F__law_trace_eq {R U : List Nat} {n s : Nat} {w : Str} (F : Flo R U n) (hs : s < n) (g : GW (sgs w)) (hl : w.length ≤ 1000) : F__law_trace [flo R U, .int (s : Int), .str w] = some (.list (iL (trc R U (sgs w) s))) := by
  have key := forD_all (G := fun _ => true) (tg := tgN 5) (b := B1__law_trace)
    (fun i ε μ => ∃ x, ε = [some (.dat (flo R U)), some (.dat (.int (s : Int))), some (.dat (.str w)), some (.ptr 2), some (.ptr 3), x] ∧ μ = ltSt R U (trc R U ((sgs w).take i) s)) (oS (sgs w)) (fun _ _ _ _ => rfl) (fun i p ε μ hp h => by
      obtain ⟨x, rfl, rfl⟩ := h
      obtain ⟨hi, rfl⟩ := get_oS hp
      refine ⟨_, _, _, _, rfl, B1__law_trace_eq F hs (gw_take g i) (gw_at g hi) (by rw [List.length_take]; simp at hi; omega) _ _ _, some (.dat (.str (sgs w)[i])), rfl, ?_⟩
      rw [take_snoc hi]) (ε := [some (.dat (flo R U)), some (.dat (.int (s : Int))), some (.dat (.str w)), some (.ptr 2), some (.ptr 3), none]) (μ := ltSt R U (trc R U [] s)) ⟨none, rfl, rfl⟩
  obtain ⟨ε', μ', h1, x, rfl, rfl⟩ := key
  rw [oS_len, List.take_length] at h1
  have c : (trc R U (sgs w) s).length ≤ 1000000 := by rw [trc_len]; simp; omega
  have L : L1__law_trace [some (.dat (flo R U)), some (.dat (.int (s : Int))), some (.dat (.str w)), some (.ptr 2), some (.ptr 3), none] (ltSt R U (trc R U [] s)) = some (.nx [some (.dat (flo R U)), some (.dat (.int (s : Int))), some (.dat (.str w)), some (.ptr 2), some (.ptr 3), x] (ltSt R U (trc R U (sgs w) s))) := by
    unfold L1__law_trace sFor
    simp only [srcSeq, eVar, List.getElem?_cons_succ, List.getElem?_cons_zero, Option.bind_some, okG_none, map_oS, h1]
  have e2 : ltSt R U (trc R U [] s) = [.lst (oL (inv R)), .lst (oL (inv U)), .dic (dicR R U), .lst [.dat (.int (s : Int))]] := rfl
  rw [e2] at L
  simp [F__law_trace, r__law_trace, F__law_lists_eq F, listsSt, cap, L]
end CM
namespace CM
open PySem L2 VX
/-! ### listed, order_from -/
def dB (f : List Nat) : List (Key × PV) := f.map fun (x : Nat) => (.inl (x : Int), .dat (.bool true))
theorem valP_dB (k : Nat) : ∀ f : List Nat, valP (dB f) (.inl (k : Int)) = if k ∈ f then some (.dat (.bool true)) else none
  | [] => rfl
  | p :: r => by
    have ih := valP_dB k r
    by_cases h : p = k
    · subst h; simp [dB, valP]
    · have h' : (Sum.inl (p : Int) : Key) ≠ .inl (k : Int) := fun z => h (by have := Sum.inl.inj z; omega)
      have h2 : ¬ k = p := fun z => h z.symm
      simp only [dB, List.map_cons]
      rw [valP_miss h']
      simp only [dB] at ih
      rw [ih]
      simp [h2]
theorem putP_dB {k : Nat} : ∀ {f : List Nat}, k ∉ f → putP (dB f) (.inl (k : Int)) (.dat (.bool true)) = dB (f ++ [k])
  | [], _ => rfl
  | p :: r, h => by
    have h1 : p ≠ k := fun z => h (z ▸ List.mem_cons_self)
    have h' : (Sum.inl (p : Int) : Key) ≠ .inl (k : Int) := fun z => h1 (by have := Sum.inl.inj z; omega)
    simp only [dB, List.map_cons, List.cons_append]
    rw [putP_miss h']
    exact congrArg _ (putP_dB fun z => h (List.mem_cons_of_mem _ z))
theorem ndB_dB {f : List Nat} (h : f.Nodup) : ndB (dB f) = true := by
  unfold ndB
  rw [decide_eq_true_eq]
  unfold dB
  rw [List.map_map]
  exact nodup_mapI (fun a b e => by have := Sum.inl.inj e; omega) h
theorem dB_len {f : List Nat} : (dB f).length = f.length := by simp [dB]
abbrev lsd (f : List Nat) (i : Nat) : Sto := [.dic (dB f), .lst (oL (f.drop i)), .lst (oL f.tail)]
theorem B1_listed_eq {f : List Nat} {i y : Nat} (hi : i ≤ f.length) (hne : f ≠ []) (nd : f.Nodup) (hl : f.length < 1000) (a0 a1 a2 a6 : Option PV) :
    B1_listed [a0, a1, a2, some (.ptr 0), some (.ptr 1), some (.ptr 2), a6, some (.dat (.int (y : Int)))] (lsd f i) = some (.nx [a0, a1, a2, some (.ptr 0), some (.ptr 1), some (.ptr 2), a6, some (.dat (.int (y : Int)))] (lsd (addN yes f y) i)) := by
  have v := valP_dB y f
  have c1 : f.length < 1000000 := by omega
  have c2 : f.length - i < 1000000 := by omega
  have c3 : f.length - 1 < 1000000 := by omega
  by_cases h : y ∈ f
  · simp only [h, if_true] at v
    simp [-valP, -putP, B1_listed, v, addN, h]
  · simp only [h, if_false] at v
    have e1 : (f ++ [y]).drop i = f.drop i ++ [y] := List.drop_append_of_le_length hi
    have e2 : (f ++ [y]).tail = f.tail ++ [y] := List.tail_append_of_ne_nil hne
    simp [-valP, -putP, B1_listed, v, addN, h, cap, dB_len, c1, c2, c3, ndB_dB nd, putP_dB h, e1, e2]
theorem addN_len {ok : Nat → Bool} {g : List Nat} {y : Nat} : (addN ok g y).length ≤ g.length + 1 := by unfold addN; split <;> simp
theorem addN_ne {ok : Nat → Bool} {g : List Nat} {y : Nat} (h : g ≠ []) : addN ok g y ≠ [] := by
  unfold addN; split
  · simp
  · exact h
theorem L1_listed_eq {R U f : List Nat} {i x N : Nat} (lR : R.length = N) (lU : U.length = N) (hi : i ≤ f.length) (hne : f ≠ []) (nd : f.Nodup) (hl : f.length + 2 < 1000) (hx : x < N) (a0 a7 : Option PV) :
    ∃ a7', L1_listed [a0, some (.dat (.list (iL R))), some (.dat (.list (iL U))), some (.ptr 0), some (.ptr 1), some (.ptr 2), some (.dat (.int (x : Int))), a7] (lsd f i) =
      some (.nx [a0, some (.dat (.list (iL R))), some (.dat (.list (iL U))), some (.ptr 0), some (.ptr 1), some (.ptr 2), some (.dat (.int (x : Int))), a7'] (lsd (addsN yes f (N2 R U x)) i)) := by
  have a1 := at_oL (ns := R) (j := x) (by omega)
  have a2 := at_oL (ns := U) (j := x) (by omega)
  have l1 := addN_len (ok := yes) (g := f) (y := g0 R x)
  obtain ⟨t, et⟩ := addN_pre (ok := yes) (f := f) (x := g0 R x)
  have hi2 : i ≤ (addN yes f (g0 R x)).length := by rw [et]; simp; omega
  have s1 := B1_listed_eq (y := g0 R x) hi hne nd (by omega) a0 (some (.dat (.list (iL R)))) (some (.dat (.list (iL U)))) (some (.dat (.int (x : Int))))
  have s2 := B1_listed_eq (y := g0 U x) hi2 (addN_ne hne) (addN_nd nd) (by omega) a0 (some (.dat (.list (iL R)))) (some (.dat (.list (iL U)))) (some (.dat (.int (x : Int))))
  refine ⟨some (.dat (.int ((g0 U x : Nat) : Int))), ?_⟩
  unfold L1_listed sFor
  simp [a1, a2, asDats, cap, okG_none, forD, s1, s2, addsN]
theorem L2_listed_eq {R U : List Nat} {s N : Nat} (F : Flo R U N) (hs : s < N) (a0 a6 a7 : Option PV) :
    ∃ f a6' a7', L2_listed [a0, some (.dat (.list (iL R))), some (.dat (.list (iL U))), some (.ptr 0), some (.ptr 1), some (.ptr 2), a6, a7] (lsd [s] 0) =
      some (.nx [a0, some (.dat (.list (iL R))), some (.dat (.list (iL U))), some (.ptr 0), some (.ptr 1), some (.ptr 2), a6', a7'] (lsd f f.length)) ∧ Fnd (N2 R U) yes s N f ∧ (∀ x ∈ f, ∀ y ∈ N2 R U x, y ∈ f) ∧ ∃ t, f = s :: t := by
  have hn := F.small
  have key := whileN_gen (c := tsE (eOp fGt (eCa fLen (aCons (eVar 4) aNil)) (eC (.int 0)))) (b := B2_listed)
    (fun m ε μ => ∃ (f : List Nat) (i : Nat) (a6' a7' : Option PV), ε = [a0, some (.dat (.list (iL R))), some (.dat (.list (iL U))), some (.ptr 0), some (.ptr 1), some (.ptr 2), a6', a7'] ∧ μ = lsd f i ∧ Fnd (N2 R U) yes s N f ∧ i ≤ f.length ∧ N - i ≤ m ∧ (∀ j, j < i → ∀ y ∈ N2 R U (g0 f j), y ∈ f) ∧ ∃ t, f = s :: t)
    (fun o => ∃ f a6' a7', o = .nx [a0, some (.dat (.list (iL R))), some (.dat (.list (iL U))), some (.ptr 0), some (.ptr 1), some (.ptr 2), a6', a7'] (lsd f f.length) ∧ Fnd (N2 R U) yes s N f ∧ (∀ x ∈ f, ∀ y ∈ N2 R U x, y ∈ f) ∧ ∃ t, f = s :: t)
    (fun m ε μ h => by
      obtain ⟨f, i, a6', a7', rfl, rfl, hf, hi, hm, hc, t, ht⟩ := h
      have hfl := hf.len hs F.n2_lt
      refine ⟨decide (i < f.length), lsd f i, by simp; omega, fun hb => ?_, fun hb => ?_⟩
      · have hb' := of_decide_eq_false hb
        have ei : i = f.length := by omega
        subst ei
        refine ⟨f, a6', a7', rfl, hf, fun x hx y hy => ?_, t, ht⟩
        obtain ⟨j, hj, rfl⟩ := mem_g0 hx
        exact hc j (by omega) y hy
      · have hi' := of_decide_eq_true hb
        obtain ⟨m', rfl⟩ : ∃ m', m = m' + 1 := ⟨m - 1, by omega⟩
        have hne : f ≠ [] := by rw [ht]; simp
        have hx : g0 f i < N := (hf.rc _ (g0_mem hi')).lt hs F.n2_lt
        obtain ⟨a7'', e⟩ := L1_listed_eq (f := f) (i := i + 1) F.lR F.lU (by omega) hne hf.nd (by omega) hx a0 a7'
        obtain ⟨u, eu⟩ := addsN_pre (ok := yes) (f := f) (xs := N2 R U (g0 f i))
        have ed : f.drop i = g0 f i :: f.drop (i + 1) := by rw [g0_of hi']; exact List.drop_eq_getElem_cons hi'
        have pop : eLM fPopAt (eVar 4) (aCons (eC (.int 0)) aNil) [a0, some (.dat (.list (iL R))), some (.dat (.list (iL U))), some (.ptr 0), some (.ptr 1), some (.ptr 2), a6', a7'] (lsd f i) = some (.dat (.int ((g0 f i : Nat) : Int)), lsd f (i + 1)) := by
          have : oL (f.drop i) = .dat (.int ((g0 f i : Nat) : Int)) :: oL (f.drop (i + 1)) := by rw [ed]; rfl
          have e2 : seqIndex? 0 (f.length - (i + 1) + 1) = some 0 := by
            unfold seqIndex?
            simp
          simp only [lsd]
          rw [this]
          simp [e2]
        refine ⟨m', rfl, .nx [a0, some (.dat (.list (iL R))), some (.dat (.list (iL U))), some (.ptr 0), some (.ptr 1), some (.ptr 2), some (.dat (.int ((g0 f i : Nat) : Int))), a7''] (lsd (addsN yes f (N2 R U (g0 f i))) (i + 1)), ?_, ?_⟩
        · unfold B2_listed sSeq sSet
          rw [pop]
          simp only [Option.bind_some, List.set_cons_succ, List.set_cons_zero]
          rw [e]
        · refine ⟨_, i + 1, _, a7'', rfl, rfl, hf.adds (g0_mem hi') (fun x hx => hx), ?_, by omega, fun j hj y hy => ?_, ?_⟩
          · rw [eu]; simp; omega
          · by_cases ej : j = i
            · subst ej
              rw [eu, g0_app hi'] at hy
              exact addsN_has hy rfl
            · have : j < i := by omega
              rw [eu, g0_app (by omega)] at hy
              exact addsN_sub (hc j this y hy)
          · exact ⟨t ++ u, by rw [eu, ht]; rfl⟩) 2000 N
    [a0, some (.dat (.list (iL R))), some (.dat (.list (iL U))), some (.ptr 0), some (.ptr 1), some (.ptr 2), a6, a7] (lsd [s] 0) (by omega) ⟨[s], 0, a6, a7, rfl, rfl, by simpa using Fnd.start (N := N2 R U) (ok := yes) (s := s) (n := N), Nat.zero_le _, by omega, fun j hj => absurd hj (Nat.not_lt_zero _), [], rfl⟩
  obtain ⟨o, h1, f, a6', a7', rfl, h2, h3, h4⟩ := key
  exact ⟨f, a6', a7', h1, h2, h3, h4⟩
theorem F_order_from_eq {R U : List Nat} {s N : Nat} (F : Flo R U N) (hs : s < N) : ∃ f, F_order_from [flo R U, .int (s : Int)] = some (.list (iL f)) ∧ Fnd (N2 R U) yes s N f ∧ (∀ x ∈ f, ∀ y ∈ N2 R U x, y ∈ f) := by
  have hn := F.small
  obtain ⟨f, a6, a7, e, h1, h2, t, rfl⟩ := L2_listed_eq F hs (some (.dat (.list [.int (s : Int)]))) none none
  refine ⟨s :: t, ?_, h1, h2⟩
  have hfl := h1.len hs F.n2_lt
  simp only [List.length_cons] at hfl
  have c1 : t.length + 1 ≤ 1000000 := by omega
  have e0 : lsd [s] 0 = [.dic [(.inl (s : Int), .dat (.bool true))], .lst [.dat (.int (s : Int))], .lst []] := rfl
  rw [e0] at e
  have L : F_listed [.dat (.list [.int (s : Int)]), .dat (.list (iL R)), .dat (.list (iL U)), .ptr 0] [.dic [(.inl (s : Int), .dat (.bool true))]] = some (.dat (.list (iL t)), [.dic (dB (s :: t)), .lst [], .gone]) := by
    simp [F_listed, r_listed, cap, e, oL_nil]
  have e1 : mergeP [] [((.inl (s : Int) : Key), PV.dat (.bool true))] = [(.inl (s : Int), .dat (.bool true))] := rfl
  have e2 : iL (s :: t) = .int (s : Int) :: iL t := rfl
  have c3 : 1 + t.length ≤ 1000000 := by omega
  rw [e2]
  simp [-mergeP, F_order_from, r_order_from, asDats, cap, L, e1, c1, c3]
end CM
namespace CM
open PySem L2 VX
/-! ### unfolded -/
theorem it0 : PySem.intText? "0" = some 0 := by first | rfl | decide +kernel
theorem it1 : PySem.intText? "1" = some 1 := by first | rfl | decide +kernel
theorem it2 : PySem.intText? "2" = some 2 := by first | rfl | decide +kernel
theorem it3 : PySem.intText? "3" = some 3 := by first | rfl | decide +kernel
theorem inMul_sm {j : Int} (h : 0 ≤ j) (h' : j < 1000) : inMul j = true := inB_iff.mpr ⟨Int.le_trans (by decide) h, Int.lt_trans h' (by decide)⟩
def mkE (mk : List Nat) : Ed → Nat := fun e => if e.1 then g0 mk e.2 % 2 else g0 mk e.2 / 2
/-- the word of the marks -/
structure MkW (w : Str) (mk : List Nat) (n : Nat) : Prop where
  ml : mk.length = n
  wl : w.length = n
  at' : ∀ x, x < n → ∃ c, L2.atI w.cps.toList (x : Int) = some c ∧ PySem.intText? ⟨#[c]⟩ = some ((g0 mk x : Nat) : Int)
theorem C1_unfolded_eq {R U mk : List Nat} {w : Str} {n : Nat} (F : Flo R U n) (M : MkW w mk n) (h0 : 0 < n) (a3 a4 a5 a6 : Option PV) :
    C1_unfolded [some (.dat (flo R U)), some (.dat (.str w)), some (.dat (.int (n : Int))), a3, a4, a5, a6] [] = some (.dat (.list (iL (R2 R n (mkE mk)))), []) := by
  have hn := F.small
  have e := lcD_map (G := fun _ => true) (tg := tgN 4) (te := eOp (fAdd false) (eOp fIx (eOp fIx (eVar 0) (eC (.int 1))) (eOp fMod (eVar 4) (eVar 2))) (eOp (fMul false) (eVar 2) (eOp fMod (eOp (fAdd false) (eOp fDiv (eVar 4) (eVar 2)) (eOp fMod (eCa fIntS (aCons (eOp fIx (eVar 1) (eOp fMod (eVar 4) (eVar 2))) (aNil))) (eC (.int 2)))) (eC (.int 2)))))
    (w := [some (.dat (flo R U)), some (.dat (.str w)), some (.dat (.int (n : Int))), a3, none, a5, a6]) (μ := [])
    (fun p => match p with | .dat (.int i) => .dat (.int ((g0 (R2 R n (mkE mk)) i.toNat : Nat) : Int)) | p => p) ((List.range (2 * n)).map fun (i : Nat) => PV.dat (.int (i : Int))) (fun p hp => by
      obtain ⟨i, hi, rfl⟩ := List.mem_map.mp hp
      have hi := List.mem_range.mp hi
      obtain ⟨x, b, rfl, hx, hb⟩ := dm hi
      obtain ⟨c, h1, h2⟩ := M.at' x hx
      have m1 : ((x + n * b : Nat) : Int) % (n : Int) = (x : Int) := by rw [← Int.natCast_emod, dm_mod hx]
      have d1 : ((x + n * b : Nat) : Int) / (n : Int) = (b : Int) := by rw [← Int.natCast_ediv, dm_div hx]
      have a1 := at_oL (ns := R) (j := x) (by rw [F.lR]; exact hx)
      have k := upR_at (R := R) (f := fun x => mkE mk (true, x)) hx hb
      have wl := M.wl
      have c1 : w.length ≤ 1000000 := by omega
      have c2 : (n : Int) < 1073741824 := by omega
      have sl : (⟨#[c]⟩ : Str).length ≤ 640 := by show 1 ≤ 640; omega
      have q3 : inMul (n : Int) = true := inMul_sm (by omega) (by omega)
      generalize x + n * b = I at *
      refine ⟨_, rfl, ?_⟩
      simp [m1, d1, h1, h2, a1, k, h0, cap, c1, c2, sl, q3, mkE]) rfl
  have c3 : 2 * n ≤ 1000000 := by omega
  have c4 : 2 * n ≤ 100000 := by omega
  have q3 : inMul (n : Int) = true := inMul_sm (by omega) (by omega)
  have c5 : inRg (2 * (n : Int)) = true := inRg_int (by omega) (by omega)
  have c6 : (2 * (n : Int)).toNat = 2 * n := by omega
  have e3 : ((List.range (2 * n)).map fun (i : Nat) => PV.dat (.int (i : Int))).map (fun p => match p with | .dat (.int i) => PV.dat (.int ((g0 (R2 R n (mkE mk)) i.toNat : Nat) : Int)) | p => p) = oL (R2 R n (mkE mk)) := by
    have := map_g0 (R2 R n (mkE mk))
    rw [upR_len] at this
    conv => rhs; rw [← this]
    simp [oL]
  rw [e3] at e
  unfold C1_unfolded eLc
  simp [q3, c5, c6, okG_none, wipeE, e, cap, c3]
theorem C2_unfolded_eq {R U mk : List Nat} {w : Str} {n : Nat} (F : Flo R U n) (M : MkW w mk n) (h0 : 0 < n) (a3 a4 a5 a6 : Option PV) :
    C2_unfolded [some (.dat (flo R U)), some (.dat (.str w)), some (.dat (.int (n : Int))), a3, a4, a5, a6] [] = some (.dat (.list (iL (U2 U n (mkE mk)))), []) := by
  have hn := F.small
  have e := lcD_map (G := fun _ => true) (tg := tgN 4) (te := eOp (fAdd false) (eOp fIx (eOp fIx (eVar 0) (eC (.int 2))) (eOp fMod (eVar 4) (eVar 2))) (eOp (fMul false) (eVar 2) (eOp fMod (eOp (fAdd false) (eOp fDiv (eVar 4) (eVar 2)) (eOp fDiv (eCa fIntS (aCons (eOp fIx (eVar 1) (eOp fMod (eVar 4) (eVar 2))) (aNil))) (eC (.int 2)))) (eC (.int 2)))))
    (w := [some (.dat (flo R U)), some (.dat (.str w)), some (.dat (.int (n : Int))), a3, none, a5, a6]) (μ := [])
    (fun p => match p with | .dat (.int i) => .dat (.int ((g0 (U2 U n (mkE mk)) i.toNat : Nat) : Int)) | p => p) ((List.range (2 * n)).map fun (i : Nat) => PV.dat (.int (i : Int))) (fun p hp => by
      obtain ⟨i, hi, rfl⟩ := List.mem_map.mp hp
      have hi := List.mem_range.mp hi
      obtain ⟨x, b, rfl, hx, hb⟩ := dm hi
      obtain ⟨c, h1, h2⟩ := M.at' x hx
      have m1 : ((x + n * b : Nat) : Int) % (n : Int) = (x : Int) := by rw [← Int.natCast_emod, dm_mod hx]
      have d1 : ((x + n * b : Nat) : Int) / (n : Int) = (b : Int) := by rw [← Int.natCast_ediv, dm_div hx]
      have a1 := at_oL (ns := U) (j := x) (by rw [F.lU]; exact hx)
      have k := upR_at (R := U) (f := fun x => mkE mk (false, x)) hx hb
      have wl := M.wl
      have c1 : w.length ≤ 1000000 := by omega
      have c2 : (n : Int) < 1073741824 := by omega
      have sl : (⟨#[c]⟩ : Str).length ≤ 640 := by show 1 ≤ 640; omega
      have q3 : inMul (n : Int) = true := inMul_sm (by omega) (by omega)
      generalize x + n * b = I at *
      refine ⟨_, rfl, ?_⟩
      simp [m1, d1, h1, h2, a1, k, h0, cap, c1, c2, sl, q3, mkE]) rfl
  have c3 : 2 * n ≤ 1000000 := by omega
  have c4 : 2 * n ≤ 100000 := by omega
  have q3 : inMul (n : Int) = true := inMul_sm (by omega) (by omega)
  have c5 : inRg (2 * (n : Int)) = true := inRg_int (by omega) (by omega)
  have c6 : (2 * (n : Int)).toNat = 2 * n := by omega
  have e3 : ((List.range (2 * n)).map fun (i : Nat) => PV.dat (.int (i : Int))).map (fun p => match p with | .dat (.int i) => PV.dat (.int ((g0 (U2 U n (mkE mk)) i.toNat : Nat) : Int)) | p => p) = oL (U2 U n (mkE mk)) := by
    have := map_g0 (U2 U n (mkE mk))
    rw [upR_len] at this
    conv => rhs; rw [← this]
    simp [oL]
  rw [e3] at e
  unfold C2_unfolded eLc
  simp [q3, c5, c6, okG_none, wipeE, e, cap, c3]
theorem F_unfolded_eq {R U mk : List Nat} {w : Str} {n : Nat} (F : Flo R U n) (M : MkW w mk n) (h0 : 0 < n) (h60 : 2 * n ≤ 60) :
    ∃ f, F_unfolded [flo R U, .str w] = some (if f.length = 2 * n then flo (R2 R n (mkE mk)) (U2 U n (mkE mk)) else .none) ∧ Fnd (N2 (R2 R n (mkE mk)) (U2 U n (mkE mk))) yes 0 (2 * n) f ∧ ∀ x ∈ f, ∀ y ∈ N2 (R2 R n (mkE mk)) (U2 U n (mkE mk)) x, y ∈ f := by
  obtain ⟨f, e, h1, h2⟩ := F_order_from_eq (flo2 (m := mkE mk) F h60) (s := 0) (by omega)
  refine ⟨f, ?_, h1, h2⟩
  have q3 : inMul (n : Int) = true := inMul_sm (by omega) (by omega)
  have e' : F_order_from [flo (R2 R n (mkE mk)) (U2 U n (mkE mk)), .int 0] = some (.list (iL f)) := e
  have z : ((f.length : Int) = 2 * (n : Int)) ↔ f.length = 2 * n := by omega
  by_cases hl : f.length = 2 * n
  · simp [F_unfolded, r_unfolded, F.lR, C1_unfolded_eq F M h0, C2_unfolded_eq F M h0, asDats, cap, e', q3, z, hl]
  · simp [F_unfolded, r_unfolded, F.lR, C1_unfolded_eq F M h0, C2_unfolded_eq F M h0, asDats, cap, e', q3, z, hl]
end CM
namespace CM
open PySem L2 VX
/-! ### behind, rounds_of, corners -/
def bhd (A B : List Nat) : List Nat := A.map (g0 B)
@[simp] theorem bhd_len {A B : List Nat} : (bhd A B).length = A.length := by simp [bhd]
theorem bhd_at {A B : List Nat} {x : Nat} (h : x < A.length) : g0 (bhd A B) x = g0 B (g0 A x) := by
  rw [g0_of (by simpa using h), g0_of h]; simp [bhd]
theorem bhd_ord {A B : List Nat} (oA : Ord A) (oB : Ord B) (hl : A.length = B.length) : Ord (bhd A B) := by
  refine ord_of (fun j h => ?_) fun i j hi hj e => ?_
  · simp only [bhd_len] at h ⊢
    rw [bhd_at h, hl]
    exact oB.low _ (by rw [← hl]; exact oA.low j h)
  · simp only [bhd_len] at hi hj
    rw [bhd_at hi, bhd_at hj] at e
    exact oA.inj hi hj (oB.inj (by rw [← hl]; exact oA.low i hi) (by rw [← hl]; exact oA.low j hj) e)
theorem F_behind_eq {A B : List Nat} (hA : ∀ x ∈ A, x < B.length) (hl : A.length ≤ 1000) : F_behind [.list (iL A), .list (iL B)] = some (.list (iL (bhd A B))) := by
  have e := lcD_map (G := fun _ => true) (tg := tgN 2) (te := eOp fIx (eVar 1) (eVar 2)) (w := [some (.dat (.list (iL A))), some (.dat (.list (iL B))), none]) (μ := [])
    (fun p => match p with | .dat (.int i) => .dat (.int ((g0 B i.toNat : Nat) : Int)) | p => p) (oL A) (fun p hp => by
      obtain ⟨x, hx, rfl⟩ := List.mem_map.mp hp
      have a1 := at_oL (ns := B) (j := x) (hA x hx)
      refine ⟨_, rfl, ?_⟩
      simp [a1]) rfl
  have e3 : (oL A).map (fun p => match p with | .dat (.int i) => PV.dat (.int ((g0 B i.toNat : Nat) : Int)) | p => p) = oL (bhd A B) := by
    simp [oL, bhd]
  rw [e3] at e
  have c : A.length ≤ 1000000 := by omega
  have L : C1_behind [some (.dat (.list (iL A))), some (.dat (.list (iL B))), none] [] = some (.dat (.list (iL (bhd A B))), []) := by
    unfold C1_behind eLc
    simp [okG_none, wipeE, e, cap, c]
  simp [F_behind, r_behind, L]
/-- around a corner -/
def kapL (R U : List Nat) : List Nat := bhd (bhd R U) (bhd (inv R) (inv U))
section
variable {R U : List Nat} {n : Nat}
theorem kapL_len (F : Flo R U n) : (kapL R U).length = n := by simp [kapL, F.lR]
theorem kapL_ord (F : Flo R U n) : Ord (kapL R U) := by
  have h1 : R.length = U.length := by rw [F.lR, F.lU]
  exact bhd_ord (bhd_ord F.oR F.oU h1) (bhd_ord F.oR.inv F.oU.inv (by simpa using h1)) (by simp)
theorem kapL_at (F : Flo R U n) {x : Nat} (hx : x < n) : g0 (kapL R U) x = g0 (inv U) (g0 (inv R) (g0 U (g0 R x))) := by
  have hR : x < R.length := by rw [F.lR]; exact hx
  have h1 := F.oR.low x hR
  have h2 := F.oU.low (g0 R x) (by rw [F.lU, ← F.lR]; exact h1)
  unfold kapL
  rw [bhd_at (by simpa using hR), bhd_at hR, bhd_at (by rw [inv_len, F.lR, ← F.lU]; exact h2)]
theorem F_corners_via (F : Flo R U n) {d : PyData} (h : F_rounds_of [.list (iL (kapL R U))] = some d) : F_corners [flo R U] = some d := by
  have hn := F.small
  have h1 : R.length = U.length := by rw [F.lR, F.lU]
  have b1 := F_behind_eq (A := R) (B := U) (fun x hx => by rw [← h1]; exact F.oR.lt x hx) (by rw [F.lR]; omega)
  have b2 := F_behind_eq (A := inv R) (B := inv U) (fun x hx => by have := F.oR.inv.lt x hx; simp at this; simp; omega) (by simp; rw [F.lR]; omega)
  have b3 := F_behind_eq (A := bhd R U) (B := bhd (inv R) (inv U)) (fun x hx => by have := (bhd_ord F.oR F.oU h1).lt x hx; simp at this; simp; exact this) (by simp; rw [F.lR]; omega)
  have l1 := F_left_eq R U (by rw [F.lR]; omega) F.oR.low
  have l2 := F_down_eq R U (by rw [F.lU]; omega) F.oU.low
  change F_behind _ = some (.list (iL (kapL R U))) at b3
  simp [F_corners, r_corners, asDats, b1, b2, b3, l1, l2, h]
end
/-! rounds -/
def oR (Ls : List (List Nat)) : List PV := Ls.map fun r => .dat (.list (iL r))
def iR (Ls : List (List Nat)) : List PyData := Ls.map fun r => .list (iL r)
@[simp] theorem map_iR (Ls : List (List Nat)) : (iR Ls).map PV.dat = oR Ls := by simp [iR, oR]
@[simp] theorem len_oR (Ls : List (List Nat)) : (oR Ls).length = Ls.length := by simp [oR]
@[simp] theorem asDats_oR (Ls : List (List Nat)) : asDats (oR Ls) = some (iR Ls) := by rw [← map_iR, asDats_map]
@[simp] theorem oR_snoc (Ls : List (List Nat)) (r : List Nat) : oR Ls ++ [.dat (.list (iL r))] = oR (Ls ++ [r]) := by simp [oR]
/-- a row gone along K, so far -/
structure RowS (K f0 rr : List Nat) (n s h : Nat) : Prop where
  nd : (f0 ++ rr).Nodup
  lt : ∀ x ∈ f0 ++ rr, x < n
  hn : h < n
  ch : ∀ j, j + 1 < rr.length → g0 K (g0 rr j) = g0 rr (j + 1)
  ls : (rr = [] ∧ h = s) ∨ (rr ≠ [] ∧ h = g0 K (g0 rr (rr.length - 1)) ∧ s ∈ rr)
theorem RowS.next {K f0 rr : List Nat} {n s h : Nat} (r : RowS K f0 rr n s h) (hK : K.length = n) (oK : Ord K) (hn : h ∉ f0 ++ rr) : RowS K f0 (rr ++ [h]) n s (g0 K h) := by
  have hh := r.hn
  refine ⟨?_, fun x hx => ?_, by have := oK.low h (by omega); omega, fun j hj => ?_, .inr ⟨by simp, ?_, ?_⟩⟩
  · rw [← List.append_assoc, List.nodup_append]
    exact ⟨r.nd, by simp, fun a ha b hb => by simp at hb; subst hb; intro z; subst z; exact hn ha⟩
  · rw [← List.append_assoc, List.mem_append] at hx
    rcases hx with hx | hx
    · exact r.lt x hx
    · simp at hx; subst hx; exact hh
  · simp only [List.length_append, List.length_cons, List.length_nil] at hj
    by_cases e : j + 1 < rr.length
    · rw [g0_app (by omega), g0_app e]; exact r.ch j e
    · have ej : j + 1 = rr.length := by omega
      rw [g0_app (by omega)]
      rcases r.ls with ⟨z, _⟩ | ⟨_, z, _⟩
      · have : rr.length = 0 := by rw [z]; rfl
        omega
      · have : rr.length - 1 = j := by omega
        rw [this] at z
        rw [← z, ej, g0_of (xs := rr ++ [h]) (j := rr.length) (by simp)]
        simp
  · have : (rr ++ [h]).length - 1 = rr.length := by simp
    rw [this, g0_of (xs := rr ++ [h]) (j := rr.length) (by simp)]
    simp
  · rcases r.ls with ⟨z, e⟩ | ⟨_, _, z⟩
    · subst z; subst e; simp
    · exact List.mem_append_left _ z
theorem RowS.closed {K f0 rr : List Nat} {n s h : Nat} (r : RowS K f0 rr n s h) (hK : K.length = n) (oK : Ord K) (hc : ∀ x ∈ f0, g0 K x ∈ f0) (hm : h ∈ f0 ++ rr) : ∀ x ∈ rr, g0 K x ∈ rr := by
  intro x hx
  obtain ⟨j, hj, rfl⟩ := mem_g0 hx
  by_cases e : j + 1 < rr.length
  · rw [r.ch j e]; exact g0_mem e
  · have ej : j = rr.length - 1 := by omega
    rcases r.ls with ⟨z, _⟩ | ⟨_, z, _⟩
    · have : rr.length = 0 := by rw [z]; rfl
      omega
    · rw [ej, ← z]
      rcases List.mem_append.mp hm with hm | hm
      · exfalso
        have nd := List.nodup_append.mp r.nd
        have q := closed_inv oK nd.1 (fun y hy => by rw [hK]; exact r.lt y (List.mem_append_left _ hy)) hc h hm
        rw [z, inv_at oK (by rw [hK]; exact r.lt _ (List.mem_append_right _ (g0_mem (by omega))))] at q
        exact nd.2.2 _ q _ (g0_mem (by omega)) rfl
      · exact hm
abbrev rdS (f : List Nat) (Ls : List (List Nat)) (rest : Sto) : Sto := SO.dic (dB f) :: SO.lst (oR Ls) :: rest
theorem L1_rounds_of_eq {K f0 : List Nat} {Ls : List (List Nat)} {rest : Sto} {n s : Nat} (hK : K.length = n) (h60 : n ≤ 60) (oK : Ord K) (nd : f0.Nodup) (hlt : ∀ x ∈ f0, x < n) (hs : s < n) (a2 a3 : Option PV) :
    ∃ (rr : List Nat) (h : Nat), L1_rounds_of [some (.dat (.list (iL K))), some (.ptr 0), a2, a3, some (.ptr (rest.length + 2)), some (.dat (.int (s : Int)))] (rdS f0 Ls (rest ++ [.lst []])) =
      some (.nx [some (.dat (.list (iL K))), some (.ptr 0), a2, a3, some (.ptr (rest.length + 2)), some (.dat (.int (h : Int)))] (rdS (f0 ++ rr) Ls (rest ++ [.lst (oL rr)]))) ∧ RowS K f0 rr n s h ∧ h ∈ f0 ++ rr := by
  have key := whileN_gen (c := tsE (eDIn true (eVar 5) (eVar 1))) (b := B1_rounds_of)
    (fun m ε μ => ∃ (rr : List Nat) (h : Nat), ε = [some (.dat (.list (iL K))), some (.ptr 0), a2, a3, some (.ptr (rest.length + 2)), some (.dat (.int ((h : Nat) : Int)))] ∧ μ = rdS (f0 ++ rr) Ls (rest ++ [.lst (oL rr)]) ∧ RowS K f0 rr n s h ∧ n - (f0 ++ rr).length ≤ m)
    (fun o => ∃ (rr : List Nat) (h : Nat), o = .nx [some (.dat (.list (iL K))), some (.ptr 0), a2, a3, some (.ptr (rest.length + 2)), some (.dat (.int ((h : Nat) : Int)))] (rdS (f0 ++ rr) Ls (rest ++ [.lst (oL rr)])) ∧ RowS K f0 rr n s h ∧ h ∈ f0 ++ rr)
    (fun m ε μ hI => by
      obtain ⟨rr, h, rfl, rfl, r, hm⟩ := hI
      have v := valP_dB h (f0 ++ rr)
      have hl := nodup_len n _ r.nd r.lt
      refine ⟨decide (h ∉ f0 ++ rr), rdS (f0 ++ rr) Ls (rest ++ [.lst (oL rr)]), ?_, fun hb => ?_, fun hb => ?_⟩
      · by_cases q : h ∈ f0 ++ rr
        · simp only [q, if_true] at v
          simp [-List.mem_append, v, q]
        · simp only [q, if_false] at v
          simp [-List.mem_append, v, q]
      · have q : h ∈ f0 ++ rr := by simpa [-List.mem_append] using hb
        exact ⟨rr, h, rfl, r, q⟩
      · have q : h ∉ f0 ++ rr := of_decide_eq_true hb
        simp only [q, if_false] at v
        have a1 := at_oL (ns := K) (j := h) (by rw [hK]; exact r.hn)
        have hlt2 := nodup_len n (h :: (f0 ++ rr)) (List.nodup_cons.mpr ⟨q, r.nd⟩) fun x hx => by
          rcases List.mem_cons.mp hx with rfl | hx
          · exact r.hn
          · exact r.lt x hx
        simp only [List.length_cons] at hlt2
        obtain ⟨m', rfl⟩ : ∃ m', m = m' + 1 := ⟨m - 1, by omega⟩
        refine ⟨m', rfl, .nx [some (.dat (.list (iL K))), some (.ptr 0), a2, a3, some (.ptr (rest.length + 2)), some (.dat (.int ((g0 K h : Nat) : Int)))] (rdS (f0 ++ (rr ++ [h])) Ls (rest ++ [.lst (oL (rr ++ [h]))])), ?_, rr ++ [h], g0 K h, rfl, rfl, r.next hK oK q, ?_⟩
        · have c1 : (f0 ++ rr).length < 1000000 := by omega
          have c2 : rr.length < 1000000 := by simp at c1; omega
          have c3 : f0.length + rr.length < 1000000 := by simpa using c1
          have p := putP_dB q
          have nb := ndB_dB r.nd
          rw [List.append_assoc] at p
          have g : (rest ++ [SO.lst (oL rr)])[rest.length]? = some (SO.lst (oL rr)) := by simp
          have g2 : ∀ X, (rest ++ [SO.lst (oL rr)]).set rest.length X = rest ++ [X] := fun X => by simp
          simp [-List.getElem?_append_right, B1_rounds_of, cap, dB_len, c3, nb, p, g, g2, c2, a1]
        · simp only [List.length_append, List.length_cons, List.length_nil] at hm hlt2 ⊢
          omega) 2000 n
    [some (.dat (.list (iL K))), some (.ptr 0), a2, a3, some (.ptr (rest.length + 2)), some (.dat (.int (s : Int)))] (rdS f0 Ls (rest ++ [.lst []])) (by omega) ⟨[], s, rfl, by simp [oL], ⟨by simpa using nd, by simpa using hlt, hs, fun j hj => by simp at hj, .inl ⟨rfl, rfl⟩⟩, by omega⟩
  obtain ⟨o, h1, rr, h, rfl, h2, h3⟩ := key
  exact ⟨rr, h, h1, h2, h3⟩
end CM
namespace CM
open PySem L2 VX
structure RdI (K f : List Nat) (Ls : List (List Nat)) (n i : Nat) : Prop where
  nd : f.Nodup
  fl : f = Ls.flatten
  lt : ∀ x ∈ f, x < n
  all : ∀ x, x < i → x ∈ f
  cl : ∀ r ∈ Ls, ∀ x ∈ r, g0 K x ∈ r
  ln : Ls.length ≤ f.length
theorem RdI.clf {K f : List Nat} {Ls : List (List Nat)} {n i : Nat} (h : RdI K f Ls n i) : ∀ x ∈ f, g0 K x ∈ f := by
  intro x hx
  rw [h.fl, List.mem_flatten] at hx ⊢
  obtain ⟨r, hr, hx⟩ := hx
  exact ⟨r, hr, h.cl r hr x hx⟩
theorem B2_rounds_of_eq {K f : List Nat} {Ls : List (List Nat)} {rest : Sto} {n i : Nat} (hK : K.length = n) (h60 : n ≤ 60) (oK : Ord K) (I : RdI K f Ls n i) (hi : i < n) (a4 a5 : Option PV) :
    ∃ f' Ls' rest' a4' a5', B2_rounds_of [some (.dat (.list (iL K))), some (.ptr 0), some (.ptr 1), some (.dat (.int (i : Int))), a4, a5] (rdS f Ls rest) =
      some (.nx [some (.dat (.list (iL K))), some (.ptr 0), some (.ptr 1), some (.dat (.int (i : Int))), a4', a5'] (rdS f' Ls' rest')) ∧ RdI K f' Ls' n (i + 1) := by
  obtain ⟨rr, h, e, r, hm⟩ := L1_rounds_of_eq (Ls := Ls) (rest := rest) hK h60 oK I.nd I.lt hi (some (.ptr 1)) (some (.dat (.int (i : Int))))
  have hfl := nodup_len n _ r.nd r.lt
  simp only [List.length_append] at hfl
  have hLl := I.ln
  have c1 : rr.length ≤ 1000000 := by omega
  have c2 : Ls.length < 1000000 := by omega
  have g : ∀ X : SO, (rest ++ [X])[rest.length]? = some X := fun X => by simp
  have g2 : ∀ X Y : SO, (rest ++ [X]).set rest.length Y = rest ++ [Y] := fun X Y => by simp
  have gl : rest.length < rest.length + 1 := by omega
  by_cases hr : rr = []
  · subst hr
    have hif : i ∈ f := by
      rcases r.ls with ⟨_, z⟩ | ⟨z, _⟩
      · subst z; simpa using hm
      · exact absurd rfl z
    refine ⟨f, Ls, rest ++ [.lst []], some (.ptr (rest.length + 2)), some (.dat (.int (h : Int))), ?_, I.nd, I.fl, I.lt, fun x hx => ?_, I.cl, I.ln⟩
    · unfold B2_rounds_of
      refine (seq_nx (ε' := [some (.dat (.list (iL K))), some (.ptr 0), some (.ptr 1), some (.dat (.int (i : Int))), some (.ptr (rest.length + 2)), a5]) (μ' := rdS f Ls (rest ++ [.lst []])) (by simp [cap])).trans ?_
      refine (seq_nx (ε' := [some (.dat (.list (iL K))), some (.ptr 0), some (.ptr 1), some (.dat (.int (i : Int))), some (.ptr (rest.length + 2)), some (.dat (.int (i : Int)))]) (μ' := rdS f Ls (rest ++ [.lst []])) (by simp)).trans ?_
      refine (seq_nx e).trans ?_
      simp [-List.getElem?_append_right, g, oL_nil]
    · by_cases q : x < i
      · exact I.all x q
      · have : x = i := by omega
        subst this; exact hif
  · have hpos : 0 < rr.length := List.length_pos_iff.mpr hr
    refine ⟨f ++ rr, Ls ++ [rr], rest ++ [.gone], some (.ptr (rest.length + 2)), some (.dat (.int (h : Int))), ?_, r.nd, by rw [List.flatten_append, I.fl]; simp, r.lt, fun x hx => ?_, fun q hq => ?_, by simp; omega⟩
    · unfold B2_rounds_of
      refine (seq_nx (ε' := [some (.dat (.list (iL K))), some (.ptr 0), some (.ptr 1), some (.dat (.int (i : Int))), some (.ptr (rest.length + 2)), a5]) (μ' := rdS f Ls (rest ++ [.lst []])) (by simp [cap])).trans ?_
      refine (seq_nx (ε' := [some (.dat (.list (iL K))), some (.ptr 0), some (.ptr 1), some (.dat (.int (i : Int))), some (.ptr (rest.length + 2)), some (.dat (.int (i : Int)))]) (μ' := rdS f Ls (rest ++ [.lst []])) (by simp)).trans ?_
      refine (seq_nx e).trans ?_
      simp [-List.getElem?_append_right, g, g2, hpos, cap, c2]
    · by_cases q : x < i
      · exact List.mem_append_left _ (I.all x q)
      · have : x = i := by omega
        subst this
        rcases r.ls with ⟨z, _⟩ | ⟨_, _, z⟩
        · exact absurd z hr
        · exact List.mem_append_right _ z
    · rcases List.mem_append.mp hq with hq | hq
      · exact I.cl q hq
      · simp at hq; subst hq
        exact r.closed hK oK I.clf hm
theorem F_rounds_of_eq {K : List Nat} {n : Nat} (hK : K.length = n) (h60 : n ≤ 60) (oK : Ord K) : ∃ Ls f, F_rounds_of [.list (iL K)] = some (.list (iR Ls)) ∧ RdI K f Ls n n := by
  have key := forD_all (G := fun _ => true) (tg := tgN 3) (b := B2_rounds_of)
    (fun i ε μ => ∃ f Ls rest a3 a4 a5, ε = [some (.dat (.list (iL K))), some (.ptr 0), some (.ptr 1), a3, a4, a5] ∧ μ = rdS f Ls rest ∧ RdI K f Ls n i) ((List.range n).map fun i => PV.dat (.int (i : Nat))) (fun _ _ _ _ => rfl) (fun i p ε μ hp h => by
      obtain ⟨f, Ls, rest, a3, a4, a5, rfl, rfl, I⟩ := h
      have hi : i < n := by simpa using (List.getElem?_eq_some_iff.mp hp).1
      have ep : p = .dat (.int (i : Int)) := by simpa [hi] using hp.symm
      subst ep
      obtain ⟨f', Ls', rest', a4', a5', e, I'⟩ := B2_rounds_of_eq (rest := rest) hK h60 oK I hi a4 a5
      exact ⟨_, _, _, _, rfl, e, f', Ls', rest', _, a4', a5', rfl, rfl, I'⟩) (ε := [some (.dat (.list (iL K))), some (.ptr 0), some (.ptr 1), none, none, none]) (μ := rdS [] [] []) ⟨[], [], [], none, none, none, rfl, rfl, ⟨by simp, rfl, (fun x hx => by cases hx), (fun x hx => absurd hx (Nat.not_lt_zero _)), (fun r hr => by cases hr), Nat.le_refl _⟩⟩
  obtain ⟨ε', μ', h1, f, Ls, rest, a3, a4, a5, rfl, rfl, I⟩ := key
  simp only [List.length_map, List.length_range] at h1 I
  refine ⟨Ls, f, ?_, I⟩
  have c : n ≤ 100000 := by omega
  have L : L2_rounds_of [some (.dat (.list (iL K))), some (.ptr 0), some (.ptr 1), none, none, none] [.dic [], .lst []] = some (.nx [some (.dat (.list (iL K))), some (.ptr 0), some (.ptr 1), a3, a4, a5] (rdS f Ls rest)) := by
    unfold L2_rounds_of sFor
    have e0 : rdS [] [] [] = [SO.dic [], SO.lst []] := rfl
    rw [e0] at h1
    simp [hK, c, okG_none, h1]
  simp [F_rounds_of, r_rounds_of, cap, L]
/-! corner_of -/
def setR (C : List Nat) (r : List Nat) (k : Nat) : List Nat := r.foldl (fun C x => C.set x k) C
theorem setR_len {r : List Nat} {k : Nat} : ∀ {C : List Nat}, (setR C r k).length = C.length := by
  induction r with
  | nil => intro C; rfl
  | cons x r ih => intro C; show (setR (C.set x k) r k).length = _; rw [ih, List.length_set]
theorem setR_at {r : List Nat} {k y : Nat} : ∀ {C : List Nat}, y < C.length → g0 (setR C r k) y = if y ∈ r then k else g0 C y := by
  induction r with
  | nil => intro C h; rfl
  | cons x r ih =>
    intro C h
    show g0 (setR (C.set x k) r k) y = _
    rw [ih (by rw [List.length_set]; exact h), g0_set h]
    by_cases e : y ∈ r
    · simp [e]
    · by_cases e2 : x = y
      · subst e2; simp
      · have : ¬ y = x := fun z => e2 z.symm
        simp [e, e2, this]
theorem L1_corner_of_eq {C r : List Nat} {k n : Nat} (hl : C.length = n) (hr : ∀ x ∈ r, x < n) (a0 a4 : Option PV) :
    ∃ a4', L1_corner_of [a0, some (.ptr 0), some (.dat (.int (k : Int))), some (.dat (.list (iL r))), a4] [.lst (oL C)] = some (.nx [a0, some (.ptr 0), some (.dat (.int (k : Int))), some (.dat (.list (iL r))), a4'] [.lst (oL (setR C r k))]) := by
  have key := forD_all (G := fun _ => true) (tg := tgN 4) (b := B1_corner_of)
    (fun i ε μ => ∃ a4', ε = [a0, some (.ptr 0), some (.dat (.int (k : Int))), some (.dat (.list (iL r))), a4'] ∧ μ = [.lst (oL (setR C (r.take i) k))]) (oL r) (fun _ _ _ _ => rfl) (fun i p ε μ hp h => by
      obtain ⟨a4', rfl, rfl⟩ := h
      obtain ⟨hi, rfl⟩ := get_oL hp
      have hx : g0 r i < (setR C (r.take i) k).length := by rw [setR_len, hl]; exact hr _ (g0_mem hi)
      refine ⟨_, _, [a0, some (.ptr 0), some (.dat (.int (k : Int))), some (.dat (.list (iL r))), some (.dat (.int ((g0 r i : Nat) : Int)))], [.lst (oL (setR C (r.take (i + 1)) k))], rfl, ?_, _, rfl, rfl⟩
      have e : setR C (r.take (i + 1)) k = (setR C (r.take i) k).set (g0 r i) k := by
        rw [take_snoc hi, g0_of hi]
        unfold setR
        rw [List.foldl_append]; rfl
      rw [e]
      simp [B1_corner_of, ixN_natD hx]) (ε := [a0, some (.ptr 0), some (.dat (.int (k : Int))), some (.dat (.list (iL r))), a4]) (μ := [.lst (oL (setR C [] k))]) ⟨a4, rfl, rfl⟩
  obtain ⟨ε', μ', h1, a4', rfl, rfl⟩ := key
  rw [len_oL, List.take_length] at h1
  refine ⟨a4', ?_⟩
  have e0 : setR C [] k = C := rfl
  rw [e0] at h1
  unfold L1_corner_of sFor
  simp [okG_none, h1]
theorem get_oR {Ls : List (List Nat)} {i : Nat} {d : PyData} (h : (iR Ls)[i]? = some d) : ∃ hi : i < Ls.length, d = .list (iL Ls[i]) := by
  have hi : i < Ls.length := by simpa [iR] using (List.getElem?_eq_some_iff.mp h).1
  refine ⟨hi, ?_⟩
  simp [iR, hi] at h
  exact h.symm
theorem F_corner_of_eq {R U : List Nat} {n : Nat} (F : Flo R U n) : ∃ C, F_corner_of [flo R U] = some (.list (iL C)) ∧ Cor R U C n := by
  have hn := F.small
  obtain ⟨Ls, f, e, I⟩ := F_rounds_of_eq (kapL_len F) hn (kapL_ord F)
  have ec := F_corners_via F e
  have memlt : ∀ r ∈ Ls, ∀ x ∈ r, x < n := fun r hr x hx => I.lt x (by rw [I.fl]; exact List.mem_flatten.mpr ⟨r, hr, hx⟩)
  have key := forD_all (G := fun _ => true) (tg := tgT 2 (tgsCons (tgN 2) (tgsCons (tgN 3) tgsNil))) (b := B2_corner_of)
    (fun i ε μ => ∃ C a2 a3 a4, ε = [some (.dat (flo R U)), some (.ptr 0), a2, a3, a4] ∧ μ = [.lst (oL C)] ∧ C.length = n ∧ ∀ x ∈ (Ls.take i).flatten, g0 C (g0 (kapL R U) x) = g0 C x) ((enumD (iR Ls)).map PV.dat) (fun _ _ _ _ => rfl) (fun i p ε μ hp h => by
      obtain ⟨C, a2, a3, a4, rfl, rfl, hC, hk⟩ := h
      obtain ⟨d, h1, rfl⟩ := enum_get hp
      obtain ⟨hi, rfl⟩ := get_oR h1
      have hrl := memlt _ (List.getElem_mem hi)
      obtain ⟨a4', e1⟩ := L1_corner_of_eq (k := i) hC hrl (some (.dat (flo R U))) a4
      refine ⟨_, _, _, _, rfl, e1, _, _, _, _, rfl, rfl, by rw [setR_len]; exact hC, fun x hx => ?_⟩
      have ts : (Ls.take (i + 1)).flatten = (Ls.take i).flatten ++ Ls[i] := by rw [take_snoc hi, List.flatten_append]; simp
      have nd : ((Ls.take i).flatten ++ Ls[i]).Nodup := by
        rw [← ts]
        have h1 := I.nd
        rw [I.fl, ← List.take_append_drop (i + 1) Ls, List.flatten_append, List.nodup_append] at h1
        exact h1.1
      have nd2 := (List.nodup_append.mp nd).2.2
      have old : ∀ y ∈ (Ls.take i).flatten, y ∉ Ls[i] := fun y hy hy2 => nd2 y hy y hy2 rfl
      have oldK : ∀ y ∈ (Ls.take i).flatten, g0 (kapL R U) y ∈ (Ls.take i).flatten := fun y hy => by
        obtain ⟨r, hr, hy⟩ := List.mem_flatten.mp hy
        exact List.mem_flatten.mpr ⟨r, hr, I.cl r (List.mem_of_mem_take hr) y hy⟩
      have fl : ∀ y ∈ (Ls.take i).flatten, y < n := fun y hy => by
        obtain ⟨r, hr, hy⟩ := List.mem_flatten.mp hy
        exact memlt r (List.mem_of_mem_take hr) y hy
      rw [ts, List.mem_append] at hx
      rcases hx with hx | hx
      · have hx2 := oldK x hx
        rw [setR_at (by rw [hC]; exact fl _ hx2), setR_at (by rw [hC]; exact fl _ hx), if_neg (old _ hx2), if_neg (old _ hx)]
        exact hk x hx
      · have hx2 := I.cl _ (List.getElem_mem hi) x hx
        rw [setR_at (by rw [hC]; exact hrl _ hx2), setR_at (by rw [hC]; exact hrl _ hx), if_pos hx2, if_pos hx]) (ε := [some (.dat (flo R U)), some (.ptr 0), none, none, none]) (μ := [.lst (oL (List.replicate n 0))]) ⟨_, none, none, none, rfl, rfl, by simp, fun x hx => by cases hx⟩
  obtain ⟨ε', μ', h1, C, a2, a3, a4, rfl, rfl, hC, hk⟩ := key
  have el : (Ls.take ((enumD (iR Ls)).map PV.dat).length).flatten = f := by
    have : ((enumD (iR Ls)).map PV.dat).length = Ls.length := by simp [iR]
    rw [this, List.take_length, I.fl]
  rw [el] at hk
  refine ⟨C, ?_, hC, fun x hx => ?_⟩
  · have c1 : n ≤ 1000000 := by omega
    have c2 : n ≤ 100000 := by omega
    rw [← rep_oL] at h1
    have L : L2_corner_of [some (.dat (flo R U)), some (.ptr 0), none, none, none] [.lst (List.replicate n (PV.dat (.int 0)))] = some (.nx [some (.dat (flo R U)), some (.ptr 0), a2, a3, a4] [.lst (oL C)]) := by
      unfold L2_corner_of sFor
      simp [asDats, ec, okG_none, h1]
    simp [F_corner_of, r_corner_of, F.lR, cap, asDats, c1, c2, L]
  · have := hk x (I.all x hx)
    rw [kapL_at F hx] at this
    exact this
end CM
namespace CM
open PySem L2 VX
/-! ### sides_of -/
def kdS (b : Bool) : Str := if b then "right" else "up"
def sdD (R U C : List Nat) (e : Ed) : PyData := .tuple [.str (kdS e.1), .int (e.2 : Int), .int ((stE U C e : Nat) : Int), .int ((enE R C e : Nat) : Int)]
def sdL (n : Nat) : List Ed := (List.range n).flatMap fun x => [(true, x), (false, x)]
theorem sdL_succ (n : Nat) : sdL (n + 1) = sdL n ++ [(true, n), (false, n)] := by
  unfold sdL
  rw [List.range_succ, List.flatMap_append]
  rfl
theorem mem_sdL {n : Nat} {e : Ed} : e ∈ sdL n ↔ e.2 < n := by
  obtain ⟨b, x⟩ := e
  unfold sdL
  rw [List.mem_flatMap]
  constructor
  · rintro ⟨y, hy, h⟩
    simp at h
    rcases h with ⟨_, rfl⟩ | ⟨_, rfl⟩ <;> exact List.mem_range.mp hy
  · intro h
    refine ⟨x, List.mem_range.mpr h, ?_⟩
    cases b <;> simp
theorem sdL_len (n : Nat) : (sdL n).length = 2 * n := by
  induction n with
  | zero => rfl
  | succ n ih => rw [sdL_succ, List.length_append, ih]; simp; omega
def oD (ds : List PyData) : List PV := ds.map PV.dat
theorem map_oD (ds : List PyData) : ds.map PV.dat = oD ds := rfl
@[simp] theorem asDats_oD (ds : List PyData) : asDats (oD ds) = some ds := asDats_map ds
@[simp] theorem len_oD (ds : List PyData) : (oD ds).length = ds.length := by simp [oD]
theorem oD_app (a b : List PyData) : oD (a ++ b) = oD a ++ oD b := by simp [oD]
theorem B1_sides_of_eq {R U C : List Nat} {n i : Nat} (F : Flo R U n) (hC : C.length = n) (hi : i < n) (a0 : Option PV) :
    B1_sides_of [a0, some (.dat (.list (iL C))), some (.dat (.list (iL (inv U)))), some (.dat (.list (iL (inv R)))), some (.ptr 0), some (.dat (.int (i : Int)))] [.lst (oD ((sdL i).map (sdD R U C)))] =
      some (.nx [a0, some (.dat (.list (iL C))), some (.dat (.list (iL (inv U)))), some (.dat (.list (iL (inv R)))), some (.ptr 0), some (.dat (.int (i : Int)))] [.lst (oD ((sdL (i + 1)).map (sdD R U C)))]) := by
  have hn := F.small
  have nb := F.nb_lt i hi
  have a1 := at_oL (ns := C) (j := i) (by omega)
  have a2 := at_oL (ns := inv U) (j := i) (by rw [inv_len, F.lU]; exact hi)
  have a3 := at_oL (ns := inv R) (j := i) (by rw [inv_len, F.lR]; exact hi)
  have a4 := at_oL (ns := C) (j := g0 (inv U) i) (by rw [hC]; exact nb _ (by simp [nbs4]))
  have a5 := at_oL (ns := C) (j := g0 (inv R) i) (by rw [hC]; exact nb _ (by simp [nbs4]))
  have l := sdL_len i
  have c1 : (sdL i).length < 1000000 := by omega
  have c2 : (sdL i).length + 1 < 1000000 := by omega
  have e : (sdL (i + 1)).map (sdD R U C) = (sdL i).map (sdD R U C) ++ [.tuple [.str "right", .int (i : Int), .int ((g0 C (g0 (inv U) i) : Nat) : Int), .int ((g0 C i : Nat) : Int)], .tuple [.str "up", .int (i : Int), .int ((g0 C i : Nat) : Int), .int ((g0 C (g0 (inv R) i) : Nat) : Int)]] := by
    rw [sdL_succ, List.map_append]; rfl
  rw [e, oD_app]
  simp [B1_sides_of, a1, a2, a3, a4, a5, asDats, cap, c1, c2]
  rfl
theorem F_sides_of_eq {R U C : List Nat} {n : Nat} (F : Flo R U n) (hC : C.length = n) (hc : F_corner_of [flo R U] = some (.list (iL C))) : F_sides_of [flo R U] = some (.list ((sdL n).map (sdD R U C))) := by
  have hn := F.small
  have key := forD_all (G := fun _ => true) (tg := tgN 5) (b := B1_sides_of)
    (fun i ε μ => ∃ a5, ε = [some (.dat (flo R U)), some (.dat (.list (iL C))), some (.dat (.list (iL (inv U)))), some (.dat (.list (iL (inv R)))), some (.ptr 0), a5] ∧ μ = [.lst (oD ((sdL i).map (sdD R U C)))]) ((List.range n).map fun i => PV.dat (.int (i : Nat))) (fun _ _ _ _ => rfl) (fun i p ε μ hp h => by
      obtain ⟨a5, rfl, rfl⟩ := h
      have hi : i < n := by simpa using (List.getElem?_eq_some_iff.mp hp).1
      have ep : p = .dat (.int (i : Int)) := by simpa [hi] using hp.symm
      subst ep
      exact ⟨_, _, _, _, rfl, B1_sides_of_eq F hC hi _, _, rfl, rfl⟩) (ε := [some (.dat (flo R U)), some (.dat (.list (iL C))), some (.dat (.list (iL (inv U)))), some (.dat (.list (iL (inv R)))), some (.ptr 0), none]) (μ := [.lst []]) ⟨none, rfl, rfl⟩
  obtain ⟨ε', μ', h1, a5, rfl, rfl⟩ := key
  simp only [List.length_map, List.length_range] at h1
  have c : n ≤ 100000 := by omega
  have L : L1_sides_of [some (.dat (flo R U)), some (.dat (.list (iL C))), some (.dat (.list (iL (inv U)))), some (.dat (.list (iL (inv R)))), some (.ptr 0), none] [.lst []] = some (.nx [some (.dat (flo R U)), some (.dat (.list (iL C))), some (.dat (.list (iL (inv U)))), some (.dat (.list (iL (inv R)))), some (.ptr 0), a5] [.lst (oD ((sdL n).map (sdD R U C)))]) := by
    unfold L1_sides_of sFor
    simp [F.lR, c, okG_none, h1]
  have l1 := F_left_eq R U (by rw [F.lR]; omega) F.oR.low
  have l2 := F_down_eq R U (by rw [F.lU]; omega) F.oU.low
  simp [F_sides_of, r_sides_of, asDats, hc, l1, l2, cap, L]
end CM
namespace CM
open PySem L2 VX
/-! ### flow_of, crossing -/
def S4 (c : Str) : Prop := c = "r" ∨ c = "l" ∨ c = "u" ∨ c = "d"
theorem S4.ok {c : Str} (h : S4 c) : PyData.strOk c = true := by
  rcases h with rfl | rfl | rfl | rfl
  · exact ok_r
  · exact ok_l
  · exact ok_u
  · exact ok_d
theorem ts_eqS {c d : Str} {e : EvF} {ε : Evn} {μ : Sto} (hc : S4 c) (hd : S4 d) (h : e ε μ = some (.dat (.str c), μ)) : tsE (eOp (fEq false) e (eC (.str d))) ε μ = some (c == d, μ) := by
  have s1 := shaped_str hc.ok
  have s2 := shaped_str hd.ok
  simp [h, s1, s2, PyData.eqv]
theorem z0_set {ns : List Int} {i j : Nat} {v : Int} (h : j < ns.length) : z0 (ns.set i v) j = if i = j then v else z0 ns j := by
  unfold z0
  simp only [List.getD_eq_getElem?_getD]
  by_cases e : i = j
  · subst e; simp [h]
  · simp [e]
theorem enumS {w : Str} {i : Nat} {p : PV} (h : ((enumD ((sgs w).map fun c => .str c)).map PV.dat)[i]? = some p) : ∃ hi : i < (sgs w).length, p = .dat (.tuple [.int (i : Int), .str (sgs w)[i]]) := by
  obtain ⟨d, h1, rfl⟩ := enum_get h
  rw [List.getElem?_map, Option.map_eq_some_iff] at h1
  obtain ⟨c, h1, rfl⟩ := h1
  obtain ⟨hi, rfl⟩ := List.getElem?_eq_some_iff.mp h1
  exact ⟨hi, rfl⟩
theorem map_sgs (w : Str) : (w.cps.toList.map fun c => PyData.str ⟨#[c]⟩) = (sgs w).map fun c => .str c := by simp [sgs]
theorem s4_rl : (("r" : Str) == "l") = false := by decide
theorem s4_ru : (("r" : Str) == "u") = false := by decide
theorem s4_lr : (("l" : Str) == "r") = false := by decide
theorem s4_lu : (("l" : Str) == "u") = false := by decide
theorem s4_ur : (("u" : Str) == "r") = false := by decide
theorem s4_ul : (("u" : Str) == "l") = false := by decide
theorem s4_dr : (("d" : Str) == "r") = false := by decide
theorem s4_dl : (("d" : Str) == "l") = false := by decide
theorem s4_du : (("d" : Str) == "u") = false := by decide
theorem if_t {t : TsF} {A B : RnF} {ε : Evn} {μ : Sto} {o : Option Out} (h : t ε μ = some (true, μ)) (hA : A ε μ = o) : sIf t A B ε μ = o := by
  unfold sIf; rw [h]; simpa using hA
theorem if_f {t : TsF} {A B : RnF} {ε : Evn} {μ : Sto} {o : Option Out} (h : t ε μ = some (false, μ)) (hB : B ε μ = o) : sIf t A B ε μ = o := by
  unfold sIf; rw [h]; simpa using hB
/-- what flows, told by parity -/
structure FlP (A B : List Int) (n : Nat) (es : List Ed) : Prop where
  lA : A.length = n
  lB : B.length = n
  pA : ∀ z, z < n → (z0 A z - (es.count (true, z) : Nat)) % 2 = 0
  pB : ∀ z, z < n → (z0 B z - (es.count (false, z) : Nat)) % 2 = 0
theorem FlP.addA {A B : List Int} {n : Nat} {es : List Ed} {x : Nat} {v : Int} (h : FlP A B n es) (hx : x < n) (hv : (v - z0 A x - 1) % 2 = 0) : FlP (A.set x v) B n (es ++ [(true, x)]) := by
  refine ⟨by rw [List.length_set]; exact h.lA, h.lB, fun z hz => ?_, fun z hz => ?_⟩
  · rw [z0_set (by rw [h.lA]; exact hz), List.count_append]
    have := h.pA z hz
    by_cases e : x = z
    · subst e; simp; omega
    · have : ¬ (true, x) = (true, z) := fun q => e (by cases q; rfl)
      simp [e]; omega
  · rw [List.count_append]
    have := h.pB z hz
    simp; omega
theorem FlP.addB {A B : List Int} {n : Nat} {es : List Ed} {x : Nat} {v : Int} (h : FlP A B n es) (hx : x < n) (hv : (v - z0 B x - 1) % 2 = 0) : FlP A (B.set x v) n (es ++ [(false, x)]) := by
  refine ⟨h.lA, by rw [List.length_set]; exact h.lB, fun z hz => ?_, fun z hz => ?_⟩
  · rw [List.count_append]
    have := h.pA z hz
    simp; omega
  · rw [z0_set (by rw [h.lB]; exact hz), List.count_append]
    have := h.pB z hz
    by_cases e : x = z
    · subst e; simp; omega
    · simp [e]; omega
theorem B1_flow_of_eq {R U : List Nat} {A B : List Int} {w : Str} {n s i : Nat} (F : Flo R U n) (hs : s < n) (g : GW (sgs w)) (hi : i < (sgs w).length) (h : FlP A B n (edW R U ((sgs w).take i) s)) (a0 a1 a2 : Option PV) :
    ∃ A' B', B1_flow_of [a0, a1, a2, some (.ptr 0), some (.ptr 1), some (.dat (.list (iL (trc R U (sgs w) s)))), some (.dat (.int (i : Int))), some (.dat (.str (sgs w)[i]))] [.lst (oZ A), .lst (oZ B)] =
      some (.nx [a0, a1, a2, some (.ptr 0), some (.ptr 1), some (.dat (.list (iL (trc R U (sgs w) s)))), some (.dat (.int (i : Int))), some (.dat (.str (sgs w)[i]))] [.lst (oZ A'), .lst (oZ B')]) ∧ FlP A' B' n (edW R U ((sgs w).take (i + 1)) s) := by
  have hc : S4 (sgs w)[i] := gw_at g hi
  have hx := ends_lt F (gw_take g i) hs
  have hy := ends_lt F (gw_take g (i + 1)) hs
  have t1 := trc_at (R := R) (U := U) (cs := sgs w) (h := s) (i := i) (by omega)
  have t2 := trc_at (R := R) (U := U) (cs := sgs w) (h := s) (i := i + 1) (by omega)
  have k1 := at_oL (ns := trc R U (sgs w) s) (j := i) (by rw [trc_len]; omega)
  have k2 := at_oL (ns := trc R U (sgs w) s) (j := i + 1) (by rw [trc_len]; omega)
  rw [t1] at k1
  rw [t2] at k2
  have ey : ends R U ((sgs w).take (i + 1)) s = stp R U (sgs w)[i] (ends R U ((sgs w).take i) s) := by rw [take_snoc hi, ends_app]; rfl
  have ew : edW R U ((sgs w).take (i + 1)) s = edW R U ((sgs w).take i) s ++ [eW R U (sgs w)[i] (ends R U ((sgs w).take i) s)] := by rw [take_snoc hi, edW_app]; rfl
  rw [ew]
  rw [ey] at k2 hy
  generalize ends R U ((sgs w).take i) s = x at *
  generalize (sgs w)[i] = c at *
  have k2' : L2.atI (oL (trc R U (sgs w) s)) ((i : Int) + 1) = some (.dat (.int ((stp R U c x : Nat) : Int))) := by simpa using k2
  have va := at_oZ (ns := A) (j := x) (by rw [h.lA]; exact hx)
  have vb := at_oZ (ns := B) (j := x) (by rw [h.lB]; exact hx)
  have ia : L2.ixN A.length (x : Int) = some x := ixN_natD (by rw [h.lA]; exact hx)
  have ib : L2.ixN B.length (x : Int) = some x := ixN_natD (by rw [h.lB]; exact hx)
  rcases hc with rfl | rfl | rfl | rfl
  · refine ⟨A.set x (z0 A x + 1), B, ?_, by rw [eW_r]; exact h.addA hx (by omega)⟩
    unfold B1_flow_of
    refine if_t (ts_eqS (c := "r") (.inl rfl) (.inl rfl) rfl) ?_
    simp [k1, va, ia]
  · rw [stp_l] at k2' hy
    have va := at_oZ (ns := A) (j := g0 (inv R) x) (by rw [h.lA]; exact hy)
    have ia : L2.ixN A.length ((g0 (inv R) x : Nat) : Int) = some (g0 (inv R) x) := ixN_natD (by rw [h.lA]; exact hy)
    refine ⟨A.set (g0 (inv R) x) (z0 A (g0 (inv R) x) - 1), B, ?_, by rw [eW_l]; exact h.addA hy (by omega)⟩
    unfold B1_flow_of
    refine if_f ((ts_eqS (c := "l") (.inr (.inl rfl)) (.inl rfl) rfl).trans (by rw [s4_lr])) ?_
    refine if_t (ts_eqS (c := "l") (.inr (.inl rfl)) (.inr (.inl rfl)) rfl) ?_
    simp [k2', va, ia]
  · refine ⟨A, B.set x (z0 B x + 1), ?_, by rw [eW_u]; exact h.addB hx (by omega)⟩
    unfold B1_flow_of
    refine if_f ((ts_eqS (c := "u") (.inr (.inr (.inl rfl))) (.inl rfl) rfl).trans (by rw [s4_ur])) ?_
    refine if_f ((ts_eqS (c := "u") (.inr (.inr (.inl rfl))) (.inr (.inl rfl)) rfl).trans (by rw [s4_ul])) ?_
    refine if_t (ts_eqS (c := "u") (.inr (.inr (.inl rfl))) (.inr (.inr (.inl rfl))) rfl) ?_
    simp [k1, vb, ib]
  · rw [stp_d] at k2' hy
    have vb := at_oZ (ns := B) (j := g0 (inv U) x) (by rw [h.lB]; exact hy)
    have ib : L2.ixN B.length ((g0 (inv U) x : Nat) : Int) = some (g0 (inv U) x) := ixN_natD (by rw [h.lB]; exact hy)
    refine ⟨A, B.set (g0 (inv U) x) (z0 B (g0 (inv U) x) - 1), ?_, by rw [eW_d]; exact h.addB hy (by omega)⟩
    unfold B1_flow_of
    refine if_f ((ts_eqS (c := "d") (.inr (.inr (.inr rfl))) (.inl rfl) rfl).trans (by rw [s4_dr])) ?_
    refine if_f ((ts_eqS (c := "d") (.inr (.inr (.inr rfl))) (.inr (.inl rfl)) rfl).trans (by rw [s4_dl])) ?_
    refine if_f ((ts_eqS (c := "d") (.inr (.inr (.inr rfl))) (.inr (.inr (.inl rfl))) rfl).trans (by rw [s4_du])) ?_
    simp [k2', vb, ib]
theorem F_flow_of_eq {R U : List Nat} {w : Str} {n s : Nat} (F : Flo R U n) (hs : s < n) (g : GW (sgs w)) (hl : w.length ≤ 1000) : ∃ A B, F_flow_of [flo R U, .int (s : Int), .str w] = some (.tuple [.list (iZ A), .list (iZ B)]) ∧ FlP A B n (edW R U (sgs w) s) := by
  have hn := F.small
  have key := forD_all (G := fun _ => true) (tg := tgT 2 (tgsCons (tgN 6) (tgsCons (tgN 7) tgsNil))) (b := B1_flow_of)
    (fun i ε μ => ∃ A B a6 a7, ε = [some (.dat (flo R U)), some (.dat (.int (s : Int))), some (.dat (.str w)), some (.ptr 0), some (.ptr 1), some (.dat (.list (iL (trc R U (sgs w) s)))), a6, a7] ∧ μ = [.lst (oZ A), .lst (oZ B)] ∧ FlP A B n (edW R U ((sgs w).take i) s))
    ((enumD ((sgs w).map fun c => .str c)).map PV.dat) (fun _ _ _ _ => rfl) (fun i p ε μ hp h => by
      obtain ⟨A, B, a6, a7, rfl, rfl, h⟩ := h
      obtain ⟨hi, rfl⟩ := enumS hp
      obtain ⟨A', B', e, h'⟩ := B1_flow_of_eq F hs g hi h (some (.dat (flo R U))) (some (.dat (.int (s : Int)))) (some (.dat (.str w)))
      exact ⟨_, _, _, _, rfl, e, A', B', _, _, rfl, rfl, h'⟩) (ε := [some (.dat (flo R U)), some (.dat (.int (s : Int))), some (.dat (.str w)), some (.ptr 0), some (.ptr 1), some (.dat (.list (iL (trc R U (sgs w) s)))), none, none]) (μ := [.lst (oZ (List.replicate n 0)), .lst (oZ (List.replicate n 0))])
      ⟨_, _, none, none, rfl, rfl, by simp, by simp, fun z hz => by simp [edW, z0, List.getElem?_replicate, hz], fun z hz => by simp [edW, z0, List.getElem?_replicate, hz]⟩
  obtain ⟨ε', μ', h1, A, B, a6, a7, rfl, rfl, h⟩ := key
  have el : ((sgs w).take ((enumD ((sgs w).map fun c => PyData.str c)).map PV.dat).length) = sgs w := by
    rw [List.take_of_length_le]; simp
  rw [el] at h
  refine ⟨A, B, ?_, h⟩
  have c1 : n ≤ 1000000 := by omega
  have c2 : n ≤ 100000 := by omega
  have e0 : oZ (List.replicate n 0) = List.replicate n (PV.dat (.int 0)) := by simp [oZ]
  rw [e0] at h1
  have L : L1_flow_of [some (.dat (flo R U)), some (.dat (.int (s : Int))), some (.dat (.str w)), some (.ptr 0), some (.ptr 1), some (.dat (.list (iL (trc R U (sgs w) s)))), none, none] [.lst (List.replicate n (PV.dat (.int 0))), .lst (List.replicate n (PV.dat (.int 0)))] = some (.nx [some (.dat (flo R U)), some (.dat (.int (s : Int))), some (.dat (.str w)), some (.ptr 0), some (.ptr 1), some (.dat (.list (iL (trc R U (sgs w) s)))), a6, a7] [.lst (oZ A), .lst (oZ B)]) := by
    unfold L1_flow_of sFor
    simp only [srcEnA, aCons, aNil, eVar, List.getElem?_cons_succ, List.getElem?_cons_zero, Option.bind_some, okG_none, map_sgs, h1]
  simp [F_flow_of, r_flow_of, F.lR, cap, asDats, c1, c2, F_trace_eq F hs g hl, L]
end CM
namespace CM
open PySem L2 VX
theorem par_snoc {f : Ed → Nat} {es : List Ed} {e : Ed} {t v : Int} (h : (t - (sm f es : Nat)) % 2 = 0) (hv : (v - (f e : Nat)) % 2 = 0) : (t + v - (sm f (es ++ [e]) : Nat)) % 2 = 0 := by
  rw [sm_app]
  have : sm f [e] = f e := by simp [sm]
  omega
theorem par_snoc' {f : Ed → Nat} {es : List Ed} {e : Ed} {t v : Int} (h : (t - (sm f es : Nat)) % 2 = 0) (hv : (v - (f e : Nat)) % 2 = 0) : (t - v - (sm f (es ++ [e]) : Nat)) % 2 = 0 := by
  rw [sm_app]
  have : sm f [e] = f e := by simp [sm]
  omega
theorem B1_crossing_eq {R U : List Nat} {A B : List Int} {es : List Ed} {w : Str} {n s i : Nat} {t : Int} (F : Flo R U n) (hs : s < n) (g : GW (sgs w)) (hi : i < (sgs w).length) (h : FlP A B n es) (ht : (t - (sm (fun e => es.count e) (edL R U ((sgs w).take i) s) : Nat)) % 2 = 0) (a0 a1 a2 a9 a10 : Option PV) :
    ∃ t' a9' a10', B1_crossing [a0, a1, a2, some (.dat (.list (iZ A))), some (.dat (.list (iZ B))), some (.dat (.list (iL (trc R U (sgs w) s)))), some (.dat (.int t)), some (.dat (.int (i : Int))), some (.dat (.str (sgs w)[i])), a9, a10] [] =
      some (.nx [a0, a1, a2, some (.dat (.list (iZ A))), some (.dat (.list (iZ B))), some (.dat (.list (iL (trc R U (sgs w) s)))), some (.dat (.int t')), some (.dat (.int (i : Int))), some (.dat (.str (sgs w)[i])), a9', a10'] []) ∧ (t' - (sm (fun e => es.count e) (edL R U ((sgs w).take (i + 1)) s) : Nat)) % 2 = 0 := by
  have hc : S4 (sgs w)[i] := gw_at g hi
  have hx := ends_lt F (gw_take g i) hs
  have hy := ends_lt F (gw_take g (i + 1)) hs
  have t1 := trc_at (R := R) (U := U) (cs := sgs w) (h := s) (i := i) (by omega)
  have t2 := trc_at (R := R) (U := U) (cs := sgs w) (h := s) (i := i + 1) (by omega)
  have k1 := at_oL (ns := trc R U (sgs w) s) (j := i) (by rw [trc_len]; omega)
  have k2 := at_oL (ns := trc R U (sgs w) s) (j := i + 1) (by rw [trc_len]; omega)
  rw [t1] at k1
  rw [t2] at k2
  have ey : ends R U ((sgs w).take (i + 1)) s = stp R U (sgs w)[i] (ends R U ((sgs w).take i) s) := by rw [take_snoc hi, ends_app]; rfl
  have ew : edL R U ((sgs w).take (i + 1)) s = edL R U ((sgs w).take i) s ++ [eL R U (sgs w)[i] (ends R U ((sgs w).take i) s)] := by rw [take_snoc hi, edL_app]; rfl
  rw [ew]
  rw [ey] at k2 hy
  generalize ends R U ((sgs w).take i) s = x at *
  generalize (sgs w)[i] = c at *
  have k2' : L2.atI (oL (trc R U (sgs w) s)) ((i : Int) + 1) = some (.dat (.int ((stp R U c x : Nat) : Int))) := by simpa using k2
  have p1 : sPar 9 10 (aCons (eOp fIx (eVar 5) (eVar 7)) (aCons (eOp fIx (eVar 5) (eOp (fAdd false) (eVar 7) (eC (.int 1)))) (aNil))) [a0, a1, a2, some (.dat (.list (iZ A))), some (.dat (.list (iZ B))), some (.dat (.list (iL (trc R U (sgs w) s)))), some (.dat (.int t)), some (.dat (.int (i : Int))), some (.dat (.str c)), a9, a10] [] =
      some (.nx [a0, a1, a2, some (.dat (.list (iZ A))), some (.dat (.list (iZ B))), some (.dat (.list (iL (trc R U (sgs w) s)))), some (.dat (.int t)), some (.dat (.int (i : Int))), some (.dat (.str c)), some (.dat (.int (x : Int))), some (.dat (.int ((stp R U c x : Nat) : Int)))] []) := by
    simp [sPar, k1, k2']
  have va := at_oZ (ns := A) (j := x) (by rw [h.lA]; exact hx)
  have vb := at_oZ (ns := B) (j := x) (by rw [h.lB]; exact hx)
  have wa := at_oZ (ns := A) (j := stp R U c x) (by rw [h.lA]; exact hy)
  have wb := at_oZ (ns := B) (j := stp R U c x) (by rw [h.lB]; exact hy)
  have pa := h.pA x hx
  have pb := h.pB x hx
  have qa := h.pA _ hy
  have qb := h.pB _ hy
  rcases hc with rfl | rfl | rfl | rfl
  · refine ⟨t + z0 B (stp R U "r" x), some (.dat (.int (x : Int))), some (.dat (.int ((stp R U "r" x : Nat) : Int))), ?_, by rw [eL_r, ← stp_r (U := U)]; exact par_snoc ht qb⟩
    unfold B1_crossing
    refine (seq_nx p1).trans ?_
    refine if_t (ts_eqS (c := "r") (.inl rfl) (.inl rfl) rfl) ?_
    simp [wb]
  · refine ⟨t - z0 B x, some (.dat (.int (x : Int))), some (.dat (.int ((stp R U "l" x : Nat) : Int))), ?_, by rw [eL_l]; exact par_snoc' ht pb⟩
    unfold B1_crossing
    refine (seq_nx p1).trans ?_
    refine if_f ((ts_eqS (c := "l") (.inr (.inl rfl)) (.inl rfl) rfl).trans (by rw [s4_lr])) ?_
    refine if_t (ts_eqS (c := "l") (.inr (.inl rfl)) (.inr (.inl rfl)) rfl) ?_
    simp [vb]
  · refine ⟨t - z0 A (stp R U "u" x), some (.dat (.int (x : Int))), some (.dat (.int ((stp R U "u" x : Nat) : Int))), ?_, by rw [eL_u, ← stp_u (R := R)]; exact par_snoc' ht qa⟩
    unfold B1_crossing
    refine (seq_nx p1).trans ?_
    refine if_f ((ts_eqS (c := "u") (.inr (.inr (.inl rfl))) (.inl rfl) rfl).trans (by rw [s4_ur])) ?_
    refine if_f ((ts_eqS (c := "u") (.inr (.inr (.inl rfl))) (.inr (.inl rfl)) rfl).trans (by rw [s4_ul])) ?_
    refine if_t (ts_eqS (c := "u") (.inr (.inr (.inl rfl))) (.inr (.inr (.inl rfl))) rfl) ?_
    simp [wa]
  · refine ⟨t + z0 A x, some (.dat (.int (x : Int))), some (.dat (.int ((stp R U "d" x : Nat) : Int))), ?_, by rw [eL_d]; exact par_snoc ht pa⟩
    unfold B1_crossing
    refine (seq_nx p1).trans ?_
    refine if_f ((ts_eqS (c := "d") (.inr (.inr (.inr rfl))) (.inl rfl) rfl).trans (by rw [s4_dr])) ?_
    refine if_f ((ts_eqS (c := "d") (.inr (.inr (.inr rfl))) (.inr (.inl rfl)) rfl).trans (by rw [s4_dl])) ?_
    refine if_f ((ts_eqS (c := "d") (.inr (.inr (.inr rfl))) (.inr (.inr (.inl rfl))) rfl).trans (by rw [s4_du])) ?_
    simp [va]
abbrev way (s : Nat) (w : Str) : PyData := .tuple [.int (s : Int), .str w]
theorem F_crossing_eq {R U : List Nat} {w v : Str} {n s r : Nat} (F : Flo R U n) (hs : s < n) (hr : r < n) (g : GW (sgs w)) (hl : w.length ≤ 1000) (gv : GW (sgs v)) (hv : v.length ≤ 1000) :
    ∃ t, F_crossing [flo R U, way s w, way r v] = some (.int t) ∧ (t - (sm (fun e => (edW R U (sgs w) s).count e) (edL R U (sgs v) r) : Nat)) % 2 = 0 := by
  obtain ⟨A, B, ef, h⟩ := F_flow_of_eq F hs g hl
  have key := forD_all (G := fun _ => true) (tg := tgT 2 (tgsCons (tgN 7) (tgsCons (tgN 8) tgsNil))) (b := B1_crossing)
    (fun i ε μ => ∃ t a7 a8 a9 a10, ε = [some (.dat (flo R U)), some (.dat (way s w)), some (.dat (way r v)), some (.dat (.list (iZ A))), some (.dat (.list (iZ B))), some (.dat (.list (iL (trc R U (sgs v) r)))), some (.dat (.int t)), a7, a8, a9, a10] ∧ μ = [] ∧ (t - (sm (fun e => (edW R U (sgs w) s).count e) (edL R U ((sgs v).take i) r) : Nat)) % 2 = 0)
    ((enumD ((sgs v).map fun c => .str c)).map PV.dat) (fun _ _ _ _ => rfl) (fun i p ε μ hp hI => by
      obtain ⟨t, a7, a8, a9, a10, rfl, rfl, ht⟩ := hI
      obtain ⟨hi, rfl⟩ := enumS hp
      obtain ⟨t', a9', a10', e, h'⟩ := B1_crossing_eq F hr gv hi h ht (some (.dat (flo R U))) (some (.dat (way s w))) (some (.dat (way r v))) a9 a10
      exact ⟨_, _, _, _, rfl, e, t', _, _, a9', a10', rfl, rfl, h'⟩) (ε := [some (.dat (flo R U)), some (.dat (way s w)), some (.dat (way r v)), some (.dat (.list (iZ A))), some (.dat (.list (iZ B))), some (.dat (.list (iL (trc R U (sgs v) r)))), some (.dat (.int 0)), none, none, none, none]) (μ := [])
      ⟨0, none, none, none, none, rfl, rfl, by simp [edL, sm]⟩
  obtain ⟨ε', μ', h1, t, a7, a8, a9, a10, rfl, rfl, ht⟩ := key
  have el : ((sgs v).take ((enumD ((sgs v).map fun c => PyData.str c)).map PV.dat).length) = sgs v := by
    rw [List.take_of_length_le]; simp
  rw [el] at ht
  refine ⟨t, ?_, ht⟩
  have L : L1_crossing [some (.dat (flo R U)), some (.dat (way s w)), some (.dat (way r v)), some (.dat (.list (iZ A))), some (.dat (.list (iZ B))), some (.dat (.list (iL (trc R U (sgs v) r)))), some (.dat (.int 0)), none, none, none, none] [] = some (.nx [some (.dat (flo R U)), some (.dat (way s w)), some (.dat (way r v)), some (.dat (.list (iZ A))), some (.dat (.list (iZ B))), some (.dat (.list (iL (trc R U (sgs v) r)))), some (.dat (.int t)), a7, a8, a9, a10] []) := by
    unfold L1_crossing sFor
    have e1 : srcEnA (aCons (eOp fIx (eVar 2) (eC (.int 1))) aNil) [some (.dat (flo R U)), some (.dat (way s w)), some (.dat (way r v)), some (.dat (.list (iZ A))), some (.dat (.list (iZ B))), some (.dat (.list (iL (trc R U (sgs v) r)))), some (.dat (.int 0)), none, none, none, none] [] = some (((enumD ((sgs v).map fun c => .str c)).map PV.dat, none), []) := by
      have e0 : eOp fIx (eVar 2) (eC (.int 1)) [some (.dat (flo R U)), some (.dat (way s w)), some (.dat (way r v)), some (.dat (.list (iZ A))), some (.dat (.list (iZ B))), some (.dat (.list (iL (trc R U (sgs v) r)))), some (.dat (.int 0)), none, none, none, none] [] = some (.dat (.str v), []) := by simp
      simp only [srcEnA, aCons, aNil]
      rw [e0]
      simp only [Option.bind_some, map_sgs]
    rw [e1]
    simp only [Option.bind_some, okG_none, h1]
  have tr := F_trace_eq F hr gv hv
  simp [F_crossing, r_crossing, asDats, ef, tr, L]
end CM
namespace CM
open PySem L2 VX
/-! ### tree_words -/
def kyE (e : Ed) : List Key := [.inr (kdS e.1), .inl (e.2 : Int)]
theorem kd_ne : kdS true ≠ kdS false := by decide
theorem kyE_inj {e f : Ed} (h : kyE e = kyE f) : e = f := by
  obtain ⟨a, x⟩ := e
  obtain ⟨b, y⟩ := f
  unfold kyE at h
  injection h with h1 h2
  injection h2 with h3 h4
  have q1 := Sum.inr.inj h1
  have q2 : (x : Int) = (y : Int) := Sum.inl.inj h3
  have q3 : x = y := by omega
  subst q3
  cases a <;> cases b
  · rfl
  · exact absurd q1.symm kd_ne
  · exact absurd q1 kd_ne
  · rfl
def dT (T : List Ed) : List (List Key × PV) := T.map fun e => (kyE e, .dat (.bool true))
def addT (T : List Ed) (e : Ed) : List Ed := if e ∈ T then T else T ++ [e]
theorem valP_dT (e : Ed) : ∀ T : List Ed, valP (dT T) (kyE e) = if e ∈ T then some (.dat (.bool true)) else none
  | [] => rfl
  | p :: r => by
    have ih := valP_dT e r
    by_cases h : p = e
    · subst h; simp [dT, valP]
    · have h' : kyE p ≠ kyE e := fun z => h (kyE_inj z)
      have h2 : ¬ e = p := fun z => h z.symm
      simp only [dT, List.map_cons]
      rw [valP_miss h']
      simp only [dT] at ih
      rw [ih]
      simp [h2]
theorem putP_dT {e : Ed} : ∀ {T : List Ed}, putP (dT T) (kyE e) (.dat (.bool true)) = dT (addT T e)
  | [] => by simp [addT]; rfl
  | p :: r => by
    by_cases h : p = e
    · subst h; simp [dT, putP, addT]
    · have h' : kyE p ≠ kyE e := fun z => h (kyE_inj z)
      have h2 : ¬ e = p := fun z => h z.symm
      have ih := putP_dT (e := e) (T := r)
      simp only [dT, List.map_cons]
      rw [putP_miss h']
      have ea : addT (p :: r) e = p :: addT r e := by
        unfold addT
        by_cases q : e ∈ r
        · simp [q]
        · simp [q, h2]
      rw [ea]
      exact congrArg _ ih
theorem ndT_dT {T : List Ed} (h : T.Nodup) : ndT (dT T) = true := by
  unfold ndT
  rw [decide_eq_true_eq]
  unfold dT
  rw [List.map_map]
  exact nodup_mapI (fun a b e => kyE_inj e) h
theorem addT_nd {T : List Ed} {e : Ed} (h : T.Nodup) : (addT T e).Nodup := by
  unfold addT; split
  · exact h
  · rename_i q
    rw [List.nodup_append]
    exact ⟨h, by simp, fun a ha b hb => by simp at hb; subst hb; intro z; subst z; exact q ha⟩
theorem mem_addT {T : List Ed} {e f : Ed} : f ∈ addT T e ↔ f ∈ T ∨ f = e := by
  unfold addT; split
  · rename_i q
    exact ⟨.inl, fun h => h.elim id fun z => z ▸ q⟩
  · simp
theorem addT_len {T : List Ed} {e : Ed} : (addT T e).length ≤ T.length + 1 := by unfold addT; split <;> simp
theorem dT_len {T : List Ed} : (dT T).length = T.length := by simp [dT]
def edD (e : Ed) : PyData := .tuple [.str (kdS e.1), .int (e.2 : Int)]
theorem keyT_edD (e : Ed) : keyT (.dat (edD e)) = some (kyE e) := rfl
/-- words, used sides, waiting squares -/
structure TQ where
  D : List (Nat × Str)
  T : List Ed
  q : List Nat
abbrev tSt (t : TQ) : Sto := [.dic (dK t.D), .dtu (dT t.T), .lst (oL t.q)]
def stT (R U : List Nat) (x : Nat) (w0 : Str) (t : TQ) (c : Str) : TQ :=
  if vD t.D (stp R U c x) = none then ⟨t.D ++ [(stp R U c x, w0 ++ c)], addT t.T (eW R U c x), t.q ++ [stp R U c x]⟩ else t
theorem B1_tree_words_eq {R U : List Nat} {x : Nat} {w0 c : Str} {t : TQ} (hw : vD t.D x = some w0) (hw0 : w0.length ≤ 100) (hc1 : c.length = 1) (hD : t.D.length < 1000) (nd : (t.D.map Prod.fst).Nodup) (hT : t.T.length < 1000) (ndt : t.T.Nodup) (hq : t.q.length < 1000) (a0 a4 a5 a7 : Option PV) :
    B1_tree_words [a0, some (.ptr 0), some (.ptr 1), some (.ptr 2), a4, a5, some (.dat (.int (x : Int))), a7, some (.dat (.str c)), some (.dat (.int ((stp R U c x : Nat) : Int))), some (.dat (edD (eW R U c x)))] (tSt t) =
      some (.nx [a0, some (.ptr 0), some (.ptr 1), some (.ptr 2), a4, a5, some (.dat (.int (x : Int))), a7, some (.dat (.str c)), some (.dat (.int ((stp R U c x : Nat) : Int))), some (.dat (edD (eW R U c x)))] (tSt (stT R U x w0 t c))) := by
  have v0 : valP (dK t.D) (.inl (x : Int)) = some (.dat (.str w0)) := by rw [valP_dK, hw]; rfl
  cases h2 : vD t.D (stp R U c x) with
  | none =>
    have v1 : valP (dK t.D) (.inl ((stp R U c x : Nat) : Int)) = none := by rw [valP_dK, h2]; rfl
    have c1 : (dK t.D).length < 1000000 := by simp [dK]; omega
    have c2 : w0.length + 1 ≤ 1000000 := by omega
    have c3 : t.q.length < 1000000 := by omega
    have c4 : t.T.length < 1000000 := by omega
    have e1 := putP_dK (k := stp R U c x) (w := w0 ++ c) t.D h2
    have e2 := ndB_dK nd
    have e3 := putP_dT (e := eW R U c x) (T := t.T)
    have e4 := ndT_dT ndt
    have e5 := keyT_edD (eW R U c x)
    generalize edD (eW R U c x) = sd at *
    simp [-keyT, B1_tree_words, v1, v0, stT, h2, cap, c1, c2, c3, c4, e1, e2, e3, e4, e5, hc1, dT_len]
  | some w =>
    have v1 : valP (dK t.D) (.inl ((stp R U c x : Nat) : Int)) = some (.dat (.str w)) := by rw [valP_dK, h2]; rfl
    simp [B1_tree_words, v1, stT, h2]
/-- what lies at the word's end, told of any weights -/
def gD (R U : List Nat) (f : Ed → Nat) (D : List (Nat × Str)) (k : Nat) : Nat := sm f (edW R U (sgs ((vD D k).getD "")) 0)
structure TI (R U : List Nat) (n : Nat) (t : TQ) : Prop where
  nd : (t.D.map Prod.fst).Nodup
  z0 : vD t.D 0 = some ""
  good : ∀ k w, vD t.D k = some w → GW (sgs w) ∧ ends R U (sgs w) 0 = k ∧ k < n
  len : ∀ k w, vD t.D k = some w → w.length + 1 ≤ t.D.length
  qs : ∀ x ∈ t.q, x ∈ t.D.map Prod.fst
  ndt : t.T.Nodup
  tl : t.T.length ≤ t.D.length
  tr : ∀ e ∈ t.T, e.2 ∈ t.D.map Prod.fst ∧ tgE R U e ∈ t.D.map Prod.fst ∧ ∀ f, (f e + (gD R U f t.D e.2 + gD R U f t.D (tgE R U e))) % 2 = 0
theorem TI.lt {R U : List Nat} {n : Nat} {t : TQ} (h : TI R U n t) : ∀ k ∈ t.D.map Prod.fst, k < n := fun k hk => by
  obtain ⟨w, hw⟩ := vD_some hk
  exact (h.good k w hw).2.2
theorem TI.dl {R U : List Nat} {n : Nat} {t : TQ} (h : TI R U n t) : t.D.length ≤ n := by
  have := nodup_len n _ h.nd h.lt
  simpa using this
theorem eW_ends {R U : List Nat} {n x : Nat} {c : Str} (F : Flo R U n) (hc : S4 c) (hx : x < n) : ((eW R U c x).2 = x ∧ tgE R U (eW R U c x) = stp R U c x) ∨ ((eW R U c x).2 = stp R U c x ∧ tgE R U (eW R U c x) = x) := by
  have hR : x < R.length := by rw [F.lR]; exact hx
  have hU : x < U.length := by rw [F.lU]; exact hx
  rcases hc with rfl | rfl | rfl | rfl
  · rw [eW_r, stp_r]; exact .inl ⟨rfl, rfl⟩
  · rw [eW_l, stp_l]; exact .inr ⟨rfl, (at_inv F.oR hR).1⟩
  · rw [eW_u, stp_u]; exact .inl ⟨rfl, rfl⟩
  · rw [eW_d, stp_d]; exact .inr ⟨rfl, (at_inv F.oU hU).1⟩
theorem gD_app {R U : List Nat} {f : Ed → Nat} {D t : List (Nat × Str)} {k : Nat} (h : k ∈ D.map Prod.fst) : gD R U f (D ++ t) k = gD R U f D k := by
  obtain ⟨w, hw⟩ := vD_some h
  unfold gD
  rw [hw, vD_app hw]
theorem vD_new {D : List (Nat × Str)} {k : Nat} {w : Str} (h : vD D k = none) : vD (D ++ [(k, w)]) k = some w := by
  induction D with
  | nil => simp [vD]
  | cons p r ih =>
    simp only [vD, List.cons_append] at h ⊢
    split at h
    · cases h
    · rename_i e; rw [if_neg e]; exact ih h
theorem vD_old {D : List (Nat × Str)} {k y : Nat} {w v : Str} (h : vD D k = none) (hv : vD (D ++ [(k, w)]) y = some v) : vD D y = some v ∨ (y = k ∧ v = w) := by
  cases e : vD D y with
  | some u =>
    rw [vD_app e] at hv
    exact .inl hv
  | none =>
    have := vD_mem hv
    rw [List.mem_append] at this
    rcases this with m | m
    · exact absurd (List.mem_map.mpr ⟨_, m, rfl⟩) (vD_none.mp e)
    · simp at m; exact .inr m
theorem sgs1 {c : Str} (h : S4 c) : sgs c = [c] := by
  rcases h with rfl | rfl | rfl | rfl
  · exact sgs_r
  · exact sgs_l
  · exact sgs_u
  · exact sgs_d
theorem len1 {c : Str} (h : S4 c) : c.length = 1 := by rw [← sgs_len, sgs1 h]; rfl
theorem TI.step {R U : List Nat} {n x : Nat} {w0 c : Str} {t : TQ} (F : Flo R U n) (h : TI R U n t) (hw : vD t.D x = some w0) (hc : S4 c) : TI R U n (stT R U x w0 t c) := by
  unfold stT
  split
  · rename_i hn
    obtain ⟨g0', g1, g2⟩ := h.good x w0 hw
    have hxk : x ∈ t.D.map Prod.fst := List.mem_map.mpr ⟨_, vD_mem hw, rfl⟩
    have hy := stp_lt F hc g2
    have gdx : ∀ f, gD R U f (t.D ++ [(stp R U c x, w0 ++ c)]) x = sm f (edW R U (sgs w0) 0) := fun f => by rw [gD_app hxk]; unfold gD; rw [hw]; rfl
    have gdy : ∀ f, gD R U f (t.D ++ [(stp R U c x, w0 ++ c)]) (stp R U c x) = sm f (edW R U (sgs w0) 0) + f (eW R U c x) := fun f => by
      unfold gD
      rw [vD_new hn]
      show sm f (edW R U (sgs (w0 ++ c)) 0) = _
      rw [sgs_app, sgs1 hc, edW_app, sm_app, g1]
      simp [edW, sm]
    refine ⟨?_, vD_app h.z0, fun k w e => ?_, fun k w e => ?_, fun y hy => ?_, addT_nd h.ndt, ?_, fun e he => ?_⟩
    · rw [List.map_append, List.nodup_append]
      refine ⟨h.nd, by simp, fun a ha b hb => ?_⟩
      simp at hb
      subst hb
      intro z
      subst z
      exact (vD_none.mp hn) ha
    · rcases vD_old hn e with e | ⟨rfl, rfl⟩
      · exact h.good k w e
      · refine ⟨?_, ?_, hy⟩
        · rw [sgs_app, sgs1 hc]
          exact g0'.app fun d hd => by simp at hd; subst hd; exact hc
        · rw [sgs_app, sgs1 hc, ends_app, g1]; rfl
    · rcases vD_old hn e with e | ⟨rfl, rfl⟩
      · have := h.len k w e; simp; omega
      · have := h.len x w0 hw
        rw [len_app, len1 hc]; simp; omega
    · rw [List.map_append, List.mem_append]
      rcases List.mem_append.mp hy with hy | hy
      · exact .inl (h.qs y hy)
      · exact .inr (by simpa using hy)
    · have := addT_len (T := t.T) (e := eW R U c x)
      have := h.tl
      simp; omega
    · rcases mem_addT.mp he with he | rfl
      · obtain ⟨h1, h2, h3⟩ := h.tr e he
        refine ⟨by rw [List.map_append]; exact List.mem_append_left _ h1, by rw [List.map_append]; exact List.mem_append_left _ h2, fun f => ?_⟩
        rw [gD_app h1, gD_app h2]; exact h3 f
      · have hk : ∀ z, z = x ∨ z = stp R U c x → z ∈ (t.D ++ [(stp R U c x, w0 ++ c)]).map Prod.fst := fun z hz => by
          rw [List.map_append, List.mem_append]
          rcases hz with rfl | rfl
          · exact .inl hxk
          · exact .inr (by simp)
        rcases eW_ends F hc g2 with ⟨q1, q2⟩ | ⟨q1, q2⟩
        · refine ⟨hk _ (.inl q1), hk _ (.inr q2), fun f => ?_⟩
          rw [q1, q2, gdx, gdy]; omega
        · refine ⟨hk _ (.inr q1), hk _ (.inl q2), fun f => ?_⟩
          rw [q1, q2, gdx, gdy]; omega
  · exact h
end CM
namespace CM
open PySem L2 VX
def sg4 : List Str := ["r", "l", "u", "d"]
def foT (R U : List Nat) (x : Nat) (w0 : Str) (t : TQ) : TQ := sg4.foldl (stT R U x w0) t
theorem stT_w {R U : List Nat} {x k : Nat} {w0 c w : Str} {t : TQ} (h : vD t.D k = some w) : vD (stT R U x w0 t c).D k = some w := by
  unfold stT; split
  · exact vD_app h
  · exact h
theorem stT_q {R U : List Nat} {x : Nat} {w0 c : Str} {t : TQ} : ∃ u : List (Nat × Str), (stT R U x w0 t c).D = t.D ++ u ∧ (stT R U x w0 t c).q = t.q ++ u.map Prod.fst := by
  unfold stT; split
  · exact ⟨_, rfl, rfl⟩
  · exact ⟨[], by simp, by simp⟩
theorem stT_has {R U : List Nat} {x : Nat} {w0 c : Str} {t : TQ} : stp R U c x ∈ (stT R U x w0 t c).D.map Prod.fst := by
  unfold stT; split
  · simp
  · rename_i h
    refine Classical.byContradiction fun z => h (vD_none.mpr z)
theorem sub_app {D u : List (Nat × Str)} {k : Nat} (h : k ∈ D.map Prod.fst) : k ∈ (D ++ u).map Prod.fst := by rw [List.map_append]; exact List.mem_append_left _ h
theorem foT_q {R U : List Nat} {x : Nat} {w0 : Str} : ∀ (cs : List Str) (t : TQ), ∃ u : List (Nat × Str), (cs.foldl (stT R U x w0) t).D = t.D ++ u ∧ (cs.foldl (stT R U x w0) t).q = t.q ++ u.map Prod.fst
  | [], t => ⟨[], by simp, by simp⟩
  | c :: cs, t => by
    obtain ⟨u, e1, e2⟩ := stT_q (R := R) (U := U) (x := x) (w0 := w0) (c := c) (t := t)
    obtain ⟨v, e3, e4⟩ := foT_q (R := R) (U := U) (x := x) (w0 := w0) cs (stT R U x w0 t c)
    exact ⟨u ++ v, by rw [List.foldl_cons, e3, e1]; simp, by rw [List.foldl_cons, e4, e2]; simp⟩
theorem foT_has {R U : List Nat} {x : Nat} {w0 : Str} : ∀ (cs : List Str) (t : TQ), ∀ c ∈ cs, stp R U c x ∈ (cs.foldl (stT R U x w0) t).D.map Prod.fst
  | c :: cs, t, d, hd => by
    rcases List.mem_cons.mp hd with rfl | hd
    · obtain ⟨u, e, _⟩ := foT_q (R := R) (U := U) (x := x) (w0 := w0) cs (stT R U x w0 t d)
      rw [List.foldl_cons, e]
      exact sub_app stT_has
    · exact foT_has cs _ d hd
theorem TI.fold {R U : List Nat} {n x : Nat} {w0 : Str} (F : Flo R U n) : ∀ (cs : List Str) (t : TQ), GW cs → TI R U n t → vD t.D x = some w0 → TI R U n (cs.foldl (stT R U x w0) t)
  | [], t, _, h, _ => h
  | c :: cs, t, g, h, hw => TI.fold F cs _ g.tl (h.step F hw g.hd) (stT_w hw)
def stepsD (R U : List Nat) (x : Nat) : PyData := .tuple (sg4.map fun c => .tuple [.str c, .int ((stp R U c x : Nat) : Int), edD (eW R U c x)])
theorem gw4 : GW sg4 := fun c hc => by simpa [sg4] using hc
theorem L1_tree_words_eq {R U : List Nat} {n x : Nat} {w0 : Str} {t : TQ} (F : Flo R U n) (h : TI R U n t) (hq : t.q.length ≤ 100) (hw : vD t.D x = some w0) (a0 a4 a5 a8 a9 a10 : Option PV) :
    ∃ a8' a9' a10', L1_tree_words [a0, some (.ptr 0), some (.ptr 1), some (.ptr 2), a4, a5, some (.dat (.int (x : Int))), some (.dat (stepsD R U x)), a8, a9, a10] (tSt t) =
      some (.nx [a0, some (.ptr 0), some (.ptr 1), some (.ptr 2), a4, a5, some (.dat (.int (x : Int))), some (.dat (stepsD R U x)), a8', a9', a10'] (tSt (foT R U x w0 t))) := by
  have hn := F.small
  have st : ∀ (c : Str) (u : TQ), S4 c → TI R U n u → vD u.D x = some w0 → u.q.length ≤ 200 → ∀ a8 a9 a10 : Option PV, B1_tree_words [a0, some (.ptr 0), some (.ptr 1), some (.ptr 2), a4, a5, some (.dat (.int (x : Int))), some (.dat (stepsD R U x)), some (.dat (.str c)), some (.dat (.int ((stp R U c x : Nat) : Int))), some (.dat (edD (eW R U c x)))] (tSt u) =
      some (.nx [a0, some (.ptr 0), some (.ptr 1), some (.ptr 2), a4, a5, some (.dat (.int (x : Int))), some (.dat (stepsD R U x)), some (.dat (.str c)), some (.dat (.int ((stp R U c x : Nat) : Int))), some (.dat (edD (eW R U c x)))] (tSt (stT R U x w0 u c))) := by
    intro c u hc hu hwu hqu a8 a9 a10
    have dl := hu.dl
    have tl := hu.tl
    have wl := hu.len x w0 hwu
    exact B1_tree_words_eq hwu (by omega) (len1 hc) (by omega) hu.nd (by omega) hu.ndt (by omega) _ _ _ _
  have ql : ∀ (c : Str) (u : TQ), (stT R U x w0 u c).q.length ≤ u.q.length + 1 := by
    intro c u; unfold stT; split <;> simp
  have i1 := h.step F hw (c := "r") (.inl rfl)
  have w1 := stT_w (R := R) (U := U) (x := x) (w0 := w0) (c := "r") hw
  have i2 := i1.step F w1 (c := "l") (.inr (.inl rfl))
  have w2 := stT_w (R := R) (U := U) (x := x) (w0 := w0) (c := "l") w1
  have i3 := i2.step F w2 (c := "u") (.inr (.inr (.inl rfl)))
  have w3 := stT_w (R := R) (U := U) (x := x) (w0 := w0) (c := "u") w2
  have q1 := ql "r" t
  have q2 := ql "l" (stT R U x w0 t "r")
  have q3 := ql "u" (stT R U x w0 (stT R U x w0 t "r") "l")
  have s1 := st "r" t (.inl rfl) h hw (by omega) none none none
  have s2 := st "l" _ (.inr (.inl rfl)) i1 w1 (by omega) none none none
  have s3 := st "u" _ (.inr (.inr (.inl rfl))) i2 w2 (by omega) none none none
  have s4 := st "d" _ (.inr (.inr (.inr rfl))) i3 w3 (by omega) none none none
  refine ⟨some (.dat (.str "d")), some (.dat (.int ((stp R U "d" x : Nat) : Int))), some (.dat (edD (eW R U "d" x))), ?_⟩
  unfold L1_tree_words sFor
  have e0 : srcSeq (eVar 7) [a0, some (.ptr 0), some (.ptr 1), some (.ptr 2), a4, a5, some (.dat (.int (x : Int))), some (.dat (stepsD R U x)), a8, a9, a10] (tSt t) = some ((sg4.map fun c => PV.dat (.tuple [.str c, .int ((stp R U c x : Nat) : Int), edD (eW R U c x)]), none), tSt t) := by
    simp [stepsD, sg4]
  rw [e0]
  have tgt : ∀ (c : Str) (μ : Sto) (a8 a9 a10 : Option PV), tgT 3 (tgsCons (tgN 8) (tgsCons (tgN 9) (tgsCons (tgN 10) tgsNil))) (PV.dat (.tuple [.str c, .int ((stp R U c x : Nat) : Int), edD (eW R U c x)])) [a0, some (.ptr 0), some (.ptr 1), some (.ptr 2), a4, a5, some (.dat (.int (x : Int))), some (.dat (stepsD R U x)), a8, a9, a10] μ =
      some ([a0, some (.ptr 0), some (.ptr 1), some (.ptr 2), a4, a5, some (.dat (.int (x : Int))), some (.dat (stepsD R U x)), some (.dat (.str c)), some (.dat (.int ((stp R U c x : Nat) : Int))), some (.dat (edD (eW R U c x)))], μ) := fun _ _ _ _ _ => by simp
  simp only [sg4, Option.bind_some, List.map_cons, List.map_nil, okG_none, forD, if_true, tgt, s1, s2, s3, s4, turnO, foT, List.foldl_cons, List.foldl_nil]
theorem steps_e {R U : List Nat} {n x : Nat} (F : Flo R U n) (hx : x < n) (μ : Sto) (a1 a2 a3 a7 a8 a9 a10 : Option PV) :
    eTup (aCons (eTup (aCons (eC (.str "r")) (aCons (eOp fIx (eOp fIx (eVar 0) (eC (.int 1))) (eVar 6)) (aCons (eTup (aCons (eC (.str "right")) (aCons (eVar 6) (aNil)))) (aNil))))) (aCons (eTup (aCons (eC (.str "l")) (aCons (eOp fIx (eVar 5) (eVar 6)) (aCons (eTup (aCons (eC (.str "right")) (aCons (eOp fIx (eVar 5) (eVar 6)) (aNil)))) (aNil))))) (aCons (eTup (aCons (eC (.str "u")) (aCons (eOp fIx (eOp fIx (eVar 0) (eC (.int 2))) (eVar 6)) (aCons (eTup (aCons (eC (.str "up")) (aCons (eVar 6) (aNil)))) (aNil))))) (aCons (eTup (aCons (eC (.str "d")) (aCons (eOp fIx (eVar 4) (eVar 6)) (aCons (eTup (aCons (eC (.str "up")) (aCons (eOp fIx (eVar 4) (eVar 6)) (aNil)))) (aNil))))) (aNil)))))
      [some (.dat (flo R U)), a1, a2, a3, some (.dat (.list (iL (inv U)))), some (.dat (.list (iL (inv R)))), some (.dat (.int (x : Int))), a7, a8, a9, a10] μ = some (.dat (stepsD R U x), μ) := by
  have k1 := at_oL (ns := R) (j := x) (by rw [F.lR]; exact hx)
  have k2 := at_oL (ns := inv R) (j := x) (by rw [inv_len, F.lR]; exact hx)
  have k3 := at_oL (ns := U) (j := x) (by rw [F.lU]; exact hx)
  have k4 := at_oL (ns := inv U) (j := x) (by rw [inv_len, F.lU]; exact hx)
  simp [k1, k2, k3, k4, asDats, cap, stepsD, sg4, stp_r, stp_l, stp_u, stp_d, eW_r, eW_l, eW_u, eW_d, edD, kdS]
theorem L2_tree_words_eq {R U : List Nat} {n : Nat} (F : Flo R U n) (hn0 : 0 < n) (C : Hang R U n) (a6 a7 a8 a9 a10 : Option PV) :
    ∃ t a6' a7' a8' a9' a10', L2_tree_words [some (.dat (flo R U)), some (.ptr 0), some (.ptr 1), some (.ptr 2), some (.dat (.list (iL (inv U)))), some (.dat (.list (iL (inv R)))), a6, a7, a8, a9, a10] (tSt ⟨[(0, "")], [], [0]⟩) =
      some (.nx [some (.dat (flo R U)), some (.ptr 0), some (.ptr 1), some (.ptr 2), some (.dat (.list (iL (inv U)))), some (.dat (.list (iL (inv R)))), a6', a7', a8', a9', a10'] (tSt t)) ∧ TI R U n t ∧ t.q = [] ∧ ∀ x, x < n → x ∈ t.D.map Prod.fst := by
  have hn := F.small
  have key := whileN_gen (c := tsTru (eVar 3)) (b := B2_tree_words)
    (fun m ε μ => ∃ (t : TQ) (a6' a7' a8' a9' a10' : Option PV), ε = [some (.dat (flo R U)), some (.ptr 0), some (.ptr 1), some (.ptr 2), some (.dat (.list (iL (inv U)))), some (.dat (.list (iL (inv R)))), a6', a7', a8', a9', a10'] ∧ μ = tSt t ∧ TI R U n t ∧ t.q.length ≤ t.D.length ∧ 2 * (n - t.D.length) + t.q.length ≤ m ∧ ∀ k ∈ t.D.map Prod.fst, k ∉ t.q → ∀ y ∈ nbs4 R U k, y ∈ t.D.map Prod.fst)
    (fun o => ∃ (t : TQ) (a6' a7' a8' a9' a10' : Option PV), o = .nx [some (.dat (flo R U)), some (.ptr 0), some (.ptr 1), some (.ptr 2), some (.dat (.list (iL (inv U)))), some (.dat (.list (iL (inv R)))), a6', a7', a8', a9', a10'] (tSt t) ∧ TI R U n t ∧ t.q = [] ∧ ∀ k ∈ t.D.map Prod.fst, ∀ y ∈ nbs4 R U k, y ∈ t.D.map Prod.fst)
    (fun m ε μ hI => by
      obtain ⟨⟨D, T, q⟩, a6', a7', a8', a9', a10', rfl, rfl, h, hq, hm, hc⟩ := hI
      have dl := h.dl
      cases q with
      | nil =>
        refine ⟨false, tSt ⟨D, T, []⟩, by simp [oL_nil], fun _ => ⟨_, a6', a7', a8', a9', a10', rfl, h, rfl, fun k hk y hy => hc k hk (by simp) y hy⟩, fun z => by cases z⟩
      | cons x r =>
        obtain ⟨w0, hw⟩ := vD_some (h.qs x List.mem_cons_self)
        have hx := (h.good x w0 hw).2.2
        have h' : TI R U n ⟨D, T, r⟩ := ⟨h.nd, h.z0, h.good, h.len, fun y hy => h.qs y (List.mem_cons_of_mem _ hy), h.ndt, h.tl, h.tr⟩
        simp only [List.length_cons] at hq hm
        have ex : oL (x :: r) = PV.dat (.int (x : Int)) :: oL r := rfl
        refine ⟨true, tSt ⟨D, T, x :: r⟩, by simp [ex], (fun z => by cases z), fun _ => ?_⟩
        obtain ⟨m', rfl⟩ : ∃ m', m = m' + 1 := ⟨m - 1, by omega⟩
        obtain ⟨b8, b9, b10, e⟩ := L1_tree_words_eq F h' (by simp only at dl ⊢; omega) hw (some (.dat (flo R U))) (some (.dat (.list (iL (inv U))))) (some (.dat (.list (iL (inv R))))) a8' a9' a10'
        have pop : eLM fPopAt (eVar 3) (aCons (eC (.int 0)) aNil) [some (.dat (flo R U)), some (.ptr 0), some (.ptr 1), some (.ptr 2), some (.dat (.list (iL (inv U)))), some (.dat (.list (iL (inv R)))), a6', a7', a8', a9', a10'] (tSt ⟨D, T, x :: r⟩) = some (.dat (.int (x : Int)), tSt ⟨D, T, r⟩) := by
          have e2 : seqIndex? 0 (r.length + 1) = some 0 := by
            unfold seqIndex?
            simp
          simp only [tSt]
          rw [ex]
          simp [e2]
        obtain ⟨u, eu1, eu2⟩ := foT_q (R := R) (U := U) (x := x) (w0 := w0) sg4 ⟨D, T, r⟩
        have hi := TI.fold F sg4 ⟨D, T, r⟩ gw4 h' hw
        refine ⟨m', rfl, .nx [some (.dat (flo R U)), some (.ptr 0), some (.ptr 1), some (.ptr 2), some (.dat (.list (iL (inv U)))), some (.dat (.list (iL (inv R)))), some (.dat (.int (x : Int))), some (.dat (stepsD R U x)), b8, b9, b10] (tSt (foT R U x w0 ⟨D, T, r⟩)), ?_, ?_⟩
        · unfold B2_tree_words
          refine (seq_nx (ε' := [some (.dat (flo R U)), some (.ptr 0), some (.ptr 1), some (.ptr 2), some (.dat (.list (iL (inv U)))), some (.dat (.list (iL (inv R)))), some (.dat (.int (x : Int))), a7', a8', a9', a10']) (μ' := tSt ⟨D, T, r⟩) ?_).trans ?_
          · unfold sSet; rw [pop]; rfl
          · refine (seq_nx (ε' := [some (.dat (flo R U)), some (.ptr 0), some (.ptr 1), some (.ptr 2), some (.dat (.list (iL (inv U)))), some (.dat (.list (iL (inv R)))), some (.dat (.int (x : Int))), some (.dat (stepsD R U x)), a8', a9', a10']) (μ' := tSt ⟨D, T, r⟩) ?_).trans e
            unfold sSet; rw [steps_e F hx]; rfl
        · have dl2 := hi.dl
          rw [eu1] at dl2
          simp only [List.length_append] at dl2
          refine ⟨foT R U x w0 ⟨D, T, r⟩, _, _, b8, b9, b10, rfl, rfl, hi, ?_, ?_, fun k hk hkq y hy => ?_⟩
          · unfold foT; rw [eu1, eu2]; simp; omega
          · unfold foT; rw [eu1, eu2]; simp; omega
          · by_cases ek : k = x
            · subst ek
              have : ∃ c ∈ sg4, stp R U c k = y := by
                simp only [nbs4, List.mem_cons, List.not_mem_nil, or_false] at hy
                rcases hy with rfl | rfl | rfl | rfl
                · exact ⟨"r", by simp [sg4], stp_r⟩
                · exact ⟨"l", by simp [sg4], stp_l⟩
                · exact ⟨"u", by simp [sg4], stp_u⟩
                · exact ⟨"d", by simp [sg4], stp_d⟩
              obtain ⟨c, hcm, rfl⟩ := this
              exact foT_has _ _ c hcm
            · unfold foT at hk hkq ⊢
              rw [eu2] at hkq
              rw [eu1] at hk ⊢
              rw [List.map_append, List.mem_append] at hk
              rcases hk with hk | hk
              · refine sub_app (hc k hk ?_ y hy)
                intro z
                rcases List.mem_cons.mp z with z | z
                · exact ek z
                · exact hkq (List.mem_append_left _ z)
              · exact absurd (List.mem_append_right _ hk) hkq) 2000 (2 * n)
    [some (.dat (flo R U)), some (.ptr 0), some (.ptr 1), some (.ptr 2), some (.dat (.list (iL (inv U)))), some (.dat (.list (iL (inv R)))), a6, a7, a8, a9, a10] (tSt ⟨[(0, "")], [], [0]⟩) (by omega)
    ⟨⟨[(0, "")], [], [0]⟩, a6, a7, a8, a9, a10, rfl, rfl, ⟨by simp, by simp [vD], fun k w e => ?_, fun k w e => ?_, fun x hx => by simpa using hx, by simp, by simp, fun e he => by cases he⟩, by simp, by simp; omega, fun k hk hn => absurd hk (by simpa using hn)⟩
  · obtain ⟨o, h1, t, a6', a7', a8', a9', a10', rfl, h2, h3, h4⟩ := key
    refine ⟨t, a6', a7', a8', a9', a10', h1, h2, h3, fun x hx => ?_⟩
    have r := C 0 x hn0 hx
    clear h1
    induction r with
    | refl => exact List.mem_map.mpr ⟨_, vD_mem h2.z0, rfl⟩
    | step r m _ ih => exact h4 _ (ih (r.lt hn0 F.nb_lt)) _ m
  · simp only [vD] at e
    split at e
    · rename_i q; cases e; subst q; exact ⟨by rw [sgs_nil]; exact gw_nil, by rw [sgs_nil]; rfl, hn0⟩
    · cases e
  · simp only [vD] at e
    split at e
    · cases e; decide
    · cases e
theorem F_tree_words_eq {R U : List Nat} {n : Nat} (F : Flo R U n) (hn0 : 0 < n) (C : Hang R U n) : ∃ D T, F_tree_words [.dat (flo R U)] [] = some (.ptr 3, [.dic (dK D), .dtu (dT T), .lst [], .tpl [.ptr 0, .ptr 1]]) ∧ TI R U n ⟨D, T, []⟩ ∧ ∀ x, x < n → x ∈ D.map Prod.fst := by
  have hn := F.small
  obtain ⟨⟨D, T, q⟩, a6, a7, a8, a9, a10, e, h, hq, ha⟩ := L2_tree_words_eq F hn0 C none none none none none
  simp only at hq
  subst hq
  refine ⟨D, T, ?_, h, ha⟩
  have l1 := F_left_eq R U (by rw [F.lR]; omega) F.oR.low
  have l2 := F_down_eq R U (by rw [F.lU]; omega) F.oU.low
  have e0 : tSt ⟨[(0, "")], [], [0]⟩ = [.dic [(.inl 0, .dat (.str ""))], .dtu [], .lst [.dat (.int 0)]] := rfl
  rw [e0] at e
  have e1 : mergeP [] [((.inl 0 : Key), PV.dat (.str ""))] = [(.inl 0, .dat (.str ""))] := rfl
  simp [-mergeP, F_tree_words, r_tree_words, e1, sPar, asDats, l1, l2, cap, e, oL_nil]
end CM
namespace CM
open PySem L2 VX
/-! ### words back, joined -/
theorem sgs_sjoin : ∀ l : List Str, (∀ c ∈ l, sgs c = [c]) → sgs (Str.join "" l) = l
  | [], _ => by decide
  | [x], h => h x (by simp)
  | x :: y :: r, h => by
    have ih := sgs_sjoin (y :: r) fun c hc => h c (List.mem_cons_of_mem _ hc)
    show sgs (x ++ "" ++ Str.join "" (y :: r)) = _
    rw [sgs_app, sgs_app, sgs_nil, ih, h x List.mem_cons_self]
    rfl
theorem sgs_join (l : List Str) (h : ∀ c ∈ l, sgs c = [c]) : sgs (Txt.join "" l) = l := by
  rw [TL.join_eq]; exact sgs_sjoin l h
theorem gw_one {l : List Str} (h : GW l) : ∀ c ∈ l, sgs c = [c] := fun c hc => sgs1 (h c hc)
def bkS (w : Str) : Str := Txt.join "" (bk (sgs w))
theorem sgs_bkS {w : Str} (h : GW (sgs w)) : sgs (bkS w) = bk (sgs w) := sgs_join _ (gw_one (bk_gw h))
theorem bkS_len {w : Str} (h : GW (sgs w)) : (bkS w).length = w.length := by rw [← sgs_len, sgs_bkS h]; simp [bk]
theorem sumLen0 {l : List Str} (h : GW l) : sumLen "" l = l.length := by
  have e : (l.map (·.length)).sum = l.length := by
    induction l with
    | nil => rfl
    | cons c l ih => rw [List.map_cons, List.sum_cons, ih h.tl, len1 h.hd]; simp; omega
  have z : ("" : Str).length = 0 := by decide
  unfold sumLen
  rw [e, z]; simp
@[simp] theorem asStrs_oS : ∀ l : List Str, asStrs (oS l) = some l
  | [] => rfl
  | c :: l => by
    have := asStrs_oS l
    simp only [oS] at this
    simp [oS, asStrs, this]
def iS (l : List Str) : List PyData := l.map fun c => .str c
theorem map_iS (l : List Str) : (iS l).map PV.dat = oS l := by simp [iS, oS]
theorem asDats_oS (l : List Str) : asDats (oS l) = some (iS l) := by rw [← map_iS, asDats_map]
def bkDic : List (Key × PV) := [(.inr "r", .dat (.str "l")), (.inr "l", .dat (.str "r")), (.inr "u", .dat (.str "d")), (.inr "d", .dat (.str "u"))]
theorem valP_bk {c : Str} (h : S4 c) : valP bkDic (.inr c) = some (.dat (.str (bk1 c))) := by
  unfold bkDic
  rcases h with rfl | rfl | rfl | rfl
  · rw [bk1_r, valP_hit]
  · rw [bk1_l, valP_miss (inr_ne (by decide)), valP_hit]
  · rw [bk1_u, valP_miss (inr_ne (by decide)), valP_miss (inr_ne (by decide)), valP_hit]
  · rw [bk1_d, valP_miss (inr_ne (by decide)), valP_miss (inr_ne (by decide)), valP_miss (inr_ne (by decide)), valP_hit]
abbrev eBk : EvF := eDic (prCons (eC (.str "r")) (eC (.str "l")) (prCons (eC (.str "l")) (eC (.str "r")) (prCons (eC (.str "u")) (eC (.str "d")) (prCons (eC (.str "d")) (eC (.str "u")) (prNil)))))
theorem eBk_eq (ε : Evn) (μ : Sto) : eBk ε μ = some (.ptr μ.length, μ ++ [.dic bkDic]) := by
  simp [-mergeP, mergeN, bkDic]
theorem te_bk {es : EvF} {ε : Evn} {μ : Sto} {c : Str} (hc : S4 c) (h : ∀ μ', es ε μ' = some (.dat (.str c), μ')) : eDGet eBk es ε μ = some (.dat (.str (bk1 c)), μ ++ [.dic bkDic]) := by
  have v := valP_bk hc
  unfold eDGet
  rw [eBk_eq]
  simp only [Option.bind_some]
  rw [h]
  have g : (μ ++ [SO.dic bkDic])[μ.length]? = some (SO.dic bkDic) := by simp
  simp [g, v]
theorem lcD_grow {tg : TgF} {te : EvF} {w : Evn} {X : SO} (f : PV → PV) : ∀ (items : List PV) (μ : Sto), (∀ p ∈ items, ∀ k, ∃ ε, tg p w (μ ++ List.replicate k X) = some (ε, μ ++ List.replicate k X) ∧ te ε (μ ++ List.replicate k X) = some (f p, (μ ++ List.replicate k X) ++ [X])) →
    ∀ k, lcD (fun _ => true) tg tsYes te w items (μ ++ List.replicate k X) = some (items.map f, μ ++ List.replicate (k + items.length) X)
  | [], μ, _, k => by simp [lcD]
  | p :: r, μ, h, k => by
    obtain ⟨ε, h1, h2⟩ := h p List.mem_cons_self k
    have ih := lcD_grow f r μ (fun q hq => h q (List.mem_cons_of_mem _ hq)) (k + 1)
    have e : (μ ++ List.replicate k X) ++ [X] = μ ++ List.replicate (k + 1) X := by
      rw [List.append_assoc, List.replicate_succ']
    rw [e] at h2
    have e2 : k + 1 + r.length = k + (r.length + 1) := by omega
    rw [e2] at ih
    simp [lcD, h1, h2, ih]
/-- the signs of a word, led back one by one -/
def bkP : PV → PV
  | .dat (.str c) => .dat (.str (bk1 c))
  | p => p
theorem map_bk1 (l : List Str) : (oS l).map bkP = oS (l.map bk1) := by simp [oS, bkP]
theorem revS (w : Str) : sgs (⟨w.cps.toList.reverse.toArray⟩ : Str) = (sgs w).reverse := by simp [sgs, List.map_reverse]
end CM
namespace CM
open PySem L2 VX
/-! ### loops_of: corners become known -/
theorem and_t {t u : TsF} {ε : Evn} {μ : Sto} {o : Option (Bool × Sto)} (h : t ε μ = some (true, μ)) (h' : u ε μ = o) : tsAnd t u ε μ = o := by
  unfold tsAnd; rw [h]; simpa using h'
theorem and_f {t u : TsF} {ε : Evn} {μ : Sto} (h : t ε μ = some (false, μ)) : tsAnd t u ε μ = some (false, μ) := by
  unfold tsAnd; rw [h]; rfl
structure CS where
  kn : List Nat
  T : List Ed
  q : List Nat
def stC (co : Nat) (e : Ed) (h t : Nat) (s : CS) : CS := if h = co ∧ t ∉ s.kn ∧ e ∉ s.T then ⟨s.kn ++ [t], s.T ++ [e], s.q ++ [t]⟩ else s
abbrev lpS (D : List (Nat × Str)) (s : CS) : Sto := [.dic (dK D), .dtu (dT s.T), .lst [], .tpl [.ptr 0, .ptr 1], .lst (oL s.kn), .lst (oL s.q)]
theorem tup_e {e : Ed} {k1 k2 : Nat} {ε : Evn} {μ : Sto} (h1 : ε[k1]? = some (some (.dat (.str (kdS e.1))))) (h2 : ε[k2]? = some (some (.dat (.int (e.2 : Int))))) : eTup (aCons (eVar k1) (aCons (eVar k2) (aNil))) ε μ = some (.dat (edD e), μ) := by
  simp [h1, h2, asDats, cap, edD]
theorem nin_T {e : Ed} {ei eo : EvF} {k : Nat} {T : List Ed} {ε : Evn} {μ : Sto} (h : ei ε μ = some (.dat (edD e), μ)) (ho : eo ε μ = some (.ptr k, μ)) (hk : μ[k]? = some (.dtu (dT T))) : tsE (eTIn true ei eo) ε μ = some (!decide (e ∈ T), μ) := by
  have v := valP_dT e T
  have y := keyT_edD e
  generalize edD e = sd at *
  unfold tsE eTIn
  rw [h]
  simp only [Option.bind_some, ho]
  by_cases q : e ∈ T
  · simp only [q, if_true] at v
    simp [-keyT, hk, y, v, q]
  · simp only [q, if_false] at v
    simp [-keyT, hk, y, v, q]
theorem put_T {e : Ed} {ei eo : EvF} {k : Nat} {T : List Ed} {ε : Evn} {μ : Sto} (h : ei ε μ = some (.dat (edD e), μ)) (ho : eo ε μ = some (.ptr k, μ)) (hk : μ[k]? = some (.dtu (dT T))) (hl : T.length < 1000) (nd : T.Nodup) (hn : e ∉ T) : sTPut eo ei (eC (.bool true)) ε μ = some (.nx ε (μ.set k (.dtu (dT (T ++ [e]))))) := by
  have y := keyT_edD e
  have p := putP_dT (e := e) (T := T)
  have ea : addT T e = T ++ [e] := if_neg hn
  have nb := ndT_dT nd
  have c : T.length < 1000000 := by omega
  rw [ea] at p
  generalize edD e = sd at *
  unfold sTPut
  simp only [eC, Option.bind_some, ho, h]
  simp [-keyT, hk, y, p, nb, cap, dT_len, c]
theorem B1_loops_of_eq {D : List (Nat × Str)} {s : CS} {co h t : Nat} {e : Ed} (hl : s.T.length < 1000) (nd : s.T.Nodup) (hk : s.kn.length < 1000) (hq : s.q.length < 1000) (a0 a1 a8 a9 a12 a13 a14 : Option PV) :
    B1_loops_of [a0, a1, some (.ptr 1), some (.ptr 4), some (.ptr 5), some (.dat (.int (co : Int))), some (.dat (.str (kdS e.1))), some (.dat (.int (e.2 : Int))), a8, a9, some (.dat (.int (h : Int))), some (.dat (.int (t : Int))), a12, a13, a14] (lpS D s) =
      some (.nx [a0, a1, some (.ptr 1), some (.ptr 4), some (.ptr 5), some (.dat (.int (co : Int))), some (.dat (.str (kdS e.1))), some (.dat (.int (e.2 : Int))), a8, a9, some (.dat (.int (h : Int))), some (.dat (.int (t : Int))), a12, a13, a14] (lpS D (stC co e h t s))) := by
  have t1 : tsE (eOp (fEq false) (eVar 10) (eVar 5)) [a0, a1, some (.ptr 1), some (.ptr 4), some (.ptr 5), some (.dat (.int (co : Int))), some (.dat (.str (kdS e.1))), some (.dat (.int (e.2 : Int))), a8, a9, some (.dat (.int (h : Int))), some (.dat (.int (t : Int))), a12, a13, a14] (lpS D s) = some (decide (h = co), lpS D s) := by simp; omega
  have t2 : tsE (eOp (fIn true) (eVar 11) (eVar 3)) [a0, a1, some (.ptr 1), some (.ptr 4), some (.ptr 5), some (.dat (.int (co : Int))), some (.dat (.str (kdS e.1))), some (.dat (.int (e.2 : Int))), a8, a9, some (.dat (.int (h : Int))), some (.dat (.int (t : Int))), a12, a13, a14] (lpS D s) = some (!decide (t ∈ s.kn), lpS D s) := by simp
  have tp := tup_e (e := e) (k1 := 6) (k2 := 7) (ε := [a0, a1, some (.ptr 1), some (.ptr 4), some (.ptr 5), some (.dat (.int (co : Int))), some (.dat (.str (kdS e.1))), some (.dat (.int (e.2 : Int))), a8, a9, some (.dat (.int (h : Int))), some (.dat (.int (t : Int))), a12, a13, a14]) (μ := lpS D s) rfl rfl
  have t3 := nin_T (eo := eVar 2) (k := 1) (T := s.T) tp rfl rfl
  unfold B1_loops_of
  by_cases q1 : h = co
  · by_cases q2 : t ∈ s.kn
    · refine if_f ?_ ?_
      · exact and_t (t1.trans (by rw [decide_eq_true q1])) (and_f (t2.trans (by rw [decide_eq_true q2]; rfl)))
      · simp [stC, q2]
    · by_cases q3 : e ∈ s.T
      · refine if_f ?_ ?_
        · exact and_t (t1.trans (by rw [decide_eq_true q1])) (and_t (t2.trans (by rw [decide_eq_false q2]; rfl)) (t3.trans (by rw [decide_eq_true q3]; rfl)))
        · simp [stC, q3]
      · have c1 : s.kn.length < 1000000 := by omega
        have c2 : s.q.length < 1000000 := by omega
        refine if_t ?_ ?_
        · exact and_t (t1.trans (by rw [decide_eq_true q1])) (and_t (t2.trans (by rw [decide_eq_false q2]; rfl)) (t3.trans (by rw [decide_eq_false q3]; rfl)))
        · have ec : stC co e h t s = ⟨s.kn ++ [t], s.T ++ [e], s.q ++ [t]⟩ := if_pos ⟨q1, q2, q3⟩
          rw [ec]
          refine (seq_nx (ε' := [a0, a1, some (.ptr 1), some (.ptr 4), some (.ptr 5), some (.dat (.int (co : Int))), some (.dat (.str (kdS e.1))), some (.dat (.int (e.2 : Int))), a8, a9, some (.dat (.int (h : Int))), some (.dat (.int (t : Int))), a12, a13, a14]) (μ' := lpS D ⟨s.kn ++ [t], s.T, s.q⟩) (by simp [cap, c1])).trans ?_
          refine (seq_nx (ε' := [a0, a1, some (.ptr 1), some (.ptr 4), some (.ptr 5), some (.dat (.int (co : Int))), some (.dat (.str (kdS e.1))), some (.dat (.int (e.2 : Int))), a8, a9, some (.dat (.int (h : Int))), some (.dat (.int (t : Int))), a12, a13, a14]) (μ' := lpS D ⟨s.kn ++ [t], s.T, s.q ++ [t]⟩) (by simp [cap, c2])).trans ?_
          exact put_T (k := 1) (T := s.T) (tup_e (e := e) rfl rfl) rfl rfl hl nd q3
  · refine if_f ?_ ?_
    · exact and_f (t1.trans (by rw [decide_eq_false q1]))
    · simp [stC, q1]
/-- what holds of the corners known, T being the sides of the tree -/
structure LI (a b : Ed → Nat) (C : List Nat) (n : Nat) (T0 : List Ed) (s : CS) : Prop where
  ex : ∃ K, s.T = T0 ++ K ∧ CT a b s.kn K
  ndk : s.kn.Nodup
  knC : ∀ x ∈ s.kn, x ∈ 0 :: C
  ndT : s.T.Nodup
  lt : ∀ e ∈ s.T, e.2 < n
  qs : ∀ x ∈ s.q, x ∈ s.kn
  ql : s.q.length ≤ s.kn.length
theorem LI.kl {a b : Ed → Nat} {C : List Nat} {n : Nat} {T0 : List Ed} {s : CS} (h : LI a b C n T0 s) : s.kn.length ≤ C.length + 1 := by
  have := nodup_sub h.ndk h.knC
  simpa using this
theorem LI.tl {a b : Ed → Nat} {C : List Nat} {n : Nat} {T0 : List Ed} {s : CS} (h : LI a b C n T0 s) : s.T.length ≤ 2 * n := by
  have key : ∀ (l m : List Ed), l.Nodup → (∀ x ∈ l, x ∈ m) → l.length ≤ m.length := by
    intro l
    induction l with
    | nil => intro m _ _; exact Nat.zero_le _
    | cons x l ih =>
      intro m nd hs
      rw [List.nodup_cons] at nd
      have hx := hs x List.mem_cons_self
      have i := ih (m.erase x) nd.2 fun y hy => by
        have hne : y ≠ x := fun z => nd.1 (z ▸ hy)
        exact (List.mem_erase_of_ne hne).mpr (hs y (List.mem_cons_of_mem _ hy))
      rw [List.length_erase_of_mem hx] at i
      have : 0 < m.length := List.length_pos_of_mem hx
      simp only [List.length_cons]; omega
  have := key s.T (sdL n) h.ndT fun e he => mem_sdL.mpr (h.lt e he)
  rw [sdL_len] at this
  exact this
theorem LI.step {a b : Ed → Nat} {C : List Nat} {n : Nat} {T0 : List Ed} {s : CS} {co h t : Nat} {e : Ed} (i : LI a b C n T0 s) (he : e.2 < n) (hco : co ∈ s.kn) (ht : t ∈ 0 :: C) (hab : (a e = h ∧ b e = t) ∨ (a e = t ∧ b e = h)) : LI a b C n T0 (stC co e h t s) := by
  unfold stC
  split
  · rename_i q
    obtain ⟨q1, q2, q3⟩ := q
    obtain ⟨K, eK, cK⟩ := i.ex
    refine ⟨⟨K ++ [e], by rw [eK]; simp, .snoc cK (q1 ▸ hco) q2 hab⟩, ?_, fun x hx => ?_, ?_, fun f hf => ?_, fun x hx => ?_, by have := i.ql; simp; omega⟩
    · rw [List.nodup_append]
      exact ⟨i.ndk, by simp, fun x hx y hy => by simp at hy; subst hy; intro z; subst z; exact q2 hx⟩
    · rcases List.mem_append.mp hx with hx | hx
      · exact i.knC x hx
      · simp only [List.mem_singleton] at hx; subst hx; exact ht
    · rw [List.nodup_append]
      exact ⟨i.ndT, by simp, fun x hx y hy => by simp at hy; subst hy; intro z; subst z; exact q3 hx⟩
    · rcases List.mem_append.mp hf with hf | hf
      · exact i.lt f hf
      · simp only [List.mem_singleton] at hf; subst hf; exact he
    · rw [List.mem_append]
      rcases List.mem_append.mp hx with hx | hx
      · exact .inl (i.qs x hx)
      · exact .inr hx
  · exact i
theorem stC_q {co h t : Nat} {e : Ed} {s : CS} : ∃ u, (stC co e h t s).kn = s.kn ++ u ∧ (stC co e h t s).q = s.q ++ u := by
  unfold stC; split
  · exact ⟨_, rfl, rfl⟩
  · exact ⟨[], by simp, by simp⟩
def stC2 (a b : Ed → Nat) (co : Nat) (s : CS) (e : Ed) : CS := stC co e (b e) (a e) (stC co e (a e) (b e) s)
theorem stC2_q {a b : Ed → Nat} {co : Nat} {e : Ed} {s : CS} : ∃ u, (stC2 a b co s e).kn = s.kn ++ u ∧ (stC2 a b co s e).q = s.q ++ u := by
  obtain ⟨u, e1, e2⟩ := stC_q (co := co) (h := a e) (t := b e) (e := e) (s := s)
  obtain ⟨v, e3, e4⟩ := stC_q (co := co) (h := b e) (t := a e) (e := e) (s := stC co e (a e) (b e) s)
  exact ⟨u ++ v, by unfold stC2; rw [e3, e1]; simp, by unfold stC2; rw [e4, e2]; simp⟩
end CM
namespace CM
open PySem L2 VX
section
variable {R U C : List Nat} {n : Nat}
theorem sdC (F : Flo R U n) (hC : C.length = n) {e : Ed} (he : e.2 < n) : stE U C e ∈ 0 :: C ∧ enE R C e ∈ 0 :: C := by
  have nb := F.nb_lt e.2 he
  have m : ∀ x, x < n → g0 C x ∈ 0 :: C := fun x hx => List.mem_cons_of_mem _ (g0_mem (by omega))
  obtain ⟨b, x⟩ := e
  cases b
  · exact ⟨m _ he, m _ (nb _ (by simp [nbs4]))⟩
  · exact ⟨m _ (nb _ (by simp [nbs4])), m _ he⟩
theorem LI.step2 {T0 : List Ed} {s : CS} {co : Nat} {e : Ed} (F : Flo R U n) (hC : C.length = n) (i : LI (stE U C) (enE R C) C n T0 s) (he : e.2 < n) (hco : co ∈ s.kn) : LI (stE U C) (enE R C) C n T0 (stC2 (stE U C) (enE R C) co s e) := by
  have m := sdC F hC he
  have i1 := i.step (h := stE U C e) (t := enE R C e) he hco m.2 (.inl ⟨rfl, rfl⟩)
  obtain ⟨u, e1, _⟩ := stC_q (co := co) (h := stE U C e) (t := enE R C e) (e := e) (s := s)
  exact i1.step he (by rw [e1]; exact List.mem_append_left _ hco) m.1 (.inr ⟨rfl, rfl⟩)
theorem L1_loops_of_eq {D : List (Nat × Str)} {T0 : List Ed} {s : CS} {co : Nat} {e : Ed} (F : Flo R U n) (hC : C.length = n) (i : LI (stE U C) (enE R C) C n T0 s) (he : e.2 < n) (hco : co ∈ s.kn) (a0 a1 a10 a11 a12 a13 a14 : Option PV) :
    ∃ a10' a11', L1_loops_of [a0, a1, some (.ptr 1), some (.ptr 4), some (.ptr 5), some (.dat (.int (co : Int))), some (.dat (.str (kdS e.1))), some (.dat (.int (e.2 : Int))), some (.dat (.int ((stE U C e : Nat) : Int))), some (.dat (.int ((enE R C e : Nat) : Int))), a10, a11, a12, a13, a14] (lpS D s) =
      some (.nx [a0, a1, some (.ptr 1), some (.ptr 4), some (.ptr 5), some (.dat (.int (co : Int))), some (.dat (.str (kdS e.1))), some (.dat (.int (e.2 : Int))), some (.dat (.int ((stE U C e : Nat) : Int))), some (.dat (.int ((enE R C e : Nat) : Int))), a10', a11', a12, a13, a14] (lpS D (stC2 (stE U C) (enE R C) co s e))) := by
  have hn := F.small
  have m := sdC F hC he
  have i1 := i.step (h := stE U C e) (t := enE R C e) he hco m.2 (.inl ⟨rfl, rfl⟩)
  have k0 := i.kl
  have k1 := i1.kl
  have l0 := i.tl
  have l1 := i1.tl
  have q0 := i.ql
  have q1 := i1.ql
  have s1 := B1_loops_of_eq (D := D) (s := s) (co := co) (h := stE U C e) (t := enE R C e) (e := e) (by omega) i.ndT (by omega) (by omega) a0 a1 (some (.dat (.int ((stE U C e : Nat) : Int)))) (some (.dat (.int ((enE R C e : Nat) : Int)))) a12 a13 a14
  have s2 := B1_loops_of_eq (D := D) (s := stC co e (stE U C e) (enE R C e) s) (co := co) (h := enE R C e) (t := stE U C e) (e := e) (by omega) i1.ndT (by omega) (by omega) a0 a1 (some (.dat (.int ((stE U C e : Nat) : Int)))) (some (.dat (.int ((enE R C e : Nat) : Int)))) a12 a13 a14
  refine ⟨some (.dat (.int ((enE R C e : Nat) : Int))), some (.dat (.int ((stE U C e : Nat) : Int))), ?_⟩
  unfold L1_loops_of sFor
  have e0 : srcSeq (eTup (aCons (eTup (aCons (eVar 8) (aCons (eVar 9) (aNil)))) (aCons (eTup (aCons (eVar 9) (aCons (eVar 8) (aNil)))) (aNil)))) [a0, a1, some (.ptr 1), some (.ptr 4), some (.ptr 5), some (.dat (.int (co : Int))), some (.dat (.str (kdS e.1))), some (.dat (.int (e.2 : Int))), some (.dat (.int ((stE U C e : Nat) : Int))), some (.dat (.int ((enE R C e : Nat) : Int))), a10, a11, a12, a13, a14] (lpS D s) =
      some (([.dat (.tuple [.int ((stE U C e : Nat) : Int), .int ((enE R C e : Nat) : Int)]), .dat (.tuple [.int ((enE R C e : Nat) : Int), .int ((stE U C e : Nat) : Int)])], none), lpS D s) := by simp [asDats, cap]
  rw [e0]
  have tgt : ∀ (x y : Int) (μ : Sto) (b10 b11 : Option PV), tgT 2 (tgsCons (tgN 10) (tgsCons (tgN 11) tgsNil)) (PV.dat (.tuple [.int x, .int y])) [a0, a1, some (.ptr 1), some (.ptr 4), some (.ptr 5), some (.dat (.int (co : Int))), some (.dat (.str (kdS e.1))), some (.dat (.int (e.2 : Int))), some (.dat (.int ((stE U C e : Nat) : Int))), some (.dat (.int ((enE R C e : Nat) : Int))), b10, b11, a12, a13, a14] μ =
      some ([a0, a1, some (.ptr 1), some (.ptr 4), some (.ptr 5), some (.dat (.int (co : Int))), some (.dat (.str (kdS e.1))), some (.dat (.int (e.2 : Int))), some (.dat (.int ((stE U C e : Nat) : Int))), some (.dat (.int ((enE R C e : Nat) : Int))), some (.dat (.int x)), some (.dat (.int y)), a12, a13, a14], μ) := fun _ _ _ _ _ => by simp
  simp only [Option.bind_some, okG_none, forD, if_true, tgt, s1, s2, turnO]
  rfl
theorem get_sd {i : Nat} {p : PV} (h : (((sdL n).map (sdD R U C)).map PV.dat)[i]? = some p) : ∃ hi : i < (sdL n).length, p = .dat (sdD R U C (sdL n)[i]) := by
  have hi : i < (sdL n).length := by simpa using (List.getElem?_eq_some_iff.mp h).1
  refine ⟨hi, ?_⟩
  simp [hi] at h
  exact h.symm
theorem L2_loops_of_eq {D : List (Nat × Str)} {T0 : List Ed} {s : CS} {co : Nat} (F : Flo R U n) (hC : C.length = n) (hs : F_sides_of [flo R U] = some (.list ((sdL n).map (sdD R U C)))) (i : LI (stE U C) (enE R C) C n T0 s) (hco : co ∈ s.kn) (a1 a6 a7 a8 a9 a10 a11 a12 a13 a14 : Option PV) :
    ∃ s' a6' a7' a8' a9' a10' a11', L2_loops_of [some (.dat (flo R U)), a1, some (.ptr 1), some (.ptr 4), some (.ptr 5), some (.dat (.int (co : Int))), a6, a7, a8, a9, a10, a11, a12, a13, a14] (lpS D s) =
      some (.nx [some (.dat (flo R U)), a1, some (.ptr 1), some (.ptr 4), some (.ptr 5), some (.dat (.int (co : Int))), a6', a7', a8', a9', a10', a11', a12, a13, a14] (lpS D s')) ∧ LI (stE U C) (enE R C) C n T0 s' ∧ ∃ u, s'.kn = s.kn ++ u ∧ s'.q = s.q ++ u := by
  have key := forD_all (G := fun _ => true) (tg := tgT 4 (tgsCons (tgN 6) (tgsCons (tgN 7) (tgsCons (tgN 8) (tgsCons (tgN 9) tgsNil))))) (b := B2_loops_of)
    (fun j ε μ => ∃ s' a6' a7' a8' a9' a10' a11', ε = [some (.dat (flo R U)), a1, some (.ptr 1), some (.ptr 4), some (.ptr 5), some (.dat (.int (co : Int))), a6', a7', a8', a9', a10', a11', a12, a13, a14] ∧ μ = lpS D s' ∧ LI (stE U C) (enE R C) C n T0 s' ∧ ∃ u, s'.kn = s.kn ++ u ∧ s'.q = s.q ++ u)
    (((sdL n).map (sdD R U C)).map PV.dat) (fun _ _ _ _ => rfl) (fun j p ε μ hp h => by
      obtain ⟨s', a6', a7', a8', a9', a10', a11', rfl, rfl, i', u, hu, hq⟩ := h
      obtain ⟨hj, rfl⟩ := get_sd hp
      have he : (sdL n)[j].2 < n := mem_sdL.mp (List.getElem_mem hj)
      generalize (sdL n)[j] = e at *
      have hco' : co ∈ s'.kn := by rw [hu]; exact List.mem_append_left _ hco
      obtain ⟨b10, b11, e1⟩ := L1_loops_of_eq (D := D) F hC i' he hco' (some (.dat (flo R U))) a1 a10' a11' a12 a13 a14
      obtain ⟨v, h1, h2⟩ := stC2_q (a := stE U C) (b := enE R C) (co := co) (e := e) (s := s')
      exact ⟨_, _, _, _, by simp [sdD], e1, _, _, _, _, _, b10, b11, rfl, rfl, i'.step2 F hC he hco', u ++ v, by rw [h1, hu]; simp, by rw [h2, hq]; simp⟩)
    (ε := [some (.dat (flo R U)), a1, some (.ptr 1), some (.ptr 4), some (.ptr 5), some (.dat (.int (co : Int))), a6, a7, a8, a9, a10, a11, a12, a13, a14]) (μ := lpS D s) ⟨s, a6, a7, a8, a9, a10, a11, rfl, rfl, i, [], by simp, by simp⟩
  obtain ⟨ε', μ', h1, s', a6', a7', a8', a9', a10', a11', rfl, rfl, i', hu⟩ := key
  refine ⟨s', a6', a7', a8', a9', a10', a11', ?_, i', hu⟩
  unfold L2_loops_of sFor
  have e0 : srcSeq (eCallP 1 F_sides_of (aCons (eVar 0) (aNil))) [some (.dat (flo R U)), a1, some (.ptr 1), some (.ptr 4), some (.ptr 5), some (.dat (.int (co : Int))), a6, a7, a8, a9, a10, a11, a12, a13, a14] (lpS D s) = some ((((sdL n).map (sdD R U C)).map PV.dat, none), lpS D s) := by
    simp [asDats, hs]
  rw [e0]
  simp only [Option.bind_some, okG_none, h1]
theorem L3_loops_of_eq {D : List (Nat × Str)} {T0 : List Ed} {s : CS} (F : Flo R U n) (hC : C.length = n) (hs : F_sides_of [flo R U] = some (.list ((sdL n).map (sdD R U C)))) (i : LI (stE U C) (enE R C) C n T0 s) (hm : 2 * (n + 1 - s.kn.length) + s.q.length < 1000) (a1 a5 a6 a7 a8 a9 a10 a11 a12 a13 a14 : Option PV) :
    ∃ s' a5' a6' a7' a8' a9' a10' a11', L3_loops_of [some (.dat (flo R U)), a1, some (.ptr 1), some (.ptr 4), some (.ptr 5), a5, a6, a7, a8, a9, a10, a11, a12, a13, a14] (lpS D s) =
      some (.nx [some (.dat (flo R U)), a1, some (.ptr 1), some (.ptr 4), some (.ptr 5), a5', a6', a7', a8', a9', a10', a11', a12, a13, a14] (lpS D s')) ∧ LI (stE U C) (enE R C) C n T0 s' := by
  have hn := F.small
  have key := whileN_gen (c := tsTru (eVar 4)) (b := B3_loops_of)
    (fun m ε μ => ∃ s' a5' a6' a7' a8' a9' a10' a11', ε = [some (.dat (flo R U)), a1, some (.ptr 1), some (.ptr 4), some (.ptr 5), a5', a6', a7', a8', a9', a10', a11', a12, a13, a14] ∧ μ = lpS D s' ∧ LI (stE U C) (enE R C) C n T0 s' ∧ 2 * (n + 1 - s'.kn.length) + s'.q.length ≤ m)
    (fun o => ∃ s' a5' a6' a7' a8' a9' a10' a11', o = .nx [some (.dat (flo R U)), a1, some (.ptr 1), some (.ptr 4), some (.ptr 5), a5', a6', a7', a8', a9', a10', a11', a12, a13, a14] (lpS D s') ∧ LI (stE U C) (enE R C) C n T0 s')
    (fun m ε μ hI => by
      obtain ⟨⟨kn, T, q⟩, a5', a6', a7', a8', a9', a10', a11', rfl, rfl, i', hm'⟩ := hI
      cases q with
      | nil =>
        exact ⟨false, lpS D ⟨kn, T, []⟩, by simp [oL_nil], (fun _ => ⟨_, a5', a6', a7', a8', a9', a10', a11', rfl, i'⟩), (fun z => by cases z)⟩
      | cons x r =>
        have hx := i'.qs x List.mem_cons_self
        have ql := i'.ql
        have ir : LI (stE U C) (enE R C) C n T0 ⟨kn, T, r⟩ := ⟨i'.ex, i'.ndk, i'.knC, i'.ndT, i'.lt, fun y hy => i'.qs y (List.mem_cons_of_mem _ hy), by simp only [List.length_cons] at ql ⊢; omega⟩
        have ex : oL (x :: r) = PV.dat (.int (x : Int)) :: oL r := rfl
        simp only [List.length_cons] at hm'
        refine ⟨true, lpS D ⟨kn, T, x :: r⟩, by simp [ex], (fun z => by cases z), fun _ => ?_⟩
        obtain ⟨m', rfl⟩ : ∃ m', m = m' + 1 := ⟨m - 1, by omega⟩
        obtain ⟨s', b6, b7, b8, b9, b10, b11, e, i2, u, hu, hq⟩ := L2_loops_of_eq (D := D) F hC hs ir hx a1 a6' a7' a8' a9' a10' a11' a12 a13 a14
        have pop : eLM fPopAt (eVar 4) (aCons (eC (.int 0)) aNil) [some (.dat (flo R U)), a1, some (.ptr 1), some (.ptr 4), some (.ptr 5), a5', a6', a7', a8', a9', a10', a11', a12, a13, a14] (lpS D ⟨kn, T, x :: r⟩) = some (.dat (.int (x : Int)), lpS D ⟨kn, T, r⟩) := by
          have e2 : seqIndex? 0 (r.length + 1) = some 0 := by
            unfold seqIndex?
            simp
          simp only [lpS]
          rw [ex]
          simp [e2]
        have k2 := i2.kl
        refine ⟨m', rfl, .nx [some (.dat (flo R U)), a1, some (.ptr 1), some (.ptr 4), some (.ptr 5), some (.dat (.int (x : Int))), b6, b7, b8, b9, b10, b11, a12, a13, a14] (lpS D s'), ?_, ⟨s', _, b6, b7, b8, b9, b10, b11, rfl, rfl, i2, ?_⟩⟩
        · unfold B3_loops_of
          refine (seq_nx (ε' := [some (.dat (flo R U)), a1, some (.ptr 1), some (.ptr 4), some (.ptr 5), some (.dat (.int (x : Int))), a6', a7', a8', a9', a10', a11', a12, a13, a14]) (μ' := lpS D ⟨kn, T, r⟩) ?_).trans e
          unfold sSet; rw [pop]; rfl
        · rw [hu, hC] at k2
          rw [hu, hq]
          simp only [List.length_append] at k2 ⊢
          omega) 2000 (2 * (n + 1 - s.kn.length) + s.q.length)
    [some (.dat (flo R U)), a1, some (.ptr 1), some (.ptr 4), some (.ptr 5), a5, a6, a7, a8, a9, a10, a11, a12, a13, a14] (lpS D s) (by omega) ⟨s, a5, a6, a7, a8, a9, a10, a11, rfl, rfl, i, Nat.le_refl _⟩
  obtain ⟨o, h1, s', a5', a6', a7', a8', a9', a10', a11', rfl, h2⟩ := key
  exact ⟨s', a5', a6', a7', a8', a9', a10', a11', h1, h2⟩
end
end CM
namespace CM
open PySem L2 VX
theorem ok_right : PyData.strOk "right" = true := by
  rw [show ("right" : Str) = ⟨#[114, 105, 103, 104, 116]⟩ by decide]
  simp [PyData.strOk]
theorem ok_up : PyData.strOk "up" = true := by
  rw [show ("up" : Str) = ⟨#[117, 112]⟩ by decide]
  simp [PyData.strOk]
theorem ts_kd {b : Bool} {e : EvF} {ε : Evn} {μ : Sto} (h : e ε μ = some (.dat (.str (kdS b)), μ)) : tsE (eOp (fEq false) e (eC (.str "right"))) ε μ = some (b, μ) := by
  have s1 := shaped_str ok_right
  have s2 := shaped_str ok_up
  cases b
  · have k : kdS false = "up" := rfl
    have d : (("up" : Str) == "right") = false := by decide
    rw [k] at h
    simp [h, s1, s2, PyData.eqv, d]
  · have k : kdS true = "right" := rfl
    rw [k] at h
    simp [h, s1, PyData.eqv]
def wD (D : List (Nat × Str)) (k : Nat) : Str := (vD D k).getD ""
def lw (R U : List Nat) (D : List (Nat × Str)) (e : Ed) : Str := wD D e.2 ++ (if e.1 then ("r" : Str) else "u") ++ bkS (wD D (tgE R U e))
def lpM (D : List (Nat × Str)) (s : CS) (ws : List Str) (k : Nat) : Sto := (lpS D s ++ [.lst (oS ws)]) ++ List.replicate k (.dic bkDic)
theorem lpM0 (D : List (Nat × Str)) (s : CS) (ws : List Str) (k : Nat) : (lpM D s ws k)[0]? = some (.dic (dK D)) := rfl
theorem lpM1 (D : List (Nat × Str)) (s : CS) (ws : List Str) (k : Nat) : (lpM D s ws k)[1]? = some (.dtu (dT s.T)) := rfl
theorem lpM6 (D : List (Nat × Str)) (s : CS) (ws : List Str) (k : Nat) : (lpM D s ws k)[6]? = some (.lst (oS ws)) := rfl
theorem lpMset (D : List (Nat × Str)) (s : CS) (ws vs : List Str) (k : Nat) : (lpM D s ws k).set 6 (.lst (oS vs)) = lpM D s vs k := rfl
theorem lpMgrow (D : List (Nat × Str)) (s : CS) (ws : List Str) (k j : Nat) : lpM D s ws k ++ List.replicate j (.dic bkDic) = lpM D s ws (k + j) := by
  unfold lpM
  rw [List.append_assoc, List.replicate_append_replicate]
theorem C1_loops_of_eq {D : List (Nat × Str)} {s : CS} {ws : List Str} {k x : Nat} {w : Str} (hw : vD D x = some w) (g : GW (sgs w)) (hl : w.length ≤ 100) (a0 a2 a3 a4 a5 a6 a7 a8 a9 a10 a12 a13 a14 : Option PV) :
    C1_loops_of [a0, some (.ptr 0), a2, a3, a4, a5, a6, a7, a8, a9, a10, some (.dat (.int (x : Int))), a12, a13, a14] (lpM D s ws k) = some (.dat (.list (iS (bk (sgs w)))), lpM D s ws (k + w.length)) := by
  have v0 : valP (dK D) (.inl (x : Int)) = some (.dat (.str w)) := by rw [valP_dK, hw]; rfl
  have hr : ∀ c ∈ (sgs w).reverse, S4 c := fun c hc => g c (List.mem_reverse.mp hc)
  have e := lcD_grow (tg := tgN 14) (te := eDGet eBk (eVar 14)) (w := [a0, some (.ptr 0), a2, a3, a4, a5, a6, a7, a8, a9, a10, some (.dat (.int (x : Int))), a12, a13, none]) (X := .dic bkDic) bkP (oS (sgs w).reverse) (lpM D s ws k) (fun p hp j => by
    obtain ⟨c, hc, rfl⟩ := List.mem_map.mp hp
    exact ⟨_, rfl, te_bk (hr c hc) fun μ' => rfl⟩) 0
  rw [map_bk1] at e
  simp only [List.replicate_zero, List.append_nil, Nat.zero_add, oS_len, List.length_reverse, sgs_len, lpMgrow] at e
  have sr : srcSeq (eRevS (eDGet (eVar 1) (eVar 11))) [a0, some (.ptr 0), a2, a3, a4, a5, a6, a7, a8, a9, a10, some (.dat (.int (x : Int))), a12, a13, a14] (lpM D s ws k) = some ((oS (sgs w).reverse, none), lpM D s ws k) := by
    have c : w.length ≤ 1000000 := by omega
    have m := lpM0 D s ws k
    have r := map_oS (⟨w.cps.toList.reverse.toArray⟩ : Str)
    rw [revS] at r
    generalize lpM D s ws k = M at *
    rw [← r]
    simp [m, v0, cap, c]
    rw [revS]
    simp [oS, List.map_reverse]
  unfold C1_loops_of eLc
  rw [sr]
  simp only [Option.bind_some, okG_none, wipeE, List.set_cons_succ, List.set_cons_zero]
  have e' := e
  unfold eBk at e'
  rw [e']
  have c2 : (bk (sgs w)).length ≤ 1000000 := by simp [bk]; omega
  have eb : (List.map bk1 (sgs w).reverse) = bk (sgs w) := rfl
  rw [eb]
  simp [cap, c2, asDats_oS]
theorem B4_loops_of_eq {R U : List Nat} {n : Nat} {D : List (Nat × Str)} {T0 : List Ed} {s : CS} {ws : List Str} {k : Nat} {e : Ed} (F : Flo R U n) (h : TI R U n ⟨D, T0, []⟩) (ha : ∀ x, x < n → x ∈ D.map Prod.fst) (he : e.2 < n) (hws : ws.length ≤ 500) (a3 a4 a5 a8 a9 a10 a11 a13 a14 : Option PV) :
    ∃ k' a11' a13', B4_loops_of [some (.dat (flo R U)), some (.ptr 0), some (.ptr 1), a3, a4, a5, some (.dat (.str (kdS e.1))), some (.dat (.int (e.2 : Int))), a8, a9, a10, a11, some (.ptr 6), a13, a14] (lpM D s ws k) =
      some (.nx [some (.dat (flo R U)), some (.ptr 0), some (.ptr 1), a3, a4, a5, some (.dat (.str (kdS e.1))), some (.dat (.int (e.2 : Int))), a8, a9, a10, a11', some (.ptr 6), a13', a14] (lpM D s (if e ∈ s.T then ws else ws ++ [lw R U D e]) k')) := by
  have hn := F.small
  have t3 := nin_T (e := e) (ei := eTup (aCons (eVar 6) (aCons (eVar 7) (aNil)))) (eo := eVar 2) (k := 1) (T := s.T) (ε := [some (.dat (flo R U)), some (.ptr 0), some (.ptr 1), a3, a4, a5, some (.dat (.str (kdS e.1))), some (.dat (.int (e.2 : Int))), a8, a9, a10, a11, some (.ptr 6), a13, a14]) (μ := lpM D s ws k) (tup_e rfl rfl) rfl (lpM1 D s ws k)
  unfold B4_loops_of
  by_cases q : e ∈ s.T
  · rw [if_pos q]
    exact ⟨k, a11, a13, if_f (t3.trans (by rw [decide_eq_true q]; rfl)) rfl⟩
  · rw [if_neg q]
    have hy : tgE R U e < n := by
      unfold tgE
      split
      · exact F.nb_lt _ he _ (by simp [nbs4])
      · exact F.nb_lt _ he _ (by simp [nbs4])
    obtain ⟨w, hw⟩ := vD_some (ha _ he)
    obtain ⟨v, hv⟩ := vD_some (ha _ hy)
    obtain ⟨g1, g2, g3⟩ := h.good _ _ hw
    obtain ⟨k1, k2, k3⟩ := h.good _ _ hv
    have dl := h.dl
    have wl := h.len _ _ hw
    have vl := h.len _ _ hv
    simp only at dl wl vl
    have el : lw R U D e = w ++ (if e.1 then ("r" : Str) else "u") ++ bkS v := by unfold lw wD; rw [hw, hv]; rfl
    refine ⟨k + v.length, some (.dat (.int ((tgE R U e : Nat) : Int))), some (.dat (.str (bkS v))), if_t (t3.trans (by rw [decide_eq_false q]; rfl)) ?_⟩
    have tk := ts_kd (b := e.1) (e := eVar 6) (ε := [some (.dat (flo R U)), some (.ptr 0), some (.ptr 1), a3, a4, a5, some (.dat (.str (kdS e.1))), some (.dat (.int (e.2 : Int))), a8, a9, a10, a11, some (.ptr 6), a13, a14]) (μ := lpM D s ws k) rfl
    have there : eIf (tsE (eOp (fEq false) (eVar 6) (eC (.str "right")))) (eOp fIx (eOp fIx (eVar 0) (eC (.int 1))) (eVar 7)) (eOp fIx (eOp fIx (eVar 0) (eC (.int 2))) (eVar 7)) [some (.dat (flo R U)), some (.ptr 0), some (.ptr 1), a3, a4, a5, some (.dat (.str (kdS e.1))), some (.dat (.int (e.2 : Int))), a8, a9, a10, a11, some (.ptr 6), a13, a14] (lpM D s ws k) = some (.dat (.int ((tgE R U e : Nat) : Int)), lpM D s ws k) := by
      have r1 := at_oL (ns := R) (j := e.2) (by rw [F.lR]; exact he)
      have r2 := at_oL (ns := U) (j := e.2) (by rw [F.lU]; exact he)
      unfold eIf
      rw [tk]
      unfold tgE
      cases hb : e.1 <;> simp [r1, r2]
    refine (seq_nx (ε' := [some (.dat (flo R U)), some (.ptr 0), some (.ptr 1), a3, a4, a5, some (.dat (.str (kdS e.1))), some (.dat (.int (e.2 : Int))), a8, a9, a10, some (.dat (.int ((tgE R U e : Nat) : Int))), some (.ptr 6), a13, a14]) (μ' := lpM D s ws k) (by unfold sSet; rw [there]; rfl)).trans ?_
    have cc := C1_loops_of_eq (s := s) (ws := ws) (k := k) hv k1 (by omega) (some (.dat (flo R U))) (some (.ptr 1)) a3 a4 a5 (some (.dat (.str (kdS e.1)))) (some (.dat (.int (e.2 : Int)))) a8 a9 a10 (some (.ptr 6)) a13 a14
    have jn : eJoin (eC (.str "")) C1_loops_of [some (.dat (flo R U)), some (.ptr 0), some (.ptr 1), a3, a4, a5, some (.dat (.str (kdS e.1))), some (.dat (.int (e.2 : Int))), a8, a9, a10, some (.dat (.int ((tgE R U e : Nat) : Int))), some (.ptr 6), a13, a14] (lpM D s ws k) = some (.dat (.str (bkS v)), lpM D s ws (k + v.length)) := by
      have sl : sumLen "" (bk (sgs v)) ≤ 1000000 := by rw [sumLen0 (bk_gw k1)]; simp [bk]; omega
      unfold eJoin
      simp only [eC, Option.bind_some]
      rw [cc]
      simp [map_iS, cap, sl, bkS]
    refine (seq_nx (ε' := [some (.dat (flo R U)), some (.ptr 0), some (.ptr 1), a3, a4, a5, some (.dat (.str (kdS e.1))), some (.dat (.int (e.2 : Int))), a8, a9, a10, some (.dat (.int ((tgE R U e : Nat) : Int))), some (.ptr 6), some (.dat (.str (bkS v))), a14]) (μ' := lpM D s ws (k + v.length)) (by unfold sSet; rw [jn]; rfl)).trans ?_
    have v0 : valP (dK D) (.inl (e.2 : Int)) = some (.dat (.str w)) := by rw [valP_dK, hw]; rfl
    have tk2 := ts_kd (b := e.1) (e := eVar 6) (ε := [some (.dat (flo R U)), some (.ptr 0), some (.ptr 1), a3, a4, a5, some (.dat (.str (kdS e.1))), some (.dat (.int (e.2 : Int))), a8, a9, a10, some (.dat (.int ((tgE R U e : Nat) : Int))), some (.ptr 6), some (.dat (.str (bkS v))), a14]) (μ := lpM D s ws (k + v.length)) rfl
    have m0 := lpM0 D s ws (k + v.length)
    have m6 := lpM6 D s ws (k + v.length)
    have ms := lpMset D s ws (ws ++ [lw R U D e]) (k + v.length)
    have lb := bkS_len k1
    have c1 : w.length + 1 ≤ 1000000 := by omega
    have c2 : w.length + 1 + v.length ≤ 1000000 := by omega
    have c3 : ws.length < 1000000 := by omega
    have lr : ("r" : Str).length = 1 := rfl
    have lu : ("u" : Str).length = 1 := rfl
    have c2r : (w ++ ("r" : Str)).length + v.length ≤ 1000000 := by rw [len_app, lr]; omega
    have c2u : (w ++ ("u" : Str)).length + v.length ≤ 1000000 := by rw [len_app, lu]; omega
    have os : oS ws ++ [PV.dat (.str (lw R U D e))] = oS (ws ++ [lw R U D e]) := by simp [oS]
    rw [el] at os ms ⊢
    cases hb : e.1 with
    | true =>
      rw [hb] at tk2 os ms
      simp only [if_true] at os ms ⊢
      generalize lpM D s ws (k + v.length) = M at *
      simp [-tsE, tk2, m0, m6, v0, cap, c1, c2r, c3, lr, lb, os, ms]
    | false =>
      rw [hb] at tk2 os ms
      simp only [Bool.false_eq_true, if_false] at os ms ⊢
      generalize lpM D s ws (k + v.length) = M at *
      simp [-tsE, tk2, m0, m6, v0, cap, c1, c2u, c3, lu, lb, os, ms]
end CM
namespace CM
open PySem L2 VX
def wsT (R U : List Nat) (D : List (Nat × Str)) (T : List Ed) (es : List Ed) : List Str := (es.filter fun e => !decide (e ∈ T)).map (lw R U D)
theorem wsT_snoc {R U : List Nat} {D : List (Nat × Str)} {T es : List Ed} {e : Ed} : wsT R U D T (es ++ [e]) = if e ∈ T then wsT R U D T es else wsT R U D T es ++ [lw R U D e] := by
  unfold wsT
  rw [List.filter_append, List.map_append]
  by_cases q : e ∈ T
  · simp [q]
  · simp [q]
theorem wsT_len {R U : List Nat} {D : List (Nat × Str)} {T es : List Ed} : (wsT R U D T es).length ≤ es.length := by
  unfold wsT; rw [List.length_map]; exact List.length_filter_le _ _
theorem F_loops_of_eq {R U C : List Nat} {n : Nat} (F : Flo R U n) (hn0 : 0 < n) (H : Hang R U n) (hC : C.length = n) (hs : F_sides_of [flo R U] = some (.list ((sdL n).map (sdD R U C)))) :
    ∃ D T0 s, F_loops_of [flo R U] = some (.list (iS (wsT R U D s.T (sdL n)))) ∧ TI R U n ⟨D, T0, []⟩ ∧ (∀ x, x < n → x ∈ D.map Prod.fst) ∧ LI (stE U C) (enE R C) C n T0 s := by
  have hn := F.small
  obtain ⟨D, T0, e1, h, ha⟩ := F_tree_words_eq F hn0 H
  have tlt : ∀ e ∈ T0, e.2 < n := fun e he => h.lt _ (h.tr e he).1
  have i0 : LI (stE U C) (enE R C) C n T0 ⟨[0], T0, [0]⟩ := ⟨⟨[], by simp, .nil⟩, by simp, fun x hx => by simp at hx; subst hx; simp, h.ndt, tlt, fun x hx => hx, Nat.le_refl _⟩
  obtain ⟨s, b5, b6, b7, b8, b9, b10, b11, e2, i⟩ := L3_loops_of_eq (D := D) F hC hs i0 (by simp; omega) (some (.ptr 0)) none none none none none none none none none none
  have key := forD_all (G := fun _ => true) (tg := tgT 4 (tgsCons (tgN 6) (tgsCons (tgN 7) (tgsCons (tgN 8) (tgsCons (tgN 9) tgsNil))))) (b := B4_loops_of)
    (fun j ε μ => ∃ k a6 a7 a8 a9 a11 a13, ε = [some (.dat (flo R U)), some (.ptr 0), some (.ptr 1), some (.ptr 4), some (.ptr 5), b5, a6, a7, a8, a9, b10, a11, some (.ptr 6), a13, none] ∧ μ = lpM D s (wsT R U D s.T ((sdL n).take j)) k)
    (((sdL n).map (sdD R U C)).map PV.dat) (fun _ _ _ _ => rfl) (fun j p ε μ hp hI => by
      obtain ⟨k, a6, a7, a8, a9, a11, a13, rfl, rfl⟩ := hI
      obtain ⟨hj, rfl⟩ := get_sd hp
      have he : (sdL n)[j].2 < n := mem_sdL.mp (List.getElem_mem hj)
      have wl := wsT_len (R := R) (U := U) (D := D) (T := s.T) (es := (sdL n).take j)
      have l2 := sdL_len n
      rw [List.length_take] at wl
      obtain ⟨k', c11, c13, e3⟩ := B4_loops_of_eq (s := s) (k := k) F h ha he (ws := wsT R U D s.T ((sdL n).take j)) (by omega) (some (.ptr 4)) (some (.ptr 5)) b5 (some (.dat (.int ((stE U C (sdL n)[j] : Nat) : Int)))) (some (.dat (.int ((enE R C (sdL n)[j] : Nat) : Int)))) b10 a11 a13 none
      rw [← wsT_snoc, ← take_snoc hj] at e3
      exact ⟨_, _, _, _, by simp [sdD], e3, k', _, _, _, _, c11, c13, rfl, rfl⟩)
    (ε := [some (.dat (flo R U)), some (.ptr 0), some (.ptr 1), some (.ptr 4), some (.ptr 5), b5, b6, b7, b8, b9, b10, b11, some (.ptr 6), none, none]) (μ := lpM D s [] 0) ⟨0, b6, b7, b8, b9, b11, none, rfl, rfl⟩
  obtain ⟨ε', μ', h1, k, a6, a7, a8, a9, a11, a13, rfl, rfl⟩ := key
  have el : (sdL n).take (((sdL n).map (sdD R U C)).map PV.dat).length = sdL n := by rw [List.take_of_length_le]; simp
  rw [el] at h1
  refine ⟨D, T0, s, ?_, h, ha, i⟩
  have L4 : L4_loops_of [some (.dat (flo R U)), some (.ptr 0), some (.ptr 1), some (.ptr 4), some (.ptr 5), b5, b6, b7, b8, b9, b10, b11, some (.ptr 6), none, none] (lpM D s [] 0) = some (.nx [some (.dat (flo R U)), some (.ptr 0), some (.ptr 1), some (.ptr 4), some (.ptr 5), b5, a6, a7, a8, a9, b10, a11, some (.ptr 6), a13, none] (lpM D s (wsT R U D s.T (sdL n)) k)) := by
    unfold L4_loops_of sFor
    have e0 : srcSeq (eCallP 1 F_sides_of (aCons (eVar 0) (aNil))) [some (.dat (flo R U)), some (.ptr 0), some (.ptr 1), some (.ptr 4), some (.ptr 5), b5, b6, b7, b8, b9, b10, b11, some (.ptr 6), none, none] (lpM D s [] 0) = some ((((sdL n).map (sdD R U C)).map PV.dat, none), lpM D s [] 0) := by
      simp [asDats, hs]
    rw [e0]
    simp only [Option.bind_some, okG_none, h1]
  unfold F_loops_of
  refine fnP_rt (μ := (lpM D s (wsT R U D s.T (sdL n)) k).set 6 .gone) rfl ?_
  unfold r_loops_of
  have x1 : sAsg (eCallG 1 F_tree_words (aCons (eVar 0) (aNil))) (tgT 2 (tgsCons (tgN 1) (tgsCons (tgN 2) (tgsNil)))) (startE 15 ([flo R U].map PV.dat)) [] = some (.nx [some (.dat (flo R U)), some (.ptr 0), some (.ptr 1), none, none, none, none, none, none, none, none, none, none, none, none] [.dic (dK D), .dtu (dT T0), .lst [], .tpl [.ptr 0, .ptr 1]]) := by
    simp [e1, startE]
  refine (seq_nx x1).trans ?_
  refine (seq_nx (ε' := [some (.dat (flo R U)), some (.ptr 0), some (.ptr 1), some (.ptr 4), none, none, none, none, none, none, none, none, none, none, none]) (μ' := [.dic (dK D), .dtu (dT T0), .lst [], .tpl [.ptr 0, .ptr 1], .lst (oL [0])]) (by simp [cap]; rfl)).trans ?_
  refine (seq_nx (ε' := [some (.dat (flo R U)), some (.ptr 0), some (.ptr 1), some (.ptr 4), some (.ptr 5), none, none, none, none, none, none, none, none, none, none]) (μ' := lpS D ⟨[0], T0, [0]⟩) (by simp [cap]; rfl)).trans ?_
  refine (seq_nx e2).trans ?_
  refine (seq_nx (ε' := [some (.dat (flo R U)), some (.ptr 0), some (.ptr 1), some (.ptr 4), some (.ptr 5), b5, b6, b7, b8, b9, b10, b11, some (.ptr 6), none, none]) (μ' := lpM D s [] 0) (by simp [cap]; rfl)).trans ?_
  refine (seq_nx L4).trans ?_
  have m6 := lpM6 D s (wsT R U D s.T (sdL n)) k
  generalize lpM D s (wsT R U D s.T (sdL n)) k = M at *
  simp [m6, asDats_oS]
/-- what is known of the loops -/
structure Lps (R U : List Nat) (n : Nat) (ws : List Str) : Prop where
  ok : ∀ w ∈ ws, GW (sgs w) ∧ ends R U (sgs w) 0 = 0 ∧ w.length ≤ 200
  words : ∀ x, x < n → ∃ w, GW w ∧ ends R U w 0 = x
  len : ws.length ≤ 200
  even : ∀ v : List Str, GW v → ends R U v 0 = 0 → (∀ w ∈ ws, sm (fun e => (edL R U v 0).count e) (edW R U (sgs w) 0) % 2 = 0) → ∃ g : Nat → Nat, g 0 = 0 ∧ ∀ e : Ed, e.2 < n → ((edL R U v 0).count e + (g e.2 + g (tgE R U e))) % 2 = 0
theorem tg_lt {R U : List Nat} {n : Nat} (F : Flo R U n) {e : Ed} (he : e.2 < n) : tgE R U e < n := by
  unfold tgE
  split
  · exact F.nb_lt _ he _ (by simp [nbs4])
  · exact F.nb_lt _ he _ (by simp [nbs4])
theorem lps_of {R U C : List Nat} {n : Nat} (F : Flo R U n) (hn0 : 0 < n) (hn40 : n ≤ 40) (Q : Cor R U C n) {D : List (Nat × Str)} {T0 : List Ed} {s : CS} (h : TI R U n ⟨D, T0, []⟩) (ha : ∀ x, x < n → x ∈ D.map Prod.fst) (i : LI (stE U C) (enE R C) C n T0 s) : Lps R U n (wsT R U D s.T (sdL n)) := by
  have dl := h.dl
  simp only at dl
  have key : ∀ e : Ed, e.2 < n → ∃ w v : Str, vD D e.2 = some w ∧ vD D (tgE R U e) = some v ∧ GW (sgs w) ∧ GW (sgs v) ∧ ends R U (sgs w) 0 = e.2 ∧ ends R U (sgs v) 0 = tgE R U e ∧ w.length + 1 ≤ n ∧ v.length + 1 ≤ n ∧ sgs (lw R U D e) = sgs w ++ [if e.1 then ("r" : Str) else "u"] ++ bk (sgs v) := by
    intro e he
    obtain ⟨w, hw⟩ := vD_some (ha _ he)
    obtain ⟨v, hv⟩ := vD_some (ha _ (tg_lt F he))
    obtain ⟨g1, g2, g3⟩ := h.good _ _ hw
    obtain ⟨k1, k2, k3⟩ := h.good _ _ hv
    have wl := h.len _ _ hw
    have vl := h.len _ _ hv
    simp only at wl vl
    refine ⟨w, v, hw, hv, g1, k1, g2, k2, by omega, by omega, ?_⟩
    unfold lw wD
    rw [hw, hv]
    show sgs (w ++ (if e.1 then ("r" : Str) else "u") ++ bkS v) = _
    rw [sgs_app, sgs_app, sgs_bkS k1]
    cases e.1
    · simp only [Bool.false_eq_true, if_false, sgs_u]
    · simp only [if_true, sgs_r]
  have s4 : ∀ e : Ed, S4 (if e.1 then ("r" : Str) else "u") := fun e => by
    cases e.1
    · exact .inr (.inr (.inl rfl))
    · exact .inl rfl
  have st : ∀ e : Ed, stp R U (if e.1 then ("r" : Str) else "u") e.2 = tgE R U e ∧ eW R U (if e.1 then ("r" : Str) else "u") e.2 = e := fun e => by
    obtain ⟨b, x⟩ := e
    cases b
    · exact ⟨stp_u, eW_u⟩
    · exact ⟨stp_r, eW_r⟩
  refine ⟨fun w hw => ?_, fun x hx => ?_, ?_, fun v gv ev hev => ?_⟩
  · unfold wsT at hw
    obtain ⟨e, he, rfl⟩ := List.mem_map.mp hw
    have he := mem_sdL.mp (List.mem_filter.mp he).1
    obtain ⟨w, v, hw, hv, g1, k1, g2, k2, l1, l2, es⟩ := key e he
    refine ⟨?_, ?_, ?_⟩
    · rw [es]
      exact (g1.app fun c hc => by simp only [List.mem_singleton] at hc; subst hc; exact s4 e).app (bk_gw k1)
    · rw [es, ends_app, ends_app, g2]
      show ends R U (bk (sgs v)) (stp R U _ e.2) = 0
      rw [(st e).1, ← k2]
      exact ends_bk F k1 hn0
    · rw [← sgs_len, es]
      simp [bk]
      omega
  · obtain ⟨w, hw⟩ := vD_some (ha x hx)
    exact ⟨sgs w, (h.good x w hw).1, (h.good x w hw).2.1⟩
  · have := wsT_len (R := R) (U := U) (D := D) (T := s.T) (es := sdL n)
    rw [sdL_len] at this
    omega
  · obtain ⟨K, eK, cK⟩ := i.ex
    refine ⟨gD R U (fun e => (edL R U v 0).count e) D, ?_, ?_⟩
    · unfold gD
      rw [h.z0]
      show sm _ (edW R U (sgs "") 0) = 0
      rw [sgs_nil]; rfl
    · refine all_even F Q gv hn0 ev cK (fun e he => i.lt e (by rw [eK]; exact List.mem_append_right _ he)) fun e he hnK => ?_
      by_cases hT : e ∈ T0
      · exact (h.tr e hT).2.2 (fun e => (edL R U v 0).count e)
      · have hs : e ∉ s.T := by rw [eK]; simp [hT, hnK]
        obtain ⟨w, u, hw, hu, g1, k1, g2, k2, l1, l2, es⟩ := key e he
        have hm := hev (lw R U D e) (by
          unfold wsT
          exact List.mem_map.mpr ⟨e, List.mem_filter.mpr ⟨mem_sdL.mpr he, by simp [hs]⟩, rfl⟩)
        have e1 : gD R U (fun e => (edL R U v 0).count e) D e.2 = sm (fun e => (edL R U v 0).count e) (edW R U (sgs w) 0) := by unfold gD; rw [hw]; rfl
        have e2 : gD R U (fun e => (edL R U v 0).count e) D (tgE R U e) = sm (fun e => (edL R U v 0).count e) (edW R U (sgs u) 0) := by unfold gD; rw [hu]; rfl
        have e3 := sm_bk (f := fun e => (edL R U v 0).count e) F k1 hn0
        rw [k2] at e3
        rw [es, edW_app, edW_app, sm_app, sm_app, ends_app, g2] at hm
        have e4 : edW R U [if e.1 then ("r" : Str) else "u"] e.2 = [e] := by
          show [eW R U _ e.2] = _
          rw [(st e).2]
        have e5 : ends R U [if e.1 then ("r" : Str) else "u"] e.2 = tgE R U e := (st e).1
        rw [e4, e5, e3] at hm
        rw [e1, e2]
        have e6 : sm (fun e => (edL R U v 0).count e) [e] = (edL R U v 0).count e := by simp [sm]
        rw [e6] at hm
        omega
end CM
namespace CM
open PySem L2 VX
/-! ### laid_fault of the floor above -/
theorem ok_laid : PyData.strOk "laid" = true := by
  rw [show ("laid" : Str) = ⟨#[108, 97, 105, 100]⟩ by decide]
  simp [PyData.strOk]
def modL (n : Nat) : List Nat := (List.range (2 * n)).map (· % n)
theorem modL_len {n : Nat} : (modL n).length = 2 * n := by simp [modL]
theorem modL_at {n a : Nat} (h : a < 2 * n) : g0 (modL n) a = a % n := by rw [g0_of (by rw [modL_len]; exact h)]; simp [modL]
abbrev oB (bs : List Bool) : List PV := bs.map fun b => PV.dat (.bool b)
theorem asDats_oB (bs : List Bool) : asDats (oB bs) = some (bs.map .bool) := by
  have := asDats_map (bs.map PyData.bool)
  simpa [oB, List.map_map, Function.comp_def] using this
theorem all_laid {R U : List Nat} {n : Nat} {one tl : PyData} (hn : n ≤ 60) (h0 : 0 < n) (hR : R.length = n) (a5 a6 a7 a8 : Option PV) (a4 : Option PV) :
    tsTru (eCa fAll (aCons C1_laid_fault aNil)) [some (.dat one), some (.dat (flo R U)), some (.dat tl), some (.dat (.list (iL (modL n)))), a4, a5, a6, a7, a8] [] = some (true, []) := by
  have e := lcD_map (G := fun _ => true) (tg := tgN 4) (te := eCh fLe fLt (eC (.int 0)) (eVar 4) (eCa fLen (aCons (eOp fIx (eVar 1) (eC (.int 1))) (aNil)))) (w := [some (.dat one), some (.dat (flo R U)), some (.dat tl), some (.dat (.list (iL (modL n)))), none, a5, a6, a7, a8]) (μ := [])
    (fun _ => .dat (.bool true)) (oL (modL n)) (fun p hp => by
      obtain ⟨x, hx, rfl⟩ := List.mem_map.mp hp
      obtain ⟨a, _, rfl⟩ := List.mem_map.mp hx
      have q : a % n < n := Nat.mod_lt _ h0
      refine ⟨_, rfl, ?_⟩
      have c : n ≤ 1000000 := by omega
      generalize a % n = y at *
      have q1 : (y : Int) < (n : Int) := by omega
      have q2 : (0 : Int) ≤ (y : Int) := by omega
      simp [eCh, hR, cap, c, q, q1, q2]) rfl
  have e3 : (oL (modL n)).map (fun _ => PV.dat (.bool true)) = oB (List.replicate (2 * n) true) := by
    rw [List.map_const']
    simp [oB, modL_len]
  rw [e3] at e
  have c3 : 2 * n ≤ 1000000 := by omega
  have L : C1_laid_fault [some (.dat one), some (.dat (flo R U)), some (.dat tl), some (.dat (.list (iL (modL n)))), a4, a5, a6, a7, a8] [] = some (.dat (.list ((List.replicate (2 * n) true).map .bool)), []) := by
    unfold C1_laid_fault eLc
    have d := asDats_oB (List.replicate (2 * n) true)
    simp only [srcSeq, eVar, List.getElem?_cons_succ, List.getElem?_cons_zero, Option.bind_some, map_iL, okG_none, wipeE, List.set_cons_succ, List.set_cons_zero, e]
    unfold mkL
    simp only [Bool.false_eq_true, if_false, d]
    simp [cap, c3]
  have b := asBls_map (List.replicate (2 * n) true)
  have m : ((List.replicate (2 * n) true).map PyData.bool).map PV.dat = oB (List.replicate (2 * n) true) := by rw [List.map_map]; rfl
  unfold tsTru eCa aCons
  rw [L]
  simp only [aNil, Option.bind_some, fAll, lstOfS, lstOf, m]
  rw [b]
  simp
theorem F_laid_fault_eq {R U : List Nat} {n : Nat} {m : Ed → Nat} (F : Flo R U n) (h0 : 0 < n) (h60 : 2 * n ≤ 60) : F_laid_fault [flo (R2 R n m) (U2 U n m), flo R U, .tuple [.str "laid", .list (iL (modL n))]] = some .none := by
  have F2 := flo2 (m := m) F h60
  have s1 := shaped_str ok_laid
  have key := forD_all (G := fun _ => true) (tg := tgN 5) (b := B1_laid_fault)
    (fun i ε μ => ∃ a4 a5, ε = [some (.dat (flo (R2 R n m) (U2 U n m))), some (.dat (flo R U)), some (.dat (.tuple [.str "laid", .list (iL (modL n))])), some (.dat (.list (iL (modL n)))), a4, a5, none, none, none] ∧ μ = []) ((List.range (2 * n)).map fun i => PV.dat (.int (i : Nat))) (fun _ _ _ _ => rfl) (fun i p ε μ hp h => by
      obtain ⟨a4, a5, rfl, rfl⟩ := h
      have hi : i < 2 * n := by simpa using (List.getElem?_eq_some_iff.mp hp).1
      have ep : p = .dat (.int (i : Int)) := by simpa [hi] using hp.symm
      subst ep
      refine ⟨_, _, [some (.dat (flo (R2 R n m) (U2 U n m))), some (.dat (flo R U)), some (.dat (.tuple [.str "laid", .list (iL (modL n))])), some (.dat (.list (iL (modL n)))), a4, some (.dat (.int (i : Int))), none, none, none], [], rfl, ?_, _, _, rfl, rfl⟩
      obtain ⟨x, b, rfl, hx, hb⟩ := dm hi
      have k1 := at_oL (ns := modL n) (j := x + n * b) (by rw [modL_len]; exact hi)
      rw [modL_at hi, dm_mod hx] at k1
      have k2 := at_oL (ns := R) (j := x) (by rw [F.lR]; exact hx)
      have k3 := at_oL (ns := U) (j := x) (by rw [F.lU]; exact hx)
      have r1 := at_oL (ns := R2 R n m) (j := x + n * b) (by simpa using hi)
      have u1 := at_oL (ns := U2 U n m) (j := x + n * b) (by simpa using hi)
      have hr := F.nb_lt x hx (g0 R x) (by simp [nbs4])
      have hu := F.nb_lt x hx (g0 U x) (by simp [nbs4])
      have hr2 : g0 (R2 R n m) (x + n * b) < 2 * n := F2.nb_lt _ hi _ (by simp [nbs4])
      have hu2 : g0 (U2 U n m) (x + n * b) < 2 * n := F2.nb_lt _ hi _ (by simp [nbs4])
      have k4 := at_oL (ns := modL n) (j := g0 (R2 R n m) (x + n * b)) (by rw [modL_len]; exact hr2)
      have k5 := at_oL (ns := modL n) (j := g0 (U2 U n m) (x + n * b)) (by rw [modL_len]; exact hu2)
      rw [modL_at hr2, upR_at hx hb, dm_mod hr, ← upR_at (f := fun x => m (true, x)) hx hb] at k4
      rw [modL_at hu2, upR_at hx hb, dm_mod hu, ← upR_at (f := fun x => m (false, x)) hx hb] at k5
      generalize x + n * b = I at *
      generalize g0 (R2 R n m) I = J at *
      generalize g0 (U2 U n m) I = J' at *
      simp [B1_laid_fault, k1, k2, k3, r1, u1, k4, k5]) (ε := [some (.dat (flo (R2 R n m) (U2 U n m))), some (.dat (flo R U)), some (.dat (.tuple [.str "laid", .list (iL (modL n))])), some (.dat (.list (iL (modL n)))), none, none, none, none, none]) (μ := []) ⟨none, none, rfl, rfl⟩
  obtain ⟨ε', μ', h1, a4, a5, rfl, rfl⟩ := key
  have c : 2 * n ≤ 100000 := by omega
  have al := all_laid (R := R) (U := U) (one := flo (R2 R n m) (U2 U n m)) (tl := .tuple [.str "laid", .list (iL (modL n))]) (by omega) h0 F.lR none none none none none
  have L : L1_laid_fault [some (.dat (flo (R2 R n m) (U2 U n m))), some (.dat (flo R U)), some (.dat (.tuple [.str "laid", .list (iL (modL n))])), some (.dat (.list (iL (modL n)))), none, none, none, none, none] [] = some (.nx [some (.dat (flo (R2 R n m) (U2 U n m))), some (.dat (flo R U)), some (.dat (.tuple [.str "laid", .list (iL (modL n))])), some (.dat (.list (iL (modL n)))), a4, a5, none, none, none] []) := by
    unfold L1_laid_fault sFor
    have e0 : srcR1 (aCons (eCa fLen (aCons (eOp fIx (eVar 0) (eC (.int 1))) (aNil))) (aNil)) [some (.dat (flo (R2 R n m) (U2 U n m))), some (.dat (flo R U)), some (.dat (.tuple [.str "laid", .list (iL (modL n))])), some (.dat (.list (iL (modL n)))), none, none, none, none, none] [] = some (((List.range (2 * n)).map fun i => PV.dat (.int (i : Nat)), none), []) := by
      have q := inRg_nat c
      have l : (R2 R n m).length = 2 * n := upR_len
      simp only [srcR1, aCons, aNil, eCa, eOp, eVar, eC, List.getElem?_cons_succ, List.getElem?_cons_zero, Option.bind_some, fIx, seqOf, List.map_cons, List.map_nil, atI_o, Option.map_some, fLen, lstOfS, lstOf, map_iL, len_oL, l, q, if_true]
      have z : (2 * (n : Int)).toNat = 2 * n := by omega
      simp [z]
    rw [e0]
    simp only [Option.bind_some, okG_none, h1]
  have t1 : tsE (eOp (fEq false) (eOp fIx (eVar 2) (eC (.int 0))) (eC (.str "laid"))) [some (.dat (flo (R2 R n m) (U2 U n m))), some (.dat (flo R U)), some (.dat (.tuple [.str "laid", .list (iL (modL n))])), none, none, none, none, none, none] [] = some (true, []) := by
    simp [s1, PyData.eqv]
  have t2 : tsE (eOp (fEq true) (eCa fLen (aCons (eVar 3) (aNil))) (eCa fLen (aCons (eOp fIx (eVar 0) (eC (.int 1))) (aNil)))) [some (.dat (flo (R2 R n m) (U2 U n m))), some (.dat (flo R U)), some (.dat (.tuple [.str "laid", .list (iL (modL n))])), some (.dat (.list (iL (modL n)))), none, none, none, none, none] [] = some (false, []) := by
    simp [modL_len]
  unfold F_laid_fault
  refine fnP_rt (μ := []) rfl ?_
  unfold r_laid_fault
  refine seq_rt ?_
  refine if_t t1 ?_
  refine (seq_nx (ε' := [some (.dat (flo (R2 R n m) (U2 U n m))), some (.dat (flo R U)), some (.dat (.tuple [.str "laid", .list (iL (modL n))])), some (.dat (.list (iL (modL n)))), none, none, none, none, none]) (μ' := []) (by simp [startE])).trans ?_
  refine (seq_f ?_).trans ?_
  · unfold tsOr tsNot
    rw [t2]
    simp only [Option.bind_some, Bool.false_eq_true, if_false]
    rw [al]
    rfl
  · refine (seq_nx L).trans ?_
    rfl
end CM
namespace CM
open PySem L2 VX
/-! ### _law_lists over any store -/
def dicRB (b : Nat) (R U : List Nat) : List (Key × PV) := [(.inr "r", .dat (.list (iL R))), (.inr "u", .dat (.list (iL U))), (.inr "l", .ptr b), (.inr "d", .ptr (b + 1))]
theorem valPB_r (b : Nat) (R U : List Nat) : valP (dicRB b R U) (.inr "r") = some (.dat (.list (iL R))) := valP_hit
theorem valPB_u (b : Nat) (R U : List Nat) : valP (dicRB b R U) (.inr "u") = some (.dat (.list (iL U))) := by
  unfold dicRB
  rw [valP_miss (inr_ne (by decide)), valP_hit]
theorem valPB_l (b : Nat) (R U : List Nat) : valP (dicRB b R U) (.inr "l") = some (.ptr b) := by
  unfold dicRB
  rw [valP_miss (inr_ne (by decide)), valP_miss (inr_ne (by decide)), valP_hit]
theorem valPB_d (b : Nat) (R U : List Nat) : valP (dicRB b R U) (.inr "d") = some (.ptr (b + 1)) := by
  unfold dicRB
  rw [valP_miss (inr_ne (by decide)), valP_miss (inr_ne (by decide)), valP_miss (inr_ne (by decide)), valP_hit]
def lsB (μ : Sto) (R U iR iU : List Nat) : Sto := μ ++ [.lst (oL iR), .lst (oL iU), .dic (dicRB μ.length R U)]
theorem lsB0 (μ : Sto) (R U iR iU : List Nat) : (lsB μ R U iR iU)[μ.length]? = some (.lst (oL iR)) := by simp [lsB]
theorem lsB1 (μ : Sto) (R U iR iU : List Nat) : (lsB μ R U iR iU)[μ.length + 1]? = some (.lst (oL iU)) := by simp [lsB]
theorem lsB2 (μ : Sto) (R U iR iU : List Nat) : (lsB μ R U iR iU)[μ.length + 2]? = some (.dic (dicRB μ.length R U)) := by simp [lsB]
theorem lsBs0 (μ : Sto) (R U iR iU jR : List Nat) : (lsB μ R U iR iU).set μ.length (.lst (oL jR)) = lsB μ R U jR iU := by simp [lsB]
theorem lsBs1 (μ : Sto) (R U iR iU jU : List Nat) : (lsB μ R U iR iU).set (μ.length + 1) (.lst (oL jU)) = lsB μ R U iR jU := by simp [lsB]
theorem set_lB {μ : Sto} {R U iR iU : List Nat} {i j : Nat} (h : i < R.length) (b : Option PV) (hj : g0 R i < iR.length) : tgSub (eDGet (eVar 2) (eC (.str "l"))) (eOp fIx (eOp fIx (eVar 0) (eC (.int 1))) (eVar 3)) (.dat (.int (j : Int))) [some (.dat (flo R U)), b, some (.ptr (μ.length + 2)), some (.dat (.int (i : Int)))] (lsB μ R U iR iU) = some ([some (.dat (flo R U)), b, some (.ptr (μ.length + 2)), some (.dat (.int (i : Int)))], lsB μ R U (iR.set (g0 R i) j) iU) := by
  have g : eDGet (eVar 2) (eC (.str "l")) [some (.dat (flo R U)), b, some (.ptr (μ.length + 2)), some (.dat (.int (i : Int)))] (lsB μ R U iR iU) = some (.ptr μ.length, lsB μ R U iR iU) := by
    have m := lsB2 μ R U iR iU
    generalize lsB μ R U iR iU = M at *
    simp [-valP, m, valPB_l]
  have m0 := lsB0 μ R U iR iU
  have s0 := lsBs0 μ R U iR iU (iR.set (g0 R i) j)
  unfold tgSub
  rw [g]
  simp only [Option.bind_some]
  rw [get_R h]
  generalize lsB μ R U iR iU = M at *
  simp [m0, s0, ixN_natD hj]
theorem set_dB {μ : Sto} {R U iR iU : List Nat} {i j : Nat} (h : i < U.length) (b : Option PV) (hj : g0 U i < iU.length) : tgSub (eDGet (eVar 2) (eC (.str "d"))) (eOp fIx (eOp fIx (eVar 0) (eC (.int 2))) (eVar 3)) (.dat (.int (j : Int))) [some (.dat (flo R U)), b, some (.ptr (μ.length + 2)), some (.dat (.int (i : Int)))] (lsB μ R U iR iU) = some ([some (.dat (flo R U)), b, some (.ptr (μ.length + 2)), some (.dat (.int (i : Int)))], lsB μ R U iR (iU.set (g0 U i) j)) := by
  have g : eDGet (eVar 2) (eC (.str "d")) [some (.dat (flo R U)), b, some (.ptr (μ.length + 2)), some (.dat (.int (i : Int)))] (lsB μ R U iR iU) = some (.ptr (μ.length + 1), lsB μ R U iR iU) := by
    have m := lsB2 μ R U iR iU
    generalize lsB μ R U iR iU = M at *
    simp [-valP, m, valPB_d]
  have m0 := lsB1 μ R U iR iU
  have s0 := lsBs1 μ R U iR iU (iU.set (g0 U i) j)
  unfold tgSub
  rw [g]
  simp only [Option.bind_some]
  rw [get_U h]
  generalize lsB μ R U iR iU = M at *
  simp [m0, s0, ixN_natD hj]
theorem B1__law_lists_B {μ : Sto} {R U : List Nat} {n i : Nat} (F : Flo R U n) (hi : i < n) (b : Option PV) : B1__law_lists [some (.dat (flo R U)), b, some (.ptr (μ.length + 2)), some (.dat (.int (i : Int)))] (lsB μ R U (invTo R i) (invTo U i)) = some (.nx [some (.dat (flo R U)), b, some (.ptr (μ.length + 2)), some (.dat (.int (i : Int)))] (lsB μ R U (invTo R (i + 1)) (invTo U (i + 1)))) := by
  have hR : i < R.length := by rw [F.lR]; exact hi
  have hU : i < U.length := by rw [F.lU]; exact hi
  have e3 : ∀ μ' : Sto, eVar 3 [some (.dat (flo R U)), b, some (.ptr (μ.length + 2)), some (.dat (.int (i : Int)))] μ' = some (.dat (.int (i : Int)), μ') := fun _ => rfl
  unfold B1__law_lists sSeq sAsg
  rw [e3]
  simp only [Option.bind_some]
  rw [set_lB hR b (by rw [invTo_len]; exact F.oR.low i hR)]
  simp only [Option.bind_some]
  rw [e3]
  simp only [Option.bind_some]
  rw [set_dB hU b (by rw [invTo_len]; exact F.oU.low i hU)]
  simp only [Option.bind_some, invTo_succ]
theorem L1__law_lists_B {μ : Sto} {R U : List Nat} {n : Nat} (F : Flo R U n) (x : Option PV) :
    ∃ x', L1__law_lists [some (.dat (flo R U)), some (.dat (.int (n : Int))), some (.ptr (μ.length + 2)), x] (lsB μ R U (invTo R 0) (invTo U 0)) = some (.nx [some (.dat (flo R U)), some (.dat (.int (n : Int))), some (.ptr (μ.length + 2)), x'] (lsB μ R U (inv R) (inv U))) := by
  have hn := F.small
  have key := forD_all (G := fun _ => true) (tg := tgN 3) (b := B1__law_lists)
    (fun i ε M => ∃ x', ε = [some (.dat (flo R U)), some (.dat (.int (n : Int))), some (.ptr (μ.length + 2)), x'] ∧ M = lsB μ R U (invTo R i) (invTo U i)) ((List.range n).map fun i => PV.dat (.int (i : Nat))) (fun _ _ _ _ => rfl) (fun i p ε M hp h => by
      obtain ⟨x', rfl, rfl⟩ := h
      have hi : i < n := by simpa using (List.getElem?_eq_some_iff.mp hp).1
      have ep : p = .dat (.int (i : Int)) := by simpa [hi] using hp.symm
      subst ep
      exact ⟨_, _, [some (.dat (flo R U)), some (.dat (.int (n : Int))), some (.ptr (μ.length + 2)), some (.dat (.int (i : Int)))], lsB μ R U (invTo R (i + 1)) (invTo U (i + 1)), rfl, B1__law_lists_B F hi _, _, rfl, rfl⟩
      ) (ε := [some (.dat (flo R U)), some (.dat (.int (n : Int))), some (.ptr (μ.length + 2)), x]) (μ := lsB μ R U (invTo R 0) (invTo U 0)) ⟨x, rfl, rfl⟩
  obtain ⟨ε', μ', h1, x', rfl, rfl⟩ := key
  refine ⟨x', ?_⟩
  unfold L1__law_lists sFor
  simp only [List.length_map, List.length_range] at h1
  have c : n ≤ 100000 := by omega
  have e1 : inv R = invTo R n := by unfold inv; rw [F.lR]
  have e2 : inv U = invTo U n := by unfold inv; rw [F.lU]
  rw [e1, e2]
  simp [c, okG_none, h1]
theorem F__law_lists_B {R U : List Nat} {n : Nat} (μ : Sto) (F : Flo R U n) : F__law_lists [.dat (flo R U)] μ = some (.ptr (μ.length + 2), lsB μ R U (inv R) (inv U)) := by
  have hn := F.small
  obtain ⟨x', h⟩ := L1__law_lists_B (μ := μ) F none
  have e1 : oL (invTo R 0) = List.replicate n (PV.dat (.int 0)) := by rw [rep_oL, ← F.lR]; rfl
  have e2 : oL (invTo U 0) = List.replicate n (PV.dat (.int 0)) := by rw [rep_oL, ← F.lU]; rfl
  have e3 : lsB μ R U (invTo R 0) (invTo U 0) = μ ++ [.lst (List.replicate n (PV.dat (.int 0))), .lst (List.replicate n (PV.dat (.int 0))), .dic (dicRB μ.length R U)] := by unfold lsB; rw [e1, e2]
  rw [e3] at h
  unfold dicRB at h
  have c1 : n ≤ 1000000 := by omega
  have c2 : n ≤ 100000 := by omega
  simp [-valP, -putP, -mergeP, mergeR, F__law_lists, r__law_lists, F.lR, cap, asDats, c1, c2, h]
theorem atLB {R U : List Nat} {c : Str} {h n b : Nat} {eo es eh : EvF} {ε : Evn} {μ : Sto} (F : Flo R U n) (m0 : μ[b]? = some (.lst (oL (inv R)))) (m1 : μ[b + 1]? = some (.lst (oL (inv U)))) (m2 : μ[b + 2]? = some (.dic (dicRB b R U))) (hh : h < n) (hc : S4 c)
    (e1 : eo ε μ = some (.ptr (b + 2), μ)) (e2 : es ε μ = some (.dat (.str c), μ)) (e3 : eh ε μ = some (.dat (.int (h : Int)), μ)) :
    eOp fIx (eDGet eo es) eh ε μ = some (.dat (.int ((stp R U c h : Nat) : Int)), μ) := by
  have r1 := at_oL (ns := R) (j := h) (by rw [F.lR]; exact hh)
  have r2 := at_oL (ns := inv R) (j := h) (by rw [inv_len, F.lR]; exact hh)
  have r3 := at_oL (ns := U) (j := h) (by rw [F.lU]; exact hh)
  have r4 := at_oL (ns := inv U) (j := h) (by rw [inv_len, F.lU]; exact hh)
  rcases hc with rfl | rfl | rfl | rfl
  · simp [-valP, e1, e2, e3, m2, valPB_r, r1, stp_r]
  · simp [-valP, e1, e2, e3, m2, m0, valPB_l, r2, stp_l]
  · simp [-valP, e1, e2, e3, m2, valPB_u, r3, stp_u]
  · simp [-valP, e1, e2, e3, m2, m1, valPB_d, r4, stp_d]
end CM
namespace CM
open PySem L2 VX
/-! ### _law_words -/
def wB (μ : Sto) (R U : List Nat) (D : List (Nat × Str)) : Sto := lsB μ R U (inv R) (inv U) ++ [.dic (dK D)]
theorem lsB_len (μ : Sto) (R U iR iU : List Nat) : (lsB μ R U iR iU).length = μ.length + 3 := by simp [lsB]
theorem wB0 (μ : Sto) (R U : List Nat) (D : List (Nat × Str)) : (wB μ R U D)[μ.length]? = some (.lst (oL (inv R))) := by simp [wB, lsB]
theorem wB1 (μ : Sto) (R U : List Nat) (D : List (Nat × Str)) : (wB μ R U D)[μ.length + 1]? = some (.lst (oL (inv U))) := by simp [wB, lsB]
theorem wB2 (μ : Sto) (R U : List Nat) (D : List (Nat × Str)) : (wB μ R U D)[μ.length + 2]? = some (.dic (dicRB μ.length R U)) := by simp [wB, lsB]
theorem wB3 (μ : Sto) (R U : List Nat) (D : List (Nat × Str)) : (wB μ R U D)[μ.length + 3]? = some (.dic (dK D)) := by simp [wB, lsB]
theorem wBs (μ : Sto) (R U : List Nat) (D E : List (Nat × Str)) : (wB μ R U D).set (μ.length + 3) (.dic (dK E)) = wB μ R U E := by simp [wB, lsB]
def stV (R U : List Nat) (x : Nat) (w0 : Str) (D : List (Nat × Str)) (c : Str) : List (Nat × Str) := if vD D (stp R U c x) = none then D ++ [(stp R U c x, w0 ++ c)] else D
abbrev DI (R U : List Nat) (n : Nat) (D : List (Nat × Str)) : Prop := TI R U n ⟨D, [], []⟩
theorem DI.step {R U : List Nat} {n x : Nat} {w0 c : Str} {D : List (Nat × Str)} (F : Flo R U n) (h : DI R U n D) (hw : vD D x = some w0) (hc : S4 c) : DI R U n (stV R U x w0 D c) := by
  have i := TI.step F h hw hc
  have e : (stT R U x w0 ⟨D, [], []⟩ c).D = stV R U x w0 D c := by
    unfold stT stV
    split <;> rfl
  exact ⟨e ▸ i.nd, e ▸ i.z0, e ▸ i.good, e ▸ i.len, (fun x hx => by cases hx), List.nodup_nil, Nat.zero_le _, (fun e he => by cases he)⟩
theorem stV_w {R U : List Nat} {x k : Nat} {w0 c w : Str} {D : List (Nat × Str)} (h : vD D k = some w) : vD (stV R U x w0 D c) k = some w := by
  unfold stV; split
  · exact vD_app h
  · exact h
theorem stV_q {R U : List Nat} {x : Nat} {w0 c : Str} {D : List (Nat × Str)} : ∃ u, stV R U x w0 D c = D ++ u := by
  unfold stV; split
  · exact ⟨_, rfl⟩
  · exact ⟨[], by simp⟩
theorem stV_has {R U : List Nat} {x : Nat} {w0 c : Str} {D : List (Nat × Str)} : stp R U c x ∈ (stV R U x w0 D c).map Prod.fst := by
  unfold stV; split
  · simp
  · rename_i h
    exact Classical.byContradiction fun z => h (vD_none.mpr z)
theorem B1__law_words_eq {μ : Sto} {R U : List Nat} {n x : Nat} {D : List (Nat × Str)} {w0 c : Str} (F : Flo R U n) (h : DI R U n D) (hw : vD D x = some w0) (hc : S4 c) (a0 : Option PV) :
    B1__law_words [a0, some (.ptr (μ.length + 2)), some (.ptr (μ.length + 3)), some (.dat (.int (x : Int))), some (.dat (.str c))] (wB μ R U D) = some (.nx [a0, some (.ptr (μ.length + 2)), some (.ptr (μ.length + 3)), some (.dat (.int (x : Int))), some (.dat (.str c))] (wB μ R U (stV R U x w0 D c))) := by
  have hn := F.small
  have dl := h.dl
  have wl := h.len x w0 hw
  simp only at dl wl
  have hx := (h.good x w0 hw).2.2
  have at1 := atLB (b := μ.length) (eo := eVar 1) (es := eVar 4) (eh := eVar 3) (ε := [a0, some (.ptr (μ.length + 2)), some (.ptr (μ.length + 3)), some (.dat (.int (x : Int))), some (.dat (.str c))]) (μ := wB μ R U D) F (wB0 μ R U D) (wB1 μ R U D) (wB2 μ R U D) hx hc rfl rfl rfl
  have m3 := wB3 μ R U D
  have v0 : valP (dK D) (.inl (x : Int)) = some (.dat (.str w0)) := by rw [valP_dK, hw]; rfl
  generalize hE : eOp fIx (eDGet (eVar 1) (eVar 4)) (eVar 3) = E at *
  unfold B1__law_words
  rw [hE]
  cases h2 : vD D (stp R U c x) with
  | some w =>
    have v1 : valP (dK D) (.inl ((stp R U c x : Nat) : Int)) = some (.dat (.str w)) := by rw [valP_dK, h2]; rfl
    have ev : stV R U x w0 D c = D := if_neg (by rw [h2]; simp)
    rw [ev]
    generalize wB μ R U D = M at *
    simp [at1, m3, v1]
  | none =>
    have v1 : valP (dK D) (.inl ((stp R U c x : Nat) : Int)) = none := by rw [valP_dK, h2]; rfl
    have ev : stV R U x w0 D c = D ++ [(stp R U c x, w0 ++ c)] := if_pos h2
    have p := putP_dK (k := stp R U c x) (w := w0 ++ c) D h2
    have nb := ndB_dK h.nd
    have c1 : (dK D).length < 1000000 := by simp [dK]; omega
    have c2 : w0.length + 1 ≤ 1000000 := by omega
    have l1 := len1 hc
    have ms := wBs μ R U D (D ++ [(stp R U c x, w0 ++ c)])
    rw [ev]
    generalize wB μ R U D = M at *
    simp [at1, m3, v1, v0, p, nb, cap, c1, c2, l1, ms]
theorem L1__law_words_eq {μ : Sto} {R U : List Nat} {n x : Nat} {D : List (Nat × Str)} {w0 : Str} (F : Flo R U n) (h : DI R U n D) (hw : vD D x = some w0) (a0 a4 : Option PV) :
    ∃ D' a4', L1__law_words [a0, some (.ptr (μ.length + 2)), some (.ptr (μ.length + 3)), some (.dat (.int (x : Int))), a4] (wB μ R U D) = some (.nx [a0, some (.ptr (μ.length + 2)), some (.ptr (μ.length + 3)), some (.dat (.int (x : Int))), a4'] (wB μ R U D')) ∧ DI R U n D' ∧ (∃ u, D' = D ++ u) ∧ ∀ y ∈ nbs4 R U x, y ∈ D'.map Prod.fst := by
  have i1 := h.step F hw (c := "r") (.inl rfl)
  have w1 := stV_w (R := R) (U := U) (x := x) (w0 := w0) (c := "r") hw
  have i2 := i1.step F w1 (c := "l") (.inr (.inl rfl))
  have w2 := stV_w (R := R) (U := U) (x := x) (w0 := w0) (c := "l") w1
  have i3 := i2.step F w2 (c := "u") (.inr (.inr (.inl rfl)))
  have w3 := stV_w (R := R) (U := U) (x := x) (w0 := w0) (c := "u") w2
  have i4 := i3.step F w3 (c := "d") (.inr (.inr (.inr rfl)))
  have s1 := B1__law_words_eq (μ := μ) F h hw (c := "r") (.inl rfl) a0
  have s2 := B1__law_words_eq (μ := μ) F i1 w1 (c := "l") (.inr (.inl rfl)) a0
  have s3 := B1__law_words_eq (μ := μ) F i2 w2 (c := "u") (.inr (.inr (.inl rfl))) a0
  have s4 := B1__law_words_eq (μ := μ) F i3 w3 (c := "d") (.inr (.inr (.inr rfl))) a0
  obtain ⟨u1, e1⟩ := stV_q (R := R) (U := U) (x := x) (w0 := w0) (c := "r") (D := D)
  obtain ⟨u2, e2⟩ := stV_q (R := R) (U := U) (x := x) (w0 := w0) (c := "l") (D := stV R U x w0 D "r")
  obtain ⟨u3, e3⟩ := stV_q (R := R) (U := U) (x := x) (w0 := w0) (c := "u") (D := stV R U x w0 (stV R U x w0 D "r") "l")
  obtain ⟨u4, e4⟩ := stV_q (R := R) (U := U) (x := x) (w0 := w0) (c := "d") (D := stV R U x w0 (stV R U x w0 (stV R U x w0 D "r") "l") "u")
  refine ⟨stV R U x w0 (stV R U x w0 (stV R U x w0 (stV R U x w0 D "r") "l") "u") "d", some (.dat (.str "d")), ?_, i4, ⟨u1 ++ u2 ++ u3 ++ u4, by rw [e4, e3, e2, e1]; simp⟩, fun y hy => ?_⟩
  · unfold L1__law_words sFor
    have e0 : srcSeq (eLst false (aCons (eC (.str "r")) (aCons (eC (.str "l")) (aCons (eC (.str "u")) (aCons (eC (.str "d")) (aNil)))))) [a0, some (.ptr (μ.length + 2)), some (.ptr (μ.length + 3)), some (.dat (.int (x : Int))), a4] (wB μ R U D) = some (([.dat (.str "r"), .dat (.str "l"), .dat (.str "u"), .dat (.str "d")], none), wB μ R U D) := by
      simp [asDats, cap]
    rw [e0]
    have tgt : ∀ (c : Str) (M : Sto) (b4 : Option PV), tgN 4 (PV.dat (.str c)) [a0, some (.ptr (μ.length + 2)), some (.ptr (μ.length + 3)), some (.dat (.int (x : Int))), b4] M = some ([a0, some (.ptr (μ.length + 2)), some (.ptr (μ.length + 3)), some (.dat (.int (x : Int))), some (.dat (.str c))], M) := fun _ _ _ => rfl
    simp only [Option.bind_some, okG_none, forD, if_true, tgt, s1, s2, s3, s4, turnO]
  · have q1 : ∀ D' u, D' = stV R U x w0 D "r" ++ u → stp R U "r" x ∈ D'.map Prod.fst := fun D' u e => by rw [e]; exact sub_app stV_has
    have q2 : ∀ D' u, D' = stV R U x w0 (stV R U x w0 D "r") "l" ++ u → stp R U "l" x ∈ D'.map Prod.fst := fun D' u e => by rw [e]; exact sub_app stV_has
    have q3 : ∀ D' u, D' = stV R U x w0 (stV R U x w0 (stV R U x w0 D "r") "l") "u" ++ u → stp R U "u" x ∈ D'.map Prod.fst := fun D' u e => by rw [e]; exact sub_app stV_has
    simp only [nbs4, List.mem_cons, List.not_mem_nil, or_false] at hy
    rcases hy with rfl | rfl | rfl | rfl
    · have := q1 (stV R U x w0 (stV R U x w0 (stV R U x w0 (stV R U x w0 D "r") "l") "u") "d") (u2 ++ u3 ++ u4) (by rw [e4, e3, e2]; simp)
      rw [stp_r] at this; exact this
    · have := q2 (stV R U x w0 (stV R U x w0 (stV R U x w0 (stV R U x w0 D "r") "l") "u") "d") (u3 ++ u4) (by rw [e4, e3]; simp)
      rw [stp_l] at this; exact this
    · have := q3 (stV R U x w0 (stV R U x w0 (stV R U x w0 (stV R U x w0 D "r") "l") "u") "d") u4 (by rw [e4])
      rw [stp_u] at this; exact this
    · have := stV_has (R := R) (U := U) (x := x) (w0 := w0) (c := "d") (D := stV R U x w0 (stV R U x w0 (stV R U x w0 D "r") "l") "u")
      rw [stp_d] at this; exact this
theorem keyIs_dK : ∀ D : List (Nat × Str), VX.keyIs (dK D) = some (toZ (D.map Prod.fst))
  | [] => rfl
  | p :: r => by
    have ih := keyIs_dK r
    simp only [dK] at ih
    simp only [dK, List.map_cons, VX.keyIs]
    rw [ih]
    rfl
theorem L2__law_words_eq {μ : Sto} {R U : List Nat} {n : Nat} {D : List (Nat × Str)} (F : Flo R U n) (h : DI R U n D) (a0 a3 a4 : Option PV) :
    ∃ D' a3' a4', L2__law_words [a0, some (.ptr (μ.length + 2)), some (.ptr (μ.length + 3)), a3, a4] (wB μ R U D) = some (.nx [a0, some (.ptr (μ.length + 2)), some (.ptr (μ.length + 3)), a3', a4'] (wB μ R U D')) ∧ DI R U n D' ∧ (∃ u, D' = D ++ u) ∧ ∀ x ∈ D.map Prod.fst, ∀ y ∈ nbs4 R U x, y ∈ D'.map Prod.fst := by
  have hn := F.small
  have dl := h.dl
  simp only at dl
  have key := forD_all (G := fun _ => true) (tg := tgN 3) (b := B2__law_words)
    (fun i ε M => ∃ D' a3' a4', ε = [a0, some (.ptr (μ.length + 2)), some (.ptr (μ.length + 3)), a3', a4'] ∧ M = wB μ R U D' ∧ DI R U n D' ∧ (∃ u, D' = D ++ u) ∧ ∀ j, j < i → ∀ x : Nat, z0 (isort (toZ (D.map Prod.fst))) j = (x : Int) → ∀ y ∈ nbs4 R U x, y ∈ D'.map Prod.fst)
    (oZ (isort (toZ (D.map Prod.fst)))) (fun _ _ _ _ => rfl) (fun i p ε M hp hI => by
      obtain ⟨D', a3', a4', rfl, rfl, h', ⟨u, hu⟩, hc⟩ := hI
      obtain ⟨hi, rfl⟩ := get_oZ hp
      have hm := z0_mem hi
      rw [(isort_perm _).mem_iff] at hm
      obtain ⟨x, hx, ex⟩ := List.mem_map.mp hm
      obtain ⟨w0, hw⟩ := vD_some (D := D') (by rw [hu]; exact sub_app hx)
      obtain ⟨D2, b4, e, h2, ⟨v, hv⟩, hb⟩ := L1__law_words_eq (μ := μ) F h' hw a0 a4'
      rw [← ex]
      refine ⟨_, _, _, _, rfl, e, D2, _, b4, rfl, rfl, h2, ⟨u ++ v, by rw [hv, hu]; simp⟩, fun j hj y hy z hz => ?_⟩
      by_cases ej : j = i
      · subst ej
        rw [← ex] at hy
        have : x = y := Int.ofNat.inj hy
        subst this
        exact hb z hz
      · have := hc j (by omega) y hy z hz
        rw [hv]; exact sub_app this)
    (ε := [a0, some (.ptr (μ.length + 2)), some (.ptr (μ.length + 3)), a3, a4]) (μ := wB μ R U D) ⟨D, a3, a4, rfl, rfl, h, ⟨[], by simp⟩, fun j hj => absurd hj (Nat.not_lt_zero _)⟩
  obtain ⟨ε', M', h1, D', a3', a4', rfl, rfl, h', hu, hc⟩ := key
  refine ⟨D', a3', a4', ?_, h', hu, fun x hx y hy => ?_⟩
  · unfold L2__law_words sFor
    have m3 := wB3 μ R U D
    have kI := keyIs_dK D
    have c1 : D.length < 64 := by omega
    have c2 : (isort (toZ (D.map Prod.fst))).length ≤ 1000000 := by rw [(isort_perm _).length_eq]; simp; omega
    have e0 : srcSeq (eCa (fSortD false) (aCons (eVar 2) (aNil))) [a0, some (.ptr (μ.length + 2)), some (.ptr (μ.length + 3)), a3, a4] (wB μ R U D) = some ((oZ (isort (toZ (D.map Prod.fst))), none), wB μ R U D) := by
      generalize wB μ R U D = M at *
      simp [m3, kI, c1, cap, c2]
    rw [e0]
    simp only [Option.bind_some, okG_none, h1]
  · have hz : (x : Int) ∈ isort (toZ (D.map Prod.fst)) := by
      rw [(isort_perm _).mem_iff]
      exact mem_toZ.mpr hx
    obtain ⟨j, hj, e⟩ := mem_z0 hz
    exact hc j (by rw [len_oZ]; exact hj) x e y hy
theorem F__law_words_eq {R U : List Nat} {n : Nat} (μ : Sto) (F : Flo R U n) (hn0 : 0 < n) (H : Hang R U n) : ∃ D, F__law_words [.dat (flo R U)] μ = some (.ptr (μ.length + 3), wB μ R U D) ∧ DI R U n D ∧ ∀ x, x < n → x ∈ D.map Prod.fst := by
  have hn := F.small
  have d0 : DI R U n [(0, "")] := by
    refine ⟨by simp, by simp [vD], fun k w e => ?_, fun k w e => ?_, (fun x hx => by cases hx), List.nodup_nil, Nat.zero_le _, (fun e he => by cases he)⟩
    · simp only [vD] at e
      split at e
      · rename_i q; cases e; subst q; exact ⟨by rw [sgs_nil]; exact gw_nil, by rw [sgs_nil]; rfl, hn0⟩
      · cases e
    · simp only [vD] at e
      split at e
      · cases e; decide
      · cases e
  have key := whileN_gen (c := tsE (eOp fLt (eCa fLenD (aCons (eVar 2) (aNil))) (eCa fLen (aCons (eOp fIx (eVar 0) (eC (.int 1))) (aNil))))) (b := B3__law_words)
    (fun m ε M => ∃ D a3 a4, ε = [some (.dat (flo R U)), some (.ptr (μ.length + 2)), some (.ptr (μ.length + 3)), a3, a4] ∧ M = wB μ R U D ∧ DI R U n D ∧ n - D.length ≤ m)
    (fun o => ∃ D a3 a4, o = .nx [some (.dat (flo R U)), some (.ptr (μ.length + 2)), some (.ptr (μ.length + 3)), a3, a4] (wB μ R U D) ∧ DI R U n D ∧ n ≤ D.length)
    (fun m ε M hI => by
      obtain ⟨D, a3, a4, rfl, rfl, h, hm⟩ := hI
      have m3 := wB3 μ R U D
      have dl := h.dl
      simp only at dl
      refine ⟨decide (D.length < n), wB μ R U D, ?_, fun hb => ?_, fun hb => ?_⟩
      · have l : (dK D).length = D.length := by simp [dK]
        generalize wB μ R U D = M at *
        simp [m3, l, F.lR]
      · have := of_decide_eq_false hb
        exact ⟨D, a3, a4, rfl, h, by omega⟩
      · have hlt := of_decide_eq_true hb
        obtain ⟨m', rfl⟩ : ∃ m', m = m' + 1 := ⟨m - 1, by omega⟩
        obtain ⟨D', b3, b4, e, h', ⟨u, hu⟩, hc⟩ := L2__law_words_eq (μ := μ) F h (some (.dat (flo R U))) a3 a4
        refine ⟨m', rfl, _, e, D', b3, b4, rfl, rfl, h', ?_⟩
        have : u ≠ [] := by
          intro z
          subst z
          rw [List.append_nil] at hu
          subst hu
          have all : ∀ x, x < n → x ∈ D'.map Prod.fst := fun x hx => by
            have r := H 0 x hn0 hx
            clear e hb
            induction r with
            | refl => exact List.mem_map.mpr ⟨_, vD_mem h.z0, rfl⟩
            | step r m _ ih => exact hc _ (ih (r.lt hn0 F.nb_lt)) _ m
          have := nodup_sub (l := List.range n) (m := D'.map Prod.fst) List.nodup_range fun x hx => all x (List.mem_range.mp hx)
          simp at this
          omega
        have : 0 < u.length := List.length_pos_iff.mpr this
        rw [hu, List.length_append]
        omega) 2000 n
    [some (.dat (flo R U)), some (.ptr (μ.length + 2)), some (.ptr (μ.length + 3)), none, none] (wB μ R U [(0, "")]) (by omega) ⟨_, none, none, rfl, rfl, d0, by simp⟩
  obtain ⟨o, h1, D, a3, a4, rfl, h, hl⟩ := key
  refine ⟨D, ?_, h, fun x hx => ?_⟩
  · have e0 := F__law_lists_B (R := R) (U := U) μ F
    have l3 := lsB_len μ R U (inv R) (inv U)
    have w0 : lsB μ R U (inv R) (inv U) ++ [.dic [(.inl 0, .dat (.str ""))]] = wB μ R U [(0, "")] := rfl
    have wn : (lsB μ R U (inv R) (inv U) ++ [SO.dic []])[μ.length + 3]? = some (.dic []) := by simp [lsB]
    have ws : (lsB μ R U (inv R) (inv U) ++ [SO.dic []]).set (μ.length + 3) (.dic [(.inl 0, .dat (.str ""))]) = wB μ R U [(0, "")] := by simp [wB, lsB, dK]
    have p0 : putP ([] : List (Key × PV)) (.inl 0) (.dat (.str "")) = [(.inl 0, .dat (.str ""))] := rfl
    have nb0 : ndB [] = true := rfl
    have L : L3__law_words [some (.dat (flo R U)), some (.ptr (μ.length + 2)), some (.ptr (μ.length + 3)), none, none] (wB μ R U [(0, "")]) = some (.nx [some (.dat (flo R U)), some (.ptr (μ.length + 2)), some (.ptr (μ.length + 3)), a3, a4] (wB μ R U D)) := h1
    unfold F__law_words
    refine fnG_rt rfl ?_
    unfold r__law_words
    refine (seq_nx (ε' := [some (.dat (flo R U)), some (.ptr (μ.length + 2)), some (.ptr (μ.length + 3)), none, none]) (μ' := lsB μ R U (inv R) (inv U) ++ [SO.dic []]) (by simp [sPar, startE, e0, l3])).trans ?_
    refine (seq_nx (ε' := [some (.dat (flo R U)), some (.ptr (μ.length + 2)), some (.ptr (μ.length + 3)), none, none]) (μ' := wB μ R U [(0, "")]) ?_).trans ?_
    · generalize lsB μ R U (inv R) (inv U) ++ [SO.dic []] = M at *
      simp [wn, p0, nb0, cap, ws]
    · refine (seq_nx L).trans ?_
      simp
  · have dl := h.dl
    simp only at dl
    refine Classical.byContradiction fun hx2 => ?_
    have := nodup_len n (x :: D.map Prod.fst) (List.nodup_cons.mpr ⟨hx2, h.nd⟩) fun y hy => by
      rcases List.mem_cons.mp hy with rfl | hy
      · exact hx
      · exact h.lt y hy
    simp at this
    omega
end CM
namespace CM
open PySem L2 VX
/-! ### _law_back, _law_closed -/
def fB (w : Str) : PV → PV
  | .dat (.int i) => .dat (.str (bk1 ((sgs w).getD i.toNat "")))
  | p => p
def jB (w : Str) : List PV := (List.range w.length).map fun m => PV.dat (.int ((w.length : Int) - 1 + (m : Nat) * (-1)))
theorem map_jB (w : Str) : (jB w).map (fB w) = oS (bk (sgs w)) := by
  unfold jB oS bk
  rw [List.map_map, List.map_map]
  apply List.ext_getElem
  · simp
  · intro i h1 h2
    have hi : i < w.length := by simpa using h1
    have e : ((w.length : Int) - 1 + ((i : Nat) : Int) * (-1)).toNat = w.length - 1 - i := by omega
    simp only [List.getElem_map, List.getElem_range, Function.comp_apply, fB, List.getElem_reverse, sgs_len]
    rw [e, List.getD_eq_getElem?_getD, List.getElem?_eq_getElem (by rw [sgs_len]; omega)]
    rfl
theorem F__law_back_eq {w : Str} (g : GW (sgs w)) (hl : w.length ≤ 1000) : F__law_back [.str w] = some (.str (bkS w)) := by
  have c : w.length ≤ 1000000 := by omega
  have e := lcD_grow (tg := tgN 1) (te := eDGet eBk (eOp fIx (eVar 0) (eVar 1))) (w := [some (.dat (.str w)), none]) (X := .dic bkDic) (fB w) (jB w) [] (fun p hp j => by
    obtain ⟨m, hm, rfl⟩ := List.mem_map.mp hp
    have hm := List.mem_range.mp hm
    have ej : (w.length : Int) - 1 + ((m : Nat) : Int) * (-1) = ((w.length - 1 - m : Nat) : Int) := by omega
    rw [ej]
    have hj : w.length - 1 - m < (sgs w).length := by rw [sgs_len]; omega
    obtain ⟨cc, e1, e2⟩ := sgs_get hj
    have hc : S4 (sgs w)[w.length - 1 - m] := gw_at g hj
    refine ⟨_, rfl, ?_⟩
    have t := te_bk (es := eOp fIx (eVar 0) (eVar 1)) (ε := [some (.dat (.str w)), some (.dat (.int ((w.length - 1 - m : Nat) : Int)))]) (μ := [] ++ List.replicate j (.dic bkDic)) hc (fun μ' => by rw [← e2]; simp [e1, cap, c])
    have ef : fB w (.dat (.int ((w.length - 1 - m : Nat) : Int))) = .dat (.str (bk1 (sgs w)[w.length - 1 - m])) := by
      show PV.dat (.str (bk1 ((sgs w).getD ((w.length - 1 - m : Nat) : Int).toNat ""))) = _
      rw [Int.toNat_natCast, List.getD_eq_getElem?_getD, List.getElem?_eq_getElem hj]; rfl
    rw [ef]
    exact t) 0
  rw [map_jB] at e
  simp only [List.replicate_zero, List.append_nil] at e
  have r1 : inRg ((w.length : Int) - 1) = true := inRg_int (by omega) (by omega)
  have r2 : inRg (-1) = true := inRg_int (by omega) (by omega)
  have z : ((w.length : Int) - 1 - (-1)).toNat = w.length := by omega
  have sr : srcR3 (aCons (eOp fSub (eCa fLen (aCons (eVar 0) (aNil))) (eC (.int 1))) (aCons (eOp fSub (eC (.int 0)) (eC (.int 1))) (aCons (eOp fSub (eC (.int 0)) (eC (.int 1))) (aNil)))) [some (.dat (.str w)), none] [] = some ((jB w, none), []) := by
    have lw : eCa fLen (aCons (eVar 0) aNil) [some (.dat (.str w)), none] [] = some (.dat (.int (w.length : Int)), []) := by simp [cap, c]
    simp only [srcR3, aCons, eOp, eC, aNil, Option.bind_some]
    rw [lw]
    simp only [Option.bind_some, fSub, fII, show (0 : Int) - 1 = -1 from rfl, r1, r2, Bool.and_self, decide_true, if_true, z]
    rfl
  have cl : (bk (sgs w)).length ≤ 1000000 := by simp [bk]; omega
  have L : C1__law_back [some (.dat (.str w)), none] [] = some (.dat (.list (iS (bk (sgs w)))), List.replicate (0 + (jB w).length) (.dic bkDic)) := by
    unfold C1__law_back eLc
    rw [sr]
    simp only [Option.bind_some, okG_none, wipeE, List.set_cons_succ, List.set_cons_zero]
    have e' := e
    unfold eBk at e'
    rw [e']
    simp [cap, cl, asDats_oS]
  have sl : sumLen "" (bk (sgs w)) ≤ 1000000 := by rw [sumLen0 (bk_gw g)]; exact cl
  unfold F__law_back
  refine fnP_rt (μ := List.replicate (0 + (jB w).length) (.dic bkDic)) rfl ?_
  unfold r__law_back
  have s0 : startE 2 ([PyData.str w].map PV.dat) = [some (.dat (.str w)), none] := rfl
  rw [s0]
  unfold sRet eJoin
  simp only [eC, Option.bind_some]
  rw [L]
  simp [map_iS, cap, sl, bkS]
theorem four_e {v : Nat} (hv : v < 4) (ε : Evn) (μ μ' : Sto) {e : EvF} (h : e ε μ = some (.dat (.int (v : Int)), μ')) : ∃ c, eOp fIx (eLst false (aCons (eC (.str "r")) (aCons (eC (.str "l")) (aCons (eC (.str "u")) (aCons (eC (.str "d")) (aNil)))))) e ε μ = some (.dat (.str c), μ') ∧ S4 c := by
  have l : eLst false (aCons (eC (.str "r")) (aCons (eC (.str "l")) (aCons (eC (.str "u")) (aCons (eC (.str "d")) (aNil))))) ε μ = some (.dat (.list [.str "r", .str "l", .str "u", .str "d"]), μ) := by simp [asDats, cap]
  have a3 : L2.atI [PV.dat (.str "r"), PV.dat (.str "l"), PV.dat (.str "u"), PV.dat (.str "d")] 3 = some (PV.dat (.str "d")) := atI_nat (j := 3) rfl
  have hv' : v = 0 ∨ v = 1 ∨ v = 2 ∨ v = 3 := by omega
  unfold eOp
  rw [l]
  simp only [Option.bind_some]
  rw [h]
  rcases hv' with rfl | rfl | rfl | rfl
  · exact ⟨"r", by simp, .inl rfl⟩
  · exact ⟨"l", by simp, .inr (.inl rfl)⟩
  · exact ⟨"u", by simp, .inr (.inr (.inl rfl))⟩
  · exact ⟨"d", by simp [a3], .inr (.inr (.inr rfl))⟩
theorem lcD_wd {p q : Nat} {tg : TgF} {te : EvF} {w : Evn} (hk : ∀ (x : PV) (μ : Sto), StA μ p q → ∃ (ε : Evn) (c : Str) (μ' : Sto), tg x w μ = some (ε, μ) ∧ te ε μ = some (.dat (.str c), μ') ∧ S4 c ∧ StA μ' p q) :
    ∀ (items : List PV) (μ : Sto), StA μ p q → ∃ (cs : List Str) (μ' : Sto), lcD (fun _ => true) tg tsYes te w items μ = some (oS cs, μ') ∧ GW cs ∧ cs.length = items.length ∧ StA μ' p q
  | [], μ, h => ⟨[], μ, by simp [lcD, oS], gw_nil, rfl, h⟩
  | x :: r, μ, h => by
    obtain ⟨ε, c, μ1, e1, e2, hc, h1⟩ := hk x μ h
    obtain ⟨cs, μ', e3, g, hl, h2⟩ := lcD_wd hk r μ1 h1
    refine ⟨c :: cs, μ', ?_, fun d hd => ?_, by simp [hl], h2⟩
    · have e : oS (c :: cs) = .dat (.str c) :: oS cs := rfl
      rw [e]
      simp [lcD, e1, tsYes, e2, e3]
    · rcases List.mem_cons.mp hd with rfl | hd
      · exact hc
      · exact g d hd
theorem StA.app {μ ν : Sto} {p q : Nat} (h : StA μ p q) : StA (μ ++ ν) p q := by
  have l := h.lt
  exact h.fr (List.getElem?_append_left l.1) (List.getElem?_append_left l.2)
theorem wB_app (μ : Sto) (R U : List Nat) (D : List (Nat × Str)) : ∃ ν, wB μ R U D = μ ++ ν := ⟨_, by unfold wB lsB; rw [List.append_assoc]⟩
theorem F__law_closed_eq {R U : List Nat} {n s p q : Nat} {μ : Sto} (F : Flo R U n) (hs : s < n) (H : Hang R U n) (h : StA μ p q) : ∃ (w : Str) (μ' : Sto), F__law_closed [.ptr p, .dat (flo R U), .dat (.int (s : Int)), .dat (.int 9)] μ = some (.dat (.str w), μ') ∧ GW (sgs w) ∧ ends R U (sgs w) s = s ∧ w.length ≤ 200 ∧ StA μ' p q := by
  have hn := F.small
  have hn0 : 0 < n := by omega
  obtain ⟨k, μ1, e1, hk, h1, _⟩ := take_e h (most := 9) (by decide) (by decide) (ε := [some (.ptr p), some (.dat (flo R U)), some (.dat (.int (s : Int))), some (.dat (.int 9)), none, none, none]) (e1 := eVar 0) (e2 := eVar 3) rfl rfl
  obtain ⟨cs, μ2, e2, g, hl, h2⟩ := lcD_wd (p := p) (q := q) (tg := tgN 5) (te := eOp fIx (eLst false (aCons (eC (.str "r")) (aCons (eC (.str "l")) (aCons (eC (.str "u")) (aCons (eC (.str "d")) (aNil)))))) (eCallG 2 F__law_take (aCons (eVar 0) (aCons (eC (.int 4)) (aNil))))) (w := [some (.ptr p), some (.dat (flo R U)), some (.dat (.int (s : Int))), some (.dat (.int 9)), none, none, none]) (fun x μ h => by
    obtain ⟨v, μ', e, hv, h', _⟩ := take_e h (most := 4) (by decide) (by decide) (ε := [some (.ptr p), some (.dat (flo R U)), some (.dat (.int (s : Int))), some (.dat (.int 9)), none, some x, none]) (e1 := eVar 0) (e2 := eC (.int 4)) rfl rfl
    obtain ⟨c, e3, hc⟩ := four_e hv _ _ _ e
    exact ⟨_, c, μ', rfl, e3, hc, h'⟩) ((List.range k).map fun i => PV.dat (.int (i : Nat))) μ1 h1
  simp only [List.length_map, List.length_range] at hl
  have c1 : k ≤ 100000 := by omega
  have c2 : cs.length ≤ 1000000 := by omega
  have C1 : C1__law_closed [some (.ptr p), some (.dat (flo R U)), some (.dat (.int (s : Int))), some (.dat (.int 9)), none, none, none] μ = some (.dat (.list (iS cs)), μ2) := by
    have a : aCons (eCallG 2 F__law_take (aCons (eVar 0) (aCons (eVar 3) (aNil)))) aNil [some (.ptr p), some (.dat (flo R U)), some (.dat (.int (s : Int))), some (.dat (.int 9)), none, none, none] μ = some ([.dat (.int (k : Int))], μ1) := by
      show (eCallG 2 F__law_take (aCons (eVar 0) (aCons (eVar 3) (aNil))) _ μ).bind _ = _
      rw [e1]; rfl
    have sr : srcR1 (aCons (eCallG 2 F__law_take (aCons (eVar 0) (aCons (eVar 3) (aNil)))) aNil) [some (.ptr p), some (.dat (flo R U)), some (.dat (.int (s : Int))), some (.dat (.int 9)), none, none, none] μ = some (((List.range k).map fun i => PV.dat (.int (i : Nat)), none), μ1) := by
      unfold srcR1; rw [a]; simp [inRg_nat c1]
    unfold C1__law_closed eLc
    rw [sr]
    simp only [Option.bind_some, okG_none, wipeE, List.set_cons_succ, List.set_cons_zero]
    rw [e2]
    simp [cap, c2, asDats_oS]
  have sj := sgs_join cs (gw_one g)
  have lj : (Txt.join "" cs).length = cs.length := by rw [← sgs_len, sj]
  have sl : sumLen "" cs ≤ 1000000 := by rw [sumLen0 g]; exact c2
  have J : eJoin (eC (.str "")) C1__law_closed [some (.ptr p), some (.dat (flo R U)), some (.dat (.int (s : Int))), some (.dat (.int 9)), none, none, none] μ = some (.dat (.str (Txt.join "" cs)), μ2) := by
    unfold eJoin
    simp only [eC, Option.bind_some]
    rw [C1]
    simp [map_iS, cap, sl]
  generalize Txt.join "" cs = w at *
  subst sj
  obtain ⟨D, e3, d, ha⟩ := F__law_words_eq (R := R) (U := U) μ2 F hn0 H
  have dl := d.dl
  simp only at dl
  have he := ends_lt F g hs
  obtain ⟨w1, hw1⟩ := vD_some (ha _ he)
  obtain ⟨w2, hw2⟩ := vD_some (ha _ hs)
  obtain ⟨g1, x1, _⟩ := d.good _ _ hw1
  obtain ⟨g2, x2, _⟩ := d.good _ _ hw2
  have l1 := d.len _ _ hw1
  have l2 := d.len _ _ hw2
  simp only at l1 l2
  have lb := bkS_len g1
  refine ⟨w ++ bkS w1 ++ w2, wB μ2 R U D, ?_, ?_, ?_, ?_, ?_⟩
  · have tr := F__law_trace_eq F hs g (by omega)
    have bk := F__law_back_eq g1 (by omega)
    have la := last_oL (R := R) (U := U) (cs := sgs w) (s := s) rfl
    have m3 := wB3 μ2 R U D
    have v1 : valP (dK D) (.inl ((ends R U (sgs w) s : Nat) : Int)) = some (.dat (.str w1)) := by rw [valP_dK, hw1]; rfl
    have v2 : valP (dK D) (.inl (s : Int)) = some (.dat (.str w2)) := by rw [valP_dK, hw2]; rfl
    have c3 : w.length + w1.length ≤ 1000000 := by omega
    have c4 : (w ++ bkS w1).length + w2.length ≤ 1000000 := by rw [len_app]; omega
    unfold F__law_closed
    refine fnG_rt rfl ?_
    unfold r__law_closed
    refine (seq_nx (ε' := [some (.ptr p), some (.dat (flo R U)), some (.dat (.int (s : Int))), some (.dat (.int 9)), some (.dat (.str w)), none, none]) (μ' := μ2) ?_).trans ?_
    · have s0 : startE 7 [PV.ptr p, .dat (flo R U), .dat (.int (s : Int)), .dat (.int 9)] = [some (.ptr p), some (.dat (flo R U)), some (.dat (.int (s : Int))), some (.dat (.int 9)), none, none, none] := rfl
      rw [s0]
      unfold sSet
      rw [J]
      rfl
    · refine (seq_nx (ε' := [some (.ptr p), some (.dat (flo R U)), some (.dat (.int (s : Int))), some (.dat (.int 9)), some (.dat (.str w)), none, some (.ptr (μ2.length + 3))]) (μ' := wB μ2 R U D) (by simp [e3])).trans ?_
      generalize wB μ2 R U D = M at *
      simp [asDats, tr, la, m3, v1, v2, bk, cap, lb, c3, c4]
  · rw [sgs_app, sgs_app, sgs_bkS g1]
    exact (g.app (bk_gw g1)).app g2
  · rw [sgs_app, sgs_app, sgs_bkS g1, ends_app, ends_app]
    have := ends_bk F g1 hn0
    rw [x1] at this
    rw [this, x2]
  · rw [len_app, len_app, lb]; omega
  · obtain ⟨ν, e⟩ := wB_app μ2 R U D
    rw [e]; exact h2.app
end CM
namespace CM
open PySem L2 VX
/-! ### the marks -/
structure Mks (mk : List Nat) (n : Nat) (es : List Ed) : Prop where
  ml : mk.length = n
  lt : ∀ z, z < n → g0 mk z < 4
  p1 : ∀ z, z < n → g0 mk z % 2 = es.count (true, z) % 2
  p2 : ∀ z, z < n → g0 mk z / 2 = es.count (false, z) % 2
def tg2 (m : Nat) : Nat := if m / 2 % 2 = 1 then m - 2 else m + 2
def tg1 (m : Nat) : Nat := if m % 2 = 1 then m - 1 else m + 1
theorem Mks.t2 {mk : List Nat} {n x : Nat} {es : List Ed} (h : Mks mk n es) (hx : x < n) : Mks (mk.set x (tg2 (g0 mk x))) n (es ++ [(false, x)]) := by
  refine ⟨by rw [List.length_set]; exact h.ml, fun z hz => ?_, fun z hz => ?_, fun z hz => ?_⟩
  · rw [g0_set (by rw [h.ml]; exact hz)]
    have := h.lt z hz
    split
    · rename_i e; subst e; unfold tg2; split <;> omega
    · exact this
  · rw [g0_set (by rw [h.ml]; exact hz), List.count_append]
    have := h.p1 z hz
    split
    · rename_i e; subst e; unfold tg2; split <;> simp <;> omega
    · simp; exact this
  · rw [g0_set (by rw [h.ml]; exact hz), List.count_append]
    have := h.p2 z hz
    have l := h.lt z hz
    split
    · rename_i e; subst e; unfold tg2; split <;> simp <;> omega
    · rename_i e
      simp [e]; exact this
theorem Mks.t1 {mk : List Nat} {n x : Nat} {es : List Ed} (h : Mks mk n es) (hx : x < n) : Mks (mk.set x (tg1 (g0 mk x))) n (es ++ [(true, x)]) := by
  refine ⟨by rw [List.length_set]; exact h.ml, fun z hz => ?_, fun z hz => ?_, fun z hz => ?_⟩
  · rw [g0_set (by rw [h.ml]; exact hz)]
    have := h.lt z hz
    split
    · rename_i e; subst e; unfold tg1; split <;> omega
    · exact this
  · rw [g0_set (by rw [h.ml]; exact hz), List.count_append]
    have := h.p1 z hz
    have l := h.lt z hz
    split
    · rename_i e; subst e; unfold tg1; split <;> simp <;> omega
    · rename_i e
      simp [e]; exact this
  · rw [g0_set (by rw [h.ml]; exact hz), List.count_append]
    have := h.p2 z hz
    have l := h.lt z hz
    split
    · rename_i e; subst e; unfold tg1; split <;> simp <;> omega
    · simp; exact this
/-- a sign among two -/
theorem in_two {c d e : Str} {ec : EvF} {ε : Evn} {μ : Sto} (hc : S4 c) (hd : S4 d) (he : S4 e) (h : ec ε μ = some (.dat (.str c), μ)) : tsE (eOp (fIn false) ec (eLst false (aCons (eC (.str d)) (aCons (eC (.str e)) (aNil))))) ε μ = some (d == c || e == c, μ) := by
  have s1 := shaped_str hc.ok
  have s3 : SeqAt.shaped (.list [PyData.str d, .str e]) = true := (sd_list (n := 0) (sds_all fun x hx => by
    simp only [List.mem_cons, List.not_mem_nil, or_false] at hx
    rcases hx with rfl | rfl
    · exact ⟨by simp [PyData.canLay0, hd.ok], by simp [PyData.depth]⟩
    · exact ⟨by simp [PyData.canLay0, he.ok], by simp [PyData.depth]⟩)).shaped (by decide)
  have v : ∀ a b : Str, PyData.eqv (.str a) (.str b) = (a == b) := fun a b => by simp [PyData.eqv]
  simp [h, s1, s3, asDats, cap, v]
def fstS (c : Str) : Bool := c == "r" || c == "u"
abbrev mkS (μ : Sto) (mk : List Nat) : Sto := μ ++ [.lst (oL mk)]
theorem B1_law_K74_eq {R U mk : List Nat} {w : Str} {n i : Nat} {μ : Sto} (F : Flo R U n) (hn0 : 0 < n) (g : GW (sgs w)) (hl : w.length ≤ 1000) (hi : i < (sgs w).length) (h : Mks mk n (edL R U ((sgs w).take i) 0)) (a0 a1 a2 a3 a4 a9 a10 a11 a12 a13 a14 a15 a16 : Option PV) :
    ∃ mk' a9' a10', B1_law_K74 [a0, a1, a2, a3, a4, some (.dat (.str w)), some (.dat (.list (iL (trc R U (sgs w) 0)))), some (.ptr μ.length), some (.dat (.int (i : Int))), a9, a10, a11, a12, a13, a14, a15, a16] (mkS μ mk) =
      some (.nx [a0, a1, a2, a3, a4, some (.dat (.str w)), some (.dat (.list (iL (trc R U (sgs w) 0)))), some (.ptr μ.length), some (.dat (.int (i : Int))), a9', a10', a11, a12, a13, a14, a15, a16] (mkS μ mk')) ∧ Mks mk' n (edL R U ((sgs w).take (i + 1)) 0) := by
  have hc : S4 (sgs w)[i] := gw_at g hi
  have hx := ends_lt F (gw_take g i) hn0
  have hy := ends_lt F (gw_take g (i + 1)) hn0
  have t1 := trc_at (R := R) (U := U) (cs := sgs w) (h := 0) (i := i) (by omega)
  have t2 := trc_at (R := R) (U := U) (cs := sgs w) (h := 0) (i := i + 1) (by omega)
  have k1 := at_oL (ns := trc R U (sgs w) 0) (j := i) (by rw [trc_len]; omega)
  have k2 := at_oL (ns := trc R U (sgs w) 0) (j := i + 1) (by rw [trc_len]; omega)
  rw [t1] at k1
  rw [t2] at k2
  have ey : ends R U ((sgs w).take (i + 1)) 0 = stp R U (sgs w)[i] (ends R U ((sgs w).take i) 0) := by rw [take_snoc hi, ends_app]; rfl
  have ew : edL R U ((sgs w).take (i + 1)) 0 = edL R U ((sgs w).take i) 0 ++ [eL R U (sgs w)[i] (ends R U ((sgs w).take i) 0)] := by rw [take_snoc hi, edL_app]; rfl
  obtain ⟨ch, ec1, ec2⟩ := sgs_get hi
  have cw : w.length ≤ 1000000 := by omega
  have lk : ∀ (b9 b10 : Option PV) (M : Sto), eOp fIx (eVar 5) (eVar 8) [a0, a1, a2, a3, a4, some (.dat (.str w)), some (.dat (.list (iL (trc R U (sgs w) 0)))), some (.ptr μ.length), some (.dat (.int (i : Int))), b9, b10, a11, a12, a13, a14, a15, a16] M = some (.dat (.str (sgs w)[i]), M) := fun b9 b10 M => by
    rw [← ec2]; simp [ec1, cap, cw]
  rw [ew]
  rw [ey] at k2 hy
  generalize ends R U ((sgs w).take i) 0 = x at *
  generalize hcc : (sgs w)[i] = c at *
  have k2' : L2.atI (oL (trc R U (sgs w) 0)) ((i : Int) + 1) = some (.dat (.int ((stp R U c x : Nat) : Int))) := by simpa using k2
  -- the square
  have sq : ∀ M : Sto, ∃ z, z < n ∧ (z = if fstS c then stp R U c x else x) ∧ eIf (tsE (eOp (fIn false) (eOp fIx (eVar 5) (eVar 8)) (eLst false (aCons (eC (.str "r")) (aCons (eC (.str "u")) (aNil)))))) (eOp fIx (eVar 6) (eOp (fAdd false) (eVar 8) (eC (.int 1)))) (eOp fIx (eVar 6) (eVar 8)) [a0, a1, a2, a3, a4, some (.dat (.str w)), some (.dat (.list (iL (trc R U (sgs w) 0)))), some (.ptr μ.length), some (.dat (.int (i : Int))), a9, a10, a11, a12, a13, a14, a15, a16] M = some (.dat (.int (z : Int)), M) := by
    intro M
    have q := in_two hc (.inl rfl) (.inr (.inr (.inl rfl))) (lk a9 a10 M)
    refine ⟨if fstS c then stp R U c x else x, ?_, rfl, ?_⟩
    · split
      · exact hy
      · exact hx
    · unfold eIf
      rw [q]
      simp only [Option.bind_some]
      have ef : (("r" : Str) == c || ("u" : Str) == c) = fstS c := by
        rcases hc with rfl | rfl | rfl | rfl <;> decide
      rw [ef]
      cases fstS c
      · simp [k1]
      · simp [k2']
  obtain ⟨z, hz, ez, e1⟩ := sq (mkS μ mk)
  have mz := h.lt z hz
  have am := at_oL (ns := mk) (j := z) (by rw [h.ml]; exact hz)
  have im : L2.ixN mk.length (z : Int) = some z := ixN_natD (by rw [h.ml]; exact hz)
  have gm : (mkS μ mk)[μ.length]? = some (.lst (oL mk)) := by simp [mkS]
  have sm' : ∀ v, (mkS μ mk).set μ.length (.lst (oL (mk.set z v))) = mkS μ (mk.set z v) := fun v => by simp [mkS]
  have bt := in_two (ec := eOp fIx (eVar 5) (eVar 8)) hc (.inl rfl) (.inr (.inl rfl)) (lk (some (.dat (.int (z : Int)))) a10 (mkS μ mk))
  have eb : (("r" : Str) == c || ("l" : Str) == c) = (c == "r" || c == "l") := by
    rcases hc with rfl | rfl | rfl | rfl <;> decide
  rw [eb] at bt
  have fin : ∀ (b : Bool), (c == "r" || c == "l") = b → ∃ mk', B1_law_K74 [a0, a1, a2, a3, a4, some (.dat (.str w)), some (.dat (.list (iL (trc R U (sgs w) 0)))), some (.ptr μ.length), some (.dat (.int (i : Int))), a9, a10, a11, a12, a13, a14, a15, a16] (mkS μ mk) =
      some (.nx [a0, a1, a2, a3, a4, some (.dat (.str w)), some (.dat (.list (iL (trc R U (sgs w) 0)))), some (.ptr μ.length), some (.dat (.int (i : Int))), some (.dat (.int (z : Int))), some (.dat (.int (if b then 2 else 1))), a11, a12, a13, a14, a15, a16] (mkS μ mk')) ∧ mk' = mk.set z (if b then tg2 (g0 mk z) else tg1 (g0 mk z)) := by
    intro b hb
    refine ⟨_, ?_, rfl⟩
    unfold B1_law_K74
    refine (seq_nx (ε' := [a0, a1, a2, a3, a4, some (.dat (.str w)), some (.dat (.list (iL (trc R U (sgs w) 0)))), some (.ptr μ.length), some (.dat (.int (i : Int))), some (.dat (.int (z : Int))), a10, a11, a12, a13, a14, a15, a16]) (μ' := mkS μ mk) (by unfold sSet; rw [e1]; rfl)).trans ?_
    refine (seq_nx (ε' := [a0, a1, a2, a3, a4, some (.dat (.str w)), some (.dat (.list (iL (trc R U (sgs w) 0)))), some (.ptr μ.length), some (.dat (.int (i : Int))), some (.dat (.int (z : Int))), some (.dat (.int (if b then 2 else 1))), a11, a12, a13, a14, a15, a16]) (μ' := mkS μ mk) (by unfold sSet eIf; rw [bt, hb]; cases b <;> rfl)).trans ?_
    have s1 := sm' (if b then tg2 (g0 mk z) else tg1 (g0 mk z))
    generalize mkS μ mk = M at *
    generalize g0 mk z = m at *
    have hm : m = 0 ∨ m = 1 ∨ m = 2 ∨ m = 3 := by omega
    cases b
    · simp only [Bool.false_eq_true, if_false] at s1 ⊢
      rcases hm with rfl | rfl | rfl | rfl
      · have s2 : oL (mk.set z (tg1 0)) = (oL mk).set z (.dat (.int 1)) := (oL_set mk z 1).symm
        rw [s2] at s1
        simp [gm, am, im, s1]
      · have s2 : oL (mk.set z (tg1 1)) = (oL mk).set z (.dat (.int 0)) := (oL_set mk z 0).symm
        rw [s2] at s1
        simp [gm, am, im, s1]
      · have s2 : oL (mk.set z (tg1 2)) = (oL mk).set z (.dat (.int 3)) := (oL_set mk z 3).symm
        rw [s2] at s1
        simp [gm, am, im, s1]
      · have s2 : oL (mk.set z (tg1 3)) = (oL mk).set z (.dat (.int 2)) := (oL_set mk z 2).symm
        rw [s2] at s1
        simp [gm, am, im, s1]
    · simp only [if_true] at s1 ⊢
      rcases hm with rfl | rfl | rfl | rfl
      · have s2 : oL (mk.set z (tg2 0)) = (oL mk).set z (.dat (.int 2)) := (oL_set mk z 2).symm
        rw [s2] at s1
        simp [gm, am, im, s1]
      · have s2 : oL (mk.set z (tg2 1)) = (oL mk).set z (.dat (.int 3)) := (oL_set mk z 3).symm
        rw [s2] at s1
        simp [gm, am, im, s1]
      · have s2 : oL (mk.set z (tg2 2)) = (oL mk).set z (.dat (.int 0)) := (oL_set mk z 0).symm
        rw [s2] at s1
        simp [gm, am, im, s1]
      · have s2 : oL (mk.set z (tg2 3)) = (oL mk).set z (.dat (.int 1)) := (oL_set mk z 1).symm
        rw [s2] at s1
        simp [gm, am, im, s1]
  obtain ⟨mk', e2, em⟩ := fin _ rfl
  refine ⟨mk', _, _, e2, ?_⟩
  rw [em]
  rcases hc with rfl | rfl | rfl | rfl
  · have : z = g0 R x := by rw [ez, ← stp_r (U := U)]; rfl
    rw [eL_r, ← this]
    exact h.t2 hz
  · have : z = x := by rw [ez]; exact if_neg (by decide)
    rw [eL_l, ← this]
    exact h.t2 hz
  · have : z = g0 U x := by rw [ez, ← stp_u (R := R)]; rfl
    rw [eL_u, ← this]
    exact h.t1 hz
  · have : z = x := by rw [ez]; exact if_neg (by decide)
    rw [eL_d, ← this]
    exact h.t1 hz
end CM
namespace CM
open PySem L2 VX
abbrev E17 (a0 a1 a2 a3 a4 a5 a6 a7 a8 a9 a10 a11 a12 a13 a14 a15 a16 : Option PV) : Evn := [a0, a1, a2, a3, a4, a5, a6, a7, a8, a9, a10, a11, a12, a13, a14, a15, a16]
theorem L1_law_K74_eq {R U : List Nat} {w : Str} {n : Nat} {μ : Sto} (F : Flo R U n) (hn0 : 0 < n) (g : GW (sgs w)) (hl : w.length ≤ 1000) (a0 a1 a2 a3 a4 a8 a9 a10 a11 a12 a13 a14 a15 a16 : Option PV) :
    ∃ mk a8' a9' a10', L1_law_K74 (E17 a0 a1 a2 a3 a4 (some (.dat (.str w))) (some (.dat (.list (iL (trc R U (sgs w) 0))))) (some (.ptr μ.length)) a8 a9 a10 a11 a12 a13 a14 a15 a16) (mkS μ (List.replicate n 0)) =
      some (.nx (E17 a0 a1 a2 a3 a4 (some (.dat (.str w))) (some (.dat (.list (iL (trc R U (sgs w) 0))))) (some (.ptr μ.length)) a8' a9' a10' a11 a12 a13 a14 a15 a16) (mkS μ mk)) ∧ Mks mk n (edL R U (sgs w) 0) := by
  have key := forD_all (G := fun _ => true) (tg := tgN 8) (b := B1_law_K74)
    (fun i ε M => ∃ mk a8' a9' a10', ε = E17 a0 a1 a2 a3 a4 (some (.dat (.str w))) (some (.dat (.list (iL (trc R U (sgs w) 0))))) (some (.ptr μ.length)) a8' a9' a10' a11 a12 a13 a14 a15 a16 ∧ M = mkS μ mk ∧ Mks mk n (edL R U ((sgs w).take i) 0)) ((List.range w.length).map fun i => PV.dat (.int (i : Nat))) (fun _ _ _ _ => rfl) (fun i p ε M hp hI => by
      obtain ⟨mk, b8, b9, b10, rfl, rfl, h⟩ := hI
      have hi : i < w.length := by simpa using (List.getElem?_eq_some_iff.mp hp).1
      have ep : p = .dat (.int (i : Int)) := by simpa [hi] using hp.symm
      subst ep
      obtain ⟨mk', c9, c10, e, h'⟩ := B1_law_K74_eq (μ := μ) F hn0 g hl (by rw [sgs_len]; exact hi) h a0 a1 a2 a3 a4 b9 b10 a11 a12 a13 a14 a15 a16
      exact ⟨_, _, _, _, rfl, e, mk', _, c9, c10, rfl, rfl, h'⟩)
    (ε := E17 a0 a1 a2 a3 a4 (some (.dat (.str w))) (some (.dat (.list (iL (trc R U (sgs w) 0))))) (some (.ptr μ.length)) a8 a9 a10 a11 a12 a13 a14 a15 a16) (μ := mkS μ (List.replicate n 0))
    ⟨_, a8, a9, a10, rfl, rfl, by simp, fun z hz => by simp [g0, List.getElem?_replicate, hz], fun z hz => by simp [g0, List.getElem?_replicate, hz, edL], fun z hz => by simp [g0, List.getElem?_replicate, hz, edL]⟩
  obtain ⟨ε', M', h1, mk, b8, b9, b10, rfl, rfl, h⟩ := key
  have el : (sgs w).take ((List.range w.length).map fun i => PV.dat (.int (i : Nat))).length = sgs w := by rw [List.take_of_length_le]; simp
  rw [el] at h
  refine ⟨mk, b8, b9, b10, ?_, h⟩
  have c : w.length ≤ 1000000 := by omega
  have c2 : w.length ≤ 100000 := by omega
  unfold L1_law_K74 sFor
  have sr : srcR1 (aCons (eCa fLen (aCons (eVar 5) (aNil))) (aNil)) (E17 a0 a1 a2 a3 a4 (some (.dat (.str w))) (some (.dat (.list (iL (trc R U (sgs w) 0))))) (some (.ptr μ.length)) a8 a9 a10 a11 a12 a13 a14 a15 a16) (mkS μ (List.replicate n 0)) = some (((List.range w.length).map fun i => PV.dat (.int (i : Nat)), none), mkS μ (List.replicate n 0)) := by
    simp [E17, cap, c, c2]
  rw [sr]
  simp only [Option.bind_some, okG_none, h1]
def dig : Nat → Str
  | 0 => "0"
  | 1 => "1"
  | 2 => "2"
  | _ => "3"
theorem dig_e {m : Nat} (h : m < 4) (μ : Sto) : fIx (.dat (.str "0123")) (.dat (.int (m : Int))) μ = some (.dat (.str (dig m)), μ) := by
  have e : ("0123" : Str).cps.toList = [48, 49, 50, 51] := by decide
  have l : ("0123" : Str).length ≤ 1000000 := by decide
  have a : ∀ j : Nat, j < 4 → L2.atI [48, 49, 50, 51] (j : Int) = ([48, 49, 50, 51] : List Nat)[j]? := fun j hj => by
    rw [atI_natD (by simpa using hj), List.getElem?_eq_getElem (by simpa using hj)]
  unfold fIx
  simp only [e, l, cap, if_true]
  rw [a m h]
  have hm : m = 0 ∨ m = 1 ∨ m = 2 ∨ m = 3 := by omega
  rcases hm with rfl | rfl | rfl | rfl <;> rfl
theorem dig_s {m : Nat} (h : m < 4) : sgs (dig m) = [dig m] ∧ PySem.intText? (dig m) = some ((m : Nat) : Int) := by
  have hm : m = 0 ∨ m = 1 ∨ m = 2 ∨ m = 3 := by omega
  rcases hm with rfl | rfl | rfl | rfl
  · exact ⟨by decide, it0⟩
  · exact ⟨by decide, it1⟩
  · exact ⟨by decide, it2⟩
  · exact ⟨by decide, it3⟩
def dgP : PV → PV
  | .dat (.int i) => .dat (.str (dig i.toNat))
  | p => p
theorem map_dgP (mk : List Nat) : (oL mk).map dgP = oS (mk.map dig) := by simp [oL, oS, dgP]
theorem marks_word {mk : List Nat} {n : Nat} {es : List Ed} {μ : Sto} (h : Mks mk n es) (hn : n ≤ 60) (a0 a1 a2 a3 a4 a5 a6 a8 a9 a10 a11 a12 a13 a14 a15 a16 : Option PV) :
    ∃ W, eJoin (eC (.str "")) C1_law_K74 (E17 a0 a1 a2 a3 a4 a5 a6 (some (.ptr μ.length)) a8 a9 a10 a11 a12 a13 a14 a15 a16) (mkS μ mk) = some (.dat (.str W), mkS μ mk) ∧ MkW W mk n := by
  have gm : (mkS μ mk)[μ.length]? = some (.lst (oL mk)) := by simp [mkS]
  have hG : okG (oL mk) (some μ.length) (mkS μ mk) = true := by
    unfold okG
    simp only [gm]
    rw [← map_iL]
    exact psEq_self _ (nbs_iL mk)
  have ml := h.ml
  have e := lcD_map (G := okG (oL mk) (some μ.length)) (tg := tgN 12) (te := eOp fIx (eC (.str "0123")) (eVar 12)) (w := E17 a0 a1 a2 a3 a4 a5 a6 (some (.ptr μ.length)) a8 a9 a10 a11 none a13 a14 a15 a16) (μ := mkS μ mk) dgP (oL mk) (fun p hp => by
    obtain ⟨m, hm, rfl⟩ := List.mem_map.mp hp
    obtain ⟨j, hj, rfl⟩ := mem_g0 hm
    have l := h.lt j (by omega)
    refine ⟨_, rfl, ?_⟩
    have d := dig_e l (mkS μ mk)
    exact d) hG
  rw [map_dgP] at e
  have c : (mk.map dig).length ≤ 1000000 := by simp; omega
  have C1 : C1_law_K74 (E17 a0 a1 a2 a3 a4 a5 a6 (some (.ptr μ.length)) a8 a9 a10 a11 a12 a13 a14 a15 a16) (mkS μ mk) = some (.dat (.list (iS (mk.map dig))), mkS μ mk) := by
    unfold C1_law_K74 eLc
    have sr : srcSeq (eVar 7) (E17 a0 a1 a2 a3 a4 a5 a6 (some (.ptr μ.length)) a8 a9 a10 a11 a12 a13 a14 a15 a16) (mkS μ mk) = some ((oL mk, some μ.length), mkS μ mk) := by
      generalize mkS μ mk = M at *
      simp [gm]
    rw [sr]
    simp only [Option.bind_some, wipeE, List.set_cons_succ, List.set_cons_zero]
    simp only [E17] at e
    rw [e]
    unfold mkL
    simp only [Option.bind_some, oS_len, cap, c, if_true, Bool.false_eq_true, if_false, asDats_oS, Option.map_some]
  have one : ∀ d ∈ mk.map dig, sgs d = [d] := fun d hd => by
    obtain ⟨m, hm, rfl⟩ := List.mem_map.mp hd
    obtain ⟨j, hj, rfl⟩ := mem_g0 hm
    exact (dig_s (h.lt j (by omega))).1
  have sj := sgs_join _ one
  have sl : sumLen "" (mk.map dig) ≤ 1000000 := by
    have e1 : ∀ l : List Str, (∀ d ∈ l, sgs d = [d]) → (l.map (·.length)).sum = l.length := by
      intro l
      induction l with
      | nil => intro _; rfl
      | cons d l ih =>
        intro hd
        rw [List.map_cons, List.sum_cons, ih fun x hx => hd x (List.mem_cons_of_mem _ hx)]
        have : d.length = 1 := by rw [← sgs_len, hd d List.mem_cons_self]; rfl
        rw [this]; simp; omega
    unfold sumLen
    rw [e1 _ one, show ("" : Str).length = 0 by decide]
    simpa using c
  refine ⟨Txt.join "" (mk.map dig), ?_, ml, ?_, fun x hx => ?_⟩
  · unfold eJoin
    simp only [eC, Option.bind_some]
    rw [C1]
    generalize mkS μ mk = M at *
    simp [map_iS, cap, sl]
  · rw [← sgs_len, sj]; simp [ml]
  · have hx' : x < (sgs (Txt.join "" (mk.map dig))).length := by rw [sj]; simp; omega
    obtain ⟨ch, e1, e2⟩ := sgs_get hx'
    refine ⟨ch, e1, ?_⟩
    rw [e2]
    have e3 : (sgs (Txt.join "" (mk.map dig)))[x] = dig (g0 mk x) := by
      simp only [sj, List.getElem_map]
      rw [g0_of (by omega)]
    rw [e3]
    exact (dig_s (h.lt x hx)).2
theorem sm_mod {m m' : Ed → Nat} : ∀ {es : List Ed}, (∀ e ∈ es, m e % 2 = m' e % 2) → sm m es % 2 = sm m' es % 2
  | [], _ => rfl
  | e :: es, h => by
    have ih := sm_mod (m := m) (m' := m') (es := es) fun f hf => h f (List.mem_cons_of_mem _ hf)
    have := h e List.mem_cons_self
    rw [sm_cons, sm_cons]; omega
theorem edW_lt {R U : List Nat} {n : Nat} (F : Flo R U n) : ∀ {cs : List Str} {h : Nat}, GW cs → h < n → ∀ e ∈ edW R U cs h, e.2 < n
  | [], h, _, _, e, he => by cases he
  | c :: cs, h, g, hh, e, he => by
    simp only [edW, List.mem_cons] at he
    rcases he with rfl | he
    · exact eW_lt F g.hd hh
    · exact edW_lt F g.tl (stp_lt F g.hd hh) e he
theorem Mks.mod {mk : List Nat} {n : Nat} {es : List Ed} (h : Mks mk n es) {e : Ed} (he : e.2 < n) : mkE mk e % 2 = es.count e % 2 := by
  obtain ⟨b, x⟩ := e
  have l := h.lt x he
  cases b
  · have := h.p2 x he
    show (g0 mk x / 2) % 2 = _
    omega
  · have := h.p1 x he
    show (g0 mk x % 2) % 2 = _
    omega
/-- how often a way crosses the loop, by parity, is where it leads above -/
theorem cross_par {R U mk : List Nat} {n s : Nat} {w v : Str} {t : Int} (F : Flo R U n) (hs : s < n) (g : GW (sgs w)) (M : Mks mk n (edL R U (sgs v) 0)) (h : (t - (sm (fun e => (edW R U (sgs w) s).count e) (edL R U (sgs v) 0) : Nat)) % 2 = 0) : t % 2 = ((sm (mkE mk) (edW R U (sgs w) s) % 2 : Nat) : Int) := by
  rw [dbl] at h
  have := sm_mod (m := mkE mk) (m' := fun e => (edL R U (sgs v) 0).count e) (es := edW R U (sgs w) s) fun e he => M.mod (edW_lt F g hs e he)
  rw [this]
  have q : sm (fun e => List.count e (edL R U (sgs v) 0)) (edW R U (sgs w) s) = sm (fun e => (edL R U (sgs v) 0).count e) (edW R U (sgs w) s) := rfl
  omega
end CM
namespace CM
open PySem L2 VX
theorem lcD_strs {tg : TgF} {tt : TsF} {te : EvF} {w : Evn} {μ : Sto} (t : Str → Bool) : ∀ ws : List Str, (∀ v ∈ ws, ∃ ε, tg (.dat (.str v)) w μ = some (ε, μ) ∧ tt ε μ = some (t v, μ) ∧ te ε μ = some (.dat (.str v), μ)) → lcD (fun _ => true) tg tt te w (oS ws) μ = some (oS (ws.filter t), μ)
  | [], _ => by simp [lcD, oS]
  | v :: r, h => by
    obtain ⟨ε, h1, h2, h3⟩ := h v List.mem_cons_self
    have ih := lcD_strs (tg := tg) (tt := tt) (te := te) (w := w) (μ := μ) t r (fun x hx => h x (List.mem_cons_of_mem _ hx))
    have e : oS (v :: r) = .dat (.str v) :: oS r := rfl
    rw [e]
    cases q : t v with
    | true => simp [lcD, h1, h2, q, h3, ih]; rfl
    | false => simp [lcD, h1, h2, q, ih]
def oddW (R U mk : List Nat) (w : Str) : Bool := decide (sm (mkE mk) (edW R U (sgs w) 0) % 2 = 1)
theorem odd_e {R U mk : List Nat} {n : Nat} {v : Str} {ws : List Str} (F : Flo R U n) (hn0 : 0 < n) (gv : GW (sgs v)) (lv : v.length ≤ 1000) (M : Mks mk n (edL R U (sgs v) 0)) (hw : ∀ w ∈ ws, GW (sgs w) ∧ ends R U (sgs w) 0 = 0 ∧ w.length ≤ 200) (wl : ws.length ≤ 200) (μ : Sto) (a0 a1 a3 a6 a7 a8 a9 a10 a11 a12 a13 a14 a15 a16 : Option PV) :
    eOp fGt (eCa fLen (aCons (C2_law_K74) (aNil))) (eC (.int 0)) (E17 a0 a1 (some (.dat (flo R U))) a3 (some (.dat (.list (iS ws)))) (some (.dat (.str v))) a6 a7 a8 a9 a10 a11 a12 a13 a14 a15 a16) μ = some (.dat (.bool (decide (∃ w ∈ ws, oddW R U mk w = true))), μ) := by
  have e := lcD_strs (tg := tgN 14) (tt := tsE (eOp (fEq false) (eOp fMod (eCallP 3 F_crossing (aCons (eVar 2) (aCons (eTup (aCons (eC (.int 0)) (aCons (eVar 14) (aNil)))) (aCons (eTup (aCons (eC (.int 0)) (aCons (eVar 5) (aNil)))) (aNil))))) (eC (.int 2))) (eC (.int 1)))) (te := eVar 14) (w := E17 a0 a1 (some (.dat (flo R U))) a3 (some (.dat (.list (iS ws)))) (some (.dat (.str v))) a6 a7 a8 a9 a10 a11 a12 a13 none a15 a16) (μ := μ) (oddW R U mk) ws (fun w hwm => by
    obtain ⟨g, c, l⟩ := hw w hwm
    obtain ⟨t, e1, ht⟩ := F_crossing_eq F hn0 hn0 g (by omega) gv lv
    have p := cross_par F hn0 g M ht
    have e1' : F_crossing [flo R U, .tuple [.int 0, .str w], .tuple [.int 0, .str v]] = some (.int t) := e1
    refine ⟨_, rfl, ?_, by simp [E17]⟩
    have q : (t % 2 = 1) ↔ sm (mkE mk) (edW R U (sgs w) 0) % 2 = 1 := by rw [p]; omega
    simp [E17, asDats, cap, e1', oddW, q])
  have fl := List.length_filter_le (oddW R U mk) ws
  have c : (ws.filter (oddW R U mk)).length ≤ 1000000 := by omega
  have C2 : C2_law_K74 (E17 a0 a1 (some (.dat (flo R U))) a3 (some (.dat (.list (iS ws)))) (some (.dat (.str v))) a6 a7 a8 a9 a10 a11 a12 a13 a14 a15 a16) μ = some (.dat (.list (iS (ws.filter (oddW R U mk)))), μ) := by
    unfold C2_law_K74 eLc
    have sr : srcSeq (eVar 4) (E17 a0 a1 (some (.dat (flo R U))) a3 (some (.dat (.list (iS ws)))) (some (.dat (.str v))) a6 a7 a8 a9 a10 a11 a12 a13 a14 a15 a16) μ = some ((oS ws, none), μ) := by
      simp [E17, map_iS]
    rw [sr]
    simp only [Option.bind_some, wipeE, List.set_cons_succ, List.set_cons_zero, okG_none]
    simp only [E17] at e
    rw [e]
    unfold mkL
    simp only [Option.bind_some, oS_len, cap, c, if_true, Bool.false_eq_true, if_false, asDats_oS, Option.map_some]
  have ln : eCa fLen (aCons (C2_law_K74) (aNil)) (E17 a0 a1 (some (.dat (flo R U))) a3 (some (.dat (.list (iS ws)))) (some (.dat (.str v))) a6 a7 a8 a9 a10 a11 a12 a13 a14 a15 a16) μ = some (.dat (.int ((ws.filter (oddW R U mk)).length : Nat)), μ) := by
    unfold eCa aCons
    rw [C2]
    simp [map_iS]
  unfold eOp
  rw [ln]
  simp only [eC, Option.bind_some, fGt, fIB]
  have z : decide ((0 : Int) < ((ws.filter (oddW R U mk)).length : Nat)) = decide (∃ w ∈ ws, oddW R U mk w = true) := by
    rw [decide_eq_decide]
    constructor
    · intro h
      have h' : 0 < (ws.filter (oddW R U mk)).length := by omega
      obtain ⟨w, hw⟩ := List.exists_mem_of_length_pos h'
      exact ⟨w, (List.mem_filter.mp hw).1, (List.mem_filter.mp hw).2⟩
    · rintro ⟨w, h1, h2⟩
      have : 0 < (ws.filter (oddW R U mk)).length := List.length_pos_of_mem (List.mem_filter.mpr ⟨h1, h2⟩)
      omega
  rw [← z]
theorem B2_law_K74_eq {R U mk : List Nat} {n p q : Nat} {v : Str} {μ : Sto} (F : Flo R U n) (hn0 : 0 < n) (hn : n ≤ 6) (H : Hang R U n) (gv : GW (sgs v)) (lv : v.length ≤ 1000) (M : Mks mk n (edL R U (sgs v) 0)) (h : StA μ p q) (a0 a4 a6 a7 a8 a9 a10 a12 a13 a14 a15 a16 : Option PV) :
    ∃ a9' a14' a16' μ', B2_law_K74 (E17 a0 (some (.ptr p)) (some (.dat (flo R U))) (some (.dat (.int (n : Int)))) a4 (some (.dat (.str v))) a6 a7 a8 a9 a10 (some (.dat (flo (R2 R n (mkE mk)) (U2 U n (mkE mk))))) a12 a13 a14 a15 a16) μ =
      some (.nx (E17 a0 (some (.ptr p)) (some (.dat (flo R U))) (some (.dat (.int (n : Int)))) a4 (some (.dat (.str v))) a6 a7 a8 a9' a10 (some (.dat (flo (R2 R n (mkE mk)) (U2 U n (mkE mk))))) a12 a13 a14' a15 a16') μ') ∧ StA μ' p q := by
  obtain ⟨s, μ1, e1, hs, h1, _⟩ := take_e h (most := n) hn0 (by omega) (ε := E17 a0 (some (.ptr p)) (some (.dat (flo R U))) (some (.dat (.int (n : Int)))) a4 (some (.dat (.str v))) a6 a7 a8 a9 a10 (some (.dat (flo (R2 R n (mkE mk)) (U2 U n (mkE mk))))) a12 a13 a14 a15 a16) (e1 := eVar 1) (e2 := eVar 3) rfl rfl
  obtain ⟨w, μ2, e2, g, hc, l, h2⟩ := F__law_closed_eq F hs H h1
  have F2 := flo2 (m := mkE mk) F (by omega : 2 * n ≤ 60)
  have led := F_led_eq F2 (s := s) (by omega) g (by omega)
  have en := ends2 (m := mkE mk) F (x := s) (b := 0) g hs (by decide)
  rw [Nat.mul_zero, Nat.add_zero, hc, Nat.zero_add] at en
  rw [en] at led
  obtain ⟨t, e3, ht⟩ := F_crossing_eq F hs hn0 g (by omega) gv lv
  have e3' : F_crossing [flo R U, .tuple [.int (s : Int), .str w], .tuple [.int 0, .str v]] = some (.int t) := e3
  have par := cross_par F hs g M ht
  generalize hb : sm (mkE mk) (edW R U (sgs w) s) % 2 = b at *
  have hb2 : b < 2 := by rw [← hb]; exact Nat.mod_lt _ (by decide)
  refine ⟨some (.dat (.int (s : Int))), some (.dat (.str w)), some (.dat (.int ((s + n * b : Nat) : Int))), μ2, ?_, h2⟩
  unfold B2_law_K74
  refine (seq_nx (ε' := E17 a0 (some (.ptr p)) (some (.dat (flo R U))) (some (.dat (.int (n : Int)))) a4 (some (.dat (.str v))) a6 a7 a8 (some (.dat (.int (s : Int)))) a10 (some (.dat (flo (R2 R n (mkE mk)) (U2 U n (mkE mk))))) a12 a13 a14 a15 a16) (μ' := μ1) (by unfold sSet; rw [e1]; rfl)).trans ?_
  refine (seq_nx (ε' := E17 a0 (some (.ptr p)) (some (.dat (flo R U))) (some (.dat (.int (n : Int)))) a4 (some (.dat (.str v))) a6 a7 a8 (some (.dat (.int (s : Int)))) a10 (some (.dat (flo (R2 R n (mkE mk)) (U2 U n (mkE mk))))) a12 a13 (some (.dat (.str w))) a15 a16) (μ' := μ2) (by simp [E17, e2])).trans ?_
  refine (seq_nx (ε' := E17 a0 (some (.ptr p)) (some (.dat (flo R U))) (some (.dat (.int (n : Int)))) a4 (some (.dat (.str v))) a6 a7 a8 (some (.dat (.int (s : Int)))) a10 (some (.dat (flo (R2 R n (mkE mk)) (U2 U n (mkE mk))))) a12 a13 (some (.dat (.str w))) a15 (some (.dat (.int ((s + n * b : Nat) : Int))))) (μ' := μ2) (by simp [E17, asDats, led])).trans ?_
  have q1 : tsE (eOp (fIn true) (eVar 16) (eLst false (aCons (eVar 9) (aCons (eOp (fAdd false) (eVar 9) (eVar 3)) (aNil))))) (E17 a0 (some (.ptr p)) (some (.dat (flo R U))) (some (.dat (.int (n : Int)))) a4 (some (.dat (.str v))) a6 a7 a8 (some (.dat (.int (s : Int)))) a10 (some (.dat (flo (R2 R n (mkE mk)) (U2 U n (mkE mk))))) a12 a13 (some (.dat (.str w))) a15 (some (.dat (.int ((s + n * b : Nat) : Int))))) μ2 = some (false, μ2) := by
    have sh : SeqAt.shaped (.list [.int (s : Int), .int ((s : Int) + (n : Int))]) = true := by
      have := shaped_iZ [(s : Int), (s : Int) + (n : Int)]
      simpa [iZ] using this
    have hb' : b = 0 ∨ b = 1 := by omega
    rcases hb' with rfl | rfl
    · simp [E17, asDats, cap, sh]
    · simp [E17, asDats, cap, sh]
  have hp : t % 2 = 0 ↔ b = 0 := by rw [par]; omega
  have hq : (((s + n * b : Nat) : Int) = (s : Int)) ↔ b = 0 := by
    have hb' : b = 0 ∨ b = 1 := by omega
    rcases hb' with rfl | rfl
    · simp
    · simp; omega
  have q2 : tsE (eOp (fEq true) (eOp (fEq false) (eVar 16) (eVar 9)) (eOp (fEq false) (eOp fMod (eCallP 3 F_crossing (aCons (eVar 2) (aCons (eTup (aCons (eVar 9) (aCons (eVar 14) (aNil)))) (aCons (eTup (aCons (eC (.int 0)) (aCons (eVar 5) (aNil)))) (aNil))))) (eC (.int 2))) (eC (.int 0)))) (E17 a0 (some (.ptr p)) (some (.dat (flo R U))) (some (.dat (.int (n : Int)))) a4 (some (.dat (.str v))) a6 a7 a8 (some (.dat (.int (s : Int)))) a10 (some (.dat (flo (R2 R n (mkE mk)) (U2 U n (mkE mk))))) a12 a13 (some (.dat (.str w))) a15 (some (.dat (.int ((s + n * b : Nat) : Int))))) μ2 = some (false, μ2) := by
    have l1 : eOp (fEq false) (eVar 16) (eVar 9) (E17 a0 (some (.ptr p)) (some (.dat (flo R U))) (some (.dat (.int (n : Int)))) a4 (some (.dat (.str v))) a6 a7 a8 (some (.dat (.int (s : Int)))) a10 (some (.dat (flo (R2 R n (mkE mk)) (U2 U n (mkE mk))))) a12 a13 (some (.dat (.str w))) a15 (some (.dat (.int ((s + n * b : Nat) : Int))))) μ2 = some (.dat (.bool (decide (b = 0))), μ2) := by
      have : decide (((s + n * b : Nat) : Int) = (s : Int)) = decide (b = 0) := by rw [decide_eq_decide]; exact hq
      rw [← this]
      generalize s + n * b = B
      simp [E17]
    have l2 : eOp (fEq false) (eOp fMod (eCallP 3 F_crossing (aCons (eVar 2) (aCons (eTup (aCons (eVar 9) (aCons (eVar 14) (aNil)))) (aCons (eTup (aCons (eC (.int 0)) (aCons (eVar 5) (aNil)))) (aNil))))) (eC (.int 2))) (eC (.int 0)) (E17 a0 (some (.ptr p)) (some (.dat (flo R U))) (some (.dat (.int (n : Int)))) a4 (some (.dat (.str v))) a6 a7 a8 (some (.dat (.int (s : Int)))) a10 (some (.dat (flo (R2 R n (mkE mk)) (U2 U n (mkE mk))))) a12 a13 (some (.dat (.str w))) a15 (some (.dat (.int ((s + n * b : Nat) : Int))))) μ2 = some (.dat (.bool (decide (b = 0))), μ2) := by
      have : decide (t % 2 = 0) = decide (b = 0) := by rw [decide_eq_decide]; exact hp
      rw [← this]
      generalize s + n * b = B
      simp [E17, asDats, cap, e3']
    have sb : SeqAt.shaped (.bool (decide (b = 0))) = true := (show Sd 0 (.bool (decide (b = 0))) from ⟨by simp [PyData.canLay0], by simp [PyData.depth]⟩).shaped (by decide)
    have u : ∀ (f : OpF) (a b : EvF) (ε : Evn) (μ : Sto), eOp f a b ε μ = (a ε μ).bind fun x => (b ε x.2).bind fun y => f x.1 y.1 y.2 := fun _ _ _ _ _ => rfl
    unfold tsE
    rw [u, l1]
    simp only [Option.bind_some]
    rw [l2]
    have ve : ∀ a b : Bool, PyData.eqv (.bool a) (.bool b) = (a == b) := fun a b => by simp [PyData.eqv]
    simp [sb, ve]
  unfold sIf tsOr
  rw [q1]
  simp only [Option.bind_some, Bool.false_eq_true, if_false]
  rw [q2]
  rfl
theorem L2_law_K74_eq {R U mk : List Nat} {n p q : Nat} {v : Str} {μ : Sto} (F : Flo R U n) (hn0 : 0 < n) (hn : n ≤ 6) (H : Hang R U n) (gv : GW (sgs v)) (lv : v.length ≤ 1000) (M : Mks mk n (edL R U (sgs v) 0)) (h : StA μ p q) (a0 a4 a6 a7 a8 a9 a10 a12 a13 a14 a15 a16 : Option PV) :
    ∃ ε' μ', L2_law_K74 (E17 a0 (some (.ptr p)) (some (.dat (flo R U))) (some (.dat (.int (n : Int)))) a4 (some (.dat (.str v))) a6 a7 a8 a9 a10 (some (.dat (flo (R2 R n (mkE mk)) (U2 U n (mkE mk))))) a12 a13 a14 a15 a16) μ = some (.nx ε' μ') := by
  have key := forD_all (G := fun _ => true) (tg := tgN 15) (b := B2_law_K74)
    (fun i ε M' => ∃ a9' a14' a15' a16', ε = E17 a0 (some (.ptr p)) (some (.dat (flo R U))) (some (.dat (.int (n : Int)))) a4 (some (.dat (.str v))) a6 a7 a8 a9' a10 (some (.dat (flo (R2 R n (mkE mk)) (U2 U n (mkE mk))))) a12 a13 a14' a15' a16' ∧ StA M' p q) ((List.range 6).map fun i => PV.dat (.int (i : Nat))) (fun _ _ _ _ => rfl) (fun i x ε M' hp hI => by
      obtain ⟨b9, b14, b15, b16, rfl, h'⟩ := hI
      obtain ⟨c9, c14, c16, μ', e, h''⟩ := B2_law_K74_eq F hn0 hn H gv lv M h' a0 a4 a6 a7 a8 b9 a10 a12 a13 b14 (some x) b16
      exact ⟨_, _, _, _, rfl, e, c9, c14, _, c16, rfl, h''⟩)
    (ε := E17 a0 (some (.ptr p)) (some (.dat (flo R U))) (some (.dat (.int (n : Int)))) a4 (some (.dat (.str v))) a6 a7 a8 a9 a10 (some (.dat (flo (R2 R n (mkE mk)) (U2 U n (mkE mk))))) a12 a13 a14 a15 a16) (μ := μ) ⟨a9, a14, a15, a16, rfl, h⟩
  obtain ⟨ε', μ', h1, _⟩ := key
  refine ⟨ε', μ', ?_⟩
  unfold L2_law_K74 sFor
  have sr : srcR1 (aCons (eC (.int 6)) (aNil)) (E17 a0 (some (.ptr p)) (some (.dat (flo R U))) (some (.dat (.int (n : Int)))) a4 (some (.dat (.str v))) a6 a7 a8 a9 a10 (some (.dat (flo (R2 R n (mkE mk)) (U2 U n (mkE mk))))) a12 a13 a14 a15 a16) μ = some (((List.range 6).map fun i => PV.dat (.int (i : Nat)), none), μ) := by
    have c : inRg 6 = true := inRg_int (by omega) (by omega)
    simp [c]
  rw [sr]
  simp only [Option.bind_some, okG_none, h1]
end CM
namespace CM
open PySem L2 VX
/-- a loop drawn -/
theorem pick_e {ws : List Str} {p q : Nat} {μ : Sto} (h : StA μ p q) (h0 : 0 < ws.length) (hl : ws.length ≤ 200) {ε : Evn} (x1 : ε[1]? = some (some (.ptr p))) (x4 : ε[4]? = some (some (.dat (.list (iS ws))))) :
    ∃ w μ', eOp fIx (eVar 4) (eCallG 2 F__law_take (aCons (eVar 1) (aCons (eCa fLen (aCons (eVar 4) (aNil))) (aNil)))) ε μ = some (.dat (.str w), μ') ∧ w ∈ ws ∧ StA μ' p q := by
  have v1 : eVar 1 ε μ = some (.ptr p, μ) := by simp [x1]
  have v4 : eVar 4 ε μ = some (.dat (.list (iS ws)), μ) := by simp [x4]
  have ln : eCa fLen (aCons (eVar 4) (aNil)) ε μ = some (.dat (.int (ws.length : Nat)), μ) := by
    unfold eCa aCons
    rw [v4]
    simp [map_iS]
  obtain ⟨i, μ', e, hi, h', _⟩ := take_e h h0 (by omega) (ε := ε) (e1 := eVar 1) (e2 := eCa fLen (aCons (eVar 4) (aNil))) v1 ln
  have a : L2.atI (oS ws) (i : Int) = some (.dat (.str ws[i])) := by
    rw [atI_natD (by simpa using hi)]
    simp [oS]
  refine ⟨ws[i], μ', ?_, List.getElem_mem hi, h'⟩
  unfold eOp
  rw [v4]
  simp only [Option.bind_some]
  rw [e]
  simp [map_iS, a]
theorem loop_e {R U : List Nat} {n : Nat} {ws : List Str} {p q : Nat} {μ : Sto} (P : Lps R U n ws) (h : StA μ p q) (h0 : 0 < ws.length) {ε : Evn} (x1 : ε[1]? = some (some (.ptr p))) (x4 : ε[4]? = some (some (.dat (.list (iS ws))))) :
    ∃ v μ', eOp (fAdd false) (eOp fIx (eVar 4) (eCallG 2 F__law_take (aCons (eVar 1) (aCons (eCa fLen (aCons (eVar 4) (aNil))) (aNil))))) (eIf (tsE (eOp (fEq false) (eCallG 2 F__law_take (aCons (eVar 1) (aCons (eC (.int 2)) (aNil)))) (eC (.int 0)))) (eOp fIx (eVar 4) (eCallG 2 F__law_take (aCons (eVar 1) (aCons (eCa fLen (aCons (eVar 4) (aNil))) (aNil))))) (eC (.str ""))) ε μ = some (.dat (.str v), μ') ∧ GW (sgs v) ∧ ends R U (sgs v) 0 = 0 ∧ v.length ≤ 1000 ∧ StA μ' p q := by
  have hl := P.len
  obtain ⟨w, μ1, e1, hw, h1⟩ := pick_e h h0 hl x1 x4
  obtain ⟨g1, c1, l1⟩ := P.ok w hw
  obtain ⟨j, μ2, e2, hj, h2, _⟩ := take_e h1 (most := 2) (by decide) (by decide) (ε := ε) (e1 := eVar 1) (e2 := eC (.int 2)) (by simp [x1]) rfl
  have t : tsE (eOp (fEq false) (eCallG 2 F__law_take (aCons (eVar 1) (aCons (eC (.int 2)) (aNil)))) (eC (.int 0))) ε μ1 = some (decide (j = 0), μ2) := by
    have u : ∀ (f : OpF) (a b : EvF) (ε : Evn) (μ : Sto), eOp f a b ε μ = (a ε μ).bind fun x => (b ε x.2).bind fun y => f x.1 y.1 y.2 := fun _ _ _ _ _ => rfl
    unfold tsE
    rw [u, e2]
    simp
  by_cases q0 : j = 0
  · obtain ⟨w2, μ3, e3, hw2, h3⟩ := pick_e h2 h0 hl x1 x4
    obtain ⟨g2, c2, l2⟩ := P.ok w2 hw2
    refine ⟨w ++ w2, μ3, ?_, by rw [sgs_app]; exact g1.app g2, by rw [sgs_app, ends_app, c1, c2], by rw [len_app]; omega, h3⟩
    have c : w.length + w2.length ≤ 1000000 := by omega
    have u : ∀ (f : OpF) (a b : EvF) (ε : Evn) (μ : Sto), eOp f a b ε μ = (a ε μ).bind fun x => (b ε x.2).bind fun y => f x.1 y.1 y.2 := fun _ _ _ _ _ => rfl
    rw [u, e1]
    simp only [Option.bind_some]
    unfold eIf
    rw [t, decide_eq_true q0]
    simp only [Option.bind_some, if_true]
    rw [e3]
    simp [cap, c]
  · have le : ("" : Str).length = 0 := by decide
    refine ⟨w ++ "", μ2, ?_, by rw [sgs_app, sgs_nil, List.append_nil]; exact g1, by rw [sgs_app, sgs_nil, List.append_nil, c1], by rw [len_app, le]; omega, h2⟩
    have c : w.length ≤ 1000000 := by omega
    have u : ∀ (f : OpF) (a b : EvF) (ε : Evn) (μ : Sto), eOp f a b ε μ = (a ε μ).bind fun x => (b ε x.2).bind fun y => f x.1 y.1 y.2 := fun _ _ _ _ _ => rfl
    rw [u, e1]
    simp only [Option.bind_some]
    unfold eIf
    rw [t, decide_eq_false q0]
    simp [cap, c, le]
theorem C3_e {n : Nat} (h0 : 0 < n) (hn : n ≤ 6) (μ : Sto) (a0 a1 a2 a4 a5 a6 a7 a8 a9 a10 a11 a12 a13 a14 a15 a16 : Option PV) : C3_law_K74 (E17 a0 a1 a2 (some (.dat (.int (n : Int)))) a4 a5 a6 a7 a8 a9 a10 a11 a12 a13 a14 a15 a16) μ = some (.dat (.list (iL (modL n))), μ) := by
  have e := lcD_map (G := fun _ => true) (tg := tgN 9) (te := eOp fMod (eVar 9) (eVar 3)) (w := E17 a0 a1 a2 (some (.dat (.int (n : Int)))) a4 a5 a6 a7 a8 none a10 a11 a12 a13 a14 a15 a16) (μ := μ)
    (fun p => match p with | .dat (.int i) => .dat (.int ((i.toNat % n : Nat) : Int)) | p => p) ((List.range (2 * n)).map fun (i : Nat) => PV.dat (.int (i : Int))) (fun p hp => by
      obtain ⟨i, hi, rfl⟩ := List.mem_map.mp hp
      have q : (0 : Int) < (n : Int) := by omega
      exact ⟨_, rfl, by simp [E17, q, h0]⟩) rfl
  have e3 : ((List.range (2 * n)).map fun (i : Nat) => PV.dat (.int (i : Int))).map (fun p => match p with | .dat (.int i) => PV.dat (.int ((i.toNat % n : Nat) : Int)) | p => p) = oL (modL n) := by
    simp [oL, modL]
  rw [e3] at e
  have q3 : inMul (n : Int) = true := inMul_sm (by omega) (by omega)
  have c5 : inRg (2 * (n : Int)) = true := inRg_int (by omega) (by omega)
  have c6 : (2 * (n : Int)).toNat = 2 * n := by omega
  have c7 : (modL n).length ≤ 1000000 := by rw [modL_len]; omega
  unfold C3_law_K74 eLc
  have sr : srcR1 (aCons (eOp (fMul false) (eC (.int 2)) (eVar 3)) (aNil)) (E17 a0 a1 a2 (some (.dat (.int (n : Int)))) a4 a5 a6 a7 a8 a9 a10 a11 a12 a13 a14 a15 a16) μ = some (((List.range (2 * n)).map fun (i : Nat) => PV.dat (.int (i : Int)), none), μ) := by
    simp [E17, q3, c5, c6]
  rw [sr]
  simp only [Option.bind_some, okG_none, wipeE, List.set_cons_succ, List.set_cons_zero]
  simp only [E17] at e
  rw [e]
  simp [cap, c7]
open Classical in
/-- the plain law -/
theorem F_law_K74_eq (ns : List Int) (hns : ns.length ≤ 63) : ∃ μ, F_law_K74 [.scr ns] [] = some (.dat (.bool true), μ) := by
  obtain ⟨p, q, μ1, e1, s1⟩ := F__law_state_eq hns
  obtain ⟨R, U, n, μ2, e2, F, H, hn0, hn6, s2⟩ := F__law_floor_eq s1
  obtain ⟨C, ec, Q⟩ := F_corner_of_eq F
  have es := F_sides_of_eq F Q.len ec
  obtain ⟨D, T0, s, el, ti, ha, li⟩ := F_loops_of_eq F hn0 H Q.len es
  have P := lps_of F hn0 (by omega) Q ti ha li
  generalize wsT R U D s.T (sdL n) = ws at *
  have wl := P.len
  suffices S : ∃ v μ, r_law_K74 (startE 17 [.scr ns]) [] = some (.rt v μ) ∧ v = .dat (.bool true) by
    obtain ⟨v, μ, e, rfl⟩ := S
    exact ⟨μ, fnG_rt rfl e⟩
  have s0 : startE 17 [PV.scr ns] = E17 (some (.scr ns)) none none none none none none none none none none none none none none none none := rfl
  rw [s0]
  unfold r_law_K74
  rw [seq_nx (ε' := E17 (some (.scr ns)) (some (.ptr p)) none none none none none none none none none none none none none none none) (μ' := μ1) (by simp [E17, e1])]
  rw [seq_nx (ε' := E17 (some (.scr ns)) (some (.ptr p)) (some (.dat (flo R U))) none none none none none none none none none none none none none none) (μ' := μ2) (by simp [E17, e2])]
  rw [seq_nx (ε' := E17 (some (.scr ns)) (some (.ptr p)) (some (.dat (flo R U))) (some (.dat (.int (n : Int)))) none none none none none none none none none none none none none) (μ' := μ2) (by simp [E17, F.lR])]
  rw [seq_nx (ε' := E17 (some (.scr ns)) (some (.ptr p)) (some (.dat (flo R U))) (some (.dat (.int (n : Int)))) (some (.dat (.list (iS ws)))) none none none none none none none none none none none none) (μ' := μ2) (by simp [E17, asDats, el])]
  by_cases w0 : ws.length = 0
  · refine ⟨_, μ2, seq_t ?_ rfl, rfl⟩
    simp [E17, map_iS, w0]
  · rw [seq_f (by simp [E17, map_iS, w0])]
    obtain ⟨v, μ3, ev, gv, cv, lv, s3⟩ := loop_e P s2 (by omega) (ε := E17 (some (.scr ns)) (some (.ptr p)) (some (.dat (flo R U))) (some (.dat (.int (n : Int)))) (some (.dat (.list (iS ws)))) none none none none none none none none none none none none) rfl rfl
    rw [seq_nx (ε' := E17 (some (.scr ns)) (some (.ptr p)) (some (.dat (flo R U))) (some (.dat (.int (n : Int)))) (some (.dat (.list (iS ws)))) (some (.dat (.str v))) none none none none none none none none none none none) (μ' := μ3) (by unfold sSet; rw [ev]; rfl)]
    have tr := F_trace_eq F hn0 gv lv
    have tr' : F_trace [flo R U, .int 0, .str v] = some (.list (iL (trc R U (sgs v) 0))) := tr
    have lt' : F__law_trace [flo R U, .int 0, .str v] = some (.list (iL (trc R U (sgs v) 0))) := F__law_trace_eq F hn0 gv lv
    have c1 : n ≤ 1000000 := by omega
    have c2 : inIx (n : Int) = true := inIx_nat (by omega)
    have ro : List.replicate n (PV.dat (.int 0)) = oL (List.replicate n 0) := rep_oL n
    rw [seq_nx (ε' := E17 (some (.scr ns)) (some (.ptr p)) (some (.dat (flo R U))) (some (.dat (.int (n : Int)))) (some (.dat (.list (iS ws)))) (some (.dat (.str v))) (some (.dat (.list (iL (trc R U (sgs v) 0))))) (some (.ptr μ3.length)) none none none none none none none none none) (μ' := mkS μ3 (List.replicate n 0)) (by simp [E17, sPar, asDats, tr', cap, c1, c2, ro])]
    rw [seq_f (by simp [E17, asDats, lt'])]
    obtain ⟨mk, b8, b9, b10, eL1, M⟩ := L1_law_K74_eq (μ := μ3) F hn0 gv lv (some (.scr ns)) (some (.ptr p)) (some (.dat (flo R U))) (some (.dat (.int (n : Int)))) (some (.dat (.list (iS ws)))) none none none none none none none none none
    rw [seq_nx eL1]
    obtain ⟨W, eJ, MW⟩ := marks_word (μ := μ3) M (by omega) (some (.scr ns)) (some (.ptr p)) (some (.dat (flo R U))) (some (.dat (.int (n : Int)))) (some (.dat (.list (iS ws)))) (some (.dat (.str v))) (some (.dat (.list (iL (trc R U (sgs v) 0))))) b8 b9 b10 none none none none none none
    obtain ⟨f, eU, hf, hc⟩ := F_unfolded_eq F MW hn0 (by omega)
    have un : eCallP 2 F_unfolded (aCons (eVar 2) (aCons (eJoin (eC (.str "")) (C1_law_K74)) (aNil))) (E17 (some (.scr ns)) (some (.ptr p)) (some (.dat (flo R U))) (some (.dat (.int (n : Int)))) (some (.dat (.list (iS ws)))) (some (.dat (.str v))) (some (.dat (.list (iL (trc R U (sgs v) 0))))) (some (.ptr μ3.length)) b8 b9 b10 none none none none none none) (mkS μ3 mk) = some (.dat (if f.length = 2 * n then flo (R2 R n (mkE mk)) (U2 U n (mkE mk)) else .none), mkS μ3 mk) := by
      have a : aCons (eVar 2) (aCons (eJoin (eC (.str "")) (C1_law_K74)) (aNil)) (E17 (some (.scr ns)) (some (.ptr p)) (some (.dat (flo R U))) (some (.dat (.int (n : Int)))) (some (.dat (.list (iS ws)))) (some (.dat (.str v))) (some (.dat (.list (iL (trc R U (sgs v) 0))))) (some (.ptr μ3.length)) b8 b9 b10 none none none none none none) (mkS μ3 mk) = some ([.dat (flo R U), .dat (.str W)], mkS μ3 mk) := by
        have a1 : aCons (eJoin (eC (.str "")) (C1_law_K74)) (aNil) (E17 (some (.scr ns)) (some (.ptr p)) (some (.dat (flo R U))) (some (.dat (.int (n : Int)))) (some (.dat (.list (iS ws)))) (some (.dat (.str v))) (some (.dat (.list (iL (trc R U (sgs v) 0))))) (some (.ptr μ3.length)) b8 b9 b10 none none none none none none) (mkS μ3 mk) = some ([.dat (.str W)], mkS μ3 mk) := by
          unfold aCons; rw [eJ]; rfl
        show ((eVar 2 _ _).bind fun x => (aCons (eJoin (eC (.str "")) (C1_law_K74)) (aNil) _ x.2).bind fun y => some (x.1 :: y.1, y.2)) = _
        have v2 : eVar 2 (E17 (some (.scr ns)) (some (.ptr p)) (some (.dat (flo R U))) (some (.dat (.int (n : Int)))) (some (.dat (.list (iS ws)))) (some (.dat (.str v))) (some (.dat (.list (iL (trc R U (sgs v) 0))))) (some (.ptr μ3.length)) b8 b9 b10 none none none none none none) (mkS μ3 mk) = some (.dat (flo R U), mkS μ3 mk) := rfl
        rw [v2]
        simp only [Option.bind_some]
        rw [a1]
        rfl
      unfold eCallP
      rw [a]
      simp only [Option.bind_some, List.length_cons, List.length_nil, asDats, Option.map_some]
      rw [eU]
      rfl
    rw [seq_nx (ε' := E17 (some (.scr ns)) (some (.ptr p)) (some (.dat (flo R U))) (some (.dat (.int (n : Int)))) (some (.dat (.list (iS ws)))) (some (.dat (.str v))) (some (.dat (.list (iL (trc R U (sgs v) 0))))) (some (.ptr μ3.length)) b8 b9 b10 (some (.dat (if f.length = 2 * n then flo (R2 R n (mkE mk)) (U2 U n (mkE mk)) else .none))) none none none none none) (μ' := mkS μ3 mk) (by unfold sSet; rw [un]; rfl)]
    have od := odd_e F hn0 gv lv M P.ok wl (mkS μ3 mk) (some (.scr ns)) (some (.ptr p)) (some (.dat (.int (n : Int)))) (some (.dat (.list (iL (trc R U (sgs v) 0))))) (some (.ptr μ3.length)) b8 b9 b10 (some (.dat (if f.length = 2 * n then flo (R2 R n (mkE mk)) (U2 U n (mkE mk)) else .none))) none none none none none
    rw [seq_nx (ε' := E17 (some (.scr ns)) (some (.ptr p)) (some (.dat (flo R U))) (some (.dat (.int (n : Int)))) (some (.dat (.list (iS ws)))) (some (.dat (.str v))) (some (.dat (.list (iL (trc R U (sgs v) 0))))) (some (.ptr μ3.length)) b8 b9 b10 (some (.dat (if f.length = 2 * n then flo (R2 R n (mkE mk)) (U2 U n (mkE mk)) else .none))) none (some (.dat (.bool (decide (∃ w ∈ ws, oddW R U mk w = true))))) none none none) (μ' := mkS μ3 mk) (by unfold sSet; rw [od]; rfl)]
    have ve : ∀ a b : Bool, PyData.eqv (.bool a) (.bool b) = (a == b) := fun a b => by simp [PyData.eqv]
    have sb : ∀ b : Bool, SeqAt.shaped (.bool b) = true := fun b => (show Sd 0 (.bool b) from ⟨by simp [PyData.canLay0], by simp [PyData.depth]⟩).shaped (by decide)
    by_cases od2 : ∃ w ∈ ws, oddW R U mk w = true
    · obtain ⟨w, hw, how⟩ := id od2
      have fl : f.length = 2 * n := up_all F hn0 (by omega) hf hc P.words (P.ok w hw).1 (P.ok w hw).2.1 (of_decide_eq_true how)
      rw [if_pos fl, decide_eq_true od2]
      rw [seq_f (by simp [E17, ve, sb])]
      rw [seq_f (by simp [E17])]
      have c3 := C3_e hn0 hn6 (mkS μ3 mk) (some (.scr ns)) (some (.ptr p)) (some (.dat (flo R U))) (some (.dat (.list (iS ws)))) (some (.dat (.str v))) (some (.dat (.list (iL (trc R U (sgs v) 0))))) (some (.ptr μ3.length)) b8 b9 b10 (some (.dat (flo (R2 R n (mkE mk)) (U2 U n (mkE mk))))) none (some (.dat (.bool true))) none none none
      have la := F_laid_fault_eq (m := mkE mk) F hn0 (by omega)
      have tp : eTup (aCons (eC (.str "laid")) (aCons (C3_law_K74) (aNil))) (E17 (some (.scr ns)) (some (.ptr p)) (some (.dat (flo R U))) (some (.dat (.int (n : Int)))) (some (.dat (.list (iS ws)))) (some (.dat (.str v))) (some (.dat (.list (iL (trc R U (sgs v) 0))))) (some (.ptr μ3.length)) b8 b9 b10 (some (.dat (flo (R2 R n (mkE mk)) (U2 U n (mkE mk))))) none (some (.dat (.bool true))) none none none) (mkS μ3 mk) = some (.dat (.tuple [.str "laid", .list (iL (modL n))]), mkS μ3 mk) := by
        unfold eTup eCa aCons
        simp only [eC, Option.bind_some]
        rw [c3]
        simp [asDats, cap]
      rw [seq_f (by
        have lc : eCallP 3 F_laid_fault (aCons (eVar 11) (aCons (eVar 2) (aCons (eTup (aCons (eC (.str "laid")) (aCons (C3_law_K74) (aNil)))) (aNil)))) (E17 (some (.scr ns)) (some (.ptr p)) (some (.dat (flo R U))) (some (.dat (.int (n : Int)))) (some (.dat (.list (iS ws)))) (some (.dat (.str v))) (some (.dat (.list (iL (trc R U (sgs v) 0))))) (some (.ptr μ3.length)) b8 b9 b10 (some (.dat (flo (R2 R n (mkE mk)) (U2 U n (mkE mk))))) none (some (.dat (.bool true))) none none none) (mkS μ3 mk) = some (.dat .none, mkS μ3 mk) := by
          generalize eTup (aCons (eC (.str "laid")) (aCons (C3_law_K74) (aNil))) = tt at *
          generalize mkS μ3 mk = MM at *
          simp only [E17] at tp ⊢
          simp [tp, asDats, la]
        generalize eCallP 3 F_laid_fault (aCons (eVar 11) (aCons (eVar 2) (aCons (eTup (aCons (eC (.str "laid")) (aCons (C3_law_K74) (aNil)))) (aNil)))) = tt at *
        generalize mkS μ3 mk = MM at *
        simp [lc])]
      obtain ⟨ε', μ', eL2⟩ := L2_law_K74_eq F hn0 hn6 H gv lv M (s3.app (ν := [.lst (oL mk)])) (some (.scr ns)) (some (.dat (.list (iS ws)))) (some (.dat (.list (iL (trc R U (sgs v) 0))))) (some (.ptr μ3.length)) b8 b9 b10 none (some (.dat (.bool true))) none none none
      rw [seq_nx eL2]
      exact ⟨_, μ', rfl, rfl⟩
    · have ev0 : ∀ w ∈ ws, sm (fun e => (edL R U (sgs v) 0).count e) (edW R U (sgs w) 0) % 2 = 0 := fun w hw => by
        have nq : ¬ oddW R U mk w = true := fun z => od2 ⟨w, hw, z⟩
        have a := sm_mod (m := mkE mk) (m' := fun e => (edL R U (sgs v) 0).count e) (es := edW R U (sgs w) 0) fun e he => M.mod (edW_lt F (P.ok w hw).1 hn0 e he)
        unfold oddW at nq
        rw [decide_eq_true_eq] at nq
        rw [← a]
        omega
      obtain ⟨g, g0', gE⟩ := P.even (sgs v) gv cv ev0
      have fl := up_none F hn0 g0' hf fun e he => by
        have a := gE e he
        have b := M.mod he
        omega
      have fl2 : ¬ f.length = 2 * n := by omega
      rw [if_neg fl2, decide_eq_false od2]
      rw [seq_f (by simp [E17, ve, sb])]
      refine ⟨_, mkS μ3 mk, seq_t ?_ rfl, rfl⟩
      simp [E17]
end CM
namespace K74
open PySem L2 VX
theorem holds (ns : List Int) (h : ns.length ≤ 63) : ∃ μ, CM.F_law_K74 [.scr ns] [] = some (.dat (.bool true), μ) := CM.F_law_K74_eq ns h
end K74
open PySem PySem.W PyProof.Rows
set_option maxHeartbeats 0 in
theorem PySem.Challenge.cw_straightways_k74_unfolded_by_crossings_holds : PySem.Challenge.rw_straightways_k74_unfolded_by_crossings.Holds := by
  w_on; o_law; k_head; (case hw => w_witness2)
  k_fill
  refine L2.walk_ofK (l := PySem.Challenge.rw_straightways_k74_unfolded_by_crossings) (n := 63) (k := 7) (x := "script") (CX := L2.CX0) (sp := fun K => VX.spG K 1 CM.F_law_K74) rfl (by decide) rfl ⟨rfl, by decide, by decide⟩ (fun w h Y => PySem.W.kIn_of Y) ?F (fun K H a ns hl _ hS => VX.law_sp (K74.holds ns hl) hS) (fun _ _ _ _ h => h)
  case F =>
    intro w mg fa h KX G hmg
    refine' K74.law_fn (K74.Tx.mk (PySem.W.mg_none_of KX G ?z_abs) (PySem.W.mg_none_of KX G ?z_all) (PySem.W.mg_none_of KX G ?z_enumerate) (PySem.W.mg_none_of KX G ?z_int) (PySem.W.mg_none_of KX G ?z_len) (PySem.W.mg_none_of KX G ?z_list) (PySem.W.mg_none_of KX G ?z_range) (PySem.W.mg_none_of KX G ?z_sorted) (VX.at_mk KX G (fun _ _ _ _ _ _ us hl => match us, hl with | [_], _ => rfl) ?a_turned_back ?l_turned_back ?c_turned_back ?k_turned_back) (VX.at_mk KX G (fun _ _ _ _ _ _ us hl => match us, hl with | [_, _], _ => rfl) ?a_behind ?l_behind ?c_behind ?k_behind) (VX.at_mk KX G (fun _ _ _ _ _ _ us hl => match us, hl with | [_], _ => rfl) ?a_left ?l_left ?c_left ?k_left) (VX.at_mk KX G (fun _ _ _ _ _ _ us hl => match us, hl with | [_], _ => rfl) ?a_down ?l_down ?c_down ?k_down) (VX.at_mk KX G (fun _ _ _ _ _ _ us hl => match us, hl with | [_, _, _, _], _ => rfl) ?a_listed ?l_listed ?c_listed ?k_listed) (VX.at_mk KX G (fun _ _ _ _ _ _ us hl => match us, hl with | [_, _], _ => rfl) ?a_order_from ?l_order_from ?c_order_from ?k_order_from) (VX.at_mk KX G (fun _ _ _ _ _ _ us hl => match us, hl with | [_], _ => rfl) ?a_rounds_of ?l_rounds_of ?c_rounds_of ?k_rounds_of) (VX.at_mk KX G (fun _ _ _ _ _ _ us hl => match us, hl with | [_], _ => rfl) ?a_corners ?l_corners ?c_corners ?k_corners) (VX.at_mk KX G (fun _ _ _ _ _ _ us hl => match us, hl with | [_], _ => rfl) ?a_step_lists ?l_step_lists ?c_step_lists ?k_step_lists) (VX.at_mk KX G (fun _ _ _ _ _ _ us hl => match us, hl with | [_, _, _], _ => rfl) ?a_trace ?l_trace ?c_trace ?k_trace) (VX.at_mk KX G (fun _ _ _ _ _ _ us hl => match us, hl with | [_, _, _], _ => rfl) ?a_led ?l_led ?c_led ?k_led) (VX.at_mk KX G (fun _ _ _ _ _ _ us hl => match us, hl with | [_, _, _], _ => rfl) ?a_laid_fault ?l_laid_fault ?c_laid_fault ?k_laid_fault) (VX.at_mk KX G (fun _ _ _ _ _ _ us hl => match us, hl with | [_, _], _ => rfl) ?a_unfolded ?l_unfolded ?c_unfolded ?k_unfolded) (VX.at_mk KX G (fun _ _ _ _ _ _ us hl => match us, hl with | [_], _ => rfl) ?a_corner_of ?l_corner_of ?c_corner_of ?k_corner_of) (VX.at_mk KX G (fun _ _ _ _ _ _ us hl => match us, hl with | [_, _, _], _ => rfl) ?a_flow_of ?l_flow_of ?c_flow_of ?k_flow_of) (VX.at_mk KX G (fun _ _ _ _ _ _ us hl => match us, hl with | [_], _ => rfl) ?a_sides_of ?l_sides_of ?c_sides_of ?k_sides_of) (VX.at_mk KX G (fun _ _ _ _ _ _ us hl => match us, hl with | [_, _, _], _ => rfl) ?a_crossing ?l_crossing ?c_crossing ?k_crossing) (VX.at_mk KX G (fun _ _ _ _ _ _ us hl => match us, hl with | [_], _ => rfl) ?a_tree_words ?l_tree_words ?c_tree_words ?k_tree_words) (VX.at_mk KX G (fun _ _ _ _ _ _ us hl => match us, hl with | [_], _ => rfl) ?a_loops_of ?l_loops_of ?c_loops_of ?k_loops_of) (VX.at_mk KX G (fun _ _ _ _ _ _ us hl => match us, hl with | [_], _ => rfl) ?a__law_state ?l__law_state ?c__law_state ?k__law_state) (VX.at_mk KX G (fun _ _ _ _ _ _ us hl => match us, hl with | [_, _], _ => rfl) ?a__law_take ?l__law_take ?c__law_take ?k__law_take) (VX.at_mk KX G (fun _ _ _ _ _ _ us hl => match us, hl with | [_, _], _ => rfl) ?a__law_floor ?l__law_floor ?c__law_floor ?k__law_floor) (VX.at_mk KX G (fun _ _ _ _ _ _ us hl => match us, hl with | [_], _ => rfl) ?a__law_lists ?l__law_lists ?c__law_lists ?k__law_lists) (VX.at_mk KX G (fun _ _ _ _ _ _ us hl => match us, hl with | [_, _, _], _ => rfl) ?a__law_trace ?l__law_trace ?c__law_trace ?k__law_trace) (VX.at_mk KX G (fun _ _ _ _ _ _ us hl => match us, hl with | [_], _ => rfl) ?a__law_words ?l__law_words ?c__law_words ?k__law_words) (VX.at_mk KX G (fun _ _ _ _ _ _ us hl => match us, hl with | [_], _ => rfl) ?a__law_back ?l__law_back ?c__law_back ?k__law_back) (VX.at_mk KX G (fun _ _ _ _ _ _ us hl => match us, hl with | [_, _, _, _], _ => rfl) ?a__law_closed ?l__law_closed ?c__law_closed ?k__law_closed) (VX.at_mk KX G (fun _ _ _ _ _ _ us hl => match us, hl with | [_], _ => rfl) ?a_law ?l_law ?c_law ?k_law)) KX G hmg ?a_l ?l_l ?c_l ?k_l
    (case z_abs => k_is)
    (case z_all => k_is)
    (case z_enumerate => k_is)
    (case z_int => k_is)
    (case z_len => k_is)
    (case z_list => k_is)
    (case z_range => k_is)
    (case z_sorted => k_is)
    (case a_turned_back => k_is); (case l_turned_back => k_is); (case c_turned_back => k_is); (case k_turned_back => k_is)
    (case a_behind => k_is); (case l_behind => k_is); (case c_behind => k_is); (case k_behind => k_is)
    (case a_left => k_is); (case l_left => k_is); (case c_left => k_is); (case k_left => k_is)
    (case a_down => k_is); (case l_down => k_is); (case c_down => k_is); (case k_down => k_is)
    (case a_listed => k_is); (case l_listed => k_is); (case c_listed => k_is); (case k_listed => k_is)
    (case a_order_from => k_is); (case l_order_from => k_is); (case c_order_from => k_is); (case k_order_from => k_is)
    (case a_rounds_of => k_is); (case l_rounds_of => k_is); (case c_rounds_of => k_is); (case k_rounds_of => k_is)
    (case a_corners => k_is); (case l_corners => k_is); (case c_corners => k_is); (case k_corners => k_is)
    (case a_step_lists => k_is); (case l_step_lists => k_is); (case c_step_lists => k_is); (case k_step_lists => k_is)
    (case a_trace => k_is); (case l_trace => k_is); (case c_trace => k_is); (case k_trace => k_is)
    (case a_led => k_is); (case l_led => k_is); (case c_led => k_is); (case k_led => k_is)
    (case a_laid_fault => k_is); (case l_laid_fault => k_is); (case c_laid_fault => k_is); (case k_laid_fault => k_is)
    (case a_unfolded => k_is); (case l_unfolded => k_is); (case c_unfolded => k_is); (case k_unfolded => k_is)
    (case a_corner_of => k_is); (case l_corner_of => k_is); (case c_corner_of => k_is); (case k_corner_of => k_is)
    (case a_flow_of => k_is); (case l_flow_of => k_is); (case c_flow_of => k_is); (case k_flow_of => k_is)
    (case a_sides_of => k_is); (case l_sides_of => k_is); (case c_sides_of => k_is); (case k_sides_of => k_is)
    (case a_crossing => k_is); (case l_crossing => k_is); (case c_crossing => k_is); (case k_crossing => k_is)
    (case a_tree_words => k_is); (case l_tree_words => k_is); (case c_tree_words => k_is); (case k_tree_words => k_is)
    (case a_loops_of => k_is); (case l_loops_of => k_is); (case c_loops_of => k_is); (case k_loops_of => k_is)
    (case a__law_state => k_is); (case l__law_state => k_is); (case c__law_state => k_is); (case k__law_state => k_is)
    (case a__law_take => k_is); (case l__law_take => k_is); (case c__law_take => k_is); (case k__law_take => k_is)
    (case a__law_floor => k_is); (case l__law_floor => k_is); (case c__law_floor => k_is); (case k__law_floor => k_is)
    (case a__law_lists => k_is); (case l__law_lists => k_is); (case c__law_lists => k_is); (case k__law_lists => k_is)
    (case a__law_trace => k_is); (case l__law_trace => k_is); (case c__law_trace => k_is); (case k__law_trace => k_is)
    (case a__law_words => k_is); (case l__law_words => k_is); (case c__law_words => k_is); (case k__law_words => k_is)
    (case a__law_back => k_is); (case l__law_back => k_is); (case c__law_back => k_is); (case k__law_back => k_is)
    (case a__law_closed => k_is); (case l__law_closed => k_is); (case c__law_closed => k_is); (case k__law_closed => k_is)
    (case a_law => k_is); (case l_law => k_is); (case c_law => k_is); (case k_law => k_is)
    (case a_l => k_is); (case l_l => k_is); (case c_l => k_is); (case k_l => k_is)
