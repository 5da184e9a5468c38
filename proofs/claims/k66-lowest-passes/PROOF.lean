import PyProof.Rows.All
import Wide.All
import OpenK.AllK
import Wide.FinOn
import HandS.ForMost
import HandS.SortInts
import HandS.Strs
import HandS.Deep
import HandS.Style
import HandS.RevRange
import HandS.SetFor
import HandS.Set
import HandS.WordsDict
import KE.KDictPairs
import PyProof.P3Eq
import PySem.Challenge.RW_straightways_k66_lowest_passes
set_option Elab.async false
set_option linter.all false
set_option maxRecDepth 100000
namespace VX
open PySem PySem.Spec PyProof.Rows L2

/-- values of the pure reading: a datum, an owned object, the script -/
inductive PV where
  | dat (d : PyData)
  | ptr (k : Nat)
  | scr (ns : List Int)
inductive SO where
  | lst (xs : List PV)
  | dic (kvs : List (Key × PV))
  | gone
abbrev Sto := List SO
abbrev Evn := List (Option PV)

mutual
inductive Dt (H : Hp) : V → PyData → Prop
  | non : Dt H .non .none
  | bl (b : Bool) : Dt H (.bl b) (.bool b)
  | int (i : Int) : Dt H (.int i) (.int i)
  | str (x : Str) : Dt H (.str x) (.str x)
  | lst {a : Addr} {xs : List V} {ds : List PyData} : H a = some (.lst xs) → DtAll H xs ds → Dt H (.ref a) (.list ds)
  | tup {a : Addr} {xs : List V} {ds : List PyData} : H a = some (.tup xs) → DtAll H xs ds → Dt H (.ref a) (.tuple ds)
inductive DtAll (H : Hp) : List V → List PyData → Prop
  | nil : DtAll H [] []
  | cons {v : V} {vs : List V} {d : PyData} {ds : List PyData} : Dt H v d → DtAll H vs ds → DtAll H (v :: vs) (d :: ds)
end
mutual
theorem Dt.mono {H H' : Hp} (s : Same H H') : ∀ {v : V} {d : PyData}, Dt H v d → Dt H' v d
  | _, _, .non => .non
  | _, _, .bl b => .bl b
  | _, _, .int b => .int b
  | _, _, .str b => .str b
  | _, _, .lst h a => .lst (s _ _ h) (DtAll.mono s a)
  | _, _, .tup h a => .tup (s _ _ h) (DtAll.mono s a)
theorem DtAll.mono {H H' : Hp} (s : Same H H') : ∀ {v : List V} {d : List PyData}, DtAll H v d → DtAll H' v d
  | _, _, .nil => .nil
  | _, _, .cons h a => .cons (Dt.mono s h) (DtAll.mono s a)
end
mutual
theorem Dt.dp {K : PySem.W.Frag} {H : Hp} : ∀ {v : V} {d : PyData}, Dt H v d → Dp K H v d
  | _, _, .non => .non
  | _, _, .bl b => .bl b
  | _, _, .int b => .int b
  | _, _, .str b => .str b
  | _, _, .lst h a => .lst (SqL.of h) (DtAll.dp a)
  | _, _, .tup h a => .tup (SqT.of h) (DtAll.dp a)
theorem DtAll.dp {K : PySem.W.Frag} {H : Hp} : ∀ {v : List V} {d : List PyData}, DtAll H v d → DpAll K H v d
  | _, _, .nil => .nil
  | _, _, .cons h a => .cons (Dt.dp h) (DtAll.dp a)
end

/-- the world: what stays for good, all that is tracked, where owned objects stand -/
structure Wd where
  Hi : Hp
  H : Hp
  at' : Nat → Addr

section
variable (K : PySem.W.Frag)
def RPV (W : Wd) (n : Nat) : PV → V → Prop
  | .dat d, v => Dt W.Hi v d
  | .ptr k, v => k < n ∧ v = .ref (W.at' k)
  | .scr ns, v => ∃ a, v = .ref a ∧ SqL K W.Hi a (ns.map V.int)
abbrev Pvs (W : Wd) (n : Nat) : List PV → List V → Prop := Paired (RPV K W n)
abbrev Kvs (W : Wd) (n : Nat) : List (Key × PV) → List (Key × V) → Prop := Paired fun p q => p.1 = q.1 ∧ RPV K W n p.2 q.2
def RO (W : Wd) (n : Nat) : SO → Option HO → Prop
  | .lst xs, o => ∃ vs, o = some (.lst vs) ∧ Pvs K W n xs vs
  | .dic kvs, o => ∃ kws, o = some (.dK kws) ∧ Kvs K W n kvs kws
  | .gone, _ => True
structure Rl (W : Wd) (μ : Sto) : Prop where
  sub : Same W.Hi W.H
  ob : ∀ k o, μ[k]? = some o → RO K W μ.length o (W.H (W.at' k))
  off : ∀ k o, μ[k]? = some o → o ≠ .gone → W.Hi (W.at' k) = none
  inj : ∀ j k o u, μ[j]? = some o → μ[k]? = some u → o ≠ .gone → u ≠ .gone → W.at' j = W.at' k → j = k
  th : ∀ k, k < μ.length → ∃ o, W.H (W.at' k) = some o
end
structure Ext (W : Wd) (n : Nat) (W' : Wd) (n' : Nat) : Prop where
  im : Same W.Hi W'.Hi
  io : ∀ k, k < n → W'.at' k = W.at' k
  le : n ≤ n'
  fr : ∀ a o, W.H a = some o → (∀ k, k < n → W.at' k ≠ a) → W'.H a = some o
  nw : ∀ a o, W'.Hi a = some o → W.Hi a = none → W.H a = none ∨ ∃ k, k < n ∧ W.at' k = a
  np : ∀ k, n ≤ k → k < n' → W.H (W'.at' k) = none
  th : ∀ a o, W.H a = some o → ∃ u, W'.H a = some u
theorem Ext.refl (W : Wd) (n : Nat) : Ext W n W n :=
  ⟨Same.refl _, fun _ _ => rfl, Nat.le_refl _, fun _ _ h _ => h, fun a o h h' => (by rw [h] at h'; cases h'), fun k h h' => absurd h' (Nat.not_lt.mpr h), fun _ o h => ⟨o, h⟩⟩
theorem Ext.trans {W W1 W2 : Wd} {n n1 n2 : Nat} (a : Ext W n W1 n1) (b : Ext W1 n1 W2 n2) : Ext W n W2 n2 where
  im := a.im.trans b.im
  io := fun k hk => (b.io k (Nat.lt_of_lt_of_le hk a.le)).trans (a.io k hk)
  le := Nat.le_trans a.le b.le
  fr := fun x o h hk => b.fr x o (a.fr x o h hk) fun k hk1 e => by
    by_cases hn : k < n
    · exact hk k hn ((a.io k hn).symm.trans e)
    · have := a.np k (Nat.not_lt.mp hn) hk1
      rw [e, h] at this; cases this
  nw := fun x o h hn => by
    cases q : W1.Hi x with
    | some u => exact a.nw x u q hn
    | none =>
      rcases b.nw x o h q with h1 | ⟨k, hk, e⟩
      · cases r : W.H x with
        | none => exact .inl rfl
        | some u =>
          obtain ⟨u', h2⟩ := a.th x u r
          rw [h1] at h2; cases h2
      · by_cases hn : k < n
        · exact .inr ⟨k, hn, (a.io k hn).symm.trans e⟩
        · have := a.np k (Nat.not_lt.mp hn) hk
          rw [e] at this; exact .inl this
  np := fun k h1 h2 => by
    by_cases h3 : k < n1
    · rw [b.io k h3]; exact a.np k h1 h3
    · have := b.np k (Nat.not_lt.mp h3) h2
      cases r : W.H (W2.at' k) with
      | none => rfl
      | some u =>
        obtain ⟨u', h2⟩ := a.th _ u r
        rw [this] at h2; cases h2
  th := fun x o h => by
    obtain ⟨u, h1⟩ := a.th x o h
    exact b.th x u h1
section
variable {K : PySem.W.Frag} {W W' : Wd} {n n' : Nat} {μ μ' : Sto}
theorem RPV.mono {p : PV} {v : V} (e : Ext W n W' n') (h : RPV K W n p v) : RPV K W' n' p v := by
  cases p with
  | dat d => exact Dt.mono e.im h
  | ptr k => exact ⟨Nat.lt_of_lt_of_le h.1 e.le, by rw [e.io k h.1]; exact h.2⟩
  | scr ns => obtain ⟨a, e1, e2⟩ := h; exact ⟨a, e1, e.im.seq e2⟩
theorem Pvs.mono {ps : List PV} {vs : List V} (e : Ext W n W' n') (h : Pvs K W n ps vs) : Pvs K W' n' ps vs := L2.Paired.mapP h fun _ _ q => q.mono e
theorem Kvs.mono {ps : List (Key × PV)} {vs : List (Key × V)} (e : Ext W n W' n') (h : Kvs K W n ps vs) : Kvs K W' n' ps vs := L2.Paired.mapP h fun _ _ q => ⟨q.1, q.2.mono e⟩
theorem Pvs.get {ps : List PV} {vs : List V} {i : Nat} {p : PV} (h : Pvs K W n ps vs) (e : ps[i]? = some p) : ∃ v, vs[i]? = some v ∧ RPV K W n p v := by
  induction h generalizing i with
  | nil => simp at e
  | cons r t ih =>
    cases i with
    | zero => simp at e; subst e; exact ⟨_, rfl, r⟩
    | succ i => simp at e; obtain ⟨v, h1, h2⟩ := ih e; exact ⟨v, by simpa using h1, h2⟩
theorem Pvs.append {ps qs : List PV} {vs ws : List V} (h : Pvs K W n ps vs) (h' : Pvs K W n qs ws) : Pvs K W n (ps ++ qs) (vs ++ ws) := by
  induction h with
  | nil => exact h'
  | cons r t ih => exact .cons r ih
theorem Pvs.set {ps : List PV} {vs : List V} {p : PV} {v : V} (h : Pvs K W n ps vs) (r : RPV K W n p v) (i : Nat) : Pvs K W n (ps.set i p) (vs.set i v) := by
  induction h generalizing i with
  | nil => exact .nil
  | cons q t ih =>
    cases i with
    | zero => exact .cons r t
    | succ i => exact .cons q (ih i)
theorem Pvs.drop {ps : List PV} {vs : List V} (h : Pvs K W n ps vs) (i : Nat) : Pvs K W n (ps.drop i) (vs.drop i) := by
  induction h generalizing i with
  | nil => simp; exact .nil
  | cons q t ih =>
    cases i with
    | zero => exact .cons q t
    | succ i => simpa using ih i
theorem Pvs.take {ps : List PV} {vs : List V} (h : Pvs K W n ps vs) (i : Nat) : Pvs K W n (ps.take i) (vs.take i) := by
  induction h generalizing i with
  | nil => simp; exact .nil
  | cons q t ih =>
    cases i with
    | zero => exact .nil
    | succ i => exact .cons q (ih i)
theorem Pvs.eraseIdx {ps : List PV} {vs : List V} (h : Pvs K W n ps vs) (i : Nat) : Pvs K W n (ps.eraseIdx i) (vs.eraseIdx i) := by
  induction h generalizing i with
  | nil => simp; exact .nil
  | cons q t ih =>
    cases i with
    | zero => exact t
    | succ i => exact .cons q (ih i)
theorem Pvs.reverse {ps : List PV} {vs : List V} (h : Pvs K W n ps vs) : Pvs K W n ps.reverse vs.reverse := by
  induction h with
  | nil => exact .nil
  | cons q t ih => simp only [List.reverse_cons]; exact ih.append (.cons q .nil)
def asDat : PV → Option PyData
  | .dat d => some d
  | _ => none
def asDats : List PV → Option (List PyData)
  | [] => some []
  | .dat d :: r => (asDats r).map (d :: ·)
  | _ :: _ => none
theorem asDats_map : ∀ ds : List PyData, asDats (ds.map PV.dat) = some ds
  | [] => rfl
  | d :: r => by simp [asDats, asDats_map r]
theorem asDats_eq : ∀ {xs : List PV} {ds : List PyData}, asDats xs = some ds → xs = ds.map PV.dat
  | [], _, h => by simp [asDats] at h; subst h; rfl
  | .dat d :: r, ds, h => by
    cases q : asDats r with
    | none => simp [asDats, q] at h
    | some es => simp [asDats, q] at h; subst h; rw [asDats_eq q]; rfl
  | .ptr _ :: _, _, h => by simp [asDats] at h
  | .scr _ :: _, _, h => by simp [asDats] at h
theorem DtAll.pvs : ∀ {vs : List V} {ds : List PyData}, DtAll W.Hi vs ds → Pvs K W n (ds.map PV.dat) vs
  | _, _, .nil => .nil
  | _, _, .cons h a => .cons h (DtAll.pvs a)
theorem Pvs.dt : ∀ {ds : List PyData} {vs : List V}, Pvs K W n (ds.map PV.dat) vs → DtAll W.Hi vs ds
  | [], _, .nil => .nil
  | _ :: _, _, .cons h a => .cons h (Pvs.dt a)
theorem Pvs.length {ps : List PV} {vs : List V} (h : Pvs K W n ps vs) : ps.length = vs.length := Paired.length h

/-! ### new objects -/
def cap : Nat := 1000000
theorem cap_ok {m : Nat} (h : m ≤ cap) : m ≤ sizeLine := Nat.le_trans h (by decide)
theorem cap_lt {m : Nat} (h : m < cap) : m < sizeLine := Nat.lt_of_lt_of_le h (by decide)
/-- something tracked that nobody here speaks of -/
theorem Rl.junk {p : Addr} {o : HO} (R : Rl K W μ) (hp : W.H p = none) : Rl K ⟨W.Hi, upd W.H p o, W.at'⟩ μ ∧ Ext W μ.length ⟨W.Hi, upd W.H p o, W.at'⟩ μ.length := by
  have sm : Same W.H (upd W.H p o) := fun b u e => by rw [upd_ne (ne_of_none e hp)]; exact e
  refine ⟨⟨R.sub.trans sm, fun k u h => ?_, R.off, R.inj, fun k hk => let ⟨u, e⟩ := R.th k hk; ⟨u, sm _ _ e⟩⟩, ⟨Same.refl _, fun _ _ => rfl, Nat.le_refl _, fun a u h _ => sm a u h, fun a u h h' => ?_, fun k h h' => absurd h' (Nat.not_lt.mpr h), fun a u h => ⟨u, sm a u h⟩⟩⟩
  · have := R.ob k u h
    cases u with
    | gone => trivial
    | lst xs => obtain ⟨vs, e, r⟩ := this; exact ⟨vs, sm _ _ e, r⟩
    | dic kvs => obtain ⟨vs, e, r⟩ := this; exact ⟨vs, sm _ _ e, r⟩
  · exact absurd (h.symm.trans h') (by simp)
/-- a new thing that stays for good -/
theorem Rl.imm {p : Addr} {o : HO} (R : Rl K W μ) (hp : W.H p = none) : Rl K ⟨upd W.Hi p o, upd W.H p o, W.at'⟩ μ ∧ Ext W μ.length ⟨upd W.Hi p o, upd W.H p o, W.at'⟩ μ.length := by
  have sm : Same W.H (upd W.H p o) := fun b u e => by rw [upd_ne (ne_of_none e hp)]; exact e
  have hpi : W.Hi p = none := by
    cases q : W.Hi p with
    | none => rfl
    | some u => rw [R.sub _ _ q] at hp; cases hp
  have smi : Same W.Hi (upd W.Hi p o) := fun b u e => by rw [upd_ne (ne_of_none e hpi)]; exact e
  have E : Ext W μ.length ⟨upd W.Hi p o, upd W.H p o, W.at'⟩ μ.length := by
    refine ⟨smi, fun _ _ => rfl, Nat.le_refl _, fun a u h _ => sm a u h, fun a u h h' => ?_, fun k h h' => absurd h' (Nat.not_lt.mpr h), fun a u h => ⟨u, sm a u h⟩⟩
    by_cases ha : a = p
    · subst ha; exact .inl hp
    · simp only [] at h; rw [upd_ne ha, h'] at h; cases h
  refine ⟨⟨fun a u h => ?_, fun k u h => ?_, fun k u h hg => ?_, R.inj, fun k hk => let ⟨u, e⟩ := R.th k hk; ⟨u, sm _ _ e⟩⟩, E⟩
  · simp only [] at h ⊢
    by_cases ha : a = p
    · subst ha; rw [upd_same] at h ⊢; exact h
    · rw [upd_ne ha] at h ⊢; exact R.sub _ _ h
  · have := R.ob k u h
    cases u with
    | gone => trivial
    | lst xs => obtain ⟨vs, e, r⟩ := this; exact ⟨vs, sm _ _ e, r.mono E⟩
    | dic kvs => obtain ⟨vs, e, r⟩ := this; exact ⟨vs, sm _ _ e, r.mono E⟩
  · have h1 := R.ob k u h
    have h2 := R.off k u h hg
    have : W.at' k ≠ p := fun z => by
      rw [z, hp] at h1
      cases u with
      | gone => exact hg rfl
      | lst xs => obtain ⟨vs, e, r⟩ := h1; cases e
      | dic kvs => obtain ⟨vs, e, r⟩ := h1; cases e
    simp only []
    rw [upd_ne this]; exact h2
/-- a new owned object -/
theorem Rl.own {p : Addr} {o : SO} {ho : HO} (R : Rl K W μ) (hp : W.H p = none) (hg : o ≠ .gone) (ho' : RO K W μ.length o (some ho)) :
    Rl K ⟨W.Hi, upd W.H p ho, fun k => if k = μ.length then p else W.at' k⟩ (μ ++ [o]) ∧ Ext W μ.length ⟨W.Hi, upd W.H p ho, fun k => if k = μ.length then p else W.at' k⟩ (μ ++ [o]).length := by
  have sm : Same W.H (upd W.H p ho) := fun b u e => by rw [upd_ne (ne_of_none e hp)]; exact e
  have hpi : W.Hi p = none := by
    cases q : W.Hi p with
    | none => rfl
    | some u => rw [R.sub _ _ q] at hp; cases hp
  have E : Ext W μ.length ⟨W.Hi, upd W.H p ho, fun k => if k = μ.length then p else W.at' k⟩ (μ ++ [o]).length := by
    refine ⟨Same.refl _, fun k h => if_neg (Nat.ne_of_lt h), by simp, fun a u h _ => sm a u h, fun a u h h' => ?_, fun k h h' => ?_, fun a u h => ⟨u, sm a u h⟩⟩
    · exact absurd (h.symm.trans h') (by simp)
    · have : k = μ.length := by simp at h'; omega
      simp only [this, if_pos]; exact hp
  have nat : ∀ k u, μ[k]? = some u → u ≠ .gone → W.at' k ≠ p := fun k u h hg z => by
    have h1 := R.ob k u h
    rw [z, hp] at h1
    cases u with
    | gone => exact hg rfl
    | lst xs => obtain ⟨vs, e, r⟩ := h1; cases e
    | dic kvs => obtain ⟨vs, e, r⟩ := h1; cases e
  have lt : ∀ k (u : SO), μ[k]? = some u → k < μ.length := fun k u h => (List.getElem?_eq_some_iff.mp h).1
  have get : ∀ k u, (μ ++ [o])[k]? = some u → (k < μ.length ∧ μ[k]? = some u) ∨ (k = μ.length ∧ u = o) := fun k u h => by
    by_cases hk : k < μ.length
    · rw [List.getElem?_append_left hk] at h; exact .inl ⟨hk, h⟩
    · rw [List.getElem?_append_right (Nat.not_lt.mp hk)] at h
      have : k - μ.length = 0 := by
        cases q : k - μ.length with
        | zero => rfl
        | succ m => rw [q] at h; simp at h
      rw [this] at h; simp at h
      exact .inr ⟨by omega, h.symm⟩
  refine ⟨⟨R.sub.trans sm, fun k u h => ?_, fun k u h hu => ?_, fun j k u1 u2 h1 h2 g1 g2 e => ?_, fun k hk => ?_⟩, E⟩
  · rcases get k u h with ⟨hk, h⟩ | ⟨rfl, rfl⟩
    · simp only [if_neg (Nat.ne_of_lt hk)]
      have := R.ob k u h
      cases u with
      | gone => trivial
      | lst xs => obtain ⟨vs, e, r⟩ := this; exact ⟨vs, sm _ _ e, r.mono E⟩
      | dic kvs => obtain ⟨vs, e, r⟩ := this; exact ⟨vs, sm _ _ e, r.mono E⟩
    · simp only [if_pos, upd_same]
      cases u with
      | gone => trivial
      | lst xs => obtain ⟨vs, e, r⟩ := ho'; exact ⟨vs, e, r.mono E⟩
      | dic kvs => obtain ⟨vs, e, r⟩ := ho'; exact ⟨vs, e, r.mono E⟩
  · rcases get k u h with ⟨hk, h⟩ | ⟨rfl, rfl⟩
    · simp only [if_neg (Nat.ne_of_lt hk)]; exact R.off k u h hu
    · simp only [if_pos]; exact hpi
  · rcases get j u1 h1 with ⟨hj, q1⟩ | ⟨hj, q1⟩ <;> rcases get k u2 h2 with ⟨hk, q2⟩ | ⟨hk, q2⟩
    · simp only [if_neg (Nat.ne_of_lt hk), if_neg (Nat.ne_of_lt hj)] at e
      exact R.inj j k u1 u2 q1 q2 g1 g2 e
    · subst hk
      simp only [if_neg (Nat.ne_of_lt hj), if_pos] at e
      exact absurd e (nat j u1 q1 g1)
    · subst hj
      simp only [if_neg (Nat.ne_of_lt hk), if_pos] at e
      exact absurd e.symm (nat k u2 q2 g2)
    · rw [hj, hk]
  · simp only []
    by_cases hk' : k = μ.length
    · rw [if_pos hk']; exact ⟨_, upd_same⟩
    · rw [if_neg hk']
      obtain ⟨u, e⟩ := R.th k (by simp at hk; omega)
      exact ⟨u, sm _ _ e⟩
/-- an owned object is changed -/
theorem Rl.put {k : Nat} {o u : SO} {ho : HO} (R : Rl K W μ) (hk : μ[k]? = some o) (hg : o ≠ .gone) (hu : u ≠ .gone) (ho' : RO K W μ.length u (some ho)) :
    Rl K ⟨W.Hi, upd W.H (W.at' k) ho, W.at'⟩ (μ.set k u) ∧ Ext W μ.length ⟨W.Hi, upd W.H (W.at' k) ho, W.at'⟩ (μ.set k u).length := by
  have lk : k < μ.length := (List.getElem?_eq_some_iff.mp hk).1
  have E : Ext W μ.length ⟨W.Hi, upd W.H (W.at' k) ho, W.at'⟩ (μ.set k u).length := by
    refine ⟨Same.refl _, fun _ _ => rfl, by simp, fun a x h hn => ?_, fun a x h h' => ?_, fun j h h' => ?_, fun a x h => ?_⟩
    · simp only []; rw [upd_ne (fun z => hn k lk z.symm)]; exact h
    · exact absurd (h.symm.trans h') (by simp)
    · simp at h'; omega
    · by_cases ha : a = W.at' k
      · subst ha; exact ⟨_, upd_same⟩
      · exact ⟨x, by simp only []; rw [upd_ne ha]; exact h⟩
  refine ⟨⟨fun a x h => ?_, fun j x h => ?_, fun j x h hx => ?_, fun i j x y h1 h2 g1 g2 e => ?_, fun j hj => ?_⟩, E⟩
  · simp only [] at h ⊢
    by_cases ha : a = W.at' k
    · subst ha; rw [R.off k o hk hg] at h; cases h
    · rw [upd_ne ha]; exact R.sub _ _ h
  · simp only []
    by_cases hj : j = k
    · subst hj
      rw [List.getElem?_set_self lk] at h
      cases h
      rw [upd_same]
      cases u with
      | gone => trivial
      | lst xs => obtain ⟨vs, e, r⟩ := ho'; exact ⟨vs, e, r.mono E⟩
      | dic kvs => obtain ⟨vs, e, r⟩ := ho'; exact ⟨vs, e, r.mono E⟩
    · rw [List.getElem?_set_ne (fun z => hj z.symm)] at h
      have := R.ob j x h
      cases x with
      | gone => trivial
      | lst xs =>
        have ne : W.at' j ≠ W.at' k := fun z => hj (R.inj j k _ _ h hk (by simp) hg z)
        obtain ⟨vs, e, r⟩ := this; exact ⟨vs, by rw [upd_ne ne]; exact e, r.mono E⟩
      | dic kvs =>
        have ne : W.at' j ≠ W.at' k := fun z => hj (R.inj j k _ _ h hk (by simp) hg z)
        obtain ⟨vs, e, r⟩ := this; exact ⟨vs, by rw [upd_ne ne]; exact e, r.mono E⟩
  · by_cases hj : j = k
    · subst hj; exact R.off _ o hk hg
    · rw [List.getElem?_set_ne (fun z => hj z.symm)] at h; exact R.off j x h hx
  · have e1 : ∃ x', μ[i]? = some x' ∧ x' ≠ .gone := by
      by_cases hj : i = k
      · subst hj; exact ⟨o, hk, hg⟩
      · rw [List.getElem?_set_ne (fun z => hj z.symm)] at h1; exact ⟨x, h1, g1⟩
    have e2 : ∃ x', μ[j]? = some x' ∧ x' ≠ .gone := by
      by_cases hj : j = k
      · subst hj; exact ⟨o, hk, hg⟩
      · rw [List.getElem?_set_ne (fun z => hj z.symm)] at h2; exact ⟨y, h2, g2⟩
    obtain ⟨x1, q1, q2⟩ := e1
    obtain ⟨x2, q3, q4⟩ := e2
    exact R.inj i j x1 x2 q1 q3 q2 q4 e
  · simp only []
    by_cases ha : W.at' j = W.at' k
    · rw [ha]; exact ⟨_, upd_same⟩
    · rw [upd_ne ha]; exact R.th j (by simpa using hj)
/-- an owned list of data is frozen -/
theorem Rl.freeze {k : Nat} {ds : List PyData} (R : Rl K W μ) (hk : μ[k]? = some (.lst (ds.map PV.dat))) :
    ∃ W' : Wd, W'.H = W.H ∧ Rl K W' (μ.set k .gone) ∧ Ext W μ.length W' (μ.set k .gone).length ∧ Dt W'.Hi (.ref (W.at' k)) (.list ds) := by
  obtain ⟨vs, e, r⟩ := R.ob k _ hk
  have off := R.off k _ hk (by simp)
  have lk : k < μ.length := (List.getElem?_eq_some_iff.mp hk).1
  have smi : Same W.Hi (upd W.Hi (W.at' k) (.lst vs)) := fun b u e => by rw [upd_ne (ne_of_none e off)]; exact e
  have E : Ext W μ.length ⟨upd W.Hi (W.at' k) (.lst vs), W.H, W.at'⟩ (μ.set k .gone).length := by
    refine ⟨smi, fun _ _ => rfl, by simp, fun a u h _ => h, fun a u h h' => ?_, fun k h h' => ?_, fun a u h => ⟨u, h⟩⟩
    · by_cases ha : a = W.at' k
      · subst ha; exact .inr ⟨k, lk, rfl⟩
      · simp only [] at h; rw [upd_ne ha, h'] at h; cases h
    · simp at h'; omega
  refine ⟨⟨upd W.Hi (W.at' k) (.lst vs), W.H, W.at'⟩, rfl, ⟨fun a u h => ?_, fun j x h => ?_, fun j x h hx => ?_, fun i j x y h1 h2 g1 g2 e => ?_, fun j hj => R.th j (by simpa using hj)⟩, E, ?_⟩
  · simp only [] at h ⊢
    by_cases ha : a = W.at' k
    · subst ha; rw [upd_same] at h; cases h; exact e
    · rw [upd_ne ha] at h; exact R.sub _ _ h
  · simp only []
    by_cases hj : j = k
    · subst hj; rw [List.getElem?_set_self lk] at h; cases h; trivial
    · rw [List.getElem?_set_ne (fun z => hj z.symm)] at h
      have := R.ob j x h
      cases x with
      | gone => trivial
      | lst xs => obtain ⟨vs, e, r⟩ := this; exact ⟨vs, e, r.mono E⟩
      | dic kvs => obtain ⟨vs, e, r⟩ := this; exact ⟨vs, e, r.mono E⟩
  · have hj : j ≠ k := fun z => by subst z; rw [List.getElem?_set_self lk] at h; cases h; exact hx rfl
    rw [List.getElem?_set_ne (fun z => hj z.symm)] at h
    have ne : W.at' j ≠ W.at' k := fun z => hj (R.inj j k _ _ h hk hx (by simp) z)
    simp only []
    rw [upd_ne ne]; exact R.off j x h hx
  · have hi : i ≠ k := fun z => by subst z; rw [List.getElem?_set_self lk] at h1; cases h1; exact g1 rfl
    have hj : j ≠ k := fun z => by subst z; rw [List.getElem?_set_self lk] at h2; cases h2; exact g2 rfl
    rw [List.getElem?_set_ne (fun z => hi z.symm)] at h1
    rw [List.getElem?_set_ne (fun z => hj z.symm)] at h2
    exact R.inj i j x y h1 h2 g1 g2 e
  · exact .lst upd_same (DtAll.mono smi (Pvs.dt r))
end
end VX
namespace VX
open PySem PySem.Spec PyProof.Rows L2

abbrev EvF := Evn → Sto → Option (PV × Sto)
abbrev TsF := Evn → Sto → Option (Bool × Sto)
abbrev ArF := Evn → Sto → Option (List PV × Sto)
abbrev OpF := PV → PV → Sto → Option (PV × Sto)
abbrev CaF := List PV → Sto → Option (PV × Sto)

section
variable (K : PySem.W.Frag)
def Kont (W : Wd) (n : Nat) (μ' : Sto) (v : PV) (Q : VK) : Prop := ∀ x W', Rl K W' μ' → Ext W n W' μ'.length → RPV K W' μ'.length v x → Q x W'.H
def KontT (W : Wd) (n : Nat) (μ' : Sto) (b : Bool) (Q : Bool → Hp → Prop) : Prop := ∀ W', Rl K W' μ' → Ext W n W' μ'.length → Q b W'.H
def KontA (W : Wd) (n : Nat) (μ' : Sto) (vs : List PV) (Q : List V → Hp → Prop) : Prop := ∀ xs W', Rl K W' μ' → Ext W n W' μ'.length → Pvs K W' μ'.length vs xs → Q xs W'.H
structure EnvR (W : Wd) (n : Nat) (σ : L2.St) (ε : Evn) : Prop where
  len : σ.length = ε.length
  get : ∀ (i : Nat) p, ε[i]? = some (some p) → ∃ x, σ[i]? = some (some x) ∧ RPV K W n p x
def Adq (te : TE) (ev : EvF) : Prop := ∀ W σ ε μ v μ' Q, Rl K W μ → EnvR K W μ.length σ ε → ev ε μ = some (v, μ') → Kont K W μ.length μ' v Q → te σ W.H Q
def AdqT (tt : TT) (ev : TsF) : Prop := ∀ W σ ε μ b μ' Q, Rl K W μ → EnvR K W μ.length σ ε → ev ε μ = some (b, μ') → KontT K W μ.length μ' b Q → tt σ W.H Q
def AdqA (ta : TA) (ev : ArF) : Prop := ∀ W σ ε μ vs μ' Q, Rl K W μ → EnvR K W μ.length σ ε → ev ε μ = some (vs, μ') → KontA K W μ.length μ' vs Q → ta σ W.H Q
/-- a two-place operation by values; a call by values -/
def AOp (r : R2) (f : OpF) : Prop := ∀ W μ x y px py v μ' Q, Rl K W μ → RPV K W μ.length px x → RPV K W μ.length py y → f px py μ = some (v, μ') → Kont K W μ.length μ' v Q → r x y W.H Q
def ACa (r : List V → Hp → VK → Prop) (f : CaF) : Prop := ∀ W μ xs ps v μ' Q, Rl K W μ → Pvs K W μ.length ps xs → f ps μ = some (v, μ') → Kont K W μ.length μ' v Q → r xs W.H Q
end
theorem EnvR.mono {K : PySem.W.Frag} {W W' : Wd} {n n' : Nat} {σ : L2.St} {ε : Evn} (h : EnvR K W n σ ε) (e : Ext W n W' n') : EnvR K W' n' σ ε :=
  ⟨h.len, fun i p q => let ⟨x, h1, h2⟩ := h.get i p q; ⟨x, h1, h2.mono e⟩⟩
theorem EnvR.set {K : PySem.W.Frag} {W : Wd} {n : Nat} {σ : L2.St} {ε : Evn} {p : PV} {x : V} (h : EnvR K W n σ ε) (i : Nat) (r : RPV K W n p x) : EnvR K W n (σ.set i (some x)) (ε.set i (some p)) := by
  refine ⟨by simp [h.len], fun j q e => ?_⟩
  by_cases hj : i = j
  · subst hj
    have hl : i < ε.length := by
      have := (List.getElem?_eq_some_iff.mp e).1
      simpa using this
    rw [List.getElem?_set_self hl] at e
    cases e
    exact ⟨x, List.getElem?_set_self (by rw [h.len]; exact hl), r⟩
  · rw [List.getElem?_set_ne hj] at e ⊢
    exact h.get j q e

structure VE (X : Cx) (e : Expr) (te : TE) (ev : EvF) : Prop where
  pe : PE X e te
  ad : Adq X.K te ev
structure VT (X : Cx) (e : Expr) (tt : TT) (ev : TsF) : Prop where
  pt : PT X e tt
  ad : AdqT X.K tt ev
structure VW (X : Cx) (e : Expr) (tt : TT) (ev : TsF) : Prop where
  pw : PW X e tt
  ad : AdqT X.K tt ev
structure VA (X : Cx) (es : List Expr) (ta : TA) (ev : ArF) : Prop where
  pa : PA X es ta
  ad : AdqA X.K ta ev

/-! ### the functions -/
@[simp] def eVar (i : Nat) : EvF := fun ε μ => match ε[i]? with | some (some v) => some (v, μ) | _ => none
@[simp] def eC (d : PyData) : EvF := fun _ μ => some (.dat d, μ)
@[simp] def eOp (f : OpF) (a b : EvF) : EvF := fun ε μ => (a ε μ).bind fun x => (b ε x.2).bind fun y => f x.1 y.1 y.2
@[simp] def eUn (f : PV → Option PV) (a : EvF) : EvF := fun ε μ => (a ε μ).bind fun x => (f x.1).map fun v => (v, x.2)
@[simp] def aNil : ArF := fun _ μ => some ([], μ)
@[simp] def aCons (a : EvF) (r : ArF) : ArF := fun ε μ => (a ε μ).bind fun x => (r ε x.2).bind fun y => some (x.1 :: y.1, y.2)
@[simp] def eCa (f : CaF) (a : ArF) : EvF := fun ε μ => (a ε μ).bind fun x => f x.1 x.2
@[simp] def eIf (t : TsF) (a b : EvF) : EvF := fun ε μ => (t ε μ).bind fun c => if c.1 = true then a ε c.2 else b ε c.2
@[simp] def tsE (a : EvF) : TsF := fun ε μ => (a ε μ).bind fun x => match x.1 with | .dat (.bool b) => some (b, x.2) | _ => none
@[simp] def tsAnd (a b : TsF) : TsF := fun ε μ => (a ε μ).bind fun c => if c.1 = true then b ε c.2 else some (false, c.2)
@[simp] def tsOr (a b : TsF) : TsF := fun ε μ => (a ε μ).bind fun c => if c.1 = true then some (true, c.2) else b ε c.2
@[simp] def tsNot (a : TsF) : TsF := fun ε μ => (a ε μ).bind fun c => some (!c.1, c.2)
@[simp] def eAnd (a b : EvF) : EvF := fun ε μ => (a ε μ).bind fun x => match x.1 with | .dat (.bool c) => (if c = true then b ε x.2 else some (.dat (.bool false), x.2)) | _ => none
@[simp] def eOr (a b : EvF) : EvF := fun ε μ => (a ε μ).bind fun x => match x.1 with | .dat (.bool c) => (if c = true then some (.dat (.bool true), x.2) else b ε x.2) | _ => none
@[simp] def eNot (a : EvF) : EvF := fun ε μ => (a ε μ).bind fun x => match x.1 with | .dat (.bool c) => some (.dat (.bool (!c)), x.2) | _ => none
@[simp] def mkL (own : Bool) (xs : List PV) (μ : Sto) : Option (PV × Sto) :=
  if xs.length ≤ cap then (if own then some (.ptr μ.length, μ ++ [.lst xs]) else (asDats xs).map fun ds => (.dat (.list ds), μ)) else none
@[simp] def mkT (xs : List PV) (μ : Sto) : Option (PV × Sto) :=
  if xs.length ≤ cap then (asDats xs).map fun ds => (.dat (.tuple ds), μ) else none
@[simp] def eLst (own : Bool) (a : ArF) : EvF := eCa (mkL own) a
@[simp] def eTup (a : ArF) : EvF := eCa mkT a
/-- a list's items -/
@[simp] def lstOf (μ : Sto) : PV → Option (List PV)
  | .dat (.list ds) => some (ds.map PV.dat)
  | .ptr k => match μ[k]? with | some (.lst xs) => some xs | _ => none
  | _ => none
/-- .. the script among them -/
@[simp] def lstOfS (μ : Sto) : PV → Option (List PV)
  | .scr ns => some (ns.map fun n => PV.dat (.int n))
  | p => lstOf μ p
@[simp] def seqOf (μ : Sto) : PV → Option (List PV)
  | .dat (.tuple ds) => some (ds.map PV.dat)
  | p => lstOfS μ p
/-- the datum as it stands -/
@[simp] def asD (μ : Sto) : PV → Option PyData
  | .dat d => some d
  | .ptr k => match μ[k]? with | some (.lst xs) => (asDats xs).map PyData.list | _ => none
  | _ => none

section
variable {K : PySem.W.Frag} {W W' : Wd} {n n' : Nat} {μ μ' : Sto}
theorem Kont.ext {v : PV} {Q : VK} (k : Kont K W n μ' v Q) (e : Ext W n W' n') : Kont K W' n' μ' v Q := fun x W2 R E r => k x W2 R (e.trans E) r
theorem KontT.ext {v : Bool} {Q : Bool → Hp → Prop} (k : KontT K W n μ' v Q) (e : Ext W n W' n') : KontT K W' n' μ' v Q := fun W2 R E => k W2 R (e.trans E)
theorem KontA.ext {v : List PV} {Q : List V → Hp → Prop} (k : KontA K W n μ' v Q) (e : Ext W n W' n') : KontA K W' n' μ' v Q := fun x W2 R E r => k x W2 R (e.trans E) r
theorem Kont.now {v : PV} {Q : VK} {x : V} (k : Kont K W μ.length μ v Q) (R : Rl K W μ) (r : RPV K W μ.length v x) : Q x W.H := k x W R (Ext.refl _ _) r
theorem asD_ok {p : PV} {x : V} {d : PyData} (R : Rl K W μ) (r : RPV K W μ.length p x) (h : asD μ p = some d) : Dp K W.H x d := by
  cases p with
  | dat e => simp [asD] at h; subst h; exact (Dt.mono R.sub r).dp
  | ptr k =>
    simp only [asD] at h
    cases q : μ[k]? with
    | none => rw [q] at h; cases h
    | some o =>
      rw [q] at h
      cases o with
      | lst xs =>
        simp only [Option.map_eq_some_iff] at h
        obtain ⟨ds, h1, rfl⟩ := h
        obtain ⟨vs, e, r2⟩ := R.ob k _ q
        rw [asDats_eq h1] at r2
        rw [r.2]
        exact .lst (SqL.of e) (DtAll.mono R.sub (Pvs.dt r2)).dp
      | dic kvs => cases h
      | gone => cases h
  | scr ns => cases h
theorem lstOf_ok {p : PV} {x : V} {xs : List PV} (R : Rl K W μ) (r : RPV K W μ.length p x) (h : lstOf μ p = some xs) : ∃ a vs, x = .ref a ∧ W.H a = some (.lst vs) ∧ Pvs K W μ.length xs vs := by
  cases p with
  | dat e =>
    cases e with
    | list ds =>
      simp [lstOf] at h; subst h
      cases r with
      | lst e a => exact ⟨_, _, rfl, R.sub _ _ e, DtAll.pvs a⟩
    | none => cases h
    | bool => cases h
    | int => cases h
    | str => cases h
    | tuple => cases h
    | dict => cases h
  | ptr k =>
    simp only [lstOf] at h
    cases q : μ[k]? with
    | none => rw [q] at h; cases h
    | some o =>
      rw [q] at h
      cases o with
      | lst xs =>
        cases h
        obtain ⟨vs, e, r2⟩ := R.ob k _ q
        exact ⟨_, vs, r.2, e, r2⟩
      | dic kvs => cases h
      | gone => cases h
  | scr ns => cases h
theorem lstOfS_ok {p : PV} {x : V} {xs : List PV} (R : Rl K W μ) (r : RPV K W μ.length p x) (h : lstOfS μ p = some xs) : ∃ a vs, x = .ref a ∧ SqL K W.H a vs ∧ Pvs K W μ.length xs vs := by
  have key : lstOf μ p = some xs → ∃ a vs, x = .ref a ∧ SqL K W.H a vs ∧ Pvs K W μ.length xs vs := fun h => by
    obtain ⟨a, vs, e1, e2, e3⟩ := lstOf_ok R r h
    exact ⟨a, vs, e1, SqL.of e2, e3⟩
  cases p with
  | dat e => exact key h
  | ptr k => exact key h
  | scr ns =>
    cases h
    obtain ⟨a, e1, e2⟩ := r
    refine ⟨a, _, e1, R.sub.seq e2, ?_⟩
    clear e2 key
    induction ns with
    | nil => exact .nil
    | cons m r ih => exact .cons (.int m) ih
theorem seqOf_ok {p : PV} {x : V} {xs : List PV} (R : Rl K W μ) (r : RPV K W μ.length p x) (h : seqOf μ p = some xs) : ∃ a vs, x = .ref a ∧ (SqL K W.H a vs ∨ SqT K W.H a vs) ∧ Pvs K W μ.length xs vs := by
  have key : lstOfS μ p = some xs → ∃ a vs, x = .ref a ∧ (SqL K W.H a vs ∨ SqT K W.H a vs) ∧ Pvs K W μ.length xs vs := fun h => by
    obtain ⟨a, vs, e1, e2, e3⟩ := lstOfS_ok R r h
    exact ⟨a, vs, e1, .inl e2, e3⟩
  cases p with
  | dat e =>
    cases e with
    | tuple ds =>
      simp [seqOf] at h; subst h
      cases r with
      | tup e a => exact ⟨_, _, rfl, .inr (SqT.of (R.sub _ _ e)), DtAll.pvs a⟩
    | none => exact key h
    | bool => exact key h
    | int => exact key h
    | str => exact key h
    | list => exact key h
    | dict => exact key h
  | ptr k => exact key h
  | scr ns => exact key h
theorem mkL_ok {own : Bool} {xs : List PV} {vs : List V} {v : PV} {Q : VK} (R : Rl K W μ) (r : Pvs K W μ.length xs vs) (h : mkL own xs μ = some (v, μ')) (k : Kont K W μ.length μ' v Q) :
    vs.length ≤ sizeLine ∧ ∀ p, W.H p = none → Q (.ref p) (upd W.H p (.lst vs)) := by
  unfold mkL at h
  by_cases hc : xs.length ≤ cap
  · rw [if_pos hc] at h
    refine ⟨by rw [← r.length]; exact cap_ok hc, fun p hp => ?_⟩
    cases own with
    | true =>
      simp only [if_true] at h
      cases h
      obtain ⟨R', E⟩ := R.own (o := .lst xs) (ho := .lst vs) hp (by simp) ⟨vs, rfl, r⟩
      exact k _ _ R' E ⟨by simp, by simp⟩
    | false =>
      simp only [Bool.false_eq_true, if_false, Option.map_eq_some_iff] at h
      obtain ⟨ds, h1, h2⟩ := h
      cases h2
      rw [asDats_eq h1] at r
      obtain ⟨R', E⟩ := R.imm (o := .lst vs) hp
      exact k _ _ R' E (.lst upd_same (DtAll.mono E.im (Pvs.dt r)))
  · rw [if_neg hc] at h; cases h
theorem mkT_ok {xs : List PV} {vs : List V} {v : PV} {Q : VK} (R : Rl K W μ) (r : Pvs K W μ.length xs vs) (h : mkT xs μ = some (v, μ')) (k : Kont K W μ.length μ' v Q) :
    vs.length ≤ sizeLine ∧ ∀ p, W.H p = none → Q (.ref p) (upd W.H p (.tup vs)) := by
  unfold mkT at h
  by_cases hc : xs.length ≤ cap
  · rw [if_pos hc] at h
    refine ⟨by rw [← r.length]; exact cap_ok hc, fun p hp => ?_⟩
    simp only [Option.map_eq_some_iff] at h
    obtain ⟨ds, h1, h2⟩ := h
    cases h2
    rw [asDats_eq h1] at r
    obtain ⟨R', E⟩ := R.imm (o := .tup vs) hp
    exact k _ _ R' E (.tup upd_same (DtAll.mono E.im (Pvs.dt r)))
  · rw [if_neg hc] at h; cases h
end

/-! ### names, constants, operators -/
section
variable {X : Cx} {a b c e o : Expr} {es rest : List Expr} {ta tb tc te : TE} {ea eb ec ev : EvF} {tt tu : TT} {et eu : TsF} {tl : TA} {el : ArF} {pos p : Pos}
theorem ve_var (i : Nat) {x : Str} {pos : Pos} (hN : X.N[i]? = some x := by rfl) (hv : Vis X.env.scope x := by first | exact Or.inl rfl | exact Or.inr (Or.inl rfl) | exact Or.inr (Or.inr rfl))
    (hd : (x == ("__debug__" : Str)) = false := by decide) (hcd : (x == ("__classdict__" : Str)) = false := by decide) : VE X (.Name x pos) (tVar i) (eVar i) := by
  refine ⟨pe_var hN hv hd hcd, fun W σ ε μ v μ' Q R En h k => ?_⟩
  unfold eVar at h
  cases q : ε[i]? with
  | none => rw [q] at h; cases h
  | some u =>
    rw [q] at h
    cases u with
    | none => cases h
    | some u =>
      cases h
      obtain ⟨x, h1, h2⟩ := En.get i _ q
      exact ⟨x, h1, k.now R h2⟩
theorem adq_c {K : PySem.W.Frag} {v : V} {d : PyData} (h : ∀ H, Dt H v d) : Adq K (tC v) (eC d) := fun W σ ε μ u μ' Q R En e k => by
  cases e
  exact k.now R (h _)
theorem ve_int {i j pos} : VE X (.Constant (.int i) j pos) (tC (.int i)) (eC (.int i)) := ⟨pe_int, adq_c fun _ => .int i⟩
theorem ve_bl {b j pos} : VE X (.Constant (.bool b) j pos) (tC (.bl b)) (eC (.bool b)) := ⟨pe_bl, adq_c fun _ => .bl b⟩
theorem ve_non {j pos} : VE X (.Constant .none j pos) (tC .non) (eC .none) := ⟨pe_non, adq_c fun _ => .non⟩
theorem ve_str {x j pos} : VE X (.Constant (.str x) j pos) (tC (.str x)) (eC (.str x)) := ⟨pe_str, adq_c fun _ => .str x⟩
theorem ve_gint {x : Str} {i : Int} {t : Tok} {pos : Pos} (hg : Gl X x) (hm : X.mg x = some (.int i t)) (hd : (x == ("__debug__" : Str)) = false := by decide) : VE X (.Name x pos) (tC (.int i)) (eC (.int i)) := ⟨pe_glob hg hm ⟨t, rfl⟩ hd, adq_c fun _ => .int i⟩
theorem ve_gstr {x : Str} {i : Str} {t : Tok} {pos : Pos} (hg : Gl X x) (hm : X.mg x = some (.str i t)) (hd : (x == ("__debug__" : Str)) = false := by decide) : VE X (.Name x pos) (tC (.str i)) (eC (.str i)) := ⟨pe_glob hg hm ⟨t, rfl⟩ hd, adq_c fun _ => .str i⟩
theorem adq_op {K : PySem.W.Frag} {r : R2} {f : OpF} (ha : Adq K ta ea) (hb : Adq K tb eb) (hr : AOp K r f) : Adq K (tOp r ta tb) (eOp f ea eb) := fun W σ ε μ v μ' Q R En h k => by
  unfold eOp at h
  simp only [Option.bind_eq_some_iff] at h
  obtain ⟨⟨x, μ1⟩, h1, ⟨y, μ2⟩, h2, h3⟩ := h
  refine ha W σ ε μ x μ1 _ R En h1 fun vx W1 R1 E1 r1 => ?_
  refine hb W1 σ ε μ1 y μ2 _ R1 (En.mono E1) h2 fun vy W2 R2 E2 r2 => ?_
  exact hr W2 μ2 vx vy x y v μ' Q R2 (r1.mono E2) r2 h3 (k.ext (E1.trans E2))
theorem ve_op {op : Operator} {r : R2} {f : OpF} (ho : OpR X (binaryOp op) r) (hr : AOp X.K r f) (ha : VE X a ta ea) (hb : VE X b tb eb) : VE X (.BinOp a op b pos) (tOp r ta tb) (eOp f ea eb) := ⟨pe_op ho ha.pe hb.pe, adq_op ha.ad hb.ad hr⟩
theorem ve_cmp {op : CmpOp} {r : R2} {f : OpF} (ho : OpR X (compareOp op) r) (hr : AOp X.K r f) (ha : VE X a ta ea) (hb : VE X b tb eb) (hm : behindInMarks op b = false) : VE X (.Compare a [op] [b] pos) (tOp r ta tb) (eOp f ea eb) := ⟨pe_cmpR ho ha.pe hb.pe hm, adq_op ha.ad hb.ad hr⟩
theorem ve_ix {r : R2} {f : OpF} (ho : IxR X r) (hr : AOp X.K r f) (ha : VE X a ta ea) (hb : VE X b tb eb) (hs : PlainIx b) : VE X (.Subscript a b pos) (tOp r ta tb) (eOp f ea eb) := ⟨pe_ix ho ha.pe hb.pe hs, adq_op ha.ad hb.ad hr⟩
def AUn (K : PySem.W.Frag) (r : V → Hp → VK → Prop) (f : PV → Option PV) : Prop := ∀ W μ x px v Q, Rl K W μ → RPV K W μ.length px x → f px = some v → Kont K W μ.length μ v Q → r x W.H Q
theorem ve_un {op : UnaryOp} {r : V → Hp → VK → Prop} {f : PV → Option PV} (ho : UnR X (unaryOp op) r) (hr : AUn X.K r f) (ha : VE X a ta ea) : VE X (.UnaryOp op a pos) (tUn r ta) (eUn f ea) := by
  refine ⟨pe_un ho ha.pe, fun W σ ε μ v μ' Q R En h k => ?_⟩
  unfold eUn at h
  simp only [Option.bind_eq_some_iff, Option.map_eq_some_iff] at h
  obtain ⟨⟨x, μ1⟩, h1, u, h2, h3⟩ := h
  cases h3
  exact ha.ad W σ ε μ x μ1 _ R En h1 fun vx W1 R1 E1 r1 => hr W1 μ1 vx x v Q R1 r1 h2 (k.ext E1)
theorem va_nil : VA X [] tNil aNil := ⟨pa_nil, fun W σ ε μ v μ' Q R En h k => by cases h; exact k _ W R (Ext.refl _ _) .nil⟩
theorem va_cons (ha : VE X e te ev) (hr : VA X es tl el) (hs : starEach (e :: es) X.env = (false, eval e X.env) :: starEach es X.env := by rfl) : VA X (e :: es) (tCons te tl) (aCons ev el) := by
  refine ⟨pa_cons ha.pe hr.pa hs, fun W σ ε μ v μ' Q R En h k => ?_⟩
  unfold aCons at h
  simp only [Option.bind_eq_some_iff] at h
  obtain ⟨⟨x, μ1⟩, h1, ⟨y, μ2⟩, h2, h3⟩ := h
  cases h3
  refine ha.ad W σ ε μ x μ1 _ R En h1 fun vx W1 R1 E1 r1 => ?_
  refine hr.ad W1 σ ε μ1 y μ2 _ R1 (En.mono E1) h2 fun vy W2 R2 E2 r2 => ?_
  exact k _ W2 R2 (E1.trans E2) (.cons (r1.mono E2) r2)
theorem ve_lst (own : Bool) (h : VA X es tl el) : VE X (.List es pos) (tLst tl) (eLst own el) := by
  refine ⟨pe_lst h.pa, fun W σ ε μ v μ' Q R En q k => ?_⟩
  unfold eLst eCa at q
  simp only [Option.bind_eq_some_iff] at q
  obtain ⟨⟨xs, μ1⟩, h1, h2⟩ := q
  exact h.ad W σ ε μ xs μ1 _ R En h1 fun vs W1 R1 E1 r1 => mkL_ok R1 r1 h2 (k.ext E1)
theorem ve_tup {x1} (h : VA X es tl el) : VE X (.Tuple es x1 pos) (tTup tl) (eTup el) := by
  refine ⟨pe_tup h.pa, fun W σ ε μ v μ' Q R En q k => ?_⟩
  unfold eTup eCa at q
  simp only [Option.bind_eq_some_iff] at q
  obtain ⟨⟨xs, μ1⟩, h1, h2⟩ := q
  exact h.ad W σ ε μ xs μ1 _ R En h1 fun vs W1 R1 E1 r1 => mkT_ok R1 r1 h2 (k.ext E1)
theorem adq_ca {K : PySem.W.Frag} {r : List V → Hp → VK → Prop} {f : CaF} (h : AdqA K tl el) (hr : ACa K r f) : Adq K (tCB r tl) (eCa f el) := fun W σ ε μ v μ' Q R En q k => by
  unfold eCa at q
  simp only [Option.bind_eq_some_iff] at q
  obtain ⟨⟨xs, μ1⟩, h1, h2⟩ := q
  exact h W σ ε μ xs μ1 _ R En h1 fun vs W1 R1 E1 r1 => hr W1 μ1 vs xs v μ' Q R1 r1 h2 (k.ext E1)
theorem ve_ca {x : Str} {id : String} {r : List V → Hp → VK → Prop} {f : CaF} (hc : CallR X (.builtin id) r) (hr : ACa X.K r f) (hg : Gl X x) (hm : X.mg x = none) (hv : bootBuiltins x = some (.builtin id)) (h : VA X (e :: es) tl el) (hn : x ≠ "__name__" := by decide) (hdb : (x == ("__debug__" : Str)) = false := by decide)
    (he : starEach (e :: es) X.env = (false, eval e X.env) :: starEach es X.env := by rfl) (hpl : (backTo pos (starEach es X.env)).any (·.1) = false := by rfl) : VE X (.Call (.Name x p) (e :: es) [] pos) (tCB r tl) (eCa f el) :=
  ⟨pe_callB hc hg hm hv h.pa hn hdb he hpl, adq_ca h.ad hr⟩
theorem ve_caT {x : Str} {T : String} {r : List V → Hp → VK → Prop} {f : CaF} (hc : CallR X (.type T) r) (hr : ACa X.K r f) (hg : Gl X x) (hm : X.mg x = none) (hv : bootBuiltins x = some (.type T)) (h : VA X (e :: es) tl el) (hn : x ≠ "__name__" := by decide) (hdb : (x == ("__debug__" : Str)) = false := by decide)
    (he : starEach (e :: es) X.env = (false, eval e X.env) :: starEach es X.env := by rfl) (hpl : (backTo pos (starEach es X.env)).any (·.1) = false := by rfl) : VE X (.Call (.Name x p) (e :: es) [] pos) (tCB r tl) (eCa f el) :=
  ⟨pe_callTy hc hg hm hv h.pa hn hdb he hpl, adq_ca h.ad hr⟩
/-! ### tests -/
theorem adq_tE {K : PySem.W.Frag} (h : Adq K te ev) : AdqT K (tB te) (tsE ev) := fun W σ ε μ v μ' Q R En q k => by
  unfold tsE at q
  simp only [Option.bind_eq_some_iff] at q
  obtain ⟨⟨x, μ1⟩, h1, h2⟩ := q
  refine h W σ ε μ x μ1 _ R En h1 fun vx W1 R1 E1 r1 => ?_
  split at h2
  · rename_i bb e
    cases h2
    simp only [] at e
    subst e
    cases r1
    exact ⟨_, rfl, k W1 R1 E1⟩
  · cases h2
theorem vt_val (h : VE X e te ev) (he : ∀ whole, isTrue e X.env whole = (do let v ← whole; standAt e.pos; holding [v] (truthy v)) := by intro _; rfl) : VT X e (tB te) (tsE ev) := ⟨pt_val h.pe he, adq_tE h.ad⟩
theorem vt_cmp {op : CmpOp} {r : R2} {f : OpF} (ho : OpR X (compareOp op) r) (hr : AOp X.K r f) (ha : VE X a ta ea) (hb : VE X b tb eb) (hm : behindInMarks op b = false) : VT X (.Compare a [op] [b] pos) (tTest (tOp r ta tb)) (tsE (eOp f ea eb)) :=
  ⟨pt_cmpR ho ha.pe hb.pe hm, adq_tE (adq_op ha.ad hb.ad hr)⟩
theorem adq_and {K : PySem.W.Frag} (h : AdqT K tt et) (h' : AdqT K tu eu) : AdqT K (tAnd tt tu) (tsAnd et eu) := fun W σ ε μ v μ' Q R En q k => by
  unfold tsAnd at q
  simp only [Option.bind_eq_some_iff] at q
  obtain ⟨⟨c, μ1⟩, h1, h2⟩ := q
  refine h W σ ε μ c μ1 _ R En h1 fun W1 R1 E1 => ?_
  cases c with
  | true => exact iteT (h' W1 σ ε μ1 v μ' Q R1 (En.mono E1) h2 (k.ext E1))
  | false => cases h2; exact iteF (k W1 R1 E1)
theorem adq_or {K : PySem.W.Frag} (h : AdqT K tt et) (h' : AdqT K tu eu) : AdqT K (tOr tt tu) (tsOr et eu) := fun W σ ε μ v μ' Q R En q k => by
  unfold tsOr at q
  simp only [Option.bind_eq_some_iff] at q
  obtain ⟨⟨c, μ1⟩, h1, h2⟩ := q
  refine h W σ ε μ c μ1 _ R En h1 fun W1 R1 E1 => ?_
  cases c with
  | false => exact iteF (h' W1 σ ε μ1 v μ' Q R1 (En.mono E1) h2 (k.ext E1))
  | true => cases h2; exact iteT (k W1 R1 E1)
theorem vw_and1 (ha : VT X a tt et) : VW X (.BoolOp .And [a] pos) tt et := ⟨pw_and1 ha.pt, ha.ad⟩
theorem vw_or1 (ha : VT X a tt et) : VW X (.BoolOp .Or [a] pos) tt et := ⟨pw_or1 ha.pt, ha.ad⟩
theorem vw_and (ha : VT X a tt et) (hb : VW X (.BoolOp .And (b :: rest) pos) tu eu) : VW X (.BoolOp .And (a :: b :: rest) pos) (tAnd tt tu) (tsAnd et eu) := ⟨pw_and ha.pt hb.pw, adq_and ha.ad hb.ad⟩
theorem vw_or (ha : VT X a tt et) (hb : VW X (.BoolOp .Or (b :: rest) pos) tu eu) : VW X (.BoolOp .Or (a :: b :: rest) pos) (tOr tt tu) (tsOr et eu) := ⟨pw_or ha.pt hb.pw, adq_or ha.ad hb.ad⟩
theorem VW.vt (h : VW X a tt et) : VT X a tt et := ⟨h.pw.pt, h.ad⟩
theorem vt_not (ha : VT X a tt et) : VT X (.UnaryOp .Not a pos) (tNot tt) (tsNot et) := by
  refine ⟨pt_not ha.pt, fun W σ ε μ v μ' Q R En q k => ?_⟩
  unfold tsNot at q
  simp only [Option.bind_eq_some_iff] at q
  obtain ⟨⟨c, μ1⟩, h1, h2⟩ := q
  cases h2
  exact ha.ad W σ ε μ c μ1 _ R En h1 fun W1 R1 E1 => k W1 R1 E1
theorem ve_if (hc : VT X c tt et) (ha : VE X a ta ea) (hb : VE X b tb eb) : VE X (.IfExp c a b pos) (tIf tt ta tb) (eIf et ea eb) := by
  refine ⟨pe_ifExp hc.pt ha.pe hb.pe, fun W σ ε μ v μ' Q R En q k => ?_⟩
  unfold eIf at q
  simp only [Option.bind_eq_some_iff] at q
  obtain ⟨⟨c, μ1⟩, h1, h2⟩ := q
  refine hc.ad W σ ε μ c μ1 _ R En h1 fun W1 R1 E1 => ?_
  cases c with
  | true => exact iteT (ha.ad W1 σ ε μ1 v μ' Q R1 (En.mono E1) h2 (k.ext E1))
  | false => exact iteF (hb.ad W1 σ ε μ1 v μ' Q R1 (En.mono E1) h2 (k.ext E1))
/-! ### and, or, not as values -/
theorem rpv_bl {K : PySem.W.Frag} {W : Wd} {n : Nat} {b : Bool} {x : V} (h : RPV K W n (.dat (.bool b)) x) : x = .bl b := by cases h; rfl
theorem ve_one {op} (h : VE X a ta ea) : VE X (.BoolOp op [a] pos) ta ea := ⟨pe_one h.pe, h.ad⟩
theorem ve_and (ha : VE X a ta ea) (hb : VE X (.BoolOp .And (b :: rest) pos) tb eb) : VE X (.BoolOp .And (a :: b :: rest) pos) (tAndV ta tb) (eAnd ea eb) := by
  refine ⟨pe_and ha.pe hb.pe, fun W σ ε μ v μ' Q R En q k => ?_⟩
  unfold eAnd at q
  simp only [Option.bind_eq_some_iff] at q
  obtain ⟨⟨x, μ1⟩, h1, h2⟩ := q
  refine ha.ad W σ ε μ x μ1 _ R En h1 fun vx W1 R1 E1 r1 => ?_
  split at h2
  · rename_i c e
    simp only [] at e h2
    subst e
    obtain rfl := rpv_bl r1
    cases c with
    | true => exact ⟨_, rfl, iteT (hb.ad W1 σ ε μ1 v μ' Q R1 (En.mono E1) h2 (k.ext E1))⟩
    | false => cases h2; exact ⟨_, rfl, iteF (k _ W1 R1 E1 (.bl false))⟩
  · cases h2
theorem ve_or (ha : VE X a ta ea) (hb : VE X (.BoolOp .Or (b :: rest) pos) tb eb) : VE X (.BoolOp .Or (a :: b :: rest) pos) (tOrV ta tb) (eOr ea eb) := by
  refine ⟨pe_or ha.pe hb.pe, fun W σ ε μ v μ' Q R En q k => ?_⟩
  unfold eOr at q
  simp only [Option.bind_eq_some_iff] at q
  obtain ⟨⟨x, μ1⟩, h1, h2⟩ := q
  refine ha.ad W σ ε μ x μ1 _ R En h1 fun vx W1 R1 E1 r1 => ?_
  split at h2
  · rename_i c e
    simp only [] at e h2
    subst e
    obtain rfl := rpv_bl r1
    cases c with
    | false => exact ⟨_, rfl, iteF (hb.ad W1 σ ε μ1 v μ' Q R1 (En.mono E1) h2 (k.ext E1))⟩
    | true => cases h2; exact ⟨_, rfl, iteT (k _ W1 R1 E1 (.bl true))⟩
  · cases h2
theorem ve_not (ha : VE X a ta ea) : VE X (.UnaryOp .Not a pos) (tNotV ta) (eNot ea) := by
  refine ⟨pe_not ha.pe, fun W σ ε μ v μ' Q R En q k => ?_⟩
  unfold eNot at q
  simp only [Option.bind_eq_some_iff] at q
  obtain ⟨⟨x, μ1⟩, h1, h2⟩ := q
  refine ha.ad W σ ε μ x μ1 _ R En h1 fun vx W1 R1 E1 r1 => ?_
  split at h2
  · rename_i c e
    simp only [] at e h2
    subst e
    obtain rfl := rpv_bl r1
    cases h2
    exact ⟨_, rfl, k _ W1 R1 E1 (.bl _)⟩
  · cases h2
end
end VX
namespace VX
open PySem PySem.Spec PyProof.Rows L2

inductive Out where
  | nx (ε : Evn) (μ : Sto)
  | rt (v : PV) (μ : Sto)
  | bk (ε : Evn) (μ : Sto)
  | ct (ε : Evn) (μ : Sto)
abbrev RnF := Evn → Sto → Option Out
abbrev TgF := PV → Evn → Sto → Option (Evn × Sto)
abbrev SrF := Evn → Sto → Option ((List PV × Option Nat) × Sto)

section
variable (K : PySem.W.Frag)
def OutOk (W : Wd) (n : Nat) (D : Ends) : Out → Prop
  | .nx ε μ => ∀ W' σ', Rl K W' μ → Ext W n W' μ.length → EnvR K W' μ.length σ' ε → D.nx σ' W'.H
  | .rt v μ => ∀ W' x, Rl K W' μ → Ext W n W' μ.length → RPV K W' μ.length v x → D.rt x W'.H
  | .bk ε μ => ∀ W' σ', Rl K W' μ → Ext W n W' μ.length → EnvR K W' μ.length σ' ε → D.bk σ' W'.H
  | .ct ε μ => ∀ W' σ', Rl K W' μ → Ext W n W' μ.length → EnvR K W' μ.length σ' ε → D.ct σ' W'.H
def AdqS (ts : TS) (rn : RnF) : Prop := ∀ W σ ε μ out D, Rl K W μ → EnvR K W μ.length σ ε → rn ε μ = some out → OutOk K W μ.length D out → ts D σ W.H
def AdqG (g : TG) (tg : TgF) : Prop := ∀ W σ ε μ v x ε' μ' (Q : L2.St → Hp → Prop), Rl K W μ → EnvR K W μ.length σ ε → RPV K W μ.length v x → tg v ε μ = some (ε', μ') →
  (∀ W' σ', Rl K W' μ' → Ext W μ.length W' μ'.length → EnvR K W' μ'.length σ' ε' → Q σ' W'.H) → g x σ W.H Q
def AdqGs (g : TGs) (tg : List PV → Evn → Sto → Option (Evn × Sto)) : Prop := ∀ W σ ε μ vs xs ε' μ' (Q : L2.St → Hp → Prop), Rl K W μ → EnvR K W μ.length σ ε → Pvs K W μ.length vs xs → tg vs ε μ = some (ε', μ') →
  (∀ W' σ', Rl K W' μ' → Ext W μ.length W' μ'.length → EnvR K W' μ'.length σ' ε' → Q σ' W'.H) → g xs σ W.H Q
/-- a guard: the owned list k is still as it was -/
def Grd (items : List PV) (μ : Sto) : Option Nat → Prop
  | none => True
  | some k => μ[k]? = some (.lst items)
def Gives (J : It) (items : List PV) (ok : Option Nat) (W0 : Wd) (n0 : Nat) : Prop := ∀ W μ, Rl K W μ → Ext W0 n0 W μ.length → Grd items μ ok →
  (∀ (i : Nat) p, items[i]? = some p → J.go i W.H ∧ ∀ x H', J.yld i W.H x H' → ∃ W', W'.H = H' ∧ Rl K W' μ ∧ Ext W μ.length W' μ.length ∧ RPV K W' μ.length p x) ∧ J.stop items.length W.H
def AdqI (wi : TI) (src : SrF) : Prop := ∀ W σ ε μ items ok μ' (R : It → Hp → Prop), Rl K W μ → EnvR K W μ.length σ ε → src ε μ = some ((items, ok), μ') →
  (∀ W' J, Rl K W' μ' → Ext W μ.length W' μ'.length → Gives K J items ok W' μ'.length → R J W'.H) → wi σ W.H R
end
structure VS (X : Cx) (st : Stmt) (ts : TS) (rn : RnF) : Prop where
  ps : PS X st ts
  ad : AdqS X.K ts rn
structure VSs (X : Cx) (sts : List Stmt) (ts : TS) (rn : RnF) : Prop where
  ps : PSs X sts ts
  ad : AdqS X.K ts rn
structure VG (X : Cx) (e : Expr) (g : TG) (tg : TgF) : Prop where
  pg : PG X e g
  ad : AdqG X.K g tg
structure VGs (X : Cx) (es : List Expr) (g : TGs) (tg : List PV → Evn → Sto → Option (Evn × Sto)) : Prop where
  pg : PGs X es g
  ad : AdqGs X.K g tg
structure VI (X : Cx) (tg iter : Expr) (wi : TI) (src : SrF) : Prop where
  pi : PI X tg iter wi
  ad : AdqI X.K wi src

theorem OutOk.ext {K : PySem.W.Frag} {W W' : Wd} {n n' : Nat} {D : Ends} {o : Out} (k : OutOk K W n D o) (e : Ext W n W' n') : OutOk K W' n' D o := by
  cases o with
  | nx ε μ => exact fun W2 σ2 R E En => k W2 σ2 R (e.trans E) En
  | rt ε μ => exact fun W2 σ2 R E En => k W2 σ2 R (e.trans E) En
  | bk ε μ => exact fun W2 σ2 R E En => k W2 σ2 R (e.trans E) En
  | ct ε μ => exact fun W2 σ2 R E En => k W2 σ2 R (e.trans E) En

/-! ### statements -/
@[simp] def sSeq (a b : RnF) : RnF := fun ε μ => (a ε μ).bind fun o => match o with | .nx ε' μ' => b ε' μ' | o => some o
@[simp] def sNil : RnF := fun ε μ => some (.nx ε μ)
@[simp] def sBrk : RnF := fun ε μ => some (.bk ε μ)
@[simp] def sCnt : RnF := fun ε μ => some (.ct ε μ)
@[simp] def sSet (i : Nat) (e : EvF) : RnF := fun ε μ => (e ε μ).bind fun x => some (.nx (ε.set i (some x.1)) x.2)
@[simp] def sRet (e : EvF) : RnF := fun ε μ => (e ε μ).bind fun x => some (.rt x.1 x.2)
@[simp] def sRetN : RnF := fun ε μ => some (.rt (.dat .none) μ)
@[simp] def sIf (t : TsF) (a b : RnF) : RnF := fun ε μ => (t ε μ).bind fun c => if c.1 = true then a ε c.2 else b ε c.2
@[simp] def sExpr (e : EvF) : RnF := fun ε μ => (e ε μ).bind fun x => some (.nx ε x.2)
@[simp] def sAsg (e : EvF) (g : TgF) : RnF := fun ε μ => (e ε μ).bind fun x => (g x.1 ε x.2).bind fun y => some (.nx y.1 y.2)
/-- the turn's end -/
@[simp] def turnO (k : RnF) : Out → Option Out
  | .nx ε μ => k ε μ
  | .ct ε μ => k ε μ
  | .bk ε μ => some (.nx ε μ)
  | .rt v μ => some (.rt v μ)
def whileN (c : TsF) (b : RnF) : Nat → RnF
  | 0 => fun _ _ => none
  | m + 1 => fun ε μ => (c ε μ).bind fun r => if r.1 = true then (b ε r.2).bind (turnO (whileN c b m)) else some (.nx ε r.2)
mutual
def dEq : PyData → PyData → Bool
  | .none, .none => true
  | .bool a, .bool b => a == b
  | .int a, .int b => a == b
  | .str a, .str b => a == b
  | .list a, .list b => dsEq a b
  | .tuple a, .tuple b => dsEq a b
  | _, _ => false
def dsEq : List PyData → List PyData → Bool
  | [], [] => true
  | a :: as, b :: bs => dEq a b && dsEq as bs
  | _, _ => false
end
mutual
theorem dEq_eq : ∀ a b : PyData, dEq a b = true → a = b
  | .none, b, h => by cases b <;> simp_all [dEq]
  | .bool x, b, h => by cases b <;> simp_all [dEq]
  | .int x, b, h => by cases b <;> simp_all [dEq]
  | .str x, b, h => by cases b <;> simp_all [dEq]
  | .dict x, b, h => by cases b <;> simp_all [dEq]
  | .list x, b, h => by
    cases b with
    | list y => rw [dsEq_eq x y (by simpa [dEq] using h)]
    | _ => simp_all [dEq]
  | .tuple x, b, h => by
    cases b with
    | tuple y => rw [dsEq_eq x y (by simpa [dEq] using h)]
    | _ => simp_all [dEq]
theorem dsEq_eq : ∀ a b : List PyData, dsEq a b = true → a = b
  | [], [], _ => rfl
  | [], _ :: _, h => by simp [dsEq] at h
  | _ :: _, [], h => by simp [dsEq] at h
  | a :: as, b :: bs, h => by
    simp only [dsEq, Bool.and_eq_true] at h
    rw [dEq_eq a b h.1, dsEq_eq as bs h.2]
end
def pEq : PV → PV → Bool
  | .dat a, .dat b => dEq a b
  | .ptr a, .ptr b => a == b
  | .scr a, .scr b => a == b
  | _, _ => false
theorem pEq_eq {a b : PV} (h : pEq a b = true) : a = b := by
  cases a <;> cases b <;> simp_all [pEq]
  exact dEq_eq _ _ h
def psEq : List PV → List PV → Bool
  | [], [] => true
  | a :: as, b :: bs => pEq a b && psEq as bs
  | _, _ => false
theorem psEq_eq : ∀ {a b : List PV}, psEq a b = true → a = b
  | [], [], _ => rfl
  | [], _ :: _, h => by simp [psEq] at h
  | _ :: _, [], h => by simp [psEq] at h
  | a :: as, b :: bs, h => by
    simp only [psEq, Bool.and_eq_true] at h
    rw [pEq_eq h.1, psEq_eq h.2]
def okG (items : List PV) (ok : Option Nat) (μ : Sto) : Bool := match ok with
  | none => true
  | some k => match μ[k]? with | some (.lst xs) => psEq xs items | _ => false
def forD (G : Sto → Bool) (tg : TgF) (b : RnF) : List PV → RnF
  | [] => fun ε μ => if G μ = true then some (.nx ε μ) else none
  | p :: r => fun ε μ => if G μ = true then (tg p ε μ).bind fun y => (b y.1 y.2).bind (turnO (forD G tg b r)) else none
def sFor (src : SrF) (tg : TgF) (b : RnF) : RnF := fun ε μ => (src ε μ).bind fun x => forD (okG x.1.1 x.1.2) tg b x.1.1 ε x.2
@[simp] def tgN (i : Nat) : TgF := fun v ε μ => some (ε.set i (some v), μ)
@[simp] def tgsNil : List PV → Evn → Sto → Option (Evn × Sto) := fun vs ε μ => match vs with | [] => some (ε, μ) | _ => none
@[simp] def tgsCons (t : TgF) (u : List PV → Evn → Sto → Option (Evn × Sto)) : List PV → Evn → Sto → Option (Evn × Sto) := fun vs ε μ => match vs with
  | v :: r => (t v ε μ).bind fun y => u r y.1 y.2
  | [] => none
@[simp] def tgT (n : Nat) (u : List PV → Evn → Sto → Option (Evn × Sto)) : TgF := fun v ε μ => match v with
  | .dat (.tuple ds) => if ds.length = n then u (ds.map PV.dat) ε μ else none
  | _ => none

section
variable {X : Cx} {st : Stmt} {rest sts sts' : List Stmt} {ts us : TS} {rn rm : RnF} {e c tg iter : Expr} {te : TE} {ev : EvF} {tt : TT} {et : TsF} {pos : Pos} {g : TG} {gf : TgF} {gs : TGs} {gfs : List PV → Evn → Sto → Option (Evn × Sto)} {wi : TI} {src : SrF}
theorem vss_nil : VSs X [] tNext sNil := ⟨pss_nil, fun W σ ε μ out D R En h k => by cases h; exact k W σ R (Ext.refl _ _) En⟩
theorem vss_one (h : VS X st ts rn) : VSs X [st] ts rn := ⟨pss_one h.ps, h.ad⟩
theorem adq_seq {K : PySem.W.Frag} (h1 : AdqS K ts rn) (h2 : AdqS K us rm) : AdqS K (tSeq ts us) (sSeq rn rm) := fun W σ ε μ out D R En h k => by
  unfold sSeq at h
  simp only [Option.bind_eq_some_iff] at h
  obtain ⟨o, q1, q2⟩ := h
  refine h1 W σ ε μ o _ R En q1 ?_
  cases o with
  | nx ε1 μ1 => exact fun W1 σ1 R1 E1 En1 => h2 W1 σ1 ε1 μ1 out D R1 En1 q2 (k.ext E1)
  | rt v μ1 => cases q2; exact k
  | bk ε1 μ1 => cases q2; exact k
  | ct ε1 μ1 => cases q2; exact k
theorem vss_cons (h1 : VS X st ts rn) (h2 : VSs X rest us rm) : VSs X (st :: rest) (tSeq ts us) (sSeq rn rm) := ⟨pss_cons h1.ps h2.ps, adq_seq h1.ad h2.ad⟩
theorem vs_pass : VS X (.Pass pos) tNext sNil := ⟨ps_pass, fun W σ ε μ out D R En h k => by cases h; exact k W σ R (Ext.refl _ _) En⟩
theorem vs_break : VS X (.Break pos) tBreak sBrk := ⟨ps_break, fun W σ ε μ out D R En h k => by cases h; exact k W σ R (Ext.refl _ _) En⟩
theorem vs_continue : VS X (.Continue pos) tCont sCnt := ⟨ps_continue, fun W σ ε μ out D R En h k => by cases h; exact k W σ R (Ext.refl _ _) En⟩
theorem adq_set {K : PySem.W.Frag} {i : Nat} (h : Adq K te ev) : AdqS K (tAsg te (gName i)) (sSet i ev) := fun W σ ε μ out D R En q k => by
  unfold sSet at q
  simp only [Option.bind_eq_some_iff] at q
  obtain ⟨⟨x, μ1⟩, q1, q2⟩ := q
  cases q2
  exact h W σ ε μ x μ1 _ R En q1 fun vx W1 R1 E1 r1 => k W1 _ R1 E1 ((En.mono E1).set i r1)
theorem vs_set {i : Nat} {x : Str} {pos' : Pos} (hN : X.N.Nodup) (hi : X.N[i]? = some x) (hx : Loc X.env.scope x) (he : VE X e te ev) (hs : swapsWith e (some (.Name x pos')) pos.line X.env = pure false := by rfl)
    (hf : X.fn x = true ∨ X.env.scope.names.lookup x = some .local := by first | exact .inl rfl | exact .inr rfl | assumption) : VS X (.Assign [.Name x pos'] e pos) (tAsg te (gName i)) (sSet i ev) := ⟨ps_set hN hi hx he.pe hs hf, adq_set he.ad⟩
theorem vs_ret (he : VE X e te ev) : VS X (.Return (some e) pos) (tRet te) (sRet ev) := ⟨ps_ret he.pe, fun W σ ε μ out D R En q k => by
  unfold sRet at q
  simp only [Option.bind_eq_some_iff] at q
  obtain ⟨⟨x, μ1⟩, q1, q2⟩ := q
  cases q2
  exact he.ad W σ ε μ x μ1 _ R En q1 fun vx W1 R1 E1 r1 => k W1 _ R1 E1 r1⟩
theorem vs_retN : VS X (.Return none pos) tRetN sRetN := ⟨ps_retN, fun W σ ε μ out D R En q k => by cases q; exact k W _ R (Ext.refl _ _) .non⟩
theorem vs_expr (he : VE X e te ev) (hs : swapsWith e none pos.line X.env = pure false := by rfl) : VS X (.Expr e pos) (tDrop te) (sExpr ev) := ⟨ps_expr he.pe hs, fun W σ ε μ out D R En q k => by
  unfold sExpr at q
  simp only [Option.bind_eq_some_iff] at q
  obtain ⟨⟨x, μ1⟩, q1, q2⟩ := q
  cases q2
  exact he.ad W σ ε μ x μ1 _ R En q1 fun vx W1 R1 E1 r1 => k W1 _ R1 E1 (En.mono E1)⟩
theorem vs_if (hc : VT X c tt et) (ha : VSs X sts ts rn) (hb : VSs X sts' us rm) : VS X (.If c sts sts' pos) (tIfS tt ts us) (sIf et rn rm) := ⟨ps_if hc.pt ha.ps hb.ps, fun W σ ε μ out D R En q k => by
  unfold sIf at q
  simp only [Option.bind_eq_some_iff] at q
  obtain ⟨⟨b, μ1⟩, q1, q2⟩ := q
  refine hc.ad W σ ε μ b μ1 _ R En q1 fun W1 R1 E1 => ?_
  cases b with
  | true => exact iteT (ha.ad W1 σ ε μ1 out D R1 (En.mono E1) q2 (k.ext E1))
  | false => exact iteF (hb.ad W1 σ ε μ1 out D R1 (En.mono E1) q2 (k.ext E1))⟩
/-! ### targets -/
theorem adq_gN {K : PySem.W.Frag} (i : Nat) : AdqG K (gName i) (tgN i) := fun W σ ε μ v x ε' μ' Q R En r h k => by
  cases h
  exact k W _ R (Ext.refl _ _) (En.set i r)
theorem vg_name {i : Nat} {x : Str} (hN : X.N.Nodup) (hi : X.N[i]? = some x) (hx : Loc X.env.scope x) (hf : X.fn x = true ∨ X.env.scope.names.lookup x = some .local := by first | exact .inl rfl | exact .inr rfl | assumption) : VG X (.Name x pos) (gName i) (tgN i) :=
  ⟨pg_name hN hi hx hf, adq_gN i⟩
theorem vgs_nil : VGs X [] gNil tgsNil := ⟨pgs_nil, fun W σ ε μ vs xs ε' μ' Q R En r h k => by
  cases r with
  | nil => cases h; exact ⟨rfl, k W σ R (Ext.refl _ _) En⟩
  | cons => cases h⟩
theorem vgs_cons {es : List Expr} (h1 : VG X e g gf) (h2 : VGs X es gs gfs) (hs : (assignEach (e :: es) X.env).map (·.2) = assign e X.env :: (assignEach es X.env).map (·.2) := by rfl) : VGs X (e :: es) (gCons g gs) (tgsCons gf gfs) := ⟨pgs_cons h1.pg h2.pg hs, fun W σ ε μ vs xs ε' μ' Q R En r h k => by
  cases r with
  | nil => cases h
  | cons rx rr =>
    unfold tgsCons at h
    simp only [Option.bind_eq_some_iff] at h
    obtain ⟨⟨ε1, μ1⟩, q1, q2⟩ := h
    exact ⟨_, _, rfl, h1.ad W σ ε μ _ _ ε1 μ1 _ R En rx q1 fun W1 σ1 R1 E1 En1 => h2.ad W1 σ1 ε1 μ1 _ _ ε' μ' Q R1 En1 (Pvs.mono E1 rr) q2 fun W2 σ2 R2 E2 En2 => k W2 σ2 R2 (E1.trans E2) En2⟩⟩
theorem vg_tup {es : List Expr} {k : Nat} {n : Nat} (hc : X.calm = true) (h : VGs X es gs gfs) (hn : (assignEach es X.env).length = n := by rfl) (hst : (assignEach es X.env).findIdx? (·.1) = none := by rfl) : VG X (.Tuple es k pos) (gTup X.K n gs) (tgT n gfs) := ⟨pg_tup hc h.pg hn hst, fun W σ ε μ v x ε' μ' Q R En r q k => by
  unfold tgT at q
  split at q
  · rename_i ds
    by_cases hl : ds.length = n
    · rw [if_pos hl] at q
      cases r with
      | tup e a =>
        exact ⟨_, _, rfl, SqT.of (R.sub _ _ e), by have := Pvs.length (DtAll.pvs (K := X.K) (W := W) (n := μ.length) a); simp at this; omega, h.ad W σ ε μ _ _ ε' μ' Q R En (DtAll.pvs a) q k⟩
    · rw [if_neg hl] at q; cases q
  · cases q⟩
theorem vs_asg (he : VE X e te ev) (hg : VG X tg g gf) (hs : swapsWithSole [tg] e pos.line X.env = pure false := by rfl) (hw : swappedStores [tg] e X.env = pure none := by rfl) (h1 : (assignEach [tg] X.env).map (·.2) = [assign tg X.env] := by rfl) :
    VS X (.Assign [tg] e pos) (tAsg te g) (sAsg ev gf) := ⟨ps_asg he.pe hg.pg hs hw h1, fun W σ ε μ out D R En q k => by
  unfold sAsg at q
  simp only [Option.bind_eq_some_iff] at q
  obtain ⟨⟨x, μ1⟩, q1, ⟨ε2, μ2⟩, q2, q3⟩ := q
  cases q3
  exact he.ad W σ ε μ x μ1 _ R En q1 fun vx W1 R1 E1 r1 => hg.ad W1 σ ε μ1 x vx ε2 μ2 _ R1 (En.mono E1) r1 q2 fun W2 σ2 R2 E2 En2 => k W2 σ2 R2 (E1.trans E2) En2⟩
/-! ### while -/
theorem adq_while {K : PySem.W.Frag} (m : Nat) (hc : AdqT K tt et) (hb : AdqS K ts rn) : AdqS K (tWhile tt ts) (whileN et rn m) := fun W σ ε μ out D R En q k => by
  refine ⟨fun m σ' H' => ∃ W' ε' μ', W'.H = H' ∧ Rl K W' μ' ∧ Ext W μ.length W' μ'.length ∧ EnvR K W' μ'.length σ' ε' ∧ whileN et rn m ε' μ' = some out, ⟨m, W, ε, μ, rfl, R, Ext.refl _ _, En, q⟩, fun m1 σ1 H1 h => ?_⟩
  obtain ⟨W1, ε1, μ1, rfl, R1, E1, En1, q1⟩ := h
  cases m1 with
  | zero => cases q1
  | succ m2 =>
    unfold whileN at q1
    simp only [Option.bind_eq_some_iff] at q1
    obtain ⟨⟨b, μ2⟩, q2, q3⟩ := q1
    refine hc W1 σ1 ε1 μ1 b μ2 _ R1 En1 q2 fun W2 R2 E2 => ?_
    cases b with
    | false => cases q3; exact iteF (k W2 σ1 R2 (E1.trans E2) (En1.mono E2))
    | true =>
      refine iteT ⟨fun σ' H' => ∃ W' ε' μ', W'.H = H' ∧ Rl K W' μ' ∧ Ext W μ.length W' μ'.length ∧ EnvR K W' μ'.length σ' ε' ∧ whileN et rn m2 ε' μ' = some out, fun σ' H' h => ⟨m2, Nat.lt_succ_self _, h⟩, ?_⟩
      simp only [if_true, Option.bind_eq_some_iff] at q3
      obtain ⟨o, q4, q5⟩ := q3
      refine hb W2 σ1 ε1 μ2 o _ R2 (En1.mono E2) q4 ?_
      cases o with
      | nx ε3 μ3 => exact fun W3 σ3 R3 E3 En3 => ⟨W3, ε3, μ3, rfl, R3, (E1.trans E2).trans E3, En3, q5⟩
      | ct ε3 μ3 => exact fun W3 σ3 R3 E3 En3 => ⟨W3, ε3, μ3, rfl, R3, (E1.trans E2).trans E3, En3, q5⟩
      | bk ε3 μ3 => cases q5; exact fun W3 σ3 R3 E3 En3 => k W3 σ3 R3 ((E1.trans E2).trans E3) En3
      | rt v μ3 => cases q5; exact fun W3 σ3 R3 E3 En3 => k W3 σ3 R3 ((E1.trans E2).trans E3) En3
theorem vs_while (m : Nat) (hp : PassesOwn (model X.prog X.w) X.A X.env X.xe) (hc : VT X c tt et) (hb : VSs X sts ts rn) : VS X (.While c sts [] pos) (tWhile tt ts) (whileN et rn m) := ⟨ps_while hp hc.pt hb.ps, adq_while m hc.ad hb.ad⟩
/-! ### for -/
theorem okG_ok {items : List PV} {ok : Option Nat} {μ : Sto} (h : okG items ok μ = true) : Grd items μ ok := by
  cases ok with
  | none => trivial
  | some k =>
    unfold okG at h
    simp only [] at h
    unfold Grd
    split at h
    · rename_i xs e
      rw [psEq_eq h] at e
      exact e
    · cases h
theorem adq_for {K : PySem.W.Frag} (hi : AdqI K wi src) (hg : AdqG K g gf) (hb : AdqS K ts rn) : AdqS K (tFor wi g ts) (sFor src gf rn) := fun W σ ε μ out D R En q k => by
  unfold sFor at q
  simp only [Option.bind_eq_some_iff] at q
  obtain ⟨⟨⟨items, ok⟩, μ1⟩, q1, q2⟩ := q
  refine hi W σ ε μ items ok μ1 _ R En q1 fun W1 J R1 E1 G => ?_
  refine ⟨fun i m σ' H' => ∃ W' ε' μ', W'.H = H' ∧ Rl K W' μ' ∧ Ext W1 μ1.length W' μ'.length ∧ EnvR K W' μ'.length σ' ε' ∧ i + m = items.length ∧ forD (okG items ok) gf rn (items.drop i) ε' μ' = some out,
    ⟨items.length, W1, ε, μ1, rfl, R1, Ext.refl _ _, En.mono E1, by omega, by simpa using q2⟩, fun i m σ2 H2 h => ?_⟩
  obtain ⟨W2, ε2, μ2, rfl, R2, E2, En2, em, q3⟩ := h
  cases m with
  | zero =>
    have : items.drop i = [] := List.drop_eq_nil_of_le (by omega)
    rw [this] at q3
    simp only [forD] at q3
    by_cases hG : okG items ok μ2 = true
    · rw [if_pos hG] at q3
      cases q3
      have := (G W2 μ2 R2 E2 (okG_ok hG)).2
      rw [show items.length = i by omega] at this
      exact .inl ⟨this, k W2 σ2 R2 (E1.trans E2) En2⟩
    · rw [if_neg hG] at q3; cases q3
  | succ m =>
    have hi' : i < items.length := by omega
    rw [List.drop_eq_getElem_cons hi'] at q3
    simp only [forD] at q3
    by_cases hG : okG items ok μ2 = true
    · rw [if_pos hG] at q3
      simp only [Option.bind_eq_some_iff] at q3
      obtain ⟨⟨ε3, μ3⟩, q4, o, q5, q6⟩ := q3
      obtain ⟨go, yl⟩ := (G W2 μ2 R2 E2 (okG_ok hG)).1 i _ (List.getElem?_eq_getElem hi')
      refine .inr ⟨go, fun σ' H' => ∃ W' ε' μ', W'.H = H' ∧ Rl K W' μ' ∧ Ext W1 μ1.length W' μ'.length ∧ EnvR K W' μ'.length σ' ε' ∧ (i + 1) + m = items.length ∧ forD (okG items ok) gf rn (items.drop (i + 1)) ε' μ' = some out, fun σ' H' h => ⟨m, Nat.lt_succ_self _, h⟩, fun x H' hy => ?_⟩
      obtain ⟨W3, rfl, R3, E3, r3⟩ := yl x H' hy
      refine hg W3 σ2 ε2 μ2 _ x ε3 μ3 _ R3 (En2.mono E3) r3 q4 fun W4 σ4 R4 E4 En4 => ?_
      refine hb W4 σ4 ε3 μ3 o _ R4 En4 q5 ?_
      have E14 := (E2.trans E3).trans E4
      cases o with
      | nx ε5 μ5 => exact fun W5 σ5 R5 E5 En5 => ⟨W5, ε5, μ5, rfl, R5, E14.trans E5, En5, by omega, q6⟩
      | ct ε5 μ5 => exact fun W5 σ5 R5 E5 En5 => ⟨W5, ε5, μ5, rfl, R5, E14.trans E5, En5, by omega, q6⟩
      | bk ε5 μ5 => cases q6; exact fun W5 σ5 R5 E5 En5 => k W5 σ5 R5 (E1.trans (E14.trans E5)) En5
      | rt v μ5 => cases q6; exact fun W5 σ5 R5 E5 En5 => k W5 σ5 R5 (E1.trans (E14.trans E5)) En5
    · rw [if_neg hG] at q3; cases q3
theorem vs_for (hp : PassesOwn (model X.prog X.w) X.A X.env X.xe) (hc : X.calm = true) (hi : VI X tg iter wi src) (hg : VG X tg g gf) (hb : VSs X sts ts rn) (hs : ∀ x, foldedSetIterable iter X.env x = pure x := by intro _; rfl) :
    VS X (.For tg iter sts [] pos) (tFor wi g ts) (sFor src gf rn) := ⟨ps_for hp hc hi.pi hg.pg hb.ps hs, adq_for hi.ad hg.ad hb.ad⟩
end

/-! ### comprehensions -/
@[simp] def wipeE (ε : Evn) : List Nat → Evn
  | [] => ε
  | v :: vs => (wipeE ε vs).set v none
theorem EnvR.wipe {K : PySem.W.Frag} {W : Wd} {n : Nat} {σ : L2.St} {ε : Evn} (h : EnvR K W n σ ε) : ∀ vs : List Nat, EnvR K W n (L2.wipe σ vs) (wipeE ε vs)
  | [] => h
  | v :: vs => by
    have ih := h.wipe vs
    refine ⟨by simp [L2.wipe, wipeE, ih.len], fun i p e => ?_⟩
    unfold wipeE at e
    unfold L2.wipe
    by_cases hv : v = i
    · subst hv
      by_cases hl : v < (wipeE ε vs).length
      · rw [List.getElem?_set_self hl] at e; cases e
      · rw [List.getElem?_eq_none (by simp; omega)] at e; cases e
    · rw [List.getElem?_set_ne hv] at e ⊢
      exact ih.get i p e
def lcD (G : Sto → Bool) (tg : TgF) (tt : TsF) (te : EvF) (w : Evn) : List PV → Sto → Option (List PV × Sto)
  | [], μ => if G μ = true then some ([], μ) else none
  | p :: r, μ => if G μ = true then (tg p w μ).bind fun y => (tt y.1 y.2).bind fun b => if b.1 = true then (te y.1 b.2).bind fun v => (lcD G tg tt te w r v.2).bind fun z => some (v.1 :: z.1, z.2) else lcD G tg tt te w r b.2 else none
def eLc (own : Bool) (src : SrF) (tg : TgF) (tt : TsF) (te : EvF) (vs : List Nat) : EvF := fun ε μ => (src ε μ).bind fun x => (lcD (okG x.1.1 x.1.2) tg tt te (wipeE ε vs) x.1.1 x.2).bind fun z => mkL own z.1 z.2
@[simp] def tsYes : TsF := fun _ μ => some (true, μ)
/-- the target stores nothing but the block's own names -/
def OnlyG (g : TG) (vs : List Nat) : Prop := ∀ v σ H (Q : L2.St → Hp → Prop), g v σ H Q → g v σ H fun σ' H' => Q σ' H' ∧ L2.wipe σ' vs = L2.wipe σ vs
def OnlyGs (g : TGs) (vs : List Nat) : Prop := ∀ v σ H (Q : L2.St → Hp → Prop), g v σ H Q → g v σ H fun σ' H' => Q σ' H' ∧ L2.wipe σ' vs = L2.wipe σ vs
theorem wipe_set {σ : L2.St} {x : Option V} {i : Nat} : ∀ {vs : List Nat}, i ∈ vs → L2.wipe (σ.set i x) vs = L2.wipe σ vs
  | [], h => by simp at h
  | v :: vs, h => by
    have key : ∀ (us : List Nat), L2.wipe (σ.set i x) us = (L2.wipe σ us) ∨ L2.wipe (σ.set i x) us = (L2.wipe σ us).set i x := by
      intro us
      induction us with
      | nil => exact .inr rfl
      | cons u us ih =>
        show (L2.wipe (σ.set i x) us).set u none = (L2.wipe σ us).set u none ∨ (L2.wipe (σ.set i x) us).set u none = ((L2.wipe σ us).set u none).set i x
        rcases ih with ih | ih
        · rw [ih]; exact .inl rfl
        · rw [ih]
          by_cases hu : i = u
          · subst hu; rw [List.set_set]; exact .inl rfl
          · rw [List.set_comm _ _ hu]; exact .inr rfl
    show (L2.wipe (σ.set i x) vs).set v none = (L2.wipe σ vs).set v none
    rcases List.mem_cons.mp h with rfl | h
    · rcases key vs with e | e
      · rw [e]
      · rw [e, List.set_set]
    · rw [wipe_set h]
theorem onlyN {i : Nat} {vs : List Nat} (h : i ∈ vs := by decide) : OnlyG (gName i) vs := fun v σ H Q q => ⟨q, wipe_set h⟩
theorem onlyNil {vs : List Nat} : OnlyGs gNil vs := fun v σ H Q q => ⟨q.1, q.2, rfl⟩
/-- targets are monotone -/
def MonoG (g : TG) : Prop := ∀ v σ H (Q Q' : L2.St → Hp → Prop), (∀ a b, Q a b → Q' a b) → g v σ H Q → g v σ H Q'
def MonoGs (g : TGs) : Prop := ∀ v σ H (Q Q' : L2.St → Hp → Prop), (∀ a b, Q a b → Q' a b) → g v σ H Q → g v σ H Q'
theorem monoN {i : Nat} : MonoG (gName i) := fun _ _ _ _ _ m h => m _ _ h
theorem monoNil : MonoGs gNil := fun _ _ _ _ _ m h => ⟨h.1, m _ _ h.2⟩
theorem monoCons {g : TG} {gs : TGs} (h1 : MonoG g) (h2 : MonoGs gs) : MonoGs (gCons g gs) := fun v σ H Q Q' m ⟨a, r, e, q⟩ => ⟨a, r, e, h1 _ _ _ _ _ (fun _ _ z => h2 _ _ _ _ _ m z) q⟩
theorem monoT {K : PySem.W.Frag} {n : Nat} {gs : TGs} (h : MonoGs gs) : MonoG (gTup K n gs) := fun v σ H Q Q' m ⟨a, xs, e1, e2, e3, q⟩ => ⟨a, xs, e1, e2, e3, h _ _ _ _ _ m q⟩
theorem onlyCons {g : TG} {gs : TGs} {vs : List Nat} (m1 : MonoG g) (m2 : MonoGs gs) (h1 : OnlyG g vs) (h2 : OnlyGs gs vs) : OnlyGs (gCons g gs) vs := fun v σ H Q ⟨a, r, e, q⟩ =>
  ⟨a, r, e, m1 _ _ _ _ _ (fun σ1 H1 z => m2 _ _ _ _ _ (fun σ2 H2 w => ⟨w.1, w.2.trans z.2⟩) (h2 _ _ _ _ z.1)) (h1 _ _ _ _ q)⟩
theorem onlyT {K : PySem.W.Frag} {n : Nat} {gs : TGs} {vs : List Nat} (h : OnlyGs gs vs) : OnlyG (gTup K n gs) vs := fun v σ H Q ⟨a, xs, e1, e2, e3, q⟩ => ⟨a, xs, e1, e2, e3, h _ _ _ _ q⟩
theorem wipe_wipe {σ : L2.St} : ∀ vs : List Nat, L2.wipe (L2.wipe σ vs) vs = L2.wipe σ vs := by
  have key : ∀ (us vs : List Nat), (∀ u ∈ us, u ∈ vs) → L2.wipe (L2.wipe σ us) vs = L2.wipe σ vs := by
    intro us
    induction us with
    | nil => intro vs _; rfl
    | cons u us ih =>
      intro vs h
      show L2.wipe ((L2.wipe σ us).set u none) vs = _
      rw [wipe_set (h u List.mem_cons_self)]
      exact ih vs fun z hz => h z (List.mem_cons_of_mem _ hz)
  exact fun vs => key vs vs fun _ h => h

section
variable {K : PySem.W.Frag}
/-- a list that is being made, known to nobody -/
structure Side (W : Wd) (n : Nat) (D : Addr) (vs : List V) : Prop where
  at_ : W.H D = some (.lst vs)
  im : W.Hi D = none
  ne : ∀ k, k < n → W.at' k ≠ D
theorem Side.ext {W W' : Wd} {n n' : Nat} {D : Addr} {vs : List V} (s : Side W n D vs) (e : Ext W n W' n') : Side W' n' D vs where
  at_ := e.fr _ _ s.at_ s.ne
  im := by
    cases q : W'.Hi D with
    | none => rfl
    | some o =>
      rcases e.nw D o q s.im with h | ⟨k, hk, h⟩
      · rw [s.at_] at h; cases h
      · exact absurd h (s.ne k hk)
  ne := fun k hk z => by
    by_cases hn : k < n
    · exact s.ne k hn ((e.io k hn).symm.trans z)
    · have := e.np k (Nat.not_lt.mp hn) hk
      rw [z, s.at_] at this; cases this
theorem Side.put {W W0 : Wd} {n0 : Nat} {μ : Sto} {D : Addr} {vs ws : List V} (R : Rl K W μ) (s : Side W μ.length D vs) (E : Ext W0 n0 W μ.length) (h0 : W0.H D = none) :
    Rl K ⟨W.Hi, upd W.H D (.lst ws), W.at'⟩ μ ∧ Ext W0 n0 ⟨W.Hi, upd W.H D (.lst ws), W.at'⟩ μ.length ∧ Side ⟨W.Hi, upd W.H D (.lst ws), W.at'⟩ μ.length D ws ∧ (∀ {p x}, RPV K W μ.length p x → RPV K ⟨W.Hi, upd W.H D (.lst ws), W.at'⟩ μ.length p x) := by
  have tr : ∀ {p x}, RPV K W μ.length p x → RPV K ⟨W.Hi, upd W.H D (.lst ws), W.at'⟩ μ.length p x := fun {p x} h => by cases p <;> exact h
  refine ⟨⟨fun a o h => ?_, fun k o h => ?_, R.off, R.inj, fun k hk => let ⟨u, e⟩ := R.th k hk; ⟨u, by simp only []; rw [upd_ne (s.ne k hk)]; exact e⟩⟩, ⟨E.im, E.io, E.le, fun a o h hk => ?_, E.nw, E.np, fun a o h => ?_⟩, ⟨upd_same, s.im, s.ne⟩, tr⟩
  · have ne : a ≠ D := fun z => by subst z; simp only [] at h; rw [s.im] at h; cases h
    simp only [] at h ⊢
    rw [upd_ne ne]; exact R.sub _ _ h
  · have lk : k < μ.length := (List.getElem?_eq_some_iff.mp h).1
    have := R.ob k o h
    simp only []
    rw [upd_ne (s.ne k lk)]
    cases o with
    | gone => trivial
    | lst xs => obtain ⟨vs, e, r⟩ := this; exact ⟨vs, e, L2.Paired.mapP r fun _ _ q => tr q⟩
    | dic kvs => obtain ⟨vs, e, r⟩ := this; exact ⟨vs, e, L2.Paired.mapP r fun _ _ q => ⟨q.1, tr q.2⟩⟩
  · have ne : a ≠ D := fun z => by subst z; rw [h0] at h; cases h
    simp only []
    rw [upd_ne ne]; exact E.fr a o h hk
  · by_cases ha : a = D
    · subst ha; rw [h0] at h; cases h
    · obtain ⟨u, hu⟩ := E.th a o h
      exact ⟨u, by simp only []; rw [upd_ne ha]; exact hu⟩
/-- .. is made known -/
theorem Side.mkL {W W0 : Wd} {n0 : Nat} {μ μ' : Sto} {D : Addr} {vs : List V} {xs : List PV} {own : Bool} {v : PV} {Q : VK} (R : Rl K W μ) (s : Side W μ.length D vs) (E : Ext W0 n0 W μ.length) (h0 : W0.H D = none) (r : Pvs K W μ.length xs vs)
    (h : mkL own xs μ = some (v, μ')) (k : Kont K W0 n0 μ' v Q) : Q (.ref D) W.H := by
  unfold VX.mkL at h
  by_cases hc : xs.length ≤ cap
  · rw [if_pos hc] at h
    cases own with
    | true =>
      simp only [if_true] at h
      cases h
      have E2 : Ext W0 n0 ⟨W.Hi, W.H, fun k => if k = μ.length then D else W.at' k⟩ (μ ++ [SO.lst xs]).length := by
        refine ⟨E.im, fun k hk => ?_, Nat.le_trans E.le (by simp), E.fr, E.nw, fun k h1 h2 => ?_, E.th⟩
        · simp only []; rw [if_neg (by have := E.le; omega)]; exact E.io k hk
        · simp only []
          by_cases hk : k = μ.length
          · rw [if_pos hk]; exact h0
          · rw [if_neg hk]; exact E.np k h1 (by simp at h2; omega)
      have tr : ∀ {p x}, RPV K W μ.length p x → RPV K ⟨W.Hi, W.H, fun k => if k = μ.length then D else W.at' k⟩ (μ ++ [SO.lst xs]).length p x := fun {p x} h => by
        cases p with
        | dat d => exact h
        | scr ns => exact h
        | ptr j => exact ⟨by simp; have := h.1; omega, by simp only []; rw [if_neg (by have := h.1; omega)]; exact h.2⟩
      have lt : ∀ k (u : SO), μ[k]? = some u → k < μ.length := fun k u h => (List.getElem?_eq_some_iff.mp h).1
      have get : ∀ k u, (μ ++ [SO.lst xs])[k]? = some u → (k < μ.length ∧ μ[k]? = some u) ∨ (k = μ.length ∧ u = .lst xs) := fun k u h => by
        by_cases hk : k < μ.length
        · rw [List.getElem?_append_left hk] at h; exact .inl ⟨hk, h⟩
        · rw [List.getElem?_append_right (Nat.not_lt.mp hk)] at h
          have : k - μ.length = 0 := by
            cases q : k - μ.length with
            | zero => rfl
            | succ m => rw [q] at h; simp at h
          rw [this] at h; simp at h
          exact .inr ⟨by omega, h.symm⟩
      refine k _ ⟨W.Hi, W.H, fun k => if k = μ.length then D else W.at' k⟩ ⟨R.sub, fun j u h => ?_, fun j u h hu => ?_, fun i j u1 u2 h1 h2 g1 g2 e => ?_, fun j hj => ?_⟩ E2 ⟨by simp, by simp⟩
      · rcases get j u h with ⟨hk, h⟩ | ⟨rfl, rfl⟩
        · simp only []; rw [if_neg (Nat.ne_of_lt hk)]
          have := R.ob j u h
          cases u with
          | gone => trivial
          | lst ys => obtain ⟨ws, e, r⟩ := this; exact ⟨ws, e, L2.Paired.mapP r fun _ _ q => tr q⟩
          | dic kvs => obtain ⟨ws, e, r⟩ := this; exact ⟨ws, e, L2.Paired.mapP r fun _ _ q => ⟨q.1, tr q.2⟩⟩
        · simp only [if_pos]
          exact ⟨vs, s.at_, L2.Paired.mapP r fun _ _ q => tr q⟩
      · rcases get j u h with ⟨hk, h⟩ | ⟨rfl, rfl⟩
        · simp only []; rw [if_neg (Nat.ne_of_lt hk)]; exact R.off j u h hu
        · simp only [if_pos]; exact s.im
      · rcases get i u1 h1 with ⟨hj, q1⟩ | ⟨hj, q1⟩ <;> rcases get j u2 h2 with ⟨hk, q2⟩ | ⟨hk, q2⟩
        · simp only [if_neg (Nat.ne_of_lt hk), if_neg (Nat.ne_of_lt hj)] at e
          exact R.inj i j u1 u2 q1 q2 g1 g2 e
        · subst hk
          simp only [if_neg (Nat.ne_of_lt hj), if_pos] at e
          exact absurd e (s.ne _ hj)
        · subst hj
          simp only [if_neg (Nat.ne_of_lt hk), if_pos] at e
          exact absurd e.symm (s.ne _ hk)
        · rw [hj, hk]
      · simp only []
        by_cases hk' : j = μ.length
        · rw [if_pos hk']; exact ⟨_, s.at_⟩
        · rw [if_neg hk']; exact R.th j (by simp at hj; omega)
    | false =>
      simp only [Bool.false_eq_true, if_false, Option.map_eq_some_iff] at h
      obtain ⟨ds, h1, h2⟩ := h
      cases h2
      rw [asDats_eq h1] at r
      have smi : Same W.Hi (upd W.Hi D (.lst vs)) := fun b u e => by rw [upd_ne (ne_of_none e s.im)]; exact e
      have tr : ∀ {p x}, RPV K W μ.length p x → RPV K ⟨upd W.Hi D (.lst vs), W.H, W.at'⟩ μ.length p x := fun {p x} h => by
        cases p with
        | dat d => exact Dt.mono smi h
        | scr ns => obtain ⟨a, e1, e2⟩ := h; exact ⟨a, e1, smi.seq e2⟩
        | ptr j => exact h
      refine k _ ⟨upd W.Hi D (.lst vs), W.H, W.at'⟩ ⟨fun a o h => ?_, fun j u h => ?_, fun j u h hu => ?_, R.inj, R.th⟩ ⟨E.im.trans smi, E.io, E.le, E.fr, fun a o h hn => ?_, E.np, E.th⟩ (.lst upd_same (DtAll.mono smi (Pvs.dt r)))
      · simp only [] at h ⊢
        by_cases ha : a = D
        · subst ha; rw [upd_same] at h; cases h; exact s.at_
        · rw [upd_ne ha] at h; exact R.sub _ _ h
      · have := R.ob j u h
        cases u with
        | gone => trivial
        | lst ys => obtain ⟨ws, e, r⟩ := this; exact ⟨ws, e, L2.Paired.mapP r fun _ _ q => tr q⟩
        | dic kvs => obtain ⟨ws, e, r⟩ := this; exact ⟨ws, e, L2.Paired.mapP r fun _ _ q => ⟨q.1, tr q.2⟩⟩
      · have lk : j < μ.length := (List.getElem?_eq_some_iff.mp h).1
        simp only []; rw [upd_ne (s.ne j lk)]; exact R.off j u h hu
      · by_cases ha : a = D
        · subst ha; exact .inl h0
        · simp only [] at h; rw [upd_ne ha] at h; exact E.nw a o h hn
  · rw [if_neg hc] at h; cases h
theorem Side.new {W : Wd} {μ : Sto} {D : Addr} (R : Rl K W μ) (hD : W.H D = none) :
    Rl K ⟨W.Hi, upd W.H D (.lst []), W.at'⟩ μ ∧ Ext W μ.length ⟨W.Hi, upd W.H D (.lst []), W.at'⟩ μ.length ∧ Side ⟨W.Hi, upd W.H D (.lst []), W.at'⟩ μ.length D [] := by
  obtain ⟨R1, E1⟩ := R.junk (o := .lst []) hD
  refine ⟨R1, E1, upd_same, ?_, fun k hk' z => ?_⟩
  · cases q : W.Hi D with
    | none => rfl
    | some u => rw [R.sub _ _ q] at hD; cases hD
  · obtain ⟨u, e⟩ := R.th k hk'
    simp only [] at z
    rw [z, hD] at e; cases e
end
end VX
namespace VX
open PySem PySem.Spec PyProof.Rows L2

/-! ### the readings by the functions alone -/
section
variable (K : PySem.W.Frag)
def uE (ev : EvF) : TE := fun σ H Q => ∃ W ε μ v μ', W.H = H ∧ Rl K W μ ∧ EnvR K W μ.length σ ε ∧ ev ε μ = some (v, μ') ∧ Kont K W μ.length μ' v Q
def uT (ev : TsF) : TT := fun σ H Q => ∃ W ε μ v μ', W.H = H ∧ Rl K W μ ∧ EnvR K W μ.length σ ε ∧ ev ε μ = some (v, μ') ∧ KontT K W μ.length μ' v Q
def uA (ev : ArF) : TA := fun σ H Q => ∃ W ε μ v μ', W.H = H ∧ Rl K W μ ∧ EnvR K W μ.length σ ε ∧ ev ε μ = some (v, μ') ∧ KontA K W μ.length μ' v Q
def uS (rn : RnF) : TS := fun D σ H => ∃ W ε μ out, W.H = H ∧ Rl K W μ ∧ EnvR K W μ.length σ ε ∧ rn ε μ = some out ∧ OutOk K W μ.length D out
def uG (tg : TgF) : TG := fun x σ H Q => ∃ W ε μ v ε' μ', W.H = H ∧ Rl K W μ ∧ EnvR K W μ.length σ ε ∧ RPV K W μ.length v x ∧ tg v ε μ = some (ε', μ') ∧ (∀ W' σ', Rl K W' μ' → Ext W μ.length W' μ'.length → EnvR K W' μ'.length σ' ε' → Q σ' W'.H)
def uGs (tg : List PV → Evn → Sto → Option (Evn × Sto)) : TGs := fun x σ H Q => ∃ W ε μ v ε' μ', W.H = H ∧ Rl K W μ ∧ EnvR K W μ.length σ ε ∧ Pvs K W μ.length v x ∧ tg v ε μ = some (ε', μ') ∧ (∀ W' σ', Rl K W' μ' → Ext W μ.length W' μ'.length → EnvR K W' μ'.length σ' ε' → Q σ' W'.H)
def uI (src : SrF) : TI := fun σ H R => ∃ W ε μ items ok μ', W.H = H ∧ Rl K W μ ∧ EnvR K W μ.length σ ε ∧ src ε μ = some ((items, ok), μ') ∧ (∀ W' J, Rl K W' μ' → Ext W μ.length W' μ'.length → Gives K J items ok W' μ'.length → R J W'.H)
end
theorem adqU {K : PySem.W.Frag} {ev : EvF} : Adq K (uE K ev) ev := fun W σ ε μ v μ' Q R En h k => ⟨W, ε, μ, v, μ', rfl, R, En, h, k⟩
theorem adqUT {K : PySem.W.Frag} {ev : TsF} : AdqT K (uT K ev) ev := fun W σ ε μ v μ' Q R En h k => ⟨W, ε, μ, v, μ', rfl, R, En, h, k⟩
theorem adqUA {K : PySem.W.Frag} {ev : ArF} : AdqA K (uA K ev) ev := fun W σ ε μ v μ' Q R En h k => ⟨W, ε, μ, v, μ', rfl, R, En, h, k⟩
theorem adqUS {K : PySem.W.Frag} {ev : RnF} : AdqS K (uS K ev) ev := fun W σ ε μ out D R En h k => ⟨W, ε, μ, out, rfl, R, En, h, k⟩
theorem adqUG {K : PySem.W.Frag} {ev : TgF} : AdqG K (uG K ev) ev := fun W σ ε μ v x ε' μ' Q R En r h k => ⟨W, ε, μ, v, ε', μ', rfl, R, En, r, h, k⟩
theorem adqUGs {K : PySem.W.Frag} {ev : List PV → Evn → Sto → Option (Evn × Sto)} : AdqGs K (uGs K ev) ev := fun W σ ε μ v x ε' μ' Q R En r h k => ⟨W, ε, μ, v, ε', μ', rfl, R, En, r, h, k⟩
theorem adqUI {K : PySem.W.Frag} {src : SrF} : AdqI K (uI K src) src := fun W σ ε μ items ok μ' R Rl En h k => ⟨W, ε, μ, items, ok, μ', rfl, Rl, En, h, k⟩
def ME (X : Cx) (e : Expr) (ev : EvF) : Prop := PE X e (uE X.K ev)
def MT (X : Cx) (e : Expr) (ev : TsF) : Prop := PT X e (uT X.K ev)
def MW (X : Cx) (e : Expr) (ev : TsF) : Prop := PW X e (uT X.K ev)
def MA (X : Cx) (es : List Expr) (ev : ArF) : Prop := PA X es (uA X.K ev)
def MS (X : Cx) (st : Stmt) (rn : RnF) : Prop := PS X st (uS X.K rn)
def MSs (X : Cx) (sts : List Stmt) (rn : RnF) : Prop := PSs X sts (uS X.K rn)
def MG (X : Cx) (e : Expr) (tg : TgF) : Prop := PG X e (uG X.K tg)
def MGs (X : Cx) (es : List Expr) (tg : List PV → Evn → Sto → Option (Evn × Sto)) : Prop := PGs X es (uGs X.K tg)
def MI (X : Cx) (tg iter : Expr) (src : SrF) : Prop := PI X tg iter (uI X.K src)
section
variable {X : Cx} {e tg iter : Expr} {es : List Expr} {st : Stmt} {sts : List Stmt}
theorem VE.m {te : TE} {ev : EvF} (h : VE X e te ev) : ME X e ev := ⟨fun pins s σ H Q I q => by obtain ⟨W, ε, μ, v, μ', rfl, R, En, q, k⟩ := q; exact h.pe.run pins s σ _ Q I (h.ad W σ ε μ v μ' Q R En q k)⟩
theorem ME.v {ev : EvF} (h : ME X e ev) : VE X e (uE X.K ev) ev := ⟨h, adqU⟩
theorem VT.m {te : TT} {ev : TsF} (h : VT X e te ev) : MT X e ev := ⟨fun pins s σ H Q I q => by obtain ⟨W, ε, μ, v, μ', rfl, R, En, q, k⟩ := q; exact h.pt.run pins s σ _ Q I (h.ad W σ ε μ v μ' Q R En q k)⟩
theorem MT.v {ev : TsF} (h : MT X e ev) : VT X e (uT X.K ev) ev := ⟨h, adqUT⟩
theorem VW.m {te : TT} {ev : TsF} (h : VW X e te ev) : MW X e ev := ⟨fun whole pins s σ H Q I q => by obtain ⟨W, ε, μ, v, μ', rfl, R, En, q, k⟩ := q; exact h.pw.run whole pins s σ _ Q I (h.ad W σ ε μ v μ' Q R En q k)⟩
theorem MW.v {ev : TsF} (h : MW X e ev) : VW X e (uT X.K ev) ev := ⟨h, adqUT⟩
theorem VA.m {te : TA} {ev : ArF} (h : VA X es te ev) : MA X es ev := ⟨fun pos pins s σ H Q I q => by obtain ⟨W, ε, μ, v, μ', rfl, R, En, q, k⟩ := q; exact h.pa.run pos pins s σ _ Q I (h.ad W σ ε μ v μ' Q R En q k)⟩
theorem MA.v {ev : ArF} (h : MA X es ev) : VA X es (uA X.K ev) ev := ⟨h, adqUA⟩
theorem VS.m {ts : TS} {rn : RnF} (h : VS X st ts rn) : MS X st rn := ⟨fun pins s σ H D I q => by obtain ⟨W, ε, μ, out, rfl, R, En, q, k⟩ := q; exact h.ps.run pins s σ _ D I (h.ad W σ ε μ out D R En q k)⟩
theorem MS.v {rn : RnF} (h : MS X st rn) : VS X st (uS X.K rn) rn := ⟨h, adqUS⟩
theorem VSs.m {ts : TS} {rn : RnF} (h : VSs X sts ts rn) : MSs X sts rn := ⟨fun pins s σ H D I q => by obtain ⟨W, ε, μ, out, rfl, R, En, q, k⟩ := q; exact h.ps.run pins s σ _ D I (h.ad W σ ε μ out D R En q k)⟩
theorem MSs.v {rn : RnF} (h : MSs X sts rn) : VSs X sts (uS X.K rn) rn := ⟨h, adqUS⟩
theorem VG.m {g : TG} {gf : TgF} (h : VG X e g gf) : MG X e gf := ⟨fun pins s σ H v u Q I r q => by obtain ⟨W, ε, μ, v', ε', μ', rfl, R, En, rv, q, k⟩ := q; exact h.pg.run pins s σ _ v u Q I r (h.ad W σ ε μ v' v ε' μ' Q R En rv q k)⟩
theorem MG.v {gf : TgF} (h : MG X e gf) : VG X e (uG X.K gf) gf := ⟨h, adqUG⟩
theorem VGs.m {g : TGs} {gf : List PV → Evn → Sto → Option (Evn × Sto)} (h : VGs X es g gf) : MGs X es gf := ⟨fun pins s σ H v u Q I r q => by obtain ⟨W, ε, μ, v', ε', μ', rfl, R, En, rv, q, k⟩ := q; exact h.pg.run pins s σ _ v u Q I r (h.ad W σ ε μ v' v ε' μ' Q R En rv q k)⟩
theorem MGs.v {gf : List PV → Evn → Sto → Option (Evn × Sto)} (h : MGs X es gf) : VGs X es (uGs X.K gf) gf := ⟨h, adqUGs⟩
theorem VI.m {wi : TI} {src : SrF} (h : VI X tg iter wi src) : MI X tg iter src := ⟨fun pins s σ H R I q => by obtain ⟨W, ε, μ, items, ok, μ', rfl, Rr, En, q, k⟩ := q; exact h.pi.run pins s σ _ R I (h.ad W σ ε μ items ok μ' R Rr En q k)⟩
theorem MI.v {src : SrF} (h : MI X tg iter src) : VI X tg iter (uI X.K src) src := ⟨h, adqUI⟩
end

/-! ### the rules, by the functions alone -/
section
variable {X : Cx} {a b c e o tg iter elt : Expr} {es rest : List Expr} {sts sts' srest : List Stmt} {st : Stmt} {ea eb ec ev : EvF} {et eu : TsF} {el : ArF} {rn rm : RnF} {gf : TgF} {gfs : List PV → Evn → Sto → Option (Evn × Sto)} {src : SrF} {pos p : Pos}
theorem m_var (i : Nat) {x : Str} {pos : Pos} (hN : X.N[i]? = some x := by rfl) (hv : Vis X.env.scope x := by first | exact Or.inl rfl | exact Or.inr (Or.inl rfl) | exact Or.inr (Or.inr rfl))
    (hd : (x == ("__debug__" : Str)) = false := by decide) (hcd : (x == ("__classdict__" : Str)) = false := by decide) : ME X (.Name x pos) (eVar i) := (ve_var i hN hv hd hcd).m
theorem m_int {i j pos} : ME X (.Constant (.int i) j pos) (eC (.int i)) := ve_int.m
theorem m_bl {b j pos} : ME X (.Constant (.bool b) j pos) (eC (.bool b)) := ve_bl.m
theorem m_non {j pos} : ME X (.Constant .none j pos) (eC .none) := ve_non.m
theorem m_str {x j pos} : ME X (.Constant (.str x) j pos) (eC (.str x)) := ve_str.m
theorem m_gint {x : Str} {i : Int} {t : Tok} {pos : Pos} (hg : Gl X x) (hm : X.mg x = some (.int i t)) (hd : (x == ("__debug__" : Str)) = false := by decide) : ME X (.Name x pos) (eC (.int i)) := (ve_gint hg hm hd).m
theorem m_gstr {x : Str} {i : Str} {t : Tok} {pos : Pos} (hg : Gl X x) (hm : X.mg x = some (.str i t)) (hd : (x == ("__debug__" : Str)) = false := by decide) : ME X (.Name x pos) (eC (.str i)) := (ve_gstr hg hm hd).m
theorem m_op {op : Operator} {r : R2} {f : OpF} (ho : OpR X (binaryOp op) r) (hr : AOp X.K r f) (ha : ME X a ea) (hb : ME X b eb) : ME X (.BinOp a op b pos) (eOp f ea eb) := (ve_op ho hr ha.v hb.v).m
theorem m_cmp {op : CmpOp} {r : R2} {f : OpF} (ho : OpR X (compareOp op) r) (hr : AOp X.K r f) (ha : ME X a ea) (hb : ME X b eb) (hm : behindInMarks op b = false) : ME X (.Compare a [op] [b] pos) (eOp f ea eb) := (ve_cmp ho hr ha.v hb.v hm).m
theorem m_ixR {r : R2} {f : OpF} (ho : IxR X r) (hr : AOp X.K r f) (ha : ME X a ea) (hb : ME X b eb) (hs : PlainIx b) : ME X (.Subscript a b pos) (eOp f ea eb) := (ve_ix ho hr ha.v hb.v hs).m
theorem m_un {op : UnaryOp} {r : V → Hp → VK → Prop} {f : PV → Option PV} (ho : UnR X (unaryOp op) r) (hr : AUn X.K r f) (ha : ME X a ea) : ME X (.UnaryOp op a pos) (eUn f ea) := (ve_un ho hr ha.v).m
theorem a_nil : MA X [] aNil := va_nil.m
theorem a_cons (ha : ME X e ev) (hr : MA X es el) (hs : starEach (e :: es) X.env = (false, eval e X.env) :: starEach es X.env := by rfl) : MA X (e :: es) (aCons ev el) := (va_cons ha.v hr.v hs).m
theorem m_lst (own : Bool) (h : MA X es el) : ME X (.List es pos) (eLst own el) := (ve_lst own h.v).m
theorem m_tup {x1} (h : MA X es el) : ME X (.Tuple es x1 pos) (eTup el) := (ve_tup h.v).m
theorem m_ca {x : Str} {id : String} {r : List V → Hp → VK → Prop} {f : CaF} (hc : CallR X (.builtin id) r) (hr : ACa X.K r f) (hg : Gl X x) (hm : X.mg x = none) (hv : bootBuiltins x = some (.builtin id)) (h : MA X (e :: es) el) (hn : x ≠ "__name__" := by decide) (hdb : (x == ("__debug__" : Str)) = false := by decide)
    (he : starEach (e :: es) X.env = (false, eval e X.env) :: starEach es X.env := by rfl) (hpl : (backTo pos (starEach es X.env)).any (·.1) = false := by rfl) : ME X (.Call (.Name x p) (e :: es) [] pos) (eCa f el) := (ve_ca hc hr hg hm hv h.v hn hdb he hpl).m
theorem m_caT {x : Str} {T : String} {r : List V → Hp → VK → Prop} {f : CaF} (hc : CallR X (.type T) r) (hr : ACa X.K r f) (hg : Gl X x) (hm : X.mg x = none) (hv : bootBuiltins x = some (.type T)) (h : MA X (e :: es) el) (hn : x ≠ "__name__" := by decide) (hdb : (x == ("__debug__" : Str)) = false := by decide)
    (he : starEach (e :: es) X.env = (false, eval e X.env) :: starEach es X.env := by rfl) (hpl : (backTo pos (starEach es X.env)).any (·.1) = false := by rfl) : ME X (.Call (.Name x p) (e :: es) [] pos) (eCa f el) := (ve_caT hc hr hg hm hv h.v hn hdb he hpl).m
theorem t_val (h : ME X e ev) (he : ∀ whole, isTrue e X.env whole = (do let v ← whole; standAt e.pos; holding [v] (truthy v)) := by intro _; rfl) : MT X e (tsE ev) := (vt_val h.v he).m
theorem t_cmp {op : CmpOp} {r : R2} {f : OpF} (ho : OpR X (compareOp op) r) (hr : AOp X.K r f) (ha : ME X a ea) (hb : ME X b eb) (hm : behindInMarks op b = false) : MT X (.Compare a [op] [b] pos) (tsE (eOp f ea eb)) := (vt_cmp ho hr ha.v hb.v hm).m
theorem w_and1 (ha : MT X a et) : MW X (.BoolOp .And [a] pos) et := (vw_and1 ha.v).m
theorem w_or1 (ha : MT X a et) : MW X (.BoolOp .Or [a] pos) et := (vw_or1 ha.v).m
theorem w_and (ha : MT X a et) (hb : MW X (.BoolOp .And (b :: rest) pos) eu) : MW X (.BoolOp .And (a :: b :: rest) pos) (tsAnd et eu) := (vw_and ha.v hb.v).m
theorem w_or (ha : MT X a et) (hb : MW X (.BoolOp .Or (b :: rest) pos) eu) : MW X (.BoolOp .Or (a :: b :: rest) pos) (tsOr et eu) := (vw_or ha.v hb.v).m
theorem t_w (h : MW X a et) : MT X a et := h.v.vt.m
theorem t_not (ha : MT X a et) : MT X (.UnaryOp .Not a pos) (tsNot et) := (vt_not ha.v).m
theorem m_if (hc : MT X c et) (ha : ME X a ea) (hb : ME X b eb) : ME X (.IfExp c a b pos) (eIf et ea eb) := (ve_if hc.v ha.v hb.v).m
theorem m_one {op} (h : ME X a ea) : ME X (.BoolOp op [a] pos) ea := (ve_one h.v).m
theorem m_and (ha : ME X a ea) (hb : ME X (.BoolOp .And (b :: rest) pos) eb) : ME X (.BoolOp .And (a :: b :: rest) pos) (eAnd ea eb) := (ve_and ha.v hb.v).m
theorem m_or (ha : ME X a ea) (hb : ME X (.BoolOp .Or (b :: rest) pos) eb) : ME X (.BoolOp .Or (a :: b :: rest) pos) (eOr ea eb) := (ve_or ha.v hb.v).m
theorem m_not (ha : ME X a ea) : ME X (.UnaryOp .Not a pos) (eNot ea) := (ve_not ha.v).m
/-! statements -/
theorem ss_nil : MSs X [] sNil := vss_nil.m
theorem ss_one (h : MS X st rn) : MSs X [st] rn := (vss_one h.v).m
theorem ss_cons (h1 : MS X st rn) (h2 : MSs X srest rm) : MSs X (st :: srest) (sSeq rn rm) := (vss_cons h1.v h2.v).m
theorem s_pass : MS X (.Pass pos) sNil := vs_pass.m
theorem s_break : MS X (.Break pos) sBrk := vs_break.m
theorem s_continue : MS X (.Continue pos) sCnt := vs_continue.m
theorem s_set {i : Nat} {x : Str} {pos' : Pos} (hN : X.N.Nodup) (hi : X.N[i]? = some x) (hx : Loc X.env.scope x) (he : ME X e ev) (hs : swapsWith e (some (.Name x pos')) pos.line X.env = pure false := by rfl)
    (hf : X.fn x = true ∨ X.env.scope.names.lookup x = some .local := by first | exact .inl rfl | exact .inr rfl | assumption) : MS X (.Assign [.Name x pos'] e pos) (sSet i ev) := (vs_set hN hi hx he.v hs hf).m
theorem s_ret (he : ME X e ev) : MS X (.Return (some e) pos) (sRet ev) := (vs_ret he.v).m
theorem s_retN : MS X (.Return none pos) sRetN := vs_retN.m
theorem s_expr (he : ME X e ev) (hs : swapsWith e none pos.line X.env = pure false := by rfl) : MS X (.Expr e pos) (sExpr ev) := (vs_expr he.v hs).m
theorem s_if (hc : MT X c et) (ha : MSs X sts rn) (hb : MSs X sts' rm) : MS X (.If c sts sts' pos) (sIf et rn rm) := (vs_if hc.v ha.v hb.v).m
theorem g_name {i : Nat} {x : Str} (hN : X.N.Nodup) (hi : X.N[i]? = some x) (hx : Loc X.env.scope x) (hf : X.fn x = true ∨ X.env.scope.names.lookup x = some .local := by first | exact .inl rfl | exact .inr rfl | assumption) : MG X (.Name x pos) (tgN i) := (vg_name hN hi hx hf).m
theorem gs_nil : MGs X [] tgsNil := vgs_nil.m
theorem gs_cons (h1 : MG X e gf) (h2 : MGs X es gfs) (hs : (assignEach (e :: es) X.env).map (·.2) = assign e X.env :: (assignEach es X.env).map (·.2) := by rfl) : MGs X (e :: es) (tgsCons gf gfs) := (vgs_cons h1.v h2.v hs).m
theorem g_tup {es : List Expr} {k n : Nat} (hc : X.calm = true) (h : MGs X es gfs) (hn : (assignEach es X.env).length = n := by rfl) (hst : (assignEach es X.env).findIdx? (·.1) = none := by rfl) : MG X (.Tuple es k pos) (tgT n gfs) := (vg_tup hc h.v hn hst).m
theorem s_asg (he : ME X e ev) (hg : MG X tg gf) (hs : swapsWithSole [tg] e pos.line X.env = pure false := by rfl) (hw : swappedStores [tg] e X.env = pure none := by rfl) (h1 : (assignEach [tg] X.env).map (·.2) = [assign tg X.env] := by rfl) :
    MS X (.Assign [tg] e pos) (sAsg ev gf) := (vs_asg he.v hg.v hs hw h1).m
theorem s_while (m : Nat) (hp : PassesOwn (model X.prog X.w) X.A X.env X.xe) (hc : MT X c et) (hb : MSs X sts rn) : MS X (.While c sts [] pos) (whileN et rn m) := (vs_while m hp hc.v hb.v).m
theorem s_for (hp : PassesOwn (model X.prog X.w) X.A X.env X.xe) (hc : X.calm = true) (hi : MI X tg iter src) (hg : MG X tg gf) (hb : MSs X sts rn) (hs : ∀ x, foldedSetIterable iter X.env x = pure x := by intro _; rfl) :
    MS X (.For tg iter sts [] pos) (sFor src gf rn) := (vs_for hp hc hi.v hg.v hb.v hs).m
end

/-! ### comprehensions -/
theorem adq_lc {K : PySem.W.Frag} {wi : TI} {src : SrF} {g : TG} {gf : TgF} {tt : TT} {et : TsF} {te : TE} {ev : EvF} {vs : List Nat} (own : Bool) (hi : AdqI K wi src) (hg : AdqG K g gf) (hO : OnlyG g vs) (mG : MonoG g) (ht : AdqT K tt et) (he : Adq K te ev) :
    Adq K (tLc wi g tt te vs) (eLc own src gf et ev vs) := fun W σ ε μ v μ' Q R En q k => by
  unfold eLc at q
  simp only [Option.bind_eq_some_iff] at q
  obtain ⟨⟨⟨items, ok⟩, μ1⟩, q1, ⟨xs, μ2⟩, q2, q3⟩ := q
  have hcap : xs.length ≤ cap := by
    unfold mkL at q3
    by_cases h : xs.length ≤ cap
    · exact h
    · rw [if_neg h] at q3; cases q3
  refine hi W σ ε μ items ok μ1 _ R En q1 fun W1 J R1 E1 G => fun D hD => ?_
  have hD0 : W.H D = none := by
    cases z : W.H D with
    | none => rfl
    | some u => obtain ⟨u', e⟩ := E1.th D u z; rw [hD] at e; cases e
  obtain ⟨R1', E1', S1⟩ := Side.new R1 hD
  refine ⟨fun i m H' => ∃ W' μ' acc ws rest, W'.H = H' ∧ Rl K W' μ' ∧ Ext W1 μ1.length W' μ'.length ∧ Side W' μ'.length D ws ∧ Pvs K W' μ'.length acc ws ∧ i + m = items.length ∧ lcD (okG items ok) gf et ev (wipeE ε vs) (items.drop i) μ' = some (rest, μ2) ∧ acc ++ rest = xs,
    ⟨items.length, _, μ1, [], [], xs, rfl, R1', E1', S1, .nil, by omega, by simpa using q2, rfl⟩, fun i m H2 h => ?_⟩
  obtain ⟨W2, μ3, acc, ws, rest, rfl, R2, E2, S2, r2, em, q4, ea⟩ := h
  cases m with
  | zero =>
    have : items.drop i = [] := List.drop_eq_nil_of_le (by omega)
    rw [this] at q4
    simp only [lcD] at q4
    by_cases hG : okG items ok μ3 = true
    · rw [if_pos hG] at q4
      cases q4
      have st := (G W2 μ2 R2 E2 (okG_ok hG)).2
      rw [show items.length = i by omega] at st
      rw [List.append_nil] at ea
      subst ea
      exact .inl ⟨st, Side.mkL R2 S2 (E1.trans E2) hD0 r2 q3 k⟩
    · rw [if_neg hG] at q4; cases q4
  | succ m =>
    have hi' : i < items.length := by omega
    rw [List.drop_eq_getElem_cons hi'] at q4
    simp only [lcD] at q4
    by_cases hG : okG items ok μ3 = true
    · rw [if_pos hG] at q4
      simp only [Option.bind_eq_some_iff] at q4
      obtain ⟨⟨ε4, μ4⟩, q5, ⟨bb, μ5⟩, q6, q7⟩ := q4
      obtain ⟨go, yl⟩ := (G W2 μ3 R2 E2 (okG_ok hG)).1 i _ (List.getElem?_eq_getElem hi')
      refine .inr ⟨go, fun H' => ∃ W' μ' acc ws rest, W'.H = H' ∧ Rl K W' μ' ∧ Ext W1 μ1.length W' μ'.length ∧ Side W' μ'.length D ws ∧ Pvs K W' μ'.length acc ws ∧ (i + 1) + m = items.length ∧ lcD (okG items ok) gf et ev (wipeE ε vs) (items.drop (i + 1)) μ' = some (rest, μ2) ∧ acc ++ rest = xs, fun H' h => ⟨m, Nat.lt_succ_self _, h⟩, fun x H' hy => ?_⟩
      obtain ⟨W3, rfl, R3, E3, r3⟩ := yl x H' hy
      have En3 : EnvR K W3 μ3.length (L2.wipe σ vs) (wipeE ε vs) := (En.mono ((E1.trans E2).trans E3)).wipe vs
      refine mG _ _ _ _ _ ?_ (hO _ _ _ _ (hg W3 (L2.wipe σ vs) (wipeE ε vs) μ3 _ x ε4 μ4 (fun σ' H' => tt σ' H' fun b H3 => if b = true then te σ' H3 fun y H4 => ∃ acc, H4 D = some (.lst acc) ∧ acc.length < sizeLine ∧ (∃ W' μ' acc' ws rest, W'.H = upd H4 D (.lst (acc ++ [y])) ∧ Rl K W' μ' ∧ Ext W1 μ1.length W' μ'.length ∧ Side W' μ'.length D ws ∧ Pvs K W' μ'.length acc' ws ∧ (i + 1) + m = items.length ∧ lcD (okG items ok) gf et ev (wipeE ε vs) (items.drop (i + 1)) μ' = some (rest, μ2) ∧ acc' ++ rest = xs) else (∃ W' μ' acc' ws rest, W'.H = H3 ∧ Rl K W' μ' ∧ Ext W1 μ1.length W' μ'.length ∧ Side W' μ'.length D ws ∧ Pvs K W' μ'.length acc' ws ∧ (i + 1) + m = items.length ∧ lcD (okG items ok) gf et ev (wipeE ε vs) (items.drop (i + 1)) μ' = some (rest, μ2) ∧ acc' ++ rest = xs)) R3 En3 r3 q5 fun W4 σ4 R4 E4 En4 => ?_))
      · rintro a b ⟨h1, h2⟩
        exact ⟨h2.trans (wipe_wipe vs), h1⟩
      · refine ht W4 σ4 ε4 μ4 bb μ5 _ R4 En4 q6 fun W5 R5 E5 => ?_
        have E25 := (E3.trans E4).trans E5
        cases bb with
        | false =>
          simp only [Bool.false_eq_true, if_false] at q7
          exact iteF ⟨W5, μ5, acc, ws, rest, rfl, R5, E2.trans E25, S2.ext E25, Pvs.mono E25 r2, by omega, q7, ea⟩
        | true =>
          simp only [if_true, Option.bind_eq_some_iff] at q7
          obtain ⟨⟨y, μ6⟩, q8, ⟨zs, μ7⟩, q9, q10⟩ := q7
          cases q10
          refine iteT (he W5 σ4 ε4 μ5 y μ6 _ R5 (En4.mono E5) q8 fun vy W6 R6 E6 r6 => ?_)
          have E26 := E25.trans E6
          have S6 := S2.ext E26
          obtain ⟨R7, E7, S7, tr⟩ := Side.put (ws := ws ++ [vy]) R6 S6 (E2.trans E26) hD
          refine ⟨ws, S6.at_, ?_, ⟨_, μ6, acc ++ [y], ws ++ [vy], zs, rfl, R7, E7, S7, ?_, by omega, q9, by rw [← ea]; simp⟩⟩
          · have : acc.length = ws.length := r2.length
            rw [← ea] at hcap
            refine cap_lt ?_
            simp at hcap; omega
          · exact L2.Paired.mapP ((Pvs.mono E26 r2).append (.cons r6 .nil)) fun _ _ q => tr q
    · rw [if_neg hG] at q4; cases q4
section
variable {X : Cx} {elt tg iter : Expr} {ifs : List Expr} {scope : Scope} {own : List (Str × Nat)} {pos : Pos} {src : SrF} {et : TsF} {ev : EvF}
/-- a clause's tests -/
def MTs (X : Cx) (ifs : List Expr) (ev : TsF) : Prop := PTs X ifs (uT X.K ev)
theorem ts_nil : MTs X [] tsYes := ⟨fun pins s σ H Q I q => by
  obtain ⟨W, ε, μ, v, μ', rfl, R, En, h, k⟩ := q
  cases h
  exact pts_nil.run pins s σ _ Q I (k W R (Ext.refl _ _))⟩
theorem ts_one {c : Expr} (h : MT X c et) : MTs X [c] et := pts_one h
/-- [elt for NAME in ..] -/
theorem m_lc (mk : Bool) (i : Nat) (hc : X.calm = true) (hN : X.N.Nodup) (hi : MI X tg iter src) (ok : BlkOk X.N X.env.scope scope own) (hg : ∀ (s : Shared) (H : Hp) (C : Addr) (cl : List (Str × Addr)) (fp : List Addr), PG (X.blk s H scope (compEnvC scope cl C X.env) fp) tg (gName i))
    (ht : ∀ (s : Shared) (H : Hp) (C : Addr) (cl : List (Str × Addr)) (fp : List Addr), MTs (X.blk s H scope (compEnvC scope cl C X.env) fp) ifs et) (he : ∀ (s : Shared) (H : Hp) (C : Addr) (cl : List (Str × Addr)) (fp : List Addr), ME (X.blk s H scope (compEnvC scope cl C X.env) fp) elt ev)
    (hm : i ∈ own.map (·.2) := by decide) (hs : ∀ x, foldedSetIterable iter X.env x = pure x := by intro _; rfl) : ME X (.ListComp elt [⟨tg, iter, ifs, 0⟩] scope pos) (eLc mk src (tgN i) et ev (own.map (·.2))) :=
  VE.m ⟨pe_lc (tt := uT X.K et) (te := uE X.K ev) hc hN hi ok hg ht he hs, adq_lc mk adqUI (adq_gN i) (onlyN hm) monoN adqUT adqU⟩
theorem s_setLc {j : Nat} {y : Str} {py spos : Pos} (mk : Bool) (i : Nat) (hc : X.calm = true) (hN : X.N.Nodup) (hy : X.N[j]? = some y) (hyl : X.env.scope.names.lookup y = some .local) (hsw : swapsWith (.ListComp elt [⟨tg, iter, ifs, 0⟩] scope pos) (some (.Name y py)) spos.line X.env = pure true)
    (hi : MI X tg iter src) (ok : BlkOk X.N X.env.scope scope own) (hg : ∀ (s : Shared) (H : Hp) (C : Addr) (cl : List (Str × Addr)) (fp : List Addr), PG (X.blk s H scope (compEnvC scope cl C X.env) fp) tg (gName i))
    (ht : ∀ (s : Shared) (H : Hp) (C : Addr) (cl : List (Str × Addr)) (fp : List Addr), MTs (X.blk s H scope (compEnvC scope cl C X.env) fp) ifs et) (he : ∀ (s : Shared) (H : Hp) (C : Addr) (cl : List (Str × Addr)) (fp : List Addr), ME (X.blk s H scope (compEnvC scope cl C X.env) fp) elt ev)
    (hm : i ∈ own.map (·.2) := by decide) (hs : ∀ x, foldedSetIterable iter X.env x = pure x := by intro _; rfl) : MS X (.Assign [.Name y py] (.ListComp elt [⟨tg, iter, ifs, 0⟩] scope pos) spos) (sSet j (eLc mk src (tgN i) et ev (own.map (·.2)))) :=
  VS.m ⟨ps_setLc (tt := uT X.K et) (te := uE X.K ev) hc hN hy hyl hsw hi ok hg ht he hs, adq_set (adq_lc mk adqUI (adq_gN i) (onlyN hm) monoN adqUT adqU)⟩
/-- targets of names within a block -/
inductive Nms (X : Cx) : List Expr → List Nat → Prop
  | nil : Nms X [] []
  | cons {e es i is} : PG X e (gName i) → Nms X es is → ((assignEach (e :: es) X.env).map (·.2) = assign e X.env :: (assignEach es X.env).map (·.2)) → Nms X (e :: es) (i :: is)
def gNs : List Nat → TGs
  | [] => gNil
  | i :: is => gCons (gName i) (gNs is)
@[simp] def tgNs : List Nat → List PV → Evn → Sto → Option (Evn × Sto)
  | [] => tgsNil
  | i :: is => tgsCons (tgN i) (tgNs is)
theorem Nms.pgs {X : Cx} : ∀ {es : List Expr} {is : List Nat}, Nms X es is → PGs X es (gNs is)
  | _, _, .nil => pgs_nil
  | _, _, .cons h t s => pgs_cons h t.pgs s
theorem adq_gNs {K : PySem.W.Frag} : ∀ is : List Nat, AdqGs K (gNs is) (tgNs is)
  | [] => fun W σ ε μ vs xs ε' μ' Q R En r h k => by
    cases r with
    | nil => cases h; exact ⟨rfl, k W σ R (Ext.refl _ _) En⟩
    | cons => cases h
  | i :: is => fun W σ ε μ vs xs ε' μ' Q R En r h k => by
    cases r with
    | nil => cases h
    | cons rx rr =>
      have h' : (tgNs is) _ (ε.set i _) μ = some (ε', μ') := h
      exact ⟨_, _, rfl, (adq_gNs is) W _ _ μ _ _ ε' μ' Q R (En.set i rx) rr h' k⟩
theorem monoNs : ∀ is : List Nat, MonoGs (gNs is)
  | [] => monoNil
  | i :: is => monoCons monoN (monoNs is)
theorem onlyNs {vs : List Nat} : ∀ {is : List Nat}, (∀ i ∈ is, i ∈ vs) → OnlyGs (gNs is) vs
  | [], _ => onlyNil
  | i :: is, h => onlyCons monoN (monoNs is) (onlyN (h i List.mem_cons_self)) (onlyNs fun j hj => h j (List.mem_cons_of_mem _ hj))
theorem adq_gT {K : PySem.W.Frag} {n : Nat} {gs : TGs} {gfs : List PV → Evn → Sto → Option (Evn × Sto)} (h : AdqGs K gs gfs) : AdqG K (gTup K n gs) (tgT n gfs) := fun W σ ε μ v x ε' μ' Q R En r q k => by
  unfold tgT at q
  split at q
  · rename_i ds
    by_cases hl : ds.length = n
    · rw [if_pos hl] at q
      cases r with
      | tup e a =>
        exact ⟨_, _, rfl, SqT.of (R.sub _ _ e), by have := Pvs.length (DtAll.pvs (K := K) (W := W) (n := μ.length) a); simp at this; omega, h W σ ε μ _ _ ε' μ' Q R En (DtAll.pvs a) q k⟩
    · rw [if_neg hl] at q; cases q
  · cases q
/-- [elt for a, b in ..] -/
theorem m_lcT {kk : Nat} {tes : List Expr} {tpos : Pos} (mk : Bool) (is : List Nat) (n : Nat) (hc : X.calm = true) (hN : X.N.Nodup) (hi : MI X (.Tuple tes kk tpos) iter src) (ok : BlkOk X.N X.env.scope scope own)
    (hg : ∀ (s : Shared) (H : Hp) (C : Addr) (cl : List (Str × Addr)) (fp : List Addr), Nms (X.blk s H scope (compEnvC scope cl C X.env) fp) tes is)
    (hn : ∀ (s : Shared) (H : Hp) (C : Addr) (cl : List (Str × Addr)) (fp : List Addr), (assignEach tes (X.blk s H scope (compEnvC scope cl C X.env) fp).env).length = n)
    (hst : ∀ (s : Shared) (H : Hp) (C : Addr) (cl : List (Str × Addr)) (fp : List Addr), (assignEach tes (X.blk s H scope (compEnvC scope cl C X.env) fp).env).findIdx? (·.1) = none)
    (ht : ∀ (s : Shared) (H : Hp) (C : Addr) (cl : List (Str × Addr)) (fp : List Addr), MTs (X.blk s H scope (compEnvC scope cl C X.env) fp) ifs et) (he : ∀ (s : Shared) (H : Hp) (C : Addr) (cl : List (Str × Addr)) (fp : List Addr), ME (X.blk s H scope (compEnvC scope cl C X.env) fp) elt ev)
    (hm : ∀ i ∈ is, i ∈ own.map (·.2) := by decide) (hs : ∀ x, foldedSetIterable iter X.env x = pure x := by intro _; rfl) : ME X (.ListComp elt [⟨.Tuple tes kk tpos, iter, ifs, 0⟩] scope pos) (eLc mk src (tgT n (tgNs is)) et ev (own.map (·.2))) :=
  VE.m ⟨pe_lc (g := gTup X.K n (gNs is)) (tt := uT X.K et) (te := uE X.K ev) hc hN hi ok (fun s H C cl fp => pg_tup (X := X.blk s H scope (compEnvC scope cl C X.env) fp) hc (hg s H C cl fp).pgs (hn s H C cl fp) (hst s H C cl fp)) ht he hs, adq_lc mk adqUI (adq_gT (adq_gNs is)) (onlyT (onlyNs hm)) (monoT (monoNs is)) adqUT adqU⟩
end

/-! ### defs -/
@[simp] def startE (m : Nat) (ps : List PV) : Evn := ps.map some ++ List.replicate (m - ps.length) none
@[simp] def fnP (m n : Nat) (rn : RnF) (ds : List PyData) : Option PyData :=
  if ds.length = n then match rn (startE m (ds.map PV.dat)) [] with
    | some (.rt (.dat d) _) => some d
    | some (.nx _ _) => some .none
    | _ => none
  else none
@[simp] def fnG (m n : Nat) (rn : RnF) (ps : List PV) (μ : Sto) : Option (PV × Sto) :=
  if ps.length = n then match rn (startE m ps) μ with
    | some (.rt v μ') => some (v, μ')
    | some (.nx _ μ') => some (.dat .none, μ')
    | _ => none
  else none
def spP (n : Nat) (F : List PyData → Option PyData) : Sp := fun vs H Q _ => vs.length = n ∧ ∃ ds d Hi, Same Hi H ∧ DtAll Hi vs ds ∧ F ds = some d ∧
  ∀ x Hi' H', Same Hi Hi' → Same Hi' H' → Same H H' → (∀ a o, Hi' a = some o → Hi a = none → H a = none) → Dt Hi' x d → Q x H'
def spG (K : PySem.W.Frag) (n : Nat) (F : List PV → Sto → Option (PV × Sto)) : Sp := fun vs H Q _ => vs.length = n ∧ ∃ W ps μ v μ', W.H = H ∧ Rl K W μ ∧ Pvs K W μ.length ps vs ∧ F ps μ = some (v, μ') ∧ Kont K W μ.length μ' v Q
theorem startR {K : PySem.W.Frag} {W : Wd} {n : Nat} {N : List Str} {ps : List PV} {vs : List V} (h : Pvs K W n ps vs) : EnvR K W n (L2.start N vs) (startE N.length ps) := by
  have hl := h.length
  refine ⟨by simp [L2.start, startE, hl], fun i p e => ?_⟩
  unfold startE at e
  unfold L2.start
  by_cases hi : i < ps.length
  · rw [List.getElem?_append_left (by simpa using hi), List.getElem?_map] at e
    cases q : ps[i]? with
    | none => rw [q] at e; cases e
    | some p' =>
      rw [q] at e; cases e
      obtain ⟨v, h1, h2⟩ := h.get q
      exact ⟨v, by rw [List.getElem?_append_left (by simp; omega), List.getElem?_map, h1]; rfl, h2⟩
  · rw [List.getElem?_append_right (by simpa using hi), List.getElem?_replicate] at e
    split at e <;> cases e
section
variable {P : Program} {w : World} {K : PySem.W.Frag} {mg : Str → Option Value} {base : Heap} {x qual : Str} {st : Stmt} {f : Addr} {fd : FuncData} {N ps : List Str} {k : Nat} {rn : RnF}
theorem fn_pure (F : Fun K x qual st f fd) (S : FnScope N ps (defScope st)) (hb : ∀ (cdv : Value) (A : Around) (outer : List PySem.Env) (s : Shared) (H : Hp) (E : XK), Room k (A.deeper (envOfC qual (defScope st) s.heap.objs.size f cdv)) → MSs (cxOf CX0 P w K mg base N qual (defScope st) f cdv A outer s H E).nox (defBody st) rn) :
    FnOk P w K mg base CX0 (k + 1) f fd ps (spP ps.length (fnP N.length ps.length rn)) := by
  refine F.ok S (fun vs H Q E h => h.1) (fun cdv A outer s H vs Q E hr h => ⟨_, hb cdv A outer s H E hr, ?_⟩)
  obtain ⟨hl, ds, d, Hi, sm, hd, hF, q⟩ := h
  unfold fnP at hF
  have R : Rl K ⟨Hi, H, fun _ => 0⟩ [] := ⟨sm, fun k o h => by simp at h, fun k o h => by simp at h, fun j k o u h => by simp at h, fun k h => by simp at h⟩
  have rp : Pvs K ⟨Hi, H, fun _ => 0⟩ 0 (ds.map PV.dat) vs := DtAll.pvs hd
  have fin : ∀ W' : Wd, ∀ n' x, Ext ⟨Hi, H, fun _ => 0⟩ 0 W' n' → ∀ μ', Rl K W' μ' → Dt W'.Hi x d → Q x W'.H := fun W' n' x E1 μ' R' r =>
    q x W'.Hi W'.H E1.im R'.sub (fun a o h => E1.fr a o h fun k hk => absurd hk (Nat.not_lt_zero _)) (fun a o h h' => by
      rcases E1.nw a o h h' with z | ⟨k, hk, _⟩
      · exact z
      · exact absurd hk (Nat.not_lt_zero _)) r
  split at hF
  · split at hF
    · rename_i d' μ' e
      cases hF
      exact ⟨⟨Hi, H, fun _ => 0⟩, _, [], _, rfl, R, startR rp, e, fun W' x R' E1 r => fin W' _ x E1 _ R' r⟩
    · rename_i ε' μ' e
      cases hF
      exact ⟨⟨Hi, H, fun _ => 0⟩, _, [], _, rfl, R, startR rp, e, fun W' σ' R' E1 r => fin W' _ .non E1 _ R' .non⟩
    · cases hF
  · cases hF
theorem fn_gen (F : Fun K x qual st f fd) (S : FnScope N ps (defScope st)) (hb : ∀ (cdv : Value) (A : Around) (outer : List PySem.Env) (s : Shared) (H : Hp) (E : XK), Room k (A.deeper (envOfC qual (defScope st) s.heap.objs.size f cdv)) → MSs (cxOf CX0 P w K mg base N qual (defScope st) f cdv A outer s H E).nox (defBody st) rn) :
    FnOk P w K mg base CX0 (k + 1) f fd ps (spG K ps.length (fnG N.length ps.length rn)) := by
  refine F.ok S (fun vs H Q E h => h.1) (fun cdv A outer s H vs Q E hr h => ⟨_, hb cdv A outer s H E hr, ?_⟩)
  obtain ⟨hl, W, ps', μ, v, μ', rfl, R, rp, hF, q⟩ := h
  unfold fnG at hF
  split at hF
  · split at hF
    · rename_i v' μ2 e
      cases hF
      exact ⟨W, _, μ, _, rfl, R, startR rp, e, fun W' x R' E1 r => q x W' R' E1 r⟩
    · rename_i ε' μ2 e
      cases hF
      exact ⟨W, _, μ, _, rfl, R, startR rp, e, fun W' σ' R' E1 r => q .non W' R' E1 .non⟩
    · cases hF
  · cases hF
end
@[simp] def eCallP (n : Nat) (F : List PyData → Option PyData) (el : ArF) : EvF := fun ε μ => (el ε μ).bind fun x => if x.1.length = n then (asDats x.1).bind fun ds => (F ds).map fun d => (.dat d, x.2) else none
@[simp] def eCallG (n : Nat) (F : List PV → Sto → Option (PV × Sto)) (el : ArF) : EvF := fun ε μ => (el ε μ).bind fun x => if x.1.length = n then F x.1 x.2 else none
theorem pure_ok {K : PySem.W.Frag} {n : Nat} {F : List PyData → Option PyData} {W : Wd} {μ : Sto} {xs : List V} {ds : List PyData} {d : PyData} {Q : VK} {E : XK} (R : Rl K W μ) (r : Pvs K W μ.length (ds.map PV.dat) xs) (hn : ds.length = n) (hF : F ds = some d) (k : Kont K W μ.length μ (.dat d) Q) : spP n F xs W.H Q E := by
  have hl := r.length
  refine ⟨by simp at hl; omega, ds, d, W.Hi, R.sub, Pvs.dt r, hF, fun x Hi' H' s1 s2 s3 fr rx => ?_⟩
  have E1 : Ext W μ.length ⟨Hi', H', W.at'⟩ μ.length := ⟨s1, fun _ _ => rfl, Nat.le_refl _, fun a o h _ => s3 a o h, fun a o h h' => .inl (fr a o h h'), fun k h h' => absurd h' (Nat.not_lt.mpr h), fun a o h => ⟨o, s3 a o h⟩⟩
  refine k x ⟨Hi', H', W.at'⟩ ⟨s2, fun j o h => ?_, fun j o h hg => ?_, R.inj, fun j hj => let ⟨u, e⟩ := R.th j hj; ⟨u, s3 _ _ e⟩⟩ E1 rx
  · have := R.ob j o h
    cases o with
    | gone => trivial
    | lst xs => obtain ⟨vs, e, r⟩ := this; exact ⟨vs, s3 _ _ e, r.mono E1⟩
    | dic kvs => obtain ⟨vs, e, r⟩ := this; exact ⟨vs, s3 _ _ e, r.mono E1⟩
  · have lk : j < μ.length := (List.getElem?_eq_some_iff.mp h).1
    cases q : Hi' (W.at' j) with
    | none => exact q
    | some u =>
      obtain ⟨u', e⟩ := R.th j lk
      have := fr _ _ q (R.off j o h hg)
      rw [e] at this; cases this
section
variable {X : Cx} {k : Nat} {f : Addr} {fd : FuncData} {ps : List Str} {x : Str} {p pos : Pos} {e : Expr} {es : List Expr} {el : ArF} {n : Nat}
theorem m_callP {F : List PyData → Option PyData} (G : FnOk X.prog X.w X.K X.mg X.base CX0 k f fd ps (spP n F)) (hr : Room k X.A) (hg : Gl X x) (hm : X.mg x = some (.ref f)) (hk : PySem.W.keepIn X.K (.ref f) = true) (hb : Binds X.K fd ps []) (ha : MA X (e :: es) el)
    (hdb : (x == ("__debug__" : Str)) = false := by decide) (he : starEach (e :: es) X.env = (false, eval e X.env) :: starEach es X.env := by rfl) (hpl : (backTo pos (starEach es X.env)).any (·.1) = false := by rfl) : ME X (.Call (.Name x p) (e :: es) [] pos) (eCallP n F el) :=
  VE.m ⟨pe_call G hr hg hm hk hb .nil pass0 ha hdb he hpl, fun W σ ε μ v μ' Q R En q kk => by
    unfold eCallP at q
    simp only [Option.bind_eq_some_iff] at q
    obtain ⟨⟨xs, μ1⟩, h1, h2⟩ := q
    refine adqUA W σ ε μ xs μ1 _ R En h1 fun vs W1 R1 E1 r1 => ?_
    by_cases hl : xs.length = n
    · simp only [hl, if_pos, Option.bind_eq_some_iff, Option.map_eq_some_iff] at h2
      obtain ⟨ds, h3, d, h4, h5⟩ := h2
      cases h5
      rw [asDats_eq h3] at r1 hl
      rw [List.append_nil]
      exact pure_ok R1 r1 (by simpa using hl) h4 (kk.ext E1)
    · simp only [hl, if_false] at h2; cases h2⟩
theorem m_callG {F : List PV → Sto → Option (PV × Sto)} (G : FnOk X.prog X.w X.K X.mg X.base CX0 k f fd ps (spG X.K n F)) (hr : Room k X.A) (hg : Gl X x) (hm : X.mg x = some (.ref f)) (hk : PySem.W.keepIn X.K (.ref f) = true) (hb : Binds X.K fd ps []) (ha : MA X (e :: es) el)
    (hdb : (x == ("__debug__" : Str)) = false := by decide) (he : starEach (e :: es) X.env = (false, eval e X.env) :: starEach es X.env := by rfl) (hpl : (backTo pos (starEach es X.env)).any (·.1) = false := by rfl) : ME X (.Call (.Name x p) (e :: es) [] pos) (eCallG n F el) :=
  VE.m ⟨pe_call G hr hg hm hk hb .nil pass0 ha hdb he hpl, fun W σ ε μ v μ' Q R En q kk => by
    unfold eCallG at q
    simp only [Option.bind_eq_some_iff] at q
    obtain ⟨⟨xs, μ1⟩, h1, h2⟩ := q
    refine adqUA W σ ε μ xs μ1 _ R En h1 fun vs W1 R1 E1 r1 => ?_
    by_cases hl : xs.length = n
    · simp only [hl, if_pos] at h2
      have := r1.length
      rw [List.append_nil]
      exact ⟨by omega, W1, xs, μ1, v, μ', rfl, R1, r1, h2, kk.ext E1⟩
    · simp only [hl, if_false] at h2; cases h2⟩
end
end VX
namespace VX
open PySem PySem.Spec PyProof.Rows L2

theorem OpR.or3 {X : Cx} {f : Value → Value → Sem Value} {r1 r2 r3 : R2} (h1 : OpR X f r1) (h2 : OpR X f r2) (h3 : OpR X f r3) : OpR X f (fun x y H Q => r1 x y H Q ∨ r2 x y H Q ∨ r3 x y H Q) :=
  fun pins s σ H x y v u Q I rx ry h => by
    rcases h with h | h | h
    · exact h1 pins s σ H x y v u Q I rx ry h
    · exact h2 pins s σ H x y v u Q I rx ry h
    · exact h3 pins s σ H x y v u Q I rx ry h

/-! ### the functions -/
@[simp] def fAdd (own : Bool) : OpF := fun x y μ => match x, y with
  | .dat (.int i), .dat (.int j) => some (.dat (.int (i + j)), μ)
  | .dat (.str i), .dat (.str j) => if i.length + j.length ≤ cap then some (.dat (.str (i ++ j)), μ) else none
  | x, y => (lstOf μ x).bind fun xs => (lstOf μ y).bind fun ys => mkL own (xs ++ ys) μ
@[simp] def fII (g : Int → Int → Int) : OpF := fun x y μ => match x, y with
  | .dat (.int i), .dat (.int j) => some (.dat (.int (g i j)), μ)
  | _, _ => none
@[simp] def fIB (g : Int → Int → Bool) : OpF := fun x y μ => match x, y with
  | .dat (.int i), .dat (.int j) => some (.dat (.bool (g i j)), μ)
  | _, _ => none
@[simp] def fSub : OpF := fII fun i j => i - j
/-- a whole number's bounds, told so that the kernel has nothing to unfold -/
def inB (m : Nat) : Int → Bool
  | .ofNat n => Nat.ble n m
  | .negSucc n => Nat.ble n m
theorem inB_iff {m : Nat} {j : Int} : inB m j = true ↔ -((m : Int) + 1) ≤ j ∧ j < (m : Int) + 1 := by
  cases j with
  | ofNat n => simp only [inB, Nat.ble_eq, Int.ofNat_eq_natCast]; omega
  | negSucc n => simp only [inB, Nat.ble_eq, Int.negSucc_eq]; omega
theorem p62 : (2 : Int) ^ 62 = 4611686018427387904 := by decide
theorem p63 : (2 : Int) ^ 63 = 9223372036854775808 := by decide
theorem p64 : (2 : Int) ^ 64 = 18446744073709551616 := by decide
def inIx : Int → Bool := inB 9223372036854775807
theorem inIx_ok {j : Int} (h : inIx j = true) : -(2 ^ 63) ≤ j ∧ j < 2 ^ 63 := by
  rw [p63]
  exact inB_iff.mp h
theorem inIx_int {j : Int} (h : -100000 ≤ j) (h' : j ≤ 100000) : inIx j = true := inB_iff.mpr ⟨Int.le_trans (by decide) h, Int.lt_of_le_of_lt h' (by decide)⟩
@[simp] theorem inIx_z : inIx 0 = true := inIx_int (by decide) (by decide)
@[simp] theorem inIx_nat {n : Nat} (h : n ≤ 100000) : inIx (n : Int) = true := inIx_int (by omega) (by omega)
def inMul : Int → Bool := inB 18446744073709551614
theorem inMul_ok {j : Int} (h : inMul j = true) : -(2 ^ 64) < j ∧ j < 2 ^ 64 := by
  rw [p64]
  have := inB_iff.mp h
  omega
@[simp] def fMul (own : Bool) : OpF := fun x y μ => match x, y with
  | .dat (.int i), .dat (.int j) => if (inMul i || inMul j) = true then some (.dat (.int (i * j)), μ) else none
  | x, .dat (.int j) => (lstOf μ x).bind fun xs => if xs.length * j.toNat ≤ cap ∧ inIx j = true then mkL own (List.replicate j.toNat xs).flatten μ else none
  | _, _ => none
@[simp] def fDiv : OpF := fun x y μ => match x, y with
  | .dat (.int i), .dat (.int j) => if 0 < j ∧ j < 1073741824 then some (.dat (.int (i / j)), μ) else none
  | _, _ => none
@[simp] def fMod : OpF := fun x y μ => match x, y with
  | .dat (.int i), .dat (.int j) => if 0 < j then some (.dat (.int (i % j)), μ) else none
  | _, _ => none
@[simp] def fLt : OpF := fIB fun i j => decide (i < j)
@[simp] def fLe : OpF := fIB fun i j => decide (i ≤ j)
@[simp] def fGt : OpF := fIB fun i j => decide (j < i)
@[simp] def fGe : OpF := fIB fun i j => decide (j ≤ i)
@[simp] def fEq (neg : Bool) : OpF := fun x y μ => (asD μ x).bind fun d => (asD μ y).bind fun e => if SeqAt.shaped d = true ∧ SeqAt.shaped e = true then some (.dat (.bool (if neg then !PyData.eqv d e else PyData.eqv d e)), μ) else none
@[simp] def isNonP : PV → Bool
  | .dat .none => true
  | _ => false
@[simp] def fIs (neg : Bool) : OpF := fun x y μ => match y with
  | .dat .none => some (.dat (.bool (if neg then !isNonP x else isNonP x)), μ)
  | _ => none
@[simp] def flatD : PyData → Bool
  | .none => true
  | .bool _ => true
  | .int _ => true
  | .str _ => true
  | _ => false
@[simp] def fIn (neg : Bool) : OpF := fun x y μ => match x, y with
  | .dat (.str w), .dat (.str z) => (match w.cps.toList with | [c] => some (.dat (.bool (if neg then !decide (c ∈ z.cps.toList) else decide (c ∈ z.cps.toList))), μ) | _ => none)
  | .dat d, .dat (.tuple ds) => if flatD d = true ∧ ds.all flatD = true then some (.dat (.bool (if neg then !(ds.any fun z => PyData.eqv z d) else ds.any fun z => PyData.eqv z d)), μ) else none
  | x, y => (asD μ x).bind fun d => (asD μ y).bind fun e => match e with
    | .list ds => if SeqAt.shaped d = true ∧ SeqAt.shaped (.list ds) = true then some (.dat (.bool (if neg then !(ds.any fun z => PyData.eqv z d) else ds.any fun z => PyData.eqv z d)), μ) else none
    | _ => none
@[simp] def fIx : OpF := fun x y μ => match x, y with
  | .dat (.str z), .dat (.int i) => if z.length ≤ cap then (atI z.cps.toList i).map fun c => (.dat (.str ⟨#[c]⟩), μ) else none
  | x, .dat (.int i) => (seqOf μ x).bind fun xs => (atI xs i).map fun v => (v, μ)
  | _, _ => none
@[simp] def fNeg : PV → Option PV
  | .dat (.int i) => some (.dat (.int (-i)))
  | _ => none

theorem op_addA {X : Cx} : OpR X (binaryOp .Add) (fun x y H Q => rI0 (fun i j => .int (i + j)) x y H Q ∨ (fun x y H Q => ∃ i j, x = .str i ∧ y = .str j ∧ i.length + j.length ≤ sizeLine ∧ Q (.str (i ++ j)) H) x y H Q ∨ rCat x y H Q) := OpR.or3 op_add op_add_str op_cat
section
variable {K : PySem.W.Frag} {W : Wd} {n : Nat} {μ : Sto}
theorem rpv_int {i : Int} {x : V} (h : RPV K W n (.dat (.int i)) x) : x = .int i := by cases h; rfl
theorem rpv_str {i : Str} {x : V} (h : RPV K W n (.dat (.str i)) x) : x = .str i := by cases h; rfl
theorem rpv_non {x : V} (h : RPV K W n (.dat .none) x) : x = .non := by cases h; rfl
theorem Pvs.atI {ps : List PV} {vs : List V} {i : Int} {p : PV} (h : Pvs K W n ps vs) (e : L2.atI ps i = some p) : ∃ v, L2.atI vs i = some v ∧ RPV K W n p v := by
  unfold L2.atI at e ⊢
  rw [← h.length]
  cases q : ixN ps.length i with
  | none => rw [q] at e; cases e
  | some j =>
    rw [q] at e
    obtain ⟨v, h1, h2⟩ := h.get (show ps[j]? = some p from e)
    exact ⟨v, h1, h2⟩
theorem Pvs.flatten {ps : List PV} {vs : List V} (h : Pvs K W n ps vs) : ∀ m : Nat, Pvs K W n (List.replicate m ps).flatten (List.replicate m vs).flatten
  | 0 => .nil
  | m + 1 => by
    simp only [List.replicate_succ, List.flatten_cons]
    exact h.append (h.flatten m)
theorem ao_add (own : Bool) : AOp K (fun x y H Q => rI0 (fun i j => .int (i + j)) x y H Q ∨ (fun x y H Q => ∃ i j, x = .str i ∧ y = .str j ∧ i.length + j.length ≤ sizeLine ∧ Q (.str (i ++ j)) H) x y H Q ∨ rCat x y H Q) (fAdd own) := fun W μ x y px py v μ' Q R rx ry h k => by
  unfold fAdd at h
  split at h
  · cases h; obtain rfl := rpv_int rx; obtain rfl := rpv_int ry
    exact .inl ⟨_, _, rfl, rfl, k.now R (.int _)⟩
  · rename_i i j
    obtain rfl := rpv_str rx; obtain rfl := rpv_str ry
    by_cases hc : i.length + j.length ≤ cap
    · rw [if_pos hc] at h; cases h
      exact .inr (.inl ⟨_, _, rfl, rfl, cap_ok hc, k.now R (.str _)⟩)
    · rw [if_neg hc] at h; cases h
  · simp only [Option.bind_eq_some_iff] at h
    obtain ⟨xs, h1, ys, h2, h3⟩ := h
    obtain ⟨a, vs, rfl, ea, ra⟩ := lstOf_ok R rx h1
    obtain ⟨b, ws, rfl, eb, rb⟩ := lstOf_ok R ry h2
    obtain ⟨z, q⟩ := mkL_ok R (ra.append rb) h3 k
    exact .inr (.inr ⟨a, b, vs, ws, rfl, rfl, ea, eb, by simpa using z, q⟩)
theorem ao_II {g : Int → Int → Int} : AOp K (rI0 fun i j => .int (g i j)) (fII g) := fun W μ x y px py v μ' Q R rx ry h k => by
  unfold fII at h
  split at h
  · cases h; obtain rfl := rpv_int rx; obtain rfl := rpv_int ry
    exact ⟨_, _, rfl, rfl, k.now R (.int _)⟩
  · cases h
theorem ao_IB {g : Int → Int → Bool} : AOp K (rI0 fun i j => .bl (g i j)) (fIB g) := fun W μ x y px py v μ' Q R rx ry h k => by
  unfold fIB at h
  split at h
  · cases h; obtain rfl := rpv_int rx; obtain rfl := rpv_int ry
    exact ⟨_, _, rfl, rfl, k.now R (.bl _)⟩
  · cases h
theorem op_mulA {X : Cx} : OpR X (binaryOp .Mult) (fun x y H Q => rI CMul (fun i j => .int (i * j)) x y H Q ∨ rRep x y H Q) := OpR.or op_mul op_rep
theorem ao_mul (own : Bool) : AOp K (fun x y H Q => rI CMul (fun i j => .int (i * j)) x y H Q ∨ rRep x y H Q) (fMul own) := fun W μ x y px py v μ' Q R rx ry h k => by
  unfold fMul at h
  split at h
  · rename_i i j
    obtain rfl := rpv_int rx; obtain rfl := rpv_int ry
    by_cases hc : (inMul i || inMul j) = true
    · rw [if_pos hc] at h; cases h
      refine .inl ⟨_, _, rfl, rfl, ?_, k.now R (.int _)⟩
      rw [Bool.or_eq_true] at hc
      exact hc.imp inMul_ok inMul_ok
    · rw [if_neg hc] at h; cases h
  · rename_i j _
    simp only [Option.bind_eq_some_iff] at h
    obtain ⟨xs, h1, h2⟩ := h
    obtain ⟨a, vs, rfl, ea, ra⟩ := lstOf_ok R rx h1
    obtain rfl := rpv_int ry
    by_cases hc : xs.length * j.toNat ≤ cap ∧ inIx j = true
    · rw [if_pos hc] at h2
      obtain ⟨z, q⟩ := mkL_ok R (Pvs.flatten ra j.toNat) h2 k
      exact .inr ⟨a, j, vs, rfl, rfl, ea, (inIx_ok hc.2).1, (inIx_ok hc.2).2, by rw [← ra.length]; exact cap_ok hc.1, q⟩
    · rw [if_neg hc] at h2; cases h2
  · cases h
theorem ao_div : AOp K (rI CDiv fun i j => .int (i / j)) fDiv := fun W μ x y px py v μ' Q R rx ry h k => by
  unfold fDiv at h
  split at h
  · rename_i i j
    obtain rfl := rpv_int rx; obtain rfl := rpv_int ry
    by_cases hc : 0 < j ∧ j < 1073741824
    · rw [if_pos hc] at h; cases h
      exact ⟨_, _, rfl, rfl, hc, k.now R (.int _)⟩
    · rw [if_neg hc] at h; cases h
  · cases h
theorem ao_mod : AOp K (rI (fun _ j => 0 < j) fun i j => .int (i % j)) fMod := fun W μ x y px py v μ' Q R rx ry h k => by
  unfold fMod at h
  split at h
  · rename_i i j
    obtain rfl := rpv_int rx; obtain rfl := rpv_int ry
    by_cases hc : 0 < j
    · rw [if_pos hc] at h; cases h
      exact ⟨_, _, rfl, rfl, hc, k.now R (.int _)⟩
    · rw [if_neg hc] at h; cases h
  · cases h
theorem ao_eq : AOp K (rEqD K) (fEq false) := fun W μ x y px py v μ' Q R rx ry h k => by
  unfold fEq at h
  simp only [Option.bind_eq_some_iff] at h
  obtain ⟨d, h1, e, h2, h3⟩ := h
  split at h3
  · rename_i hc
    cases h3
    exact ⟨d, e, asD_ok R rx h1, asD_ok R ry h2, hc.1, hc.2, k.now R (.bl _)⟩
  · cases h3
theorem ao_ne : AOp K (rNeD K) (fEq true) := fun W μ x y px py v μ' Q R rx ry h k => by
  unfold fEq at h
  simp only [Option.bind_eq_some_iff] at h
  obtain ⟨d, h1, e, h2, h3⟩ := h
  split at h3
  · rename_i hc
    cases h3
    exact ⟨d, e, asD_ok R rx h1, asD_ok R ry h2, hc.1, hc.2, k.now R (.bl _)⟩
  · cases h3
theorem isNon_ok {p : PV} {x : V} (h : RPV K W n p x) : decide (x = .non) = isNonP p := by
  cases p with
  | dat d =>
    cases h <;> simp [isNonP]
  | ptr k => obtain ⟨_, rfl⟩ := h; simp [isNonP]
  | scr ns => obtain ⟨a, rfl, _⟩ := h; simp [isNonP]
theorem ao_is : AOp K (fun x y H Q => y = .non ∧ Q (.bl (decide (x = .non))) H) (fIs false) := fun W μ x y px py v μ' Q R rx ry h k => by
  unfold fIs at h
  split at h
  · cases h
    refine ⟨rpv_non ry, ?_⟩
    rw [isNon_ok rx]
    exact k.now R (.bl _)
  · cases h
theorem ao_isnot : AOp K (fun x y H Q => y = .non ∧ Q (.bl (!decide (x = .non))) H) (fIs true) := fun W μ x y px py v μ' Q R rx ry h k => by
  unfold fIs at h
  split at h
  · cases h
    refine ⟨rpv_non ry, ?_⟩
    rw [isNon_ok rx]
    exact k.now R (.bl _)
  · cases h
theorem flat_ok {d : PyData} {v : V} {H : Hp} (h : Dt H v d) (f : flatD d = true) : flatV v = true := by
  cases h <;> first | rfl | cases f
theorem eqV_ok {d e : PyData} {v w : V} {H : Hp} (h : Dt H v d) (h' : Dt H w e) (f : flatD d = true) (f' : flatD e = true) : eqV v w = PyData.eqv d e := by
  cases h <;> cases h' <;> simp_all [eqV, PyData.eqv, flatD]
theorem inV_ok {d : PyData} {v : V} {H : Hp} (h : Dt H v d) (f : flatD d = true) : ∀ {ds : List PyData} {vs : List V}, DtAll H vs ds → ds.all flatD = true → vs.all flatV = true ∧ inV v vs = ds.any fun z => PyData.eqv z d
  | _, _, .nil, _ => ⟨rfl, rfl⟩
  | _, _, .cons a r, g => by
    simp only [List.all_cons, Bool.and_eq_true] at g
    obtain ⟨h1, h2⟩ := inV_ok h f r g.2
    refine ⟨by simp only [List.all_cons, Bool.and_eq_true]; exact ⟨flat_ok a g.1, h1⟩, ?_⟩
    unfold inV at h2 ⊢
    simp only [List.any_cons]
    rw [h2, eqV_ok a h g.1 f]
def rInA (K : PySem.W.Frag) : R2 := fun x y H Q => (fun x y H Q => ∃ (c : Nat) (z : Str), x = .str ⟨#[c]⟩ ∧ y = .str z ∧ Q (.bl (decide (c ∈ z.cps.toList))) H) x y H Q ∨ rIn K false x y H Q ∨ rInD K x y H Q
def rNotInA (K : PySem.W.Frag) : R2 := fun x y H Q => (fun x y H Q => ∃ (c : Nat) (z : Str), x = .str ⟨#[c]⟩ ∧ y = .str z ∧ Q (.bl (!decide (c ∈ z.cps.toList))) H) x y H Q ∨ rIn K true x y H Q ∨ rNotInD K x y H Q
theorem op_inA {X : Cx} (hu : X.A.units + 65 < cLine) : OpR X (compareOp .In) (rInA X.K) := OpR.or3 op_in_sign op_in_seq (op_inD hu)
theorem op_notInA {X : Cx} (hu : X.A.units + 65 < cLine) : OpR X (compareOp .NotIn) (rNotInA X.K) := OpR.or3 op_notIn_sign op_notIn_seq (op_notInD hu)
theorem str_of_cps {w : Str} {c : Nat} (h : w.cps.toList = [c]) : w = ⟨#[c]⟩ := by
  cases w with
  | mk a =>
    have : a = #[c] := by
      apply Array.ext'
      simpa using h
    rw [this]
theorem ao_in : AOp K (rInA K) (fIn false) := fun W μ x y px py v μ' Q R rx ry h k => by
  unfold fIn at h
  split at h
  · rename_i w z
    obtain rfl := rpv_str rx; obtain rfl := rpv_str ry
    split at h
    · rename_i c e
      cases h
      rw [str_of_cps e]
      exact .inl ⟨c, z, rfl, rfl, k.now R (.bl _)⟩
    · cases h
  · rename_i d ds _
    split at h
    · rename_i hc
      cases h
      cases ry with
      | tup e a =>
        obtain ⟨h1, h2⟩ := inV_ok rx hc.1 a hc.2
        refine .inr (.inl ⟨_, _, rfl, .inr (SqT.of (R.sub _ _ e)), flat_ok rx hc.1, h1, ?_⟩)
        rw [if_neg (by decide), h2]
        exact k.now R (.bl _)
    · cases h
  · simp only [Option.bind_eq_some_iff] at h
    obtain ⟨d, h1, e, h2, h3⟩ := h
    split at h3
    · rename_i ds
      split at h3
      · rename_i hc
        cases h3
        exact .inr (.inr ⟨d, ds, asD_ok R rx h1, asD_ok R ry h2, hc.1, hc.2, k.now R (.bl _)⟩)
      · cases h3
    · cases h3
theorem ao_notIn : AOp K (rNotInA K) (fIn true) := fun W μ x y px py v μ' Q R rx ry h k => by
  unfold fIn at h
  split at h
  · rename_i w z
    obtain rfl := rpv_str rx; obtain rfl := rpv_str ry
    split at h
    · rename_i c e
      cases h
      rw [str_of_cps e]
      exact .inl ⟨c, z, rfl, rfl, k.now R (.bl _)⟩
    · cases h
  · rename_i d ds _
    split at h
    · rename_i hc
      cases h
      cases ry with
      | tup e a =>
        obtain ⟨h1, h2⟩ := inV_ok rx hc.1 a hc.2
        refine .inr (.inl ⟨_, _, rfl, .inr (SqT.of (R.sub _ _ e)), flat_ok rx hc.1, h1, ?_⟩)
        rw [if_pos rfl, h2]
        exact k.now R (.bl _)
    · cases h
  · simp only [Option.bind_eq_some_iff] at h
    obtain ⟨d, h1, e, h2, h3⟩ := h
    split at h3
    · rename_i ds
      split at h3
      · rename_i hc
        cases h3
        exact .inr (.inr ⟨d, ds, asD_ok R rx h1, asD_ok R ry h2, hc.1, hc.2, k.now R (.bl _)⟩)
      · cases h3
    · cases h3
theorem ix_any {X : Cx} : IxR X (rIx X.K) := IxR.or ix_list (IxR.or ix_tup ix_str)
theorem ao_ix : AOp K (rIx K) fIx := fun W μ x y px py v μ' Q R rx ry h k => by
  unfold fIx at h
  split at h
  · rename_i z i
    obtain rfl := rpv_str rx; obtain rfl := rpv_int ry
    by_cases hc : z.length ≤ cap
    · rw [if_pos hc] at h
      simp only [Option.map_eq_some_iff] at h
      obtain ⟨c, h1, h2⟩ := h
      cases h2
      exact .inr (.inr ⟨z, i, c, rfl, rfl, cap_ok hc, h1, k.now R (.str _)⟩)
    · rw [if_neg hc] at h; cases h
  · obtain rfl := rpv_int ry
    simp only [Option.bind_eq_some_iff, Option.map_eq_some_iff] at h
    obtain ⟨xs, h1, u, h2, h3⟩ := h
    cases h3
    obtain ⟨a, vs, rfl, e, r⟩ := seqOf_ok R rx h1
    obtain ⟨w, h4, h5⟩ := Pvs.atI r h2
    rcases e with e | e
    · exact .inl ⟨a, vs, _, w, rfl, rfl, e, h4, k.now R h5⟩
    · exact .inr (.inl ⟨a, vs, _, w, rfl, rfl, e, h4, k.now R h5⟩)
  · cases h
theorem au_neg : AUn K (rU fun i => .int (-i)) fNeg := fun W μ x px v Q R rx h k => by
  unfold fNeg at h
  split at h
  · cases h; obtain rfl := rpv_int rx
    exact ⟨_, rfl, k.now R (.int _)⟩
  · cases h
end
/-! ### the rules -/
section
variable {X : Cx} {a b c e o : Expr} {ea eb ec ev : EvF} {pos : Pos}
theorem m_add (own : Bool) (ha : ME X a ea) (hb : ME X b eb) : ME X (.BinOp a .Add b pos) (eOp (fAdd own) ea eb) := m_op op_addA (ao_add own) ha hb
theorem m_sub (ha : ME X a ea) (hb : ME X b eb) : ME X (.BinOp a .Sub b pos) (eOp fSub ea eb) := m_op op_sub ao_II ha hb
theorem m_mul (own : Bool) (ha : ME X a ea) (hb : ME X b eb) : ME X (.BinOp a .Mult b pos) (eOp (fMul own) ea eb) := m_op op_mulA (ao_mul own) ha hb
theorem m_div (ha : ME X a ea) (hb : ME X b eb) : ME X (.BinOp a .FloorDiv b pos) (eOp fDiv ea eb) := m_op op_fdiv ao_div ha hb
theorem m_mod (ha : ME X a ea) (hb : ME X b eb) : ME X (.BinOp a .Mod b pos) (eOp fMod ea eb) := m_op op_mod ao_mod ha hb
theorem m_lt (ha : ME X a ea) (hb : ME X b eb) : ME X (.Compare a [.Lt] [b] pos) (eOp fLt ea eb) := m_cmp op_lt ao_IB ha hb (nomark _)
theorem m_le (ha : ME X a ea) (hb : ME X b eb) : ME X (.Compare a [.LtE] [b] pos) (eOp fLe ea eb) := m_cmp op_le ao_IB ha hb (nomark _)
theorem m_gt (ha : ME X a ea) (hb : ME X b eb) : ME X (.Compare a [.Gt] [b] pos) (eOp fGt ea eb) := m_cmp op_gt ao_IB ha hb (nomark _)
theorem m_ge (ha : ME X a ea) (hb : ME X b eb) : ME X (.Compare a [.GtE] [b] pos) (eOp fGe ea eb) := m_cmp op_ge ao_IB ha hb (nomark _)
theorem m_eq (hu : X.A.units + 65 < cLine) (ha : ME X a ea) (hb : ME X b eb) : ME X (.Compare a [.Eq] [b] pos) (eOp (fEq false) ea eb) := m_cmp (op_eqD (by omega)) ao_eq ha hb (nomark _)
theorem m_ne (hu : X.A.units + 65 < cLine) (ha : ME X a ea) (hb : ME X b eb) : ME X (.Compare a [.NotEq] [b] pos) (eOp (fEq true) ea eb) := m_cmp (op_neD (by omega)) ao_ne ha hb (nomark _)
theorem m_is (ha : ME X a ea) (hb : ME X b eb) : ME X (.Compare a [.Is] [b] pos) (eOp (fIs false) ea eb) := m_cmp op_isN ao_is ha hb (nomark _)
theorem m_isnot (ha : ME X a ea) (hb : ME X b eb) : ME X (.Compare a [.IsNot] [b] pos) (eOp (fIs true) ea eb) := m_cmp op_notN ao_isnot ha hb (nomark _)
theorem m_in (hu : X.A.units + 65 < cLine) (ha : ME X a ea) (hb : ME X b eb) (hm : behindInMarks .In b = false := by rfl) : ME X (.Compare a [.In] [b] pos) (eOp (fIn false) ea eb) := m_cmp (op_inA hu) ao_in ha hb hm
theorem m_notin (hu : X.A.units + 65 < cLine) (ha : ME X a ea) (hb : ME X b eb) (hm : behindInMarks .NotIn b = false := by rfl) : ME X (.Compare a [.NotIn] [b] pos) (eOp (fIn true) ea eb) := m_cmp (op_notInA hu) ao_notIn ha hb hm
theorem m_ix (ha : ME X a ea) (hb : ME X b eb) (hs : PlainIx b := by intro _ _; rfl) : ME X (.Subscript a b pos) (eOp fIx ea eb) := m_ixR ix_any ao_ix ha hb hs
theorem m_neg (ha : ME X a ea) : ME X (.UnaryOp .USub a pos) (eUn fNeg ea) := m_un un_neg au_neg ha
/-- a test by a comparison -/
theorem t_of (h : ME X e ev) (he : ∀ whole, isTrue e X.env whole = (do let v ← whole; standAt e.pos; holding [v] (truthy v)) := by intro _; rfl) : MT X e (tsE ev) := t_val h he
/-! chains -/
@[simp] def eCh (f g : OpF) (a b c : EvF) : EvF := fun ε μ => (a ε μ).bind fun x => (b ε x.2).bind fun y => (f x.1 y.1 y.2).bind fun z => match z.1 with
  | .dat (.bool true) => (c ε z.2).bind fun w => g y.1 w.1 w.2
  | .dat (.bool false) => some (.dat (.bool false), z.2)
  | _ => none
theorem adq_ch {K : PySem.W.Frag} {r r' : R2} {f g : OpF} {ta tb tc : TE} (ha : Adq K ta ea) (hb : Adq K tb eb) (hc : Adq K tc ec) (hr : AOp K r f) (hr' : AOp K r' g) : Adq K (tChain r r' ta tb tc) (eCh f g ea eb ec) := fun W σ ε μ v μ' Q R En h k => by
  unfold eCh at h
  simp only [Option.bind_eq_some_iff] at h
  obtain ⟨⟨x, μ1⟩, h1, ⟨y, μ2⟩, h2, ⟨z, μ3⟩, h3, h4⟩ := h
  refine ha W σ ε μ x μ1 _ R En h1 fun vx W1 R1 E1 r1 => ?_
  refine hb W1 σ ε μ1 y μ2 _ R1 (En.mono E1) h2 fun vy W2 R2 E2 r2 => ?_
  refine hr W2 μ2 vx vy x y z μ3 _ R2 (r1.mono E2) r2 h3 fun vz W3 R3 E3 r3 => ?_
  split at h4
  · rename_i e1
    simp only [] at e1 h4
    subst e1
    obtain rfl := rpv_bl r3
    simp only [Option.bind_eq_some_iff] at h4
    obtain ⟨⟨w, μ4⟩, h5, h6⟩ := h4
    refine ⟨true, rfl, iteT (hc W3 σ ε μ3 w μ4 _ R3 (((En.mono E1).mono E2).mono E3) h5 fun vw W4 R4 E4 r4 => ?_)⟩
    exact hr' W4 μ4 vy vw y w v μ' Q R4 ((r2.mono E3).mono E4) r4 h6 (k.ext (((E1.trans E2).trans E3).trans E4))
  · rename_i e1
    simp only [] at e1
    subst e1
    obtain rfl := rpv_bl r3
    cases h4
    exact ⟨false, rfl, iteF (k _ W3 R3 ((E1.trans E2).trans E3) (.bl false))⟩
  · cases h4
theorem m_chain {op op' : CmpOp} {r r' : R2} {f g : OpF} (ho : OpR X (compareOp op) r) (ho' : OpR X (compareOp op') r') (hr : AOp X.K r f) (hr' : AOp X.K r' g) (ha : ME X a ea) (hb : ME X b eb) (hc : ME X c ec) (hm : lastMarks [op, op'] [b, c] = false := by with_unfolding_all rfl) :
    ME X (.Compare a [op, op'] [b, c] pos) (eCh f g ea eb ec) := VE.m ⟨pe_chain ho ho' ha hb hc hm, adq_ch adqU adqU adqU hr hr'⟩
theorem t_chain {op op' : CmpOp} {r r' : R2} {f g : OpF} (ho : OpR X (compareOp op) r) (ho' : OpR X (compareOp op') r') (hr : AOp X.K r f) (hr' : AOp X.K r' g) (ha : ME X a ea) (hb : ME X b eb) (hc : ME X c ec) (hm : lastMarks [op, op'] [b, c] = false := by with_unfolding_all rfl) :
    MT X (.Compare a [op, op'] [b, c] pos) (tsE (eCh f g ea eb ec)) := VT.m ⟨pt_chain ho ho' ha hb hc hm, adq_tE (adq_ch adqU adqU adqU hr hr')⟩
/-! truth of any value -/
@[simp] def truP (μ : Sto) : PV → Option Bool
  | .dat .none => some false
  | .dat (.bool b) => some b
  | .dat (.int i) => some (i != 0)
  | .dat (.str z) => if z.length ≤ cap then some ((z.length : Int) != 0) else none
  | .ptr k => match μ[k]? with | some (.lst xs) => some (!xs.isEmpty) | some (.dic xs) => some (!xs.isEmpty) | _ => none
  | p => (seqOf μ p).map fun xs => !xs.isEmpty
@[simp] def tsTru (a : EvF) : TsF := fun ε μ => (a ε μ).bind fun x => (truP x.2 x.1).map fun b => (b, x.2)
theorem isEmpty_pvs {K : PySem.W.Frag} {W : Wd} {n : Nat} {xs : List PV} {vs : List V} (h : Pvs K W n xs vs) : xs.isEmpty = vs.isEmpty := by cases h <;> rfl
theorem isEmpty_kvs {K : PySem.W.Frag} {W : Wd} {n : Nat} {xs : List (Key × PV)} {vs : List (Key × V)} (h : Kvs K W n xs vs) : xs.isEmpty = vs.isEmpty := by cases h <;> rfl
theorem truP_ok {K : PySem.W.Frag} {W : Wd} {μ : Sto} {p : PV} {x : V} {b : Bool} (R : Rl K W μ) (r : RPV K W μ.length p x) (h : truP μ p = some b) : TruV K x W.H b := by
  have seq : ∀ q : PV, RPV K W μ.length q x → (seqOf μ q).map (fun xs => !xs.isEmpty) = some b → TruV K x W.H b := fun q r h => by
    simp only [Option.map_eq_some_iff] at h
    obtain ⟨xs, h1, rfl⟩ := h
    obtain ⟨a, vs, rfl, e, r2⟩ := seqOf_ok R r h1
    rw [isEmpty_pvs r2]
    rcases e with e | e
    · exact .inl ⟨vs, e, rfl⟩
    · exact .inr (.inl ⟨vs, e, rfl⟩)
  cases p with
  | dat d =>
    cases d with
    | none => cases h; rw [rpv_non r]; exact rfl
    | bool b' => cases h; rw [rpv_bl r]; exact rfl
    | int i => cases h; rw [rpv_int r]; exact rfl
    | str z =>
      rw [rpv_str r]
      simp only [truP] at h
      split at h
      · rename_i hc
        cases h
        exact ⟨cap_ok hc, rfl⟩
      · cases h
    | list ds => exact seq _ r h
    | tuple ds => exact seq _ r h
    | dict ds => exact seq _ r h
  | ptr k =>
    simp only [truP] at h
    split at h
    · rename_i xs q
      cases h
      obtain ⟨vs, e, r2⟩ := R.ob k _ q
      rw [r.2, isEmpty_pvs r2]
      exact .inl ⟨vs, SqL.of e, rfl⟩
    · rename_i xs q
      cases h
      obtain ⟨vs, e, r2⟩ := R.ob k _ q
      rw [r.2, isEmpty_kvs r2]
      exact .inr (.inr ⟨vs, e, rfl⟩)
    · cases h
  | scr ns => exact seq _ r h
theorem t_tru (h : ME X e ev) (he : ∀ whole, isTrue e X.env whole = (do let v ← whole; standAt e.pos; holding [v] (truthy v)) := by intro _; rfl) : MT X e (tsTru ev) :=
  VT.m ⟨pt_truth h he, fun W σ ε μ v μ' Q R En q k => by
    unfold tsTru at q
    simp only [Option.bind_eq_some_iff, Option.map_eq_some_iff] at q
    obtain ⟨⟨x, μ1⟩, h1, b, h2, h3⟩ := q
    cases h3
    exact adqU W σ ε μ x μ1 _ R En h1 fun vx W1 R1 E1 r1 => ⟨_, truP_ok R1 r1 h2, k W1 R1 E1⟩⟩
end
end VX
namespace VX
open PySem PySem.Spec PyProof.Rows L2

/-! ### ints, bools in lists -/
@[simp] def asInts : List PV → Option (List Int)
  | [] => some []
  | .dat (.int i) :: r => (asInts r).map (i :: ·)
  | _ :: _ => none
@[simp] def asBls : List PV → Option (List Bool)
  | [] => some []
  | .dat (.bool i) :: r => (asBls r).map (i :: ·)
  | _ :: _ => none
theorem asInts_map : ∀ ns : List Int, asInts (ns.map fun n => PV.dat (.int n)) = some ns
  | [] => rfl
  | n :: r => by simp [asInts, asInts_map r]
theorem asBls_map : ∀ ns : List Bool, asBls (ns.map fun n => PV.dat (.bool n)) = some ns
  | [] => rfl
  | n :: r => by simp [asBls, asBls_map r]
section
variable {K : PySem.W.Frag} {W : Wd} {n : Nat} {μ : Sto}
theorem asInts_ok : ∀ {xs : List PV} {vs : List V} {ns : List Int}, Pvs K W n xs vs → asInts xs = some ns → vs = ns.map V.int
  | _, _, _, .nil, h => by cases h; rfl
  | p :: xs, v :: vs, ns, .cons r t, h => by
    unfold asInts at h
    split at h
    · rename_i e; cases e
    · rename_i i r' e
      cases e
      simp only [Option.map_eq_some_iff] at h
      obtain ⟨ms, h1, rfl⟩ := h
      rw [rpv_int r, asInts_ok t h1]; rfl
    · cases h
theorem asBls_ok : ∀ {xs : List PV} {vs : List V} {ns : List Bool}, Pvs K W n xs vs → asBls xs = some ns → vs = ns.map V.bl
  | _, _, _, .nil, h => by cases h; rfl
  | p :: xs, v :: vs, ns, .cons r t, h => by
    unfold asBls at h
    split at h
    · rename_i e; cases e
    · rename_i i r' e
      cases e
      simp only [Option.map_eq_some_iff] at h
      obtain ⟨ms, h1, rfl⟩ := h
      rw [rpv_bl r, asBls_ok t h1]; rfl
    · cases h
theorem pvsInts {ns : List Int} : Pvs K W n (ns.map fun m => PV.dat (.int m)) (ns.map V.int) := by
  induction ns with
  | nil => exact .nil
  | cons m r ih => exact .cons (.int m) ih
end
def ins (x : Int) : List Int → List Int
  | [] => [x]
  | y :: ys => if x ≤ y then x :: y :: ys else y :: ins x ys
def isort : List Int → List Int
  | [] => []
  | x :: xs => ins x (isort xs)
theorem ins_perm (x : Int) : ∀ ys, (ins x ys).Perm (x :: ys)
  | [] => .refl _
  | y :: ys => by
    unfold ins
    split
    · exact .refl _
    · exact ((ins_perm x ys).cons y).trans (.swap x y ys)
theorem isort_perm : ∀ xs, (isort xs).Perm xs
  | [] => .refl _
  | x :: xs => (ins_perm x _).trans ((isort_perm xs).cons x)
theorem ins_sorted (x : Int) : ∀ ys : List Int, ys.Pairwise (· ≤ ·) → (ins x ys).Pairwise (· ≤ ·)
  | [], _ => by simp [ins]
  | y :: ys, h => by
    unfold ins
    rw [List.pairwise_cons] at h
    split
    · rename_i hc
      refine List.pairwise_cons.mpr ⟨fun z hz => ?_, List.pairwise_cons.mpr h⟩
      rcases List.mem_cons.mp hz with rfl | hz
      · exact hc
      · exact Int.le_trans hc (h.1 z hz)
    · rename_i hc
      refine List.pairwise_cons.mpr ⟨fun z hz => ?_, ins_sorted x ys h.2⟩
      rcases List.mem_cons.mp ((ins_perm x ys).mem_iff.mp hz) with rfl | hz
      · omega
      · exact h.1 z hz
theorem isort_sorted : ∀ xs, (isort xs).Pairwise (· ≤ ·)
  | [] => .nil
  | x :: xs => ins_sorted x _ (isort_sorted xs)
theorem isort_uniq {ns ns' : List Int} (p : ns'.Perm ns) (s : ns'.Pairwise (· ≤ ·)) : ns' = isort ns :=
  (p.trans (isort_perm ns).symm).eq_of_pairwise (fun _ _ _ _ h1 h2 => Int.le_antisymm h1 h2) s (isort_sorted ns)
def maxI : List Int → Int
  | [] => 0
  | x :: xs => xs.foldl max x
def minI : List Int → Int
  | [] => 0
  | x :: xs => xs.foldl min x
theorem foldl_max (xs : List Int) : ∀ x : Int, (xs.foldl max x = x ∨ xs.foldl max x ∈ xs) ∧ x ≤ xs.foldl max x ∧ ∀ y ∈ xs, y ≤ xs.foldl max x := by
  induction xs with
  | nil => intro x; simp
  | cons y ys ih =>
    intro x
    obtain ⟨h1, h2, h3⟩ := ih (max x y)
    simp only [List.foldl_cons]
    refine ⟨?_, by omega, fun z hz => ?_⟩
    · rcases h1 with h1 | h1
      · rw [h1]
        rcases Int.le_total x y with h | h
        · rw [Int.max_eq_right h]; exact .inr List.mem_cons_self
        · rw [Int.max_eq_left h]; exact .inl rfl
      · exact .inr (List.mem_cons_of_mem _ h1)
    · rcases List.mem_cons.mp hz with rfl | hz
      · omega
      · exact h3 z hz
theorem foldl_min (xs : List Int) : ∀ x : Int, (xs.foldl min x = x ∨ xs.foldl min x ∈ xs) ∧ xs.foldl min x ≤ x ∧ ∀ y ∈ xs, xs.foldl min x ≤ y := by
  induction xs with
  | nil => intro x; simp
  | cons y ys ih =>
    intro x
    obtain ⟨h1, h2, h3⟩ := ih (min x y)
    simp only [List.foldl_cons]
    refine ⟨?_, by omega, fun z hz => ?_⟩
    · rcases h1 with h1 | h1
      · rw [h1]
        rcases Int.le_total x y with h | h
        · rw [Int.min_eq_left h]; exact .inl rfl
        · rw [Int.min_eq_right h]; exact .inr List.mem_cons_self
      · exact .inr (List.mem_cons_of_mem _ h1)
    · rcases List.mem_cons.mp hz with rfl | hz
      · omega
      · exact h3 z hz
theorem maxI_mem {ns : List Int} (h : ns ≠ []) : maxI ns ∈ ns := by
  cases ns with
  | nil => exact absurd rfl h
  | cons x xs =>
    rcases (foldl_max xs x).1 with h | h
    · show xs.foldl max x ∈ _; rw [h]; exact List.mem_cons_self
    · exact List.mem_cons_of_mem _ h
theorem maxI_ge {ns : List Int} {y : Int} (h : y ∈ ns) : y ≤ maxI ns := by
  cases ns with
  | nil => cases h
  | cons x xs =>
    rcases List.mem_cons.mp h with rfl | h
    · exact (foldl_max xs y).2.1
    · exact (foldl_max xs x).2.2 y h
theorem minI_mem {ns : List Int} (h : ns ≠ []) : minI ns ∈ ns := by
  cases ns with
  | nil => exact absurd rfl h
  | cons x xs =>
    rcases (foldl_min xs x).1 with h | h
    · show xs.foldl min x ∈ _; rw [h]; exact List.mem_cons_self
    · exact List.mem_cons_of_mem _ h
theorem minI_le {ns : List Int} {y : Int} (h : y ∈ ns) : minI ns ≤ y := by
  cases ns with
  | nil => cases h
  | cons x xs =>
    rcases List.mem_cons.mp h with rfl | h
    · exact (foldl_min xs y).2.1
    · exact (foldl_min xs x).2.2 y h
/-! ### calls -/
@[simp] def fLen : CaF := fun xs μ => match xs with
  | [.dat (.str z)] => if z.length ≤ cap then some (.dat (.int z.length), μ) else none
  | [p] => (seqOf μ p).map fun xs => (.dat (.int xs.length), μ)
  | _ => none
@[simp] def fAbs : CaF := fun xs μ => match xs with
  | [.dat (.int i)] => some (.dat (.int (if i < 0 then -i else i)), μ)
  | _ => none
@[simp] def fMax : CaF := fun xs μ => match xs with
  | [.dat (.int i), .dat (.int j)] => some (.dat (.int (if j > i then j else i)), μ)
  | [p] => (lstOfS μ p).bind fun xs => (asInts xs).bind fun ns => if ns = [] then none else some (.dat (.int (maxI ns)), μ)
  | _ => none
@[simp] def fMin : CaF := fun xs μ => match xs with
  | [.dat (.int i), .dat (.int j)] => some (.dat (.int (if j < i then j else i)), μ)
  | [p] => (lstOfS μ p).bind fun xs => (asInts xs).bind fun ns => if ns = [] then none else some (.dat (.int (minI ns)), μ)
  | _ => none
@[simp] def fSum : CaF := fun xs μ => match xs with
  | [p] => (lstOfS μ p).bind fun xs => (asInts xs).map fun ns => (.dat (.int ns.sum), μ)
  | _ => none
@[simp] def fAny : CaF := fun xs μ => match xs with
  | [p] => (lstOfS μ p).bind fun xs => (asBls xs).map fun ns => (.dat (.bool (ns.any id)), μ)
  | _ => none
@[simp] def fAll : CaF := fun xs μ => match xs with
  | [p] => (lstOfS μ p).bind fun xs => (asBls xs).map fun ns => (.dat (.bool (ns.all id)), μ)
  | _ => none
@[simp] def fSorted (own : Bool) : CaF := fun xs μ => match xs with
  | [p] => (lstOfS μ p).bind fun xs => (asInts xs).bind fun ns => mkL own ((isort ns).map fun n => .dat (.int n)) μ
  | _ => none
@[simp] def fList (own : Bool) : CaF := fun xs μ => match xs with
  | [p] => (seqOf μ p).bind fun xs => mkL own xs μ
  | _ => none
@[simp] def fInt : CaF := fun xs μ => match xs with
  | [.dat (.int i)] => some (.dat (.int i), μ)
  | [.dat (.bool b)] => some (.dat (.int (if b then 1 else 0)), μ)
  | _ => none
section
variable {K : PySem.W.Frag}
theorem pvs1 {W : Wd} {n : Nat} {p : PV} {xs : List V} (h : Pvs K W n [p] xs) : ∃ x, xs = [x] ∧ RPV K W n p x := by
  cases h with
  | cons r t => cases t; exact ⟨_, rfl, r⟩
theorem pvs2 {W : Wd} {n : Nat} {p q : PV} {xs : List V} (h : Pvs K W n [p, q] xs) : ∃ x y, xs = [x, y] ∧ RPV K W n p x ∧ RPV K W n q y := by
  cases h with
  | cons r t => cases t with | cons r' t => cases t; exact ⟨_, _, rfl, r, r'⟩
def rLenA (K : PySem.W.Frag) : List V → Hp → VK → Prop := fun xs H Q => (∃ p ys, xs = [.ref p] ∧ (SqL K H p ys ∨ SqT K H p ys) ∧ Q (.int ys.length) H) ∨ (∃ z, xs = [.str z] ∧ z.length ≤ sizeLine ∧ Q (.int z.length) H)
theorem ac_len : ACa K (rLenA K) fLen := fun W μ xs ps v μ' Q R r h k => by
  unfold fLen at h
  split at h
  · rename_i z
    obtain ⟨x, rfl, rx⟩ := pvs1 r
    obtain rfl := rpv_str rx
    split at h
    · rename_i hc; cases h
      exact .inr ⟨z, rfl, cap_ok hc, k.now R (.int _)⟩
    · cases h
  · obtain ⟨x, rfl, rx⟩ := pvs1 r
    simp only [Option.map_eq_some_iff] at h
    obtain ⟨xs, h1, h2⟩ := h
    cases h2
    obtain ⟨a, vs, rfl, e, r2⟩ := seqOf_ok R rx h1
    refine .inl ⟨a, vs, rfl, e, ?_⟩
    rw [← r2.length]
    exact k.now R (.int _)
  · cases h
theorem ac_abs : ACa K (fun xs H Q => ∃ i, xs = [.int i] ∧ Q (.int (if i < 0 then -i else i)) H) fAbs := fun W μ xs ps v μ' Q R r h k => by
  unfold fAbs at h
  split at h
  · cases h
    obtain ⟨x, rfl, rx⟩ := pvs1 r
    obtain rfl := rpv_int rx
    exact ⟨_, rfl, k.now R (.int _)⟩
  · cases h
def rMaxA (K : PySem.W.Frag) : List V → Hp → VK → Prop := fun xs H Q => (∃ i j, xs = [.int i, .int j] ∧ Q (.int (if j > i then j else i)) H) ∨ rMax K xs H Q
def rMinA (K : PySem.W.Frag) : List V → Hp → VK → Prop := fun xs H Q => (∃ i j, xs = [.int i, .int j] ∧ Q (.int (if j < i then j else i)) H) ∨ rMin K xs H Q
theorem ints_ok {W : Wd} {μ : Sto} {p : PV} {x : V} {xs : List PV} {ns : List Int} (R : Rl K W μ) (r : RPV K W μ.length p x) (h1 : lstOfS μ p = some xs) (h2 : asInts xs = some ns) : ∃ a, x = .ref a ∧ SqL K W.H a (ns.map V.int) := by
  obtain ⟨a, vs, rfl, e, r2⟩ := lstOfS_ok R r h1
  rw [asInts_ok r2 h2] at e
  exact ⟨a, rfl, e⟩
theorem bls_ok {W : Wd} {μ : Sto} {p : PV} {x : V} {xs : List PV} {ns : List Bool} (R : Rl K W μ) (r : RPV K W μ.length p x) (h1 : lstOfS μ p = some xs) (h2 : asBls xs = some ns) : ∃ a, x = .ref a ∧ SqL K W.H a (ns.map V.bl) := by
  obtain ⟨a, vs, rfl, e, r2⟩ := lstOfS_ok R r h1
  rw [asBls_ok r2 h2] at e
  exact ⟨a, rfl, e⟩
theorem ac_max : ACa K (rMaxA K) fMax := fun W μ xs ps v μ' Q R r h k => by
  unfold fMax at h
  split at h
  · cases h
    obtain ⟨x, y, rfl, rx, ry⟩ := pvs2 r
    obtain rfl := rpv_int rx; obtain rfl := rpv_int ry
    exact .inl ⟨_, _, rfl, k.now R (.int _)⟩
  · obtain ⟨x, rfl, rx⟩ := pvs1 r
    simp only [Option.bind_eq_some_iff] at h
    obtain ⟨xs, h1, ns, h2, h3⟩ := h
    split at h3
    · cases h3
    · rename_i hn
      cases h3
      obtain ⟨a, rfl, e⟩ := ints_ok R rx h1 h2
      refine .inr ⟨a, ns, rfl, e, List.length_pos_iff.mpr hn, fun m hm hle => ?_⟩
      have : m = maxI ns := Int.le_antisymm (maxI_ge hm) (hle _ (maxI_mem hn))
      rw [this]
      exact k.now R (.int _)
  · cases h
theorem ac_min : ACa K (rMinA K) fMin := fun W μ xs ps v μ' Q R r h k => by
  unfold fMin at h
  split at h
  · cases h
    obtain ⟨x, y, rfl, rx, ry⟩ := pvs2 r
    obtain rfl := rpv_int rx; obtain rfl := rpv_int ry
    exact .inl ⟨_, _, rfl, k.now R (.int _)⟩
  · obtain ⟨x, rfl, rx⟩ := pvs1 r
    simp only [Option.bind_eq_some_iff] at h
    obtain ⟨xs, h1, ns, h2, h3⟩ := h
    split at h3
    · cases h3
    · rename_i hn
      cases h3
      obtain ⟨a, rfl, e⟩ := ints_ok R rx h1 h2
      refine .inr ⟨a, ns, rfl, e, List.length_pos_iff.mpr hn, fun m hm hle => ?_⟩
      have : m = minI ns := Int.le_antisymm (hle _ (minI_mem hn)) (minI_le hm)
      rw [this]
      exact k.now R (.int _)
  · cases h
theorem ac_sum : ACa K (rSum K) fSum := fun W μ xs ps v μ' Q R r h k => by
  unfold fSum at h
  split at h
  · obtain ⟨x, rfl, rx⟩ := pvs1 r
    simp only [Option.bind_eq_some_iff, Option.map_eq_some_iff] at h
    obtain ⟨xs, h1, ns, h2, h3⟩ := h
    cases h3
    obtain ⟨a, rfl, e⟩ := ints_ok R rx h1 h2
    exact ⟨a, ns, rfl, e, k.now R (.int _)⟩
  · cases h
theorem ac_any : ACa K (rAny K) fAny := fun W μ xs ps v μ' Q R r h k => by
  unfold fAny at h
  split at h
  · obtain ⟨x, rfl, rx⟩ := pvs1 r
    simp only [Option.bind_eq_some_iff, Option.map_eq_some_iff] at h
    obtain ⟨xs, h1, ns, h2, h3⟩ := h
    cases h3
    obtain ⟨a, rfl, e⟩ := bls_ok R rx h1 h2
    exact ⟨a, ns, rfl, e, k.now R (.bl _)⟩
  · cases h
theorem ac_all : ACa K (rAll K) fAll := fun W μ xs ps v μ' Q R r h k => by
  unfold fAll at h
  split at h
  · obtain ⟨x, rfl, rx⟩ := pvs1 r
    simp only [Option.bind_eq_some_iff, Option.map_eq_some_iff] at h
    obtain ⟨xs, h1, ns, h2, h3⟩ := h
    cases h3
    obtain ⟨a, rfl, e⟩ := bls_ok R rx h1 h2
    exact ⟨a, ns, rfl, e, k.now R (.bl _)⟩
  · cases h
theorem ac_sorted (own : Bool) : ACa K (rSortedI K) (fSorted own) := fun W μ xs ps v μ' Q R r h k => by
  unfold fSorted at h
  split at h
  · obtain ⟨x, rfl, rx⟩ := pvs1 r
    simp only [Option.bind_eq_some_iff, Option.map_eq_some_iff] at h
    obtain ⟨xs, h1, ns, h2, h3⟩ := h
    obtain ⟨a, rfl, e⟩ := ints_ok R rx h1 h2
    refine ⟨a, ns, rfl, e, fun ns' p pm st hp => ?_⟩
    rw [isort_uniq pm st]
    exact (mkL_ok R pvsInts h3 k).2 p hp
  · cases h
def rListA (K : PySem.W.Frag) : List V → Hp → VK → Prop := fun xs H Q => ∃ p ys, xs = [.ref p] ∧ (SqL K H p ys ∨ SqT K H p ys) ∧ ∀ l, H l = none → Q (.ref l) (upd H l (.lst ys))
theorem ac_list (own : Bool) : ACa K (rListA K) (fList own) := fun W μ xs ps v μ' Q R r h k => by
  unfold fList at h
  split at h
  · obtain ⟨x, rfl, rx⟩ := pvs1 r
    simp only [Option.bind_eq_some_iff, Option.map_eq_some_iff] at h
    obtain ⟨xs, h1, h2⟩ := h
    obtain ⟨a, vs, rfl, e, r2⟩ := seqOf_ok R rx h1
    exact ⟨a, vs, rfl, e, (mkL_ok R r2 h2 k).2⟩
  · cases h
theorem ac_int : ACa K (fun xs H Q => (∃ i, xs = [.int i] ∧ Q (.int i) H) ∨ ∃ k, xs = [.bl k] ∧ Q (.int (if k then 1 else 0)) H) fInt := fun W μ xs ps v μ' Q R r h k => by
  unfold fInt at h
  split at h
  · cases h
    obtain ⟨x, rfl, rx⟩ := pvs1 r
    obtain rfl := rpv_int rx
    exact .inl ⟨_, rfl, k.now R (.int _)⟩
  · cases h
    obtain ⟨x, rfl, rx⟩ := pvs1 r
    obtain rfl := rpv_bl rx
    exact .inr ⟨_, rfl, k.now R (.int _)⟩
  · cases h
end
section
variable {X : Cx} {e e2 o iter tg : Expr} {es : List Expr} {el : ArF} {ev ev2 eo ei : EvF} {pos p : Pos}
theorem m_len (hg : Gl X "len") (hm : X.mg "len" = none) (h : MA X [e] el) (he : starEach (e :: []) X.env = (false, eval e X.env) :: starEach [] X.env := by rfl) (hpl : (backTo pos (starEach [] X.env)).any (·.1) = false := by rfl) : ME X (.Call (.Name "len" p) [e] [] pos) (eCa fLen el) := m_ca (CallR.or call_len_seq call_len_str) ac_len hg hm PySem.boot_len h (by decide) (by decide) he hpl
theorem m_abs (hg : Gl X "abs") (hm : X.mg "abs" = none) (h : MA X [e] el) (he : starEach (e :: []) X.env = (false, eval e X.env) :: starEach [] X.env := by rfl) (hpl : (backTo pos (starEach [] X.env)).any (·.1) = false := by rfl) : ME X (.Call (.Name "abs" p) [e] [] pos) (eCa fAbs el) := m_ca call_abs ac_abs hg hm (by decide +kernel) h (by decide) (by decide) he hpl
theorem m_max (hc : X.calm = true) (hg : Gl X "max") (hm : X.mg "max" = none) (h : MA X (e :: es) el) (he : starEach (e :: es) X.env = (false, eval e X.env) :: starEach es X.env := by rfl) (hpl : (backTo pos (starEach es X.env)).any (·.1) = false := by rfl) : ME X (.Call (.Name "max" p) (e :: es) [] pos) (eCa fMax el) := m_ca (CallR.or (call_max2 hc) (cr_max hc)) ac_max hg hm (by decide +kernel) h (by decide) (by decide) he hpl
theorem m_min (hc : X.calm = true) (hg : Gl X "min") (hm : X.mg "min" = none) (h : MA X (e :: es) el) (he : starEach (e :: es) X.env = (false, eval e X.env) :: starEach es X.env := by rfl) (hpl : (backTo pos (starEach es X.env)).any (·.1) = false := by rfl) : ME X (.Call (.Name "min" p) (e :: es) [] pos) (eCa fMin el) := m_ca (CallR.or (call_min2 hc) (cr_min hc)) ac_min hg hm (by decide +kernel) h (by decide) (by decide) he hpl
theorem m_sum (hc : X.calm = true) (hg : Gl X "sum") (hm : X.mg "sum" = none) (h : MA X [e] el) (he : starEach (e :: []) X.env = (false, eval e X.env) :: starEach [] X.env := by rfl) (hpl : (backTo pos (starEach [] X.env)).any (·.1) = false := by rfl) : ME X (.Call (.Name "sum" p) [e] [] pos) (eCa fSum el) := m_ca (cr_sum hc) ac_sum hg hm (by decide +kernel) h (by decide) (by decide) he hpl
theorem m_any (hc : X.calm = true) (hg : Gl X "any") (hm : X.mg "any" = none) (h : MA X [e] el) (he : starEach (e :: []) X.env = (false, eval e X.env) :: starEach [] X.env := by rfl) (hpl : (backTo pos (starEach [] X.env)).any (·.1) = false := by rfl) : ME X (.Call (.Name "any" p) [e] [] pos) (eCa fAny el) := m_ca (cr_any hc) ac_any hg hm (by decide +kernel) h (by decide) (by decide) he hpl
theorem m_all (hc : X.calm = true) (hg : Gl X "all") (hm : X.mg "all" = none) (h : MA X [e] el) (he : starEach (e :: []) X.env = (false, eval e X.env) :: starEach [] X.env := by rfl) (hpl : (backTo pos (starEach [] X.env)).any (·.1) = false := by rfl) : ME X (.Call (.Name "all" p) [e] [] pos) (eCa fAll el) := m_ca (cr_all hc) ac_all hg hm (by decide +kernel) h (by decide) (by decide) he hpl
theorem m_sorted (own : Bool) (hg : Gl X "sorted") (hm : X.mg "sorted" = none) (h : MA X [e] el) (he : starEach (e :: []) X.env = (false, eval e X.env) :: starEach [] X.env := by rfl) (hpl : (backTo pos (starEach [] X.env)).any (·.1) = false := by rfl) : ME X (.Call (.Name "sorted" p) [e] [] pos) (eCa (fSorted own) el) := m_ca cr_sortedI (ac_sorted own) hg hm (by decide +kernel) h (by decide) (by decide) he hpl
theorem m_list (own : Bool) (hg : Gl X "list") (hm : X.mg "list" = none) (h : MA X [e] el) (he : starEach (e :: []) X.env = (false, eval e X.env) :: starEach [] X.env := by rfl) (hpl : (backTo pos (starEach [] X.env)).any (·.1) = false := by rfl) : ME X (.Call (.Name "list" p) [e] [] pos) (eCa (fList own) el) := m_caT call_list_of (ac_list own) hg hm (by decide +kernel) h (by decide) (by decide) he hpl
theorem m_toint (hg : Gl X "int") (hm : X.mg "int" = none) (h : MA X [e] el) (he : starEach (e :: []) X.env = (false, eval e X.env) :: starEach [] X.env := by rfl) (hpl : (backTo pos (starEach [] X.env)).any (·.1) = false := by rfl) : ME X (.Call (.Name "int" p) [e] [] pos) (eCa fInt el) := m_caT call_int1 ac_int hg hm (by decide +kernel) h (by decide) (by decide) he hpl
/-! ### slices -/
def cutP {α : Type} (xs : List α) (lo hi : Option Int) : List α := (xs.drop (HT.sIx xs.length 0 lo)).take (HT.sIx xs.length xs.length hi - HT.sIx xs.length 0 lo)
abbrev PoF := Evn → Sto → Option (Option Int × Sto)
@[simp] def poN : PoF := fun _ μ => some (none, μ)
@[simp] def poE (e : EvF) : PoF := fun ε μ => (e ε μ).bind fun x => match x.1 with | .dat (.int i) => some (some i, x.2) | _ => none
@[simp] def fSl (own : Bool) (x : PV) (lo hi : Option Int) (μ : Sto) : Option (PV × Sto) := match x with
  | .dat (.str z) => if z.length ≤ cap then some (.dat (.str (cutS z lo hi)), μ) else none
  | .dat (.tuple ds) => if HT.sIx ds.length 0 lo = 0 ∧ HT.sIx ds.length ds.length hi = ds.length then none else mkT ((cutP ds lo hi).map PV.dat) μ
  | x => (lstOfS μ x).bind fun xs => mkL own (cutP xs lo hi) μ
@[simp] def eSl (own : Bool) (e : EvF) (lo hi : PoF) : EvF := fun ε μ => (e ε μ).bind fun x => (lo ε x.2).bind fun l => (hi ε l.2).bind fun u => fSl own x.1 l.1 u.1 u.2
def AdqO (K : PySem.W.Frag) (tl : TO) (ev : PoF) : Prop := ∀ W σ ε μ b μ' (Q : Option Int → Hp → Prop), Rl K W μ → EnvR K W μ.length σ ε → ev ε μ = some (b, μ') → (∀ W', Rl K W' μ' → Ext W μ.length W' μ'.length → Q b W'.H) → tl σ W.H Q
structure VO (X : Cx) (e : Option Expr) (tl : TO) (ev : PoF) : Prop where
  po : PO X e tl
  ad : AdqO X.K tl ev
def uO (K : PySem.W.Frag) (ev : PoF) : TO := fun σ H Q => ∃ W ε μ v μ', W.H = H ∧ Rl K W μ ∧ EnvR K W μ.length σ ε ∧ ev ε μ = some (v, μ') ∧ (∀ W', Rl K W' μ' → Ext W μ.length W' μ'.length → Q v W'.H)
def MO (X : Cx) (e : Option Expr) (ev : PoF) : Prop := PO X e (uO X.K ev)
theorem o_none : MO X none poN := ⟨fun pins s σ H Q I q => by obtain ⟨W, ε, μ, v, μ', rfl, R, En, h, k⟩ := q; cases h; exact po_none.run pins s σ _ Q I (k W R (Ext.refl _ _))⟩
theorem o_some (h : ME X e ev) : MO X (some e) (poE ev) := ⟨fun pins s σ H Q I q => by
  obtain ⟨W, ε, μ, v, μ', rfl, R, En, q, k⟩ := q
  unfold poE at q
  simp only [Option.bind_eq_some_iff] at q
  obtain ⟨⟨x, μ1⟩, h1, h2⟩ := q
  refine (po_some h).run pins s σ _ Q I (adqU W σ ε μ x μ1 _ R En h1 fun vx W1 R1 E1 r1 => ?_)
  split at h2
  · rename_i i e
    simp only [] at e h2
    subst e
    obtain rfl := rpv_int r1
    cases h2
    exact ⟨i, rfl, k W1 R1 E1⟩
  · cases h2⟩
def rSlA (K : PySem.W.Frag) : V → Option Int → Option Int → Hp → VK → Prop := fun x lo hi H Q => rSlS x lo hi H Q ∨ rSlT K x lo hi H Q ∨ rSlL K x lo hi H Q
theorem sl_any : SlR X (rSlA X.K) := fun pins s σ H x v vl vu lo hi sl Q I rx hs pl pu h => by
  rcases h with h | h | h
  · exact sl_str pins s σ H x v vl vu lo hi sl Q I rx hs pl pu h
  · exact sl_tup pins s σ H x v vl vu lo hi sl Q I rx hs pl pu h
  · exact sl_list pins s σ H x v vl vu lo hi sl Q I rx hs pl pu h
theorem cut_pvs {K : PySem.W.Frag} {W : Wd} {n : Nat} {xs : List PV} {vs : List V} (h : Pvs K W n xs vs) (lo hi : Option Int) : Pvs K W n (cutP xs lo hi) (cutV vs lo hi) := by
  unfold cutP cutV
  rw [h.length]
  exact (h.drop _).take _
theorem as_sl {K : PySem.W.Frag} (own : Bool) : ∀ W μ x px lo hi v μ' Q, Rl K W μ → RPV K W μ.length px x → fSl own px lo hi μ = some (v, μ') → Kont K W μ.length μ' v Q → rSlA K x lo hi W.H Q := fun W μ x px lo hi v μ' Q R rx h k => by
  unfold fSl at h
  split at h
  · rename_i z
    obtain rfl := rpv_str rx
    split at h
    · rename_i hc; cases h
      exact .inl ⟨z, rfl, cap_ok hc, k.now R (.str _)⟩
    · cases h
  · rename_i ds
    split at h
    · cases h
    · rename_i hc
      cases rx with
      | tup e a =>
        have r2 := DtAll.pvs (K := K) (n := μ.length) a
        have hl := r2.length
        rw [List.length_map] at hl
        have r3 := cut_pvs r2 lo hi
        have e3 : cutP (ds.map PV.dat) lo hi = (cutP ds lo hi).map PV.dat := by unfold cutP; simp
        rw [e3] at r3
        refine .inr (.inl ⟨_, _, rfl, SqT.of (R.sub _ _ e), by rw [← hl]; exact hc, (mkT_ok R r3 h k).2⟩)
  · simp only [Option.bind_eq_some_iff] at h
    obtain ⟨xs, h1, h2⟩ := h
    obtain ⟨a, vs, rfl, e, r2⟩ := lstOfS_ok R rx h1
    exact .inr (.inr ⟨a, vs, rfl, e, (mkL_ok R (cut_pvs r2 lo hi) h2 k).2⟩)
theorem m_slice {lo hi : Option Expr} {fl fh : PoF} {p2 : Pos} (own : Bool) (he : ME X e ev) (hl : MO X lo fl) (hu : MO X hi fh) : ME X (.Subscript e (.Slice lo hi none p2) pos) (eSl own ev fl fh) :=
  VE.m ⟨pe_slice sl_any he hl hu, fun W σ ε μ v μ' Q R En q k => by
    unfold eSl at q
    simp only [Option.bind_eq_some_iff] at q
    obtain ⟨⟨x, μ1⟩, h1, ⟨l, μ2⟩, h2, ⟨u, μ3⟩, h3, h4⟩ := q
    refine adqU W σ ε μ x μ1 _ R En h1 fun vx W1 R1 E1 r1 => ?_
    refine ⟨W1, ε, μ1, l, μ2, rfl, R1, En.mono E1, h2, fun W2 R2 E2 => ?_⟩
    refine ⟨W2, ε, μ2, u, μ3, rfl, R2, (En.mono E1).mono E2, h3, fun W3 R3 E3 => ?_⟩
    exact as_sl own W3 μ3 vx x l u v μ' Q R3 ((r1.mono E2).mono E3) h4 (k.ext ((E1.trans E2).trans E3))⟩
/-- xs[::-1] -/
@[simp] def fRevL (own : Bool) (x : PV) (μ : Sto) : Option (PV × Sto) := (lstOfS μ x).bind fun xs => mkL own xs.reverse μ
@[simp] def eRevL (own : Bool) (e : EvF) : EvF := fun ε μ => (e ε μ).bind fun x => fRevL own x.1 x.2
theorem m_rev {k : Nat} {p1 p2 p3 : Pos} (own : Bool) (he : ME X e ev) : ME X (.Subscript e (.Slice none none (some (.UnaryOp .USub (.Constant (.int 1) k p1) p2)) p3) pos) (eRevL own ev) :=
  VE.m ⟨pe_revL he, fun W σ ε μ v μ' Q R En q kk => by
    unfold eRevL fRevL at q
    simp only [Option.bind_eq_some_iff] at q
    obtain ⟨⟨x, μ1⟩, h1, xs, h2, h3⟩ := q
    refine adqU W σ ε μ x μ1 _ R En h1 fun vx W1 R1 E1 r1 => ?_
    obtain ⟨a, vs, rfl, e, r2⟩ := lstOfS_ok R1 r1 h2
    exact ⟨a, vs, rfl, e, (mkL_ok R1 (Pvs.reverse r2) h3 (kk.ext E1)).2⟩⟩
/-! ### methods of lists -/
@[simp] def eLM (f : PV → List PV → Sto → Option (PV × Sto)) (o : EvF) (el : ArF) : EvF := fun ε μ => (o ε μ).bind fun x => if (lstOf x.2 x.1).isSome = true then (el ε x.2).bind fun y => f x.1 y.1 y.2 else none
def AMt (K : PySem.W.Frag) (r : V → List V → Hp → VK → Prop) (f : PV → List PV → Sto → Option (PV × Sto)) : Prop := ∀ W μ x px xs ps v μ' Q, Rl K W μ → RPV K W μ.length px x → Pvs K W μ.length ps xs → f px ps μ = some (v, μ') → Kont K W μ.length μ' v Q → r x xs W.H Q
theorem adq_LM {K : PySem.W.Frag} {r : V → List V → Hp → VK → Prop} {f : PV → List PV → Sto → Option (PV × Sto)} {to : TE} {tl : TA} (ho : Adq K to eo) (hl : AdqA K tl el) (hr : AMt K r f) : Adq K (tBM K "list" r to tl) (eLM f eo el) := fun W σ ε μ v μ' Q R En q k => by
  unfold eLM at q
  simp only [Option.bind_eq_some_iff] at q
  obtain ⟨⟨x, μ1⟩, h1, h2⟩ := q
  refine ho W σ ε μ x μ1 _ R En h1 fun vx W1 R1 E1 r1 => ?_
  simp only [] at h2
  split at h2
  · rename_i hs
    obtain ⟨xs, hx⟩ := Option.isSome_iff_exists.mp hs
    obtain ⟨a, vs, rfl, e, r2⟩ := lstOf_ok R1 r1 hx
    simp only [Option.bind_eq_some_iff] at h2
    obtain ⟨⟨ys, μ2⟩, h3, h4⟩ := h2
    refine ⟨.inl ⟨rfl, vs, SqL.of e⟩, hl W1 σ ε μ1 ys μ2 _ R1 (En.mono E1) h3 fun ws W2 R2 E2 r3 => ?_⟩
    exact hr W2 μ2 _ x ws ys v μ' Q R2 (r1.mono E2) r3 h4 (k.ext (E1.trans E2))
  · cases h2
@[simp] def fApp : PV → List PV → Sto → Option (PV × Sto) := fun x ys μ => match x, ys with
  | .ptr k, [v] => match μ[k]? with
    | some (.lst xs) => if xs.length < cap then some (.dat .none, μ.set k (.lst (xs ++ [v]))) else none
    | _ => none
  | _, _ => none
@[simp] def fPopAt : PV → List PV → Sto → Option (PV × Sto) := fun x ys μ => match x, ys with
  | .ptr k, [.dat (.int i)] => match μ[k]? with
    | some (.lst xs) => if inIx i = true then (seqIndex? i xs.length).bind fun j => xs[j]?.map fun y => (y, μ.set k (.lst (xs.eraseIdx j))) else none
    | _ => none
  | _, _ => none
section
variable {K : PySem.W.Frag}
theorem am_app : AMt K rAppend fApp := fun W μ x px xs ps v μ' Q R rx rs h k => by
  unfold fApp at h
  split at h
  · rename_i kk w
    split at h
    · rename_i ys hk
      split at h
      · rename_i hc
        cases h
        obtain ⟨y, rfl, ry⟩ := pvs1 rs
        obtain ⟨vs, e, r2⟩ := R.ob kk _ hk
        obtain ⟨lk, rfl⟩ := rx
        obtain ⟨R', E'⟩ := R.put (u := .lst (ys ++ [w])) (ho := .lst (vs ++ [y])) hk (by simp) (by simp) ⟨_, rfl, r2.append (.cons ry .nil)⟩
        exact ⟨_, vs, y, rfl, rfl, e, by rw [← r2.length]; exact cap_lt hc, k .non _ R' E' .non⟩
      · cases h
    · cases h
  · cases h
theorem am_popAt : AMt K rPopAt fPopAt := fun W μ x px xs ps v μ' Q R rx rs h k => by
  unfold fPopAt at h
  split at h
  · rename_i kk i
    split at h
    · rename_i ys hk
      split at h
      · rename_i hc
        simp only [Option.bind_eq_some_iff, Option.map_eq_some_iff] at h
        obtain ⟨j, h1, y, h2, h3⟩ := h
        cases h3
        obtain ⟨y', rfl, ry⟩ := pvs1 rs
        obtain rfl := rpv_int ry
        obtain ⟨vs, e, r2⟩ := R.ob kk _ hk
        obtain ⟨lk, rfl⟩ := rx
        obtain ⟨w, h4, h5⟩ := r2.get h2
        obtain ⟨R', E'⟩ := R.put (u := .lst (ys.eraseIdx j)) (ho := .lst (vs.eraseIdx j)) hk (by simp) (by simp) ⟨_, rfl, r2.eraseIdx j⟩
        exact ⟨_, vs, i, j, w, rfl, rfl, e, (inIx_ok hc).1, (inIx_ok hc).2, by rw [← r2.length]; exact h1, h4, k w _ R' E' (h5.mono E')⟩
      · cases h
    · cases h
  · cases h
end
theorem m_app {apos cpos : Pos} (ho : ME X o eo) (ha : MA X [e] el) (hbase : attributeBase o "append" X.env (eval o X.env) = eval o X.env := by rfl)
    (hfew : ((backTo cpos (starEach (e :: []) X.env)).all (fun x => !x.1) && (backToKw cpos (keywordEach [] X.env)).all (fun x => x.1.isSome) && decide ((e :: []).length + ([] : List Keyword).length + (if ([] : List Keyword).isEmpty then 0 else 1) < 30)) = true := by rfl)
    (hline : (apos.endLine == cpos.line) = true := by rfl) (hs : starEach (e :: []) X.env = (false, eval e X.env) :: starEach [] X.env := by rfl) (hplain : (backTo cpos (starEach [] X.env)).any (·.1) = false := by rfl) : ME X (.Call (.Attribute o "append" apos) [e] [] cpos) (eLM fApp eo el) :=
  VE.m ⟨pe_bm PySem.F.plainAttrs_list PySem.F.slot_list_append PySem.F.type_list_append mt_append ho ha hbase hfew hline hs hplain, adq_LM adqU adqUA am_app⟩
theorem m_popAt {apos cpos : Pos} (ho : ME X o eo) (ha : MA X [e] el) (hbase : attributeBase o "pop" X.env (eval o X.env) = eval o X.env := by rfl)
    (hfew : ((backTo cpos (starEach (e :: []) X.env)).all (fun x => !x.1) && (backToKw cpos (keywordEach [] X.env)).all (fun x => x.1.isSome) && decide ((e :: []).length + ([] : List Keyword).length + (if ([] : List Keyword).isEmpty then 0 else 1) < 30)) = true := by rfl)
    (hline : (apos.endLine == cpos.line) = true := by rfl) (hs : starEach (e :: []) X.env = (false, eval e X.env) :: starEach [] X.env := by rfl) (hplain : (backTo cpos (starEach [] X.env)).any (·.1) = false := by rfl) : ME X (.Call (.Attribute o "pop" apos) [e] [] cpos) (eLM fPopAt eo el) :=
  VE.m ⟨pe_bm PySem.F.plainAttrs_list PySem.F.slot_list_pop PySem.F.type_list_pop mt_popAt ho ha hbase hfew hline hs hplain, adq_LM adqU adqUA am_popAt⟩
/-! ### o[i] = v of an owned list -/
@[simp] def tgSub (o i : EvF) : TgF := fun v ε μ => (o ε μ).bind fun x => (i ε x.2).bind fun y => match x.1, y.1 with
  | .ptr k, .dat (.int j) => (match y.2[k]? with
    | some (.lst xs) => (ixN xs.length j).map fun m => (ε, y.2.set k (.lst (xs.set m v)))
    | _ => none)
  | _, _ => none
theorem adq_gSub {K : PySem.W.Frag} {to ti : TE} (ho : Adq K to eo) (hi : Adq K ti ei) : AdqG K (gSub to ti rSetL) (tgSub eo ei) := fun W σ ε μ v x ε' μ' Q R En r h k => by
  unfold tgSub at h
  simp only [Option.bind_eq_some_iff] at h
  obtain ⟨⟨a, μ1⟩, h1, ⟨b, μ2⟩, h2, h3⟩ := h
  refine ho W σ ε μ a μ1 _ R En h1 fun va W1 R1 E1 r1 => ?_
  refine hi W1 σ ε μ1 b μ2 _ R1 (En.mono E1) h2 fun vb W2 R2 E2 r2 => ?_
  simp only [] at h3
  split at h3
  · rename_i kk j
    obtain rfl := rpv_int r2
    split at h3
    · rename_i xs hk
      simp only [Option.map_eq_some_iff] at h3
      obtain ⟨m, h4, h5⟩ := h3
      cases h5
      obtain ⟨vs, e, r3⟩ := R2.ob kk _ hk
      obtain ⟨lk, ea⟩ := r1.mono E2
      have rx := (r.mono E1).mono E2
      obtain ⟨R', E'⟩ := R2.put (u := .lst (xs.set m v)) (ho := .lst (vs.set m x)) hk (by simp) (by simp) ⟨_, rfl, r3.set rx m⟩
      exact ⟨_, vs, j, m, ea, rfl, e, by rw [← r3.length]; exact h4, k _ σ R' ((E1.trans E2).trans E') (((En.mono E1).mono E2).mono E')⟩
    · cases h3
  · cases h3
theorem g_sub {i : Expr} (ho : ME X o eo) (hi : ME X i ei) (ha : ∀ v, assign (.Subscript o i pos) X.env v = (do let ov ← holding [v] (eval o X.env); let iv ← holding [v, ov] (eval i X.env); standAt pos; holding [v, ov, iv] (setItem ov iv v); release [v, ov, iv] []) := by intro _; rfl) : MG X (.Subscript o i pos) (tgSub eo ei) :=
  VG.m ⟨pg_sub ho hi set_list ha, adq_gSub adqU adqU⟩
end
end VX
namespace VX
open PySem PySem.Spec PyProof.Rows L2

/-! ### what a loop walks -/
section
variable {K : PySem.W.Frag} {W0 : Wd} {n0 : Nat}
theorem pvs_getI {W : Wd} {n : Nat} {ps : List PV} {vs : List V} {i : Nat} {p : PV} {x : V} (h : Pvs K W n ps vs) (e : ps[i]? = some p) (e' : vs[i]? = some x) : RPV K W n p x := by
  obtain ⟨v, h1, h2⟩ := h.get e
  rw [h1] at e'; cases e'; exact h2
theorem gives_sq {a : Addr} {ps : List PV} {ok : Option Nat} (h : ∀ W μ, Rl K W μ → Ext W0 n0 W μ.length → Grd ps μ ok → ∃ vs, SqL K W.H a vs ∧ Pvs K W μ.length ps vs) : Gives K (Itl K a) ps ok W0 n0 := fun W μ R E G => by
  obtain ⟨vs, hs, r⟩ := h W μ R E G
  refine ⟨fun i p e => ?_, vs, hs, by rw [r.length]; exact Nat.le_refl _⟩
  obtain ⟨v, h1, h2⟩ := r.get e
  refine ⟨⟨vs, v, hs, h1⟩, ?_⟩
  rintro x H' ⟨rfl, f⟩
  have := f vs hs
  rw [h1] at this; cases this
  exact ⟨W, rfl, R, Ext.refl _ _, h2⟩
theorem gives_tq {a : Addr} {ps : List PV} {ok : Option Nat} (h : ∀ W μ, Rl K W μ → Ext W0 n0 W μ.length → Grd ps μ ok → ∃ vs, SqT K W.H a vs ∧ Pvs K W μ.length ps vs) : Gives K (Itt K a) ps ok W0 n0 := fun W μ R E G => by
  obtain ⟨vs, hs, r⟩ := h W μ R E G
  refine ⟨fun i p e => ?_, vs, hs, by rw [r.length]; exact Nat.le_refl _⟩
  obtain ⟨v, h1, h2⟩ := r.get e
  refine ⟨⟨vs, v, hs, h1⟩, ?_⟩
  rintro x H' ⟨rfl, f⟩
  have := f vs hs
  rw [h1] at this; cases this
  exact ⟨W, rfl, R, Ext.refl _ _, h2⟩
theorem gives_st {z : Str} : Gives K (Its z) (z.cps.toList.map fun c => PV.dat (.str ⟨#[c]⟩)) none W0 n0 := fun W μ R E G => by
  refine ⟨fun i p e => ?_, by simp [Its]⟩
  rw [List.getElem?_map] at e
  cases q : z.cps.toList[i]? with
  | none => rw [q] at e; cases e
  | some c =>
    rw [q] at e; cases e
    have hq : z.cps[i]? = some c := by simpa using q
    refine ⟨(Array.getElem?_eq_some_iff.mp hq).1, ?_⟩
    rintro x H' ⟨rfl, c', h1, rfl⟩
    rw [hq] at h1; cases h1
    exact ⟨W, rfl, R, Ext.refl _ _, .str _⟩
theorem gives_rg {lo : Int} {m : Nat} : Gives K (Itr lo m) ((List.range m).map fun i => PV.dat (.int (lo + (i : Nat)))) none W0 n0 := fun W μ R E G => by
  refine ⟨fun i p e => ?_, by simp [Itr]⟩
  rw [List.getElem?_map] at e
  cases q : (List.range m)[i]? with
  | none => rw [q] at e; cases e
  | some c =>
    rw [q] at e; cases e
    have hi : i < m := by simpa using (List.getElem?_eq_some_iff.mp q).1
    have : c = i := by rw [List.getElem?_range hi] at q; cases q; rfl
    subst this
    refine ⟨hi, ?_⟩
    rintro x H' ⟨rfl, rfl⟩
    exact ⟨W, rfl, R, Ext.refl _ _, .int _⟩
theorem gives_rc {lo c : Int} {m : Nat} : Gives K (Itc lo c m) ((List.range m).map fun i => PV.dat (.int (lo + (i : Nat) * c))) none W0 n0 := fun W μ R E G => by
  refine ⟨fun i p e => ?_, by simp [Itc]⟩
  rw [List.getElem?_map] at e
  cases q : (List.range m)[i]? with
  | none => rw [q] at e; cases e
  | some c =>
    rw [q] at e; cases e
    have hi : i < m := by simpa using (List.getElem?_eq_some_iff.mp q).1
    have : c = i := by rw [List.getElem?_range hi] at q; cases q; rfl
    subst this
    refine ⟨hi, ?_⟩
    rintro x H' ⟨rfl, rfl⟩
    exact ⟨W, rfl, R, Ext.refl _ _, .int _⟩
/-- pairs with the turn's number -/
def enumD (ds : List PyData) : List PyData := ds.zipIdx.map fun p => .tuple [.int (p.2 : Nat), p.1]
theorem gives_en {a : Addr} {ds : List PyData} {ok : Option Nat} (h : ∀ W μ, Rl K W μ → Ext W0 n0 W μ.length → Grd ((enumD ds).map PV.dat) μ ok → ∃ vs, SqL K W.H a vs ∧ Pvs K W μ.length (ds.map PV.dat) vs) : Gives K (Ite K a) ((enumD ds).map PV.dat) ok W0 n0 := fun W μ R E G => by
  obtain ⟨vs, hs, r⟩ := h W μ R E G
  have hl := r.length
  simp only [List.length_map] at hl
  refine ⟨fun i p e => ?_, vs, hs, by simp [enumD]; omega⟩
  unfold enumD at e
  rw [List.getElem?_map, List.getElem?_map, List.getElem?_zipIdx] at e
  cases q : ds[i]? with
  | none => rw [q] at e; cases e
  | some d =>
    rw [q] at e; cases e
    obtain ⟨v, h1, h2⟩ := r.get (show (ds.map PV.dat)[i]? = some (PV.dat d) by rw [List.getElem?_map, q]; rfl)
    refine ⟨⟨vs, v, hs, h1⟩, ?_⟩
    rintro x H' ⟨T, y, rfl, hT, rfl, f⟩
    have := f vs hs
    rw [h1] at this; cases this
    obtain ⟨R', E'⟩ := R.imm (o := .tup [.int (i : Nat), v]) hT
    refine ⟨_, rfl, R', E', .tup upd_same (.cons ?_ (.cons (h2.mono E') .nil))⟩
    simp only [Nat.zero_add]
    exact .int _
theorem gives_zp {a b : Addr} {ds es : List PyData} (h : ∀ W μ, Rl K W μ → Ext W0 n0 W μ.length → ∃ vs ws, SqL K W.H a vs ∧ SqL K W.H b ws ∧ Pvs K W μ.length (ds.map PV.dat) vs ∧ Pvs K W μ.length (es.map PV.dat) ws) :
    Gives K (Itz K a b) ((ds.zip es).map fun p => PV.dat (.tuple [p.1, p.2])) none W0 n0 := fun W μ R E G => by
  obtain ⟨vs, ws, hs, hs', r, r'⟩ := h W μ R E
  have hl := r.length
  have hl' := r'.length
  simp only [List.length_map] at hl hl'
  refine ⟨fun i p e => ?_, vs, ws, hs, hs', by simp; omega⟩
  rw [List.getElem?_map] at e
  cases q : (ds.zip es)[i]? with
  | none => rw [q] at e; cases e
  | some d =>
    rw [q] at e; cases e
    rw [List.getElem?_zip_eq_some] at q
    obtain ⟨v, h1, h2⟩ := r.get (show (ds.map PV.dat)[i]? = some (PV.dat d.1) by rw [List.getElem?_map, q.1]; rfl)
    obtain ⟨w, h3, h4⟩ := r'.get (show (es.map PV.dat)[i]? = some (PV.dat d.2) by rw [List.getElem?_map, q.2]; rfl)
    refine ⟨⟨vs, ws, v, w, hs, hs', h1, h3⟩, ?_⟩
    rintro x H' ⟨T, y, z, rfl, hT, rfl, f, g⟩
    have e1 := f vs hs
    rw [h1] at e1; cases e1
    have e2 := g ws hs'
    rw [h3] at e2; cases e2
    obtain ⟨R', E'⟩ := R.imm (o := .tup [v, w]) hT
    exact ⟨_, rfl, R', E', .tup upd_same (.cons (h2.mono E') (.cons (h4.mono E') .nil))⟩
theorem gives_rv {a : Addr} {ps : List PV} (h : ∀ W μ, Rl K W μ → Ext W0 n0 W μ.length → ∃ vs, SqL K W.H a vs ∧ Pvs K W μ.length ps vs) : Gives K (Itv K a ps.length) ps.reverse none W0 n0 := fun W μ R E G => by
  obtain ⟨vs, hs, r⟩ := h W μ R E
  have hl := r.length
  refine ⟨fun i p e => ?_, by simp [Itv]⟩
  have hi : i < ps.length := by simpa using (List.getElem?_eq_some_iff.mp e).1
  rw [List.getElem?_reverse hi] at e
  obtain ⟨v, h1, h2⟩ := r.get e
  refine ⟨⟨hi, vs, v, hs, h1⟩, ?_⟩
  rintro x H' ⟨rfl, f⟩
  have := f vs hs
  rw [h1] at this; cases this
  exact ⟨W, rfl, R, Ext.refl _ _, h2⟩
end

/-! the sources -/
@[simp] def srcSeq (e : EvF) : SrF := fun ε μ => (e ε μ).bind fun x => match x.1 with
  | .dat (.str z) => some ((z.cps.toList.map fun c => PV.dat (.str ⟨#[c]⟩), none), x.2)
  | .dat (.list ds) => some ((ds.map PV.dat, none), x.2)
  | .dat (.tuple ds) => some ((ds.map PV.dat, none), x.2)
  | .scr ns => some ((ns.map fun n => PV.dat (.int n), none), x.2)
  | .ptr k => (match x.2[k]? with | some (.lst xs) => some ((xs, some k), x.2) | _ => none)
  | _ => none
def inRg : Int → Bool := inB 4611686018427387903
theorem inRg_ok {j : Int} (h : inRg j = true) : -(2 ^ 62) ≤ j ∧ j < 2 ^ 62 := by
  rw [p62]
  exact inB_iff.mp h
theorem inRg_int {j : Int} (h : -100000 ≤ j) (h' : j ≤ 100000) : inRg j = true := inB_iff.mpr ⟨Int.le_trans (by decide) h, Int.lt_of_le_of_lt h' (by decide)⟩
@[simp] theorem inRg_nat {n : Nat} (h : n ≤ 100000) : inRg (n : Int) = true := inRg_int (by omega) (by omega)
@[simp] theorem inRg_o : inRg 1 = true := inRg_int (by decide) (by decide)
@[simp] theorem inRg_z : inRg 0 = true := inRg_int (by decide) (by decide)
@[simp] def srcR1 (e : ArF) : SrF := fun ε μ => (e ε μ).bind fun x => match x.1 with
  | [.dat (.int j)] => if inRg j = true then some (((List.range j.toNat).map fun i => PV.dat (.int (i : Nat)), none), x.2) else none
  | _ => none
@[simp] def srcR2 (e : ArF) : SrF := fun ε μ => (e ε μ).bind fun x => match x.1 with
  | [.dat (.int i), .dat (.int j)] => if (inRg i && inRg j) = true then some (((List.range (j - i).toNat).map fun m => PV.dat (.int (i + (m : Nat))), none), x.2) else none
  | _ => none
@[simp] def srcEn (e : ArF) : SrF := fun ε μ => (e ε μ).bind fun x => match x.1 with
  | [p] => (lstOf x.2 p).bind fun xs => (asDats xs).bind fun ds => (match p with | .dat _ => some (((enumD ds).map PV.dat, none), x.2) | _ => none)
  | _ => none
@[simp] def srcZp (e : ArF) : SrF := fun ε μ => (e ε μ).bind fun x => match x.1 with
  | [.dat (.list ds), .dat (.list es)] => some (((ds.zip es).map fun p => PV.dat (.tuple [p.1, p.2]), none), x.2)
  | _ => none
@[simp] def srcRv (e : ArF) : SrF := fun ε μ => (e ε μ).bind fun x => match x.1 with
  | [.dat (.list ds)] => some (((ds.map PV.dat).reverse, none), x.2)
  | _ => none
section
variable {X : Cx} {e e2 o iter tg : Expr} {es : List Expr} {el : ArF} {ev ev2 eo ei : EvF} {pos p tpos : Pos} {elts : List Expr} {kk : Nat}
theorem pi_seq {te : TE} (h : PE X e te) : PI X tg e (fun σ H R => iStr te σ H R ∨ iList X.K te σ H R ∨ iTup X.K te σ H R) := ⟨fun pins s σ H R I q => by
  rcases q with q | q | q
  · exact (pi_str h).run pins s σ H R I q
  · exact (pi_list h).run pins s σ H R I q
  · exact (pi_tup h).run pins s σ H R I q⟩
theorem i_seq (h : ME X e ev) : MI X tg e (srcSeq ev) := VI.m ⟨pi_seq h, fun W σ ε μ items ok μ' Rr R En q k => by
  unfold srcSeq at q
  simp only [Option.bind_eq_some_iff] at q
  obtain ⟨⟨x, μ1⟩, h1, h2⟩ := q
  simp only [] at h2
  split at h2
  · cases h2
    exact .inl (adqU W σ ε μ _ _ _ R En h1 fun vx W1 R1 E1 r1 => ⟨_, rpv_str r1, k W1 _ R1 E1 gives_st⟩)
  · cases h2
    refine .inr (.inl (adqU W σ ε μ _ _ _ R En h1 fun vx W1 R1 E1 r1 => ?_))
    cases r1 with
    | lst e a => exact ⟨_, rfl, ⟨_, SqL.of (R1.sub _ _ e)⟩, k W1 _ R1 E1 (gives_sq fun W2 μ2 R2 E2 _ => ⟨_, SqL.of (R2.sub _ _ (E2.im _ _ e)), Pvs.mono E2 (DtAll.pvs a)⟩)⟩
  · cases h2
    refine .inr (.inr (adqU W σ ε μ _ _ _ R En h1 fun vx W1 R1 E1 r1 => ?_))
    cases r1 with
    | tup e a => exact ⟨_, rfl, ⟨_, SqT.of (R1.sub _ _ e)⟩, k W1 _ R1 E1 (gives_tq fun W2 μ2 R2 E2 _ => ⟨_, SqT.of (R2.sub _ _ (E2.im _ _ e)), Pvs.mono E2 (DtAll.pvs a)⟩)⟩
  · cases h2
    refine .inr (.inl (adqU W σ ε μ _ _ _ R En h1 fun vx W1 R1 E1 r1 => ?_))
    obtain ⟨a, rfl, e⟩ := r1
    exact ⟨_, rfl, ⟨_, R1.sub.seq e⟩, k W1 _ R1 E1 (gives_sq fun W2 μ2 R2 E2 _ => ⟨_, R2.sub.seq (E2.im.seq e), pvsInts⟩)⟩
  · rename_i kk
    split at h2
    · rename_i xs hk
      cases h2
      refine .inr (.inl (adqU W σ ε μ _ _ _ R En h1 fun vx W1 R1 E1 r1 => ?_))
      obtain ⟨lk, rfl⟩ := r1
      obtain ⟨vs, e, r⟩ := R1.ob kk _ hk
      refine ⟨_, rfl, ⟨vs, SqL.of e⟩, k W1 _ R1 E1 (gives_sq fun W2 μ2 R2 E2 G => ?_)⟩
      obtain ⟨ws, e2, r2⟩ := R2.ob kk _ G
      rw [E2.io kk lk] at e2
      exact ⟨ws, SqL.of e2, r2⟩
    · cases h2
  · cases h2⟩
theorem i_range1 (hg : Gl X "range") (hm : X.mg "range" = none) (ha : MA X [e] el) (hs : starEach [e] X.env = [(false, eval e X.env)] := by rfl) : MI X tg (.Call (.Name "range" p) [e] [] pos) (srcR1 el) :=
  VI.m ⟨pi_range1 hg hm ha hs, fun W σ ε μ items ok μ' Rr R En q k => by
    unfold srcR1 at q
    simp only [Option.bind_eq_some_iff] at q
    obtain ⟨⟨x, μ1⟩, h1, h2⟩ := q
    refine adqUA W σ ε μ _ μ1 _ R En h1 fun vx W1 R1 E1 r1 => ?_
    simp only [] at h2
    split at h2
    · rename_i j
      split at h2
      · rename_i hj
        cases h2
        obtain ⟨y, rfl, ry⟩ := pvs1 r1
        obtain rfl := rpv_int ry
        have hj := inRg_ok hj
        refine ⟨j, rfl, hj.1, hj.2, k W1 _ R1 E1 ?_⟩
        have := gives_rg (K := X.K) (W0 := W1) (n0 := μ'.length) (lo := 0) (m := j.toNat)
        simpa using this
      · cases h2
    · cases h2⟩
theorem i_range2 (hg : Gl X "range") (hm : X.mg "range" = none) (ha : MA X [e, e2] el) (hs : starEach [e, e2] X.env = [(false, eval e X.env), (false, eval e2 X.env)] := by rfl) (hs2 : starEach [e2] X.env = [(false, eval e2 X.env)] := by rfl) : MI X tg (.Call (.Name "range" p) [e, e2] [] pos) (srcR2 el) :=
  VI.m ⟨pi_range2 hg hm ha hs hs2, fun W σ ε μ items ok μ' Rr R En q k => by
    unfold srcR2 at q
    simp only [Option.bind_eq_some_iff] at q
    obtain ⟨⟨x, μ1⟩, h1, h2⟩ := q
    refine adqUA W σ ε μ _ μ1 _ R En h1 fun vx W1 R1 E1 r1 => ?_
    simp only [] at h2
    split at h2
    · rename_i i j
      split at h2
      · rename_i hj
        cases h2
        obtain ⟨y, z, rfl, ry, rz⟩ := pvs2 r1
        obtain rfl := rpv_int ry
        obtain rfl := rpv_int rz
        rw [Bool.and_eq_true] at hj
        have h1 := inRg_ok hj.1
        have h2 := inRg_ok hj.2
        exact ⟨i, j, rfl, ⟨h1.1, h1.2, h2.1, h2.2⟩, k W1 _ R1 E1 gives_rg⟩
      · cases h2
    · cases h2⟩
theorem i_enum (hg : Gl X "enumerate") (hm : X.mg "enumerate" = none) (ha : MA X [e] el) (hs : starEach [e] X.env = [(false, eval e X.env)] := by rfl) : MI X (.Tuple elts kk tpos) (.Call (.Name "enumerate" p) [e] [] pos) (srcEn el) :=
  VI.m ⟨pi_enum hg hm ha hs, fun W σ ε μ items ok μ' Rr R En q k => by
    unfold srcEn at q
    simp only [Option.bind_eq_some_iff] at q
    obtain ⟨⟨x, μ1⟩, h1, h2⟩ := q
    refine adqUA W σ ε μ _ μ1 _ R En h1 fun vx W1 R1 E1 r1 => ?_
    simp only [] at h2
    split at h2
    · simp only [Option.bind_eq_some_iff] at h2
      obtain ⟨xs, h3, ds, h4, h5⟩ := h2
      obtain ⟨y, rfl, ry⟩ := pvs1 r1
      split at h5
      · rename_i d
        cases h5
        rw [asDats_eq h4] at h3
        cases d with
        | list es =>
          simp only [lstOf, Option.some.injEq] at h3
          have : es = ds := by
            have := congrArg asDats h3
            rw [asDats_map, asDats_map] at this
            exact Option.some.inj this
          subst this
          cases ry with
          | lst e a => exact ⟨_, _, rfl, SqL.of (R1.sub _ _ e), k W1 _ R1 E1 (gives_en fun W2 μ2 R2 E2 _ => ⟨_, SqL.of (R2.sub _ _ (E2.im _ _ e)), Pvs.mono E2 (DtAll.pvs a)⟩)⟩
        | _ => cases h3
      · cases h5
    · cases h2⟩
theorem i_zip (hg : Gl X "zip") (hm : X.mg "zip" = none) (ha : MA X [e, e2] el) (hs : starEach [e, e2] X.env = (false, eval e X.env) :: starEach [e2] X.env := by rfl) (hpl : (backTo pos (starEach [e2] X.env)).any (·.1) = false := by rfl) : MI X (.Tuple elts kk tpos) (.Call (.Name "zip" p) [e, e2] [] pos) (srcZp el) :=
  VI.m ⟨pi_zip hg hm ha hs hpl, fun W σ ε μ items ok μ' Rr R En q k => by
    unfold srcZp at q
    simp only [Option.bind_eq_some_iff] at q
    obtain ⟨⟨x, μ1⟩, h1, h2⟩ := q
    refine adqUA W σ ε μ _ μ1 _ R En h1 fun vx W1 R1 E1 r1 => ?_
    simp only [] at h2
    split at h2
    · cases h2
      obtain ⟨y, z, rfl, ry, rz⟩ := pvs2 r1
      cases ry with
      | lst e a => cases rz with
        | lst e' a' => exact ⟨_, _, _, _, rfl, SqL.of (R1.sub _ _ e), SqL.of (R1.sub _ _ e'), k W1 _ R1 E1 (gives_zp fun W2 μ2 R2 E2 => ⟨_, _, SqL.of (R2.sub _ _ (E2.im _ _ e)), SqL.of (R2.sub _ _ (E2.im _ _ e')), Pvs.mono E2 (DtAll.pvs a), Pvs.mono E2 (DtAll.pvs a')⟩)⟩
    · cases h2⟩
theorem i_rev (hg : Gl X "reversed") (hm : X.mg "reversed" = none) (ha : MA X [e] el) (hs : starEach [e] X.env = [(false, eval e X.env)] := by rfl) : MI X tg (.Call (.Name "reversed" p) [e] [] pos) (srcRv el) :=
  VI.m ⟨pi_reversed hg hm ha hs, fun W σ ε μ items ok μ' Rr R En q k => by
    unfold srcRv at q
    simp only [Option.bind_eq_some_iff] at q
    obtain ⟨⟨x, μ1⟩, h1, h2⟩ := q
    refine adqUA W σ ε μ _ μ1 _ R En h1 fun vx W1 R1 E1 r1 => ?_
    simp only [] at h2
    split at h2
    · cases h2
      obtain ⟨y, rfl, ry⟩ := pvs1 r1
      cases ry with
      | lst e a =>
        have hl := Pvs.length (DtAll.pvs (K := X.K) (W := W1) (n := μ'.length) a)
        refine ⟨_, _, rfl, SqL.of (R1.sub _ _ e), k W1 _ R1 E1 ?_⟩
        rw [← hl]
        exact gives_rv fun W2 μ2 R2 E2 => ⟨_, SqL.of (R2.sub _ _ (E2.im _ _ e)), Pvs.mono E2 (DtAll.pvs a)⟩
    · cases h2⟩

/-! ### freezing -/
@[simp] def eFrz (e : EvF) : EvF := fun ε μ => (e ε μ).bind fun x => match x.1 with
  | .ptr k => (match x.2[k]? with | some (.lst xs) => (asDats xs).map fun ds => (.dat (.list ds), x.2.set k .gone) | _ => none)
  | v => some (v, x.2)
theorem m_frz (h : ME X e ev) : ME X e (eFrz ev) := VE.m ⟨h, fun W σ ε μ v μ' Q R En q k => by
  unfold eFrz at q
  simp only [Option.bind_eq_some_iff] at q
  obtain ⟨⟨x, μ1⟩, h1, h2⟩ := q
  refine adqU W σ ε μ x μ1 _ R En h1 fun vx W1 R1 E1 r1 => ?_
  simp only [] at h2
  split at h2
  · rename_i kk
    split at h2
    · rename_i xs hk
      simp only [Option.map_eq_some_iff] at h2
      obtain ⟨ds, h3, h4⟩ := h2
      cases h4
      rw [asDats_eq h3] at hk
      obtain ⟨W2, e2, R2, E2, d2⟩ := R1.freeze hk
      rw [← e2]
      exact k _ W2 R2 (E1.trans E2) (by rw [r1.2]; exact d2)
    · cases h2
  · cases h2
    exact k vx W1 R1 E1 r1⟩
@[simp] def frzS (i : Nat) (ε : Evn) (μ : Sto) : Option (Evn × Sto) := match ε[i]? with
  | some (some (.ptr k)) => (match μ[k]? with | some (.lst xs) => (asDats xs).map fun ds => (ε.set i (some (.dat (.list ds))), μ.set k .gone) | _ => none)
  | _ => none
@[simp] def sFrz (i : Nat) (rn : RnF) : RnF := fun ε μ => (frzS i ε μ).bind fun y => rn y.1 y.2
theorem ss_frz {sts : List Stmt} {rn : RnF} (i : Nat) (h : MSs X sts rn) : MSs X sts (sFrz i rn) := VSs.m ⟨h, fun W σ ε μ out D R En q k => by
  unfold sFrz at q
  simp only [Option.bind_eq_some_iff] at q
  obtain ⟨⟨ε1, μ1⟩, h1, h2⟩ := q
  unfold frzS at h1
  split at h1
  · rename_i kk hi
    split at h1
    · rename_i xs hk
      simp only [Option.map_eq_some_iff] at h1
      obtain ⟨ds, h3, h4⟩ := h1
      cases h4
      rw [asDats_eq h3] at hk
      obtain ⟨x, hx, rx⟩ := En.get i _ hi
      obtain ⟨W2, e2, R2, E2, d2⟩ := R.freeze hk
      rw [← e2]
      refine adqUS W2 σ _ _ out D R2 ?_ h2 (k.ext E2)
      have en := (En.mono E2).set i (p := .dat (.list ds)) (x := x) (by rw [rx.2]; exact d2)
      have : σ.set i (some x) = σ := by
        refine List.ext_getElem? fun j => ?_
        by_cases hj : i = j
        · subst hj; rw [List.getElem?_set_self (List.getElem?_eq_some_iff.mp hx).1, hx]
        · rw [List.getElem?_set_ne hj]
      rw [this] at en
      exact en
    · cases h1
  · cases h1⟩

/-! ### a, b = e1, e2 -/
@[simp] def sPar (i j : Nat) (el : ArF) : RnF := fun ε μ => (el ε μ).bind fun x => match x.1 with
  | [v, w] => some (.nx ((ε.set i (some v)).set j (some w)) x.2)
  | _ => none
theorem s_par {i j : Nat} {x y : Str} {a b : Expr} {px py pt : Pos} {kt k2 pt2} (hc : X.calm = true) (hN : X.N.Nodup) (hi : X.N[i]? = some x) (hj : X.N[j]? = some y) (hij : i ≠ j) (hx : X.env.scope.names.lookup x = some .local) (hy : X.env.scope.names.lookup y = some .local) (ha : MA X [a, b] el)
    (hw : swappedStores [.Tuple [.Name x px, .Name y py] kt pt] (.Tuple [a, b] k2 pt2) X.env = pure (some [x, y])) (hs : swapsWithSole [.Tuple [.Name x px, .Name y py] kt pt] (.Tuple [a, b] k2 pt2) pos.line X.env = pure false := by rfl) :
    MS X (.Assign [.Tuple [.Name x px, .Name y py] kt pt] (.Tuple [a, b] k2 pt2) pos) (sPar i j el) := VS.m ⟨ps_par hc hN hi hj hij hx hy ha hw hs, fun W σ ε μ out D R En q k => by
  unfold sPar at q
  simp only [Option.bind_eq_some_iff] at q
  obtain ⟨⟨xs, μ1⟩, h1, h2⟩ := q
  refine adqUA W σ ε μ xs μ1 _ R En h1 fun vs W1 R1 E1 r1 => ?_
  simp only [] at h2
  split at h2
  · cases h2
    obtain ⟨v, w, rfl, rv, rw'⟩ := pvs2 r1
    exact ⟨v, w, rfl, k W1 _ R1 E1 (((En.mono E1).set i rv).set j rw')⟩
  · cases h2⟩
/-- the general form: the pair is made, then taken apart -/
@[simp] def sAsgT (n : Nat) (el : ArF) (gfs : List PV → Evn → Sto → Option (Evn × Sto)) : RnF := fun ε μ => (el ε μ).bind fun x => if x.1.length = n ∧ n ≤ cap then (gfs x.1 ε x.2).bind fun y => some (.nx y.1 y.2) else none
theorem s_asgT {ts : List Expr} {kt k2 : Nat} {pt pt2 : Pos} {n : Nat} {gfs : List PV → Evn → Sto → Option (Evn × Sto)} (hc : X.calm = true) (ha : MA X es el) (hg : MGs X ts gfs) (hn : (assignEach ts X.env).length = n := by rfl) (hst : (assignEach ts X.env).findIdx? (·.1) = none := by rfl)
    (hs : swapsWithSole [.Tuple ts kt pt] (.Tuple es k2 pt2) pos.line X.env = pure false := by rfl) (hw : swappedStores [.Tuple ts kt pt] (.Tuple es k2 pt2) X.env = pure none := by rfl) (h1 : (assignEach [.Tuple ts kt pt] X.env).map (·.2) = [assign (.Tuple ts kt pt) X.env] := by rfl) :
    MS X (.Assign [.Tuple ts kt pt] (.Tuple es k2 pt2) pos) (sAsgT n el gfs) := VS.m ⟨ps_asg (pe_tup ha) (pg_tup hc hg hn hst) hs hw h1, fun W σ ε μ out D R En q k => by
  unfold sAsgT at q
  simp only [Option.bind_eq_some_iff] at q
  obtain ⟨⟨xs, μ1⟩, h1, h2⟩ := q
  refine adqUA W σ ε μ xs μ1 _ R En h1 fun vs W1 R1 E1 r1 => ?_
  simp only [] at h2
  split at h2
  · rename_i hl
    have hlen := r1.length
    simp only [Option.bind_eq_some_iff] at h2
    obtain ⟨⟨ε2, μ2⟩, h3, h4⟩ := h2
    cases h4
    refine ⟨cap_ok (by omega), fun p hp => ?_⟩
    obtain ⟨R2, E2⟩ := R1.junk (o := .tup vs) hp
    refine ⟨p, vs, rfl, SqT.of upd_same, by omega, ?_⟩
    exact adqUGs _ σ ε μ1 xs vs ε2 μ2 _ R2 ((En.mono E1).mono E2) (Pvs.mono E2 r1) h3 fun W3 σ3 R3 E3 En3 => k W3 σ3 R3 ((E1.trans E2).trans E3) En3
  · cases h2⟩

/-! ### x op= e -/
@[simp] def sAugI (i : Nat) (g : Int → Int → Int) (e : EvF) : RnF := fun ε μ => match ε[i]? with
  | some (some (.dat (.int a))) => (e ε μ).bind fun y => (match y.1 with | .dat (.int b) => some (.nx (ε.set i (some (.dat (.int (g a b))))) y.2) | _ => none)
  | _ => none
theorem s_augI {i : Nat} {x : Str} {op : Operator} {g : Int → Int → Int} {pos' : Pos} (hN : X.N.Nodup) (hi : X.N[i]? = some x) (hx : Loc X.env.scope x) (he : ME X e ev) (ho : PIp X op (ipI g)) (hf : X.fn x = true ∨ X.env.scope.names.lookup x = some .local := by first | exact .inl rfl | exact .inr rfl | assumption) :
    MS X (.AugAssign (.Name x pos') op e pos) (sAugI i g ev) := VS.m ⟨ps_aug hN hi hx he ho hf, fun W σ ε μ out D R En q k => by
  unfold sAugI at q
  split at q
  · rename_i a hi
    obtain ⟨x, h1, h2⟩ := En.get i _ hi
    obtain rfl := rpv_int h2
    simp only [Option.bind_eq_some_iff] at q
    obtain ⟨⟨y, μ1⟩, h3, h4⟩ := q
    refine ⟨_, h1, adqU W σ ε μ y μ1 _ R En h3 fun vx W1 R1 E1 r1 => ?_⟩
    simp only [] at h4
    split at h4
    · cases h4
      obtain rfl := rpv_int r1
      exact ⟨a, _, rfl, rfl, k W1 _ R1 E1 ((En.mono E1).set i (.int _))⟩
    · cases h4
  · cases q⟩
end
end VX
namespace VX
open PySem PySem.Spec PyProof.Rows L2

/-! ### a, b, c = e1, e2, e3 with plain local names: the stores go from the right -/
section
variable {X : Cx} {pos : Pos}
def tPar3 (i j l : Nat) (ta : TA) : TS := fun D σ H => ta σ H fun vs H1 => ∃ u v w, vs = [u, v, w] ∧ D.nx (((σ.set i (some u)).set j (some v)).set l (some w)) H1
theorem ps_par3 {i j l : Nat} {x y z : Str} {a b c : Expr} {ta : TA} {px py pz pt : Pos} {kt k2 pt2} (hc : X.calm = true) (hN : X.N.Nodup) (hi : X.N[i]? = some x) (hj : X.N[j]? = some y) (hl : X.N[l]? = some z) (h1 : i ≠ j) (h2 : i ≠ l) (h3 : j ≠ l)
    (hx : X.env.scope.names.lookup x = some .local) (hy : X.env.scope.names.lookup y = some .local) (hz : X.env.scope.names.lookup z = some .local) (ha : PA X [a, b, c] ta)
    (hw : swappedStores [.Tuple [.Name x px, .Name y py, .Name z pz] kt pt] (.Tuple [a, b, c] k2 pt2) X.env = pure (some [x, y, z])) (hs : swapsWithSole [.Tuple [.Name x px, .Name y py, .Name z pz] kt pt] (.Tuple [a, b, c] k2 pt2) pos.line X.env = pure false := by rfl) :
    PS X (.Assign [.Tuple [.Name x px, .Name y py, .Name z pz] kt pt] (.Tuple [a, b, c] k2 pt2) pos) (tPar3 i j l ta) := by
  constructor
  intro pins s σ H D I h
  rw [exec_Assign_arm]
  apply wpAny_bind
  apply wpAny_standAt
  rw [hs]
  apply wpAny_bind
  apply wpAny_pure
  rw [if_neg (by simp)]
  apply wpAny_bind
  refine Tuple_ (thn (ha.run _ pins s σ H _ I h) fun us s1 hus => ?_)
  obtain ⟨vs, H1, I1, r1, u, v, w, evs, q1⟩ := hus
  subst evs
  obtain ⟨u1, us1, rfl, ru, r2⟩ : ∃ u1 us1, us = u1 :: us1 ∧ RelV u u1 ∧ Vals [v, w] us1 := by
    cases r1 with
    | cons p q => exact ⟨_, _, rfl, p, q⟩
  obtain ⟨u2, u3, rfl, rv, rw'⟩ := Vals.two r2
  refine wpAny_newObj_type ?_ (by show 3 ≤ sizeLine; decide)
  have I2 : Inv X pins σ H1 { s1 with heap := s1.heap.push { cls := .type "tuple", data := .seq [u1, u2, u3].toArray } } := I1.kept (t' := s1.toks) fun b o e => Heap.get?_push_of_some _ e
  rw [hw]
  apply wpAny_bind
  apply wpAny_pure
  show wpAny (model X.prog X.w) X.A (do rule "assign.swapped-stores"; let items ← unpackItems (.ref s1.heap.objs.size) 3 none; assignInOrder [fun v => bindName X.env z v, fun v => bindName X.env y v, fun v => bindName X.env x v] items.reverse; pure Flow.next) _ _ _
  apply wpAny_bind
  apply wpAny_rule
  apply wpAny_bind
  refine unpackItems_tuple (items := #[u1, u2, u3]) (I.ok.hd hc) (IsTup.new s1.heap _) fun h' hx' => ?_
  have I3 := I2.kept (h' := h') (t' := s1.toks) fun b o e => hx' b o (Nat.ne_of_lt (Heap.lt_size e)) e
  show wpAny _ _ (assignInOrder [fun v => bindName X.env z v, fun v => bindName X.env y v, fun v => bindName X.env x v] [u3, u2, u1] >>= fun _ => pure Flow.next) _ _ _
  apply wpAny_bind
  refine assignInOrder_cons (wpAny_bindName (store_ok I3 hN hl (.inl hz) rw' (fun s2 I4 => ?_) (.inr hz)))
  refine assignInOrder_cons (wpAny_bindName (store_ok I4 hN hj (.inl hy) rv (fun s3 I5 => ?_) (.inr hy)))
  refine assignInOrder_cons (wpAny_bindName (store_ok I5 hN hi (.inl hx) ru (fun s4 I6 => assignInOrder_nil (wpAny_pure ?_)) (.inr hx)))
  rw [List.set_comm _ _ h3.symm, List.set_comm _ _ h2.symm, List.set_comm _ _ h1.symm] at I6
  exact ⟨_, H1, I6, q1⟩
@[simp] def sPar3 (i j l : Nat) (el : ArF) : RnF := fun ε μ => (el ε μ).bind fun x => match x.1 with
  | [u, v, w] => some (.nx (((ε.set i (some u)).set j (some v)).set l (some w)) x.2)
  | _ => none
theorem pvs3 {K : PySem.W.Frag} {W : Wd} {n : Nat} {p q r : PV} {xs : List V} (h : Pvs K W n [p, q, r] xs) : ∃ x y z, xs = [x, y, z] ∧ RPV K W n p x ∧ RPV K W n q y ∧ RPV K W n r z := by
  cases h with
  | cons r t => obtain ⟨y, z, rfl, h1, h2⟩ := pvs2 t; exact ⟨_, _, _, rfl, r, h1, h2⟩
theorem s_par3 {i j l : Nat} {x y z : Str} {a b c : Expr} {el : ArF} {px py pz pt : Pos} {kt k2 pt2} (hc : X.calm = true) (hN : X.N.Nodup) (hi : X.N[i]? = some x) (hj : X.N[j]? = some y) (hl : X.N[l]? = some z) (h1 : i ≠ j) (h2 : i ≠ l) (h3 : j ≠ l)
    (hx : X.env.scope.names.lookup x = some .local) (hy : X.env.scope.names.lookup y = some .local) (hz : X.env.scope.names.lookup z = some .local) (ha : MA X [a, b, c] el)
    (hw : swappedStores [.Tuple [.Name x px, .Name y py, .Name z pz] kt pt] (.Tuple [a, b, c] k2 pt2) X.env = pure (some [x, y, z])) (hs : swapsWithSole [.Tuple [.Name x px, .Name y py, .Name z pz] kt pt] (.Tuple [a, b, c] k2 pt2) pos.line X.env = pure false := by rfl) :
    MS X (.Assign [.Tuple [.Name x px, .Name y py, .Name z pz] kt pt] (.Tuple [a, b, c] k2 pt2) pos) (sPar3 i j l el) := VS.m ⟨ps_par3 hc hN hi hj hl h1 h2 h3 hx hy hz ha hw hs, fun W σ ε μ out D R En q k => by
  unfold sPar3 at q
  simp only [Option.bind_eq_some_iff] at q
  obtain ⟨⟨xs, μ1⟩, h1, h2⟩ := q
  refine adqUA W σ ε μ xs μ1 _ R En h1 fun vs W1 R1 E1 r1 => ?_
  simp only [] at h2
  split at h2
  · cases h2
    obtain ⟨u, v, w, rfl, ru, rv, rw'⟩ := pvs3 r1
    exact ⟨u, v, w, rfl, k W1 _ R1 E1 ((((En.mono E1).set i ru).set j rv).set l rw')⟩
  · cases h2⟩
end

/-! ### dicts with keys that are ints and texts -/
section
variable {κ : Type} [DecidableEq κ]
def valP (kvs : List (κ × PV)) (k : κ) : Option PV := match kvs with
  | [] => none
  | p :: r => if p.1 = k then some p.2 else valP r k
def putP (kvs : List (κ × PV)) (k : κ) (v : PV) : List (κ × PV) := match kvs with
  | [] => [(k, v)]
  | p :: r => if p.1 = k then (k, v) :: r else p :: putP r k v
end
@[simp] def keyP : PV → Option Key
  | .dat (.int i) => some (.inl i)
  | .dat (.str z) => some (.inr z)
  | _ => none
section
variable {K : PySem.W.Frag} {W : Wd} {n : Nat}
theorem valP_ok {kvs : List (Key × PV)} {kws : List (Key × V)} {k : Key} (h : Kvs K W n kvs kws) : (valP kvs k = none → valV kws k = none) ∧ ∀ p, valP kvs k = some p → ∃ v, valV kws k = some v ∧ RPV K W n p v := by
  induction h with
  | nil => exact ⟨fun _ => rfl, fun p e => by cases e⟩
  | @cons a b _ _ r t ih =>
    unfold valP
    by_cases e : a.1 = k
    · rw [if_pos e, valV_pos (by rw [← r.1]; exact e)]
      exact ⟨fun z => (by cases z), fun p z => (by cases z; exact ⟨_, rfl, r.2⟩)⟩
    · rw [if_neg e, valV_neg (by rw [← r.1]; exact e)]
      exact ih
/-- every key once -/
def NdK {α : Type} (kvs : List (Key × α)) : Prop := (kvs.map (·.1)).Nodup
theorem keys_kvs {kvs : List (Key × PV)} {kws : List (Key × V)} (h : Kvs K W n kvs kws) : kvs.map (·.1) = kws.map (·.1) := by
  induction h with
  | nil => rfl
  | cons r t ih => simp only [List.map_cons, r.1, ih]
theorem putV_cons {p : Key × V} {r : List (Key × V)} {k : Key} {v : V} (nd : NdK (p :: r)) : putK (p :: r) k v = if p.1 = k then (k, v) :: r else p :: putK r k v := by
  unfold NdK at nd
  simp only [List.map_cons, List.nodup_cons] at nd
  unfold putK
  by_cases e : p.1 = k
  · simp only [List.any_cons, e, decide_true, Bool.true_or, if_true, List.map_cons]
    congr 1
    rw [← e] at *
    have : ∀ q ∈ r, ¬ q.1 = p.1 := fun q hq z => nd.1 (List.mem_map.mpr ⟨q, hq, z⟩)
    conv => rhs; rw [← List.map_id r]
    exact List.map_congr_left fun q hq => by rw [if_neg (this q hq)]; rfl
  · simp only [List.any_cons, e, decide_false, Bool.false_or, if_false, List.map_cons]
    split
    · rfl
    · rfl
theorem putP_ok {k : Key} {p : PV} {v : V} (r : RPV K W n p v) : ∀ {kvs : List (Key × PV)} {kws : List (Key × V)}, Kvs K W n kvs kws → NdK kvs → Kvs K W n (putP kvs k p) (putK kws k v)
  | [], _, .nil, _ => .cons ⟨rfl, r⟩ .nil
  | a :: as, b :: bs, .cons q t, nd => by
    have nd' : NdK (b :: bs) := by
      unfold NdK at nd ⊢
      rw [← keys_kvs (K := K) (W := W) (n := n) (.cons q t)]; exact nd
    rw [putV_cons nd']
    unfold putP
    by_cases e : a.1 = k
    · rw [if_pos e, if_pos (by rw [← q.1]; exact e)]
      exact .cons ⟨rfl, r⟩ t
    · rw [if_neg e, if_neg (by rw [← q.1]; exact e)]
      refine .cons q (putP_ok r t ?_)
      unfold NdK at nd ⊢
      exact (List.nodup_cons.mp nd).2
end
theorem keys_put {k : Key} {p : PV} : ∀ kvs : List (Key × PV), (putP kvs k p).map (·.1) = kvs.map (·.1) ∨ ((putP kvs k p).map (·.1) = kvs.map (·.1) ++ [k] ∧ k ∉ kvs.map (·.1))
  | [] => .inr ⟨rfl, by simp⟩
  | a :: as => by
    unfold putP
    by_cases e : a.1 = k
    · rw [if_pos e]; exact .inl (by simp [e])
    · rw [if_neg e]
      rcases keys_put (k := k) (p := p) as with h | ⟨h, h'⟩
      · exact .inl (by simp only [List.map_cons, h])
      · refine .inr ⟨by simp only [List.map_cons, h, List.cons_append], fun z => ?_⟩
        simp only [List.map_cons, List.mem_cons] at z
        rcases z with z | z
        · exact e z.symm
        · exact h' z
theorem ndK_put {k : Key} {p : PV} {kvs : List (Key × PV)} (h : NdK kvs) : NdK (putP kvs k p) := by
  unfold NdK at h ⊢
  rcases keys_put (k := k) (p := p) kvs with e | ⟨e, hk⟩
  · rw [e]; exact h
  · rw [e, List.nodup_append]
    refine ⟨h, by simp, fun a ha b hb => ?_⟩
    simp only [List.mem_singleton] at hb
    subst hb
    intro z; subst z; exact hk ha
def ndB (kvs : List (Key × PV)) : Bool := decide ((kvs.map (·.1)).Nodup)
@[simp] def dicOf (μ : Sto) : PV → Option (Nat × List (Key × PV))
  | .ptr k => match μ[k]? with | some (.dic kvs) => some (k, kvs) | _ => none
  | _ => none
@[simp] def eDGet (o i : EvF) : EvF := fun ε μ => (o ε μ).bind fun x => (i ε x.2).bind fun y => (dicOf y.2 x.1).bind fun d => (keyP y.1).bind fun k => (valP d.2 k).map fun v => (v, y.2)
@[simp] def eDIn (neg : Bool) (i o : EvF) : EvF := fun ε μ => (i ε μ).bind fun y => (o ε y.2).bind fun x => (dicOf x.2 x.1).bind fun d => (keyP y.1).map fun k => (.dat (.bool (if neg then !(valP d.2 k).isSome else (valP d.2 k).isSome)), x.2)
@[simp] def sDPut (o i v : EvF) : RnF := fun ε μ => (v ε μ).bind fun z => (o ε z.2).bind fun x => (i ε x.2).bind fun y => (dicOf y.2 x.1).bind fun d => (keyP y.1).bind fun k =>
  if d.2.length < cap ∧ ndB d.2 = true then some (.nx ε (y.2.set d.1 (.dic (putP d.2 k z.1)))) else none
theorem dicOf_ok {K : PySem.W.Frag} {W : Wd} {μ : Sto} {p : PV} {x : V} {d : Nat × List (Key × PV)} (R : Rl K W μ) (r : RPV K W μ.length p x) (h : dicOf μ p = some d) : x = .ref (W.at' d.1) ∧ μ[d.1]? = some (.dic d.2) ∧ ∃ kws, W.H (W.at' d.1) = some (.dK kws) ∧ Kvs K W μ.length d.2 kws := by
  unfold dicOf at h
  split at h
  · rename_i k
    split at h
    · rename_i kvs hk
      cases h
      obtain ⟨kws, e, r2⟩ := R.ob k _ hk
      exact ⟨r.2, hk, kws, e, r2⟩
    · cases h
  · cases h
theorem keyP_ok {K : PySem.W.Frag} {W : Wd} {n : Nat} {p : PV} {x : V} {k : Key} (r : RPV K W n p x) (h : keyP p = some k) : x = kV k := by
  unfold keyP at h
  split at h
  · cases h; exact rpv_int r
  · cases h; exact rpv_str r
  · cases h
section
variable {X : Cx} {e e2 o i iter tg v : Expr} {es : List Expr} {el : ArF} {ev ev2 eo ei : EvF} {pos p tpos : Pos} {elts : List Expr} {kk : Nat}
theorem valP_get {K : PySem.W.Frag} {W : Wd} {n : Nat} {kvs : List (Key × PV)} {kws : List (Key × V)} {k : Key} (h : Kvs K W n kvs kws) : (valP kvs k).isSome = (valV kws k).isSome := by
  obtain ⟨h1, h2⟩ := valP_ok (k := k) h
  cases q : valP kvs k with
  | none => rw [h1 q]; rfl
  | some p => obtain ⟨v, e, _⟩ := h2 p q; rw [e]; rfl
theorem m_dget (hu : X.A.units + 65 < cLine) (ho : ME X o eo) (hi : ME X i ei) (hs : NoSl i := by intro _ _; rfl) : ME X (.Subscript o i pos) (eDGet eo ei) :=
  VE.m ⟨pe_dget (by omega) ho hi hs, fun W σ ε μ v μ' Q R En q k => by
    unfold eDGet at q
    simp only [Option.bind_eq_some_iff, Option.map_eq_some_iff] at q
    obtain ⟨⟨x, μ1⟩, h1, ⟨y, μ2⟩, h2, d, h3, kk, h4, w, h5, h6⟩ := q
    cases h6
    refine adqU W σ ε μ x μ1 _ R En h1 fun vx W1 R1 E1 r1 => ?_
    refine adqU W1 σ ε μ1 y μ2 _ R1 (En.mono E1) h2 fun vy W2 R2 E2 r2 => ?_
    obtain ⟨rfl, hk, kws, e, rk⟩ := dicOf_ok R2 (r1.mono E2) h3
    obtain rfl := keyP_ok r2 h4
    obtain ⟨u, e1, ru⟩ := (valP_ok rk).2 _ h5
    refine ⟨_, u, rfl, ?_, k u W2 R2 (E1.trans E2) ru⟩
    rw [← e1]
    exact DGet.k e⟩
theorem adq_din {K : PySem.W.Frag} : Adq K (tDIn (uE K ei) (uE K eo)) (eDIn false ei eo) := fun W σ ε μ v μ' Q R En q k => by
  unfold eDIn at q
  simp only [Option.bind_eq_some_iff, Option.map_eq_some_iff] at q
  obtain ⟨⟨y, μ1⟩, h1, ⟨x, μ2⟩, h2, d, h3, kk, h4, h5⟩ := q
  cases h5
  refine adqU W σ ε μ y μ1 _ R En h1 fun vy W1 R1 E1 r1 => ?_
  refine adqU W1 σ ε μ1 x μ2 _ R1 (En.mono E1) h2 fun vx W2 R2 E2 r2 => ?_
  obtain ⟨rfl, hk, kws, e, rk⟩ := dicOf_ok R2 r2 h3
  obtain rfl := keyP_ok (r1.mono E2) h4
  refine ⟨_, _, rfl, DGet.k e, ?_⟩
  rw [← valP_get rk]
  exact k _ W2 R2 (E1.trans E2) (.bl _)
theorem adq_dnotin {K : PySem.W.Frag} : Adq K (tDNotIn (uE K ei) (uE K eo)) (eDIn true ei eo) := fun W σ ε μ v μ' Q R En q k => by
  unfold eDIn at q
  simp only [Option.bind_eq_some_iff, Option.map_eq_some_iff] at q
  obtain ⟨⟨y, μ1⟩, h1, ⟨x, μ2⟩, h2, d, h3, kk, h4, h5⟩ := q
  cases h5
  refine adqU W σ ε μ y μ1 _ R En h1 fun vy W1 R1 E1 r1 => ?_
  refine adqU W1 σ ε μ1 x μ2 _ R1 (En.mono E1) h2 fun vx W2 R2 E2 r2 => ?_
  obtain ⟨rfl, hk, kws, e, rk⟩ := dicOf_ok R2 r2 h3
  obtain rfl := keyP_ok (r1.mono E2) h4
  refine ⟨_, _, rfl, DGet.k e, ?_⟩
  rw [← valP_get rk]
  exact k _ W2 R2 (E1.trans E2) (.bl _)
theorem m_din (hu : X.A.units + 65 < cLine) (hi : ME X i ei) (ho : ME X o eo) (h1 : behindInMarks .In o = false := by rfl) : ME X (.Compare i [.In] [o] pos) (eDIn false ei eo) := VE.m ⟨pe_cmp (pc_din (by omega) hi ho) h1, adq_din⟩
theorem m_dnotin (hu : X.A.units + 65 < cLine) (hi : ME X i ei) (ho : ME X o eo) (h1 : behindInMarks .NotIn o = false := by rfl) : ME X (.Compare i [.NotIn] [o] pos) (eDIn true ei eo) := VE.m ⟨pe_cmp (pc_dnotin (by omega) hi ho) h1, adq_dnotin⟩
theorem s_dput {pos' : Pos} (hu : X.A.units + 65 < cLine) (ho : ME X o eo) (hi : ME X i ei) (hv : ME X v ev) (hs : swapsWith v (some (.Subscript o i pos')) pos.line X.env = pure false := by rfl) : MS X (.Assign [.Subscript o i pos'] v pos) (sDPut eo ei ev) :=
  VS.m ⟨ps_dput (by omega) ho hi hv hs, fun W σ ε μ out D R En q k => by
    unfold sDPut at q
    simp only [Option.bind_eq_some_iff] at q
    obtain ⟨⟨z, μ1⟩, h1, ⟨x, μ2⟩, h2, ⟨y, μ3⟩, h3, d, h4, kk, h5, h6⟩ := q
    refine adqU W σ ε μ z μ1 _ R En h1 fun vz W1 R1 E1 r1 => ?_
    refine adqU W1 σ ε μ1 x μ2 _ R1 (En.mono E1) h2 fun vx W2 R2 E2 r2 => ?_
    refine adqU W2 σ ε μ2 y μ3 _ R2 ((En.mono E1).mono E2) h3 fun vy W3 R3 E3 r3 => ?_
    obtain ⟨rfl, hk, kws, e, rk⟩ := dicOf_ok R3 (r2.mono E3) h4
    obtain rfl := keyP_ok r3 h5
    simp only [] at h6
    split at h6
    · rename_i hc
      cases h6
      have rz := (r1.mono E2).mono E3
      have nd : (d.2.map (·.1)).Nodup := of_decide_eq_true hc.2
      obtain ⟨R4, E4⟩ := R3.put (u := .dic (putP d.2 kk z)) (ho := .dK (putK kws kk vz)) hk (by simp) (by simp) ⟨_, rfl, putP_ok rz rk nd⟩
      have hl : d.2.length = kws.length := Paired.length rk
      exact ⟨_, _, rfl, DPut.k e (by rw [← hl]; exact cap_lt hc.1), k _ σ R4 (((E1.trans E2).trans E3).trans E4) ((((En.mono E1).mono E2).mono E3).mono E4)⟩
    · cases h6⟩
/-! {k: v, ..} -/
abbrev PrF := Evn → Sto → Option (List (PV × PV) × Sto)
@[simp] def prNil : PrF := fun _ μ => some ([], μ)
@[simp] def prCons (a b : EvF) (r : PrF) : PrF := fun ε μ => (a ε μ).bind fun x => (b ε x.2).bind fun y => (r ε y.2).bind fun z => some ((x.1, y.1) :: z.1, z.2)
@[simp] def keysP : List (PV × PV) → Option (List (Key × PV))
  | [] => some []
  | (a, b) :: r => (keyP a).bind fun k => (keysP r).map fun t => (k, b) :: t
def mergeP (kvs more : List (Key × PV)) : List (Key × PV) := more.foldl (fun acc kv => putP acc kv.1 kv.2) kvs
@[simp] def eDic (pr : PrF) : EvF := fun ε μ => (pr ε μ).bind fun x => (keysP x.1).bind fun kvs => if kvs.length ≤ 15 then some (.ptr x.2.length, x.2 ++ [.dic (mergeP [] kvs)]) else none
abbrev PPvs (K : PySem.W.Frag) (W : Wd) (n : Nat) : List (PV × PV) → List (V × V) → Prop := Paired fun p q => RPV K W n p.1 q.1 ∧ RPV K W n p.2 q.2
def AdqP (K : PySem.W.Frag) (trs : List (TE × TE)) (pr : PrF) : Prop := ∀ W σ ε μ ps μ' (Q : List (V × V) → Hp → Prop), Rl K W μ → EnvR K W μ.length σ ε → pr ε μ = some (ps, μ') → (∀ qs W', Rl K W' μ' → Ext W μ.length W' μ'.length → PPvs K W' μ'.length ps qs → Q qs W'.H) → tPairs trs σ W.H Q
structure MP (X : Cx) (pos : Pos) (ks : List (Option Expr)) (vs : List Expr) (pr : PrF) : Prop where
  ex : ∃ trs, PPs X pos ks vs trs ∧ AdqP X.K trs pr
theorem p_nil : MP X pos [] [] prNil := ⟨[], pps_nil, fun W σ ε μ ps μ' Q R En q k => by cases q; exact k [] W R (Ext.refl _ _) .nil⟩
theorem p_cons {k v : Expr} {ks : List (Option Expr)} {vs : List Expr} {ek ev : EvF} {pr : PrF} (hk : ME X k ek) (hv : ME X v ev) (hr : MP X pos ks vs pr) : MP X pos (some k :: ks) (v :: vs) (prCons ek ev pr) := by
  obtain ⟨trs, h1, h2⟩ := hr
  refine ⟨_, pps_cons hk hv h1, fun W σ ε μ ps μ' Q R En q kk => ?_⟩
  unfold prCons at q
  simp only [Option.bind_eq_some_iff] at q
  obtain ⟨⟨x, μ1⟩, q1, ⟨y, μ2⟩, q2, ⟨z, μ3⟩, q3, q4⟩ := q
  cases q4
  refine adqU W σ ε μ x μ1 _ R En q1 fun vx W1 R1 E1 r1 => ?_
  refine adqU W1 σ ε μ1 y μ2 _ R1 (En.mono E1) q2 fun vy W2 R2 E2 r2 => ?_
  exact h2 W2 σ ε μ2 z _ _ R2 ((En.mono E1).mono E2) q3 fun qs W3 R3 E3 r3 => kk _ W3 R3 ((E1.trans E2).trans E3) (.cons ⟨(r1.mono E2).mono E3, r2.mono E3⟩ r3)
theorem keysP_ok {K : PySem.W.Frag} {W : Wd} {n : Nat} : ∀ {ps : List (PV × PV)} {qs : List (V × V)} {kvs : List (Key × PV)}, PPvs K W n ps qs → keysP ps = some kvs → ∃ kws : List (Key × V), qs = kws.map (fun kv => (kV kv.1, kv.2)) ∧ Kvs K W n kvs kws
  | _, _, _, .nil, h => by cases h; exact ⟨[], rfl, .nil⟩
  | (a, b) :: r, (x, y) :: t, kvs, .cons q qs, h => by
    unfold keysP at h
    simp only [Option.bind_eq_some_iff, Option.map_eq_some_iff] at h
    obtain ⟨k, h1, t', h2, rfl⟩ := h
    obtain ⟨kws, rfl, rk⟩ := keysP_ok qs h2
    have : x = kV k := keyP_ok q.1 h1
    exact ⟨(k, y) :: kws, by simp [this], .cons ⟨rfl, q.2⟩ rk⟩
theorem merge_ok {K : PySem.W.Frag} {W : Wd} {n : Nat} : ∀ {more : List (Key × PV)} {mw : List (Key × V)} {kvs : List (Key × PV)} {kws : List (Key × V)}, Kvs K W n more mw → Kvs K W n kvs kws → NdK kvs → Kvs K W n (mergeP kvs more) (mergeK kws mw) ∧ NdK (mergeP kvs more)
  | _, _, _, _, .nil, h, nd => ⟨h, nd⟩
  | a :: r, b :: t, kvs, kws, .cons q qs, h, nd => by
    have h1 := putP_ok (k := a.1) q.2 h nd
    have := merge_ok qs h1 (ndK_put nd)
    have e : mergeK kws (b :: t) = mergeK (putK kws a.1 b.2) t := by unfold mergeK; rw [List.foldl_cons, q.1]
    rw [e]
    exact this
theorem m_dic {keys : List (Option Expr)} {values : List Expr} {pr : PrF} (h : MP X pos keys values pr) (hall : keys.all (·.isSome) = true) (hl : keys.length = values.length) (h0 : keys ≠ []) (h15 : keys.length ≤ 15) : ME X (.Dict keys values pos) (eDic pr) := by
  obtain ⟨trs, h1, h2⟩ := h
  refine VE.m ⟨pe_disp h1 hall hl h0 h15, fun W σ ε μ v μ' Q R En q k => ?_⟩
  unfold eDic at q
  simp only [Option.bind_eq_some_iff] at q
  obtain ⟨⟨ps, μ1⟩, q1, kvs, q2, q3⟩ := q
  intro D hD
  obtain ⟨R1, E1⟩ := R.junk (o := .dK []) hD
  refine h2 _ σ ε μ ps μ1 _ R1 (En.mono E1) q1 fun qs W2 R2 E2 r2 => ?_
  have nk : ∀ j, j < μ.length → W.at' j ≠ D := fun j hj z => by obtain ⟨u, e⟩ := R.th j hj; rw [z, hD] at e; cases e
  have eD : W2.H D = some (.dK []) := E2.fr _ _ upd_same nk
  obtain ⟨kws, rfl, rk⟩ := keysP_ok r2 q2
  simp only [] at q3
  split at q3
  · rename_i hc
    cases q3
    have hle : kvs.length = kws.length := Paired.length rk
    refine ⟨eD, kws, rfl, by omega, ?_⟩
    have iD : W2.Hi D = none := by
      cases z : W2.Hi D with
      | none => rfl
      | some u =>
        have hiD : W.Hi D = none := by
          cases z2 : W.Hi D with
          | none => rfl
          | some u => rw [R.sub _ _ z2] at hD; cases hD
        rcases E2.nw D u z hiD with z3 | ⟨j, hj, z3⟩
        · simp only [] at z3; rw [upd_same] at z3; cases z3
        · exact absurd z3 (nk j hj)
    have nD : ∀ j, j < μ1.length → W2.at' j ≠ D := fun j hj z => by
      by_cases hn : j < μ.length
      · exact nk j hn ((E2.io j hn).symm.trans z)
      · have := E2.np j (Nat.not_lt.mp hn) hj
        simp only [] at this
        rw [z, upd_same] at this; cases this
    -- the world without the new dict, as if it had come last
    have mk := merge_ok rk (.nil : Kvs X.K W2 μ1.length [] []) (by simp [NdK])
    have E12 := E1.trans E2
    have smH : ∀ b u, b ≠ D → W2.H b = some u → upd W2.H D (.dK (mergeK [] kws)) b = some u := fun b u hb e => by rw [upd_ne hb]; exact e
    have tr : ∀ {p x}, RPV X.K W2 μ1.length p x → RPV X.K ⟨W2.Hi, upd W2.H D (.dK (mergeK [] kws)), fun k => if k = μ1.length then D else W2.at' k⟩ (μ1 ++ [SO.dic (mergeP [] kvs)]).length p x := fun {p x} h => by
      cases p with
      | dat d => exact h
      | scr ns => exact h
      | ptr j => exact ⟨by simp; have := h.1; omega, by simp only []; rw [if_neg (by have := h.1; omega)]; exact h.2⟩
    have get : ∀ j u, (μ1 ++ [SO.dic (mergeP [] kvs)])[j]? = some u → (j < μ1.length ∧ μ1[j]? = some u) ∨ (j = μ1.length ∧ u = .dic (mergeP [] kvs)) := fun j u h => by
      by_cases hk : j < μ1.length
      · rw [List.getElem?_append_left hk] at h; exact .inl ⟨hk, h⟩
      · rw [List.getElem?_append_right (Nat.not_lt.mp hk)] at h
        have : j - μ1.length = 0 := by
          cases q : j - μ1.length with
          | zero => rfl
          | succ m => rw [q] at h; simp at h
        rw [this] at h; simp at h
        exact .inr ⟨by omega, h.symm⟩
    refine k _ ⟨W2.Hi, upd W2.H D (.dK (mergeK [] kws)), fun k => if k = μ1.length then D else W2.at' k⟩ ⟨fun a u h => ?_, fun j u h => ?_, fun j u h hu => ?_, fun i j u1 u2 g1 g2 n1 n2 e => ?_, fun j hj => ?_⟩ ⟨E12.im, fun j hj => ?_, Nat.le_trans E12.le (by simp), fun a u h hk => ?_, E12.nw, fun j g1 g2 => ?_, fun a u h => ?_⟩ ⟨by simp, by simp⟩
    · have : a ≠ D := fun z => by subst z; simp only [] at h; rw [iD] at h; cases h
      exact smH a u this (R2.sub _ _ h)
    · rcases get j u h with ⟨hk, h⟩ | ⟨rfl, rfl⟩
      · simp only []; rw [if_neg (Nat.ne_of_lt hk)]
        have := R2.ob j u h
        cases u with
        | gone => trivial
        | lst ys => obtain ⟨ws, e, r⟩ := this; exact ⟨ws, smH _ _ (nD j hk) e, L2.Paired.mapP r fun _ _ q => tr q⟩
        | dic kvs => obtain ⟨ws, e, r⟩ := this; exact ⟨ws, smH _ _ (nD j hk) e, L2.Paired.mapP r fun _ _ q => ⟨q.1, tr q.2⟩⟩
      · simp only [if_pos]
        exact ⟨_, upd_same, L2.Paired.mapP mk.1 fun _ _ q => ⟨q.1, tr q.2⟩⟩
    · rcases get j u h with ⟨hk, h⟩ | ⟨rfl, rfl⟩
      · simp only []; rw [if_neg (Nat.ne_of_lt hk)]; exact R2.off j u h hu
      · simp only [if_pos]; exact iD
    · rcases get i u1 g1 with ⟨hj, p1⟩ | ⟨hj, p1⟩ <;> rcases get j u2 g2 with ⟨hk, p2⟩ | ⟨hk, p2⟩
      · simp only [if_neg (Nat.ne_of_lt hk), if_neg (Nat.ne_of_lt hj)] at e
        exact R2.inj i j u1 u2 p1 p2 n1 n2 e
      · subst hk
        simp only [if_neg (Nat.ne_of_lt hj), if_pos] at e
        exact absurd e (nD _ hj)
      · subst hj
        simp only [if_neg (Nat.ne_of_lt hk), if_pos] at e
        exact absurd e.symm (nD _ hk)
      · rw [hj, hk]
    · simp only []
      by_cases hk' : j = μ1.length
      · rw [if_pos hk']; exact ⟨_, upd_same⟩
      · rw [if_neg hk']
        have lj : j < μ1.length := by simp at hj; omega
        obtain ⟨u, e⟩ := R2.th j lj
        exact ⟨u, smH _ _ (nD j lj) e⟩
    · simp only []; rw [if_neg (by have := E12.le; omega)]; exact E12.io j hj
    · have : a ≠ D := fun z => by subst z; rw [hD] at h; cases h
      exact smH a u this (E12.fr a u h hk)
    · simp only []
      by_cases hk : j = μ1.length
      · rw [if_pos hk]; exact hD
      · rw [if_neg hk]; exact E12.np j g1 (by simp at g2; omega)
    · obtain ⟨u', e⟩ := E12.th a u h
      by_cases ha : a = D
      · subst ha; exact ⟨_, upd_same⟩
      · exact ⟨u', smH _ _ ha e⟩
  · cases q3
/-- {} -/
@[simp] def eDic0 : EvF := fun _ μ => some (.ptr μ.length, μ ++ [.dic []])
theorem m_dic0 : ME X (.Dict [] [] pos) eDic0 := VE.m ⟨pe_dnewK, fun W σ ε μ v μ' Q R En q k => by
  cases q
  intro p hp
  obtain ⟨R', E'⟩ := R.own (o := .dic []) (ho := .dK []) hp (by simp) ⟨[], rfl, .nil⟩
  exact k _ _ R' E' ⟨by simp, by simp⟩⟩
end
end VX
namespace VX
open PySem PySem.Spec PyProof.Rows L2

theorem hu65 {k : Nat} {A : Around} (hr : Room k A) : A.units + 65 < cLine := by have := hr.un; omega
/-- a def of the text, as it stands behind the top -/
def At (K : PySem.W.Frag) (mg : Str → Option Value) (name : Str) (st : Stmt) (ps : List Str) : Prop := ∃ f fd, Fun K name name st f fd ∧ mg name = some (.ref f) ∧ Binds K fd ps []
/-- a def that keeps a promise -/
def DefOk (P : Program) (w : World) (K : PySem.W.Frag) (mg : Str → Option Value) (base : Heap) (k : Nat) (name : Str) (sp : Sp) : Prop :=
  ∃ f fd ps, FnOk P w K mg base CX0 k f fd ps sp ∧ mg name = some (.ref f) ∧ PySem.W.keepIn K (.ref f) = true ∧ Binds K fd ps []
theorem DefOk.mono {P : Program} {w : World} {K : PySem.W.Frag} {mg : Str → Option Value} {base : Heap} {j k : Nat} {name : Str} {sp : Sp} (D : DefOk P w K mg base j name sp) (h : j ≤ k) : DefOk P w K mg base k name sp :=
  let ⟨f, fd, ps, F, r⟩ := D
  ⟨f, fd, ps, F.mono h, r⟩
section
variable {P : Program} {w : World} {K : PySem.W.Frag} {mg : Str → Option Value} {base : Heap} {x : Str} {st : Stmt} {N ps : List Str} {k : Nat} {rn : RnF}
theorem d_pure (T : At K mg x st ps) (S : FnScope N ps (defScope st)) (hb : ∀ (f : Addr) (cdv : Value) (A : Around) (outer : List PySem.Env) (s : Shared) (H : Hp) (E : XK), Room k (A.deeper (envOfC x (defScope st) s.heap.objs.size f cdv)) → MSs (cxOf CX0 P w K mg base N x (defScope st) f cdv A outer s H E).nox (defBody st) rn) :
    DefOk P w K mg base (k + 1) x (spP ps.length (fnP N.length ps.length rn)) := by
  obtain ⟨f, fd, F, g, b⟩ := T
  exact ⟨f, fd, ps, fn_pure F S (hb f), g, F.kp, b⟩
theorem d_gen (T : At K mg x st ps) (S : FnScope N ps (defScope st)) (hb : ∀ (f : Addr) (cdv : Value) (A : Around) (outer : List PySem.Env) (s : Shared) (H : Hp) (E : XK), Room k (A.deeper (envOfC x (defScope st) s.heap.objs.size f cdv)) → MSs (cxOf CX0 P w K mg base N x (defScope st) f cdv A outer s H E).nox (defBody st) rn) :
    DefOk P w K mg base (k + 1) x (spG K ps.length (fnG N.length ps.length rn)) := by
  obtain ⟨f, fd, F, g, b⟩ := T
  exact ⟨f, fd, ps, fn_gen F S (hb f), g, F.kp, b⟩
end
section
variable {X : Cx} {k : Nat} {x : Str} {p pos : Pos} {a b c e i o : Expr} {es : List Expr} {el : ArF} {n : Nat} {ea eb ec ev ei eo : EvF}
theorem m_cP {F : List PyData → Option PyData} (G : DefOk X.prog X.w X.K X.mg X.base k x (spP n F)) (hr : Room k X.A) (hg : Gl X x) (ha : MA X (e :: es) el)
    (hdb : (x == ("__debug__" : Str)) = false := by decide) (he : starEach (e :: es) X.env = (false, eval e X.env) :: starEach es X.env := by rfl) (hpl : (backTo pos (starEach es X.env)).any (·.1) = false := by rfl) : ME X (.Call (.Name x p) (e :: es) [] pos) (eCallP n F el) := by
  obtain ⟨f, fd, ps, F, g, kp, b⟩ := G
  exact m_callP F hr hg g kp b ha hdb he hpl
theorem m_cG {F : List PV → Sto → Option (PV × Sto)} (G : DefOk X.prog X.w X.K X.mg X.base k x (spG X.K n F)) (hr : Room k X.A) (hg : Gl X x) (ha : MA X (e :: es) el)
    (hdb : (x == ("__debug__" : Str)) = false := by decide) (he : starEach (e :: es) X.env = (false, eval e X.env) :: starEach es X.env := by rfl) (hpl : (backTo pos (starEach es X.env)).any (·.1) = false := by rfl) : ME X (.Call (.Name x p) (e :: es) [] pos) (eCallG n F el) := by
  obtain ⟨f, fd, ps, F, g, kp, b⟩ := G
  exact m_callG F hr hg g kp b ha hdb he hpl
/-! comparisons as tests -/
theorem t_lt (ha : ME X a ea) (hb : ME X b eb) : MT X (.Compare a [.Lt] [b] pos) (tsE (eOp fLt ea eb)) := t_cmp op_lt ao_IB ha hb (nomark _)
theorem t_le (ha : ME X a ea) (hb : ME X b eb) : MT X (.Compare a [.LtE] [b] pos) (tsE (eOp fLe ea eb)) := t_cmp op_le ao_IB ha hb (nomark _)
theorem t_gt (ha : ME X a ea) (hb : ME X b eb) : MT X (.Compare a [.Gt] [b] pos) (tsE (eOp fGt ea eb)) := t_cmp op_gt ao_IB ha hb (nomark _)
theorem t_ge (ha : ME X a ea) (hb : ME X b eb) : MT X (.Compare a [.GtE] [b] pos) (tsE (eOp fGe ea eb)) := t_cmp op_ge ao_IB ha hb (nomark _)
theorem t_eq (hu : X.A.units + 65 < cLine) (ha : ME X a ea) (hb : ME X b eb) : MT X (.Compare a [.Eq] [b] pos) (tsE (eOp (fEq false) ea eb)) := t_cmp (op_eqD (by omega)) ao_eq ha hb (nomark _)
theorem t_ne (hu : X.A.units + 65 < cLine) (ha : ME X a ea) (hb : ME X b eb) : MT X (.Compare a [.NotEq] [b] pos) (tsE (eOp (fEq true) ea eb)) := t_cmp (op_neD (by omega)) ao_ne ha hb (nomark _)
theorem t_is (ha : ME X a ea) (hb : ME X b eb) : MT X (.Compare a [.Is] [b] pos) (tsE (eOp (fIs false) ea eb)) := t_cmp op_isN ao_is ha hb (nomark _)
theorem t_isnot (ha : ME X a ea) (hb : ME X b eb) : MT X (.Compare a [.IsNot] [b] pos) (tsE (eOp (fIs true) ea eb)) := t_cmp op_notN ao_isnot ha hb (nomark _)
theorem t_in (hu : X.A.units + 65 < cLine) (ha : ME X a ea) (hb : ME X b eb) (hm : behindInMarks .In b = false := by rfl) : MT X (.Compare a [.In] [b] pos) (tsE (eOp (fIn false) ea eb)) := t_cmp (op_inA hu) ao_in ha hb hm
theorem t_notin (hu : X.A.units + 65 < cLine) (ha : ME X a ea) (hb : ME X b eb) (hm : behindInMarks .NotIn b = false := by rfl) : MT X (.Compare a [.NotIn] [b] pos) (tsE (eOp (fIn true) ea eb)) := t_cmp (op_notInA hu) ao_notIn ha hb hm
theorem t_din (hu : X.A.units + 65 < cLine) (hi : ME X i ei) (ho : ME X o eo) (h1 : behindInMarks .In o = false := by rfl) : MT X (.Compare i [.In] [o] pos) (tsE (eDIn false ei eo)) := VT.m ⟨pt_cmp (pc_din (by omega) hi ho) h1, adq_tE adq_din⟩
theorem t_dnotin (hu : X.A.units + 65 < cLine) (hi : ME X i ei) (ho : ME X o eo) (h1 : behindInMarks .NotIn o = false := by rfl) : MT X (.Compare i [.NotIn] [o] pos) (tsE (eDIn true ei eo)) := VT.m ⟨pt_cmp (pc_dnotin (by omega) hi ho) h1, adq_tE adq_dnotin⟩
end

/-! ### for i, c in enumerate(text) -/
def IteS (x : Str) : It :=
  ⟨fun i _ => i < x.cps.size, fun i H v H' => ∃ T c, v = .ref T ∧ H T = none ∧ H' = upd H T (.tup [.int (i : Nat), .str ⟨#[c]⟩]) ∧ x.cps[i]? = some c, fun i _ => i = x.cps.size⟩
theorem drawsS {P : Program} {w : World} {A : Around} (hh : A.handled = none) (it : Addr) (x : Str) (t : Tok) (ty : String) (hty : ty = "str_ascii_iterator" ∨ ty = "str_iterator") :
    Draws P w A it [it] x.cps.size (fun i v => ∃ c u, x.cps[i]? = some c ∧ v = .str ⟨#[c]⟩ u) (fun i h => h.IsStrIter it ty x t i) := by
  rcases hty with rfl | rfl
  · exact Draws.strAscii hh it x t
  · exact Draws.strWide hh it x t
theorem turnES {P : Program} {w : World} {K : PySem.W.Frag} {elts : List Expr} {kk : Nat} {tpos : Pos} (e it : Addr) (x : Str) (t : Tok) (ty : String) (hty : ty = "str_ascii_iterator" ∨ ty = "str_iterator") :
    Turn P w K (.Tuple elts kk tpos) (IteS x) [e, it] e (fun i h => (∃ old, IsEnum h e it ((i : Nat) : Int) old) ∧ h.IsStrIter it ty x t i ∧ e ≠ it) := by
  have two : ∀ b, b ∈ [e, it] → b = e ∨ b = it := fun b hb => by simpa using hb
  constructor
  case mem => simp
  case obj =>
    rintro i h ⟨⟨old, he⟩, ⟨o, ho, hc, hd⟩, _⟩ b hb
    rcases two b hb with rfl | rfl
    · exact ⟨_, he, fun v q => nomatch q⟩
    · exact ⟨o, ho, fun v q => (by rw [hd] at q; cases q)⟩
  case keep =>
    rintro i h h' ⟨⟨old, he⟩, ⟨o, ho, hc, hd⟩, hne⟩ k
    exact ⟨⟨old, k e (by simp) _ he⟩, ⟨o, k it (by simp) _ ho, hc, hd⟩, hne⟩
  case item =>
    intro X hP hw hK hcalm i pins s σ H E I hf st hg
    subst hP hw hK
    obtain ⟨⟨old, he⟩, hit, hne⟩ := st
    have hel : e < s.heap.objs.size := Heap.lt_size he
    have hil : it < s.heap.objs.size := by obtain ⟨_, q, _⟩ := hit; exact Heap.lt_size q
    have hh : X.A.in1.handled = none := by simpa using I.ok.hd hcalm
    refine wpAny_pyNext_enum_itemD (drawsS (P := X.prog) (w := X.w) hh it x t ty hty) he hit hg hne (by simpa using hne) fun v h' tk hv ho hit' hT hsz hk => ?_
    obtain ⟨c, u, hx, rfl⟩ := hv
    refine ⟨_, rfl, wpAny_letOwnedTupleGo_enum (s := { s with heap := h', toks := tk + 1 }) ho fun h2 he2 sb => ?_⟩
    have keepT : h2.get? s.heap.objs.size = h'.get? s.heap.objs.size := sb.2 _ (Nat.ne_of_gt hel)
    have new : ObjOk X.prog X.w (upd H s.heap.objs.size (.tup [.int (i : Nat), .str ⟨#[c]⟩])) h2 s.heap.objs.size (.tup [.int (i : Nat), .str ⟨#[c]⟩]) :=
      ⟨by show 2 ≤ sizeLine; decide, [.int i tk, .str ⟨#[c]⟩ u], .cons ⟨_, rfl⟩ (.cons ⟨_, rfl⟩ .nil), ⟨_, keepT.trans hT, rfl, _, rfl⟩⟩
    have I1 : Inv X pins σ (upd H s.heap.objs.size (.tup [.int (i : Nat), .str ⟨#[c]⟩])) { s with heap := h2, toks := tk + 1 } := by
      refine I.turnedNew (ch := [e, it]) (fun b ob hb q => ?_) hf (Nat.le_refl _) new
      have n1 : b ≠ e := fun z => hb (by simp [z])
      have n2 : b ≠ it := fun z => hb (by simp [z])
      exact (sb.2 b n1).trans (hk b ob n1 n2 q)
    refine ⟨.ref s.heap.objs.size, _, I1, rfl, ⟨_, c, rfl, I.hok.fresh (Nat.le_refl _), rfl, hx⟩, ⟨⟨.str ⟨#[c]⟩ u, ?_⟩, ?_, hne⟩, fun b hb => ?_⟩
    · have e1 : ((i + 1 : Nat) : Int) = (i : Int) + 1 := by omega
      rw [e1]; exact he2
    · obtain ⟨o, q1, q2, q3⟩ := hit'
      exact ⟨o, (sb.2 it (Ne.symm hne)).trans q1, q2, q3⟩
    · have hb' : b < s.heap.objs.size := by
        rcases two b hb with z | z
        · rw [z]; exact hel
        · rw [z]; exact hil
      rw [upd_ne (Nat.ne_of_lt hb')]
      exact (hf b hb).1
  case done =>
    intro X hP hw hK hcalm i pins s σ H E I hf st hg
    subst hP hw hK
    obtain ⟨⟨old, he⟩, hit, hne⟩ := st
    have hh : X.A.in1.handled = none := by simpa using I.ok.hd hcalm
    obtain ⟨f0, f1, f2, f3, f4, f5⟩ := hf it (by simp)
    have hi : i = x.cps.size := hg
    subst hi
    exact wpAny_pyNext_enum_endD (drawsS (P := X.prog) (w := X.w) hh it x t ty hty) he hit fun h' eb => ⟨rfl, I.turned (t' := s.toks) (fun b o hb q => eb b o hb q) f0 f1 f3 f4 f5⟩
  case self =>
    rintro A i s Q E ⟨⟨_, he⟩, _⟩ h
    exact wpAny_pyIter_enum he h
def iEnumS (ta : TA) : TI := fun σ H R => ta σ H fun vs H1 => ∃ x, vs = [.str x] ∧ R (IteS x) H1
theorem strTy (x : Str) : strIterType x = "str_ascii_iterator" ∨ strIterType x = "str_iterator" := by
  unfold strIterType
  split
  · exact .inl rfl
  · exact .inr rfl
theorem pi_enumS {X : Cx} {e : Expr} {ta : TA} {p pos tpos : Pos} {elts : List Expr} {kk : Nat} (hg : Gl X "enumerate") (hm : X.mg "enumerate" = none) (ha : PA X [e] ta) (hs : starEach [e] X.env = [(false, eval e X.env)] := by rfl) :
    PI X (.Tuple elts kk tpos) (.Call (.Name "enumerate" p) [e] [] pos) (iEnumS ta) := by
  constructor
  intro pins s σ H R I h
  refine Call_ (ld_blt I hg hm boot_enumerate (PyProof.Rows.callWith_type1 (thn (ha.run pos pins s σ H _ I h) fun us s1 hus => ?_) hs rfl))
  obtain ⟨vs, H1, I1, r1, x, rfl, q⟩ := hus
  obtain ⟨u, rfl, t, rfl⟩ := Vals.one r1
  refine call_enumerate_str fun h' he hit hsz hk => wpAny_pyIter_enum he ?_
  have I2 : Inv X pins σ H1 { s1 with heap := h' } := I1.kept (t' := s1.toks) hk
  refine ⟨s1.heap.objs.size + 1, [s1.heap.objs.size + 1, s1.heap.objs.size], _, _, H1, rfl, I2, turnES (s1.heap.objs.size + 1) s1.heap.objs.size x t _ (strTy x), ⟨⟨.none, he⟩, hit, Nat.succ_ne_self _⟩, fun b hb => ?_, q⟩
  have hle : s1.heap.objs.size ≤ b := by
    have e' : b = s1.heap.objs.size + 1 ∨ b = s1.heap.objs.size := by simpa using hb
    rcases e' with rfl | rfl
    · exact Nat.le_succ _
    · exact Nat.le_refl _
  exact I1.fpOk hle (I1.hok.fresh hle)
/-- enumerate of a list or a text -/
@[simp] def srcEnA (e : ArF) : SrF := fun ε μ => (e ε μ).bind fun x => match x.1 with
  | [.dat (.str z)] => some (((enumD (z.cps.toList.map fun c => .str ⟨#[c]⟩)).map PV.dat, none), x.2)
  | [.dat (.list ds)] => some (((enumD ds).map PV.dat, none), x.2)
  | _ => none
theorem gives_es {K : PySem.W.Frag} {W0 : Wd} {n0 : Nat} {z : Str} : Gives K (IteS z) ((enumD (z.cps.toList.map fun c => .str ⟨#[c]⟩)).map PV.dat) none W0 n0 := fun W μ R E G => by
  refine ⟨fun i p e => ?_, by simp [enumD, IteS]⟩
  unfold enumD at e
  rw [List.getElem?_map, List.getElem?_map, List.getElem?_zipIdx, List.getElem?_map] at e
  cases q : z.cps.toList[i]? with
  | none => rw [q] at e; cases e
  | some c =>
    rw [q] at e; cases e
    have hq : z.cps[i]? = some c := by simpa using q
    refine ⟨(Array.getElem?_eq_some_iff.mp hq).1, ?_⟩
    rintro x H' ⟨T, c', rfl, hT, rfl, h1⟩
    rw [hq] at h1; cases h1
    obtain ⟨R', E'⟩ := R.imm (o := .tup [.int (i : Nat), .str ⟨#[c]⟩]) hT
    refine ⟨_, rfl, R', E', .tup upd_same (.cons ?_ (.cons (.str _) .nil))⟩
    simp only [Nat.zero_add]
    exact .int _
theorem PI.or {X : Cx} {tg iter : Expr} {w1 w2 : TI} (h1 : PI X tg iter w1) (h2 : PI X tg iter w2) : PI X tg iter (fun σ H R => w1 σ H R ∨ w2 σ H R) := ⟨fun pins s σ H R I q => by
  rcases q with q | q
  · exact h1.run pins s σ H R I q
  · exact h2.run pins s σ H R I q⟩
theorem i_enumA {X : Cx} {e : Expr} {el : ArF} {p pos tpos : Pos} {elts : List Expr} {kk : Nat} (hg : Gl X "enumerate") (hm : X.mg "enumerate" = none) (ha : MA X [e] el) (hs : starEach [e] X.env = [(false, eval e X.env)] := by rfl) : MI X (.Tuple elts kk tpos) (.Call (.Name "enumerate" p) [e] [] pos) (srcEnA el) :=
  VI.m ⟨PI.or (pi_enumS hg hm ha hs) (pi_enum hg hm ha hs), fun W σ ε μ items ok μ' Rr R En q k => by
    unfold srcEnA at q
    simp only [Option.bind_eq_some_iff] at q
    obtain ⟨⟨x, μ1⟩, h1, h2⟩ := q
    simp only [] at h2
    split at h2
    · cases h2
      refine .inl (adqUA W σ ε μ _ _ _ R En h1 fun vx W1 R1 E1 r1 => ?_)
      obtain ⟨y, rfl, ry⟩ := pvs1 r1
      exact ⟨_, by rw [rpv_str ry], k W1 _ R1 E1 gives_es⟩
    · cases h2
      refine .inr (adqUA W σ ε μ _ _ _ R En h1 fun vx W1 R1 E1 r1 => ?_)
      obtain ⟨y, rfl, ry⟩ := pvs1 r1
      cases ry with
      | lst e a => exact ⟨_, _, rfl, SqL.of (R1.sub _ _ e), k W1 _ R1 E1 (gives_en fun W2 μ2 R2 E2 _ => ⟨_, SqL.of (R2.sub _ _ (E2.im _ _ e)), Pvs.mono E2 (DtAll.pvs a)⟩)⟩
    · cases h2⟩
end VX
namespace VX
open PySem PySem.Spec PyProof.Rows L2
open Sem (wp)

/-! ### set(xs), xs a list of ints -/
abbrev noInts (w : World) : Obj := { cls := .type "set", dict := none, data := .set #[] 0 (.fresh 0 0 (!w.params.followText "set-order")) }
section
variable {P : Program} {w : World} {A : Around} {E : Value → Shared → Prop} {s : Shared}
set_option maxHeartbeats 3200000 in
theorem setOfList {l : Addr} {items : Array Value} (ns : List Int) {Q : Value → Shared → Prop} (hh : A.handled = none) (hl : s.heap.IsList l items) (hit : IntsAre items.toList ns) (hb : ns.length + 1 < scanBound)
    (h : ∀ (g : Heap) (tk c : Nat), SetR w g s.heap.objs.size (fun j => decide (j ∈ ns)) c → c ≤ ns.length → (∀ b o, s.heap.get? b = some o → g.get? b = some o) → Q (.ref s.heap.objs.size) { s with heap := g, toks := tk }) :
    wpAny (model P w) A (call (.type "set") [.ref l]) Q E s := by
  have hsz : items.size = ns.length := by
    have := IntsAre.length hit
    rw [Array.length_toList] at this
    exact this
  obtain ⟨c0, tl, hmro⟩ := PySem.F.called_set.mro
  have k1 := PySem.F.called_set.made
  have k2 := PySem.F.called_set.sub
  apply wpAny_call
  apply codeAny_of_tree
  show wpAny _ _ (callAny (.type "set") _) _ _ _
  apply wpAny_pure
  refine ⟨Code.quiet_builtin _ (by decide +kernel), codeAny_builtin PySem.F.entry_type_call ?_⟩
  rw [Around.under_plain (weight_type_call_type "set" [.ref l] []) rfl]
  have k3 := PySem.F.called_set.notType
  have k4 := PySem.F.called_set.canCreate
  have k5 := PySem.F.typeCall_set_1 (.ref l)
  repeat (any_goals (first | assumption | wp_step))
  have made := code_set_led1 (P := P) (w := w) (A := A.in1) (s := s) (.ref l) (E := E) (Q₁ := fun obj t => obj = .ref s.heap.objs.size ∧ t = { s with heap := s.heap.push (noInts w) }) ⟨rfl, rfl⟩
  refine codeAny_mono (code_set_led1 (.ref l) (E := E) (Q₁ := fun obj t => obj = .ref s.heap.objs.size ∧ t = { s with heap := s.heap.push (noInts w) }) ⟨rfl, rfl⟩) fun r t hr => ?_
  cases r with
  | error e => exact hr
  | ok fl =>
    cases fl with
    | ret obj =>
      obtain ⟨e1, e2⟩ := hr
      subst e1; subst e2
      have new : (s.heap.push (noInts w)).get? s.heap.objs.size = some (noInts w) := Heap.get?_push_size _ rfl
      have ty : Shared.TypeIs { s with heap := s.heap.push (noInts w) } (.ref s.heap.objs.size) "set" := ⟨_, new, rfl⟩
      have k6 := PySem.F.called_set.init.lookup
      have k7 := PySem.F.called_set.init.bind (.ref s.heap.objs.size)
      repeat (any_goals (first | assumption | wp_step))
      refine codeAny_mono (codeAny_call_builtin (R := wants (fun r t => r = .none ∧ ∃ g tk c, t = { s with heap := g, toks := tk } ∧ SetR w g s.heap.objs.size (fun j => decide (j ∈ ns)) c ∧ c ≤ ns.length ∧ ∀ b o, s.heap.get? b = some o → g.get? b = some o) E)
        PySem.F.called_set.init.plain PySem.F.entry_set_init (check_set_init_1 ty ?_)) fun r t hr => ?_
      · obtain ⟨ol, hol, hcl, nl, hdl⟩ := hl
        have lt : l < s.heap.objs.size := Heap.lt_size hol
        have z1 : (s.heap.push (noInts w)).objs.size = s.heap.objs.size + 1 := Heap.size_push ..
        obtain ⟨oc, od, odat, osl⟩ := ol
        simp only at hcl hdl
        subst hcl; subst hdl
        have keep : (s.heap.push (noInts w)).get? l = some { cls := .type "list", dict := od, data := .seq items nl, slots := osl } := Heap.get?_push_of_some _ hol
        have k8 := PySem.F.sub_list_set
        have k9 := PySem.F.sub_list_frozenset
        have k10 : (Value.type "list" == Value.type "dict") = false := by decide
        have isl : (s.heap.push (noInts w)).IsList l items := ⟨_, keep, rfl, nl, rfl⟩
        unfold Builtin.«set.__init__» noKeywords Builtin.Frozenset.updateFrom
        generalize hPI : pyIter = PI
        wp_walk
        subst hPI
        refine wpAny_pyIter_list isl ?_
        apply wpAny_bind
        apply wpAny_runValue
        have h3 : A.in1.in1.in1.handled = none := by simp [hh]
        have ne1 : l ≠ (s.heap.push (noInts w)).objs.size := by rw [z1]; exact Nat.ne_of_lt (Nat.lt_succ_of_lt lt)
        have off : s.heap.objs.size ∉ [(s.heap.push (noInts w)).objs.size, l] := fun hm => by
          rw [z1] at hm
          rcases List.mem_cons.mp hm with e | e
          · exact Nat.ne_of_lt (Nat.lt_succ_self _) e
          · exact Nat.ne_of_gt lt (List.mem_singleton.mp e)
        have val : ∀ (i : Nat) (v : Value), items[i]? = some v → ∃ k t, ns[i]? = some k ∧ v = .int k t := fun i v hv => by
          have hi : i < ns.length := by rw [← hsz]; exact (Array.getElem?_eq_some_iff.mp hv).1
          obtain ⟨t, e⟩ := PyProof.Rows.IntsAre.int_at hit i v (by rw [Array.getElem?_toList]; exact hv)
          exact ⟨ns[i], t, List.getElem?_eq_getElem hi, by rw [e, List.getD_eq_getElem?_getD, List.getElem?_eq_getElem hi]; rfl⟩
        refine set_update_ints ((Walks.list h3 _ l ne1 items).toS) s.heap.objs.size off ns hsz hb val (items.size - 0) 0 _ (by omega) (Nat.zero_le _) ⟨⟨_, Heap.get?_push_size _ rfl, rfl, rfl⟩, (isl.push _)⟩ ?start ?fin
        case start =>
          have still : ((s.heap.push (noInts w)).push { cls := .type "list_iterator", data := .fields #[.ref l, .int 0 0] }).get? s.heap.objs.size = some (noInts w) := Heap.get?_push_of_some _ new
          exact ⟨0, Nat.le_refl 0, setR_new_at still⟩
        case fin =>
          intro t c hm hc hS
          obtain ⟨g, ge, dr, tk, os⟩ := t
          have q1 : ge = s.gens := hm.gens
          have q2 : dr = s.drawn := hm.drawn
          have q3 : os = s.os := hm.os
          subst q1; subst q2; subst q3
          show wpAny _ _ _ _ _ _
          apply wpAny_pure
          show wpAny _ _ (ret Value.none) _ _ _
          apply wpAny_pure
          rw [hsz] at hc
          refine ⟨rfl, g, tk, c, rfl, hS, hc, fun b o e => ?_⟩
          have lb : b < s.heap.objs.size := Heap.lt_size e
          refine hm.heap b o (fun hm => ?_) (Heap.get?_push_of_some _ (Heap.get?_push_of_some _ e))
          rcases List.mem_cons.mp hm with e | e
          · exact Nat.ne_of_lt lb e
          · rw [z1] at e; exact Nat.ne_of_lt (Nat.lt_succ_of_lt lb) (List.mem_singleton.mp e)
      · cases r with
        | error e => exact hr
        | ok fl2 =>
          cases fl2 with
          | ret r =>
            obtain ⟨e1, g, tk, c, e2, hS, hc, kp⟩ := hr
            subst e1; subst e2
            repeat (any_goals (first | assumption | wp_step))
            exact h _ _ _ hS hc kp
          | _ => exact hr.elim
    | _ => exact hr.elim
end
def rSetI (K : PySem.W.Frag) (w : World) : List V → Hp → VK → Prop := fun xs H Q => ∃ (l : Addr) (ns : List Int), xs = [V.ref l] ∧ SqL K H l (ns.map V.int) ∧ ns.length < 64 ∧ ∀ p c, c ≤ ns.length → H p = none → Q (.ref p) (upd H p (SetO w p (fun j => decide (j ∈ ns)) c))
theorem cr_setI {X : Cx} (hc : X.calm = true) : CallR X (.type "set") (rSetI X.K X.w) := by
  intro pins s σ H xs us Q I r h
  obtain ⟨l, ns, rfl, hl, hf, q⟩ := h
  obtain ⟨u, rfl, ru⟩ := Vals.one r
  cases ru
  obtain ⟨its, rv, pl, hz⟩ := I.list hl
  have hi : IntsAre its ns := by
    clear q hl pl hz hf r
    induction ns generalizing its with
    | nil => cases rv; exact .nil
    | cons n ns ih =>
      cases rv with
      | cons a b =>
        obtain ⟨t, rfl⟩ := a
        constructor
        exact ih _ b
  refine setOfList (P := X.prog) (w := X.w) ns (I.ok.hd hc) pl.isList (by simpa using hi) (by unfold scanBound; omega) fun g tk c hS hc' kp => ?_
  exact ⟨.ref s.heap.objs.size, upd H s.heap.objs.size (SetO X.w s.heap.objs.size (fun j => decide (j ∈ ns)) c), I.laid (t' := tk) kp (Nat.le_refl _) (setO_new hS), rfl, q _ c hc' (I.hok.fresh (Nat.le_refl _))⟩

/-! ### sorted(set(xs)) -/
def uins (x : Int) : List Int → List Int
  | [] => [x]
  | y :: ys => if x < y then x :: y :: ys else if x = y then y :: ys else y :: uins x ys
def usort : List Int → List Int
  | [] => []
  | x :: xs => uins x (usort xs)
theorem mem_uins {x z : Int} : ∀ {ys : List Int}, z ∈ uins x ys ↔ z = x ∨ z ∈ ys
  | [] => by simp [uins]
  | y :: ys => by
    unfold uins
    split
    · simp
    · split
      · rename_i h; subst h; simp
      · simp only [List.mem_cons, mem_uins]
        constructor
        · rintro (h | h | h)
          · exact .inr (.inl h)
          · exact .inl h
          · exact .inr (.inr h)
        · rintro (h | h | h)
          · exact .inr (.inl h)
          · exact .inl h
          · exact .inr (.inr h)
theorem mem_usort {z : Int} : ∀ {xs : List Int}, z ∈ usort xs ↔ z ∈ xs
  | [] => by simp [usort]
  | x :: xs => by unfold usort; rw [mem_uins, mem_usort, List.mem_cons]
theorem uins_sorted {x : Int} : ∀ {ys : List Int}, ys.Pairwise (· < ·) → (uins x ys).Pairwise (· < ·)
  | [], _ => by simp [uins]
  | y :: ys, h => by
    unfold uins
    rw [List.pairwise_cons] at h
    split
    · rename_i hc
      refine List.pairwise_cons.mpr ⟨fun z hz => ?_, List.pairwise_cons.mpr h⟩
      rcases List.mem_cons.mp hz with rfl | hz
      · exact hc
      · exact Int.lt_trans hc (h.1 z hz)
    · split
      · exact List.pairwise_cons.mpr h
      · rename_i h1 h2
        refine List.pairwise_cons.mpr ⟨fun z hz => ?_, uins_sorted h.2⟩
        rcases mem_uins.mp hz with rfl | hz
        · omega
        · exact h.1 z hz
theorem usort_sorted : ∀ {xs : List Int}, (usort xs).Pairwise (· < ·)
  | [] => .nil
  | x :: xs => uins_sorted usort_sorted
theorem strict_uniq : ∀ {a b : List Int}, a.Pairwise (· < ·) → b.Pairwise (· < ·) → (∀ z, z ∈ a ↔ z ∈ b) → a = b
  | [], [], _, _, _ => rfl
  | [], y :: ys, _, _, h => absurd ((h y).mpr List.mem_cons_self) (by simp)
  | x :: xs, [], _, _, h => absurd ((h x).mp List.mem_cons_self) (by simp)
  | x :: xs, y :: ys, ha, hb, h => by
    rw [List.pairwise_cons] at ha hb
    have e : x = y := by
      have h1 := (h x).mp List.mem_cons_self
      have h2 := (h y).mpr List.mem_cons_self
      rcases List.mem_cons.mp h1 with e | e
      · exact e
      · rcases List.mem_cons.mp h2 with e2 | e2
        · exact e2.symm
        · have := hb.1 x e; have := ha.1 y e2; omega
    subst e
    congr 1
    refine strict_uniq ha.2 hb.2 fun z => ?_
    constructor
    · intro hz
      rcases List.mem_cons.mp ((h z).mp (List.mem_cons_of_mem _ hz)) with e | e
      · have := ha.1 z hz; omega
      · exact e
    · intro hz
      rcases List.mem_cons.mp ((h z).mpr (List.mem_cons_of_mem _ hz)) with e | e
      · have := hb.1 z hz; omega
      · exact e
@[simp] def fSortSet (own : Bool) : CaF := fun xs μ => match xs with
  | [p] => (lstOfS μ p).bind fun xs => (asInts xs).bind fun ns => if ns.length < 64 then mkL own ((usort ns).map fun n => .dat (.int n)) μ else none
  | _ => none
@[simp] def eSortSet (own : Bool) (el : ArF) : EvF := eCa (fSortSet own) el
section
variable {X : Cx} {e : Expr} {el : ArF} {p p2 pos q : Pos}
theorem m_sortset (own : Bool) (hc : X.calm = true) (hg : Gl X "sorted") (hm : X.mg "sorted" = none) (hg2 : Gl X "set") (hm2 : X.mg "set" = none) (h : MA X [e] el)
    (he : starEach (e :: []) X.env = (false, eval e X.env) :: starEach [] X.env := by rfl) (hpl : (backTo q (starEach [] X.env)).any (·.1) = false := by rfl)
    (he2 : starEach (.Call (.Name "set" p2) [e] [] q :: []) X.env = (false, eval (.Call (.Name "set" p2) [e] [] q) X.env) :: starEach [] X.env := by rfl) (hpl2 : (backTo pos (starEach [] X.env)).any (·.1) = false := by rfl) :
    ME X (.Call (.Name "sorted" p) [.Call (.Name "set" p2) [e] [] q] [] pos) (eSortSet own el) :=
  VE.m ⟨pe_callB (cr_sortedSet hc) hg hm (by decide +kernel) (pa_cons (pe_callTy (cr_setI hc) hg2 hm2 (by decide +kernel) h (by decide) (by decide) he hpl) pa_nil he2) (by decide) (by decide) he2 hpl2, fun W σ ε μ v μ' Q R En z k => by
    unfold eSortSet eCa at z
    simp only [Option.bind_eq_some_iff] at z
    obtain ⟨⟨xs, μ1⟩, h1, h2⟩ := z
    refine adqUA W σ ε μ xs μ1 _ R En h1 fun vs W1 R1 E1 r1 => ?_
    unfold fSortSet at h2
    simp only [] at h2
    split at h2
    · simp only [Option.bind_eq_some_iff] at h2
      obtain ⟨ys, h3, ns, h4, h5⟩ := h2
      split at h5
      · rename_i hlen
        obtain ⟨x, rfl, rx⟩ := pvs1 r1
        obtain ⟨a, rfl, e⟩ := ints_ok R1 rx h3 h4
        refine ⟨a, ns, rfl, e, hlen, fun D c hc' hD => ?_⟩
        obtain ⟨R2, E2⟩ := R1.junk (o := SetO X.w D (fun j => decide (j ∈ ns)) c) hD
        refine ⟨D, _, c, rfl, upd_same, by omega, fun ms p' st mem hl hp => ?_⟩
        have : ms = usort ns := strict_uniq st usort_sorted fun z => by rw [mem z, mem_usort]; simp
        rw [this]
        exact (mkL_ok R2 pvsInts h5 (k.ext (E1.trans E2))).2 p' hp
      · cases h5
    · cases h2⟩
end
end VX
namespace VX
open PySem PySem.Spec PyProof.Rows L2

/-! ### a def that returns a written tuple, known to be a plain one; dict of it -/
def spPT (n : Nat) (F : List PyData → Option PyData) : Sp := fun vs H Q _ => vs.length = n ∧ ∃ ds es Hi, Same Hi H ∧ DtAll Hi vs ds ∧ F ds = some (.tuple es) ∧
  ∀ p o ws Hi' H', Same Hi Hi' → Same Hi' H' → Same H H' → (∀ a o, Hi' a = some o → Hi a = none → H a = none) → o.dict = none → H' p = some (.frz o (.tup ws)) → Hi' p = none → H p = none → DtAll Hi' ws es → Q (.ref p) H'
def tTupF (t : TA) : TE := fun σ H Q => t σ H fun xs H1 => xs.length ≤ sizeLine ∧ ∀ p o, H1 p = none → o.dict = none → Q (.ref p) (upd H1 p (.frz o (.tup xs)))
section
variable {X : Cx} {es : List Expr} {t : TA} {el : ArF} {pos : Pos}
theorem pe_tupF {x1} (h : PA X es t) : PE X (.Tuple es x1 pos) (tTupF t) := by
  constructor
  intro pins s σ H Q I hq
  refine wpAny_Tuple_spliced (thn (h.run pos pins s σ H _ I hq) fun us s1 hus => ?_)
  obtain ⟨xs, H1, I1, r, z, q⟩ := hus
  refine ⟨by rw [← r.length]; exact z, ?_⟩
  have hf : H1 s1.heap.objs.size = none := I1.hok.fresh (Nat.le_refl _)
  have new := Heap.get?_push_size s1.heap (o := { cls := .type "tuple", data := .seq us.toArray }) rfl
  refine ⟨.ref s1.heap.objs.size, upd H1 s1.heap.objs.size (.frz { cls := .type "tuple", data := .seq us.toArray } (.tup xs)), I1.laid (t' := s1.toks) (fun b u e => Heap.get?_push_of_some _ e) (Nat.le_refl _) ?_, rfl, q _ _ hf rfl⟩
  exact ⟨new, z, us, r, ⟨_, new, rfl, _, rfl⟩⟩
end
section
variable {P : Program} {w : World} {K : PySem.W.Frag} {mg : Str → Option Value} {base : Heap} {x : Str} {st : Stmt} {N ps : List Str} {k : Nat} {es : List Expr} {el : ArF} {x1 : Nat} {pos pos' : Pos} {F : List PyData → Option PyData}
/-- body: return (e1, .., ek) -/
theorem d_tupT (T : At K mg x st ps) (S : FnScope N ps (defScope st)) (hbody : defBody st = [.Return (some (.Tuple es x1 pos)) pos']) (hF : ∀ ds d, F ds = some d → ∃ xs es' μ, el (startE N.length (ds.map PV.dat)) [] = some (xs, μ) ∧ asDats xs = some es' ∧ xs.length ≤ cap ∧ d = .tuple es')
    (hb : ∀ (f : Addr) (cdv : Value) (A : Around) (outer : List PySem.Env) (s : Shared) (H : Hp) (E : XK), Room k (A.deeper (envOfC x (defScope st) s.heap.objs.size f cdv)) → MA (cxOf CX0 P w K mg base N x (defScope st) f cdv A outer s H E).nox es el) :
    DefOk P w K mg base (k + 1) x (spPT ps.length F) := by
  obtain ⟨f, fd, Fn, g, b⟩ := T
  refine ⟨f, fd, ps, Fn.ok S (fun vs H Q E h => h.1) (fun cdv A outer s H vs Q E hr h => ?_), g, Fn.kp, b⟩
  obtain ⟨hl, ds, es0, Hi, sm, hd, hFd, q⟩ := h
  obtain ⟨xs, es', μ, h1, h2, h3, h4⟩ := hF ds _ hFd
  cases h4
  rw [hbody]
  refine ⟨_, pss_one (ps_ret (pe_tupF (hb f cdv A outer s H E hr))), ?_⟩
  have R : Rl K ⟨Hi, H, fun _ => 0⟩ [] := ⟨sm, fun k o h => by simp at h, fun k o h => by simp at h, fun j k o u h => by simp at h, fun k h => by simp at h⟩
  have rp : Pvs K ⟨Hi, H, fun _ => 0⟩ 0 (ds.map PV.dat) vs := DtAll.pvs hd
  refine ⟨⟨Hi, H, fun _ => 0⟩, _, [], _, μ, rfl, R, startR rp, h1, fun ys W' R' E1 r => ⟨by rw [← r.length]; exact cap_ok h3, fun p o hp ho => ?_⟩⟩
  rw [asDats_eq h2] at r
  have sm' : Same W'.H (upd W'.H p (.frz o (.tup ys))) := fun b u e => by rw [upd_ne (ne_of_none e hp)]; exact e
  have fr : Same H W'.H := fun a o h => E1.fr a o h fun k hk => absurd hk (Nat.not_lt_zero _)
  refine q p o ys W'.Hi _ E1.im (R'.sub.trans sm') (fr.trans sm') (fun a o h h' => ?_) ho upd_same ?_ (fr.free hp) (Pvs.dt r)
  · rcases E1.nw a o h h' with z | ⟨k, hk, _⟩
    · exact z
    · exact absurd hk (Nat.not_lt_zero _)
  · cases z : W'.Hi p with
    | none => rfl
    | some u => rw [R'.sub _ _ z] at hp; cases hp
end
theorem fnP_tup {m n : Nat} {el : ArF} {ds : List PyData} {d : PyData} (h : fnP m n (sRet (eTup el)) ds = some d) : ∃ xs es' μ, el (startE m (ds.map PV.dat)) [] = some (xs, μ) ∧ asDats xs = some es' ∧ xs.length ≤ cap ∧ d = .tuple es' := by
  unfold fnP at h
  split at h
  · unfold sRet eTup eCa mkT at h
    cases q : el (startE m (ds.map PV.dat)) [] with
    | none => rw [q] at h; cases h
    | some x =>
      obtain ⟨xs, μ⟩ := x
      rw [q] at h
      simp only [Option.bind_some] at h
      by_cases hc : xs.length ≤ cap
      · rw [if_pos hc] at h
        cases q2 : asDats xs with
        | none => rw [q2] at h; cases h
        | some es => rw [q2] at h; cases h; exact ⟨xs, es, μ, rfl, q2, hc, rfl⟩
      · rw [if_neg hc] at h; cases h
  · cases h
@[simp] def pairsD : List PyData → Option (List (Key × PyData))
  | [] => some []
  | .tuple [k, v] :: r => (keyP (.dat k)).bind fun k => (pairsD r).map fun t => (k, v) :: t
  | _ :: _ => none
theorem isTup_inj {h : Heap} {a : Addr} {xs ys : Array Value} (p : IsTup h a xs) (q : IsTup h a ys) : xs = ys := by
  obtain ⟨o, e, _, n, d⟩ := p
  obtain ⟨o', e', _, n', d'⟩ := q
  rw [e] at e'; cases e'
  rw [d] at d'
  injection d'
/-- the pairs as they stand -/
theorem pairs_at {X : Cx} {pins : List (Addr × Obj)} {σ : L2.St} {H : Hp} {s : Shared} (I : L2.Inv X pins σ H s) {Hi : Hp} (sm : Same Hi H) : ∀ {es : List PyData} {ws : List V} {us : List Value} {kvs : List (Key × PyData)}, DtAll Hi ws es → Vals ws us → pairsD es = some kvs →
    ∃ (Ts : List Addr) (kws : List (Key × V)) (prs : List (Key × Value)) (raw : List (Value × Value)), us = Ts.map Value.ref ∧ DtAll Hi (kws.map (·.2)) (kvs.map (·.2)) ∧ kws.map (·.1) = kvs.map (·.1) ∧ KV kws prs ∧ raw.length = es.length ∧ prs.length = es.length ∧ Ts.length = es.length ∧
      ∀ (j : Nat) k v, raw[j]? = some (k, v) → ∃ T kk, Ts[j]? = some T ∧ IsTup s.heap T #[k, v] ∧ prs[j]? = some (kk, v) ∧ keyIs kk k = true
  | [], _, _, _, .nil, .nil, h => by cases h; exact ⟨[], [], [], [], rfl, .nil, rfl, .nil, rfl, rfl, rfl, fun j k v e => by simp at e⟩
  | e :: es, _, _, kvs, .cons (v := wv) hd tl, .cons (b := u0) r0 rr, h => by
    unfold pairsD at h
    split at h
    · rename_i z; cases z
    · rename_i k v r' z
      cases z
      simp only [Option.bind_eq_some_iff, Option.map_eq_some_iff] at h
      obtain ⟨kk, h1, t, h2, rfl⟩ := h
      obtain ⟨Ts, kws, prs, raw, e1, e2, e3, e4, e5, e6, e7, e8⟩ := pairs_at I sm tl rr h2
      cases hd with
      | @tup a xs _ ha al =>
        cases al with
        | cons dk al =>
          cases al with
          | cons dv al =>
            cases al
            rename_i vk vv
            cases r0
            obtain ⟨its, rv, it, _⟩ := I.tuple (SqT.of (sm _ _ ha))
            obtain ⟨uk, uv, rfl, ruk, ruv⟩ := Vals.two rv
            have ek : vk = kV kk := keyP_ok (K := X.K) (W := ⟨Hi, H, fun _ => 0⟩) (n := 0) (p := .dat k) dk h1
            have ik : keyIs kk uk = true := by
              subst ek
              cases kk with
              | inl i => obtain ⟨t, rfl⟩ := ruk; exact keyIs_int i t
              | inr z => obtain ⟨t, rfl⟩ := ruk; exact keyIs_str z t
            refine ⟨a :: Ts, (kk, vv) :: kws, (kk, uv) :: prs, (uk, uv) :: raw, by rw [e1]; rfl, .cons dv e2, by simp [e3], .cons ⟨rfl, ruv⟩ e4, by simp [e5], by simp [e6], by simp [e7], fun j k' v' e => ?_⟩
            cases j with
            | zero => cases e; exact ⟨a, kk, rfl, it, rfl, ik⟩
            | succ j => exact e8 j k' v' (by simpa using e)
    · cases h
theorem cr_dictT {X : Cx} (hc : X.calm = true) : CallR X (.type "dict") (fun xs H Q => ∃ p o ws es kvs Hi, xs = [V.ref p] ∧ Same Hi H ∧ o.dict = none ∧ H p = some (.frz o (.tup ws)) ∧ DtAll Hi ws es ∧ es.length ≤ cap ∧ pairsD es = some kvs ∧
    ∀ D kws, H D = none → DtAll Hi (kws.map (·.2)) (kvs.map (·.2)) → kws.map (·.1) = kvs.map (·.1) → Q (.ref D) (upd H D (.dK (mergeK [] kws)))) := by
  intro pins s σ H xs us Q I r h
  obtain ⟨p, o, ws, es, kvs, Hi, rfl, sm, ho, hp, hd, hcap, hk, q⟩ := h
  obtain ⟨u, rfl, ru⟩ := Vals.one r
  cases ru
  obtain ⟨eo, hz, its, rv, it⟩ := I.hok _ _ hp
  obtain ⟨Ts, kws, prs, raw, e1, e2, e3, e4, e5, e6, e7, e8⟩ := pairs_at I sm hd rv hk
  obtain ⟨o', eo', hcl, n, hdat⟩ := it
  rw [eo] at eo'; cases eo'
  have wl : ws.length = es.length := by
    have := Pvs.length (DtAll.pvs (K := X.K) (W := ⟨Hi, H, fun _ => 0⟩) (n := 0) hd)
    simpa using this.symm
  have PA := PairArg.tuple (prog := X.prog) (w := X.w) p its.toArray (fun j => Ts.getD j 0) raw
  have ok : PlainSeq "tuple" s.heap p its.toArray ∧ PairItems s.heap its.toArray (fun j => Ts.getD j 0) raw := by
    refine ⟨⟨o, n, eo, hcl, ho, hdat⟩, by rw [e1]; simp; omega, fun j k v e => ?_⟩
    obtain ⟨T, kk, f1, f2, f3, f4⟩ := e8 j k v e
    refine ⟨?_, .inl ?_⟩
    · rw [e1]; simp [f1]
    · have : Ts.getD j 0 = T := by rw [List.getD_eq_getElem?_getD, f1]; rfl
      show s.heap.IsTuple (Ts.getD j 0) #[k, v]
      rw [this]
      obtain ⟨ob, g1, g2, m, g3⟩ := f2
      exact ⟨ob, g1, g2, m, g3⟩
  have have' : PairsHave (mixKind X.prog X.w) raw.length (PairRel raw) prs := by
    refine ⟨by omega, fun i key v e => ?_⟩
    obtain ⟨T, kk, f1, f2, f3, f4⟩ := e8 i key v e
    exact ⟨kk, f3, f4⟩
  refine PySem.call_dict_pairs (knd := mixKind X.prog X.w) PA (I.ok.hd hc) ok have' (by rw [e5]; exact cap_ok hcap) fun h' tk hd' kp => ?_
  have hm : (s.heap.objs.size == sysModules) = false := beq_eq_false_iff_ne.mpr (Nat.ne_of_gt I.big)
  have hlen : (mergeK [] kws).length ≤ sizeLine := by
    refine Nat.le_trans (length_mergeK kws []) ?_
    have := congrArg List.length e3
    have l4 : kws.length = prs.length := Paired.length e4
    simp at this ⊢
    rw [l4, e6]; exact cap_ok hcap
  have fresh : H s.heap.objs.size = none := I.hok.fresh (Nat.le_refl _)
  refine ⟨.ref s.heap.objs.size, upd H s.heap.objs.size (.dK (mergeK [] kws)), I.laid (t' := tk) (fun b u e => kp b u (by simp) e) (Nat.le_refl _) ?_, rfl, q _ kws fresh e2 e3⟩
  exact ⟨hlen, hm, merged [] prs, KV.merge e4 .nil, hd'⟩
@[simp] def eDicT (n : Nat) (F : List PyData → Option PyData) (el : ArF) : EvF := fun ε μ => (el ε μ).bind fun x => if x.1.length = n then (asDats x.1).bind fun ds => (F ds).bind fun d => (match d with
  | .tuple es => if es.length ≤ cap then (pairsD es).map fun kvs => (.ptr x.2.length, x.2 ++ [.dic (mergeP [] (kvs.map fun p => (p.1, .dat p.2)))]) else none
  | _ => none) else none
theorem kvs_of {K : PySem.W.Frag} {W : Wd} {n : Nat} : ∀ {kvs : List (Key × PyData)} {kws : List (Key × V)}, DtAll W.Hi (kws.map (·.2)) (kvs.map (·.2)) → kws.map (·.1) = kvs.map (·.1) → Kvs K W n (kvs.map fun p => (p.1, .dat p.2)) kws
  | [], [], _, _ => .nil
  | [], _ :: _, _, h => by simp at h
  | _ :: _, [], _, h => by simp at h
  | a :: as, b :: bs, h, e => by
    simp only [List.map_cons, List.cons.injEq] at e
    cases h with
    | cons h1 h2 => exact .cons ⟨e.1.symm, h1⟩ (kvs_of h2 e.2)
section
variable {X : Cx} {k : Nat} {x : Str} {p p2 q pos : Pos} {e : Expr} {es : List Expr} {el : ArF} {n : Nat}
theorem m_dicT {F : List PyData → Option PyData} (G : DefOk X.prog X.w X.K X.mg X.base k x (spPT n F)) (hr : Room k X.A) (hc : X.calm = true) (hg : Gl X "dict") (hm : X.mg "dict" = none) (hgx : Gl X x) (ha : MA X (e :: es) el)
    (hdb : (x == ("__debug__" : Str)) = false := by decide) (he : starEach (e :: es) X.env = (false, eval e X.env) :: starEach es X.env := by rfl) (hpl : (backTo q (starEach es X.env)).any (·.1) = false := by rfl)
    (he2 : starEach (.Call (.Name x p2) (e :: es) [] q :: []) X.env = (false, eval (.Call (.Name x p2) (e :: es) [] q) X.env) :: starEach [] X.env := by rfl) (hpl2 : (backTo pos (starEach [] X.env)).any (·.1) = false := by rfl) :
    ME X (.Call (.Name "dict" p) [.Call (.Name x p2) (e :: es) [] q] [] pos) (eDicT n F el) := by
  obtain ⟨f, fd, ps, Fn, g, kp, b⟩ := G
  refine VE.m ⟨pe_callTy (cr_dictT hc) hg hm (by decide +kernel) (pa_cons (pe_call Fn hr hgx g kp b .nil pass0 ha hdb he hpl) pa_nil he2) (by decide) (by decide) he2 hpl2, fun W σ ε μ v μ' Q R En z k => ?_⟩
  unfold eDicT at z
  simp only [Option.bind_eq_some_iff] at z
  obtain ⟨⟨xs, μ1⟩, h1, h2⟩ := z
  refine adqUA W σ ε μ xs μ1 _ R En h1 fun vs W1 R1 E1 r1 => ?_
  by_cases hl : xs.length = n
  · simp only [hl, if_pos, Option.bind_eq_some_iff] at h2
    obtain ⟨ds, h3, d, h4, h5⟩ := h2
    split at h5
    · rename_i es0
      split at h5
      · rename_i hcap
        simp only [Option.map_eq_some_iff] at h5
        obtain ⟨kvs, h6, h7⟩ := h5
        cases h7
        rw [asDats_eq h3] at r1 hl
        rw [List.append_nil]
        have hl' := r1.length
        refine ⟨by simp at hl hl'; omega, ds, es0, W1.Hi, R1.sub, Pvs.dt r1, h4, fun T o ws Hi' H' s1 s2 s3 fr ho hT hTi hT0 hd => ?_⟩
        -- the world behind the call
        have E2 : Ext W1 μ1.length ⟨Hi', H', W1.at'⟩ μ1.length := ⟨s1, fun _ _ => rfl, Nat.le_refl _, fun a o h _ => s3 a o h, fun a o h h' => .inl (fr a o h h'), fun k h h' => absurd h' (Nat.not_lt.mpr h), fun a o h => ⟨o, s3 a o h⟩⟩
        have R2 : Rl X.K ⟨Hi', H', W1.at'⟩ μ1 := by
          refine ⟨s2, fun j o h => ?_, fun j o h hg => ?_, R1.inj, fun j hj => let ⟨u, e⟩ := R1.th j hj; ⟨u, s3 _ _ e⟩⟩
          · have := R1.ob j o h
            cases o with
            | gone => trivial
            | lst xs => obtain ⟨vs, e, r⟩ := this; exact ⟨vs, s3 _ _ e, r.mono E2⟩
            | dic kvs => obtain ⟨vs, e, r⟩ := this; exact ⟨vs, s3 _ _ e, r.mono E2⟩
          · have lk : j < μ1.length := (List.getElem?_eq_some_iff.mp h).1
            cases q : Hi' (W1.at' j) with
            | none => exact q
            | some u =>
              obtain ⟨u', e⟩ := R1.th j lk
              have := fr _ _ q (R1.off j o h hg)
              rw [e] at this; cases this
        refine ⟨T, o, ws, es0, kvs, Hi', rfl, s2, ho, hT, hd, hcap, h6, fun D kws hD dk' ek => ?_⟩
        have rk := kvs_of (K := X.K) (W := ⟨Hi', H', W1.at'⟩) (n := μ1.length) dk' ek
        have mk := merge_ok rk (.nil : Kvs X.K ⟨Hi', H', W1.at'⟩ μ1.length [] []) (by simp [NdK])
        obtain ⟨R3, E3⟩ := R2.own (o := .dic (mergeP [] (kvs.map fun p => (p.1, .dat p.2)))) (ho := .dK (mergeK [] kws)) hD (by simp) ⟨_, rfl, mk.1⟩
        exact k _ _ R3 ((E1.trans E2).trans E3) ⟨by simp, by simp⟩
      · cases h5
    · cases h5
  · simp only [hl, if_false] at h2; cases h2
end
end VX
namespace VX
open PySem PySem.Spec PyProof.Rows L2

section
variable {K : PySem.W.Frag} {h : Heap} {mg : Str → Option Value} {f : Addr} {name : Str} {st : Stmt} {ps : List Str} {od an : Option Addr} {sl : Array (Option Value)} {oc kV dc pm cd ct : Value}
theorem at_mk (X : K.In h) (G : h.Ns mainGlobals mg) (hb : ∀ (kV doc pm : Value) (an : Option Addr) (cdv ct : Value) (us : List Value), us.length = ps.length → bindArgs (PySem.W.fnOf name name (defArgs st) (defBody st) (defScope st) .none kV doc pm an cdv ct) ⟨us, []⟩ = pure (ps.zip us))
    (a : PySem.W.nsIn K mainGlobals name = some (some (.ref f))) (l : K.lookup f = some ⟨oc, od, .func (PySem.W.fnOf name name (defArgs st) (defBody st) (defScope st) .none kV dc pm an cd ct), sl⟩) (c : PySem.W.codeIn K cd name = true) (k : PySem.W.keepIn K (.ref f) = true) : At K mg name st ps := by
  have F := fun_mk (st := st) l c k
  exact ⟨f, _, F, PySem.W.mg_of X G a, F.binds hb⟩
end
theorem law_sp {F : List PV → Sto → Option (PV × Sto)} {K : PySem.W.Frag} {H : Hp} {a : Addr} {ns : List Int} (hF : ∃ μ, F [.scr ns] [] = some (.dat (.bool true), μ)) (hS : SqL K H a (ns.map V.int)) : spG K 1 F [.ref a] H (fun v _ => v = .bl true) fun _ _ _ => False := by
  obtain ⟨μ, hF⟩ := hF
  refine ⟨rfl, ⟨H, H, fun _ => 0⟩, [.scr ns], [], _, μ, rfl, ⟨Same.refl _, fun k o h => by simp at h, fun k o h => by simp at h, fun j k o u h => by simp at h, fun k h => by simp at h⟩, .cons ⟨a, rfl, hS⟩ .nil, hF, fun x W' R E r => rpv_bl r⟩
end VX
namespace VX
open PySem L2

/-! ### reckoning with the functions -/
theorem forD_gen {G : Sto → Bool} {tg : TgF} {b : RnF} (I : Nat → Evn → Sto → Prop) (P : Out → Prop) (items : List PV) (hG : ∀ i ε μ, I i ε μ → G μ = true)
    (step : ∀ i p ε μ, items[i]? = some p → I i ε μ → ∃ ε1 μ1 o, tg p ε μ = some (ε1, μ1) ∧ b ε1 μ1 = some o ∧ (match o with | .nx ε μ => I (i + 1) ε μ | .ct ε μ => I (i + 1) ε μ | .bk ε μ => P (.nx ε μ) | .rt v μ => P (.rt v μ)))
    (last : ∀ ε μ, I items.length ε μ → P (.nx ε μ)) {ε : Evn} {μ : Sto} (h0 : I 0 ε μ) : ∃ o, forD G tg b items ε μ = some o ∧ P o := by
  have key : ∀ (m i : Nat) (ε : Evn) (μ : Sto), i + m = items.length → I i ε μ → ∃ o, forD G tg b (items.drop i) ε μ = some o ∧ P o := by
    intro m
    induction m with
    | zero =>
      intro i ε μ em h
      rw [List.drop_eq_nil_of_le (by omega)]
      refine ⟨.nx ε μ, by simp [forD, hG i ε μ h], last ε μ ?_⟩
      rw [show items.length = i by omega]; exact h
    | succ m ih =>
      intro i ε μ em h
      have hi : i < items.length := by omega
      rw [List.drop_eq_getElem_cons hi]
      obtain ⟨ε1, μ1, o, h1, h2, h3⟩ := step i _ ε μ (List.getElem?_eq_getElem hi) h
      simp only [forD, hG i ε μ h, if_true, h1, Option.bind_some, h2]
      cases o with
      | nx ε μ => exact ih (i + 1) ε μ (by omega) h3
      | ct ε μ => exact ih (i + 1) ε μ (by omega) h3
      | bk ε μ => exact ⟨_, rfl, h3⟩
      | rt v μ => exact ⟨_, rfl, h3⟩
  simpa using key items.length 0 ε μ (by omega) h0
/-- no break, no return -/
theorem forD_all {G : Sto → Bool} {tg : TgF} {b : RnF} (I : Nat → Evn → Sto → Prop) (items : List PV) (hG : ∀ i ε μ, I i ε μ → G μ = true)
    (step : ∀ i p ε μ, items[i]? = some p → I i ε μ → ∃ ε1 μ1 ε2 μ2, tg p ε μ = some (ε1, μ1) ∧ b ε1 μ1 = some (.nx ε2 μ2) ∧ I (i + 1) ε2 μ2)
    {ε : Evn} {μ : Sto} (h0 : I 0 ε μ) : ∃ ε' μ', forD G tg b items ε μ = some (.nx ε' μ') ∧ I items.length ε' μ' := by
  obtain ⟨o, h1, ε', μ', rfl, h2⟩ := forD_gen (G := G) (tg := tg) (b := b) I (fun o => ∃ ε' μ', o = .nx ε' μ' ∧ I items.length ε' μ') items hG (fun i p ε μ hp h => by
    obtain ⟨ε1, μ1, ε2, μ2, a, b, c⟩ := step i p ε μ hp h
    exact ⟨ε1, μ1, .nx ε2 μ2, a, b, c⟩) (fun ε μ h => ⟨ε, μ, rfl, h⟩) h0
  exact ⟨ε', μ', h1, h2⟩
theorem whileN_gen {c : TsF} {b : RnF} (I : Nat → Evn → Sto → Prop) (P : Out → Prop)
    (step : ∀ m ε μ, I m ε μ → ∃ t μ1, c ε μ = some (t, μ1) ∧ (t = false → P (.nx ε μ1)) ∧ (t = true → ∃ m', m = m' + 1 ∧ ∃ o, b ε μ1 = some o ∧ (match o with | .nx ε μ => I m' ε μ | .ct ε μ => I m' ε μ | .bk ε μ => P (.nx ε μ) | .rt v μ => P (.rt v μ)))) :
    ∀ (n m : Nat) (ε : Evn) (μ : Sto), m < n → I m ε μ → ∃ o, whileN c b n ε μ = some o ∧ P o := by
  intro n
  induction n with
  | zero => intro m ε μ h; omega
  | succ n ih =>
    intro m ε μ hm h
    obtain ⟨t, μ1, h1, h2, h3⟩ := step m ε μ h
    simp only [whileN, h1, Option.bind_some]
    cases t with
    | false => exact ⟨_, rfl, h2 rfl⟩
    | true =>
      obtain ⟨m', rfl, o, h4, h5⟩ := h3 rfl
      simp only [if_true, h4, Option.bind_some]
      cases o with
      | nx ε μ => exact ih m' ε μ (by omega) h5
      | ct ε μ => exact ih m' ε μ (by omega) h5
      | bk ε μ => exact ⟨_, rfl, h5⟩
      | rt v μ => exact ⟨_, rfl, h5⟩
/-- comprehensions without a test, without owned things -/
theorem lcD_map {G : Sto → Bool} {tg : TgF} {te : EvF} {w : Evn} {μ : Sto} (f : PV → PV) : ∀ items : List PV, (∀ p ∈ items, ∃ ε, tg p w μ = some (ε, μ) ∧ te ε μ = some (f p, μ)) → G μ = true → lcD G tg tsYes te w items μ = some (items.map f, μ)
  | [], _, hG => by simp [lcD, hG]
  | p :: r, h, hG => by
    obtain ⟨ε, h1, h2⟩ := h p List.mem_cons_self
    simp [lcD, hG, h1, tsYes, h2, lcD_map f r (fun q hq => h q (List.mem_cons_of_mem _ hq)) hG]
theorem lcD_filter {G : Sto → Bool} {tg : TgF} {tt : TsF} {te : EvF} {w : Evn} {μ : Sto} (t : PV → Bool) (f : PV → PV) : ∀ items : List PV, (∀ p ∈ items, ∃ ε, tg p w μ = some (ε, μ) ∧ tt ε μ = some (t p, μ) ∧ (t p = true → te ε μ = some (f p, μ))) → G μ = true → lcD G tg tt te w items μ = some ((items.filter t).map f, μ)
  | [], _, hG => by simp [lcD, hG]
  | p :: r, h, hG => by
    obtain ⟨ε, h1, h2, h3⟩ := h p List.mem_cons_self
    have ih := lcD_filter t f r (fun q hq => h q (List.mem_cons_of_mem _ hq)) hG
    cases q : t p with
    | true => simp [lcD, hG, h1, h2, q, h3 q, ih]
    | false => simp [lcD, hG, h1, h2, q, ih]
abbrev dN (n : Nat) : PyData := .int (n : Int)
abbrev dL (ns : List Nat) : PyData := .list (ns.map fun (n : Nat) => .int (n : Int))
theorem asDats_dats (ds : List PyData) : asDats (ds.map PV.dat) = some ds := asDats_map ds
theorem okG_none {items : List PV} : okG items none = fun _ => true := rfl
theorem atI_natD {α : Type} {xs : List α} {j : Nat} (h : j < xs.length) : atI xs (j : Int) = some xs[j] := atI_nat (List.getElem?_eq_getElem h)
theorem ixN_natD {n j : Nat} (h : j < n) : ixN n (j : Int) = some j := by
  unfold ixN
  rw [if_pos (by omega), if_pos (by omega)]
  simp
end VX
namespace VX
open PySem L2

/-! ### data without truth values and dicts: == is equality -/
mutual
def nb : PyData → Bool
  | .bool _ => false
  | .dict _ => false
  | .list ds => nbs ds
  | .tuple ds => nbs ds
  | _ => true
def nbs : List PyData → Bool
  | [] => true
  | d :: ds => nb d && nbs ds
end
mutual
theorem eq_of_eqv : ∀ (d e : PyData), nb d = true → nb e = true → PyData.eqv d e = true → d = e
  | .none, e, h, h', q => by cases e <;> simp_all [PyData.eqv, nb]
  | .bool b, e, h, h', q => by simp [nb] at h
  | .dict b, e, h, h', q => by simp [nb] at h
  | .int i, e, h, h', q => by cases e <;> simp_all [PyData.eqv, nb]
  | .str i, e, h, h', q => by cases e <;> simp_all [PyData.eqv, nb]
  | .list ds, e, h, h', q => by
    cases e with
    | list es =>
      simp only [nb] at h h'
      simp only [PyData.eqv] at q
      rw [eqs_of_eqv ds es h h' q]
    | _ => simp_all [PyData.eqv, nb]
  | .tuple ds, e, h, h', q => by
    cases e with
    | tuple es =>
      simp only [nb] at h h'
      simp only [PyData.eqv] at q
      rw [eqs_of_eqv ds es h h' q]
    | _ => simp_all [PyData.eqv, nb]
theorem eqs_of_eqv : ∀ (d e : List PyData), nbs d = true → nbs e = true → PyData.eqvAll d e = true → d = e
  | [], [], _, _, _ => rfl
  | [], _ :: _, _, _, q => by simp [PyData.eqvAll] at q
  | _ :: _, [], _, _, q => by simp [PyData.eqvAll] at q
  | d :: ds, e :: es, h, h', q => by
    simp only [nbs, Bool.and_eq_true] at h h'
    simp only [PyData.eqvAll, Bool.and_eq_true] at q
    rw [eq_of_eqv d e h.1 h'.1 q.1, eqs_of_eqv ds es h.2 h'.2 q.2]
end
mutual
theorem eqv_self : ∀ d : PyData, nb d = true → PyData.eqv d d = true
  | .none, _ => by simp [PyData.eqv]
  | .bool b, h => by simp [nb] at h
  | .dict b, h => by simp [nb] at h
  | .int i, _ => by simp [PyData.eqv]
  | .str i, _ => by simp [PyData.eqv]
  | .list ds, h => by simp only [PyData.eqv]; exact eqvAll_self ds (by simpa [nb] using h)
  | .tuple ds, h => by simp only [PyData.eqv]; exact eqvAll_self ds (by simpa [nb] using h)
theorem eqvAll_self : ∀ d : List PyData, nbs d = true → PyData.eqvAll d d = true
  | [], _ => by simp [PyData.eqvAll]
  | d :: ds, h => by
    simp only [nbs, Bool.and_eq_true] at h
    simp only [PyData.eqvAll, Bool.and_eq_true]
    exact ⟨eqv_self d h.1, eqvAll_self ds h.2⟩
end
theorem eqv_iff {d e : PyData} (h : nb d = true) (h' : nb e = true) : PyData.eqv d e = true ↔ d = e := ⟨eq_of_eqv d e h h', fun q => by rw [q]; exact eqv_self e h'⟩
open Classical in
theorem eqv_dec {d e : PyData} (h : nb d = true) (h' : nb e = true) : PyData.eqv d e = decide (d = e) := by
  by_cases q : d = e
  · rw [decide_eq_true q]; exact (eqv_iff h h').mpr q
  · rw [decide_eq_false q]
    cases z : PyData.eqv d e with
    | false => rfl
    | true => exact absurd ((eqv_iff h h').mp z) q
/-! shapes -/
def Sd (n : Nat) (d : PyData) : Prop := d.canLay0 = true ∧ d.depth ≤ n
def Sds (n : Nat) (ds : List PyData) : Prop := PyData.canLayAll0 ds = true ∧ PyData.depthAll ds ≤ n
theorem sds_nil {n : Nat} : Sds n [] := ⟨by simp [PyData.canLayAll0], by simp [PyData.depthAll]⟩
theorem sds_cons {n : Nat} {d : PyData} {ds : List PyData} (h : Sd n d) (h' : Sds n ds) : Sds n (d :: ds) := ⟨by simp [PyData.canLayAll0, h.1, h'.1], by simp only [PyData.depthAll]; have := h.2; have := h'.2; omega⟩
theorem sds_all {n : Nat} : ∀ {ds : List PyData}, (∀ d ∈ ds, Sd n d) → Sds n ds
  | [], _ => sds_nil
  | d :: ds, h => sds_cons (h d List.mem_cons_self) (sds_all fun e he => h e (List.mem_cons_of_mem _ he))
theorem sd_int {n : Nat} {i : Int} : Sd n (.int i) := ⟨by simp [PyData.canLay0], by simp [PyData.depth]⟩
theorem sd_non {n : Nat} : Sd n .none := ⟨by simp [PyData.canLay0], by simp [PyData.depth]⟩
theorem sd_list {n : Nat} {ds : List PyData} (h : Sds n ds) : Sd (n + 1) (.list ds) := ⟨by simp [PyData.canLay0, h.1], by simp only [PyData.depth]; have := h.2; omega⟩
theorem sd_tup {n : Nat} {ds : List PyData} (h : Sds n ds) : Sd (n + 1) (.tuple ds) := ⟨by simp [PyData.canLay0, h.1], by simp only [PyData.depth]; have := h.2; omega⟩
theorem Sd.shaped {n : Nat} {d : PyData} (h : Sd n d) (hn : n ≤ 64) : SeqAt.shaped d = true := by
  unfold SeqAt.shaped
  rw [h.1]
  simp only [Bool.true_and, decide_eq_true_eq]
  exact Nat.le_trans h.2 hn
@[simp] theorem shaped_int {i : Int} : SeqAt.shaped (.int i) = true := (sd_int (n := 0)).shaped (by decide)
@[simp] theorem shaped_non : SeqAt.shaped .none = true := (sd_non (n := 0)).shaped (by decide)

/-! ### lists of numbers, sealed -/
def iL (ns : List Nat) : List PyData := ns.map fun (n : Nat) => .int (n : Int)
def oL (ns : List Nat) : List PV := ns.map fun (n : Nat) => .dat (.int (n : Int))
def iZ (ns : List Int) : List PyData := ns.map fun n => .int n
def oZ (ns : List Int) : List PV := ns.map fun n => .dat (.int n)
def toZ (ns : List Nat) : List Int := ns.map fun (n : Nat) => (n : Int)
def g0 (ns : List Nat) (j : Nat) : Nat := ns.getD j 0
def z0 (ns : List Int) (j : Nat) : Int := ns.getD j 0
theorem iL_iZ (ns : List Nat) : iL ns = iZ (toZ ns) := by simp [iL, iZ, toZ]
@[simp] theorem map_iL (ns : List Nat) : (iL ns).map PV.dat = oL ns := by simp [iL, oL]
@[simp] theorem map_iZ (ns : List Int) : (iZ ns).map PV.dat = oZ ns := by simp [iZ, oZ]
@[simp] theorem len_iL (ns : List Nat) : (iL ns).length = ns.length := by simp [iL]
@[simp] theorem len_oL (ns : List Nat) : (oL ns).length = ns.length := by simp [oL]
@[simp] theorem len_iZ (ns : List Int) : (iZ ns).length = ns.length := by simp [iZ]
@[simp] theorem len_oZ (ns : List Int) : (oZ ns).length = ns.length := by simp [oZ]
@[simp] theorem len_toZ (ns : List Nat) : (toZ ns).length = ns.length := by simp [toZ]
@[simp] theorem asDats_oL (ns : List Nat) : asDats (oL ns) = some (iL ns) := by rw [← map_iL, asDats_map]
@[simp] theorem asDats_oZ (ns : List Int) : asDats (oZ ns) = some (iZ ns) := by rw [← map_iZ, asDats_map]
@[simp] theorem asInts_oZ (ns : List Int) : asInts (oZ ns) = some ns := asInts_map ns
@[simp] theorem asInts_oL (ns : List Nat) : asInts (oL ns) = some (toZ ns) := by
  have := asInts_map (toZ ns)
  simpa [oL, toZ, Function.comp_def] using this
@[simp] theorem oL_snoc (ns : List Nat) (n : Nat) : oL ns ++ [PV.dat (.int (n : Int))] = oL (ns ++ [n]) := by simp [oL]
@[simp] theorem oL_app (ns ms : List Nat) : oL ns ++ oL ms = oL (ns ++ ms) := by simp [oL]
@[simp] theorem oZ_app (ns ms : List Int) : oZ ns ++ oZ ms = oZ (ns ++ ms) := by simp [oZ]
theorem oL_nil : oL [] = [] := rfl
theorem oL_one (n : Nat) : oL [n] = [PV.dat (.int (n : Int))] := rfl
@[simp] theorem oL_set (ns : List Nat) (i n : Nat) : (oL ns).set i (PV.dat (.int (n : Int))) = oL (ns.set i n) := by simp [oL, List.map_set]
theorem g0_of {xs : List Nat} {j : Nat} (h : j < xs.length) : g0 xs j = xs[j] := by simp [g0, List.getElem?_eq_getElem h]
theorem z0_of {xs : List Int} {j : Nat} (h : j < xs.length) : z0 xs j = xs[j] := by simp [z0, List.getElem?_eq_getElem h]
theorem at_oL {ns : List Nat} {j : Nat} (h : j < ns.length) : L2.atI (oL ns) (j : Int) = some (PV.dat (.int ((g0 ns j : Nat) : Int))) := by
  rw [atI_natD (by simpa using h)]
  simp [oL, g0_of h]
theorem at_oZ {ns : List Int} {j : Nat} (h : j < ns.length) : L2.atI (oZ ns) (j : Int) = some (PV.dat (.int (z0 ns j))) := by
  rw [atI_natD (by simpa using h)]
  simp [oZ, z0_of h]
theorem nbs_iZ : ∀ ns : List Int, nbs (iZ ns) = true
  | [] => rfl
  | n :: ns => by
    have := nbs_iZ ns
    simpa [iZ, nbs, nb] using this
theorem nbs_iL (ns : List Nat) : nbs (iL ns) = true := by rw [iL_iZ]; exact nbs_iZ _
@[simp] theorem nb_iZ (ns : List Int) : nb (.list (iZ ns)) = true := by simp only [nb]; exact nbs_iZ ns
@[simp] theorem nb_iL (ns : List Nat) : nb (.list (iL ns)) = true := by simp only [nb]; exact nbs_iL ns
theorem sds_iZ {n : Nat} (ns : List Int) : Sds n (iZ ns) := sds_all fun d hd => by
  obtain ⟨i, _, rfl⟩ := List.mem_map.mp hd
  exact sd_int
theorem sds_iL {n : Nat} (ns : List Nat) : Sds n (iL ns) := by rw [iL_iZ]; exact sds_iZ _
@[simp] theorem shaped_iZ (ns : List Int) : SeqAt.shaped (.list (iZ ns)) = true := (sd_list (n := 0) (sds_iZ ns)).shaped (by decide)
@[simp] theorem shaped_iL (ns : List Nat) : SeqAt.shaped (.list (iL ns)) = true := (sd_list (n := 0) (sds_iL ns)).shaped (by decide)
theorem iZ_inj {a b : List Int} (h : iZ a = iZ b) : a = b := by
  induction a generalizing b with
  | nil => cases b with
    | nil => rfl
    | cons y ys => simp [iZ] at h
  | cons x xs ih => cases b with
    | nil => simp [iZ] at h
    | cons y ys =>
      simp only [iZ, List.map_cons, List.cons.injEq, PyData.int.injEq] at h
      rw [h.1, ih h.2]
theorem toZ_inj {a b : List Nat} (h : toZ a = toZ b) : a = b := by
  induction a generalizing b with
  | nil => cases b with
    | nil => rfl
    | cons y ys => simp [toZ] at h
  | cons x xs ih => cases b with
    | nil => simp [toZ] at h
    | cons y ys =>
      simp only [toZ, List.map_cons, List.cons.injEq] at h
      rw [Int.ofNat.inj h.1, ih h.2]
@[simp] theorem eqv_iZ (a b : List Int) : PyData.eqv (.list (iZ a)) (.list (iZ b)) = decide (a = b) := by
  by_cases q : a = b
  · rw [decide_eq_true q, q]; exact eqv_self _ (nb_iZ b)
  · rw [decide_eq_false q]
    cases z : PyData.eqv (.list (iZ a)) (.list (iZ b)) with
    | false => rfl
    | true => exact absurd (iZ_inj (PyData.list.inj (eq_of_eqv _ _ (nb_iZ a) (nb_iZ b) z))) q
@[simp] theorem eqv_iL (a b : List Nat) : PyData.eqv (.list (iL a)) (.list (iL b)) = decide (a = b) := by
  rw [iL_iZ, iL_iZ, eqv_iZ]
  by_cases q : a = b
  · simp [q]
  · rw [decide_eq_false q, decide_eq_false fun z => q (toZ_inj z)]
@[simp] theorem eqv_ints (a b : Int) : PyData.eqv (.int a) (.int b) = decide (a = b) := by simp [PyData.eqv]; rfl
@[simp] theorem any_iZ (a : List Int) (k : Int) : ((iZ a).any fun z => PyData.eqv z (.int k)) = decide (k ∈ a) := by
  induction a with
  | nil => simp [iZ]
  | cons x xs ih =>
    have e : iZ (x :: xs) = .int x :: iZ xs := rfl
    rw [e, List.any_cons, ih, eqv_ints]
    by_cases q : k = x
    · simp [q]
    · have q' : ¬ x = k := fun z => q z.symm
      simp [q, q']
@[simp] theorem mem_toZ {a : List Nat} {k : Nat} : (k : Int) ∈ toZ a ↔ k ∈ a := by
  unfold toZ
  rw [List.mem_map]
  constructor
  · rintro ⟨x, hx, e⟩; rw [← Int.ofNat.inj e]; exact hx
  · exact fun h => ⟨k, h, rfl⟩
@[simp] theorem any_iL (a : List Nat) (k : Nat) : ((iL a).any fun z => PyData.eqv z (.int (k : Int))) = decide (k ∈ a) := by
  rw [iL_iZ, any_iZ]
  by_cases q : k ∈ a
  · rw [decide_eq_true q, decide_eq_true (mem_toZ.mpr q)]
  · rw [decide_eq_false q, decide_eq_false fun z => q (mem_toZ.mp z)]
@[simp] theorem enum_len (ds : List PyData) : (enumD ds).length = ds.length := by simp [enumD]
theorem enum_get {ds : List PyData} {i : Nat} {p : PV} (h : ((enumD ds).map PV.dat)[i]? = some p) : ∃ d, ds[i]? = some d ∧ p = .dat (.tuple [.int (i : Int), d]) := by
  unfold enumD at h
  rw [List.getElem?_map, List.getElem?_map, List.getElem?_zipIdx] at h
  cases q : ds[i]? with
  | none => rw [q] at h; cases h
  | some d => rw [q] at h; cases h; exact ⟨d, rfl, by simp⟩
theorem get_oL {ns : List Nat} {i : Nat} {p : PV} (h : (oL ns)[i]? = some p) : i < ns.length ∧ p = .dat (.int ((g0 ns i : Nat) : Int)) := by
  have hi : i < ns.length := by simpa using (List.getElem?_eq_some_iff.mp h).1
  refine ⟨hi, ?_⟩
  simp only [oL, List.getElem?_map, List.getElem?_eq_getElem hi, Option.map_some, Option.some.injEq] at h
  rw [g0_of hi]; exact h.symm
theorem get_iL {ns : List Nat} {i : Nat} {p : PyData} (h : (iL ns)[i]? = some p) : i < ns.length ∧ p = .int ((g0 ns i : Nat) : Int) := by
  have hi : i < ns.length := by simpa using (List.getElem?_eq_some_iff.mp h).1
  refine ⟨hi, ?_⟩
  simp only [iL, List.getElem?_map, List.getElem?_eq_getElem hi, Option.map_some, Option.some.injEq] at h
  rw [g0_of hi]; exact h.symm
end VX
namespace CM
open PySem L2 VX
/-! turned_back (k66) -/
def B1_turned_back : RnF := sAsg (eVar 2) (tgSub (eVar 1) (eVar 3))
def L1_turned_back : RnF := sFor (srcEnA (aCons (eVar 0) (aNil))) (tgT 2 (tgsCons (tgN 2) (tgsCons (tgN 3) (tgsNil)))) B1_turned_back
def r_turned_back : RnF := sSeq (sSet 1 (eOp (fMul true) (eLst false (aCons (eC (.int 0)) (aNil))) (eCa fLen (aCons (eVar 0) (aNil))))) (sSeq (L1_turned_back) (sRet (eFrz (eVar 1))))
def F_turned_back : List PyData → Option PyData := fnP 4 1 r_turned_back
/-! left (k66) -/
def r_left : RnF := sRet (eCallP 1 F_turned_back (aCons (eOp fIx (eVar 0) (eC (.int 1))) (aNil)))
def F_left : List PyData → Option PyData := fnP 1 1 r_left
/-! down (k66) -/
def r_down : RnF := sRet (eCallP 1 F_turned_back (aCons (eOp fIx (eVar 0) (eC (.int 2))) (aNil)))
def F_down : List PyData → Option PyData := fnP 1 1 r_down
/-! near_lists (k66) -/
def r_near_lists : RnF := sRet (eTup (aCons (eTup (aCons (eC (.str "r")) (aCons (eOp fIx (eVar 0) (eC (.int 1))) (aNil)))) (aCons (eTup (aCons (eC (.str "l")) (aCons (eCallP 1 F_left (aCons (eVar 0) (aNil))) (aNil)))) (aCons (eTup (aCons (eC (.str "u")) (aCons (eOp fIx (eVar 0) (eC (.int 2))) (aNil)))) (aCons (eTup (aCons (eC (.str "d")) (aCons (eCallP 1 F_down (aCons (eVar 0) (aNil))) (aNil)))) (aNil))))))
def F_near_lists : List PyData → Option PyData := fnP 1 1 r_near_lists
/-! pool_of (k66) -/
def B1_pool_of : RnF := sSeq (sSet 8 (eOp fIx (eVar 7) (eOp fIx (eVar 4) (eVar 5)))) (sIf (tsAnd (tsE (eOp fLe (eOp fIx (eVar 1) (eVar 8)) (eVar 3))) (tsE (eOp (fIn true) (eVar 8) (eVar 4)))) (sExpr (eLM fApp (eVar 4) (aCons (eVar 8) (aNil)))) (sNil))
def L1_pool_of : RnF := sFor (srcSeq (eCallP 1 F_near_lists (aCons (eVar 0) (aNil)))) (tgT 2 (tgsCons (tgN 6) (tgsCons (tgN 7) (tgsNil)))) B1_pool_of
def B2_pool_of : RnF := sSeq (L1_pool_of) (sSet 5 (eOp (fAdd false) (eVar 5) (eC (.int 1))))
def L2_pool_of : RnF := whileN (tsE (eOp fLt (eVar 5) (eCa fLen (aCons (eVar 4) (aNil))))) B2_pool_of 2000
def r_pool_of : RnF := sSeq (sSet 4 (eIf (tsE (eOp fLe (eOp fIx (eVar 1) (eVar 2)) (eVar 3))) (eLst true (aCons (eVar 2) (aNil))) (eLst true (aNil)))) (sSeq (sSet 5 (eC (.int 0))) (sSeq (L2_pool_of) (sRet (eCa (fSorted false) (aCons (eVar 4) (aNil))))))
def F_pool_of : List PyData → Option PyData := fnP 9 4 r_pool_of
/-! word_within (k66) -/
def B1_word_within : RnF := sIf (tsAnd (tsE (eOp fLe (eOp fIx (eVar 1) (eOp fIx (eVar 9) (eVar 7))) (eVar 4))) (tsE (eDIn true (eOp fIx (eVar 9) (eVar 7)) (eVar 5)))) (sSeq (sDPut (eVar 5) (eOp fIx (eVar 9) (eVar 7)) (eOp (fAdd false) (eDGet (eVar 5) (eVar 7)) (eVar 8))) (sExpr (eLM fApp (eVar 6) (aCons (eOp fIx (eVar 9) (eVar 7)) (aNil))))) (sNil)
def L1_word_within : RnF := sFor (srcSeq (eCallP 1 F_near_lists (aCons (eVar 0) (aNil)))) (tgT 2 (tgsCons (tgN 8) (tgsCons (tgN 9) (tgsNil)))) B1_word_within
def B2_word_within : RnF := sSeq (sSet 7 (eLM fPopAt (eVar 6) (aCons (eC (.int 0)) (aNil)))) (L1_word_within)
def L2_word_within : RnF := whileN (tsTru (eVar 6)) B2_word_within 2000
def r_word_within : RnF := sSeq (sSet 5 (eDic (prCons (eVar 2) (eC (.str "")) (prNil)))) (sSeq (sSet 6 (eLst true (aCons (eVar 2) (aNil)))) (sSeq (L2_word_within) (sRet (eDGet (eVar 5) (eVar 3)))))
def F_word_within : List PyData → Option PyData := fnP 10 5 r_word_within
/-! lowest_pass (k66) -/
def C1_lowest_pass : EvF := eLc false (srcSeq (eVar 1)) (tgN 6) (tsE (eOp fLt (eVar 6) (eVar 4))) (eVar 6) [6]
def B1_lowest_pass : RnF := sIf (tsE (eOp (fIn false) (eVar 3) (eCallP 4 F_pool_of (aCons (eVar 0) (aCons (eVar 1) (aCons (eVar 2) (aCons (eVar 4) (aNil)))))))) (sSeq (sSet 5 (C1_lowest_pass)) (sSeq (sSet 7 (eIf (tsTru (eVar 5)) (eCallP 4 F_pool_of (aCons (eVar 0) (aCons (eVar 1) (aCons (eVar 2) (aCons (eCa fMax (aCons (eVar 5) (aNil))) (aNil)))))) (eLst false (aNil)))) (sRet (eTup (aCons (eVar 4) (aCons (eCallP 5 F_word_within (aCons (eVar 0) (aCons (eVar 1) (aCons (eVar 2) (aCons (eVar 3) (aCons (eVar 4) (aNil))))))) (aCons (eVar 7) (aNil)))))))) (sNil)
def L1_lowest_pass : RnF := sFor (srcSeq (eSortSet false (aCons (eVar 1) (aNil)))) (tgN 4) B1_lowest_pass
def r_lowest_pass : RnF := sSeq (L1_lowest_pass) (sRet (eC .none))
def F_lowest_pass : List PyData → Option PyData := fnP 8 4 r_lowest_pass
/-! lowest_pass_fault (k66) -/
def B1_lowest_pass_fault : RnF := sSeq (sIf (tsE (eDIn true (eVar 12) (eVar 8))) (sRet (eTup (aCons (eC (.str "sign")) (aCons (eVar 11) (aNil))))) (sNil)) (sSeq (sSet 9 (eOp fIx (eDGet (eVar 8) (eVar 12)) (eVar 9))) (sSet 10 (eCa fMax (aCons (eVar 10) (aCons (eOp fIx (eVar 1) (eVar 9)) (aNil))))))
def L1_lowest_pass_fault : RnF := sFor (srcEnA (aCons (eVar 6) (aNil))) (tgT 2 (tgsCons (tgN 11) (tgsCons (tgN 12) (tgsNil)))) B1_lowest_pass_fault
def C1_lowest_pass_fault : EvF := eLc false (srcSeq (eVar 7)) (tgN 13) (tsYes) (eCh fLe fLt (eC (.int 0)) (eVar 13) (eCa fLen (aCons (eVar 1) (aNil)))) [13]
def B2_lowest_pass_fault : RnF := sIf (tsAnd (tsE (eOp (fIn true) (eOp fIx (eVar 14) (eVar 13)) (eVar 7))) (tsE (eOp fLt (eOp fIx (eVar 1) (eOp fIx (eVar 14) (eVar 13))) (eVar 5)))) (sRet (eTup (aCons (eC (.str "leak")) (aCons (eVar 13) (aNil))))) (sNil)
def L2_lowest_pass_fault : RnF := sFor (srcSeq (eCallP 1 F_near_lists (aCons (eVar 0) (aNil)))) (tgT 2 (tgsCons (tgN 12) (tgsCons (tgN 14) (tgsNil)))) B2_lowest_pass_fault
def B3_lowest_pass_fault : RnF := sSeq (sIf (tsE (eOp fGe (eOp fIx (eVar 1) (eVar 13)) (eVar 5))) (sRet (eTup (aCons (eC (.str "high")) (aCons (eVar 13) (aNil))))) (sNil)) (L2_lowest_pass_fault)
def L3_lowest_pass_fault : RnF := sFor (srcSeq (eVar 7)) (tgN 13) B3_lowest_pass_fault
def r_lowest_pass_fault : RnF := sSeq (sAsg (eVar 4) (tgT 3 (tgsCons (tgN 5) (tgsCons (tgN 6) (tgsCons (tgN 7) (tgsNil)))))) (sSeq (sSet 8 (eDicT 1 F_near_lists (aCons (eVar 0) (aNil)))) (sSeq (sSet 9 (eVar 2)) (sSeq (sSet 10 (eOp fIx (eVar 1) (eVar 2))) (sSeq (L1_lowest_pass_fault) (sSeq (sIf (tsE (eOp (fEq true) (eVar 9) (eVar 3))) (sRet (eTup (aCons (eC (.str "end")) (aNil)))) (sNil)) (sSeq (sIf (tsE (eOp (fEq true) (eVar 10) (eVar 5))) (sRet (eTup (aCons (eC (.str "level")) (aNil)))) (sNil)) (sSeq (sIf (tsOr (tsE (eOp (fEq true) (eVar 7) (eSortSet false (aCons (eVar 7) (aNil))))) (tsNot (tsTru (eCa fAll (aCons (C1_lowest_pass_fault) (aNil)))))) (sRet (eTup (aCons (eC (.str "pool")) (aNil)))) (sNil)) (sSeq (sIf (tsOr (tsE (eOp (fEq false) (eVar 5) (eOp fIx (eVar 1) (eVar 2)))) (tsE (eOp (fEq false) (eVar 5) (eOp fIx (eVar 1) (eVar 3))))) (sRet (eC .none)) (sNil)) (sSeq (sIf (tsOr (tsE (eOp (fIn true) (eVar 2) (eVar 7))) (tsE (eOp (fIn false) (eVar 3) (eVar 7)))) (sRet (eTup (aCons (eC (.str "ends")) (aNil)))) (sNil)) (sSeq (L3_lowest_pass_fault) (sRet (eC .none))))))))))))
def F_lowest_pass_fault : List PyData → Option PyData := fnP 15 5 r_lowest_pass_fault
/-! pools (k66) -/
def C1_pools : EvF := eLc false (srcSeq (eVar 3)) (tgN 5) (tsYes) (eOp (fIn false) (eVar 4) (eVar 5)) [5]
def B1_pools : RnF := sIf (tsAnd (tsE (eOp fLe (eOp fIx (eVar 1) (eVar 4)) (eVar 2))) (tsNot (tsTru (eCa fAny (aCons (C1_pools) (aNil)))))) (sExpr (eLM fApp (eVar 3) (aCons (eCallP 4 F_pool_of (aCons (eVar 0) (aCons (eVar 1) (aCons (eVar 4) (aCons (eVar 2) (aNil)))))) (aNil)))) (sNil)
def L1_pools : RnF := sFor (srcR1 (aCons (eCa fLen (aCons (eVar 1) (aNil))) (aNil))) (tgN 4) B1_pools
def r_pools : RnF := sSeq (sSet 3 (eLst true (aNil))) (sSeq (L1_pools) (sRet (eFrz (eVar 3))))
def F_pools : List PyData → Option PyData := fnP 6 3 r_pools
/-! _law_state (k66) -/
def C1__law_state : EvF := eLc true (srcSeq (eSl false (eVar 0) (poN) (poE (eC (.int 63))))) (tgN 2) (tsYes) (eCa fAbs (aCons (eVar 2) (aNil))) [2]
def r__law_state : RnF := sSeq (sSet 1 (C1__law_state)) (sSeq (sIf (tsE (eOp (fEq false) (eCa fLen (aCons (eVar 1) (aNil))) (eC (.int 0)))) (sSet 1 (eLst true (aCons (eC (.int 0)) (aNil)))) (sNil)) (sRet (eLst true (aCons (eC (.int 0)) (aCons (eVar 1) (aNil))))))
def F__law_state : List PV → Sto → Option (PV × Sto) := fnG 3 1 r__law_state
/-! _law_take (k66) -/
def r__law_take : RnF := sSeq (sSet 2 (eOp fIx (eVar 0) (eC (.int 1)))) (sSeq (sSet 3 (eOp fMod (eOp fIx (eVar 0) (eC (.int 0))) (eCa fLen (aCons (eVar 2) (aNil))))) (sSeq (sSet 4 (eOp fIx (eVar 2) (eVar 3))) (sSeq (sIf (tsE (eOp fGe (eVar 4) (eC (.int 1000000000000000000)))) (sSeq (sAsg (eOp fDiv (eVar 4) (eVar 1)) (tgSub (eVar 2) (eVar 3))) (sRet (eOp fMod (eVar 4) (eVar 1)))) (sNil)) (sSeq (sAsg (eOp (fAdd false) (eOp fIx (eVar 0) (eC (.int 0))) (eC (.int 1))) (tgSub (eVar 0) (eC (.int 0)))) (sSeq (sSet 5 (eOp fMod (eCa fInt (aCons (eOp (fAdd false) (eOp (fMul false) (eVar 4) (eC (.int 48271))) (eOp (fMul false) (eOp fIx (eVar 0) (eC (.int 0))) (eC (.int 69621)))) (aNil))) (eC (.int 2147483647)))) (sSeq (sSet 5 (eOp fMod (eCa fInt (aCons (eOp (fAdd false) (eOp (fMul false) (eVar 5) (eC (.int 16807))) (eOp (fMul false) (eOp fIx (eVar 0) (eC (.int 0))) (eC (.int 7919)))) (aNil))) (eC (.int 1000000007)))) (sRet (eOp fMod (eOp fDiv (eVar 5) (eC (.int 7))) (eVar 1)))))))))
def F__law_take : List PV → Sto → Option (PV × Sto) := fnG 6 2 r__law_take
/-! _law_floor (k66) -/
def B1__law_floor : RnF := sSeq (sPar 5 6 (aCons (eCallG 2 F__law_take (aCons (eVar 0) (aCons (eOp (fAdd false) (eVar 4) (eC (.int 1))) (aNil)))) (aCons (eCallG 2 F__law_take (aCons (eVar 0) (aCons (eOp (fAdd false) (eVar 4) (eC (.int 1))) (aNil)))) (aNil)))) (sSeq (sSet 5 (eIf (tsAnd (tsE (eOp (fEq false) (eVar 5) (eVar 4))) (tsE (eOp (fEq false) (eVar 6) (eVar 4)))) (eC (.int 0)) (eVar 5))) (sSeq (sPar 2 3 (aCons (eOp (fAdd true) (eVar 2) (eLst false (aCons (eVar 4) (aNil)))) (aCons (eOp (fAdd true) (eVar 3) (eLst false (aCons (eVar 4) (aNil)))) (aNil)))) (sSeq (sIf (tsE (eOp fLt (eVar 5) (eVar 4))) (sAsgT 2 (aCons (eOp fIx (eVar 2) (eVar 5)) (aCons (eVar 4) (aNil))) (tgsCons (tgSub (eVar 2) (eVar 4)) (tgsCons (tgSub (eVar 2) (eVar 5)) (tgsNil)))) (sNil)) (sIf (tsE (eOp fLt (eVar 6) (eVar 4))) (sAsgT 2 (aCons (eOp fIx (eVar 3) (eVar 6)) (aCons (eVar 4) (aNil))) (tgsCons (tgSub (eVar 3) (eVar 4)) (tgsCons (tgSub (eVar 3) (eVar 6)) (tgsNil)))) (sNil)))))
def L1__law_floor : RnF := sFor (srcR2 (aCons (eC (.int 1)) (aCons (eOp (fAdd false) (eC (.int 1)) (eCallG 2 F__law_take (aCons (eVar 0) (aCons (eVar 1) (aNil))))) (aNil)))) (tgN 4) B1__law_floor
def r__law_floor : RnF := sSeq (sPar 2 3 (aCons (eLst true (aCons (eC (.int 0)) (aNil))) (aCons (eLst true (aCons (eC (.int 0)) (aNil))) (aNil)))) (sSeq (L1__law_floor) (sRet (eTup (aCons (eC (.str "floor")) (aCons (eFrz (eVar 2)) (aCons (eFrz (eVar 3)) (aNil)))))))
def F__law_floor : List PV → Sto → Option (PV × Sto) := fnG 7 2 r__law_floor
/-! _law_lists (k66) -/
def B1__law_lists : RnF := sSeq (sAsg (eVar 3) (tgSub (eDGet (eVar 2) (eC (.str "l"))) (eOp fIx (eOp fIx (eVar 0) (eC (.int 1))) (eVar 3)))) (sAsg (eVar 3) (tgSub (eDGet (eVar 2) (eC (.str "d"))) (eOp fIx (eOp fIx (eVar 0) (eC (.int 2))) (eVar 3))))
def L1__law_lists : RnF := sFor (srcR1 (aCons (eVar 1) (aNil))) (tgN 3) B1__law_lists
def r__law_lists : RnF := sSeq (sSet 1 (eCa fLen (aCons (eOp fIx (eVar 0) (eC (.int 1))) (aNil)))) (sSeq (sSet 2 (eDic (prCons (eC (.str "r")) (eOp fIx (eVar 0) (eC (.int 1))) (prCons (eC (.str "u")) (eOp fIx (eVar 0) (eC (.int 2))) (prCons (eC (.str "l")) (eOp (fMul true) (eLst false (aCons (eC (.int 0)) (aNil))) (eVar 1)) (prCons (eC (.str "d")) (eOp (fMul true) (eLst false (aCons (eC (.int 0)) (aNil))) (eVar 1)) (prNil))))))) (sSeq (L1__law_lists) (sRet (eVar 2))))
def F__law_lists : List PV → Sto → Option (PV × Sto) := fnG 4 1 r__law_lists
/-! _law_pool (k66) -/
def B1__law_pool : RnF := sSeq (sSet 9 (eOp fIx (eDGet (eVar 4) (eVar 8)) (eVar 7))) (sSet 5 (eIf (tsAnd (tsE (eOp fLe (eOp fIx (eVar 1) (eVar 9)) (eVar 3))) (tsE (eOp (fIn true) (eVar 9) (eVar 5)))) (eOp (fAdd false) (eVar 5) (eLst false (aCons (eVar 9) (aNil)))) (eVar 5)))
def L1__law_pool : RnF := sFor (srcSeq (eC (.str "rlud"))) (tgN 8) B1__law_pool
def B2__law_pool : RnF := L1__law_pool
def L2__law_pool : RnF := sFor (srcSeq (eSl false (eVar 5) (poN) (poE (eVar 6)))) (tgN 7) B2__law_pool
def B3__law_pool : RnF := sSeq (sSet 6 (eCa fLen (aCons (eVar 5) (aNil)))) (L2__law_pool)
def L3__law_pool : RnF := whileN (tsE (eOp fLt (eVar 6) (eCa fLen (aCons (eVar 5) (aNil))))) B3__law_pool 2000
def r__law_pool : RnF := sSeq (sPar3 4 5 6 (aCons (eCallG 1 F__law_lists (aCons (eVar 0) (aNil))) (aCons (eIf (tsE (eOp fLe (eOp fIx (eVar 1) (eVar 2)) (eVar 3))) (eLst false (aCons (eVar 2) (aNil))) (eLst false (aNil))) (aCons (eOp fSub (eC (.int 0)) (eC (.int 1))) (aNil))))) (sSeq (L3__law_pool) (sRet (eCa (fSorted false) (aCons (eVar 5) (aNil)))))
def F__law_pool : List PyData → Option PyData := fnP 10 4 r__law_pool
/-! _law_fault (k66) -/
def B1__law_fault : RnF := sSeq (sIf (tsE (eOp (fIn true) (eOp fIx (eVar 6) (eVar 11)) (eLst false (aCons (eC (.str "r")) (aCons (eC (.str "l")) (aCons (eC (.str "u")) (aCons (eC (.str "d")) (aNil)))))))) (sRet (eTup (aCons (eC (.str "sign")) (aCons (eVar 11) (aNil))))) (sNil)) (sSeq (sSet 9 (eOp fIx (eDGet (eVar 8) (eOp fIx (eVar 6) (eVar 11))) (eVar 9))) (sSet 10 (eCa fMax (aCons (eVar 10) (aCons (eOp fIx (eVar 1) (eVar 9)) (aNil))))))
def L1__law_fault : RnF := sFor (srcR1 (aCons (eCa fLen (aCons (eVar 6) (aNil))) (aNil))) (tgN 11) B1__law_fault
def C1__law_fault : EvF := eLc false (srcSeq (eVar 7)) (tgN 12) (tsNot (tsE (eCh fLe fLt (eC (.int 0)) (eVar 12) (eCa fLen (aCons (eVar 1) (aNil)))))) (eVar 12) [12]
def C2__law_fault : EvF := eLc false (srcSeq (eC (.str "rlud"))) (tgN 13) (tsAnd (tsE (eOp (fIn true) (eOp fIx (eDGet (eVar 8) (eVar 13)) (eVar 12)) (eVar 7))) (tsE (eOp fLt (eOp fIx (eVar 1) (eOp fIx (eDGet (eVar 8) (eVar 13)) (eVar 12))) (eVar 5)))) (eVar 13) [13]
def B2__law_fault : RnF := sSeq (sIf (tsE (eOp fGe (eOp fIx (eVar 1) (eVar 12)) (eVar 5))) (sRet (eTup (aCons (eC (.str "high")) (aCons (eVar 12) (aNil))))) (sNil)) (sIf (tsE (eOp fGt (eCa fLen (aCons (C2__law_fault) (aNil))) (eC (.int 0)))) (sRet (eTup (aCons (eC (.str "leak")) (aCons (eVar 12) (aNil))))) (sNil))
def L2__law_fault : RnF := sFor (srcSeq (eVar 7)) (tgN 12) B2__law_fault
def r__law_fault : RnF := sSeq (sAsg (eVar 4) (tgT 3 (tgsCons (tgN 5) (tgsCons (tgN 6) (tgsCons (tgN 7) (tgsNil)))))) (sSeq (sAsgT 3 (aCons (eCallG 1 F__law_lists (aCons (eVar 0) (aNil))) (aCons (eVar 2) (aCons (eOp fIx (eVar 1) (eVar 2)) (aNil)))) (tgsCons (tgN 8) (tgsCons (tgN 9) (tgsCons (tgN 10) (tgsNil))))) (sSeq (L1__law_fault) (sSeq (sIf (tsE (eOp (fEq true) (eVar 9) (eVar 3))) (sRet (eTup (aCons (eC (.str "end")) (aNil)))) (sNil)) (sSeq (sIf (tsE (eOp (fEq true) (eVar 10) (eVar 5))) (sRet (eTup (aCons (eC (.str "level")) (aNil)))) (sNil)) (sSeq (sIf (tsOr (tsE (eOp (fEq true) (eVar 7) (eSortSet false (aCons (eVar 7) (aNil))))) (tsE (eOp fGt (eCa fLen (aCons (C1__law_fault) (aNil))) (eC (.int 0))))) (sRet (eTup (aCons (eC (.str "pool")) (aNil)))) (sNil)) (sSeq (sIf (tsE (eOp (fIn false) (eVar 5) (eLst false (aCons (eOp fIx (eVar 1) (eVar 2)) (aCons (eOp fIx (eVar 1) (eVar 3)) (aNil)))))) (sRet (eC .none)) (sNil)) (sSeq (sIf (tsOr (tsE (eOp (fIn true) (eVar 2) (eVar 7))) (tsE (eOp (fIn false) (eVar 3) (eVar 7)))) (sRet (eTup (aCons (eC (.str "ends")) (aNil)))) (sNil)) (sSeq (L2__law_fault) (sRet (eC .none))))))))))
def F__law_fault : List PyData → Option PyData := fnP 14 5 r__law_fault
/-! law (k66) -/
def C1_law : EvF := eLc false (srcR1 (aCons (eVar 3) (aNil))) (tgN 5) (tsYes) (eCallG 2 F__law_take (aCons (eVar 1) (aCons (eC (.int 6)) (aNil)))) [5]
def C2_law : EvF := eLc false (srcSeq (eSortSet false (aCons (eVar 4) (aNil)))) (tgN 9) (tsE (eOp (fIn false) (eVar 7) (eCallP 4 F__law_pool (aCons (eVar 2) (aCons (eVar 4) (aCons (eVar 6) (aCons (eVar 9) (aNil)))))))) (eVar 9) [9]
def B1_law : RnF := sSeq (sSet 12 (eCallP 4 F__law_pool (aCons (eVar 2) (aCons (eVar 4) (aCons (eVar 5) (aCons (eVar 9) (aNil))))))) (sSeq (sIf (tsE (eOp (fEq true) (eCallP 4 F_pool_of (aCons (eVar 2) (aCons (eVar 4) (aCons (eVar 5) (aCons (eVar 9) (aNil)))))) (eVar 12))) (sRet (eC (.bool false))) (sNil)) (sSet 11 (eIf (tsAnd (tsE (eOp fGt (eCa fLen (aCons (eVar 12) (aNil))) (eC (.int 0)))) (tsE (eOp (fIn true) (eVar 12) (eVar 11)))) (eOp (fAdd false) (eVar 11) (eLst false (aCons (eVar 12) (aNil)))) (eVar 11))))
def L1_law : RnF := sFor (srcR1 (aCons (eVar 3) (aNil))) (tgN 5) B1_law
def B2_law : RnF := sIf (tsE (eOp fGt (eVar 8) (eCa fMax (aCons (eOp fIx (eCallP 4 F_lowest_pass (aCons (eVar 2) (aCons (eVar 4) (aCons (eVar 6) (aCons (eVar 13) (aNil)))))) (eC (.int 0))) (aCons (eOp fIx (eCallP 4 F_lowest_pass (aCons (eVar 2) (aCons (eVar 4) (aCons (eVar 13) (aCons (eVar 7) (aNil)))))) (eC (.int 0))) (aNil)))))) (sRet (eC (.bool false))) (sNil)
def L2_law : RnF := sFor (srcR1 (aCons (eVar 3) (aNil))) (tgN 13) B2_law
def B3_law : RnF := sSeq (sAsg (eVar 10) (tgT 3 (tgsCons (tgN 15) (tgsCons (tgN 16) (tgsCons (tgN 17) (tgsNil)))))) (sSeq (sSet 18 (eCallG 2 F__law_take (aCons (eVar 1) (aCons (eCa fMax (aCons (eC (.int 1)) (aCons (eCa fLen (aCons (eVar 17) (aNil))) (aNil)))) (aNil))))) (sSeq (sSet 19 (eCallG 2 F__law_take (aCons (eVar 1) (aCons (eC (.int 7)) (aNil))))) (sSeq (sIf (tsE (eOp (fEq false) (eVar 19) (eC (.int 0)))) (sSet 16 (eOp (fAdd false) (eVar 16) (eOp fIx (eC (.str "rlud")) (eCallG 2 F__law_take (aCons (eVar 1) (aCons (eC (.int 4)) (aNil))))))) (sIf (tsE (eOp (fEq false) (eVar 19) (eC (.int 1)))) (sSet 16 (eOp (fAdd false) (eVar 16) (eC (.str "x")))) (sIf (tsE (eOp (fEq false) (eVar 19) (eC (.int 2)))) (sSet 15 (eOp (fAdd false) (eVar 15) (eC (.int 1)))) (sIf (tsE (eOp (fEq false) (eVar 19) (eC (.int 3)))) (sSet 17 (eOp (fAdd false) (eSl false (eVar 17) (poN) (poE (eVar 18))) (eSl false (eVar 17) (poE (eOp (fAdd false) (eVar 18) (eC (.int 1)))) (poN)))) (sIf (tsE (eOp (fEq false) (eVar 19) (eC (.int 4)))) (sSet 17 (eSortSet false (aCons (eOp (fAdd false) (eVar 17) (eLst false (aCons (eCallG 2 F__law_take (aCons (eVar 1) (aCons (eOp (fAdd false) (eVar 3) (eC (.int 1))) (aNil)))) (aNil)))) (aNil)))) (sIf (tsE (eOp (fEq false) (eVar 19) (eC (.int 5)))) (sSet 17 (eRevL false (eVar 17))) (sSeq (sSet 16 (eOp (fAdd false) (eC (.str "rl")) (eVar 16))) (sSet 15 (eCa fMax (aCons (eVar 15) (aCons (eOp fIx (eVar 4) (eOp fIx (eOp fIx (eVar 2) (eC (.int 1))) (eVar 6))) (aNil)))))))))))) (sIf (tsE (eOp (fEq true) (eCallP 5 F_lowest_pass_fault (aCons (eVar 2) (aCons (eVar 4) (aCons (eVar 6) (aCons (eVar 7) (aCons (eTup (aCons (eVar 15) (aCons (eVar 16) (aCons (eVar 17) (aNil))))) (aNil))))))) (eCallP 5 F__law_fault (aCons (eVar 2) (aCons (eVar 4) (aCons (eVar 6) (aCons (eVar 7) (aCons (eTup (aCons (eVar 15) (aCons (eVar 16) (aCons (eVar 17) (aNil))))) (aNil))))))))) (sRet (eC (.bool false))) (sNil)))))
def L3_law : RnF := sFor (srcR1 (aCons (eC (.int 8)) (aNil))) (tgN 14) B3_law
def r_law : RnF := sSeq (sSet 1 (eCallG 1 F__law_state (aCons (eVar 0) (aNil)))) (sSeq (sSet 2 (eCallG 2 F__law_floor (aCons (eVar 1) (aCons (eC (.int 6)) (aNil))))) (sSeq (sSet 3 (eCa fLen (aCons (eOp fIx (eVar 2) (eC (.int 1))) (aNil)))) (sSeq (sSet 4 (C1_law)) (sSeq (sAsgT 2 (aCons (eCallG 2 F__law_take (aCons (eVar 1) (aCons (eVar 3) (aNil)))) (aCons (eCallG 2 F__law_take (aCons (eVar 1) (aCons (eVar 3) (aNil)))) (aNil))) (tgsCons (tgN 6) (tgsCons (tgN 7) (tgsNil)))) (sSeq (sSet 8 (eOp fIx (C2_law) (eC (.int 0)))) (sSeq (sSet 10 (eCallP 4 F_lowest_pass (aCons (eVar 2) (aCons (eVar 4) (aCons (eVar 6) (aCons (eVar 7) (aNil))))))) (sSeq (sIf (tsOr (tsE (eOp (fEq true) (eOp fIx (eVar 10) (eC (.int 0))) (eVar 8))) (tsOr (tsE (eOp (fIs true) (eCallP 5 F__law_fault (aCons (eVar 2) (aCons (eVar 4) (aCons (eVar 6) (aCons (eVar 7) (aCons (eVar 10) (aNil))))))) (eC .none))) (tsE (eOp (fIs true) (eCallP 5 F_lowest_pass_fault (aCons (eVar 2) (aCons (eVar 4) (aCons (eVar 6) (aCons (eVar 7) (aCons (eVar 10) (aNil))))))) (eC .none))))) (sRet (eC (.bool false))) (sNil)) (sSeq (sSet 9 (eOp fSub (eCallG 2 F__law_take (aCons (eVar 1) (aCons (eC (.int 7)) (aNil)))) (eC (.int 1)))) (sSeq (sSet 11 (eLst false (aNil))) (sSeq (L1_law) (sSeq (sIf (tsOr (tsE (eOp (fEq true) (eCallP 3 F_pools (aCons (eVar 2) (aCons (eVar 4) (aCons (eVar 9) (aNil))))) (eVar 11))) (tsOr (tsE (eOp (fEq true) (eOp fIx (eCallP 4 F_lowest_pass (aCons (eVar 2) (aCons (eVar 4) (aCons (eVar 7) (aCons (eVar 6) (aNil)))))) (eC (.int 0))) (eVar 8))) (tsE (eOp (fEq true) (eOp fIx (eCallP 4 F_lowest_pass (aCons (eVar 2) (aCons (eVar 4) (aCons (eVar 6) (aCons (eVar 6) (aNil)))))) (eC (.int 0))) (eOp fIx (eVar 4) (eVar 6)))))) (sRet (eC (.bool false))) (sNil)) (sSeq (L2_law) (sSeq (L3_law) (sRet (eC (.bool true))))))))))))))))
def F_law : List PV → Sto → Option (PV × Sto) := fnG 20 1 r_law
end CM
namespace K66
open PySem PySem.Spec PyProof.Rows L2 VX CM
def topS (i : Nat) : Stmt := PySem.Challenge.pw_straightways_k66_lowest_passes.main.body.getD i (.Pass ⟨0, 0, 0, 0⟩)
/-! ### turned_back -/
abbrev s_turned_back : Stmt := topS 1
abbrev N_turned_back : List Str := ["numbers", "found", "at", "number"]
theorem sc_turned_back : FnScope N_turned_back ["numbers"] (defScope s_turned_back) := ⟨rfl, rfl, rfl, by decide +kernel, rfl, by decide +kernel, by decide +kernel⟩
/-! ### left -/
abbrev s_left : Stmt := topS 2
abbrev N_left : List Str := ["floor"]
theorem sc_left : FnScope N_left ["floor"] (defScope s_left) := ⟨rfl, rfl, rfl, by decide +kernel, rfl, by decide +kernel, by decide +kernel⟩
/-! ### down -/
abbrev s_down : Stmt := topS 3
abbrev N_down : List Str := ["floor"]
theorem sc_down : FnScope N_down ["floor"] (defScope s_down) := ⟨rfl, rfl, rfl, by decide +kernel, rfl, by decide +kernel, by decide +kernel⟩
/-! ### near_lists -/
abbrev s_near_lists : Stmt := topS 5
abbrev N_near_lists : List Str := ["floor"]
theorem sc_near_lists : FnScope N_near_lists ["floor"] (defScope s_near_lists) := ⟨rfl, rfl, rfl, by decide +kernel, rfl, by decide +kernel, by decide +kernel⟩
/-! ### pool_of -/
abbrev s_pool_of : Stmt := topS 6
abbrev N_pool_of : List Str := ["floor", "levels", "square", "most", "found", "at", "sign", "row", "there"]
theorem sc_pool_of : FnScope N_pool_of ["floor", "levels", "square", "most"] (defScope s_pool_of) := ⟨rfl, rfl, rfl, by decide +kernel, rfl, by decide +kernel, by decide +kernel⟩
/-! ### word_within -/
abbrev s_word_within : Stmt := topS 8
abbrev N_word_within : List Str := ["floor", "levels", "one", "other", "most", "words", "waiting", "square", "sign", "row"]
theorem sc_word_within : FnScope N_word_within ["floor", "levels", "one", "other", "most"] (defScope s_word_within) := ⟨rfl, rfl, rfl, by decide +kernel, rfl, by decide +kernel, by decide +kernel⟩
/-! ### lowest_pass -/
abbrev s_lowest_pass : Stmt := topS 7
abbrev N_lowest_pass : List Str := ["floor", "levels", "one", "other", "most", "less", "level", "pool"]
theorem sc_lowest_pass : FnScope N_lowest_pass ["floor", "levels", "one", "other"] (defScope s_lowest_pass) := ⟨rfl, rfl, rfl, by decide +kernel, rfl, by decide +kernel, by decide +kernel⟩
/-! ### lowest_pass_fault -/
abbrev s_lowest_pass_fault : Stmt := topS 9
abbrev N_lowest_pass_fault : List Str := ["floor", "levels", "one", "other", "told", "level", "word", "pool", "lists", "here", "most", "at", "sign", "square", "row"]
theorem sc_lowest_pass_fault : FnScope N_lowest_pass_fault ["floor", "levels", "one", "other", "told"] (defScope s_lowest_pass_fault) := ⟨rfl, rfl, rfl, by decide +kernel, rfl, by decide +kernel, by decide +kernel⟩
/-! ### pools -/
abbrev s_pools : Stmt := topS 10
abbrev N_pools : List Str := ["floor", "levels", "most", "found", "square", "lot"]
theorem sc_pools : FnScope N_pools ["floor", "levels", "most"] (defScope s_pools) := ⟨rfl, rfl, rfl, by decide +kernel, rfl, by decide +kernel, by decide +kernel⟩
/-! ### _law_state -/
abbrev s__law_state : Stmt := topS 12
abbrev N__law_state : List Str := ["script", "cells", "cell"]
theorem sc__law_state : FnScope N__law_state ["script"] (defScope s__law_state) := ⟨rfl, rfl, rfl, by decide +kernel, rfl, by decide +kernel, by decide +kernel⟩
/-! ### _law_take -/
abbrev s__law_take : Stmt := topS 13
abbrev N__law_take : List Str := ["state", "most", "cells", "at", "cell", "mixed"]
theorem sc__law_take : FnScope N__law_take ["state", "most"] (defScope s__law_take) := ⟨rfl, rfl, rfl, by decide +kernel, rfl, by decide +kernel, by decide +kernel⟩
/-! ### _law_floor -/
abbrev s__law_floor : Stmt := topS 14
abbrev N__law_floor : List Str := ["state", "most", "right", "up", "count", "side", "under"]
theorem sc__law_floor : FnScope N__law_floor ["state", "most"] (defScope s__law_floor) := ⟨rfl, rfl, rfl, by decide +kernel, rfl, by decide +kernel, by decide +kernel⟩
/-! ### _law_lists -/
abbrev s__law_lists : Stmt := topS 15
abbrev N__law_lists : List Str := ["floor", "count", "lists", "square"]
theorem sc__law_lists : FnScope N__law_lists ["floor"] (defScope s__law_lists) := ⟨rfl, rfl, rfl, by decide +kernel, rfl, by decide +kernel, by decide +kernel⟩
/-! ### _law_pool -/
abbrev s__law_pool : Stmt := topS 16
abbrev N__law_pool : List Str := ["floor", "levels", "square", "most", "lists", "found", "size", "here", "sign", "there"]
theorem sc__law_pool : FnScope N__law_pool ["floor", "levels", "square", "most"] (defScope s__law_pool) := ⟨rfl, rfl, rfl, by decide +kernel, rfl, by decide +kernel, by decide +kernel⟩
/-! ### _law_fault -/
abbrev s__law_fault : Stmt := topS 17
abbrev N__law_fault : List Str := ["floor", "levels", "one", "other", "told", "level", "word", "pool", "lists", "here", "most", "k", "square", "sign"]
theorem sc__law_fault : FnScope N__law_fault ["floor", "levels", "one", "other", "told"] (defScope s__law_fault) := ⟨rfl, rfl, rfl, by decide +kernel, rfl, by decide +kernel, by decide +kernel⟩
/-! ### law -/
abbrev s_law : Stmt := topS 18
abbrev N_law : List Str := ["script", "state", "floor", "count", "levels", "square", "one", "other", "due", "most", "told", "lots", "lot", "third", "turn", "level", "word", "pool", "at", "kind"]
theorem sc_law : FnScope N_law ["script"] (defScope s_law) := ⟨rfl, rfl, rfl, by decide +kernel, rfl, by decide +kernel, by decide +kernel⟩
structure Tx (K : PySem.W.Frag) (mg : Str → Option Value) : Prop where
  z_abs : mg "abs" = none
  z_all : mg "all" = none
  z_any : mg "any" = none
  z_dict : mg "dict" = none
  z_enumerate : mg "enumerate" = none
  z_int : mg "int" = none
  z_len : mg "len" = none
  z_max : mg "max" = none
  z_range : mg "range" = none
  z_set : mg "set" = none
  z_sorted : mg "sorted" = none
  f_turned_back : At K mg "turned_back" s_turned_back ["numbers"]
  f_left : At K mg "left" s_left ["floor"]
  f_down : At K mg "down" s_down ["floor"]
  f_near_lists : At K mg "near_lists" s_near_lists ["floor"]
  f_pool_of : At K mg "pool_of" s_pool_of ["floor", "levels", "square", "most"]
  f_word_within : At K mg "word_within" s_word_within ["floor", "levels", "one", "other", "most"]
  f_lowest_pass : At K mg "lowest_pass" s_lowest_pass ["floor", "levels", "one", "other"]
  f_lowest_pass_fault : At K mg "lowest_pass_fault" s_lowest_pass_fault ["floor", "levels", "one", "other", "told"]
  f_pools : At K mg "pools" s_pools ["floor", "levels", "most"]
  f__law_state : At K mg "_law_state" s__law_state ["script"]
  f__law_take : At K mg "_law_take" s__law_take ["state", "most"]
  f__law_floor : At K mg "_law_floor" s__law_floor ["state", "most"]
  f__law_lists : At K mg "_law_lists" s__law_lists ["floor"]
  f__law_pool : At K mg "_law_pool" s__law_pool ["floor", "levels", "square", "most"]
  f__law_fault : At K mg "_law_fault" s__law_fault ["floor", "levels", "one", "other", "told"]
  f_law : At K mg "law" s_law ["script"]
section
variable {P : Program} {w : World} {K : PySem.W.Frag} {mg : Str → Option Value} {base : Heap}
set_option maxHeartbeats 1000000
theorem d_turned_back (T : Tx K mg) : DefOk P w K mg base 1 "turned_back" (spP 1 F_turned_back) :=
  d_pure T.f_turned_back sc_turned_back fun f cdv A outer s H E hr => (ss_cons (s_set (i := 1) sc_turned_back.nd rfl (Or.inl rfl) (m_mul true (m_lst false (a_cons m_int a_nil)) (m_len rfl T.z_len (a_cons (m_var 0) a_nil)))) (ss_cons (s_for PassesOwn.never rfl (i_enumA rfl T.z_enumerate (a_cons (m_var 0) a_nil)) (g_tup rfl (gs_cons (g_name (i := 2) sc_turned_back.nd rfl (Or.inl rfl)) (gs_cons (g_name (i := 3) sc_turned_back.nd rfl (Or.inl rfl)) gs_nil))) (ss_one (s_asg (m_var 2) (g_sub (m_var 1) (m_var 3))))) (ss_one (s_ret (m_frz (m_var 1))))))
theorem d_left (T : Tx K mg) : DefOk P w K mg base 2 "left" (spP 1 F_left) :=
  d_pure T.f_left sc_left fun f cdv A outer s H E hr => (ss_one (s_ret (m_cP (d_turned_back T) (hr.mono (by decide)) rfl (a_cons (m_ix (m_var 0) m_int) a_nil))))
theorem d_down (T : Tx K mg) : DefOk P w K mg base 2 "down" (spP 1 F_down) :=
  d_pure T.f_down sc_down fun f cdv A outer s H E hr => (ss_one (s_ret (m_cP (d_turned_back T) (hr.mono (by decide)) rfl (a_cons (m_ix (m_var 0) m_int) a_nil))))
theorem d_near_lists (T : Tx K mg) : DefOk P w K mg base 3 "near_lists" (spP 1 F_near_lists) :=
  d_pure T.f_near_lists sc_near_lists fun f cdv A outer s H E hr => (ss_one (s_ret (m_tup (a_cons (m_tup (a_cons m_str (a_cons (m_ix (m_var 0) m_int) a_nil))) (a_cons (m_tup (a_cons m_str (a_cons (m_cP (d_left T) (hr.mono (by decide)) rfl (a_cons (m_var 0) a_nil)) a_nil))) (a_cons (m_tup (a_cons m_str (a_cons (m_ix (m_var 0) m_int) a_nil))) (a_cons (m_tup (a_cons m_str (a_cons (m_cP (d_down T) (hr.mono (by decide)) rfl (a_cons (m_var 0) a_nil)) a_nil))) a_nil)))))))
theorem dT_near_lists (T : Tx K mg) : DefOk P w K mg base 3 "near_lists" (spPT 1 F_near_lists) :=
  d_tupT T.f_near_lists sc_near_lists rfl (fun ds d h => fnP_tup h) fun f cdv A outer s H E hr => (a_cons (m_tup (a_cons m_str (a_cons (m_ix (m_var 0) m_int) a_nil))) (a_cons (m_tup (a_cons m_str (a_cons (m_cP (d_left T) (hr.mono (by decide)) rfl (a_cons (m_var 0) a_nil)) a_nil))) (a_cons (m_tup (a_cons m_str (a_cons (m_ix (m_var 0) m_int) a_nil))) (a_cons (m_tup (a_cons m_str (a_cons (m_cP (d_down T) (hr.mono (by decide)) rfl (a_cons (m_var 0) a_nil)) a_nil))) a_nil))))
theorem d_pool_of (T : Tx K mg) : DefOk P w K mg base 4 "pool_of" (spP 4 F_pool_of) :=
  d_pure T.f_pool_of sc_pool_of fun f cdv A outer s H E hr => (ss_cons (s_set (i := 4) sc_pool_of.nd rfl (Or.inl rfl) (m_if (t_le (m_ix (m_var 1) (m_var 2)) (m_var 3)) (m_lst true (a_cons (m_var 2) a_nil)) (m_lst true a_nil))) (ss_cons (s_set (i := 5) sc_pool_of.nd rfl (Or.inl rfl) m_int) (ss_cons (s_while 2000 PassesOwn.never (t_lt (m_var 5) (m_len rfl T.z_len (a_cons (m_var 4) a_nil))) (ss_cons (s_for PassesOwn.never rfl (i_seq (m_cP (d_near_lists T) (hr.mono (by decide)) rfl (a_cons (m_var 0) a_nil))) (g_tup rfl (gs_cons (g_name (i := 6) sc_pool_of.nd rfl (Or.inl rfl)) (gs_cons (g_name (i := 7) sc_pool_of.nd rfl (Or.inl rfl)) gs_nil))) (ss_cons (s_set (i := 8) sc_pool_of.nd rfl (Or.inl rfl) (m_ix (m_var 7) (m_ix (m_var 4) (m_var 5)))) (ss_one (s_if (t_w (w_and (t_le (m_ix (m_var 1) (m_var 8)) (m_var 3)) (w_and1 (t_notin (hu65 hr) (m_var 8) (m_var 4))))) (ss_one (s_expr (m_app (m_var 4) (a_cons (m_var 8) a_nil)))) ss_nil)))) (ss_one (s_set (i := 5) sc_pool_of.nd rfl (Or.inl rfl) (m_add false (m_var 5) m_int))))) (ss_one (s_ret (m_sorted false rfl T.z_sorted (a_cons (m_var 4) a_nil)))))))
theorem d_word_within (T : Tx K mg) : DefOk P w K mg base 4 "word_within" (spP 5 F_word_within) :=
  d_pure T.f_word_within sc_word_within fun f cdv A outer s H E hr => (ss_cons (s_set (i := 5) sc_word_within.nd rfl (Or.inl rfl) (m_dic (p_cons (m_var 2) m_str p_nil) rfl rfl (by simp) (by decide))) (ss_cons (s_set (i := 6) sc_word_within.nd rfl (Or.inl rfl) (m_lst true (a_cons (m_var 2) a_nil))) (ss_cons (s_while 2000 PassesOwn.never (t_tru (m_var 6)) (ss_cons (s_set (i := 7) sc_word_within.nd rfl (Or.inl rfl) (m_popAt (m_var 6) (a_cons m_int a_nil))) (ss_one (s_for PassesOwn.never rfl (i_seq (m_cP (d_near_lists T) (hr.mono (by decide)) rfl (a_cons (m_var 0) a_nil))) (g_tup rfl (gs_cons (g_name (i := 8) sc_word_within.nd rfl (Or.inl rfl)) (gs_cons (g_name (i := 9) sc_word_within.nd rfl (Or.inl rfl)) gs_nil))) (ss_one (s_if (t_w (w_and (t_le (m_ix (m_var 1) (m_ix (m_var 9) (m_var 7))) (m_var 4)) (w_and1 (t_dnotin (hu65 hr) (m_ix (m_var 9) (m_var 7)) (m_var 5))))) (ss_cons (s_dput (hu65 hr) (m_var 5) (m_ix (m_var 9) (m_var 7)) (m_add false (m_dget (hu65 hr) (m_var 5) (m_var 7)) (m_var 8))) (ss_one (s_expr (m_app (m_var 6) (a_cons (m_ix (m_var 9) (m_var 7)) a_nil))))) ss_nil)))))) (ss_one (s_ret (m_dget (hu65 hr) (m_var 5) (m_var 3)))))))
theorem d_lowest_pass (T : Tx K mg) : DefOk P w K mg base 5 "lowest_pass" (spP 4 F_lowest_pass) :=
  d_pure T.f_lowest_pass sc_lowest_pass fun f cdv A outer s H E hr => (ss_cons (s_for PassesOwn.never rfl (i_seq (m_sortset false rfl rfl T.z_sorted rfl T.z_set (a_cons (m_var 1) a_nil))) (g_name (i := 4) sc_lowest_pass.nd rfl (Or.inr rfl)) (ss_one (s_if (t_in (hu65 hr) (m_var 3) (m_cP (d_pool_of T) (hr.mono (by decide)) rfl (a_cons (m_var 0) (a_cons (m_var 1) (a_cons (m_var 2) (a_cons (m_var 4) a_nil)))))) (ss_cons (s_setLc (own := [("level", 6)]) false 6 rfl sc_lowest_pass.nd rfl rfl (sw_true rfl rfl rfl (by decide +kernel)) (i_seq (m_var 1)) (blkOk_by (own := [("level", 6)]) (N := N_lowest_pass) (sc := defScope s_lowest_pass) (by decide +kernel)) (fun _ _ _ _ _ => pg_name (i := 6) sc_lowest_pass.nd rfl (Or.inl rfl)) (fun _ _ _ _ _ => ts_one (t_lt (m_var 6) (m_var 4))) (fun _ _ _ _ _ => (m_var 6))) (ss_cons (s_set (i := 7) sc_lowest_pass.nd rfl (Or.inl rfl) (m_if (t_tru (m_var 5)) (m_cP (d_pool_of T) (hr.mono (by decide)) rfl (a_cons (m_var 0) (a_cons (m_var 1) (a_cons (m_var 2) (a_cons (m_max rfl rfl T.z_max (a_cons (m_var 5) a_nil)) a_nil))))) (m_lst false a_nil))) (ss_one (s_ret (m_tup (a_cons (m_var 4) (a_cons (m_cP (d_word_within T) (hr.mono (by decide)) rfl (a_cons (m_var 0) (a_cons (m_var 1) (a_cons (m_var 2) (a_cons (m_var 3) (a_cons (m_var 4) a_nil)))))) (a_cons (m_var 7) a_nil)))))))) ss_nil))) (ss_one (s_ret m_non)))
theorem d_lowest_pass_fault (T : Tx K mg) : DefOk P w K mg base 4 "lowest_pass_fault" (spP 5 F_lowest_pass_fault) :=
  d_pure T.f_lowest_pass_fault sc_lowest_pass_fault fun f cdv A outer s H E hr => (ss_cons (s_asg (m_var 4) (g_tup rfl (gs_cons (g_name (i := 5) sc_lowest_pass_fault.nd rfl (Or.inl rfl)) (gs_cons (g_name (i := 6) sc_lowest_pass_fault.nd rfl (Or.inl rfl)) (gs_cons (g_name (i := 7) sc_lowest_pass_fault.nd rfl (Or.inl rfl)) gs_nil))))) (ss_cons (s_set (i := 8) sc_lowest_pass_fault.nd rfl (Or.inl rfl) (m_dicT (dT_near_lists T) (hr.mono (by decide)) rfl rfl T.z_dict rfl (a_cons (m_var 0) a_nil))) (ss_cons (s_set (i := 9) sc_lowest_pass_fault.nd rfl (Or.inl rfl) (m_var 2)) (ss_cons (s_set (i := 10) sc_lowest_pass_fault.nd rfl (Or.inl rfl) (m_ix (m_var 1) (m_var 2))) (ss_cons (s_for PassesOwn.never rfl (i_enumA rfl T.z_enumerate (a_cons (m_var 6) a_nil)) (g_tup rfl (gs_cons (g_name (i := 11) sc_lowest_pass_fault.nd rfl (Or.inl rfl)) (gs_cons (g_name (i := 12) sc_lowest_pass_fault.nd rfl (Or.inl rfl)) gs_nil))) (ss_cons (s_if (t_dnotin (hu65 hr) (m_var 12) (m_var 8)) (ss_one (s_ret (m_tup (a_cons m_str (a_cons (m_var 11) a_nil))))) ss_nil) (ss_cons (s_set (i := 9) sc_lowest_pass_fault.nd rfl (Or.inl rfl) (m_ix (m_dget (hu65 hr) (m_var 8) (m_var 12)) (m_var 9))) (ss_one (s_set (i := 10) sc_lowest_pass_fault.nd rfl (Or.inl rfl) (m_max rfl rfl T.z_max (a_cons (m_var 10) (a_cons (m_ix (m_var 1) (m_var 9)) a_nil)))))))) (ss_cons (s_if (t_ne (hu65 hr) (m_var 9) (m_var 3)) (ss_one (s_ret (m_tup (a_cons m_str a_nil)))) ss_nil) (ss_cons (s_if (t_ne (hu65 hr) (m_var 10) (m_var 5)) (ss_one (s_ret (m_tup (a_cons m_str a_nil)))) ss_nil) (ss_cons (s_if (t_w (w_or (t_ne (hu65 hr) (m_var 7) (m_sortset false rfl rfl T.z_sorted rfl T.z_set (a_cons (m_var 7) a_nil))) (w_or1 (t_not (t_tru (m_all rfl rfl T.z_all (a_cons (m_lc (own := [("square", 13)]) false 13 rfl sc_lowest_pass_fault.nd (i_seq (m_var 7)) (blkOk_by (own := [("square", 13)]) (N := N_lowest_pass_fault) (sc := defScope s_lowest_pass_fault) (by decide +kernel)) (fun _ _ _ _ _ => pg_name (i := 13) sc_lowest_pass_fault.nd rfl (Or.inl rfl)) (fun _ _ _ _ _ => ts_nil) (fun _ _ _ _ _ => (m_chain op_le op_lt ao_IB ao_IB m_int (m_var 13) (m_len rfl T.z_len (a_cons (m_var 1) a_nil))))) a_nil))))))) (ss_one (s_ret (m_tup (a_cons m_str a_nil)))) ss_nil) (ss_cons (s_if (t_w (w_or (t_eq (hu65 hr) (m_var 5) (m_ix (m_var 1) (m_var 2))) (w_or1 (t_eq (hu65 hr) (m_var 5) (m_ix (m_var 1) (m_var 3)))))) (ss_one (s_ret m_non)) ss_nil) (ss_cons (s_if (t_w (w_or (t_notin (hu65 hr) (m_var 2) (m_var 7)) (w_or1 (t_in (hu65 hr) (m_var 3) (m_var 7))))) (ss_one (s_ret (m_tup (a_cons m_str a_nil)))) ss_nil) (ss_cons (s_for PassesOwn.never rfl (i_seq (m_var 7)) (g_name (i := 13) sc_lowest_pass_fault.nd rfl (Or.inl rfl)) (ss_cons (s_if (t_ge (m_ix (m_var 1) (m_var 13)) (m_var 5)) (ss_one (s_ret (m_tup (a_cons m_str (a_cons (m_var 13) a_nil))))) ss_nil) (ss_one (s_for PassesOwn.never rfl (i_seq (m_cP (d_near_lists T) (hr.mono (by decide)) rfl (a_cons (m_var 0) a_nil))) (g_tup rfl (gs_cons (g_name (i := 12) sc_lowest_pass_fault.nd rfl (Or.inl rfl)) (gs_cons (g_name (i := 14) sc_lowest_pass_fault.nd rfl (Or.inl rfl)) gs_nil))) (ss_one (s_if (t_w (w_and (t_notin (hu65 hr) (m_ix (m_var 14) (m_var 13)) (m_var 7)) (w_and1 (t_lt (m_ix (m_var 1) (m_ix (m_var 14) (m_var 13))) (m_var 5))))) (ss_one (s_ret (m_tup (a_cons m_str (a_cons (m_var 13) a_nil))))) ss_nil)))))) (ss_one (s_ret m_non)))))))))))))
theorem d_pools (T : Tx K mg) : DefOk P w K mg base 5 "pools" (spP 3 F_pools) :=
  d_pure T.f_pools sc_pools fun f cdv A outer s H E hr => (ss_cons (s_set (i := 3) sc_pools.nd rfl (Or.inl rfl) (m_lst true a_nil)) (ss_cons (s_for PassesOwn.never rfl (i_range1 rfl T.z_range (a_cons (m_len rfl T.z_len (a_cons (m_var 1) a_nil)) a_nil)) (g_name (i := 4) sc_pools.nd rfl (Or.inr rfl)) (ss_one (s_if (t_w (w_and (t_le (m_ix (m_var 1) (m_var 4)) (m_var 2)) (w_and1 (t_not (t_tru (m_any rfl rfl T.z_any (a_cons (m_lc (own := [("lot", 5)]) false 5 rfl sc_pools.nd (i_seq (m_var 3)) (blkOk_by (own := [("lot", 5)]) (N := N_pools) (sc := defScope s_pools) (by decide +kernel)) (fun _ _ _ _ _ => pg_name (i := 5) sc_pools.nd rfl (Or.inl rfl)) (fun _ _ _ _ _ => ts_nil) (fun _ _ _ _ _ => (m_in (hu65 hr) (m_var 4) (m_var 5)))) a_nil))))))) (ss_one (s_expr (m_app (m_var 3) (a_cons (m_cP (d_pool_of T) (hr.mono (by decide)) rfl (a_cons (m_var 0) (a_cons (m_var 1) (a_cons (m_var 4) (a_cons (m_var 2) a_nil))))) a_nil)))) ss_nil))) (ss_one (s_ret (m_frz (m_var 3))))))
theorem d__law_state (T : Tx K mg) : DefOk P w K mg base 1 "_law_state" (spG K 1 F__law_state) :=
  d_gen T.f__law_state sc__law_state fun f cdv A outer s H E hr => (ss_cons (s_setLc (own := [("cell", 2)]) true 2 rfl sc__law_state.nd rfl rfl (sw_true rfl rfl rfl (by decide +kernel)) (i_seq (m_slice false (m_var 0) o_none (o_some m_int))) (blkOk_by (own := [("cell", 2)]) (N := N__law_state) (sc := defScope s__law_state) (by decide +kernel)) (fun _ _ _ _ _ => pg_name (i := 2) sc__law_state.nd rfl (Or.inl rfl)) (fun _ _ _ _ _ => ts_nil) (fun _ _ _ _ _ => (m_abs rfl T.z_abs (a_cons (m_var 2) a_nil)))) (ss_cons (s_if (t_eq (hu65 hr) (m_len rfl T.z_len (a_cons (m_var 1) a_nil)) m_int) (ss_one (s_set (i := 1) sc__law_state.nd rfl (Or.inl rfl) (m_lst true (a_cons m_int a_nil)))) ss_nil) (ss_one (s_ret (m_lst true (a_cons m_int (a_cons (m_var 1) a_nil)))))))
theorem d__law_take (T : Tx K mg) : DefOk P w K mg base 1 "_law_take" (spG K 2 F__law_take) :=
  d_gen T.f__law_take sc__law_take fun f cdv A outer s H E hr => (ss_cons (s_set (i := 2) sc__law_take.nd rfl (Or.inl rfl) (m_ix (m_var 0) m_int)) (ss_cons (s_set (i := 3) sc__law_take.nd rfl (Or.inl rfl) (m_mod (m_ix (m_var 0) m_int) (m_len rfl T.z_len (a_cons (m_var 2) a_nil)))) (ss_cons (s_set (i := 4) sc__law_take.nd rfl (Or.inl rfl) (m_ix (m_var 2) (m_var 3))) (ss_cons (s_if (t_ge (m_var 4) m_int) (ss_cons (s_asg (m_div (m_var 4) (m_var 1)) (g_sub (m_var 2) (m_var 3))) (ss_one (s_ret (m_mod (m_var 4) (m_var 1))))) ss_nil) (ss_cons (s_asg (m_add false (m_ix (m_var 0) m_int) m_int) (g_sub (m_var 0) m_int)) (ss_cons (s_set (i := 5) sc__law_take.nd rfl (Or.inl rfl) (m_mod (m_toint rfl T.z_int (a_cons (m_add false (m_mul false (m_var 4) m_int) (m_mul false (m_ix (m_var 0) m_int) m_int)) a_nil)) m_int)) (ss_cons (s_set (i := 5) sc__law_take.nd rfl (Or.inl rfl) (m_mod (m_toint rfl T.z_int (a_cons (m_add false (m_mul false (m_var 5) m_int) (m_mul false (m_ix (m_var 0) m_int) m_int)) a_nil)) m_int)) (ss_one (s_ret (m_mod (m_div (m_var 5) m_int) (m_var 1)))))))))))
theorem d__law_floor (T : Tx K mg) : DefOk P w K mg base 2 "_law_floor" (spG K 2 F__law_floor) :=
  d_gen T.f__law_floor sc__law_floor fun f cdv A outer s H E hr => (ss_cons (s_par (i := 2) (j := 3) rfl sc__law_floor.nd rfl rfl (by decide) rfl rfl (a_cons (m_lst true (a_cons m_int a_nil)) (a_cons (m_lst true (a_cons m_int a_nil)) a_nil)) (by rfl)) (ss_cons (s_for PassesOwn.never rfl (i_range2 rfl T.z_range (a_cons m_int (a_cons (m_add false m_int (m_cG (d__law_take T) (hr.mono (by decide)) rfl (a_cons (m_var 0) (a_cons (m_var 1) a_nil)))) a_nil))) (g_name (i := 4) sc__law_floor.nd rfl (Or.inl rfl)) (ss_cons (s_par (i := 5) (j := 6) rfl sc__law_floor.nd rfl rfl (by decide) rfl rfl (a_cons (m_cG (d__law_take T) (hr.mono (by decide)) rfl (a_cons (m_var 0) (a_cons (m_add false (m_var 4) m_int) a_nil))) (a_cons (m_cG (d__law_take T) (hr.mono (by decide)) rfl (a_cons (m_var 0) (a_cons (m_add false (m_var 4) m_int) a_nil))) a_nil)) (by rfl)) (ss_cons (s_set (i := 5) sc__law_floor.nd rfl (Or.inl rfl) (m_if (t_w (w_and (t_eq (hu65 hr) (m_var 5) (m_var 4)) (w_and1 (t_eq (hu65 hr) (m_var 6) (m_var 4))))) m_int (m_var 5))) (ss_cons (s_par (i := 2) (j := 3) rfl sc__law_floor.nd rfl rfl (by decide) rfl rfl (a_cons (m_add true (m_var 2) (m_lst false (a_cons (m_var 4) a_nil))) (a_cons (m_add true (m_var 3) (m_lst false (a_cons (m_var 4) a_nil))) a_nil)) (by rfl)) (ss_cons (s_if (t_lt (m_var 5) (m_var 4)) (ss_one (s_asgT rfl (a_cons (m_ix (m_var 2) (m_var 5)) (a_cons (m_var 4) a_nil)) (gs_cons (g_sub (m_var 2) (m_var 4)) (gs_cons (g_sub (m_var 2) (m_var 5)) gs_nil)))) ss_nil) (ss_one (s_if (t_lt (m_var 6) (m_var 4)) (ss_one (s_asgT rfl (a_cons (m_ix (m_var 3) (m_var 6)) (a_cons (m_var 4) a_nil)) (gs_cons (g_sub (m_var 3) (m_var 4)) (gs_cons (g_sub (m_var 3) (m_var 6)) gs_nil)))) ss_nil))))))) (ss_one (s_ret (m_tup (a_cons m_str (a_cons (m_frz (m_var 2)) (a_cons (m_frz (m_var 3)) a_nil))))))))
theorem d__law_lists (T : Tx K mg) : DefOk P w K mg base 1 "_law_lists" (spG K 1 F__law_lists) :=
  d_gen T.f__law_lists sc__law_lists fun f cdv A outer s H E hr => (ss_cons (s_set (i := 1) sc__law_lists.nd rfl (Or.inl rfl) (m_len rfl T.z_len (a_cons (m_ix (m_var 0) m_int) a_nil))) (ss_cons (s_set (i := 2) sc__law_lists.nd rfl (Or.inl rfl) (m_dic (p_cons m_str (m_ix (m_var 0) m_int) (p_cons m_str (m_ix (m_var 0) m_int) (p_cons m_str (m_mul true (m_lst false (a_cons m_int a_nil)) (m_var 1)) (p_cons m_str (m_mul true (m_lst false (a_cons m_int a_nil)) (m_var 1)) p_nil)))) rfl rfl (by simp) (by decide))) (ss_cons (s_for PassesOwn.never rfl (i_range1 rfl T.z_range (a_cons (m_var 1) a_nil)) (g_name (i := 3) sc__law_lists.nd rfl (Or.inl rfl)) (ss_cons (s_asg (m_var 3) (g_sub (m_dget (hu65 hr) (m_var 2) m_str) (m_ix (m_ix (m_var 0) m_int) (m_var 3)))) (ss_one (s_asg (m_var 3) (g_sub (m_dget (hu65 hr) (m_var 2) m_str) (m_ix (m_ix (m_var 0) m_int) (m_var 3))))))) (ss_one (s_ret (m_var 2))))))
theorem d__law_pool (T : Tx K mg) : DefOk P w K mg base 2 "_law_pool" (spP 4 F__law_pool) :=
  d_pure T.f__law_pool sc__law_pool fun f cdv A outer s H E hr => (ss_cons (s_par3 (i := 4) (j := 5) (l := 6) rfl sc__law_pool.nd rfl rfl rfl (by decide) (by decide) (by decide) rfl rfl rfl (a_cons (m_cG (d__law_lists T) (hr.mono (by decide)) rfl (a_cons (m_var 0) a_nil)) (a_cons (m_if (t_le (m_ix (m_var 1) (m_var 2)) (m_var 3)) (m_lst false (a_cons (m_var 2) a_nil)) (m_lst false a_nil)) (a_cons (m_sub m_int m_int) a_nil))) (by rfl)) (ss_cons (s_while 2000 PassesOwn.never (t_lt (m_var 6) (m_len rfl T.z_len (a_cons (m_var 5) a_nil))) (ss_cons (s_set (i := 6) sc__law_pool.nd rfl (Or.inl rfl) (m_len rfl T.z_len (a_cons (m_var 5) a_nil))) (ss_one (s_for PassesOwn.never rfl (i_seq (m_slice false (m_var 5) o_none (o_some (m_var 6)))) (g_name (i := 7) sc__law_pool.nd rfl (Or.inl rfl)) (ss_one (s_for PassesOwn.never rfl (i_seq m_str) (g_name (i := 8) sc__law_pool.nd rfl (Or.inl rfl)) (ss_cons (s_set (i := 9) sc__law_pool.nd rfl (Or.inl rfl) (m_ix (m_dget (hu65 hr) (m_var 4) (m_var 8)) (m_var 7))) (ss_one (s_set (i := 5) sc__law_pool.nd rfl (Or.inl rfl) (m_if (t_w (w_and (t_le (m_ix (m_var 1) (m_var 9)) (m_var 3)) (w_and1 (t_notin (hu65 hr) (m_var 9) (m_var 5))))) (m_add false (m_var 5) (m_lst false (a_cons (m_var 9) a_nil))) (m_var 5))))))))))) (ss_one (s_ret (m_sorted false rfl T.z_sorted (a_cons (m_var 5) a_nil))))))
theorem d__law_fault (T : Tx K mg) : DefOk P w K mg base 2 "_law_fault" (spP 5 F__law_fault) :=
  d_pure T.f__law_fault sc__law_fault fun f cdv A outer s H E hr => (ss_cons (s_asg (m_var 4) (g_tup rfl (gs_cons (g_name (i := 5) sc__law_fault.nd rfl (Or.inr rfl)) (gs_cons (g_name (i := 6) sc__law_fault.nd rfl (Or.inl rfl)) (gs_cons (g_name (i := 7) sc__law_fault.nd rfl (Or.inr rfl)) gs_nil))))) (ss_cons (s_asgT rfl (a_cons (m_cG (d__law_lists T) (hr.mono (by decide)) rfl (a_cons (m_var 0) a_nil)) (a_cons (m_var 2) (a_cons (m_ix (m_var 1) (m_var 2)) a_nil))) (gs_cons (g_name (i := 8) sc__law_fault.nd rfl (Or.inr rfl)) (gs_cons (g_name (i := 9) sc__law_fault.nd rfl (Or.inl rfl)) (gs_cons (g_name (i := 10) sc__law_fault.nd rfl (Or.inl rfl)) gs_nil)))) (ss_cons (s_for PassesOwn.never rfl (i_range1 rfl T.z_range (a_cons (m_len rfl T.z_len (a_cons (m_var 6) a_nil)) a_nil)) (g_name (i := 11) sc__law_fault.nd rfl (Or.inl rfl)) (ss_cons (s_if (t_notin (hu65 hr) (m_ix (m_var 6) (m_var 11)) (m_lst false (a_cons m_str (a_cons m_str (a_cons m_str (a_cons m_str a_nil)))))) (ss_one (s_ret (m_tup (a_cons m_str (a_cons (m_var 11) a_nil))))) ss_nil) (ss_cons (s_set (i := 9) sc__law_fault.nd rfl (Or.inl rfl) (m_ix (m_dget (hu65 hr) (m_var 8) (m_ix (m_var 6) (m_var 11))) (m_var 9))) (ss_one (s_set (i := 10) sc__law_fault.nd rfl (Or.inl rfl) (m_max rfl rfl T.z_max (a_cons (m_var 10) (a_cons (m_ix (m_var 1) (m_var 9)) a_nil)))))))) (ss_cons (s_if (t_ne (hu65 hr) (m_var 9) (m_var 3)) (ss_one (s_ret (m_tup (a_cons m_str a_nil)))) ss_nil) (ss_cons (s_if (t_ne (hu65 hr) (m_var 10) (m_var 5)) (ss_one (s_ret (m_tup (a_cons m_str a_nil)))) ss_nil) (ss_cons (s_if (t_w (w_or (t_ne (hu65 hr) (m_var 7) (m_sortset false rfl rfl T.z_sorted rfl T.z_set (a_cons (m_var 7) a_nil))) (w_or1 (t_gt (m_len rfl T.z_len (a_cons (m_lc (own := [("square", 12)]) false 12 rfl sc__law_fault.nd (i_seq (m_var 7)) (blkOk_by (own := [("square", 12)]) (N := N__law_fault) (sc := defScope s__law_fault) (by decide +kernel)) (fun _ _ _ _ _ => pg_name (i := 12) sc__law_fault.nd rfl (Or.inl rfl)) (fun _ _ _ _ _ => ts_one (t_not (t_chain op_le op_lt ao_IB ao_IB m_int (m_var 12) (m_len rfl T.z_len (a_cons (m_var 1) a_nil))))) (fun _ _ _ _ _ => (m_var 12))) a_nil)) m_int)))) (ss_one (s_ret (m_tup (a_cons m_str a_nil)))) ss_nil) (ss_cons (s_if (t_in (hu65 hr) (m_var 5) (m_lst false (a_cons (m_ix (m_var 1) (m_var 2)) (a_cons (m_ix (m_var 1) (m_var 3)) a_nil)))) (ss_one (s_ret m_non)) ss_nil) (ss_cons (s_if (t_w (w_or (t_notin (hu65 hr) (m_var 2) (m_var 7)) (w_or1 (t_in (hu65 hr) (m_var 3) (m_var 7))))) (ss_one (s_ret (m_tup (a_cons m_str a_nil)))) ss_nil) (ss_cons (s_for PassesOwn.never rfl (i_seq (m_var 7)) (g_name (i := 12) sc__law_fault.nd rfl (Or.inr rfl)) (ss_cons (s_if (t_ge (m_ix (m_var 1) (m_var 12)) (m_var 5)) (ss_one (s_ret (m_tup (a_cons m_str (a_cons (m_var 12) a_nil))))) ss_nil) (ss_one (s_if (t_gt (m_len rfl T.z_len (a_cons (m_lc (own := [("sign", 13)]) false 13 rfl sc__law_fault.nd (i_seq m_str) (blkOk_by (own := [("sign", 13)]) (N := N__law_fault) (sc := defScope s__law_fault) (by decide +kernel)) (fun _ _ _ _ _ => pg_name (i := 13) sc__law_fault.nd rfl (Or.inl rfl)) (fun _ _ _ _ _ => ts_one (t_w (w_and (t_notin (hu65 hr) (m_ix (m_dget (hu65 hr) (m_var 8) (m_var 13)) (m_var 12)) (m_var 7)) (w_and1 (t_lt (m_ix (m_var 1) (m_ix (m_dget (hu65 hr) (m_var 8) (m_var 13)) (m_var 12))) (m_var 5)))))) (fun _ _ _ _ _ => (m_var 13))) a_nil)) m_int) (ss_one (s_ret (m_tup (a_cons m_str (a_cons (m_var 12) a_nil))))) ss_nil)))) (ss_one (s_ret m_non)))))))))))
end
theorem law_fn {P : Program} {w : World} {K : PySem.W.Frag} {mg : Str → Option Value} {fa f : Addr} {h : Heap} {od an : Option Addr} {sl : Array (Option Value)} {oc kV dc pm cd ct : Value} (T : Tx K mg) (X : K.In h) (G : h.Ns mainGlobals mg) (hfa : mg "law" = some (.ref fa))
    (a : PySem.W.nsIn K mainGlobals "law" = some (some (.ref f))) (l : K.lookup f = some ⟨oc, od, .func (PySem.W.fnOf "law" "law" (defArgs s_law) (defBody s_law) (defScope s_law) .none kV dc pm an cd ct), sl⟩) (c : PySem.W.codeIn K cd "law" = true) (k : PySem.W.keepIn K (.ref f) = true) :
    ∃ fd : FuncData, (∀ (s : Shared) (v : Value), BindsTo s fd ⟨[v], []⟩ [("script", v)]) ∧ ∀ base : Heap, K.In base → base.Ns mainGlobals mg → FnOk P w K mg base CX0 6 fa fd ["script"] (spG K 1 F_law) := by
  have e := hfa.symm.trans (PySem.W.mg_of X G a)
  cases e
  have F := fun_mk (st := s_law) l c k
  exact ⟨_, fun s v => .of_eq rfl, fun base _ _ => fn_gen F sc_law fun cdv A outer s H E hr => (ss_cons (s_set (i := 1) sc_law.nd rfl (Or.inr rfl) (m_cG (d__law_state T) (hr.mono (by decide)) rfl (a_cons (m_var 0) a_nil))) (ss_cons (s_set (i := 2) sc_law.nd rfl (Or.inr rfl) (m_cG (d__law_floor T) (hr.mono (by decide)) rfl (a_cons (m_var 1) (a_cons m_int a_nil)))) (ss_cons (s_set (i := 3) sc_law.nd rfl (Or.inl rfl) (m_len rfl T.z_len (a_cons (m_ix (m_var 2) m_int) a_nil))) (ss_cons (s_set (i := 4) sc_law.nd rfl (Or.inr rfl) (m_lc (own := [("square", 5)]) false 5 rfl sc_law.nd (i_range1 rfl T.z_range (a_cons (m_var 3) a_nil)) (blkOk_by (own := [("square", 5)]) (N := N_law) (sc := defScope s_law) (by decide +kernel)) (fun _ _ _ _ _ => pg_name (i := 5) sc_law.nd rfl (Or.inl rfl)) (fun _ _ _ _ _ => ts_nil) (fun _ _ _ _ _ => (m_cG (d__law_take T) (hr.mono (by decide)) rfl (a_cons (m_var 1) (a_cons m_int a_nil)))))) (ss_cons (s_asgT rfl (a_cons (m_cG (d__law_take T) (hr.mono (by decide)) rfl (a_cons (m_var 1) (a_cons (m_var 3) a_nil))) (a_cons (m_cG (d__law_take T) (hr.mono (by decide)) rfl (a_cons (m_var 1) (a_cons (m_var 3) a_nil))) a_nil)) (gs_cons (g_name (i := 6) sc_law.nd rfl (Or.inr rfl)) (gs_cons (g_name (i := 7) sc_law.nd rfl (Or.inr rfl)) gs_nil))) (ss_cons (s_set (i := 8) sc_law.nd rfl (Or.inl rfl) (m_ix (m_lc (own := [("most", 9)]) false 9 rfl sc_law.nd (i_seq (m_sortset false rfl rfl T.z_sorted rfl T.z_set (a_cons (m_var 4) a_nil))) (blkOk_by (own := [("most", 9)]) (N := N_law) (sc := defScope s_law) (by decide +kernel)) (fun _ _ _ _ _ => pg_name (i := 9) sc_law.nd rfl (Or.inl rfl)) (fun _ _ _ _ _ => ts_one (t_in (hu65 hr) (m_var 7) (m_cP (d__law_pool T) (hr.mono (by decide)) rfl (a_cons (m_var 2) (a_cons (m_var 4) (a_cons (m_var 6) (a_cons (m_var 9) a_nil))))))) (fun _ _ _ _ _ => (m_var 9))) m_int)) (ss_cons (s_set (i := 10) sc_law.nd rfl (Or.inl rfl) (m_cP (d_lowest_pass T) (hr.mono (by decide)) rfl (a_cons (m_var 2) (a_cons (m_var 4) (a_cons (m_var 6) (a_cons (m_var 7) a_nil)))))) (ss_cons (s_if (t_w (w_or (t_ne (hu65 hr) (m_ix (m_var 10) m_int) (m_var 8)) (w_or (t_isnot (m_cP (d__law_fault T) (hr.mono (by decide)) rfl (a_cons (m_var 2) (a_cons (m_var 4) (a_cons (m_var 6) (a_cons (m_var 7) (a_cons (m_var 10) a_nil)))))) m_non) (w_or1 (t_isnot (m_cP (d_lowest_pass_fault T) (hr.mono (by decide)) rfl (a_cons (m_var 2) (a_cons (m_var 4) (a_cons (m_var 6) (a_cons (m_var 7) (a_cons (m_var 10) a_nil)))))) m_non))))) (ss_one (s_ret m_bl)) ss_nil) (ss_cons (s_set (i := 9) sc_law.nd rfl (Or.inl rfl) (m_sub (m_cG (d__law_take T) (hr.mono (by decide)) rfl (a_cons (m_var 1) (a_cons m_int a_nil))) m_int)) (ss_cons (s_set (i := 11) sc_law.nd rfl (Or.inl rfl) (m_lst false a_nil)) (ss_cons (s_for PassesOwn.never rfl (i_range1 rfl T.z_range (a_cons (m_var 3) a_nil)) (g_name (i := 5) sc_law.nd rfl (Or.inl rfl)) (ss_cons (s_set (i := 12) sc_law.nd rfl (Or.inl rfl) (m_cP (d__law_pool T) (hr.mono (by decide)) rfl (a_cons (m_var 2) (a_cons (m_var 4) (a_cons (m_var 5) (a_cons (m_var 9) a_nil)))))) (ss_cons (s_if (t_ne (hu65 hr) (m_cP (d_pool_of T) (hr.mono (by decide)) rfl (a_cons (m_var 2) (a_cons (m_var 4) (a_cons (m_var 5) (a_cons (m_var 9) a_nil))))) (m_var 12)) (ss_one (s_ret m_bl)) ss_nil) (ss_one (s_set (i := 11) sc_law.nd rfl (Or.inl rfl) (m_if (t_w (w_and (t_gt (m_len rfl T.z_len (a_cons (m_var 12) a_nil)) m_int) (w_and1 (t_notin (hu65 hr) (m_var 12) (m_var 11))))) (m_add false (m_var 11) (m_lst false (a_cons (m_var 12) a_nil))) (m_var 11))))))) (ss_cons (s_if (t_w (w_or (t_ne (hu65 hr) (m_cP (d_pools T) (hr.mono (by decide)) rfl (a_cons (m_var 2) (a_cons (m_var 4) (a_cons (m_var 9) a_nil)))) (m_var 11)) (w_or (t_ne (hu65 hr) (m_ix (m_cP (d_lowest_pass T) (hr.mono (by decide)) rfl (a_cons (m_var 2) (a_cons (m_var 4) (a_cons (m_var 7) (a_cons (m_var 6) a_nil))))) m_int) (m_var 8)) (w_or1 (t_ne (hu65 hr) (m_ix (m_cP (d_lowest_pass T) (hr.mono (by decide)) rfl (a_cons (m_var 2) (a_cons (m_var 4) (a_cons (m_var 6) (a_cons (m_var 6) a_nil))))) m_int) (m_ix (m_var 4) (m_var 6))))))) (ss_one (s_ret m_bl)) ss_nil) (ss_cons (s_for PassesOwn.never rfl (i_range1 rfl T.z_range (a_cons (m_var 3) a_nil)) (g_name (i := 13) sc_law.nd rfl (Or.inl rfl)) (ss_one (s_if (t_gt (m_var 8) (m_max rfl rfl T.z_max (a_cons (m_ix (m_cP (d_lowest_pass T) (hr.mono (by decide)) rfl (a_cons (m_var 2) (a_cons (m_var 4) (a_cons (m_var 6) (a_cons (m_var 13) a_nil))))) m_int) (a_cons (m_ix (m_cP (d_lowest_pass T) (hr.mono (by decide)) rfl (a_cons (m_var 2) (a_cons (m_var 4) (a_cons (m_var 13) (a_cons (m_var 7) a_nil))))) m_int) a_nil)))) (ss_one (s_ret m_bl)) ss_nil))) (ss_cons (s_for PassesOwn.never rfl (i_range1 rfl T.z_range (a_cons m_int a_nil)) (g_name (i := 14) sc_law.nd rfl (Or.inl rfl)) (ss_cons (s_asg (m_var 10) (g_tup rfl (gs_cons (g_name (i := 15) sc_law.nd rfl (Or.inl rfl)) (gs_cons (g_name (i := 16) sc_law.nd rfl (Or.inl rfl)) (gs_cons (g_name (i := 17) sc_law.nd rfl (Or.inl rfl)) gs_nil))))) (ss_cons (s_set (i := 18) sc_law.nd rfl (Or.inl rfl) (m_cG (d__law_take T) (hr.mono (by decide)) rfl (a_cons (m_var 1) (a_cons (m_max rfl rfl T.z_max (a_cons m_int (a_cons (m_len rfl T.z_len (a_cons (m_var 17) a_nil)) a_nil))) a_nil)))) (ss_cons (s_set (i := 19) sc_law.nd rfl (Or.inl rfl) (m_cG (d__law_take T) (hr.mono (by decide)) rfl (a_cons (m_var 1) (a_cons m_int a_nil)))) (ss_cons (s_if (t_eq (hu65 hr) (m_var 19) m_int) (ss_one (s_set (i := 16) sc_law.nd rfl (Or.inl rfl) (m_add false (m_var 16) (m_ix m_str (m_cG (d__law_take T) (hr.mono (by decide)) rfl (a_cons (m_var 1) (a_cons m_int a_nil))))))) (ss_one (s_if (t_eq (hu65 hr) (m_var 19) m_int) (ss_one (s_set (i := 16) sc_law.nd rfl (Or.inl rfl) (m_add false (m_var 16) m_str))) (ss_one (s_if (t_eq (hu65 hr) (m_var 19) m_int) (ss_one (s_set (i := 15) sc_law.nd rfl (Or.inl rfl) (m_add false (m_var 15) m_int))) (ss_one (s_if (t_eq (hu65 hr) (m_var 19) m_int) (ss_one (s_set (i := 17) sc_law.nd rfl (Or.inl rfl) (m_add false (m_slice false (m_var 17) o_none (o_some (m_var 18))) (m_slice false (m_var 17) (o_some (m_add false (m_var 18) m_int)) o_none)))) (ss_one (s_if (t_eq (hu65 hr) (m_var 19) m_int) (ss_one (s_set (i := 17) sc_law.nd rfl (Or.inl rfl) (m_sortset false rfl rfl T.z_sorted rfl T.z_set (a_cons (m_add false (m_var 17) (m_lst false (a_cons (m_cG (d__law_take T) (hr.mono (by decide)) rfl (a_cons (m_var 1) (a_cons (m_add false (m_var 3) m_int) a_nil))) a_nil))) a_nil)))) (ss_one (s_if (t_eq (hu65 hr) (m_var 19) m_int) (ss_one (s_set (i := 17) sc_law.nd rfl (Or.inl rfl) (m_rev false (m_var 17)))) (ss_cons (s_set (i := 16) sc_law.nd rfl (Or.inl rfl) (m_add false m_str (m_var 16))) (ss_one (s_set (i := 15) sc_law.nd rfl (Or.inl rfl) (m_max rfl rfl T.z_max (a_cons (m_var 15) (a_cons (m_ix (m_var 4) (m_ix (m_ix (m_var 2) m_int) (m_var 6))) a_nil))))))))))))))))) (ss_one (s_if (t_ne (hu65 hr) (m_cP (d_lowest_pass_fault T) (hr.mono (by decide)) rfl (a_cons (m_var 2) (a_cons (m_var 4) (a_cons (m_var 6) (a_cons (m_var 7) (a_cons (m_tup (a_cons (m_var 15) (a_cons (m_var 16) (a_cons (m_var 17) a_nil)))) a_nil)))))) (m_cP (d__law_fault T) (hr.mono (by decide)) rfl (a_cons (m_var 2) (a_cons (m_var 4) (a_cons (m_var 6) (a_cons (m_var 7) (a_cons (m_tup (a_cons (m_var 15) (a_cons (m_var 16) (a_cons (m_var 17) a_nil)))) a_nil))))))) (ss_one (s_ret m_bl)) ss_nil))))))) (ss_one (s_ret m_bl))))))))))))))))⟩
end K66
namespace CM
open PySem L2 VX
/-! ### turned_back, left, down, near_lists -/
def invTo (ns : List Nat) (i : Nat) : List Nat := (List.range i).foldl (fun f a => f.set (g0 ns a) a) (List.replicate ns.length 0)
/-- the list that leads back -/
def inv (ns : List Nat) : List Nat := invTo ns ns.length
theorem invTo_succ (ns : List Nat) (i : Nat) : invTo ns (i + 1) = (invTo ns i).set (g0 ns i) i := by
  unfold invTo; rw [List.range_succ, List.foldl_append]; rfl
@[simp] theorem invTo_len (ns : List Nat) (i : Nat) : (invTo ns i).length = ns.length := by
  induction i with
  | zero => simp [invTo]
  | succ i ih => rw [invTo_succ]; simpa using ih
@[simp] theorem inv_len (ns : List Nat) : (inv ns).length = ns.length := invTo_len _ _
/-- a list of numbers below its length -/
def Low (ns : List Nat) : Prop := ∀ j, j < ns.length → g0 ns j < ns.length
theorem L1_turned_back_eq (ns : List Nat) (hb : Low ns) (x y : Option PV) :
    ∃ x' y', L1_turned_back [some (.dat (.list (iL ns))), some (.ptr 0), x, y] [.lst (oL (invTo ns 0))] = some (.nx [some (.dat (.list (iL ns))), some (.ptr 0), x', y'] [.lst (oL (inv ns))]) := by
  unfold L1_turned_back sFor
  simp only [srcEnA, aCons, aNil, eVar, List.getElem?_cons_zero, Option.bind_some, okG_none]
  have key := forD_all (G := fun _ => true) (tg := tgT 2 (tgsCons (tgN 2) (tgsCons (tgN 3) tgsNil))) (b := B1_turned_back)
    (fun i ε μ => ∃ x' y', ε = [some (.dat (.list (iL ns))), some (.ptr 0), x', y'] ∧ μ = [.lst (oL (invTo ns i))]) ((enumD (iL ns)).map PV.dat) (fun _ _ _ _ => rfl) (fun i p ε μ hp h => by
      obtain ⟨x', y', rfl, rfl⟩ := h
      obtain ⟨d, h1, rfl⟩ := enum_get hp
      obtain ⟨hi, rfl⟩ := get_iL h1
      have hg := hb i hi
      refine ⟨_, _, [some (.dat (.list (iL ns))), some (.ptr 0), some (.dat (.int (i : Int))), some (.dat (.int ((g0 ns i : Nat) : Int)))], [.lst (oL (invTo ns (i + 1)))], rfl, ?_, _, _, rfl, rfl⟩
      simp [B1_turned_back, ixN_natD hg, invTo_succ]) (ε := [some (.dat (.list (iL ns))), some (.ptr 0), x, y]) (μ := [.lst (oL (invTo ns 0))]) ⟨x, y, rfl, rfl⟩
  obtain ⟨ε', μ', h1, x', y', rfl, rfl⟩ := key
  refine ⟨x', y', ?_⟩
  rw [h1]
  simp [inv]
theorem rep_oL (n : Nat) : List.replicate n (PV.dat (.int 0)) = oL (List.replicate n 0) := by simp [oL]
theorem F_turned_back_eq (ns : List Nat) (hl : ns.length ≤ 1000) (hb : Low ns) : F_turned_back [.list (iL ns)] = some (.list (iL (inv ns))) := by
  obtain ⟨x, y, h⟩ := L1_turned_back_eq ns hb none none
  have h1 : ns.length ≤ 1000000 := by omega
  have h2 : ns.length ≤ 100000 := by omega
  have h3 : oL (invTo ns 0) = List.replicate ns.length (PV.dat (.int 0)) := by rw [rep_oL]; rfl
  rw [h3] at h
  simp [F_turned_back, r_turned_back, cap, asDats, h1, h2, h]
/-- a floor as a datum -/
abbrev flo (R U : List Nat) : PyData := .tuple [.str "floor", .list (iL R), .list (iL U)]
theorem F_left_eq (R U : List Nat) (hl : R.length ≤ 1000) (hb : Low R) : F_left [flo R U] = some (.list (iL (inv R))) := by
  simp [F_left, r_left, asDats, F_turned_back_eq R hl hb, L2.atI, ixN]
theorem F_down_eq (R U : List Nat) (hl : U.length ≤ 1000) (hb : Low U) : F_down [flo R U] = some (.list (iL (inv U))) := by
  simp [F_down, r_down, asDats, F_turned_back_eq U hl hb, L2.atI, ixN]
theorem F_near_lists_eq (R U : List Nat) (hR : R.length ≤ 1000) (hU : U.length ≤ 1000) (bR : Low R) (bU : Low U) :
    F_near_lists [flo R U] = some (.tuple [.tuple [.str "r", .list (iL R)], .tuple [.str "l", .list (iL (inv R))], .tuple [.str "u", .list (iL U)], .tuple [.str "d", .list (iL (inv U))]]) := by
  simp [F_near_lists, r_near_lists, asDats, cap, F_left_eq R U hR bR, F_down_eq R U hU bU, L2.atI, ixN]
end CM
namespace CM
open PySem L2 VX

@[simp] theorem map_oZ (ns : List Int) : (ns.map fun n => PV.dat (.int n)) = oZ ns := rfl
/-! ### orders -/
theorem nodup_len : ∀ (n : Nat) (l : List Nat), l.Nodup → (∀ x ∈ l, x < n) → l.length ≤ n
  | 0, l, _, h => by
    cases l with
    | nil => exact Nat.le_refl 0
    | cons x r => exact absurd (h x List.mem_cons_self) (Nat.not_lt_zero _)
  | n + 1, l, nd, h => by
    have ih := nodup_len n (l.erase n) (nd.erase n) fun x hx => by
      rw [nd.mem_erase_iff] at hx
      have := h x hx.2
      omega
    by_cases hm : n ∈ l
    · rw [List.length_erase_of_mem hm] at ih; omega
    · rw [List.erase_of_not_mem hm] at ih; omega
/-- an order: each number below the length just once -/
structure Ord (ns : List Nat) : Prop where
  nd : ns.Nodup
  lt : ∀ x ∈ ns, x < ns.length
theorem g0_mem {ns : List Nat} {j : Nat} (h : j < ns.length) : g0 ns j ∈ ns := by rw [g0_of h]; exact List.getElem_mem h
theorem mem_g0 {ns : List Nat} {x : Nat} (h : x ∈ ns) : ∃ j, j < ns.length ∧ g0 ns j = x := by
  obtain ⟨j, hj, e⟩ := List.getElem_of_mem h
  exact ⟨j, hj, by rw [g0_of hj, e]⟩
theorem Ord.low {ns : List Nat} (o : Ord ns) : Low ns := fun j h => o.lt _ (g0_mem h)
theorem Ord.inj {ns : List Nat} (o : Ord ns) {i j : Nat} (hi : i < ns.length) (hj : j < ns.length) (e : g0 ns i = g0 ns j) : i = j := by
  rw [g0_of hi, g0_of hj] at e
  exact (List.getElem_inj o.nd).mp e
theorem Ord.surj {ns : List Nat} (o : Ord ns) {x : Nat} (h : x < ns.length) : x ∈ ns := by
  refine Classical.byContradiction fun hn => ?_
  have := nodup_len ns.length (x :: ns) (List.nodup_cons.mpr ⟨hn, o.nd⟩) fun y hy => by
    rcases List.mem_cons.mp hy with rfl | hy
    · exact h
    · exact o.lt y hy
  simp at this
  omega
theorem ord_of {ns : List Nat} (h : ∀ j, j < ns.length → g0 ns j < ns.length) (hi : ∀ i j, i < ns.length → j < ns.length → g0 ns i = g0 ns j → i = j) : Ord ns := by
  refine ⟨List.pairwise_iff_getElem.mpr fun i j h1 h2 hij e => ?_, fun x hx => ?_⟩
  · have := hi i j h1 h2 (by rw [g0_of h1, g0_of h2]; exact e)
    omega
  · obtain ⟨j, hj, rfl⟩ := mem_g0 hx
    exact h j hj
theorem g0_set {ns : List Nat} {i j v : Nat} (h : j < ns.length) : g0 (ns.set i v) j = if i = j then v else g0 ns j := by
  unfold g0
  simp only [List.getD_eq_getElem?_getD]
  by_cases e : i = j
  · subst e; simp [h]
  · simp [e]
theorem invTo_at {ns : List Nat} (o : Ord ns) (k : Nat) (hk : k ≤ ns.length) {i : Nat} (hi : i < k) : g0 (invTo ns k) (g0 ns i) = i := by
  induction k with
  | zero => omega
  | succ k ih =>
    rw [invTo_succ, g0_set (by simpa using o.low i (by omega))]
    by_cases e : g0 ns k = g0 ns i
    · rw [if_pos e]; exact o.inj (by omega) (by omega) e
    · rw [if_neg e]
      have : i ≠ k := fun z => e (by rw [z])
      exact ih (by omega) (by omega)
theorem inv_at {ns : List Nat} (o : Ord ns) {i : Nat} (h : i < ns.length) : g0 (inv ns) (g0 ns i) = i := invTo_at o _ (Nat.le_refl _) h
theorem at_inv {ns : List Nat} (o : Ord ns) {x : Nat} (h : x < ns.length) : g0 ns (g0 (inv ns) x) = x ∧ g0 (inv ns) x < ns.length := by
  obtain ⟨j, hj, rfl⟩ := mem_g0 (o.surj h)
  rw [inv_at o hj]
  exact ⟨rfl, hj⟩
theorem Ord.inv {ns : List Nat} (o : Ord ns) : Ord (inv ns) := by
  refine ord_of (fun j h => ?_) fun i j hi hj e => ?_
  · simp only [inv_len] at h ⊢; exact (at_inv o h).2
  · simp only [inv_len] at hi hj
    rw [← (at_inv o hi).1, ← (at_inv o hj).1, e]

/-! ### what hangs together -/
/-- what is reached from a over ok squares -/
inductive Rc (N : Nat → List Nat) (ok : Nat → Bool) (a : Nat) : Nat → Prop
  | refl : ok a = true → Rc N ok a a
  | step {b c : Nat} : Rc N ok a b → c ∈ N b → ok c = true → Rc N ok a c
theorem Rc.ok {N : Nat → List Nat} {ok : Nat → Bool} {a b : Nat} (h : Rc N ok a b) : ok b = true := by cases h <;> assumption
theorem Rc.ok0 {N : Nat → List Nat} {ok : Nat → Bool} {a b : Nat} (h : Rc N ok a b) : ok a = true := by induction h <;> assumption
theorem Rc.trans {N : Nat → List Nat} {ok : Nat → Bool} {a b c : Nat} (h : Rc N ok a b) (h' : Rc N ok b c) : Rc N ok a c := by
  induction h' with
  | refl => exact h
  | step _ m o ih => exact .step ih m o
theorem Rc.mono {N : Nat → List Nat} {ok ok' : Nat → Bool} {a b : Nat} (h : Rc N ok a b) (m : ∀ x, ok x = true → ok' x = true) : Rc N ok' a b := by
  induction h with
  | refl o => exact .refl (m _ o)
  | step _ mm o ih => exact .step ih mm (m _ o)
theorem Rc.lt {N : Nat → List Nat} {ok : Nat → Bool} {a b n : Nat} (h : Rc N ok a b) (ha : a < n) (hN : ∀ x, x < n → ∀ y ∈ N x, y < n) : b < n := by
  induction h with
  | refl => exact ha
  | step _ m _ ih => exact hN _ ih _ m
theorem Rc.symm {N : Nat → List Nat} {ok : Nat → Bool} {a b n : Nat} (h : Rc N ok a b) (ha : a < n) (hN : ∀ x, x < n → ∀ y ∈ N x, y < n) (hs : ∀ x y, x < n → y ∈ N x → x ∈ N y) : Rc N ok b a := by
  induction h with
  | refl o => exact .refl o
  | step h m o ih => exact (Rc.step (.refl o) (hs _ _ (h.lt ha hN) m) h.ok).trans ih
def addN (ok : Nat → Bool) (f : List Nat) (x : Nat) : List Nat := if ok x = true ∧ x ∉ f then f ++ [x] else f
theorem addN_sub {ok : Nat → Bool} {f : List Nat} {x y : Nat} (h : y ∈ f) : y ∈ addN ok f x := by
  unfold addN; split
  · exact List.mem_append_left _ h
  · exact h
theorem addN_has {ok : Nat → Bool} {f : List Nat} {x : Nat} (h : ok x = true) : x ∈ addN ok f x := by
  unfold addN
  by_cases e : x ∈ f
  · rw [if_neg (fun z => z.2 e)]; exact e
  · rw [if_pos ⟨h, e⟩]; simp
theorem addN_mem {ok : Nat → Bool} {f : List Nat} {x y : Nat} (h : y ∈ addN ok f x) : y ∈ f ∨ (y = x ∧ ok x = true) := by
  unfold addN at h; split at h
  · rename_i c
    rcases List.mem_append.mp h with h | h
    · exact .inl h
    · exact .inr ⟨by simpa using h, c.1⟩
  · exact .inl h
theorem addN_nd {ok : Nat → Bool} {f : List Nat} {x : Nat} (h : f.Nodup) : (addN ok f x).Nodup := by
  unfold addN; split
  · rename_i c
    rw [List.nodup_append]
    exact ⟨h, by simp, fun a ha b hb => by simp at hb; subst hb; intro z; subst z; exact c.2 ha⟩
  · exact h
theorem addN_pre {ok : Nat → Bool} {f : List Nat} {x : Nat} : ∃ t, addN ok f x = f ++ t := by
  unfold addN; split
  · exact ⟨_, rfl⟩
  · exact ⟨[], by simp⟩
def addsN (ok : Nat → Bool) (f xs : List Nat) : List Nat := xs.foldl (addN ok) f
theorem addsN_sub {ok : Nat → Bool} {xs : List Nat} : ∀ {f : List Nat} {y : Nat}, y ∈ f → y ∈ addsN ok f xs := by
  induction xs with
  | nil => intro f y h; exact h
  | cons x r ih => intro f y h; exact ih (addN_sub h)
theorem addsN_has {ok : Nat → Bool} {xs : List Nat} : ∀ {f : List Nat} {y : Nat}, y ∈ xs → ok y = true → y ∈ addsN ok f xs := by
  induction xs with
  | nil => intro f y h _; cases h
  | cons x r ih =>
    intro f y h o
    rcases List.mem_cons.mp h with rfl | h
    · show y ∈ addsN ok (addN ok f y) r
      exact addsN_sub (addN_has o)
    · exact ih h o
theorem addsN_mem {ok : Nat → Bool} {xs : List Nat} : ∀ {f : List Nat} {y : Nat}, y ∈ addsN ok f xs → y ∈ f ∨ (y ∈ xs ∧ ok y = true) := by
  induction xs with
  | nil => intro f y h; exact .inl h
  | cons x r ih =>
    intro f y h
    rcases ih h with h | h
    · rcases addN_mem h with h | ⟨rfl, o⟩
      · exact .inl h
      · exact .inr ⟨List.mem_cons_self, o⟩
    · exact .inr ⟨List.mem_cons_of_mem _ h.1, h.2⟩
theorem addsN_nd {ok : Nat → Bool} {xs : List Nat} : ∀ {f : List Nat}, f.Nodup → (addsN ok f xs).Nodup := by
  induction xs with
  | nil => intro f h; exact h
  | cons x r ih => intro f h; exact ih (addN_nd h)
theorem addsN_pre {ok : Nat → Bool} {xs : List Nat} : ∀ {f : List Nat}, ∃ t, addsN ok f xs = f ++ t := by
  induction xs with
  | nil => intro f; exact ⟨[], by simp [addsN]⟩
  | cons x r ih =>
    intro f
    obtain ⟨t, e⟩ := addN_pre (ok := ok) (f := f) (x := x)
    obtain ⟨u, e'⟩ := ih (f := addN ok f x)
    exact ⟨t ++ u, by show addsN ok (addN ok f x) r = _; rw [e', e]; simp⟩
/-- found ones: all reached, each once, below n -/
structure Fnd (N : Nat → List Nat) (ok : Nat → Bool) (s n : Nat) (f : List Nat) : Prop where
  nd : f.Nodup
  rc : ∀ x ∈ f, Rc N ok s x
  st : ok s = true → s ∈ f
theorem Fnd.start {N : Nat → List Nat} {ok : Nat → Bool} {s n : Nat} : Fnd N ok s n (if ok s = true then [s] else []) := by
  split
  · rename_i h; exact ⟨by simp, fun x hx => by simp at hx; subst hx; exact .refl h, fun _ => by simp⟩
  · rename_i h; exact ⟨by simp, fun x hx => by simp at hx, fun z => absurd z h⟩
theorem Fnd.adds {N : Nat → List Nat} {ok : Nat → Bool} {s n a : Nat} {f xs : List Nat} (h : Fnd N ok s n f) (ha : a ∈ f) (hx : ∀ x ∈ xs, x ∈ N a) : Fnd N ok s n (addsN ok f xs) := by
  refine ⟨addsN_nd h.nd, fun x hm => ?_, fun o => addsN_sub (h.st o)⟩
  rcases addsN_mem hm with hm | ⟨hm, o⟩
  · exact h.rc x hm
  · exact .step (h.rc a ha) (hx x hm) o
theorem Fnd.all {N : Nat → List Nat} {ok : Nat → Bool} {s n : Nat} {f : List Nat} (h : Fnd N ok s n f) (hc : ∀ x ∈ f, ∀ y ∈ N x, ok y = true → y ∈ f) : ∀ x, x ∈ f ↔ Rc N ok s x := fun x => ⟨h.rc x, fun r => by
  induction r with
  | refl o => exact h.st o
  | step _ m o ih => exact hc _ ih _ m o⟩
theorem Fnd.len {N : Nat → List Nat} {ok : Nat → Bool} {s n : Nat} {f : List Nat} (h : Fnd N ok s n f) (hs : s < n) (hN : ∀ x, x < n → ∀ y ∈ N x, y < n) : f.length ≤ n :=
  nodup_len n f h.nd fun x hx => (h.rc x hx).lt hs hN
/-- the pool: the ascending list of what is reached -/
structure IsPool (N : Nat → List Nat) (ok : Nat → Bool) (s : Nat) (Z : List Int) : Prop where
  up : Z.Pairwise (· < ·)
  mem : ∀ k, k ∈ Z ↔ ∃ x : Nat, k = (x : Int) ∧ Rc N ok s x
theorem IsPool.uniq {N : Nat → List Nat} {ok : Nat → Bool} {s : Nat} {Z Z' : List Int} (h : IsPool N ok s Z) (h' : IsPool N ok s Z') : Z = Z' := strict_uniq h.up h'.up fun k => by rw [h.mem, h'.mem]
theorem strict_of {ns : List Int} (s : ns.Pairwise (· ≤ ·)) (nd : ns.Nodup) : ns.Pairwise (· < ·) := by
  induction ns with
  | nil => exact .nil
  | cons x r ih =>
    rw [List.pairwise_cons] at s ⊢
    rw [List.nodup_cons] at nd
    refine ⟨fun y hy => ?_, ih s.2 nd.2⟩
    have := s.1 y hy
    have : x ≠ y := fun z => nd.1 (z ▸ hy)
    omega
theorem nodup_toZ {ns : List Nat} (h : ns.Nodup) : (toZ ns).Nodup := by
  unfold toZ
  induction ns with
  | nil => simp
  | cons x r ih =>
    rw [List.nodup_cons] at h
    rw [List.map_cons, List.nodup_cons]
    exact ⟨fun z => h.1 (mem_toZ.mp z), ih h.2⟩
theorem isPool_of {N : Nat → List Nat} {ok : Nat → Bool} {s n : Nat} {f : List Nat} (h : Fnd N ok s n f) (hc : ∀ x ∈ f, ∀ y ∈ N x, ok y = true → y ∈ f) : IsPool N ok s (isort (toZ f)) := by
  refine ⟨strict_of (isort_sorted _) ((isort_perm _).nodup_iff.mpr (nodup_toZ h.nd)), fun k => ?_⟩
  rw [(isort_perm _).mem_iff]
  constructor
  · intro hk
    obtain ⟨x, hx, rfl⟩ := List.mem_map.mp hk
    exact ⟨x, rfl, h.rc x hx⟩
  · rintro ⟨x, rfl, r⟩
    exact mem_toZ.mpr ((h.all hc x).mpr r)
/-- the four beside a square -/
def nbs4 (R U : List Nat) (a : Nat) : List Nat := [g0 R a, g0 (inv R) a, g0 U a, g0 (inv U) a]
/-- a floor -/
structure Flo (R U : List Nat) (n : Nat) : Prop where
  lR : R.length = n
  lU : U.length = n
  oR : Ord R
  oU : Ord U
  small : n ≤ 60
theorem Flo.nb_lt {R U : List Nat} {n : Nat} (F : Flo R U n) : ∀ x, x < n → ∀ y ∈ nbs4 R U x, y < n := by
  intro x hx y hy
  simp only [nbs4, List.mem_cons, List.not_mem_nil, or_false] at hy
  rcases hy with rfl | rfl | rfl | rfl
  · have := F.oR.low x (by rw [F.lR]; exact hx); rw [F.lR] at this; exact this
  · have := (at_inv F.oR (x := x) (by rw [F.lR]; exact hx)).2; rw [F.lR] at this; exact this
  · have := F.oU.low x (by rw [F.lU]; exact hx); rw [F.lU] at this; exact this
  · have := (at_inv F.oU (x := x) (by rw [F.lU]; exact hx)).2; rw [F.lU] at this; exact this
theorem Flo.nb_symm {R U : List Nat} {n : Nat} (F : Flo R U n) : ∀ x y, x < n → y ∈ nbs4 R U x → x ∈ nbs4 R U y := by
  intro x y hx hy
  have hR : x < R.length := by rw [F.lR]; exact hx
  have hU : x < U.length := by rw [F.lU]; exact hx
  simp only [nbs4, List.mem_cons, List.not_mem_nil, or_false] at hy ⊢
  rcases hy with rfl | rfl | rfl | rfl
  · exact .inr (.inl (inv_at F.oR hR).symm)
  · exact .inl (at_inv F.oR hR).1.symm
  · exact .inr (.inr (.inr (inv_at F.oU hU).symm))
  · exact .inr (.inr (.inl (at_inv F.oU hU).1.symm))
end CM
namespace CM
open PySem L2 VX

abbrev okL (lev : List Int) (most : Int) (x : Nat) : Bool := decide (z0 lev x ≤ most)
theorem B1_pool_of_eq {f row : List Nat} {lev : List Int} {most : Int} {i n : Nat} (hi : i < f.length) (hf : g0 f i < n) (hr : row.length = n) (hrow : g0 row (g0 f i) < n) (hl : lev.length = n) (hcap : f.length < 1000) (fl sq sg x : Option PV) :
    B1_pool_of [fl, some (.dat (.list (iZ lev))), sq, some (.dat (.int most)), some (.ptr 0), some (.dat (.int (i : Int))), sg, some (.dat (.list (iL row))), x] [.lst (oL f)] =
      some (.nx [fl, some (.dat (.list (iZ lev))), sq, some (.dat (.int most)), some (.ptr 0), some (.dat (.int (i : Int))), sg, some (.dat (.list (iL row))), some (.dat (.int ((g0 row (g0 f i) : Nat) : Int)))] [.lst (oL (addN (okL lev most) f (g0 row (g0 f i))))]) := by
  have a1 := at_oL hi
  have a2 := at_oL (ns := row) (j := g0 f i) (by omega)
  have a3 := at_oZ (ns := lev) (j := g0 row (g0 f i)) (by omega)
  have c : f.length < 1000000 := by omega
  by_cases h1 : z0 lev (g0 row (g0 f i)) ≤ most
  · by_cases h2 : g0 row (g0 f i) ∈ f
    · simp [B1_pool_of, a1, a2, a3, h1, h2, addN]
    · simp [B1_pool_of, a1, a2, a3, h1, h2, addN, cap, c]
  · simp [B1_pool_of, a1, a2, a3, h1, addN]
theorem g0_app {f t : List Nat} {i : Nat} (h : i < f.length) : g0 (f ++ t) i = g0 f i := by
  rw [g0_of h, g0_of (by simp; omega)]
  exact List.getElem_append_left h
theorem L1_pool_of_eq {R U f : List Nat} {lev : List Int} {most : Int} {i n : Nat} (F : Flo R U n) (hi : i < f.length) (hf : ∀ x ∈ f, x < n) (hl : lev.length = n) (hcap : f.length + 4 < 1000) (sq sg r x : Option PV) :
    ∃ sg' r' x', L1_pool_of [some (.dat (flo R U)), some (.dat (.list (iZ lev))), sq, some (.dat (.int most)), some (.ptr 0), some (.dat (.int (i : Int))), sg, r, x] [.lst (oL f)] =
      some (.nx [some (.dat (flo R U)), some (.dat (.list (iZ lev))), sq, some (.dat (.int most)), some (.ptr 0), some (.dat (.int (i : Int))), sg', r', x'] [.lst (oL (addsN (okL lev most) f (nbs4 R U (g0 f i))))]) := by
  have hn := F.small
  have ha : g0 f i < n := hf _ (g0_mem hi)
  have nb := F.nb_lt _ ha
  have step : ∀ (g : List Nat) (row : List Nat), (∃ t, g = f ++ t) → g.length < 1000 → row.length = n → g0 row (g0 f i) < n → ∀ sg x : Option PV, B1_pool_of [some (.dat (flo R U)), some (.dat (.list (iZ lev))), sq, some (.dat (.int most)), some (.ptr 0), some (.dat (.int (i : Int))), sg, some (.dat (.list (iL row))), x] [.lst (oL g)] =
      some (.nx [some (.dat (flo R U)), some (.dat (.list (iZ lev))), sq, some (.dat (.int most)), some (.ptr 0), some (.dat (.int (i : Int))), sg, some (.dat (.list (iL row))), some (.dat (.int ((g0 row (g0 f i) : Nat) : Int)))] [.lst (oL (addN (okL lev most) g (g0 row (g0 f i))))]) := by
    rintro g row ⟨t, rfl⟩ hg hr hrow sg x
    have e : g0 (f ++ t) i = g0 f i := g0_app hi
    have := B1_pool_of_eq (f := f ++ t) (row := row) (lev := lev) (most := most) (i := i) (n := n) (by simp; omega) (by rw [e]; exact ha) hr (by rw [e]; exact hrow) hl hg (some (.dat (flo R U))) sq sg x
    rw [e] at this
    exact this
  have pre : ∀ (g : List Nat) (y : Nat), (∃ t, g = f ++ t) → ∃ t, addN (okL lev most) g y = f ++ t := by
    rintro g y ⟨t, rfl⟩
    obtain ⟨u, e⟩ := addN_pre (ok := okL lev most) (f := f ++ t) (x := y)
    exact ⟨t ++ u, by rw [e]; simp⟩
  have len : ∀ (g : List Nat) (y : Nat), (addN (okL lev most) g y).length ≤ g.length + 1 := by
    intro g y; unfold addN; split <;> simp
  have n1 := nb (g0 R (g0 f i)) (by simp [nbs4])
  have n2 := nb (g0 (inv R) (g0 f i)) (by simp [nbs4])
  have n3 := nb (g0 U (g0 f i)) (by simp [nbs4])
  have n4 := nb (g0 (inv U) (g0 f i)) (by simp [nbs4])
  have p0 : ∃ t, f = f ++ t := ⟨[], by simp⟩
  have p1 := pre f (g0 R (g0 f i)) p0
  have p2 := pre _ (g0 (inv R) (g0 f i)) p1
  have p3 := pre _ (g0 U (g0 f i)) p2
  have l1 := len f (g0 R (g0 f i))
  have l2 := len (addN (okL lev most) f (g0 R (g0 f i))) (g0 (inv R) (g0 f i))
  have l3 := len (addN (okL lev most) (addN (okL lev most) f (g0 R (g0 f i))) (g0 (inv R) (g0 f i))) (g0 U (g0 f i))
  have s1 := step f R p0 (by omega) F.lR n1
  have s2 := step _ (inv R) p1 (by omega) (by rw [inv_len]; exact F.lR) n2
  have s3 := step _ U p2 (by omega) F.lU n3
  have s4 := step _ (inv U) p3 (by omega) (by rw [inv_len]; exact F.lU) n4
  have nl := F_near_lists_eq R U (by rw [F.lR]; omega) (by rw [F.lU]; omega) F.oR.low F.oU.low
  refine ⟨some (.dat (.str "d")), some (.dat (.list (iL (inv U)))), some (.dat (.int ((g0 (inv U) (g0 f i) : Nat) : Int))), ?_⟩
  unfold L1_pool_of sFor
  simp [asDats, nl, okG_none, forD, s1, s2, s3, s4, addsN, nbs4]
theorem L2_pool_of_eq {R U f : List Nat} {lev : List Int} {most : Int} {n s : Nat} (F : Flo R U n) (hs : s < n) (hl : lev.length = n) (hf : Fnd (nbs4 R U) (okL lev most) s n f) (sq sg r x : Option PV) :
    ∃ g a sg' r' x', L2_pool_of [some (.dat (flo R U)), some (.dat (.list (iZ lev))), sq, some (.dat (.int most)), some (.ptr 0), some (.dat (.int 0)), sg, r, x] [.lst (oL f)] =
      some (.nx [some (.dat (flo R U)), some (.dat (.list (iZ lev))), sq, some (.dat (.int most)), some (.ptr 0), a, sg', r', x'] [.lst (oL g)]) ∧ Fnd (nbs4 R U) (okL lev most) s n g ∧ ∀ x ∈ g, ∀ y ∈ nbs4 R U x, okL lev most y = true → y ∈ g := by
  have hn := F.small
  have key := whileN_gen (c := tsE (eOp fLt (eVar 5) (eCa fLen (aCons (eVar 4) aNil)))) (b := B2_pool_of)
    (fun m ε μ => ∃ (g : List Nat) (i : Nat) (sg' r' x' : Option PV), ε = [some (.dat (flo R U)), some (.dat (.list (iZ lev))), sq, some (.dat (.int most)), some (.ptr 0), some (.dat (.int (i : Int))), sg', r', x'] ∧ μ = [.lst (oL g)] ∧ Fnd (nbs4 R U) (okL lev most) s n g ∧ i ≤ g.length ∧ n - i ≤ m ∧ ∀ j, j < i → ∀ y ∈ nbs4 R U (g0 g j), okL lev most y = true → y ∈ g)
    (fun o => ∃ g a sg' r' x', o = .nx [some (.dat (flo R U)), some (.dat (.list (iZ lev))), sq, some (.dat (.int most)), some (.ptr 0), a, sg', r', x'] [.lst (oL g)] ∧ Fnd (nbs4 R U) (okL lev most) s n g ∧ ∀ x ∈ g, ∀ y ∈ nbs4 R U x, okL lev most y = true → y ∈ g)
    (fun m ε μ h => by
      obtain ⟨g, i, sg', r', x', rfl, rfl, hg, hi, hm, hc⟩ := h
      have hgl := hg.len hs F.nb_lt
      refine ⟨decide ((i : Int) < (g.length : Int)), [.lst (oL g)], by simp, fun hb => ?_, fun hb => ?_⟩
      · have hb' : ¬ (i : Int) < (g.length : Int) := of_decide_eq_false hb
        have ei : i = g.length := by omega
        refine ⟨g, _, sg', r', x', rfl, hg, fun x hx y hy ho => ?_⟩
        obtain ⟨j, hj, rfl⟩ := mem_g0 hx
        exact hc j (by omega) y hy ho
      · have hb' : (i : Int) < (g.length : Int) := of_decide_eq_true hb
        have hi' : i < g.length := by omega
        obtain ⟨m', rfl⟩ : ∃ m', m = m' + 1 := ⟨m - 1, by omega⟩
        refine ⟨m', rfl, ?_⟩
        obtain ⟨sg2, r2, x2, e⟩ := L1_pool_of_eq (f := g) (most := most) F hi' (fun x hx => (hg.rc x hx).lt hs F.nb_lt) hl (by omega) sq sg' r' x'
        obtain ⟨t, et⟩ := addsN_pre (ok := okL lev most) (f := g) (xs := nbs4 R U (g0 g i))
        refine ⟨.nx [some (.dat (flo R U)), some (.dat (.list (iZ lev))), sq, some (.dat (.int most)), some (.ptr 0), some (.dat (.int ((i + 1 : Nat) : Int))), sg2, r2, x2] [.lst (oL (addsN (okL lev most) g (nbs4 R U (g0 g i))))], by simp [B2_pool_of, e], ?_⟩
        refine ⟨_, i + 1, sg2, r2, x2, rfl, rfl, hg.adds (g0_mem hi') (fun x hx => hx), ?_, by omega, fun j hj y hy ho => ?_⟩
        · rw [et]; simp; omega
        · by_cases ej : j = i
          · subst ej
            rw [et, g0_app hi'] at hy
            exact addsN_has hy ho
          · have : j < i := by omega
            rw [et, g0_app (by omega)] at hy
            exact addsN_sub (hc j this y hy ho)) 2000 n
    [some (.dat (flo R U)), some (.dat (.list (iZ lev))), sq, some (.dat (.int most)), some (.ptr 0), some (.dat (.int 0)), sg, r, x] [.lst (oL f)] (by omega) ⟨f, 0, sg, r, x, rfl, rfl, hf, Nat.zero_le _, by omega, fun j hj => absurd hj (Nat.not_lt_zero _)⟩
  obtain ⟨o, h1, g, a, sg', r', x', rfl, h2, h3⟩ := key
  exact ⟨g, a, sg', r', x', h1, h2, h3⟩
theorem F_pool_of_eq {R U : List Nat} {lev : List Int} {most : Int} {n s : Nat} (F : Flo R U n) (hs : s < n) (hl : lev.length = n) :
    ∃ Z, F_pool_of [flo R U, .list (iZ lev), .int (s : Int), .int most] = some (.list (iZ Z)) ∧ IsPool (nbs4 R U) (okL lev most) s Z := by
  have hn := F.small
  obtain ⟨g, a, sg, r, x, e, h1, h2⟩ := L2_pool_of_eq (most := most) F hs hl Fnd.start (some (.dat (.int (s : Int)))) none none none
  refine ⟨_, ?_, isPool_of h1 h2⟩
  have a1 := at_oZ (ns := lev) (j := s) (by omega)
  have hgl := h1.len hs F.nb_lt
  have c : (isort (toZ g)).length ≤ 1000000 := by rw [(isort_perm _).length_eq]; simp; omega
  by_cases ho : z0 lev s ≤ most
  · simp only [okL, ho, decide_true, if_true] at e
    rw [oL_one] at e
    simp [F_pool_of, r_pool_of, a1, ho, cap, e, c]
  · simp only [okL, ho, decide_false, Bool.false_eq_true, if_false] at e
    rw [oL_nil] at e
    simp [F_pool_of, r_pool_of, a1, ho, cap, e, c]
end CM
namespace CM
open PySem L2 VX
@[simp] theorem atI_z {α : Type} (a : α) (l : List α) : L2.atI (a :: l) 0 = some a := atI_nat (j := 0) rfl
@[simp] theorem atI_o {α : Type} (a b : α) (l : List α) : L2.atI (a :: b :: l) 1 = some b := atI_nat (j := 1) rfl
@[simp] theorem atI_t {α : Type} (a b c : α) (l : List α) : L2.atI (a :: b :: c :: l) 2 = some c := atI_nat (j := 2) rfl
/-! ### _law_lists -/
def dicR (R U : List Nat) : List (Key × PV) := [(.inr "r", .dat (.list (iL R))), (.inr "u", .dat (.list (iL U))), (.inr "l", .ptr 0), (.inr "d", .ptr 1)]
theorem valP_hit {κ : Type} [DecidableEq κ] {k : κ} {v : PV} {r : List (κ × PV)} : valP ((k, v) :: r) k = some v := by simp [valP]
theorem valP_miss {κ : Type} [DecidableEq κ] {k k' : κ} {v : PV} {r : List (κ × PV)} (h : k' ≠ k) : valP ((k', v) :: r) k = valP r k := by simp [valP, h]
theorem putP_miss {κ : Type} [DecidableEq κ] {k k' : κ} {v w : PV} {r : List (κ × PV)} (h : k' ≠ k) : putP ((k', v) :: r) k w = (k', v) :: putP r k w := by simp [putP, h]
theorem inr_ne {a b : Str} (h : a ≠ b) : (Sum.inr a : Key) ≠ Sum.inr b := fun z => h (Sum.inr.inj z)
theorem valP_r (R U : List Nat) : valP (dicR R U) (.inr "r") = some (.dat (.list (iL R))) := valP_hit
theorem valP_u (R U : List Nat) : valP (dicR R U) (.inr "u") = some (.dat (.list (iL U))) := by
  unfold dicR
  rw [valP_miss (inr_ne (by decide)), valP_hit]
theorem valP_l (R U : List Nat) : valP (dicR R U) (.inr "l") = some (.ptr 0) := by
  unfold dicR
  rw [valP_miss (inr_ne (by decide)), valP_miss (inr_ne (by decide)), valP_hit]
theorem valP_d (R U : List Nat) : valP (dicR R U) (.inr "d") = some (.ptr 1) := by
  unfold dicR
  rw [valP_miss (inr_ne (by decide)), valP_miss (inr_ne (by decide)), valP_miss (inr_ne (by decide)), valP_hit]
theorem merge4 {k1 k2 k3 k4 : Str} {a b c d : PV} (h1 : k1 ≠ k2) (h2 : k1 ≠ k3) (h3 : k1 ≠ k4) (h4 : k2 ≠ k3) (h5 : k2 ≠ k4) (h6 : k3 ≠ k4) :
    mergeP [] [((.inr k1 : Key), a), (.inr k2, b), (.inr k3, c), (.inr k4, d)] = [((.inr k1 : Key), a), (.inr k2, b), (.inr k3, c), (.inr k4, d)] := by
  unfold mergeP
  simp only [List.foldl_cons, List.foldl_nil]
  have e0 : ∀ (k : Key) (v : PV), putP [] k v = [(k, v)] := fun k v => rfl
  rw [e0, putP_miss (inr_ne h1), e0, putP_miss (inr_ne h2), putP_miss (inr_ne h4), e0, putP_miss (inr_ne h3), putP_miss (inr_ne h5), putP_miss (inr_ne h6), e0]
theorem mergeR (R U : List Nat) (a b : PV) : mergeP [] [((.inr "r" : Key), .dat (.list (iL R))), (.inr "u", .dat (.list (iL U))), (.inr "l", a), (.inr "d", b)] = [((.inr "r" : Key), .dat (.list (iL R))), (.inr "u", .dat (.list (iL U))), (.inr "l", a), (.inr "d", b)] :=
  merge4 (by decide) (by decide) (by decide) (by decide) (by decide) (by decide)
def listsSt (R U iR iU : List Nat) : Sto := [.lst (oL iR), .lst (oL iU), .dic (dicR R U)]
theorem get_l {R U iR iU : List Nat} (a b d : Option PV) : eDGet (eVar 2) (eC (.str "l")) [a, b, some (.ptr 2), d] (listsSt R U iR iU) = some (.ptr 0, listsSt R U iR iU) := by
  simp [-valP, valP_l, listsSt]
theorem get_d {R U iR iU : List Nat} (a b d : Option PV) : eDGet (eVar 2) (eC (.str "d")) [a, b, some (.ptr 2), d] (listsSt R U iR iU) = some (.ptr 1, listsSt R U iR iU) := by
  simp [-valP, valP_d, listsSt]
theorem get_R {R U : List Nat} {μ : Sto} {i : Nat} (h : i < R.length) (b c : Option PV) : eOp fIx (eOp fIx (eVar 0) (eC (.int 1))) (eVar 3) [some (.dat (flo R U)), b, c, some (.dat (.int (i : Int)))] μ = some (.dat (.int ((g0 R i : Nat) : Int)), μ) := by
  simp [at_oL h]
theorem get_U {R U : List Nat} {μ : Sto} {i : Nat} (h : i < U.length) (b c : Option PV) : eOp fIx (eOp fIx (eVar 0) (eC (.int 2))) (eVar 3) [some (.dat (flo R U)), b, c, some (.dat (.int (i : Int)))] μ = some (.dat (.int ((g0 U i : Nat) : Int)), μ) := by
  simp [at_oL h]
theorem set_l {R U iR iU : List Nat} {i j : Nat} (h : i < R.length) (b : Option PV) (hj : g0 R i < iR.length) : tgSub (eDGet (eVar 2) (eC (.str "l"))) (eOp fIx (eOp fIx (eVar 0) (eC (.int 1))) (eVar 3)) (.dat (.int (j : Int))) [some (.dat (flo R U)), b, some (.ptr 2), some (.dat (.int (i : Int)))] (listsSt R U iR iU) = some ([some (.dat (flo R U)), b, some (.ptr 2), some (.dat (.int (i : Int)))], listsSt R U (iR.set (g0 R i) j) iU) := by
  unfold tgSub
  rw [get_l]
  simp only [Option.bind_some]
  rw [get_R h]
  simp [listsSt, ixN_natD hj]
theorem set_d {R U iR iU : List Nat} {i j : Nat} (h : i < U.length) (b : Option PV) (hj : g0 U i < iU.length) : tgSub (eDGet (eVar 2) (eC (.str "d"))) (eOp fIx (eOp fIx (eVar 0) (eC (.int 2))) (eVar 3)) (.dat (.int (j : Int))) [some (.dat (flo R U)), b, some (.ptr 2), some (.dat (.int (i : Int)))] (listsSt R U iR iU) = some ([some (.dat (flo R U)), b, some (.ptr 2), some (.dat (.int (i : Int)))], listsSt R U iR (iU.set (g0 U i) j)) := by
  unfold tgSub
  rw [get_d]
  simp only [Option.bind_some]
  rw [get_U h]
  simp [listsSt, ixN_natD hj]
theorem B1__law_lists_eq {R U : List Nat} {n i : Nat} (F : Flo R U n) (hi : i < n) (b : Option PV) : B1__law_lists [some (.dat (flo R U)), b, some (.ptr 2), some (.dat (.int (i : Int)))] (listsSt R U (invTo R i) (invTo U i)) = some (.nx [some (.dat (flo R U)), b, some (.ptr 2), some (.dat (.int (i : Int)))] (listsSt R U (invTo R (i + 1)) (invTo U (i + 1)))) := by
  have hR : i < R.length := by rw [F.lR]; exact hi
  have hU : i < U.length := by rw [F.lU]; exact hi
  have e3 : ∀ μ : Sto, eVar 3 [some (.dat (flo R U)), b, some (.ptr 2), some (.dat (.int (i : Int)))] μ = some (.dat (.int (i : Int)), μ) := fun _ => rfl
  unfold B1__law_lists sSeq sAsg
  rw [e3]
  simp only [Option.bind_some]
  rw [set_l hR b (by rw [invTo_len]; exact F.oR.low i hR)]
  simp only [Option.bind_some]
  rw [e3]
  simp only [Option.bind_some]
  rw [set_d hU b (by rw [invTo_len]; exact F.oU.low i hU)]
  simp only [Option.bind_some, invTo_succ]
theorem L1__law_lists_eq {R U : List Nat} {n : Nat} (F : Flo R U n) (x : Option PV) :
    ∃ x', L1__law_lists [some (.dat (flo R U)), some (.dat (.int (n : Int))), some (.ptr 2), x] (listsSt R U (invTo R 0) (invTo U 0)) = some (.nx [some (.dat (flo R U)), some (.dat (.int (n : Int))), some (.ptr 2), x'] (listsSt R U (inv R) (inv U))) := by
  have hn := F.small
  have key := forD_all (G := fun _ => true) (tg := tgN 3) (b := B1__law_lists)
    (fun i ε μ => ∃ x', ε = [some (.dat (flo R U)), some (.dat (.int (n : Int))), some (.ptr 2), x'] ∧ μ = listsSt R U (invTo R i) (invTo U i)) ((List.range n).map fun i => PV.dat (.int (i : Nat))) (fun _ _ _ _ => rfl) (fun i p ε μ hp h => by
      obtain ⟨x', rfl, rfl⟩ := h
      have hi : i < n := by simpa using (List.getElem?_eq_some_iff.mp hp).1
      have ep : p = .dat (.int (i : Int)) := by simpa [hi] using hp.symm
      subst ep
      refine ⟨_, _, [some (.dat (flo R U)), some (.dat (.int (n : Int))), some (.ptr 2), some (.dat (.int (i : Int)))], listsSt R U (invTo R (i + 1)) (invTo U (i + 1)), rfl, B1__law_lists_eq F hi _, _, rfl, rfl⟩
      ) (ε := [some (.dat (flo R U)), some (.dat (.int (n : Int))), some (.ptr 2), x]) (μ := listsSt R U (invTo R 0) (invTo U 0)) ⟨x, rfl, rfl⟩
  obtain ⟨ε', μ', h1, x', rfl, rfl⟩ := key
  refine ⟨x', ?_⟩
  unfold L1__law_lists sFor
  simp only [List.length_map, List.length_range] at h1
  have c : n ≤ 100000 := by omega
  simp [c, okG_none, h1, inv, F.lR, F.lU]
theorem F__law_lists_eq {R U : List Nat} {n : Nat} (F : Flo R U n) : F__law_lists [.dat (flo R U)] [] = some (.ptr 2, listsSt R U (inv R) (inv U)) := by
  have hn := F.small
  obtain ⟨x', h⟩ := L1__law_lists_eq F none
  have e1 : oL (invTo R 0) = List.replicate n (PV.dat (.int 0)) := by rw [rep_oL, ← F.lR]; rfl
  have e2 : oL (invTo U 0) = List.replicate n (PV.dat (.int 0)) := by rw [rep_oL, ← F.lU]; rfl
  unfold listsSt dicR at h
  rw [e1, e2] at h
  have c1 : n ≤ 1000000 := by omega
  have c2 : n ≤ 100000 := by omega
  simp [-valP, -putP, -mergeP, mergeR, F__law_lists, r__law_lists, F.lR, cap, asDats, c1, c2, h, listsSt, dicR]
end CM
namespace CM
open PySem L2 VX
theorem signs4s : ("rlud" : Str).cps.toList.map (fun c => (⟨#[c]⟩ : Str)) = [("r" : Str), "l", "u", "d"] := by decide
theorem signs4 : ("rlud" : Str).cps.toList.map (fun c => PV.dat (.str ⟨#[c]⟩)) = [.dat (.str "r"), .dat (.str "l"), .dat (.str "u"), .dat (.str "d")] := by
  have := congrArg (List.map fun s : Str => PV.dat (.str s)) signs4s
  rw [List.map_map] at this
  exact this
abbrev lsSt (R U : List Nat) : Sto := listsSt R U (inv R) (inv U)
theorem atD_r {R U : List Nat} {a : Nat} (h : a < R.length) (a0 a1 a2 a3 a5 a6 a9 : Option PV) : eOp fIx (eDGet (eVar 4) (eVar 8)) (eVar 7) [a0, a1, a2, a3, some (.ptr 2), a5, a6, some (.dat (.int (a : Int))), some (.dat (.str "r")), a9] (lsSt R U) = some (.dat (.int ((g0 R a : Nat) : Int)), lsSt R U) := by
  simp [valP_r, listsSt, at_oL h]
theorem atD_u {R U : List Nat} {a : Nat} (h : a < U.length) (a0 a1 a2 a3 a5 a6 a9 : Option PV) : eOp fIx (eDGet (eVar 4) (eVar 8)) (eVar 7) [a0, a1, a2, a3, some (.ptr 2), a5, a6, some (.dat (.int (a : Int))), some (.dat (.str "u")), a9] (lsSt R U) = some (.dat (.int ((g0 U a : Nat) : Int)), lsSt R U) := by
  simp [valP_u, listsSt, at_oL h]
theorem atD_l {R U : List Nat} {a : Nat} (h : a < (inv R).length) (a0 a1 a2 a3 a5 a6 a9 : Option PV) : eOp fIx (eDGet (eVar 4) (eVar 8)) (eVar 7) [a0, a1, a2, a3, some (.ptr 2), a5, a6, some (.dat (.int (a : Int))), some (.dat (.str "l")), a9] (lsSt R U) = some (.dat (.int ((g0 (inv R) a : Nat) : Int)), lsSt R U) := by
  simp [valP_l, listsSt, at_oL h]
theorem atD_d {R U : List Nat} {a : Nat} (h : a < (inv U).length) (a0 a1 a2 a3 a5 a6 a9 : Option PV) : eOp fIx (eDGet (eVar 4) (eVar 8)) (eVar 7) [a0, a1, a2, a3, some (.ptr 2), a5, a6, some (.dat (.int (a : Int))), some (.dat (.str "d")), a9] (lsSt R U) = some (.dat (.int ((g0 (inv U) a : Nat) : Int)), lsSt R U) := by
  simp [valP_d, listsSt, at_oL h]
theorem B1__law_pool_eq {μ : Sto} {f : List Nat} {lev : List Int} {most : Int} {z n : Nat} (a0 a2 a6 a7 a8 a9 : Option PV) (hl : lev.length = n) (hz : z < n) (hf : f.length < 1000)
    (hx : ∀ a9, eOp fIx (eDGet (eVar 4) (eVar 8)) (eVar 7) [a0, some (.dat (.list (iZ lev))), a2, some (.dat (.int most)), some (.ptr 2), some (.dat (.list (iL f))), a6, a7, a8, a9] μ = some (.dat (.int (z : Int)), μ)) :
    B1__law_pool [a0, some (.dat (.list (iZ lev))), a2, some (.dat (.int most)), some (.ptr 2), some (.dat (.list (iL f))), a6, a7, a8, a9] μ =
      some (.nx [a0, some (.dat (.list (iZ lev))), a2, some (.dat (.int most)), some (.ptr 2), some (.dat (.list (iL (addN (okL lev most) f z)))), a6, a7, a8, some (.dat (.int (z : Int)))] μ) := by
  have a3 := at_oZ (ns := lev) (j := z) (by omega)
  have c : f.length ≤ 999999 := by omega
  unfold B1__law_pool sSeq sSet
  rw [hx]
  by_cases h1 : z0 lev z ≤ most
  · by_cases h2 : z ∈ f
    · simp [a3, h1, h2, addN]
    · have e : oL f ++ [PV.dat (.int (z : Int))] = oL (f ++ [z]) := oL_snoc f z
      simp [a3, h1, h2, addN, cap, asDats, e, c]
  · simp [a3, h1, addN]
theorem L1__law_pool_eq {R U f : List Nat} {lev : List Int} {most : Int} {a n : Nat} (F : Flo R U n) (ha : a < n) (hl : lev.length = n) (hf : f.length + 4 < 1000) (a2 a6 a8 a9 : Option PV) :
    ∃ a8' a9', L1__law_pool [some (.dat (flo R U)), some (.dat (.list (iZ lev))), a2, some (.dat (.int most)), some (.ptr 2), some (.dat (.list (iL f))), a6, some (.dat (.int (a : Int))), a8, a9] (lsSt R U) =
      some (.nx [some (.dat (flo R U)), some (.dat (.list (iZ lev))), a2, some (.dat (.int most)), some (.ptr 2), some (.dat (.list (iL (addsN (okL lev most) f (nbs4 R U a))))), a6, some (.dat (.int (a : Int))), a8', a9'] (lsSt R U)) := by
  have nb := F.nb_lt _ ha
  have len : ∀ (g : List Nat) (y : Nat), (addN (okL lev most) g y).length ≤ g.length + 1 := by
    intro g y; unfold addN; split <;> simp
  have n1 := nb (g0 R a) (by simp [nbs4])
  have n2 := nb (g0 (inv R) a) (by simp [nbs4])
  have n3 := nb (g0 U a) (by simp [nbs4])
  have n4 := nb (g0 (inv U) a) (by simp [nbs4])
  have l1 := len f (g0 R a)
  have l2 := len (addN (okL lev most) f (g0 R a)) (g0 (inv R) a)
  have l3 := len (addN (okL lev most) (addN (okL lev most) f (g0 R a)) (g0 (inv R) a)) (g0 U a)
  have s1 := fun a9 => B1__law_pool_eq (f := f) (most := most) (some (.dat (flo R U))) a2 a6 (some (.dat (.int (a : Int)))) (some (.dat (.str "r"))) a9 hl n1 (by omega) (fun a9 => atD_r (R := R) (U := U) (by rw [F.lR]; exact ha) _ _ _ _ _ _ _)
  have s2 := fun a9 => B1__law_pool_eq (f := addN (okL lev most) f (g0 R a)) (most := most) (some (.dat (flo R U))) a2 a6 (some (.dat (.int (a : Int)))) (some (.dat (.str "l"))) a9 hl n2 (by omega) (fun a9 => atD_l (R := R) (U := U) (by rw [inv_len, F.lR]; exact ha) _ _ _ _ _ _ _)
  have s3 := fun a9 => B1__law_pool_eq (f := addN (okL lev most) (addN (okL lev most) f (g0 R a)) (g0 (inv R) a)) (most := most) (some (.dat (flo R U))) a2 a6 (some (.dat (.int (a : Int)))) (some (.dat (.str "u"))) a9 hl n3 (by omega) (fun a9 => atD_u (R := R) (U := U) (by rw [F.lU]; exact ha) _ _ _ _ _ _ _)
  have s4 := fun a9 => B1__law_pool_eq (f := addN (okL lev most) (addN (okL lev most) (addN (okL lev most) f (g0 R a)) (g0 (inv R) a)) (g0 U a)) (most := most) (some (.dat (flo R U))) a2 a6 (some (.dat (.int (a : Int)))) (some (.dat (.str "d"))) a9 hl n4 (by omega) (fun a9 => atD_d (R := R) (U := U) (by rw [inv_len, F.lU]; exact ha) _ _ _ _ _ _ _)
  refine ⟨some (.dat (.str "d")), some (.dat (.int ((g0 (inv U) a : Nat) : Int))), ?_⟩
  unfold L1__law_pool sFor srcSeq eC
  simp only [Option.bind_some, signs4]
  simp only [forD, okG_none, if_true, tgN, turnO, List.set_cons_succ, List.set_cons_zero, Option.bind_some, s1, s2, s3, s4]
  rfl
theorem addsN_len {ok : Nat → Bool} {xs : List Nat} : ∀ {f : List Nat}, (addsN ok f xs).length ≤ f.length + xs.length := by
  induction xs with
  | nil => intro f; exact Nat.le_refl _
  | cons x r ih =>
    intro f
    have h : (addN ok f x).length ≤ f.length + 1 := by unfold addN; split <;> simp
    have := ih (f := addN ok f x)
    show (addsN ok (addN ok f x) r).length ≤ _
    simp only [List.length_cons]; omega
theorem L2__law_pool_eq {R U f : List Nat} {lev : List Int} {most : Int} {n s : Nat} (F : Flo R U n) (hs : s < n) (hl : lev.length = n) (hf : Fnd (nbs4 R U) (okL lev most) s n f) (a2 a7 a8 a9 : Option PV) :
    ∃ g a7' a8' a9', L2__law_pool [some (.dat (flo R U)), some (.dat (.list (iZ lev))), a2, some (.dat (.int most)), some (.ptr 2), some (.dat (.list (iL f))), some (.dat (.int (f.length : Int))), a7, a8, a9] (lsSt R U) =
      some (.nx [some (.dat (flo R U)), some (.dat (.list (iZ lev))), a2, some (.dat (.int most)), some (.ptr 2), some (.dat (.list (iL g))), some (.dat (.int (f.length : Int))), a7', a8', a9'] (lsSt R U)) ∧ Fnd (nbs4 R U) (okL lev most) s n g ∧ f.length ≤ g.length ∧ ∀ j, j < f.length → ∀ y ∈ nbs4 R U (g0 g j), okL lev most y = true → y ∈ g := by
  have hn := F.small
  have key := forD_all (G := fun _ => true) (tg := tgN 7) (b := B2__law_pool)
    (fun i ε μ => ∃ (g : List Nat) (a7' a8' a9' : Option PV), ε = [some (.dat (flo R U)), some (.dat (.list (iZ lev))), a2, some (.dat (.int most)), some (.ptr 2), some (.dat (.list (iL g))), some (.dat (.int (f.length : Int))), a7', a8', a9'] ∧ μ = lsSt R U ∧ (∃ t, g = f ++ t) ∧ Fnd (nbs4 R U) (okL lev most) s n g ∧ ∀ j, j < i → ∀ y ∈ nbs4 R U (g0 g j), okL lev most y = true → y ∈ g)
    (oL f) (fun _ _ _ _ => rfl) (fun i p ε μ hp h => by
      obtain ⟨g, a7', a8', a9', rfl, rfl, ⟨t, rfl⟩, hg, hc⟩ := h
      obtain ⟨hi, rfl⟩ := get_oL hp
      have hgl := hg.len hs F.nb_lt
      have hm : g0 f i ∈ f ++ t := List.mem_append_left _ (g0_mem hi)
      obtain ⟨a82, a92, e⟩ := L1__law_pool_eq (f := f ++ t) (most := most) F ((hg.rc _ hm).lt hs F.nb_lt) hl (by omega) a2 (some (.dat (.int (f.length : Int)))) a8' a9'
      obtain ⟨u, eu⟩ := addsN_pre (ok := okL lev most) (f := f ++ t) (xs := nbs4 R U (g0 f i))
      refine ⟨_, _, _, _, rfl, e, _, _, _, _, rfl, rfl, ⟨t ++ u, by rw [eu, List.append_assoc]⟩, hg.adds hm (fun x hx => hx), fun j hj y hy ho => ?_⟩
      have hjl : j < (f ++ t).length := by simp; omega
      by_cases ej : j = i
      · subst ej
        rw [eu, g0_app hjl, g0_app hi] at hy
        exact addsN_has hy ho
      · rw [eu, g0_app hjl] at hy
        exact addsN_sub (hc j (by omega) y hy ho)) (ε := [some (.dat (flo R U)), some (.dat (.list (iZ lev))), a2, some (.dat (.int most)), some (.ptr 2), some (.dat (.list (iL f))), some (.dat (.int (f.length : Int))), a7, a8, a9]) (μ := lsSt R U)
      ⟨f, a7, a8, a9, rfl, rfl, ⟨[], by simp⟩, hf, fun j hj => absurd hj (Nat.not_lt_zero _)⟩
  obtain ⟨ε', μ', h1, g, a7', a8', a9', rfl, rfl, ⟨t, rfl⟩, hg, hc⟩ := key
  have hfl := hf.len hs F.nb_lt
  refine ⟨f ++ t, a7', a8', a9', ?_, hg, by simp, fun j hj => hc j (by simpa using hj)⟩
  have c : f.length ≤ 1000000 := by omega
  have e : cutP (oL f) none (some (f.length : Int)) = oL f := by
    unfold cutP
    rw [HT.sIx_none, HT.sIx_nat]
    simp only [len_oL, Nat.min_self, Nat.sub_zero, List.drop_zero]
    exact List.take_of_length_le (by simp)
  unfold L2__law_pool sFor
  simp [cap, c, e, okG_none, h1]
theorem L3__law_pool_eq {R U f : List Nat} {lev : List Int} {most : Int} {n s : Nat} (F : Flo R U n) (hs : s < n) (hl : lev.length = n) (hf : Fnd (nbs4 R U) (okL lev most) s n f) (a2 a7 a8 a9 : Option PV) :
    ∃ g a6' a7' a8' a9', L3__law_pool [some (.dat (flo R U)), some (.dat (.list (iZ lev))), a2, some (.dat (.int most)), some (.ptr 2), some (.dat (.list (iL f))), some (.dat (.int (-1))), a7, a8, a9] (lsSt R U) =
      some (.nx [some (.dat (flo R U)), some (.dat (.list (iZ lev))), a2, some (.dat (.int most)), some (.ptr 2), some (.dat (.list (iL g))), a6', a7', a8', a9'] (lsSt R U)) ∧ Fnd (nbs4 R U) (okL lev most) s n g ∧ ∀ x ∈ g, ∀ y ∈ nbs4 R U x, okL lev most y = true → y ∈ g := by
  have hn := F.small
  have key := whileN_gen (c := tsE (eOp fLt (eVar 6) (eCa fLen (aCons (eVar 5) aNil)))) (b := B3__law_pool)
    (fun m ε μ => ∃ (g : List Nat) (z : Int) (a7' a8' a9' : Option PV), ε = [some (.dat (flo R U)), some (.dat (.list (iZ lev))), a2, some (.dat (.int most)), some (.ptr 2), some (.dat (.list (iL g))), some (.dat (.int z)), a7', a8', a9'] ∧ μ = lsSt R U ∧ Fnd (nbs4 R U) (okL lev most) s n g ∧ -1 ≤ z ∧ z ≤ (g.length : Int) ∧ (n : Int) - z ≤ (m : Int) ∧ ∀ j : Nat, (j : Int) < z → ∀ y ∈ nbs4 R U (g0 g j), okL lev most y = true → y ∈ g)
    (fun o => ∃ g a6' a7' a8' a9', o = .nx [some (.dat (flo R U)), some (.dat (.list (iZ lev))), a2, some (.dat (.int most)), some (.ptr 2), some (.dat (.list (iL g))), a6', a7', a8', a9'] (lsSt R U) ∧ Fnd (nbs4 R U) (okL lev most) s n g ∧ ∀ x ∈ g, ∀ y ∈ nbs4 R U x, okL lev most y = true → y ∈ g)
    (fun m ε μ h => by
      obtain ⟨g, z, a7', a8', a9', rfl, rfl, hg, hz0, hz, hm, hc⟩ := h
      have hgl := hg.len hs F.nb_lt
      refine ⟨decide (z < (g.length : Int)), lsSt R U, by simp, fun hb => ?_, fun hb => ?_⟩
      · have hb' : ¬ z < (g.length : Int) := of_decide_eq_false hb
        refine ⟨g, _, a7', a8', a9', rfl, hg, fun x hx y hy ho => ?_⟩
        obtain ⟨j, hj, rfl⟩ := mem_g0 hx
        exact hc j (by omega) y hy ho
      · have hb' : z < (g.length : Int) := of_decide_eq_true hb
        obtain ⟨m', rfl⟩ : ∃ m', m = m' + 1 := ⟨m - 1, by omega⟩
        refine ⟨m', rfl, ?_⟩
        obtain ⟨g', a72, a82, a92, e, hg', hle, hc'⟩ := L2__law_pool_eq (f := g) (most := most) F hs hl hg a2 a7' a8' a9'
        refine ⟨.nx [some (.dat (flo R U)), some (.dat (.list (iZ lev))), a2, some (.dat (.int most)), some (.ptr 2), some (.dat (.list (iL g'))), some (.dat (.int (g.length : Int))), a72, a82, a92] (lsSt R U), by simp [B3__law_pool, e], ?_⟩
        exact ⟨g', _, a72, a82, a92, rfl, rfl, hg', by omega, by omega, by omega, fun j hj => hc' j (by omega)⟩) 2000 (n + 1)
    [some (.dat (flo R U)), some (.dat (.list (iZ lev))), a2, some (.dat (.int most)), some (.ptr 2), some (.dat (.list (iL f))), some (.dat (.int (-1))), a7, a8, a9] (lsSt R U) (by omega) ⟨f, -1, a7, a8, a9, rfl, rfl, hf, by omega, by omega, by omega, fun j hj => by omega⟩
  obtain ⟨o, h1, g, a6', a7', a8', a9', rfl, h2, h3⟩ := key
  exact ⟨g, a6', a7', a8', a9', h1, h2, h3⟩
theorem F__law_pool_eq {R U : List Nat} {lev : List Int} {most : Int} {n s : Nat} (F : Flo R U n) (hs : s < n) (hl : lev.length = n) :
    ∃ Z, F__law_pool [flo R U, .list (iZ lev), .int (s : Int), .int most] = some (.list (iZ Z)) ∧ IsPool (nbs4 R U) (okL lev most) s Z := by
  have hn := F.small
  obtain ⟨g, a6, a7, a8, a9, e, h1, h2⟩ := L3__law_pool_eq (most := most) F hs hl Fnd.start (some (.dat (.int (s : Int)))) none none none
  refine ⟨_, ?_, isPool_of h1 h2⟩
  have a1 := at_oZ (ns := lev) (j := s) (by omega)
  have hgl := h1.len hs F.nb_lt
  have c : (isort (toZ g)).length ≤ 1000000 := by rw [(isort_perm _).length_eq]; simp; omega
  have ll := F__law_lists_eq F
  by_cases ho : z0 lev s ≤ most
  · simp only [okL, ho, decide_true, if_true] at e
    rw [show iL [s] = [PyData.int (s : Int)] from rfl] at e
    simp [F__law_pool, r__law_pool, a1, ho, cap, ll, asDats, e, c]
  · simp only [okL, ho, decide_false, Bool.false_eq_true, if_false] at e
    rw [show iL [] = [] from rfl] at e
    simp [F__law_pool, r__law_pool, a1, ho, cap, ll, asDats, e, c]
theorem F__law_pool_pool {R U : List Nat} {lev : List Int} {most : Int} {n s : Nat} (F : Flo R U n) (hs : s < n) (hl : lev.length = n) :
    F__law_pool [flo R U, .list (iZ lev), .int (s : Int), .int most] = F_pool_of [flo R U, .list (iZ lev), .int (s : Int), .int most] := by
  obtain ⟨Z, e, h⟩ := F__law_pool_eq (most := most) F hs hl
  obtain ⟨Z', e', h'⟩ := F_pool_of_eq (most := most) F hs hl
  rw [e, e', h.uniq h']
end CM
namespace CM
open PySem L2 VX
/-! ### words and where they lead -/
def sgs (w : Str) : List Str := w.cps.toList.map fun c => (⟨#[c]⟩ : Str)
theorem sgs_app (a b : Str) : sgs (a ++ b) = sgs a ++ sgs b := by
  show List.map _ (a.cps ++ b.cps).toList = _
  rw [Array.toList_append, List.map_append]; rfl
@[simp] theorem sgs_len (a : Str) : (sgs a).length = a.length := by simp [sgs, Str.length]
theorem len_app (a b : Str) : (a ++ b).length = a.length + b.length := by
  show (a.cps ++ b.cps).size = _
  simp [Str.length]
theorem sgs_nil : sgs "" = [] := by decide
theorem sgs_r : sgs "r" = [("r" : Str)] := by decide
theorem sgs_l : sgs "l" = [("l" : Str)] := by decide
theorem sgs_u : sgs "u" = [("u" : Str)] := by decide
theorem sgs_d : sgs "d" = [("d" : Str)] := by decide
def rowOf (R U : List Nat) (c : Str) : Option (List Nat) := if c = "r" then some R else if c = "l" then some (inv R) else if c = "u" then some U else if c = "d" then some (inv U) else none
theorem rowOf_r {R U : List Nat} : rowOf R U "r" = some R := if_pos rfl
theorem rowOf_l {R U : List Nat} : rowOf R U "l" = some (inv R) := by unfold rowOf; rw [if_neg (by decide), if_pos rfl]
theorem rowOf_u {R U : List Nat} : rowOf R U "u" = some U := by unfold rowOf; rw [if_neg (by decide), if_neg (by decide), if_pos rfl]
theorem rowOf_d {R U : List Nat} : rowOf R U "d" = some (inv U) := by unfold rowOf; rw [if_neg (by decide), if_neg (by decide), if_neg (by decide), if_pos rfl]
theorem rowOf_nb {R U row : List Nat} {c : Str} (h : rowOf R U c = some row) (a : Nat) : g0 row a ∈ nbs4 R U a := by
  unfold rowOf at h
  split at h
  · cases h; simp [nbs4]
  · split at h
    · cases h; simp [nbs4]
    · split at h
      · cases h; simp [nbs4]
      · split at h
        · cases h; simp [nbs4]
        · cases h
/-- a word gone through: the sign that is none, or where it leads and the greatest level met -/
def wk (R U : List Nat) (lev : List Int) : List Str → Nat → Nat → Int → Nat ⊕ (Nat × Int)
  | [], _, h, m => .inr (h, m)
  | c :: cs, k, h, m => match rowOf R U c with
    | none => .inl k
    | some row => wk R U lev cs (k + 1) (g0 row h) (if z0 lev (g0 row h) > m then z0 lev (g0 row h) else m)
theorem wk_snoc {R U : List Nat} {lev : List Int} {c : Str} {row : List Nat} (hc : rowOf R U c = some row) : ∀ (cs : List Str) {k h h' : Nat} {m m' : Int}, wk R U lev cs k h m = .inr (h', m') → wk R U lev (cs ++ [c]) k h m = .inr (g0 row h', if z0 lev (g0 row h') > m' then z0 lev (g0 row h') else m')
  | [], k, h, h', m, m', e => by
    simp only [wk] at e
    cases e
    simp only [List.nil_append, wk, hc]
  | c' :: cs, k, h, h', m, m', e => by
    simp only [List.cons_append, wk] at e ⊢
    split at e
    · cases e
    · exact wk_snoc hc cs e
theorem wk_rc {R U : List Nat} {lev : List Int} {s : Nat} : ∀ (cs : List Str) {k h h' : Nat} {m m' : Int}, Rc (nbs4 R U) (okL lev m) s h → wk R U lev cs k h m = .inr (h', m') → m ≤ m' ∧ Rc (nbs4 R U) (okL lev m') s h'
  | [], k, h, h', m, m', r, e => by
    simp only [wk] at e
    cases e
    exact ⟨Int.le_refl _, r⟩
  | c' :: cs, k, h, h', m, m', r, e => by
    simp only [wk] at e
    split at e
    · cases e
    · rename_i row hc
      have := wk_rc (s := s) cs (m := if z0 lev (g0 row h) > m then z0 lev (g0 row h) else m) (.step (r.mono fun x hx => ?_) (rowOf_nb hc h) ?_) e
      · refine ⟨Int.le_trans ?_ this.1, this.2⟩
        split <;> omega
      · simp only [okL, decide_eq_true_eq] at hx ⊢
        split <;> omega
      · simp only [okL, decide_eq_true_eq]
        split <;> omega
/-- the top stays among the levels -/
theorem wk_top {R U : List Nat} {lev : List Int} {n : Nat} (F : Flo R U n) (hl : lev.length = n) : ∀ (cs : List Str) {k h h' : Nat} {m m' : Int}, h < n → m ∈ lev → wk R U lev cs k h m = .inr (h', m') → m' ∈ lev ∧ h' < n
  | [], k, h, h', m, m', hh, hm, e => by
    simp only [wk] at e
    cases e
    exact ⟨hm, hh⟩
  | c' :: cs, k, h, h', m, m', hh, hm, e => by
    simp only [wk] at e
    split at e
    · cases e
    · rename_i row hc
      have h1 := F.nb_lt _ hh _ (rowOf_nb hc h)
      refine wk_top F hl cs h1 ?_ e
      split
      · rw [z0_of (by omega)]; exact List.getElem_mem _
      · exact hm
/-! ### dictionaries from squares to words -/
def dK (D : List (Nat × Str)) : List (Key × PV) := D.map fun p => (.inl (p.1 : Int), .dat (.str p.2))
def vD : List (Nat × Str) → Nat → Option Str
  | [], _ => none
  | p :: r, k => if p.1 = k then some p.2 else vD r k
theorem valP_dK (k : Nat) : ∀ D : List (Nat × Str), valP (dK D) (.inl (k : Int)) = (vD D k).map fun w => .dat (.str w)
  | [] => rfl
  | p :: r => by
    have ih := valP_dK k r
    by_cases h : p.1 = k
    · subst h
      simp [dK, valP, vD]
    · have h' : (Sum.inl (p.1 : Int) : Key) ≠ .inl (k : Int) := fun z => h (by have := Sum.inl.inj z; omega)
      simp only [dK, List.map_cons, vD, if_neg h]
      rw [valP_miss h']
      exact ih
theorem putP_dK {k : Nat} {w : Str} : ∀ D : List (Nat × Str), vD D k = none → putP (dK D) (.inl (k : Int)) (.dat (.str w)) = dK (D ++ [(k, w)])
  | [], _ => rfl
  | p :: r, h => by
    simp only [vD] at h
    split at h
    · cases h
    · rename_i hne
      have h' : (Sum.inl (p.1 : Int) : Key) ≠ .inl (k : Int) := fun z => hne (by have := Sum.inl.inj z; omega)
      simp only [dK, List.map_cons, List.cons_append]
      rw [putP_miss h']
      exact congrArg _ (putP_dK r h)
theorem ndB_dK {D : List (Nat × Str)} (h : (D.map Prod.fst).Nodup) : ndB (dK D) = true := by
  unfold ndB
  rw [decide_eq_true_eq]
  unfold dK
  induction D with
  | nil => simp
  | cons p r ih =>
    rw [List.map_cons, List.nodup_cons] at h
    rw [List.map_cons, List.map_cons, List.nodup_cons]
    refine ⟨fun z => h.1 ?_, ih h.2⟩
    simp only [List.map_map, List.mem_map, Function.comp_apply, Sum.inl.injEq] at z
    obtain ⟨q, hq, e⟩ := z
    exact List.mem_map.mpr ⟨q, hq, by omega⟩
theorem vD_some {k : Nat} : ∀ {D : List (Nat × Str)}, k ∈ D.map Prod.fst → ∃ w, vD D k = some w
  | p :: r, h => by
    simp only [vD]
    by_cases e : p.1 = k
    · exact ⟨_, if_pos e⟩
    · rw [if_neg e]
      rw [List.map_cons, List.mem_cons] at h
      exact vD_some (h.resolve_left fun z => e z.symm)
theorem vD_none {k : Nat} : ∀ {D : List (Nat × Str)}, vD D k = none ↔ k ∉ D.map Prod.fst
  | [] => by simp [vD]
  | p :: r => by
    simp only [vD, List.map_cons, List.mem_cons, not_or]
    by_cases e : p.1 = k
    · simp [e]
    · rw [if_neg e, vD_none]
      exact ⟨fun h => ⟨fun z => e z.symm, h⟩, fun h => h.2⟩
theorem vD_mem {k : Nat} {w : Str} : ∀ {D : List (Nat × Str)}, vD D k = some w → (k, w) ∈ D
  | p :: r, h => by
    simp only [vD] at h
    split at h
    · rename_i e; cases h; subst e; exact List.mem_cons_self
    · exact List.mem_cons_of_mem _ (vD_mem h)
theorem vD_app {k : Nat} {w : Str} : ∀ {D t : List (Nat × Str)}, vD D k = some w → vD (D ++ t) k = some w
  | p :: r, t, h => by
    simp only [vD, List.cons_append] at h ⊢
    split at h
    · rename_i e; rw [if_pos e]; exact h
    · rename_i e; rw [if_neg e]; exact vD_app h
end CM
namespace CM
open PySem L2 VX
/-! ### word_within -/
abbrev WQ := List (Nat × Str) × List Nat
def stW (lev : List Int) (m : Int) (w0 : Str) (here : Nat) (st : WQ) (p : Str × List Nat) : WQ :=
  if z0 lev (g0 p.2 here) ≤ m ∧ vD st.1 (g0 p.2 here) = none then (st.1 ++ [(g0 p.2 here, w0 ++ p.1)], st.2 ++ [g0 p.2 here]) else st
theorem stW_sub {lev : List Int} {m : Int} {w0 : Str} {here : Nat} {st : WQ} {p : Str × List Nat} {k : Nat} {w : Str} (h : vD st.1 k = some w) : vD (stW lev m w0 here st p).1 k = some w := by
  unfold stW; split
  · exact vD_app h
  · exact h
theorem stW_len {lev : List Int} {m : Int} {w0 : Str} {here : Nat} {st : WQ} {p : Str × List Nat} : (stW lev m w0 here st p).1.length ≤ st.1.length + 1 := by
  unfold stW; split <;> simp
abbrev wSt (st : WQ) : Sto := [.dic (dK st.1), .lst (oL st.2)]
theorem B1_word_within_eq {lev : List Int} {m : Int} {w0 : Str} {here n : Nat} {st : WQ} {p : Str × List Nat} (hl : lev.length = n) (hp : p.2.length = n) (hh : here < n) (hz : g0 p.2 here < n) (hw : vD st.1 here = some w0)
    (hw0 : w0.length ≤ 100) (hp1 : p.1.length = 1) (hD : st.1.length < 1000) (nd : (st.1.map Prod.fst).Nodup) (hq : st.2.length < 1000) (a0 a2 a3 : Option PV) :
    B1_word_within [a0, some (.dat (.list (iZ lev))), a2, a3, some (.dat (.int m)), some (.ptr 0), some (.ptr 1), some (.dat (.int (here : Int))), some (.dat (.str p.1)), some (.dat (.list (iL p.2)))] (wSt st) =
      some (.nx [a0, some (.dat (.list (iZ lev))), a2, a3, some (.dat (.int m)), some (.ptr 0), some (.ptr 1), some (.dat (.int (here : Int))), some (.dat (.str p.1)), some (.dat (.list (iL p.2)))] (wSt (stW lev m w0 here st p))) := by
  have a1 := at_oL (ns := p.2) (j := here) (by omega)
  have a3 := at_oZ (ns := lev) (j := g0 p.2 here) (by omega)
  have v0 : valP (dK st.1) (.inl (here : Int)) = some (.dat (.str w0)) := by rw [valP_dK, hw]; rfl
  by_cases h1 : z0 lev (g0 p.2 here) ≤ m
  · cases h2 : vD st.1 (g0 p.2 here) with
    | none =>
      have v1 : valP (dK st.1) (.inl ((g0 p.2 here : Nat) : Int)) = none := by rw [valP_dK, h2]; rfl
      have c1 : (dK st.1).length < 1000000 := by simp [dK]; omega
      have c2 : w0.length + 1 ≤ 1000000 := by omega
      have c3 : st.2.length < 1000000 := by omega
      have e1 := putP_dK (k := g0 p.2 here) (w := w0 ++ p.1) st.1 h2
      have e2 := ndB_dK nd
      simp [B1_word_within, a1, a3, h1, v1, v0, stW, h2, cap, c1, c2, c3, e1, e2, hp1]
    | some w =>
      have v1 : valP (dK st.1) (.inl ((g0 p.2 here : Nat) : Int)) = some (.dat (.str w)) := by rw [valP_dK, h2]; rfl
      simp [B1_word_within, a1, a3, h1, v1, stW, h2]
  · simp [B1_word_within, a1, a3, h1, stW]
def rows4 (R U : List Nat) : List (Str × List Nat) := [("r", R), ("l", inv R), ("u", U), ("d", inv U)]
/-- what holds of the words and the squares still to be gone on from -/
structure WInv (R U : List Nat) (lev : List Int) (m : Int) (s n : Nat) (st : WQ) : Prop where
  nd : (st.1.map Prod.fst).Nodup
  good : ∀ k w, vD st.1 k = some w → ∃ top, wk R U lev (sgs w) 0 s (z0 lev s) = .inr (k, top) ∧ top ≤ m
  len : ∀ k w, vD st.1 k = some w → w.length + 1 ≤ st.1.length
  qs : ∀ x ∈ st.2, x ∈ st.1.map Prod.fst
  ql : st.2.length ≤ st.1.length
theorem WInv.rc {R U : List Nat} {lev : List Int} {m : Int} {s n : Nat} {st : WQ} (h : WInv R U lev m s n st) {k : Nat} (hk : k ∈ st.1.map Prod.fst) : Rc (nbs4 R U) (okL lev m) s k := by
  obtain ⟨w, hw⟩ := vD_some hk
  obtain ⟨top, e, ht⟩ := h.good k w hw
  refine (wk_rc (s := s) _ (.refl (by simp)) e).2.mono fun x hx => ?_
  simp only [okL, decide_eq_true_eq] at hx ⊢
  omega
theorem WInv.dl {R U : List Nat} {lev : List Int} {m : Int} {s n : Nat} {st : WQ} (h : WInv R U lev m s n st) (F : Flo R U n) (hs : s < n) : st.1.length ≤ n := by
  have := nodup_len n _ h.nd fun x hx => (h.rc hx).lt hs F.nb_lt
  simpa using this
theorem WInv.stW {R U : List Nat} {lev : List Int} {m : Int} {s n : Nat} {st : WQ} {w0 : Str} {here : Nat} {p : Str × List Nat} (h : WInv R U lev m s n st) (hw : vD st.1 here = some w0) (hp : rowOf R U p.1 = some p.2) (hp1 : sgs p.1 = [p.1]) : WInv R U lev m s n (stW lev m w0 here st p) := by
  unfold CM.stW
  split
  · rename_i c
    have l1 : p.1.length = 1 := by rw [← sgs_len, hp1]; rfl
    refine ⟨?_, fun k w e => ?_, fun k w e => ?_, fun x hx => ?_, by simpa using h.ql⟩
    · rw [List.map_append, List.nodup_append]
      refine ⟨h.nd, by simp, fun a ha b hb => ?_⟩
      simp at hb
      subst hb
      intro z
      subst z
      exact (vD_none.mp c.2) ha
    · cases e' : vD st.1 k with
      | some w' =>
        have := vD_app (t := [(g0 p.2 here, w0 ++ p.1)]) e'
        rw [this] at e
        cases e
        exact h.good k _ e'
      | none =>
        have hk := vD_mem e
        rw [List.mem_append] at hk
        rcases hk with hk | hk
        · exact absurd (List.mem_map.mpr ⟨_, hk, rfl⟩) (vD_none.mp e')
        · simp at hk
          obtain ⟨rfl, rfl⟩ := hk
          obtain ⟨top, e1, ht⟩ := h.good here w0 hw
          refine ⟨if z0 lev (g0 p.2 here) > top then z0 lev (g0 p.2 here) else top, ?_, ?_⟩
          · rw [sgs_app, hp1]; exact wk_snoc hp _ e1
          · split
            · exact c.1
            · exact ht
    · cases e' : vD st.1 k with
      | some w' =>
        have := vD_app (t := [(g0 p.2 here, w0 ++ p.1)]) e'
        rw [this] at e
        cases e
        have := h.len k _ e'
        simp; omega
      | none =>
        have hk := vD_mem e
        rw [List.mem_append] at hk
        rcases hk with hk | hk
        · exact absurd (List.mem_map.mpr ⟨_, hk, rfl⟩) (vD_none.mp e')
        · simp at hk
          obtain ⟨rfl, rfl⟩ := hk
          have := h.len here w0 hw
          rw [len_app, l1]
          simp; omega
    · simp only [List.map_append, List.mem_append] at hx ⊢
      rcases hx with hx | hx
      · exact .inl (h.qs x hx)
      · simp at hx; subst hx; exact .inr (by simp)
  · exact h
/-- nothing of st is lost, and each new one is behind -/
theorem stW_q {lev : List Int} {m : Int} {w0 : Str} {here : Nat} {st : WQ} {p : Str × List Nat} : ∃ t : List (Nat × Str), (stW lev m w0 here st p).1 = st.1 ++ t ∧ (stW lev m w0 here st p).2 = st.2 ++ t.map Prod.fst := by
  unfold stW; split
  · exact ⟨_, rfl, rfl⟩
  · exact ⟨[], by simp, by simp⟩
def foW (R U : List Nat) (lev : List Int) (m : Int) (w0 : Str) (here : Nat) (st : WQ) : WQ := (rows4 R U).foldl (stW lev m w0 here) st
theorem L1_word_within_eq {R U : List Nat} {lev : List Int} {m : Int} {w0 : Str} {s here n : Nat} {st : WQ} (F : Flo R U n) (hs : s < n) (hl : lev.length = n) (h : WInv R U lev m s n st) (hw : vD st.1 here = some w0) (a2 a3 a8 a9 : Option PV) :
    ∃ a8' a9', L1_word_within [some (.dat (flo R U)), some (.dat (.list (iZ lev))), a2, a3, some (.dat (.int m)), some (.ptr 0), some (.ptr 1), some (.dat (.int (here : Int))), a8, a9] (wSt st) =
      some (.nx [some (.dat (flo R U)), some (.dat (.list (iZ lev))), a2, a3, some (.dat (.int m)), some (.ptr 0), some (.ptr 1), some (.dat (.int (here : Int))), a8', a9'] (wSt (foW R U lev m w0 here st))) ∧ WInv R U lev m s n (foW R U lev m w0 here st) := by
  have hn := F.small
  have hhere : here ∈ st.1.map Prod.fst := by
    refine Classical.byContradiction fun z => ?_
    rw [vD_none.mpr z] at hw; cases hw
  have hh : here < n := (h.rc hhere).lt hs F.nb_lt
  have nb := F.nb_lt _ hh
  have step : ∀ (st : WQ) (p : Str × List Nat), WInv R U lev m s n st → vD st.1 here = some w0 → rowOf R U p.1 = some p.2 → sgs p.1 = [p.1] → p.2.length = n →
      (B1_word_within [some (.dat (flo R U)), some (.dat (.list (iZ lev))), a2, a3, some (.dat (.int m)), some (.ptr 0), some (.ptr 1), some (.dat (.int (here : Int))), some (.dat (.str p.1)), some (.dat (.list (iL p.2)))] (wSt st) =
      some (.nx [some (.dat (flo R U)), some (.dat (.list (iZ lev))), a2, a3, some (.dat (.int m)), some (.ptr 0), some (.ptr 1), some (.dat (.int (here : Int))), some (.dat (.str p.1)), some (.dat (.list (iL p.2)))] (wSt (stW lev m w0 here st p)))) ∧ WInv R U lev m s n (stW lev m w0 here st p) ∧ vD (stW lev m w0 here st p).1 here = some w0 := by
    intro st p h hw hp hp1 hpl
    have := h.dl F hs
    have := h.ql
    have := h.len _ _ hw
    exact ⟨B1_word_within_eq hl hpl hh (nb _ (rowOf_nb hp here)) hw (by omega) (by rw [← sgs_len, hp1]; rfl) (by omega) h.nd (by omega) _ _ _, h.stW hw hp hp1, stW_sub hw⟩
  obtain ⟨s1, h1, w1⟩ := step st ("r", R) h hw rowOf_r sgs_r F.lR
  obtain ⟨s2, h2, w2⟩ := step _ ("l", inv R) h1 w1 rowOf_l sgs_l (by rw [inv_len]; exact F.lR)
  obtain ⟨s3, h3, w3⟩ := step _ ("u", U) h2 w2 rowOf_u sgs_u F.lU
  obtain ⟨s4, h4, w4⟩ := step _ ("d", inv U) h3 w3 rowOf_d sgs_d (by rw [inv_len]; exact F.lU)
  have nl := F_near_lists_eq R U (by rw [F.lR]; omega) (by rw [F.lU]; omega) F.oR.low F.oU.low
  refine ⟨some (.dat (.str "d")), some (.dat (.list (iL (inv U)))), ?_, h4⟩
  unfold L1_word_within sFor
  simp [asDats, nl, okG_none, forD, s1, s2, s3, s4, foW, rows4]
theorem fo_q {lev : List Int} {m : Int} {w0 : Str} {here : Nat} : ∀ (ps : List (Str × List Nat)) (st : WQ), ∃ t : List (Nat × Str), (ps.foldl (stW lev m w0 here) st).1 = st.1 ++ t ∧ (ps.foldl (stW lev m w0 here) st).2 = st.2 ++ t.map Prod.fst
  | [], st => ⟨[], by simp, by simp⟩
  | p :: ps, st => by
    obtain ⟨t, h1, h2⟩ := stW_q (lev := lev) (m := m) (w0 := w0) (here := here) (st := st) (p := p)
    obtain ⟨u, h3, h4⟩ := fo_q ps (stW lev m w0 here st p)
    refine ⟨t ++ u, ?_, ?_⟩
    · rw [List.foldl_cons, h3, h1, List.append_assoc]
    · rw [List.foldl_cons, h4, h2, List.map_append, List.append_assoc]
theorem fo_has {lev : List Int} {m : Int} {w0 : Str} {here : Nat} : ∀ (ps : List (Str × List Nat)) (st : WQ), ∀ p ∈ ps, z0 lev (g0 p.2 here) ≤ m → g0 p.2 here ∈ (ps.foldl (stW lev m w0 here) st).1.map Prod.fst
  | p :: ps, st, p', hp, ho => by
    rw [List.foldl_cons]
    rcases List.mem_cons.mp hp with rfl | hp
    · obtain ⟨t, h1, _⟩ := fo_q (lev := lev) (m := m) (w0 := w0) (here := here) ps (stW lev m w0 here st p')
      rw [h1, List.map_append, List.mem_append]
      left
      unfold stW
      by_cases hv : vD st.1 (g0 p'.2 here) = none
      · rw [if_pos ⟨ho, hv⟩]; simp
      · rw [if_neg (fun z => hv z.2)]
        exact Classical.byContradiction fun z => hv (vD_none.mpr z)
    · exact fo_has ps _ p' hp ho
theorem nb_rows {R U : List Nat} {a y : Nat} (h : y ∈ nbs4 R U a) : ∃ p ∈ rows4 R U, g0 p.2 a = y := by
  simp only [nbs4, List.mem_cons, List.not_mem_nil, or_false] at h
  rcases h with rfl | rfl | rfl | rfl
  · exact ⟨("r", R), by simp [rows4], rfl⟩
  · exact ⟨("l", inv R), by simp [rows4], rfl⟩
  · exact ⟨("u", U), by simp [rows4], rfl⟩
  · exact ⟨("d", inv U), by simp [rows4], rfl⟩
theorem pop_q {D : List (Key × PV)} {x : Nat} {r : List Nat} (ε : Evn) (h : ε[6]? = some (some (.ptr 1))) :
    eLM fPopAt (eVar 6) (aCons (eC (.int 0)) aNil) ε [.dic D, .lst (oL (x :: r))] = some (.dat (.int (x : Int)), [.dic D, .lst (oL r)]) := by
  have e : oL (x :: r) = PV.dat (.int (x : Int)) :: oL r := rfl
  have e2 : seqIndex? 0 (r.length + 1) = some 0 := by
    unfold seqIndex?
    simp
  rw [e]
  simp [h, e2]
theorem L2_word_within_eq {R U : List Nat} {lev : List Int} {m : Int} {s n : Nat} {st : WQ} (F : Flo R U n) (hs : s < n) (hl : lev.length = n) (h : WInv R U lev m s n st) (h0 : s ∈ st.1.map Prod.fst)
    (hc : ∀ k ∈ st.1.map Prod.fst, k ∉ st.2 → ∀ y ∈ nbs4 R U k, okL lev m y = true → y ∈ st.1.map Prod.fst) (a2 a3 a7 a8 a9 : Option PV) :
    ∃ st' a7' a8' a9', L2_word_within [some (.dat (flo R U)), some (.dat (.list (iZ lev))), a2, a3, some (.dat (.int m)), some (.ptr 0), some (.ptr 1), a7, a8, a9] (wSt st) =
      some (.nx [some (.dat (flo R U)), some (.dat (.list (iZ lev))), a2, a3, some (.dat (.int m)), some (.ptr 0), some (.ptr 1), a7', a8', a9'] (wSt st')) ∧ WInv R U lev m s n st' ∧ s ∈ st'.1.map Prod.fst ∧ ∀ k ∈ st'.1.map Prod.fst, ∀ y ∈ nbs4 R U k, okL lev m y = true → y ∈ st'.1.map Prod.fst := by
  have hn := F.small
  have key := whileN_gen (c := tsTru (eVar 6)) (b := B2_word_within)
    (fun mm ε μ => ∃ (st : WQ) (a7' a8' a9' : Option PV), ε = [some (.dat (flo R U)), some (.dat (.list (iZ lev))), a2, a3, some (.dat (.int m)), some (.ptr 0), some (.ptr 1), a7', a8', a9'] ∧ μ = wSt st ∧ WInv R U lev m s n st ∧ s ∈ st.1.map Prod.fst ∧ (∀ k ∈ st.1.map Prod.fst, k ∉ st.2 → ∀ y ∈ nbs4 R U k, okL lev m y = true → y ∈ st.1.map Prod.fst) ∧ 2 * n + st.2.length ≤ mm + 2 * st.1.length)
    (fun o => ∃ (st' : WQ) (a7' a8' a9' : Option PV), o = .nx [some (.dat (flo R U)), some (.dat (.list (iZ lev))), a2, a3, some (.dat (.int m)), some (.ptr 0), some (.ptr 1), a7', a8', a9'] (wSt st') ∧ WInv R U lev m s n st' ∧ s ∈ st'.1.map Prod.fst ∧ ∀ k ∈ st'.1.map Prod.fst, ∀ y ∈ nbs4 R U k, okL lev m y = true → y ∈ st'.1.map Prod.fst)
    (fun mm ε μ hI => by
      obtain ⟨⟨D, q⟩, a7', a8', a9', rfl, rfl, h, h0, hc, hm⟩ := hI
      have hdl := h.dl F hs
      cases q with
      | nil =>
        refine ⟨false, wSt (D, []), by simp [oL_nil], fun _ => ⟨(D, []), a7', a8', a9', rfl, h, h0, fun k hk => hc k hk (by simp)⟩, fun z => by cases z⟩
      | cons x r =>
        refine ⟨true, wSt (D, x :: r), by simp [oL], (fun z => by cases z), fun _ => ?_⟩
        simp only [List.length_cons] at hm hdl
        obtain ⟨m', rfl⟩ : ∃ m', mm = m' + 1 := ⟨mm - 1, by omega⟩
        refine ⟨m', rfl, ?_⟩
        have hx : x ∈ D.map Prod.fst := h.qs x (by simp)
        obtain ⟨w0, hw⟩ := vD_some hx
        have h1 : WInv R U lev m s n (D, r) := ⟨h.nd, h.good, h.len, fun y hy => h.qs y (List.mem_cons_of_mem _ hy), by have := h.ql; simp at this ⊢; omega⟩
        obtain ⟨a8', a9', e, hI⟩ := L1_word_within_eq F hs hl h1 hw a2 a3 a8' a9'
        obtain ⟨t, e1, e2⟩ := fo_q (lev := lev) (m := m) (w0 := w0) (here := x) (rows4 R U) (D, r)
        have ha := fo_has (lev := lev) (m := m) (w0 := w0) (here := x) (rows4 R U) (D, r)
        refine ⟨.nx [some (.dat (flo R U)), some (.dat (.list (iZ lev))), a2, a3, some (.dat (.int m)), some (.ptr 0), some (.ptr 1), some (.dat (.int (x : Int))), a8', a9'] (wSt (foW R U lev m w0 x (D, r))), ?_, foW R U lev m w0 x (D, r), some (.dat (.int (x : Int))), a8', a9', rfl, rfl, hI, ?_, fun k hk hkq y hy ho => ?_, ?_⟩
        · unfold B2_word_within sSeq sSet
          rw [pop_q _ rfl]
          simp only [Option.bind_some, List.set_cons_succ, List.set_cons_zero, turnO, e]
        · unfold foW
          rw [e1, List.map_append, List.mem_append]
          exact .inl h0
        · by_cases ek : k = x
          · subst ek
            obtain ⟨p, hp, rfl⟩ := nb_rows hy
            simp only [okL, decide_eq_true_eq] at ho
            exact ha p hp ho
          · unfold foW at hk hkq ⊢
            rw [e1, List.map_append, List.mem_append] at hk ⊢
            rw [e2, List.mem_append, not_or] at hkq
            exact .inl (hc k (hk.resolve_right hkq.2) (by simp only [List.mem_cons, not_or]; exact ⟨ek, hkq.1⟩) y hy ho)
        · unfold foW
          rw [e1, e2, List.length_append, List.length_append, List.length_map]
          simp only []
          omega) 2000 (2 * n + st.2.length)
    [some (.dat (flo R U)), some (.dat (.list (iZ lev))), a2, a3, some (.dat (.int m)), some (.ptr 0), some (.ptr 1), a7, a8, a9] (wSt st) (by have := h.ql; have := h.dl F hs; omega) ⟨st, a7, a8, a9, rfl, rfl, h, h0, hc, by omega⟩
  obtain ⟨o, h1, st', a7', a8', a9', rfl, h2⟩ := key
  exact ⟨st', a7', a8', a9', h1, h2⟩
theorem F_word_within_eq {R U : List Nat} {lev : List Int} {m : Int} {s b n : Nat} (F : Flo R U n) (hs : s < n) (hl : lev.length = n) (hr : Rc (nbs4 R U) (okL lev m) s b) :
    ∃ w top, F_word_within [flo R U, .list (iZ lev), .int (s : Int), .int (b : Int), .int m] = some (.str w) ∧ wk R U lev (sgs w) 0 s (z0 lev s) = .inr (b, top) ∧ top ≤ m ∧ w.length ≤ 60 := by
  have hn := F.small
  have hsm : z0 lev s ≤ m := by simpa [okL] using hr.ok0
  have i0 : WInv R U lev m s n ([(s, "")], [s]) := by
    refine ⟨by simp, fun k w e => ?_, fun k w e => ?_, fun x hx => by simpa using hx, by simp⟩
    · have := vD_mem e
      simp at this
      obtain ⟨rfl, rfl⟩ := this
      exact ⟨_, by rw [sgs_nil]; rfl, hsm⟩
    · have := vD_mem e
      simp at this
      obtain ⟨rfl, rfl⟩ := this
      have e0 : ("" : Str).length = 0 := by decide
      simp [e0]
  obtain ⟨st, a7, a8, a9, e, h1, h2, h3⟩ := L2_word_within_eq (st := ([(s, "")], [s])) F hs hl i0 (by simp) (fun k hk hkq => absurd (by simpa using hk) (by simpa using hkq)) (some (.dat (.int (s : Int)))) (some (.dat (.int (b : Int)))) none none none
  have hb : b ∈ st.1.map Prod.fst := by
    clear e
    induction hr with
    | refl o => exact h2
    | step r mm o ih => exact h3 _ ih _ mm o
  obtain ⟨w, hw⟩ := vD_some hb
  obtain ⟨top, g1, g2⟩ := h1.good b w hw
  have g3 := h1.len b w hw
  have g4 := h1.dl F hs
  refine ⟨w, top, ?_, g1, g2, by omega⟩
  have v1 : valP (dK st.1) (.inl (b : Int)) = some (.dat (.str w)) := by rw [valP_dK, hw]; rfl
  have e0 : mergeP [] [((.inl (s : Int) : Key), PV.dat (.str ""))] = dK [(s, "")] := rfl
  simp only [wSt, oL_one] at e
  simp [F_word_within, r_word_within, cap, e0, e, v1]
end CM
namespace CM
open PySem L2 VX
theorem get_oZ {ns : List Int} {i : Nat} {p : PV} (h : (oZ ns)[i]? = some p) : i < ns.length ∧ p = .dat (.int (z0 ns i)) := by
  unfold oZ at h
  rw [List.getElem?_map, Option.map_eq_some_iff] at h
  obtain ⟨k, h1, rfl⟩ := h
  obtain ⟨hi, e⟩ := List.getElem?_eq_some_iff.mp h1
  exact ⟨hi, by rw [z0_of hi, e]⟩
theorem mem_z0 {ns : List Int} {x : Int} (h : x ∈ ns) : ∃ j, j < ns.length ∧ z0 ns j = x := by
  obtain ⟨j, hj, e⟩ := List.getElem_of_mem h
  exact ⟨j, hj, by rw [z0_of hj, e]⟩
theorem z0_mem {ns : List Int} {j : Nat} (h : j < ns.length) : z0 ns j ∈ ns := by rw [z0_of h]; exact List.getElem_mem h
theorem lcD_ints {G : Sto → Bool} {tg : TgF} {tt : TsF} {te : EvF} {w : Evn} {μ : Sto} (t : Int → Bool) : ∀ ns : List Int, (∀ k ∈ ns, ∃ ε, tg (.dat (.int k)) w μ = some (ε, μ) ∧ tt ε μ = some (t k, μ) ∧ (t k = true → te ε μ = some (.dat (.int k), μ))) → G μ = true → lcD G tg tt te w (oZ ns) μ = some (oZ (ns.filter t), μ)
  | [], _, hG => by simp [lcD, hG, oZ]
  | p :: r, h, hG => by
    obtain ⟨ε, h1, h2, h3⟩ := h p List.mem_cons_self
    have ih := lcD_ints (tg := tg) (tt := tt) (te := te) (w := w) t r (fun q hq => h q (List.mem_cons_of_mem _ hq)) hG
    have e : oZ (p :: r) = .dat (.int p) :: oZ r := rfl
    rw [e]
    cases q : t p with
    | true => simp [lcD, hG, h1, h2, q, h3 q, ih]; rfl
    | false => simp [lcD, hG, h1, h2, q, ih]
/-- the least level at which b is reached from s -/
structure IsLow (R U : List Nat) (lev : List Int) (s b : Nat) (L : Int) : Prop where
  mem : L ∈ lev
  rc : Rc (nbs4 R U) (okL lev L) s b
  min : ∀ m ∈ lev, m < L → ¬ Rc (nbs4 R U) (okL lev m) s b
theorem IsLow.uniq {R U : List Nat} {lev : List Int} {s b : Nat} {L L' : Int} (h : IsLow R U lev s b L) (h' : IsLow R U lev s b L') : L = L' := by
  rcases Int.lt_trichotomy L L' with c | c | c
  · exact absurd h.rc (h'.min L h.mem c)
  · exact c
  · exact absurd h'.rc (h.min L' h'.mem c)
/-- all hangs together -/
def Hang (R U : List Nat) (n : Nat) : Prop := ∀ x y, x < n → y < n → Rc (nbs4 R U) (fun _ => true) x y
theorem Hang.top {R U : List Nat} {n : Nat} {lev : List Int} (F : Flo R U n) (C : Hang R U n) (hl : lev.length = n) {s b : Nat} (hs : s < n) (hb : b < n) : ∃ m ∈ lev, Rc (nbs4 R U) (okL lev m) s b := by
  have hne : lev ≠ [] := by intro z; subst z; simp at hl; omega
  refine ⟨maxI lev, maxI_mem hne, ?_⟩
  have key : ∀ y, Rc (nbs4 R U) (fun _ => true) s y → Rc (nbs4 R U) (okL lev (maxI lev)) s y := by
    intro y h
    have hy : y < n := h.lt hs F.nb_lt
    induction h with
    | refl => exact .refl (by simpa [okL] using maxI_ge (z0_mem (by omega)))
    | step h mm _ ih => exact .step (ih (h.lt hs F.nb_lt)) mm (by simpa [okL] using maxI_ge (z0_mem (by omega)))
  exact key b (C s b hs hb)
/-- the pool that is told with the lowest pass -/
def PoolTold (R U : List Nat) (lev : List Int) (s : Nat) (L : Int) (Z : List Int) : Prop :=
  (Z = [] ∧ ∀ x ∈ lev, ¬ x < L) ∨ ∃ m ∈ lev, m < L ∧ (∀ x ∈ lev, x < L → x ≤ m) ∧ IsPool (nbs4 R U) (okL lev m) s Z
structure Told (R U : List Nat) (lev : List Int) (s b : Nat) (L : Int) (w : Str) (Z : List Int) : Prop where
  low : IsLow R U lev s b L
  word : ∃ top, wk R U lev (sgs w) 0 s (z0 lev s) = .inr (b, top) ∧ top ≤ L
  wlen : w.length ≤ 60
  pool : PoolTold R U lev s L Z
theorem C1_lowest_pass_eq {lev : List Int} {L : Int} (hl : lev.length ≤ 60) (a0 a2 a3 a5 a6 a7 : Option PV) :
    C1_lowest_pass [a0, some (.dat (.list (iZ lev))), a2, a3, some (.dat (.int L)), a5, a6, a7] [] = some (.dat (.list (iZ (lev.filter fun x => decide (x < L)))), []) := by
  have e := lcD_ints (G := fun _ => true) (tg := tgN 6) (tt := tsE (eOp fLt (eVar 6) (eVar 4))) (te := eVar 6) (w := [a0, some (.dat (.list (iZ lev))), a2, a3, some (.dat (.int L)), a5, none, a7]) (μ := []) (fun x => decide (x < L)) lev (fun k _ => ⟨_, rfl, by simp, fun _ => by simp⟩) rfl
  have h := List.length_filter_le (fun x => decide (x < L)) lev
  have c : (lev.filter fun x => decide (x < L)).length ≤ 1000000 := by omega
  unfold C1_lowest_pass eLc
  simp [-fLt, okG_none, e, c, cap]
theorem filter_emp {lev : List Int} {L : Int} (h : lev.filter (fun x => decide (x < L)) = []) : ∀ x ∈ lev, ¬ x < L := by
  intro x hx hlt
  have : x ∈ lev.filter fun x => decide (x < L) := List.mem_filter.mpr ⟨hx, by simpa using hlt⟩
  rw [h] at this
  cases this
theorem B1_lowest_pass_eq {R U : List Nat} {lev : List Int} {L : Int} {s b n : Nat} (F : Flo R U n) (hs : s < n) (hb : b < n) (hl : lev.length = n) (hL : L ∈ lev) (hmin : ∀ m ∈ lev, m < L → ¬ Rc (nbs4 R U) (okL lev m) s b) :
    (¬ Rc (nbs4 R U) (okL lev L) s b ∧ B1_lowest_pass [some (.dat (flo R U)), some (.dat (.list (iZ lev))), some (.dat (.int (s : Int))), some (.dat (.int (b : Int))), some (.dat (.int L)), none, none, none] [] = some (.nx [some (.dat (flo R U)), some (.dat (.list (iZ lev))), some (.dat (.int (s : Int))), some (.dat (.int (b : Int))), some (.dat (.int L)), none, none, none] [])) ∨
    ∃ w Z, B1_lowest_pass [some (.dat (flo R U)), some (.dat (.list (iZ lev))), some (.dat (.int (s : Int))), some (.dat (.int (b : Int))), some (.dat (.int L)), none, none, none] [] = some (.rt (.dat (.tuple [.int L, .str w, .list (iZ Z)])) []) ∧ Told R U lev s b L w Z := by
  have hn := F.small
  obtain ⟨Y, e1, hY⟩ := F_pool_of_eq (lev := lev) (most := L) F hs hl
  by_cases hr : Rc (nbs4 R U) (okL lev L) s b
  · right
    have hm : (b : Int) ∈ Y := (hY.mem _).mpr ⟨b, rfl, hr⟩
    obtain ⟨w, top, e2, g1, g2, g3⟩ := F_word_within_eq F hs hl hr
    have e3 := C1_lowest_pass_eq (lev := lev) (L := L) (by omega) (some (.dat (flo R U))) (some (.dat (.int (s : Int)))) (some (.dat (.int (b : Int)))) none none none
    by_cases he : lev.filter (fun x => decide (x < L)) = []
    · rw [he] at e3
      refine ⟨w, [], ?_, ⟨hL, hr, hmin⟩, ⟨top, g1, g2⟩, g3, .inl ⟨rfl, filter_emp he⟩⟩
      rw [show iZ [] = [] from rfl] at e3 ⊢
      simp [B1_lowest_pass, e1, hm, e3, e2, asDats, cap]
    · have hmm := maxI_mem he
      have hm2 := List.mem_filter.mp hmm
      simp only [decide_eq_true_eq] at hm2
      obtain ⟨Z, e4, hZ⟩ := F_pool_of_eq (lev := lev) (most := maxI (lev.filter fun x => decide (x < L))) F hs hl
      have e5 : (oZ (lev.filter fun x => decide (x < L))).isEmpty = false := by
        cases q : lev.filter (fun x => decide (x < L)) with
        | nil => exact absurd q he
        | cons x r => rfl
      refine ⟨w, Z, ?_, ⟨hL, hr, hmin⟩, ⟨top, g1, g2⟩, g3, .inr ⟨_, hm2.1, hm2.2, fun x hx hlt => maxI_ge (List.mem_filter.mpr ⟨hx, by simpa using hlt⟩), hZ⟩⟩
      simp [-List.isEmpty_eq_false_iff, -List.filter_eq_nil_iff, B1_lowest_pass, e1, hm, e3, e2, e4, e5, he, asDats, cap]
  · left
    have hm : ¬ (b : Int) ∈ Y := fun z => hr (by obtain ⟨x, ex, r⟩ := (hY.mem _).mp z; rwa [show b = x by omega])
    exact ⟨hr, by simp [B1_lowest_pass, e1, hm, asDats]⟩
theorem usort_len : ∀ xs : List Int, (usort xs).length ≤ xs.length := by
  have h : ∀ (x : Int) (ys : List Int), (uins x ys).length ≤ ys.length + 1 := by
    intro x ys
    induction ys with
    | nil => simp [uins]
    | cons y r ih => unfold uins; split <;> (try split) <;> simp <;> omega
  intro xs
  induction xs with
  | nil => exact Nat.le_refl _
  | cons x r ih => have := h x (usort r); simp only [usort, List.length_cons]; omega
theorem F_lowest_pass_eq {R U : List Nat} {lev : List Int} {s b n : Nat} (F : Flo R U n) (C : Hang R U n) (hs : s < n) (hb : b < n) (hl : lev.length = n) :
    ∃ L w Z, F_lowest_pass [flo R U, .list (iZ lev), .int (s : Int), .int (b : Int)] = some (.tuple [.int L, .str w, .list (iZ Z)]) ∧ Told R U lev s b L w Z := by
  have hn := F.small
  have hup : (usort lev).Pairwise (· < ·) := usort_sorted
  have key := forD_gen (G := fun _ => true) (tg := tgN 4) (b := B1_lowest_pass)
    (fun i ε μ => ∃ x4, ε = [some (.dat (flo R U)), some (.dat (.list (iZ lev))), some (.dat (.int (s : Int))), some (.dat (.int (b : Int))), x4, none, none, none] ∧ μ = [] ∧ ∀ j, j < i → j < (usort lev).length → ¬ Rc (nbs4 R U) (okL lev (z0 (usort lev) j)) s b)
    (fun o => ∃ L w Z, o = .rt (.dat (.tuple [.int L, .str w, .list (iZ Z)])) [] ∧ Told R U lev s b L w Z)
    (oZ (usort lev)) (fun _ _ _ _ => rfl) (fun i p ε μ hp h => by
      obtain ⟨x4, rfl, rfl, h⟩ := h
      obtain ⟨hi, rfl⟩ := get_oZ hp
      have hL : z0 (usort lev) i ∈ lev := mem_usort.mp (z0_mem hi)
      have hmin : ∀ m ∈ lev, m < z0 (usort lev) i → ¬ Rc (nbs4 R U) (okL lev m) s b := by
        intro m hm hlt
        obtain ⟨j, hj, rfl⟩ := mem_z0 (mem_usort.mpr hm)
        refine h j ?_ hj
        refine Nat.lt_of_not_le fun hle => ?_
        rcases Nat.lt_or_eq_of_le hle with c | c
        · have := List.pairwise_iff_getElem.mp hup i j hi hj c
          rw [z0_of hi, z0_of hj] at hlt
          omega
        · subst c; omega
      rcases B1_lowest_pass_eq F hs hb hl hL hmin with ⟨hr, e⟩ | ⟨w, Z, e, ht⟩
      · refine ⟨_, _, _, rfl, e, _, rfl, rfl, fun j hj hjl => ?_⟩
        by_cases ej : j = i
        · subst ej; exact hr
        · exact h j (by omega) hjl
      · exact ⟨_, _, _, rfl, e, _, w, Z, rfl, ht⟩)
    (fun ε μ h => by
      obtain ⟨x4, rfl, rfl, h⟩ := h
      obtain ⟨m, hm, hr⟩ := C.top F hl hs hb
      obtain ⟨j, hj, rfl⟩ := mem_z0 (mem_usort.mpr hm)
      exact absurd hr (h j (by simpa using hj) hj))
    (ε := [some (.dat (flo R U)), some (.dat (.list (iZ lev))), some (.dat (.int (s : Int))), some (.dat (.int (b : Int))), none, none, none, none]) (μ := []) ⟨none, rfl, rfl, fun j hj => absurd hj (Nat.not_lt_zero _)⟩
  obtain ⟨o, e, L, w, Z, rfl, ht⟩ := key
  refine ⟨L, w, Z, ?_, ht⟩
  have hul := usort_len lev
  have c : (usort lev).length ≤ 1000000 := by omega
  have c2 : lev.length < 64 := by omega
  simp [F_lowest_pass, r_lowest_pass, L1_lowest_pass, sFor, okG_none, e, c, c2, cap]
end CM
namespace CM
open PySem L2 VX
mutual
theorem dEq_self : ∀ d : PyData, nb d = true → dEq d d = true
  | .none, _ => by simp [dEq]
  | .bool x, _ => by simp [dEq]
  | .int x, _ => by simp [dEq]
  | .str x, _ => by simp [dEq]
  | .dict x, h => by simp [nb] at h
  | .list x, h => by simp only [dEq]; exact dsEq_self x (by simpa [nb] using h)
  | .tuple x, h => by simp only [dEq]; exact dsEq_self x (by simpa [nb] using h)
theorem dsEq_self : ∀ d : List PyData, nbs d = true → dsEq d d = true
  | [], _ => by simp [dsEq]
  | x :: r, h => by
    simp only [nbs, Bool.and_eq_true] at h
    simp only [dsEq, Bool.and_eq_true]
    exact ⟨dEq_self x h.1, dsEq_self r h.2⟩
end
theorem psEq_self : ∀ ds : List PyData, nbs ds = true → psEq (ds.map PV.dat) (ds.map PV.dat) = true
  | [], _ => by simp [psEq]
  | x :: r, h => by
    simp only [nbs, Bool.and_eq_true] at h
    simp only [List.map_cons, psEq, Bool.and_eq_true]
    exact ⟨dEq_self x h.1, psEq_self r h.2⟩
/-! ### lists of pools -/
def iP (Ls : List (List Int)) : List PyData := Ls.map fun Z => .list (iZ Z)
def oP (Ls : List (List Int)) : List PV := Ls.map fun Z => .dat (.list (iZ Z))
@[simp] theorem map_iP (Ls : List (List Int)) : (iP Ls).map PV.dat = oP Ls := by simp [iP, oP]
@[simp] theorem len_iP (Ls : List (List Int)) : (iP Ls).length = Ls.length := by simp [iP]
@[simp] theorem len_oP (Ls : List (List Int)) : (oP Ls).length = Ls.length := by simp [oP]
@[simp] theorem asDats_oP (Ls : List (List Int)) : asDats (oP Ls) = some (iP Ls) := by rw [← map_iP, asDats_map]
@[simp] theorem oP_snoc (Ls : List (List Int)) (Z : List Int) : oP Ls ++ [PV.dat (.list (iZ Z))] = oP (Ls ++ [Z]) := by simp [oP]
theorem nbs_iP : ∀ Ls : List (List Int), nbs (iP Ls) = true
  | [] => rfl
  | Z :: r => by
    have := nbs_iP r
    simp only [iP, List.map_cons, nbs, Bool.and_eq_true]
    exact ⟨nb_iZ Z, this⟩
@[simp] theorem nb_iP (Ls : List (List Int)) : nb (.list (iP Ls)) = true := by simp only [nb]; exact nbs_iP Ls
theorem sds_iP {n : Nat} (Ls : List (List Int)) : Sds (n + 1) (iP Ls) := sds_all fun d hd => by
  obtain ⟨Z, _, rfl⟩ := List.mem_map.mp hd
  exact sd_list (sds_iZ Z)
@[simp] theorem shaped_iP (Ls : List (List Int)) : SeqAt.shaped (.list (iP Ls)) = true := (sd_list (n := 1) (sds_iP Ls)).shaped (by decide)
theorem iP_inj {a b : List (List Int)} (h : iP a = iP b) : a = b := by
  induction a generalizing b with
  | nil => cases b with
    | nil => rfl
    | cons y s => simp [iP] at h
  | cons x r ih => cases b with
    | nil => simp [iP] at h
    | cons y s =>
      simp only [iP, List.map_cons, List.cons.injEq] at h
      have h1 : x = y := iZ_inj (by simpa using h.1)
      have h2 : r = s := ih h.2
      rw [h1, h2]
@[simp] theorem any_iP (Ls : List (List Int)) (Z : List Int) : ((iP Ls).any fun z => PyData.eqv z (.list (iZ Z))) = decide (Z ∈ Ls) := by
  induction Ls with
  | nil => simp [iP]
  | cons Y r ih =>
    simp only [iP, List.map_cons, List.any_cons, eqv_iZ]
    unfold iP at ih
    rw [ih]
    by_cases h : Y = Z
    · subst h; simp
    · have : ¬ Z = Y := fun z => h z.symm
      simp [h, this]
theorem psEq_oP (Ls : List (List Int)) : psEq (oP Ls) (oP Ls) = true := by rw [← map_iP]; exact psEq_self _ (nbs_iP Ls)
/-- the pools of all squares, by one choice -/
structure PoolsOf (R U : List Nat) (lev : List Int) (n : Nat) (most : Int) (P : Nat → List Int) : Prop where
  run : ∀ x, x < n → F_pool_of [flo R U, .list (iZ lev), .int (x : Int), .int most] = some (.list (iZ (P x)))
  law : ∀ x, x < n → F__law_pool [flo R U, .list (iZ lev), .int (x : Int), .int most] = some (.list (iZ (P x)))
  pool : ∀ x, x < n → IsPool (nbs4 R U) (okL lev most) x (P x)
theorem pools_of {R U : List Nat} {lev : List Int} {n : Nat} {most : Int} (F : Flo R U n) (hl : lev.length = n) : ∃ P, PoolsOf R U lev n most P := by
  have : ∀ x, ∃ Z, x < n → F_pool_of [flo R U, .list (iZ lev), .int (x : Int), .int most] = some (.list (iZ Z)) ∧ IsPool (nbs4 R U) (okL lev most) x Z := by
    intro x
    by_cases h : x < n
    · obtain ⟨Z, e, hZ⟩ := F_pool_of_eq (lev := lev) (most := most) F h hl
      exact ⟨Z, fun _ => ⟨e, hZ⟩⟩
    · exact ⟨[], fun z => absurd z h⟩
  obtain ⟨P, hP⟩ := Classical.axiomOfChoice this
  exact ⟨P, fun x h => (hP x h).1, fun x h => by rw [F__law_pool_pool F h hl]; exact (hP x h).1, fun x h => (hP x h).2⟩
def stP (P : Nat → List Int) (lev : List Int) (most : Int) (Ls : List (List Int)) (x : Nat) : List (List Int) := if z0 lev x ≤ most ∧ ¬ ∃ Z ∈ Ls, (x : Int) ∈ Z then Ls ++ [P x] else Ls
def lotsTo (P : Nat → List Int) (lev : List Int) (most : Int) (i : Nat) : List (List Int) := (List.range i).foldl (stP P lev most) []
theorem lotsTo_succ (P : Nat → List Int) (lev : List Int) (most : Int) (i : Nat) : lotsTo P lev most (i + 1) = stP P lev most (lotsTo P lev most i) i := by
  unfold lotsTo; rw [List.range_succ, List.foldl_append]; rfl
theorem lotsTo_len (P : Nat → List Int) (lev : List Int) (most : Int) (i : Nat) : (lotsTo P lev most i).length ≤ i := by
  induction i with
  | zero => simp [lotsTo]
  | succ i ih => rw [lotsTo_succ]; unfold stP; split <;> (try simp) <;> omega
theorem lotsTo_mem {P : Nat → List Int} {lev : List Int} {most : Int} {i : Nat} {Z : List Int} (h : Z ∈ lotsTo P lev most i) : ∃ y, y < i ∧ Z = P y := by
  induction i with
  | zero => simp [lotsTo] at h
  | succ i ih =>
    rw [lotsTo_succ] at h
    unfold stP at h
    split at h
    · rcases List.mem_append.mp h with h | h
      · obtain ⟨y, hy, e⟩ := ih h; exact ⟨y, by omega, e⟩
      · exact ⟨i, by omega, by simpa using h⟩
    · obtain ⟨y, hy, e⟩ := ih h; exact ⟨y, by omega, e⟩
/-- the law adds a lot just when the program does -/
theorem stP_law {R U : List Nat} {lev : List Int} {n : Nat} {most : Int} {P : Nat → List Int} (F : Flo R U n) (hP : PoolsOf R U lev n most P) {i : Nat} (hi : i < n) :
    stP P lev most (lotsTo P lev most i) i = if P i ≠ [] ∧ P i ∉ lotsTo P lev most i then lotsTo P lev most i ++ [P i] else lotsTo P lev most i := by
  have self : z0 lev i ≤ most → (i : Int) ∈ P i := fun h => ((hP.pool i hi).mem _).mpr ⟨i, rfl, .refl (decide_eq_true h)⟩
  have he : P i ≠ [] ↔ z0 lev i ≤ most := by
    constructor
    · intro h
      cases q : P i with
      | nil => exact absurd q h
      | cons z r =>
        obtain ⟨x, _, rc⟩ := ((hP.pool i hi).mem z).mp (by rw [q]; exact List.mem_cons_self)
        exact of_decide_eq_true rc.ok0
    · intro h z
      have := self h
      rw [z] at this
      cases this
  unfold stP
  by_cases h1 : z0 lev i ≤ most
  · have hm : (∃ Z ∈ lotsTo P lev most i, (i : Int) ∈ Z) ↔ P i ∈ lotsTo P lev most i := by
      constructor
      · rintro ⟨Z, hZ, hi'⟩
        obtain ⟨y, hy, rfl⟩ := lotsTo_mem hZ
        obtain ⟨x, ex, rc⟩ := ((hP.pool y (by omega)).mem _).mp hi'
        obtain rfl : x = i := by omega
        have rc' := rc.symm (n := n) (by omega) F.nb_lt F.nb_symm
        have : P y = P x := by
          refine IsPool.uniq (hP.pool y (by omega)) ⟨(hP.pool x hi).up, fun k => ?_⟩
          rw [(hP.pool x hi).mem]
          exact ⟨fun ⟨z, e, r⟩ => ⟨z, e, rc.trans r⟩, fun ⟨z, e, r⟩ => ⟨z, e, rc'.trans r⟩⟩
        rw [← this]; exact hZ
      · intro h; exact ⟨_, h, self h1⟩
    by_cases h2 : P i ∈ lotsTo P lev most i
    · rw [if_neg (fun z => z.2 (hm.mpr h2)), if_neg (fun z => z.2 h2)]
    · rw [if_pos ⟨h1, fun z => h2 (hm.mp z)⟩, if_pos ⟨he.mpr h1, h2⟩]
  · rw [if_neg (fun z => h1 z.1), if_neg (fun z => h1 (he.mp z.1))]
/-! ### pools -/
theorem asBls_map (bs : List Bool) : asBls (bs.map fun b => PV.dat (.bool b)) = some bs := by
  induction bs with
  | nil => rfl
  | cons b r ih => simp [asBls, ih]
theorem lcD_pools {G : Sto → Bool} {tg : TgF} {te : EvF} {w : Evn} {μ : Sto} (t : List Int → Bool) : ∀ Ls : List (List Int), (∀ Z ∈ Ls, ∃ ε, tg (.dat (.list (iZ Z))) w μ = some (ε, μ) ∧ te ε μ = some (.dat (.bool (t Z)), μ)) → G μ = true → lcD G tg tsYes te w (oP Ls) μ = some ((Ls.map t).map fun b => PV.dat (.bool b), μ)
  | [], _, hG => by simp [lcD, hG, oP]
  | Z :: r, h, hG => by
    obtain ⟨ε, h1, h2⟩ := h Z List.mem_cons_self
    have ih := lcD_pools t r (fun q hq => h q (List.mem_cons_of_mem _ hq)) hG
    have e : oP (Z :: r) = .dat (.list (iZ Z)) :: oP r := rfl
    rw [e]
    simp [lcD, hG, h1, tsYes, h2, ih]
theorem C1_pools_eq {Ls : List (List Int)} {x : Nat} (hl : Ls.length ≤ 60) (a0 a1 a2 a5 : Option PV) :
    C1_pools [a0, a1, a2, some (.ptr 0), some (.dat (.int (x : Int))), a5] [.lst (oP Ls)] = some (.dat (.list ((Ls.map fun Z => decide ((x : Int) ∈ Z)).map fun b => .bool b)), [.lst (oP Ls)]) := by
  have hG : okG (oP Ls) (some 0) [.lst (oP Ls)] = true := by unfold okG; simpa using psEq_oP Ls
  have e := lcD_pools (G := okG (oP Ls) (some 0)) (tg := tgN 5) (te := eOp (fIn false) (eVar 4) (eVar 5)) (w := [a0, a1, a2, some (.ptr 0), some (.dat (.int (x : Int))), none]) (μ := [.lst (oP Ls)]) (fun Z => decide ((x : Int) ∈ Z)) Ls (fun Z _ => ⟨_, rfl, by simp⟩) hG
  have c : Ls.length ≤ 1000000 := by omega
  have e2 : asDats ((Ls.map fun Z => decide ((x : Int) ∈ Z)).map fun b => PV.dat (.bool b)) = some ((Ls.map fun Z => decide ((x : Int) ∈ Z)).map fun b => .bool b) := by
    have := asDats_map ((Ls.map fun Z => decide ((x : Int) ∈ Z)).map fun b => PyData.bool b)
    rw [List.map_map] at this
    exact this
  unfold C1_pools eLc
  simp only [srcSeq, eVar, List.getElem?_cons_succ, List.getElem?_cons_zero, Option.bind_some, wipeE, List.set_cons_succ, List.set_cons_zero]
  rw [e]
  simp only [Option.bind_some, mkL, List.length_map, cap, if_pos c, e2, Option.map_some]
  rfl
theorem any_ex {Ls : List (List Int)} {k : Int} : ((Ls.map fun Z => decide (k ∈ Z)).any id) = decide (∃ Z ∈ Ls, k ∈ Z) := by
  induction Ls with
  | nil => simp
  | cons Z r ih =>
    rw [List.map_cons, List.any_cons, ih]
    simp
theorem B1_pools_eq {R U : List Nat} {lev : List Int} {n : Nat} {most : Int} {P : Nat → List Int} (hP : PoolsOf R U lev n most P) {Ls : List (List Int)} {x : Nat} (hx : x < n) (hl : lev.length = n) (hLs : Ls.length ≤ 60) :
    B1_pools [some (.dat (flo R U)), some (.dat (.list (iZ lev))), some (.dat (.int most)), some (.ptr 0), some (.dat (.int (x : Int))), none] [.lst (oP Ls)] =
      some (.nx [some (.dat (flo R U)), some (.dat (.list (iZ lev))), some (.dat (.int most)), some (.ptr 0), some (.dat (.int (x : Int))), none] [.lst (oP (stP P lev most Ls x))]) := by
  have a1 := at_oZ (ns := lev) (j := x) (by omega)
  have e := C1_pools_eq (Ls := Ls) (x := x) hLs (some (.dat (flo R U))) (some (.dat (.list (iZ lev)))) (some (.dat (.int most))) none
  have e2 : ∀ bs : List Bool, asBls ((bs.map fun b => PyData.bool b).map PV.dat) = some bs := by
    intro bs
    rw [List.map_map]
    exact asBls_map bs
  have e3 := hP.run x hx
  have c : Ls.length < 1000000 := by omega
  have t : eCa fAny (aCons C1_pools aNil) [some (.dat (flo R U)), some (.dat (.list (iZ lev))), some (.dat (.int most)), some (.ptr 0), some (.dat (.int (x : Int))), none] [.lst (oP Ls)] = some (.dat (.bool (decide (∃ Z ∈ Ls, (x : Int) ∈ Z))), [.lst (oP Ls)]) := by
    have := any_ex (Ls := Ls) (k := (x : Int))
    simp only [eCa, aCons, aNil, e, Option.bind_some, fAny, lstOfS, lstOf, e2, this, Option.map_some]
  by_cases h1 : z0 lev x ≤ most
  · by_cases h2 : ∃ Z ∈ Ls, (x : Int) ∈ Z
    · have h2' : ¬ ¬ ∃ Z ∈ Ls, (x : Int) ∈ Z := fun z => z h2
      rw [decide_eq_true h2] at t
      simp [-eCa, -fAny, B1_pools, a1, h1, t, stP, -not_exists, -not_and, h2']
    · rw [decide_eq_false h2] at t
      have e4 : stP P lev most Ls x = Ls ++ [P x] := if_pos ⟨h1, h2⟩
      simp [-eCa, -fAny, B1_pools, a1, h1, t, e4, e3, asDats, cap, c]
  · simp [B1_pools, a1, h1, stP]
theorem F_pools_eq {R U : List Nat} {lev : List Int} {n : Nat} {most : Int} {P : Nat → List Int} (F : Flo R U n) (hP : PoolsOf R U lev n most P) (hl : lev.length = n) :
    F_pools [flo R U, .list (iZ lev), .int most] = some (.list (iP (lotsTo P lev most n))) := by
  have hn := F.small
  have key := forD_all (G := fun _ => true) (tg := tgN 4) (b := B1_pools)
    (fun i ε μ => ∃ x', ε = [some (.dat (flo R U)), some (.dat (.list (iZ lev))), some (.dat (.int most)), some (.ptr 0), x', none] ∧ μ = [.lst (oP (lotsTo P lev most i))]) ((List.range n).map fun i => PV.dat (.int (i : Nat))) (fun _ _ _ _ => rfl) (fun i p ε μ hp h => by
      obtain ⟨x', rfl, rfl⟩ := h
      have hi : i < n := by simpa using (List.getElem?_eq_some_iff.mp hp).1
      have ep : p = .dat (.int (i : Int)) := by simpa [hi] using hp.symm
      subst ep
      have hll := lotsTo_len P lev most i
      exact ⟨_, _, _, _, rfl, B1_pools_eq hP hi hl (by omega), _, rfl, by rw [lotsTo_succ]⟩) (ε := [some (.dat (flo R U)), some (.dat (.list (iZ lev))), some (.dat (.int most)), some (.ptr 0), none, none]) (μ := [.lst (oP (lotsTo P lev most 0))]) ⟨none, rfl, rfl⟩
  obtain ⟨ε', μ', h1, x', rfl, rfl⟩ := key
  simp only [List.length_map, List.length_range] at h1
  have c : n ≤ 100000 := by omega
  have e0 : oP (lotsTo P lev most 0) = [] := rfl
  rw [e0] at h1
  simp [F_pools, r_pools, L1_pools, sFor, okG_none, h1, hl, c, cap]
end CM
namespace CM
open PySem L2 VX
/-! ### the word gone through, by the program and by the law -/
def dicN (R U : List Nat) : List (Key × PV) := [(.inr "r", .dat (.list (iL R))), (.inr "l", .dat (.list (iL (inv R)))), (.inr "u", .dat (.list (iL U))), (.inr "d", .dat (.list (iL (inv U))))]
theorem valP_N (R U : List Nat) (c : Str) : valP (dicN R U) (.inr c) = (rowOf R U c).map fun row => PV.dat (.list (iL row)) := by
  unfold dicN rowOf
  by_cases h1 : c = "r"
  · subst h1; rw [valP_hit, if_pos rfl]; rfl
  · rw [if_neg h1, valP_miss (inr_ne fun z => h1 z.symm)]
    by_cases h2 : c = "l"
    · subst h2; rw [valP_hit, if_pos rfl]; rfl
    · rw [if_neg h2, valP_miss (inr_ne fun z => h2 z.symm)]
      by_cases h3 : c = "u"
      · subst h3; rw [valP_hit, if_pos rfl]; rfl
      · rw [if_neg h3, valP_miss (inr_ne fun z => h3 z.symm)]
        by_cases h4 : c = "d"
        · subst h4; rw [valP_hit, if_pos rfl]; rfl
        · rw [if_neg h4, valP_miss (inr_ne fun z => h4 z.symm)]; rfl
theorem rowOf_len {R U row : List Nat} {c : Str} {n : Nat} (F : Flo R U n) (h : rowOf R U c = some row) : row.length = n := by
  unfold rowOf at h
  split at h
  · cases h; exact F.lR
  · split at h
    · cases h; rw [inv_len]; exact F.lR
    · split at h
      · cases h; exact F.lU
      · split at h
        · cases h; rw [inv_len]; exact F.lU
        · cases h
theorem B1_lpf_none {R U : List Nat} {c : Str} {i : Nat} (h : rowOf R U c = none) (a0 a1 a2 a3 a4 a5 a6 a7 a9 a10 a13 a14 : Option PV) :
    B1_lowest_pass_fault [a0, a1, a2, a3, a4, a5, a6, a7, some (.ptr 0), a9, a10, some (.dat (.int (i : Int))), some (.dat (.str c)), a13, a14] [.dic (dicN R U)] = some (.rt (.dat (.tuple [.str "sign", .int (i : Int)])) [.dic (dicN R U)]) := by
  have v := valP_N R U c
  rw [h] at v
  simp [B1_lowest_pass_fault, v, asDats, cap]
theorem B1_lpf_some {R U row : List Nat} {lev : List Int} {c : Str} {h n : Nat} {m : Int} (F : Flo R U n) (hl : lev.length = n) (hh : h < n) (hc : rowOf R U c = some row) (a0 a2 a3 a4 a5 a6 a7 a11 a13 a14 : Option PV) :
    B1_lowest_pass_fault [a0, some (.dat (.list (iZ lev))), a2, a3, a4, a5, a6, a7, some (.ptr 0), some (.dat (.int (h : Int))), some (.dat (.int m)), a11, some (.dat (.str c)), a13, a14] [.dic (dicN R U)] =
      some (.nx [a0, some (.dat (.list (iZ lev))), a2, a3, a4, a5, a6, a7, some (.ptr 0), some (.dat (.int ((g0 row h : Nat) : Int))), some (.dat (.int (if z0 lev (g0 row h) > m then z0 lev (g0 row h) else m))), a11, some (.dat (.str c)), a13, a14] [.dic (dicN R U)]) := by
  have v := valP_N R U c
  rw [hc] at v
  have a1 := at_oL (ns := row) (j := h) (by rw [rowOf_len F hc]; exact hh)
  have a2 := at_oZ (ns := lev) (j := g0 row h) (by rw [hl]; exact F.nb_lt _ hh _ (rowOf_nb hc h))
  simp [B1_lowest_pass_fault, v, a1, a2]
theorem sgs_get {w : Str} {i : Nat} (h : i < (sgs w).length) : ∃ c, L2.atI w.cps.toList (i : Int) = some c ∧ (⟨#[c]⟩ : Str) = (sgs w)[i] := by
  have h' : i < w.cps.toList.length := by simpa [sgs] using h
  exact ⟨_, atI_natD h', by simp [sgs]⟩
theorem wk_drop {R U : List Nat} {lev : List Int} {cs : List Str} {i h : Nat} {m : Int} (hi : i < cs.length) :
    wk R U lev (cs.drop i) i h m = match rowOf R U cs[i] with
    | none => .inl i
    | some row => wk R U lev (cs.drop (i + 1)) (i + 1) (g0 row h) (if z0 lev (g0 row h) > m then z0 lev (g0 row h) else m) := by
  rw [List.drop_eq_getElem_cons hi, wk] <;> (cases rowOf R U cs[i] <;> rfl)
theorem L1_lpf_eq {R U : List Nat} {lev : List Int} {w : Str} {s n : Nat} {m : Int} (F : Flo R U n) (hl : lev.length = n) (hs : s < n) (a0 a2 a3 a4 a5 a7 a11 a12 a13 a14 : Option PV) :
    ∃ o, L1_lowest_pass_fault [a0, some (.dat (.list (iZ lev))), a2, a3, a4, a5, some (.dat (.str w)), a7, some (.ptr 0), some (.dat (.int (s : Int))), some (.dat (.int m)), a11, a12, a13, a14] [.dic (dicN R U)] = some o ∧
      ((∃ k, wk R U lev (sgs w) 0 s m = .inl k ∧ o = .rt (.dat (.tuple [.str "sign", .int (k : Int)])) [.dic (dicN R U)]) ∨
       ∃ h top a11 a12, wk R U lev (sgs w) 0 s m = .inr (h, top) ∧ o = .nx [a0, some (.dat (.list (iZ lev))), a2, a3, a4, a5, some (.dat (.str w)), a7, some (.ptr 0), some (.dat (.int (h : Int))), some (.dat (.int top)), a11, a12, a13, a14] [.dic (dicN R U)]) := by
  have key := forD_gen (G := fun _ => true) (tg := tgT 2 (tgsCons (tgN 11) (tgsCons (tgN 12) tgsNil))) (b := B1_lowest_pass_fault)
    (fun i ε μ => ∃ (h : Nat) (m' : Int) (a11 a12 : Option PV), ε = [a0, some (.dat (.list (iZ lev))), a2, a3, a4, a5, some (.dat (.str w)), a7, some (.ptr 0), some (.dat (.int (h : Int))), some (.dat (.int m')), a11, a12, a13, a14] ∧ μ = [.dic (dicN R U)] ∧ h < n ∧ wk R U lev ((sgs w).drop i) i h m' = wk R U lev (sgs w) 0 s m)
    (fun o => (∃ k, wk R U lev (sgs w) 0 s m = .inl k ∧ o = .rt (.dat (.tuple [.str "sign", .int (k : Int)])) [.dic (dicN R U)]) ∨
       ∃ h top a11 a12, wk R U lev (sgs w) 0 s m = .inr (h, top) ∧ o = .nx [a0, some (.dat (.list (iZ lev))), a2, a3, a4, a5, some (.dat (.str w)), a7, some (.ptr 0), some (.dat (.int (h : Int))), some (.dat (.int top)), a11, a12, a13, a14] [.dic (dicN R U)])
    ((enumD ((sgs w).map fun c => .str c)).map PV.dat) (fun _ _ _ _ => rfl) (fun i p ε μ hp hI => by
      obtain ⟨h, m', a11, a12, rfl, rfl, hh, hw⟩ := hI
      obtain ⟨d, h1, rfl⟩ := enum_get hp
      rw [List.getElem?_map, Option.map_eq_some_iff] at h1
      obtain ⟨c, h1, rfl⟩ := h1
      obtain ⟨hi, ec⟩ := List.getElem?_eq_some_iff.mp h1
      rw [wk_drop hi, ec] at hw
      cases hc : rowOf R U c with
      | none =>
        rw [hc] at hw
        exact ⟨_, _, _, rfl, B1_lpf_none hc _ _ _ _ _ _ _ _ _ _ _ _, .inl ⟨i, hw.symm, rfl⟩⟩
      | some row =>
        rw [hc] at hw
        exact ⟨_, _, _, rfl, B1_lpf_some F hl hh hc _ _ _ _ _ _ _ _ _ _, _, _, _, _, rfl, rfl, F.nb_lt _ hh _ (rowOf_nb hc h), hw⟩)
    (fun ε μ hI => by
      obtain ⟨h, m', a11, a12, rfl, rfl, hh, hw⟩ := hI
      have e : (sgs w).drop ((enumD ((sgs w).map fun c => PyData.str c)).map PV.dat).length = [] := List.drop_eq_nil_of_le (by simp)
      rw [e, wk] at hw
      exact .inr ⟨h, m', a11, a12, hw.symm, rfl⟩)
    (ε := [a0, some (.dat (.list (iZ lev))), a2, a3, a4, a5, some (.dat (.str w)), a7, some (.ptr 0), some (.dat (.int (s : Int))), some (.dat (.int m)), a11, a12, a13, a14]) (μ := [.dic (dicN R U)]) ⟨s, m, a11, a12, rfl, rfl, hs, rfl⟩
  obtain ⟨o, e, h⟩ := key
  refine ⟨o, ?_, h⟩
  unfold L1_lowest_pass_fault sFor
  have e2 : (sgs w).map (fun c => PyData.str c) = w.cps.toList.map fun c => .str ⟨#[c]⟩ := by simp [sgs]
  rw [e2] at e
  simpa [okG_none] using e
/-! the law's -/
theorem any4 (c : Str) : ([PyData.str "r", .str "l", .str "u", .str "d"].any fun z => PyData.eqv z (.str c)) = (c == "r" || c == "l" || c == "u" || c == "d") := by
  have h : ∀ a : Str, PyData.eqv (.str a) (.str c) = (c == a) := by
    intro a
    rw [eqv_dec (by rfl) (by rfl)]
    by_cases e : a = c
    · subst e; simp
    · have : ¬ c = a := fun z => e z.symm
      simp [e, this]
  simp only [List.any_cons, List.any_nil, h, Bool.or_false, Bool.or_assoc]
theorem any4_row {R U : List Nat} {c : Str} : (c == "r" || c == "l" || c == "u" || c == "d") = (rowOf R U c).isSome := by
  unfold rowOf
  by_cases h1 : c = "r"
  · simp [h1]
  · by_cases h2 : c = "l"
    · rw [if_neg h1, if_pos h2]; simp [h2]
    · by_cases h3 : c = "u"
      · rw [if_neg h1, if_neg h2, if_pos h3]; simp [h3]
      · by_cases h4 : c = "d"
        · rw [if_neg h1, if_neg h2, if_neg h3, if_pos h4]; simp [h4]
        · rw [if_neg h1, if_neg h2, if_neg h3, if_neg h4]; simp [h1, h2, h3, h4]
/-- what a sign leads to, in the law's lists -/
theorem atD_any {R U row : List Nat} {c : Str} {h n : Nat} {eo es eh : EvF} {ε : Evn} (F : Flo R U n) (hh : h < n) (hc : rowOf R U c = some row) (e1 : eo ε (lsSt R U) = some (.ptr 2, lsSt R U)) (e2 : es ε (lsSt R U) = some (.dat (.str c), lsSt R U)) (e3 : eh ε (lsSt R U) = some (.dat (.int (h : Int)), lsSt R U)) :
    eOp fIx (eDGet eo es) eh ε (lsSt R U) = some (.dat (.int ((g0 row h : Nat) : Int)), lsSt R U) := by
  have hrow := rowOf_len F hc
  have a1 := at_oL (ns := row) (j := h) (by omega)
  unfold rowOf at hc
  split at hc
  · cases hc; rename_i q; subst q
    simp only [listsSt] at e1 e2 e3 ⊢
    simp [e1, e2, e3, valP_r, a1]
  · split at hc
    · cases hc; rename_i q; subst q
      simp only [listsSt] at e1 e2 e3 ⊢
      simp [e1, e2, e3, valP_l, a1]
    · split at hc
      · cases hc; rename_i q; subst q
        simp only [listsSt] at e1 e2 e3 ⊢
        simp [e1, e2, e3, valP_u, a1]
      · split at hc
        · cases hc; rename_i q; subst q
          simp only [listsSt] at e1 e2 e3 ⊢
          simp [e1, e2, e3, valP_d, a1]
        · cases hc
theorem shaped_str {c : Str} (h : PyData.strOk c = true) : SeqAt.shaped (.str c) = true := (show Sd 0 (.str c) from ⟨by simp [PyData.canLay0, h], by simp [PyData.depth]⟩).shaped (by decide)
def WOk (w : Str) : Prop := ∀ c ∈ sgs w, PyData.strOk c = true
theorem ok_r : PyData.strOk "r" = true := by
  rw [show ("r" : Str) = ⟨#[114]⟩ by decide]
  simp [PyData.strOk]
theorem ok_l : PyData.strOk "l" = true := by
  rw [show ("l" : Str) = ⟨#[108]⟩ by decide]
  simp [PyData.strOk]
theorem ok_u : PyData.strOk "u" = true := by
  rw [show ("u" : Str) = ⟨#[117]⟩ by decide]
  simp [PyData.strOk]
theorem ok_d : PyData.strOk "d" = true := by
  rw [show ("d" : Str) = ⟨#[100]⟩ by decide]
  simp [PyData.strOk]
theorem sgn_in {R U : List Nat} {w : Str} {i : Nat} (hi : i < (sgs w).length) (hwl : w.length ≤ 1000) (hok : WOk w) (a0 a1 a2 a3 a4 a5 a7 a8 a9 a10 a12 a13 : Option PV) (μ : Sto) :
    eOp fIx (eVar 6) (eVar 11) [a0, a1, a2, a3, a4, a5, some (.dat (.str w)), a7, a8, a9, a10, some (.dat (.int (i : Int))), a12, a13] μ = some (.dat (.str (sgs w)[i]), μ) ∧
    eOp (fIn true) (eOp fIx (eVar 6) (eVar 11)) (eLst false (aCons (eC (.str "r")) (aCons (eC (.str "l")) (aCons (eC (.str "u")) (aCons (eC (.str "d")) aNil))))) [a0, a1, a2, a3, a4, a5, some (.dat (.str w)), a7, a8, a9, a10, some (.dat (.int (i : Int))), a12, a13] μ = some (.dat (.bool (!(rowOf R U (sgs w)[i]).isSome)), μ) := by
  obtain ⟨c, e1, e2⟩ := sgs_get hi
  have c1 : w.length ≤ 1000000 := by omega
  have s1 : eOp fIx (eVar 6) (eVar 11) [a0, a1, a2, a3, a4, a5, some (.dat (.str w)), a7, a8, a9, a10, some (.dat (.int (i : Int))), a12, a13] μ = some (.dat (.str (sgs w)[i]), μ) := by
    rw [← e2]
    simp [e1, cap, c1]
  have s2 : eLst false (aCons (eC (.str "r")) (aCons (eC (.str "l")) (aCons (eC (.str "u")) (aCons (eC (.str "d")) aNil)))) [a0, a1, a2, a3, a4, a5, some (.dat (.str w)), a7, a8, a9, a10, some (.dat (.int (i : Int))), a12, a13] μ = some (.dat (.list [.str "r", .str "l", .str "u", .str "d"]), μ) := by
    simp [asDats, cap]
  have s3 : SeqAt.shaped (.list [PyData.str "r", .str "l", .str "u", .str "d"]) = true := (sd_list (n := 0) (sds_all fun d hd => by
    simp only [List.mem_cons, List.not_mem_nil, or_false] at hd
    rcases hd with rfl | rfl | rfl | rfl <;> exact ⟨by simp [PyData.canLay0, ok_r, ok_l, ok_u, ok_d], by simp [PyData.depth]⟩)).shaped (by decide)
  refine ⟨s1, ?_⟩
  have u : ∀ (f : OpF) (a b : EvF) (ε : Evn) (μ : Sto), eOp f a b ε μ = (a ε μ).bind fun x => (b ε x.2).bind fun y => f x.1 y.1 y.2 := fun _ _ _ _ _ => rfl
  rw [u, s1]
  simp only [Option.bind_some]
  rw [s2]
  simp only [Option.bind_some, fIn, asD, shaped_str (hok _ (List.getElem_mem hi)), s3, and_self, if_true, any4, any4_row (R := R) (U := U)]
theorem B1_lf_none {R U : List Nat} {w : Str} {i : Nat} (hi : i < (sgs w).length) (hwl : w.length ≤ 1000) (hok : WOk w) (h : rowOf R U (sgs w)[i] = none) (a0 a1 a2 a3 a4 a5 a7 a8 a9 a10 a12 a13 : Option PV) :
    B1__law_fault [a0, a1, a2, a3, a4, a5, some (.dat (.str w)), a7, a8, a9, a10, some (.dat (.int (i : Int))), a12, a13] (lsSt R U) = some (.rt (.dat (.tuple [.str "sign", .int (i : Int)])) (lsSt R U)) := by
  have e := (sgn_in (R := R) (U := U) hi hwl hok a0 a1 a2 a3 a4 a5 a7 a8 a9 a10 a12 a13 (lsSt R U)).2
  rw [h] at e
  unfold B1__law_fault sSeq sIf tsE
  rw [e]
  simp [asDats, cap]
theorem B1_lf_some {R U row : List Nat} {lev : List Int} {w : Str} {i h n : Nat} {m : Int} (F : Flo R U n) (hl : lev.length = n) (hh : h < n) (hi : i < (sgs w).length) (hwl : w.length ≤ 1000) (hok : WOk w) (hc : rowOf R U (sgs w)[i] = some row) (a0 a2 a3 a4 a5 a7 a12 a13 : Option PV) :
    B1__law_fault [a0, some (.dat (.list (iZ lev))), a2, a3, a4, a5, some (.dat (.str w)), a7, some (.ptr 2), some (.dat (.int (h : Int))), some (.dat (.int m)), some (.dat (.int (i : Int))), a12, a13] (lsSt R U) =
      some (.nx [a0, some (.dat (.list (iZ lev))), a2, a3, a4, a5, some (.dat (.str w)), a7, some (.ptr 2), some (.dat (.int ((g0 row h : Nat) : Int))), some (.dat (.int (if z0 lev (g0 row h) > m then z0 lev (g0 row h) else m))), some (.dat (.int (i : Int))), a12, a13] (lsSt R U)) := by
  obtain ⟨e0, e⟩ := sgn_in (R := R) (U := U) hi hwl hok a0 (some (.dat (.list (iZ lev)))) a2 a3 a4 a5 a7 (some (.ptr 2)) (some (.dat (.int (h : Int)))) (some (.dat (.int m))) a12 a13 (lsSt R U)
  rw [hc] at e
  have e2 := atD_any (eo := eVar 8) (es := eOp fIx (eVar 6) (eVar 11)) (eh := eVar 9) (ε := [a0, some (.dat (.list (iZ lev))), a2, a3, a4, a5, some (.dat (.str w)), a7, some (.ptr 2), some (.dat (.int (h : Int))), some (.dat (.int m)), some (.dat (.int (i : Int))), a12, a13]) F hh hc rfl e0 rfl
  have a2 := at_oZ (ns := lev) (j := g0 row h) (by rw [hl]; exact F.nb_lt _ hh _ (rowOf_nb hc h))
  unfold B1__law_fault sSeq sIf tsE
  rw [e]
  simp only [Option.bind_some, Option.isSome_some, Bool.not_true, Bool.false_eq_true, if_false, sNil, sSet]
  rw [e2]
  simp [a2]
theorem L1_lf_eq {R U : List Nat} {lev : List Int} {w : Str} {s n : Nat} {m : Int} (F : Flo R U n) (hl : lev.length = n) (hs : s < n) (hwl : w.length ≤ 1000) (hok : WOk w) (a0 a2 a3 a4 a5 a7 a11 a12 a13 : Option PV) :
    ∃ o, L1__law_fault [a0, some (.dat (.list (iZ lev))), a2, a3, a4, a5, some (.dat (.str w)), a7, some (.ptr 2), some (.dat (.int (s : Int))), some (.dat (.int m)), a11, a12, a13] (lsSt R U) = some o ∧
      ((∃ k, wk R U lev (sgs w) 0 s m = .inl k ∧ o = .rt (.dat (.tuple [.str "sign", .int (k : Int)])) (lsSt R U)) ∨
       ∃ h top a11, wk R U lev (sgs w) 0 s m = .inr (h, top) ∧ o = .nx [a0, some (.dat (.list (iZ lev))), a2, a3, a4, a5, some (.dat (.str w)), a7, some (.ptr 2), some (.dat (.int (h : Int))), some (.dat (.int top)), a11, a12, a13] (lsSt R U)) := by
  have key := forD_gen (G := fun _ => true) (tg := tgN 11) (b := B1__law_fault)
    (fun i ε μ => ∃ (h : Nat) (m' : Int) (a11 : Option PV), ε = [a0, some (.dat (.list (iZ lev))), a2, a3, a4, a5, some (.dat (.str w)), a7, some (.ptr 2), some (.dat (.int (h : Int))), some (.dat (.int m')), a11, a12, a13] ∧ μ = lsSt R U ∧ h < n ∧ wk R U lev ((sgs w).drop i) i h m' = wk R U lev (sgs w) 0 s m)
    (fun o => (∃ k, wk R U lev (sgs w) 0 s m = .inl k ∧ o = .rt (.dat (.tuple [.str "sign", .int (k : Int)])) (lsSt R U)) ∨
       ∃ h top a11, wk R U lev (sgs w) 0 s m = .inr (h, top) ∧ o = .nx [a0, some (.dat (.list (iZ lev))), a2, a3, a4, a5, some (.dat (.str w)), a7, some (.ptr 2), some (.dat (.int (h : Int))), some (.dat (.int top)), a11, a12, a13] (lsSt R U))
    ((List.range w.length).map fun i => PV.dat (.int (i : Nat))) (fun _ _ _ _ => rfl) (fun i p ε μ hp hI => by
      obtain ⟨h, m', a11, rfl, rfl, hh, hw⟩ := hI
      have hi : i < w.length := by simpa using (List.getElem?_eq_some_iff.mp hp).1
      have ep : p = .dat (.int (i : Int)) := by simpa [hi] using hp.symm
      subst ep
      have hi' : i < (sgs w).length := by simpa using hi
      rw [wk_drop hi'] at hw
      cases hc : rowOf R U (sgs w)[i] with
      | none =>
        rw [hc] at hw
        exact ⟨_, _, _, rfl, B1_lf_none hi' hwl hok hc _ _ _ _ _ _ _ _ _ _ _ _, .inl ⟨i, hw.symm, rfl⟩⟩
      | some row =>
        rw [hc] at hw
        exact ⟨_, _, _, rfl, B1_lf_some F hl hh hi' hwl hok hc _ _ _ _ _ _ _ _, _, _, _, rfl, rfl, F.nb_lt _ hh _ (rowOf_nb hc h), hw⟩)
    (fun ε μ hI => by
      obtain ⟨h, m', a11, rfl, rfl, hh, hw⟩ := hI
      have e : (sgs w).drop ((List.range w.length).map fun i => PV.dat (.int (i : Nat))).length = [] := List.drop_eq_nil_of_le (by simp)
      rw [e, wk] at hw
      exact .inr ⟨h, m', a11, hw.symm, rfl⟩)
    (ε := [a0, some (.dat (.list (iZ lev))), a2, a3, a4, a5, some (.dat (.str w)), a7, some (.ptr 2), some (.dat (.int (s : Int))), some (.dat (.int m)), a11, a12, a13]) (μ := lsSt R U) ⟨s, m, a11, rfl, rfl, hs, rfl⟩
  obtain ⟨o, e, h⟩ := key
  refine ⟨o, ?_, h⟩
  have c1 : w.length ≤ 1000000 := by omega
  have c2 : w.length ≤ 100000 := by omega
  unfold L1__law_fault sFor
  simpa [okG_none, cap, c1, c2] using e
end CM
namespace CM
open PySem L2 VX
/-! ### the pool gone through -/
abbrev outN (lev : List Int) (L : Int) (N : List Nat) (y : Nat) : Prop := y ∉ N ∧ z0 lev y < L
def scan (R U : List Nat) (lev : List Int) (L : Int) (N : List Nat) : List Nat → Option PyData
  | [] => none
  | x :: r => if z0 lev x ≥ L then some (.tuple [.str "high", .int (x : Int)]) else if ∃ y ∈ nbs4 R U x, outN lev L N y then some (.tuple [.str "leak", .int (x : Int)]) else scan R U lev L N r
theorem scan_drop {R U : List Nat} {lev : List Int} {L : Int} {N M : List Nat} {i : Nat} (hi : i < M.length) : scan R U lev L N (M.drop i) = if z0 lev (g0 M i) ≥ L then some (.tuple [.str "high", .int (g0 M i : Nat)]) else if ∃ y ∈ nbs4 R U (g0 M i), outN lev L N y then some (.tuple [.str "leak", .int (g0 M i : Nat)]) else scan R U lev L N (M.drop (i + 1)) := by
  rw [List.drop_eq_getElem_cons hi, scan, ← g0_of hi]
theorem B2_lpf_eq {lev : List Int} {L : Int} {N row : List Nat} {x n : Nat} (hl : lev.length = n) (hr : row.length = n) (hx : x < n) (hy : g0 row x < n) (μ : Sto) (a0 a2 a3 a4 a6 a8 a9 a10 a11 a12 : Option PV) :
    B2_lowest_pass_fault [a0, some (.dat (.list (iZ lev))), a2, a3, a4, some (.dat (.int L)), a6, some (.dat (.list (iL N))), a8, a9, a10, a11, a12, some (.dat (.int (x : Int))), some (.dat (.list (iL row)))] μ =
      if outN lev L N (g0 row x) then some (.rt (.dat (.tuple [.str "leak", .int (x : Int)])) μ) else some (.nx [a0, some (.dat (.list (iZ lev))), a2, a3, a4, some (.dat (.int L)), a6, some (.dat (.list (iL N))), a8, a9, a10, a11, a12, some (.dat (.int (x : Int))), some (.dat (.list (iL row)))] μ) := by
  have a1 := at_oL (ns := row) (j := x) (by omega)
  have a2 := at_oZ (ns := lev) (j := g0 row x) (by omega)
  by_cases h1 : g0 row x ∈ N
  · simp [B2_lowest_pass_fault, a1, a2, h1, asDats, cap, outN]
  · by_cases h2 : z0 lev (g0 row x) < L
    · simp [B2_lowest_pass_fault, a1, a2, h1, h2, asDats, cap, outN]
    · simp [B2_lowest_pass_fault, a1, a2, h1, h2, asDats, cap, outN]
theorem L2_lpf_eq {R U : List Nat} {lev : List Int} {L : Int} {N : List Nat} {x n : Nat} (F : Flo R U n) (hl : lev.length = n) (hx : x < n) (μ : Sto) (a2 a3 a4 a6 a8 a9 a10 a11 a12 a14 : Option PV) :
    ∃ o, L2_lowest_pass_fault [some (.dat (flo R U)), some (.dat (.list (iZ lev))), a2, a3, a4, some (.dat (.int L)), a6, some (.dat (.list (iL N))), a8, a9, a10, a11, a12, some (.dat (.int (x : Int))), a14] μ = some o ∧
      ((( ∃ y ∈ nbs4 R U x, outN lev L N y) ∧ o = .rt (.dat (.tuple [.str "leak", .int (x : Int)])) μ) ∨
       ((¬ ∃ y ∈ nbs4 R U x, outN lev L N y) ∧ ∃ a12 a14, o = .nx [some (.dat (flo R U)), some (.dat (.list (iZ lev))), a2, a3, a4, some (.dat (.int L)), a6, some (.dat (.list (iL N))), a8, a9, a10, a11, a12, some (.dat (.int (x : Int))), a14] μ)) := by
  have hn := F.small
  have nb := F.nb_lt _ hx
  have n1 := nb (g0 R x) (by simp [nbs4])
  have n2 := nb (g0 (inv R) x) (by simp [nbs4])
  have n3 := nb (g0 U x) (by simp [nbs4])
  have n4 := nb (g0 (inv U) x) (by simp [nbs4])
  have nl := F_near_lists_eq R U (by rw [F.lR]; omega) (by rw [F.lU]; omega) F.oR.low F.oU.low
  have st := fun (row : List Nat) (hr : row.length = n) (hy : g0 row x < n) a12 => B2_lpf_eq (L := L) (N := N) hl hr hx hy μ (some (.dat (flo R U))) a2 a3 a4 a6 a8 a9 a10 a11 a12
  have s1 := st R F.lR n1
  have s2 := st (inv R) (by rw [inv_len]; exact F.lR) n2
  have s3 := st U F.lU n3
  have s4 := st (inv U) (by rw [inv_len]; exact F.lU) n4
  unfold L2_lowest_pass_fault sFor
  by_cases c1 : outN lev L N (g0 R x)
  · refine ⟨_, ?_, .inl ⟨⟨_, by simp [nbs4], c1⟩, rfl⟩⟩
    simp only [if_pos c1] at s1
    simp [asDats, nl, okG_none, forD, s1]
  by_cases c2 : outN lev L N (g0 (inv R) x)
  · refine ⟨_, ?_, .inl ⟨⟨_, by simp [nbs4], c2⟩, rfl⟩⟩
    simp only [if_neg c1] at s1
    simp only [if_pos c2] at s2
    simp [asDats, nl, okG_none, forD, s1, s2]
  by_cases c3 : outN lev L N (g0 U x)
  · refine ⟨_, ?_, .inl ⟨⟨_, by simp [nbs4], c3⟩, rfl⟩⟩
    simp only [if_neg c1] at s1
    simp only [if_neg c2] at s2
    simp only [if_pos c3] at s3
    simp [asDats, nl, okG_none, forD, s1, s2, s3]
  by_cases c4 : outN lev L N (g0 (inv U) x)
  · refine ⟨_, ?_, .inl ⟨⟨_, by simp [nbs4], c4⟩, rfl⟩⟩
    simp only [if_neg c1] at s1
    simp only [if_neg c2] at s2
    simp only [if_neg c3] at s3
    simp only [if_pos c4] at s4
    simp [asDats, nl, okG_none, forD, s1, s2, s3, s4]
  · refine ⟨_, ?_, .inr ⟨?_, some (.dat (.str "d")), some (.dat (.list (iL (inv U)))), rfl⟩⟩
    · simp only [if_neg c1] at s1
      simp only [if_neg c2] at s2
      simp only [if_neg c3] at s3
      simp only [if_neg c4] at s4
      simp [asDats, nl, okG_none, forD, s1, s2, s3, s4]
    · rintro ⟨y, hy, c⟩
      simp only [nbs4, List.mem_cons, List.not_mem_nil, or_false] at hy
      rcases hy with rfl | rfl | rfl | rfl <;> contradiction
theorem L3_lpf_eq {R U : List Nat} {lev : List Int} {L : Int} {N : List Nat} {n : Nat} (F : Flo R U n) (hl : lev.length = n) (hN : ∀ x ∈ N, x < n) (μ : Sto) (a2 a3 a4 a6 a8 a9 a10 a11 a12 a13 a14 : Option PV) :
    ∃ o, L3_lowest_pass_fault [some (.dat (flo R U)), some (.dat (.list (iZ lev))), a2, a3, a4, some (.dat (.int L)), a6, some (.dat (.list (iL N))), a8, a9, a10, a11, a12, a13, a14] μ = some o ∧
      ((∃ v, scan R U lev L N N = some v ∧ o = .rt (.dat v) μ) ∨ (scan R U lev L N N = none ∧ ∃ ε, o = .nx ε μ)) := by
  have key := forD_gen (G := fun _ => true) (tg := tgN 13) (b := B3_lowest_pass_fault)
    (fun i ε μ' => ∃ a12 a13 a14, ε = [some (.dat (flo R U)), some (.dat (.list (iZ lev))), a2, a3, a4, some (.dat (.int L)), a6, some (.dat (.list (iL N))), a8, a9, a10, a11, a12, a13, a14] ∧ μ' = μ ∧ scan R U lev L N (N.drop i) = scan R U lev L N N)
    (fun o => (∃ v, scan R U lev L N N = some v ∧ o = .rt (.dat v) μ) ∨ (scan R U lev L N N = none ∧ ∃ ε, o = .nx ε μ))
    (oL N) (fun _ _ _ _ => rfl) (fun i p ε μ' hp hI => by
      obtain ⟨a12, a13, a14, rfl, rfl, hsc⟩ := hI
      obtain ⟨hi, rfl⟩ := get_oL hp
      have hx := hN _ (g0_mem hi)
      have a1 := at_oZ (ns := lev) (j := g0 N i) (by omega)
      rw [scan_drop hi] at hsc
      by_cases c1 : z0 lev (g0 N i) ≥ L
      · rw [if_pos c1] at hsc
        have c1' : L ≤ z0 lev (g0 N i) := c1
        exact ⟨_, _, .rt (.dat (.tuple [.str "high", .int (g0 N i : Nat)])) μ', rfl, by simp [B3_lowest_pass_fault, a1, c1', asDats, cap], .inl ⟨_, hsc.symm, rfl⟩⟩
      · rw [if_neg c1] at hsc
        have c1' : ¬ L ≤ z0 lev (g0 N i) := c1
        obtain ⟨o, e, h⟩ := L2_lpf_eq (L := L) (N := N) F hl hx μ' a2 a3 a4 a6 a8 a9 a10 a11 a12 a14
        rcases h with ⟨c2, rfl⟩ | ⟨c2, a12', a14', rfl⟩
        · rw [if_pos c2] at hsc
          exact ⟨_, _, .rt (.dat (.tuple [.str "leak", .int (g0 N i : Nat)])) μ', rfl, by simp [B3_lowest_pass_fault, a1, c1', e], .inl ⟨_, hsc.symm, rfl⟩⟩
        · rw [if_neg c2] at hsc
          exact ⟨_, _, .nx [some (.dat (flo R U)), some (.dat (.list (iZ lev))), a2, a3, a4, some (.dat (.int L)), a6, some (.dat (.list (iL N))), a8, a9, a10, a11, a12', some (.dat (.int (g0 N i : Nat))), a14'] μ', rfl, by simp [B3_lowest_pass_fault, a1, c1', e], _, _, _, rfl, rfl, hsc⟩)
    (fun ε μ' hI => by
      obtain ⟨a12, a13, a14, rfl, rfl, hsc⟩ := hI
      rw [List.drop_eq_nil_of_le (by simp), scan] at hsc
      exact .inr ⟨hsc.symm, _, rfl⟩)
    (ε := [some (.dat (flo R U)), some (.dat (.list (iZ lev))), a2, a3, a4, some (.dat (.int L)), a6, some (.dat (.list (iL N))), a8, a9, a10, a11, a12, a13, a14]) (μ := μ) ⟨a12, a13, a14, rfl, rfl, rfl⟩
  obtain ⟨o, e, h⟩ := key
  refine ⟨o, ?_, h⟩
  unfold L3_lowest_pass_fault sFor
  simpa [okG_none] using e
/-! the law's pool -/
def tSgn (R U : List Nat) (lev : List Int) (L : Int) (N : List Nat) (x : Nat) : PV → Bool
  | .dat (.str c) => (match rowOf R U c with | some row => decide (outN lev L N (g0 row x)) | none => false)
  | _ => false
theorem C2_lf_eq {R U : List Nat} {lev : List Int} {L : Int} {N : List Nat} {x n : Nat} (F : Flo R U n) (hl : lev.length = n) (hx : x < n) (a0 a2' a3 a4 a6 a9 a10 a11 a13 : Option PV) :
    ∃ ds, C2__law_fault [a0, some (.dat (.list (iZ lev))), a2', a3, a4, some (.dat (.int L)), a6, some (.dat (.list (iL N))), some (.ptr 2), a9, a10, a11, some (.dat (.int (x : Int))), a13] (lsSt R U) = some (.dat (.list ds), lsSt R U) ∧ (ds.length > 0 ↔ ∃ y ∈ nbs4 R U x, outN lev L N y) := by
  have step : ∀ p ∈ [PV.dat (.str "r"), .dat (.str "l"), .dat (.str "u"), .dat (.str "d")], ∃ ε, tgN 13 p [a0, some (.dat (.list (iZ lev))), a2', a3, a4, some (.dat (.int L)), a6, some (.dat (.list (iL N))), some (.ptr 2), a9, a10, a11, some (.dat (.int (x : Int))), none] (lsSt R U) = some (ε, lsSt R U) ∧
      tsAnd (tsE (eOp (fIn true) (eOp fIx (eDGet (eVar 8) (eVar 13)) (eVar 12)) (eVar 7))) (tsE (eOp fLt (eOp fIx (eVar 1) (eOp fIx (eDGet (eVar 8) (eVar 13)) (eVar 12))) (eVar 5))) ε (lsSt R U) = some (tSgn R U lev L N x p, lsSt R U) ∧ (tSgn R U lev L N x p = true → eVar 13 ε (lsSt R U) = some (id p, lsSt R U)) := by
    intro p hp
    obtain ⟨c, row, rfl, hc⟩ : ∃ c row, p = .dat (.str c) ∧ rowOf R U c = some row := by
      simp only [List.mem_cons, List.not_mem_nil, or_false] at hp
      rcases hp with rfl | rfl | rfl | rfl
      · exact ⟨_, _, rfl, rowOf_r⟩
      · exact ⟨_, _, rfl, rowOf_l⟩
      · exact ⟨_, _, rfl, rowOf_u⟩
      · exact ⟨_, _, rfl, rowOf_d⟩
    refine ⟨_, rfl, ?_, fun _ => rfl⟩
    have e2 := atD_any (eo := eVar 8) (es := eVar 13) (eh := eVar 12) (ε := [a0, some (.dat (.list (iZ lev))), a2', a3, a4, some (.dat (.int L)), a6, some (.dat (.list (iL N))), some (.ptr 2), a9, a10, a11, some (.dat (.int (x : Int))), some (.dat (.str c))]) F hx hc rfl rfl rfl
    have a2 := at_oZ (ns := lev) (j := g0 row x) (by rw [hl]; exact F.nb_lt _ hx _ (rowOf_nb hc x))
    have u : ∀ (f : OpF) (a b : EvF) (ε : Evn) (μ : Sto), eOp f a b ε μ = (a ε μ).bind fun x => (b ε x.2).bind fun y => f x.1 y.1 y.2 := fun _ _ _ _ _ => rfl
    simp only [List.set_cons_succ, List.set_cons_zero]
    have t1 : tsE (eOp (fIn true) (eOp fIx (eDGet (eVar 8) (eVar 13)) (eVar 12)) (eVar 7)) [a0, some (.dat (.list (iZ lev))), a2', a3, a4, some (.dat (.int L)), a6, some (.dat (.list (iL N))), some (.ptr 2), a9, a10, a11, some (.dat (.int (x : Int))), some (.dat (.str c))] (lsSt R U) = some (decide (g0 row x ∉ N), lsSt R U) := by
      unfold tsE
      rw [u, e2]
      by_cases h1 : g0 row x ∈ N
      · simp [h1]
      · simp [h1]
    have t2 : tsE (eOp fLt (eOp fIx (eVar 1) (eOp fIx (eDGet (eVar 8) (eVar 13)) (eVar 12))) (eVar 5)) [a0, some (.dat (.list (iZ lev))), a2', a3, a4, some (.dat (.int L)), a6, some (.dat (.list (iL N))), some (.ptr 2), a9, a10, a11, some (.dat (.int (x : Int))), some (.dat (.str c))] (lsSt R U) = some (decide (z0 lev (g0 row x) < L), lsSt R U) := by
      have v1 : eVar 1 [a0, some (.dat (.list (iZ lev))), a2', a3, a4, some (.dat (.int L)), a6, some (.dat (.list (iL N))), some (.ptr 2), a9, a10, a11, some (.dat (.int (x : Int))), some (.dat (.str c))] (lsSt R U) = some (.dat (.list (iZ lev)), lsSt R U) := rfl
      unfold tsE
      rw [u, u fIx (eVar 1), v1]
      simp only [Option.bind_some]
      rw [e2]
      simp [a2]
    unfold tsAnd
    rw [t1]
    simp only [Option.bind_some]
    by_cases h1 : g0 row x ∈ N
    · simp [-tsE, h1, tSgn, hc, outN]
    · rw [decide_eq_true h1, if_pos rfl, t2]
      simp [h1, tSgn, hc, outN]
  have e := lcD_filter (G := fun _ => true) (tSgn R U lev L N x) id _ step rfl
  have hd : ∃ ds : List PyData, ([PV.dat (.str "r"), .dat (.str "l"), .dat (.str "u"), .dat (.str "d")].filter (tSgn R U lev L N x)).map id = ds.map PV.dat ∧ ds.length ≤ 4 := by
    refine ⟨([PyData.str "r", .str "l", .str "u", .str "d"].filter fun d => tSgn R U lev L N x (.dat d)), ?_, ?_⟩
    · rw [List.map_id]
      show List.filter _ (List.map PV.dat [PyData.str "r", .str "l", .str "u", .str "d"]) = _
      rw [List.filter_map]
      rfl
    · exact List.length_filter_le _ _
  obtain ⟨ds, hd, hlen⟩ := hd
  refine ⟨ds, ?_, ?_⟩
  · unfold C2__law_fault eLc srcSeq eC
    simp only [Option.bind_some, signs4, okG_none, wipeE, List.set_cons_succ, List.set_cons_zero]
    rw [e, hd]
    have c : ds.length ≤ 1000000 := by omega
    simp [cap, c, asDats_map]
  · have hl2 : ds.length = ([PV.dat (.str "r"), .dat (.str "l"), .dat (.str "u"), .dat (.str "d")].filter (tSgn R U lev L N x)).length := by
      have := congrArg List.length hd
      simpa using this.symm
    rw [hl2, gt_iff_lt, List.length_pos_iff_exists_mem]
    constructor
    · rintro ⟨p, hp⟩
      obtain ⟨h1, h2⟩ := List.mem_filter.mp hp
      simp only [List.mem_cons, List.not_mem_nil, or_false] at h1
      rcases h1 with rfl | rfl | rfl | rfl
      · simp only [tSgn, rowOf_r, decide_eq_true_eq] at h2; exact ⟨_, by simp [nbs4], h2⟩
      · simp only [tSgn, rowOf_l, decide_eq_true_eq] at h2; exact ⟨_, by simp [nbs4], h2⟩
      · simp only [tSgn, rowOf_u, decide_eq_true_eq] at h2; exact ⟨_, by simp [nbs4], h2⟩
      · simp only [tSgn, rowOf_d, decide_eq_true_eq] at h2; exact ⟨_, by simp [nbs4], h2⟩
    · rintro ⟨y, hy, h⟩
      simp only [nbs4, List.mem_cons, List.not_mem_nil, or_false] at hy
      rcases hy with rfl | rfl | rfl | rfl
      · exact ⟨.dat (.str "r"), List.mem_filter.mpr ⟨by simp, by simp only [tSgn, rowOf_r]; exact decide_eq_true h⟩⟩
      · exact ⟨.dat (.str "l"), List.mem_filter.mpr ⟨by simp, by simp only [tSgn, rowOf_l]; exact decide_eq_true h⟩⟩
      · exact ⟨.dat (.str "u"), List.mem_filter.mpr ⟨by simp, by simp only [tSgn, rowOf_u]; exact decide_eq_true h⟩⟩
      · exact ⟨.dat (.str "d"), List.mem_filter.mpr ⟨by simp, by simp only [tSgn, rowOf_d]; exact decide_eq_true h⟩⟩
theorem L2_lf_eq {R U : List Nat} {lev : List Int} {L : Int} {N : List Nat} {n : Nat} (F : Flo R U n) (hl : lev.length = n) (hN : ∀ x ∈ N, x < n) (a0 a2 a3 a4 a6 a9 a10 a11 a12 a13 : Option PV) :
    ∃ o, L2__law_fault [a0, some (.dat (.list (iZ lev))), a2, a3, a4, some (.dat (.int L)), a6, some (.dat (.list (iL N))), some (.ptr 2), a9, a10, a11, a12, a13] (lsSt R U) = some o ∧
      ((∃ v, scan R U lev L N N = some v ∧ o = .rt (.dat v) (lsSt R U)) ∨ (scan R U lev L N N = none ∧ ∃ ε, o = .nx ε (lsSt R U))) := by
  have key := forD_gen (G := fun _ => true) (tg := tgN 12) (b := B2__law_fault)
    (fun i ε μ' => ∃ a12, ε = [a0, some (.dat (.list (iZ lev))), a2, a3, a4, some (.dat (.int L)), a6, some (.dat (.list (iL N))), some (.ptr 2), a9, a10, a11, a12, a13] ∧ μ' = lsSt R U ∧ scan R U lev L N (N.drop i) = scan R U lev L N N)
    (fun o => (∃ v, scan R U lev L N N = some v ∧ o = .rt (.dat v) (lsSt R U)) ∨ (scan R U lev L N N = none ∧ ∃ ε, o = .nx ε (lsSt R U)))
    (oL N) (fun _ _ _ _ => rfl) (fun i p ε μ' hp hI => by
      obtain ⟨a12, rfl, rfl, hsc⟩ := hI
      obtain ⟨hi, rfl⟩ := get_oL hp
      have hx := hN _ (g0_mem hi)
      have a1 := at_oZ (ns := lev) (j := g0 N i) (by omega)
      rw [scan_drop hi] at hsc
      by_cases c1 : z0 lev (g0 N i) ≥ L
      · rw [if_pos c1] at hsc
        have c1' : L ≤ z0 lev (g0 N i) := c1
        exact ⟨_, _, .rt (.dat (.tuple [.str "high", .int (g0 N i : Nat)])) (lsSt R U), rfl, by simp [B2__law_fault, a1, c1', asDats, cap], .inl ⟨_, hsc.symm, rfl⟩⟩
      · rw [if_neg c1] at hsc
        have c1' : ¬ L ≤ z0 lev (g0 N i) := c1
        obtain ⟨ds, e, h⟩ := C2_lf_eq (L := L) (N := N) F hl hx a0 a2 a3 a4 a6 a9 a10 a11 a13
        by_cases c2 : ∃ y ∈ nbs4 R U (g0 N i), outN lev L N y
        · rw [if_pos c2] at hsc
          have h' : 0 < ds.length := h.mpr c2
          exact ⟨_, _, .rt (.dat (.tuple [.str "leak", .int (g0 N i : Nat)])) (lsSt R U), rfl, by simp [B2__law_fault, a1, c1', e, h', asDats, cap], .inl ⟨_, hsc.symm, rfl⟩⟩
        · rw [if_neg c2] at hsc
          have h' : ds = [] := by
            cases ds with
            | nil => rfl
            | cons d r => exact absurd (h.mp (by simp)) c2
          subst h'
          exact ⟨_, _, .nx [a0, some (.dat (.list (iZ lev))), a2, a3, a4, some (.dat (.int L)), a6, some (.dat (.list (iL N))), some (.ptr 2), a9, a10, a11, some (.dat (.int (g0 N i : Nat))), a13] (lsSt R U), rfl, by simp [B2__law_fault, a1, c1', e], _, rfl, rfl, hsc⟩)
    (fun ε μ' hI => by
      obtain ⟨a12, rfl, rfl, hsc⟩ := hI
      rw [List.drop_eq_nil_of_le (by simp), scan] at hsc
      exact .inr ⟨hsc.symm, _, rfl⟩)
    (ε := [a0, some (.dat (.list (iZ lev))), a2, a3, a4, some (.dat (.int L)), a6, some (.dat (.list (iL N))), some (.ptr 2), a9, a10, a11, a12, a13]) (μ := lsSt R U) ⟨a12, rfl, rfl, rfl⟩
  obtain ⟨o, e, h⟩ := key
  refine ⟨o, ?_, h⟩
  unfold L2__law_fault sFor
  simpa [okG_none] using e
end CM
namespace CM
open PySem L2 VX
/-! ### the two that look for faults -/
abbrev inR (n : Nat) (x : Int) : Bool := decide (0 ≤ x) && decide (x < (n : Int))
theorem C1_lpf_eq {lev Z : List Int} {n : Nat} (hl : lev.length = n) (hZ : Z.length ≤ 64) (μ : Sto) (a0 a2 a3 a4 a5 a6 a8 a9 a10 a11 a12 a13 a14 : Option PV) :
    C1_lowest_pass_fault [a0, some (.dat (.list (iZ lev))), a2, a3, a4, a5, a6, some (.dat (.list (iZ Z))), a8, a9, a10, a11, a12, a13, a14] μ = some (.dat (.list ((Z.map (inR n)).map fun b => .bool b)), μ) := by
  have e := lcD_map (G := fun _ => true) (tg := tgN 13) (te := eCh fLe fLt (eC (.int 0)) (eVar 13) (eCa fLen (aCons (eVar 1) aNil))) (w := [a0, some (.dat (.list (iZ lev))), a2, a3, a4, a5, a6, some (.dat (.list (iZ Z))), a8, a9, a10, a11, a12, none, a14]) (μ := μ) (fun p => match p with | .dat (.int x) => .dat (.bool (inR n x)) | p => p) (oZ Z) (fun p hp => by
    obtain ⟨x, _, rfl⟩ := List.mem_map.mp hp
    refine ⟨_, rfl, ?_⟩
    by_cases h : (0 : Int) ≤ x
    · simp [h, hl]
    · simp [h]) rfl
  have e2 : (oZ Z).map (fun p => match p with | .dat (.int x) => PV.dat (.bool (inR n x)) | p => p) = ((Z.map (inR n)).map fun b => PyData.bool b).map PV.dat := by
    unfold oZ
    rw [List.map_map, List.map_map, List.map_map]
    rfl
  rw [e2] at e
  have c : Z.length ≤ 1000000 := by omega
  unfold C1_lowest_pass_fault eLc
  simp only [srcSeq, eVar, List.getElem?_cons_succ, List.getElem?_cons_zero, Option.bind_some, wipeE, List.set_cons_succ, List.set_cons_zero, okG_none, map_iZ]
  rw [e]
  simp only [Option.bind_some, mkL, List.length_map, cap, if_pos c, asDats_map, Option.map_some]
  rfl
theorem C1_lf_eq {lev Z : List Int} {n : Nat} (hl : lev.length = n) (hZ : Z.length ≤ 64) (μ : Sto) (a0 a2 a3 a4 a5 a6 a8 a9 a10 a11 a12 a13 : Option PV) :
    C1__law_fault [a0, some (.dat (.list (iZ lev))), a2, a3, a4, a5, a6, some (.dat (.list (iZ Z))), a8, a9, a10, a11, a12, a13] μ = some (.dat (.list (iZ (Z.filter fun x => !inR n x))), μ) := by
  have e := lcD_ints (G := fun _ => true) (tg := tgN 12) (tt := tsNot (tsE (eCh fLe fLt (eC (.int 0)) (eVar 12) (eCa fLen (aCons (eVar 1) aNil))))) (te := eVar 12) (w := [a0, some (.dat (.list (iZ lev))), a2, a3, a4, a5, a6, some (.dat (.list (iZ Z))), a8, a9, a10, a11, none, a13]) (μ := μ) (fun x => !inR n x) Z (fun x hx => by
    refine ⟨_, rfl, ?_, fun _ => by simp⟩
    by_cases h : (0 : Int) ≤ x
    · simp [h, hl]
    · simp [h]) rfl
  have h := List.length_filter_le (fun x => !inR n x) Z
  have c : (Z.filter fun x => !inR n x).length ≤ 1000000 := by omega
  unfold C1__law_fault eLc
  simp only [srcSeq, eVar, List.getElem?_cons_succ, List.getElem?_cons_zero, Option.bind_some, wipeE, List.set_cons_succ, List.set_cons_zero, okG_none, map_iZ]
  rw [e]
  simp only [Option.bind_some, mkL, len_oZ, cap, if_pos c, asDats_oZ, Option.map_some]
  rfl
def PoolFine (n : Nat) (Z : List Int) : Prop := Z = usort Z ∧ ∀ x ∈ Z, 0 ≤ x ∧ x < (n : Int)
open Classical in
noncomputable def faultR (R U : List Nat) (lev : List Int) (n s b : Nat) (L : Int) (Z : List Int) (h : Nat) (top : Int) : PyData :=
  if h ≠ b then .tuple [.str "end"] else if top ≠ L then .tuple [.str "level"] else if ¬ PoolFine n Z then .tuple [.str "pool"]
  else if L = z0 lev s ∨ L = z0 lev b then .none else if (s : Int) ∉ Z ∨ (b : Int) ∈ Z then .tuple [.str "ends"]
  else (scan R U lev L (Z.map Int.toNat) (Z.map Int.toNat)).getD .none
noncomputable def faultV (R U : List Nat) (lev : List Int) (n s b : Nat) (L : Int) (w : Str) (Z : List Int) : PyData :=
  match wk R U lev (sgs w) 0 s (z0 lev s) with
  | .inl k => .tuple [.str "sign", .int (k : Int)]
  | .inr (h, top) => faultR R U lev n s b L Z h top
theorem toNat_Z {n : Nat} {Z : List Int} (h : ∀ x ∈ Z, 0 ≤ x ∧ x < (n : Int)) : toZ (Z.map Int.toNat) = Z ∧ ∀ x ∈ Z.map Int.toNat, x < n := by
  refine ⟨?_, fun x hx => ?_⟩
  · unfold toZ
    rw [List.map_map]
    conv => rhs; rw [← List.map_id Z]
    refine List.map_congr_left fun x hx => ?_
    have := (h x hx).1
    simp only [Function.comp_apply, id]
    omega
  · obtain ⟨y, hy, rfl⟩ := List.mem_map.mp hx
    have := h y hy
    omega
/-- after the word, the program -/
abbrev restP : RnF := (sSeq (sIf (tsE (eOp (fEq true) (eVar 9) (eVar 3))) (sRet (eTup (aCons (eC (.str "end")) (aNil)))) (sNil)) (sSeq (sIf (tsE (eOp (fEq true) (eVar 10) (eVar 5))) (sRet (eTup (aCons (eC (.str "level")) (aNil)))) (sNil)) (sSeq (sIf (tsOr (tsE (eOp (fEq true) (eVar 7) (eSortSet false (aCons (eVar 7) (aNil))))) (tsNot (tsTru (eCa fAll (aCons (C1_lowest_pass_fault) (aNil)))))) (sRet (eTup (aCons (eC (.str "pool")) (aNil)))) (sNil)) (sSeq (sIf (tsOr (tsE (eOp (fEq false) (eVar 5) (eOp fIx (eVar 1) (eVar 2)))) (tsE (eOp (fEq false) (eVar 5) (eOp fIx (eVar 1) (eVar 3))))) (sRet (eC .none)) (sNil)) (sSeq (sIf (tsOr (tsE (eOp (fIn true) (eVar 2) (eVar 7))) (tsE (eOp (fIn false) (eVar 3) (eVar 7)))) (sRet (eTup (aCons (eC (.str "ends")) (aNil)))) (sNil)) (sSeq (L3_lowest_pass_fault) (sRet (eC .none))))))))
theorem all_inR {n : Nat} {Z : List Int} : ((Z.map (inR n)).all id) = decide (∀ x ∈ Z, 0 ≤ x ∧ x < (n : Int)) := by
  induction Z with
  | nil => simp
  | cons x r ih =>
    rw [List.map_cons, List.all_cons, ih]
    simp [inR]
theorem usort_c {Z : List Int} (hZ : Z.length < 64) : (usort Z).length ≤ 1000000 := by have := usort_len Z; omega
theorem t_pool {lev Z : List Int} {n : Nat} (hl : lev.length = n) (hZ : Z.length < 64) (μ : Sto) (a0 a2 a3 a4 a5 a6 a8 a9 a10 a11 a12 a13 a14 : Option PV) :
    ∃ t, tsOr (tsE (eOp (fEq true) (eVar 7) (eSortSet false (aCons (eVar 7) aNil)))) (tsNot (tsTru (eCa fAll (aCons C1_lowest_pass_fault aNil)))) [a0, some (.dat (.list (iZ lev))), a2, a3, a4, a5, a6, some (.dat (.list (iZ Z))), a8, a9, a10, a11, a12, a13, a14] μ = some (t, μ) ∧ (t = true ↔ ¬ PoolFine n Z) := by
  have e := C1_lpf_eq hl (by omega : Z.length ≤ 64) μ a0 a2 a3 a4 a5 a6 a8 a9 a10 a11 a12 a13 a14
  have c := usort_c hZ
  have e2 : ∀ bs : List Bool, asBls ((bs.map fun b => PyData.bool b).map PV.dat) = some bs := by
    intro bs
    rw [List.map_map]
    exact asBls_map bs
  have t1 : tsE (eOp (fEq true) (eVar 7) (eSortSet false (aCons (eVar 7) aNil))) [a0, some (.dat (.list (iZ lev))), a2, a3, a4, a5, a6, some (.dat (.list (iZ Z))), a8, a9, a10, a11, a12, a13, a14] μ = some (decide (Z ≠ usort Z), μ) := by
    simp [hZ, cap, c]
  have t2 : eCa fAll (aCons C1_lowest_pass_fault aNil) [a0, some (.dat (.list (iZ lev))), a2, a3, a4, a5, a6, some (.dat (.list (iZ Z))), a8, a9, a10, a11, a12, a13, a14] μ = some (.dat (.bool (decide (∀ x ∈ Z, 0 ≤ x ∧ x < (n : Int)))), μ) := by
    simp only [eCa, aCons, aNil, e, Option.bind_some, fAll, lstOfS, lstOf, e2, all_inR, Option.map_some]
  refine ⟨decide (Z ≠ usort Z) || !decide (∀ x ∈ Z, 0 ≤ x ∧ x < (n : Int)), ?_, ?_⟩
  · unfold tsOr
    rw [t1]
    by_cases h : Z = usort Z
    · have hd : decide (Z ≠ usort Z) = false := decide_eq_false fun z => z h
      rw [hd]
      simp only [Option.bind_some, Bool.false_eq_true, if_false, Bool.false_or, tsNot, tsTru]
      rw [t2]
      rfl
    · have hd : decide (Z ≠ usort Z) = true := decide_eq_true h
      rw [hd]
      simp
  · unfold PoolFine
    rw [Bool.or_eq_true, decide_eq_true_eq, Bool.not_eq_true', decide_eq_false_iff_not, Classical.not_and_iff_not_or_not]
theorem t_poolL {lev Z : List Int} {n : Nat} (hl : lev.length = n) (hZ : Z.length < 64) (μ : Sto) (a0 a2 a3 a4 a5 a6 a8 a9 a10 a11 a12 a13 : Option PV) :
    ∃ t, tsOr (tsE (eOp (fEq true) (eVar 7) (eSortSet false (aCons (eVar 7) aNil)))) (tsE (eOp fGt (eCa fLen (aCons C1__law_fault aNil)) (eC (.int 0)))) [a0, some (.dat (.list (iZ lev))), a2, a3, a4, a5, a6, some (.dat (.list (iZ Z))), a8, a9, a10, a11, a12, a13] μ = some (t, μ) ∧ (t = true ↔ ¬ PoolFine n Z) := by
  have e := C1_lf_eq hl (by omega : Z.length ≤ 64) μ a0 a2 a3 a4 a5 a6 a8 a9 a10 a11 a12 a13
  have c := usort_c hZ
  have t1 : tsE (eOp (fEq true) (eVar 7) (eSortSet false (aCons (eVar 7) aNil))) [a0, some (.dat (.list (iZ lev))), a2, a3, a4, a5, a6, some (.dat (.list (iZ Z))), a8, a9, a10, a11, a12, a13] μ = some (decide (Z ≠ usort Z), μ) := by
    simp [hZ, cap, c]
  have t2 : tsE (eOp fGt (eCa fLen (aCons C1__law_fault aNil)) (eC (.int 0))) [a0, some (.dat (.list (iZ lev))), a2, a3, a4, a5, a6, some (.dat (.list (iZ Z))), a8, a9, a10, a11, a12, a13] μ = some (decide (0 < (((Z.filter fun x => !inR n x).length : Nat) : Int)), μ) := by
    simp [-inR, e]
  have t3 : decide (0 < (((Z.filter fun x => !inR n x).length : Nat) : Int)) = !decide (∀ x ∈ Z, 0 ≤ x ∧ x < (n : Int)) := by
    by_cases h : ∀ x ∈ Z, 0 ≤ x ∧ x < (n : Int)
    · have : Z.filter (fun x => !inR n x) = [] := List.filter_eq_nil_iff.mpr fun x hx => by simp [inR, h x hx]
      rw [this, decide_eq_true h]
      rfl
    · rw [decide_eq_false h]
      simp only [Bool.not_false, decide_eq_true_eq]
      have ⟨x, hx, hn⟩ : ∃ x ∈ Z, ¬ (0 ≤ x ∧ x < (n : Int)) := by
        refine Classical.byContradiction fun z => h fun x hx => Classical.byContradiction fun z' => z ⟨x, hx, z'⟩
      have : x ∈ Z.filter fun x => !inR n x := List.mem_filter.mpr ⟨hx, by simp only [inR, Bool.not_eq_true', Bool.and_eq_false_iff, decide_eq_false_iff_not]; omega⟩
      have := List.length_pos_of_mem this
      omega
  rw [t3] at t2
  refine ⟨decide (Z ≠ usort Z) || !decide (∀ x ∈ Z, 0 ≤ x ∧ x < (n : Int)), ?_, ?_⟩
  · unfold tsOr
    rw [t1]
    by_cases h : Z = usort Z
    · have hd : decide (Z ≠ usort Z) = false := decide_eq_false fun z => z h
      rw [hd]
      simp only [Option.bind_some, Bool.false_eq_true, if_false, Bool.false_or]
      exact t2
    · have hd : decide (Z ≠ usort Z) = true := decide_eq_true h
      rw [hd]
      simp
  · unfold PoolFine
    rw [Bool.or_eq_true, decide_eq_true_eq, Bool.not_eq_true', decide_eq_false_iff_not, Classical.not_and_iff_not_or_not]
theorem seq_t {t : TsF} {A B C : RnF} {ε : Evn} {μ μ' : Sto} {v : PV} (h : t ε μ = some (true, μ)) (hA : A ε μ = some (.rt v μ')) : sSeq (sIf t A B) C ε μ = some (.rt v μ') := by
  unfold sSeq sIf; rw [h]; simp only [Option.bind_some, if_true, hA]
theorem seq_f {t : TsF} {A C : RnF} {ε : Evn} {μ : Sto} (h : t ε μ = some (false, μ)) : sSeq (sIf t A sNil) C ε μ = C ε μ := by
  unfold sSeq sIf; rw [h]; rfl
theorem seq_nx {A C : RnF} {ε ε' : Evn} {μ μ' : Sto} (h : A ε μ = some (.nx ε' μ')) : sSeq A C ε μ = C ε' μ' := by
  unfold sSeq; rw [h]; rfl
theorem seq_rt {A C : RnF} {ε : Evn} {μ μ' : Sto} {v : PV} (h : A ε μ = some (.rt v μ')) : sSeq A C ε μ = some (.rt v μ') := by
  unfold sSeq; rw [h]; rfl
theorem fnP_rt {m n : Nat} {rn : RnF} {ds : List PyData} {d : PyData} {μ : Sto} (hl : ds.length = n) (h : rn (startE m (ds.map PV.dat)) [] = some (.rt (.dat d) μ)) : fnP m n rn ds = some d := by
  unfold fnP; rw [if_pos hl, h]
theorem fnG_rt {m n : Nat} {rn : RnF} {ps : List PV} {v : PV} {μ μ' : Sto} (hl : ps.length = n) (h : rn (startE m ps) μ = some (.rt v μ')) : fnG m n rn ps μ = some (v, μ') := by
  unfold fnG; rw [if_pos hl, h]
theorem ret_1 (c : Str) (ε : Evn) (μ : Sto) : sRet (eTup (aCons (eC (.str c)) aNil)) ε μ = some (.rt (.dat (.tuple [.str c])) μ) := by simp [asDats, cap]
theorem restP_eq {R U : List Nat} {lev Z : List Int} {s b h n : Nat} {L top : Int} (F : Flo R U n) (hl : lev.length = n) (hs : s < n) (hb : b < n) (hZ : Z.length < 64) (μ : Sto) (a4 a6 a8 a11 a12 a13 a14 : Option PV) :
    restP [some (.dat (flo R U)), some (.dat (.list (iZ lev))), some (.dat (.int (s : Int))), some (.dat (.int (b : Int))), a4, some (.dat (.int L)), a6, some (.dat (.list (iZ Z))), a8, some (.dat (.int (h : Int))), some (.dat (.int top)), a11, a12, a13, a14] μ = some (.rt (.dat (faultR R U lev n s b L Z h top)) μ) := by
  have t1 : tsE (eOp (fEq true) (eVar 9) (eVar 3)) [some (.dat (flo R U)), some (.dat (.list (iZ lev))), some (.dat (.int (s : Int))), some (.dat (.int (b : Int))), a4, some (.dat (.int L)), a6, some (.dat (.list (iZ Z))), a8, some (.dat (.int (h : Int))), some (.dat (.int top)), a11, a12, a13, a14] μ = some (!decide ((h : Int) = (b : Int)), μ) := by simp
  have t2 : tsE (eOp (fEq true) (eVar 10) (eVar 5)) [some (.dat (flo R U)), some (.dat (.list (iZ lev))), some (.dat (.int (s : Int))), some (.dat (.int (b : Int))), a4, some (.dat (.int L)), a6, some (.dat (.list (iZ Z))), a8, some (.dat (.int (h : Int))), some (.dat (.int top)), a11, a12, a13, a14] μ = some (!decide (top = L), μ) := by simp
  obtain ⟨t, t3, ht⟩ := t_pool hl hZ μ (some (.dat (flo R U))) (some (.dat (.int (s : Int)))) (some (.dat (.int (b : Int)))) a4 (some (.dat (.int L))) a6 a8 (some (.dat (.int (h : Int)))) (some (.dat (.int top))) a11 a12 a13 a14
  have as := at_oZ (ns := lev) (j := s) (by omega)
  have ab := at_oZ (ns := lev) (j := b) (by omega)
  have t4 : tsOr (tsE (eOp (fEq false) (eVar 5) (eOp fIx (eVar 1) (eVar 2)))) (tsE (eOp (fEq false) (eVar 5) (eOp fIx (eVar 1) (eVar 3)))) [some (.dat (flo R U)), some (.dat (.list (iZ lev))), some (.dat (.int (s : Int))), some (.dat (.int (b : Int))), a4, some (.dat (.int L)), a6, some (.dat (.list (iZ Z))), a8, some (.dat (.int (h : Int))), some (.dat (.int top)), a11, a12, a13, a14] μ = some (decide (L = z0 lev s ∨ L = z0 lev b), μ) := by
    by_cases c1 : L = z0 lev s
    · simp [as, ab, c1]
    · by_cases c2 : L = z0 lev b
      · simp [as, ab, c1, c2]
      · simp [as, ab, c1, c2]
  have t5 : tsOr (tsE (eOp (fIn true) (eVar 2) (eVar 7))) (tsE (eOp (fIn false) (eVar 3) (eVar 7))) [some (.dat (flo R U)), some (.dat (.list (iZ lev))), some (.dat (.int (s : Int))), some (.dat (.int (b : Int))), a4, some (.dat (.int L)), a6, some (.dat (.list (iZ Z))), a8, some (.dat (.int (h : Int))), some (.dat (.int top)), a11, a12, a13, a14] μ = some (decide ((s : Int) ∉ Z ∨ (b : Int) ∈ Z), μ) := by
    by_cases c1 : (s : Int) ∈ Z
    · by_cases c2 : (b : Int) ∈ Z
      · simp [c1, c2]
      · simp [c1, c2]
    · simp [c1]
  unfold faultR
  by_cases h1 : h = b
  · rw [if_neg (fun z => z h1)]
    rw [decide_eq_true (by omega : (h : Int) = (b : Int))] at t1
    rw [restP, seq_f t1]
    by_cases h2 : top = L
    · rw [if_neg (fun z => z h2)]
      rw [decide_eq_true h2] at t2
      rw [seq_f t2]
      by_cases h3 : PoolFine n Z
      · rw [if_neg (fun z => z h3)]
        have : t = false := by
          cases t with
          | false => rfl
          | true => exact absurd h3 (ht.mp rfl)
        subst this
        rw [seq_f t3]
        by_cases h4 : L = z0 lev s ∨ L = z0 lev b
        · rw [if_pos h4]
          rw [decide_eq_true h4] at t4
          rw [seq_t t4]
          rfl
        · rw [if_neg h4]
          rw [decide_eq_false h4] at t4
          rw [seq_f t4]
          by_cases h5 : (s : Int) ∉ Z ∨ (b : Int) ∈ Z
          · rw [if_pos h5]
            rw [decide_eq_true h5] at t5
            rw [seq_t t5 (ret_1 _ _ _)]
          · rw [if_neg h5]
            rw [decide_eq_false h5] at t5
            rw [seq_f t5]
            obtain ⟨z1, z2⟩ := toNat_Z h3.2
            have z3 : iZ Z = iL (Z.map Int.toNat) := by rw [iL_iZ, z1]
            rw [z3]
            obtain ⟨o, e, hh⟩ := L3_lpf_eq (L := L) (N := Z.map Int.toNat) F hl z2 μ (some (.dat (.int (s : Int)))) (some (.dat (.int (b : Int)))) a4 a6 a8 (some (.dat (.int (h : Int)))) (some (.dat (.int top))) a11 a12 a13 a14
            unfold sSeq
            rw [e]
            rcases hh with ⟨v, hv, rfl⟩ | ⟨hv, ε, rfl⟩
            · rw [hv]; rfl
            · rw [hv]; rfl
      · rw [if_pos h3]
        have : t = true := ht.mpr h3
        subst this
        rw [seq_t t3 (ret_1 _ _ _)]
    · rw [if_pos h2]
      rw [decide_eq_false h2] at t2
      rw [seq_t t2 (ret_1 _ _ _)]
  · rw [if_pos h1]
    rw [decide_eq_false (by omega : ¬ (h : Int) = (b : Int))] at t1
    rw [restP, seq_t t1 (ret_1 _ _ _)]
abbrev restL : RnF := (sSeq (sIf (tsE (eOp (fEq true) (eVar 9) (eVar 3))) (sRet (eTup (aCons (eC (.str "end")) (aNil)))) (sNil)) (sSeq (sIf (tsE (eOp (fEq true) (eVar 10) (eVar 5))) (sRet (eTup (aCons (eC (.str "level")) (aNil)))) (sNil)) (sSeq (sIf (tsOr (tsE (eOp (fEq true) (eVar 7) (eSortSet false (aCons (eVar 7) (aNil))))) (tsE (eOp fGt (eCa fLen (aCons (C1__law_fault) (aNil))) (eC (.int 0))))) (sRet (eTup (aCons (eC (.str "pool")) (aNil)))) (sNil)) (sSeq (sIf (tsE (eOp (fIn false) (eVar 5) (eLst false (aCons (eOp fIx (eVar 1) (eVar 2)) (aCons (eOp fIx (eVar 1) (eVar 3)) (aNil)))))) (sRet (eC .none)) (sNil)) (sSeq (sIf (tsOr (tsE (eOp (fIn true) (eVar 2) (eVar 7))) (tsE (eOp (fIn false) (eVar 3) (eVar 7)))) (sRet (eTup (aCons (eC (.str "ends")) (aNil)))) (sNil)) (sSeq (L2__law_fault) (sRet (eC .none))))))))
theorem restL_eq {R U : List Nat} {lev Z : List Int} {s b h n : Nat} {L top : Int} (F : Flo R U n) (hl : lev.length = n) (hs : s < n) (hb : b < n) (hZ : Z.length < 64) (a4 a6 a11 a12 a13 : Option PV) :
    restL [some (.dat (flo R U)), some (.dat (.list (iZ lev))), some (.dat (.int (s : Int))), some (.dat (.int (b : Int))), a4, some (.dat (.int L)), a6, some (.dat (.list (iZ Z))), some (.ptr 2), some (.dat (.int (h : Int))), some (.dat (.int top)), a11, a12, a13] (lsSt R U) = some (.rt (.dat (faultR R U lev n s b L Z h top)) (lsSt R U)) := by
  generalize hμ : lsSt R U = μ
  have t1 : tsE (eOp (fEq true) (eVar 9) (eVar 3)) [some (.dat (flo R U)), some (.dat (.list (iZ lev))), some (.dat (.int (s : Int))), some (.dat (.int (b : Int))), a4, some (.dat (.int L)), a6, some (.dat (.list (iZ Z))), some (.ptr 2), some (.dat (.int (h : Int))), some (.dat (.int top)), a11, a12, a13] μ = some (!decide ((h : Int) = (b : Int)), μ) := by simp
  have t2 : tsE (eOp (fEq true) (eVar 10) (eVar 5)) [some (.dat (flo R U)), some (.dat (.list (iZ lev))), some (.dat (.int (s : Int))), some (.dat (.int (b : Int))), a4, some (.dat (.int L)), a6, some (.dat (.list (iZ Z))), some (.ptr 2), some (.dat (.int (h : Int))), some (.dat (.int top)), a11, a12, a13] μ = some (!decide (top = L), μ) := by simp
  obtain ⟨t, t3, ht⟩ := t_poolL hl hZ μ (some (.dat (flo R U))) (some (.dat (.int (s : Int)))) (some (.dat (.int (b : Int)))) a4 (some (.dat (.int L))) a6 (some (.ptr 2)) (some (.dat (.int (h : Int)))) (some (.dat (.int top))) a11 a12 a13
  have as := at_oZ (ns := lev) (j := s) (by omega)
  have ab := at_oZ (ns := lev) (j := b) (by omega)
  have t4 : tsE (eOp (fIn false) (eVar 5) (eLst false (aCons (eOp fIx (eVar 1) (eVar 2)) (aCons (eOp fIx (eVar 1) (eVar 3)) (aNil))))) [some (.dat (flo R U)), some (.dat (.list (iZ lev))), some (.dat (.int (s : Int))), some (.dat (.int (b : Int))), a4, some (.dat (.int L)), a6, some (.dat (.list (iZ Z))), some (.ptr 2), some (.dat (.int (h : Int))), some (.dat (.int top)), a11, a12, a13] μ = some (decide (L = z0 lev s ∨ L = z0 lev b), μ) := by
    have e1 : (eLst false (aCons (eOp fIx (eVar 1) (eVar 2)) (aCons (eOp fIx (eVar 1) (eVar 3)) (aNil)))) [some (.dat (flo R U)), some (.dat (.list (iZ lev))), some (.dat (.int (s : Int))), some (.dat (.int (b : Int))), a4, some (.dat (.int L)), a6, some (.dat (.list (iZ Z))), some (.ptr 2), some (.dat (.int (h : Int))), some (.dat (.int top)), a11, a12, a13] μ = some (.dat (.list [.int (z0 lev s), .int (z0 lev b)]), μ) := by
      simp [as, ab, asDats, cap]
    have ez : [PyData.int (z0 lev s), .int (z0 lev b)] = iZ [z0 lev s, z0 lev b] := rfl
    rw [ez] at e1
    have u : ∀ (f : OpF) (a b : EvF) (ε : Evn) (μ : Sto), eOp f a b ε μ = (a ε μ).bind fun x => (b ε x.2).bind fun y => f x.1 y.1 y.2 := fun _ _ _ _ _ => rfl
    have v5 : eVar 5 [some (.dat (flo R U)), some (.dat (.list (iZ lev))), some (.dat (.int (s : Int))), some (.dat (.int (b : Int))), a4, some (.dat (.int L)), a6, some (.dat (.list (iZ Z))), some (.ptr 2), some (.dat (.int (h : Int))), some (.dat (.int top)), a11, a12, a13] μ = some (.dat (.int L), μ) := rfl
    unfold tsE
    rw [u, v5]
    simp only [Option.bind_some]
    rw [e1]
    simp
  have t5 : tsOr (tsE (eOp (fIn true) (eVar 2) (eVar 7))) (tsE (eOp (fIn false) (eVar 3) (eVar 7))) [some (.dat (flo R U)), some (.dat (.list (iZ lev))), some (.dat (.int (s : Int))), some (.dat (.int (b : Int))), a4, some (.dat (.int L)), a6, some (.dat (.list (iZ Z))), some (.ptr 2), some (.dat (.int (h : Int))), some (.dat (.int top)), a11, a12, a13] μ = some (decide ((s : Int) ∉ Z ∨ (b : Int) ∈ Z), μ) := by
    by_cases c1 : (s : Int) ∈ Z
    · by_cases c2 : (b : Int) ∈ Z
      · simp [c1, c2]
      · simp [c1, c2]
    · simp [c1]
  unfold faultR
  by_cases h1 : h = b
  · rw [if_neg (fun z => z h1)]
    rw [decide_eq_true (by omega : (h : Int) = (b : Int))] at t1
    rw [restL, seq_f t1]
    by_cases h2 : top = L
    · rw [if_neg (fun z => z h2)]
      rw [decide_eq_true h2] at t2
      rw [seq_f t2]
      by_cases h3 : PoolFine n Z
      · rw [if_neg (fun z => z h3)]
        have : t = false := by
          cases t with
          | false => rfl
          | true => exact absurd h3 (ht.mp rfl)
        subst this
        rw [seq_f t3]
        by_cases h4 : L = z0 lev s ∨ L = z0 lev b
        · rw [if_pos h4]
          rw [decide_eq_true h4] at t4
          rw [seq_t t4]
          rfl
        · rw [if_neg h4]
          rw [decide_eq_false h4] at t4
          rw [seq_f t4]
          by_cases h5 : (s : Int) ∉ Z ∨ (b : Int) ∈ Z
          · rw [if_pos h5]
            rw [decide_eq_true h5] at t5
            rw [seq_t t5 (ret_1 _ _ _)]
          · rw [if_neg h5]
            rw [decide_eq_false h5] at t5
            rw [seq_f t5]
            obtain ⟨z1, z2⟩ := toNat_Z h3.2
            have z3 : iZ Z = iL (Z.map Int.toNat) := by rw [iL_iZ, z1]
            rw [z3]
            obtain ⟨o, e, hh⟩ := L2_lf_eq (L := L) (N := Z.map Int.toNat) F hl z2 (some (.dat (flo R U))) (some (.dat (.int (s : Int)))) (some (.dat (.int (b : Int)))) a4 a6 (some (.dat (.int (h : Int)))) (some (.dat (.int top))) a11 a12 a13
            subst hμ
            unfold sSeq
            rw [e]
            rcases hh with ⟨v, hv, rfl⟩ | ⟨hv, ε, rfl⟩
            · rw [hv]; rfl
            · rw [hv]; rfl
      · rw [if_pos h3]
        have : t = true := ht.mpr h3
        subst this
        rw [seq_t t3 (ret_1 _ _ _)]
    · rw [if_pos h2]
      rw [decide_eq_false h2] at t2
      rw [seq_t t2 (ret_1 _ _ _)]
  · rw [if_pos h1]
    rw [decide_eq_false (by omega : ¬ (h : Int) = (b : Int))] at t1
    rw [restL, seq_t t1 (ret_1 _ _ _)]
abbrev told (L : Int) (w : Str) (Z : List Int) : PyData := .tuple [.int L, .str w, .list (iZ Z)]
theorem F_lpf_eq {R U : List Nat} {lev Z : List Int} {w : Str} {s b n : Nat} {L : Int} (F : Flo R U n) (hl : lev.length = n) (hs : s < n) (hb : b < n) (hZ : Z.length < 64) :
    F_lowest_pass_fault [flo R U, .list (iZ lev), .int (s : Int), .int (b : Int), told L w Z] = some (faultV R U lev n s b L w Z) := by
  have hn := F.small
  have as := at_oZ (ns := lev) (j := s) (by omega)
  have nl := F_near_lists_eq R U (by rw [F.lR]; omega) (by rw [F.lU]; omega) F.oR.low F.oU.low
  have md : mergeP [] [((.inr "r" : Key), PV.dat (.list (iL R))), (.inr "l", .dat (.list (iL (inv R)))), (.inr "u", .dat (.list (iL U))), (.inr "d", .dat (.list (iL (inv U))))] = dicN R U := merge4 (by decide) (by decide) (by decide) (by decide) (by decide) (by decide)
  obtain ⟨o, e, h⟩ := L1_lpf_eq (w := w) (m := z0 lev s) F hl hs (some (.dat (flo R U))) (some (.dat (.int (s : Int)))) (some (.dat (.int (b : Int)))) (some (.dat (told L w Z))) (some (.dat (.int L))) (some (.dat (.list (iZ Z)))) none none none none
  unfold faultV
  rcases h with ⟨k, hk, rfl⟩ | ⟨h, top, a11, a12, hk, rfl⟩
  · rw [hk]
    simp [F_lowest_pass_fault, r_lowest_pass_fault, asDats, nl, md, as, e, cap]
  · rw [hk]
    have e2 := restP_eq (L := L) (Z := Z) (s := s) (b := b) (h := h) (top := top) F hl hs hb hZ [.dic (dicN R U)] (some (.dat (told L w Z))) (some (.dat (.str w))) (some (.ptr 0)) a11 a12 none none
    refine fnP_rt rfl (μ := [.dic (dicN R U)]) ?_
    have x1 : sAsg (eVar 4) (tgT 3 (tgsCons (tgN 5) (tgsCons (tgN 6) (tgsCons (tgN 7) (tgsNil))))) (startE 15 ([flo R U, .list (iZ lev), .int (s : Int), .int (b : Int), told L w Z].map PV.dat)) [] = some (.nx [some (.dat (flo R U)), some (.dat (.list (iZ lev))), some (.dat (.int (s : Int))), some (.dat (.int (b : Int))), some (.dat (told L w Z)), some (.dat (.int L)), some (.dat (.str w)), some (.dat (.list (iZ Z))), none, none, none, none, none, none, none] []) := rfl
    have x2 : sSet 8 (eDicT 1 F_near_lists (aCons (eVar 0) (aNil))) [some (.dat (flo R U)), some (.dat (.list (iZ lev))), some (.dat (.int (s : Int))), some (.dat (.int (b : Int))), some (.dat (told L w Z)), some (.dat (.int L)), some (.dat (.str w)), some (.dat (.list (iZ Z))), none, none, none, none, none, none, none] [] = some (.nx [some (.dat (flo R U)), some (.dat (.list (iZ lev))), some (.dat (.int (s : Int))), some (.dat (.int (b : Int))), some (.dat (told L w Z)), some (.dat (.int L)), some (.dat (.str w)), some (.dat (.list (iZ Z))), some (.ptr 0), none, none, none, none, none, none] [.dic (dicN R U)]) := by
      simp [asDats, nl, md, cap]
    have x3 : sSet 9 (eVar 2) [some (.dat (flo R U)), some (.dat (.list (iZ lev))), some (.dat (.int (s : Int))), some (.dat (.int (b : Int))), some (.dat (told L w Z)), some (.dat (.int L)), some (.dat (.str w)), some (.dat (.list (iZ Z))), some (.ptr 0), none, none, none, none, none, none] [.dic (dicN R U)] = some (.nx [some (.dat (flo R U)), some (.dat (.list (iZ lev))), some (.dat (.int (s : Int))), some (.dat (.int (b : Int))), some (.dat (told L w Z)), some (.dat (.int L)), some (.dat (.str w)), some (.dat (.list (iZ Z))), some (.ptr 0), some (.dat (.int (s : Int))), none, none, none, none, none] [.dic (dicN R U)]) := rfl
    have x4 : sSet 10 (eOp fIx (eVar 1) (eVar 2)) [some (.dat (flo R U)), some (.dat (.list (iZ lev))), some (.dat (.int (s : Int))), some (.dat (.int (b : Int))), some (.dat (told L w Z)), some (.dat (.int L)), some (.dat (.str w)), some (.dat (.list (iZ Z))), some (.ptr 0), some (.dat (.int (s : Int))), none, none, none, none, none] [.dic (dicN R U)] = some (.nx [some (.dat (flo R U)), some (.dat (.list (iZ lev))), some (.dat (.int (s : Int))), some (.dat (.int (b : Int))), some (.dat (told L w Z)), some (.dat (.int L)), some (.dat (.str w)), some (.dat (.list (iZ Z))), some (.ptr 0), some (.dat (.int (s : Int))), some (.dat (.int (z0 lev s))), none, none, none, none] [.dic (dicN R U)]) := by
      simp [as]
    rw [r_lowest_pass_fault, seq_nx x1, seq_nx x2, seq_nx x3, seq_nx x4, seq_nx e]
    exact e2
theorem F_lf_eq {R U : List Nat} {lev Z : List Int} {w : Str} {s b n : Nat} {L : Int} (F : Flo R U n) (hl : lev.length = n) (hs : s < n) (hb : b < n) (hZ : Z.length < 64) (hwl : w.length ≤ 1000) (hok : WOk w) :
    F__law_fault [flo R U, .list (iZ lev), .int (s : Int), .int (b : Int), told L w Z] = some (faultV R U lev n s b L w Z) := by
  have hn := F.small
  have as := at_oZ (ns := lev) (j := s) (by omega)
  have ll := F__law_lists_eq F
  obtain ⟨o, e, h⟩ := L1_lf_eq (w := w) (m := z0 lev s) F hl hs hwl hok (some (.dat (flo R U))) (some (.dat (.int (s : Int)))) (some (.dat (.int (b : Int)))) (some (.dat (told L w Z))) (some (.dat (.int L))) (some (.dat (.list (iZ Z)))) none none none
  have x1 : sAsg (eVar 4) (tgT 3 (tgsCons (tgN 5) (tgsCons (tgN 6) (tgsCons (tgN 7) (tgsNil))))) (startE 14 ([flo R U, .list (iZ lev), .int (s : Int), .int (b : Int), told L w Z].map PV.dat)) [] = some (.nx [some (.dat (flo R U)), some (.dat (.list (iZ lev))), some (.dat (.int (s : Int))), some (.dat (.int (b : Int))), some (.dat (told L w Z)), some (.dat (.int L)), some (.dat (.str w)), some (.dat (.list (iZ Z))), none, none, none, none, none, none] []) := rfl
  have x2 : sAsgT 3 (aCons (eCallG 1 F__law_lists (aCons (eVar 0) (aNil))) (aCons (eVar 2) (aCons (eOp fIx (eVar 1) (eVar 2)) (aNil)))) (tgsCons (tgN 8) (tgsCons (tgN 9) (tgsCons (tgN 10) (tgsNil)))) [some (.dat (flo R U)), some (.dat (.list (iZ lev))), some (.dat (.int (s : Int))), some (.dat (.int (b : Int))), some (.dat (told L w Z)), some (.dat (.int L)), some (.dat (.str w)), some (.dat (.list (iZ Z))), none, none, none, none, none, none] [] = some (.nx [some (.dat (flo R U)), some (.dat (.list (iZ lev))), some (.dat (.int (s : Int))), some (.dat (.int (b : Int))), some (.dat (told L w Z)), some (.dat (.int L)), some (.dat (.str w)), some (.dat (.list (iZ Z))), some (.ptr 2), some (.dat (.int (s : Int))), some (.dat (.int (z0 lev s))), none, none, none] (lsSt R U)) := by
    simp [ll, as, cap]
  unfold faultV
  rcases h with ⟨k, hk, rfl⟩ | ⟨h, top, a11, hk, rfl⟩
  · rw [hk]
    refine fnP_rt rfl (μ := lsSt R U) ?_
    rw [r__law_fault, seq_nx x1, seq_nx x2, seq_rt e]
  · rw [hk]
    have e2 := restL_eq (L := L) (Z := Z) (s := s) (b := b) (h := h) (top := top) F hl hs hb hZ (some (.dat (told L w Z))) (some (.dat (.str w))) a11 none none
    refine fnP_rt rfl (μ := lsSt R U) ?_
    rw [r__law_fault, seq_nx x1, seq_nx x2, seq_nx e]
    exact e2
end CM
namespace CM
open PySem L2 VX
/-! ### what lowest_pass tells has no fault -/
theorem scan_none {R U : List Nat} {lev : List Int} {L : Int} {N : List Nat} : ∀ M : List Nat, (∀ x ∈ M, z0 lev x < L ∧ ∀ y ∈ nbs4 R U x, ¬ outN lev L N y) → scan R U lev L N M = none
  | [], _ => rfl
  | x :: r, h => by
    obtain ⟨h1, h2⟩ := h x List.mem_cons_self
    rw [scan, if_neg (by omega), if_neg (fun ⟨y, hy, c⟩ => h2 y hy c)]
    exact scan_none r fun y hy => h y (List.mem_cons_of_mem _ hy)
theorem rowOf_ok {R U row : List Nat} {c : Str} (h : rowOf R U c = some row) : PyData.strOk c = true := by
  unfold rowOf at h
  split at h
  · rename_i q; subst q; exact ok_r
  · split at h
    · rename_i q; subst q; exact ok_l
    · split at h
      · rename_i q; subst q; exact ok_u
      · split at h
        · rename_i q; subst q; exact ok_d
        · cases h
theorem wk_ok {R U : List Nat} {lev : List Int} : ∀ (cs : List Str) {k h : Nat} {m : Int} {r : Nat × Int}, wk R U lev cs k h m = .inr r → ∀ c ∈ cs, PyData.strOk c = true
  | [], _, _, _, _, _, c, hc => by cases hc
  | c' :: cs, k, h, m, r, e, c, hc => by
    simp only [wk] at e
    split at e
    · cases e
    · rename_i row hr
      rcases List.mem_cons.mp hc with rfl | hc
      · exact rowOf_ok hr
      · exact wk_ok cs e c hc
theorem Told.wok {R U : List Nat} {lev Z : List Int} {s b : Nat} {L : Int} {w : Str} (h : Told R U lev s b L w Z) : WOk w := by
  obtain ⟨top, e, _⟩ := h.word
  exact wk_ok _ e
theorem Told.zlen {R U : List Nat} {lev Z : List Int} {s b n : Nat} {L : Int} {w : Str} (F : Flo R U n) (hs : s < n) (h : Told R U lev s b L w Z) : Z.length ≤ n ∧ (∀ x ∈ Z, 0 ≤ x ∧ x < (n : Int)) ∧ Z.Pairwise (· < ·) := by
  have hn := F.small
  rcases h.pool with ⟨rfl, _⟩ | ⟨m, _, _, _, hp⟩
  · exact ⟨Nat.zero_le _, (fun x hx => by cases hx), List.Pairwise.nil⟩
  · have hb : ∀ x ∈ Z, 0 ≤ x ∧ x < (n : Int) := fun x hx => by
      obtain ⟨y, rfl, r⟩ := (hp.mem x).mp hx
      have := r.lt hs F.nb_lt
      omega
    refine ⟨?_, hb, hp.up⟩
    obtain ⟨z1, z2⟩ := toNat_Z hb
    have nd : (Z.map Int.toNat).Nodup := by
      refine List.pairwise_map.mpr ((List.Pairwise.and_mem.mp hp.up).imp ?_)
      rintro x y ⟨hx, hy, hlt⟩ z
      have := hb x hx
      have := hb y hy
      omega
    have := nodup_len n _ nd z2
    simp at this
    omega
theorem fault_told {R U : List Nat} {lev Z : List Int} {s b n : Nat} {L : Int} {w : Str} (F : Flo R U n) (hl : lev.length = n) (hs : s < n) (hb : b < n) (h : Told R U lev s b L w Z) : faultV R U lev n s b L w Z = .none := by
  obtain ⟨top, e, ht⟩ := h.word
  have hsm : z0 lev s ∈ lev := z0_mem (by omega)
  have r1 := (wk_rc (s := s) _ (.refl (by simp)) e).2
  have r2 := (wk_top F hl _ hs hsm e).1
  have et : top = L := by
    rcases Int.lt_or_eq_of_le ht with c | c
    · exact absurd r1 (h.low.min top r2 c)
    · exact c
  subst et
  unfold faultV
  rw [e]
  show faultR R U lev n s b top Z b top = .none
  obtain ⟨_, hz, hup⟩ := h.zlen F hs
  unfold faultR
  rw [if_neg (fun z => z rfl), if_neg (fun z => z rfl), if_neg (fun z => z ⟨strict_uniq hup usort_sorted fun x => mem_usort.symm, hz⟩)]
  by_cases h4 : top = z0 lev s ∨ top = z0 lev b
  · rw [if_pos h4]
  rw [if_neg h4]
  have hlt : z0 lev s < top := by
    have : z0 lev s ≤ top := of_decide_eq_true h.low.rc.ok0
    have : z0 lev s ≠ top := fun z => h4 (.inl z.symm)
    omega
  rcases h.pool with ⟨rfl, hno⟩ | ⟨m, hm, hmL, hmax, hp⟩
  · exact absurd hlt (hno _ hsm)
  · have hsZ : (s : Int) ∈ Z := (hp.mem _).mpr ⟨s, rfl, .refl (decide_eq_true (hmax _ hsm hlt))⟩
    have hbZ : (b : Int) ∉ Z := fun z => by
      obtain ⟨x, ex, r⟩ := (hp.mem _).mp z
      have : b = x := by omega
      subst this
      exact h.low.min m hm hmL r
    rw [if_neg (fun z => z.elim (fun z => z hsZ) hbZ)]
    obtain ⟨z1, z2⟩ := toNat_Z hz
    have inN : ∀ x : Nat, x ∈ Z.map Int.toNat ↔ Rc (nbs4 R U) (okL lev m) s x := by
      intro x
      rw [← mem_toZ, z1, hp.mem]
      exact ⟨fun ⟨y, ey, r⟩ => by rwa [show x = y by omega], fun r => ⟨x, rfl, r⟩⟩
    rw [scan_none]
    · rfl
    · intro x hx
      have r := (inN x).mp hx
      have : z0 lev x ≤ m := of_decide_eq_true r.ok
      refine ⟨by omega, fun y hy c => c.1 ((inN y).mpr (.step r hy (decide_eq_true (hmax _ (z0_mem ?_) c.2))))⟩
      rw [hl]
      exact F.nb_lt _ (r.lt hs F.nb_lt) _ hy
end CM
namespace CM
open PySem L2 VX
/-! ### the script read -/
structure StA (μ : Sto) (p q : Nat) : Prop where
  ne : p ≠ q
  ex : ∃ (cs : List Int) (a : Int), μ[p]? = some (.lst [.dat (.int a), .ptr q]) ∧ μ[q]? = some (.lst (oZ cs)) ∧ cs ≠ [] ∧ cs.length ≤ 63
/-- all but p and q stays -/
structure Fr (p q : Nat) (μ μ' : Sto) : Prop where
  len : μ'.length = μ.length
  at' : ∀ k, k ≠ p → k ≠ q → μ'[k]? = μ[k]?
theorem Fr.refl (p q : Nat) (μ : Sto) : Fr p q μ μ := ⟨rfl, fun _ _ _ => rfl⟩
theorem Fr.trans {p q : Nat} {μ μ' μ'' : Sto} (h : Fr p q μ μ') (h' : Fr p q μ' μ'') : Fr p q μ μ'' := ⟨h'.len.trans h.len, fun k h1 h2 => (h'.at' k h1 h2).trans (h.at' k h1 h2)⟩
@[simp] theorem oZ_set (ns : List Int) (i : Nat) (n : Int) : (oZ ns).set i (PV.dat (.int n)) = oZ (ns.set i n) := by
  unfold oZ
  rw [List.map_set]
theorem F__law_take_eq {μ : Sto} {p q : Nat} (h : StA μ p q) {most : Nat} (h1 : 0 < most) (h2 : most ≤ 1000) :
    ∃ (v : Nat) (μ' : Sto), F__law_take [.ptr p, .dat (.int (most : Int))] μ = some (.dat (.int (v : Int)), μ') ∧ v < most ∧ StA μ' p q ∧ Fr p q μ μ' := by
  obtain ⟨cs, a, hp, hq, hne, hlen⟩ := h.ex
  have hpl : p < μ.length := (List.getElem?_eq_some_iff.mp hp).1
  have hql : q < μ.length := (List.getElem?_eq_some_iff.mp hq).1
  have hc0 : 0 < cs.length := List.length_pos_iff.mpr hne
  have hnn : 0 ≤ a % (cs.length : Int) := Int.emod_nonneg _ (by omega)
  have hlt : a % (cs.length : Int) < (cs.length : Int) := Int.emod_lt_of_pos _ (by omega)
  obtain ⟨j, ej⟩ : ∃ j : Nat, a % (cs.length : Int) = (j : Int) := ⟨(a % (cs.length : Int)).toNat, by omega⟩
  have hj : j < cs.length := by omega
  have aj := at_oZ hj
  have m1 : (0 : Int) < (most : Int) := by omega
  have m2 : (most : Int) < 1073741824 := by omega
  have emz : ∀ z : Int, ∃ v : Nat, z % (most : Int) = (v : Int) ∧ v < most := fun z => by
    have := Int.emod_nonneg z (b := (most : Int)) (by omega)
    have := Int.emod_lt_of_pos z m1
    exact ⟨(z % (most : Int)).toNat, by omega, by omega⟩
  by_cases hc : (1000000000000000000 : Int) ≤ z0 cs j
  · obtain ⟨v, ev, hv⟩ := emz (z0 cs j)
    refine ⟨v, μ.set q (.lst (oZ (cs.set j (z0 cs j / (most : Int))))), ?_, hv, ⟨h.ne, cs.set j (z0 cs j / (most : Int)), a, ?_, ?_, ?_, by simpa using hlen⟩, ⟨by simp, fun k k1 k2 => ?_⟩⟩
    · simp [F__law_take, r__law_take, hp, hq, ej, aj, hc, h1, m2, ev, hc0, ixN_natD hj]
    · rw [List.getElem?_set_ne (fun z => h.ne z.symm)]; exact hp
    · simp [hql]
    · intro z; rw [List.set_eq_nil_iff] at z; exact hne z
    · rw [List.getElem?_set_ne (fun z => k2 z.symm)]
  · obtain ⟨v, ev, hv⟩ := emz (((z0 cs j * 48271 + (a + 1) * 69621) % 2147483647 * 16807 + (a + 1) * 7919) % 1000000007 / 7)
    have sp : (μ.set p (.lst [.dat (.int (a + 1)), .ptr q]))[p]? = some (.lst [.dat (.int (a + 1)), .ptr q]) := by simp [hpl]
    refine ⟨v, μ.set p (.lst [.dat (.int (a + 1)), .ptr q]), ?_, hv, ⟨h.ne, cs, a + 1, ?_, ?_, hne, hlen⟩, ⟨by simp, fun k k1 k2 => ?_⟩⟩
    · simp [F__law_take, r__law_take, hp, hq, ej, aj, hc, h1, m2, ev, hc0, sp, inMul, inB, ixN]
    · simp [hpl]
    · rw [List.getElem?_set_ne h.ne]; exact hq
    · rw [List.getElem?_set_ne (fun z => k1 z.symm)]
end CM
namespace CM
open PySem L2 VX
theorem cutP_take (ns : List Int) (k : Nat) : cutP (oZ ns) none (some (k : Int)) = oZ (ns.take k) := by
  unfold cutP
  rw [HT.sIx_none, HT.sIx_nat]
  simp only [len_oZ, Nat.sub_zero, List.drop_zero]
  unfold oZ
  rw [← List.map_take]
  by_cases h : k ≤ ns.length
  · rw [Nat.min_eq_left h]
  · rw [Nat.min_eq_right (by omega), List.take_of_length_le (by omega : ns.length ≤ k), List.take_of_length_le (Nat.le_refl _)]
theorem F__law_state_eq {ns : List Int} (h : ns.length ≤ 63) : ∃ p q μ, F__law_state [.scr ns] [] = some (.ptr p, μ) ∧ StA μ p q := by
  have e := lcD_map (G := fun _ => true) (tg := tgN 2) (te := eCa fAbs (aCons (eVar 2) aNil)) (w := [some (.scr ns), none, none]) (μ := []) (fun p => match p with | .dat (.int x) => .dat (.int (if x < 0 then -x else x)) | p => p) (oZ (ns.take 63)) (fun p hp => by
    obtain ⟨x, _, rfl⟩ := List.mem_map.mp hp
    exact ⟨_, rfl, by simp⟩) rfl
  have e2 : (oZ (ns.take 63)).map (fun p => match p with | .dat (.int x) => PV.dat (.int (if x < 0 then -x else x)) | p => p) = oZ ((ns.take 63).map fun x => if x < 0 then -x else x) := by
    unfold oZ
    rw [List.map_map, List.map_map]
    rfl
  rw [e2] at e
  generalize hcs : ((ns.take 63).map fun x => if x < 0 then -x else x) = cs at e
  have hl : cs.length ≤ 63 := by rw [← hcs, List.length_map]; exact List.length_take_le _ _
  have ht : (ns.take 63).length ≤ 1000000 := by have := List.length_take_le 63 ns; omega
  have hc : cutP (oZ ns) none (some 63) = oZ (ns.take 63) := cutP_take ns 63
  have c1 : C1__law_state [some (.scr ns), none, none] [] = some (.ptr 0, [.lst (oZ cs)]) := by
    have s1 : srcSeq (eSl false (eVar 0) poN (poE (eC (.int 63)))) [some (.scr ns), none, none] [] = some ((oZ (ns.take 63), none), []) := by
      simp [-List.length_take, cap, ht, hc]
    have c : cs.length ≤ 1000000 := by omega
    unfold C1__law_state eLc
    rw [s1]
    simp only [Option.bind_some, okG_none, wipeE, List.set_cons_succ, List.set_cons_zero]
    rw [e]
    simp [cap, c]
  cases cs with
  | nil =>
    refine ⟨2, 1, [.lst [], .lst [.dat (.int 0)], .lst [.dat (.int 0), .ptr 1]], ?_, by decide, [0], 0, rfl, rfl, by simp, by decide⟩
    rw [show oZ [] = [] from rfl] at c1
    simp [F__law_state, r__law_state, c1, cap]
  | cons x r =>
    refine ⟨1, 0, [.lst (oZ (x :: r)), .lst [.dat (.int 0), .ptr 0]], ?_, by decide, x :: r, 0, rfl, rfl, by simp, hl⟩
    have hne : ¬ ((r.length : Int) + 1 = 0) := by omega
    simp [F__law_state, r__law_state, c1, cap, hne]
/-! ### a square put in -/
def insN (R : List Nat) (x : Nat) : List Nat := if x < R.length then ((R ++ [R.length]).set R.length (g0 R x)).set x R.length else R ++ [R.length]
@[simp] theorem insN_len (R : List Nat) (x : Nat) : (insN R x).length = R.length + 1 := by unfold insN; split <;> simp
theorem insN_old {R : List Nat} {x j : Nat} (hj : j < R.length) : g0 (insN R x) j = if x = j then R.length else g0 R j := by
  unfold insN
  by_cases h : x < R.length
  · rw [if_pos h, g0_set (by simp; omega)]
    by_cases e : x = j
    · rw [if_pos e, if_pos e]
    · rw [if_neg e, if_neg e, g0_set (by simp; omega), if_neg (by omega), g0_app hj]
  · rw [if_neg h, if_neg (by omega), g0_app hj]
theorem insN_new {R : List Nat} {x : Nat} : g0 (insN R x) R.length = if x < R.length then g0 R x else R.length := by
  unfold insN
  by_cases h : x < R.length
  · rw [if_pos h, if_pos h, g0_set (by simp), if_neg (by omega), g0_set (by simp), if_pos rfl]
  · rw [if_neg h, if_neg h]
    rw [g0_of (by simp)]
    simp
theorem insN_ord {R : List Nat} (o : Ord R) (x : Nat) : Ord (insN R x) := by
  have lowR : ∀ j, j < R.length → g0 R j < R.length := o.low
  refine ord_of (fun j h => ?_) fun i j hi hj e => ?_
  · rw [insN_len] at h ⊢
    by_cases hj : j < R.length
    · rw [insN_old hj]
      have := lowR j hj
      split <;> omega
    · have : j = R.length := by omega
      subst this
      rw [insN_new]
      split
      · have := lowR x (by assumption); omega
      · omega
  · rw [insN_len] at hi hj
    by_cases h1 : i < R.length
    · by_cases h2 : j < R.length
      · rw [insN_old h1, insN_old h2] at e
        have a := lowR i h1
        have b := lowR j h2
        by_cases c1 : x = i
        · by_cases c2 : x = j
          · omega
          · rw [if_pos c1, if_neg c2] at e; omega
        · by_cases c2 : x = j
          · rw [if_neg c1, if_pos c2] at e; omega
          · rw [if_neg c1, if_neg c2] at e; exact o.inj h1 h2 e
      · have : j = R.length := by omega
        subst this
        rw [insN_old h1, insN_new] at e
        have a := lowR i h1
        by_cases c1 : x = i
        · rw [if_pos c1, if_pos (by omega)] at e
          have b := lowR x (by omega)
          omega
        · rw [if_neg c1] at e
          split at e
          · have := o.inj h1 (by assumption) e; omega
          · omega
    · have : i = R.length := by omega
      subst this
      by_cases h2 : j < R.length
      · rw [insN_old h2, insN_new] at e
        have a := lowR j h2
        by_cases c1 : x = j
        · rw [if_pos c1, if_pos (by omega)] at e
          have b := lowR x (by omega)
          omega
        · rw [if_neg c1] at e
          split at e
          · have := o.inj (by assumption) h2 e; omega
          · omega
      · omega
theorem insN_flo {R U : List Nat} {n x y : Nat} (F : Flo R U n) (hn : n + 1 ≤ 60) : Flo (insN R x) (insN U y) (n + 1) :=
  ⟨by rw [insN_len, F.lR], by rw [insN_len, F.lU], insN_ord F.oR x, insN_ord F.oU y, hn⟩
theorem hang_ins {R U : List Nat} {n x y : Nat} (F : Flo R U n) (C : Hang R U n) (hn : n + 1 ≤ 60) (hx : x < n ∨ y < n) : Hang (insN R x) (insN U y) (n + 1) := by
  have F' := insN_flo (x := x) (y := y) F hn
  have sym : ∀ {a b : Nat}, a < n + 1 → Rc (nbs4 (insN R x) (insN U y)) (fun _ => true) a b → Rc (nbs4 (insN R x) (insN U y)) (fun _ => true) b a := fun ha r => r.symm ha F'.nb_lt F'.nb_symm
  have one : ∀ {a b : Nat}, b ∈ nbs4 (insN R x) (insN U y) a → Rc (nbs4 (insN R x) (insN U y)) (fun _ => true) a b := fun hb => .step (.refl rfl) hb rfl
  have sR : ∀ a, g0 (insN R x) a ∈ nbs4 (insN R x) (insN U y) a := fun a => by simp [nbs4]
  have sU : ∀ a, g0 (insN U y) a ∈ nbs4 (insN R x) (insN U y) a := fun a => by simp [nbs4]
  have eR : ∀ a, a < n → Rc (nbs4 (insN R x) (insN U y)) (fun _ => true) a (g0 R a) := by
    intro a ha
    have h1 := insN_old (R := R) (x := x) (j := a) (by rw [F.lR]; exact ha)
    by_cases e : x = a
    · rw [if_pos e] at h1
      have h2 := insN_new (R := R) (x := x)
      rw [if_pos (by rw [F.lR]; omega), e] at h2
      have s1 := one (sR a)
      have s2 := one (sR R.length)
      rw [e] at s1 s2
      rw [e] at h1
      rw [h1] at s1
      rw [h2] at s2
      rw [e]
      exact s1.trans s2
    · rw [if_neg e] at h1
      have s1 := one (sR a)
      rw [h1] at s1
      exact s1
  have eU : ∀ a, a < n → Rc (nbs4 (insN R x) (insN U y)) (fun _ => true) a (g0 U a) := by
    intro a ha
    have h1 := insN_old (R := U) (x := y) (j := a) (by rw [F.lU]; exact ha)
    by_cases e : y = a
    · rw [if_pos e] at h1
      have h2 := insN_new (R := U) (x := y)
      rw [if_pos (by rw [F.lU]; omega), e] at h2
      have s1 := one (sU a)
      have s2 := one (sU U.length)
      rw [e] at s1 s2
      rw [e] at h1
      rw [h1] at s1
      rw [h2] at s2
      rw [e]
      exact s1.trans s2
    · rw [if_neg e] at h1
      have s1 := one (sU a)
      rw [h1] at s1
      exact s1
  have old : ∀ {a b : Nat}, a < n → Rc (nbs4 R U) (fun _ => true) a b → Rc (nbs4 (insN R x) (insN U y)) (fun _ => true) a b := by
    intro a b ha r
    induction r with
    | refl => exact .refl rfl
    | @step b c r m _ ih =>
      have hb := r.lt ha F.nb_lt
      refine ih.trans ?_
      simp only [nbs4, List.mem_cons, List.not_mem_nil, or_false] at m
      rcases m with rfl | rfl | rfl | rfl
      · exact eR b hb
      · obtain ⟨h1, h2⟩ := at_inv F.oR (x := b) (by rw [F.lR]; exact hb)
        have h2' : g0 (inv R) b < n := by rw [← F.lR]; exact h2
        have := eR _ h2'
        rw [h1] at this
        exact sym (by omega) this
      · exact eU b hb
      · obtain ⟨h1, h2⟩ := at_inv F.oU (x := b) (by rw [F.lU]; exact hb)
        have h2' : g0 (inv U) b < n := by rw [← F.lU]; exact h2
        have := eU _ h2'
        rw [h1] at this
        exact sym (by omega) this
  obtain ⟨z, hz, rz⟩ : ∃ z, z < n ∧ Rc (nbs4 (insN R x) (insN U y)) (fun _ => true) z n := by
    rcases hx with h | h
    · refine ⟨x, h, ?_⟩
      have h1 := insN_old (R := R) (x := x) (j := x) (by rw [F.lR]; exact h)
      rw [if_pos rfl, F.lR] at h1
      have := one (sR x)
      rw [h1] at this
      exact this
    · refine ⟨y, h, ?_⟩
      have h1 := insN_old (R := U) (x := y) (j := y) (by rw [F.lU]; exact h)
      rw [if_pos rfl, F.lU] at h1
      have := one (sU y)
      rw [h1] at this
      exact this
  have toZ' : ∀ a, a < n + 1 → Rc (nbs4 (insN R x) (insN U y)) (fun _ => true) a z := by
    intro a ha
    by_cases h : a < n
    · exact old h (C a z h hz)
    · have : a = n := by omega
      subst this
      exact sym (by omega) rz
  intro a b ha hb
  exact (toZ' a ha).trans (sym hb (toZ' b hb))
end CM
namespace CM
open PySem L2 VX
/-! ### the floor put together -/
theorem seq_nx' {A C : RnF} {ε ε' : Evn} {μ μ' : Sto} {o : Out} (h : A ε μ = some (.nx ε' μ')) (h' : C ε' μ' = some o) : sSeq A C ε μ = some o := by rw [seq_nx h, h']
theorem StA.fr {μ μ' : Sto} {p q : Nat} (h : StA μ p q) (hp : μ'[p]? = μ[p]?) (hq : μ'[q]? = μ[q]?) : StA μ' p q := by
  obtain ⟨cs, a, h1, h2, h3⟩ := h.ex
  exact ⟨h.ne, cs, a, by rw [hp]; exact h1, by rw [hq]; exact h2, h3⟩
theorem StA.lt {μ : Sto} {p q : Nat} (h : StA μ p q) : p < μ.length ∧ q < μ.length := by
  obtain ⟨cs, a, h1, h2, h3⟩ := h.ex
  exact ⟨(List.getElem?_eq_some_iff.mp h1).1, (List.getElem?_eq_some_iff.mp h2).1⟩
theorem take_e {μ : Sto} {p q : Nat} (h : StA μ p q) {most : Nat} (h1 : 0 < most) (h2 : most ≤ 1000) {ε : Evn} {e1 e2 : EvF} (x1 : e1 ε μ = some (.ptr p, μ)) (x2 : e2 ε μ = some (.dat (.int (most : Int)), μ)) :
    ∃ (v : Nat) (μ' : Sto), eCallG 2 F__law_take (aCons e1 (aCons e2 aNil)) ε μ = some (.dat (.int (v : Int)), μ') ∧ v < most ∧ StA μ' p q ∧ Fr p q μ μ' := by
  obtain ⟨v, μ', e, r⟩ := F__law_take_eq h h1 h2
  refine ⟨v, μ', ?_, r⟩
  simp only [eCallG, aCons, aNil, x1, x2, Option.bind_some, List.length_cons, List.length_nil, if_pos, e]
structure FlSt (μ : Sto) (p q pr pu : Nat) (R U : List Nat) : Prop where
  st : StA μ p q
  r : μ[pr]? = some (.lst (oL R))
  u : μ[pu]? = some (.lst (oL U))
  n1 : pr ≠ p
  n2 : pr ≠ q
  n3 : pu ≠ p
  n4 : pu ≠ q
  n5 : pr ≠ pu
theorem FlSt.fr {μ μ' : Sto} {p q pr pu : Nat} {R U : List Nat} (h : FlSt μ p q pr pu R U) (s : StA μ' p q) (f : Fr p q μ μ') : FlSt μ' p q pr pu R U :=
  ⟨s, (f.at' pr h.n1 h.n2).trans h.r, (f.at' pu h.n3 h.n4).trans h.u, h.n1, h.n2, h.n3, h.n4, h.n5⟩
theorem swap_r {μ : Sto} {k c x : Nat} {R : List Nat} (hk : μ[k]? = some (.lst (oL (R ++ [R.length])))) (hc : c = R.length) (a0 a1 a3 a6 : Option PV) :
    sIf (tsE (eOp fLt (eVar 5) (eVar 4))) (sAsgT 2 (aCons (eOp fIx (eVar 2) (eVar 5)) (aCons (eVar 4) (aNil))) (tgsCons (tgSub (eVar 2) (eVar 4)) (tgsCons (tgSub (eVar 2) (eVar 5)) (tgsNil)))) (sNil) [a0, a1, some (.ptr k), a3, some (.dat (.int (c : Int))), some (.dat (.int (x : Int))), a6] μ =
      some (.nx [a0, a1, some (.ptr k), a3, some (.dat (.int (c : Int))), some (.dat (.int (x : Int))), a6] (μ.set k (.lst (oL (insN R x))))) := by
  subst hc
  have hkl : k < μ.length := (List.getElem?_eq_some_iff.mp hk).1
  by_cases h : x < R.length
  · have a := at_oL (ns := R ++ [R.length]) (j := x) (by simp; omega)
    rw [g0_app h] at a
    have i1 : ixN (oL (R ++ [R.length])).length (R.length : Int) = some R.length := ixN_natD (by simp)
    have i2 : ixN (oL ((R ++ [R.length]).set R.length (g0 R x))).length (x : Int) = some x := ixN_natD (by simp; omega)
    have sk : ∀ X, (μ.set k X)[k]? = some X := fun X => by simp [hkl]
    have e1 : insN R x = ((R ++ [R.length]).set R.length (g0 R x)).set x R.length := if_pos h
    have b : ((x : Int) < (R.length : Int)) := by omega
    have t : tsE (eOp fLt (eVar 5) (eVar 4)) [a0, a1, some (.ptr k), a3, some (.dat (.int (R.length : Int))), some (.dat (.int (x : Int))), a6] μ = some (true, μ) := by simp [h]
    have y1 : eOp fIx (eVar 2) (eVar 5) [a0, a1, some (.ptr k), a3, some (.dat (.int (R.length : Int))), some (.dat (.int (x : Int))), a6] μ = some (.dat (.int (g0 R x : Nat)), μ) := by
      simp [-oL_app, -oL_snoc, hk, a]
    have y2 : ∀ v : Nat, tgSub (eVar 2) (eVar 4) (.dat (.int (v : Int))) [a0, a1, some (.ptr k), a3, some (.dat (.int (R.length : Int))), some (.dat (.int (x : Int))), a6] μ = some ([a0, a1, some (.ptr k), a3, some (.dat (.int (R.length : Int))), some (.dat (.int (x : Int))), a6], μ.set k (.lst (oL ((R ++ [R.length]).set R.length v)))) := by
      intro v
      simp only [tgSub, eVar, List.getElem?_cons_succ, List.getElem?_cons_zero, Option.bind_some, hk, i1, Option.map_some, oL_set]
    have y3 : tgSub (eVar 2) (eVar 5) (.dat (.int (R.length : Int))) [a0, a1, some (.ptr k), a3, some (.dat (.int (R.length : Int))), some (.dat (.int (x : Int))), a6] (μ.set k (.lst (oL ((R ++ [R.length]).set R.length (g0 R x))))) = some ([a0, a1, some (.ptr k), a3, some (.dat (.int (R.length : Int))), some (.dat (.int (x : Int))), a6], μ.set k (.lst (oL (insN R x)))) := by
      simp only [tgSub, eVar, List.getElem?_cons_succ, List.getElem?_cons_zero, Option.bind_some, sk, i2, Option.map_some, oL_set, List.set_set, e1]
    unfold sIf
    rw [t]
    simp only [Option.bind_some, if_true, sAsgT, aCons, aNil, y1, eVar, List.getElem?_cons_succ, List.getElem?_cons_zero]
    simp only [List.length_cons, List.length_nil, cap]
    rw [if_pos (by decide)]
    have e5 : tgsCons (tgSub (eVar 2) (eVar 4)) (tgsCons (tgSub (eVar 2) (eVar 5)) tgsNil) [.dat (.int (g0 R x : Nat)), .dat (.int (R.length : Int))] [a0, a1, some (.ptr k), a3, some (.dat (.int (R.length : Int))), some (.dat (.int (x : Int))), a6] μ = some ([a0, a1, some (.ptr k), a3, some (.dat (.int (R.length : Int))), some (.dat (.int (x : Int))), a6], μ.set k (.lst (oL (insN R x)))) := by
      unfold tgsCons
      simp only []
      rw [y2]
      simp only [Option.bind_some]
      rw [y3]
      rfl
    exact congrArg (fun z => Option.bind z fun y => some (Out.nx y.1 y.2)) e5
  · have e1 : insN R x = R ++ [R.length] := if_neg h
    have t : tsE (eOp fLt (eVar 5) (eVar 4)) [a0, a1, some (.ptr k), a3, some (.dat (.int (R.length : Int))), some (.dat (.int (x : Int))), a6] μ = some (false, μ) := by simp [h]
    unfold sIf
    rw [t, e1]
    have : μ.set k (.lst (oL (R ++ [R.length]))) = μ := by
      refine List.ext_getElem? fun j => ?_
      by_cases e : k = j
      · subst e; rw [hk]; simp [hkl]
      · rw [List.getElem?_set_ne e]
    rw [this]
    rfl
theorem swap_u {μ : Sto} {k c x : Nat} {R : List Nat} (hk : μ[k]? = some (.lst (oL (R ++ [R.length])))) (hc : c = R.length) (a0 a1 a2 a5 : Option PV) :
    sIf (tsE (eOp fLt (eVar 6) (eVar 4))) (sAsgT 2 (aCons (eOp fIx (eVar 3) (eVar 6)) (aCons (eVar 4) (aNil))) (tgsCons (tgSub (eVar 3) (eVar 4)) (tgsCons (tgSub (eVar 3) (eVar 6)) (tgsNil)))) (sNil) [a0, a1, a2, some (.ptr k), some (.dat (.int (c : Int))), a5, some (.dat (.int (x : Int)))] μ =
      some (.nx [a0, a1, a2, some (.ptr k), some (.dat (.int (c : Int))), a5, some (.dat (.int (x : Int)))] (μ.set k (.lst (oL (insN R x))))) := by
  subst hc
  have hkl : k < μ.length := (List.getElem?_eq_some_iff.mp hk).1
  by_cases h : x < R.length
  · have a := at_oL (ns := R ++ [R.length]) (j := x) (by simp; omega)
    rw [g0_app h] at a
    have i1 : ixN (oL (R ++ [R.length])).length (R.length : Int) = some R.length := ixN_natD (by simp)
    have i2 : ixN (oL ((R ++ [R.length]).set R.length (g0 R x))).length (x : Int) = some x := ixN_natD (by simp; omega)
    have sk : ∀ X, (μ.set k X)[k]? = some X := fun X => by simp [hkl]
    have e1 : insN R x = ((R ++ [R.length]).set R.length (g0 R x)).set x R.length := if_pos h
    have t : tsE (eOp fLt (eVar 6) (eVar 4)) [a0, a1, a2, some (.ptr k), some (.dat (.int (R.length : Int))), a5, some (.dat (.int (x : Int)))] μ = some (true, μ) := by simp [h]
    have y1 : eOp fIx (eVar 3) (eVar 6) [a0, a1, a2, some (.ptr k), some (.dat (.int (R.length : Int))), a5, some (.dat (.int (x : Int)))] μ = some (.dat (.int (g0 R x : Nat)), μ) := by
      simp [-oL_app, -oL_snoc, hk, a]
    have y2 : ∀ v : Nat, tgSub (eVar 3) (eVar 4) (.dat (.int (v : Int))) [a0, a1, a2, some (.ptr k), some (.dat (.int (R.length : Int))), a5, some (.dat (.int (x : Int)))] μ = some ([a0, a1, a2, some (.ptr k), some (.dat (.int (R.length : Int))), a5, some (.dat (.int (x : Int)))], μ.set k (.lst (oL ((R ++ [R.length]).set R.length v)))) := by
      intro v
      simp only [tgSub, eVar, List.getElem?_cons_succ, List.getElem?_cons_zero, Option.bind_some, hk, i1, Option.map_some, oL_set]
    have y3 : tgSub (eVar 3) (eVar 6) (.dat (.int (R.length : Int))) [a0, a1, a2, some (.ptr k), some (.dat (.int (R.length : Int))), a5, some (.dat (.int (x : Int)))] (μ.set k (.lst (oL ((R ++ [R.length]).set R.length (g0 R x))))) = some ([a0, a1, a2, some (.ptr k), some (.dat (.int (R.length : Int))), a5, some (.dat (.int (x : Int)))], μ.set k (.lst (oL (insN R x)))) := by
      simp only [tgSub, eVar, List.getElem?_cons_succ, List.getElem?_cons_zero, Option.bind_some, sk, i2, Option.map_some, oL_set, List.set_set, e1]
    unfold sIf
    rw [t]
    simp only [Option.bind_some, if_true, sAsgT, aCons, aNil, y1, eVar, List.getElem?_cons_succ, List.getElem?_cons_zero]
    simp only [List.length_cons, List.length_nil, cap]
    rw [if_pos (by decide)]
    have e5 : tgsCons (tgSub (eVar 3) (eVar 4)) (tgsCons (tgSub (eVar 3) (eVar 6)) tgsNil) [.dat (.int (g0 R x : Nat)), .dat (.int (R.length : Int))] [a0, a1, a2, some (.ptr k), some (.dat (.int (R.length : Int))), a5, some (.dat (.int (x : Int)))] μ = some ([a0, a1, a2, some (.ptr k), some (.dat (.int (R.length : Int))), a5, some (.dat (.int (x : Int)))], μ.set k (.lst (oL (insN R x)))) := by
      unfold tgsCons
      simp only []
      rw [y2]
      simp only [Option.bind_some]
      rw [y3]
      rfl
    exact congrArg (fun z => Option.bind z fun y => some (Out.nx y.1 y.2)) e5
  · have e1 : insN R x = R ++ [R.length] := if_neg h
    have t : tsE (eOp fLt (eVar 6) (eVar 4)) [a0, a1, a2, some (.ptr k), some (.dat (.int (R.length : Int))), a5, some (.dat (.int (x : Int)))] μ = some (false, μ) := by simp [h]
    unfold sIf
    rw [t, e1]
    have : μ.set k (.lst (oL (R ++ [R.length]))) = μ := by
      refine List.ext_getElem? fun j => ?_
      by_cases e : k = j
      · subst e; rw [hk]; simp [hkl]
      · rw [List.getElem?_set_ne e]
    rw [this]
    rfl
theorem fadd_own {μ : Sto} {k c : Nat} {R : List Nat} {ε : Evn} {e1 e2 : EvF} (hk : μ[k]? = some (.lst (oL R))) (hR : R.length ≤ 1000) (x1 : e1 ε μ = some (.ptr k, μ)) (x2 : e2 ε μ = some (.dat (.int (c : Int)), μ)) :
    eOp (fAdd true) e1 (eLst false (aCons e2 aNil)) ε μ = some (.ptr μ.length, μ ++ [.lst (oL (R ++ [c]))]) := by
  have c1 : R.length ≤ 999999 := by omega
  have e : oL R ++ [PV.dat (.int (c : Int))] = oL (R ++ [c]) := oL_snoc R c
  simp [-oL_app, -oL_snoc, x1, x2, asDats, hk, cap, c1, e]
theorem B1__law_floor_eq {μ : Sto} {p q pr pu : Nat} {R U : List Nat} {n : Nat} (h : FlSt μ p q pr pu R U) (F : Flo R U n) (C : Hang R U n) (hn0 : 0 < n) (hn : n + 1 ≤ 60) (a1 a5 a6 : Option PV) :
    ∃ (pr' pu' : Nat) (R' U' : List Nat) (a5' a6' : Option PV) (μ' : Sto), B1__law_floor [some (.ptr p), a1, some (.ptr pr), some (.ptr pu), some (.dat (.int (n : Int))), a5, a6] μ = some (.nx [some (.ptr p), a1, some (.ptr pr'), some (.ptr pu'), some (.dat (.int (n : Int))), a5', a6'] μ') ∧
      FlSt μ' p q pr' pu' R' U' ∧ Flo R' U' (n + 1) ∧ Hang R' U' (n + 1) := by
  have m1 : ∀ (ε : Evn) (μ : Sto), ε[4]? = some (some (.dat (.int (n : Int)))) → eOp (fAdd false) (eVar 4) (eC (.int 1)) ε μ = some (.dat (.int ((n + 1 : Nat) : Int)), μ) := fun ε μ h => by simp [h]
  obtain ⟨x, μ1, t1, hx, s1, f1⟩ := take_e h.st (most := n + 1) (by omega) (by omega) (ε := [some (.ptr p), a1, some (.ptr pr), some (.ptr pu), some (.dat (.int (n : Int))), a5, a6]) (e1 := eVar 0) (e2 := eOp (fAdd false) (eVar 4) (eC (.int 1))) rfl (m1 _ _ rfl)
  obtain ⟨y, μ2, t2, hy, s2, f2⟩ := take_e s1 (most := n + 1) (by omega) (by omega) (ε := [some (.ptr p), a1, some (.ptr pr), some (.ptr pu), some (.dat (.int (n : Int))), a5, a6]) (e1 := eVar 0) (e2 := eOp (fAdd false) (eVar 4) (eC (.int 1))) rfl (m1 _ _ rfl)
  have h2 := h.fr s2 (f1.trans f2)
  have z1 : sPar 5 6 (aCons (eCallG 2 F__law_take (aCons (eVar 0) (aCons (eOp (fAdd false) (eVar 4) (eC (.int 1))) (aNil)))) (aCons (eCallG 2 F__law_take (aCons (eVar 0) (aCons (eOp (fAdd false) (eVar 4) (eC (.int 1))) (aNil)))) (aNil))) [some (.ptr p), a1, some (.ptr pr), some (.ptr pu), some (.dat (.int (n : Int))), a5, a6] μ = some (.nx [some (.ptr p), a1, some (.ptr pr), some (.ptr pu), some (.dat (.int (n : Int))), some (.dat (.int (x : Int))), some (.dat (.int (y : Int)))] μ2) := by
    have u : ∀ (i j : Nat) (a b : EvF) (ε : Evn) (μ μ1 μ2 : Sto) (v w : PV), a ε μ = some (v, μ1) → b ε μ1 = some (w, μ2) → sPar i j (aCons a (aCons b aNil)) ε μ = some (.nx ((ε.set i (some v)).set j (some w)) μ2) := fun i j a b ε μ μ1 μ2 v w h1 h2 => by
      simp only [sPar, aCons, aNil, h1, h2, Option.bind_some]
    exact u 5 6 _ _ _ _ _ _ _ _ t1 t2
  obtain ⟨x', ex', hx', hxy⟩ : ∃ x' : Nat, x' = (if x = n ∧ y = n then 0 else x) ∧ x' < n + 1 ∧ (0 < n → x' < n ∨ y < n) := by
    refine ⟨_, rfl, ?_, ?_⟩
    · split <;> omega
    · intro hn; split <;> omega
  have z2 : sSet 5 (eIf (tsAnd (tsE (eOp (fEq false) (eVar 5) (eVar 4))) (tsE (eOp (fEq false) (eVar 6) (eVar 4)))) (eC (.int 0)) (eVar 5)) [some (.ptr p), a1, some (.ptr pr), some (.ptr pu), some (.dat (.int (n : Int))), some (.dat (.int (x : Int))), some (.dat (.int (y : Int)))] μ2 = some (.nx [some (.ptr p), a1, some (.ptr pr), some (.ptr pu), some (.dat (.int (n : Int))), some (.dat (.int (x' : Int))), some (.dat (.int (y : Int)))] μ2) := by
    subst ex'
    by_cases c1 : x = n
    · subst c1
      by_cases c2 : y = x
      · subst c2; simp
      · have : ¬ (y : Int) = (x : Int) := by omega
        simp [c2, this]
    · have : ¬ (x : Int) = (n : Int) := by omega
      simp [c1, this]
  have lr := h2.st.lt
  have b1 : eOp (fAdd true) (eVar 2) (eLst false (aCons (eVar 4) (aNil))) [some (.ptr p), a1, some (.ptr pr), some (.ptr pu), some (.dat (.int (n : Int))), some (.dat (.int (x' : Int))), some (.dat (.int (y : Int)))] μ2 = some (.ptr μ2.length, μ2 ++ [SO.lst (oL (R ++ [n]))]) := fadd_own h2.r (by rw [F.lR]; omega) rfl rfl
  have hpu : pu < μ2.length := (List.getElem?_eq_some_iff.mp h2.u).1
  have b2 : eOp (fAdd true) (eVar 3) (eLst false (aCons (eVar 4) (aNil))) [some (.ptr p), a1, some (.ptr pr), some (.ptr pu), some (.dat (.int (n : Int))), some (.dat (.int (x' : Int))), some (.dat (.int (y : Int)))] (μ2 ++ [SO.lst (oL (R ++ [n]))]) = some (.ptr (μ2 ++ [SO.lst (oL (R ++ [n]))]).length, (μ2 ++ [SO.lst (oL (R ++ [n]))]) ++ [SO.lst (oL (U ++ [n]))]) := fadd_own (by rw [List.getElem?_append_left hpu]; exact h2.u) (by rw [F.lU]; omega) rfl rfl
  have z3 : sPar 2 3 (aCons (eOp (fAdd true) (eVar 2) (eLst false (aCons (eVar 4) (aNil)))) (aCons (eOp (fAdd true) (eVar 3) (eLst false (aCons (eVar 4) (aNil)))) (aNil))) [some (.ptr p), a1, some (.ptr pr), some (.ptr pu), some (.dat (.int (n : Int))), some (.dat (.int (x' : Int))), some (.dat (.int (y : Int)))] μ2 = some (.nx [some (.ptr p), a1, some (.ptr μ2.length), some (.ptr (μ2.length + 1)), some (.dat (.int (n : Int))), some (.dat (.int (x' : Int))), some (.dat (.int (y : Int)))] ((μ2 ++ [SO.lst (oL (R ++ [n]))]) ++ [SO.lst (oL (U ++ [n]))])) := by
    have u : ∀ (i j : Nat) (a b : EvF) (ε : Evn) (μ μ1 μ2 : Sto) (v w : PV), a ε μ = some (v, μ1) → b ε μ1 = some (w, μ2) → sPar i j (aCons a (aCons b aNil)) ε μ = some (.nx ((ε.set i (some v)).set j (some w)) μ2) := fun i j a b ε μ μ1 μ2 v w h1 h2 => by
      simp only [sPar, aCons, aNil, h1, h2, Option.bind_some]
    have := u 2 3 _ _ _ _ _ _ _ _ b1 b2
    rw [List.length_append] at this
    exact this
  generalize hμ3 : (μ2 ++ [SO.lst (oL (R ++ [n]))]) ++ [SO.lst (oL (U ++ [n]))] = μ3 at z3
  have g : ∀ k, k < μ2.length → μ3[k]? = μ2[k]? := fun k hk => by
    rw [← hμ3, List.append_assoc, List.getElem?_append_left hk]
  have gr : μ3[μ2.length]? = some (.lst (oL (R ++ [R.length]))) := by
    rw [← hμ3, List.append_assoc, List.getElem?_append_right (Nat.le_refl _), Nat.sub_self, F.lR]; rfl
  have gu : μ3[μ2.length + 1]? = some (.lst (oL (U ++ [U.length]))) := by
    rw [← hμ3, List.append_assoc, List.getElem?_append_right (by omega), Nat.add_sub_cancel_left, F.lU]; rfl
  have z4 := swap_r (c := n) (x := x') gr F.lR.symm (some (.ptr p)) a1 (some (.ptr (μ2.length + 1))) (some (.dat (.int (y : Int))))
  have gu' : (μ3.set μ2.length (.lst (oL (insN R x'))))[μ2.length + 1]? = some (.lst (oL (U ++ [U.length]))) := by
    rw [List.getElem?_set_ne (by omega)]; exact gu
  have z5 := swap_u (c := n) (x := y) gu' F.lU.symm (some (.ptr p)) a1 (some (.ptr μ2.length)) (some (.dat (.int (x' : Int))))
  have l3 : μ2.length + 1 < μ3.length := (List.getElem?_eq_some_iff.mp gu).1
  refine ⟨μ2.length, μ2.length + 1, insN R x', insN U y, some (.dat (.int (x' : Int))), some (.dat (.int (y : Int))), _, seq_nx' z1 (seq_nx' z2 (seq_nx' z3 (seq_nx' z4 z5))), ⟨h2.st.fr ?_ ?_, ?_, ?_, by omega, by omega, by omega, by omega, by omega⟩, insN_flo F hn, hang_ins F C hn (hxy hn0)⟩
  · rw [List.getElem?_set_ne (by omega), List.getElem?_set_ne (by omega), g _ lr.1]
  · rw [List.getElem?_set_ne (by omega), List.getElem?_set_ne (by omega), g _ lr.2]
  · rw [List.getElem?_set_ne (by omega)]
    exact List.getElem?_set_self (by omega)
  · exact List.getElem?_set_self (by rw [List.length_set]; omega)
theorem F__law_floor_eq {μ : Sto} {p q : Nat} (h : StA μ p q) : ∃ R U n μ', F__law_floor [.ptr p, .dat (.int 6)] μ = some (.dat (flo R U), μ') ∧ Flo R U n ∧ Hang R U n ∧ 0 < n ∧ n ≤ 6 ∧ StA μ' p q := by
  have lr := h.lt
  have z1 : sPar 2 3 (aCons (eLst true (aCons (eC (.int 0)) (aNil))) (aCons (eLst true (aCons (eC (.int 0)) (aNil))) (aNil))) (startE 7 [.ptr p, .dat (.int 6)]) μ = some (.nx [some (.ptr p), some (.dat (.int 6)), some (.ptr μ.length), some (.ptr (μ.length + 1)), none, none, none] ((μ ++ [SO.lst (oL [0])]) ++ [SO.lst (oL [0])])) := by
    simp [cap, oL]
  generalize hμ0 : (μ ++ [SO.lst (oL [0])]) ++ [SO.lst (oL [0])] = μ0 at z1
  have g : ∀ k, k < μ.length → μ0[k]? = μ[k]? := fun k hk => by rw [← hμ0, List.append_assoc, List.getElem?_append_left hk]
  have gr : μ0[μ.length]? = some (.lst (oL [0])) := by rw [← hμ0, List.append_assoc, List.getElem?_append_right (Nat.le_refl _), Nat.sub_self]; rfl
  have gu : μ0[μ.length + 1]? = some (.lst (oL [0])) := by rw [← hμ0, List.append_assoc, List.getElem?_append_right (by omega), Nat.add_sub_cancel_left]; rfl
  have f0 : FlSt μ0 p q μ.length (μ.length + 1) [0] [0] := ⟨h.fr (g _ lr.1) (g _ lr.2), gr, gu, by omega, by omega, by omega, by omega, by omega⟩
  have o0 : Ord [0] := ⟨by simp, by simp⟩
  have F0 : Flo [0] [0] 1 := ⟨rfl, rfl, o0, o0, by decide⟩
  have C0 : Hang [0] [0] 1 := fun x y hx hy => by
    have : x = y := by omega
    subst this; exact .refl rfl
  obtain ⟨v, μ1, t1, hv, s1, f1⟩ := take_e f0.st (most := 6) (by decide) (by decide) (ε := [some (.ptr p), some (.dat (.int 6)), some (.ptr μ.length), some (.ptr (μ.length + 1)), none, none, none]) (e1 := eVar 0) (e2 := eVar 1) rfl rfl
  have f2 := f0.fr s1 f1
  have key := forD_all (G := fun _ => true) (tg := tgN 4) (b := B1__law_floor)
    (fun i ε μ => ∃ (pr pu : Nat) (R U : List Nat) (a4 a5 a6 : Option PV), ε = [some (.ptr p), some (.dat (.int 6)), some (.ptr pr), some (.ptr pu), a4, a5, a6] ∧ FlSt μ p q pr pu R U ∧ Flo R U (i + 1) ∧ Hang R U (i + 1)) ((List.range v).map fun m => PV.dat (.int (1 + (m : Nat)))) (fun _ _ _ _ => rfl) (fun i pv ε μ hp hI => by
      obtain ⟨pr, pu, R, U, a4, a5, a6, rfl, hf, F, C⟩ := hI
      have hi : i < v := by simpa using (List.getElem?_eq_some_iff.mp hp).1
      have ep : pv = .dat (.int ((i + 1 : Nat) : Int)) := by
        have : PV.dat (.int (1 + (i : Int))) = pv := by simpa [hi] using hp
        rw [← this]
        congr 2
        omega
      subst ep
      obtain ⟨pr', pu', R', U', a5', a6', μ', e, r1, r2, r3⟩ := B1__law_floor_eq hf F C (by omega) (by omega) (some (.dat (.int 6))) a5 a6
      exact ⟨_, _, _, _, rfl, e, pr', pu', R', U', _, _, _, rfl, r1, r2, r3⟩)
      (ε := [some (.ptr p), some (.dat (.int 6)), some (.ptr μ.length), some (.ptr (μ.length + 1)), none, none, none]) (μ := μ1) ⟨_, _, _, _, _, _, _, rfl, f2, F0, C0⟩
  obtain ⟨ε', μ', e, pr, pu, R, U, a4, a5, a6, rfl, hf, F, C⟩ := key
  rw [List.length_map, List.length_range] at F C
  have z2 : L1__law_floor [some (.ptr p), some (.dat (.int 6)), some (.ptr μ.length), some (.ptr (μ.length + 1)), none, none, none] μ0 = some (.nx [some (.ptr p), some (.dat (.int 6)), some (.ptr pr), some (.ptr pu), a4, a5, a6] μ') := by
    have c : inRg (1 + (v : Int)) = true := inRg_int (by omega) (by omega)
    have c2 : (1 + (v : Int) - 1).toNat = v := by omega
    have y : srcR2 (aCons (eC (.int 1)) (aCons (eOp (fAdd false) (eC (.int 1)) (eCallG 2 F__law_take (aCons (eVar 0) (aCons (eVar 1) (aNil))))) (aNil))) [some (.ptr p), some (.dat (.int 6)), some (.ptr μ.length), some (.ptr (μ.length + 1)), none, none, none] μ0 = some (((List.range v).map fun m => PV.dat (.int (1 + (m : Nat))), none), μ1) := by
      have y1 : eOp (fAdd false) (eC (.int 1)) (eCallG 2 F__law_take (aCons (eVar 0) (aCons (eVar 1) (aNil)))) [some (.ptr p), some (.dat (.int 6)), some (.ptr μ.length), some (.ptr (μ.length + 1)), none, none, none] μ0 = some (.dat (.int (1 + (v : Int))), μ1) := by
        have u : ∀ (f : OpF) (a b : EvF) (ε : Evn) (μ : Sto), eOp f a b ε μ = (a ε μ).bind fun x => (b ε x.2).bind fun y => f x.1 y.1 y.2 := fun _ _ _ _ _ => rfl
        have v1 : ∀ ε μ, eC (.int 1) ε μ = some (.dat (.int 1), μ) := fun _ _ => rfl
        rw [u, v1]
        simp only [Option.bind_some]
        rw [t1]
        rfl
      simp only [srcR2, aCons, aNil, y1, eC, Option.bind_some, c, inRg_o, Bool.and_self, if_true, c2]
    unfold L1__law_floor sFor
    rw [y]
    simp only [Option.bind_some, okG_none]
    exact e
  have hpr : pr < μ'.length := (List.getElem?_eq_some_iff.mp hf.r).1
  refine ⟨R, U, v + 1, (μ'.set pr .gone).set pu .gone, ?_, F, C, by omega, by omega, hf.st.fr ?_ ?_⟩
  · refine fnG_rt rfl ?_
    rw [r__law_floor, seq_nx z1, seq_nx z2]
    have u2 : (μ'.set pr .gone)[pu]? = some (.lst (oL U)) := by rw [List.getElem?_set_ne hf.n5]; exact hf.u
    have x1 : eFrz (eVar 2) [some (.ptr p), some (.dat (.int 6)), some (.ptr pr), some (.ptr pu), a4, a5, a6] μ' = some (.dat (.list (iL R)), μ'.set pr .gone) := by simp [hf.r]
    have x2 : eFrz (eVar 3) [some (.ptr p), some (.dat (.int 6)), some (.ptr pr), some (.ptr pu), a4, a5, a6] (μ'.set pr .gone) = some (.dat (.list (iL U)), (μ'.set pr .gone).set pu .gone) := by simp [u2]
    simp [-eFrz, x1, x2, asDats, cap]
  · rw [List.getElem?_set_ne hf.n3, List.getElem?_set_ne hf.n1]
  · rw [List.getElem?_set_ne hf.n4, List.getElem?_set_ne hf.n2]
end CM
namespace CM
open PySem L2 VX
/-! ### the law, part by part -/
theorem lcD_take {p q : Nat} {tg : TgF} {te : EvF} {w : Evn} (hk : ∀ (x : PV) (μ : Sto), StA μ p q → ∃ (ε : Evn) (v : Nat) (μ' : Sto), tg x w μ = some (ε, μ) ∧ te ε μ = some (.dat (.int (v : Int)), μ') ∧ StA μ' p q) :
    ∀ (items : List PV) (μ : Sto), StA μ p q → ∃ (ns : List Int) (μ' : Sto), lcD (fun _ => true) tg tsYes te w items μ = some (oZ ns, μ') ∧ ns.length = items.length ∧ StA μ' p q
  | [], μ, h => ⟨[], μ, by simp [lcD, oZ], rfl, h⟩
  | x :: r, μ, h => by
    obtain ⟨ε, v, μ1, e1, e2, h1⟩ := hk x μ h
    obtain ⟨ns, μ', e3, hl, h2⟩ := lcD_take hk r μ1 h1
    refine ⟨(v : Int) :: ns, μ', ?_, by simp [hl], h2⟩
    have e : oZ ((v : Int) :: ns) = .dat (.int (v : Int)) :: oZ ns := rfl
    rw [e]
    simp [lcD, e1, tsYes, e2, e3]
theorem levels_eq {μ : Sto} {p q n : Nat} (h : StA μ p q) (hn : n ≤ 6) (a0 a2 a4 : Option PV) (rest : Evn) :
    ∃ (lev : List Int) (μ' : Sto), C1_law (a0 :: some (.ptr p) :: a2 :: some (.dat (.int (n : Int))) :: a4 :: none :: rest) μ = some (.dat (.list (iZ lev)), μ') ∧ lev.length = n ∧ StA μ' p q := by
  obtain ⟨ns, μ', e, hl, h'⟩ := lcD_take (p := p) (q := q) (tg := tgN 5) (te := eCallG 2 F__law_take (aCons (eVar 1) (aCons (eC (.int 6)) (aNil)))) (w := a0 :: some (.ptr p) :: a2 :: some (.dat (.int (n : Int))) :: a4 :: none :: rest) (fun x μ h => by
    obtain ⟨v, μ', e, _, h', _⟩ := take_e h (most := 6) (by decide) (by decide) (ε := a0 :: some (.ptr p) :: a2 :: some (.dat (.int (n : Int))) :: a4 :: some x :: rest) (e1 := eVar 1) (e2 := eC (.int 6)) rfl rfl
    exact ⟨_, v, μ', rfl, e, h'⟩) ((List.range n).map fun i => PV.dat (.int (i : Nat))) μ h
  have hl' : ns.length = n := by simpa using hl
  refine ⟨ns, μ', ?_, hl', h'⟩
  have c : n ≤ 100000 := by omega
  have c2 : ns.length ≤ 1000000 := by omega
  unfold C1_law eLc
  simp only [srcR1, aCons, aNil, eVar, List.getElem?_cons_succ, List.getElem?_cons_zero, Option.bind_some, inRg_nat c, if_true, Int.toNat_natCast, okG_none, wipeE, List.set_cons_succ, List.set_cons_zero]
  rw [e]
  simp [cap, c2]
open Classical in
theorem due_eq {R U : List Nat} {lev : List Int} {s b n : Nat} (F : Flo R U n) (C : Hang R U n) (hs : s < n) (hb : b < n) (hl : lev.length = n) (μ : Sto) (a0 a1 a3 a5 a8 : Option PV) (rest : Evn) :
    ∃ due : Int, eOp fIx C2_law (eC (.int 0)) (a0 :: a1 :: some (.dat (flo R U)) :: a3 :: some (.dat (.list (iZ lev))) :: a5 :: some (.dat (.int (s : Int))) :: some (.dat (.int (b : Int))) :: a8 :: none :: rest) μ = some (.dat (.int due), μ) ∧ IsLow R U lev s b due := by
  have hn := F.small
  have e := lcD_ints (G := fun _ => true) (tg := tgN 9) (tt := tsE (eOp (fIn false) (eVar 7) (eCallP 4 F__law_pool (aCons (eVar 2) (aCons (eVar 4) (aCons (eVar 6) (aCons (eVar 9) (aNil)))))))) (te := eVar 9) (w := a0 :: a1 :: some (.dat (flo R U)) :: a3 :: some (.dat (.list (iZ lev))) :: a5 :: some (.dat (.int (s : Int))) :: some (.dat (.int (b : Int))) :: a8 :: none :: rest) (μ := μ) (fun k => decide (Rc (nbs4 R U) (okL lev k) s b)) (usort lev) (fun k hk => by
    refine ⟨_, rfl, ?_, fun _ => rfl⟩
    obtain ⟨Z, e1, hZ⟩ := F__law_pool_eq (lev := lev) (most := k) F hs hl
    have : ((b : Int) ∈ Z) ↔ Rc (nbs4 R U) (okL lev k) s b := by
      rw [hZ.mem]
      exact ⟨fun ⟨y, ey, r⟩ => by rwa [show b = y by omega], fun r => ⟨b, rfl, r⟩⟩
    simp [e1, asDats, this]) rfl
  have hul := usort_len lev
  have hfl := List.length_filter_le (fun k => decide (Rc (nbs4 R U) (okL lev k) s b)) (usort lev)
  generalize hfs : (usort lev).filter (fun k => decide (Rc (nbs4 R U) (okL lev k) s b)) = fs at e hfl
  have mem : ∀ k, k ∈ fs ↔ k ∈ lev ∧ Rc (nbs4 R U) (okL lev k) s b := fun k => by
    rw [← hfs, List.mem_filter, mem_usort, decide_eq_true_eq]
  have up : fs.Pairwise (· < ·) := by rw [← hfs]; exact usort_sorted.filter _
  have h0 : 0 < fs.length := by
    obtain ⟨m, hm, r⟩ := C.top F hl hs hb
    exact List.length_pos_of_mem ((mem m).mpr ⟨hm, r⟩)
  have hm0 := (mem _).mp (z0_mem h0)
  refine ⟨z0 fs 0, ?_, hm0.1, hm0.2, fun m hm hlt r => ?_⟩
  · have c1 : lev.length < 64 := by omega
    have c2 : (usort lev).length ≤ 1000000 := by omega
    have c3 : fs.length ≤ 1000000 := by omega
    have a := at_oZ h0
    have s1 : C2_law (a0 :: a1 :: some (.dat (flo R U)) :: a3 :: some (.dat (.list (iZ lev))) :: a5 :: some (.dat (.int (s : Int))) :: some (.dat (.int (b : Int))) :: a8 :: none :: rest) μ = some (.dat (.list (iZ fs)), μ) := by
      have y : srcSeq (eSortSet false (aCons (eVar 4) aNil)) (a0 :: a1 :: some (.dat (flo R U)) :: a3 :: some (.dat (.list (iZ lev))) :: a5 :: some (.dat (.int (s : Int))) :: some (.dat (.int (b : Int))) :: a8 :: none :: rest) μ = some ((oZ (usort lev), none), μ) := by
        simp [cap, c1, c2]
      unfold C2_law eLc
      rw [y]
      simp only [Option.bind_some, okG_none, wipeE, List.set_cons_succ, List.set_cons_zero]
      rw [e]
      simp [cap, c3]
    have a' : L2.atI (oZ fs) 0 = some (PV.dat (.int (z0 fs 0))) := a
    simp [s1, a']
  · obtain ⟨j, hj, ej⟩ := mem_z0 ((mem m).mpr ⟨hm, r⟩)
    rcases Nat.eq_zero_or_pos j with rfl | c
    · omega
    · have := List.pairwise_iff_getElem.mp up 0 j h0 hj c
      rw [z0_of h0] at hlt
      rw [z0_of hj] at ej
      omega
theorem IsLow.symm {R U : List Nat} {lev : List Int} {s b n : Nat} {L : Int} (F : Flo R U n) (hs : s < n) (hb : b < n) (h : IsLow R U lev s b L) : IsLow R U lev b s L :=
  ⟨h.mem, h.rc.symm hs F.nb_lt F.nb_symm, fun m hm hlt r => h.min m hm hlt (r.symm hb F.nb_lt F.nb_symm)⟩
theorem isLow_self {R U : List Nat} {lev : List Int} {s n : Nat} (hl : lev.length = n) (hs : s < n) : IsLow R U lev s s (z0 lev s) :=
  ⟨z0_mem (by omega), .refl (decide_eq_true (Int.le_refl _)), fun m _ hlt r => by have : z0 lev s ≤ m := of_decide_eq_true r.ok0; omega⟩
theorem isLow_tri {R U : List Nat} {lev : List Int} {s t b : Nat} {L L1 L2 : Int} (h : IsLow R U lev s b L) (h1 : IsLow R U lev s t L1) (h2 : IsLow R U lev t b L2) : ¬ L > (if L2 > L1 then L2 else L1) := by
  intro c
  have m : ∀ {a m : Int}, a ≤ m → ∀ x, okL lev a x = true → okL lev m x = true := fun h x hx => by
    have : z0 lev x ≤ _ := of_decide_eq_true hx
    exact decide_eq_true (by omega)
  by_cases q : L2 > L1
  · rw [if_pos q] at c
    exact h.min L2 h2.mem c ((h1.rc.mono (m (by omega))).trans h2.rc)
  · rw [if_neg q] at c
    exact h.min L1 h1.mem c (h1.rc.trans (h2.rc.mono (m (by omega))))
theorem B1_law_eq {R U : List Nat} {lev : List Int} {n i : Nat} {most : Int} {P : Nat → List Int} (F : Flo R U n) (hP : PoolsOf R U lev n most P) (hi : i < n) (hn6 : n ≤ 60) (μ : Sto) (a0 a1 a3 a6 a7 a8 a10 a12 : Option PV) (rest : Evn) :
    ∃ a12', B1_law (a0 :: a1 :: some (.dat (flo R U)) :: a3 :: some (.dat (.list (iZ lev))) :: some (.dat (.int (i : Int))) :: a6 :: a7 :: a8 :: some (.dat (.int most)) :: a10 :: some (.dat (.list (iP (lotsTo P lev most i)))) :: a12 :: rest) μ =
      some (.nx (a0 :: a1 :: some (.dat (flo R U)) :: a3 :: some (.dat (.list (iZ lev))) :: some (.dat (.int (i : Int))) :: a6 :: a7 :: a8 :: some (.dat (.int most)) :: a10 :: some (.dat (.list (iP (lotsTo P lev most (i + 1))))) :: a12' :: rest) μ) := by
  have e1 := hP.law i hi
  have e2 := hP.run i hi
  refine ⟨some (.dat (.list (iZ (P i)))), ?_⟩
  rw [lotsTo_succ, stP_law F hP hi]
  have hll := lotsTo_len P lev most i
  have c : (lotsTo P lev most i).length ≤ 999999 := by omega
  by_cases h1 : P i = []
  · rw [if_neg (fun z => z.1 h1)]
    have h1' : iZ (P i) = [] := by rw [h1]; rfl
    simp [B1_law, e1, e2, asDats, h1]
  · by_cases h2 : P i ∈ lotsTo P lev most i
    · rw [if_neg (fun z => z.2 h2)]
      have h3 : 0 < (P i).length := List.length_pos_iff.mpr h1
      simp [B1_law, e1, e2, asDats, h3, h2]
    · rw [if_pos ⟨h1, h2⟩]
      have h3 : 0 < (P i).length := List.length_pos_iff.mpr h1
      simp [B1_law, e1, e2, asDats, h3, h2, cap, c]
end CM
namespace CM
open PySem L2 VX
theorem L1_law_eq {R U : List Nat} {lev : List Int} {n : Nat} {most : Int} {P : Nat → List Int} (F : Flo R U n) (hP : PoolsOf R U lev n most P) (μ : Sto) (a0 a1 a5 a6 a7 a8 a10 a12 : Option PV) (rest : Evn) :
    ∃ a5' a12', L1_law (a0 :: a1 :: some (.dat (flo R U)) :: some (.dat (.int (n : Int))) :: some (.dat (.list (iZ lev))) :: a5 :: a6 :: a7 :: a8 :: some (.dat (.int most)) :: a10 :: some (.dat (.list [])) :: a12 :: rest) μ =
      some (.nx (a0 :: a1 :: some (.dat (flo R U)) :: some (.dat (.int (n : Int))) :: some (.dat (.list (iZ lev))) :: a5' :: a6 :: a7 :: a8 :: some (.dat (.int most)) :: a10 :: some (.dat (.list (iP (lotsTo P lev most n)))) :: a12' :: rest) μ) := by
  have hn := F.small
  have key := forD_all (G := fun _ => true) (tg := tgN 5) (b := B1_law)
    (fun i ε μ' => ∃ a5' a12', ε = (a0 :: a1 :: some (.dat (flo R U)) :: some (.dat (.int (n : Int))) :: some (.dat (.list (iZ lev))) :: a5' :: a6 :: a7 :: a8 :: some (.dat (.int most)) :: a10 :: some (.dat (.list (iP (lotsTo P lev most i)))) :: a12' :: rest) ∧ μ' = μ) ((List.range n).map fun i => PV.dat (.int (i : Nat))) (fun _ _ _ _ => rfl) (fun i p ε μ' hp h => by
      obtain ⟨a5', a12', rfl, rfl⟩ := h
      have hi : i < n := by simpa using (List.getElem?_eq_some_iff.mp hp).1
      have ep : p = .dat (.int (i : Int)) := by simpa [hi] using hp.symm
      subst ep
      obtain ⟨a12'', e⟩ := B1_law_eq F hP hi hn μ' a0 a1 (some (.dat (.int (n : Int)))) a6 a7 a8 a10 a12' rest
      exact ⟨_, _, _, _, rfl, e, _, _, rfl, rfl⟩) (ε := (a0 :: a1 :: some (.dat (flo R U)) :: some (.dat (.int (n : Int))) :: some (.dat (.list (iZ lev))) :: a5 :: a6 :: a7 :: a8 :: some (.dat (.int most)) :: a10 :: some (.dat (.list [])) :: a12 :: rest)) (μ := μ) ⟨a5, a12, rfl, rfl⟩
  obtain ⟨ε', μ', h1, a5', a12', rfl, rfl⟩ := key
  simp only [List.length_map, List.length_range] at h1
  refine ⟨a5', a12', ?_⟩
  have c : n ≤ 100000 := by omega
  unfold L1_law sFor
  simp only [srcR1, aCons, aNil, eVar, List.getElem?_cons_succ, List.getElem?_cons_zero, Option.bind_some, inRg_nat c, if_true, Int.toNat_natCast, okG_none]
  exact h1
theorem lp_e {R U : List Nat} {lev : List Int} {s b n : Nat} {L : Int} (F : Flo R U n) (C : Hang R U n) (hs : s < n) (hb : b < n) (hl : lev.length = n) (h : IsLow R U lev s b L) {ε : Evn} {μ : Sto} {e1 e2 e3 e4 : EvF}
    (x1 : e1 ε μ = some (.dat (flo R U), μ)) (x2 : e2 ε μ = some (.dat (.list (iZ lev)), μ)) (x3 : e3 ε μ = some (.dat (.int (s : Int)), μ)) (x4 : e4 ε μ = some (.dat (.int (b : Int)), μ)) :
    eOp fIx (eCallP 4 F_lowest_pass (aCons e1 (aCons e2 (aCons e3 (aCons e4 aNil))))) (eC (.int 0)) ε μ = some (.dat (.int L), μ) := by
  obtain ⟨L', w, Z, e, ht⟩ := F_lowest_pass_eq F C hs hb hl
  have : L' = L := ht.low.uniq h
  subst this
  simp [x1, x2, x3, x4, asDats, e]
theorem B2_law_eq {R U : List Nat} {lev : List Int} {s b t n : Nat} {L : Int} (F : Flo R U n) (C : Hang R U n) (hs : s < n) (hb : b < n) (ht : t < n) (hl : lev.length = n) (h : IsLow R U lev s b L) (μ : Sto) (a0 a1 a3 a5 a9 a10 a11 a12 : Option PV) (rest : Evn) :
    B2_law (a0 :: a1 :: some (.dat (flo R U)) :: a3 :: some (.dat (.list (iZ lev))) :: a5 :: some (.dat (.int (s : Int))) :: some (.dat (.int (b : Int))) :: some (.dat (.int L)) :: a9 :: a10 :: a11 :: a12 :: some (.dat (.int (t : Int))) :: rest) μ =
      some (.nx (a0 :: a1 :: some (.dat (flo R U)) :: a3 :: some (.dat (.list (iZ lev))) :: a5 :: some (.dat (.int (s : Int))) :: some (.dat (.int (b : Int))) :: some (.dat (.int L)) :: a9 :: a10 :: a11 :: a12 :: some (.dat (.int (t : Int))) :: rest) μ) := by
  obtain ⟨L1, w1, Z1, e1, h1⟩ := F_lowest_pass_eq F C hs ht hl
  obtain ⟨L2, w2, Z2, e2, h2⟩ := F_lowest_pass_eq F C ht hb hl
  have hi := isLow_tri h h1.low h2.low
  have hi' : ¬ (if L1 < L2 then L2 else L1) < L := hi
  have y1 := lp_e F C hs ht hl h1.low (ε := (a0 :: a1 :: some (.dat (flo R U)) :: a3 :: some (.dat (.list (iZ lev))) :: a5 :: some (.dat (.int (s : Int))) :: some (.dat (.int (b : Int))) :: some (.dat (.int L)) :: a9 :: a10 :: a11 :: a12 :: some (.dat (.int (t : Int))) :: rest)) (μ := μ) (e1 := eVar 2) (e2 := eVar 4) (e3 := eVar 6) (e4 := eVar 13) rfl rfl rfl rfl
  have y2 := lp_e F C ht hb hl h2.low (ε := (a0 :: a1 :: some (.dat (flo R U)) :: a3 :: some (.dat (.list (iZ lev))) :: a5 :: some (.dat (.int (s : Int))) :: some (.dat (.int (b : Int))) :: some (.dat (.int L)) :: a9 :: a10 :: a11 :: a12 :: some (.dat (.int (t : Int))) :: rest)) (μ := μ) (e1 := eVar 2) (e2 := eVar 4) (e3 := eVar 13) (e4 := eVar 7) rfl rfl rfl rfl
  have y3 : eCa fMax (aCons (eOp fIx (eCallP 4 F_lowest_pass (aCons (eVar 2) (aCons (eVar 4) (aCons (eVar 6) (aCons (eVar 13) (aNil)))))) (eC (.int 0))) (aCons (eOp fIx (eCallP 4 F_lowest_pass (aCons (eVar 2) (aCons (eVar 4) (aCons (eVar 13) (aCons (eVar 7) (aNil)))))) (eC (.int 0))) (aNil))) (a0 :: a1 :: some (.dat (flo R U)) :: a3 :: some (.dat (.list (iZ lev))) :: a5 :: some (.dat (.int (s : Int))) :: some (.dat (.int (b : Int))) :: some (.dat (.int L)) :: a9 :: a10 :: a11 :: a12 :: some (.dat (.int (t : Int))) :: rest) μ = some (.dat (.int (if L2 > L1 then L2 else L1)), μ) := by
    simp only [eCa, aCons, aNil, y1, y2, Option.bind_some, fMax]
  have u : ∀ (f : OpF) (a b : EvF) (ε : Evn) (μ : Sto), eOp f a b ε μ = (a ε μ).bind fun x => (b ε x.2).bind fun y => f x.1 y.1 y.2 := fun _ _ _ _ _ => rfl
  have v8 : eVar 8 (a0 :: a1 :: some (.dat (flo R U)) :: a3 :: some (.dat (.list (iZ lev))) :: a5 :: some (.dat (.int (s : Int))) :: some (.dat (.int (b : Int))) :: some (.dat (.int L)) :: a9 :: a10 :: a11 :: a12 :: some (.dat (.int (t : Int))) :: rest) μ = some (.dat (.int L), μ) := rfl
  unfold B2_law sIf tsE
  rw [u, v8]
  simp only [Option.bind_some]
  rw [y3]
  simp only [Option.bind_some, fGt, fIB]
  rw [decide_eq_false (show ¬ (if L2 > L1 then L2 else L1) < L from hi)]
  rfl
theorem L2_law_eq {R U : List Nat} {lev : List Int} {s b n : Nat} {L : Int} (F : Flo R U n) (C : Hang R U n) (hs : s < n) (hb : b < n) (hl : lev.length = n) (h : IsLow R U lev s b L) (μ : Sto) (a0 a1 a5 a9 a10 a11 a12 a13 : Option PV) (rest : Evn) :
    ∃ a13', L2_law (a0 :: a1 :: some (.dat (flo R U)) :: some (.dat (.int (n : Int))) :: some (.dat (.list (iZ lev))) :: a5 :: some (.dat (.int (s : Int))) :: some (.dat (.int (b : Int))) :: some (.dat (.int L)) :: a9 :: a10 :: a11 :: a12 :: a13 :: rest) μ =
      some (.nx (a0 :: a1 :: some (.dat (flo R U)) :: some (.dat (.int (n : Int))) :: some (.dat (.list (iZ lev))) :: a5 :: some (.dat (.int (s : Int))) :: some (.dat (.int (b : Int))) :: some (.dat (.int L)) :: a9 :: a10 :: a11 :: a12 :: a13' :: rest) μ) := by
  have hn := F.small
  have key := forD_all (G := fun _ => true) (tg := tgN 13) (b := B2_law)
    (fun i ε μ' => ∃ a13', ε = (a0 :: a1 :: some (.dat (flo R U)) :: some (.dat (.int (n : Int))) :: some (.dat (.list (iZ lev))) :: a5 :: some (.dat (.int (s : Int))) :: some (.dat (.int (b : Int))) :: some (.dat (.int L)) :: a9 :: a10 :: a11 :: a12 :: a13' :: rest) ∧ μ' = μ) ((List.range n).map fun i => PV.dat (.int (i : Nat))) (fun _ _ _ _ => rfl) (fun i p ε μ' hp h' => by
      obtain ⟨a13', rfl, rfl⟩ := h'
      have hi : i < n := by simpa using (List.getElem?_eq_some_iff.mp hp).1
      have ep : p = .dat (.int (i : Int)) := by simpa [hi] using hp.symm
      subst ep
      exact ⟨_, _, _, _, rfl, B2_law_eq F C hs hb hi hl h μ' _ _ _ _ _ _ _ _ _, _, rfl, rfl⟩) (ε := (a0 :: a1 :: some (.dat (flo R U)) :: some (.dat (.int (n : Int))) :: some (.dat (.list (iZ lev))) :: a5 :: some (.dat (.int (s : Int))) :: some (.dat (.int (b : Int))) :: some (.dat (.int L)) :: a9 :: a10 :: a11 :: a12 :: a13 :: rest)) (μ := μ) ⟨a13, rfl, rfl⟩
  obtain ⟨ε', μ', h1, a13', rfl, rfl⟩ := key
  refine ⟨a13', ?_⟩
  have c : n ≤ 100000 := by omega
  unfold L2_law sFor
  simp only [srcR1, aCons, aNil, eVar, List.getElem?_cons_succ, List.getElem?_cons_zero, Option.bind_some, inRg_nat c, if_true, Int.toNat_natCast, okG_none]
  exact h1
end CM
namespace CM
open PySem L2 VX
/-! ### what is bent, and what both say of it -/
theorem ok_sign : PyData.strOk "sign" = true := by
  rw [show ("sign" : Str) = ⟨#[115, 105, 103, 110]⟩ by decide]
  simp [PyData.strOk]
theorem ok_end : PyData.strOk "end" = true := by
  rw [show ("end" : Str) = ⟨#[101, 110, 100]⟩ by decide]
  simp [PyData.strOk]
theorem ok_level : PyData.strOk "level" = true := by
  rw [show ("level" : Str) = ⟨#[108, 101, 118, 101, 108]⟩ by decide]
  simp [PyData.strOk]
theorem ok_pool : PyData.strOk "pool" = true := by
  rw [show ("pool" : Str) = ⟨#[112, 111, 111, 108]⟩ by decide]
  simp [PyData.strOk]
theorem ok_ends : PyData.strOk "ends" = true := by
  rw [show ("ends" : Str) = ⟨#[101, 110, 100, 115]⟩ by decide]
  simp [PyData.strOk]
theorem ok_high : PyData.strOk "high" = true := by
  rw [show ("high" : Str) = ⟨#[104, 105, 103, 104]⟩ by decide]
  simp [PyData.strOk]
theorem ok_leak : PyData.strOk "leak" = true := by
  rw [show ("leak" : Str) = ⟨#[108, 101, 97, 107]⟩ by decide]
  simp [PyData.strOk]
theorem ok_x : PyData.strOk "x" = true := by
  rw [show ("x" : Str) = ⟨#[120]⟩ by decide]
  simp [PyData.strOk]
def FV (d : PyData) : Prop := d = .none ∨ ∃ c, PyData.strOk c = true ∧ (d = .tuple [.str c] ∨ ∃ k : Int, d = .tuple [.str c, .int k])
theorem scan_fv {R U : List Nat} {lev : List Int} {L : Int} {N : List Nat} : ∀ (M : List Nat), FV ((scan R U lev L N M).getD .none)
  | [] => .inl rfl
  | x :: r => by
    rw [scan]
    split
    · exact .inr ⟨_, ok_high, .inr ⟨_, rfl⟩⟩
    · split
      · exact .inr ⟨_, ok_leak, .inr ⟨_, rfl⟩⟩
      · exact scan_fv r
theorem faultV_fv {R U : List Nat} {lev : List Int} {n s b : Nat} {L : Int} {w : Str} {Z : List Int} : FV (faultV R U lev n s b L w Z) := by
  unfold faultV
  split
  · exact .inr ⟨_, ok_sign, .inr ⟨_, rfl⟩⟩
  · unfold faultR
    split
    · exact .inr ⟨_, ok_end, .inl rfl⟩
    · split
      · exact .inr ⟨_, ok_level, .inl rfl⟩
      · split
        · exact .inr ⟨_, ok_pool, .inl rfl⟩
        · split
          · exact .inl rfl
          · split
            · exact .inr ⟨_, ok_ends, .inl rfl⟩
            · exact scan_fv _
theorem sd_str {n : Nat} {c : Str} (h : PyData.strOk c = true) : Sd n (.str c) := ⟨by simp [PyData.canLay0, h], by simp [PyData.depth]⟩
theorem FV.eqv {d : PyData} (h : FV d) : SeqAt.shaped d = true ∧ PyData.eqv d d = true := by
  rcases h with rfl | ⟨c, hc, rfl | ⟨k, rfl⟩⟩
  · exact ⟨shaped_non, eqv_self _ rfl⟩
  · exact ⟨(sd_tup (n := 0) (sds_cons (sd_str hc) sds_nil)).shaped (by decide), eqv_self _ (by simp [nb, nbs])⟩
  · exact ⟨(sd_tup (n := 0) (sds_cons (sd_str hc) (sds_cons sd_int sds_nil))).shaped (by decide), eqv_self _ (by simp [nb, nbs])⟩
theorem WOk.app {a b : Str} (h : WOk a) (h' : WOk b) : WOk (a ++ b) := fun c hc => by
  rw [sgs_app, List.mem_append] at hc
  exact hc.elim (h c) (h' c)
theorem if_t {t : TsF} {A B : RnF} {ε : Evn} {μ : Sto} (h : t ε μ = some (true, μ)) : sIf t A B ε μ = A ε μ := by unfold sIf; rw [h]; rfl
theorem if_f {t : TsF} {A B : RnF} {ε : Evn} {μ : Sto} (h : t ε μ = some (false, μ)) : sIf t A B ε μ = B ε μ := by unfold sIf; rw [h]; rfl
theorem cutP_oZ (Z : List Int) (lo hi : Option Int) : ∃ Y, cutP (oZ Z) lo hi = oZ Y ∧ Y.length ≤ Z.length := by
  refine ⟨(Z.drop (HT.sIx (oZ Z).length 0 lo)).take (HT.sIx (oZ Z).length (oZ Z).length hi - HT.sIx (oZ Z).length 0 lo), ?_, ?_⟩
  · unfold cutP
    generalize HT.sIx (oZ Z).length 0 lo = i
    generalize HT.sIx (oZ Z).length (oZ Z).length hi - i = j
    unfold oZ
    rw [← List.map_drop, ← List.map_take]
  · refine Nat.le_trans (List.length_take_le' _ _) ?_
    simp
theorem wok_x : WOk "x" := fun c hc => by
  rw [show sgs "x" = [("x" : Str)] by decide] at hc
  simp at hc; subst hc; exact ok_x
theorem wok_rl : WOk "rl" := fun c hc => by
  rw [show sgs "rl" = [("r" : Str), "l"] by decide] at hc
  simp at hc
  rcases hc with rfl | rfl
  · exact ok_r
  · exact ok_l
theorem rlud_at {v : Nat} (hv : v < 4) : ∃ x : Str, (∀ μ : Sto, (fIx (.dat (.str "rlud")) (.dat (.int (v : Int))) μ) = some (.dat (.str x), μ)) ∧ x.length = 1 ∧ WOk x := by
  have h4 : (sgs "rlud").length = 4 := by rw [show sgs "rlud" = [("r" : Str), "l", "u", "d"] by decide]; rfl
  obtain ⟨c, e1, e2⟩ := sgs_get (w := "rlud") (i := v) (by omega)
  have hl : ("rlud" : Str).length = 4 := by decide
  refine ⟨⟨#[c]⟩, fun μ => by simp [e1, hl, cap], rfl, fun y hy => ?_⟩
  have : y = (sgs "rlud")[v]'(by omega) := by
    rw [← e2]
    simpa [sgs] using hy
  subst this
  have e3 : sgs "rlud" = [("r" : Str), "l", "u", "d"] := by decide
  have hm2 : (sgs "rlud")[v]'(by omega) ∈ [("r" : Str), "l", "u", "d"] := by rw [← e3]; exact List.getElem_mem _
  simp only [List.mem_cons, List.not_mem_nil, or_false] at hm2
  rcases hm2 with h | h | h | h <;> rw [h]
  · exact ok_r
  · exact ok_l
  · exact ok_u
  · exact ok_d
abbrev bend : RnF := (sIf (tsE (eOp (fEq false) (eVar 19) (eC (.int 0)))) (sSet 16 (eOp (fAdd false) (eVar 16) (eOp fIx (eC (.str "rlud")) (eCallG 2 F__law_take (aCons (eVar 1) (aCons (eC (.int 4)) (aNil))))))) (sIf (tsE (eOp (fEq false) (eVar 19) (eC (.int 1)))) (sSet 16 (eOp (fAdd false) (eVar 16) (eC (.str "x")))) (sIf (tsE (eOp (fEq false) (eVar 19) (eC (.int 2)))) (sSet 15 (eOp (fAdd false) (eVar 15) (eC (.int 1)))) (sIf (tsE (eOp (fEq false) (eVar 19) (eC (.int 3)))) (sSet 17 (eOp (fAdd false) (eSl false (eVar 17) (poN) (poE (eVar 18))) (eSl false (eVar 17) (poE (eOp (fAdd false) (eVar 18) (eC (.int 1)))) (poN)))) (sIf (tsE (eOp (fEq false) (eVar 19) (eC (.int 4)))) (sSet 17 (eSortSet false (aCons (eOp (fAdd false) (eVar 17) (eLst false (aCons (eCallG 2 F__law_take (aCons (eVar 1) (aCons (eOp (fAdd false) (eVar 3) (eC (.int 1))) (aNil)))) (aNil)))) (aNil)))) (sIf (tsE (eOp (fEq false) (eVar 19) (eC (.int 5)))) (sSet 17 (eRevL false (eVar 17))) (sSeq (sSet 16 (eOp (fAdd false) (eC (.str "rl")) (eVar 16))) (sSet 15 (eCa fMax (aCons (eVar 15) (aCons (eOp fIx (eVar 4) (eOp fIx (eOp fIx (eVar 2) (eC (.int 1))) (eVar 6))) (aNil))))))))))))
theorem bend_eq {μ : Sto} {p q n s b at' kind : Nat} {R U : List Nat} {lev : List Int} {L : Int} {w : Str} {Z : List Int} (F : Flo R U n) (hl : lev.length = n) (hs : s < n) (hn : n ≤ 6) (h : StA μ p q) (hw : w.length ≤ 60) (hok : WOk w) (hZ : Z.length ≤ 6) (a0 a5 a8 a9 a10 a11 a12 a13 a14 : Option PV) :
    ∃ (L' : Int) (w' : Str) (Z' : List Int) (μ' : Sto), bend (a0 :: some (.ptr p) :: some (.dat (flo R U)) :: some (.dat (.int (n : Int))) :: some (.dat (.list (iZ lev))) :: a5 :: some (.dat (.int (s : Int))) :: some (.dat (.int (b : Int))) :: a8 :: a9 :: a10 :: a11 :: a12 :: a13 :: a14 :: some (.dat (.int L)) :: some (.dat (.str w)) :: some (.dat (.list (iZ Z))) :: some (.dat (.int (at' : Int))) :: [some (.dat (.int (kind : Int)))]) μ = some (.nx (a0 :: some (.ptr p) :: some (.dat (flo R U)) :: some (.dat (.int (n : Int))) :: some (.dat (.list (iZ lev))) :: a5 :: some (.dat (.int (s : Int))) :: some (.dat (.int (b : Int))) :: a8 :: a9 :: a10 :: a11 :: a12 :: a13 :: a14 :: some (.dat (.int L')) :: some (.dat (.str w')) :: some (.dat (.list (iZ Z'))) :: some (.dat (.int (at' : Int))) :: [some (.dat (.int (kind : Int)))]) μ') ∧ w'.length ≤ 1000 ∧ WOk w' ∧ Z'.length < 64 ∧ StA μ' p q := by
  have t : ∀ k : Int, tsE (eOp (fEq false) (eVar 19) (eC (.int k))) (a0 :: some (.ptr p) :: some (.dat (flo R U)) :: some (.dat (.int (n : Int))) :: some (.dat (.list (iZ lev))) :: a5 :: some (.dat (.int (s : Int))) :: some (.dat (.int (b : Int))) :: a8 :: a9 :: a10 :: a11 :: a12 :: a13 :: a14 :: some (.dat (.int L)) :: some (.dat (.str w)) :: some (.dat (.list (iZ Z))) :: some (.dat (.int (at' : Int))) :: [some (.dat (.int (kind : Int)))]) μ = some (decide ((kind : Int) = k), μ) := fun k => by simp
  have u : ∀ (f : OpF) (a b : EvF) (ε : Evn) (μ : Sto), eOp f a b ε μ = (a ε μ).bind fun x => (b ε x.2).bind fun y => f x.1 y.1 y.2 := fun _ _ _ _ _ => rfl
  unfold bend
  by_cases k0 : kind = 0
  · rw [if_t ((t 0).trans (by rw [decide_eq_true (by omega : (kind : Int) = 0)]))]
    obtain ⟨v, μ', e, hv, h', _⟩ := take_e h (most := 4) (by decide) (by decide) (ε := (a0 :: some (.ptr p) :: some (.dat (flo R U)) :: some (.dat (.int (n : Int))) :: some (.dat (.list (iZ lev))) :: a5 :: some (.dat (.int (s : Int))) :: some (.dat (.int (b : Int))) :: a8 :: a9 :: a10 :: a11 :: a12 :: a13 :: a14 :: some (.dat (.int L)) :: some (.dat (.str w)) :: some (.dat (.list (iZ Z))) :: some (.dat (.int (at' : Int))) :: [some (.dat (.int (kind : Int)))])) (e1 := eVar 1) (e2 := eC (.int 4)) rfl rfl
    obtain ⟨x, ex, lx, ox⟩ := rlud_at hv
    refine ⟨L, w ++ x, Z, μ', ?_, by rw [len_app, lx]; omega, hok.app ox, by omega, h'⟩
    have e3 : eOp fIx (eC (.str "rlud")) (eCallG 2 F__law_take (aCons (eVar 1) (aCons (eC (.int 4)) (aNil)))) (a0 :: some (.ptr p) :: some (.dat (flo R U)) :: some (.dat (.int (n : Int))) :: some (.dat (.list (iZ lev))) :: a5 :: some (.dat (.int (s : Int))) :: some (.dat (.int (b : Int))) :: a8 :: a9 :: a10 :: a11 :: a12 :: a13 :: a14 :: some (.dat (.int L)) :: some (.dat (.str w)) :: some (.dat (.list (iZ Z))) :: some (.dat (.int (at' : Int))) :: [some (.dat (.int (kind : Int)))]) μ = some (.dat (.str x), μ') := by
      rw [u]
      show Option.bind (eCallG 2 F__law_take (aCons (eVar 1) (aCons (eC (.int 4)) (aNil))) (a0 :: some (.ptr p) :: some (.dat (flo R U)) :: some (.dat (.int (n : Int))) :: some (.dat (.list (iZ lev))) :: a5 :: some (.dat (.int (s : Int))) :: some (.dat (.int (b : Int))) :: a8 :: a9 :: a10 :: a11 :: a12 :: a13 :: a14 :: some (.dat (.int L)) :: some (.dat (.str w)) :: some (.dat (.list (iZ Z))) :: some (.dat (.int (at' : Int))) :: [some (.dat (.int (kind : Int)))]) μ) _ = _
      rw [e]
      exact ex μ'
    have c : w.length + x.length ≤ 1000000 := by omega
    unfold sSet
    rw [u]
    show Option.bind (Option.bind (eOp fIx (eC (.str "rlud")) (eCallG 2 F__law_take (aCons (eVar 1) (aCons (eC (.int 4)) (aNil)))) (a0 :: some (.ptr p) :: some (.dat (flo R U)) :: some (.dat (.int (n : Int))) :: some (.dat (.list (iZ lev))) :: a5 :: some (.dat (.int (s : Int))) :: some (.dat (.int (b : Int))) :: a8 :: a9 :: a10 :: a11 :: a12 :: a13 :: a14 :: some (.dat (.int L)) :: some (.dat (.str w)) :: some (.dat (.list (iZ Z))) :: some (.dat (.int (at' : Int))) :: [some (.dat (.int (kind : Int)))]) μ) _) _ = _
    rw [e3]
    simp [cap, c]
  rw [if_f ((t 0).trans (by rw [decide_eq_false (by omega : ¬ (kind : Int) = 0)]))]
  by_cases k1 : kind = 1
  · rw [if_t ((t 1).trans (by rw [decide_eq_true (by omega : (kind : Int) = 1)]))]
    have lx : ("x" : Str).length = 1 := by decide
    refine ⟨L, w ++ "x", Z, μ, ?_, by rw [len_app, lx]; omega, hok.app wok_x, by omega, h⟩
    have c : w.length + 1 ≤ 1000000 := by omega
    simp [cap, lx, c]
  rw [if_f ((t 1).trans (by rw [decide_eq_false (by omega : ¬ (kind : Int) = 1)]))]
  by_cases k2 : kind = 2
  · rw [if_t ((t 2).trans (by rw [decide_eq_true (by omega : (kind : Int) = 2)]))]
    exact ⟨L + 1, w, Z, μ, by simp, by omega, hok, by omega, h⟩
  rw [if_f ((t 2).trans (by rw [decide_eq_false (by omega : ¬ (kind : Int) = 2)]))]
  by_cases k3 : kind = 3
  · rw [if_t ((t 3).trans (by rw [decide_eq_true (by omega : (kind : Int) = 3)]))]
    obtain ⟨Y1, y1, l1⟩ := cutP_oZ Z none (some (at' : Int))
    obtain ⟨Y2, y2, l2⟩ := cutP_oZ Z (some ((at' : Int) + 1)) none
    refine ⟨L, w, Y1 ++ Y2, μ, ?_, by omega, hok, by rw [List.length_append]; omega, h⟩
    have c1 : Y1.length ≤ 1000000 := by omega
    have c2 : Y2.length ≤ 1000000 := by omega
    have c3 : Y1.length + Y2.length ≤ 1000000 := by omega
    simp [cap, y1, y2, c1, c2, c3]
  rw [if_f ((t 3).trans (by rw [decide_eq_false (by omega : ¬ (kind : Int) = 3)]))]
  by_cases k4 : kind = 4
  · rw [if_t ((t 4).trans (by rw [decide_eq_true (by omega : (kind : Int) = 4)]))]
    obtain ⟨v, μ', e, hv, h', _⟩ := take_e h (most := n + 1) (by omega) (by omega) (ε := (a0 :: some (.ptr p) :: some (.dat (flo R U)) :: some (.dat (.int (n : Int))) :: some (.dat (.list (iZ lev))) :: a5 :: some (.dat (.int (s : Int))) :: some (.dat (.int (b : Int))) :: a8 :: a9 :: a10 :: a11 :: a12 :: a13 :: a14 :: some (.dat (.int L)) :: some (.dat (.str w)) :: some (.dat (.list (iZ Z))) :: some (.dat (.int (at' : Int))) :: [some (.dat (.int (kind : Int)))])) (e1 := eVar 1) (e2 := eOp (fAdd false) (eVar 3) (eC (.int 1))) rfl (by simp)
    have lu := usort_len (Z ++ [(v : Int)])
    rw [List.length_append] at lu
    simp only [List.length_cons, List.length_nil] at lu
    refine ⟨L, w, usort (Z ++ [(v : Int)]), μ', ?_, by omega, hok, by omega, h'⟩
    have e3 : eOp (fAdd false) (eVar 17) (eLst false (aCons (eCallG 2 F__law_take (aCons (eVar 1) (aCons (eOp (fAdd false) (eVar 3) (eC (.int 1))) (aNil)))) (aNil))) (a0 :: some (.ptr p) :: some (.dat (flo R U)) :: some (.dat (.int (n : Int))) :: some (.dat (.list (iZ lev))) :: a5 :: some (.dat (.int (s : Int))) :: some (.dat (.int (b : Int))) :: a8 :: a9 :: a10 :: a11 :: a12 :: a13 :: a14 :: some (.dat (.int L)) :: some (.dat (.str w)) :: some (.dat (.list (iZ Z))) :: some (.dat (.int (at' : Int))) :: [some (.dat (.int (kind : Int)))]) μ = some (.dat (.list (iZ (Z ++ [(v : Int)]))), μ') := by
      have e4 : eLst false (aCons (eCallG 2 F__law_take (aCons (eVar 1) (aCons (eOp (fAdd false) (eVar 3) (eC (.int 1))) (aNil)))) (aNil)) (a0 :: some (.ptr p) :: some (.dat (flo R U)) :: some (.dat (.int (n : Int))) :: some (.dat (.list (iZ lev))) :: a5 :: some (.dat (.int (s : Int))) :: some (.dat (.int (b : Int))) :: a8 :: a9 :: a10 :: a11 :: a12 :: a13 :: a14 :: some (.dat (.int L)) :: some (.dat (.str w)) :: some (.dat (.list (iZ Z))) :: some (.dat (.int (at' : Int))) :: [some (.dat (.int (kind : Int)))]) μ = some (.dat (.list [.int (v : Int)]), μ') := by
        simp only [eLst, eCa]
        rw [show ∀ (a : EvF) (ε : Evn) (μ : Sto), aCons a aNil ε μ = (a ε μ).bind fun x => some ([x.1], x.2) from fun _ _ _ => rfl, e]
        simp [asDats, cap]
      have c : Z.length + 1 ≤ 1000000 := by omega
      have e5 : asDats (oZ Z ++ [PV.dat (.int (v : Int))]) = some (iZ (Z ++ [(v : Int)])) := by
        rw [show oZ Z ++ [PV.dat (.int (v : Int))] = oZ (Z ++ [(v : Int)]) from oZ_app Z [(v : Int)], asDats_oZ]
      rw [u]
      show Option.bind (eLst false (aCons (eCallG 2 F__law_take (aCons (eVar 1) (aCons (eOp (fAdd false) (eVar 3) (eC (.int 1))) (aNil)))) (aNil)) (a0 :: some (.ptr p) :: some (.dat (flo R U)) :: some (.dat (.int (n : Int))) :: some (.dat (.list (iZ lev))) :: a5 :: some (.dat (.int (s : Int))) :: some (.dat (.int (b : Int))) :: a8 :: a9 :: a10 :: a11 :: a12 :: a13 :: a14 :: some (.dat (.int L)) :: some (.dat (.str w)) :: some (.dat (.list (iZ Z))) :: some (.dat (.int (at' : Int))) :: [some (.dat (.int (kind : Int)))]) μ) _ = _
      rw [e4]
      have c' : Z.length ≤ 999999 := by omega
      simp [cap, c', e5]
    have c1 : (Z ++ [(v : Int)]).length < 64 := by simp; omega
    have c2 : (usort (Z ++ [(v : Int)])).length ≤ 1000000 := by omega
    unfold sSet eSortSet eCa
    rw [show ∀ (a : EvF) (ε : Evn) (μ : Sto), aCons a aNil ε μ = (a ε μ).bind fun x => some ([x.1], x.2) from fun _ _ _ => rfl, e3]
    simp [-List.length_append, cap, c1, c2]
  rw [if_f ((t 4).trans (by rw [decide_eq_false (by omega : ¬ (kind : Int) = 4)]))]
  by_cases k5 : kind = 5
  · rw [if_t ((t 5).trans (by rw [decide_eq_true (by omega : (kind : Int) = 5)]))]
    refine ⟨L, w, Z.reverse, μ, ?_, by omega, hok, by rw [List.length_reverse]; omega, h⟩
    have c : Z.length ≤ 1000000 := by omega
    have e5 : asDats (oZ Z).reverse = some (iZ Z.reverse) := by
      rw [show (oZ Z).reverse = oZ Z.reverse by unfold oZ; rw [List.map_reverse], asDats_oZ]
    simp [cap, c, e5]
  rw [if_f ((t 5).trans (by rw [decide_eq_false (by omega : ¬ (kind : Int) = 5)]))]
  have lx : ("rl" : Str).length = 2 := by decide
  have ar := at_oL (ns := R) (j := s) (by rw [F.lR]; exact hs)
  have al := at_oZ (ns := lev) (j := g0 R s) (by rw [hl]; exact F.nb_lt _ hs _ (by simp [nbs4]))
  refine ⟨if z0 lev (g0 R s) > L then z0 lev (g0 R s) else L, "rl" ++ w, Z, μ, ?_, by rw [len_app, lx]; omega, wok_rl.app hok, by omega, h⟩
  have c : 2 + w.length ≤ 1000000 := by omega
  simp [cap, lx, c, ar, al]
theorem B3_law_eq {μ : Sto} {p q n s b : Nat} {R U : List Nat} {lev : List Int} {L : Int} {w : Str} {Z : List Int} (F : Flo R U n) (hl : lev.length = n) (hs : s < n) (hb : b < n) (hn : n ≤ 6) (h : StA μ p q) (hw : w.length ≤ 60) (hok : WOk w) (hZ : Z.length ≤ 6) (a0 a5 a8 a9 a11 a12 a13 a14 a15 a16 a17 a18 a19 : Option PV) :
    ∃ (a15' a16' a17' a18' a19' : Option PV) (μ' : Sto), B3_law (a0 :: some (.ptr p) :: some (.dat (flo R U)) :: some (.dat (.int (n : Int))) :: some (.dat (.list (iZ lev))) :: a5 :: some (.dat (.int (s : Int))) :: some (.dat (.int (b : Int))) :: a8 :: a9 :: some (.dat (told L w Z)) :: a11 :: a12 :: a13 :: a14 :: a15 :: a16 :: a17 :: a18 :: [a19]) μ = some (.nx (a0 :: some (.ptr p) :: some (.dat (flo R U)) :: some (.dat (.int (n : Int))) :: some (.dat (.list (iZ lev))) :: a5 :: some (.dat (.int (s : Int))) :: some (.dat (.int (b : Int))) :: a8 :: a9 :: some (.dat (told L w Z)) :: a11 :: a12 :: a13 :: a14 :: a15' :: a16' :: a17' :: a18' :: [a19']) μ') ∧ StA μ' p q := by
  have e1 : sAsg (eVar 10) (tgT 3 (tgsCons (tgN 15) (tgsCons (tgN 16) (tgsCons (tgN 17) (tgsNil))))) (a0 :: some (.ptr p) :: some (.dat (flo R U)) :: some (.dat (.int (n : Int))) :: some (.dat (.list (iZ lev))) :: a5 :: some (.dat (.int (s : Int))) :: some (.dat (.int (b : Int))) :: a8 :: a9 :: some (.dat (told L w Z)) :: a11 :: a12 :: a13 :: a14 :: a15 :: a16 :: a17 :: a18 :: [a19]) μ = some (.nx (a0 :: some (.ptr p) :: some (.dat (flo R U)) :: some (.dat (.int (n : Int))) :: some (.dat (.list (iZ lev))) :: a5 :: some (.dat (.int (s : Int))) :: some (.dat (.int (b : Int))) :: a8 :: a9 :: some (.dat (told L w Z)) :: a11 :: a12 :: a13 :: a14 :: some (.dat (.int L)) :: some (.dat (.str w)) :: some (.dat (.list (iZ Z))) :: a18 :: [a19]) μ) := rfl
  have hmx : ∃ m : Nat, m = (if Z.length > 1 then Z.length else 1) ∧ 0 < m ∧ m ≤ 1000 := ⟨_, rfl, by split <;> omega, by split <;> omega⟩
  obtain ⟨m, em, m0, m1⟩ := hmx
  obtain ⟨v1, μ1, t1, hv1, h1, _⟩ := take_e h (most := m) m0 m1 (ε := (a0 :: some (.ptr p) :: some (.dat (flo R U)) :: some (.dat (.int (n : Int))) :: some (.dat (.list (iZ lev))) :: a5 :: some (.dat (.int (s : Int))) :: some (.dat (.int (b : Int))) :: a8 :: a9 :: some (.dat (told L w Z)) :: a11 :: a12 :: a13 :: a14 :: some (.dat (.int L)) :: some (.dat (.str w)) :: some (.dat (.list (iZ Z))) :: a18 :: [a19])) (e1 := eVar 1) (e2 := eCa fMax (aCons (eC (.int 1)) (aCons (eCa fLen (aCons (eVar 17) (aNil))) (aNil)))) rfl (by
    subst em
    by_cases c : 1 < Z.length
    · simp [c]; omega
    · simp [c]; omega)
  obtain ⟨v2, μ2, t2, hv2, h2, _⟩ := take_e h1 (most := 7) (by decide) (by decide) (ε := (a0 :: some (.ptr p) :: some (.dat (flo R U)) :: some (.dat (.int (n : Int))) :: some (.dat (.list (iZ lev))) :: a5 :: some (.dat (.int (s : Int))) :: some (.dat (.int (b : Int))) :: a8 :: a9 :: some (.dat (told L w Z)) :: a11 :: a12 :: a13 :: a14 :: some (.dat (.int L)) :: some (.dat (.str w)) :: some (.dat (.list (iZ Z))) :: some (.dat (.int (v1 : Int))) :: [a19])) (e1 := eVar 1) (e2 := eC (.int 7)) rfl rfl
  obtain ⟨L', w', Z', μ', e, c1, c2, c3, h3⟩ := bend_eq (L := L) (b := b) (at' := v1) (kind := v2) F hl hs hn h2 hw hok hZ a0 a5 a8 a9 (some (.dat (told L w Z))) a11 a12 a13 a14
  have s2 : sSet 18 (eCallG 2 F__law_take (aCons (eVar 1) (aCons (eCa fMax (aCons (eC (.int 1)) (aCons (eCa fLen (aCons (eVar 17) (aNil))) (aNil)))) (aNil)))) (a0 :: some (.ptr p) :: some (.dat (flo R U)) :: some (.dat (.int (n : Int))) :: some (.dat (.list (iZ lev))) :: a5 :: some (.dat (.int (s : Int))) :: some (.dat (.int (b : Int))) :: a8 :: a9 :: some (.dat (told L w Z)) :: a11 :: a12 :: a13 :: a14 :: some (.dat (.int L)) :: some (.dat (.str w)) :: some (.dat (.list (iZ Z))) :: a18 :: [a19]) μ = some (.nx (a0 :: some (.ptr p) :: some (.dat (flo R U)) :: some (.dat (.int (n : Int))) :: some (.dat (.list (iZ lev))) :: a5 :: some (.dat (.int (s : Int))) :: some (.dat (.int (b : Int))) :: a8 :: a9 :: some (.dat (told L w Z)) :: a11 :: a12 :: a13 :: a14 :: some (.dat (.int L)) :: some (.dat (.str w)) :: some (.dat (.list (iZ Z))) :: some (.dat (.int (v1 : Int))) :: [a19]) μ1) := by unfold sSet; rw [t1]; rfl
  have s3 : sSet 19 (eCallG 2 F__law_take (aCons (eVar 1) (aCons (eC (.int 7)) (aNil)))) (a0 :: some (.ptr p) :: some (.dat (flo R U)) :: some (.dat (.int (n : Int))) :: some (.dat (.list (iZ lev))) :: a5 :: some (.dat (.int (s : Int))) :: some (.dat (.int (b : Int))) :: a8 :: a9 :: some (.dat (told L w Z)) :: a11 :: a12 :: a13 :: a14 :: some (.dat (.int L)) :: some (.dat (.str w)) :: some (.dat (.list (iZ Z))) :: some (.dat (.int (v1 : Int))) :: [a19]) μ1 = some (.nx (a0 :: some (.ptr p) :: some (.dat (flo R U)) :: some (.dat (.int (n : Int))) :: some (.dat (.list (iZ lev))) :: a5 :: some (.dat (.int (s : Int))) :: some (.dat (.int (b : Int))) :: a8 :: a9 :: some (.dat (told L w Z)) :: a11 :: a12 :: a13 :: a14 :: some (.dat (.int L)) :: some (.dat (.str w)) :: some (.dat (.list (iZ Z))) :: some (.dat (.int (v1 : Int))) :: [some (.dat (.int (v2 : Int)))]) μ2) := by unfold sSet; rw [t2]; rfl
  refine ⟨some (.dat (.int L')), some (.dat (.str w')), some (.dat (.list (iZ Z'))), some (.dat (.int (v1 : Int))), some (.dat (.int (v2 : Int))), μ', ?_, h3⟩
  have f1 := F_lpf_eq (w := w') (L := L') F hl hs hb c3
  have f2 := F_lf_eq (L := L') F hl hs hb c3 c1 c2
  have fv := (faultV_fv (R := R) (U := U) (lev := lev) (n := n) (s := s) (b := b) (L := L') (w := w') (Z := Z')).eqv
  unfold told at f1 f2
  unfold B3_law
  rw [seq_nx e1, seq_nx s2, seq_nx s3, seq_nx e]
  simp [asDats, cap, f1, f2, fv]
end CM
namespace CM
open PySem L2 VX
theorem or_f {a b : TsF} {ε : Evn} {μ : Sto} (h : a ε μ = some (false, μ)) (h' : b ε μ = some (false, μ)) : tsOr a b ε μ = some (false, μ) := by unfold tsOr; rw [h]; exact h'
theorem set_e {i : Nat} {e : EvF} {ε : Evn} {μ μ' : Sto} {v : PV} (h : e ε μ = some (v, μ')) : sSet i e ε μ = some (.nx (ε.set i (some v)) μ') := by unfold sSet; rw [h]; rfl
theorem op_u (f : OpF) (a b : EvF) (ε : Evn) (μ : Sto) : eOp f a b ε μ = (a ε μ).bind fun x => (b ε x.2).bind fun y => f x.1 y.1 y.2 := rfl
theorem L3_law_eq {μ : Sto} {p q n s b : Nat} {R U : List Nat} {lev : List Int} {L : Int} {w : Str} {Z : List Int} (F : Flo R U n) (hl : lev.length = n) (hs : s < n) (hb : b < n) (hn : n ≤ 6) (h : StA μ p q) (hw : w.length ≤ 60) (hok : WOk w) (hZ : Z.length ≤ 6) (a0 a5 a8 a9 a11 a12 a13 a14 a15 a16 a17 a18 a19 : Option PV) :
    ∃ (ε' : Evn) (μ' : Sto), L3_law (a0 :: some (.ptr p) :: some (.dat (flo R U)) :: some (.dat (.int (n : Int))) :: some (.dat (.list (iZ lev))) :: a5 :: some (.dat (.int (s : Int))) :: some (.dat (.int (b : Int))) :: a8 :: a9 :: some (.dat (told L w Z)) :: a11 :: a12 :: a13 :: a14 :: a15 :: a16 :: a17 :: a18 :: [a19]) μ = some (.nx ε' μ') := by
  have key := forD_all (G := fun _ => true) (tg := tgN 14) (b := B3_law)
    (fun i ε μ' => ∃ a14 a15 a16 a17 a18 a19, ε = (a0 :: some (.ptr p) :: some (.dat (flo R U)) :: some (.dat (.int (n : Int))) :: some (.dat (.list (iZ lev))) :: a5 :: some (.dat (.int (s : Int))) :: some (.dat (.int (b : Int))) :: a8 :: a9 :: some (.dat (told L w Z)) :: a11 :: a12 :: a13 :: a14 :: a15 :: a16 :: a17 :: a18 :: [a19]) ∧ StA μ' p q) ((List.range 8).map fun i => PV.dat (.int (i : Nat))) (fun _ _ _ _ => rfl) (fun i x ε μ' hp h' => by
      obtain ⟨a14, a15, a16, a17, a18, a19, rfl, h'⟩ := h'
      obtain ⟨a15', a16', a17', a18', a19', μ'', e, h''⟩ := B3_law_eq F hl hs hb hn h' hw hok hZ a0 a5 a8 a9 a11 a12 a13 (some x) a15 a16 a17 a18 a19
      exact ⟨_, _, _, _, rfl, e, _, _, _, _, _, _, rfl, h''⟩) (ε := (a0 :: some (.ptr p) :: some (.dat (flo R U)) :: some (.dat (.int (n : Int))) :: some (.dat (.list (iZ lev))) :: a5 :: some (.dat (.int (s : Int))) :: some (.dat (.int (b : Int))) :: a8 :: a9 :: some (.dat (told L w Z)) :: a11 :: a12 :: a13 :: a14 :: a15 :: a16 :: a17 :: a18 :: [a19])) (μ := μ) ⟨a14, a15, a16, a17, a18, a19, rfl, h⟩
  obtain ⟨ε', μ', h1, _⟩ := key
  refine ⟨ε', μ', ?_⟩
  unfold L3_law sFor
  simp only [srcR1, aCons, aNil, eC, Option.bind_some, inRg_nat (show 8 ≤ 100000 by decide), okG_none]
  rw [if_pos (inRg_int (by decide) (by decide))]
  exact h1
theorem F_law_eq {ns : List Int} (h : ns.length ≤ 63) : ∃ μ, F_law [.scr ns] [] = some (.dat (.bool true), μ) := by
  obtain ⟨p, q, μ0, e0, h0⟩ := F__law_state_eq h
  obtain ⟨R, U, n, μ1, e1, F, C, hn0, hn, h1⟩ := F__law_floor_eq h0
  have x0 : sSet 1 (eCallG 1 F__law_state (aCons (eVar 0) (aNil))) [some (.scr ns), none, none, none, none, none, none, none, none, none, none, none, none, none, none, none, none, none, none, none] [] = some (.nx [some (.scr ns), some (.ptr p), none, none, none, none, none, none, none, none, none, none, none, none, none, none, none, none, none, none] μ0) := set_e (by simp only [eCallG, aCons, aNil, eVar, List.getElem?_cons_zero, Option.bind_some, List.length_cons, List.length_nil, if_pos, e0])
  have x1 : sSet 2 (eCallG 2 F__law_floor (aCons (eVar 1) (aCons (eC (.int 6)) (aNil)))) [some (.scr ns), some (.ptr p), none, none, none, none, none, none, none, none, none, none, none, none, none, none, none, none, none, none] μ0 = some (.nx [some (.scr ns), some (.ptr p), some (.dat (flo R U)), none, none, none, none, none, none, none, none, none, none, none, none, none, none, none, none, none] μ1) := set_e (by simp only [eCallG, aCons, aNil, eVar, eC, List.getElem?_cons_succ, List.getElem?_cons_zero, Option.bind_some, List.length_cons, List.length_nil, if_pos, e1])
  have x2 : sSet 3 (eCa fLen (aCons (eOp fIx (eVar 2) (eC (.int 1))) (aNil))) [some (.scr ns), some (.ptr p), some (.dat (flo R U)), none, none, none, none, none, none, none, none, none, none, none, none, none, none, none, none, none] μ1 = some (.nx [some (.scr ns), some (.ptr p), some (.dat (flo R U)), some (.dat (.int (n : Int))), none, none, none, none, none, none, none, none, none, none, none, none, none, none, none, none] μ1) := by simp [F.lR]
  obtain ⟨lev, μ2, e3, hl, h2⟩ := levels_eq h1 hn (some (.scr ns)) (some (.dat (flo R U))) none [none, none, none, none, none, none, none, none, none, none, none, none, none, none]
  have x3 : sSet 4 (C1_law) [some (.scr ns), some (.ptr p), some (.dat (flo R U)), some (.dat (.int (n : Int))), none, none, none, none, none, none, none, none, none, none, none, none, none, none, none, none] μ1 = some (.nx [some (.scr ns), some (.ptr p), some (.dat (flo R U)), some (.dat (.int (n : Int))), some (.dat (.list (iZ lev))), none, none, none, none, none, none, none, none, none, none, none, none, none, none, none] μ2) := set_e e3
  obtain ⟨s, μ3, t1, hs, h3, _⟩ := take_e h2 (most := n) hn0 (by omega) (ε := [some (.scr ns), some (.ptr p), some (.dat (flo R U)), some (.dat (.int (n : Int))), some (.dat (.list (iZ lev))), none, none, none, none, none, none, none, none, none, none, none, none, none, none, none]) (e1 := eVar 1) (e2 := eVar 3) rfl rfl
  obtain ⟨b, μ4, t2, hb, h4, _⟩ := take_e h3 (most := n) hn0 (by omega) (ε := [some (.scr ns), some (.ptr p), some (.dat (flo R U)), some (.dat (.int (n : Int))), some (.dat (.list (iZ lev))), none, none, none, none, none, none, none, none, none, none, none, none, none, none, none]) (e1 := eVar 1) (e2 := eVar 3) rfl rfl
  have x4 : sAsgT 2 (aCons (eCallG 2 F__law_take (aCons (eVar 1) (aCons (eVar 3) (aNil)))) (aCons (eCallG 2 F__law_take (aCons (eVar 1) (aCons (eVar 3) (aNil)))) (aNil))) (tgsCons (tgN 6) (tgsCons (tgN 7) (tgsNil))) [some (.scr ns), some (.ptr p), some (.dat (flo R U)), some (.dat (.int (n : Int))), some (.dat (.list (iZ lev))), none, none, none, none, none, none, none, none, none, none, none, none, none, none, none] μ2 = some (.nx [some (.scr ns), some (.ptr p), some (.dat (flo R U)), some (.dat (.int (n : Int))), some (.dat (.list (iZ lev))), none, some (.dat (.int (s : Int))), some (.dat (.int (b : Int))), none, none, none, none, none, none, none, none, none, none, none, none] μ4) := by
    have y : ∀ (a b : EvF) (ε : Evn) (μ μ1 μ2 : Sto) (v w : PV), a ε μ = some (v, μ1) → b ε μ1 = some (w, μ2) → aCons a (aCons b aNil) ε μ = some ([v, w], μ2) := fun a b ε μ μ1 μ2 v w h1 h2 => by
      simp only [aCons, aNil, h1, h2, Option.bind_some]
    unfold sAsgT
    rw [y _ _ _ _ _ _ _ _ t1 t2]
    simp only [Option.bind_some]
    rw [if_pos ⟨rfl, by decide⟩]
    rfl
  obtain ⟨due, e5, low⟩ := due_eq F C hs hb hl μ4 (some (.scr ns)) (some (.ptr p)) (some (.dat (.int (n : Int)))) none none [none, none, none, none, none, none, none, none, none, none]
  have x5 : sSet 8 (eOp fIx (C2_law) (eC (.int 0))) [some (.scr ns), some (.ptr p), some (.dat (flo R U)), some (.dat (.int (n : Int))), some (.dat (.list (iZ lev))), none, some (.dat (.int (s : Int))), some (.dat (.int (b : Int))), none, none, none, none, none, none, none, none, none, none, none, none] μ4 = some (.nx [some (.scr ns), some (.ptr p), some (.dat (flo R U)), some (.dat (.int (n : Int))), some (.dat (.list (iZ lev))), none, some (.dat (.int (s : Int))), some (.dat (.int (b : Int))), some (.dat (.int due)), none, none, none, none, none, none, none, none, none, none, none] μ4) := set_e e5
  obtain ⟨due', w, Z, e6, ht⟩ := F_lowest_pass_eq F C hs hb hl
  have : due' = due := ht.low.uniq low
  subst this
  have x6 : sSet 10 (eCallP 4 F_lowest_pass (aCons (eVar 2) (aCons (eVar 4) (aCons (eVar 6) (aCons (eVar 7) (aNil)))))) [some (.scr ns), some (.ptr p), some (.dat (flo R U)), some (.dat (.int (n : Int))), some (.dat (.list (iZ lev))), none, some (.dat (.int (s : Int))), some (.dat (.int (b : Int))), some (.dat (.int due')), none, none, none, none, none, none, none, none, none, none, none] μ4 = some (.nx [some (.scr ns), some (.ptr p), some (.dat (flo R U)), some (.dat (.int (n : Int))), some (.dat (.list (iZ lev))), none, some (.dat (.int (s : Int))), some (.dat (.int (b : Int))), some (.dat (.int due')), none, some (.dat (told due' w Z)), none, none, none, none, none, none, none, none, none] μ4) := set_e (by simp [asDats, e6])
  obtain ⟨zl, _, _⟩ := ht.zlen F hs
  have f1 := F_lpf_eq (w := w) (L := due') (Z := Z) F hl hs hb (by omega)
  have f2 := F_lf_eq (w := w) (L := due') (Z := Z) F hl hs hb (by omega) (by have := ht.wlen; omega) ht.wok
  rw [fault_told F hl hs hb ht] at f1 f2
  unfold told at f1 f2
  have x7 : tsOr (tsE (eOp (fEq true) (eOp fIx (eVar 10) (eC (.int 0))) (eVar 8))) (tsOr (tsE (eOp (fIs true) (eCallP 5 F__law_fault (aCons (eVar 2) (aCons (eVar 4) (aCons (eVar 6) (aCons (eVar 7) (aCons (eVar 10) (aNil))))))) (eC .none))) (tsE (eOp (fIs true) (eCallP 5 F_lowest_pass_fault (aCons (eVar 2) (aCons (eVar 4) (aCons (eVar 6) (aCons (eVar 7) (aCons (eVar 10) (aNil))))))) (eC .none)))) [some (.scr ns), some (.ptr p), some (.dat (flo R U)), some (.dat (.int (n : Int))), some (.dat (.list (iZ lev))), none, some (.dat (.int (s : Int))), some (.dat (.int (b : Int))), some (.dat (.int due')), none, some (.dat (told due' w Z)), none, none, none, none, none, none, none, none, none] μ4 = some (false, μ4) := by simp [asDats, f1, f2]
  obtain ⟨v, μ5, t3, hv, h5, _⟩ := take_e h4 (most := 7) (by decide) (by decide) (ε := [some (.scr ns), some (.ptr p), some (.dat (flo R U)), some (.dat (.int (n : Int))), some (.dat (.list (iZ lev))), none, some (.dat (.int (s : Int))), some (.dat (.int (b : Int))), some (.dat (.int due')), none, some (.dat (told due' w Z)), none, none, none, none, none, none, none, none, none]) (e1 := eVar 1) (e2 := eC (.int 7)) rfl rfl
  have x8 : sSet 9 (eOp fSub (eCallG 2 F__law_take (aCons (eVar 1) (aCons (eC (.int 7)) (aNil)))) (eC (.int 1))) [some (.scr ns), some (.ptr p), some (.dat (flo R U)), some (.dat (.int (n : Int))), some (.dat (.list (iZ lev))), none, some (.dat (.int (s : Int))), some (.dat (.int (b : Int))), some (.dat (.int due')), none, some (.dat (told due' w Z)), none, none, none, none, none, none, none, none, none] μ4 = some (.nx [some (.scr ns), some (.ptr p), some (.dat (flo R U)), some (.dat (.int (n : Int))), some (.dat (.list (iZ lev))), none, some (.dat (.int (s : Int))), some (.dat (.int (b : Int))), some (.dat (.int due')), some (.dat (.int ((v : Int) - 1))), some (.dat (told due' w Z)), none, none, none, none, none, none, none, none, none] μ5) := set_e (by rw [op_u, t3]; rfl)
  have x9 : sSet 11 (eLst false (aNil)) [some (.scr ns), some (.ptr p), some (.dat (flo R U)), some (.dat (.int (n : Int))), some (.dat (.list (iZ lev))), none, some (.dat (.int (s : Int))), some (.dat (.int (b : Int))), some (.dat (.int due')), some (.dat (.int ((v : Int) - 1))), some (.dat (told due' w Z)), none, none, none, none, none, none, none, none, none] μ5 = some (.nx [some (.scr ns), some (.ptr p), some (.dat (flo R U)), some (.dat (.int (n : Int))), some (.dat (.list (iZ lev))), none, some (.dat (.int (s : Int))), some (.dat (.int (b : Int))), some (.dat (.int due')), some (.dat (.int ((v : Int) - 1))), some (.dat (told due' w Z)), some (.dat (.list [])), none, none, none, none, none, none, none, none] μ5) := rfl
  obtain ⟨P, hP⟩ := pools_of (most := (v : Int) - 1) F hl
  obtain ⟨a5, a12, x10⟩ := L1_law_eq F hP μ5 (some (.scr ns)) (some (.ptr p)) none (some (.dat (.int (s : Int)))) (some (.dat (.int (b : Int)))) (some (.dat (.int due'))) (some (.dat (told due' w Z))) none [none, none, none, none, none, none, none]
  have e10 := F_pools_eq F hP hl
  have y1 : tsE (eOp (fEq true) (eCallP 3 F_pools (aCons (eVar 2) (aCons (eVar 4) (aCons (eVar 9) (aNil))))) (eVar 11)) [some (.scr ns), some (.ptr p), some (.dat (flo R U)), some (.dat (.int (n : Int))), some (.dat (.list (iZ lev))), a5, some (.dat (.int (s : Int))), some (.dat (.int (b : Int))), some (.dat (.int due')), some (.dat (.int ((v : Int) - 1))), some (.dat (told due' w Z)), some (.dat (.list (iP (lotsTo P lev ((v : Int) - 1) n)))), a12, none, none, none, none, none, none, none] μ5 = some (false, μ5) := by
    have := eqv_self _ (nb_iP (lotsTo P lev ((v : Int) - 1) n))
    simp [asDats, e10, this]
  have z1 := lp_e F C hb hs hl (low.symm F hs hb) (ε := [some (.scr ns), some (.ptr p), some (.dat (flo R U)), some (.dat (.int (n : Int))), some (.dat (.list (iZ lev))), a5, some (.dat (.int (s : Int))), some (.dat (.int (b : Int))), some (.dat (.int due')), some (.dat (.int ((v : Int) - 1))), some (.dat (told due' w Z)), some (.dat (.list (iP (lotsTo P lev ((v : Int) - 1) n)))), a12, none, none, none, none, none, none, none]) (μ := μ5) (e1 := eVar 2) (e2 := eVar 4) (e3 := eVar 7) (e4 := eVar 6) rfl rfl rfl rfl
  have z2 := lp_e F C hs hs hl (isLow_self hl hs) (ε := [some (.scr ns), some (.ptr p), some (.dat (flo R U)), some (.dat (.int (n : Int))), some (.dat (.list (iZ lev))), a5, some (.dat (.int (s : Int))), some (.dat (.int (b : Int))), some (.dat (.int due')), some (.dat (.int ((v : Int) - 1))), some (.dat (told due' w Z)), some (.dat (.list (iP (lotsTo P lev ((v : Int) - 1) n)))), a12, none, none, none, none, none, none, none]) (μ := μ5) (e1 := eVar 2) (e2 := eVar 4) (e3 := eVar 6) (e4 := eVar 6) rfl rfl rfl rfl
  have as := at_oZ (ns := lev) (j := s) (by omega)
  have y2 : tsE (eOp (fEq true) (eOp fIx (eCallP 4 F_lowest_pass (aCons (eVar 2) (aCons (eVar 4) (aCons (eVar 7) (aCons (eVar 6) (aNil)))))) (eC (.int 0))) (eVar 8)) [some (.scr ns), some (.ptr p), some (.dat (flo R U)), some (.dat (.int (n : Int))), some (.dat (.list (iZ lev))), a5, some (.dat (.int (s : Int))), some (.dat (.int (b : Int))), some (.dat (.int due')), some (.dat (.int ((v : Int) - 1))), some (.dat (told due' w Z)), some (.dat (.list (iP (lotsTo P lev ((v : Int) - 1) n)))), a12, none, none, none, none, none, none, none] μ5 = some (false, μ5) := by
    unfold tsE
    rw [op_u, z1]
    simp
  have y3 : tsE (eOp (fEq true) (eOp fIx (eCallP 4 F_lowest_pass (aCons (eVar 2) (aCons (eVar 4) (aCons (eVar 6) (aCons (eVar 6) (aNil)))))) (eC (.int 0))) (eOp fIx (eVar 4) (eVar 6))) [some (.scr ns), some (.ptr p), some (.dat (flo R U)), some (.dat (.int (n : Int))), some (.dat (.list (iZ lev))), a5, some (.dat (.int (s : Int))), some (.dat (.int (b : Int))), some (.dat (.int due')), some (.dat (.int ((v : Int) - 1))), some (.dat (told due' w Z)), some (.dat (.list (iP (lotsTo P lev ((v : Int) - 1) n)))), a12, none, none, none, none, none, none, none] μ5 = some (false, μ5) := by
    unfold tsE
    rw [op_u, z2]
    simp [as]
  have x11 : tsOr (tsE (eOp (fEq true) (eCallP 3 F_pools (aCons (eVar 2) (aCons (eVar 4) (aCons (eVar 9) (aNil))))) (eVar 11))) (tsOr (tsE (eOp (fEq true) (eOp fIx (eCallP 4 F_lowest_pass (aCons (eVar 2) (aCons (eVar 4) (aCons (eVar 7) (aCons (eVar 6) (aNil)))))) (eC (.int 0))) (eVar 8))) (tsE (eOp (fEq true) (eOp fIx (eCallP 4 F_lowest_pass (aCons (eVar 2) (aCons (eVar 4) (aCons (eVar 6) (aCons (eVar 6) (aNil)))))) (eC (.int 0))) (eOp fIx (eVar 4) (eVar 6))))) [some (.scr ns), some (.ptr p), some (.dat (flo R U)), some (.dat (.int (n : Int))), some (.dat (.list (iZ lev))), a5, some (.dat (.int (s : Int))), some (.dat (.int (b : Int))), some (.dat (.int due')), some (.dat (.int ((v : Int) - 1))), some (.dat (told due' w Z)), some (.dat (.list (iP (lotsTo P lev ((v : Int) - 1) n)))), a12, none, none, none, none, none, none, none] μ5 = some (false, μ5) := or_f y1 (or_f y2 y3)
  obtain ⟨a13, x12⟩ := L2_law_eq F C hs hb hl low μ5 (some (.scr ns)) (some (.ptr p)) a5 (some (.dat (.int ((v : Int) - 1)))) (some (.dat (told due' w Z))) (some (.dat (.list (iP (lotsTo P lev ((v : Int) - 1) n))))) a12 none [none, none, none, none, none, none]
  obtain ⟨ε', μ6, x13⟩ := L3_law_eq (L := due') (w := w) (Z := Z) F hl hs hb hn h5 ht.wlen ht.wok (by omega) (some (.scr ns)) a5 (some (.dat (.int due'))) (some (.dat (.int ((v : Int) - 1)))) (some (.dat (.list (iP (lotsTo P lev ((v : Int) - 1) n))))) a12 a13 none none none none none none
  refine ⟨μ6, fnG_rt rfl ?_⟩
  show r_law [some (.scr ns), none, none, none, none, none, none, none, none, none, none, none, none, none, none, none, none, none, none, none] [] = _
  unfold r_law
  rw [seq_nx x0, seq_nx x1, seq_nx x2, seq_nx x3, seq_nx x4, seq_nx x5, seq_nx x6, seq_f x7, seq_nx x8, seq_nx x9, seq_nx x10, seq_f x11, seq_nx x12, seq_nx x13]
  rfl
end CM
namespace K66
open PySem L2 VX
theorem holds (ns : List Int) (h : ns.length ≤ 63) : ∃ μ, CM.F_law [.scr ns] [] = some (.dat (.bool true), μ) := CM.F_law_eq h
end K66
open PySem PySem.W PyProof.Rows
set_option maxHeartbeats 0 in
theorem PySem.Challenge.cw_straightways_k66_lowest_passes_holds : PySem.Challenge.rw_straightways_k66_lowest_passes.Holds := by
  w_on; o_law; k_head; (case hw => w_witness2)
  k_fill
  refine L2.walk_ofK (l := PySem.Challenge.rw_straightways_k66_lowest_passes) (n := 63) (k := 6) (x := "script") (CX := L2.CX0) (sp := fun K => VX.spG K 1 CM.F_law) rfl (by decide) rfl ⟨rfl, by decide, by decide⟩ (fun w h Y => PySem.W.kIn_of Y) ?F (fun K H a ns hl _ hS => VX.law_sp (K66.holds ns hl) hS) (fun _ _ _ _ h => h)
  case F =>
    intro w mg fa h KX G hmg
    refine' K66.law_fn (K66.Tx.mk (PySem.W.mg_none_of KX G ?z_abs) (PySem.W.mg_none_of KX G ?z_all) (PySem.W.mg_none_of KX G ?z_any) (PySem.W.mg_none_of KX G ?z_dict) (PySem.W.mg_none_of KX G ?z_enumerate) (PySem.W.mg_none_of KX G ?z_int) (PySem.W.mg_none_of KX G ?z_len) (PySem.W.mg_none_of KX G ?z_max) (PySem.W.mg_none_of KX G ?z_range) (PySem.W.mg_none_of KX G ?z_set) (PySem.W.mg_none_of KX G ?z_sorted) (VX.at_mk KX G (fun _ _ _ _ _ _ us hl => match us, hl with | [_], _ => rfl) ?a_turned_back ?l_turned_back ?c_turned_back ?k_turned_back) (VX.at_mk KX G (fun _ _ _ _ _ _ us hl => match us, hl with | [_], _ => rfl) ?a_left ?l_left ?c_left ?k_left) (VX.at_mk KX G (fun _ _ _ _ _ _ us hl => match us, hl with | [_], _ => rfl) ?a_down ?l_down ?c_down ?k_down) (VX.at_mk KX G (fun _ _ _ _ _ _ us hl => match us, hl with | [_], _ => rfl) ?a_near_lists ?l_near_lists ?c_near_lists ?k_near_lists) (VX.at_mk KX G (fun _ _ _ _ _ _ us hl => match us, hl with | [_, _, _, _], _ => rfl) ?a_pool_of ?l_pool_of ?c_pool_of ?k_pool_of) (VX.at_mk KX G (fun _ _ _ _ _ _ us hl => match us, hl with | [_, _, _, _, _], _ => rfl) ?a_word_within ?l_word_within ?c_word_within ?k_word_within) (VX.at_mk KX G (fun _ _ _ _ _ _ us hl => match us, hl with | [_, _, _, _], _ => rfl) ?a_lowest_pass ?l_lowest_pass ?c_lowest_pass ?k_lowest_pass) (VX.at_mk KX G (fun _ _ _ _ _ _ us hl => match us, hl with | [_, _, _, _, _], _ => rfl) ?a_lowest_pass_fault ?l_lowest_pass_fault ?c_lowest_pass_fault ?k_lowest_pass_fault) (VX.at_mk KX G (fun _ _ _ _ _ _ us hl => match us, hl with | [_, _, _], _ => rfl) ?a_pools ?l_pools ?c_pools ?k_pools) (VX.at_mk KX G (fun _ _ _ _ _ _ us hl => match us, hl with | [_], _ => rfl) ?a__law_state ?l__law_state ?c__law_state ?k__law_state) (VX.at_mk KX G (fun _ _ _ _ _ _ us hl => match us, hl with | [_, _], _ => rfl) ?a__law_take ?l__law_take ?c__law_take ?k__law_take) (VX.at_mk KX G (fun _ _ _ _ _ _ us hl => match us, hl with | [_, _], _ => rfl) ?a__law_floor ?l__law_floor ?c__law_floor ?k__law_floor) (VX.at_mk KX G (fun _ _ _ _ _ _ us hl => match us, hl with | [_], _ => rfl) ?a__law_lists ?l__law_lists ?c__law_lists ?k__law_lists) (VX.at_mk KX G (fun _ _ _ _ _ _ us hl => match us, hl with | [_, _, _, _], _ => rfl) ?a__law_pool ?l__law_pool ?c__law_pool ?k__law_pool) (VX.at_mk KX G (fun _ _ _ _ _ _ us hl => match us, hl with | [_, _, _, _, _], _ => rfl) ?a__law_fault ?l__law_fault ?c__law_fault ?k__law_fault) (VX.at_mk KX G (fun _ _ _ _ _ _ us hl => match us, hl with | [_], _ => rfl) ?a_law ?l_law ?c_law ?k_law)) KX G hmg ?a_l ?l_l ?c_l ?k_l
    (case z_abs => k_is)
    (case z_all => k_is)
    (case z_any => k_is)
    (case z_dict => k_is)
    (case z_enumerate => k_is)
    (case z_int => k_is)
    (case z_len => k_is)
    (case z_max => k_is)
    (case z_range => k_is)
    (case z_set => k_is)
    (case z_sorted => k_is)
    (case a_turned_back => k_is); (case l_turned_back => k_is); (case c_turned_back => k_is); (case k_turned_back => k_is)
    (case a_left => k_is); (case l_left => k_is); (case c_left => k_is); (case k_left => k_is)
    (case a_down => k_is); (case l_down => k_is); (case c_down => k_is); (case k_down => k_is)
    (case a_near_lists => k_is); (case l_near_lists => k_is); (case c_near_lists => k_is); (case k_near_lists => k_is)
    (case a_pool_of => k_is); (case l_pool_of => k_is); (case c_pool_of => k_is); (case k_pool_of => k_is)
    (case a_word_within => k_is); (case l_word_within => k_is); (case c_word_within => k_is); (case k_word_within => k_is)
    (case a_lowest_pass => k_is); (case l_lowest_pass => k_is); (case c_lowest_pass => k_is); (case k_lowest_pass => k_is)
    (case a_lowest_pass_fault => k_is); (case l_lowest_pass_fault => k_is); (case c_lowest_pass_fault => k_is); (case k_lowest_pass_fault => k_is)
    (case a_pools => k_is); (case l_pools => k_is); (case c_pools => k_is); (case k_pools => k_is)
    (case a__law_state => k_is); (case l__law_state => k_is); (case c__law_state => k_is); (case k__law_state => k_is)
    (case a__law_take => k_is); (case l__law_take => k_is); (case c__law_take => k_is); (case k__law_take => k_is)
    (case a__law_floor => k_is); (case l__law_floor => k_is); (case c__law_floor => k_is); (case k__law_floor => k_is)
    (case a__law_lists => k_is); (case l__law_lists => k_is); (case c__law_lists => k_is); (case k__law_lists => k_is)
    (case a__law_pool => k_is); (case l__law_pool => k_is); (case c__law_pool => k_is); (case k__law_pool => k_is)
    (case a__law_fault => k_is); (case l__law_fault => k_is); (case c__law_fault => k_is); (case k__law_fault => k_is)
    (case a_law => k_is); (case l_law => k_is); (case c_law => k_is); (case k_law => k_is)
    (case a_l => k_is); (case l_l => k_is); (case c_l => k_is); (case k_l => k_is)
