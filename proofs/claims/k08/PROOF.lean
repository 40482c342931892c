import PyProof.Rows.All
import Wide.All
import OpenK.AllK
import Wide.FinOn
import PyProof.AssignAttr
import HandS.ExcCtx
import KE.LtSeq
import HandS.HeadHook2
import HandS.HotCalls
import HandS.HeadHook1
import HandS.Style
import HandS.EndBits
import HandS.Evl
import HandS.TupMul
import HandS.TupAny
import HandS.ExcIs
import HandS.IsInst
import HandS.Wide
import HandS.ForExc
import HandS.ForMost
import KE.KTupSum
import PySem.Challenge.RW_partline_k08_readers
set_option Elab.async false
set_option linter.all false
set_option maxRecDepth 100000
set_option maxHeartbeats 4000000
set_option maxRecDepth 100000
set_option maxHeartbeats 4000000
namespace DL
open PySem PySem.Spec PyProof.Rows L2 Evl
variable {nn : Nat}
abbrev Dt := PyData
/-! ## data over heaps -/
/-- a list that stands still and is not ours (the script) -/
abbrev fz (ds : List Dt) : Dt := .dict [(.none, .list ds)]
mutual
/-- at v stands the data d -/
inductive Dw (K : PySem.W.Frag) (H : Hp) : V → Dt → Prop
  | non : Dw K H .non .none
  | bl (b : Bool) : Dw K H (.bl b) (.bool b)
  | int (i : Int) : Dw K H (.int i) (.int i)
  | str (x : Str) : Dw K H (.str x) (.str x)
  | lst {a : Addr} {xs : List V} {ds : List Dt} : H a = some (.lst xs) → DwAll K H xs ds → Dw K H (.ref a) (.list ds)
  | tup {a : Addr} {xs : List V} {ds : List Dt} : SqT K H a xs → DwAll K H xs ds → Dw K H (.ref a) (.tuple ds)
  | frz {a : Addr} {xs : List V} {ds : List Dt} : SqL K H a xs → DwAll K H xs ds → Dw K H (.ref a) (fz ds)
inductive DwAll (K : PySem.W.Frag) (H : Hp) : List V → List Dt → Prop
  | nil : DwAll K H [] []
  | cons {v : V} {vs : List V} {d : Dt} {ds : List Dt} : Dw K H v d → DwAll K H vs ds → DwAll K H (v :: vs) (d :: ds)
end
mutual
theorem dp_mono {K : PySem.W.Frag} {H H' : Hp} (e : Ex H H') : ∀ {v : V} {d : Dt}, Dw K H v d → Dw K H' v d
  | _, _, .non => .non
  | _, _, .bl b => .bl b
  | _, _, .int i => .int i
  | _, _, .str x => .str x
  | _, _, .lst h q => .lst (e _ _ h) (dpa_mono e q)
  | _, _, .tup h q => .tup (ex_t e h) (dpa_mono e q)
  | _, _, .frz h q => .frz (ex_l e h) (dpa_mono e q)
theorem dpa_mono {K : PySem.W.Frag} {H H' : Hp} (e : Ex H H') : ∀ {vs : List V} {ds : List Dt}, DwAll K H vs ds → DwAll K H' vs ds
  | _, _, .nil => .nil
  | _, _, .cons h q => .cons (dp_mono e h) (dpa_mono e q)
end
mutual
theorem dw_dp {K : PySem.W.Frag} {H : Hp} : ∀ {v : V} {d : Dt}, Dw K H v d → d.canLay0 = true → Dp K H v d
  | _, _, .non, _ => .non
  | _, _, .bl b, _ => .bl b
  | _, _, .int i, _ => .int i
  | _, _, .str x, _ => .str x
  | _, _, .lst h q, c => .lst (SqL.of h) (dwa_dpa q (by simpa [PyData.canLay0] using c))
  | _, _, .tup h q, c => .tup h (dwa_dpa q (by simpa [PyData.canLay0] using c))
  | _, _, .frz _ _, c => by simp [PyData.canLay0] at c
theorem dwa_dpa {K : PySem.W.Frag} {H : Hp} : ∀ {vs : List V} {ds : List Dt}, DwAll K H vs ds → PyData.canLayAll0 ds = true → DpAll K H vs ds
  | _, _, .nil, _ => .nil
  | _, _, .cons h q, c => by
    have c2 := Bool.and_eq_true_iff.mp (by simpa [PyData.canLayAll0] using c)
    exact .cons (dw_dp h c2.1) (dwa_dpa q c2.2)
end
section
variable {K : PySem.W.Frag} {H : Hp}
theorem dpa_len : ∀ {vs : List V} {ds : List Dt}, DwAll K H vs ds → vs.length = ds.length
  | _, _, .nil => rfl
  | _, _, .cons _ q => congrArg (· + 1) (dpa_len q)
theorem dpa_get : ∀ {vs : List V} {ds : List Dt} {i : Nat} {d : Dt}, DwAll K H vs ds → ds[i]? = some d → ∃ v, vs[i]? = some v ∧ Dw K H v d
  | _, _, _, _, .nil, e => by simp at e
  | _, _, 0, _, .cons h _, e => by simp at e; subst e; exact ⟨_, rfl, h⟩
  | _, _, i + 1, d, .cons _ q, e => by
    obtain ⟨v, a, b⟩ := dpa_get (i := i) (d := d) q (by simpa using e)
    exact ⟨v, by simpa using a, b⟩
theorem dpa_getV : ∀ {vs : List V} {ds : List Dt} {i : Nat} {v : V}, DwAll K H vs ds → vs[i]? = some v → ∃ d, ds[i]? = some d ∧ Dw K H v d
  | _, _, _, _, .nil, e => by simp at e
  | _, _, 0, _, .cons h _, e => by simp at e; subst e; exact ⟨_, rfl, h⟩
  | _, _, i + 1, d, .cons _ q, e => by
    obtain ⟨v, a, b⟩ := dpa_getV (i := i) (v := d) q (by simpa using e)
    exact ⟨v, by simpa using a, b⟩
theorem dpa_app : ∀ {vs ws : List V} {ds es : List Dt}, DwAll K H vs ds → DwAll K H ws es → DwAll K H (vs ++ ws) (ds ++ es)
  | _, _, _, _, .nil, s => s
  | _, _, _, _, .cons h q, s => .cons h (dpa_app q s)
theorem dpa_take : ∀ {vs : List V} {ds : List Dt} (n : Nat), DwAll K H vs ds → DwAll K H (vs.take n) (ds.take n)
  | _, _, 0, _ => .nil
  | _, _, _ + 1, .nil => .nil
  | _, _, n + 1, .cons h q => .cons h (dpa_take n q)
theorem dpa_drop : ∀ {vs : List V} {ds : List Dt} (n : Nat), DwAll K H vs ds → DwAll K H (vs.drop n) (ds.drop n)
  | _, _, 0, q => q
  | _, _, _ + 1, .nil => .nil
  | _, _, n + 1, .cons _ q => dpa_drop n q
theorem dpa_rev : ∀ {vs : List V} {ds : List Dt}, DwAll K H vs ds → DwAll K H vs.reverse ds.reverse
  | _, _, .nil => .nil
  | _, _, .cons h q => by
    rw [List.reverse_cons, List.reverse_cons]
    exact dpa_app (dpa_rev q) (.cons h .nil)
theorem dpa_set : ∀ {vs : List V} {ds : List Dt} (n : Nat) {v : V} {d : Dt}, DwAll K H vs ds → Dw K H v d → DwAll K H (vs.set n v) (ds.set n d)
  | _, _, _, _, _, .nil, _ => .nil
  | _, _, 0, _, _, .cons _ q, h => .cons h q
  | _, _, n + 1, _, _, .cons g q, h => .cons g (dpa_set n q h)
theorem dpa_ints : ∀ {vs : List V} {ns : List Int}, DwAll K H vs (ns.map PyData.int) → vs = ns.map V.int
  | _, [], .nil => rfl
  | _, n :: ns, .cons h q => by
    cases h
    rw [List.map_cons, dpa_ints q]
theorem ints_dpa : ∀ (ns : List Int), DwAll K H (ns.map V.int) (ns.map PyData.int)
  | [] => .nil
  | n :: ns => .cons (.int n) (ints_dpa ns)
theorem dp_lst_inv {v : V} {ds : List Dt} (h : Dw K H v (.list ds)) : ∃ a xs, v = .ref a ∧ H a = some (.lst xs) ∧ DwAll K H xs ds := by
  cases h with
  | lst a b => exact ⟨_, _, rfl, a, b⟩
theorem dp_tup_inv {v : V} {ds : List Dt} (h : Dw K H v (.tuple ds)) : ∃ a xs, v = .ref a ∧ SqT K H a xs ∧ DwAll K H xs ds := by
  cases h with
  | tup a b => exact ⟨_, _, rfl, a, b⟩
end
/-! ## two heaps: the public part under the whole -/
structure Ext (H0 H H0' H' : Hp) : Prop where
  pub : Ex H0 H0'
  sub : Ex H0' H'
  all : Ex H H'
  prv : ∀ a o, H a = some o → H0 a = none → H0' a = none
theorem Ext.refl {H0 H : Hp} (s : Ex H0 H) : Ext H0 H H0 H := ⟨Ex.refl _, s, Ex.refl _, fun _ _ _ h => h⟩
theorem Ext.trans {A0 A B0 B C0 C : Hp} (x : Ext A0 A B0 B) (y : Ext B0 B C0 C) : Ext A0 A C0 C :=
  ⟨x.pub.trans y.pub, y.sub, x.all.trans y.all, fun a o h n => y.prv a o (x.all a o h) (x.prv a o h n)⟩
theorem none_of_sub {H0 H : Hp} {p : Addr} (s : Ex H0 H) (h : H p = none) : H0 p = none := fresh_back s h
theorem Ext.new {H0 H : Hp} {p : Addr} (o : HO) (s : Ex H0 H) (h : H p = none) : Ext H0 H (upd H0 p o) (upd H p o) := by
  refine ⟨Ex.new (none_of_sub s h), fun a u e => ?_, Ex.new h, fun a u e n => ?_⟩
  · by_cases q : a = p
    · subst q; rw [upd_same] at e ⊢; exact e
    · rw [upd_ne q] at e ⊢; exact s a u e
  · have q : a ≠ p := ne_of_none e h
    rw [upd_ne q]; exact n
theorem Ext.newP {H0 H : Hp} {p : Addr} (o : HO) (s : Ex H0 H) (h : H p = none) : Ext H0 H H0 (upd H p o) :=
  ⟨Ex.refl _, fun a u e => by rw [upd_ne (ne_of_none (s a u e) h)]; exact s a u e, Ex.new h, fun _ _ _ n => n⟩
/-- a private object goes public -/
theorem Ext.open_ {A0 A H0 H : Hp} {p : Addr} {o : HO} (x : Ext A0 A H0 H) (h : A p = none) (n : H0 p = none) (e : H p = some o) : Ext A0 A (upd H0 p o) H := by
  refine ⟨fun a u q => ?_, fun a u q => ?_, x.all, fun a u q m => ?_⟩
  · have z := x.pub a u q
    rw [upd_ne (ne_of_none z n)]; exact z
  · by_cases c : a = p
    · subst c; rw [upd_same] at q; rw [e]; exact q
    · rw [upd_ne c] at q; exact x.sub a u q
  · rw [upd_ne (ne_of_none q h)]; exact x.prv a u q m
/-! ## what the slots hold -/
/-- what stands in a cell: a datum, a reference to another cell -/
inductive Cv where
  | d (x : Dt)
  | r (a : Addr)
inductive Cl where
  | lst (xs : List Cv)
  | ins (C : Addr) (fs : List (Str × Cv))
  | dct (kvs : List (Key × Cv))
inductive CvAt (K : PySem.W.Frag) (H : Hp) : V → Cv → Prop
  | d {v : V} {x : Dt} : Dw K H v x → CvAt K H v (.d x)
  | r (a : Addr) : CvAt K H (.ref a) (.r a)
inductive CvAll (K : PySem.W.Frag) (H : Hp) : List V → List Cv → Prop
  | nil : CvAll K H [] []
  | cons {v : V} {vs : List V} {c : Cv} {cs : List Cv} : CvAt K H v c → CvAll K H vs cs → CvAll K H (v :: vs) (c :: cs)
inductive CvKey {α : Type} (K : PySem.W.Frag) (H : Hp) : List (α × V) → List (α × Cv) → Prop
  | nil : CvKey K H [] []
  | cons {k : α} {v : V} {vs : List (α × V)} {c : Cv} {cs : List (α × Cv)} : CvAt K H v c → CvKey K H vs cs → CvKey K H ((k, v) :: vs) ((k, c) :: cs)
inductive ClAt (K : PySem.W.Frag) (H : Hp) : HO → Cl → Prop
  | lst {vs : List V} {xs : List Cv} : CvAll K H vs xs → ClAt K H (.lst vs) (.lst xs)
  | ins {C dx : Addr} {vs : List (Str × V)} {fs : List (Str × Cv)} : CvKey K H vs fs → ClAt K H (.ins C dx vs) (.ins C fs)
  | dct {vs : List (Key × V)} {kvs : List (Key × Cv)} : CvKey K H vs kvs → ClAt K H (.dK vs) (.dct kvs)
theorem CvAt.mono {K : PySem.W.Frag} {H H' : Hp} (e : Ex H H') {v : V} {c : Cv} (h : CvAt K H v c) : CvAt K H' v c := by
  cases h with
  | d q => exact .d (dp_mono e q)
  | r a => exact .r a
theorem CvAll.mono {K : PySem.W.Frag} {H H' : Hp} (e : Ex H H') : ∀ {vs : List V} {cs : List Cv}, CvAll K H vs cs → CvAll K H' vs cs
  | _, _, .nil => .nil
  | _, _, .cons h q => .cons (h.mono e) (q.mono e)
theorem CvKey.mono {α : Type} {K : PySem.W.Frag} {H H' : Hp} (e : Ex H H') : ∀ {vs : List (α × V)} {cs : List (α × Cv)}, CvKey K H vs cs → CvKey K H' vs cs
  | _, _, .nil => .nil
  | _, _, .cons h q => .cons (h.mono e) (q.mono e)
theorem ClAt.mono {K : PySem.W.Frag} {H H' : Hp} (e : Ex H H') {o : HO} {c : Cl} (h : ClAt K H o c) : ClAt K H' o c := by
  cases h with
  | lst q => exact .lst (q.mono e)
  | ins q => exact .ins (q.mono e)
  | dct q => exact .dct (q.mono e)
/-- slots of the names first, then the cells that are ours -/
inductive Sv where
  | cell (a : Addr) (c : Cl)
  | rd (a : Addr) (c : Cl)
  | no
  | d (x : Dt)
  | own (xs : List Dt)
  | v (x : V)
structure SR (nn : Nat) (K : PySem.W.Frag) (G0 G H0 H : Hp) (σ : L2.St) (en : List Sv) : Prop where
  ext : Ext G0 G H0 H
  len : σ.length = nn
  dat : ∀ (i : Nat) d, en[i]? = some (Sv.d d) → ∃ v, σ[i]? = some (some v) ∧ Dw K H0 v d
  own : ∀ (i : Nat) xs, en[i]? = some (Sv.own xs) → ∃ l vs, σ[i]? = some (some (V.ref l)) ∧ G l = none ∧ H0 l = none ∧ H l = some (.lst vs) ∧ DwAll K H0 vs xs
  raw : ∀ (i : Nat) x, en[i]? = some (Sv.v x) → σ[i]? = some (some x)
  dis : ∀ (i j : Nat) xs ys l, en[i]? = some (Sv.own xs) → en[j]? = some (Sv.own ys) → σ[i]? = some (some (V.ref l)) → σ[j]? = some (some (V.ref l)) → i = j
  cel : ∀ (i : Nat) a c, en[i]? = some (Sv.cell a c) → G a = none ∧ H0 a = none ∧ ∃ o, H a = some o ∧ ClAt K H0 o c
  cdis : ∀ (i j : Nat) a c c', en[i]? = some (Sv.cell a c) → en[j]? = some (Sv.cell a c') → i = j
  cown : ∀ (i j : Nat) a c xs, en[i]? = some (Sv.cell a c) → en[j]? = some (Sv.own xs) → σ[j]? = some (some (V.ref a)) → False
  rdc : ∀ (i : Nat) a c, en[i]? = some (Sv.rd a c) → ∃ o, G a = some o ∧ ClAt K H0 o c
section
variable {K : PySem.W.Frag} {G0 G H0 H H0' H' : Hp} {σ : L2.St} {en : List Sv}
theorem SR.sub (r : SR nn K G0 G H0 H σ en) : Ex H0 H := r.ext.sub
theorem SR.step (r : SR nn K G0 G H0 H σ en) (x : Ext H0 H H0' H') : SR nn K G0 G H0' H' σ en := by
  refine ⟨r.ext.trans x, r.len, fun i d e => ?_, fun i xs e => ?_, r.raw, r.dis, fun i a c e => ?_, r.cdis, r.cown, fun i a c e => let ⟨o, g, q⟩ := r.rdc i a c e; ⟨o, g, q.mono x.pub⟩⟩
  · obtain ⟨v, a, b⟩ := r.dat i d e
    exact ⟨v, a, dp_mono x.pub b⟩
  · obtain ⟨l, vs, a, b, c, d, f⟩ := r.own i xs e
    exact ⟨l, vs, a, b, x.prv l _ d c, x.all l _ d, dpa_mono x.pub f⟩
  · obtain ⟨h1, h2, o, h3, h4⟩ := r.cel i a c e
    exact ⟨h1, x.prv a _ h3 h2, o, x.all a _ h3, h4.mono x.pub⟩
theorem SR.fresh_cell (r : SR nn K G0 G H0 H σ en) {l : Addr} (n : H l = none) (j : Nat) (c : Cl) : en[j]? ≠ some (Sv.cell l c) := fun e => by
  obtain ⟨_, _, o, h, _⟩ := r.cel j l c e
  rw [n] at h
  cases h
theorem set_get {α : Type} {l : List α} {i j : Nat} {x y : α} (h : (l.set i x)[j]? = some y) : (i = j ∧ y = x) ∨ (i ≠ j ∧ l[j]? = some y) := by
  by_cases c : i = j
  · subst c
    rw [List.getElem?_set] at h
    simp only [↓reduceIte] at h
    split at h
    · exact .inl ⟨rfl, (Option.some.inj h).symm⟩
    · cases h
  · rw [List.getElem?_set_ne c] at h
    exact .inr ⟨c, h⟩
theorem ltN {α : Type} {l : List α} {j : Nat} {x : α} (h : l[j]? = some x) : j < l.length := (List.getElem?_eq_some_iff.mp h).1
theorem set_at {α : Type} {l : List α} {i : Nat} {x : α} (h : i < l.length) : (l.set i x)[i]? = some x := List.getElem?_set_self h
theorem SR.setG (r : SR nn K G0 G H0 H σ en) {i : Nat} {v : V} {s : Sv} (hi : i < nn) (hc : ∀ a c, s ≠ .cell a c ∧ s ≠ .rd a c) (hd : ∀ d, s = .d d → Dw K H0 v d) (hv : ∀ x, s = .v x → v = x)
    (ho : ∀ xs, s = .own xs → ∃ l vs, v = .ref l ∧ G l = none ∧ H0 l = none ∧ H l = some (.lst vs) ∧ DwAll K H0 vs xs ∧ (∀ (j : Nat) ys, en[j]? = some (Sv.own ys) → σ[j]? = some (some (V.ref l)) → j = i) ∧ ∀ (j : Nat) c, en[j]? ≠ some (Sv.cell l c)) :
    SR nn K G0 G H0 H (σ.set i (some v)) (en.set i s) := by
  have hl : i < σ.length := by rw [r.len]; exact hi
  refine ⟨r.ext, by rw [List.length_set]; exact r.len, fun j d e => ?_, fun j xs e => ?_, fun j x e => ?_, fun j k xs ys l e1 e2 e3 e4 => ?_, fun j a c e => ?_, fun j k a c c' e1 e2 => ?_, fun j k a c xs e1 e2 e3 => ?_, fun j a c e => (set_get e).elim (fun q => absurd q.2.symm (hc a c).2) fun q => r.rdc j a c q.2⟩
  · rcases set_get e with ⟨rfl, q⟩ | ⟨n, q⟩
    · exact ⟨v, set_at hl, hd d q.symm⟩
    · obtain ⟨u, a, b⟩ := r.dat j d q
      exact ⟨u, by rw [List.getElem?_set_ne n]; exact a, b⟩
  · rcases set_get e with ⟨rfl, q⟩ | ⟨n, q⟩
    · obtain ⟨l, vs, a, b, c, d, f, _⟩ := ho xs q.symm
      exact ⟨l, vs, by rw [set_at hl, a], b, c, d, f⟩
    · obtain ⟨l, vs, a, b⟩ := r.own j xs q
      exact ⟨l, vs, by rw [List.getElem?_set_ne n]; exact a, b⟩
  · rcases set_get e with ⟨rfl, q⟩ | ⟨n, q⟩
    · rw [set_at hl, hv x q.symm]
    · rw [List.getElem?_set_ne n]; exact r.raw j x q
  · rcases set_get e1 with ⟨rfl, q1⟩ | ⟨n1, q1⟩
    · rcases set_get e2 with ⟨rfl, q2⟩ | ⟨n2, q2⟩
      · rfl
      · obtain ⟨l', vs, a, b, c, d, f, u, _⟩ := ho xs q1.symm
        rcases set_get e3 with ⟨_, z⟩ | ⟨z, _⟩
        · rw [a] at z
          rw [List.getElem?_set_ne n2] at e4
          cases z
          exact (u k ys q2 e4).symm
        · exact absurd rfl z
    · rcases set_get e2 with ⟨rfl, q2⟩ | ⟨n2, q2⟩
      · obtain ⟨l', vs, a, b, c, d, f, u, _⟩ := ho ys q2.symm
        rcases set_get e4 with ⟨_, z⟩ | ⟨z, _⟩
        · rw [a] at z
          rw [List.getElem?_set_ne n1] at e3
          cases z
          exact u j xs q1 e3
        · exact absurd rfl z
      · rw [List.getElem?_set_ne n1] at e3
        rw [List.getElem?_set_ne n2] at e4
        exact r.dis j k xs ys l q1 q2 e3 e4
  · rcases set_get e with ⟨rfl, q⟩ | ⟨n, q⟩
    · exact absurd q.symm (hc a c).1
    · exact r.cel j a c q
  · rcases set_get e1 with ⟨_, q⟩ | ⟨_, q1⟩
    · exact absurd q.symm (hc a c).1
    · rcases set_get e2 with ⟨_, q⟩ | ⟨_, q2⟩
      · exact absurd q.symm (hc a c').1
      · exact r.cdis j k a c c' q1 q2
  · rcases set_get e1 with ⟨_, q⟩ | ⟨_, q1⟩
    · exact absurd q.symm (hc a c).1
    · rcases set_get e2 with ⟨rfl, q⟩ | ⟨n2, q2⟩
      · obtain ⟨l', vs, b, _, _, _, _, _, w⟩ := ho xs q.symm
        rw [set_at hl, b] at e3
        cases e3
        exact w j c q1
      · rw [List.getElem?_set_ne n2] at e3
        exact r.cown j k a c xs q1 q2 e3
theorem SR.setD (r : SR nn K G0 G H0 H σ en) {i : Nat} {v : V} {d : Dt} (hi : i < nn) (h : Dw K H0 v d) : SR nn K G0 G H0 H (σ.set i (some v)) (en.set i (Sv.d d)) :=
  r.setG hi (fun _ _ => ⟨fun q => (by cases q), fun q => (by cases q)⟩) (fun _ q => by cases q; exact h) (fun _ q => by cases q) fun _ q => by cases q
theorem SR.setV (r : SR nn K G0 G H0 H σ en) {i : Nat} {v : V} (hi : i < nn) : SR nn K G0 G H0 H (σ.set i (some v)) (en.set i (Sv.v v)) :=
  r.setG hi (fun _ _ => ⟨fun q => (by cases q), fun q => (by cases q)⟩) (fun _ q => by cases q) (fun _ q => by cases q; rfl) fun _ q => by cases q
theorem SR.setN (r : SR nn K G0 G H0 H σ en) {i : Nat} {v : V} (hi : i < nn) : SR nn K G0 G H0 H (σ.set i (some v)) (en.set i Sv.no) :=
  r.setG hi (fun _ _ => ⟨fun q => (by cases q), fun q => (by cases q)⟩) (fun _ q => by cases q) (fun _ q => by cases q) fun _ q => by cases q
/-- forget slots -/
theorem SR.weak {en' : List Sv} (r : SR nn K G0 G H0 H σ en) (h : ∀ (i : Nat) s, en'[i]? = some s → s = .no ∨ en[i]? = some s) : SR nn K G0 G H0 H σ en' := by
  have f : ∀ {i : Nat} {s : Sv}, en'[i]? = some s → s ≠ Sv.no → en[i]? = some s := fun {i s} e n => (h i s e).resolve_left n
  exact ⟨r.ext, r.len, fun i d e => r.dat i d (f e (by simp)), fun i xs e => r.own i xs (f e (by simp)), fun i x e => r.raw i x (f e (by simp)), fun i j xs ys l a b => r.dis i j xs ys l (f a (by simp)) (f b (by simp)),
    fun i a c e => r.cel i a c (f e (by simp)), fun i j a c c' e1 e2 => r.cdis i j a c c' (f e1 (by simp)) (f e2 (by simp)), fun i j a c xs e1 e2 => r.cown i j a c xs (f e1 (by simp)) (f e2 (by simp)), fun i a c e => r.rdc i a c (f e (by simp))⟩
theorem SR.forget (r : SR nn K G0 G H0 H σ en) (i : Nat) : SR nn K G0 G H0 H σ (en.set i Sv.no) :=
  r.weak fun j s e => (set_get e).elim (fun q => .inl q.2) fun q => .inr q.2
/-- a slot that is unset -/
theorem SR.unset (r : SR nn K G0 G H0 H σ en) (i : Nat) : SR nn K G0 G H0 H (σ.set i none) (en.set i Sv.no) := by
  have r2 := r.forget i
  have f : ∀ {j : Nat} {s : Sv}, (en.set i Sv.no)[j]? = some s → s ≠ Sv.no → i ≠ j := fun {j s} e n => (set_get e).elim (fun q => absurd q.2 n) fun q => q.1
  refine ⟨r.ext, by rw [List.length_set]; exact r2.len, fun j d e => ?_, fun j xs e => ?_, fun j x e => ?_, fun j k xs ys l a b c d => ?_, r2.cel, r2.cdis, fun j k a c xs e1 e2 e3 => ?_, r2.rdc⟩
  · rw [List.getElem?_set_ne (f e (by simp))]; exact r2.dat j d e
  · rw [List.getElem?_set_ne (f e (by simp))]; exact r2.own j xs e
  · rw [List.getElem?_set_ne (f e (by simp))]; exact r2.raw j x e
  · rw [List.getElem?_set_ne (f a (by simp))] at c
    rw [List.getElem?_set_ne (f b (by simp))] at d
    exact r2.dis j k xs ys l a b c d
  · rw [List.getElem?_set_ne (f e2 (by simp))] at e3
    exact r2.cown j k a c xs e1 e2 e3
/-- an owned list is changed -/
theorem SR.write (r : SR nn K G0 G H0 H σ en) {i : Nat} {xs ys : List Dt} {l : Addr} {ws : List V} (e : en[i]? = some (Sv.own xs)) (hs : σ[i]? = some (some (V.ref l))) (hw : DwAll K H0 ws ys) :
    SR nn K G0 G H0 (upd H l (.lst ws)) σ (en.set i (Sv.own ys)) := by
  obtain ⟨l', vs, a, b, c, d, f⟩ := r.own i xs e
  rw [hs] at a
  cases a
  have z : ∀ {m : Nat} {us : List Dt}, (en.set i (Sv.own ys))[m]? = some (Sv.own us) → ∃ ts, en[m]? = some (Sv.own ts) := fun {m us} q => by
    rcases set_get q with ⟨rfl, _⟩ | ⟨_, q⟩
    · exact ⟨xs, e⟩
    · exact ⟨_, q⟩
  have zc : ∀ {m : Nat} {a : Addr} {c : Cl}, (en.set i (Sv.own ys))[m]? = some (Sv.cell a c) → en[m]? = some (Sv.cell a c) := fun {m a c} q => by
    rcases set_get q with ⟨_, q⟩ | ⟨_, q⟩
    · cases q
    · exact q
  refine ⟨⟨r.ext.pub, Ex.mut r.ext.sub c, Ex.mut r.ext.all b, r.ext.prv⟩, r.len, fun j d e => ?_, fun j zs e2 => ?_, fun j x e => ?_, fun j k y1 y2 l2 e1 e2 e3 e4 => ?_, fun j a2 c2 e2 => ?_, fun j k a c c' e1 e2 => r.cdis j k a c c' (zc e1) (zc e2), fun j k a c us e1 e2 e3 => ?_, fun j a c q => (set_get q).elim (fun w => by cases w.2) fun w => r.rdc j a c w.2⟩
  · rcases set_get e with ⟨rfl, q⟩ | ⟨n, q⟩
    · cases q
    · exact r.dat j d q
  · rcases set_get e2 with ⟨rfl, q⟩ | ⟨n, q⟩
    · cases q
      exact ⟨l, ws, hs, b, c, upd_same, hw⟩
    · obtain ⟨l2, us, a2, b2, c2, d2, f2⟩ := r.own j zs q
      have ne : l2 ≠ l := fun z => by
        subst z
        exact n (r.dis i j xs zs l2 e q hs a2)
      exact ⟨l2, us, a2, b2, c2, by rw [upd_ne ne]; exact d2, f2⟩
  · rcases set_get e with ⟨rfl, q⟩ | ⟨n, q⟩
    · cases q
    · exact r.raw j x q
  · obtain ⟨t1, q1⟩ := z e1
    obtain ⟨t2, q2⟩ := z e2
    exact r.dis j k t1 t2 l2 q1 q2 e3 e4
  · obtain ⟨h1, h2, o, h3, h4⟩ := r.cel j a2 c2 (zc e2)
    have ne : a2 ≠ l := fun w => by
      subst w
      exact r.cown j i a2 c2 xs (zc e2) e hs
    exact ⟨h1, h2, o, by rw [upd_ne ne]; exact h3, h4⟩
  · obtain ⟨ts, q⟩ := z e2
    exact r.cown j k a c ts (zc e1) q e3
/-- a cell is changed -/
theorem SR.writeC (r : SR nn K G0 G H0 H σ en) {i : Nat} {a : Addr} {c c' : Cl} {o : HO} (e : en[i]? = some (Sv.cell a c)) (hw : ClAt K H0 o c') :
    SR nn K G0 G H0 (upd H a o) σ (en.set i (Sv.cell a c')) := by
  obtain ⟨h1, h2, o1, h3, h4⟩ := r.cel i a c e
  have zo : ∀ {m : Nat} {s : Sv}, (en.set i (Sv.cell a c'))[m]? = some s → (∀ b d, s ≠ .cell b d) → en[m]? = some s := fun {m s} q n => by
    rcases set_get q with ⟨_, q⟩ | ⟨_, q⟩
    · exact absurd q (n _ _)
    · exact q
  have zc : ∀ {m : Nat} {b : Addr} {d : Cl}, (en.set i (Sv.cell a c'))[m]? = some (Sv.cell b d) → ∃ d', en[m]? = some (Sv.cell b d') := fun {m b d} q => by
    rcases set_get q with ⟨hm, hq⟩ | ⟨_, hq⟩
    · cases hq
      exact ⟨c, hm ▸ e⟩
    · exact ⟨d, hq⟩
  refine ⟨⟨r.ext.pub, Ex.mut r.ext.sub h2, Ex.mut r.ext.all h1, r.ext.prv⟩, r.len, fun j d q => r.dat j d (zo q fun _ _ w => by cases w), fun j zs q => ?_, fun j x q => r.raw j x (zo q fun _ _ w => by cases w), fun j k xs ys l q1 q2 => r.dis j k xs ys l (zo q1 fun _ _ w => by cases w) (zo q2 fun _ _ w => by cases w), fun j b d q => ?_, fun j k b d d' q1 q2 => ?_, fun j k b d us q1 q2 q3 => ?_, fun j b d q => r.rdc j b d (zo q fun _ _ w => by cases w)⟩
  · have q' := zo q fun _ _ w => by cases w
    obtain ⟨l, us, a2, b2, c2, d2, f2⟩ := r.own j zs q'
    have ne : l ≠ a := fun w => by
      subst w
      exact r.cown i j l c zs e q' a2
    exact ⟨l, us, a2, b2, c2, by rw [upd_ne ne]; exact d2, f2⟩
  · rcases set_get q with ⟨rfl, w⟩ | ⟨n, w⟩
    · cases w
      exact ⟨h1, h2, o, upd_same, hw⟩
    · obtain ⟨k1, k2, o2, k3, k4⟩ := r.cel j b d w
      have ne : b ≠ a := fun z => by
        subst z
        exact n (r.cdis i j b c d e w)
      exact ⟨k1, k2, o2, by rw [upd_ne ne]; exact k3, k4⟩
  · obtain ⟨x1, w1⟩ := zc q1
    obtain ⟨x2, w2⟩ := zc q2
    exact r.cdis j k b x1 x2 w1 w2
  · obtain ⟨x1, w1⟩ := zc q1
    exact r.cown j k b x1 us w1 (zo q2 fun _ _ w => by cases w) q3
/-- a new cell, behind -/
theorem SR.newC (r : SR nn K G0 G H0 H σ en) {a : Addr} {c : Cl} {o : HO} (n : H a = none) (hw : ClAt K H0 o c) : SR nn K G0 G H0 (upd H a o) σ (en ++ [Sv.cell a c]) := by
  have s2 := r.step (Ext.newP o r.ext.sub n)
  have z : ∀ {m : Nat} {s : Sv}, (en ++ [Sv.cell a c])[m]? = some s → en[m]? = some s ∨ (m = en.length ∧ s = .cell a c) := fun {m s} q => by
    rcases Nat.lt_or_ge m en.length with h | h
    · rw [List.getElem?_append_left h] at q
      exact .inl q
    · rw [List.getElem?_append_right h] at q
      match k : m - en.length, q with
      | 0, q => exact .inr ⟨by omega, (Option.some.inj q).symm⟩
      | k + 1, q => simp at q
  have ge : G a = none := fresh_back r.ext.all n
  have g0 : H0 a = none := none_of_sub r.ext.sub n
  refine ⟨s2.ext, s2.len, fun j d q => ?_, fun j xs q => ?_, fun j x q => ?_, fun j k xs ys l q1 q2 => ?_, fun j b d q => ?_, fun j k b d d' q1 q2 => ?_, fun j k b d us q1 q2 q3 => ?_, fun j b d q => s2.rdc j b d ((z q).resolve_right fun w => by cases w.2)⟩
  · exact s2.dat j d ((z q).resolve_right fun w => by cases w.2)
  · exact s2.own j xs ((z q).resolve_right fun w => by cases w.2)
  · exact s2.raw j x ((z q).resolve_right fun w => by cases w.2)
  · exact s2.dis j k xs ys l ((z q1).resolve_right fun w => by cases w.2) ((z q2).resolve_right fun w => by cases w.2)
  · rcases z q with w | ⟨_, w⟩
    · exact s2.cel j b d w
    · cases w
      exact ⟨ge, g0, o, upd_same, hw⟩
  · rcases z q1 with w1 | ⟨e1, w1⟩
    · rcases z q2 with w2 | ⟨e2, w2⟩
      · exact r.cdis j k b d d' w1 w2
      · cases w2
        obtain ⟨_, _, o2, k3, _⟩ := r.cel j a d w1
        rw [n] at k3
        cases k3
    · cases w1
      rcases z q2 with w2 | ⟨e2, w2⟩
      · obtain ⟨_, _, o2, k3, _⟩ := r.cel k a d' w2
        rw [n] at k3
        cases k3
      · rw [e1, e2]
  · have u2 := (z q2).resolve_right fun w => by cases w.2
    rcases z q1 with w1 | ⟨_, w1⟩
    · exact r.cown j k b d us w1 u2 q3
    · cases w1
      obtain ⟨l, vs, x1, _, _, x4, _⟩ := r.own k us u2
      rw [q3] at x1
      cases x1
      rw [n] at x4
      cases x4
end
end DL

set_option maxRecDepth 100000
set_option maxHeartbeats 4000000
namespace DL
open PySem PySem.Spec PyProof.Rows L2 Evl
variable {nn : Nat}
/-! ## contexts: a fixed part, a varying one -/
structure Fx where
  P : Program
  w : World
  K : PySem.W.Frag
  mg : Str → Option Value
  base : Heap
  A : Around
  N : List Str
  calm : Bool
structure Vr where
  s_0 : Shared
  H_0 : Hp
  env : Env
  outer : List Env
  stack : List Env
  ex : List Addr
  fn : Str → Bool
  pn : List (Addr × Obj)
  xe : Value → Shared → Prop
abbrev cx (c : Fx) (v : Vr) : Cx := { prog := c.P, w := c.w, K := c.K, mg := c.mg, base := c.base, A := c.A, N := c.N, s_0 := v.s_0, H_0 := v.H_0, env := v.env, outer := v.outer, stack := v.stack, ex := v.ex, fn := v.fn, calm := c.calm, pn := v.pn, xe := v.xe }
/-! ## readings by data -/
def DE (nn : Nat) (K : PySem.W.Frag) (t : TE) (en : List Sv) (d : Dt) : Prop :=
  ∀ {G0 G H0 H : Hp} {σ : L2.St} (Q : VK), SR nn K G0 G H0 H σ en → (∀ v H0' H', Ext H0 H H0' H' → Dw K H0' v d → Q v H') → t σ H Q
def DN (nn : Nat) (K : PySem.W.Frag) (t : TE) (en : List Sv) (ds : List Dt) : Prop :=
  ∀ {G0 G H0 H : Hp} {σ : L2.St} (Q : VK), SR nn K G0 G H0 H σ en → (∀ l vs H0' H', Ext H0 H H0' H' → H l = none → H0' l = none → H' l = some (.lst vs) → DwAll K H0' vs ds → Q (.ref l) H') → t σ H Q
def DT (nn : Nat) (K : PySem.W.Frag) (t : TT) (en : List Sv) (b : Bool) : Prop :=
  ∀ {G0 G H0 H : Hp} {σ : L2.St} (Q : Bool → Hp → Prop), SR nn K G0 G H0 H σ en → (∀ H0' H', Ext H0 H H0' H' → Q b H') → t σ H Q
def DA (nn : Nat) (K : PySem.W.Frag) (t : TA) (en : List Sv) (ds : List Dt) : Prop :=
  ∀ {G0 G H0 H : Hp} {σ : L2.St} (Q : List V → Hp → Prop), SR nn K G0 G H0 H σ en → (∀ vs H0' H', Ext H0 H H0' H' → DwAll K H0' vs ds → Q vs H') → t σ H Q
/-- an operation on two data, on one, on a list of data -/
def RD (K : PySem.W.Frag) (r : R2) (a b d : Dt) : Prop :=
  ∀ {H0 H : Hp} {x y : V} (Q : VK), Ex H0 H → Dw K H0 x a → Dw K H0 y b → (∀ v H0' H', Ext H0 H H0' H' → Dw K H0' v d → Q v H') → r x y H Q
def RN (K : PySem.W.Frag) (r : R2) (a b : Dt) (ds : List Dt) : Prop :=
  ∀ {H0 H : Hp} {x y : V} (Q : VK), Ex H0 H → Dw K H0 x a → Dw K H0 y b → (∀ l vs H0' H', Ext H0 H H0' H' → H l = none → H0' l = none → H' l = some (.lst vs) → DwAll K H0' vs ds → Q (.ref l) H') → r x y H Q
def RU (K : PySem.W.Frag) (r : V → Hp → VK → Prop) (a d : Dt) : Prop :=
  ∀ {H0 H : Hp} {x : V} (Q : VK), Ex H0 H → Dw K H0 x a → (∀ v H0' H', Ext H0 H H0' H' → Dw K H0' v d → Q v H') → r x H Q
def RC (K : PySem.W.Frag) (r : List V → Hp → VK → Prop) (as : List Dt) (d : Dt) : Prop :=
  ∀ {H0 H : Hp} {xs : List V} (Q : VK), Ex H0 H → DwAll K H0 xs as → (∀ v H0' H', Ext H0 H H0' H' → Dw K H0' v d → Q v H') → r xs H Q
def RCN (K : PySem.W.Frag) (r : List V → Hp → VK → Prop) (as : List Dt) (ds : List Dt) : Prop :=
  ∀ {H0 H : Hp} {xs : List V} (Q : VK), Ex H0 H → DwAll K H0 xs as → (∀ l vs H0' H', Ext H0 H H0' H' → H l = none → H0' l = none → H' l = some (.lst vs) → DwAll K H0' vs ds → Q (.ref l) H') → r xs H Q
section
variable {K : PySem.W.Frag} {en : List Sv} {t ta tb : TE} {ds : List Dt} {d a b : Dt}
theorem DN.de (h : DN nn K t en ds) : DE nn K t en (.list ds) := fun Q r k => h Q r fun l vs H0' H' x n n0 e q =>
  k (.ref l) (upd H0' l (.lst vs)) H' (x.open_ n n0 e) (.lst upd_same (dpa_mono (Ex.new n0) q))
theorem RN.rd {r : R2} (h : RN K r a b ds) : RD K r a b (.list ds) := fun Q s x y k => h Q s x y fun l vs H0' H' x n n0 e q =>
  k (.ref l) (upd H0' l (.lst vs)) H' (x.open_ n n0 e) (.lst upd_same (dpa_mono (Ex.new n0) q))
theorem de_op {r : R2} (ha : DE nn K ta en a) (hb : DE nn K tb en b) (hr : RD K r a b d) : DE nn K (tOp r ta tb) en d := fun Q s k =>
  ha _ s fun v H0' H' x p => hb _ (s.step x) fun u I0 I y q => hr Q y.sub (dp_mono y.pub p) q fun z J0 J w o => k z J0 J ((x.trans y).trans w) o
theorem dn_op {r : R2} (ha : DE nn K ta en a) (hb : DE nn K tb en b) (hr : RN K r a b ds) : DN nn K (tOp r ta tb) en ds := fun Q s k =>
  ha _ s fun v H0' H' x p => hb _ (s.step x) fun u I0 I y q => hr Q y.sub (dp_mono y.pub p) q fun l vs J0 J w n n0 e o => k l vs J0 J ((x.trans y).trans w) (fresh_back (x.trans y).all n) n0 e o
theorem de_un {r : V → Hp → VK → Prop} (ha : DE nn K ta en a) (hr : RU K r a d) : DE nn K (tUn r ta) en d := fun Q s k =>
  ha _ s fun v H0' H' x p => hr Q x.sub p fun z J0 J w o => k z J0 J (x.trans w) o
theorem de_cb {r : List V → Hp → VK → Prop} {t : TA} {as : List Dt} (ha : DA nn K t en as) (hr : RC K r as d) : DE nn K (tCB r t) en d := fun Q s k =>
  ha _ s fun vs H0' H' x p => hr Q x.sub p fun z J0 J w o => k z J0 J (x.trans w) o
theorem dn_cb {r : List V → Hp → VK → Prop} {t : TA} {as : List Dt} (ha : DA nn K t en as) (hr : RCN K r as ds) : DN nn K (tCB r t) en ds := fun Q s k =>
  ha _ s fun us H0' H' x p => hr Q x.sub p fun l vs J0 J w n n0 e o => k l vs J0 J (x.trans w) (fresh_back x.all n) n0 e o
theorem da_nil : DA nn K tNil en [] := fun Q s k => k [] _ _ (Ext.refl s.sub) .nil
theorem da_cons {t : TA} (ha : DE nn K ta en a) (hr : DA nn K t en ds) : DA nn K (tCons ta t) en (a :: ds) := fun Q s k =>
  ha _ s fun v H0' H' x p => hr _ (s.step x) fun vs I0 I y q => k (v :: vs) I0 I (x.trans y) (.cons (dp_mono y.pub p) q)
theorem rd_II {g : Int → Int → Int} {i j : Int} : RD K (rI0 fun i j => .int (g i j)) (.int i) (.int j) (.int (g i j)) := fun Q s x y k => by
  cases x; cases y
  exact ⟨i, j, rfl, rfl, k _ _ _ (Ext.refl s) (.int _)⟩
theorem rd_IB {g : Int → Int → Bool} {i j : Int} : RD K (rI0 fun i j => .bl (g i j)) (.int i) (.int j) (.bool (g i j)) := fun Q s x y k => by
  cases x; cases y
  exact ⟨i, j, rfl, rfl, k _ _ _ (Ext.refl s) (.bl _)⟩
theorem rd_IC {C : Int → Int → Prop} {g : Int → Int → Int} {i j : Int} (h : C i j) : RD K (rI C fun i j => .int (g i j)) (.int i) (.int j) (.int (g i j)) := fun Q s x y k => by
  cases x; cases y
  exact ⟨i, j, rfl, rfl, h, k _ _ _ (Ext.refl s) (.int _)⟩
theorem rd_eq (h1 : SeqAt.shaped a = true) (h2 : SeqAt.shaped b = true) : RD K (rEqD K) a b (.bool (PyData.eqv a b)) := fun Q s x y k =>
  ⟨a, b, dw_dp (dp_mono s x) (SeqAt.canLay_of_shaped h1), dw_dp (dp_mono s y) (SeqAt.canLay_of_shaped h2), h1, h2, k _ _ _ (Ext.refl s) (.bl _)⟩
theorem rd_ne (h1 : SeqAt.shaped a = true) (h2 : SeqAt.shaped b = true) : RD K (rNeD K) a b (.bool (!PyData.eqv a b)) := fun Q s x y k =>
  ⟨a, b, dw_dp (dp_mono s x) (SeqAt.canLay_of_shaped h1), dw_dp (dp_mono s y) (SeqAt.canLay_of_shaped h2), h1, h2, k _ _ _ (Ext.refl s) (.bl _)⟩
theorem atI_dw {H : Hp} {xs : List V} {ds : List Dt} {i : Int} {d : Dt} (q : DwAll K H xs ds) (h : atI ds i = some d) : ∃ v, atI xs i = some v ∧ Dw K H v d := by
  unfold atI at h ⊢
  rw [dpa_len q]
  cases e : ixN ds.length i with
  | none => rw [e] at h; cases h
  | some j =>
    rw [e] at h
    obtain ⟨v, a, b⟩ := dpa_get (i := j) q h
    exact ⟨v, a, b⟩
theorem rd_ixL {i : Int} (h : atI ds i = some d) : RD K (rIxL K) (.list ds) (.int i) d := fun Q s x y k => by
  cases y
  cases x with
  | lst e q =>
    obtain ⟨v, a, b⟩ := atI_dw q h
    exact ⟨_, _, i, v, rfl, rfl, SqL.of (s _ _ e), a, k v _ _ (Ext.refl s) b⟩
theorem rd_ixT {i : Int} (h : atI ds i = some d) : RD K (rIxT K) (.tuple ds) (.int i) d := fun Q s x y k => by
  cases y
  cases x with
  | tup e q =>
    obtain ⟨v, a, b⟩ := atI_dw q h
    exact ⟨_, _, i, v, rfl, rfl, ex_t s e, a, k v _ _ (Ext.refl s) b⟩
theorem rd_ixZ {i : Int} (h : atI ds i = some d) : RD K (rIxL K) (fz ds) (.int i) d := fun Q s x y k => by
  cases y
  cases x with
  | frz e q =>
    obtain ⟨v, a, b⟩ := atI_dw q h
    exact ⟨_, _, i, v, rfl, rfl, ex_l s e, a, k v _ _ (Ext.refl s) b⟩
theorem rn_cat {es : List Dt} (h : ds.length + es.length ≤ 100000) : RN K rCat (.list ds) (.list es) (ds ++ es) := fun Q s x y k => by
  cases x with
  | lst e q =>
    cases y with
    | lst e2 q2 =>
      refine ⟨_, _, _, _, rfl, rfl, s _ _ e, s _ _ e2, by rw [dpa_len q, dpa_len q2]; exact sz_of h, fun p hp => ?_⟩
      exact k p _ _ _ (Ext.newP _ s hp) hp (none_of_sub s hp) upd_same (dpa_app q q2)
theorem rd_catT {es : List Dt} (h : ds.length + es.length ≤ 100000) : RD K (rCatA K) (.tuple ds) (.tuple es) (.tuple (ds ++ es)) := fun Q s x y k => by
  cases x with
  | @tup a xs _ e q =>
    cases y with
    | @tup b ys _ e2 q2 =>
      refine ⟨_, _, _, _, rfl, rfl, ex_t s e, ex_t s e2, by rw [dpa_len q, dpa_len q2]; exact sz_of h, fun z => ?_, fun _ z => ?_, fun _ _ p hp => ?_⟩
      · subst z
        cases q
        exact k _ _ _ (Ext.refl s) (.tup e2 q2)
      · subst z
        cases q2
        rw [List.append_nil] at k
        exact k _ _ _ (Ext.refl s) (.tup e q)
      · exact k _ _ _ (Ext.new _ s hp) (.tup (SqT.of upd_same) (dpa_mono (Ex.new (none_of_sub s hp)) (dpa_app q q2)))
theorem rn_rep {n : Int} (h0 : 0 ≤ n) (h : ds.length * n.toNat ≤ 100000) (hn : n ≤ 100000) : RN K rRep (.list ds) (.int n) (List.replicate n.toNat ds).flatten := fun Q s x y k => by
  cases y
  cases x with
  | lst e q =>
    refine ⟨_, n, _, rfl, rfl, s _ _ e, by omega, by omega, by rw [dpa_len q]; exact sz_of h, fun p hp => ?_⟩
    refine k p _ _ _ (Ext.newP _ s hp) hp (none_of_sub s hp) upd_same ?_
    clear hn h h0
    induction n.toNat with
    | zero => exact .nil
    | succ m ih =>
      rw [List.replicate_succ, List.replicate_succ, List.flatten_cons, List.flatten_cons]
      exact dpa_app q ih
theorem rd_repT {n : Int} (h0 : 2 ≤ n) (hn : n ≤ 1000) (h : ds.length ≤ 1000) (hd : ds ≠ []) : RD K (rRepT K) (.tuple ds) (.int n) (.tuple (List.replicate n.toNat ds).flatten) := fun Q s x y k => by
  cases y
  cases x with
  | tup e q =>
    refine ⟨_, n, _, rfl, rfl, ex_t s e, fun z => ?_, h0, hn, by rw [dpa_len q]; exact h, fun p hp => ?_⟩
    · subst z; cases q; exact hd rfl
    refine k _ _ _ (Ext.new _ s hp) (.tup (SqT.of upd_same) (dpa_mono (Ex.new (none_of_sub s hp)) ?_))
    clear hn h h0
    induction n.toNat with
    | zero => exact .nil
    | succ m ih =>
      rw [List.replicate_succ, List.replicate_succ, List.flatten_cons, List.flatten_cons]
      exact dpa_app q ih
theorem rc_len : RC K (fun xs H Q => ∃ p ys, xs = [V.ref p] ∧ (SqL K H p ys ∨ SqT K H p ys) ∧ Q (.int ys.length) H) [.list ds] (.int ds.length) := fun Q s q k => by
  cases q with
  | cons x r =>
    cases r
    cases x with
    | lst e q =>
      refine ⟨_, _, rfl, .inl (SqL.of (s _ _ e)), ?_⟩
      rw [dpa_len q]
      exact k _ _ _ (Ext.refl s) (.int _)
theorem rc_lenT : RC K (fun xs H Q => ∃ p ys, xs = [V.ref p] ∧ (SqL K H p ys ∨ SqT K H p ys) ∧ Q (.int ys.length) H) [.tuple ds] (.int ds.length) := fun Q s q k => by
  cases q with
  | cons x r =>
    cases r
    cases x with
    | tup e q =>
      refine ⟨_, _, rfl, .inr (ex_t s e), ?_⟩
      rw [dpa_len q]
      exact k _ _ _ (Ext.refl s) (.int _)
theorem rc_lenZ : RC K (fun xs H Q => ∃ p ys, xs = [V.ref p] ∧ (SqL K H p ys ∨ SqT K H p ys) ∧ Q (.int ys.length) H) [fz ds] (.int ds.length) := fun Q s q k => by
  cases q with
  | cons x r =>
    cases r
    cases x with
    | frz e q =>
      refine ⟨_, _, rfl, .inl (ex_l s e), ?_⟩
      rw [dpa_len q]
      exact k _ _ _ (Ext.refl s) (.int _)
theorem rcn_list : RCN K (fun xs H Q => ∃ p ys, xs = [V.ref p] ∧ (SqL K H p ys ∨ SqT K H p ys) ∧ ∀ l, H l = none → Q (.ref l) (upd H l (.lst ys))) [.list ds] ds := fun Q s q k => by
  cases q with
  | cons x r =>
    cases r
    cases x with
    | lst e q => exact ⟨_, _, rfl, .inl (SqL.of (s _ _ e)), fun p hp => k p _ _ _ (Ext.newP _ s hp) hp (none_of_sub s hp) upd_same q⟩
theorem rcn_listT : RCN K (fun xs H Q => ∃ p ys, xs = [V.ref p] ∧ (SqL K H p ys ∨ SqT K H p ys) ∧ ∀ l, H l = none → Q (.ref l) (upd H l (.lst ys))) [.tuple ds] ds := fun Q s q k => by
  cases q with
  | cons x r =>
    cases r
    cases x with
    | tup e q => exact ⟨_, _, rfl, .inr (ex_t s e), fun p hp => k p _ _ _ (Ext.newP _ s hp) hp (none_of_sub s hp) upd_same q⟩
theorem rc_tuple : RC K (fun xs H Q => ∃ p ys, xs = [V.ref p] ∧ ((SqL K H p ys ∧ ∀ l, H l = none → Q (.ref l) (upd H l (.tup ys))) ∨ (SqT K H p ys ∧ Q (.ref p) H))) [.list ds] (.tuple ds) := fun Q s q k => by
  cases q with
  | cons x r =>
    cases r
    cases x with
    | lst e q => exact ⟨_, _, rfl, .inl ⟨SqL.of (s _ _ e), fun p hp => k _ _ _ (Ext.new _ s hp) (.tup (SqT.of upd_same) (dpa_mono (Ex.new (none_of_sub s hp)) q))⟩⟩
theorem rc_tupleT : RC K (fun xs H Q => ∃ p ys, xs = [V.ref p] ∧ ((SqL K H p ys ∧ ∀ l, H l = none → Q (.ref l) (upd H l (.tup ys))) ∨ (SqT K H p ys ∧ Q (.ref p) H))) [.tuple ds] (.tuple ds) := fun Q s q k => by
  cases q with
  | cons x r =>
    cases r
    cases x with
    | tup e q => exact ⟨_, _, rfl, .inr ⟨ex_t s e, k _ _ _ (Ext.refl s) (.tup e q)⟩⟩
theorem rc_sum {ns : List Int} : RC K (rSum K) [.list (ns.map PyData.int)] (.int ns.sum) := fun Q s q k => by
  cases q with
  | cons x r =>
    cases r
    cases x with
    | lst e q =>
      have z := dpa_ints q
      subst z
      exact ⟨_, ns, rfl, SqL.of (s _ _ e), k _ _ _ (Ext.refl s) (.int _)⟩
theorem dpa_bools : ∀ {H : Hp} {vs : List V} {bs : List Bool}, DwAll K H vs (bs.map PyData.bool) → vs = bs.map V.bl
  | _, _, [], .nil => rfl
  | _, _, n :: ns, .cons h q => by
    cases h
    rw [List.map_cons, dpa_bools q]
theorem rc_all {bs : List Bool} : RC K (rAll K) [.list (bs.map PyData.bool)] (.bool (bs.all id)) := fun Q s q k => by
  cases q with
  | cons x r =>
    cases r
    cases x with
    | lst e q =>
      have z := dpa_bools q
      subst z
      exact ⟨_, bs, rfl, SqL.of (s _ _ e), k _ _ _ (Ext.refl s) (.bl _)⟩
theorem rc_min2 {i j : Int} : RC K (fun xs H Q => ∃ i j, xs = [V.int i, V.int j] ∧ Q (.int (if j < i then j else i)) H) [.int i, .int j] (.int (min i j)) := fun Q s q k => by
  cases q with
  | cons x r =>
    cases r with
    | cons y r =>
      cases r
      cases x
      cases y
      refine ⟨i, j, rfl, ?_⟩
      have e : (if j < i then j else i) = min i j := by
        rw [Int.min_def]
        split <;> split <;> omega
      rw [e]
      exact k _ _ _ (Ext.refl s) (.int _)
theorem rc_intB {b : Bool} : RC K (fun xs H Q => (∃ i, xs = [V.int i] ∧ Q (.int i) H) ∨ ∃ k, xs = [V.bl k] ∧ Q (.int (if k then 1 else 0)) H) [.bool b] (.int (if b then 1 else 0)) := fun Q s q k => by
  cases q with
  | cons x r =>
    cases r
    cases x
    exact .inr ⟨b, rfl, k _ _ _ (Ext.refl s) (.int _)⟩
end
/-! ## sum of a tuple -/
section
variable {X : Cx}
def rSumT (K : PySem.W.Frag) : List V → Hp → VK → Prop := fun vs H Q => ∃ (a : Addr) (ns : List Int), vs = [V.ref a] ∧ SqT K H a (ns.map V.int) ∧ Q (.int ns.sum) H
theorem cr_sumT (hc : X.calm = true) : CallR X (.builtin "sum") (rSumT X.K) := by
  intro pins s σ H vs us Q I r h
  obtain ⟨a, ns, rfl, hs, q⟩ := h
  obtain ⟨its, rv, ht, _⟩ := I.tuple hs
  rw [Vals.ref1 r]
  have hi := intsAre_of rv
  obtain ⟨xs, hx⟩ := hi.allInts.items
  have hn : numsOf its.toArray.toList = ns := by rw [show its.toArray.toList = its from rfl, hi.numsOf]
  rw [hx] at ht hn
  rw [nums_intItems] at hn
  refine PySem.W.ktm_sumG (I.ok.hd hc) ht fun h' tk t' hk => ?_
  refine ⟨.int ns.sum, H, I.kept hk, ⟨t', ?_⟩, q⟩
  rw [preSum_eq, List.take_of_length_le (by simp), hn]
end
theorem rc_sumT {K : PySem.W.Frag} {ns : List Int} : RC K (rSumT K) [.tuple (ns.map PyData.int)] (.int ns.sum) := fun Q s q k => by
  cases q with
  | cons x r =>
    cases r
    cases x with
    | tup e q =>
      have z := dpa_ints q
      subst z
      exact ⟨_, ns, rfl, ex_t s e, k _ _ _ (Ext.refl s) (.int _)⟩
end DL

set_option maxRecDepth 100000
set_option maxHeartbeats 4000000
namespace DL
open PySem PySem.Spec PyProof.Rows L2 Evl
variable {nn : Nat}
/-! ## expressions by data -/
section
variable (c : Fx) {ι : Type} (F : ι → Vr)
def XD (e : Expr) (en : List Sv) (d : Dt) : Prop := ∃ t, (∀ i, PE (cx c (F i)) e t) ∧ DE c.N.length c.K t en d
def XN (e : Expr) (en : List Sv) (ds : List Dt) : Prop := ∃ t, (∀ i, PE (cx c (F i)) e t) ∧ DN c.N.length c.K t en ds
def XT (e : Expr) (en : List Sv) (b : Bool) : Prop := ∃ t, (∀ i, PT (cx c (F i)) e t) ∧ DT c.N.length c.K t en b
def XA (es : List Expr) (en : List Sv) (ds : List Dt) : Prop := ∃ t, (∀ i, PA (cx c (F i)) es t) ∧ DA c.N.length c.K t en ds
/-- a bound of a slice -/
def XO (o : Option Expr) (en : List Sv) (v : Option Int) : Prop := ∃ t, (∀ i, PO (cx c (F i)) o t) ∧
  ∀ {G0 G H0 H : Hp} {σ : L2.St} (Q : Option Int → Hp → Prop), SR c.N.length c.K G0 G H0 H σ en → (∀ H0' H', Ext H0 H H0' H' → Q v H') → t σ H Q
end
section
variable {c : Fx} {ι : Type} {F : ι → Vr} {en : List Sv} {e e1 e2 e3 : Expr} {es : List Expr} {a b d : Dt} {ds : List Dt} {pos p : Pos} {x : Str}
theorem XN.xd (h : XN c F e en ds) : XD c F e en (.list ds) := let ⟨t, a, b⟩ := h; ⟨t, a, b.de⟩
theorem XD.is (h : XD c F e en a) (q : a = d) : XD c F e en d := q ▸ h
theorem XN.is {as : List Dt} (h : XN c F e en as) (q : as = ds) : XN c F e en ds := q ▸ h
theorem XT.is {k j : Bool} (h : XT c F e en k) (q : k = j) : XT c F e en j := q ▸ h
theorem x_int {i j} : XD c F (.Constant (.int i) j pos) en (.int i) := ⟨_, fun _ => pe_int, fun Q r k => k _ _ _ (Ext.refl r.sub) (.int i)⟩
theorem x_bool {i j} : XD c F (.Constant (.bool i) j pos) en (.bool i) := ⟨_, fun _ => pe_bl, fun Q r k => k _ _ _ (Ext.refl r.sub) (.bl i)⟩
theorem x_none {j} : XD c F (.Constant .none j pos) en .none := ⟨_, fun _ => pe_non, fun Q r k => k _ _ _ (Ext.refl r.sub) .non⟩
theorem x_str {z j} : XD c F (.Constant (.str z) j pos) en (.str z) := ⟨_, fun _ => pe_str, fun Q r k => k _ _ _ (Ext.refl r.sub) (.str z)⟩
theorem x_var (j : Nat) (h : en[j]? = some (Sv.d d) := by rfl) (hN : c.N[j]? = some x := by rfl) (hv : ∀ i, Vis (F i).env.scope x := by first | exact fun _ => Or.inl rfl | exact fun _ => Or.inr (Or.inl rfl) | exact fun _ => Or.inr (Or.inr rfl))
    (hd : (x == ("__debug__" : Str)) = false := by decide) (hcd : (x == ("__classdict__" : Str)) = false := by decide) : XD c F (.Name x pos) en d :=
  ⟨tVar j, fun i => pe_var hN (hv i) hd hcd, fun Q r k => by
    obtain ⟨v, a, b⟩ := r.dat j d h
    exact ⟨v, a, k v _ _ (Ext.refl r.sub) b⟩⟩
/-- a module's constant -/
theorem x_gint {n : Int} (hm : ∃ t, c.mg x = some (.int n t)) (hg : ∀ i, Gl (cx c (F i)) x := by exact fun _ => rfl) (hd : (x == ("__debug__" : Str)) = false := by decide) : XD c F (.Name x pos) en (.int n) :=
  ⟨tC (.int n), fun i => let ⟨t, ht⟩ := hm; pe_glob (hg i) ht ⟨t, rfl⟩ hd, fun Q r k => k _ _ _ (Ext.refl r.sub) (.int n)⟩
theorem x_gtup {ga : Addr} {vs : List V} (hm : c.mg x = some (.ref ga)) (hs : ∀ H, SqT c.K H ga vs) (hq : ∀ H, DwAll c.K H vs ds) (hg : ∀ i, Gl (cx c (F i)) x := by exact fun _ => rfl) (hd : (x == ("__debug__" : Str)) = false := by decide) : XD c F (.Name x pos) en (.tuple ds) :=
  ⟨tC (.ref ga), fun i => pe_glob (v := .ref ga) (hg i) hm rfl hd, fun Q r k => k _ _ _ (Ext.refl r.sub) (.tup (hs _) (hq _))⟩
theorem x_op {op : Operator} {r : R2} (ho : ∀ i, OpR (cx c (F i)) (binaryOp op) r) (h1 : XD c F e1 en a) (h2 : XD c F e2 en b) (hr : RD c.K r a b d) : XD c F (.BinOp e1 op e2 pos) en d :=
  let ⟨_, p1, d1⟩ := h1; let ⟨_, p2, d2⟩ := h2; ⟨_, fun i => pe_op (ho i) (p1 i) (p2 i), de_op d1 d2 hr⟩
theorem n_op {op : Operator} {r : R2} (ho : ∀ i, OpR (cx c (F i)) (binaryOp op) r) (h1 : XD c F e1 en a) (h2 : XD c F e2 en b) (hr : RN c.K r a b ds) : XN c F (.BinOp e1 op e2 pos) en ds :=
  let ⟨_, p1, d1⟩ := h1; let ⟨_, p2, d2⟩ := h2; ⟨_, fun i => pe_op (ho i) (p1 i) (p2 i), dn_op d1 d2 hr⟩
section
variable {i j : Int}
theorem x_add (h1 : XD c F e1 en (.int i)) (h2 : XD c F e2 en (.int j)) : XD c F (.BinOp e1 .Add e2 pos) en (.int (i + j)) := x_op (fun _ => op_add) h1 h2 rd_II
theorem x_sub (h1 : XD c F e1 en (.int i)) (h2 : XD c F e2 en (.int j)) : XD c F (.BinOp e1 .Sub e2 pos) en (.int (i - j)) := x_op (fun _ => op_sub) h1 h2 rd_II
theorem x_mul (h1 : XD c F e1 en (.int i)) (h2 : XD c F e2 en (.int j)) (h : CMul i j) : XD c F (.BinOp e1 .Mult e2 pos) en (.int (i * j)) := x_op (fun _ => op_mul) h1 h2 (rd_IC h)
theorem x_mulW (h1 : XD c F e1 en (.int i)) (h2 : XD c F e2 en (.int j)) (h : CMulW i j) : XD c F (.BinOp e1 .Mult e2 pos) en (.int (i * j)) := x_op (fun _ => op_mulW) h1 h2 (rd_IC h)
theorem x_mod (h1 : XD c F e1 en (.int i)) (h2 : XD c F e2 en (.int j)) (h : 0 < j) : XD c F (.BinOp e1 .Mod e2 pos) en (.int (i % j)) := x_op (fun _ => op_mod) h1 h2 (rd_IC (C := fun _ j => 0 < j) h)
theorem x_div (h1 : XD c F e1 en (.int i)) (h2 : XD c F e2 en (.int j)) (h : 0 < j ∧ j < 1073741824) : XD c F (.BinOp e1 .FloorDiv e2 pos) en (.int (i / j)) := x_op (fun _ => op_fdiv) h1 h2 (rd_IC h)
theorem x_divW (h1 : XD c F e1 en (.int i)) (h2 : XD c F e2 en (.int j)) (h : CDivW i j) : XD c F (.BinOp e1 .FloorDiv e2 pos) en (.int (i / j)) := x_op (fun _ => op_fdivW) h1 h2 (rd_IC h)
theorem x_pow (h1 : XD c F e1 en (.int i)) (h2 : XD c F e2 en (.int j)) (h : CPow i j) : XD c F (.BinOp e1 .Pow e2 pos) en (.int (i ^ j.toNat)) := x_op (fun _ => op_pow) h1 h2 (rd_IC (g := fun i j => i ^ j.toNat) h)
theorem x_neg (h1 : XD c F e1 en (.int i)) : XD c F (.UnaryOp .USub e1 pos) en (.int (-i)) :=
  let ⟨_, p1, d1⟩ := h1; ⟨_, fun _ => pe_un un_neg (p1 _), de_un d1 (fun Q s x k => by cases x; exact ⟨i, rfl, k _ _ _ (Ext.refl s) (.int _)⟩)⟩
end
theorem n_cat {es : List Dt} (h1 : XD c F e1 en (.list ds)) (h2 : XD c F e2 en (.list es)) (h : ds.length + es.length ≤ 100000) : XN c F (.BinOp e1 .Add e2 pos) en (ds ++ es) := n_op (fun _ => op_cat) h1 h2 (rn_cat h)
theorem x_catT {es : List Dt} (h1 : XD c F e1 en (.tuple ds)) (h2 : XD c F e2 en (.tuple es)) (h : ds.length + es.length ≤ 100000) : XD c F (.BinOp e1 .Add e2 pos) en (.tuple (ds ++ es)) := x_op (fun _ => op_catA) h1 h2 (rd_catT h)
theorem n_rep {n : Int} (h1 : XD c F e1 en (.list ds)) (h2 : XD c F e2 en (.int n)) (h : 0 ≤ n ∧ n ≤ 100000 ∧ ds.length * n.toNat ≤ 100000) : XN c F (.BinOp e1 .Mult e2 pos) en (List.replicate n.toNat ds).flatten := n_op (fun _ => op_rep) h1 h2 (rn_rep h.1 h.2.2 h.2.1)
theorem x_repT {n : Int} (h1 : XD c F e1 en (.tuple ds)) (h2 : XD c F e2 en (.int n)) (h : 2 ≤ n ∧ n ≤ 1000 ∧ ds.length ≤ 1000 ∧ ds ≠ []) : XD c F (.BinOp e1 .Mult e2 pos) en (.tuple (List.replicate n.toNat ds).flatten) := x_op (fun _ => op_repT) h1 h2 (rd_repT h.1 h.2.1 h.2.2.1 h.2.2.2)
/-! comparisons -/
theorem x_cmp {op : CmpOp} {r : R2} (ho : ∀ i, OpR (cx c (F i)) (compareOp op) r) (h1 : XD c F e1 en a) (h2 : XD c F e2 en b) (hr : RD c.K r a b d) (hm : behindInMarks op e2 = false) : XD c F (.Compare e1 [op] [e2] pos) en d :=
  let ⟨_, p1, d1⟩ := h1; let ⟨_, p2, d2⟩ := h2; ⟨_, fun i => pe_cmpR (ho i) (p1 i) (p2 i) hm, de_op d1 d2 hr⟩
theorem t_cmp {op : CmpOp} {r : R2} {k : Bool} (ho : ∀ i, OpR (cx c (F i)) (compareOp op) r) (h1 : XD c F e1 en a) (h2 : XD c F e2 en b) (hr : RD c.K r a b (.bool k)) (hm : behindInMarks op e2 = false) : XT c F (.Compare e1 [op] [e2] pos) en k :=
  let ⟨_, p1, d1⟩ := h1; let ⟨_, p2, d2⟩ := h2; ⟨_, fun i => pt_cmpR (ho i) (p1 i) (p2 i) hm, fun Q s q => de_op d1 d2 hr _ s fun v H0' H' x w => by cases w; exact ⟨k, rfl, q H0' H' x⟩⟩
section
variable {i j : Int}
theorem x_lt (h1 : XD c F e1 en (.int i)) (h2 : XD c F e2 en (.int j)) : XD c F (.Compare e1 [.Lt] [e2] pos) en (.bool (decide (i < j))) := x_cmp (fun _ => op_lt) h1 h2 (rd_IB (g := fun i j => decide (i < j))) (nomark _)
theorem x_le (h1 : XD c F e1 en (.int i)) (h2 : XD c F e2 en (.int j)) : XD c F (.Compare e1 [.LtE] [e2] pos) en (.bool (decide (i ≤ j))) := x_cmp (fun _ => op_le) h1 h2 (rd_IB (g := fun i j => decide (i ≤ j))) (nomark _)
theorem x_gt (h1 : XD c F e1 en (.int i)) (h2 : XD c F e2 en (.int j)) : XD c F (.Compare e1 [.Gt] [e2] pos) en (.bool (decide (j < i))) := x_cmp (fun _ => op_gt) h1 h2 (rd_IB (g := fun i j => decide (j < i))) (nomark _)
theorem x_ge (h1 : XD c F e1 en (.int i)) (h2 : XD c F e2 en (.int j)) : XD c F (.Compare e1 [.GtE] [e2] pos) en (.bool (decide (j ≤ i))) := x_cmp (fun _ => op_ge) h1 h2 (rd_IB (g := fun i j => decide (j ≤ i))) (nomark _)
theorem t_lt (h1 : XD c F e1 en (.int i)) (h2 : XD c F e2 en (.int j)) : XT c F (.Compare e1 [.Lt] [e2] pos) en (decide (i < j)) := t_cmp (fun _ => op_lt) h1 h2 (rd_IB (g := fun i j => decide (i < j))) (nomark _)
theorem t_le (h1 : XD c F e1 en (.int i)) (h2 : XD c F e2 en (.int j)) : XT c F (.Compare e1 [.LtE] [e2] pos) en (decide (i ≤ j)) := t_cmp (fun _ => op_le) h1 h2 (rd_IB (g := fun i j => decide (i ≤ j))) (nomark _)
theorem t_gt (h1 : XD c F e1 en (.int i)) (h2 : XD c F e2 en (.int j)) : XT c F (.Compare e1 [.Gt] [e2] pos) en (decide (j < i)) := t_cmp (fun _ => op_gt) h1 h2 (rd_IB (g := fun i j => decide (j < i))) (nomark _)
theorem t_ge (h1 : XD c F e1 en (.int i)) (h2 : XD c F e2 en (.int j)) : XT c F (.Compare e1 [.GtE] [e2] pos) en (decide (j ≤ i)) := t_cmp (fun _ => op_ge) h1 h2 (rd_IB (g := fun i j => decide (j ≤ i))) (nomark _)
end
theorem x_eq (hu : c.A.units + 64 < cLine) (h1 : XD c F e1 en a) (h2 : XD c F e2 en b) (s1 : SeqAt.shaped a = true) (s2 : SeqAt.shaped b = true) : XD c F (.Compare e1 [.Eq] [e2] pos) en (.bool (PyData.eqv a b)) := x_cmp (fun _ => op_eqD hu) h1 h2 (rd_eq s1 s2) (nomark _)
theorem x_ne (hu : c.A.units + 64 < cLine) (h1 : XD c F e1 en a) (h2 : XD c F e2 en b) (s1 : SeqAt.shaped a = true) (s2 : SeqAt.shaped b = true) : XD c F (.Compare e1 [.NotEq] [e2] pos) en (.bool (!PyData.eqv a b)) := x_cmp (fun _ => op_neD hu) h1 h2 (rd_ne s1 s2) (nomark _)
theorem t_eq (hu : c.A.units + 64 < cLine) (h1 : XD c F e1 en a) (h2 : XD c F e2 en b) (s1 : SeqAt.shaped a = true) (s2 : SeqAt.shaped b = true) : XT c F (.Compare e1 [.Eq] [e2] pos) en (PyData.eqv a b) := t_cmp (fun _ => op_eqD hu) h1 h2 (rd_eq s1 s2) (nomark _)
theorem t_ne (hu : c.A.units + 64 < cLine) (h1 : XD c F e1 en a) (h2 : XD c F e2 en b) (s1 : SeqAt.shaped a = true) (s2 : SeqAt.shaped b = true) : XT c F (.Compare e1 [.NotEq] [e2] pos) en (!PyData.eqv a b) := t_cmp (fun _ => op_neD hu) h1 h2 (rd_ne s1 s2) (nomark _)
def isNone : Dt → Bool
  | .none => true
  | _ => false
theorem rd_isN : RD c.K (fun x y H Q => y = .non ∧ Q (.bl (decide (x = .non))) H) a .none (.bool (isNone a)) := fun Q s x y q => by
  cases y
  refine ⟨rfl, ?_⟩
  cases x <;> exact q _ _ _ (Ext.refl s) (.bl _)
theorem rd_notN : RD c.K (fun x y H Q => y = .non ∧ Q (.bl (!decide (x = .non))) H) a .none (.bool (!isNone a)) := fun Q s x y q => by
  cases y
  refine ⟨rfl, ?_⟩
  cases x <;> exact q _ _ _ (Ext.refl s) (.bl _)
theorem x_isN (h1 : XD c F e1 en a) (h2 : XD c F e2 en .none) : XD c F (.Compare e1 [.Is] [e2] pos) en (.bool (isNone a)) := x_cmp (fun _ => op_isN) h1 h2 rd_isN (nomark _)
theorem x_notN (h1 : XD c F e1 en a) (h2 : XD c F e2 en .none) : XD c F (.Compare e1 [.IsNot] [e2] pos) en (.bool (!isNone a)) := x_cmp (fun _ => op_notN) h1 h2 rd_notN (nomark _)
theorem t_isN (h1 : XD c F e1 en a) (h2 : XD c F e2 en .none) : XT c F (.Compare e1 [.Is] [e2] pos) en (isNone a) := t_cmp (fun _ => op_isN) h1 h2 rd_isN (nomark _)
theorem t_notN (h1 : XD c F e1 en a) (h2 : XD c F e2 en .none) : XT c F (.Compare e1 [.IsNot] [e2] pos) en (!isNone a) := t_cmp (fun _ => op_notN) h1 h2 rd_notN (nomark _)
/-- l <= m <= u -/
theorem x_between {i j m : Int} (h1 : XD c F e1 en (.int i)) (h2 : XD c F e2 en (.int j)) (h3 : XD c F e3 en (.int m)) (hm : lastMarks [.LtE, .LtE] [e2, e3] = false := by with_unfolding_all rfl) :
    XD c F (.Compare e1 [.LtE, .LtE] [e2, e3] pos) en (.bool (decide (i ≤ j ∧ j ≤ m))) :=
  let ⟨_, p1, d1⟩ := h1; let ⟨_, p2, d2⟩ := h2; let ⟨_, p3, d3⟩ := h3
  ⟨_, fun q => pe_chain op_le op_le (p1 q) (p2 q) (p3 q) hm, fun Q s q => d1 _ s fun v H0' H' x w => by
    cases w
    refine d2 _ (s.step x) fun u I0 I y w2 => ?_
    cases w2
    refine ⟨i, j, rfl, rfl, decide (i ≤ j), rfl, ?_⟩
    by_cases hij : i ≤ j
    · rw [decide_eq_true hij, if_pos rfl]
      refine d3 _ ((s.step x).step y) fun z J0 J w w3 => ?_
      cases w3
      refine ⟨j, m, rfl, rfl, ?_⟩
      have e : decide (j ≤ m) = decide (i ≤ j ∧ j ≤ m) := by by_cases h : j ≤ m <;> simp [hij, h]
      show Q (V.bl (decide (j ≤ m))) J
      rw [e]
      exact q _ _ _ ((x.trans y).trans w) (.bl _)
    · rw [decide_eq_false hij, if_neg (by decide)]
      have e : decide (i ≤ j ∧ j ≤ m) = false := decide_eq_false fun z => hij z.1
      rw [e] at q
      exact q _ _ _ (x.trans y) (.bl _)⟩
theorem t_between {i j m : Int} (h1 : XD c F e1 en (.int i)) (h2 : XD c F e2 en (.int j)) (h3 : XD c F e3 en (.int m)) (hm : lastMarks [.LtE, .LtE] [e2, e3] = false := by with_unfolding_all rfl) :
    XT c F (.Compare e1 [.LtE, .LtE] [e2, e3] pos) en (decide (i ≤ j ∧ j ≤ m)) :=
  let ⟨_, p1, d1⟩ := h1; let ⟨_, p2, d2⟩ := h2; let ⟨_, p3, d3⟩ := h3
  ⟨_, fun q => pt_chain op_le op_le (p1 q) (p2 q) (p3 q) hm, fun Q s q => d1 _ s fun v H0' H' x w => by
    cases w
    refine d2 _ (s.step x) fun u I0 I y w2 => ?_
    cases w2
    refine ⟨i, j, rfl, rfl, decide (i ≤ j), rfl, ?_⟩
    by_cases hij : i ≤ j
    · rw [decide_eq_true hij, if_pos rfl]
      refine d3 _ ((s.step x).step y) fun z J0 J w w3 => ?_
      cases w3
      refine ⟨j, m, rfl, rfl, decide (j ≤ m), rfl, ?_⟩
      have e : decide (j ≤ m) = decide (i ≤ j ∧ j ≤ m) := by by_cases h : j ≤ m <;> simp [hij, h]
      rw [e]
      exact q _ _ ((x.trans y).trans w)
    · rw [decide_eq_false hij, if_neg (by decide)]
      have e : decide (i ≤ j ∧ j ≤ m) = false := decide_eq_false fun z => hij z.1
      rw [e] at q
      exact ⟨false, rfl, q _ _ (x.trans y)⟩⟩
theorem t_of (h : XD c F e en (.bool true)) (he : ∀ i whole, isTrue e (cx c (F i)).env whole = (do let v ← whole; standAt e.pos; holding [v] (truthy v)) := by exact fun _ _ => rfl) : XT c F e en true :=
  let ⟨_, p1, d1⟩ := h; ⟨_, fun i => pt_val (p1 i) (he i), fun Q s q => d1 _ s fun v H0' H' x w => by cases w; exact ⟨_, rfl, q H0' H' x⟩⟩
theorem t_val {z : Bool} (h : XD c F e en (.bool z)) (he : ∀ i whole, isTrue e (cx c (F i)).env whole = (do let v ← whole; standAt e.pos; holding [v] (truthy v)) := by exact fun _ _ => rfl) : XT c F e en z :=
  let ⟨_, p1, d1⟩ := h; ⟨_, fun i => pt_val (p1 i) (he i), fun Q s q => d1 _ s fun v H0' H' x w => by cases w; exact ⟨_, rfl, q H0' H' x⟩⟩
/-! and, or, not: the second one asked only where the first one is true (false) -/
theorem pe_never {X : Cx} {e : Expr} : PE X e (fun _ _ _ => False) := ⟨fun _ _ _ _ _ _ h => h.elim⟩
theorem pt_never {X : Cx} {e : Expr} : PT X e (fun _ _ _ => False) := ⟨fun _ _ _ _ _ _ h => h.elim⟩
theorem pw_never {X : Cx} {e : Expr} : PW X e (fun _ _ _ => False) := ⟨fun _ _ _ _ _ _ _ h => h.elim⟩
def XW (c : Fx) {ι : Type} (F : ι → Vr) (e : Expr) (en : List Sv) (b : Bool) : Prop := ∃ t, (∀ i, PW (cx c (F i)) e t) ∧ DT c.N.length c.K t en b
section
variable {u v : Bool} {rest : List Expr} {op : BoolOp}
theorem x_one (h : XD c F e en d) : XD c F (.BoolOp op [e] pos) en d := let ⟨_, p, q⟩ := h; ⟨_, fun i => pe_one (p i), q⟩
theorem x_and (h1 : XD c F e1 en (.bool u)) (h2 : u = true → XD c F (.BoolOp .And (e2 :: rest) pos) en (.bool v)) : XD c F (.BoolOp .And (e1 :: e2 :: rest) pos) en (.bool (u && v)) := by
  obtain ⟨_, p1, d1⟩ := h1
  cases u with
  | true =>
    obtain ⟨_, p2, d2⟩ := h2 rfl
    exact ⟨_, fun i => pe_and (p1 i) (p2 i), fun Q s q => d1 _ s fun y H0' H' x w => by
      cases w
      exact ⟨true, rfl, iteT (d2 _ (s.step x) fun y2 I0 I x2 w2 => q _ _ _ (x.trans x2) w2)⟩⟩
  | false =>
    exact ⟨_, fun i => pe_and (p1 i) pe_never, fun Q s q => d1 _ s fun y H0' H' x w => by
      cases w
      exact ⟨false, rfl, iteF (q _ _ _ x (.bl _))⟩⟩
theorem x_or (h1 : XD c F e1 en (.bool u)) (h2 : u = false → XD c F (.BoolOp .Or (e2 :: rest) pos) en (.bool v)) : XD c F (.BoolOp .Or (e1 :: e2 :: rest) pos) en (.bool (u || v)) := by
  obtain ⟨_, p1, d1⟩ := h1
  cases u with
  | false =>
    obtain ⟨_, p2, d2⟩ := h2 rfl
    exact ⟨_, fun i => pe_or (p1 i) (p2 i), fun Q s q => d1 _ s fun y H0' H' x w => by
      cases w
      exact ⟨false, rfl, iteF (d2 _ (s.step x) fun y2 I0 I x2 w2 => q _ _ _ (x.trans x2) w2)⟩⟩
  | true =>
    exact ⟨_, fun i => pe_or (p1 i) pe_never, fun Q s q => d1 _ s fun y H0' H' x w => by
      cases w
      exact ⟨true, rfl, iteT (q _ _ _ x (.bl _))⟩⟩
theorem x_andF (h : XD c F e1 en (.bool u)) (hu : u = false := by rfl) : XD c F (.BoolOp .And (e1 :: e2 :: rest) pos) en (.bool false) := by
  subst hu
  exact x_and (v := false) h fun z => by cases z
theorem x_andT (h : XD c F e1 en (.bool u)) (h2 : XD c F (.BoolOp .And (e2 :: rest) pos) en (.bool v)) (hu : u = true := by rfl) : XD c F (.BoolOp .And (e1 :: e2 :: rest) pos) en (.bool v) := by
  subst hu
  exact (x_and h fun _ => h2).is (by rw [Bool.true_and])
theorem x_orT (h : XD c F e1 en (.bool u)) (hu : u = true := by rfl) : XD c F (.BoolOp .Or (e1 :: e2 :: rest) pos) en (.bool true) := by
  subst hu
  exact x_or (v := false) h fun z => by cases z
theorem x_orF (h : XD c F e1 en (.bool u)) (h2 : XD c F (.BoolOp .Or (e2 :: rest) pos) en (.bool v)) (hu : u = false := by rfl) : XD c F (.BoolOp .Or (e1 :: e2 :: rest) pos) en (.bool v) := by
  subst hu
  exact (x_or h fun _ => h2).is (by rw [Bool.false_or])
theorem x_not (h : XD c F e en (.bool u)) : XD c F (.UnaryOp .Not e pos) en (.bool (!u)) :=
  let ⟨_, p, d1⟩ := h; ⟨_, fun i => pe_not (p i), fun Q s q => d1 _ s fun y H0' H' x w => by
    cases w
    exact ⟨u, rfl, q _ _ _ x (.bl _)⟩⟩
theorem w_and1 (h : XT c F e en u) : XW c F (.BoolOp .And [e] pos) en u := let ⟨_, p, q⟩ := h; ⟨_, fun i => pw_and1 (p i), q⟩
theorem w_or1 (h : XT c F e en u) : XW c F (.BoolOp .Or [e] pos) en u := let ⟨_, p, q⟩ := h; ⟨_, fun i => pw_or1 (p i), q⟩
theorem w_and (h1 : XT c F e1 en u) (h2 : u = true → XW c F (.BoolOp .And (e2 :: rest) pos) en v) : XW c F (.BoolOp .And (e1 :: e2 :: rest) pos) en (u && v) := by
  obtain ⟨_, p1, d1⟩ := h1
  cases u with
  | true =>
    obtain ⟨_, p2, d2⟩ := h2 rfl
    exact ⟨_, fun i => pw_and (p1 i) (p2 i), fun Q s q => d1 _ s fun H0' H' x => iteT (d2 _ (s.step x) fun I0 I x2 => q _ _ (x.trans x2))⟩
  | false => exact ⟨_, fun i => pw_and (p1 i) pw_never, fun Q s q => d1 _ s fun H0' H' x => iteF (q _ _ x)⟩
theorem w_or (h1 : XT c F e1 en u) (h2 : u = false → XW c F (.BoolOp .Or (e2 :: rest) pos) en v) : XW c F (.BoolOp .Or (e1 :: e2 :: rest) pos) en (u || v) := by
  obtain ⟨_, p1, d1⟩ := h1
  cases u with
  | false =>
    obtain ⟨_, p2, d2⟩ := h2 rfl
    exact ⟨_, fun i => pw_or (p1 i) (p2 i), fun Q s q => d1 _ s fun H0' H' x => iteF (d2 _ (s.step x) fun I0 I x2 => q _ _ (x.trans x2))⟩
  | true => exact ⟨_, fun i => pw_or (p1 i) pw_never, fun Q s q => d1 _ s fun H0' H' x => iteT (q _ _ x)⟩
theorem w_andF (h : XT c F e1 en u) (hu : u = false := by rfl) : XW c F (.BoolOp .And (e1 :: e2 :: rest) pos) en false := by
  subst hu
  exact w_and (v := false) h fun z => by cases z
theorem w_andT (h : XT c F e1 en u) (h2 : XW c F (.BoolOp .And (e2 :: rest) pos) en v) (hu : u = true := by rfl) : XW c F (.BoolOp .And (e1 :: e2 :: rest) pos) en v := by
  subst hu
  have z := w_and h fun _ => h2
  rw [Bool.true_and] at z
  exact z
theorem w_orT (h : XT c F e1 en u) (hu : u = true := by rfl) : XW c F (.BoolOp .Or (e1 :: e2 :: rest) pos) en true := by
  subst hu
  exact w_or (v := false) h fun z => by cases z
theorem w_orF (h : XT c F e1 en u) (h2 : XW c F (.BoolOp .Or (e2 :: rest) pos) en v) (hu : u = false := by rfl) : XW c F (.BoolOp .Or (e1 :: e2 :: rest) pos) en v := by
  subst hu
  have z := w_or h fun _ => h2
  rw [Bool.false_or] at z
  exact z
theorem XW.xt (h : XW c F e en u) : XT c F e en u := let ⟨_, p, q⟩ := h; ⟨_, fun i => PW.pt (p i), q⟩
theorem t_not (h : XT c F e en u) : XT c F (.UnaryOp .Not e pos) en (!u) := let ⟨_, p, d1⟩ := h; ⟨_, fun i => pt_not (p i), fun Q s q => d1 _ s fun _ _ x => q _ _ x⟩
end
/-! displays, subscripts, slices -/
abbrev Pl (c : Fx) {ι : Type} (F : ι → Vr) (e : Expr) (es : List Expr) : Prop := ∀ i, starEach (e :: es) (cx c (F i)).env = (false, eval e (cx c (F i)).env) :: starEach es (cx c (F i)).env
abbrev Bt (c : Fx) {ι : Type} (F : ι → Vr) (pos : Pos) (es : List Expr) : Prop := ∀ i, (backTo pos (starEach es (cx c (F i)).env)).any (·.1) = false

theorem a_nil : XA c F [] en [] := ⟨_, fun _ => pa_nil, da_nil⟩
theorem a_cons (h : XD c F e en a) (r : XA c F es en ds) (hs : Pl c F e es := by exact fun _ => rfl) : XA c F (e :: es) en (a :: ds) :=
  let ⟨_, p1, d1⟩ := h; let ⟨_, p2, d2⟩ := r; ⟨_, fun i => pa_cons (p1 i) (p2 i) (hs i), da_cons d1 d2⟩
theorem x_tup {k} (h : XA c F es en ds) (hl : ds.length ≤ 100000 := by first | decide | simp) : XD c F (.Tuple es k pos) en (.tuple ds) :=
  let ⟨_, p1, d1⟩ := h; ⟨_, fun i => pe_tup (p1 i), fun Q s q => d1 _ s fun vs H0' H' x w => ⟨by rw [dpa_len w]; exact sz_of hl, fun l hl =>
    q _ _ _ (x.trans (Ext.new _ x.sub hl)) (.tup (SqT.of upd_same) (dpa_mono (Ex.new (none_of_sub x.sub hl)) w))⟩⟩
theorem n_list (h : XA c F es en ds) (hl : ds.length ≤ 100000 := by first | decide | simp) : XN c F (.List es pos) en ds :=
  let ⟨_, p1, d1⟩ := h; ⟨_, fun i => pe_lst (p1 i), fun Q s q => d1 _ s fun vs H0' H' x w => ⟨by rw [dpa_len w]; exact sz_of hl, fun l hl =>
    q l _ _ _ (x.trans (Ext.newP _ x.sub hl)) (fresh_back x.all hl) (none_of_sub x.sub hl) upd_same w⟩⟩
section
variable {i : Int}
theorem x_ixL (h1 : XD c F e1 en (.list ds)) (h2 : XD c F e2 en (.int i)) (h : atI ds i = some d) (hs : PlainIx e2 := by exact fun _ _ => rfl) : XD c F (.Subscript e1 e2 pos) en d :=
  let ⟨_, p1, d1⟩ := h1; let ⟨_, p2, d2⟩ := h2; ⟨_, fun i => pe_ix ix_list (p1 i) (p2 i) hs, de_op d1 d2 (rd_ixL h)⟩
theorem x_ixT (h1 : XD c F e1 en (.tuple ds)) (h2 : XD c F e2 en (.int i)) (h : atI ds i = some d) (hs : PlainIx e2 := by exact fun _ _ => rfl) : XD c F (.Subscript e1 e2 pos) en d :=
  let ⟨_, p1, d1⟩ := h1; let ⟨_, p2, d2⟩ := h2; ⟨_, fun i => pe_ix ix_tup (p1 i) (p2 i) hs, de_op d1 d2 (rd_ixT h)⟩
theorem x_ixZ (h1 : XD c F e1 en (fz ds)) (h2 : XD c F e2 en (.int i)) (h : atI ds i = some d) (hs : PlainIx e2 := by exact fun _ _ => rfl) : XD c F (.Subscript e1 e2 pos) en d :=
  let ⟨_, p1, d1⟩ := h1; let ⟨_, p2, d2⟩ := h2; ⟨_, fun i => pe_ix ix_list (p1 i) (p2 i) hs, de_op d1 d2 (rd_ixZ h)⟩
end
theorem o_none : XO c F none en none := ⟨_, fun _ => po_none, fun Q s q => q _ _ (Ext.refl s.sub)⟩
theorem o_some {n : Int} (h : XD c F e en (.int n)) : XO c F (some e) en (some n) := let ⟨_, p1, d1⟩ := h; ⟨_, fun i => po_some (p1 i), fun Q s q => d1 _ s fun v H0' H' x w => by
  cases w
  exact ⟨n, rfl, q _ _ x⟩⟩
def cutD (ds : List Dt) (lo hi : Option Int) : List Dt := (ds.drop (HT.sIx ds.length 0 lo)).take (HT.sIx ds.length ds.length hi - HT.sIx ds.length 0 lo)
theorem cut_dw {K : PySem.W.Frag} {H : Hp} {vs : List V} {ds : List Dt} (q : DwAll K H vs ds) (lo hi : Option Int) : DwAll K H (cutV vs lo hi) (cutD ds lo hi) := by
  unfold cutV cutD
  rw [dpa_len q]
  exact dpa_take _ (dpa_drop _ q)
section
variable {lo hi : Option Expr} {l h : Option Int} {p2 : Pos}
theorem n_slice (h1 : XD c F e en (.list ds)) (hl : XO c F lo en l) (hh : XO c F hi en h) : XN c F (.Subscript e (.Slice lo hi none p2) pos) en (cutD ds l h) :=
  let ⟨t1, q1, d1⟩ := h1; let ⟨t2, q2, d2⟩ := hl; let ⟨t3, q3, d3⟩ := hh; ⟨tSl (rSlL c.K) t1 t2 t3, fun i => pe_slice sl_list (q1 i) (q2 i) (q3 i), fun Q s q => d1 _ s fun v H0' H' x w => d2 _ (s.step x) fun I0 I y => d3 _ ((s.step x).step y) fun J0 J z => by
    cases w with
    | lst e f =>
      refine ⟨_, _, rfl, SqL.of (z.sub _ _ (z.pub _ _ (y.pub _ _ e))), fun l hl => ?_⟩
      have f2 := dpa_mono z.pub (dpa_mono y.pub f)
      exact q l _ _ _ (((x.trans y).trans z).trans (Ext.newP _ z.sub hl)) (fresh_back ((x.trans y).trans z).all hl) (none_of_sub z.sub hl) upd_same (cut_dw f2 _ _)⟩
theorem x_sliceT (h1 : XD c F e en (.tuple ds)) (hl : XO c F lo en l) (hh : XO c F hi en h) : XD c F (.Subscript e (.Slice lo hi none p2) pos) en (.tuple (cutD ds l h)) :=
  let ⟨t1, q1, d1⟩ := h1; let ⟨t2, q2, d2⟩ := hl; let ⟨t3, q3, d3⟩ := hh; ⟨tSl (rSlA c.K) t1 t2 t3, fun i => pe_slice sl_tupA (q1 i) (q2 i) (q3 i), fun Q s q => d1 _ s fun v H0' H' x w => d2 _ (s.step x) fun I0 I y => d3 _ ((s.step x).step y) fun J0 J z => by
    cases w with
    | @tup a xs _ e f =>
      have e2 := ex_t z.pub (ex_t y.pub e)
      have f2 := dpa_mono z.pub (dpa_mono y.pub f)
      refine ⟨_, _, rfl, ex_t z.sub e2, fun w => ?_, fun w l hl => ?_⟩
      · refine q _ J0 _ ((x.trans y).trans z) ?_
        have hx : cutV xs l h = xs := by
          unfold cutV
          rw [w.1, w.2, List.drop_zero, Nat.sub_zero, List.take_length]
        have f3 := cut_dw f2 l h
        rw [hx] at f3
        exact .tup e2 f3
      · exact q _ _ _ (((x.trans y).trans z).trans (Ext.new _ z.sub hl)) (.tup (SqT.of upd_same) (dpa_mono (Ex.new (none_of_sub z.sub hl)) (cut_dw f2 _ _)))⟩
end
theorem n_rev {k : Nat} {p1 p2 p3 : Pos} (h : XD c F e en (.list ds)) : XN c F (.Subscript e (.Slice none none (some (.UnaryOp .USub (.Constant (.int 1) k p1) p2)) p3) pos) en ds.reverse :=
  let ⟨t1, q1, d1⟩ := h; ⟨tRevL c.K t1, fun i => pe_revL (q1 i), fun Q s q => d1 _ s fun v H0' H' x w => by
    cases w with
    | lst e f =>
      refine ⟨_, _, rfl, SqL.of (x.sub _ _ e), fun l hl => ?_⟩
      exact q l _ _ _ (x.trans (Ext.newP _ x.sub hl)) (fresh_back x.all hl) (none_of_sub x.sub hl) upd_same (dpa_rev f)⟩
/-! calls of built-ins by name -/
section
variable {id : String} {T : String} {r : List V → Hp → VK → Prop}
theorem x_cb (hc : ∀ i, CallR (cx c (F i)) (.builtin id) r) (hm : c.mg x = none) (hv : bootBuiltins x = some (.builtin id)) (ha : XA c F (e :: es) en ds) (hr : RC c.K r ds d) (hg : ∀ i, Gl (cx c (F i)) x := by exact fun _ => rfl)
    (hn : x ≠ "__name__" := by decide) (hdb : (x == ("__debug__" : Str)) = false := by decide) (he : Pl c F e es := by exact fun _ => rfl)
    (hpl : Bt c F pos es := by exact fun _ => rfl) : XD c F (.Call (.Name x p) (e :: es) [] pos) en d :=
  let ⟨_, p1, d1⟩ := ha; ⟨_, fun i => pe_callB (hc i) (hg i) hm hv (p1 i) hn hdb (he i) (hpl i), de_cb d1 hr⟩
theorem x_cty (hc : ∀ i, CallR (cx c (F i)) (.type T) r) (hm : c.mg x = none) (hv : bootBuiltins x = some (.type T)) (ha : XA c F (e :: es) en ds) (hr : RC c.K r ds d) (hg : ∀ i, Gl (cx c (F i)) x := by exact fun _ => rfl)
    (hn : x ≠ "__name__" := by decide) (hdb : (x == ("__debug__" : Str)) = false := by decide) (he : Pl c F e es := by exact fun _ => rfl)
    (hpl : Bt c F pos es := by exact fun _ => rfl) : XD c F (.Call (.Name x p) (e :: es) [] pos) en d :=
  let ⟨_, p1, d1⟩ := ha; ⟨_, fun i => pe_callTy (hc i) (hg i) hm hv (p1 i) hn hdb (he i) (hpl i), de_cb d1 hr⟩
theorem n_cty {bs : List Dt} (hc : ∀ i, CallR (cx c (F i)) (.type T) r) (hm : c.mg x = none) (hv : bootBuiltins x = some (.type T)) (ha : XA c F (e :: es) en ds) (hr : RCN c.K r ds bs) (hg : ∀ i, Gl (cx c (F i)) x := by exact fun _ => rfl)
    (hn : x ≠ "__name__" := by decide) (hdb : (x == ("__debug__" : Str)) = false := by decide) (he : Pl c F e es := by exact fun _ => rfl)
    (hpl : Bt c F pos es := by exact fun _ => rfl) : XN c F (.Call (.Name x p) (e :: es) [] pos) en bs :=
  let ⟨_, p1, d1⟩ := ha; ⟨_, fun i => pe_callTy (hc i) (hg i) hm hv (p1 i) hn hdb (he i) (hpl i), dn_cb d1 hr⟩
end
theorem x_lenL (hm : c.mg "len" = none) (h : XD c F e en (.list ds)) (hg : ∀ i, Gl (cx c (F i)) "len" := by exact fun _ => rfl) (s1 : Pl c F e [] := by exact fun _ => rfl) : XD c F (.Call (.Name "len" p) [e] [] pos) en (.int ds.length) := x_cb (fun _ => call_len_seq) hm PySem.boot_len (a_cons h a_nil s1) rc_len hg (by decide) (by decide) s1 (fun _ => rfl)
theorem x_lenT (hm : c.mg "len" = none) (h : XD c F e en (.tuple ds)) (hg : ∀ i, Gl (cx c (F i)) "len" := by exact fun _ => rfl) (s1 : Pl c F e [] := by exact fun _ => rfl) : XD c F (.Call (.Name "len" p) [e] [] pos) en (.int ds.length) := x_cb (fun _ => call_len_seq) hm PySem.boot_len (a_cons h a_nil s1) rc_lenT hg (by decide) (by decide) s1 (fun _ => rfl)
theorem x_lenZ (hm : c.mg "len" = none) (h : XD c F e en (fz ds)) (hg : ∀ i, Gl (cx c (F i)) "len" := by exact fun _ => rfl) (s1 : Pl c F e [] := by exact fun _ => rfl) : XD c F (.Call (.Name "len" p) [e] [] pos) en (.int ds.length) := x_cb (fun _ => call_len_seq) hm PySem.boot_len (a_cons h a_nil s1) rc_lenZ hg (by decide) (by decide) s1 (fun _ => rfl)
theorem x_sumL {ns : List Int} (hm : c.mg "sum" = none) (h : XD c F e en (.list (ns.map PyData.int))) (hc : c.calm = true := by rfl) (hg : ∀ i, Gl (cx c (F i)) "sum" := by exact fun _ => rfl) (s1 : Pl c F e [] := by exact fun _ => rfl) : XD c F (.Call (.Name "sum" p) [e] [] pos) en (.int ns.sum) := x_cb (fun _ => cr_sum hc) hm (by decide +kernel) (a_cons h a_nil s1) rc_sum hg (by decide) (by decide) s1 (fun _ => rfl)
theorem x_sumT {ns : List Int} (hm : c.mg "sum" = none) (h : XD c F e en (.tuple (ns.map PyData.int))) (hc : c.calm = true := by rfl) (hg : ∀ i, Gl (cx c (F i)) "sum" := by exact fun _ => rfl) (s1 : Pl c F e [] := by exact fun _ => rfl) : XD c F (.Call (.Name "sum" p) [e] [] pos) en (.int ns.sum) := x_cb (fun _ => cr_sumT hc) hm (by decide +kernel) (a_cons h a_nil s1) rc_sumT hg (by decide) (by decide) s1 (fun _ => rfl)
theorem x_all {bs : List Bool} (hm : c.mg "all" = none) (h : XD c F e en (.list (bs.map PyData.bool))) (hc : c.calm = true := by rfl) (hg : ∀ i, Gl (cx c (F i)) "all" := by exact fun _ => rfl) (s1 : Pl c F e [] := by exact fun _ => rfl) : XD c F (.Call (.Name "all" p) [e] [] pos) en (.bool (bs.all id)) := x_cb (fun _ => cr_all hc) hm (by decide +kernel) (a_cons h a_nil s1) rc_all hg (by decide) (by decide) s1 (fun _ => rfl)
theorem x_allF {xs : List Dt} (q : Dt → Bool) (hm : c.mg "all" = none) (h : XD c F e en (.list (xs.map fun y => .bool (q y)))) (hc : c.calm = true := by rfl) (hg : ∀ i, Gl (cx c (F i)) "all" := by exact fun _ => rfl) (s1 : Pl c F e [] := by exact fun _ => rfl) : XD c F (.Call (.Name "all" p) [e] [] pos) en (.bool (xs.all q)) :=
  (x_all (bs := xs.map q) hm (h.is (by rw [List.map_map]; rfl)) hc hg s1).is (by rw [List.all_map]; rfl)
theorem x_min {i j : Int} (hm : c.mg "min" = none) (h1 : XD c F e1 en (.int i)) (h2 : XD c F e2 en (.int j)) (hc : c.calm = true := by rfl) (hg : ∀ i, Gl (cx c (F i)) "min" := by exact fun _ => rfl) (s1 : Pl c F e1 [e2] := by exact fun _ => rfl) (s2 : Bt c F pos [e2] := by exact fun _ => rfl) (s3 : Pl c F e2 [] := by exact fun _ => rfl) :
    XD c F (.Call (.Name "min" p) [e1, e2] [] pos) en (.int (min i j)) := x_cb (fun _ => call_min2 hc) hm (by decide +kernel) (a_cons h1 (a_cons h2 a_nil s3) s1) rc_min2 hg (by decide) (by decide) s1 s2
theorem n_listL (hm : c.mg "list" = none) (h : XD c F e en (.list ds)) (hg : ∀ i, Gl (cx c (F i)) "list" := by exact fun _ => rfl) (s1 : Pl c F e [] := by exact fun _ => rfl) : XN c F (.Call (.Name "list" p) [e] [] pos) en ds := n_cty (fun _ => call_list_of) hm (by decide +kernel) (a_cons h a_nil s1) rcn_list hg (by decide) (by decide) s1 (fun _ => rfl)
theorem n_listT (hm : c.mg "list" = none) (h : XD c F e en (.tuple ds)) (hg : ∀ i, Gl (cx c (F i)) "list" := by exact fun _ => rfl) (s1 : Pl c F e [] := by exact fun _ => rfl) : XN c F (.Call (.Name "list" p) [e] [] pos) en ds := n_cty (fun _ => call_list_of) hm (by decide +kernel) (a_cons h a_nil s1) rcn_listT hg (by decide) (by decide) s1 (fun _ => rfl)
theorem x_tupleL (hm : c.mg "tuple" = none) (h : XD c F e en (.list ds)) (hg : ∀ i, Gl (cx c (F i)) "tuple" := by exact fun _ => rfl) (s1 : Pl c F e [] := by exact fun _ => rfl) : XD c F (.Call (.Name "tuple" p) [e] [] pos) en (.tuple ds) := x_cty (fun _ => call_tuple_of) hm (by decide +kernel) (a_cons h a_nil s1) rc_tuple hg (by decide) (by decide) s1 (fun _ => rfl)
theorem x_intB {b : Bool} (hm : c.mg "int" = none) (h : XD c F e en (.bool b)) (hg : ∀ i, Gl (cx c (F i)) "int" := by exact fun _ => rfl) (s1 : Pl c F e [] := by exact fun _ => rfl) : XD c F (.Call (.Name "int" p) [e] [] pos) en (.int (if b then 1 else 0)) := x_cty (fun _ => call_int1) hm (by decide +kernel) (a_cons h a_nil s1) rc_intB hg (by decide) (by decide) s1 (fun _ => rfl)
end
end DL

set_option maxRecDepth 100000
set_option maxHeartbeats 4000000
namespace DL
open PySem PySem.Spec PyProof.Rows L2 Evl
variable {nn : Nat}
/-! ## the type of a datum, isinstance -/
def tyD : Dt → String
  | .none => "NoneType" | .bool _ => "bool" | .int _ => "int" | .str _ => "str" | .list _ => "list" | .tuple _ => "tuple" | .dict _ => "list"
theorem tyX_dw {K : PySem.W.Frag} {H : Hp} {v : V} {d : Dt} (h : Dw K H v d) : TyX K H v (.type (tyD d)) := by
  cases h with
  | non => exact .base .non
  | bl b => exact .base (.bl b)
  | int i => exact .base (.int i)
  | str x => exact .base (.str x)
  | lst e _ => exact .base (.lst e)
  | tup e _ =>
    rcases e with (e | ⟨o, e⟩) | ⟨o, its, n, hk, hc, _⟩
    · exact .base (.tup e)
    · exact .fTuple e
    · exact .kTuple hk hc
  | frz e _ =>
    rcases e with (e | ⟨o, e⟩) | ⟨o, its, n, hk, hc, _⟩
    · exact .base (.lst e)
    · exact .base (.frz e)
    · exact .kList hk hc
section
variable {c : Fx} {ι : Type} {F : ι → Vr} {en : List Sv} {e e1 e2 e3 : Expr} {es : List Expr} {a b d : Dt} {ds as : List Dt} {pos p p2 : Pos} {x : Str} {k : Nat}
theorem x_isi {T : Str} {n : String} {r : Bool} (h : XD c F e en d) (hk : kitB (tyD d) n = some r) (hm : c.mg "isinstance" = none) (hT : c.mg T = none) (hb : bootBuiltins T = some (.type n)) (hg : ∀ i, Gl (cx c (F i)) "isinstance" := by exact fun _ => rfl) (hgT : ∀ i, Gl (cx c (F i)) T := by exact fun _ => rfl)
    (hn : T ≠ "__name__" := by decide) (hdb : (T == ("__debug__" : Str)) = false := by decide) (s1 : Pl c F e [.Name T p2] := by exact fun _ => rfl) (s2 : Pl c F (.Name T p2) [] := by exact fun _ => rfl) (s3 : Bt c F pos [.Name T p2] := by exact fun _ => rfl) :
    XD c F (.Call (.Name "isinstance" p) [e, .Name T p2] [] pos) en (.bool r) :=
  let ⟨t1, p1, d1⟩ := h
  ⟨tCB (rIsi c.K) (tCons t1 (tCons (tC (.ty n)) tNil)), fun i => pe_callB call_isi (hg i) hm (by decide +kernel) (pa_cons (p1 i) (pa_cons (pe_bltn (v := .ty n) (hgT i) hT hb rfl hn hdb) pa_nil (s2 i)) (s1 i)) (by decide) (by decide) (s1 i) (s3 i), fun Q s q => d1 _ s fun v H0' H' y w =>
    ⟨v, .ty n, _, _, r, rfl, .ty n, tyX_dw (dp_mono y.sub w), kit_ty hk, q _ _ _ y (.bl r)⟩⟩
theorem x_isInt {r : Bool} (h : XD c F e en d) (hk : kitB (tyD d) "int" = some r) (hm : c.mg "isinstance" = none) (hT : c.mg "int" = none) (hg : ∀ i, Gl (cx c (F i)) "isinstance" := by exact fun _ => rfl) (hgT : ∀ i, Gl (cx c (F i)) "int" := by exact fun _ => rfl)
    (s1 : Pl c F e [.Name "int" p2] := by exact fun _ => rfl) (s2 : Pl c F (.Name "int" p2) [] := by exact fun _ => rfl) (s3 : Bt c F pos [.Name "int" p2] := by exact fun _ => rfl) : XD c F (.Call (.Name "isinstance" p) [e, .Name "int" p2] [] pos) en (.bool r) := x_isi h hk hm hT (by decide +kernel) hg hgT (by decide) (by decide) s1 s2 s3
theorem x_isBool {r : Bool} (h : XD c F e en d) (hk : kitB (tyD d) "bool" = some r) (hm : c.mg "isinstance" = none) (hT : c.mg "bool" = none) (hg : ∀ i, Gl (cx c (F i)) "isinstance" := by exact fun _ => rfl) (hgT : ∀ i, Gl (cx c (F i)) "bool" := by exact fun _ => rfl)
    (s1 : Pl c F e [.Name "bool" p2] := by exact fun _ => rfl) (s2 : Pl c F (.Name "bool" p2) [] := by exact fun _ => rfl) (s3 : Bt c F pos [.Name "bool" p2] := by exact fun _ => rfl) : XD c F (.Call (.Name "isinstance" p) [e, .Name "bool" p2] [] pos) en (.bool r) := x_isi h hk hm hT (by decide +kernel) hg hgT (by decide) (by decide) s1 s2 s3
theorem x_isList {r : Bool} (h : XD c F e en d) (hk : kitB (tyD d) "list" = some r) (hm : c.mg "isinstance" = none) (hT : c.mg "list" = none) (hg : ∀ i, Gl (cx c (F i)) "isinstance" := by exact fun _ => rfl) (hgT : ∀ i, Gl (cx c (F i)) "list" := by exact fun _ => rfl)
    (s1 : Pl c F e [.Name "list" p2] := by exact fun _ => rfl) (s2 : Pl c F (.Name "list" p2) [] := by exact fun _ => rfl) (s3 : Bt c F pos [.Name "list" p2] := by exact fun _ => rfl) : XD c F (.Call (.Name "isinstance" p) [e, .Name "list" p2] [] pos) en (.bool r) := x_isi h hk hm hT (by decide +kernel) hg hgT (by decide) (by decide) s1 s2 s3
theorem x_isTuple {r : Bool} (h : XD c F e en d) (hk : kitB (tyD d) "tuple" = some r) (hm : c.mg "isinstance" = none) (hT : c.mg "tuple" = none) (hg : ∀ i, Gl (cx c (F i)) "isinstance" := by exact fun _ => rfl) (hgT : ∀ i, Gl (cx c (F i)) "tuple" := by exact fun _ => rfl)
    (s1 : Pl c F e [.Name "tuple" p2] := by exact fun _ => rfl) (s2 : Pl c F (.Name "tuple" p2) [] := by exact fun _ => rfl) (s3 : Bt c F pos [.Name "tuple" p2] := by exact fun _ => rfl) : XD c F (.Call (.Name "isinstance" p) [e, .Name "tuple" p2] [] pos) en (.bool r) := x_isi h hk hm hT (by decide +kernel) hg hgT (by decide) (by decide) s1 s2 s3
end
/-! ## defs -/
theorem passN {X : Cx} : Passes (L2N.CX X.prog X.w) X E0 := fun _ _ _ _ _ _ _ h =>
  let ⟨_, _, _, _, _, _, _, _, _, _, _, _, z⟩ := h; (show False from z).elim
inductive Out where
  | ret (d : Dt)
  | new (ds : List Dt)
  | exc (C : Addr)
  | newT (ds rs : List Dt)
  | raw (x : V)
def cont (K : PySem.W.Frag) (H0 H : Hp) (Q : VK) (E : XK) : Out → Prop
  | .ret d => ∀ v H0' H', Ext H0 H H0' H' → Dw K H0' v d → Q v H'
  | .new ds => ∀ l vs H0' H', Ext H0 H H0' H' → H l = none → H0' l = none → H' l = some (.lst vs) → DwAll K H0' vs ds → Q (.ref l) H'
  | .exc C => ∀ H0' H', Ext H0 H H0' H' → E (.ref C) none H'
  | .newT ds rs => ∀ p l vs us H0' H', Ext H0 H H0' H' → H l = none → H0' l = none → H' l = some (.lst vs) → DwAll K H0' vs ds → SqT K H' p (V.ref l :: us) → DwAll K H0' us rs → Q (.ref p) H'
  | .raw x => ∀ H0' H', Ext H0 H H0' H' → Q x H'
def spR (K : PySem.W.Frag) (R : List Dt → Out → Prop) : Sp := fun vs H Q E => ∃ H0 as out, Ex H0 H ∧ DwAll K H0 vs as ∧ R as out ∧ cont K H0 H Q E out
def fdat (K : PySem.W.Frag) (f : Addr) : Option FuncData := match K.lookup f with
  | some ⟨_, _, .func fd, _⟩ => some fd
  | _ => none
/-- the def at f keeps the contract R -/
structure Fn (P : Program) (w : World) (K : PySem.W.Frag) (mg : Str → Option Value) (base : Heap) (k : Nat) (f : Addr) (ps : List Str) (R : List Dt → Out → Prop) : Prop where
  ex : ∃ fd, FnOk P w K mg base (L2N.CX P w) k f fd ps (spR K R) ∧ Binds K fd ps [] ∧ fdat K f = some fd
  kp : PySem.W.keepIn K (.ref f) = true
theorem Fn.imp {P : Program} {w : World} {K : PySem.W.Frag} {mg : Str → Option Value} {base : Heap} {k : Nat} {f : Addr} {ps : List Str} {R R' : List Dt → Out → Prop} (h : Fn P w K mg base k f ps R) (hr : ∀ as o, R' as o → R as o) : Fn P w K mg base k f ps R' :=
  let ⟨fd, a, b⟩ := h.ex
  ⟨⟨fd, a.imp fun vs H Q E ⟨H0, as, o, s, q, r, k⟩ => ⟨H0, as, o, s, q, hr _ _ r, k⟩, b⟩, h.kp⟩
def XE (c : Fx) {ι : Type} (F : ι → Vr) (W : WX) (e : Expr) (en : List Sv) (C : Addr) : Prop := ∃ t, (∀ i, PE (cx c (F i)) e t) ∧
  ∀ {G0 G H0 H : Hp} {σ : L2.St} (Q : VK), SR c.N.length c.K G0 G H0 H σ en → (∀ H0' H', Ext H0 H H0' H' → W (.ref C) none σ H') → t σ H Q
section
variable {c : Fx} {ι : Type} {F : ι → Vr} {en : List Sv} {e e1 e2 e3 : Expr} {es : List Expr} {a b d : Dt} {ds as : List Dt} {pos p p2 : Pos} {x : Str} {k j : Nat} {fa : Addr} {ps : List Str} {R : List Dt → Out → Prop} {W : WX}
theorem x_call (f : Fn c.P c.w c.K c.mg c.base k fa ps R) (hm : c.mg x = some (.ref fa)) (hr : Room j c.A) (hk : k ≤ j) (ha : XA c F (e :: es) en as) (h : R as (.ret d)) (hg : ∀ i, Gl (cx c (F i)) x := by exact fun _ => rfl)
    (hdb : (x == ("__debug__" : Str)) = false := by decide) (s1 : Pl c F e es := by exact fun _ => rfl) (s2 : Bt c F pos es := by exact fun _ => rfl) : XD c F (.Call (.Name x p) (e :: es) [] pos) en d := by
  obtain ⟨fd, f1, f2, _⟩ := f.ex
  obtain ⟨t1, p1, d1⟩ := ha
  refine ⟨tCall (spR c.K R) [] E0 t1, fun i => pe_call f1 (hr.mono hk) (hg i) hm f.kp f2 .nil passN (p1 i) hdb (s1 i) (s2 i), fun Q s q => d1 _ s fun vs H0' H' x w => ?_⟩
  rw [List.append_nil]
  exact ⟨H0', as, _, x.sub, w, h, fun v I0 I y u => q v I0 I (x.trans y) u⟩
theorem n_call (f : Fn c.P c.w c.K c.mg c.base k fa ps R) (hm : c.mg x = some (.ref fa)) (hr : Room j c.A) (hk : k ≤ j) (ha : XA c F (e :: es) en as) (h : R as (.new ds)) (hg : ∀ i, Gl (cx c (F i)) x := by exact fun _ => rfl)
    (hdb : (x == ("__debug__" : Str)) = false := by decide) (s1 : Pl c F e es := by exact fun _ => rfl) (s2 : Bt c F pos es := by exact fun _ => rfl) : XN c F (.Call (.Name x p) (e :: es) [] pos) en ds := by
  obtain ⟨fd, f1, f2, _⟩ := f.ex
  obtain ⟨t1, p1, d1⟩ := ha
  refine ⟨tCall (spR c.K R) [] E0 t1, fun i => pe_call f1 (hr.mono hk) (hg i) hm f.kp f2 .nil passN (p1 i) hdb (s1 i) (s2 i), fun Q s q => d1 _ s fun vs H0' H' x w => ?_⟩
  rw [List.append_nil]
  exact ⟨H0', as, _, x.sub, w, h, fun l us I0 I y n n0 e u => q l us I0 I (x.trans y) (fresh_back x.all n) n0 e u⟩
/-- f(..)[0], where f tells a new list within a tuple -/
theorem n_ix0 {rs : List Dt} {q0 q1 : Pos} {m : Nat} (f : Fn c.P c.w c.K c.mg c.base k fa ps R) (hm : c.mg x = some (.ref fa)) (hr : Room j c.A) (hk : k ≤ j) (ha : XA c F (e :: es) en as) (h : R as (.newT ds rs)) (hg : ∀ i, Gl (cx c (F i)) x := by exact fun _ => rfl)
    (hdb : (x == ("__debug__" : Str)) = false := by decide) (s1 : Pl c F e es := by exact fun _ => rfl) (s2 : Bt c F pos es := by exact fun _ => rfl) (hs : PlainIx (.Constant (.int 0) m q1) := by exact fun _ _ => rfl) : XN c F (.Subscript (.Call (.Name x p) (e :: es) [] pos) (.Constant (.int 0) m q1) q0) en ds := by
  obtain ⟨fd, f1, f2, _⟩ := f.ex
  obtain ⟨t1, p1, d1⟩ := ha
  refine ⟨tOp (rIxT c.K) (tCall (spR c.K R) [] E0 t1) (tC (.int 0)), fun i => pe_ix ix_tup (pe_call f1 (hr.mono hk) (hg i) hm f.kp f2 .nil passN (p1 i) hdb (s1 i) (s2 i)) pe_int hs, fun Q s q => d1 _ s fun vs H0' H' x w => ?_⟩
  rw [List.append_nil]
  refine ⟨H0', as, _, x.sub, w, h, fun p l us ws I0 I y n n0 e u sq uw => ?_⟩
  have at0 : atI (V.ref l :: ws) 0 = some (.ref l) := by
    unfold atI ixN
    rw [if_pos (Int.le_refl 0), if_pos (by rw [List.length_cons]; omega)]
    rfl
  refine ⟨p, _, 0, .ref l, rfl, rfl, sq, at0, ?_⟩
  exact q l us I0 I (x.trans y) (fresh_back x.all n) n0 e u
theorem c_call (tk : ∀ i, L2N.Takes (cx c (F i)) W) (f : Fn c.P c.w c.K c.mg c.base k fa ps R) (hm : c.mg x = some (.ref fa)) (hr : Room j c.A) (hk : k ≤ j) (ha : XA c F (e :: es) en as) {C : Addr} (h : R as (.exc C)) (hg : ∀ i, Gl (cx c (F i)) x := by exact fun _ => rfl)
    (hdb : (x == ("__debug__" : Str)) = false := by decide) (s1 : Pl c F e es := by exact fun _ => rfl) (s2 : Bt c F pos es := by exact fun _ => rfl) : XE c F W (.Call (.Name x p) (e :: es) [] pos) en C := by
  obtain ⟨fd, f1, f2, _⟩ := f.ex
  obtain ⟨t1, p1, d1⟩ := ha
  refine ⟨tCallS (spR c.K R) (WE W) t1, fun i => pe_callS f1 (hr.mono hk) (hg i) hm f.kp f2 (fun σ => L2N.passAt (tk i) σ) (p1 i) hdb (s1 i) (s2 i), fun Q s q => d1 _ s fun vs H0' H' x w => ?_⟩
  exact ⟨H0', as, _, x.sub, w, h, fun I0 I y => q I0 I (x.trans y)⟩
end
/-! ## reading lists owned by the frame -/
def vw1 : Sv → Sv
  | .own xs => .d (.list xs)
  | s => s
abbrev vw (en : List Sv) : List Sv := en.map vw1
open Classical in
theorem SR.view {K : PySem.W.Frag} {G0 G H0 H : Hp} {σ : L2.St} {en : List Sv} (r : SR nn K G0 G H0 H σ en) : ∃ J0, Ex H0 J0 ∧ SR nn K G0 G J0 H σ (vw en) := by
  let J0 : Hp := fun a => if ∃ (i : Nat) (xs : List Dt), en[i]? = some (Sv.own xs) ∧ σ[i]? = some (some (V.ref a)) then H a else H0 a
  have up : Ex H0 J0 := fun a o e => by
    show (if _ then _ else _) = _
    split
    · exact r.sub a o e
    · exact e
  have dn : Ex J0 H := fun a o e => by
    have e2 : (if ∃ (i : Nat) (xs : List Dt), en[i]? = some (Sv.own xs) ∧ σ[i]? = some (some (V.ref a)) then H a else H0 a) = some o := e
    split at e2
    · exact e2
    · exact r.sub a o e2
  have zc : ∀ {i : Nat} {a : Addr} {c : Cl}, (vw en)[i]? = some (Sv.cell a c) → en[i]? = some (Sv.cell a c) := fun {i a c} e => by
    rw [List.getElem?_map] at e
    cases q : en[i]? with
    | none => rw [q] at e; cases e
    | some s =>
      rw [q] at e
      cases s with
      | cell b d => exact e
      | _ => cases e
  have zr : ∀ {i : Nat} {a : Addr} {c : Cl}, (vw en)[i]? = some (Sv.rd a c) → en[i]? = some (Sv.rd a c) := fun {i a c} e => by
    rw [List.getElem?_map] at e
    cases q : en[i]? with
    | none => rw [q] at e; cases e
    | some s =>
      rw [q] at e
      cases s with
      | rd b d => exact e
      | _ => cases e
  have nown : ∀ {i : Nat} {xs : List Dt}, (vw en)[i]? = some (Sv.own xs) → False := fun {i xs} e => by
    rw [List.getElem?_map] at e
    cases q : en[i]? with
    | none => rw [q] at e; cases e
    | some s => rw [q] at e; cases s <;> cases e
  refine ⟨J0, up, ⟨⟨r.ext.pub.trans up, dn, r.ext.all, fun a o e n => ?_⟩, r.len, fun i d e => ?_, fun i xs e => ?_, fun i x e => ?_, fun i j xs ys l e => ?_, fun i a c e => ?_, fun i j a c c' e1 e2 => r.cdis i j a c c' (zc e1) (zc e2), fun i j a c xs e1 e2 => ?_, fun i a c e => let ⟨o, g, q⟩ := r.rdc i a c (zr e); ⟨o, g, q.mono up⟩⟩⟩
  · show (if _ then _ else _) = _
    split
    · rename_i h
      obtain ⟨i, xs, h1, h2⟩ := h
      obtain ⟨l, vs, a1, a2, _⟩ := r.own i xs h1
      rw [h2] at a1
      cases a1
      rw [a2] at e
      cases e
    · exact r.ext.prv a o e n
  · rw [List.getElem?_map] at e
    cases q : en[i]? with
    | none => rw [q] at e; cases e
    | some s =>
      rw [q] at e
      cases s with
      | d y =>
        cases e
        obtain ⟨v, a1, a2⟩ := r.dat i _ q
        exact ⟨v, a1, dp_mono up a2⟩
      | own xs =>
        cases e
        obtain ⟨l, vs, a1, a2, a3, a4, a5⟩ := r.own i xs q
        refine ⟨_, a1, .lst ?_ (dpa_mono up a5)⟩
        show (if _ then _ else _) = _
        rw [if_pos ⟨i, xs, q, a1⟩]
        exact a4
      | no => cases e
      | v y => cases e
      | cell b d => cases e
      | rd b d => cases e
  · rw [List.getElem?_map] at e
    cases q : en[i]? with
    | none => rw [q] at e; cases e
    | some s => rw [q] at e; cases s <;> cases e
  · rw [List.getElem?_map] at e
    cases q : en[i]? with
    | none => rw [q] at e; cases e
    | some s =>
      rw [q] at e
      cases s with
      | v y => cases e; exact r.raw i _ q
      | _ => cases e
  · rw [List.getElem?_map] at e
    cases q : en[i]? with
    | none => rw [q] at e; cases e
    | some s => rw [q] at e; cases s <;> cases e
  · obtain ⟨h1, h2, o, h3, h4⟩ := r.cel i a c (zc e)
    refine ⟨h1, ?_, o, h3, h4.mono up⟩
    show (if _ then _ else _) = _
    rw [if_neg]
    · exact h2
    · rintro ⟨k, xs, k1, k2⟩
      exact r.cown i k a c xs (zc e) k1 k2
  · exact (nown e2).elim
def flatD : Dt → Bool
  | .none | .bool _ | .int _ | .str _ => true
  | _ => false
theorem flat_dw {K : PySem.W.Frag} {H H' : Hp} {v : V} {d : Dt} (h : Dw K H v d) (f : flatD d = true) : Dw K H' v d := by
  cases h with
  | non => exact .non
  | bl b => exact .bl b
  | int i => exact .int i
  | str x => exact .str x
  | _ => cases f
theorem flat_dwa {K : PySem.W.Frag} {H H' : Hp} : ∀ {vs : List V} {ds : List Dt}, DwAll K H vs ds → ds.all flatD = true → DwAll K H' vs ds
  | _, _, .nil, _ => .nil
  | _, _, .cons h q, f => by
    rw [List.all_cons, Bool.and_eq_true] at f
    exact .cons (flat_dw h f.1) (flat_dwa q f.2)
/-- back from a view -/
theorem Ext.unview {H0 J0 H J0' H' : Hp} (s : Ex H0 H) (x : Ext J0 H J0' H') : Ext H0 H H0 H' := ⟨Ex.refl _, s.trans x.all, x.all, fun _ _ _ n => n⟩
section
variable {c : Fx} {ι : Type} {F : ι → Vr} {en : List Sv} {e : Expr} {d : Dt} {ds : List Dt}
theorem x_view (h : XD c F e (vw en) d) (f : flatD d = true := by rfl) : XD c F e en d :=
  let ⟨t, p, q⟩ := h
  ⟨t, p, fun Q s k => by
    obtain ⟨J0, u, s2⟩ := s.view
    exact q Q s2 fun v I0 I x w => k v _ I (Ext.unview s.sub x) (flat_dw w f)⟩
theorem t_view {b : Bool} (h : XT c F e (vw en) b) : XT c F e en b :=
  let ⟨t, p, q⟩ := h
  ⟨t, p, fun Q s k => by
    obtain ⟨J0, u, s2⟩ := s.view
    exact q Q s2 fun I0 I x => k _ I (Ext.unview s.sub x)⟩
theorem n_view (h : XN c F e (vw en) ds) (f : ds.all flatD = true) : XN c F e en ds :=
  let ⟨t, p, q⟩ := h
  ⟨t, p, fun Q s k => by
    obtain ⟨J0, u, s2⟩ := s.view
    refine q Q s2 fun l vs I0 I x n n0 e w => k l vs _ I (Ext.unview s.sub x) n ?_ e (flat_dwa w f)
    exact none_of_sub s.sub n⟩
end
end DL

set_option maxRecDepth 100000
set_option maxHeartbeats 4000000
namespace DL
open PySem PySem.Spec PyProof.Rows L2 Evl
variable {nn : Nat}
/-! ## statements by data -/
structure Po where
  nx : List Sv → Prop := fun _ => False
  rt : Out → List Sv → Prop := fun _ _ => False
  bk : List Sv → Prop := fun _ => False
  ct : List Sv → Prop := fun _ => False
  ex : Addr → List Sv → Prop := fun _ _ => False
structure PO (nn : Nat) (K : PySem.W.Frag) (G0 G H0 : Hp) (W : WX) (P : Po) (D : Ends) : Prop where
  nx : ∀ I0 I σ en, Ex H0 I0 → SR nn K G0 G I0 I σ en → P.nx en → D.nx σ I
  bk : ∀ I0 I σ en, Ex H0 I0 → SR nn K G0 G I0 I σ en → P.bk en → D.bk σ I
  ct : ∀ I0 I σ en, Ex H0 I0 → SR nn K G0 G I0 I σ en → P.ct en → D.ct σ I
  rt : ∀ v I0 I σ en d, Ex H0 I0 → SR nn K G0 G I0 I σ en → Dw K I0 v d → P.rt (.ret d) en → D.rt v I
  rn : ∀ l vs I0 I σ en ds, Ex H0 I0 → SR nn K G0 G I0 I σ en → G l = none → I0 l = none → I l = some (.lst vs) → (∀ (j : Nat) c, en[j]? ≠ some (Sv.cell l c)) → DwAll K I0 vs ds → P.rt (.new ds) en → D.rt (.ref l) I
  ex : ∀ C I0 I σ en, Ex H0 I0 → SR nn K G0 G I0 I σ en → P.ex C en → W (.ref C) none σ I
  rT : ∀ p l vs us I0 I σ en ds rs, Ex H0 I0 → SR nn K G0 G I0 I σ en → G l = none → I0 l = none → I l = some (.lst vs) → (∀ (j : Nat) c, en[j]? ≠ some (Sv.cell l c)) → DwAll K I0 vs ds → SqT K I p (V.ref l :: us) → DwAll K I0 us rs → P.rt (.newT ds rs) en → D.rt (.ref p) I
  rv : ∀ x I0 I σ en, Ex H0 I0 → SR nn K G0 G I0 I σ en → P.rt (.raw x) en → D.rt x I
def DS (nn : Nat) (K : PySem.W.Frag) (W : WX) (t : TS) (en : List Sv) (P : Po) : Prop := ∀ {G0 G H0 H : Hp} {σ : L2.St} {D : Ends}, SR nn K G0 G H0 H σ en → PO nn K G0 G H0 W P D → t D σ H
section
variable {K : PySem.W.Frag} {G0 G H0 I0 : Hp} {W : WX} {P : Po} {D : Ends}
theorem PO.mono (h : PO nn K G0 G H0 W P D) (e : Ex H0 I0) : PO nn K G0 G I0 W P D :=
  ⟨fun a b s en x => h.nx a b s en (e.trans x), fun a b s en x => h.bk a b s en (e.trans x), fun a b s en x => h.ct a b s en (e.trans x), fun v a b s en d x => h.rt v a b s en d (e.trans x), fun l vs a b s en ds x => h.rn l vs a b s en ds (e.trans x), fun C a b s en x => h.ex C a b s en (e.trans x), fun p l vs us a b s en ds rs x => h.rT p l vs us a b s en ds rs (e.trans x), fun y a b s en x => h.rv y a b s en (e.trans x)⟩
end
section
variable (c : Fx) {ι : Type} (F : ι → Vr) (W : WX)
def XS (st : Stmt) (en : List Sv) (P : Po) : Prop := ∃ t, (∀ i, PS (cx c (F i)) st t) ∧ DS c.N.length c.K W t en P
def XB (sts : List Stmt) (en : List Sv) (P : Po) : Prop := ∃ t, (∀ i, PSs (cx c (F i)) sts t) ∧ DS c.N.length c.K W t en P
/-- the block's widest reading -/
def uB (sts : List Stmt) : TS := fun D σ H => ∃ t, (∀ i, PSs (cx c (F i)) sts t) ∧ t D σ H
def uE (e : Expr) : TE := fun σ H Q => ∃ t, (∀ i, PE (cx c (F i)) e t) ∧ t σ H Q
def uT (e : Expr) : TT := fun σ H Q => ∃ t, (∀ i, PT (cx c (F i)) e t) ∧ t σ H Q
end
section
variable {c : Fx} {ι : Type} {F : ι → Vr} {W : WX} {en : List Sv} {e e1 e2 e3 : Expr} {es : List Expr} {a b d : Dt} {ds as : List Dt} {pos p p2 : Pos} {x : Str} {k j : Nat} {P : Po} {st : Stmt} {sts sts2 : List Stmt} {C : Addr}
theorem uB_ok (i : ι) : PSs (cx c (F i)) sts (uB c F sts) := ⟨fun pins s σ H D I h => let ⟨_, p, q⟩ := h; (p i).run pins s σ H D I q⟩
theorem uE_ok (i : ι) : PE (cx c (F i)) e (uE c F e) := ⟨fun pins s σ H Q I h => let ⟨_, p, q⟩ := h; (p i).run pins s σ H Q I q⟩
theorem uT_ok (i : ι) : PT (cx c (F i)) e (uT c F e) := ⟨fun pins s σ H Q I h => let ⟨_, p, q⟩ := h; (p i).run pins s σ H Q I q⟩
theorem XB.can (h : XB c F W sts en P) : DS c.N.length c.K W (uB c F sts) en P := fun r o => let ⟨t, p, q⟩ := h; ⟨t, p, q r o⟩
theorem XD.can (h : XD c F e en d) : DE c.N.length c.K (uE c F e) en d := fun Q r o => let ⟨t, p, q⟩ := h; ⟨t, p, q Q r o⟩
theorem XT.can {b : Bool} (h : XT c F e en b) : DT c.N.length c.K (uT c F e) en b := fun Q r o => let ⟨t, p, q⟩ := h; ⟨t, p, q Q r o⟩
theorem XS.imp {P' : Po} (h : XS c F W st en P) (q : ∀ {G0 G H0 : Hp} {D : Ends}, PO c.N.length c.K G0 G H0 W P' D → PO c.N.length c.K G0 G H0 W P D) : XS c F W st en P' := let ⟨t, p, r⟩ := h; ⟨t, p, fun s o => r s (q o)⟩
theorem XB.imp {P' : Po} (h : XB c F W sts en P) (q : ∀ {G0 G H0 : Hp} {D : Ends}, PO c.N.length c.K G0 G H0 W P' D → PO c.N.length c.K G0 G H0 W P D) : XB c F W sts en P' := let ⟨t, p, r⟩ := h; ⟨t, p, fun s o => r s (q o)⟩
/-- ends that are but «next» -/
theorem XB.nxOnly {M : List Sv → Prop} (h : XB c F W sts en { nx := M }) (q : ∀ en, M en → P.nx en) : XB c F W sts en P := h.imp fun o => ⟨fun I0 I σ en e s m => o.nx I0 I σ en e s (q en m), fun _ _ _ _ _ _ z => z.elim, fun _ _ _ _ _ _ z => z.elim, fun _ _ _ _ _ _ _ _ _ z => z.elim, fun _ _ _ _ _ _ _ _ _ _ _ _ _ _ z => z.elim, fun _ _ _ _ _ _ _ z => z.elim, fun _ _ _ _ _ _ _ _ _ _ _ _ _ _ _ _ _ _ _ z => z.elim, fun _ _ _ _ _ _ _ z => z.elim⟩
/-- forget slots; turn an owned list into a datum -/
theorem XB.weak {en' : List Sv} (h : XB c F W sts en' P) (hl : en'.length = en.length) (q : ∀ (i : Nat) s, en'[i]? = some s → s = Sv.no ∨ en[i]? = some s) : XB c F W sts en P := let ⟨t, p, r⟩ := h; ⟨t, p, fun s o => r (s.weak q) o⟩
theorem XB.forget (j : Nat) (h : XB c F W sts (en.set j .no) P) : XB c F W sts en P := h.weak (by rw [List.length_set]) fun i s e => (set_get e).elim (fun q => .inl q.2) fun q => .inr q.2
theorem XB.view (h : XB c F W sts (vw en) P) : XB c F W sts en P := let ⟨t, p, r⟩ := h; ⟨t, p, fun s o => by
  obtain ⟨J0, u, s2⟩ := s.view
  exact r s2 (o.mono u)⟩
theorem b_nil (h : P.nx en) : XB c F W [] en P := ⟨_, fun _ => pss_nil, fun s o => o.nx _ _ _ en (Ex.refl _) s h⟩
theorem b_one (h : XS c F W st en P) : XB c F W [st] en P := let ⟨t, p, q⟩ := h; ⟨t, fun i => pss_one (p i), q⟩
theorem b_cons (M : List Sv → Prop) (h : XS c F W st en { P with nx := M }) (h2 : ∀ en', M en' → XB c F W sts en' P) : XB c F W (st :: sts) en P := by
  obtain ⟨t, p, q⟩ := h
  refine ⟨tSeq t (uB c F sts), fun i => pss_cons (p i) (uB_ok i), fun s o => q s ⟨fun I0 I σ en' e s2 m => (h2 en' m).can s2 (o.mono e), o.bk, o.ct, o.rt, o.rn, o.ex, o.rT, o.rv⟩⟩
/-- .. where the state behind it is one -/
theorem b_seq (en' : List Sv) (h : XS c F W st en { P with nx := fun z => z = en' }) (h2 : XB c F W sts en' P) : XB c F W (st :: sts) en P := b_cons _ h fun z q => by
  rw [q]
  exact h2
theorem b_stop (h : XS c F W st en { P with nx := fun _ => False }) : XB c F W (st :: sts) en P := b_cons _ h fun _ q => q.elim
theorem s_ret (h : XD c F e en d) (q : P.rt (.ret d) en) : XS c F W (.Return (some e) pos) en P := let ⟨t, p, r⟩ := h; ⟨tRet t, fun i => ps_ret (p i), fun s o => r _ s fun v I0 I x w => o.rt v I0 I _ en d x.pub (s.step x) w q⟩
theorem s_retN (h : XN c F e en ds) (q : P.rt (.new ds) en) : XS c F W (.Return (some e) pos) en P := let ⟨t, p, r⟩ := h; ⟨tRet t, fun i => ps_ret (p i), fun s o => r _ s fun l vs I0 I x n n0 e w => o.rn l vs I0 I _ en ds x.pub (s.step x) (fresh_back s.ext.all n) n0 e (s.fresh_cell n) w q⟩
theorem s_ret0 (q : P.rt (.ret .none) en) : XS c F W (.Return none pos) en P := ⟨tRetN, fun i => ps_retN, fun s o => o.rt .non _ _ _ en .none (Ex.refl _) s .non q⟩
/-- return of an owned list -/
theorem s_retO (j : Nat) (h : en[j]? = some (Sv.own ds)) (q : P.rt (.new ds) en) (hN : c.N[j]? = some x := by rfl) (hv : ∀ i, Vis (F i).env.scope x := by first | exact fun _ => Or.inl rfl | exact fun _ => Or.inr (Or.inl rfl) | exact fun _ => Or.inr (Or.inr rfl))
    (hd : (x == ("__debug__" : Str)) = false := by decide) (hcd : (x == ("__classdict__" : Str)) = false := by decide) : XS c F W (.Return (some (.Name x p)) pos) en P :=
  ⟨tRet (tVar j), fun i => ps_ret (pe_var hN (hv i) hd hcd), fun s o => by
    obtain ⟨l, vs, a1, a2, a3, a4, a5⟩ := s.own j ds h
    exact ⟨_, a1, o.rn l vs _ _ _ en ds (Ex.refl _) s a2 a3 a4 (fun i c e => s.cown i j l c ds e h a1) a5 q⟩⟩
/-- return of a tuple whose first thing is a list of ours -/
theorem s_retT (j : Nat) {m} {rs : List Dt} {tp : Pos} (h : en[j]? = some (Sv.own ds)) (hr : XA c F es en rs) (q : P.rt (.newT ds rs) en) (hl : rs.length ≤ 1000 := by first | decide | simp) (hN : c.N[j]? = some x := by rfl) (hv : ∀ i, Vis (F i).env.scope x := by first | exact fun _ => Or.inl rfl | exact fun _ => Or.inr (Or.inl rfl) | exact fun _ => Or.inr (Or.inr rfl))
    (hd : (x == ("__debug__" : Str)) = false := by decide) (hcd : (x == ("__classdict__" : Str)) = false := by decide) (s1 : Pl c F (.Name x p) es := by exact fun _ => rfl) : XS c F W (.Return (some (.Tuple (.Name x p :: es) m tp)) pos) en P := by
  obtain ⟨t, p1, d1⟩ := hr
  refine ⟨_, fun i => ps_ret (pe_tup (pa_cons (pe_var hN (hv i) hd hcd) (p1 i) (s1 i))), fun s o => ?_⟩
  obtain ⟨l, vs, a1, a2, a3, a4, a5⟩ := s.own j ds h
  refine ⟨_, a1, d1 _ s fun us I0 I x w => ?_⟩
  refine ⟨by rw [List.length_cons, dpa_len w]; exact sz_of (by omega), fun p hp => ?_⟩
  have n0 := x.prv l _ a4 a3
  have e2 := x.all l _ a4
  have ne : l ≠ p := ne_of_none e2 hp
  exact o.rT p l vs us I0 _ _ en ds rs x.pub (s.step (x.trans (Ext.newP _ x.sub hp))) a2 n0 (by rw [upd_ne ne]; exact e2) (fun i c e => s.cown i j l c ds e h a1) (dpa_mono x.pub a5) (SqT.of upd_same) w q
theorem s_expr (h : XD c F e en d) (q : P.nx en) (hs : ∀ i, swapsWith e none pos.line (cx c (F i)).env = pure false := by exact fun _ => rfl) : XS c F W (.Expr e pos) en P := let ⟨t, p, r⟩ := h; ⟨tDrop t, fun i => ps_expr (p i) (hs i), fun s o => r _ s fun v I0 I x w => o.nx I0 I _ en x.pub (s.step x) q⟩
theorem s_exprE (h : XE c F W e en C) (q : P.ex C en) (hs : ∀ i, swapsWith e none pos.line (cx c (F i)).env = pure false := by exact fun _ => rfl) : XS c F W (.Expr e pos) en P := let ⟨t, p, r⟩ := h; ⟨tDrop t, fun i => ps_expr (p i) (hs i), fun s o => r _ s fun I0 I x => o.ex C I0 I _ en x.pub (s.step x) q⟩
theorem s_retE (h : XE c F W e en C) (q : P.ex C en) : XS c F W (.Return (some e) pos) en P := let ⟨t, p, r⟩ := h; ⟨tRet t, fun i => ps_ret (p i), fun s o => r _ s fun I0 I x => o.ex C I0 I _ en x.pub (s.step x) q⟩
theorem s_pass (q : P.nx en) : XS c F W (.Pass pos) en P := ⟨tNext, fun _ => ps_pass, fun s o => o.nx _ _ _ en (Ex.refl _) s q⟩
theorem s_if {b : Bool} (h : XT c F e en b) (h1 : b = true → XB c F W sts en P) (h2 : b = false → XB c F W sts2 en P) : XS c F W (.If e sts sts2 pos) en P := by
  obtain ⟨t, p, r⟩ := h
  refine ⟨tIfS t (uB c F sts) (uB c F sts2), fun i => ps_if (p i) (uB_ok i) (uB_ok i), fun s o => r _ s fun I0 I x => ?_⟩
  cases b with
  | true => exact iteT ((h1 rfl).can (s.step x) (o.mono x.pub))
  | false => exact iteF ((h2 rfl).can (s.step x) (o.mono x.pub))
/-- an if whose test is known -/
theorem b_yes {b : Bool} (h : XT c F e en b) (B : XB c F W sts en { P with nx := fun _ => False }) {rest : List Stmt} (hb : b = true := by rfl) : XB c F W (.If e sts sts2 pos :: rest) en P := by
  subst hb
  exact b_stop (s_if h (fun _ => B) fun z => by cases z)
theorem b_skip {b : Bool} (h : XT c F e en b) {rest : List Stmt} (B : XB c F W rest en P) (hb : b = false := by rfl) : XB c F W (.If e sts [] pos :: rest) en P := by
  subst hb
  exact b_seq en (s_if h (fun z => by cases z) fun _ => b_nil rfl) B
theorem b_else {b : Bool} (h : XT c F e en b) (B : XB c F W sts2 en P) (hb : b = false := by rfl) : XB c F W [.If e sts sts2 pos] en P := by
  subst hb
  exact b_one (s_if h (fun z => by cases z) fun _ => B)
theorem b_then {b : Bool} (h : XT c F e en b) (B : XB c F W sts en P) (hb : b = true := by rfl) : XB c F W [.If e sts sts2 pos] en P := by
  subst hb
  exact b_one (s_if h (fun _ => B) fun z => by cases z)
/-- an if without else, that goes on with one state either way -/
theorem b_if {b : Bool} (en' : List Sv) (h : XT c F e en b) (B1 : b = true → XB c F W sts en { P with nx := fun z => z = en' }) (B2 : b = false → en = en') {rest : List Stmt} (R : XB c F W rest en' P) : XB c F W (.If e sts [] pos :: rest) en P :=
  b_seq en' (s_if h B1 fun z => b_nil (B2 z)) R
/-! stores to names -/
abbrev St1 (c : Fx) {ι : Type} (F : ι → Vr) (x : Str) : Prop := (∀ i, Loc (F i).env.scope x) ∧ ∀ i, (F i).fn x = true ∨ (F i).env.scope.names.lookup x = some .local
theorem s_set (j : Nat) (hN : c.N.Nodup) (h : XD c F e en d) (q : P.nx (en.set j (Sv.d d))) (hj : c.N[j]? = some x := by rfl) (hx : ∀ i, Loc (F i).env.scope x := by first | exact fun _ => Or.inl rfl | exact fun _ => Or.inr rfl) (hs : ∀ i, swapsWith e (some (.Name x p)) pos.line (cx c (F i)).env = pure false := by exact fun _ => rfl)
    (hf : ∀ i, (F i).fn x = true ∨ (F i).env.scope.names.lookup x = some .local := by first | exact fun _ => Or.inl rfl | exact fun _ => Or.inr rfl) : XS c F W (.Assign [.Name x p] e pos) en P :=
  let ⟨t, p1, r⟩ := h; ⟨tAsg t (gName j), fun i => ps_set hN hj (hx i) (p1 i) (hs i) (hf i), fun s o => r _ s fun v I0 I x w => o.nx I0 I _ _ x.pub ((s.step x).setD (ltN hj) w) q⟩
theorem s_setN (j : Nat) (hN : c.N.Nodup) (h : XN c F e en ds) (q : P.nx (en.set j (Sv.own ds))) (hj : c.N[j]? = some x := by rfl) (hx : ∀ i, Loc (F i).env.scope x := by first | exact fun _ => Or.inl rfl | exact fun _ => Or.inr rfl) (hs : ∀ i, swapsWith e (some (.Name x p)) pos.line (cx c (F i)).env = pure false := by exact fun _ => rfl)
    (hf : ∀ i, (F i).fn x = true ∨ (F i).env.scope.names.lookup x = some .local := by first | exact fun _ => Or.inl rfl | exact fun _ => Or.inr rfl) : XS c F W (.Assign [.Name x p] e pos) en P :=
  let ⟨t, p1, r⟩ := h; ⟨tAsg t (gName j), fun i => ps_set hN hj (hx i) (p1 i) (hs i) (hf i), fun s o => r _ s fun l vs I0 I x n n0 e w => o.nx I0 I _ _ x.pub ((s.step x).setG (ltN hj) (fun _ _ => ⟨fun q => (by cases q), fun q => (by cases q)⟩) (fun _ q => by cases q) (fun _ q => by cases q) fun xs q => by
    cases q
    refine ⟨l, vs, rfl, fresh_back s.ext.all n, n0, e, w, fun i ys e1 e2 => ?_, fun i c e1 => ?_⟩
    · obtain ⟨l2, us, a1, a2, a3, a4, a5⟩ := s.own i ys e1
      rw [e2] at a1
      cases a1
      rw [n] at a4
      cases a4
    · obtain ⟨_, _, o, a4, _⟩ := s.cel i l c e1
      rw [n] at a4
      cases a4) q⟩
theorem s_setE (h : XE c F W e en C) (q : P.ex C en) (hN : c.N.Nodup) {j : Nat} (hj : c.N[j]? = some x := by rfl) (hx : ∀ i, Loc (F i).env.scope x := by first | exact fun _ => Or.inl rfl | exact fun _ => Or.inr rfl) (hs : ∀ i, swapsWith e (some (.Name x p)) pos.line (cx c (F i)).env = pure false := by exact fun _ => rfl)
    (hf : ∀ i, (F i).fn x = true ∨ (F i).env.scope.names.lookup x = some .local := by first | exact fun _ => Or.inl rfl | exact fun _ => Or.inr rfl) : XS c F W (.Assign [.Name x p] e pos) en P :=
  let ⟨t, p1, r⟩ := h; ⟨tAsg t (gName j), fun i => ps_set hN hj (hx i) (p1 i) (hs i) (hf i), fun s o => r _ s fun I0 I x => o.ex C I0 I _ en x.pub (s.step x) q⟩
/-- x.append(e), x a list of ours -/
theorem s_append (j : Nat) {zs : List Dt} {y : Str} {apos cpos : Pos} (hz : en[j]? = some (Sv.own zs)) (h : XD c F e en d) (q : P.nx (en.set j (Sv.own (zs ++ [d])))) (hl : zs.length < 100000) (hj : c.N[j]? = some y := by rfl) (hv : ∀ i, Vis (F i).env.scope y := by first | exact fun _ => Or.inl rfl | exact fun _ => Or.inr (Or.inl rfl) | exact fun _ => Or.inr (Or.inr rfl))
    (hd : (y == ("__debug__" : Str)) = false := by decide) (hcd : (y == ("__classdict__" : Str)) = false := by decide) (hb : ∀ i, attributeBase (.Name y p) "append" (cx c (F i)).env (eval (.Name y p) (cx c (F i)).env) = eval (.Name y p) (cx c (F i)).env := by exact fun _ => rfl)
    (hfew : ∀ i, ((backTo cpos (starEach [e] (cx c (F i)).env)).all (fun x => !x.1) && (backToKw cpos (keywordEach [] (cx c (F i)).env)).all (fun x => x.1.isSome) && decide (([e] : List Expr).length + ([] : List Keyword).length + (if ([] : List Keyword).isEmpty then 0 else 1) < 30)) = true := by exact fun _ => rfl)
    (hline : (apos.endLine == cpos.line) = true := by rfl) (s1 : Pl c F e [] := by exact fun _ => rfl) (hs : ∀ i, swapsWith (.Call (.Attribute (.Name y p) "append" apos) [e] [] cpos) none pos.line (cx c (F i)).env = pure false := by exact fun _ => rfl) :
    XS c F W (.Expr (.Call (.Attribute (.Name y p) "append" apos) [e] [] cpos) pos) en P := by
  obtain ⟨t, p1, r⟩ := h
  refine ⟨tDrop (tBM c.K "list" rAppend (tVar j) (tCons t tNil)), fun i => ps_expr (pe_bm PySem.F.plainAttrs_list PySem.F.slot_list_append PySem.F.type_list_append mt_append (pe_var hj (hv i) hd hcd) (pa_cons (p1 i) pa_nil (s1 i)) (hb i) (hfew i) hline (s1 i) rfl) (hs i), fun s o => ?_⟩
  obtain ⟨l, vs, a1, a2, a3, a4, a5⟩ := s.own j zs hz
  refine ⟨_, a1, Or.inl ⟨rfl, vs, SqL.of a4⟩, r _ s fun v I0 I x w => ?_⟩
  have s2 := s.step x
  obtain ⟨l', vs', b1, b2, b3, b4, b5⟩ := s2.own j zs hz
  rw [a1] at b1
  cases b1
  refine ⟨l, vs', v, rfl, rfl, b4, by rw [dpa_len b5]; exact sz_lt hl, ?_⟩
  exact o.nx I0 _ _ _ x.pub (s2.write hz a1 (dpa_app b5 (.cons w .nil))) q
/-- x[i] = e, x a list of ours -/
theorem s_setItem (j : Nat) {zs : List Dt} {y : Str} {sp : Pos} {n : Int} {m : Nat} (hz : en[j]? = some (Sv.own zs)) (h : XD c F e en d) (hi : XD c F e2 en (.int n)) (hm : ixN zs.length n = some m) (q : P.nx (en.set j (Sv.own (zs.set m d)))) (hj : c.N[j]? = some y := by rfl) (hv : ∀ i, Vis (F i).env.scope y := by first | exact fun _ => Or.inl rfl | exact fun _ => Or.inr (Or.inl rfl) | exact fun _ => Or.inr (Or.inr rfl))
    (hd : (y == ("__debug__" : Str)) = false := by decide) (hcd : (y == ("__classdict__" : Str)) = false := by decide) (hps : ∀ i, PS (cx c (F i)) (.Assign [.Subscript (.Name y p) e2 sp] e pos) (tAsg (uE c F e) (gSub (tVar j) (uE c F e2) rSetL))) :
    XS c F W (.Assign [.Subscript (.Name y p) e2 sp] e pos) en P := by
  refine ⟨_, hps, fun s o => h.can _ s fun v I0 I x w => ?_⟩
  have s2 := s.step x
  obtain ⟨l, vs, a1, a2, a3, a4, a5⟩ := s2.own j zs hz
  refine ⟨_, a1, hi.can _ s2 fun u J0 J y w2 => ?_⟩
  have s3 := s2.step y
  obtain ⟨l', vs', b1, b2, b3, b4, b5⟩ := s3.own j zs hz
  rw [a1] at b1
  cases b1
  cases w2
  refine ⟨l, vs', n, m, rfl, rfl, b4, by rw [dpa_len b5]; exact hm, ?_⟩
  exact o.nx J0 _ _ _ (x.pub.trans y.pub) (s3.write hz a1 (dpa_set m b5 (dp_mono y.pub w))) q
/-! loops -/
abbrev Po.loop (P : Po) (M : List Sv → Prop) : Po := { P with nx := M, ct := M, bk := P.nx }
theorem PO.loop {K : PySem.W.Frag} {G0 G H0 I0 : Hp} {D : Ends} {M : List Sv → Prop} {N : L2.St → Hp → Prop} (o : PO nn K G0 G H0 W P D) (e : Ex H0 I0) (h : ∀ J0 J σ en, Ex H0 J0 → SR nn K G0 G J0 J σ en → M en → N σ J) : PO nn K G0 G I0 W (P.loop M) { D with nx := N, ct := N, bk := D.nx } :=
  ⟨fun J0 J σ en x s m => h J0 J σ en (e.trans x) s m, fun J0 J σ en x s m => o.nx J0 J σ en (e.trans x) s m, fun J0 J σ en x s m => h J0 J σ en (e.trans x) s m, fun v J0 J σ en d x => o.rt v J0 J σ en d (e.trans x), fun l vs J0 J σ en ds x => o.rn l vs J0 J σ en ds (e.trans x), fun C J0 J σ en x => o.ex C J0 J σ en (e.trans x), fun p l vs us J0 J σ en ds rs x => o.rT p l vs us J0 J σ en ds rs (e.trans x), fun y J0 J σ en x => o.rv y J0 J σ en (e.trans x)⟩
section
variable {tg iter : Expr} {body : List Stmt}
theorem s_forL (j : Nat) (hN : c.N.Nodup) (hp : ∀ i, PassesOwn (model c.P c.w) c.A (F i).env (F i).xe) (hi : XD c F iter en (.list ds)) (Inv : Nat → List Sv → Prop) (h0 : Inv 0 en) (hs : ∀ (i : Nat) y en', ds[i]? = some y → Inv i en' → XB c F W body (en'.set j (Sv.d y)) (P.loop (Inv (i + 1))))
    (hd : ∀ en', Inv ds.length en' → P.nx en') (hc : c.calm = true := by rfl) (hj : c.N[j]? = some x := by rfl) (hx : ∀ i, Loc (F i).env.scope x := by first | exact fun _ => Or.inl rfl | exact fun _ => Or.inr rfl) (hf : ∀ i, (F i).fn x = true ∨ (F i).env.scope.names.lookup x = some .local := by first | exact fun _ => Or.inl rfl | exact fun _ => Or.inr rfl)
    (hfo : ∀ i y, foldedSetIterable iter (cx c (F i)).env y = pure y := by exact fun _ _ => rfl) : XS c F W (.For (.Name x p) iter body [] pos) en P := by
  obtain ⟨t, p1, r⟩ := hi
  refine ⟨tFor (iList c.K t) (gName j) (uB c F body), fun i => ps_for (hp i) hc (pi_list (p1 i)) (pg_name hN hj (hx i) (hf i)) (uB_ok i) (hfo i), ?_⟩
  intro G0 G H0 H σ D s o
  refine r _ s fun v I0 I x1 w => ?_
  cases w with
  | @lst la xs _ e q =>
    refine ⟨_, rfl, ⟨_, SqL.of (x1.sub _ _ e)⟩, ?_⟩
    have s1 := s.step x1
    refine for_list (xs := xs) (fun i σ' H' => ∃ J0 en', Ex I0 J0 ∧ SR c.N.length c.K G0 G J0 H' σ' en' ∧ Inv i en') ⟨I0, en, Ex.refl _, s1, h0⟩ (fun i σ' H' _ ⟨J0, en', u, s2, _⟩ => SqL.of (s2.sub _ _ (u _ _ e))) ?_ ?_
    · rintro i y σ' H' hy ⟨J0, en', u, s2, m⟩
      obtain ⟨dy, h1, h2⟩ := dpa_getV q hy
      refine (hs i dy en' h1 m).can (s2.setD (ltN hj) (dp_mono u h2)) ?_
      exact (o.mono x1.pub).loop u fun L0 L σ2 en2 e2 s3 m2 => ⟨L0, en2, e2, s3, m2⟩
    · rintro σ' H' ⟨J0, en', u, s2, m⟩
      rw [dpa_len q] at m
      exact o.nx J0 H' σ' en' (x1.pub.trans u) s2 (hd en' m)
theorem s_forT (j : Nat) (hN : c.N.Nodup) (hp : ∀ i, PassesOwn (model c.P c.w) c.A (F i).env (F i).xe) (hi : XD c F iter en (.tuple ds)) (Inv : Nat → List Sv → Prop) (h0 : Inv 0 en) (hs : ∀ (i : Nat) y en', ds[i]? = some y → Inv i en' → XB c F W body (en'.set j (Sv.d y)) (P.loop (Inv (i + 1))))
    (hd : ∀ en', Inv ds.length en' → P.nx en') (hc : c.calm = true := by rfl) (hj : c.N[j]? = some x := by rfl) (hx : ∀ i, Loc (F i).env.scope x := by first | exact fun _ => Or.inl rfl | exact fun _ => Or.inr rfl) (hf : ∀ i, (F i).fn x = true ∨ (F i).env.scope.names.lookup x = some .local := by first | exact fun _ => Or.inl rfl | exact fun _ => Or.inr rfl)
    (hfo : ∀ i y, foldedSetIterable iter (cx c (F i)).env y = pure y := by exact fun _ _ => rfl) : XS c F W (.For (.Name x p) iter body [] pos) en P := by
  obtain ⟨t, p1, r⟩ := hi
  refine ⟨tFor (iTup c.K t) (gName j) (uB c F body), fun i => ps_for (hp i) hc (pi_tup (p1 i)) (pg_name hN hj (hx i) (hf i)) (uB_ok i) (hfo i), ?_⟩
  intro G0 G H0 H σ D s o
  refine r _ s fun v I0 I x1 w => ?_
  cases w with
  | @tup la xs _ e q =>
    refine ⟨_, rfl, ⟨_, ex_t x1.sub e⟩, ?_⟩
    have s1 := s.step x1
    refine for_tup (xs := xs) (fun i σ' H' => ∃ J0 en', Ex I0 J0 ∧ SR c.N.length c.K G0 G J0 H' σ' en' ∧ Inv i en') ⟨I0, en, Ex.refl _, s1, h0⟩ (fun i σ' H' _ ⟨J0, en', u, s2, _⟩ => ex_t s2.sub (ex_t u e)) ?_ ?_
    · rintro i y σ' H' hy ⟨J0, en', u, s2, m⟩
      obtain ⟨dy, h1, h2⟩ := dpa_getV q hy
      refine (hs i dy en' h1 m).can (s2.setD (ltN hj) (dp_mono u h2)) ?_
      exact (o.mono x1.pub).loop u fun L0 L σ2 en2 e2 s3 m2 => ⟨L0, en2, e2, s3, m2⟩
    · rintro σ' H' ⟨J0, en', u, s2, m⟩
      rw [dpa_len q] at m
      exact o.nx J0 H' σ' en' (x1.pub.trans u) s2 (hd en' m)
/-- for x in range(n) -/
theorem s_forR (j : Nat) {n : Int} (hN : c.N.Nodup) (hp : ∀ i, PassesOwn (model c.P c.w) c.A (F i).env (F i).xe) (hi : XD c F e en (.int n)) (hn : n ≤ 100000 ∧ 0 ≤ n) (hm : c.mg "range" = none) (Inv : Nat → List Sv → Prop) (h0 : Inv 0 en)
    (hs : ∀ (i : Nat) en', (i : Int) < n → Inv i en' → XB c F W body (en'.set j (Sv.d (.int (i : Int)))) (P.loop (Inv (i + 1)))) (hd : ∀ en', Inv n.toNat en' → P.nx en') (hc : c.calm = true := by rfl) (hj : c.N[j]? = some x := by rfl) (hx : ∀ i, Loc (F i).env.scope x := by first | exact fun _ => Or.inl rfl | exact fun _ => Or.inr rfl)
    (hf : ∀ i, (F i).fn x = true ∨ (F i).env.scope.names.lookup x = some .local := by first | exact fun _ => Or.inl rfl | exact fun _ => Or.inr rfl) (hg : ∀ i, Gl (cx c (F i)) "range" := by exact fun _ => rfl) (s1 : Pl c F e [] := by exact fun _ => rfl) (s2 : ∀ i, starEach [e] (cx c (F i)).env = [(false, eval e (cx c (F i)).env)] := by exact fun _ => rfl)
    (hfo : ∀ i y, foldedSetIterable (.Call (.Name "range" p) [e] [] p2) (cx c (F i)).env y = pure y := by exact fun _ _ => rfl) {np : Pos} : XS c F W (.For (.Name x np) (.Call (.Name "range" p) [e] [] p2) body [] pos) en P := by
  obtain ⟨t, p1, r⟩ := hi
  refine ⟨tFor (iRng1 (tCons t tNil)) (gName j) (uB c F body), fun i => ps_for (hp i) hc (pi_range1 (hg i) hm (pa_cons (p1 i) pa_nil (s1 i)) (s2 i)) (pg_name hN hj (hx i) (hf i)) (uB_ok i) (hfo i), ?_⟩
  intro G0 G H0 H σ D s o
  refine r _ s fun v I0 I x1 w => ?_
  cases w
  have s3 := s.step x1
  refine ⟨n, rfl, by omega, by omega, for_range (lo := 0) (n := n.toNat) (fun i σ' H' => ∃ J0 en', Ex I0 J0 ∧ SR c.N.length c.K G0 G J0 H' σ' en' ∧ Inv i en') ⟨I0, en, Ex.refl _, s3, h0⟩ ?_ ?_⟩
  · rintro i σ' H' hy ⟨J0, en', u, s2, m⟩
    rw [Int.zero_add]
    refine (hs i en' (by omega) m).can (s2.setD (ltN hj) (.int _)) ?_
    exact (o.mono x1.pub).loop u fun L0 L σ2 en2 e2 s3 m2 => ⟨L0, en2, e2, s3, m2⟩
  · rintro σ' H' ⟨J0, en', u, s2, m⟩
    exact o.nx J0 H' σ' en' (x1.pub.trans u) s2 (hd en' m)
theorem s_while (hp : ∀ i, PassesOwn (model c.P c.w) c.A (F i).env (F i).xe) (Inv : Nat → List Sv → Prop) (h0 : ∃ m, Inv m en)
    (hs : ∀ m en', Inv m en' → ∃ b, XT c F e en' b ∧ (b = true → XB c F W body en' (P.loop fun z => ∃ m', m' < m ∧ Inv m' z)) ∧ (b = false → P.nx en')) : XS c F W (.While e body [] pos) en P := by
  refine ⟨tWhile (uT c F e) (uB c F body), fun i => ps_while (hp i) (uT_ok i) (uB_ok i), ?_⟩
  intro G0 G H0 H σ D s o
  obtain ⟨m0, i0⟩ := h0
  refine ⟨fun m σ' H' => ∃ J0 en', Ex H0 J0 ∧ SR c.N.length c.K G0 G J0 H' σ' en' ∧ Inv m en', ⟨m0, H0, en, Ex.refl _, s, i0⟩, ?_⟩
  rintro m σ' H' ⟨J0, en', u, s2, i2⟩
  obtain ⟨b, h1, h2, h3⟩ := hs m en' i2
  refine h1.can _ s2 fun L0 L x => ?_
  cases b with
  | true =>
    refine iteT ⟨fun σ3 H3 => ∃ m', m' < m ∧ ∃ J0 en', Ex H0 J0 ∧ SR c.N.length c.K G0 G J0 H3 σ3 en' ∧ Inv m' en', fun σ3 H3 h => h, ?_⟩
    refine (h2 rfl).can (s2.step x) (o.loop (u.trans x.pub) ?_)
    rintro M0 M σ3 en3 e3 s3 ⟨m', l, i3⟩
    exact ⟨m', l, M0, en3, e3, s3, i3⟩
  | false => exact iteF (o.nx L0 L _ en' (u.trans x.pub) (s2.step x) (h3 rfl))
end
end
end DL

set_option maxRecDepth 100000
set_option maxHeartbeats 4000000
namespace DL
open PySem PySem.Spec PyProof.Rows L2 Evl
variable {nn : Nat}
/-! ## comprehensions -/
/-- the block of a comprehension -/
abbrev Bk (ι : Type) : Type := ι × Shared × Hp × Addr × List (Str × Addr) × List Addr
abbrev bkV (scope : Scope) (v : Vr) (s : Shared) (H : Hp) (C : Addr) (cl : List (Str × Addr)) (fp : List Addr) : Vr := { v with s_0 := s, H_0 := H, env := compEnvC scope cl C v.env, outer := v.stack, ex := fp, fn := fun x => scope.names.lookup x == some .cell, pn := [], xe := fun _ _ => False }
abbrev bkF {ι : Type} (F : ι → Vr) (scope : Scope) : Bk ι → Vr := fun q => bkV scope (F q.1) q.2.1 q.2.2.1 q.2.2.2.1 q.2.2.2.2.1 q.2.2.2.2.2
theorem SR.wipe {K : PySem.W.Frag} {G0 G H0 H : Hp} {σ : L2.St} {en : List Sv} (r : SR nn K G0 G H0 H σ en) (j : Nat) : SR nn K G0 G H0 H (wipe σ [j]) (en.set j Sv.no) := r.unset j
/-- one test or none -/
structure XF (c : Fx) {ι : Type} (F : ι → Vr) (ifs : List Expr) (en : List Sv) (b : Bool) : Prop where
  ex : ∃ t, (∀ i, PTs (cx c (F i)) ifs t) ∧ DT c.N.length c.K t en b
def uF (c : Fx) {ι : Type} (F : ι → Vr) (ifs : List Expr) : TT := fun σ H Q => ∃ t, (∀ i, PTs (cx c (F i)) ifs t) ∧ t σ H Q
theorem uF_ok {c : Fx} {ι : Type} {F : ι → Vr} {ifs : List Expr} (i : ι) : PTs (cx c (F i)) ifs (uF c F ifs) := ⟨fun pins s σ H Q I h => let ⟨_, p, q⟩ := h; (p i).run pins s σ H Q I q⟩
theorem XF.can {c : Fx} {ι : Type} {F : ι → Vr} {ifs : List Expr} {en : List Sv} {b : Bool} (h : XF c F ifs en b) : DT c.N.length c.K (uF c F ifs) en b := fun Q r o => let ⟨t, p, q⟩ := h.ex; ⟨t, p, q Q r o⟩
theorem f_nil {c : Fx} {ι : Type} {F : ι → Vr} {en : List Sv} : XF c F [] en true := ⟨_, fun _ => pts_nil, fun Q s k => k _ _ (Ext.refl s.sub)⟩
theorem f_one {c : Fx} {ι : Type} {F : ι → Vr} {e : Expr} {en : List Sv} {b : Bool} (h : XT c F e en b) : XF c F [e] en b := let ⟨_, p, q⟩ := h; ⟨_, fun i => pts_one (p i), q⟩
/-- what the list holds behind i turns -/
def LcI (K : PySem.W.Frag) (I0 I : Hp) (D : Addr) (ys : List Dt) (H : Hp) : Prop := ∃ J0 vs, Ext I0 I J0 H ∧ J0 D = none ∧ H D = some (.lst vs) ∧ DwAll K J0 vs ys
theorem lc_turn {K : PySem.W.Frag} {tt : TT} {te : TE} {G0 G I0 I H : Hp} {σ σ2 : L2.St} {en en2 : List Sv} {D : Addr} {ys : List Dt} {b : Bool} {d : Dt} (s : SR nn K G0 G I0 I σ en) (hI : I D = none) (h : LcI K I0 I D ys H) (hlen : ys.length < 100000)
    (s2 : ∀ {J0 J : Hp}, Ext I0 I J0 J → SR nn K G0 G J0 J σ2 en2) (ht : DT nn K tt en2 b) (he : b = true → DE nn K te en2 d) :
    tt σ2 H fun kk H3 => if kk = true then te σ2 H3 fun y H4 => ∃ acc, H4 D = some (.lst acc) ∧ acc.length < sizeLine ∧ LcI K I0 I D (if b then ys ++ [d] else ys) (upd H4 D (.lst (acc ++ [y]))) else LcI K I0 I D (if b then ys ++ [d] else ys) H3 := by
  obtain ⟨J0, vs, x, n, e, w⟩ := h
  refine ht _ (s2 x) fun L0 L y => ?_
  cases b with
  | false => exact iteF ⟨L0, vs, x.trans y, y.prv D _ e n, y.all _ _ e, dpa_mono y.pub w⟩
  | true =>
    refine iteT (he rfl _ (s2 (x.trans y)) fun v M0 M z w2 => ?_)
    have e2 := z.all _ _ (y.all _ _ e)
    have n2 : M0 D = none := z.prv D _ (y.all _ _ e) (y.prv D _ e n)
    have x2 := (x.trans y).trans z
    refine ⟨vs, e2, by rw [dpa_len w]; exact sz_lt hlen, M0, vs ++ [v], ⟨x2.pub, Ex.mut x2.sub n2, Ex.mut x2.all hI, x2.prv⟩, n2, upd_same, dpa_app (dpa_mono (y.pub.trans z.pub) w) (.cons w2 .nil)⟩
section
variable {c : Fx} {ι : Type} {F : ι → Vr} {W : WX} {en : List Sv} {elt iter a1 : Expr} {ifs : List Expr} {ds : List Dt} {pos p p2 p3 : Pos} {x : Str} {j : Nat} {scope : Scope}
/-- what is kept of [elt for x in iter if ..]: a value, and a store to a name of the def -/
def XL (c : Fx) {ι : Type} (F : ι → Vr) (e : Expr) (en : List Sv) (ds : List Dt) : Prop :=
  ∃ t, (∀ i, PE (cx c (F i)) e t) ∧ (∀ i (k : Nat) (y : Str) (py spos : Pos), c.N.Nodup → c.N[k]? = some y → (F i).env.scope.names.lookup y = some .local → swapsWith e (some (.Name y py)) spos.line (cx c (F i)).env = pure true → PS (cx c (F i)) (.Assign [.Name y py] e spos) (tAsg t (gName k))) ∧ DN c.N.length c.K t en ds
theorem XL.xn {e : Expr} (h : XL c F e en ds) : XN c F e en ds := let ⟨t, p, _, q⟩ := h; ⟨t, p, q⟩
theorem XL.xd {e : Expr} (h : XL c F e en ds) : XD c F e en (.list ds) := h.xn.xd
theorem l_core (own : List (Str × Nat)) (wi : TI) (g : TG) {tg : Expr} (hN : c.N.Nodup) (hc : c.calm = true) (hi : ∀ i, PI (cx c (F i)) tg iter wi) (ok : ∀ i, BlkOk c.N (F i).env.scope scope own) (hg : ∀ q, PG (cx c (bkF F scope q)) tg g) (hfo : ∀ i y, foldedSetIterable iter (cx c (F i)).env y = pure y)
    (h : DN c.N.length c.K (tLc wi g (uF c (bkF F scope) ifs) (uE c (bkF F scope) elt) (own.map (·.2))) en ds) : XL c F (.ListComp elt [⟨tg, iter, ifs, 0⟩] scope pos) en ds :=
  ⟨_, fun i => pe_lc hc hN (hi i) (ok i) (fun s H C cl fp => hg (i, s, H, C, cl, fp)) (fun s H C cl fp => uF_ok (F := bkF F scope) (i, s, H, C, cl, fp)) (fun s H C cl fp => uE_ok (F := bkF F scope) (i, s, H, C, cl, fp)) (hfo i),
    fun i k y py spos hN2 hy hl hs => ps_setLc hc hN hy hl hs (hi i) (ok i) (fun s H C cl fp => hg (i, s, H, C, cl, fp)) (fun s H C cl fp => uF_ok (F := bkF F scope) (i, s, H, C, cl, fp)) (fun s H C cl fp => uE_ok (F := bkF F scope) (i, s, H, C, cl, fp)) (hfo i), h⟩
theorem wipe_in {σ : L2.St} {j : Nat} {v : V} : wipe ((wipe σ [j]).set j (some v)) [j] = wipe σ [j] := by
  show ((σ.set j none).set j (some v)).set j none = σ.set j none
  rw [List.set_set, List.set_set]
/-- over a list that is a datum; xs: its items, f: an item's element, t: whether it is kept -/
theorem l_list (j : Nat) {xs : List Dt} (f : Dt → Dt) (t : Dt → Bool) (hN : c.N.Nodup) (hi : XD c F iter en (.list xs)) (hl : xs.length ≤ 100000)
    (ht : ∀ y ∈ xs, XF c (bkF F scope) ifs ((en.set j Sv.no).set j (Sv.d y)) (t y)) (he : ∀ y ∈ xs, t y = true → XD c (bkF F scope) elt ((en.set j Sv.no).set j (Sv.d y)) (f y)) (ok : ∀ i, blkC c.N (F i).env.scope scope [(x, j)] = true := by exact fun _ => rfl) (hc : c.calm = true := by rfl) (hj : c.N[j]? = some x := by rfl)
    (hx : ∀ q, Loc (bkF F scope q).env.scope x := by first | exact fun _ => Or.inl rfl | exact fun _ => Or.inr rfl) (hf : ∀ q, (bkF F scope q).fn x = true ∨ (bkF F scope q).env.scope.names.lookup x = some .local := by first | exact fun _ => Or.inl rfl | exact fun _ => Or.inr rfl)
    (hfo : ∀ i y, foldedSetIterable iter (cx c (F i)).env y = pure y := by exact fun _ _ => rfl) : XL c F (.ListComp elt [⟨.Name x p, iter, ifs, 0⟩] scope pos) en ((xs.filter t).map f) := by
  obtain ⟨t1, p1, r⟩ := hi
  refine l_core [(x, j)] (iList c.K t1) (gName j) hN hc (fun i => pi_list (p1 i)) (fun i => blkOk_by (ok i)) (fun q => pg_name hN hj (hx q) (hf q)) hfo ?_
  intro G0 G H0 H σ Q s k
  refine r _ s fun v I0 I x1 w => ?_
  cases w with
  | @lst la vs _ e q =>
    refine ⟨_, rfl, ⟨_, SqL.of (x1.sub _ _ e)⟩, fun D hD => ?_⟩
    have s1 := s.step x1
    have hD0 := none_of_sub x1.sub hD
    refine lc_list (K := c.K) (a := la) (xs := vs) (fun i H' => LcI c.K I0 I D (((xs.take i).filter t).map f) H') ⟨I0, [], ⟨Ex.refl _, Ex.mut x1.sub hD0, Ex.mut (Ex.refl _) hD, fun _ _ _ n => n⟩, hD0, upd_same, .nil⟩ (fun i H' _ ⟨J0, us, x2, _⟩ => SqL.of (x2.sub _ _ (x2.pub _ _ e))) (fun i y H' hy hI => ?_) fun H' hI => ?_
    · obtain ⟨dy, h1, h2⟩ := dpa_getV q hy
      have hm := List.mem_of_getElem? h1
      refine ⟨wipe_in, ?_⟩
      have e1 : ((xs.take (i + 1)).filter t).map f = if t dy then ((xs.take i).filter t).map f ++ [f dy] else ((xs.take i).filter t).map f := by
        rw [List.take_succ, h1, Option.toList_some, List.filter_append, List.map_append]
        cases h : t dy <;> simp [h]
      rw [e1]
      have hlt := (List.getElem?_eq_some_iff.mp h1).1
      refine lc_turn s1 hD hI ?_ (fun {J0 J} x2 => ((s1.step x2).wipe j).setD (ltN hj) (dp_mono x2.pub h2)) (ht dy hm).can fun ht2 => (he dy hm ht2).can
      rw [List.length_map]
      have l1 := List.length_filter_le t (xs.take i)
      rw [List.length_take] at l1
      omega
    · obtain ⟨J0, us, x2, n, e2, w2⟩ := hI
      rw [dpa_len q, List.take_length] at w2
      exact k D us J0 H' (x1.trans x2) (fresh_back x1.all hD) n e2 w2
theorem l_tup (j : Nat) {xs : List Dt} (f : Dt → Dt) (t : Dt → Bool) (hN : c.N.Nodup) (hi : XD c F iter en (.tuple xs)) (hl : xs.length ≤ 100000)
    (ht : ∀ y ∈ xs, XF c (bkF F scope) ifs ((en.set j Sv.no).set j (Sv.d y)) (t y)) (he : ∀ y ∈ xs, t y = true → XD c (bkF F scope) elt ((en.set j Sv.no).set j (Sv.d y)) (f y)) (ok : ∀ i, blkC c.N (F i).env.scope scope [(x, j)] = true := by exact fun _ => rfl) (hc : c.calm = true := by rfl) (hj : c.N[j]? = some x := by rfl)
    (hx : ∀ q, Loc (bkF F scope q).env.scope x := by first | exact fun _ => Or.inl rfl | exact fun _ => Or.inr rfl) (hf : ∀ q, (bkF F scope q).fn x = true ∨ (bkF F scope q).env.scope.names.lookup x = some .local := by first | exact fun _ => Or.inl rfl | exact fun _ => Or.inr rfl)
    (hfo : ∀ i y, foldedSetIterable iter (cx c (F i)).env y = pure y := by exact fun _ _ => rfl) : XL c F (.ListComp elt [⟨.Name x p, iter, ifs, 0⟩] scope pos) en ((xs.filter t).map f) := by
  obtain ⟨t1, p1, r⟩ := hi
  refine l_core [(x, j)] (iTup c.K t1) (gName j) hN hc (fun i => pi_tup (p1 i)) (fun i => blkOk_by (ok i)) (fun q => pg_name hN hj (hx q) (hf q)) hfo ?_
  intro G0 G H0 H σ Q s k
  refine r _ s fun v I0 I x1 w => ?_
  cases w with
  | @tup la vs _ e q =>
    refine ⟨_, rfl, ⟨_, ex_t x1.sub e⟩, fun D hD => ?_⟩
    have s1 := s.step x1
    have hD0 := none_of_sub x1.sub hD
    refine lc_tup (K := c.K) (a := la) (xs := vs) (fun i H' => LcI c.K I0 I D (((xs.take i).filter t).map f) H') ⟨I0, [], ⟨Ex.refl _, Ex.mut x1.sub hD0, Ex.mut (Ex.refl _) hD, fun _ _ _ n => n⟩, hD0, upd_same, .nil⟩ (fun i H' _ ⟨J0, us, x2, _⟩ => ex_t x2.sub (ex_t x2.pub e)) (fun i y H' hy hI => ?_) fun H' hI => ?_
    · obtain ⟨dy, h1, h2⟩ := dpa_getV q hy
      have hm := List.mem_of_getElem? h1
      refine ⟨wipe_in, ?_⟩
      have e1 : ((xs.take (i + 1)).filter t).map f = if t dy then ((xs.take i).filter t).map f ++ [f dy] else ((xs.take i).filter t).map f := by
        rw [List.take_succ, h1, Option.toList_some, List.filter_append, List.map_append]
        cases h : t dy <;> simp [h]
      rw [e1]
      have hlt := (List.getElem?_eq_some_iff.mp h1).1
      refine lc_turn s1 hD hI ?_ (fun {J0 J} x2 => ((s1.step x2).wipe j).setD (ltN hj) (dp_mono x2.pub h2)) (ht dy hm).can fun ht2 => (he dy hm ht2).can
      rw [List.length_map]
      have l1 := List.length_filter_le t (xs.take i)
      rw [List.length_take] at l1
      omega
    · obtain ⟨J0, us, x2, n, e2, w2⟩ := hI
      rw [dpa_len q, List.take_length] at w2
      exact k D us J0 H' (x1.trans x2) (fresh_back x1.all hD) n e2 w2
/-- over range(n) -/
theorem l_range (j : Nat) {n : Int} (f : Nat → Dt) (t : Nat → Bool) (hN : c.N.Nodup) (hi : XD c F a1 en (.int n)) (hn : 0 ≤ n ∧ n ≤ 100000) (hm : c.mg "range" = none)
    (ht : ∀ y : Nat, (y : Int) < n → XF c (bkF F scope) ifs ((en.set j Sv.no).set j (Sv.d (.int (y : Int)))) (t y)) (he : ∀ y : Nat, (y : Int) < n → t y = true → XD c (bkF F scope) elt ((en.set j Sv.no).set j (Sv.d (.int (y : Int)))) (f y)) (ok : ∀ i, blkC c.N (F i).env.scope scope [(x, j)] = true := by exact fun _ => rfl)
    (hc : c.calm = true := by rfl) (hj : c.N[j]? = some x := by rfl) (hx : ∀ q, Loc (bkF F scope q).env.scope x := by first | exact fun _ => Or.inl rfl | exact fun _ => Or.inr rfl) (hf : ∀ q, (bkF F scope q).fn x = true ∨ (bkF F scope q).env.scope.names.lookup x = some .local := by first | exact fun _ => Or.inl rfl | exact fun _ => Or.inr rfl)
    (hg : ∀ i, Gl (cx c (F i)) "range" := by exact fun _ => rfl) (s1 : Pl c F a1 [] := by exact fun _ => rfl) (s2 : ∀ i, starEach [a1] (cx c (F i)).env = [(false, eval a1 (cx c (F i)).env)] := by exact fun _ => rfl)
    (hfo : ∀ i y, foldedSetIterable (.Call (.Name "range" p2) [a1] [] p3) (cx c (F i)).env y = pure y := by exact fun _ _ => rfl) : XL c F (.ListComp elt [⟨.Name x p, .Call (.Name "range" p2) [a1] [] p3, ifs, 0⟩] scope pos) en (((List.range n.toNat).filter t).map f) := by
  obtain ⟨t1, p1, r⟩ := hi
  refine l_core [(x, j)] (iRng1 (tCons t1 tNil)) (gName j) hN hc (fun i => pi_range1 (hg i) hm (pa_cons (p1 i) pa_nil (s1 i)) (s2 i)) (fun i => blkOk_by (ok i)) (fun q => pg_name hN hj (hx q) (hf q)) hfo ?_
  intro G0 G H0 H σ Q s k
  refine r _ s fun v I0 I x1 w => ?_
  cases w
  refine ⟨n, rfl, by omega, by omega, fun D hD => ?_⟩
  have s1 := s.step x1
  have hD0 := none_of_sub x1.sub hD
  refine lc_range (lo := 0) (n := n.toNat) (fun i H' => LcI c.K I0 I D (((List.range i).filter t).map f) H') ⟨I0, [], ⟨Ex.refl _, Ex.mut x1.sub hD0, Ex.mut (Ex.refl _) hD, fun _ _ _ n => n⟩, hD0, upd_same, .nil⟩ (fun i H' hy hI => ?_) fun H' hI => ?_
  · have hlt : (i : Int) < n := by omega
    refine ⟨wipe_in, ?_⟩
    have e1 : ((List.range (i + 1)).filter t).map f = if t i then ((List.range i).filter t).map f ++ [f i] else ((List.range i).filter t).map f := by
      rw [List.range_succ, List.filter_append, List.map_append]
      cases h : t i <;> simp [h]
    rw [e1, Int.zero_add]
    refine lc_turn s1 hD hI ?_ (fun {J0 J} x2 => ((s1.step x2).wipe j).setD (ltN hj) (.int _)) (ht i hlt).can fun ht2 => (he i hlt ht2).can
    rw [List.length_map]
    have l1 := List.length_filter_le t (List.range i)
    rw [List.length_range] at l1
    omega
  · obtain ⟨J0, us, x2, n, e2, w2⟩ := hI
    exact k D us J0 H' (x1.trans x2) (fresh_back x1.all hD) n e2 w2
theorem XL.is {e : Expr} {as : List Dt} (h : XL c F e en as) (q : as = ds) : XL c F e en ds := q ▸ h
theorem filter_all {α : Type} : ∀ l : List α, (l.filter fun _ => true) = l := fun l => List.filter_eq_self.mpr fun _ _ => rfl
/-! .. without an if -/
theorem l_list0 (j : Nat) {xs : List Dt} (f : Dt → Dt) (hN : c.N.Nodup) (hi : XD c F iter en (.list xs)) (hl : xs.length ≤ 100000) (he : ∀ y ∈ xs, XD c (bkF F scope) elt ((en.set j Sv.no).set j (Sv.d y)) (f y)) (ok : ∀ i, blkC c.N (F i).env.scope scope [(x, j)] = true := by exact fun _ => rfl) (hc : c.calm = true := by rfl) (hj : c.N[j]? = some x := by rfl)
    (hx : ∀ q, Loc (bkF F scope q).env.scope x := by first | exact fun _ => Or.inl rfl | exact fun _ => Or.inr rfl) (hf : ∀ q, (bkF F scope q).fn x = true ∨ (bkF F scope q).env.scope.names.lookup x = some .local := by first | exact fun _ => Or.inl rfl | exact fun _ => Or.inr rfl)
    (hfo : ∀ i y, foldedSetIterable iter (cx c (F i)).env y = pure y := by exact fun _ _ => rfl) : XL c F (.ListComp elt [⟨.Name x p, iter, [], 0⟩] scope pos) en (xs.map f) :=
  (l_list j f (fun _ => true) hN hi hl (fun _ _ => f_nil) (fun y hy _ => he y hy) ok hc hj hx hf hfo).is (by rw [filter_all])
theorem l_tup0 (j : Nat) {xs : List Dt} (f : Dt → Dt) (hN : c.N.Nodup) (hi : XD c F iter en (.tuple xs)) (hl : xs.length ≤ 100000) (he : ∀ y ∈ xs, XD c (bkF F scope) elt ((en.set j Sv.no).set j (Sv.d y)) (f y)) (ok : ∀ i, blkC c.N (F i).env.scope scope [(x, j)] = true := by exact fun _ => rfl) (hc : c.calm = true := by rfl) (hj : c.N[j]? = some x := by rfl)
    (hx : ∀ q, Loc (bkF F scope q).env.scope x := by first | exact fun _ => Or.inl rfl | exact fun _ => Or.inr rfl) (hf : ∀ q, (bkF F scope q).fn x = true ∨ (bkF F scope q).env.scope.names.lookup x = some .local := by first | exact fun _ => Or.inl rfl | exact fun _ => Or.inr rfl)
    (hfo : ∀ i y, foldedSetIterable iter (cx c (F i)).env y = pure y := by exact fun _ _ => rfl) : XL c F (.ListComp elt [⟨.Name x p, iter, [], 0⟩] scope pos) en (xs.map f) :=
  (l_tup j f (fun _ => true) hN hi hl (fun _ _ => f_nil) (fun y hy _ => he y hy) ok hc hj hx hf hfo).is (by rw [filter_all])
theorem l_range0 (j : Nat) {n : Int} (f : Nat → Dt) (hN : c.N.Nodup) (hi : XD c F a1 en (.int n)) (hn : 0 ≤ n ∧ n ≤ 100000) (hm : c.mg "range" = none) (he : ∀ y : Nat, (y : Int) < n → XD c (bkF F scope) elt ((en.set j Sv.no).set j (Sv.d (.int (y : Int)))) (f y)) (ok : ∀ i, blkC c.N (F i).env.scope scope [(x, j)] = true := by exact fun _ => rfl)
    (hc : c.calm = true := by rfl) (hj : c.N[j]? = some x := by rfl) (hx : ∀ q, Loc (bkF F scope q).env.scope x := by first | exact fun _ => Or.inl rfl | exact fun _ => Or.inr rfl) (hf : ∀ q, (bkF F scope q).fn x = true ∨ (bkF F scope q).env.scope.names.lookup x = some .local := by first | exact fun _ => Or.inl rfl | exact fun _ => Or.inr rfl)
    (hg : ∀ i, Gl (cx c (F i)) "range" := by exact fun _ => rfl) (s1 : Pl c F a1 [] := by exact fun _ => rfl) (s2 : ∀ i, starEach [a1] (cx c (F i)).env = [(false, eval a1 (cx c (F i)).env)] := by exact fun _ => rfl)
    (hfo : ∀ i y, foldedSetIterable (.Call (.Name "range" p2) [a1] [] p3) (cx c (F i)).env y = pure y := by exact fun _ _ => rfl) : XL c F (.ListComp elt [⟨.Name x p, .Call (.Name "range" p2) [a1] [] p3, [], 0⟩] scope pos) en ((List.range n.toNat).map f) :=
  (l_range j f (fun _ => true) hN hi hn hm (fun _ _ => f_nil) (fun y hy _ => he y hy) ok hc hj hx hf hg s1 s2 hfo).is (by rw [filter_all])
/-- y = [..] -/
theorem s_setL (k : Nat) {y : Str} {e : Expr} {py : Pos} {P : Po} (hN : c.N.Nodup) (h : XL c F e en ds) (q : P.nx (en.set k (Sv.own ds))) (hs : ∀ i, swapsWith e (some (.Name y py)) pos.line (cx c (F i)).env = pure true) (hy : c.N[k]? = some y := by rfl) (hl : ∀ i, (F i).env.scope.names.lookup y = some .local := by exact fun _ => rfl) :
    XS c F W (.Assign [.Name y py] e pos) en P := by
  obtain ⟨t, _, p2, r⟩ := h
  exact ⟨_, fun i => p2 i k y py pos hN hy (hl i) (hs i), fun s o => r _ s fun l vs I0 I x n n0 e w => o.nx I0 I _ _ x.pub ((s.step x).setG (ltN hy) (fun _ _ => ⟨fun q => (by cases q), fun q => (by cases q)⟩) (fun _ q => by cases q) (fun _ q => by cases q) fun xs q => by
    cases q
    refine ⟨l, vs, rfl, fresh_back s.ext.all n, n0, e, w, fun i ys e1 e2 => ?_, fun i c e1 => ?_⟩
    · obtain ⟨l2, us, a1, a2, a3, a4, a5⟩ := s.own i ys e1
      rw [e2] at a1
      cases a1
      rw [n] at a4
      cases a4
    · obtain ⟨_, _, o, a4, _⟩ := s.cel i l c e1
      rw [n] at a4
      cases a4) q⟩
end
end DL

set_option maxRecDepth 100000
set_option maxHeartbeats 4000000
namespace DL
open PySem PySem.Spec PyProof.Rows L2 Evl
variable {nn : Nat}
/-! ## raise, stores to several names -/
structure Xc (K : PySem.W.Frag) (C : Addr) : Prop where
  x : PySem.W.excIn K C [.type "ValueError", .type "Exception", .type "BaseException", .type "object"] "ValueError.__new__" = true
  k : PySem.W.keepIn K (.ref C) = true
  b : PySem.W.subIn K (.ref C) (.type "BaseException") = some true
  t : PySem.W.typeIn K (.ref C) = some (.type "type")
section
variable {c : Fx} {ι : Type} {F : ι → Vr} {W : WX} {en : List Sv} {e : Expr} {d d1 d2 d3 : Dt} {pos p p2 p3 tp : Pos} {x x1 x2 x3 : Str} {P : Po} {C : Addr} {k : Nat}
theorem s_raise {m : Str} {j : Nat} (tk : ∀ i, L2N.Takes (cx c (F i)) W) (E : Xc c.K C) (hm : c.mg x = some (.ref C)) (q : P.ex C en) (hc : c.calm = true := by rfl) (hg : ∀ i, Gl (cx c (F i)) x := by exact fun _ => rfl) (hd : (x == ("__debug__" : Str)) = false := by decide) :
    XS c F W (.Raise (some (.Call (.Name x p) [.Constant (.str m) j p2] [] p3)) none pos) en P :=
  ⟨_, fun i => L2N.ps_raise hc (tk i) (L2N.pmk_own PySem.F.excBase_ValueError E.x hm E.k (raises_own E.b E.t) (hg i) hd), fun s o => o.ex C _ _ _ en (Ex.refl _) s q⟩
theorem s_unp2 (j1 j2 : Nat) (h : XD c F e en (.tuple [d1, d2])) (hps : ∀ t i, PE (cx c (F i)) e t → PS (cx c (F i)) (.Assign [.Tuple [.Name x1 p, .Name x2 p2] k tp] e pos) (tAsg t (gTup c.K 2 (gCons (gName j1) (gCons (gName j2) gNil)))))
    (q : P.nx ((en.set j1 (Sv.d d1)).set j2 (Sv.d d2))) (n1 : c.N[j1]? = some x1 := by rfl) (n2 : c.N[j2]? = some x2 := by rfl) : XS c F W (.Assign [.Tuple [.Name x1 p, .Name x2 p2] k tp] e pos) en P := by
  obtain ⟨t, p1, r⟩ := h
  refine ⟨_, fun i => hps t i (p1 i), fun s o => r _ s fun v I0 I x w => ?_⟩
  cases w with
  | tup e w =>
    cases w with
    | cons w1 w =>
      cases w with
      | cons w2 w =>
        cases w
        exact ⟨_, _, rfl, ex_t x.sub e, rfl, _, _, rfl, _, _, rfl, rfl, o.nx _ _ _ _ x.pub (((s.step x).setD (ltN n1) w1).setD (ltN n2) w2) q⟩
theorem s_unp3 (j1 j2 j3 : Nat) (h : XD c F e en (.tuple [d1, d2, d3])) (hps : ∀ t i, PE (cx c (F i)) e t → PS (cx c (F i)) (.Assign [.Tuple [.Name x1 p, .Name x2 p2, .Name x3 p3] k tp] e pos) (tAsg t (gTup c.K 3 (gCons (gName j1) (gCons (gName j2) (gCons (gName j3) gNil))))))
    (q : P.nx (((en.set j1 (Sv.d d1)).set j2 (Sv.d d2)).set j3 (Sv.d d3))) (n1 : c.N[j1]? = some x1 := by rfl) (n2 : c.N[j2]? = some x2 := by rfl) (n3 : c.N[j3]? = some x3 := by rfl) : XS c F W (.Assign [.Tuple [.Name x1 p, .Name x2 p2, .Name x3 p3] k tp] e pos) en P := by
  obtain ⟨t, p1, r⟩ := h
  refine ⟨_, fun i => hps t i (p1 i), fun s o => r _ s fun v I0 I x w => ?_⟩
  cases w with
  | tup e w =>
    cases w with
    | cons w1 w =>
      cases w with
      | cons w2 w =>
        cases w with
        | cons w3 w =>
          cases w
          exact ⟨_, _, rfl, ex_t x.sub e, rfl, _, _, rfl, _, _, rfl, _, _, rfl, rfl, o.nx _ _ _ _ x.pub ((((s.step x).setD (ltN n1) w1).setD (ltN n2) w2).setD (ltN n3) w3) q⟩
end
/-! ## a def keeps its contract -/
abbrev dc (P : Program) (w : World) (K : PySem.W.Frag) (mg : Str → Option Value) (base : Heap) (N : List Str) (qual : Str) (scope : Scope) (f : Addr) (cd : Value) (A : Around) (s : Shared) : Fx :=
  ⟨P, w, K, mg, base, A.deeper (envOfC qual scope s.heap.objs.size f cd), N, true⟩
abbrev dv (P : Program) (w : World) (qual : Str) (scope : Scope) (f : Addr) (cd : Value) (A : Around) (outer : List Env) (s : Shared) (H : Hp) (E : XK) : Unit → Vr := fun _ =>
  { s_0 := s, H_0 := H, env := envOfC qual scope s.heap.objs.size f cd, outer := outer, stack := envOfC qual scope s.heap.objs.size f cd :: outer, ex := [], fn := fun _ => true, pn := [],
    xe := fun e s' => wpAny (model P w) (A.deeper (envOfC qual scope s.heap.objs.size f cd)) (leaving (envOfC qual scope s.heap.objs.size f cd) e) (fun _ s'' => L2N.CX P w outer H s E e s'') (fun e' s'' => L2N.CX P w outer H s E e' s'') s' }
abbrev en0 (N : List Str) (as : List Dt) : List Sv := as.map Sv.d ++ List.replicate (N.length - as.length) Sv.no
abbrev fnPo (o : Out) : Po := { nx := fun _ => o = .ret .none, rt := fun r _ => r = o, ex := fun C _ => o = .exc C }
abbrev fnW (E : XK) : WX := fun cls d _ H => E cls d H
theorem sr_start {K : PySem.W.Frag} {H0 H : Hp} {N : List Str} {vs : List V} {as : List Dt} (s : Ex H0 H) (q : DwAll K H0 vs as) (hl : as.length ≤ N.length) : SR N.length K H0 H H0 H (L2.start N vs) (en0 N as) := by
  have el := dpa_len q
  have hn : ∀ (i : Nat) (z : Sv), (en0 N as)[i]? = some z → z = Sv.no ∨ ∃ d, z = Sv.d d ∧ as[i]? = some d := fun i z e => by
    by_cases h : i < as.length
    · rw [List.getElem?_append_left (by simpa using h), List.getElem?_map] at e
      cases z2 : as[i]? with
      | none => rw [z2] at e; cases e
      | some d => rw [z2] at e; cases e; exact .inr ⟨d, rfl, rfl⟩
    · rw [List.getElem?_append_right (by simpa using h), List.getElem?_replicate] at e
      split at e <;> cases e
      exact .inl rfl
  refine ⟨Ext.refl s, ?_, fun i d e => ?_, fun i xs e => ?_, fun i x e => ?_, fun i j xs ys l e => ?_, fun i a c e => ?_, fun i j a c c' e => ?_, fun i j a c xs e => ?_, fun i a c e => ?_⟩
  · unfold L2.start
    simp [el]
    omega
  · rcases hn i _ e with z | ⟨d', z, h⟩
    · cases z
    · cases z
      obtain ⟨v, a, b⟩ := dpa_get q h
      have hi := (List.getElem?_eq_some_iff.mp a).1
      refine ⟨v, ?_, b⟩
      unfold L2.start
      rw [List.getElem?_append_left (by simpa using hi), List.getElem?_map, a]
      rfl
  · rcases hn i _ e with z | ⟨d', z, h⟩ <;> cases z
  · rcases hn i _ e with z | ⟨d', z, h⟩ <;> cases z
  · rcases hn i _ e with z | ⟨d', z, h⟩ <;> cases z
  · rcases hn i _ e with z | ⟨d', z, h⟩ <;> cases z
  · rcases hn i _ e with z | ⟨d', z, h⟩ <;> cases z
  · rcases hn i _ e with z | ⟨d', z, h⟩ <;> cases z
  · rcases hn i _ e with z | ⟨d', z, h⟩ <;> cases z
theorem fun_fdat {K : PySem.W.Frag} {name qual : Str} {st : Stmt} {f : Addr} {fd : FuncData} (F : Fun K name qual st f fd) : fdat K f = some fd := by
  obtain ⟨oc, od, kV, doc, pm, an, cdv, ct, osl, rfl, lk, hcd⟩ := F.ex
  unfold fdat
  rw [lk]
/-- as the layer's rule for a def, with exceptions whose context is None -/
theorem okN {P : Program} {w : World} {K : PySem.W.Frag} {mg : Str → Option Value} {base : Heap} {x qual : Str} {st : Stmt} {f : Addr} {fd : FuncData} {N ps : List Str} {k : Nat} {sp : Sp} (F : Fun K x qual st f fd) (S : FnScope N ps (defScope st)) (len : ∀ vs H Q E, sp vs H Q E → vs.length = ps.length)
    (body : ∀ (cdv : Value) (A : Around) (outer : List Env) (s : Shared) (H : Hp) (vs : List V) (Q : VK) (E : XK), Room k (A.deeper (envOfC qual (defScope st) s.heap.objs.size f cdv)) → sp vs H Q E →
      ∃ t, PSs (cxOf (L2N.CX P w) P w K mg base N qual (defScope st) f cdv A outer s H E) (defBody st) t ∧ t { nx := fun _ H' => Q .non H', rt := Q } (L2.start N vs) H) :
    FnOk P w K mg base (L2N.CX P w) (k + 1) f fd ps sp := by
  obtain ⟨_, _, _, _, _, _, cdv, _, _, rfl, lk, hcd⟩ := F.ex
  exact fn_of lk hcd S len fun A outer s H vs Q E => body cdv A outer s H vs Q E
theorem fn_mk {P : Program} {w : World} {K : PySem.W.Frag} {mg : Str → Option Value} {base : Heap} {name qual : Str} {st : Stmt} {f : Addr} {fd : FuncData} {N ps : List Str} {k : Nat} {R : List Dt → Out → Prop} (F : Fun K name qual st f fd) (S : FnScope N ps (defScope st)) (hb : Binds K fd ps [])
    (len : ∀ as o, R as o → as.length = ps.length)
    (body : ∀ (cdv : Value) (A : Around) (outer : List Env) (s : Shared) (H : Hp) (E : XK) (as : List Dt) (o : Out), Room k (A.deeper (envOfC qual (defScope st) s.heap.objs.size f cdv)) → R as o →
      (∀ i, L2N.Takes (cx (dc P w K mg base N qual (defScope st) f cdv A s) (dv P w qual (defScope st) f cdv A outer s H E i)) (fnW E)) →
      (∀ i, PassesOwn (model P w) (A.deeper (envOfC qual (defScope st) s.heap.objs.size f cdv)) (dv P w qual (defScope st) f cdv A outer s H E i).env (dv P w qual (defScope st) f cdv A outer s H E i).xe) →
      XB (dc P w K mg base N qual (defScope st) f cdv A s) (dv P w qual (defScope st) f cdv A outer s H E) (fnW E) (defBody st) (en0 N as) (fnPo o)) : Fn P w K mg base (k + 1) f ps R := by
  refine ⟨⟨fd, okN F S (fun vs H Q E h => ?_) (fun cdv A outer s H vs Q E hr h => ?_), hb, fun_fdat F⟩, F.kp⟩
  · obtain ⟨H0, as, o, s, q, r, k⟩ := h
    rw [dpa_len q]
    exact len _ _ r
  · obtain ⟨H0, as, o, sub, q, r, kk⟩ := h
    have hps : ps.length ≤ N.length := by
      have z := congrArg List.length S.pre
      rw [List.length_take] at z
      omega
    obtain ⟨t, p1, d1⟩ := body cdv A outer s H E as o hr r (fun _ => L2N.takes_of rfl rfl rfl rfl) (fun _ => passes_of (X := cx (dc P w K mg base N qual (defScope st) f cdv A s) (dv P w qual (defScope st) f cdv A outer s H E ())) rfl)
    refine ⟨t, p1 (), d1 (sr_start sub q (by rw [len _ _ r]; exact hps)) ⟨fun I0 I σ en e s2 h => ?_, fun I0 I σ en e s2 h => h.elim, fun I0 I σ en e s2 h => h.elim, fun v I0 I σ en d e s2 w h => ?_, fun l vs I0 I σ en ds e s2 n n0 e2 _ w h => ?_, fun C I0 I σ en e s2 h => ?_, fun p l vs us I0 I σ en ds rs e s2 n n0 e2 _ w sq uw h => ?_, fun x I0 I σ en e s2 h => ?_⟩⟩
    · have h2 : o = .ret .none := h
      subst h2
      exact kk .non I0 I s2.ext .non
    · have h2 : Out.ret d = o := h
      subst h2
      exact kk v I0 I s2.ext w
    · have h2 : Out.new ds = o := h
      subst h2
      exact kk l vs I0 I s2.ext n n0 e2 w
    · have h2 : o = .exc C := h
      subst h2
      exact kk I0 I s2.ext
    · have h2 : Out.newT ds rs = o := h
      subst h2
      exact kk p l vs us I0 I s2.ext n n0 e2 w sq uw
    · have h2 : Out.raw x = o := h
      subst h2
      exact kk I0 I s2.ext
/-! ## the law's end -/
theorem fin_law {P : Program} {w : World} {K : PySem.W.Frag} {mg : Str → Option Value} {st : Stmt} {fa : Addr} {k : Nat} {x : Str} {R : List Dt → Out → Prop} (hfa : mg "law" = some (.ref fa)) (hg : mg "law" = some (.ref (He.ga K "law"))) (hF : ∃ fd, Fun K "law" "law" st (He.ga K "law") fd)
    (hb : ∀ (kV doc pm : Value) (an : Option Addr) (cdv ct : Value) (s : Shared) (u : Value), BindsTo s (PySem.W.fnOf "law" "law" (defArgs st) (defBody st) (defScope st) .none kV doc pm an cdv ct) ⟨[u], []⟩ [(x, u)])
    (ok : ∀ base : Heap, Fn P w K mg base k (He.ga K "law") [x] R) :
    ∃ fd : FuncData, (∀ (s : Shared) (u : Value), BindsTo s fd ⟨[u], []⟩ [(x, u)]) ∧ ∀ base : Heap, K.In base → base.Ns mainGlobals mg → FnOk P w K mg base (L2N.CX P w) k fa fd [x] (spR K R) := by
  obtain ⟨fd, F⟩ := hF
  rw [hg] at hfa
  cases hfa
  refine ⟨fd, ?_, fun base _ _ => ?_⟩
  · obtain ⟨oc, od, kV, doc, pm, an, cdv, ct, osl, rfl, lk, hcd⟩ := F.ex
    exact fun s u => hb kV doc pm an cdv ct s u
  · obtain ⟨fd', f1, f2, f3⟩ := (ok base).ex
    have e := (fun_fdat F).symm.trans f3
    cases e
    exact f1
theorem cx_none {P : Program} {w : World} {H : Hp} {s : Shared} {e : Value} {s' : Shared} (h : L2N.CX P w [] H s (fun _ _ _ => False) e s') : False := by
  obtain ⟨_, _, _, _, _, _, _, _, _, _, _, _, z⟩ := h
  exact z
theorem dw_script {K : PySem.W.Frag} {H : Hp} {a : Addr} {ns : List Int} (h : SqL K H a (ns.map V.int)) : DwAll K H [.ref a] [fz (ns.map PyData.int)] := .cons (.frz h (ints_dpa ns)) .nil
theorem sp_law {K : PySem.W.Frag} {R : List Dt → Out → Prop} {H : Hp} {a : Addr} {ns : List Int} (h : SqL K H a (ns.map V.int)) (r : R [fz (ns.map PyData.int)] (.ret (.bool true))) : spR K R [.ref a] H (fun v _ => v = .bl true) fun _ _ _ => False :=
  ⟨H, _, _, Ex.refl H, dw_script h, r, fun v H0' H' _ w => by cases w; rfl⟩
end DL

set_option maxRecDepth 100000
set_option maxHeartbeats 4000000
namespace DL
open PySem PySem.Spec PyProof.Rows L2 Evl
variable {nn : Nat}
/-! ## order of lists of ints -/
theorem first_lex : ∀ (ns ms : List Int) (k : Nat) (e r : Nat → Bool), (∀ j, e (k + j) = decide (ns.getD j 0 = ms.getD j 0)) → (∀ j, r (k + j) = decide (ns.getD j 0 < ms.getD j 0)) →
    SeqAt.firstLt e r (decide (ns.length < ms.length)) (List.range' k (min ns.length ms.length)) = HT.lexLt ns ms
  | [], [], _, _, _, _, _ => rfl
  | [], _ :: _, k, e, r, _, _ => by
    rw [List.length_nil, Nat.zero_min, List.range'_zero]
    exact decide_eq_true (Nat.succ_pos _)
  | _ :: _, [], k, e, r, _, _ => by
    rw [List.length_nil, Nat.min_zero, List.range'_zero]
    exact decide_eq_false (Nat.not_lt_zero _)
  | x :: ns, y :: ms, k, e, r, he, hr => by
    have e0 : e k = decide (x = y) := he 0
    have r0 : r k = decide (x < y) := hr 0
    have ih := first_lex ns ms (k + 1) e r (fun j => by
      have := he (j + 1)
      rw [Nat.add_right_comm, Nat.add_assoc]
      exact this) (fun j => by
      have := hr (j + 1)
      rw [Nat.add_right_comm, Nat.add_assoc]
      exact this)
    rw [List.length_cons, List.length_cons, Nat.succ_min_succ, List.range'_succ, HT.lexLt_cons]
    have z : decide (ns.length + 1 < ms.length + 1) = decide (ns.length < ms.length) := by
      rw [decide_eq_decide]
      omega
    rw [z]
    by_cases h : x = y
    · rw [if_pos h, SeqAt.firstLt_yes (by rw [e0]; exact decide_eq_true h)]
      exact ih
    · rw [if_neg h, SeqAt.firstLt_no (by rw [e0]; exact decide_eq_false h)]
      exact r0
def rLtL (K : PySem.W.Frag) : R2 := fun x y H Q => ∃ (a b : Addr) (ns ms : List Int), x = .ref a ∧ y = .ref b ∧ SqL K H a (ns.map V.int) ∧ SqL K H b (ms.map V.int) ∧ Q (.bl (HT.lexLt ns ms)) H
theorem op_ltL {X : Cx} (hu : X.A.units < cLine) : OpR X (compareOp .Lt) (rLtL X.K) := by
  intro pins s σ H x y v u Q I rx ry h
  obtain ⟨a, b, ns, ms, rfl, rfl, ha, hb, q⟩ := h
  cases rx
  cases ry
  obtain ⟨its, r1, p1, _⟩ := I.list ha
  obtain ⟨its2, r2, p2, _⟩ := I.list hb
  have i1 : IntsAre its ns := Vals.ints r1
  have i2 : IntsAre its2 ms := Vals.ints r2
  have e1 : its.toArray.size = ns.length := by rw [List.size_toArray]; exact i1.length
  have e2 : its2.toArray.size = ms.length := by rw [List.size_toArray]; exact i2.length
  have at1 : ∀ j (h1 : j < its.toArray.size), ∃ t, its.toArray[j] = .int (ns.getD j 0) t := fun j h1 => PyProof.Rows.IntsAre.int_at i1 _ _ (by simp at h1; simp [h1])
  have at2 : ∀ j (h1 : j < its2.toArray.size), ∃ t, its2.toArray[j] = .int (ms.getD j 0) t := fun j h1 => PyProof.Rows.IntsAre.int_at i2 _ _ (by simp at h1; simp [h1])
  have R := SeqAt.RcLt.lists (A := X.A) (s := s) (e := fun j => decide (ns.getD j 0 = ms.getD j 0)) (r := fun j => decide (ns.getD j 0 < ms.getD j 0)) p1.isList p2.isList hu (fun j h1 h2 => by
    obtain ⟨t, et⟩ := at1 j h1
    obtain ⟨t', et'⟩ := at2 j h2
    rw [et, et']
    have z : (ns.getD j 0 == ms.getD j 0) = decide (ns.getD j 0 = ms.getD j 0) := by
      rw [Bool.eq_iff_iff]
      simp
    rw [← z]
    exact SeqAt.EqAt.int_int _ _ _ _) (fun j h1 h2 _ => by
    obtain ⟨t, et⟩ := at1 j h1
    obtain ⟨t', et'⟩ := at2 j h2
    rw [et, et']
    intro prog w E Q h
    exact PyProof.Rows.lt_int h)
  rw [e1, e2, List.range_eq_range', first_lex ns ms 0 _ _ (fun j => by rw [Nat.zero_add]) (fun j => by rw [Nat.zero_add])] at R
  have z : wpAny (model X.prog X.w) X.A (compareOp .Lt (.ref a) (.ref b)) (EP X pins σ Q) X.xe s := R X.prog X.w X.xe (EP X pins σ Q) ⟨.bl _, H, I, rfl, q⟩
  exact z
section
variable {c : Fx} {ι : Type} {F : ι → Vr} {W : WX} {en : List Sv} {e e1 e2 : Expr} {es : List Expr} {as : List Dt} {pos p p2 : Pos} {x : Str} {C fa : Addr} {k j : Nat} {ps : List Str} {R : List Dt → Out → Prop}
theorem rd_ltL {ns ms : List Int} : RD c.K (rLtL c.K) (.list (ns.map PyData.int)) (.list (ms.map PyData.int)) (.bool (HT.lexLt ns ms)) := fun Q s x y q => by
  cases x with
  | lst e1 q1 =>
    cases y with
    | lst e2 q2 =>
      have z1 := dpa_ints q1
      have z2 := dpa_ints q2
      subst z1
      subst z2
      exact ⟨_, _, ns, ms, rfl, rfl, SqL.of (s _ _ e1), SqL.of (s _ _ e2), q _ _ _ (Ext.refl s) (.bl _)⟩
theorem x_ltL {ns ms : List Int} (hu : c.A.units + 64 < cLine) (h1 : XD c F e1 en (.list (ns.map PyData.int))) (h2 : XD c F e2 en (.list (ms.map PyData.int))) : XD c F (.Compare e1 [.Lt] [e2] pos) en (.bool (HT.lexLt ns ms)) := x_cmp (fun _ => op_ltL (Nat.lt_of_le_of_lt (Nat.le_add_right _ _) hu)) h1 h2 rd_ltL (nomark _)
/-! ## what raises inside -/
def uA (c : Fx) {ι : Type} (F : ι → Vr) (es : List Expr) : TA := fun σ H Q => ∃ t, (∀ i, PA (cx c (F i)) es t) ∧ t σ H Q
theorem uA_ok (i : ι) : PA (cx c (F i)) es (uA c F es) := ⟨fun pos pins s σ H Q I h => let ⟨_, p, q⟩ := h; (p i).run pos pins s σ H Q I q⟩
def XAE (c : Fx) {ι : Type} (F : ι → Vr) (W : WX) (es : List Expr) (en : List Sv) (C : Addr) : Prop := ∃ t, (∀ i, PA (cx c (F i)) es t) ∧
  ∀ {G0 G H0 H : Hp} {σ : L2.St} (Q : List V → Hp → Prop), SR c.N.length c.K G0 G H0 H σ en → (∀ H0' H', Ext H0 H H0' H' → W (.ref C) none σ H') → t σ H Q
theorem ae_here (h : XE c F W e en C) (s1 : Pl c F e es := by exact fun _ => rfl) : XAE c F W (e :: es) en C :=
  let ⟨t, p, d⟩ := h; ⟨_, fun i => pa_cons (p i) (uA_ok i) (s1 i), fun Q s q => d _ s q⟩
theorem ae_next {a : Dt} (h : XD c F e en a) (r : XAE c F W es en C) (s1 : Pl c F e es := by exact fun _ => rfl) : XAE c F W (e :: es) en C :=
  let ⟨t, p, d⟩ := h; let ⟨t2, p2, d2⟩ := r; ⟨_, fun i => pa_cons (p i) (p2 i) (s1 i), fun Q s q => d _ s fun v H0' H' x w => d2 _ (s.step x) fun I0 I y => q I0 I (x.trans y)⟩
theorem e_call (f : Fn c.P c.w c.K c.mg c.base k fa ps R) (hm : c.mg x = some (.ref fa)) (hr : Room j c.A) (hk : k ≤ j) (ha : XAE c F W (e :: es) en C) (hg : ∀ i, Gl (cx c (F i)) x := by exact fun _ => rfl)
    (hdb : (x == ("__debug__" : Str)) = false := by decide) (s1 : Pl c F e es := by exact fun _ => rfl) (s2 : Bt c F pos es := by exact fun _ => rfl) : XE c F W (.Call (.Name x p) (e :: es) [] pos) en C := by
  obtain ⟨fd, f1, f2, _⟩ := f.ex
  obtain ⟨t1, p1, d1⟩ := ha
  exact ⟨tCall (spR c.K R) [] E0 t1, fun i => pe_call f1 (hr.mono hk) (hg i) hm f.kp f2 .nil passN (p1 i) hdb (s1 i) (s2 i), fun Q s q => d1 _ s q⟩
theorem e_tup {k} (h : XAE c F W es en C) : XE c F W (.Tuple es k pos) en C :=
  let ⟨_, p1, d1⟩ := h; ⟨_, fun i => pe_tup (p1 i), fun Q s q => d1 _ s q⟩
theorem e_ix (h : XE c F W e1 en C) (hs : PlainIx e2 := by exact fun _ _ => rfl) : XE c F W (.Subscript e1 e2 pos) en C :=
  let ⟨t1, p1, d1⟩ := h; ⟨tOp (rIxT c.K) t1 (uE c F e2), fun i => pe_ix ix_tup (p1 i) (uE_ok i) hs, fun Q s q => d1 _ s q⟩
end
end DL

set_option maxRecDepth 100000
set_option maxHeartbeats 4000000
namespace DL
open PySem PySem.Spec PyProof.Rows L2 Evl
variable {nn : Nat}
/-! ## try: .. except C as n: .. -/
abbrev TrI (ι : Type) : Type := ι × List (Addr × Obj) × (Value → Shared → Prop)
abbrev trV {ι : Type} (F : ι → Vr) : TrI ι → Vr := fun q => { F q.1 with pn := q.2.1, xe := q.2.2 }
/-- the body's family: whose exceptions are taken as W says -/
abbrev TrS (c : Fx) {ι : Type} (F : ι → Vr) (W : WX) : Type := { q : TrI ι // L2N.Takes (cx c (trV F q)) W ∧ PassesOwn (model c.P c.w) c.A (F q.1).env q.2.2 }
abbrev trF (c : Fx) {ι : Type} (F : ι → Vr) (W : WX) : TrS c F W → Vr := fun q => trV F q.1
/-- the suite's: the exception at a stands by -/
abbrev SuI (ι : Type) (cls : Value) : Type := ι × { q : Obj × List (Addr × Obj) // L2N.Zn cls none q.1 ∧ ∃ vs, q.1.data = .fields vs }
abbrev suF {ι : Type} (F : ι → Vr) (a : Addr) (cls : Value) : SuI ι cls → Vr := fun q => { F q.1 with pn := (a, q.2.1.1) :: q.2.1.2, xe := fun _ _ => False }
abbrev hot (c : Fx) (a : Addr) : Fx := { c with A := c.A.mark (some (.ref a)), calm := false }
abbrev noW : WX := fun _ _ _ _ => False
/-- what the suite may do: all but raise; behind it the slot is unset -/
abbrev suP (P : Po) (k : Nat) : Po := { nx := fun e => P.nx (e.set k .no), rt := fun o e => P.rt o (e.set k .no), bk := fun e => P.bk (e.set k .no), ct := fun e => P.ct (e.set k .no) }
section
variable {c : Fx} {ι : Type} {F : ι → Vr} {W : WX} {en : List Sv} {body suite : List Stmt} {b₀ : Stmt} {np pos pos' : Pos} {x n : Str} {P : Po} {CP : Addr} {k : Nat}
/-- the body's ends: what it raises is caught -/
abbrev trP (c : Fx) {ι : Type} (F : ι → Vr) (P : Po) (k : Nat) (CP : Addr) (sts : List Stmt) : Po :=
  { P with ex := fun C en' => PySem.W.exmOne c.K (.ref C) (.ref CP) = some true ∧ ∀ a, XB (hot c a) (suF F a (.ref C)) noW sts (en'.set k (Sv.v (.ref a))) (suP P k) }
theorem po_suite {K : PySem.W.Frag} {G0 G H0 : Hp} {D : Ends} (o : PO nn K G0 G H0 W P D) : PO nn K G0 G H0 noW (suP P k) { nx := fun σ' H' => D.nx (σ'.set k none) H', rt := D.rt, bk := fun σ' H' => D.bk (σ'.set k none) H', ct := fun σ' H' => D.ct (σ'.set k none) H' } :=
  ⟨fun I0 I σ en e s h => o.nx I0 I _ _ e (s.unset k) h, fun I0 I σ en e s h => o.bk I0 I _ _ e (s.unset k) h, fun I0 I σ en e s h => o.ct I0 I _ _ e (s.unset k) h, fun v I0 I σ en d e s w h => o.rt v I0 I _ _ d e (s.unset k) w h, fun l vs I0 I σ en ds e s n n0 e2 nc w h => o.rn l vs I0 I _ _ ds e (s.unset k) n n0 e2 (fun j c z => (set_get z).elim (fun q => by cases q.2) fun q => nc j c q.2) w h, fun _ _ _ _ _ _ _ h => h.elim, fun p l vs us I0 I σ en ds rs e s n n0 e2 nc w sq uw h => o.rT p l vs us I0 I _ _ ds rs e (s.unset k) n n0 e2 (fun j c z => (set_get z).elim (fun q => by cases q.2) fun q => nc j c q.2) w sq uw h, fun x I0 I σ en e s h => o.rv x I0 I _ _ e (s.unset k) h⟩
theorem s_try (k : Nat) (hN : c.N.Nodup) (tk : ∀ i, L2N.Takes (cx c (F i)) W) (hm : c.mg x = some (.ref CP)) (hb : ∀ W', XB c (trF c F W') W' body en (trP c F P k CP (b₀ :: suite)))
    (hi : c.N[k]? = some n := by rfl) (hg : ∀ i, Gl (cx c (F i)) x := by exact fun _ => rfl) (hln : ∀ i, (F i).env.kindOf n = some .local := by exact fun _ => rfl) (hs : ∀ i, (F i).stack = (F i).env :: (F i).outer := by exact fun _ => rfl) (hf : ∀ i, (F i).env.frame = some (F i).env.locals := by exact fun _ => rfl)
    (hd : (x == ("__debug__" : Str)) = false := by decide) : XS c F W (.Try body [.ExceptHandler (some (.Name x np)) (some n) (b₀ :: suite) pos'] [] [] pos) en P := by
  refine ⟨fun D σ H => uB c (trF c F (wAs c.K (.ref CP) k (fun a cls d => fun D σ H => d = none ∧ uB (hot c a) (suF F a cls) (b₀ :: suite) D σ H) W D)) body D σ H, fun i => ?_, fun {G0 G H0 H σ D} s o => ?_⟩
  · refine L2N.ps_try_as (ts := fun a cls d => fun D σ H => d = none ∧ uB (hot c a) (suF F a cls) (b₀ :: suite) D σ H) (tb := fun W' => uB c (trF c F W') body) (hs i) (hf i) hN hi (hln i) ⟨hg i, hd, .inl hm⟩ (tk i) (fun W' pn xe t p => ?_) fun a oe cls d pn z f => ?_
    · exact uB_ok (F := trF c F W') ⟨(i, pn, xe), t, p⟩
    · refine ⟨fun pins s σ H D I h => ?_⟩
      obtain ⟨rfl, h⟩ := h
      exact (uB_ok (c := hot c a) (F := suF F a cls) (i, ⟨(oe, pn), z, f⟩)).run pins s σ H D I h
  · refine (hb _).can s ⟨o.nx, o.bk, o.ct, o.rt, o.rn, fun C I0 I σ' en' e s2 h => ?_, o.rT, o.rv⟩
    obtain ⟨h1, h2⟩ := h
    refine ⟨true, h1, fun _ a ha => ⟨rfl, ?_⟩, fun z => by cases z⟩
    exact (h2 a).can (s2.setV (ltN hi)) (po_suite (o.mono e))
end
/-! ## a def called with the exception that is handled -/
structure FnW (P : Program) (w : World) (K : PySem.W.Frag) (mg : Str → Option Value) (base : Heap) (k : Nat) (f : Addr) (fd : FuncData) (ps : List Str) (sp : Sp) (p : Addr × Obj) : Prop where
  len : ∀ vs H Q E, sp vs H Q E → vs.length = ps.length
  run : ∀ (A : Around) (outer : List Env) (s : Shared) (H : Hp) (args : Args) (us : List Value) (vs : List V) (Q : VK), L2H.RoomH k A → L2H.PinOk outer H s p → Env0 P w K mg base A outer s H →
    BindsTo s fd args (ps.zip us) → Vals vs us → sp vs H Q E0 → codeAny (model P w) A (.call (.ref f) args) (CR (L2N.CX P w) outer P w H s Q E0) s
theorem fnw_of {P : Program} {w : World} {K : PySem.W.Frag} {mg : Str → Option Value} {base : Heap} {x qual : Str} {st : Stmt} {f : Addr} {fd : FuncData} {N ps : List Str} {k : Nat} {sp : Sp} {p : Addr × Obj} (F : Fun K x qual st f fd) (S : FnScope N ps (defScope st)) (len : ∀ vs H Q E, sp vs H Q E → vs.length = ps.length)
    (body : ∀ (cdv : Value) (A : Around) (outer : List Env) (s : Shared) (H : Hp) (vs : List V) (Q : VK), L2H.RoomH k (A.deeper (envOfC qual (defScope st) s.heap.objs.size f cdv)) → sp vs H Q E0 →
      ∃ t, PSs (L2H.cxH (L2N.CX P w) P w K mg base N qual (defScope st) f cdv A outer s H E0 p) (defBody st) t ∧ t { nx := fun _ H' => Q .non H', rt := Q } (L2.start N vs) H) : FnW P w K mg base (k + 1) f fd ps sp p := by
  obtain ⟨_, _, _, _, _, _, cdv, _, _, rfl, lk, hcd⟩ := F.ex
  refine ⟨len, fun A outer s H args us vs Q hr hpin e0 hb r hsp => ?_⟩
  have KX : K.In s.heap := e0.mod.kin.keeps fun b o e => (e0.bs b o e).1
  refine codeAny_call_function hr.depth (KX _ _ lk) rfl S.co S.gen rfl (PySem.W.codeRec_of KX hcd) (hb _ _ _ _ ?_)
  refine wpAny_newFunctionEnv_cells S.kind (fun y hy => ?_) fun env he s1 x1 => ?_
  · rcases S.par y.1 (List.of_mem_zip hy).1 with q | q
    · exact Or.inl q
    · exact Or.inr ⟨q, PySem.W.cellsFrom_some _ _ _ (.inl q)⟩
  subst he
  have lim : s.heap.NoLimit := e0.mod.nolimit.keeps fun b o e => (e0.bs b o e).1
  refine ⟨lim.keeps x1.toInCall.keep, codeAny_func ?_⟩
  obtain ⟨t, ht, hq⟩ := body cdv A outer s H vs Q (hr.deeper _) hsp
  have I := L2H.inv_startH (CX := L2N.CX P w) (f := f) (cd := cdv) (E := E0) (A := A) S hpin e0 (len _ _ _ _ hsp) r x1
  refine wpAny_mono (ht.run [] s1 _ H _ I hq) (fun fl s' hs => ?_) fun e s' hs => hs
  cases fl with
  | ret u =>
    obtain ⟨v, _, H', J, rv, q⟩ := hs
    exact ⟨v, H', J.os, J.bare, J.base, J.hok, rv, q⟩
  | next =>
    obtain ⟨_, H', J, q⟩ := hs
    exact ⟨V.non, H', J.os, J.bare, J.base, J.hok, rfl, q⟩
  | brk =>
    obtain ⟨_, _, _, q⟩ := hs
    exact q.elim
  | cont =>
    obtain ⟨_, _, _, q⟩ := hs
    exact q.elim
theorem pe_callW {X : Cx} {k : Nat} {f : Addr} {fd : FuncData} {ps : List Str} {sp : Sp} {x : Str} {q pos : Pos} {e : Expr} {es : List Expr} {t : TA} {p : Addr × Obj} (F : FnW X.prog X.w X.K X.mg X.base k f fd ps sp p) (hr : L2H.RoomH k X.A) (hp : p ∈ X.pn) (hg : Gl X x) (hm : X.mg x = some (.ref f)) (hk : PySem.W.keepIn X.K (.ref f) = true) (hb : Binds X.K fd ps [])
    (ha : PA X (e :: es) t) (hdb : (x == ("__debug__" : Str)) = false := by decide) (he : starEach (e :: es) X.env = (false, eval e X.env) :: starEach es X.env := by rfl) (hpl : (backTo pos (starEach es X.env)).any (·.1) = false := by rfl) :
    PE X (.Call (.Name x q) (e :: es) [] pos) (tCall sp [] E0 t) := by
  refine ⟨fun pins s σ H Q I h => wpAny_Call_Name_kw (ld_glob I hg hm (PySem.W.callWith_K (h₀ := X.base) I.ok.mod.kin hk (thn (ha.run pos pins s σ H _ I h) fun us s1 ⟨vs, H1, I1, r, q⟩ => ⟨I1.kIn, ?_⟩) he hpl) hdb)⟩
  replace q : sp vs H1 Q E0 := by
    have q2 : sp (vs ++ []) H1 Q E0 := q
    rw [List.append_nil] at q2
    exact q2
  have hl : us.length = ps.length := r.length.symm.trans (F.len _ _ _ _ q)
  have b := hb s1 us I1.kIn (by rw [List.append_nil]; exact hl)
  rw [List.append_nil] at b
  have P1 := I1.pin p (List.mem_append_left _ hp)
  have hpin : L2H.PinOk X.stack H1 s1 p := ⟨P1.1, P1.2.1, fun hm => (List.mem_cons.mp (I1.stkSub p.1 hm)).elim P1.2.2.1 P1.2.2.2.1, P1.2.2.2.2⟩
  refine wpAny_call (codeAny_mono (F.run X.A X.stack s1 H1 ⟨us, []⟩ us vs Q hr hpin I1.env0 b r q) fun z s' hq => ?_)
  cases z with
  | error e => exact passN pins _ _ _ e s' I1 hq
  | ok fl =>
    cases fl with
    | ret u => exact I1.after hq
    | next => exact hq.elim
    | brk => exact hq.elim
    | cont => exact hq.elim
/-! ## .. that tells a list of one word -/
def spWd (K : PySem.W.Frag) (a : Addr) (word : Str) : Sp := fun vs H Q _ => vs = [.ref a] ∧ ∃ H0, Ex H0 H ∧ cont K H0 H Q E0 (.new [.str word])
structure Wd (P : Program) (w : World) (K : PySem.W.Frag) (mg : Str → Option Value) (base : Heap) (k : Nat) (f : Addr) (ps : List Str) (D : Addr) (word : Str) : Prop where
  ex : ∀ p : Addr × Obj, L2N.Zn (.ref D) none p.2 → (∃ vs, p.2.data = .fields vs) → ∃ fd, FnW P w K mg base k f fd ps (spWd K p.1 word) p ∧ Binds K fd ps []
  kp : PySem.W.keepIn K (.ref f) = true
abbrev wc (P : Program) (w : World) (K : PySem.W.Frag) (mg : Str → Option Value) (base : Heap) (N : List Str) (qual : Str) (scope : Scope) (f : Addr) (cd : Value) (A : Around) (s : Shared) : Fx := { dc P w K mg base N qual scope f cd A s with calm := false }
abbrev wv (P : Program) (w : World) (qual : Str) (scope : Scope) (f : Addr) (cd : Value) (A : Around) (outer : List Env) (s : Shared) (H : Hp) (p : Addr × Obj) : Unit → Vr := fun u => { dv P w qual scope f cd A outer s H E0 u with pn := [p] }
theorem sr_raw {K : PySem.W.Frag} {H0 H : Hp} {x y a : V} {N : List Str} (s : Ex H0 H) (hN : N.length = 2) : SR N.length K H0 H H0 H (L2.start N [a]) [Sv.v a, Sv.no] := by
  have st : L2.start N [a] = [some a, none] := by
    unfold L2.start
    rw [hN] <;> rfl
  rw [st]
  refine ⟨Ext.refl s, hN.symm, fun i d e => ?_, fun i xs e => ?_, fun i x e => ?_, fun i j xs ys l e => ?_, fun i a c e => ?_, fun i j a c c' e => ?_, fun i j a c xs e => ?_, fun i a c e => ?_⟩
  · match i, e with
    | 0, e => cases e
    | 1, e => cases e
  · match i, e with
    | 0, e => cases e
    | 1, e => cases e
  · match i, e with
    | 0, e => cases e; rfl
    | 1, e => cases e
  · match i, e with
    | 0, e => cases e
    | 1, e => cases e
  · match i, e with
    | 0, e => cases e
    | 1, e => cases e
  · match i, e with
    | 0, e => cases e
    | 1, e => cases e
  · match i, e with
    | 0, e => cases e
    | 1, e => cases e
  · match i, e with
    | 0, e => cases e
    | 1, e => cases e
theorem wd_mk {P : Program} {w : World} {K : PySem.W.Frag} {mg : Str → Option Value} {base : Heap} {name qual : Str} {st : Stmt} {f : Addr} {fd : FuncData} {N : List Str} {y : Str} {k : Nat} {D : Addr} {word : Str} (F : Fun K name qual st f fd) (S : FnScope N [y] (defScope st)) (hb : Binds K fd [y] []) (hN : N.length = 2)
    (body : ∀ (cdv : Value) (A : Around) (outer : List Env) (s : Shared) (H : Hp) (p : Addr × Obj), L2N.Zn (.ref D) none p.2 → (∃ vs, p.2.data = .fields vs) →
      XB (wc P w K mg base N qual (defScope st) f cdv A s) (wv P w qual (defScope st) f cdv A outer s H p) noW (defBody st) [.v (.ref p.1), .no] (fnPo (.new [.str word]))) : Wd P w K mg base (k + 1) f [y] D word := by
  refine ⟨fun p z h => ⟨fd, fnw_of F S (fun vs H Q E h => by obtain ⟨rfl, _⟩ := h; rfl) (fun cdv A outer s H vs Q hr h2 => ?_), hb⟩, F.kp⟩
  obtain ⟨rfl, H0, sub, kk⟩ := h2
  obtain ⟨t, p1, d1⟩ := body cdv A outer s H p z h
  refine ⟨t, p1 (), d1 (sr_raw (x := .non) (y := .non) sub hN) ⟨fun I0 I σ en e s2 h => ?_, fun I0 I σ en e s2 h => h.elim, fun I0 I σ en e s2 h => h.elim, fun v I0 I σ en d e s2 w h => ?_, fun l vs I0 I σ en ds e s2 n n0 e2 _ w h => ?_, fun C I0 I σ en e s2 h => ?_, fun p l vs us I0 I σ en ds rs e s2 n n0 e2 _ w sq uw h => ?_, fun x I0 I σ en e s2 h => ?_⟩⟩
  · cases h
  · cases h
  · cases h
    exact kk l vs I0 I s2.ext n n0 e2 w
  · cases h
  · cases h
  · cases h
section
variable {c : Fx} {ι : Type} {F : ι → Vr} {W : WX} {en : List Sv} {e e1 e2 : Expr} {pos p p2 : Pos} {x y : Str} {a D C : Addr} {j k m : Nat}
/-- f(n), n the exception's name -/
theorem n_word {ps : List Str} {fa : Addr} {word : Str} (i : Nat) (f : Wd c.P c.w c.K c.mg c.base k fa ps D word) (hm : c.mg x = some (.ref fa)) (hr : L2H.RoomH j c.A) (hk : k ≤ j) (he : en[i]? = some (Sv.v (.ref a))) (hpn : ∀ q, ∃ oe, L2N.Zn (.ref D) none oe ∧ (∃ vs, oe.data = .fields vs) ∧ (a, oe) ∈ (F q).pn)
    (hN : c.N[i]? = some y := by rfl) (hv : ∀ q, Vis (F q).env.scope y := by first | exact fun _ => Or.inl rfl | exact fun _ => Or.inr (Or.inl rfl)) (hg : ∀ q, Gl (cx c (F q)) x := by exact fun _ => rfl)
    (hd : (y == ("__debug__" : Str)) = false := by decide) (hcd : (y == ("__classdict__" : Str)) = false := by decide) (hdb : (x == ("__debug__" : Str)) = false := by decide) (s1 : Pl c F (.Name y p2) [] := by exact fun _ => rfl) : XN c F (.Call (.Name x p) [.Name y p2] [] pos) en [.str word] := by
  refine ⟨tCall (spWd c.K a word) [] E0 (tCons (tVar i) tNil), fun q => ?_, fun Q s k => ⟨_, s.raw i _ he, rfl, _, s.sub, fun l vs H0' H' x n n0 e w => k l vs H0' H' x n n0 e w⟩⟩
  obtain ⟨oe, z, h, hp⟩ := hpn q
  obtain ⟨fd, f1, f2⟩ := f.ex (a, oe) z h
  exact pe_callW f1 (hr.mono hk) hp (hg q) hm f.kp f2 (pa_cons (pe_var hN (hv q) hd hcd) pa_nil (s1 q)) hdb (s1 q) rfl
theorem su_word {ps : List Str} {fa : Addr} {word : Str} {P : Po} {kk : Nat} {pos2 : Pos} (i : Nat) (f : Wd c.P c.w c.K c.mg c.base k fa ps D word) (hm : c.mg x = some (.ref fa)) (hr : Room j c.A) (hk : k ≤ j) (he : en[i]? = some (Sv.v (.ref a))) (q : P.rt (.ret (.list [.str word])) (en.set kk .no))
    (hN : c.N[i]? = some y := by rfl) (hv : ∀ q, Vis (F q).env.scope y := by first | exact fun _ => Or.inl rfl | exact fun _ => Or.inr (Or.inl rfl)) (hg : ∀ q, Gl (cx c (F q)) x := by exact fun _ => rfl)
    (hd : (y == ("__debug__" : Str)) = false := by decide) (hcd : (y == ("__classdict__" : Str)) = false := by decide) (hdb : (x == ("__debug__" : Str)) = false := by decide) (s1 : Pl c F (.Name y p2) [] := by exact fun _ => rfl) :
    XB (hot c a) (suF F a (.ref D)) noW [.Return (some (.Call (.Name x p) [.Name y p2] [] pos)) pos2] en (suP P kk) :=
  b_one (s_ret (n_word (c := hot c a) (F := suF F a (.ref D)) i f hm ⟨hr.dp, hr.un⟩ hk he (fun q => ⟨q.2.1.1, q.2.2.1, q.2.2.2, List.mem_cons_self⟩) hN (fun q => hv q.1) (fun q => hg q.1) hd hcd hdb (fun q => s1 q.1)).xd q)
theorem su_tup {ps : List Str} {fa : Addr} {word : Str} {P : Po} {kk m : Nat} {pos2 pos3 : Pos} (i : Nat) (f : Wd c.P c.w c.K c.mg c.base k fa ps D word) (hm : c.mg x = some (.ref fa)) (hr : Room j c.A) (hk : k ≤ j) (he : en[i]? = some (Sv.v (.ref a))) (q : P.rt (.ret (.tuple [.list [.str word]])) (en.set kk .no))
    (hN : c.N[i]? = some y := by rfl) (hv : ∀ q, Vis (F q).env.scope y := by first | exact fun _ => Or.inl rfl | exact fun _ => Or.inr (Or.inl rfl)) (hg : ∀ q, Gl (cx c (F q)) x := by exact fun _ => rfl)
    (hd : (y == ("__debug__" : Str)) = false := by decide) (hcd : (y == ("__classdict__" : Str)) = false := by decide) (hdb : (x == ("__debug__" : Str)) = false := by decide) (s1 : Pl c F (.Name y p2) [] := by exact fun _ => rfl) (s2 : Pl (hot c a) (suF F a (.ref D)) (.Call (.Name x p) [.Name y p2] [] pos) [] := by exact fun _ => rfl) :
    XB (hot c a) (suF F a (.ref D)) noW [.Return (some (.Tuple [.Call (.Name x p) [.Name y p2] [] pos] m pos3)) pos2] en (suP P kk) :=
  b_one (s_ret (x_tup (a_cons (n_word (c := hot c a) (F := suF F a (.ref D)) i f hm ⟨hr.dp, hr.un⟩ hk he (fun q => ⟨q.2.1.1, q.2.2.1, q.2.2.2, List.mem_cons_self⟩) hN (fun q => hv q.1) (fun q => hg q.1) hd hcd hdb (fun q => s1 q.1)).xd a_nil s2)) q)
/-- isinstance(n, C) -/
theorem call_excIs {X : Cx} {oe : Obj} (hp : (a, oe) ∈ X.pn) (G : ExcC X.K D) (hz : Zc (.ref D) none oe) (hf : ∃ vs, oe.data = .fields vs) : CallR X (.builtin "isinstance") (rIsE X.K D a) := by
  rintro pins s σ H xs us Q I r ⟨v, cv, b, rfl, hcv, e, q⟩
  obtain ⟨u1, us1, rfl, r1, r2⟩ : ∃ u1 us1, us = u1 :: us1 ∧ RelV (.ref a) u1 ∧ Vals [v] us1 := by
    cases r with
    | cons h1 h2 => exact ⟨_, _, rfl, h1, h2⟩
  obtain ⟨u2, rfl, r3⟩ := vals1 r2
  have e1 : u1 = .ref a := r1
  subst e1
  have e2 := hcv _ r3
  subst e2
  obtain ⟨vs, hv⟩ := hf
  have J : PySem.W.InstAt s.heap a oe D none := by
    cases oe with
    | mk oc od oda osl =>
      obtain ⟨h1, h2⟩ := hz
      cases h1
      cases h2
      cases hv
      exact ⟨(I.pin (a, _) (List.mem_append_left _ hp)).1, rfl, rfl, trivial⟩
  exact PySem.W.kia_one (PySem.W.handS_kitx_exc G.hg G.hk G.hs G.hd G.ha G.hn G.ht G.hm) I.kIn J e (fun z => nomatch z) fun tk => ⟨.bl b, H, I.kept (t' := tk) fun _ _ z => z, rfl, q⟩
theorem x_excIs (i : Nat) {b : Bool} (G : ExcC c.K D) (hq : PySem.W.kitOne c.K (.ref D) (.ref C) = some b) (hC : c.mg x = some (.ref C)) (hm : c.mg "isinstance" = none) (he : en[i]? = some (Sv.v (.ref a))) (hpn : ∀ q, ∃ oe, L2N.Zn (.ref D) none oe ∧ (∃ vs, oe.data = .fields vs) ∧ (a, oe) ∈ (F q).pn)
    (hN : c.N[i]? = some y := by rfl) (hv : ∀ q, Vis (F q).env.scope y := by first | exact fun _ => Or.inl rfl | exact fun _ => Or.inr (Or.inl rfl)) (hg : ∀ i, Gl (cx c (F i)) "isinstance" := by exact fun _ => rfl) (hgC : ∀ q, Gl (cx c (F q)) x := by exact fun _ => rfl)
    (hd : (y == ("__debug__" : Str)) = false := by decide) (hcd : (y == ("__classdict__" : Str)) = false := by decide) (hdb : (x == ("__debug__" : Str)) = false := by decide) (s1 : Pl c F (.Name y p2) [.Name x pos] := by exact fun _ => rfl) (s2 : Pl c F (.Name x pos) [] := by exact fun _ => rfl) {pos2 : Pos} (s3 : Bt c F pos2 [.Name x pos] := by exact fun _ => rfl) :
    XD c F (.Call (.Name "isinstance" p) [.Name y p2, .Name x pos] [] pos2) en (.bool b) := by
  refine ⟨tCB (rIsE c.K D a) (tCons (tVar i) (tCons (tC (.ref C)) tNil)), fun q => ?_, fun Q s k => ⟨_, s.raw i _ he, .ref C, .ref C, b, rfl, fun u h => h, hq, k _ _ _ (Ext.refl s.sub) (.bl b)⟩⟩
  obtain ⟨oe, z, h, hp⟩ := hpn q
  exact pe_callB (call_excIs hp G z.zc h) (hg q) hm (by decide +kernel) (pa_cons (pe_var hN (hv q) hd hcd) (pa_cons (pe_glob (v := .ref C) (hgC q) hC rfl hdb) pa_nil (s2 q)) (s1 q)) (by decide) (by decide) (s1 q) (s3 q)
theorem x_excIsV (i : Nat) {b : Bool} {T : String} (G : ExcC c.K D) (hq : PySem.W.kitOne c.K (.ref D) (.type T) = some b) (hC : c.mg x = none) (hbt : bootBuiltins x = some (.type T)) (hm : c.mg "isinstance" = none) (he : en[i]? = some (Sv.v (.ref a))) (hpn : ∀ q, ∃ oe, L2N.Zn (.ref D) none oe ∧ (∃ vs, oe.data = .fields vs) ∧ (a, oe) ∈ (F q).pn)
    (hN : c.N[i]? = some y := by rfl) (hv : ∀ q, Vis (F q).env.scope y := by first | exact fun _ => Or.inl rfl | exact fun _ => Or.inr (Or.inl rfl)) (hg : ∀ i, Gl (cx c (F i)) "isinstance" := by exact fun _ => rfl) (hgC : ∀ q, Gl (cx c (F q)) x := by exact fun _ => rfl)
    (hd : (y == ("__debug__" : Str)) = false := by decide) (hcd : (y == ("__classdict__" : Str)) = false := by decide) (hn : x ≠ "__name__" := by decide) (hdb : (x == ("__debug__" : Str)) = false := by decide) (s1 : Pl c F (.Name y p2) [.Name x pos] := by exact fun _ => rfl) (s2 : Pl c F (.Name x pos) [] := by exact fun _ => rfl) {pos2 : Pos} (s3 : Bt c F pos2 [.Name x pos] := by exact fun _ => rfl) :
    XD c F (.Call (.Name "isinstance" p) [.Name y p2, .Name x pos] [] pos2) en (.bool b) := by
  refine ⟨tCB (rIsE c.K D a) (tCons (tVar i) (tCons (tC (.ty T)) tNil)), fun q => ?_, fun Q s k => ⟨_, s.raw i _ he, .ty T, .type T, b, rfl, fun u h => h, hq, k _ _ _ (Ext.refl s.sub) (.bl b)⟩⟩
  obtain ⟨oe, z, h, hp⟩ := hpn q
  exact pe_callB (call_excIs hp G z.zc h) (hg q) hm (by decide +kernel) (pa_cons (pe_var hN (hv q) hd hcd) (pa_cons (pe_bltn (v := .ty T) (hgC q) hC hbt rfl hn hdb) pa_nil (s2 q)) (s1 q)) (by decide) (by decide) (s1 q) (s3 q)
/-- what is asked of a class whose instances isinstance is asked about -/
def excOne (K : PySem.W.Frag) (D : Addr) : Bool :=
  He.eqO (PySem.W.findIn K (.ref D) "__getattribute__") (some (some (.builtin "BaseException.__getattribute__"))) && (He.eqO (PySem.W.findIn K (.ref D) "__getattr__") (some none) && (decide (PySem.W.subIn K (.ref D) (.type "BaseException") = some true) && (PySem.W.hasDictIn K D &&
    (He.eqO (PySem.W.findIn K (.ref D) "__class__") (some (some (.builtin "object.__class__"))) && (He.eqO (PySem.W.specialIn K (.builtin "object.__class__") "__get__") (some (some (.builtin "getset_descriptor.__get__"))) &&
      (decide (PySem.W.takesIn K (.builtin "object.__class__") = some true) && decide (PySem.W.mroIn K D (.type "object") = some true)))))))
theorem excOne_ok {K : PySem.W.Frag} {D : Addr} (h : excOne K D = true) : ExcC K D := by
  unfold excOne at h
  simp only [Bool.and_eq_true] at h
  obtain ⟨h1, h2, h3, h4, h5, h6, h7, h8⟩ := h
  exact ⟨He.eqO_ok h1, He.eqO_ok h2, of_decide_eq_true h3, h4, He.eqO_ok h5, He.eqO_ok h6, of_decide_eq_true h7, of_decide_eq_true h8⟩
/-! texts -/
theorem dpa_strs {K : PySem.W.Frag} : ∀ {H : Hp} {vs : List V} {zs : List Str}, DwAll K H vs (zs.map PyData.str) → vs = zs.map V.str
  | _, _, [], .nil => rfl
  | _, _, n :: ns, .cons h q => by
    cases h
    rw [List.map_cons, dpa_strs q]
def rJn (K : PySem.W.Frag) : V → List V → Hp → VK → Prop := fun x xs H Q => ∃ (a : Str) (p : Addr), ∃ ys : List Str, x = .str a ∧ xs = [.ref p] ∧ (SqL K H p (ys.map V.str) ∨ SqT K H p (ys.map V.str)) ∧ (ys.map (·.length)).sum + ys.length * a.length ≤ 16777216 ∧ Q (.str (Txt.join a ys)) H
theorem x_join {z : Str} {zs : List Str} {apos : Pos} (h1 : XD c F e1 en (.str z)) (h2 : XD c F e2 en (.list (zs.map PyData.str))) (hl : (zs.map (·.length)).sum + zs.length * z.length ≤ 16777216)
    (s1 : ∀ i, starEach [e2] (cx c (F i)).env = [(false, eval e2 (cx c (F i)).env)] := by exact fun _ => rfl) (hb : ∀ i, attributeBase e1 "join" (cx c (F i)).env (eval e1 (cx c (F i)).env) = eval e1 (cx c (F i)).env := by exact fun _ => rfl) (hline : (apos.endLine == pos.line) = true := by rfl) :
    XD c F (.Call (.Attribute e1 "join" apos) [e2] [] pos) en (.str (Txt.join z zs)) := by
  obtain ⟨t1, p1, d1⟩ := h1
  obtain ⟨t2, p2, d2⟩ := h2
  refine ⟨tM1 (rJn c.K) t1 t2, fun i => pe_join (p1 i) (p2 i) (s1 i) (hb i) hline, fun Q s q => d1 _ s fun v H0' H' x w => ?_⟩
  cases w
  refine ⟨⟨z, rfl⟩, d2 _ (s.step x) fun v2 I0 I y w2 => ?_⟩
  cases w2 with
  | lst e u =>
    have g := dpa_strs u
    subst g
    exact ⟨z, _, zs, rfl, rfl, .inl (SqL.of (y.sub _ _ e)), hl, q _ _ _ (x.trans y) (.str _)⟩
def rOnce : R2 := fun x y H Q => ∃ z, x = V.str z ∧ y = .int 1 ∧ Q (.str z) H
theorem op_once {X : Cx} : OpR X (binaryOp .Mult) rOnce := by
  rintro pins s σ H x y v u Q I rx ry ⟨z, rfl, rfl, q⟩
  obtain ⟨t, rfl⟩ := rx
  obtain ⟨t2, rfl⟩ := ry
  refine PySem.P.mul_str (by decide) (fun _ h => by simp at h) (fun _ h => by simp at h) ?_
  rw [if_neg (by decide), if_pos (by simp)]
  exact ⟨.str z, H, I, ⟨t, rfl⟩, q⟩
theorem x_once {z : Str} (h1 : XD c F e1 en (.str z)) (h2 : XD c F e2 en (.int 1)) : XD c F (.BinOp e1 .Mult e2 pos) en (.str z) := x_op (fun _ => op_once) h1 h2 fun Q s x y k => by
  cases x
  cases y
  exact ⟨z, rfl, rfl, k _ _ _ (Ext.refl s) (.str z)⟩
end
end DL
namespace DL
open PySem PySem.Spec PyProof.Rows L2 Evl
section
variable {c : Fx} {ι : Type} {F : ι → Vr} {en : List Sv} {e1 e2 e3 : Expr} {pos : Pos}
/-- l <= m < u -/
theorem t_betw2 {i j m : Int} (h1 : XD c F e1 en (.int i)) (h2 : XD c F e2 en (.int j)) (h3 : XD c F e3 en (.int m)) (hm : lastMarks [.LtE, .Lt] [e2, e3] = false := by with_unfolding_all rfl) :
    XT c F (.Compare e1 [.LtE, .Lt] [e2, e3] pos) en (decide (i ≤ j ∧ j < m)) := by
  obtain ⟨_, p1, d1⟩ := h1
  obtain ⟨_, p2, d2⟩ := h2
  obtain ⟨_, p3, d3⟩ := h3
  refine ⟨_, fun q => pt_chain op_le op_lt (p1 q) (p2 q) (p3 q) hm, fun Q s q => d1 _ s fun v A1 A w1 u1 => ?_⟩
  cases u1
  refine d2 _ (s.step w1) fun v B1 B w2 u2 => ?_
  cases u2
  refine ⟨i, j, rfl, rfl, decide (i ≤ j), rfl, ?_⟩
  by_cases hij : i ≤ j
  · rw [decide_eq_true hij, if_pos rfl]
    refine d3 _ ((s.step w1).step w2) fun v C1 C w3 u3 => ?_
    cases u3
    refine ⟨j, m, rfl, rfl, decide (j < m), rfl, ?_⟩
    have e : decide (i ≤ j ∧ j < m) = decide (j < m) := by rw [decide_eq_decide]; omega
    rw [e] at q
    exact q _ _ ((w1.trans w2).trans w3)
  · rw [decide_eq_false hij, if_neg (by decide)]
    have e : decide (i ≤ j ∧ j < m) = false := decide_eq_false (by omega)
    rw [e] at q
    exact ⟨false, rfl, q _ _ (w1.trans w2)⟩
end
end DL
namespace DL
open PySem PySem.Spec PyProof.Rows L2 Evl
/-! ## one list of ours goes public -/
theorem SR.openAt {K : PySem.W.Frag} {G0 G H0 H : Hp} {σ : L2.St} {en : List Sv} {j : Nat} {xs : List Dt} (r : SR nn K G0 G H0 H σ en) (h : en[j]? = some (Sv.own xs)) : ∃ J0, Ex H0 J0 ∧ SR nn K G0 G J0 H σ (en.set j (Sv.d (.list xs))) := by
  obtain ⟨l, vs, a1, a2, a3, a4, a5⟩ := r.own j xs h
  have up : Ex H0 (upd H0 l (.lst vs)) := Ex.new a3
  refine ⟨upd H0 l (.lst vs), up, r.ext.open_ a2 a3 a4, r.len, fun i d e => ?_, fun i ys e => ?_, fun i x e => ?_, fun i k ys zs m e1 e2 e3 e4 => ?_, fun i b d e => ?_, fun i k b d d' e1 e2 => ?_, fun i k b d ys e1 e2 e3 => ?_, fun i b d e => ?_⟩
  · rcases set_get e with ⟨rfl, q⟩ | ⟨n, q⟩
    · cases q
      exact ⟨_, a1, .lst upd_same (dpa_mono up a5)⟩
    · obtain ⟨v, b1, b2⟩ := r.dat i d q
      exact ⟨v, b1, dp_mono up b2⟩
  · rcases set_get e with ⟨rfl, q⟩ | ⟨n, q⟩
    · cases q
    · obtain ⟨l2, us, b1, b2, b3, b4, b5⟩ := r.own i ys q
      have ne : l2 ≠ l := fun z => by
        subst z
        exact n (r.dis j i xs ys l2 h q a1 b1)
      exact ⟨l2, us, b1, b2, by rw [upd_ne ne]; exact b3, b4, dpa_mono up b5⟩
  · rcases set_get e with ⟨rfl, q⟩ | ⟨n, q⟩
    · cases q
    · exact r.raw i x q
  · rcases set_get e1 with ⟨rfl, q⟩ | ⟨n, q⟩
    · cases q
    · rcases set_get e2 with ⟨rfl, q2⟩ | ⟨n2, q2⟩
      · cases q2
      · exact r.dis i k ys zs m q q2 e3 e4
  · rcases set_get e with ⟨_, q⟩ | ⟨_, q⟩
    · cases q
    · obtain ⟨h1, h2, o, h3, h4⟩ := r.cel i b d q
      have ne : b ≠ l := fun z => by
        subst z
        exact r.cown i j b d xs q h a1
      exact ⟨h1, by rw [upd_ne ne]; exact h2, o, h3, h4.mono up⟩
  · rcases set_get e1 with ⟨_, q⟩ | ⟨_, q1⟩
    · cases q
    · rcases set_get e2 with ⟨_, q⟩ | ⟨_, q2⟩
      · cases q
      · exact r.cdis i k b d d' q1 q2
  · rcases set_get e1 with ⟨_, q⟩ | ⟨_, q1⟩
    · cases q
    · rcases set_get e2 with ⟨_, q⟩ | ⟨_, q2⟩
      · cases q
      · exact r.cown i k b d ys q1 q2 e3
  · rcases set_get e with ⟨_, q⟩ | ⟨_, q⟩
    · cases q
    · obtain ⟨o, g, w⟩ := r.rdc i b d q
      exact ⟨o, g, w.mono up⟩
theorem XB.openAt {c : Fx} {ι : Type} {F : ι → Vr} {W : WX} {sts : List Stmt} {en : List Sv} {P : Po} (j : Nat) {xs : List Dt} (h : XB c F W sts (en.set j (Sv.d (.list xs))) P) (hj : en[j]? = some (Sv.own xs) := by rfl) : XB c F W sts en P := by
  obtain ⟨t, p, r⟩ := h
  refine ⟨t, p, fun s o => ?_⟩
  obtain ⟨J0, u, s2⟩ := s.openAt hj
  exact r s2 (o.mono u)
end DL

set_option maxRecDepth 100000
set_option maxHeartbeats 4000000
namespace DL
open PySem PySem.Spec PyProof.Rows L2 Evl
variable {nn : Nat}
/-! ## things of ours: raw references, fields, lists in cells -/
theorem CvKey.get {α : Type} [BEq α] {K : PySem.W.Frag} {H : Hp} {f : α} {cv : Cv} : ∀ {gs : List (α × V)} {fs : List (α × Cv)}, CvKey K H gs fs → fs.lookup f = some cv → ∃ v, gs.lookup f = some v ∧ CvAt K H v cv
  | _, _, .nil, h => by cases h
  | _, _, .cons (k := k) (v := v) hv q, h => by
    rw [List.lookup_cons] at h ⊢
    cases e : f == k with
    | true =>
      rw [e] at h
      cases h
      exact ⟨v, rfl, hv⟩
    | false =>
      rw [e] at h
      exact q.get h
theorem CvKey.getN {α : Type} [BEq α] {K : PySem.W.Frag} {H : Hp} {f : α} : ∀ {gs : List (α × V)} {fs : List (α × Cv)}, CvKey K H gs fs → fs.lookup f = none → gs.lookup f = none
  | _, _, .nil, _ => rfl
  | _, _, .cons (k := k) hv q, h => by
    rw [List.lookup_cons] at h ⊢
    cases e : f == k with
    | true =>
      rw [e] at h
      cases h
    | false =>
      rw [e] at h
      exact q.getN h
theorem CvKey.len {α : Type} {K : PySem.W.Frag} {H : Hp} : ∀ {gs : List (α × V)} {fs : List (α × Cv)}, CvKey K H gs fs → gs.length = fs.length
  | _, _, .nil => rfl
  | _, _, .cons _ q => congrArg (· + 1) q.len
def cvV (kvs : List (Key × Cv)) (k : Key) : Option Cv := (kvs.find? fun kv => decide (kv.1 = k)).map (·.2)
theorem CvKey.getV {K : PySem.W.Frag} {H : Hp} {f : Key} {cv : Cv} : ∀ {gs : List (Key × V)} {fs : List (Key × Cv)}, CvKey K H gs fs → cvV fs f = some cv → ∃ v, some v = valV gs f ∧ CvAt K H v cv
  | _, _, .nil, h => by cases h
  | _, _, .cons (k := k) (v := v) (c := c) (vs := vs) (cs := cs) hv q, h => by
    by_cases e : k = f
    · have h1 : cvV ((k, c) :: cs) f = some c := by
        unfold cvV
        rw [List.find?_cons_of_pos (by simpa using e)]
        rfl
      rw [h1] at h
      cases h
      exact ⟨v, (valV_pos (p := (k, v)) e).symm, hv⟩
    · have h1 : cvV ((k, c) :: cs) f = cvV cs f := by
        unfold cvV
        rw [List.find?_cons_of_neg (by simpa using e)]
      rw [h1] at h
      obtain ⟨u, g1, g2⟩ := q.getV h
      exact ⟨u, by rw [valV_neg (p := (k, v)) e]; exact g1, g2⟩
theorem CvAll.len {K : PySem.W.Frag} {H : Hp} : ∀ {gs : List V} {fs : List Cv}, CvAll K H gs fs → gs.length = fs.length
  | _, _, .nil => rfl
  | _, _, .cons _ q => congrArg (· + 1) q.len
theorem CvAll.get {K : PySem.W.Frag} {H : Hp} : ∀ {vs : List V} {cs : List Cv} {i : Nat} {d : Cv}, CvAll K H vs cs → cs[i]? = some d → ∃ v, vs[i]? = some v ∧ CvAt K H v d
  | _, _, _, _, .nil, e => by simp at e
  | _, _, 0, _, .cons h _, e => by simp at e; subst e; exact ⟨_, rfl, h⟩
  | _, _, i + 1, d, .cons _ q, e => by
    obtain ⟨v, a, b⟩ := CvAll.get (i := i) (d := d) q (by simpa using e)
    exact ⟨v, by simpa using a, b⟩
theorem CvAll.snoc {K : PySem.W.Frag} {H : Hp} {v : V} {c : Cv} (h : CvAt K H v c) : ∀ {vs : List V} {cs : List Cv}, CvAll K H vs cs → CvAll K H (vs ++ [v]) (cs ++ [c])
  | _, _, .nil => .cons h .nil
  | _, _, .cons g q => .cons g (q.snoc h)
theorem dwa_cva {K : PySem.W.Frag} {H : Hp} : ∀ {vs : List V} {ds : List Dt}, DwAll K H vs ds → CvAll K H vs (ds.map Cv.d)
  | _, _, .nil => .nil
  | _, _, .cons h q => .cons (.d h) (dwa_cva q)
theorem cva_dwa {K : PySem.W.Frag} {H : Hp} : ∀ {vs : List V} {ds : List Dt}, CvAll K H vs (ds.map Cv.d) → DwAll K H vs ds
  | _, [], .nil => .nil
  | _, d :: ds, .cons h q => by
    cases h with
    | d w => exact .cons w (cva_dwa q)
/-- a cell of ours, or one to be read -/
def CelIn (en : List Sv) (i : Nat) (a : Addr) (c : Cl) : Prop := en[i]? = some (Sv.cell a c) ∨ en[i]? = some (Sv.rd a c)
section
variable {K : PySem.W.Frag} {G0 G H0 H H0' H' : Hp} {σ : L2.St} {en : List Sv}
theorem SR.at (r : SR nn K G0 G H0 H σ en) {i : Nat} {a : Addr} {c : Cl} (h : CelIn en i a c) : ∃ o, H a = some o ∧ ClAt K H0 o c := by
  rcases h with h | h
  · obtain ⟨_, _, o, h3, h4⟩ := r.cel i a c h
    exact ⟨o, h3, h4⟩
  · obtain ⟨o, g, q⟩ := r.rdc i a c h
    exact ⟨o, r.ext.all a o g, q⟩
theorem SR.atI (r : SR nn K G0 G H0 H σ en) {i : Nat} {a C : Addr} {fs : List (Str × Cv)} (h : CelIn en i a (.ins C fs)) : ∃ dx gs, H a = some (.ins C dx gs) ∧ CvKey K H0 gs fs := by
  obtain ⟨o, h1, h2⟩ := r.at h
  cases h2 with
  | ins q => exact ⟨_, _, h1, q⟩
theorem SR.atL (r : SR nn K G0 G H0 H σ en) {i : Nat} {a : Addr} {xs : List Cv} (h : CelIn en i a (.lst xs)) : ∃ vs, H a = some (.lst vs) ∧ CvAll K H0 vs xs := by
  obtain ⟨o, h1, h2⟩ := r.at h
  cases h2 with
  | lst q => exact ⟨_, h1, q⟩
theorem SR.atD (r : SR nn K G0 G H0 H σ en) {i : Nat} {a : Addr} {kvs : List (Key × Cv)} (h : CelIn en i a (.dct kvs)) : ∃ vs, H a = some (.dK vs) ∧ CvKey K H0 vs kvs := by
  obtain ⟨o, h1, h2⟩ := r.at h
  cases h2 with
  | dct q => exact ⟨_, h1, q⟩
end
/-- an expression whose value is a known reference -/
def XR (c : Fx) {ι : Type} (F : ι → Vr) (e : Expr) (en : List Sv) (x : V) : Prop := ∃ t, (∀ i, PE (cx c (F i)) e t) ∧
  ∀ {G0 G H0 H : Hp} {σ : L2.St} (Q : VK), SR c.N.length c.K G0 G H0 H σ en → (∀ H0' H', Ext H0 H H0' H' → Q x H') → t σ H Q
/-- an expression whose value is a list, read at once -/
def XLs (c : Fx) {ι : Type} (F : ι → Vr) (e : Expr) (en : List Sv) (ds : List Dt) : Prop := ∃ t, (∀ i, PE (cx c (F i)) e t) ∧
  ∀ {G0 G H0 H : Hp} {σ : L2.St} (Q : VK), SR c.N.length c.K G0 G H0 H σ en → (∀ b vs H0' H', Ext H0 H H0' H' → H' b = some (.lst vs) → DwAll c.K H0' vs ds → Q (.ref b) H') → t σ H Q
/-- arguments: data, references -/
def XAR (c : Fx) {ι : Type} (F : ι → Vr) (es : List Expr) (en : List Sv) (args : List Cv) : Prop := ∃ t, (∀ i, PA (cx c (F i)) es t) ∧
  ∀ {G0 G H0 H : Hp} {σ : L2.St} (Q : List V → Hp → Prop), SR c.N.length c.K G0 G H0 H σ en → (∀ vs H0' H', Ext H0 H H0' H' → CvAll c.K H0' vs args → Q vs H') → t σ H Q
section
variable {c : Fx} {ι : Type} {F : ι → Vr} {W : WX} {en : List Sv} {e e1 e2 o : Expr} {es : List Expr} {pos p p2 pos' apos cpos : Pos} {x y f : Str} {a b C l : Addr} {fs : List (Str × Cv)} {P : Po} {d : Dt} {ds xs zs : List Dt} {args : List Cv}
theorem r_var (j : Nat) {v : V} (h : en[j]? = some (Sv.v v) := by rfl) (hN : c.N[j]? = some x := by rfl) (hv : ∀ i, Vis (F i).env.scope x := by first | exact fun _ => Or.inl rfl | exact fun _ => Or.inr (Or.inl rfl) | exact fun _ => Or.inr (Or.inr rfl))
    (hd : (x == ("__debug__" : Str)) = false := by decide) (hcd : (x == ("__classdict__" : Str)) = false := by decide) : XR c F (.Name x pos) en v :=
  ⟨tVar j, fun i => pe_var hN (hv i) hd hcd, fun Q r k => ⟨v, r.raw j v h, k _ _ (Ext.refl r.sub)⟩⟩
/-- e.f, a datum -/
theorem x_fld (i : Nat) (h : XR c F e en (.ref a)) (hi : CelIn en i a (.ins C fs)) (hf : fs.lookup f = some (.d d)) (hc : Cls c.K C) (hn : NoAttr c.K C f) (hb : ∀ i, attributeBase e f (cx c (F i)).env (eval e (cx c (F i)).env) = eval e (cx c (F i)).env := by exact fun _ => rfl) : XD c F (.Attribute e f pos) en d := by
  obtain ⟨t, p1, d1⟩ := h
  refine ⟨tFld c.K t f, fun q => pe_fld (p1 q) (hb q), fun Q s k => d1 _ s fun I0 I x => ?_⟩
  obtain ⟨dx, gs, h3, q⟩ := (s.step x).atI hi
  obtain ⟨v, g1, g2⟩ := q.get hf
  cases g2 with
  | d w => exact ⟨a, C, dx, gs, v, rfl, h3, hc, hn, g1, k v I0 I x w⟩
/-- e.f, a reference to another cell -/
theorem r_fld (i : Nat) (h : XR c F e en (.ref a)) (hi : CelIn en i a (.ins C fs)) (hf : fs.lookup f = some (.r b)) (hc : Cls c.K C) (hn : NoAttr c.K C f) (hb : ∀ i, attributeBase e f (cx c (F i)).env (eval e (cx c (F i)).env) = eval e (cx c (F i)).env := by exact fun _ => rfl) : XR c F (.Attribute e f pos) en (.ref b) := by
  obtain ⟨t, p1, d1⟩ := h
  refine ⟨tFld c.K t f, fun q => pe_fld (p1 q) (hb q), fun Q s k => d1 _ s fun I0 I x => ?_⟩
  obtain ⟨dx, gs, h3, q⟩ := (s.step x).atI hi
  obtain ⟨v, g1, g2⟩ := q.get hf
  cases g2 with
  | r b => exact ⟨a, C, dx, gs, _, rfl, h3, hc, hn, g1, k I0 I x⟩
/-! lists to be read -/
theorem ls_d (h : XD c F e en (.list ds)) : XLs c F e en ds := let ⟨t, p1, d1⟩ := h; ⟨t, p1, fun Q s k => d1 _ s fun v H0' H' x w => by
  cases w with
  | lst e q => exact k _ _ _ _ x (x.sub _ _ e) q⟩
theorem ls_own (j : Nat) (h : en[j]? = some (Sv.own ds) := by rfl) (hN : c.N[j]? = some x := by rfl) (hv : ∀ i, Vis (F i).env.scope x := by first | exact fun _ => Or.inl rfl | exact fun _ => Or.inr (Or.inl rfl) | exact fun _ => Or.inr (Or.inr rfl))
    (hd : (x == ("__debug__" : Str)) = false := by decide) (hcd : (x == ("__classdict__" : Str)) = false := by decide) : XLs c F (.Name x pos) en ds :=
  ⟨tVar j, fun i => pe_var hN (hv i) hd hcd, fun Q s k => by
    obtain ⟨l, vs, a1, a2, a3, a4, a5⟩ := s.own j ds h
    exact ⟨_, a1, k _ _ _ _ (Ext.refl s.sub) a4 a5⟩⟩
theorem ls_cel (i : Nat) (h : XR c F e en (.ref a)) (hi : CelIn en i a (.lst (ds.map Cv.d))) : XLs c F e en ds := let ⟨t, p1, d1⟩ := h; ⟨t, p1, fun Q s k => d1 _ s fun H0' H' x => by
  obtain ⟨vs, h3, q⟩ := (s.step x).atL hi
  exact k _ _ _ _ x h3 (cva_dwa q)⟩
theorem XLs.is (h : XLs c F e en ds) (q : ds = xs) : XLs c F e en xs := q ▸ h
abbrev rListS (K : PySem.W.Frag) : List V → Hp → VK → Prop := fun xs H Q => ∃ p ys, xs = [V.ref p] ∧ (SqL K H p ys ∨ SqT K H p ys) ∧ ∀ l, H l = none → Q (.ref l) (upd H l (.lst ys))
abbrev rLenS (K : PySem.W.Frag) : List V → Hp → VK → Prop := fun xs H Q => ∃ p ys, xs = [V.ref p] ∧ (SqL K H p ys ∨ SqT K H p ys) ∧ Q (.int ys.length) H
theorem n_listS (hm : c.mg "list" = none) (h : XLs c F e en ds) (hg : ∀ i, Gl (cx c (F i)) "list" := by exact fun _ => rfl) (s1 : Pl c F e [] := by exact fun _ => rfl) : XN c F (.Call (.Name "list" p) [e] [] pos) en ds :=
  let ⟨t, p1, d1⟩ := h; ⟨tCB (rListS c.K) (tCons t tNil), fun i => pe_callTy call_list_of (hg i) hm (by decide +kernel) (pa_cons (p1 i) pa_nil (s1 i)) (by decide) (by decide) (s1 i) rfl, fun Q s k => d1 _ s fun b vs H0' H' x e w =>
    ⟨_, _, rfl, .inl (SqL.of e), fun p hp => k p vs _ _ (x.trans (Ext.newP _ x.sub hp)) (fresh_back x.all hp) (none_of_sub x.sub hp) upd_same w⟩⟩
theorem x_lenS (hm : c.mg "len" = none) (h : XLs c F e en ds) (hg : ∀ i, Gl (cx c (F i)) "len" := by exact fun _ => rfl) (s1 : Pl c F e [] := by exact fun _ => rfl) : XD c F (.Call (.Name "len" p) [e] [] pos) en (.int ds.length) :=
  let ⟨t, p1, d1⟩ := h; ⟨tCB (rLenS c.K) (tCons t tNil), fun i => pe_callB call_len_seq (hg i) hm PySem.boot_len (pa_cons (p1 i) pa_nil (s1 i)) (by decide) (by decide) (s1 i) rfl, fun Q s k => d1 _ s fun b vs H0' H' x e w =>
    ⟨_, _, rfl, .inl (SqL.of e), by rw [dpa_len w]; exact k _ _ _ x (.int _)⟩⟩
/-- a + b, a any list, b a datum -/
theorem n_catS (h1 : XLs c F e1 en ds) (h2 : XLs c F e2 en zs) (h : ds.length + zs.length ≤ 100000) : XN c F (.BinOp e1 .Add e2 pos) en (ds ++ zs) :=
  let ⟨t1, p1, d1⟩ := h1; let ⟨t2, p2, d2⟩ := h2; ⟨_, fun i => pe_op op_cat (p1 i) (p2 i), fun Q s k => d1 _ s fun a vs A0 A x e w => d2 _ (s.step x) fun b us B0 B y e2 w2 => by
    refine ⟨_, _, _, _, rfl, rfl, y.all _ _ e, e2, by rw [dpa_len w, dpa_len w2]; exact sz_of h, fun p hp => ?_⟩
    exact k p _ _ _ ((x.trans y).trans (Ext.newP _ y.sub hp)) (fresh_back (x.trans y).all hp) (none_of_sub y.sub hp) upd_same (dpa_app (dpa_mono y.pub w) w2)⟩
/-! arguments -/
theorem ar_nil : XAR c F [] en [] := ⟨_, fun _ => pa_nil, fun Q s k => k [] _ _ (Ext.refl s.sub) .nil⟩
theorem ar_d (h : XD c F e en d) (r : XAR c F es en args) (hs : Pl c F e es := by exact fun _ => rfl) : XAR c F (e :: es) en (.d d :: args) :=
  let ⟨_, p1, d1⟩ := h; let ⟨_, p2, d2⟩ := r; ⟨_, fun i => pa_cons (p1 i) (p2 i) (hs i), fun Q s k => d1 _ s fun v A0 A x w => d2 _ (s.step x) fun vs B0 B y q => k (v :: vs) B0 B (x.trans y) (.cons (.d (dp_mono y.pub w)) q)⟩
theorem ar_r (h : XR c F e en (.ref a)) (r : XAR c F es en args) (hs : Pl c F e es := by exact fun _ => rfl) : XAR c F (e :: es) en (.r a :: args) :=
  let ⟨_, p1, d1⟩ := h; let ⟨_, p2, d2⟩ := r; ⟨_, fun i => pa_cons (p1 i) (p2 i) (hs i), fun Q s k => d1 _ s fun A0 A x => d2 _ (s.step x) fun vs B0 B y q => k (.ref a :: vs) B0 B (x.trans y) (.cons (.r a) q)⟩
theorem ar_of (h : XA c F es en ds) : XAR c F es en (ds.map Cv.d) := let ⟨t, p, q⟩ := h; ⟨t, p, fun Q s k => q Q s fun vs A0 A x w => k vs A0 A x (dwa_cva w)⟩
/-! dicts with texts as keys -/
theorem x_key (i : Nat) {z : Str} {kvs : List (Key × Cv)} {m} (hu : c.A.units + 64 < cLine) (h : XR c F e en (.ref a)) (hi : CelIn en i a (.dct kvs)) (hf : cvV kvs (.inr z) = some (.d d)) : XD c F (.Subscript e (.Constant (.str z) m p) pos) en d := by
  obtain ⟨t, p1, d1⟩ := h
  refine ⟨tDGet t (tC (.str z)), fun q => pe_dget (by show c.A.units + 1 < cLine; omega) (p1 q) pe_str (fun _ _ => rfl), fun Q s k => d1 _ s fun I0 I x => ?_⟩
  obtain ⟨gs, h3, q⟩ := (s.step x).atD hi
  obtain ⟨v, g1, g2⟩ := q.getV hf
  cases g2 with
  | d w => exact ⟨a, v, rfl, g1 ▸ DGet.k (k := .inr z) h3, k v I0 I x w⟩
theorem r_key (i : Nat) {z : Str} {kvs : List (Key × Cv)} {m} (hu : c.A.units + 64 < cLine) (h : XR c F e en (.ref a)) (hi : CelIn en i a (.dct kvs)) (hf : cvV kvs (.inr z) = some (.r b)) : XR c F (.Subscript e (.Constant (.str z) m p) pos) en (.ref b) := by
  obtain ⟨t, p1, d1⟩ := h
  refine ⟨tDGet t (tC (.str z)), fun q => pe_dget (by show c.A.units + 1 < cLine; omega) (p1 q) pe_str (fun _ _ => rfl), fun Q s k => d1 _ s fun I0 I x => ?_⟩
  obtain ⟨gs, h3, q⟩ := (s.step x).atD hi
  obtain ⟨v, g1, g2⟩ := q.getV hf
  cases g2 with
  | r b => exact ⟨a, _, rfl, g1 ▸ DGet.k (k := .inr z) h3, k I0 I x⟩
/-- a list of references, read by place -/
theorem r_ix (i : Nat) {xs : List Cv} {n : Int} (h : XR c F e en (.ref a)) (hi : CelIn en i a (.lst xs)) (h2 : XD c F e2 en (.int n)) (hn : 0 ≤ n) (hx : xs[n.toNat]? = some (.r b)) (hs : PlainIx e2 := by exact fun _ _ => rfl) : XR c F (.Subscript e e2 pos) en (.ref b) := by
  obtain ⟨t, p1, d1⟩ := h
  obtain ⟨t2, p2, d2⟩ := h2
  refine ⟨tOp (rIxL c.K) t t2, fun i => pe_ix ix_list (p1 i) (p2 i) hs, fun Q s k => d1 _ s fun I0 I x => d2 _ (s.step x) fun v J0 J y w => ?_⟩
  cases w
  obtain ⟨gs, h3, q⟩ := ((s.step x).step y).atL hi
  obtain ⟨v, g1, g2⟩ := q.get hx
  cases g2 with
  | r b =>
    refine ⟨_, _, n, _, rfl, rfl, SqL.of h3, ?_, k J0 J (x.trans y)⟩
    have hl := (List.getElem?_eq_some_iff.mp g1).1
    unfold L2.atI ixN
    rw [if_pos hn, if_pos (by omega)]
    exact g1
end
end DL

set_option maxRecDepth 100000
set_option maxHeartbeats 4000000
namespace DL
open PySem PySem.Spec PyProof.Rows L2 Evl
variable {nn : Nat}
/-! ## contracts over cells -/
abbrev Cs : Type := List (Addr × Cl)
def CelsAt (K : PySem.W.Frag) (H0 H : Hp) (cs : Cs) : Prop := ∀ p ∈ cs, H0 p.1 = none ∧ ∃ o, H p.1 = some o ∧ ClAt K H0 o p.2
structure ExtM (cs : Cs) (H0 H H0' H' : Hp) : Prop where
  pub : Ex H0 H0'
  sub : Ex H0' H'
  all : ∀ a o, H a = some o → a ∉ cs.map (·.1) → H' a = some o
  prv : ∀ a o, H a = some o → H0 a = none → H0' a = none
/-- what the caller gets -/
def contC (K : PySem.W.Frag) (H0 H : Hp) (cs : Cs) (Q : VK) (E : XK) (o : Out) (cs' : Cs) : Prop :=
  ∀ H0' H', ExtM cs H0 H H0' H' → CelsAt K H0' H' cs' → (cs'.map (·.1)).Nodup → (cs.map (·.1) <+: cs'.map (·.1)) → (∀ p ∈ cs', p.1 ∈ cs.map (·.1) ∨ H p.1 = none) → match o with
    | .ret d => ∀ v, Dw K H0' v d → Q v H'
    | .new ds => ∀ l vs, H l = none → H0' l = none → H' l = some (.lst vs) → l ∉ cs'.map (·.1) → DwAll K H0' vs ds → Q (.ref l) H'
    | .exc C => E (.ref C) none H'
    | .raw x => Q x H'
    | .newT _ _ => True
abbrev OutC : Type := Out → Cs → Prop
def spC (K : PySem.W.Frag) (R : Cs → List Cv → OutC → Prop) : Sp := fun vs H Q E => ∃ H0 cs args M, Ex H0 H ∧ CelsAt K H0 H cs ∧ (cs.map (·.1)).Nodup ∧ CvAll K H0 vs args ∧ R cs args M ∧ ∀ o cs', M o cs' → contC K H0 H cs Q E o cs'
/-- .. that are but read -/
def spK (K : PySem.W.Frag) (R : Cs → List Cv → Out → Prop) : Sp := fun vs H Q E => ∃ H0 cs args out, Ex H0 H ∧ (∀ p ∈ cs, ∃ o, H p.1 = some o ∧ ClAt K H0 o p.2) ∧ CvAll K H0 vs args ∧ R cs args out ∧ cont K H0 H Q E out
structure FnS (P : Program) (w : World) (K : PySem.W.Frag) (mg : Str → Option Value) (base : Heap) (k : Nat) (f : Addr) (ps : List Str) (sp : Sp) : Prop where
  ex : ∃ fd, FnOk P w K mg base (L2N.CX P w) k f fd ps sp ∧ Binds K fd ps [] ∧ fdat K f = some fd
def cellOf : Sv → Option (Addr × Cl)
  | .cell a c => some (a, c)
  | _ => none
def cellsOf (en : List Sv) : Cs := en.filterMap cellOf
theorem cells_mem {en : List Sv} {p : Addr × Cl} (h : p ∈ cellsOf en) : ∃ i : Nat, en[i]? = some (Sv.cell p.1 p.2) := by
  obtain ⟨s, h1, h2⟩ := List.mem_filterMap.mp h
  cases s with
  | cell a c =>
    cases h2
    exact List.mem_iff_getElem?.mp h1
  | _ => cases h2
theorem mem_cells {en : List Sv} {i : Nat} {a : Addr} {c : Cl} (h : en[i]? = some (Sv.cell a c)) : (a, c) ∈ cellsOf en :=
  List.mem_filterMap.mpr ⟨_, List.mem_of_getElem? h, rfl⟩
theorem cells_nodup : ∀ {en : List Sv}, (∀ (i j : Nat) a c c', en[i]? = some (Sv.cell a c) → en[j]? = some (Sv.cell a c') → i = j) → ((cellsOf en).map (·.1)).Nodup
  | [], _ => List.nodup_nil
  | s :: en, h => by
    have ih := cells_nodup (en := en) fun i j a c c' e1 e2 => by
      have := h (i + 1) (j + 1) a c c' (by simpa using e1) (by simpa using e2)
      omega
    cases s with
    | cell a c =>
      show (a :: (cellsOf en).map (·.1)).Nodup
      refine List.nodup_cons.mpr ⟨fun z => ?_, ih⟩
      obtain ⟨p, hp, e⟩ := List.mem_map.mp z
      obtain ⟨i, hi⟩ := cells_mem hp
      rw [e] at hi
      have := h 0 (i + 1) a c p.2 rfl (by simpa using hi)
      omega
    | _ => exact ih
/-! ## the frame's start -/
def svOf : Cv → Sv
  | .d x => .d x
  | .r a => .v (.ref a)
def enC (N : List Str) (args : List Cv) (mk : Addr → Cl → Sv) (cs : Cs) : List Sv := (args.map svOf ++ List.replicate (N.length - args.length) Sv.no) ++ cs.map fun p => mk p.1 p.2
def minus (H : Hp) (cs : Cs) : Hp := fun a => if a ∈ cs.map (·.1) then none else H a
theorem minus_sub {H : Hp} {cs : Cs} : Ex (minus H cs) H := fun a o e => by
  unfold minus at e
  split at e
  · cases e
  · exact e
theorem enC_get {N : List Str} {args : List Cv} {mk : Addr → Cl → Sv} {cs : Cs} (hl : args.length ≤ N.length) {i : Nat} {z : Sv} (h : (enC N args mk cs)[i]? = some z) :
    z = .no ∨ (∃ a, args[i]? = some a ∧ z = svOf a) ∨ ∃ k p, cs[k]? = some p ∧ z = mk p.1 p.2 ∧ i = N.length + k := by
  unfold enC at h
  have l1 : (args.map svOf ++ List.replicate (N.length - args.length) Sv.no).length = N.length := by
    rw [List.length_append, List.length_map, List.length_replicate]
    omega
  by_cases c : i < N.length
  · rw [List.getElem?_append_left (by rw [l1]; exact c)] at h
    by_cases d : i < args.length
    · rw [List.getElem?_append_left (by rw [List.length_map]; exact d), List.getElem?_map] at h
      cases e : args[i]? with
      | none => rw [e] at h; cases h
      | some a => rw [e] at h; cases h; exact .inr (.inl ⟨a, rfl, rfl⟩)
    · rw [List.getElem?_append_right (by rw [List.length_map]; omega), List.getElem?_replicate] at h
      split at h <;> cases h
      exact .inl rfl
  · rw [List.getElem?_append_right (by rw [l1]; omega), l1, List.getElem?_map] at h
    cases e : cs[i - N.length]? with
    | none => rw [e] at h; cases h
    | some p => rw [e] at h; cases h; exact .inr (.inr ⟨i - N.length, p, e, rfl, by omega⟩)
theorem svOf_d {a : Cv} {d : Dt} (h : Sv.d d = svOf a) : a = .d d := by cases a <;> cases h <;> rfl
theorem svOf_v {a : Cv} {x : V} (h : Sv.v x = svOf a) : ∃ b, a = .r b ∧ x = .ref b := by
  cases a with
  | d y => cases h
  | r b => cases h; exact ⟨b, rfl, rfl⟩
theorem svOf_no {a : Cv} {x : Sv} (h : x = svOf a) (n1 : ∀ d, x ≠ .d d) (n2 : ∀ v, x ≠ .v v) : False := by
  cases a with
  | d y => exact n1 y h
  | r b => exact n2 _ h
theorem start_get {N : List Str} {vs : List V} {i : Nat} {v : V} (h : vs[i]? = some v) : (L2.start N vs)[i]? = some (some v) := by
  unfold L2.start
  have hi := (List.getElem?_eq_some_iff.mp h).1
  rw [List.getElem?_append_left (by simpa using hi), List.getElem?_map, h]
  rfl
theorem nodup_at {α : Type} {l : List α} (h : l.Nodup) {i j : Nat} {a : α} (h1 : l[i]? = some a) (h2 : l[j]? = some a) : i = j := by
  obtain ⟨a1, b1⟩ := List.getElem?_eq_some_iff.mp h1
  obtain ⟨a2, b2⟩ := List.getElem?_eq_some_iff.mp h2
  rcases Nat.lt_trichotomy i j with c | c | c
  · exact absurd (b1.trans b2.symm) (List.pairwise_iff_getElem.mp h i j a1 a2 c)
  · exact c
  · exact absurd (b2.trans b1.symm) (List.pairwise_iff_getElem.mp h j i a2 a1 c)
theorem sr_startC {K : PySem.W.Frag} {H0 H : Hp} {N : List Str} {vs : List V} {args : List Cv} {cs : Cs} (s : Ex H0 H) (q : CvAll K H0 vs args) (hl : args.length ≤ N.length) (ca : CelsAt K H0 H cs) (nd : (cs.map (·.1)).Nodup) :
    SR N.length K H0 (minus H cs) H0 H (L2.start N vs) (enC N args Sv.cell cs) := by
  have el := q.len
  have hz : ∀ {i : Nat} {a : Addr} {c : Cl}, (enC N args Sv.cell cs)[i]? = some (Sv.cell a c) → ∃ k, cs[k]? = some (a, c) ∧ i = N.length + k := fun {i a c} e => by
    rcases enC_get hl e with z | ⟨b, _, z⟩ | ⟨k, p, h1, h2, h3⟩
    · cases z
    · exact (svOf_no z (fun _ z => by cases z) fun _ z => by cases z).elim
    · cases h2
      exact ⟨k, h1, h3⟩
  have ho : ∀ {i : Nat} {xs : List Dt}, (enC N args Sv.cell cs)[i]? = some (Sv.own xs) → False := fun {i xs} e => by
    rcases enC_get hl e with z | ⟨b, _, z⟩ | ⟨k, p, h1, h2, h3⟩
    · cases z
    · exact svOf_no z (fun _ z => by cases z) fun _ z => by cases z
    · cases h2
  refine ⟨⟨Ex.refl _, s, minus_sub, fun _ _ _ n => n⟩, ?_, fun i d e => ?_, fun i xs e => (ho e).elim, fun i x e => ?_, fun i j xs ys l e => (ho e).elim, fun i a c e => ?_, fun i j a c c' e1 e2 => ?_, fun i j a c xs e1 e2 => (ho e2).elim, fun i a c e => ?_⟩
  · unfold L2.start
    simp [el]
    omega
  · rcases enC_get hl e with z | ⟨b, hb, z⟩ | ⟨k, p, h1, h2, h3⟩
    · cases z
    · rw [svOf_d z] at hb
      obtain ⟨v, g1, g2⟩ := q.get hb
      cases g2 with
      | d w => exact ⟨v, start_get g1, w⟩
    · cases h2
  · rcases enC_get hl e with z | ⟨b, hb, z⟩ | ⟨k, p, h1, h2, h3⟩
    · cases z
    · obtain ⟨b', rfl, rfl⟩ := svOf_v z
      obtain ⟨v, g1, g2⟩ := q.get hb
      cases g2 with
      | r b => exact start_get g1
    · cases h2
  · obtain ⟨k, h1, _⟩ := hz e
    have hm := List.mem_of_getElem? h1
    obtain ⟨g1, o, g2, g3⟩ := ca _ hm
    refine ⟨?_, g1, o, g2, g3⟩
    unfold minus
    rw [if_pos (List.mem_map.mpr ⟨_, hm, rfl⟩)]
  · obtain ⟨k, h1, e1'⟩ := hz e1
    obtain ⟨k', h2, e2'⟩ := hz e2
    have : k = k' := nodup_at nd (a := a) (by rw [List.getElem?_map, h1] <;> rfl) (by rw [List.getElem?_map, h2] <;> rfl)
    omega
  · rcases enC_get hl e with z | ⟨b, _, z⟩ | ⟨k, p, h1, h2, h3⟩
    · cases z
    · exact (svOf_no z (fun _ z => by cases z) fun _ z => by cases z).elim
    · cases h2
theorem sr_startK {K : PySem.W.Frag} {H0 H : Hp} {N : List Str} {vs : List V} {args : List Cv} {cs : Cs} (s : Ex H0 H) (q : CvAll K H0 vs args) (hl : args.length ≤ N.length) (ca : ∀ p ∈ cs, ∃ o, H p.1 = some o ∧ ClAt K H0 o p.2) :
    SR N.length K H0 H H0 H (L2.start N vs) (enC N args Sv.rd cs) := by
  have el := q.len
  have hz : ∀ {i : Nat} {a : Addr} {c : Cl}, (enC N args Sv.rd cs)[i]? = some (Sv.cell a c) → False := fun {i a c} e => by
    rcases enC_get hl e with z | ⟨b, _, z⟩ | ⟨k, p, h1, h2, h3⟩
    · cases z
    · exact svOf_no z (fun _ z => by cases z) fun _ z => by cases z
    · cases h2
  have ho : ∀ {i : Nat} {xs : List Dt}, (enC N args Sv.rd cs)[i]? = some (Sv.own xs) → False := fun {i xs} e => by
    rcases enC_get hl e with z | ⟨b, _, z⟩ | ⟨k, p, h1, h2, h3⟩
    · cases z
    · exact svOf_no z (fun _ z => by cases z) fun _ z => by cases z
    · cases h2
  refine ⟨Ext.refl s, ?_, fun i d e => ?_, fun i xs e => (ho e).elim, fun i x e => ?_, fun i j xs ys l e => (ho e).elim, fun i a c e => (hz e).elim, fun i j a c c' e1 e2 => (hz e1).elim, fun i j a c xs e1 e2 => (ho e2).elim, fun i a c e => ?_⟩
  · unfold L2.start
    simp [el]
    omega
  · rcases enC_get hl e with z | ⟨b, hb, z⟩ | ⟨k, p, h1, h2, h3⟩
    · cases z
    · rw [svOf_d z] at hb
      obtain ⟨v, g1, g2⟩ := q.get hb
      cases g2 with
      | d w => exact ⟨v, start_get g1, w⟩
    · cases h2
  · rcases enC_get hl e with z | ⟨b, hb, z⟩ | ⟨k, p, h1, h2, h3⟩
    · cases z
    · obtain ⟨b', rfl, rfl⟩ := svOf_v z
      obtain ⟨v, g1, g2⟩ := q.get hb
      cases g2 with
      | r b => exact start_get g1
    · cases h2
  · rcases enC_get hl e with z | ⟨b, _, z⟩ | ⟨k, p, h1, h2, h3⟩
    · cases z
    · exact (svOf_no z (fun _ z => by cases z) fun _ z => by cases z).elim
    · cases h2
      exact ca _ (List.mem_of_getElem? h1)
/-! ## a def keeps its contract -/
/-- the ends of a body: what M says of the outcome and the cells -/
abbrev fnPoC (cs : Cs) (M : OutC) : Po :=
  { nx := fun en => M (.ret .none) (cellsOf en) ∧ cs.map (·.1) <+: (cellsOf en).map (·.1),
    rt := fun o en => match o with
      | .newT _ _ => False
      | .exc _ => False
      | o => M o (cellsOf en) ∧ cs.map (·.1) <+: (cellsOf en).map (·.1),
    ex := fun C en => M (.exc C) (cellsOf en) ∧ cs.map (·.1) <+: (cellsOf en).map (·.1) }
section
variable {P : Program} {w : World} {K : PySem.W.Frag} {mg : Str → Option Value} {base : Heap} {name qual : Str} {st : Stmt} {f : Addr} {fd : FuncData} {N ps : List Str} {k : Nat}
theorem frame_end {G0 H0 H I0 I : Hp} {σ : L2.St} {en : List Sv} {cs : Cs} (s2 : SR nn K G0 (minus H cs) I0 I σ en) (e : Ex H0 I0) (hg : ∀ a o, H a = some o → H0 a = none → G0 a = none) (pre : cs.map (·.1) <+: (cellsOf en).map (·.1)) :
    ExtM cs H0 H I0 I ∧ CelsAt K I0 I (cellsOf en) ∧ ((cellsOf en).map (·.1)).Nodup ∧ ∀ p ∈ cellsOf en, p.1 ∈ cs.map (·.1) ∨ H p.1 = none := by
  have ce : CelsAt K I0 I (cellsOf en) := fun p hp => by
    obtain ⟨i, hi⟩ := cells_mem hp
    obtain ⟨_, h2, h3⟩ := s2.cel i _ _ hi
    exact ⟨h2, h3⟩
  refine ⟨⟨e, s2.sub, fun a o h n => s2.ext.all a o ?_, fun a o h n => ?_⟩, ce, cells_nodup s2.cdis, fun p hp => ?_⟩
  · unfold minus
    rw [if_neg n]
    exact h
  · by_cases c : a ∈ cs.map (·.1)
    · obtain ⟨t, ht⟩ := pre
      have : a ∈ (cellsOf en).map (·.1) := by
        rw [← ht]
        exact List.mem_append_left _ c
      obtain ⟨p, hp, rfl⟩ := List.mem_map.mp this
      exact (ce p hp).1
    · refine s2.ext.prv a o ?_ (hg a o h n)
      unfold minus
      rw [if_neg c]
      exact h
  · obtain ⟨i, hi⟩ := cells_mem hp
    obtain ⟨h1, _⟩ := s2.cel i _ _ hi
    by_cases c : p.1 ∈ cs.map (·.1)
    · exact .inl c
    · unfold minus at h1
      rw [if_neg c] at h1
      exact .inr h1
theorem fn_mkC {R : Cs → List Cv → OutC → Prop} (F : Fun K name qual st f fd) (S : FnScope N ps (defScope st)) (hb : Binds K fd ps []) (len : ∀ cs as M, R cs as M → as.length = ps.length)
    (body : ∀ (cdv : Value) (A : Around) (outer : List Env) (s : Shared) (H : Hp) (E : XK) (cs : Cs) (as : List Cv) (M : OutC), Room k (A.deeper (envOfC qual (defScope st) s.heap.objs.size f cdv)) → R cs as M →
      (∀ i, L2N.Takes (cx (dc P w K mg base N qual (defScope st) f cdv A s) (dv P w qual (defScope st) f cdv A outer s H E i)) (fnW E)) →
      (∀ i, PassesOwn (model P w) (A.deeper (envOfC qual (defScope st) s.heap.objs.size f cdv)) (dv P w qual (defScope st) f cdv A outer s H E i).env (dv P w qual (defScope st) f cdv A outer s H E i).xe) →
      XB (dc P w K mg base N qual (defScope st) f cdv A s) (dv P w qual (defScope st) f cdv A outer s H E) (fnW E) (defBody st) (enC N as Sv.cell cs) (fnPoC cs M)) : FnS P w K mg base (k + 1) f ps (spC K R) := by
  refine ⟨⟨fd, okN F S (fun vs H Q E h => ?_) (fun cdv A outer s H vs Q E hr h => ?_), hb, fun_fdat F⟩⟩
  · obtain ⟨H0, cs, as, M, s, ca, nd, q, r, k⟩ := h
    rw [q.len]
    exact len _ _ _ r
  · obtain ⟨H0, cs, as, M, sub, ca, nd, q, r, kk⟩ := h
    have hps : ps.length ≤ N.length := by
      have z := congrArg List.length S.pre
      rw [List.length_take] at z
      omega
    obtain ⟨t, p1, d1⟩ := body cdv A outer s H E cs as M hr r (fun _ => L2N.takes_of rfl rfl rfl rfl) (fun _ => passes_of (X := cx (dc P w K mg base N qual (defScope st) f cdv A s) (dv P w qual (defScope st) f cdv A outer s H E ())) rfl)
    refine ⟨t, p1 (), d1 (sr_startC sub q (by rw [len _ _ _ r]; exact hps) ca nd) ⟨fun I0 I σ en e s2 h => ?_, fun I0 I σ en e s2 h => h.elim, fun I0 I σ en e s2 h => h.elim, fun v I0 I σ en d e s2 w h => ?_, fun l vs I0 I σ en ds e s2 n n0 e2 nc w h => ?_, fun C I0 I σ en e s2 h => ?_, fun p l vs us I0 I σ en ds rs e s2 n n0 e2 _ w sq uw h => h.elim, fun x I0 I σ en e s2 h => ?_⟩⟩
    · obtain ⟨h1, h2⟩ := h
      obtain ⟨f1, f2, f3, f4⟩ := frame_end s2 e (fun a o h n => n) h2
      exact kk _ _ h1 I0 I f1 f2 f3 h2 f4 .non .non
    · obtain ⟨h1, h2⟩ := h
      obtain ⟨f1, f2, f3, f4⟩ := frame_end s2 e (fun a o h n => n) h2
      exact kk _ _ h1 I0 I f1 f2 f3 h2 f4 v w
    · obtain ⟨h1, h2⟩ := h
      obtain ⟨f1, f2, f3, f4⟩ := frame_end s2 e (fun a o h n => n) h2
      have hn : l ∉ (cellsOf en).map (·.1) := fun z => by
        obtain ⟨p, hp, rfl⟩ := List.mem_map.mp z
        obtain ⟨i, hi⟩ := cells_mem hp
        exact nc i _ hi
      have hH : H l = none := by
        unfold minus at n
        rw [if_neg] at n
        · exact n
        · intro z
          obtain ⟨t, ht⟩ := h2
          exact hn (by rw [← ht]; exact List.mem_append_left _ z)
      exact kk _ _ h1 I0 I f1 f2 f3 h2 f4 l vs hH n0 e2 hn w
    · obtain ⟨h1, h2⟩ := h
      obtain ⟨f1, f2, f3, f4⟩ := frame_end s2 e (fun a o h n => n) h2
      exact kk _ _ h1 I0 I f1 f2 f3 h2 f4
    · obtain ⟨h1, h2⟩ := h
      obtain ⟨f1, f2, f3, f4⟩ := frame_end s2 e (fun a o h n => n) h2
      exact kk _ _ h1 I0 I f1 f2 f3 h2 f4
theorem fn_mkK {R : Cs → List Cv → Out → Prop} (F : Fun K name qual st f fd) (S : FnScope N ps (defScope st)) (hb : Binds K fd ps []) (len : ∀ cs as o, R cs as o → as.length = ps.length)
    (body : ∀ (cdv : Value) (A : Around) (outer : List Env) (s : Shared) (H : Hp) (E : XK) (cs : Cs) (as : List Cv) (o : Out), Room k (A.deeper (envOfC qual (defScope st) s.heap.objs.size f cdv)) → R cs as o →
      (∀ i, L2N.Takes (cx (dc P w K mg base N qual (defScope st) f cdv A s) (dv P w qual (defScope st) f cdv A outer s H E i)) (fnW E)) →
      (∀ i, PassesOwn (model P w) (A.deeper (envOfC qual (defScope st) s.heap.objs.size f cdv)) (dv P w qual (defScope st) f cdv A outer s H E i).env (dv P w qual (defScope st) f cdv A outer s H E i).xe) →
      XB (dc P w K mg base N qual (defScope st) f cdv A s) (dv P w qual (defScope st) f cdv A outer s H E) (fnW E) (defBody st) (enC N as Sv.rd cs) (fnPo o)) : FnS P w K mg base (k + 1) f ps (spK K R) := by
  refine ⟨⟨fd, okN F S (fun vs H Q E h => ?_) (fun cdv A outer s H vs Q E hr h => ?_), hb, fun_fdat F⟩⟩
  · obtain ⟨H0, cs, as, o, s, ca, q, r, k⟩ := h
    rw [q.len]
    exact len _ _ _ r
  · obtain ⟨H0, cs, as, o, sub, ca, q, r, kk⟩ := h
    have hps : ps.length ≤ N.length := by
      have z := congrArg List.length S.pre
      rw [List.length_take] at z
      omega
    obtain ⟨t, p1, d1⟩ := body cdv A outer s H E cs as o hr r (fun _ => L2N.takes_of rfl rfl rfl rfl) (fun _ => passes_of (X := cx (dc P w K mg base N qual (defScope st) f cdv A s) (dv P w qual (defScope st) f cdv A outer s H E ())) rfl)
    refine ⟨t, p1 (), d1 (sr_startK sub q (by rw [len _ _ _ r]; exact hps) ca) ⟨fun I0 I σ en e s2 h => ?_, fun I0 I σ en e s2 h => h.elim, fun I0 I σ en e s2 h => h.elim, fun v I0 I σ en d e s2 w h => ?_, fun l vs I0 I σ en ds e s2 n n0 e2 _ w h => ?_, fun C I0 I σ en e s2 h => ?_, fun p l vs us I0 I σ en ds rs e s2 n n0 e2 _ w sq uw h => ?_, fun x I0 I σ en e s2 h => ?_⟩⟩
    · have h2 : o = .ret .none := h
      subst h2
      exact kk .non I0 I s2.ext .non
    · have h2 : Out.ret d = o := h
      subst h2
      exact kk v I0 I s2.ext w
    · have h2 : Out.new ds = o := h
      subst h2
      exact kk l vs I0 I s2.ext n n0 e2 w
    · have h2 : o = .exc C := h
      subst h2
      exact kk I0 I s2.ext
    · have h2 : Out.newT ds rs = o := h
      subst h2
      exact kk p l vs us I0 I s2.ext n n0 e2 w sq uw
    · have h2 : Out.raw x = o := h
      subst h2
      exact kk I0 I s2.ext
end
/-! ## the caller's cells behind a call -/
def putL : List Sv → List Nat → Cs → List Sv
  | en, i :: is, p :: ps => putL (en.set i (.cell p.1 p.2)) is ps
  | en, [], ps => en ++ ps.map fun p => .cell p.1 p.2
  | en, _ :: _, [] => en
def posL (n : Nat) : List Nat → Nat → Nat
  | [], k => n + k
  | i :: _, 0 => i
  | _ :: is, k + 1 => posL n is k
theorem putL_get : ∀ {idx : List Nat} {ps : Cs} {en : List Sv} {m : Nat} {s : Sv}, (putL en idx ps)[m]? = some s →
    (en[m]? = some s ∧ m ∉ idx.take ps.length) ∨ ∃ k p, ps[k]? = some p ∧ s = .cell p.1 p.2 ∧ m = posL en.length idx k
  | i :: is, p :: ps, en, m, s, h => by
    have h2 : (putL (en.set i (.cell p.1 p.2)) is ps)[m]? = some s := h
    rcases putL_get h2 with ⟨h3, h4⟩ | ⟨k, r, h3, h4, h5⟩
    · rcases set_get h3 with ⟨rfl, h6⟩ | ⟨h6, h7⟩
      · exact .inr ⟨0, p, rfl, h6, rfl⟩
      · refine .inl ⟨h7, ?_⟩
        rw [List.length_cons, List.take_succ_cons, List.mem_cons, not_or]
        exact ⟨fun z => h6 z.symm, h4⟩
    · refine .inr ⟨k + 1, r, by simpa using h3, h4, ?_⟩
      rw [List.length_set] at h5
      exact h5
  | [], ps, en, m, s, h => by
    have h2 : (en ++ ps.map fun p => Sv.cell p.1 p.2)[m]? = some s := h
    by_cases c : m < en.length
    · rw [List.getElem?_append_left c] at h2
      exact .inl ⟨h2, by simp⟩
    · rw [List.getElem?_append_right (by omega), List.getElem?_map] at h2
      cases e : ps[m - en.length]? with
      | none => rw [e] at h2; cases h2
      | some p =>
        rw [e] at h2
        cases h2
        exact .inr ⟨m - en.length, p, e, rfl, by show m = en.length + (m - en.length); omega⟩
  | _ :: _, [], en, m, s, h => .inl ⟨h, by simp⟩
theorem pre_len {cs cs' : Cs} (h : cs.map (·.1) <+: cs'.map (·.1)) : cs.length ≤ cs'.length := by
  have := h.length_le
  simpa using this
section
variable {K : PySem.W.Frag} {G0 G H0 H H0' H' : Hp} {σ : L2.St} {en : List Sv} {idx : List Nat} {cs cs' : Cs}
abbrev Pick (en : List Sv) (idx : List Nat) (cs : Cs) : Prop := idx.map (fun i => en[i]?) = cs.map fun p => some (Sv.cell p.1 p.2)
theorem pick_get (h : Pick en idx cs) {k : Nat} {p : Addr × Cl} (e : cs[k]? = some p) : ∃ i, idx[k]? = some i ∧ en[i]? = some (Sv.cell p.1 p.2) := by
  have z := congrArg (·[k]?) h
  simp only [List.getElem?_map, e] at z
  cases q : idx[k]? with
  | none => rw [q] at z; cases z
  | some i => rw [q] at z; exact ⟨i, rfl, Option.some.inj z⟩
theorem pick_mem (h : Pick en idx cs) {a : Addr} (e : a ∈ cs.map (·.1)) : ∃ i c, i ∈ idx ∧ en[i]? = some (Sv.cell a c) := by
  obtain ⟨p, hp, rfl⟩ := List.mem_map.mp e
  obtain ⟨k, hk⟩ := List.mem_iff_getElem?.mp hp
  obtain ⟨i, h1, h2⟩ := pick_get h hk
  exact ⟨i, _, List.mem_of_getElem? h1, h2⟩
theorem SR.pick (r : SR nn K G0 G H0 H σ en) (h : Pick en idx cs) (hn : idx.Nodup) : CelsAt K H0 H cs ∧ (cs.map (·.1)).Nodup := by
  refine ⟨fun p hp => ?_, ?_⟩
  · obtain ⟨k, hk⟩ := List.mem_iff_getElem?.mp hp
    obtain ⟨i, h1, h2⟩ := pick_get h hk
    obtain ⟨_, g2, g3⟩ := r.cel i _ _ h2
    exact ⟨g2, g3⟩
  · refine List.pairwise_iff_getElem.mpr fun i j hi hj hij e => ?_
    rw [List.length_map] at hi hj
    rw [List.getElem_map, List.getElem_map] at e
    obtain ⟨m1, a1, b1⟩ := pick_get h (List.getElem?_eq_getElem hi)
    obtain ⟨m2, a2, b2⟩ := pick_get h (List.getElem?_eq_getElem hj)
    rw [e] at b1
    have hm := r.cdis _ _ _ _ _ b1 b2
    subst hm
    have := nodup_at hn a1 a2
    omega
theorem SR.callC (r : SR nn K G0 G H0 H σ en) (hp : Pick en idx cs) (x : ExtM cs H0 H H0' H') (ca : CelsAt K H0' H' cs') (nd : (cs'.map (·.1)).Nodup) (pre : cs.map (·.1) <+: cs'.map (·.1)) (ad : ∀ p ∈ cs', p.1 ∈ cs.map (·.1) ∨ H p.1 = none) :
    SR nn K G0 G H0' H' σ (putL en idx cs') := by
  have il : idx.length = cs.length := by
    have := congrArg List.length hp
    simpa using this
  have get : ∀ {m : Nat} {s : Sv}, (putL en idx cs')[m]? = some s → (en[m]? = some s ∧ m ∉ idx) ∨ ∃ k p, cs'[k]? = some p ∧ s = .cell p.1 p.2 ∧ m = posL en.length idx k := fun {m s} h => by
    rcases putL_get h with ⟨h1, h2⟩ | h1
    · rw [List.take_of_length_le (by rw [il]; exact pre_len pre)] at h2
      exact .inl ⟨h1, h2⟩
    · exact .inr h1
  have old : ∀ {m : Nat} {a : Addr} {c : Cl}, en[m]? = some (Sv.cell a c) → m ∉ idx → a ∉ cs.map (·.1) := fun {m a c} h hn z => by
    obtain ⟨i, c', h1, h2⟩ := pick_mem hp z
    exact hn (r.cdis _ _ _ _ _ h h2 ▸ h1)
  have csG : ∀ {a : Addr}, a ∈ cs.map (·.1) → G a = none := fun {a} h => by
    obtain ⟨i, c', _, h2⟩ := pick_mem hp h
    exact (r.cel i _ _ h2).1
  have keep : ∀ {m : Nat} {s : Sv}, (putL en idx cs')[m]? = some s → (∀ a c, s ≠ .cell a c) → en[m]? = some s := fun {m s} h n => by
    rcases get h with ⟨h1, _⟩ | ⟨k, p, _, h2, _⟩
    · exact h1
    · exact absurd h2 (n _ _)
  have own_no : ∀ {m : Nat} {ys : List Dt} {l : Addr}, en[m]? = some (Sv.own ys) → σ[m]? = some (some (V.ref l)) → l ∉ cs.map (·.1) := fun {m ys l} h1 h2 z => by
    obtain ⟨i, c', _, h3⟩ := pick_mem hp z
    exact r.cown _ _ _ _ _ h3 h1 h2
  have allH : ∀ {a : Addr} {o : HO}, G a = some o → H' a = some o := fun {a o} h => x.all a o (r.ext.all a o h) fun z => by
    rw [csG z] at h
    cases h
  refine ⟨⟨r.ext.pub.trans x.pub, x.sub, fun a o h => allH h, fun a o h n => x.prv a o (r.ext.all a o h) (r.ext.prv a o h n)⟩, r.len, fun i d e => ?_, fun i xs e => ?_, fun i y e => r.raw i y (keep e fun _ _ z => by cases z), fun i j xs ys l e1 e2 => r.dis i j xs ys l (keep e1 fun _ _ z => by cases z) (keep e2 fun _ _ z => by cases z), fun i a c e => ?_, fun i j a c c' e1 e2 => ?_, fun i j a c xs e1 e2 e3 => ?_, fun i a c e => ?_⟩
  · obtain ⟨v, h1, h2⟩ := r.dat i d (keep e fun _ _ z => by cases z)
    exact ⟨v, h1, dp_mono x.pub h2⟩
  · have e0 := keep e fun _ _ z => by cases z
    obtain ⟨l, vs, h1, h2, h3, h4, h5⟩ := r.own i xs e0
    exact ⟨l, vs, h1, h2, x.prv _ _ h4 h3, x.all _ _ h4 (own_no e0 h1), dpa_mono x.pub h5⟩
  · rcases get e with ⟨h1, h2⟩ | ⟨k, p, h1, h2, _⟩
    · obtain ⟨g1, g2, o, g3, g4⟩ := r.cel i a c h1
      exact ⟨g1, x.prv _ _ g3 g2, o, x.all _ _ g3 (old h1 h2), g4.mono x.pub⟩
    · cases h2
      have hm := List.mem_of_getElem? h1
      obtain ⟨g2, g3⟩ := ca _ hm
      refine ⟨?_, g2, g3⟩
      rcases ad _ hm with z | z
      · exact csG z
      · exact fresh_back r.ext.all z
  · rcases get e1 with ⟨h1, h2⟩ | ⟨k, p, h1, h2, h3⟩
    · rcases get e2 with ⟨g1, g2⟩ | ⟨k', p', g1, g2, g3⟩
      · exact r.cdis i j a c c' h1 g1
      · cases g2
        obtain ⟨_, _, o, g4, _⟩ := r.cel i _ _ h1
        rcases ad _ (List.mem_of_getElem? g1) with z | z
        · exact absurd z (old h1 h2)
        · rw [z] at g4
          cases g4
    · rcases get e2 with ⟨g1, g2⟩ | ⟨k', p', g1, g2, g3⟩
      · cases h2
        obtain ⟨_, _, o, g4, _⟩ := r.cel j _ _ g1
        rcases ad _ (List.mem_of_getElem? h1) with z | z
        · exact absurd z (old g1 g2)
        · rw [z] at g4
          cases g4
      · have ek : k = k' := by
          cases h2
          have e5 : p.1 = p'.1 := by injection g2
          exact nodup_at nd (a := p.1) (by rw [List.getElem?_map, h1] <;> rfl) (by rw [List.getElem?_map, g1, e5] <;> rfl)
        rw [h3, g3, ek]
  · have e0 := keep e2 fun _ _ z => by cases z
    rcases get e1 with ⟨h1, h2⟩ | ⟨k, p, h1, h2, h3⟩
    · exact r.cown i j a c xs h1 e0 e3
    · cases h2
      rcases ad _ (List.mem_of_getElem? h1) with z | z
      · exact own_no e0 e3 z
      · obtain ⟨l, vs, g1, _, _, g4, _⟩ := r.own j xs e0
        rw [e3] at g1
        cases g1
        rw [z] at g4
        cases g4
  · obtain ⟨o, h1, h2⟩ := r.rdc i a c (keep e fun _ _ z => by cases z)
    exact ⟨o, h1, h2.mono x.pub⟩
end
end DL

set_option maxRecDepth 100000
set_option maxHeartbeats 4000000
namespace DL
open PySem PySem.Spec PyProof.Rows L2 Evl
variable {nn : Nat}
/-! ## expressions that change cells -/
structure NewL (K : PySem.W.Frag) (G H0 H : Hp) (σ : L2.St) (en : List Sv) (l : Addr) (vs : List V) (ds : List Dt) : Prop where
  g : G l = none
  p : H0 l = none
  h : H l = some (.lst vs)
  w : DwAll K H0 vs ds
  o : ∀ (j : Nat) ys, en[j]? = some (Sv.own ys) → σ[j]? ≠ some (some (V.ref l))
  c : ∀ (j : Nat) c, en[j]? ≠ some (Sv.cell l c)
def OutAt (K : PySem.W.Frag) (G H0 H : Hp) (σ : L2.St) (en : List Sv) : Out → V → Prop
  | .ret d, v => Dw K H0 v d
  | .new ds, v => ∃ l vs, v = .ref l ∧ NewL K G H0 H σ en l vs ds
  | .raw x, v => v = x
  | .exc _, _ => False
  | .newT _ _, _ => False
def DG (nn : Nat) (K : PySem.W.Frag) (W : WX) (t : TE) (en : List Sv) (M : Out → List Sv → Prop) : Prop := ∀ {G0 G H0 H : Hp} {σ : L2.St} (Q : VK), SR nn K G0 G H0 H σ en →
  (∀ o v H0' H' en', M o en' → Ex H0 H0' → SR nn K G0 G H0' H' σ en' → OutAt K G H0' H' σ en' o v → Q v H') →
  (∀ C H0' H' en', M (.exc C) en' → Ex H0 H0' → SR nn K G0 G H0' H' σ en' → W (.ref C) none σ H') → t σ H Q
def DAs (nn : Nat) (K : PySem.W.Frag) (W : WX) (t : TA) (en : List Sv) (M : List Cv → List Sv → Prop) (X : Addr → List Sv → Prop) : Prop := ∀ {G0 G H0 H : Hp} {σ : L2.St} (Q : List V → Hp → Prop), SR nn K G0 G H0 H σ en →
  (∀ as vs H0' H' en', M as en' → Ex H0 H0' → SR nn K G0 G H0' H' σ en' → CvAll K H0' vs as → Q vs H') →
  (∀ C H0' H' en', X C en' → Ex H0 H0' → SR nn K G0 G H0' H' σ en' → W (.ref C) none σ H') → t σ H Q
def DTG (nn : Nat) (K : PySem.W.Frag) (t : TT) (en : List Sv) (M : Bool → List Sv → Prop) : Prop := ∀ {G0 G H0 H : Hp} {σ : L2.St} (Q : Bool → Hp → Prop), SR nn K G0 G H0 H σ en →
  (∀ b H0' H' en', M b en' → Ex H0 H0' → SR nn K G0 G H0' H' σ en' → Q b H') → t σ H Q
section
variable (c : Fx) {ι : Type} (F : ι → Vr) (W : WX)
def XG (e : Expr) (en : List Sv) (M : Out → List Sv → Prop) : Prop := DG c.N.length c.K W (uE c F e) en M
def XAs (es : List Expr) (en : List Sv) (M : List Cv → List Sv → Prop) (X : Addr → List Sv → Prop) : Prop := DAs c.N.length c.K W (uA c F es) en M X
def XTG (e : Expr) (en : List Sv) (M : Bool → List Sv → Prop) : Prop := DTG c.N.length c.K (uT c F e) en M
def uW (e : Expr) : TT := fun σ H Q => ∃ t, (∀ i, PW (cx c (F i)) e t) ∧ t σ H Q
def XWG (e : Expr) (en : List Sv) (M : Bool → List Sv → Prop) : Prop := DTG c.N.length c.K (uW c F e) en M
end
section
variable {K : PySem.W.Frag} {G0 G H0 H H0' H' : Hp} {σ : L2.St} {en : List Sv} {l : Addr} {vs : List V} {ds : List Dt}
theorem SR.fresh_own (r : SR nn K G0 G H0 H σ en) (n : H l = none) (j : Nat) (ys : List Dt) (e : en[j]? = some (Sv.own ys)) : σ[j]? ≠ some (some (V.ref l)) := fun z => by
  obtain ⟨l2, us, a1, a2, a3, a4, a5⟩ := r.own j ys e
  rw [z] at a1
  cases a1
  rw [n] at a4
  cases a4
theorem NewL.fresh (r : SR nn K G0 G H0 H σ en) (n : H l = none) (n0 : H0' l = none) (e : H' l = some (.lst vs)) (w : DwAll K H0' vs ds) : NewL K G H0' H' σ en l vs ds :=
  ⟨fresh_back r.ext.all n, n0, e, w, fun j ys q => r.fresh_own n j ys q, fun j c => r.fresh_cell n j c⟩
/-- a new list goes public -/
theorem SR.openN (r : SR nn K G0 G H0 H σ en) (h : NewL K G H0 H σ en l vs ds) : SR nn K G0 G (upd H0 l (.lst vs)) H σ en ∧ Dw K (upd H0 l (.lst vs)) (.ref l) (.list ds) := by
  have up : Ex H0 (upd H0 l (.lst vs)) := Ex.new h.p
  refine ⟨⟨r.ext.open_ h.g h.p h.h, r.len, fun i d e => ?_, fun i ys e => ?_, r.raw, r.dis, fun i b d e => ?_, r.cdis, r.cown, fun i b d e => ?_⟩, .lst upd_same (dpa_mono up h.w)⟩
  · obtain ⟨v, b1, b2⟩ := r.dat i d e
    exact ⟨v, b1, dp_mono up b2⟩
  · obtain ⟨l2, us, b1, b2, b3, b4, b5⟩ := r.own i ys e
    have ne : l2 ≠ l := fun z => by
      subst z
      exact h.o i ys e b1
    exact ⟨l2, us, b1, b2, by rw [upd_ne ne]; exact b3, b4, dpa_mono up b5⟩
  · obtain ⟨h1, h2, o, h3, h4⟩ := r.cel i b d e
    have ne : b ≠ l := fun z => by
      subst z
      exact h.c i d e
    exact ⟨h1, by rw [upd_ne ne]; exact h2, o, h3, h4.mono up⟩
  · obtain ⟨o, g, w⟩ := r.rdc i b d e
    exact ⟨o, g, w.mono up⟩
/-- .. becomes a cell, behind -/
theorem SR.cellN (r : SR nn K G0 G H0 H σ en) {cs : List Cv} (h1 : G l = none) (h2 : H0 l = none) (h3 : H l = some (.lst vs)) (w : CvAll K H0 vs cs) (ho : ∀ (j : Nat) ys, en[j]? = some (Sv.own ys) → σ[j]? ≠ some (some (V.ref l))) (hc : ∀ (j : Nat) c, en[j]? ≠ some (Sv.cell l c)) : SR nn K G0 G H0 H σ (en ++ [Sv.cell l (.lst cs)]) := by
  have z : ∀ {m : Nat} {s : Sv}, (en ++ [Sv.cell l (.lst cs)])[m]? = some s → en[m]? = some s ∨ (m = en.length ∧ s = .cell l (.lst cs)) := fun {m s} q => by
    rcases Nat.lt_or_ge m en.length with h | h
    · rw [List.getElem?_append_left h] at q
      exact .inl q
    · rw [List.getElem?_append_right h] at q
      match k : m - en.length, q with
      | 0, q => exact .inr ⟨by omega, (Option.some.inj q).symm⟩
      | k + 1, q => simp at q
  refine ⟨r.ext, r.len, fun i d e => r.dat i d ((z e).resolve_right fun w => by cases w.2), fun i ys e => r.own i ys ((z e).resolve_right fun w => by cases w.2), fun i x e => r.raw i x ((z e).resolve_right fun w => by cases w.2), fun i j xs ys m e1 e2 => r.dis i j xs ys m ((z e1).resolve_right fun w => by cases w.2) ((z e2).resolve_right fun w => by cases w.2), fun i b d e => ?_, fun i j b d d' e1 e2 => ?_, fun i j b d ys e1 e2 e3 => ?_, fun i b d e => r.rdc i b d ((z e).resolve_right fun w => by cases w.2)⟩
  · rcases z e with w2 | ⟨_, w2⟩
    · exact r.cel i b d w2
    · cases w2
      exact ⟨h1, h2, _, h3, .lst w⟩
  · rcases z e1 with w1 | ⟨q1, w1⟩
    · rcases z e2 with w2 | ⟨q2, w2⟩
      · exact r.cdis i j b d d' w1 w2
      · cases w2
        exact absurd w1 (hc i d)
    · rcases z e2 with w2 | ⟨q2, w2⟩
      · cases w1
        exact absurd w2 (hc j d')
      · rw [q1, q2]
  · have u2 := (z e2).resolve_right fun w => by cases w.2
    rcases z e1 with w1 | ⟨_, w1⟩
    · exact r.cown i j b d ys w1 u2 e3
    · cases w1
      exact ho j ys u2 e3
end
section
variable {c : Fx} {ι : Type} {F : ι → Vr} {W : WX} {en en1 : List Sv} {e e1 e2 e3 o : Expr} {es : List Expr} {a b d : Dt} {ds as : List Dt} {pos p p2 : Pos} {x : Str} {k j : Nat} {P : Po} {st : Stmt} {sts sts2 : List Stmt} {C : Addr} {M N : Out → List Sv → Prop}
theorem XG.mk {t : TE} (p1 : ∀ i, PE (cx c (F i)) e t) (d : DG c.N.length c.K W t en M) : XG c F W e en M := fun Q s k kx => ⟨t, p1, d Q s k kx⟩
theorem XG.imp (h : XG c F W e en M) (q : ∀ o en', M o en' → N o en') : XG c F W e en N := fun Q s k kx => h Q s (fun o v A0 A en' m => k o v A0 A en' (q _ _ m)) fun C A0 A en' m => kx C A0 A en' (q _ _ m)
theorem g_d (h : XD c F e en d) : XG c F W e en (fun o en' => o = .ret d ∧ en' = en) := fun Q s k _ => h.can Q s fun v A0 A x w => k (.ret d) v A0 A en ⟨rfl, rfl⟩ x.pub (s.step x) w
theorem g_n (h : XN c F e en ds) : XG c F W e en (fun o en' => o = .new ds ∧ en' = en) :=
  let ⟨t, p1, d1⟩ := h
  XG.mk p1 fun Q s k _ => d1 Q s fun l vs A0 A x n n0 e w => k (.new ds) (.ref l) A0 A en ⟨rfl, rfl⟩ x.pub (s.step x) ⟨l, vs, rfl, NewL.fresh s n n0 e w⟩
theorem g_r {v : V} (h : XR c F e en v) : XG c F W e en (fun o en' => o = .raw v ∧ en' = en) :=
  let ⟨t, p1, d1⟩ := h
  XG.mk p1 fun Q s k _ => d1 Q s fun A0 A x => k (.raw v) v A0 A en ⟨rfl, rfl⟩ x.pub (s.step x) rfl
theorem g_x (h : XE c F W e en C) : XG c F W e en (fun o en' => o = .exc C ∧ en' = en) :=
  let ⟨t, p1, d1⟩ := h
  XG.mk p1 fun Q s _ kx => d1 Q s fun A0 A x => kx C A0 A en ⟨rfl, rfl⟩ x.pub (s.step x)
def opn : Out → Out
  | .new ds => .ret (.list ds)
  | o => o
/-- a new list goes public -/
theorem g_opn (h : XG c F W e en M) (q : ∀ o en', M o en' → N (opn o) en') : XG c F W e en N := fun Q s k kx => h Q s (fun o v A0 A en' m x s2 w => by
  cases o with
  | new ds =>
    obtain ⟨l, vs, rfl, n⟩ := w
    obtain ⟨s3, w3⟩ := s2.openN n
    exact k _ _ _ _ _ (q _ _ m) (x.trans (Ex.new n.p)) s3 w3
  | ret d => exact k _ _ _ _ _ (q _ _ m) x s2 w
  | raw y => exact k _ _ _ _ _ (q _ _ m) x s2 w
  | exc C => exact w.elim
  | newT ds rs => exact w.elim) fun C A0 A en' m => kx C A0 A en' (q _ _ m)
/-- .. becomes a cell -/
theorem g_cel (h : XN c F e en ds) : XG c F W e en (fun o en' => ∃ l, o = .raw (.ref l) ∧ en' = en ++ [.cell l (.lst (ds.map Cv.d))]) :=
  let ⟨t, p1, d1⟩ := h
  XG.mk p1 fun Q s k _ => d1 Q s fun l vs A0 A x n n0 e w => by
    have s2 := s.step x
    exact k (.raw (.ref l)) (.ref l) A0 A _ ⟨l, rfl, rfl⟩ x.pub (s2.cellN (fresh_back s.ext.all n) n0 e (dwa_cva w) (fun j ys q => s.fresh_own n j ys q) fun j c => s.fresh_cell n j c) rfl
/-! two places -/
theorem g_op2 {r : R2} {M1 : Out → List Sv → Prop} (hpe : ∀ i t1 t2, PE (cx c (F i)) e1 t1 → PE (cx c (F i)) e2 t2 → PE (cx c (F i)) e (tOp r t1 t2)) (h1 : XG c F W e1 en M1)
    (h2 : ∀ o en1, M1 o en1 → match o with
      | .ret a => ∃ M2, XG c F W e2 en1 M2 ∧ ∀ o2 en2, M2 o2 en2 → match o2 with
        | .ret b => (∃ d, RD c.K r a b d ∧ M (.ret d) en2) ∨ ∃ ds, RN c.K r a b ds ∧ M (.new ds) en2
        | .exc C => M (.exc C) en2
        | _ => False
      | .exc C => M (.exc C) en1
      | _ => False) : XG c F W e en M := XG.mk (fun i => hpe i _ _ (uE_ok i) (uE_ok i)) fun Q s k kx => h1 _ s (fun o v A0 A en1 m x s2 w => by
  have h := h2 o en1 m
  cases o with
  | ret a =>
    obtain ⟨M2, g1, g2⟩ := h
    refine g1 _ s2 (fun o2 u B0 B en2 m2 y s3 w2 => ?_) fun C B0 B en2 m2 y s3 => kx C B0 B en2 (g2 _ _ m2) (x.trans y) s3
    have g := g2 o2 en2 m2
    cases o2 with
    | ret b =>
      rcases g with ⟨d, g3, g4⟩ | ⟨ds, g3, g4⟩
      · exact g3 _ s3.sub (dp_mono y w) w2 fun z D0 D q w3 => k _ _ D0 D _ g4 ((x.trans y).trans q.pub) (s3.step q) w3
      · exact g3 _ s3.sub (dp_mono y w) w2 fun l vs D0 D q n n0 e w3 => k _ _ D0 D _ g4 ((x.trans y).trans q.pub) (s3.step q) ⟨l, vs, rfl, NewL.fresh s3 n n0 e w3⟩
    | exc C => exact w2.elim
    | _ => exact g.elim
  | exc C => exact w.elim
  | _ => exact h.elim) fun C A0 A en1 m x s2 => kx C A0 A en1 (h2 _ _ m) x s2
/-- a + b of lists, b changes cells -/
theorem g_cat {M2 : Out → List Sv → Prop} (h1 : XD c F e1 en (.list ds)) (h2 : XG c F W e2 en M2) (q : ∀ o en', M2 o en' → match o with
      | .new es => ds.length + es.length ≤ 100000 ∧ M (.new (ds ++ es)) en'
      | .exc C => M (.exc C) en'
      | _ => False) : XG c F W (.BinOp e1 .Add e2 pos) en M :=
  g_op2 (r := rCat) (fun i _ _ => pe_op op_cat) (g_d h1) fun o en1 m => by
    obtain ⟨rfl, rfl⟩ := m
    refine ⟨fun o en' => ∃ o1, M2 o1 en' ∧ o = opn o1, g_opn h2 fun o en' m => ⟨o, m, rfl⟩, fun o2 en2 m2 => ?_⟩
    obtain ⟨o1, m1, rfl⟩ := m2
    have g := q o1 en2 m1
    cases o1 with
    | new es => exact .inr ⟨_, rn_cat g.1, g.2⟩
    | exc C => exact g
    | _ => exact g.elim
/-- .. both do -/
theorem g_cat2 {M1 : Out → List Sv → Prop} (h1 : XG c F W e1 en M1) (h2 : ∀ o en1, M1 o en1 → match o with
      | .new ds => ∃ M2, XG c F W e2 en1 M2 ∧ ∀ o en', M2 o en' → match o with
        | .new es => ds.length + es.length ≤ 100000 ∧ M (.new (ds ++ es)) en'
        | .exc C => M (.exc C) en'
        | _ => False
      | .exc C => M (.exc C) en1
      | _ => False) : XG c F W (.BinOp e1 .Add e2 pos) en M :=
  g_op2 (r := rCat) (M1 := fun o en' => ∃ o1, M1 o1 en' ∧ o = opn o1) (fun i _ _ => pe_op op_cat) (g_opn h1 fun o en' m => ⟨o, m, rfl⟩) fun o en1 m => by
    obtain ⟨o1, m1, rfl⟩ := m
    have h := h2 o1 en1 m1
    cases o1 with
    | new ds =>
      obtain ⟨M2, g1, g2⟩ := h
      refine ⟨fun o en' => ∃ o1, M2 o1 en' ∧ o = opn o1, g_opn g1 fun o en' m => ⟨o, m, rfl⟩, fun o2 en2 m2 => ?_⟩
      obtain ⟨o3, m3, rfl⟩ := m2
      have g := g2 o3 en2 m3
      cases o3 with
      | new es => exact .inr ⟨_, rn_cat g.1, g.2⟩
      | exc C => exact g
      | _ => exact g.elim
    | exc C => exact h
    | _ => exact h.elim
/-- a == b of lists, a changes cells -/
theorem g_eq {M1 : Out → List Sv → Prop} (hu : c.A.units + 64 < cLine) (h1 : XG c F W e1 en M1) (h2 : ∀ o en1, M1 o en1 → match o with
      | .new ds => ∃ b, XD c F e2 en1 b ∧ SeqAt.shaped (.list ds) = true ∧ SeqAt.shaped b = true ∧ M (.ret (.bool (PyData.eqv (.list ds) b))) en1
      | .exc C => M (.exc C) en1
      | _ => False) : XG c F W (.Compare e1 [.Eq] [e2] pos) en M :=
  g_op2 (r := rEqD c.K) (M1 := fun o en' => ∃ o1, M1 o1 en' ∧ o = opn o1) (fun i _ _ q1 q2 => pe_cmpR (op_eqD hu) q1 q2 (nomark _)) (g_opn h1 fun o en' m => ⟨o, m, rfl⟩) fun o en1 m => by
    obtain ⟨o1, m1, rfl⟩ := m
    have h := h2 o1 en1 m1
    cases o1 with
    | new ds =>
      obtain ⟨b, g1, g2, g3, g4⟩ := h
      refine ⟨_, g_d g1, fun o2 en2 m2 => ?_⟩
      obtain ⟨rfl, rfl⟩ := m2
      exact .inl ⟨_, rd_eq g2 g3, g4⟩
    | exc C => exact h
    | _ => exact h.elim
/-! and, or as values -/
theorem g_one {op} (h : XG c F W e en M) : XG c F W (.BoolOp op [e] pos) en M := XG.mk (fun i => pe_one (uE_ok i)) h
theorem g_and {rest : List Expr} {M1 : Out → List Sv → Prop} (h1 : XG c F W e1 en M1) (h2 : ∀ o en1, M1 o en1 → match o with
      | .ret (.bool true) => XG c F W (.BoolOp .And (e2 :: rest) pos) en1 M
      | .ret (.bool false) => M (.ret (.bool false)) en1
      | .exc C => M (.exc C) en1
      | _ => False) : XG c F W (.BoolOp .And (e1 :: e2 :: rest) pos) en M := XG.mk (fun i => pe_and (uE_ok i) (uE_ok i)) fun Q s k kx => h1 _ s (fun o v A0 A en1 m x s2 w => by
  have h := h2 o en1 m
  cases o with
  | ret d =>
    cases d with
    | bool b =>
      cases w
      cases b with
      | true => exact ⟨true, rfl, iteT (h _ s2 (fun o2 u B0 B en2 m2 y => k o2 u B0 B en2 m2 (x.trans y)) fun C B0 B en2 m2 y => kx C B0 B en2 m2 (x.trans y))⟩
      | false => exact ⟨false, rfl, iteF (k _ _ _ _ _ h x s2 (.bl false))⟩
    | _ => exact h.elim
  | exc C => exact w.elim
  | _ => exact h.elim) fun C A0 A en1 m x s2 => kx C A0 A en1 (h2 _ _ m) x s2
theorem g_or {rest : List Expr} {M1 : Out → List Sv → Prop} (h1 : XG c F W e1 en M1) (h2 : ∀ o en1, M1 o en1 → match o with
      | .ret (.bool false) => XG c F W (.BoolOp .Or (e2 :: rest) pos) en1 M
      | .ret (.bool true) => M (.ret (.bool true)) en1
      | .exc C => M (.exc C) en1
      | _ => False) : XG c F W (.BoolOp .Or (e1 :: e2 :: rest) pos) en M := XG.mk (fun i => pe_or (uE_ok i) (uE_ok i)) fun Q s k kx => h1 _ s (fun o v A0 A en1 m x s2 w => by
  have h := h2 o en1 m
  cases o with
  | ret d =>
    cases d with
    | bool b =>
      cases w
      cases b with
      | false => exact ⟨false, rfl, iteF (h _ s2 (fun o2 u B0 B en2 m2 y => k o2 u B0 B en2 m2 (x.trans y)) fun C B0 B en2 m2 y => kx C B0 B en2 m2 (x.trans y))⟩
      | true => exact ⟨true, rfl, iteT (k _ _ _ _ _ h x s2 (.bl true))⟩
    | _ => exact h.elim
  | exc C => exact w.elim
  | _ => exact h.elim) fun C A0 A en1 m x s2 => kx C A0 A en1 (h2 _ _ m) x s2
/-! tests -/
theorem tg_t {z : Bool} (h : XT c F e en z) : XTG c F e en (fun b en' => b = z ∧ en' = en) := fun Q s k => h.can Q s fun A0 A x => k z A0 A en ⟨rfl, rfl⟩ x.pub (s.step x)
theorem tg_val {N : Bool → List Sv → Prop} (h : XG c F noW e en M) (q : ∀ o en', M o en' → ∃ b, o = .ret (.bool b) ∧ N b en') (he : ∀ i whole, isTrue e (cx c (F i)).env whole = (do let v ← whole; standAt e.pos; holding [v] (truthy v)) := by exact fun _ _ => rfl) : XTG c F e en N := fun Q s k =>
  ⟨tB (uE c F e), fun i => pt_val (uE_ok i) (he i), h _ s (fun o v A0 A en' m x s2 w => by
    obtain ⟨b, rfl, n⟩ := q o en' m
    cases w
    exact ⟨b, rfl, k b A0 A en' n x s2⟩) fun C A0 A en' m _ _ => by
      obtain ⟨b, z, _⟩ := q _ _ m
      cases z⟩
theorem tg_not {N1 N : Bool → List Sv → Prop} (h : XTG c F e en N1) (q : ∀ b en', N1 b en' → N (!b) en') : XTG c F (.UnaryOp .Not e pos) en N := fun Q s k => ⟨tNot (uT c F e), fun i => pt_not (uT_ok i), h _ s fun b A0 A en' m => k (!b) A0 A en' (q _ _ m)⟩
theorem uW_ok (i : ι) : PW (cx c (F i)) e (uW c F e) := ⟨fun wh pins s σ H Q I h => let ⟨_, p, q⟩ := h; (p i).run wh pins s σ H Q I q⟩
theorem wg_or1 {N : Bool → List Sv → Prop} (h : XTG c F e en N) : XWG c F (.BoolOp .Or [e] pos) en N := fun Q s k => ⟨_, fun i => pw_or1 (uT_ok i), h Q s k⟩
theorem wg_or {rest : List Expr} {N1 N : Bool → List Sv → Prop} (h1 : XTG c F e1 en N1) (h2 : ∀ b en1, N1 b en1 → match b with
      | true => N true en1
      | false => XWG c F (.BoolOp .Or (e2 :: rest) pos) en1 N) : XWG c F (.BoolOp .Or (e1 :: e2 :: rest) pos) en N := fun Q s k =>
  ⟨_, fun i => pw_or (uT_ok i) (uW_ok i), h1 _ s fun b A0 A en1 m x s2 => by
    have h := h2 b en1 m
    cases b with
    | true => exact iteT (k _ _ _ _ h x s2)
    | false => exact iteF (h _ s2 fun b2 B0 B en2 m2 y => k b2 B0 B en2 m2 (x.trans y))⟩
theorem XWG.xt {N : Bool → List Sv → Prop} (h : XWG c F e en N) : XTG c F e en N := fun Q s k => ⟨_, fun i => PW.pt (uW_ok i), h Q s k⟩
theorem s_ifG {N : Bool → List Sv → Prop} (h : XTG c F e en N) (h1 : ∀ en', N true en' → XB c F W sts en' P) (h2 : ∀ en', N false en' → XB c F W sts2 en' P) : XS c F W (.If e sts sts2 pos) en P :=
  ⟨tIfS (uT c F e) (uB c F sts) (uB c F sts2), fun i => ps_if (uT_ok i) (uB_ok i) (uB_ok i), fun s o => h _ s fun b A0 A en' m x s2 => by
    cases b with
    | true => exact iteT ((h1 en' m).can s2 (o.mono x))
    | false => exact iteF ((h2 en' m).can s2 (o.mono x))⟩
/-! statements -/
theorem SR.setNew {K : PySem.W.Frag} {G0 G H0 H : Hp} {σ : L2.St} {l : Addr} {vs : List V} (r : SR nn K G0 G H0 H σ en) (n : NewL K G H0 H σ en l vs ds) (i : Nat) (hi : i < nn) : SR nn K G0 G H0 H (σ.set i (some (.ref l))) (en.set i (Sv.own ds)) :=
  r.setG hi (fun _ _ => ⟨fun q => (by cases q), fun q => (by cases q)⟩) (fun _ q => by cases q) (fun _ q => by cases q) fun xs q => by
    cases q
    exact ⟨l, vs, rfl, n.g, n.p, n.h, n.w, fun j ys e1 e2 => absurd e2 (n.o j ys e1), n.c⟩
theorem s_setG (j : Nat) (hN : c.N.Nodup) (h : XG c F W e en M) (q : ∀ o en', M o en' → match o with
      | .ret d => P.nx (en'.set j (Sv.d d))
      | .new ds => P.nx (en'.set j (Sv.own ds))
      | .raw y => P.nx (en'.set j (Sv.v y))
      | .exc C => P.ex C en'
      | .newT _ _ => True) (hj : c.N[j]? = some x := by rfl) (hx : ∀ i, Loc (F i).env.scope x := by first | exact fun _ => Or.inl rfl | exact fun _ => Or.inr rfl) (hs : ∀ i, swapsWith e (some (.Name x p)) pos.line (cx c (F i)).env = pure false := by exact fun _ => rfl)
    (hf : ∀ i, (F i).fn x = true ∨ (F i).env.scope.names.lookup x = some .local := by first | exact fun _ => Or.inl rfl | exact fun _ => Or.inr rfl) : XS c F W (.Assign [.Name x p] e pos) en P :=
  ⟨tAsg (uE c F e) (gName j), fun i => ps_set hN hj (hx i) (uE_ok i) (hs i) (hf i), fun s oo => h _ s (fun o v A0 A en' m x1 s2 w => by
    have g := q o en' m
    cases o with
    | ret d => exact oo.nx A0 A _ _ x1 (s2.setD (ltN hj) w) g
    | new ds =>
      obtain ⟨l, vs, rfl, n⟩ := w
      exact oo.nx A0 A _ _ x1 (s2.setNew n j (ltN hj)) g
    | raw y =>
      cases w
      exact oo.nx A0 A _ _ x1 (s2.setV (ltN hj)) g
    | exc C => exact w.elim
    | newT _ _ => exact w.elim) fun C A0 A en' m x1 s2 => oo.ex C A0 A _ _ x1 s2 (q _ _ m)⟩
theorem s_exprG (h : XG c F W e en M) (q : ∀ o en', M o en' → match o with
      | .exc C => P.ex C en'
      | _ => P.nx en') (hs : ∀ i, swapsWith e none pos.line (cx c (F i)).env = pure false := by exact fun _ => rfl) : XS c F W (.Expr e pos) en P :=
  ⟨tDrop (uE c F e), fun i => ps_expr (uE_ok i) (hs i), fun s oo => h _ s (fun o v A0 A en' m x1 s2 w => by
    have g := q o en' m
    cases o with
    | exc C => exact w.elim
    | _ => exact oo.nx A0 A _ _ x1 s2 g) fun C A0 A en' m x1 s2 => oo.ex C A0 A _ _ x1 s2 (q _ _ m)⟩
theorem s_retG (h : XG c F W e en M) (q : ∀ o en', M o en' → match o with
      | .exc C => P.ex C en'
      | .newT _ _ => True
      | o => P.rt o en') : XS c F W (.Return (some e) pos) en P :=
  ⟨tRet (uE c F e), fun i => ps_ret (uE_ok i), fun s oo => h _ s (fun o v A0 A en' m x1 s2 w => by
    have g := q o en' m
    cases o with
    | ret d => exact oo.rt v A0 A _ _ d x1 s2 w g
    | new ds =>
      obtain ⟨l, vs, rfl, n⟩ := w
      exact oo.rn l vs A0 A _ _ ds x1 s2 n.g n.p n.h n.c n.w g
    | raw y =>
      cases w
      exact oo.rv _ A0 A _ _ x1 s2 g
    | exc C => exact w.elim
    | newT _ _ => exact w.elim) fun C A0 A en' m x1 s2 => oo.ex C A0 A _ _ x1 s2 (q _ _ m)⟩
end
end DL

set_option maxRecDepth 100000
set_option maxHeartbeats 4000000
namespace DL
open PySem PySem.Spec PyProof.Rows L2 Evl
variable {nn : Nat}
/-! ## calls of methods, of classes, exceptions by slots -/
section
variable {X : Cx} {CX : CXT} {k : Nat} {f C : Addr} {fd : FuncData} {ps : List Str} {sp : Sp} {E : L2.St → XK} {x m : Str} {p pos apos : Pos} {e o : Expr} {es : List Expr} {ta : TE} {t : TA}
def tMS (C : Addr) (m : Str) (sp : Sp) (E : L2.St → XK) (ta : TE) (t : TA) : TE := fun σ H Q => ta σ H fun x H1 => ∃ a dx fs, x = .ref a ∧ H1 a = some (.ins C dx fs) ∧ fs.lookup m = none ∧ t σ H1 fun vs H2 => sp (x :: vs) H2 Q (E σ)
theorem pe_mS {pl : Sem Bool} (he : PE X o ta) (c : Cls X.K C) (hm : Meth X.K C m f) (F : FnOk X.prog X.w X.K X.mg X.base CX k f fd ps sp) (hr : Room k X.A) (hb : Binds X.K fd ps []) (hx : ∀ σ, PassesAt CX X σ (E σ)) (ha : PA X (e :: es) t)
    (hst : starEach (e :: es) X.env = (false, eval e X.env) :: starEach es X.env) (hpl : (backTo pos (starEach es X.env)).any (·.1) = false)
    (ht : eval (.Call (.Attribute o m apos) (e :: es) [] pos) X.env = (do
      let ov ← eval o X.env
      standAt apos.atName
      let (f, first) ← holding [ov] (getMethod ov m pl)
      callWith pos f first (backTo pos (starEach (e :: es) X.env)) (backToKw pos (keywordEach [] X.env)))) :
    PE X (.Call (.Attribute o m apos) (e :: es) [] pos) (tMS C m sp E ta t) := by
  refine ⟨fun pins s σ H Q I h => ?_⟩
  refine PySem.W.methodCall_KW (pl := pl) (thn (he.run pins s σ H _ I h) fun u s1 ⟨x, H1, I1, rx, a, dx, fs, ex, ea, l, q⟩ => ?_) ht
  subst ex
  obtain rfl : u = Value.ref a := rx
  refine getmeth_ok I1 ea c hm l ?_
  refine PySem.W.callWith_K (first := [.ref a]) (h₀ := X.base) I.ok.mod.kin hm.kp (thn (ha.run pos pins s1 σ H1 _ I1 q) fun us s2 ⟨vs, H2, I2, r, q2⟩ => ⟨I2.kIn, ?_⟩) hst hpl
  exact run_fnS (us := .ref a :: us) (vs := .ref a :: vs) F hr hb (hx σ) I2 (.cons rfl r) q2
theorem pe_mS0 {pl : Sem Bool} (he : PE X o ta) (c : Cls X.K C) (hm : Meth X.K C m f) (F : FnOk X.prog X.w X.K X.mg X.base CX k f fd ps sp) (hr : Room k X.A) (hb : Binds X.K fd ps []) (hx : ∀ σ, PassesAt CX X σ (E σ))
    (ht : eval (.Call (.Attribute o m apos) [] [] pos) X.env = (do
      let ov ← eval o X.env
      standAt apos.atName
      let (f, first) ← holding [ov] (getMethod ov m pl)
      callWith pos f first (backTo pos (starEach [] X.env)) (backToKw pos (keywordEach [] X.env)))) :
    PE X (.Call (.Attribute o m apos) [] [] pos) (tMS C m sp E ta tNil) := by
  refine ⟨fun pins s σ H Q I h => ?_⟩
  refine PySem.W.methodCall_KW (pl := pl) (thn (he.run pins s σ H _ I h) fun u s1 ⟨x, H1, I1, rx, a, dx, fs, ex, ea, l, q⟩ => ?_) ht
  subst ex
  obtain rfl : u = Value.ref a := rx
  refine getmeth_ok I1 ea c hm l ?_
  exact PySem.W.callWith_K0 (first := [.ref a]) I1.kIn hm.kp (run_fnS (us := [.ref a]) (vs := [.ref a]) F hr hb (hx σ) I1 (.cons rfl .nil) q)
def tMkS (C : Addr) (sp : Sp) (E : L2.St → XK) (t : TA) : TE := fun σ H Q => t σ H fun vs H1 => ∀ x dx, H1 x = none → H1 dx = none → dx ≠ x → sp (.ref x :: vs) (upd (upd H1 dx (.own x)) x (.ins C dx [])) (fun v H2 => v = .non ∧ Q (.ref x) H2) (E σ)
theorem run_makeS {pins : List (Addr × Obj)} {σ : L2.St} {H : Hp} {s : Shared} {Q : VK} {us : List Value} {vs : List V} {E : XK} (M : Mk X.K C f) (F : FnOk X.prog X.w X.K X.mg X.base CX k f fd ps sp) (hr : Room (k + 1) X.A) (hb : Binds X.K fd ps [])
    (hx : PassesAt CX X σ E) (I : Inv X pins σ H s) (r : Vals vs us)
    (h : ∀ x dx, H x = none → H dx = none → dx ≠ x → sp (.ref x :: vs) (upd (upd H dx (.own x)) x (.ins C dx [])) (fun v H2 => v = .non ∧ Q (.ref x) H2) E) :
    wpAny (model X.prog X.w) X.A (call (.ref C) us) (EP X pins σ Q) X.xe s := by
  have hq := h (s.heap.objs.size + 1) s.heap.objs.size (I.hok.fresh (Nat.le_succ _)) (I.hok.fresh (Nat.le_refl _)) (Nat.ne_of_lt (Nat.lt_succ_self _))
  have I2 := Inv.made (C := C) I
  have r2 : Vals (V.ref (s.heap.objs.size + 1) :: vs) (Value.ref (s.heap.objs.size + 1) :: us) := .cons rfl r
  have hl : ((Value.ref (s.heap.objs.size + 1) :: us) ++ []).length = ps.length := by
    have e := r2.length
    rw [F.len _ _ _ _ hq] at e
    rw [List.append_nil]
    exact e.symm
  have hbb := hb _ (Value.ref (s.heap.objs.size + 1) :: us) I2.kIn hl
  rw [List.append_nil] at hbb
  refine wpAny_call (make_map (f := f) I.kIn M.makes M.init (beq_iff_eq.mp M.fn) (codeAny_mono (F.run _ X.stack _ _ ⟨Value.ref (s.heap.objs.size + 1) :: us, []⟩ (Value.ref (s.heap.objs.size + 1) :: us) _ _ E (hr.make C us [])
    (I2.env0.make C us []) hbb r2 hq) fun r s' hq' => ?_))
  cases r with
  | error e => exact hx pins _ _ e s' I2 hq'
  | ok fl =>
    cases fl with
    | ret u =>
      obtain ⟨v, H', I3, rv, ev, q3⟩ := I2.after hq'
      subst ev
      exact ⟨rv, ⟨V.ref (s.heap.objs.size + 1), H', I3, rfl, q3⟩⟩
    | next => exact False.elim hq'
    | brk => exact False.elim hq'
    | cont => exact False.elim hq'
theorem pe_mkS (M : Mk X.K C f) (F : FnOk X.prog X.w X.K X.mg X.base CX k f fd ps sp) (hr : Room (k + 1) X.A) (hg : Gl X x) (hm : X.mg x = some (.ref C)) (hb : Binds X.K fd ps []) (hx : ∀ σ, PassesAt CX X σ (E σ))
    (ha : PA X (e :: es) t) (hdb : (x == ("__debug__" : Str)) = false) (he : starEach (e :: es) X.env = (false, eval e X.env) :: starEach es X.env) (hpl : (backTo pos (starEach es X.env)).any (·.1) = false) :
    PE X (.Call (.Name x p) (e :: es) [] pos) (tMkS C sp E t) := by
  refine ⟨fun pins s σ H Q I h => ?_⟩
  refine wpAny_Call_Name_kw (ld_glob I hg hm ?_ hdb)
  refine PySem.W.callWith_K (h₀ := X.base) I.ok.mod.kin M.kp (thn (ha.run pos pins s σ H _ I h) fun us s1 ⟨vs, H1, I1, r, q⟩ => ⟨I1.kIn, ?_⟩) he hpl
  exact run_makeS M F hr hb (hx σ) I1 r q
/-! a field as a target -/
def gFld (K : PySem.W.Frag) (to : TE) (f : Str) : TG := fun v σ H Q => to σ H fun x H1 => ∃ a C dx fs, x = .ref a ∧ H1 a = some (.ins C dx fs) ∧ Cls K C ∧ NoAttr K C f ∧ fs.length < 1000 ∧ Q σ (upd H1 a (.ins C dx (putF f v fs)))
theorem pg_fld {o : Expr} {f : Str} {pos : Pos} {to : TE} (ho : PE X o to) : PG X (.Attribute o f pos) (gFld X.K to f) := by
  refine ⟨fun pins s σ H v u Q I r h => ?_⟩
  rw [assign_Attribute]
  refine wpAny_bind (wpAny_holding (thn (ho.run pins s σ H _ I h) fun ov s1 ⟨x, H1, I1, rx, a, C, dx, fs, ex, ea, c, n, l, q⟩ => ?_))
  subst ex
  obtain rfl : ov = Value.ref a := rx
  refine wpAny_bind (wpAny_standAt (wpAny_bind (wpAny_holding (setattr_ok I1 ea c n l r fun s2 I2 => ?_))))
  exact wpAny_release ⟨σ, _, I2, q⟩
end
/-! ## calls by contract -/
section
variable {K : PySem.W.Frag} {G0 G H0 H : Hp} {σ : L2.St} {en : List Sv} {idx : List Nat} {cs : Cs} {R : Cs → List Cv → OutC → Prop} {M : OutC}
theorem putL_own {cs' : Cs} {j : Nat} {s : Sv} (h : (putL en idx cs')[j]? = some s) (n : ∀ a c, s ≠ .cell a c) : en[j]? = some s := by
  rcases putL_get h with ⟨h1, _⟩ | ⟨k, p, _, h2, _⟩
  · exact h1
  · exact absurd h2 (n _ _)
theorem spC_call {vs : List V} {as : List Cv} {Q : VK} {E : XK} (s : SR nn K G0 G H0 H σ en) (hp : Pick en idx cs) (hn : idx.Nodup) (ha : CvAll K H0 vs as) (hR : R cs as M)
    (k : ∀ o cs' v A0 A, M o cs' → Ex H0 A0 → SR nn K G0 G A0 A σ (putL en idx cs') → OutAt K G A0 A σ (putL en idx cs') o v → Q v A)
    (kx : ∀ C cs' A0 A, M (.exc C) cs' → Ex H0 A0 → SR nn K G0 G A0 A σ (putL en idx cs') → E (.ref C) none A) : spC K R vs H Q E := by
  obtain ⟨ca, nd⟩ := s.pick hp hn
  refine ⟨H0, cs, as, M, s.sub, ca, nd, ha, hR, fun o cs' hM A0 A xm ca' nd' pre ad => ?_⟩
  have s3 := s.callC hp xm ca' nd' pre ad
  cases o with
  | ret d => exact fun v w => k (.ret d) cs' v A0 A hM xm.pub s3 w
  | new ds =>
    intro l vs n n0 e nc w
    refine k (.new ds) cs' (.ref l) A0 A hM xm.pub s3 ⟨l, vs, rfl, fresh_back s.ext.all n, n0, e, w, fun j ys q => s.fresh_own n j ys (putL_own q fun _ _ z => by cases z), fun j c q => ?_⟩
    rcases putL_get q with ⟨h1, _⟩ | ⟨i, p, h1, h2, _⟩
    · exact s.fresh_cell n j c h1
    · cases h2
      exact nc (List.mem_map.mpr ⟨p, List.mem_of_getElem? h1, rfl⟩)
  | exc C => exact kx C cs' A0 A hM xm.pub s3
  | raw x => exact k (.raw x) cs' x A0 A hM xm.pub s3 rfl
  | newT _ _ => exact True.intro
end
section
variable {c : Fx} {ι : Type} {F : ι → Vr} {W : WX} {en en1 : List Sv} {e e1 e2 e3 o : Expr} {es : List Expr} {a d : Dt} {ds : List Dt} {pos p p2 apos : Pos} {x m : Str} {k j : Nat} {P : Po} {C fa b : Addr} {N : Out → List Sv → Prop} {ps : List Str} {fs : List (Str × Cv)} {args : List Cv} {cs : Cs}
theorem XAs.mk {t : TA} {M : List Cv → List Sv → Prop} {X : Addr → List Sv → Prop} (p1 : ∀ i, PA (cx c (F i)) es t) (d : DAs c.N.length c.K W t en M X) : XAs c F W es en M X := fun Q s k kx => ⟨t, p1, d Q s k kx⟩
theorem XAs.imp {M N : List Cv → List Sv → Prop} {X : Addr → List Sv → Prop} (h : XAs c F W es en M X) (q : ∀ as en', M as en' → N as en') : XAs c F W es en N X := fun Q s k kx => h Q s (fun as vs A0 A en' m => k as vs A0 A en' (q _ _ m)) kx
theorem as_of {X : Addr → List Sv → Prop} (h : XAR c F es en args) : XAs c F W es en (fun as en' => as = args ∧ en' = en) X :=
  let ⟨t, p1, d1⟩ := h
  XAs.mk p1 fun Q s k _ => d1 Q s fun vs A0 A x w => k args vs A0 A en ⟨rfl, rfl⟩ x.pub (s.step x) w
theorem as_nil {X : Addr → List Sv → Prop} : XAs c F W [] en (fun as en' => as = [] ∧ en' = en) X := as_of ar_nil
theorem as_cons {M1 : Out → List Sv → Prop} {M : List Cv → List Sv → Prop} {X : Addr → List Sv → Prop} (h1 : XG c F W e en M1) (h2 : ∀ o en1, M1 o en1 → match o with
      | .ret d => XAs c F W es en1 (fun as en' => M (.d d :: as) en') X
      | .raw (.ref a) => XAs c F W es en1 (fun as en' => M (.r a :: as) en') X
      | .exc C => X C en1
      | _ => False) (hs : Pl c F e es := by exact fun _ => rfl) : XAs c F W (e :: es) en M X :=
  XAs.mk (fun i => pa_cons (uE_ok i) (uA_ok i) (hs i)) fun Q s k kx => h1 _ s (fun o v A0 A en1 m x s2 w => by
    have h := h2 o en1 m
    cases o with
    | ret d => exact h _ s2 (fun as vs B0 B en2 m2 y s3 w2 => k _ _ B0 B en2 m2 (x.trans y) s3 (.cons (.d (dp_mono y w)) w2)) fun C B0 B en2 m2 y => kx C B0 B en2 m2 (x.trans y)
    | raw z =>
      cases w
      cases v with
      | ref a => exact h _ s2 (fun as vs B0 B en2 m2 y s3 w2 => k _ _ B0 B en2 m2 (x.trans y) s3 (.cons (.r a) w2)) fun C B0 B en2 m2 y => kx C B0 B en2 m2 (x.trans y)
      | _ => exact h.elim
    | exc C => exact w.elim
    | _ => exact h.elim) fun C A0 A en1 m x s2 => kx C A0 A en1 (h2 _ _ m) x s2
abbrev MethTree (c : Fx) {ι : Type} (F : ι → Vr) (o : Expr) (m : Str) (apos : Pos) (es : List Expr) (pos : Pos) (pl : ι → Sem Bool) : Prop := ∀ i, eval (.Call (.Attribute o m apos) es [] pos) (cx c (F i)).env = (do
      let ov ← eval o (cx c (F i)).env
      standAt apos.atName
      let (f, first) ← holding [ov] (getMethod ov m (pl i))
      callWith pos f first (backTo pos (starEach es (cx c (F i)).env)) (backToKw pos (keywordEach [] (cx c (F i)).env)))
theorem g_meth {R : Cs → List Cv → OutC → Prop} {MA : List Cv → List Sv → Prop} {X : Addr → List Sv → Prop} {pl : ι → Sem Bool} (i : Nat) (tk : ∀ i, L2N.Takes (cx c (F i)) W) (f : FnS c.P c.w c.K c.mg c.base k fa ps (spC c.K R)) (hC : Cls c.K C) (hm : Meth c.K C m fa) (hr : Room j c.A) (hk : k ≤ j)
    (ho : XR c F o en (.ref b)) (hi : CelIn en i b (.ins C fs)) (hl : fs.lookup m = none) (ha : XAs c F W (e :: es) en MA X)
    (h : ∀ as en1, MA as en1 → ∃ idx cs M, Pick en1 idx cs ∧ idx.Nodup ∧ R cs (.r b :: as) M ∧ ∀ o cs', M o cs' → N o (putL en1 idx cs')) (hx : ∀ C en1, X C en1 → N (.exc C) en1)
    (s1 : Pl c F e es := by exact fun _ => rfl) (s2 : Bt c F pos es := by exact fun _ => rfl) (ht : MethTree c F o m apos (e :: es) pos pl := by exact fun _ => rfl) : XG c F W (.Call (.Attribute o m apos) (e :: es) [] pos) en N := by
  obtain ⟨fd, f1, f2, _⟩ := f.ex
  obtain ⟨t, p1, d1⟩ := ho
  refine XG.mk (t := tMS C m (spC c.K R) (WE W) t (uA c F (e :: es))) (fun i => pe_mS (pl := pl i) (p1 i) hC hm f1 (hr.mono hk) f2 (fun σ => L2N.passAt (tk i) σ) (uA_ok i) (s1 i) (s2 i) (ht i)) fun {G0 G H0 H σ} Q s kk kx => d1 _ s fun A0 A x => ?_
  obtain ⟨dx, gs, e1, q1⟩ := (s.step x).atI hi
  refine ⟨b, dx, gs, rfl, e1, q1.getN hl, ha _ (s.step x) (fun as vs B0 B en1 m1 y s3 w => ?_) fun C B0 B en1 m1 y => kx C B0 B en1 (hx _ _ m1) (x.pub.trans y)⟩
  obtain ⟨idx, cs, M, h1, h2, h3, h4⟩ := h as en1 m1
  exact spC_call s3 h1 h2 (.cons (.r b) w) h3 (fun o cs' v D0 D hM z => kk o v D0 D _ (h4 o cs' hM) ((x.pub.trans y).trans z)) fun C cs' D0 D hM z => kx C D0 D _ (h4 _ cs' hM) ((x.pub.trans y).trans z)
theorem g_meth0 {R : Cs → List Cv → OutC → Prop} {M : OutC} {pl : ι → Sem Bool} (i : Nat) (idx : List Nat) (tk : ∀ i, L2N.Takes (cx c (F i)) W) (f : FnS c.P c.w c.K c.mg c.base k fa ps (spC c.K R)) (hC : Cls c.K C) (hm : Meth c.K C m fa) (hr : Room j c.A) (hk : k ≤ j)
    (ho : XR c F o en (.ref b)) (hi : CelIn en i b (.ins C fs)) (hl : fs.lookup m = none) (hp : Pick en idx cs) (hn : idx.Nodup) (h : R cs [.r b] M) (h4 : ∀ o cs', M o cs' → N o (putL en idx cs'))
    (ht : MethTree c F o m apos [] pos pl := by exact fun _ => rfl) : XG c F W (.Call (.Attribute o m apos) [] [] pos) en N := by
  obtain ⟨fd, f1, f2, _⟩ := f.ex
  obtain ⟨t, p1, d1⟩ := ho
  refine XG.mk (t := tMS C m (spC c.K R) (WE W) t tNil) (fun i => pe_mS0 (pl := pl i) (p1 i) hC hm f1 (hr.mono hk) f2 (fun σ => L2N.passAt (tk i) σ) (ht i)) fun {G0 G H0 H σ} Q s kk kx => d1 _ s fun A0 A x => ?_
  obtain ⟨dx, gs, e1, q1⟩ := (s.step x).atI hi
  refine ⟨b, dx, gs, rfl, e1, q1.getN hl, ?_⟩
  exact spC_call (s.step x) hp hn (.cons (.r b) .nil) h (fun o cs' v D0 D hM z => kk o v D0 D _ (h4 o cs' hM) (x.pub.trans z)) fun C cs' D0 D hM z => kx C D0 D _ (h4 _ cs' hM) (x.pub.trans z)
theorem g_call {R : Cs → List Cv → OutC → Prop} {MA : List Cv → List Sv → Prop} {X : Addr → List Sv → Prop} (tk : ∀ i, L2N.Takes (cx c (F i)) W) (f : FnS c.P c.w c.K c.mg c.base k fa ps (spC c.K R)) (hm : c.mg x = some (.ref fa)) (hkp : PySem.W.keepIn c.K (.ref fa) = true) (hr : Room j c.A) (hk : k ≤ j)
    (ha : XAs c F W (e :: es) en MA X) (h : ∀ as en1, MA as en1 → ∃ idx cs M, Pick en1 idx cs ∧ idx.Nodup ∧ R cs as M ∧ ∀ o cs', M o cs' → N o (putL en1 idx cs')) (hx : ∀ C en1, X C en1 → N (.exc C) en1) (hg : ∀ i, Gl (cx c (F i)) x := by exact fun _ => rfl)
    (hdb : (x == ("__debug__" : Str)) = false := by decide) (s1 : Pl c F e es := by exact fun _ => rfl) (s2 : Bt c F pos es := by exact fun _ => rfl) : XG c F W (.Call (.Name x p) (e :: es) [] pos) en N := by
  obtain ⟨fd, f1, f2, _⟩ := f.ex
  refine XG.mk (t := tCallS (spC c.K R) (WE W) (uA c F (e :: es))) (fun i => pe_callS f1 (hr.mono hk) (hg i) hm hkp f2 (fun σ => L2N.passAt (tk i) σ) (uA_ok i) hdb (s1 i) (s2 i)) fun {G0 G H0 H σ} Q s kk kx => ha _ s (fun as vs B0 B en1 m1 y s3 w => ?_) fun C B0 B en1 m1 y => kx C B0 B en1 (hx _ _ m1) y
  obtain ⟨idx, cs, M, h1, h2, h3, h4⟩ := h as en1 m1
  exact spC_call s3 h1 h2 w h3 (fun o cs' v D0 D hM z => kk o v D0 D _ (h4 o cs' hM) (y.trans z)) fun C cs' D0 D hM z => kx C D0 D _ (h4 _ cs' hM) (y.trans z)
/-- C(..): a new thing of the class -/
theorem g_make {R : Cs → List Cv → OutC → Prop} (tk : ∀ i, L2N.Takes (cx c (F i)) W) (f : FnS c.P c.w c.K c.mg c.base k fa ps (spC c.K R)) (hM : Mk c.K C fa) (hm : c.mg x = some (.ref C)) (hr : Room j c.A) (hk : k + 1 ≤ j)
    (ha : XAR c F (e :: es) en args) (h : ∀ y, ∃ M, R [(y, .ins C [])] (.r y :: args) M ∧ ∀ o cs', M o cs' → match o with
      | .ret d => d = .none ∧ N (.raw (.ref y)) (en ++ cs'.map fun p => .cell p.1 p.2)
      | .exc C => N (.exc C) en
      | _ => False) (hg : ∀ i, Gl (cx c (F i)) x := by exact fun _ => rfl)
    (hdb : (x == ("__debug__" : Str)) = false := by decide) (s1 : Pl c F e es := by exact fun _ => rfl) (s2 : Bt c F pos es := by exact fun _ => rfl) : XG c F W (.Call (.Name x p) (e :: es) [] pos) en N := by
  obtain ⟨fd, f1, f2, _⟩ := f.ex
  obtain ⟨t, p1, d1⟩ := ha
  refine XG.mk (t := tMkS C (spC c.K R) (WE W) t) (fun i => pe_mkS hM f1 (hr.mono hk) (hg i) hm f2 (fun σ => L2N.passAt (tk i) σ) (p1 i) hdb (s1 i) (s2 i)) fun {G0 G H0 H σ} Q s kk kx => d1 _ s fun vs A0 A x w y dx hy hd hne => ?_
  have s2 := (s.step x).step (Ext.newP (.own y) x.sub hd)
  have s3 := s2.newC (a := y) (c := .ins C []) (o := .ins C dx []) (by rw [upd_ne (Ne.symm hne)]; exact hy) (.ins .nil)
  obtain ⟨M, h1, h2⟩ := h y
  have hp : Pick (en ++ [Sv.cell y (.ins C [])]) [en.length] [(y, .ins C [])] := by
    show [(en ++ [Sv.cell y (.ins C [])])[en.length]?] = _
    rw [List.getElem?_append_right (Nat.le_refl _), Nat.sub_self]
    rfl
  obtain ⟨ca, nd⟩ := s3.pick hp (List.nodup_cons.mpr ⟨by simp, List.nodup_nil⟩)
  refine ⟨A0, _, _, M, s3.sub, ca, nd, .cons (.r y) w, h1, fun o cs' hMo B0 B xm ca' nd' pre ad => ?_⟩
  have s4 := s3.callC hp xm ca' nd' pre ad
  have z := h2 o cs' hMo
  obtain ⟨q, r, rfl, hq⟩ : ∃ q r, cs' = q :: r ∧ q.1 = y := by
    obtain ⟨tl, ht⟩ := pre
    cases cs' with
    | nil => cases ht
    | cons q r =>
      refine ⟨q, r, rfl, ?_⟩
      have := congrArg (·.head?) ht
      simpa using this.symm
  have ep : putL (en ++ [Sv.cell y (.ins C [])]) [en.length] (q :: r) = en ++ (q :: r).map fun p => Sv.cell p.1 p.2 := by
    show (en ++ [Sv.cell y (.ins C [])]).set en.length (.cell q.1 q.2) ++ r.map _ = _
    rw [List.set_append_right _ _ (Nat.le_refl _), Nat.sub_self]
    simp
  rw [ep] at s4
  have eP : Ex H0 B0 := x.pub.trans xm.pub
  cases o with
  | ret d =>
    obtain ⟨rfl, z⟩ := z
    intro v wv
    cases wv
    exact ⟨rfl, kk (.raw (.ref y)) (.ref y) B0 B _ z eP s4 rfl⟩
  | exc C2 =>
    refine kx C2 B0 B en z eP (s4.weak fun i s q => .inr ?_)
    rw [List.getElem?_append_left (List.getElem?_eq_some_iff.mp q).1]
    exact q
  | _ => exact z.elim
/-! .. that change nothing -/
theorem x_methK {R : Cs → List Cv → Out → Prop} {pl : ι → Sem Bool} (i : Nat) (f : FnS c.P c.w c.K c.mg c.base k fa ps (spK c.K R)) (hC : Cls c.K C) (hm : Meth c.K C m fa) (hr : Room j c.A) (hk : k ≤ j)
    (ho : XR c F o en (.ref b)) (hi : CelIn en i b (.ins C fs)) (hl : fs.lookup m = none) (hcs : ∀ p ∈ cs, ∃ i, CelIn en i p.1 p.2) (h : R cs [.r b] (.ret d)) (ht : MethTree c F o m apos [] pos pl := by exact fun _ => rfl) : XD c F (.Call (.Attribute o m apos) [] [] pos) en d := by
  obtain ⟨fd, f1, f2, _⟩ := f.ex
  obtain ⟨t, p1, d1⟩ := ho
  refine ⟨tMeth C m (spK c.K R) [] E0 t tNil, fun i => pe_meth0 (pl := pl i) (p1 i) hC hm f1 (hr.mono hk) f2 .nil passN (ht i), fun {G0 G H0 H σ} Q s kk => d1 _ s fun A0 A x => ?_⟩
  obtain ⟨dx, gs, e1, q1⟩ := (s.step x).atI hi
  refine ⟨b, dx, gs, rfl, e1, q1.getN hl, A0, cs, _, _, x.sub, fun p hp => let ⟨i, hi⟩ := hcs p hp; (s.step x).at hi, .cons (.r b) .nil, h, fun v B0 B y w => kk v B0 B (x.trans y) w⟩
theorem n_methK {R : Cs → List Cv → Out → Prop} {pl : ι → Sem Bool} (i : Nat) (f : FnS c.P c.w c.K c.mg c.base k fa ps (spK c.K R)) (hC : Cls c.K C) (hm : Meth c.K C m fa) (hr : Room j c.A) (hk : k ≤ j)
    (ho : XR c F o en (.ref b)) (hi : CelIn en i b (.ins C fs)) (hl : fs.lookup m = none) (hcs : ∀ p ∈ cs, ∃ i, CelIn en i p.1 p.2) (h : R cs [.r b] (.new ds)) (ht : MethTree c F o m apos [] pos pl := by exact fun _ => rfl) : XN c F (.Call (.Attribute o m apos) [] [] pos) en ds := by
  obtain ⟨fd, f1, f2, _⟩ := f.ex
  obtain ⟨t, p1, d1⟩ := ho
  refine ⟨tMeth C m (spK c.K R) [] E0 t tNil, fun i => pe_meth0 (pl := pl i) (p1 i) hC hm f1 (hr.mono hk) f2 .nil passN (ht i), fun {G0 G H0 H σ} Q s kk => d1 _ s fun A0 A x => ?_⟩
  obtain ⟨dx, gs, e1, q1⟩ := (s.step x).atI hi
  refine ⟨b, dx, gs, rfl, e1, q1.getN hl, A0, cs, _, _, x.sub, fun p hp => let ⟨i, hi⟩ := hcs p hp; (s.step x).at hi, .cons (.r b) .nil, h, fun l vs B0 B y n n0 e w => kk l vs B0 B (x.trans y) (fresh_back x.all n) n0 e w⟩
theorem c_methK {R : Cs → List Cv → Out → Prop} {pl : ι → Sem Bool} {D : Addr} (i : Nat) (tk : ∀ i, L2N.Takes (cx c (F i)) W) (f : FnS c.P c.w c.K c.mg c.base k fa ps (spK c.K R)) (hC : Cls c.K C) (hm : Meth c.K C m fa) (hr : Room j c.A) (hk : k ≤ j)
    (ho : XR c F o en (.ref b)) (hi : CelIn en i b (.ins C fs)) (hl : fs.lookup m = none) (hcs : ∀ p ∈ cs, ∃ i, CelIn en i p.1 p.2) (h : R cs [.r b] (.exc D)) (ht : MethTree c F o m apos [] pos pl := by exact fun _ => rfl) : XE c F W (.Call (.Attribute o m apos) [] [] pos) en D := by
  obtain ⟨fd, f1, f2, _⟩ := f.ex
  obtain ⟨t, p1, d1⟩ := ho
  refine ⟨tMS C m (spK c.K R) (WE W) t tNil, fun i => pe_mS0 (pl := pl i) (p1 i) hC hm f1 (hr.mono hk) f2 (fun σ => L2N.passAt (tk i) σ) (ht i), fun {G0 G H0 H σ} Q s kk => d1 _ s fun A0 A x => ?_⟩
  obtain ⟨dx, gs, e1, q1⟩ := (s.step x).atI hi
  refine ⟨b, dx, gs, rfl, e1, q1.getN hl, A0, cs, _, _, x.sub, fun p hp => let ⟨i, hi⟩ := hcs p hp; (s.step x).at hi, .cons (.r b) .nil, h, fun B0 B y => kk B0 B (x.trans y)⟩
end
end DL

set_option maxRecDepth 100000
set_option maxHeartbeats 4000000
namespace DL
open PySem PySem.Spec PyProof.Rows L2 Evl
variable {nn : Nat}
/-! ## stores to things of ours -/
def putC (f : Str) (v : Cv) : List (Str × Cv) → List (Str × Cv)
  | [] => [(f, v)]
  | (g, x) :: r => if g = f then (g, v) :: r else (g, x) :: putC f v r
theorem CvKey.put {K : PySem.W.Frag} {H : Hp} {f : Str} {v : V} {cv : Cv} (hv : CvAt K H v cv) : ∀ {gs : List (Str × V)} {fs : List (Str × Cv)}, CvKey K H gs fs → CvKey K H (putF f v gs) (putC f cv fs)
  | _, _, .nil => .cons hv .nil
  | _, _, .cons (k := k) hx q => by
    unfold putF putC
    by_cases h : k = f
    · rw [if_pos h, if_pos h]
      exact .cons hv q
    · rw [if_neg h, if_neg h]
      exact .cons hx (q.put hv)
def putKC (kvs : List (Key × Cv)) (k : Key) (v : Cv) : List (Key × Cv) :=
  if (kvs.any fun kv => decide (kv.1 = k)) = true then kvs.map (fun kv => if kv.1 = k then (kv.1, v) else kv) else kvs ++ [(k, v)]
theorem CvKey.any {K : PySem.W.Frag} {H : Hp} {k : Key} : ∀ {gs : List (Key × V)} {fs : List (Key × Cv)}, CvKey K H gs fs → (gs.any fun kv => decide (kv.1 = k)) = fs.any fun kv => decide (kv.1 = k)
  | _, _, .nil => rfl
  | _, _, .cons hv q => by rw [List.any_cons, List.any_cons, q.any]
theorem CvKey.mapK {K : PySem.W.Frag} {H : Hp} {k : Key} {v : V} {cv : Cv} (hv : CvAt K H v cv) : ∀ {gs : List (Key × V)} {fs : List (Key × Cv)}, CvKey K H gs fs → CvKey K H (gs.map fun kv => if kv.1 = k then (kv.1, v) else kv) (fs.map fun kv => if kv.1 = k then (kv.1, cv) else kv)
  | _, _, .nil => .nil
  | _, _, .cons (k := j) hx q => by
    rw [List.map_cons, List.map_cons]
    by_cases h : j = k
    · rw [if_pos h, if_pos h]
      exact .cons hv (q.mapK hv)
    · rw [if_neg h, if_neg h]
      exact .cons hx (q.mapK hv)
theorem CvKey.app {α : Type} {K : PySem.W.Frag} {H : Hp} : ∀ {gs gs2 : List (α × V)} {fs fs2 : List (α × Cv)}, CvKey K H gs fs → CvKey K H gs2 fs2 → CvKey K H (gs ++ gs2) (fs ++ fs2)
  | _, _, _, _, .nil, r => r
  | _, _, _, _, .cons h q, r => .cons h (q.app r)
theorem CvKey.putK {K : PySem.W.Frag} {H : Hp} {k : Key} {v : V} {cv : Cv} (hv : CvAt K H v cv) {gs : List (Key × V)} {fs : List (Key × Cv)} (q : CvKey K H gs fs) : CvKey K H (L2.putK gs k v) (putKC fs k cv) := by
  unfold L2.putK putKC
  rw [q.any]
  split
  · exact q.mapK hv
  · exact q.app (.cons hv .nil)
section
variable {c : Fx} {ι : Type} {F : ι → Vr} {W : WX} {en : List Sv} {e e1 e2 o : Expr} {es : List Expr} {pos pos' p p1 p2 tp apos cpos : Pos} {f f2 f3 x y : Str} {a l C fa : Addr} {fs : List (Str × Cv)} {P : Po} {d d1 d2 : Dt} {ds xs zs : List Dt} {k j m : Nat} {cs : List Cv} {ps : List Str}
theorem s_fld (i : Nat) (ho : XR c F o en (.ref a)) (h : XD c F e en d) (hi : en[i]? = some (Sv.cell a (.ins C fs))) (q : P.nx (en.set i (Sv.cell a (.ins C (putC f (.d d) fs))))) (hc : Cls c.K C) (hn : NoAttr c.K C f) (hl : fs.length < 1000 := by exact Nat.le_of_ble_eq_true rfl)
    (hs : ∀ i, swapsWith e (some (.Attribute o f pos')) pos.line (cx c (F i)).env = pure false := by exact fun _ => rfl) : XS c F W (.Assign [.Attribute o f pos'] e pos) en P := by
  obtain ⟨t1, q1, d1⟩ := ho
  obtain ⟨t2, q2, d2⟩ := h
  refine ⟨sFld c.K t1 t2 f, fun q => ps_fld (q1 q) (q2 q) (hs q), fun {G0 G H0 H σ D} s oo => d2 _ s fun v I0 I x w => d1 _ (s.step x) fun J0 J y => ?_⟩
  have s2 := (s.step x).step y
  obtain ⟨dx, gs, h3, u⟩ := s2.atI (.inl hi)
  refine ⟨a, C, dx, gs, rfl, h3, hc, hn, by rw [u.len]; exact hl, ?_⟩
  exact oo.nx J0 _ _ _ (x.pub.trans y.pub) (s2.writeC hi (.ins (u.put (.d (dp_mono y.pub w))))) q
/-- .. a new list, which becomes a cell -/
theorem s_fldN (i : Nat) (ho : ∀ l, XR c F o (en ++ [Sv.cell l (.lst (ds.map Cv.d))]) (.ref a)) (h : XN c F e en ds) (hi : en[i]? = some (Sv.cell a (.ins C fs))) (q : ∀ l, P.nx ((en ++ [Sv.cell l (.lst (ds.map Cv.d))]).set i (Sv.cell a (.ins C (putC f (.r l) fs))))) (hc : Cls c.K C) (hn : NoAttr c.K C f) (hl : fs.length < 1000 := by exact Nat.le_of_ble_eq_true rfl)
    (hs : ∀ i, swapsWith e (some (.Attribute o f pos')) pos.line (cx c (F i)).env = pure false := by exact fun _ => rfl) : XS c F W (.Assign [.Attribute o f pos'] e pos) en P := by
  refine ⟨sFld c.K (uE c F o) (uE c F e) f, fun q => ps_fld (uE_ok q) (uE_ok q) (hs q), fun {G0 G H0 H σ D} s oo => g_cel (W := W) h _ s (fun o2 v I0 I en1 m x s1 w => ?_) fun C2 I0 I en1 m x s1 => ?_⟩
  · obtain ⟨l, rfl, rfl⟩ := m
    cases w
    obtain ⟨t1, q1, d1⟩ := ho l
    refine ⟨t1, q1, d1 _ s1 fun J0 J y => ?_⟩
    have s2 := s1.step y
    have hi2 : (en ++ [Sv.cell l (.lst (ds.map Cv.d))])[i]? = some (Sv.cell a (.ins C fs)) := by rw [List.getElem?_append_left (List.getElem?_eq_some_iff.mp hi).1]; exact hi
    obtain ⟨dx, gs, h3, u⟩ := s2.atI (.inl hi2)
    refine ⟨a, C, dx, gs, rfl, h3, hc, hn, by rw [u.len]; exact hl, ?_⟩
    exact oo.nx J0 _ _ _ (x.trans y.pub) (s2.writeC hi2 (.ins (u.put (.r l)))) (q l)
  · obtain ⟨l, z, _⟩ := m
    cases z
/-- x, o.f2, o.f3 = g(..), whose first thing is a new list -/
theorem s_unpF (i j1 : Nat) {o' : Expr} {R : List Dt → Out → Prop} {g : Str} {pc p3 : Pos} {as : List Dt} (f : Fn c.P c.w c.K c.mg c.base k fa ps R) (hm : c.mg g = some (.ref fa)) (hr : Room j c.A) (hk : k ≤ j) (ha : XA c F (e :: es) en as) (h : R as (.newT ds [d1, d2]))
    (ho : XR c F o (en.set j1 (.own ds)) (.ref a)) (ho2 : XR c F o' ((en.set j1 (.own ds)).set i (.cell a (.ins C (putC f2 (.d d1) fs)))) (.ref a)) (hi : (en.set j1 (.own ds))[i]? = some (Sv.cell a (.ins C fs)))
    (q : P.nx ((en.set j1 (.own ds)).set i (.cell a (.ins C (putC f3 (.d d2) (putC f2 (.d d1) fs)))))) (hc : Cls c.K C) (hn2 : NoAttr c.K C f2) (hn3 : NoAttr c.K C f3)
    (hps : ∀ i t t1 t2, PE (cx c (F i)) (.Call (.Name g pc) (e :: es) [] cpos) t → PE (cx c (F i)) o t1 → PE (cx c (F i)) o' t2 → PS (cx c (F i)) (.Assign [.Tuple [.Name x p1, .Attribute o f2 p2, .Attribute o' f3 p3] m tp] (.Call (.Name g pc) (e :: es) [] cpos) pos) (tAsg t (gTup c.K 3 (gCons (gName j1) (gCons (gFld c.K t1 f2) (gCons (gFld c.K t2 f3) gNil))))))
    (hj : c.N[j1]? = some x := by rfl) (hl : fs.length < 900 := by exact Nat.le_of_ble_eq_true rfl) (hg : ∀ i, Gl (cx c (F i)) g := by exact fun _ => rfl)
    (hdb : (g == ("__debug__" : Str)) = false := by decide) (s1 : Pl c F e es := by exact fun _ => rfl) (s2 : Bt c F cpos es := by exact fun _ => rfl) :
    XS c F W (.Assign [.Tuple [.Name x p1, .Attribute o f2 p2, .Attribute o' f3 p3] m tp] (.Call (.Name g pc) (e :: es) [] cpos) pos) en P := by
  obtain ⟨fd, f1, f4, _⟩ := f.ex
  obtain ⟨t1, q1, e1⟩ := ha
  obtain ⟨t2, q2, e2⟩ := ho
  obtain ⟨t3, q3, e3⟩ := ho2
  refine ⟨_, fun i => hps i _ _ _ (pe_call f1 (hr.mono hk) (hg i) hm f.kp f4 .nil passN (q1 i) hdb (s1 i) (s2 i)) (q2 i) (q3 i), fun {G0 G H0 H σ D} s oo => e1 _ s fun vs I0 I x w => ?_⟩
  rw [List.append_nil]
  refine ⟨I0, as, _, x.sub, w, h, fun tp l us ws J0 J y n n0 el uw sq ww => ?_⟩
  cases ww with
  | cons w1 ww =>
    cases ww with
    | cons w2 ww =>
      cases ww
      have sx := (s.step x).step y
      have nl : NewL c.K G J0 J σ en l us ds := NewL.fresh (s.step x) n n0 el uw
      have s3 := sx.setNew nl j1 (ltN hj)
      refine ⟨tp, _, rfl, sq, rfl, _, _, rfl, _, _, rfl, e2 _ s3 fun A0 A u => ?_⟩
      have s4 := s3.step u
      obtain ⟨dx, gs, h3, v⟩ := s4.atI (.inl hi)
      refine ⟨a, C, dx, gs, rfl, h3, hc, hn2, by rw [v.len]; omega, ?_⟩
      have s5 := s4.writeC (c' := .ins C (putC f2 (.d d1) fs)) (o := .ins C dx (putF f2 _ gs)) hi (.ins (v.put (.d (dp_mono u.pub w1))))
      have hi5 : ((en.set j1 (Sv.own ds)).set i (.cell a (.ins C (putC f2 (.d d1) fs))))[i]? = some (Sv.cell a (.ins C (putC f2 (.d d1) fs))) := List.getElem?_set_self (List.getElem?_eq_some_iff.mp hi).1
      refine ⟨_, _, rfl, e3 _ s5 fun B0 B z => ?_⟩
      have s6 := s5.step z
      obtain ⟨dx2, gs2, h6, v6⟩ := s6.atI (.inl hi5)
      have len2 : ∀ (fs : List (Str × Cv)) (f : Str) (v : Cv), (putC f v fs).length ≤ fs.length + 1 := by
        intro fs f v
        induction fs with
        | nil => exact Nat.le_refl _
        | cons g r ih =>
          unfold putC
          split
          · simp
          · rw [List.length_cons, List.length_cons]; omega
      have := len2 fs f2 (.d d1)
      refine ⟨a, C, dx2, gs2, rfl, h6, hc, hn3, by rw [v6.len]; omega, rfl, ?_⟩
      have s7 := s6.writeC (c' := .ins C (putC f3 (.d d2) (putC f2 (.d d1) fs))) (o := .ins C dx2 (putF f3 _ gs2)) hi5 (.ins (v6.put (.d (dp_mono z.pub (dp_mono u.pub w2)))))
      rw [List.set_set] at s7
      exact oo.nx B0 _ _ _ ((((x.pub.trans y.pub).trans u.pub).trans z.pub)) s7 q
/-! lists in cells grow -/
abbrev Few1 (c : Fx) {ι : Type} (F : ι → Vr) (cpos : Pos) (e : Expr) : Prop := ∀ i, ((backTo cpos (starEach [e] (cx c (F i)).env)).all (fun x => !x.1) && (backToKw cpos (keywordEach [] (cx c (F i)).env)).all (fun x => x.1.isSome) && decide (([e] : List Expr).length + ([] : List Keyword).length + (if ([] : List Keyword).isEmpty then 0 else 1) < 30)) = true
theorem s_extG (i : Nat) {M : Out → List Sv → Prop} (ho : XR c F o en (.ref l)) (hi : CelIn en i l (.lst cs)) (h : XG c F W e en M) (q : ∀ o en', M o en' → match o with
      | .new zs => ∃ xs : List Dt, en'[i]? = some (.cell l (.lst (xs.map Cv.d))) ∧ xs.length + zs.length ≤ 100000 ∧ P.nx (en'.set i (.cell l (.lst ((xs ++ zs).map Cv.d))))
      | .exc C => P.ex C en'
      | _ => False) (hb : ∀ i, attributeBase o "extend" (cx c (F i)).env (eval o (cx c (F i)).env) = eval o (cx c (F i)).env := by exact fun _ => rfl)
    (hfew : Few1 c F cpos e := by exact fun _ => rfl)
    (hline : (apos.endLine == cpos.line) = true := by rfl) (s1 : Pl c F e [] := by exact fun _ => rfl) (hs : ∀ i, swapsWith (.Call (.Attribute o "extend" apos) [e] [] cpos) none pos.line (cx c (F i)).env = pure false := by exact fun _ => rfl) :
    XS c F W (.Expr (.Call (.Attribute o "extend" apos) [e] [] cpos) pos) en P := by
  obtain ⟨t1, q1, d1⟩ := ho
  refine ⟨tDrop (tBM c.K "list" rExtend t1 (tCons (uE c F e) tNil)), fun i => ps_expr (pe_bm PySem.F.plainAttrs_list PySem.F.slot_list_extend PySem.F.type_list_extend mt_extend (q1 i) (pa_cons (uE_ok i) pa_nil (s1 i)) (hb i) (hfew i) hline (s1 i) rfl) (hs i), fun {G0 G H0 H σ D} s oo => d1 _ s fun A0 A x => ?_⟩
  obtain ⟨vs, h1, _⟩ := (s.step x).atL hi
  refine ⟨Or.inl ⟨rfl, vs, SqL.of h1⟩, h _ (s.step x) (fun o2 v B0 B en' m y s2 w => ?_) fun C2 B0 B en' m y s2 => oo.ex C2 B0 B _ _ (x.pub.trans y) s2 (q _ _ m)⟩
  have g := q o2 en' m
  cases o2 with
  | new zs =>
    obtain ⟨b, us, rfl, n⟩ := w
    obtain ⟨xs, g1, g2, g3⟩ := g
    obtain ⟨ws, h3, h4⟩ := s2.atL (.inl g1)
    refine ⟨l, b, ws, us, rfl, rfl, h3, n.h, by rw [h4.len, dpa_len n.w, List.length_map]; exact sz_of g2, ?_⟩
    exact oo.nx B0 _ _ _ (x.pub.trans y) (s2.writeC g1 (.lst (dwa_cva (dpa_app (cva_dwa h4) n.w)))) g3
  | exc C2 => exact w.elim
  | _ => exact g.elim
theorem s_ext (i : Nat) (ho : XR c F o en (.ref l)) (hi : en[i]? = some (.cell l (.lst (xs.map Cv.d)))) (h : XLs c F e en zs) (hlen : xs.length + zs.length ≤ 100000) (q : P.nx (en.set i (.cell l (.lst ((xs ++ zs).map Cv.d))))) (hb : ∀ i, attributeBase o "extend" (cx c (F i)).env (eval o (cx c (F i)).env) = eval o (cx c (F i)).env := by exact fun _ => rfl)
    (hfew : Few1 c F cpos e := by exact fun _ => rfl)
    (hline : (apos.endLine == cpos.line) = true := by rfl) (s1 : Pl c F e [] := by exact fun _ => rfl) (hs : ∀ i, swapsWith (.Call (.Attribute o "extend" apos) [e] [] cpos) none pos.line (cx c (F i)).env = pure false := by exact fun _ => rfl) :
    XS c F W (.Expr (.Call (.Attribute o "extend" apos) [e] [] cpos) pos) en P := by
  obtain ⟨t1, q1, d1⟩ := ho
  obtain ⟨t2, q2, d2⟩ := h
  refine ⟨tDrop (tBM c.K "list" rExtend t1 (tCons t2 tNil)), fun i => ps_expr (pe_bm PySem.F.plainAttrs_list PySem.F.slot_list_extend PySem.F.type_list_extend mt_extend (q1 i) (pa_cons (q2 i) pa_nil (s1 i)) (hb i) (hfew i) hline (s1 i) rfl) (hs i), fun {G0 G H0 H σ D} s oo => d1 _ s fun A0 A x => ?_⟩
  obtain ⟨vs, h1, _⟩ := (s.step x).atL (.inl hi)
  refine ⟨Or.inl ⟨rfl, vs, SqL.of h1⟩, d2 _ (s.step x) fun b us B0 B y hb w => ?_⟩
  have s2 := (s.step x).step y
  obtain ⟨ws, h3, h4⟩ := s2.atL (.inl hi)
  refine ⟨l, b, ws, us, rfl, rfl, h3, hb, by rw [h4.len, dpa_len w, List.length_map]; exact sz_of hlen, ?_⟩
  exact oo.nx B0 _ _ _ (x.pub.trans y.pub) (s2.writeC hi (.lst (dwa_cva (dpa_app (cva_dwa h4) w)))) q
theorem s_app (i : Nat) (ho : XR c F o en (.ref l)) (hi : en[i]? = some (.cell l (.lst cs))) (h : XD c F e en d) (hlen : cs.length < 100000) (q : P.nx (en.set i (.cell l (.lst (cs ++ [.d d]))))) (hb : ∀ i, attributeBase o "append" (cx c (F i)).env (eval o (cx c (F i)).env) = eval o (cx c (F i)).env := by exact fun _ => rfl)
    (hfew : Few1 c F cpos e := by exact fun _ => rfl)
    (hline : (apos.endLine == cpos.line) = true := by rfl) (s1 : Pl c F e [] := by exact fun _ => rfl) (hs : ∀ i, swapsWith (.Call (.Attribute o "append" apos) [e] [] cpos) none pos.line (cx c (F i)).env = pure false := by exact fun _ => rfl) :
    XS c F W (.Expr (.Call (.Attribute o "append" apos) [e] [] cpos) pos) en P := by
  obtain ⟨t1, q1, d1⟩ := ho
  obtain ⟨t2, q2, d2⟩ := h
  refine ⟨tDrop (tBM c.K "list" rAppend t1 (tCons t2 tNil)), fun i => ps_expr (pe_bm PySem.F.plainAttrs_list PySem.F.slot_list_append PySem.F.type_list_append mt_append (q1 i) (pa_cons (q2 i) pa_nil (s1 i)) (hb i) (hfew i) hline (s1 i) rfl) (hs i), fun {G0 G H0 H σ D} s oo => d1 _ s fun A0 A x => ?_⟩
  obtain ⟨vs, h1, _⟩ := (s.step x).atL (.inl hi)
  refine ⟨Or.inl ⟨rfl, vs, SqL.of h1⟩, d2 _ (s.step x) fun v B0 B y w => ?_⟩
  have s2 := (s.step x).step y
  obtain ⟨ws, h3, h4⟩ := s2.atL (.inl hi)
  refine ⟨l, ws, v, rfl, rfl, h3, by rw [h4.len]; exact sz_lt hlen, ?_⟩
  exact oo.nx B0 _ _ _ (x.pub.trans y.pub) (s2.writeC hi (.lst (h4.snoc (.d w)))) q
/-! dicts -/
theorem s_key (i : Nat) {z : Str} {kvs : List (Key × Cv)} {kp : Pos} {mm} (hu : c.A.units + 64 < cLine) (ho : XR c F o en (.ref a)) (h : XD c F e en d) (hi : en[i]? = some (.cell a (.dct kvs))) (q : P.nx (en.set i (.cell a (.dct (putKC kvs (.inr z) (.d d)))))) (hl : kvs.length < 1000 := by exact Nat.le_of_ble_eq_true rfl)
    (hs : ∀ i, swapsWith e (some (.Subscript o (.Constant (.str z) mm kp) pos')) pos.line (cx c (F i)).env = pure false := by exact fun _ => rfl) : XS c F W (.Assign [.Subscript o (.Constant (.str z) mm kp) pos'] e pos) en P := by
  obtain ⟨t1, q1, d1⟩ := ho
  obtain ⟨t2, q2, d2⟩ := h
  refine ⟨sDPut t1 (tC (.str z)) t2, fun q => ps_dput (by show c.A.units + 1 < cLine; omega) (q1 q) pe_str (q2 q) (hs q), fun {G0 G H0 H σ D} s oo => d2 _ s fun v I0 I x w => d1 _ (s.step x) fun J0 J y => ?_⟩
  have s2 := (s.step x).step y
  obtain ⟨gs, h3, u⟩ := s2.atD (.inl hi)
  refine ⟨a, _, rfl, DPut.k (k := .inr z) h3 (by rw [u.len]; exact sz_lt (by omega)), ?_⟩
  exact oo.nx J0 _ _ _ (x.pub.trans y.pub) (s2.writeC hi (.dct (u.putK (.d (dp_mono y.pub w))))) q
def uTrs (c : Fx) {ι : Type} (F : ι → Vr) : List (Option Expr) → List Expr → List (TE × TE)
  | some k :: ks, v :: vs => (uE c F k, uE c F v) :: uTrs c F ks vs
  | _, _ => []
theorem uTrs_ok (i : ι) {pos : Pos} : ∀ {ks : List (Option Expr)} {vs : List Expr}, ks.all (·.isSome) = true → ks.length = vs.length → PPs (cx c (F i)) pos ks vs (uTrs c F ks vs)
  | [], [], _, _ => pps_nil
  | some k :: ks, v :: vs, h, hl => pps_cons (uE_ok i) (uE_ok i) (uTrs_ok i (by simpa using h) (by simpa using hl))
  | none :: _, _, h, _ => by simp at h
  | [], _ :: _, _, h => by simp at h
  | some _ :: _, [], _, h => by simp at h
def XPs (c : Fx) {ι : Type} (F : ι → Vr) (ks : List (Option Expr)) (vs : List Expr) (en : List Sv) (M : List (Str × Cv) → List Sv → Prop) : Prop := ∀ {G0 G H0 H : Hp} {σ : L2.St} (Q : List (V × V) → Hp → Prop), SR c.N.length c.K G0 G H0 H σ en →
  (∀ kvs gs H0' H' en', M kvs en' → Ex H0 H0' → SR c.N.length c.K G0 G H0' H' σ en' → CvKey c.K H0' gs kvs → Q (gs.map fun kv => (.str kv.1, kv.2)) H') → tPairs (uTrs c F ks vs) σ H Q
theorem xp_nil : XPs c F [] [] en (fun kvs en' => kvs = [] ∧ en' = en) := fun Q s k => k [] [] _ _ en ⟨rfl, rfl⟩ (Ex.refl _) s .nil
theorem XPs.imp {ks : List (Option Expr)} {vs : List Expr} {M N : List (Str × Cv) → List Sv → Prop} (h : XPs c F ks vs en M) (q : ∀ kvs en', M kvs en' → N kvs en') : XPs c F ks vs en N := fun Q s k => h Q s fun kvs gs A0 A en' m => k kvs gs A0 A en' (q _ _ m)
theorem xp_cons {z : Str} {mm} {kp : Pos} {ks : List (Option Expr)} {vs : List Expr} {M1 : Out → List Sv → Prop} {M : List (Str × Cv) → List Sv → Prop} (h1 : XG c F noW e en M1) (h2 : ∀ o en1, M1 o en1 → match o with
      | .ret d => XPs c F ks vs en1 (fun kvs en' => M ((z, .d d) :: kvs) en')
      | .raw (.ref a) => XPs c F ks vs en1 (fun kvs en' => M ((z, .r a) :: kvs) en')
      | _ => False) : XPs c F (some (.Constant (.str z) mm kp) :: ks) (e :: vs) en M := fun {G0 G H0 H σ} Q s k =>
  ⟨tC (.str z), fun i => pe_str, h1 _ s (fun o v A0 A en1 m x s2 w => by
    have h := h2 o en1 m
    cases o with
    | ret d => exact h _ s2 fun kvs gs B0 B en2 m2 y s3 w2 => k ((z, .d d) :: kvs) ((z, v) :: gs) B0 B en2 m2 (x.trans y) s3 (.cons (.d (dp_mono y w)) w2)
    | raw u =>
      cases w
      cases v with
      | ref a => exact h _ s2 fun kvs gs B0 B en2 m2 y s3 w2 => k ((z, .r a) :: kvs) ((z, .ref a) :: gs) B0 B en2 m2 (x.trans y) s3 (.cons (.r a) w2)
      | _ => exact h.elim
    | exc C => exact w.elim
    | _ => exact h.elim) fun C A0 A en1 m x s2 => (h2 _ _ m).elim⟩
theorem merge_all : ∀ (gs acc : List (Key × V)), (acc.map (·.1) ++ gs.map (·.1)).Nodup → mergeK acc gs = acc ++ gs
  | [], acc, _ => by show acc = acc ++ []; rw [List.append_nil]
  | p :: gs, acc, h => by
    have hn : valV acc p.1 = none := by
      cases e : valV acc p.1 with
      | none => rfl
      | some v =>
        have := valV_in e
        rw [List.map_cons] at h
        exact absurd rfl ((List.nodup_append.mp h).2.2 _ this _ List.mem_cons_self)
    show mergeK (L2.putK acc p.1 p.2) gs = _
    rw [putK_new p.2 hn, merge_all gs (acc ++ [(p.1, p.2)]) (by rw [List.map_append, List.append_assoc]; exact h), List.append_assoc]
    rfl
theorem CvKey.keys {α : Type} {K : PySem.W.Frag} {H : Hp} : ∀ {gs : List (α × V)} {fs : List (α × Cv)}, CvKey K H gs fs → gs.map (·.1) = fs.map (·.1)
  | _, _, .nil => rfl
  | _, _, .cons _ q => by rw [List.map_cons, List.map_cons, q.keys]
theorem CvKey.inr {K : PySem.W.Frag} {H : Hp} : ∀ {gs : List (Str × V)} {fs : List (Str × Cv)}, CvKey K H gs fs → CvKey K H (gs.map fun kv => ((.inr kv.1 : Key), kv.2)) (fs.map fun kv => ((.inr kv.1 : Key), kv.2))
  | _, _, .nil => .nil
  | _, _, .cons h q => .cons h q.inr
abbrev kvD (kvs : List (Str × Cv)) : List (Key × Cv) := kvs.map fun kv => (.inr kv.1, kv.2)
theorem g_disp {ks : List (Option Expr)} {vs : List Expr} {N : Out → List Sv → Prop} (h : ∀ p, XPs c F ks vs (en ++ [Sv.cell p (.dct [])]) (fun kvs en' => en'[en.length]? = some (.cell p (.dct [])) ∧ (kvs.map (·.1)).Nodup ∧ kvs.length ≤ 15 ∧ N (.raw (.ref p)) (en'.set en.length (.cell p (.dct (kvD kvs))))))
    (h1 : ks.all (·.isSome) = true := by rfl) (h2 : ks.length = vs.length := by rfl) (h0 : ks ≠ [] := by exact fun z => by cases z) (h15 : ks.length ≤ 15 := by decide) : XG c F W (.Dict ks vs pos) en N :=
  XG.mk (t := tDisp (uTrs c F ks vs)) (fun i => pe_disp (uTrs_ok i h1 h2) h1 h2 h0 h15) fun {G0 G H0 H σ} Q s k _ p hp => by
    refine h p _ (s.newC hp (.dct .nil)) fun kvs gs A0 A en' m x s2 w => ?_
    obtain ⟨m1, m2, m3, m4⟩ := m
    obtain ⟨us, g1, g2⟩ := s2.atD (.inl m1)
    cases g2
    refine ⟨g1, gs.map fun kv => ((.inr kv.1 : Key), kv.2), by rw [List.map_map] <;> rfl, by rw [List.length_map, w.len]; exact m3, ?_⟩
    rw [merge_all _ [] (by
      rw [List.map_nil, List.nil_append, List.map_map, show ((fun x : Key × V => x.1) ∘ fun kv : Str × V => ((Sum.inr kv.1 : Key), kv.2)) = (fun z : Str => (Sum.inr z : Key)) ∘ (·.1) from rfl, ← List.map_map, w.keys]
      exact List.Pairwise.map _ (fun a b hab z => hab (Sum.inr.inj z)) m2), List.nil_append]
    exact k _ _ A0 _ _ m4 x (s2.writeC m1 (.dct w.inr)) rfl
/-- a list of things of ours -/
theorem g_listR {MA : List Cv → List Sv → Prop} {X : Addr → List Sv → Prop} {N : Out → List Sv → Prop} (ha : XAs c F W es en MA X) (q : ∀ as en1, MA as en1 → as.length ≤ 1000 ∧ ∀ l, N (.raw (.ref l)) (en1 ++ [Sv.cell l (.lst as)])) (hx : ∀ C en1, X C en1 → N (.exc C) en1) : XG c F W (.List es pos) en N :=
  XG.mk (t := tLst (uA c F es)) (fun i => pe_lst (uA_ok i)) fun {G0 G H0 H σ} Q s k kx => ha _ s (fun as vs A0 A en1 m x s2 w => by
    obtain ⟨h1, h2⟩ := q as en1 m
    exact ⟨by rw [w.len]; exact sz_of (by omega), fun l hl => k _ _ A0 _ _ (h2 l) x (s2.newC hl (.lst w)) rfl⟩) fun C A0 A en1 m x => kx C A0 A en1 (hx _ _ m) x
/-! a list in a cell, seen as a datum -/
theorem SR.viewC {K : PySem.W.Frag} {G0 G H0 H : Hp} {σ : L2.St} (r : SR nn K G0 G H0 H σ en) {i j : Nat} (hj : en[j]? = some (.v (.ref a))) (hi : en[i]? = some (.cell a (.lst (xs.map Cv.d)))) : ∃ J0, Ex H0 J0 ∧ SR nn K G0 G J0 H σ ((en.set i .no).set j (.d (.list xs))) := by
  obtain ⟨h1, h2, o, h3, h4⟩ := r.cel i a _ hi
  cases h4 with
  | @lst vs _ w =>
    have up : Ex H0 (upd H0 a (.lst vs)) := Ex.new h2
    have f : ∀ {m : Nat} {s : Sv}, ((en.set i .no).set j (.d (.list xs)))[m]? = some s → (m = j ∧ s = .d (.list xs)) ∨ s = .no ∨ (m ≠ i ∧ en[m]? = some s) := fun {m s} e => by
      rcases set_get e with ⟨rfl, q⟩ | ⟨_, q⟩
      · exact .inl ⟨rfl, q⟩
      · rcases set_get q with ⟨_, q2⟩ | ⟨n, q2⟩
        · exact .inr (.inl q2)
        · exact .inr (.inr ⟨Ne.symm n, q2⟩)
    refine ⟨upd H0 a (.lst vs), up, r.ext.open_ h1 h2 h3, r.len, fun m d e => ?_, fun m ys e => ?_, fun m x e => ?_, fun m k ys zs l e1 e2 e3 e4 => ?_, fun m b d e => ?_, fun m k b d d' e1 e2 => ?_, fun m k b d ys e1 e2 e3 => ?_, fun m b d e => ?_⟩
    · rcases f e with ⟨rfl, q⟩ | q | ⟨_, q⟩
      · cases q
        exact ⟨_, r.raw _ _ hj, .lst upd_same (dpa_mono up (cva_dwa w))⟩
      · cases q
      · obtain ⟨v, b1, b2⟩ := r.dat m d q
        exact ⟨v, b1, dp_mono up b2⟩
    · rcases f e with ⟨rfl, q⟩ | q | ⟨_, q⟩
      · cases q
      · cases q
      · obtain ⟨l2, us, b1, b2, b3, b4, b5⟩ := r.own m ys q
        have ne : l2 ≠ a := fun z => by
          subst z
          exact r.cown i m l2 _ ys hi q b1
        exact ⟨l2, us, b1, b2, by rw [upd_ne ne]; exact b3, b4, dpa_mono up b5⟩
    · rcases f e with ⟨rfl, q⟩ | q | ⟨_, q⟩
      · cases q
      · cases q
      · exact r.raw m x q
    · rcases f e1 with ⟨rfl, q⟩ | q | ⟨_, q⟩
      · cases q
      · cases q
      · rcases f e2 with ⟨rfl, q2⟩ | q2 | ⟨_, q2⟩
        · cases q2
        · cases q2
        · exact r.dis m k ys zs l q q2 e3 e4
    · rcases f e with ⟨rfl, q⟩ | q | ⟨nm, q⟩
      · cases q
      · cases q
      · obtain ⟨g1, g2, o2, g3, g4⟩ := r.cel m b d q
        have ne : b ≠ a := fun z => by
          subst z
          exact nm (r.cdis m i b d _ q hi)
        exact ⟨g1, by rw [upd_ne ne]; exact g2, o2, g3, g4.mono up⟩
    · rcases f e1 with ⟨rfl, q⟩ | q | ⟨_, q⟩
      · cases q
      · cases q
      · rcases f e2 with ⟨rfl, q2⟩ | q2 | ⟨_, q2⟩
        · cases q2
        · cases q2
        · exact r.cdis m k b d d' q q2
    · rcases f e1 with ⟨rfl, q⟩ | q | ⟨_, q⟩
      · cases q
      · cases q
      · rcases f e2 with ⟨rfl, q2⟩ | q2 | ⟨_, q2⟩
        · cases q2
        · cases q2
        · exact r.cown m k b d ys q q2 e3
    · rcases f e with ⟨rfl, q⟩ | q | ⟨_, q⟩
      · cases q
      · cases q
      · obtain ⟨o2, g, u⟩ := r.rdc m b d q
        exact ⟨o2, g, u.mono up⟩
theorem x_viewC (i j : Nat) (h : XD c F e ((en.set i .no).set j (.d (.list xs))) d) (hj : en[j]? = some (.v (.ref a)) := by rfl) (hi : en[i]? = some (.cell a (.lst (xs.map Cv.d))) := by rfl) (f : flatD d = true := by rfl) : XD c F e en d :=
  let ⟨t, p, q⟩ := h
  ⟨t, p, fun Q s k => by
    obtain ⟨J0, u, s2⟩ := s.viewC hj hi
    exact q Q s2 fun v I0 I x w => k v _ I (Ext.unview s.sub x) (flat_dw w f)⟩
theorem t_viewC (i j : Nat) {b : Bool} (h : XT c F e ((en.set i .no).set j (.d (.list xs))) b) (hj : en[j]? = some (.v (.ref a)) := by rfl) (hi : en[i]? = some (.cell a (.lst (xs.map Cv.d))) := by rfl) : XT c F e en b :=
  let ⟨t, p, q⟩ := h
  ⟨t, p, fun Q s k => by
    obtain ⟨J0, u, s2⟩ := s.viewC hj hi
    exact q Q s2 fun I0 I x => k _ I (Ext.unview s.sub x)⟩
theorem XB.viewC {sts : List Stmt} (i j : Nat) (h : XB c F W sts ((en.set i .no).set j (.d (.list xs))) P) (hj : en[j]? = some (.v (.ref a)) := by rfl) (hi : en[i]? = some (.cell a (.lst (xs.map Cv.d))) := by rfl) : XB c F W sts en P := by
  obtain ⟨t, p, r⟩ := h
  refine ⟨t, p, fun s o => ?_⟩
  obtain ⟨J0, u, s2⟩ := s.viewC hj hi
  exact r s2 (o.mono u)
end
end DL
namespace DL
open PySem PySem.Spec PyProof.Rows L2 Evl
theorem cin_nil {en : List Sv} : ∀ p ∈ ([] : Cs), ∃ i, CelIn en i p.1 p.2 := fun _ h => by cases h
theorem cin_cons {en : List Sv} {a : Addr} {c : Cl} {cs : Cs} (i : Nat) (h : CelIn en i a c) (r : ∀ p ∈ cs, ∃ i, CelIn en i p.1 p.2) : ∀ p ∈ (a, c) :: cs, ∃ i, CelIn en i p.1 p.2 := fun p hp => by
  rcases List.mem_cons.mp hp with rfl | hp
  · exact ⟨i, h⟩
  · exact r p hp
theorem def_meth {K : PySem.W.Frag} {C m q : Str} {st : Stmt} (h : ∃ oc od osl kV doc pm an cdv ct, K.lookup (He.fAd K (C, some m)) = some ⟨oc, od, .func (PySem.W.fnOf m q (defArgs st) (defBody st) (defScope st) .none kV doc pm an cdv ct), osl⟩ ∧ PySem.W.codeIn K cdv q = true) (k : (He.Fa.meth C m).ok K = true) :
    ∃ fd, Fun K m q st (He.ma K (He.ga K C) m) fd := by
  obtain ⟨oc, od, osl, kV, doc, pm, an, cdv, ct, l, c⟩ := h
  exact ⟨_, fun_mk l c (He.meth_ok k).kp⟩
end DL
namespace DL
open PySem PySem.Spec PyProof.Rows L2 Evl
theorem pre1 {a : Addr} {x x' : Cl} {t : Cs} : ([(a, x)] : Cs).map (·.1) <+: (((a, x') :: t : Cs)).map (·.1) := ⟨t.map (·.1), rfl⟩
theorem pre2 {a b : Addr} {x x' y y' : Cl} {t : Cs} : ([(a, x), (b, y)] : Cs).map (·.1) <+: (((a, x') :: (b, y') :: t : Cs)).map (·.1) := ⟨t.map (·.1), rfl⟩
theorem pre3 {a b c : Addr} {x x' y y' z z' : Cl} {t : Cs} : ([(a, x), (b, y), (c, z)] : Cs).map (·.1) <+: (((a, x') :: (b, y') :: (c, z') :: t : Cs)).map (·.1) := ⟨t.map (·.1), rfl⟩
theorem pre4 {a b c d : Addr} {x x' y y' z z' u u' : Cl} {t : Cs} : ([(a, x), (b, y), (c, z), (d, u)] : Cs).map (·.1) <+: (((a, x') :: (b, y') :: (c, z') :: (d, u') :: t : Cs)).map (·.1) := ⟨t.map (·.1), rfl⟩
end DL

set_option maxRecDepth 100000
set_option maxHeartbeats 4000000
namespace DL
open PySem PySem.Spec PyProof.Rows L2 Evl
variable {nn : Nat}
/-! ## loops over two bounds, over pairs -/
section
variable {c : Fx} {ι : Type} {F : ι → Vr} {W : WX} {en : List Sv} {e e1 e2 iter : Expr} {es : List Expr} {a b d : Dt} {ds : List Dt} {pos p p2 p3 tp : Pos} {x y : Str} {P : Po} {body : List Stmt}
theorem s_forR2 (j : Nat) {lo hi : Int} (hN : c.N.Nodup) (hp : ∀ i, PassesOwn (model c.P c.w) c.A (F i).env (F i).xe) (h1 : XD c F e1 en (.int lo)) (h2 : XD c F e2 en (.int hi)) (hn : (-100000 ≤ lo ∧ lo ≤ 100000) ∧ -100000 ≤ hi ∧ hi ≤ 100000) (hm : c.mg "range" = none) (Inv : Nat → List Sv → Prop) (h0 : Inv 0 en)
    (hs : ∀ (i : Nat) en', lo + (i : Int) < hi → Inv i en' → XB c F W body (en'.set j (Sv.d (.int (lo + (i : Int))))) (P.loop (Inv (i + 1)))) (hd : ∀ en', Inv (hi - lo).toNat en' → P.nx en') (hc : c.calm = true := by rfl) (hj : c.N[j]? = some x := by rfl) (hx : ∀ i, Loc (F i).env.scope x := by first | exact fun _ => Or.inl rfl | exact fun _ => Or.inr rfl)
    (hf : ∀ i, (F i).fn x = true ∨ (F i).env.scope.names.lookup x = some .local := by first | exact fun _ => Or.inl rfl | exact fun _ => Or.inr rfl) (hg : ∀ i, Gl (cx c (F i)) "range" := by exact fun _ => rfl) (s1 : Pl c F e1 [e2] := by exact fun _ => rfl) (s2 : Pl c F e2 [] := by exact fun _ => rfl)
    (s3 : ∀ i, starEach [e1, e2] (cx c (F i)).env = [(false, eval e1 (cx c (F i)).env), (false, eval e2 (cx c (F i)).env)] := by exact fun _ => rfl) (s4 : ∀ i, starEach [e2] (cx c (F i)).env = [(false, eval e2 (cx c (F i)).env)] := by exact fun _ => rfl)
    (hfo : ∀ i y, foldedSetIterable (.Call (.Name "range" p) [e1, e2] [] p2) (cx c (F i)).env y = pure y := by exact fun _ _ => rfl) {np : Pos} : XS c F W (.For (.Name x np) (.Call (.Name "range" p) [e1, e2] [] p2) body [] pos) en P := by
  obtain ⟨t1, q1, r1⟩ := h1
  obtain ⟨t2, q2, r2⟩ := h2
  refine ⟨tFor (iRng2 (tCons t1 (tCons t2 tNil))) (gName j) (uB c F body), fun i => ps_for (hp i) hc (pi_range2 (hg i) hm (pa_cons (q1 i) (pa_cons (q2 i) pa_nil (s2 i)) (s1 i)) (s3 i) (s4 i)) (pg_name hN hj (hx i) (hf i)) (uB_ok i) (hfo i), ?_⟩
  intro G0 G H0 H σ D s o
  refine r1 _ s fun v I0 I x1 w => ?_
  cases w
  refine r2 _ (s.step x1) fun v J0 J y1 w => ?_
  cases w
  have s3 := (s.step x1).step y1
  refine ⟨lo, hi, rfl, by omega, for_range (lo := lo) (n := (hi - lo).toNat) (fun i σ' H' => ∃ K0 en', Ex J0 K0 ∧ SR c.N.length c.K G0 G K0 H' σ' en' ∧ Inv i en') ⟨J0, en, Ex.refl _, s3, h0⟩ ?_ ?_⟩
  · rintro i σ' H' hy ⟨K0, en', u, s2, m⟩
    refine (hs i en' (by omega) m).can (s2.setD (ltN hj) (.int _)) ?_
    exact (o.mono (x1.pub.trans y1.pub)).loop u fun L0 L σ2 en2 e2 s3 m2 => ⟨L0, en2, e2, s3, m2⟩
  · rintro σ' H' ⟨K0, en', u, s2, m⟩
    exact o.nx K0 H' σ' en' ((x1.pub.trans y1.pub).trans u) s2 (hd en' m)
/-- for x, y in a list of pairs -/
theorem s_forL2 (j k : Nat) {kk : Nat} (hN : c.N.Nodup) (hp : ∀ i, PassesOwn (model c.P c.w) c.A (F i).env (F i).xe) (hi : XD c F iter en (.list ds)) (hall : ∀ z ∈ ds, ∃ d1 d2, z = .tuple [d1, d2]) (Inv : Nat → List Sv → Prop) (h0 : Inv 0 en)
    (hs : ∀ (i : Nat) d1 d2 en', ds[i]? = some (.tuple [d1, d2]) → Inv i en' → XB c F W body ((en'.set j (Sv.d d1)).set k (Sv.d d2)) (P.loop (Inv (i + 1))))
    (hd : ∀ en', Inv ds.length en' → P.nx en') (hc : c.calm = true := by rfl) (hj : c.N[j]? = some x := by rfl) (hk : c.N[k]? = some y := by rfl) (hg : ∀ i, PG (cx c (F i)) (.Tuple [.Name x p2, .Name y p3] kk tp) (gTup c.K 2 (gCons (gName j) (gCons (gName k) gNil))))
    (hfo : ∀ i y, foldedSetIterable iter (cx c (F i)).env y = pure y := by exact fun _ _ => rfl) : XS c F W (.For (.Tuple [.Name x p2, .Name y p3] kk tp) iter body [] pos) en P := by
  obtain ⟨t, p1, r⟩ := hi
  refine ⟨tFor (iList c.K t) (gTup c.K 2 (gCons (gName j) (gCons (gName k) gNil))) (uB c F body), fun i => ps_for (hp i) hc (pi_list (p1 i)) (hg i) (uB_ok i) (hfo i), ?_⟩
  intro G0 G H0 H σ D s o
  refine r _ s fun v I0 I x1 w => ?_
  cases w with
  | @lst la xs _ e q =>
    refine ⟨_, rfl, ⟨_, SqL.of (x1.sub _ _ e)⟩, ?_⟩
    have s1 := s.step x1
    refine for_list (xs := xs) (fun i σ' H' => ∃ J0 en', Ex I0 J0 ∧ SR c.N.length c.K G0 G J0 H' σ' en' ∧ Inv i en') ⟨I0, en, Ex.refl _, s1, h0⟩ (fun i σ' H' _ ⟨J0, en', u, s2, _⟩ => SqL.of (s2.sub _ _ (u _ _ e))) ?_ ?_
    · rintro i y σ' H' hy ⟨J0, en', u, s2, m⟩
      obtain ⟨dy, h1, h2⟩ := dpa_getV q hy
      obtain ⟨d1, d2, rfl⟩ := hall _ (List.mem_of_getElem? h1)
      have h3 := dp_mono u h2
      cases h3 with
      | tup e w =>
        cases w with
        | cons w1 w =>
          cases w with
          | cons w2 w =>
            cases w
            refine ⟨_, _, rfl, ex_t s2.sub e, rfl, _, _, rfl, _, _, rfl, rfl, ?_⟩
            refine (hs i d1 d2 en' h1 m).can ((s2.setD (ltN hj) w1).setD (ltN hk) w2) ?_
            exact (o.mono x1.pub).loop u fun L0 L σ2 en2 e2 s3 m2 => ⟨L0, en2, e2, s3, m2⟩
    · rintro σ' H' ⟨J0, en', u, s2, m⟩
      rw [dpa_len q] at m
      exact o.nx J0 H' σ' en' (x1.pub.trans u) s2 (hd en' m)
end
/-! ## a comprehension over pairs -/
section
variable {c : Fx} {ι : Type} {F : ι → Vr} {W : WX} {en : List Sv} {elt iter : Expr} {ifs : List Expr} {pos p p2 tp : Pos} {x y : Str} {scope : Scope}
theorem wipe_in2 {σ : L2.St} {j k : Nat} {u v : V} (hjk : j ≠ k) : wipe (((wipe σ [j, k]).set j (some u)).set k (some v)) [j, k] = wipe σ [j, k] := by
  show (((((σ.set k none).set j none).set j (some u)).set k (some v)).set k none).set j none = (σ.set k none).set j none
  have h1 : ((σ.set k none).set j (some u)).set k none = (σ.set k none).set j (some u) := by rw [List.set_comm (some u) none hjk, List.set_set]
  rw [List.set_set, List.set_set, h1, List.set_set]
theorem l_pairs (j k : Nat) {kk : Nat} {xs : List Dt} (f : Dt → Dt → Dt) (t : Dt → Dt → Bool) (hjk : j ≠ k) (hN : c.N.Nodup) (hi : XD c F iter en (.list xs)) (hl : xs.length ≤ 100000) (hall : ∀ z ∈ xs, ∃ d1 d2, z = .tuple [d1, d2])
    (ht : ∀ d1 d2, .tuple [d1, d2] ∈ xs → XF c (bkF F scope) ifs ((((en.set k Sv.no).set j Sv.no).set j (Sv.d d1)).set k (Sv.d d2)) (t d1 d2)) (he : ∀ d1 d2, .tuple [d1, d2] ∈ xs → t d1 d2 = true → XD c (bkF F scope) elt ((((en.set k Sv.no).set j Sv.no).set j (Sv.d d1)).set k (Sv.d d2)) (f d1 d2))
    (hg : ∀ q, PG (cx c (bkF F scope q)) (.Tuple [.Name x p, .Name y p2] kk tp) (gTup c.K 2 (gCons (gName j) (gCons (gName k) gNil))))
    (ok : ∀ i, blkC c.N (F i).env.scope scope [(x, j), (y, k)] = true := by exact fun _ => rfl) (hc : c.calm = true := by rfl) (hj : c.N[j]? = some x := by rfl) (hk : c.N[k]? = some y := by rfl)
    (hfo : ∀ i y, foldedSetIterable iter (cx c (F i)).env y = pure y := by exact fun _ _ => rfl) :
    XL c F (.ListComp elt [⟨.Tuple [.Name x p, .Name y p2] kk tp, iter, ifs, 0⟩] scope pos) en ((xs.filter fun z => match z with | .tuple [d1, d2] => t d1 d2 | _ => false).map fun z => match z with | .tuple [d1, d2] => f d1 d2 | z => z) := by
  obtain ⟨t1, p1, r⟩ := hi
  refine l_core [(x, j), (y, k)] (iList c.K t1) (gTup c.K 2 (gCons (gName j) (gCons (gName k) gNil))) hN hc (fun i => pi_list (p1 i)) (fun i => blkOk_by (ok i)) hg hfo ?_
  intro G0 G H0 H σ Q s kx
  refine r _ s fun v I0 I x1 w => ?_
  cases w with
  | @lst la vs _ e q =>
    refine ⟨_, rfl, ⟨_, SqL.of (x1.sub _ _ e)⟩, fun D hD => ?_⟩
    have s1 := s.step x1
    have hD0 := none_of_sub x1.sub hD
    refine lc_list (K := c.K) (a := la) (xs := vs) (fun i H' => LcI c.K I0 I D (((xs.take i).filter fun z => match z with | .tuple [d1, d2] => t d1 d2 | _ => false).map fun z => match z with | .tuple [d1, d2] => f d1 d2 | z => z) H') ⟨I0, [], ⟨Ex.refl _, Ex.mut x1.sub hD0, Ex.mut (Ex.refl _) hD, fun _ _ _ n => n⟩, hD0, upd_same, .nil⟩ (fun i H' _ ⟨J0, us, x2, _⟩ => SqL.of (x2.sub _ _ (x2.pub _ _ e))) (fun i z H' hy hI => ?_) fun H' hI => ?_
    · obtain ⟨dy, h1, h2⟩ := dpa_getV q hy
      have hm := List.mem_of_getElem? h1
      obtain ⟨d1, d2, rfl⟩ := hall _ hm
      cases h2 with
      | tup e3 w =>
        cases w with
        | cons wa w =>
          cases w with
          | cons wb w =>
            cases w
            refine ⟨_, _, rfl, (let ⟨J0, us, x2, _⟩ := hI; ex_t x2.sub (ex_t x2.pub e3)), rfl, _, _, rfl, _, _, rfl, rfl, wipe_in2 hjk, ?_⟩
            have e1 : (((xs.take (i + 1)).filter fun z => match z with | .tuple [d1, d2] => t d1 d2 | _ => false).map fun z => match z with | .tuple [d1, d2] => f d1 d2 | z => z) = if t d1 d2 then (((xs.take i).filter fun z => match z with | .tuple [d1, d2] => t d1 d2 | _ => false).map fun z => match z with | .tuple [d1, d2] => f d1 d2 | z => z) ++ [f d1 d2] else (((xs.take i).filter fun z => match z with | .tuple [d1, d2] => t d1 d2 | _ => false).map fun z => match z with | .tuple [d1, d2] => f d1 d2 | z => z) := by
              rw [List.take_succ, h1, Option.toList_some, List.filter_append, List.map_append]
              cases h : t d1 d2 <;> simp [h]
            rw [e1]
            have hlt := (List.getElem?_eq_some_iff.mp h1).1
            refine lc_turn s1 hD hI ?_ (fun {J0 J} x2 => ((((s1.step x2).unset k).unset j).setD (ltN hj) (dp_mono x2.pub wa)).setD (ltN hk) (dp_mono x2.pub wb)) (ht d1 d2 hm).can fun ht2 => (he d1 d2 hm ht2).can
            rw [List.length_map]
            have l1 := List.length_filter_le (fun z => match z with | .tuple [d1, d2] => t d1 d2 | _ => false) (xs.take i)
            rw [List.length_take] at l1
            omega
    · obtain ⟨J0, us, x2, n, e2, w2⟩ := hI
      rw [dpa_len q, List.take_length] at w2
      exact kx D us J0 H' (x1.trans x2) (fresh_back x1.all hD) n e2 w2
end
/-! ints among ints -/
section
variable {c : Fx} {ι : Type} {F : ι → Vr} {W : WX} {en : List Sv} {e e1 e2 o : Expr} {pos p p2 apos : Pos} {x m : Str}
theorem inV_ints {i : Int} : ∀ {js : List Int}, inV (.int i) (js.map V.int) = js.any (· == i)
  | [] => rfl
  | j :: js => by
    have ih := inV_ints (i := i) (js := js)
    unfold inV at ih ⊢
    rw [List.map_cons, List.any_cons, List.any_cons, ih]
    rfl
theorem flat_ints2 : ∀ js : List Int, (js.map V.int).all flatV = true
  | [] => rfl
  | j :: js => flat_ints2 js
theorem rd_notIn {i : Int} {js : List Int} : RD c.K (rIn c.K true) (.int i) (.tuple (js.map PyData.int)) (.bool (!js.any (· == i))) := fun Q s x y k => by
  cases x
  cases y with
  | tup e q =>
    have z := dpa_ints q
    subst z
    refine ⟨_, _, rfl, .inr (ex_t s e), rfl, flat_ints2 js, ?_⟩
    rw [inV_ints]
    exact k _ _ _ (Ext.refl s) (.bl _)
theorem rd_isIn {i : Int} {js : List Int} : RD c.K (rIn c.K false) (.int i) (.tuple (js.map PyData.int)) (.bool (js.any (· == i))) := fun Q s x y k => by
  cases x
  cases y with
  | tup e q =>
    have z := dpa_ints q
    subst z
    refine ⟨_, _, rfl, .inr (ex_t s e), rfl, flat_ints2 js, ?_⟩
    rw [inV_ints]
    exact k _ _ _ (Ext.refl s) (.bl _)
theorem t_notIn {i : Int} {js : List Int} (h1 : XD c F e1 en (.int i)) (h2 : XD c F e2 en (.tuple (js.map PyData.int))) (hm : behindInMarks .NotIn e2 = false := by rfl) : XT c F (.Compare e1 [.NotIn] [e2] pos) en (!js.any (· == i)) := t_cmp (fun _ => op_notIn_seq) h1 h2 rd_notIn hm
theorem t_isIn {i : Int} {js : List Int} (h1 : XD c F e1 en (.int i)) (h2 : XD c F e2 en (.tuple (js.map PyData.int))) (hm : behindInMarks .In e2 = false := by rfl) : XT c F (.Compare e1 [.In] [e2] pos) en (js.any (· == i)) := t_cmp (fun _ => op_in_seq) h1 h2 rd_isIn hm
end
/-! ## a list of ours, lent to a call -/
mutual
def noL : Dt → Bool
  | .none | .bool _ | .int _ | .str _ => true
  | .tuple ds => noLs ds
  | _ => false
def noLs : List Dt → Bool
  | [] => true
  | d :: ds => noL d && noLs ds
end
def noLv : Cv → Bool
  | .d x => noL x
  | .r _ => true
def noLc : Cl → Bool
  | .lst xs => xs.all noLv
  | .ins _ fs => fs.all fun f => noLv f.2
  | .dct kvs => kvs.all fun f => noLv f.2
section
variable {K : PySem.W.Frag} {J0 H0' : Hp} {l : Addr} {vl : List V}
theorem sqT_less (hl : J0 l = some (.lst vl)) (e : ∀ a o, J0 a = some o → a ≠ l → H0' a = some o) {a : Addr} {xs : List V} (h : SqT K J0 a xs) : SqT K H0' a xs := by
  rcases h with (h | ⟨o, h⟩) | h
  · refine .inl (.inl (e _ _ h fun z => ?_))
    subst z
    rw [hl] at h
    cases h
  · refine .inl (.inr ⟨o, e _ _ h fun z => ?_⟩)
    subst z
    rw [hl] at h
    cases h
  · exact .inr h
mutual
theorem noL_dw (hl : J0 l = some (.lst vl)) (e : ∀ a o, J0 a = some o → a ≠ l → H0' a = some o) : ∀ {v : V} {d : Dt}, Dw K J0 v d → noL d = true → Dw K H0' v d
  | _, _, .non, _ => .non
  | _, _, .bl b, _ => .bl b
  | _, _, .int i, _ => .int i
  | _, _, .str x, _ => .str x
  | _, _, .lst h q, c => by simp [noL] at c
  | _, _, .tup h q, c => .tup (sqT_less hl e h) (noL_dwa hl e q (by simpa [noL] using c))
  | _, _, .frz _ _, c => by simp [noL] at c
theorem noL_dwa (hl : J0 l = some (.lst vl)) (e : ∀ a o, J0 a = some o → a ≠ l → H0' a = some o) : ∀ {vs : List V} {ds : List Dt}, DwAll K J0 vs ds → noLs ds = true → DwAll K H0' vs ds
  | _, _, .nil, _ => .nil
  | _, _, .cons h q, c => by
    have c2 := Bool.and_eq_true_iff.mp (by simpa [noLs] using c)
    exact .cons (noL_dw hl e h c2.1) (noL_dwa hl e q c2.2)
end
theorem noL_cv (hl : J0 l = some (.lst vl)) (e : ∀ a o, J0 a = some o → a ≠ l → H0' a = some o) {v : V} {c : Cv} (h : CvAt K J0 v c) (n : noLv c = true) : CvAt K H0' v c := by
  cases h with
  | d w => exact .d (noL_dw hl e w n)
  | r a => exact .r a
theorem noL_key {α : Type} (hl : J0 l = some (.lst vl)) (e : ∀ a o, J0 a = some o → a ≠ l → H0' a = some o) : ∀ {vs : List (α × V)} {cs : List (α × Cv)}, CvKey K J0 vs cs → (cs.all fun f => noLv f.2) = true → CvKey K H0' vs cs
  | _, _, .nil, _ => .nil
  | _, _, .cons h q, n => by
    rw [List.all_cons, Bool.and_eq_true] at n
    exact .cons (noL_cv hl e h n.1) (noL_key hl e q n.2)
theorem noL_all (hl : J0 l = some (.lst vl)) (e : ∀ a o, J0 a = some o → a ≠ l → H0' a = some o) : ∀ {vs : List V} {cs : List Cv}, CvAll K J0 vs cs → cs.all noLv = true → CvAll K H0' vs cs
  | _, _, .nil, _ => .nil
  | _, _, .cons h q, n => by
    rw [List.all_cons, Bool.and_eq_true] at n
    exact .cons (noL_cv hl e h n.1) (noL_all hl e q n.2)
theorem noL_cl (hl : J0 l = some (.lst vl)) (e : ∀ a o, J0 a = some o → a ≠ l → H0' a = some o) {o : HO} {c : Cl} (h : ClAt K J0 o c) (n : noLc c = true) : ClAt K H0' o c := by
  cases h with
  | lst q => exact .lst (noL_all hl e q n)
  | ins q => exact .ins (noL_key hl e q n)
  | dct q => exact .dct (noL_key hl e q n)
end
/-- what may come out of such a call -/
def flatO : Out → Bool
  | .new ds => ds.all flatD
  | .exc _ => true
  | _ => false
section
variable {c : Fx} {ι : Type} {F : ι → Vr} {W : WX} {en : List Sv} {o : Expr} {pos p2 apos : Pos} {x m : Str} {C fa b : Addr} {N : Out → List Sv → Prop} {ps : List Str} {fs : List (Str × Cv)} {cs : Cs} {ds : List Dt} {k jr : Nat} {M : OutC}
/-- o.m(x), x a list of ours, that stays ours -/
theorem g_methV {R : Cs → List Cv → OutC → Prop} {pl : ι → Sem Bool} (i j : Nat) (idx : List Nat) (tk : ∀ i, L2N.Takes (cx c (F i)) W) (f : FnS c.P c.w c.K c.mg c.base k fa ps (spC c.K R)) (hC : Cls c.K C) (hm : Meth c.K C m fa) (hr : Room jr c.A) (hk : k ≤ jr)
    (ho : XR c F o en (.ref b)) (hi : CelIn en i b (.ins C fs)) (hl : fs.lookup m = none) (hj : en[j]? = some (.own ds)) (hp : Pick en idx cs) (hn : idx.Nodup) (hR : R cs [.r b, .d (.list ds)] M)
    (h : ∀ o cs', M o cs' → flatO o = true ∧ (cs'.all fun p => noLc p.2) = true ∧ N o (putL en idx cs'))
    (hN : c.N[j]? = some x := by rfl) (hv : ∀ i, Vis (F i).env.scope x := by first | exact fun _ => Or.inl rfl | exact fun _ => Or.inr (Or.inl rfl) | exact fun _ => Or.inr (Or.inr rfl))
    (hd : (x == ("__debug__" : Str)) = false := by decide) (hcd : (x == ("__classdict__" : Str)) = false := by decide)
    (s1 : Pl c F (.Name x p2) [] := by exact fun _ => rfl) (s2 : Bt c F pos [] := by exact fun _ => rfl) (ht : MethTree c F o m apos [.Name x p2] pos pl := by exact fun _ => rfl) : XG c F W (.Call (.Attribute o m apos) [.Name x p2] [] pos) en N := by
  obtain ⟨fd, f1, f2, _⟩ := f.ex
  obtain ⟨t, p1, d1⟩ := ho
  refine XG.mk (t := tMS C m (spC c.K R) (WE W) t (tCons (tVar j) tNil)) (fun i => pe_mS (pl := pl i) (p1 i) hC hm f1 (hr.mono hk) f2 (fun σ => L2N.passAt (tk i) σ) (pa_cons (pe_var hN (hv i) hd hcd) pa_nil (s1 i)) (s1 i) (s2 i) (ht i)) fun {G0 G H0 H σ} Q s kk kx => d1 _ s fun A0 A w => ?_
  have sa := s.step w
  obtain ⟨dx, gs, e1, q1⟩ := sa.atI hi
  obtain ⟨l, vs, a1, a2, a3, a4, a5⟩ := sa.own j ds hj
  refine ⟨b, dx, gs, rfl, e1, q1.getN hl, _, a1, ?_⟩
  have up : Ex A0 (upd A0 l (.lst vs)) := Ex.new a3
  obtain ⟨ca, nd⟩ := sa.pick hp hn
  have hne : ∀ p ∈ cs, p.1 ≠ l := fun p hpp z => by
    obtain ⟨kx, hk⟩ := List.mem_iff_getElem?.mp hpp
    obtain ⟨i, _, h2⟩ := pick_get hp hk
    rw [z] at h2
    exact sa.cown i j l _ ds h2 hj a1
  refine ⟨upd A0 l (.lst vs), cs, _, M, fun a u q => ?_, fun p hpp => ?_, nd, .cons (.r b) (.cons (.d (.lst upd_same (dpa_mono up a5))) .nil), hR, fun o cs' hM B0 B xm ca' nd' pre ad => ?_⟩
  · by_cases z : a = l
    · subst z
      rw [upd_same] at q
      rw [← q]
      exact a4
    · rw [upd_ne z] at q
      exact sa.sub a u q
  · obtain ⟨g1, o1, g2, g3⟩ := ca p hpp
    exact ⟨by rw [upd_ne (hne p hpp)]; exact g1, o1, g2, g3.mono up⟩
  · obtain ⟨n1, n2, n3⟩ := h o cs' hM
    have hlB : B0 l = some (.lst vs) := xm.pub _ _ upd_same
    let B1 : Hp := fun a => if a = l then none else B0 a
    have eB : ∀ a o, B0 a = some o → a ≠ l → B1 a = some o := fun a o q z => by
      show (if a = l then none else B0 a) = _
      rw [if_neg z]
      exact q
    have nB : ∀ a, B0 a = none → B1 a = none := fun a q => by
      show (if a = l then none else B0 a) = _
      split
      · rfl
      · exact q
    have lB : B1 l = none := if_pos rfl
    have sB : Ex B1 B0 := fun a o q => by
      have q2 : (if a = l then none else B0 a) = some o := q
      split at q2
      · cases q2
      · exact q2
    have pubB : Ex A0 B1 := fun a o q => by
      have z : a ≠ l := ne_of_none q a3
      exact eB _ _ (xm.pub _ _ (by rw [upd_ne z]; exact q)) z
    have xm1 : ExtM cs A0 A B1 B := ⟨pubB, sB.trans xm.sub, xm.all, fun a o q n => by
      by_cases z : a = l
      · rw [z]; exact lB
      · exact nB a (xm.prv a o q (by rw [upd_ne z]; exact n))⟩
    have ca1 : CelsAt c.K B1 B cs' := fun p hpp => by
      obtain ⟨g1, o1, g2, g3⟩ := ca' p hpp
      exact ⟨nB _ g1, o1, g2, noL_cl hlB eB g3 (List.all_eq_true.mp n2 p hpp)⟩
    have s3 := sa.callC hp xm1 ca1 nd' pre ad
    have eP : Ex H0 B1 := w.pub.trans pubB
    cases o with
    | new es =>
      intro l2 us m1 m2 m3 m4 m5
      refine kk (.new es) (.ref l2) B1 B _ n3 eP s3 ⟨l2, us, rfl, fresh_back sa.ext.all m1, nB _ m2, m3, flat_dwa m5 n1, fun i ys q => sa.fresh_own m1 i ys (putL_own q fun _ _ z => by cases z), fun i c q => ?_⟩
      rcases putL_get q with ⟨h1, _⟩ | ⟨i, p, h1, h2, _⟩
      · exact sa.fresh_cell m1 i c h1
      · cases h2
        exact m4 (List.mem_map.mpr ⟨p, List.mem_of_getElem? h1, rfl⟩)
    | exc C2 => exact kx C2 B1 B _ n3 eP s3
    | _ => cases n1
end
end DL
namespace DL
open PySem PySem.Spec PyProof.Rows L2 Evl
/-! nothing raised -/
theorem takesNo {X : Cx} : L2N.Takes X noW := fun u s' h => by
  obtain ⟨_, _, _, _, _, _, _, _, _, _, _, _, _, _, _, _, w⟩ := h
  exact w.elim
section
variable {c : Fx} {ι : Type} {F : ι → Vr} {en : List Sv} {p p2 pos : Pos} {x y : Str} {a D : Addr} {j k : Nat}
/-- the word of the exception, in the suite -/
theorem su_n {ps : List Str} {fa : Addr} {word : Str} (i : Nat) (f : Wd c.P c.w c.K c.mg c.base k fa ps D word) (hm : c.mg x = some (.ref fa)) (hr : Room j c.A) (hk : k ≤ j) (he : en[i]? = some (Sv.v (.ref a)))
    (hN : c.N[i]? = some y := by rfl) (hv : ∀ q, Vis (F q).env.scope y := by first | exact fun _ => Or.inl rfl | exact fun _ => Or.inr (Or.inl rfl)) (hg : ∀ q, Gl (cx c (F q)) x := by exact fun _ => rfl)
    (hd : (y == ("__debug__" : Str)) = false := by decide) (hcd : (y == ("__classdict__" : Str)) = false := by decide) (hdb : (x == ("__debug__" : Str)) = false := by decide) (s1 : Pl c F (.Name y p2) [] := by exact fun _ => rfl) :
    XN (hot c a) (suF F a (.ref D)) (.Call (.Name x p) [.Name y p2] [] pos) en [.str word] :=
  n_word (c := hot c a) (F := suF F a (.ref D)) i f hm ⟨hr.dp, hr.un⟩ hk he (fun q => ⟨q.2.1.1, q.2.2.1, q.2.2.2, List.mem_cons_self⟩) hN (fun q => hv q.1) (fun q => hg q.1) hd hcd hdb (fun q => s1 q.1)
end
end DL
namespace DL
open PySem PySem.Spec PyProof.Rows L2 Evl
variable {nn : Nat}
section
variable {c : Fx} {ι : Type} {F : ι → Vr} {W : WX} {en en2 : List Sv} {e e1 e2 : Expr} {es : List Expr} {a d : Dt} {ds : List Dt} {pos p p2 : Pos} {x : Str} {k j : Nat} {P : Po} {sts sts2 : List Stmt} {C fa : Addr} {M : Out → List Sv → Prop} {ps : List Str} {args : List Cv} {cs : Cs}
/-- a != b of lists, a changes cells -/
theorem g_ne {M1 : Out → List Sv → Prop} (hu : c.A.units + 64 < cLine) (h1 : XG c F W e1 en M1) (h2 : ∀ o en1, M1 o en1 → match o with
      | .new ds => ∃ b, XD c F e2 en1 b ∧ SeqAt.shaped (.list ds) = true ∧ SeqAt.shaped b = true ∧ M (.ret (.bool (!PyData.eqv (.list ds) b))) en1
      | .exc C => M (.exc C) en1
      | _ => False) : XG c F W (.Compare e1 [.NotEq] [e2] pos) en M :=
  g_op2 (r := rNeD c.K) (M1 := fun o en' => ∃ o1, M1 o1 en' ∧ o = opn o1) (fun i _ _ q1 q2 => pe_cmpR (op_neD hu) q1 q2 (nomark _)) (g_opn h1 fun o en' m => ⟨o, m, rfl⟩) fun o en1 m => by
    obtain ⟨o1, m1, rfl⟩ := m
    have h := h2 o1 en1 m1
    cases o1 with
    | new ds =>
      obtain ⟨b, g1, g2, g3, g4⟩ := h
      refine ⟨_, g_d g1, fun o2 en2 m2 => ?_⟩
      obtain ⟨rfl, rfl⟩ := m2
      exact .inl ⟨_, rd_ne g2 g3, g4⟩
    | exc C => exact h
    | _ => exact h.elim
/-! tests that raise -/
def XTX (c : Fx) {ι : Type} (F : ι → Vr) (W : WX) (e : Expr) (en : List Sv) (C : Addr) (en2 : List Sv) : Prop := ∀ {G0 G H0 H : Hp} {σ : L2.St} (Q : Bool → Hp → Prop), SR c.N.length c.K G0 G H0 H σ en →
  (∀ H0' H', Ex H0 H0' → SR c.N.length c.K G0 G H0' H' σ en2 → W (.ref C) none σ H') → uT c F e σ H Q
theorem tx_val (h : XG c F W e en (fun o en1 => o = .exc C ∧ en1 = en2)) (he : ∀ i whole, isTrue e (cx c (F i)).env whole = (do let v ← whole; standAt e.pos; holding [v] (truthy v)) := by exact fun _ _ => rfl) : XTX c F W e en C en2 := fun Q s kx =>
  ⟨tB (uE c F e), fun i => pt_val (uE_ok i) (he i), h _ s (fun o v A0 A en' m x s2 w => by
    obtain ⟨rfl, _⟩ := m
    exact w.elim) fun C2 A0 A en' m x s2 => by
      obtain ⟨e, rfl⟩ := m
      cases e
      exact kx A0 A x s2⟩
/-- .. of a comparison -/
theorem tx_cmp (h : XG c F W e1 en (fun o en1 => o = .exc C ∧ en1 = en2)) : XTX c F W (.Compare e1 [.NotEq] [e2] pos) en C en2 := fun Q s kx =>
  ⟨tTest (tOp (fun _ _ _ _ => False) (uE c F e1) (uE c F e2)), fun i => pt_cmpR (op := .NotEq) (r := fun _ _ _ _ => False) (fun _ _ _ _ _ _ _ _ _ _ _ _ z => z.elim) (uE_ok i) (uE_ok i) (nomark _), h _ s (fun o v A0 A en' m x s2 w => by
    obtain ⟨rfl, _⟩ := m
    exact w.elim) fun C2 A0 A en' m x s2 => by
      obtain ⟨e, rfl⟩ := m
      cases e
      exact kx A0 A x s2⟩
theorem tx_or {rest : List Expr} (h : XTX c F W e1 en C en2) : XTX c F W (.BoolOp .Or (e1 :: e2 :: rest) pos) en C en2 := fun Q s kx =>
  ⟨_, fun i => PW.pt (pw_or (uT_ok i) (uW_ok i)), h _ s kx⟩
theorem s_ifX (h : XTX c F W e en C en2) (q : P.ex C en2) : XS c F W (.If e sts sts2 pos) en P :=
  ⟨tIfS (uT c F e) (uB c F sts) (uB c F sts2), fun i => ps_if (uT_ok i) (uB_ok i) (uB_ok i), fun s o => h _ s fun A0 A x s2 => o.ex C A0 A _ _ x s2 q⟩
/-- a test that changes cells, within a comparison -/
theorem tg_ne {M1 : Out → List Sv → Prop} {N : Bool → List Sv → Prop} (hu : c.A.units + 64 < cLine) (h1 : XG c F noW e1 en M1) (h2 : ∀ o en1, M1 o en1 → match o with
      | .new ds => ∃ b, XD c F e2 en1 b ∧ SeqAt.shaped (.list ds) = true ∧ SeqAt.shaped b = true ∧ N (!PyData.eqv (.list ds) b) en1
      | _ => False) : XTG c F (.Compare e1 [.NotEq] [e2] pos) en N := fun Q s k =>
  ⟨tTest (tOp (rNeD c.K) (uE c F e1) (uE c F e2)), fun i => pt_cmpR (op_neD hu) (uE_ok i) (uE_ok i) (nomark _), g_opn (N := fun o en' => ∃ ds, o = .ret (.list ds) ∧ M1 (.new ds) en') h1 (fun o en' m => by
    have h := h2 o en' m
    cases o with
    | new ds => exact ⟨ds, rfl, m⟩
    | _ => exact h.elim) _ s (fun o v A0 A en1 m x s2 w => by
      obtain ⟨ds, rfl, m⟩ := m
      obtain ⟨b, g1, g2, g3, g4⟩ := h2 _ _ m
      exact g1.can _ s2 fun u B0 B y w2 => rd_ne (K := c.K) g2 g3 _ y.sub (dp_mono y.pub w) w2 fun z D0 D q w3 => by
        cases w3
        exact ⟨_, rfl, k _ D0 D _ g4 ((x.trans y.pub).trans q.pub) ((s2.step y).step q)⟩) fun C A0 A en1 m _ _ => by
      obtain ⟨ds, z, _⟩ := m
      cases z⟩
/-! a def called by its name, that but reads cells -/
theorem x_callK {R : Cs → List Cv → Out → Prop} (f : FnS c.P c.w c.K c.mg c.base k fa ps (spK c.K R)) (hm : c.mg x = some (.ref fa)) (hkp : PySem.W.keepIn c.K (.ref fa) = true) (hr : Room j c.A) (hk : k ≤ j) (ha : XAR c F (e :: es) en args)
    (hcs : ∀ p ∈ cs, ∃ i, CelIn en i p.1 p.2) (h : R cs args (.ret d)) (hg : ∀ i, Gl (cx c (F i)) x := by exact fun _ => rfl)
    (hdb : (x == ("__debug__" : Str)) = false := by decide) (s1 : Pl c F e es := by exact fun _ => rfl) (s2 : Bt c F pos es := by exact fun _ => rfl) : XD c F (.Call (.Name x p) (e :: es) [] pos) en d := by
  obtain ⟨fd, f1, f2, _⟩ := f.ex
  obtain ⟨t, p1, d1⟩ := ha
  refine ⟨tCall (spK c.K R) [] E0 t, fun i => pe_call f1 (hr.mono hk) (hg i) hm hkp f2 .nil passN (p1 i) hdb (s1 i) (s2 i), fun {G0 G H0 H σ} Q s kk => d1 _ s fun vs A0 A x w => ?_⟩
  rw [List.append_nil]
  exact ⟨A0, cs, _, _, x.sub, fun p hp => let ⟨i, hi⟩ := hcs p hp; (s.step x).at hi, w, h, fun v B0 B y w2 => kk v B0 B (x.trans y) w2⟩
end
end DL

set_option maxRecDepth 100000
set_option maxHeartbeats 4000000
namespace DL
open PySem PySem.Spec PyProof.Rows L2 Evl
/-! ## out of the head's facts -/
theorem def_fun {K : PySem.W.Frag} {x q : Str} {st : Stmt} (h : ∃ oc od osl kV doc pm an cdv ct, K.lookup (He.fAd K (x, none)) = some ⟨oc, od, .func (PySem.W.fnOf x q (defArgs st) (defBody st) (defScope st) .none kV doc pm an cdv ct), osl⟩ ∧ PySem.W.codeIn K cdv q = true) (k : (He.Fa.keep x).ok K = true) : ∃ fd, Fun K x q st (He.ga K x) fd := by
  obtain ⟨oc, od, osl, kV, doc, pm, an, cdv, ct, l, c⟩ := h
  exact ⟨_, fun_mk l c k⟩
theorem exc_xc {K : PySem.W.Frag} {C : Addr} (h : PySem.W.excIn K C He.veBase "ValueError.__new__" = true ∧ PySem.W.keepIn K (.ref C) = true ∧ PySem.W.subIn K (.ref C) (.type "BaseException") = some true ∧ PySem.W.typeIn K (.ref C) = some (.type "type")) : Xc K C := ⟨h.1, h.2.1, h.2.2.1, h.2.2.2⟩
/-! ## what the defs compute, in plain words -/
def isIntD : Dt → Bool
  | .int _ => true | .bool _ => true | _ => false
def isBoolD : Dt → Bool
  | .bool _ => true | _ => false
def isListD : Dt → Bool
  | .list _ => true | .dict _ => true | _ => false
def isTupD : Dt → Bool
  | .tuple _ => true | _ => false
theorem k_int (d : Dt) : kitB (tyD d) "int" = some (isIntD d) := by cases d <;> (dsimp only [tyD, isIntD]; decide +kernel)
theorem k_bool (d : Dt) : kitB (tyD d) "bool" = some (isBoolD d) := by cases d <;> (dsimp only [tyD, isBoolD]; decide +kernel)
theorem k_list (d : Dt) : kitB (tyD d) "list" = some (isListD d) := by cases d <;> (dsimp only [tyD, isListD]; decide +kernel)
theorem k_tup (d : Dt) : kitB (tyD d) "tuple" = some (isTupD d) := by cases d <;> (dsimp only [tyD, isTupD]; decide +kernel)
abbrev lsI (ns : List Int) : List Dt := ns.map PyData.int
abbrev pd (cs : List Int) (g : Int) : Dt := .tuple [.tuple (lsI cs), .int g]
abbrev sd (l w a : Int) : Dt := .tuple [.int l, .int w, .int a]
def noZ : Dt → Bool
  | .dict _ => false
  | _ => true
def isIn (d : Dt) (lo hi : Int) : Bool := match d with
  | .int i => decide (lo ≤ i ∧ i ≤ hi)
  | _ => false
theorem isIn_int {d : Dt} {lo hi : Int} (h : isIn d lo hi = true) : ∃ i, d = .int i ∧ lo ≤ i ∧ i ≤ hi := by
  cases d with
  | int i => exact ⟨i, rfl, of_decide_eq_true h⟩
  | _ => cases h
theorem all_ints {lo hi : Int} : ∀ {ds : List Dt}, ds.all (isIn · lo hi) = true → ∃ ns, ds = lsI ns ∧ ∀ n ∈ ns, lo ≤ n ∧ n ≤ hi
  | [], _ => ⟨[], rfl, fun _ h => by cases h⟩
  | d :: ds, h => by
    rw [List.all_cons, Bool.and_eq_true] at h
    obtain ⟨i, rfl, h1⟩ := isIn_int h.1
    obtain ⟨ns, rfl, h2⟩ := all_ints h.2
    exact ⟨i :: ns, rfl, fun n hn => by
      rcases List.mem_cons.mp hn with rfl | hn
      · exact h1
      · exact h2 n hn⟩
theorem ints_all {lo hi : Int} : ∀ {ns : List Int}, (∀ n ∈ ns, lo ≤ n ∧ n ≤ hi) → (lsI ns).all (isIn · lo hi) = true
  | [], _ => rfl
  | n :: ns, h => by
    show (decide (lo ≤ n ∧ n ≤ hi) && (lsI ns).all (isIn · lo hi)) = true
    rw [decide_eq_true (h n List.mem_cons_self), Bool.true_and]
    exact ints_all fun m hm => h m (List.mem_cons_of_mem _ hm)
theorem ints_app {a b : List Int} : lsI (a ++ b) = lsI a ++ lsI b := List.map_append
theorem ints_inj : ∀ {a b : List Int}, lsI a = lsI b → a = b
  | [], [], _ => rfl
  | [], _ :: _, h => by cases h
  | _ :: _, [], h => by cases h
  | x :: a, y :: b, h => by
    rw [lsI, lsI, List.map_cons, List.map_cons] at h
    injection h with h1 h2
    cases h1
    rw [ints_inj h2]
/-! plans -/
structure PlanOk (cs : List Int) (g : Int) : Prop where
  len : 2 ≤ cs.length ∧ cs.length ≤ 8
  cnt : ∀ c ∈ cs, 1 ≤ c ∧ c ≤ 1000000
  gain : 0 ≤ g ∧ g ≤ 1000000
def planB : Dt → Bool
  | .tuple [.tuple cs, g] => decide (2 ≤ cs.length ∧ cs.length ≤ 8) && (cs.all (isIn · 1 1000000) && isIn g 0 1000000)
  | _ => false
theorem planB_pd {cs : List Int} {g : Int} (h : PlanOk cs g) : planB (pd cs g) = true := by
  have l : (lsI cs).length = cs.length := List.length_map _
  show (decide (2 ≤ (lsI cs).length ∧ (lsI cs).length ≤ 8) && ((lsI cs).all (isIn · 1 1000000) && decide (0 ≤ g ∧ g ≤ 1000000))) = true
  rw [l, decide_eq_true h.len, ints_all h.cnt, decide_eq_true h.gain] <;> rfl
theorem planB_ok {d : Dt} (h : planB d = true) : ∃ cs g, d = pd cs g ∧ PlanOk cs g := by
  unfold planB at h
  split at h
  · rename_i cs g
    rw [Bool.and_eq_true, Bool.and_eq_true] at h
    obtain ⟨h1, h2, h3⟩ := h
    obtain ⟨ns, rfl, h4⟩ := all_ints h2
    obtain ⟨i, rfl, h5⟩ := isIn_int h3
    have h6 := of_decide_eq_true h1
    rw [List.length_map] at h6
    exact ⟨ns, i, rfl, h6, h4, h5⟩
  · cases h
def signB (p d : Dt) : Bool := match p with
  | .tuple [.tuple cs, _] => isIn d 0 (cs.length - 1)
  | _ => false
theorem signB_pd {cs : List Int} {g : Int} {d : Dt} : signB (pd cs g) d = isIn d 0 (cs.length - 1) := by
  show isIn d 0 ((lsI cs).length - 1) = _
  rw [List.length_map]
def textB (p d : Dt) : Bool := match d with
  | .list ds => decide (ds.length ≤ 60) && ds.all (signB p)
  | _ => false
/-- the signs of a text -/
def SignsOk (cs : List Int) (ss : List Int) : Prop := ∀ s ∈ ss, 0 ≤ s ∧ s < (cs.length : Int)
theorem textB_ok {cs : List Int} {g : Int} {d : Dt} (h : textB (pd cs g) d = true) : ∃ ss, d = .list (lsI ss) ∧ SignsOk cs ss ∧ ss.length ≤ 60 := by
  unfold textB at h
  split at h
  · rename_i ds
    rw [Bool.and_eq_true] at h
    have e : (signB (pd cs g)) = (isIn · 0 (cs.length - 1)) := funext fun _ => signB_pd
    rw [e] at h
    obtain ⟨ns, rfl, h4⟩ := all_ints h.2
    have h6 := of_decide_eq_true h.1
    rw [List.length_map] at h6
    exact ⟨ns, rfl, fun s hs => ⟨(h4 s hs).1, by have := (h4 s hs).2; omega⟩, h6⟩
  · cases h
theorem textB_pd {cs ss : List Int} {g : Int} (h : SignsOk cs ss) (hl : ss.length ≤ 60) : textB (pd cs g) (.list (lsI ss)) = true := by
  show (decide ((lsI ss).length ≤ 60) && (lsI ss).all (signB (pd cs g))) = true
  have e : (signB (pd cs g)) = (isIn · 0 (cs.length - 1)) := funext fun _ => signB_pd
  rw [List.length_map, decide_eq_true hl, e, ints_all fun s hs => ⟨(h s hs).1, by have := (h s hs).2; omega⟩] <;> rfl
def below (cs : List Int) (s : Int) : Int := (cs.take s.toNat).sum
def cnt (cs : List Int) (s : Int) : Int := cs.getD s.toNat 0
def bump (cs : List Int) (g s : Int) : List Int := cs.set s.toNat (min 1000000 (cnt cs s + g))
abbrev shareD (cs : List Int) (s : Int) : Dt := sd (below cs s) (cnt cs s) cs.sum
theorem bump_len {cs : List Int} {g s : Int} : (bump cs g s).length = cs.length := by
  unfold bump
  rw [List.length_set]
theorem getD_mem {cs : List Int} {i : Nat} (h : i < cs.length) : cs.getD i 0 ∈ cs := by
  rw [List.getD_eq_getElem?_getD, List.getElem?_eq_getElem h]
  exact List.getElem_mem h
theorem bump_ok {cs : List Int} {g s : Int} (h : PlanOk cs g) (h0 : 0 ≤ s) (hs : s < cs.length) : PlanOk (bump cs g s) g := by
  refine ⟨by rw [bump_len]; exact h.len, fun c hc => ?_, h.gain⟩
  have hm : cnt cs s ∈ cs := getD_mem (by omega)
  have h1 := h.cnt _ hm
  have h2 := h.gain
  rcases List.mem_or_eq_of_mem_set hc with hc | rfl
  · exact h.cnt c hc
  · rw [Int.min_def]
    split <;> omega
/-! places of lists of ints -/
theorem ixN_nat {n : Nat} {s : Int} (h0 : 0 ≤ s) (h1 : s < (n : Int)) : ixN n s = some s.toNat := by
  unfold ixN
  rw [if_pos h0, if_pos h1]
theorem at_nat {α : Type} {xs : List α} {s : Int} {v : α} (h0 : 0 ≤ s) (h : xs[s.toNat]? = some v) : atI xs s = some v := by
  have h1 := (List.getElem?_eq_some_iff.mp h).1
  unfold atI
  rw [ixN_nat h0 (by omega)]
  exact h
theorem at_ints {cs : List Int} {s : Int} (h0 : 0 ≤ s) (h1 : s < (cs.length : Int)) : atI (lsI cs) s = some (.int (cnt cs s)) := by
  refine at_nat h0 ?_
  have h2 : s.toNat < cs.length := by omega
  unfold cnt
  rw [List.getElem?_map, List.getElem?_eq_getElem h2, List.getD_eq_getElem?_getD, List.getElem?_eq_getElem h2]
  rfl
theorem ix_ints {cs : List Int} {s : Int} (h0 : 0 ≤ s) (h1 : s < (cs.length : Int)) : ixN (lsI cs).length s = some s.toNat := by
  rw [List.length_map]
  exact ixN_nat h0 h1
theorem sIx_in {n d : Nat} {s : Int} (h0 : 0 ≤ s) (h1 : s ≤ (n : Int)) : HT.sIx n d (some s) = s.toNat := by
  have e : s = ((s.toNat : Nat) : Int) := by omega
  rw [e, HT.sIx_nat]
  omega
theorem cutD_take {ds : List Dt} {s : Int} (h0 : 0 ≤ s) (h1 : s ≤ (ds.length : Int)) : cutD ds none (some s) = ds.take s.toNat := by
  unfold cutD
  rw [sIx_in h0 h1, HT.sIx_none, List.drop_zero, Nat.sub_zero]
theorem cutD_drop {ds : List Dt} {s : Int} (h0 : 0 ≤ s) (h1 : s ≤ (ds.length : Int)) : cutD ds (some s) none = ds.drop s.toNat := by
  unfold cutD
  rw [sIx_in h0 h1, HT.sIx_none, List.take_of_length_le]
  rw [List.length_drop]
  omega
theorem cut_take {cs : List Int} {s : Int} (h0 : 0 ≤ s) (h1 : s < (cs.length : Int)) : PyData.tuple (cutD (lsI cs) none (some s)) = .tuple (lsI (cs.take s.toNat)) := by
  rw [cutD_take h0 (by rw [List.length_map]; omega), lsI, lsI, List.map_take]
theorem set_ints {cs : List Int} {n : Nat} {x : Int} : (lsI cs).set n (.int x) = lsI (cs.set n x) := by
  unfold lsI
  rw [List.map_set]
/-! stretches: low, wide, all -/
structure Str3 where
  l : Int
  w : Int
  a : Int
def Str3.d (s : Str3) : Dt := sd s.l s.w s.a
def part3 (s : Str3) (b c t : Int) : Str3 := ⟨s.l * t + s.w * b, s.w * c, s.a * t⟩
def whole3 : Str3 := ⟨0, 1, 1⟩
def in3 (x y : Str3) : Bool := decide (y.l * x.a ≤ x.l * y.a ∧ (x.l + x.w) * y.a ≤ (y.l + y.w) * x.a)
/-- a text's stretch and the plan behind it -/
structure St where
  s : Str3
  cs : List Int
def St.step (g : Int) (q : St) (x : Int) : St := ⟨part3 q.s (below q.cs x) (cnt q.cs x) q.cs.sum, bump q.cs g x⟩
def run (cs : List Int) (g : Int) (ss : List Int) : St := ss.foldl (St.step g) ⟨whole3, cs⟩
theorem run_snoc {cs : List Int} {g : Int} {ss : List Int} {x : Int} : run cs g (ss ++ [x]) = (run cs g ss).step g x := by
  unfold run
  rw [List.foldl_append]
  rfl
theorem run_len {cs : List Int} {g : Int} : ∀ ss : List Int, (run cs g ss).cs.length = cs.length := by
  intro ss
  unfold run
  have h : ∀ (ss : List Int) (q : St), (ss.foldl (St.step g) q).cs.length = q.cs.length := by
    intro ss
    induction ss with
    | nil => intro q; rfl
    | cons x r ih => intro q; rw [List.foldl_cons, ih]; exact bump_len
  exact h ss _
theorem sum_pos : ∀ {cs : List Int}, (∀ c ∈ cs, 1 ≤ c ∧ c ≤ 1000000) → (cs.length : Int) ≤ cs.sum ∧ cs.sum ≤ 1000000 * cs.length
  | [], _ => by simp
  | c :: cs, h => by
    have h1 := h c List.mem_cons_self
    have h2 := sum_pos (cs := cs) fun x hx => h x (List.mem_cons_of_mem _ hx)
    rw [List.sum_cons, List.length_cons]
    omega
theorem sum_split : ∀ {cs : List Int} {i : Nat}, i < cs.length → cs.sum = (cs.take i).sum + cs.getD i 0 + (cs.drop (i + 1)).sum
  | [], i, h => by simp at h
  | c :: cs, 0, _ => by simp
  | c :: cs, i + 1, h => by
    have e := sum_split (cs := cs) (i := i) (by simpa using h)
    simp only [List.take_succ_cons, List.sum_cons, List.drop_succ_cons, List.getD_cons_succ]
    omega
theorem sum_nonneg : ∀ {cs : List Int}, (∀ c ∈ cs, 1 ≤ c ∧ c ≤ 1000000) → 0 ≤ cs.sum := fun h => by
  have := sum_pos h
  omega
/-- what a share is -/
structure ShOk (b c t : Int) : Prop where
  b0 : 0 ≤ b
  c1 : 1 ≤ c
  le : b + c ≤ t
  t8 : t ≤ 8000000
theorem share_ok {cs : List Int} {g s : Int} (h : PlanOk cs g) (h0 : 0 ≤ s) (hs : s < cs.length) : ShOk (below cs s) (cnt cs s) cs.sum := by
  have hi : s.toNat < cs.length := by omega
  have e := sum_split hi
  have h1 := h.cnt _ (getD_mem hi)
  have h2 := sum_nonneg (cs := cs.take s.toNat) fun c hc => h.cnt c (List.mem_of_mem_take hc)
  have h3 := sum_nonneg (cs := cs.drop (s.toNat + 1)) fun c hc => h.cnt c (List.mem_of_mem_drop hc)
  have h4 := sum_pos h.cnt
  have h5 := h.len
  refine ⟨h2, h1.1, ?_, ?_⟩
  · unfold below cnt
    omega
  · omega
structure S3Ok (n : Nat) (s : Str3) : Prop where
  l0 : 0 ≤ s.l
  w1 : 1 ≤ s.w
  le : s.l + s.w ≤ s.a
  big : s.a ≤ 8000000 ^ n
theorem whole_ok : S3Ok 0 whole3 := ⟨by decide, by decide, by decide, by decide⟩
theorem part_ok {n : Nat} {s : Str3} {b c t : Int} (h : S3Ok n s) (k : ShOk b c t) : S3Ok (n + 1) (part3 s b c t) := by
  have h1 := h.l0
  have h2 := h.w1
  have h3 := h.le
  have h4 := h.big
  have k1 := k.b0
  have k2 := k.c1
  have k3 := k.le
  have k4 := k.t8
  have t0 : 0 ≤ t := by omega
  refine ⟨?_, ?_, ?_, ?_⟩
  · exact Int.add_nonneg (Int.mul_nonneg h1 t0) (Int.mul_nonneg (by omega) k1)
  · have := Int.mul_le_mul h2 k2 (by decide) (by omega : 0 ≤ s.w)
    simpa [part3] using this
  · show s.l * t + s.w * b + s.w * c ≤ s.a * t
    have e : s.w * b + s.w * c = s.w * (b + c) := (Int.mul_add _ _ _).symm
    have a1 : s.w * (b + c) ≤ s.w * t := Int.mul_le_mul_of_nonneg_left k3 (by omega)
    have a2 : (s.l + s.w) * t ≤ s.a * t := Int.mul_le_mul_of_nonneg_right h3 t0
    rw [Int.add_mul] at a2
    omega
  · show s.a * t ≤ 8000000 ^ (n + 1)
    rw [Int.pow_succ]
    exact Int.mul_le_mul h4 k4 t0 (by omega)
theorem signs_snoc {cs ss : List Int} {x : Int} (h : SignsOk cs (ss ++ [x])) : SignsOk cs ss ∧ 0 ≤ x ∧ x < cs.length :=
  ⟨fun s hs => h s (List.mem_append_left _ hs), h x (by simp)⟩
theorem run_ok {cs : List Int} {g : Int} (h : PlanOk cs g) : ∀ (n : Nat) (ss : List Int), ss.length = n → SignsOk cs ss → S3Ok n (run cs g ss).s ∧ PlanOk (run cs g ss).cs g
  | 0, ss, e, _ => by
    have : ss = [] := List.length_eq_zero_iff.mp e
    subst this
    exact ⟨whole_ok, h⟩
  | n + 1, ss, e, hs => by
    have hne : ss ≠ [] := fun z => by rw [z] at e; cases e
    have e2 := List.dropLast_concat_getLast hne
    rw [← e2] at hs ⊢
    obtain ⟨h1, h2, h3⟩ := signs_snoc hs
    obtain ⟨i1, i2⟩ := run_ok h n ss.dropLast (by rw [List.length_dropLast, e]; rfl) h1
    rw [run_snoc]
    have l := run_len (cs := cs) (g := g) ss.dropLast
    exact ⟨part_ok i1 (share_ok i2 h2 (by rw [l]; exact h3)), bump_ok i2 h2 (by rw [l]; exact h3)⟩
/-- sizes -/
theorem ipow_mono {b n m : Nat} (hb : 0 < b) (h : n ≤ m) : (b : Int) ^ n ≤ (b : Int) ^ m := by
  rw [← Int.natCast_pow, ← Int.natCast_pow]
  exact Int.ofNat_le.mpr (Nat.pow_le_pow_right hb h)
theorem pow_bits (n : Nat) (h : n ≤ 60) : (8000000 : Int) ^ n < 2 ^ 1400 := by
  have h1 := ipow_mono (b := 8000000) (by decide) h
  have h2 : (8000000 : Int) ^ 60 < 2 ^ 1400 := by decide +kernel
  exact Int.lt_of_le_of_lt h1 h2
theorem natAbs_lt {x : Int} {n : Nat} (h0 : 0 ≤ x) (h : x < 2 ^ n) : x.natAbs < 2 ^ n := by
  have e : ((2 ^ n : Nat) : Int) = (2 : Int) ^ n := by simp
  rw [← e] at h
  omega
structure Bits (n : Nat) (s : Str3) : Prop where
  l : s.l.natAbs < 2 ^ n
  w : s.w.natAbs < 2 ^ n
  a : s.a.natAbs < 2 ^ n
theorem S3Ok.bits {n : Nat} {s : Str3} (h : S3Ok n s) (hn : n ≤ 60) : Bits 1400 s := by
  have h1 := h.l0
  have h2 := h.w1
  have h3 := h.le
  have h4 := h.big
  have h5 := pow_bits n hn
  exact ⟨natAbs_lt h1 (by omega), natAbs_lt (by omega) (by omega), natAbs_lt (by omega) (by omega)⟩
end DL

set_option maxRecDepth 100000
set_option maxHeartbeats 4000000
namespace DL
open PySem PySem.Spec PyProof.Rows L2 Evl
theorem ints_get {ns : List Int} {i : Nat} {y : Dt} (h : (lsI ns)[i]? = some y) : ∃ x, ns[i]? = some x ∧ y = .int x := by
  rw [List.getElem?_map] at h
  cases e : ns[i]? with
  | none => rw [e] at h; cases h
  | some x => rw [e] at h; exact ⟨x, rfl, (Option.some.inj h).symm⟩
theorem signs_take {cs ss : List Int} {i : Nat} (h : SignsOk cs ss) : SignsOk cs (ss.take i) := fun s hs => h s (List.mem_of_mem_take hs)
theorem take_snoc {α : Type} {l : List α} {i : Nat} {x : α} (h : l[i]? = some x) : l.take (i + 1) = l.take i ++ [x] := by
  rw [List.take_succ, h]
  rfl
theorem wide_mulN {i j : Int} {a b : Nat} (ha : i.natAbs < 2 ^ a) (hb : j.natAbs < 2 ^ b) (h : a + b ≤ 900000) : CMulW i j := by
  have ha2 : i.natAbs < 2 ^ (a + 1) := Nat.lt_of_lt_of_le ha (Nat.pow_le_pow_right (by decide) (by omega))
  have hb2 : j.natAbs < 2 ^ (b + 1) := Nat.lt_of_lt_of_le hb (Nat.pow_le_pow_right (by decide) (by omega))
  exact wide_mul ha2 hb2 (by omega) (by omega) (by omega)
theorem lt64 {x : Int} (h0 : -8000000 ≤ x) (h : x ≤ 8000000) : x.natAbs < 2 ^ 64 := by omega
theorem ShOk.bb {b c t : Int} (h : ShOk b c t) : b.natAbs < 2 ^ 64 := lt64 (by have := h.b0; omega) (by have := h.c1; have := h.le; have := h.t8; omega)
theorem ShOk.bc {b c t : Int} (h : ShOk b c t) : c.natAbs < 2 ^ 64 := lt64 (by have := h.c1; omega) (by have := h.b0; have := h.le; have := h.t8; omega)
theorem ShOk.bt {b c t : Int} (h : ShOk b c t) : t.natAbs < 2 ^ 64 := lt64 (by have := h.b0; have := h.c1; have := h.le; omega) h.t8
/-! the law's own draws -/
def cellAt (ns : List Int) (k : Int) : Int := cnt ns k + cnt ns k % 251 * 381840
theorem cellAt_out {ns : List Int} {k : Int} (h : (ns.length : Int) ≤ k) : cellAt ns k = 0 := by
  have e : cnt ns k = 0 := by
    unfold cnt
    rw [List.getD_eq_getElem?_getD, List.getElem?_eq_none (by omega)]
    rfl
  unfold cellAt
  rw [e]
  rfl
def mixed (c k : Int) : Int := (c * (48271 + 7919 * k * k + 104729 * k) + 7919 * k + 12345) % 2147483647
theorem mixed_ge (c k : Int) : 0 ≤ mixed c k := Int.emod_nonneg _ (by decide)
def planM (c : Int) : Int := ([3, 9, 1000, 1000000] : List Int).getD (c / 7 % 4).toNat 0
def planC0 (c : Int) : List Int := (List.range (2 + c % 7).toNat).map fun (y : Nat) => 1 + mixed (c / 112) (y : Int) % planM c
def planC (c : Int) : List Int := if c / 28 % 4 = 3 then (planC0 c).set (c / 112 % ((planC0 c).length : Int)).toNat (1000000 - c / 300 % 3) else planC0 c
def planG (c : Int) : Int := ([0, 1, 7, c / 112 % 1000001] : List Int).getD (c / 28 % 4).toNat 0
theorem planC_yes {c : Int} (h : c / 28 % 4 = 3) : planC c = (planC0 c).set (c / 112 % ((planC0 c).length : Int)).toNat (1000000 - c / 300 % 3) := if_pos h
theorem planC_no {c : Int} (h : ¬ c / 28 % 4 = 3) : planC c = planC0 c := if_neg h
theorem planC0_len {c : Int} : (planC0 c).length = (2 + c % 7).toNat := by
  unfold planC0
  rw [List.length_map, List.length_range]
theorem four {i : Int} (h0 : 0 ≤ i) (h1 : i < 4) : i = 0 ∨ i = 1 ∨ i = 2 ∨ i = 3 := by omega
theorem planM_at {c : Int} (h0 : 0 ≤ c / 7 % 4) (h1 : c / 7 % 4 < 4) : atI [PyData.int 3, .int 9, .int 1000, .int 1000000] (c / 7 % 4) = some (.int (planM c)) := by
  unfold planM
  rcases four h0 h1 with e | e | e | e <;> rw [e] <;> rfl
theorem planG_at {c : Int} (h0 : 0 ≤ c / 28 % 4) (h1 : c / 28 % 4 < 4) : atI [PyData.int 0, .int 1, .int 7, .int (c / 112 % 1000001)] (c / 28 % 4) = some (.int (planG c)) := by
  unfold planG
  rcases four h0 h1 with e | e | e | e <;> rw [e] <;> rfl
theorem planM_in (c : Int) : 3 ≤ planM c ∧ planM c ≤ 1000000 := by
  unfold planM
  have h0 : 0 ≤ c / 7 % 4 := Int.emod_nonneg _ (by decide)
  have h1 : c / 7 % 4 < 4 := Int.emod_lt_of_pos _ (by decide)
  rcases four h0 h1 with e | e | e | e <;> rw [e] <;> decide
theorem planM_pos (c : Int) : 0 < planM c := by have := planM_in c; omega
theorem planG_in (c : Int) : 0 ≤ planG c ∧ planG c ≤ 1000000 := by
  unfold planG
  have h0 : 0 ≤ c / 28 % 4 := Int.emod_nonneg _ (by decide)
  have h1 : c / 28 % 4 < 4 := Int.emod_lt_of_pos _ (by decide)
  have h2 : 0 ≤ c / 112 % 1000001 := Int.emod_nonneg _ (by decide)
  have h3 : c / 112 % 1000001 < 1000001 := Int.emod_lt_of_pos _ (by decide)
  rcases four h0 h1 with e | e | e | e <;> rw [e]
  · show 0 ≤ (0 : Int) ∧ (0 : Int) ≤ 1000000
    decide
  · show 0 ≤ (1 : Int) ∧ (1 : Int) ≤ 1000000
    decide
  · show 0 ≤ (7 : Int) ∧ (7 : Int) ≤ 1000000
    decide
  · show 0 ≤ c / 112 % 1000001 ∧ c / 112 % 1000001 ≤ 1000000
    omega
theorem plan_ok (c : Int) : PlanOk (planC c) (planG c) := by
  have h7 : 0 ≤ c % 7 := Int.emod_nonneg _ (by decide)
  have h8 : c % 7 < 7 := Int.emod_lt_of_pos _ (by decide)
  have c0 : ∀ x ∈ planC0 c, 1 ≤ x ∧ x ≤ 1000000 := fun x hx => by
    unfold planC0 at hx
    obtain ⟨y, _, rfl⟩ := List.mem_map.mp hx
    have hm := planM_in c
    have a1 : 0 ≤ mixed (c / 112) (y : Int) % planM c := Int.emod_nonneg _ (by omega)
    have a2 : mixed (c / 112) (y : Int) % planM c < planM c := Int.emod_lt_of_pos _ (by omega)
    omega
  have ln : (planC c).length = (2 + c % 7).toNat := by
    unfold planC
    split
    · rw [List.length_set, planC0_len]
    · exact planC0_len
  refine ⟨by rw [ln]; omega, fun x hx => ?_, planG_in c⟩
  unfold planC at hx
  split at hx
  · rcases List.mem_or_eq_of_mem_set hx with h | rfl
    · exact c0 x h
    · have a1 : 0 ≤ c / 300 % 3 := Int.emod_nonneg _ (by decide)
      have a2 : c / 300 % 3 < 3 := Int.emod_lt_of_pos _ (by decide)
      omega
  · exact c0 x hx
end DL

set_option maxRecDepth 100000
set_option maxHeartbeats 4000000
namespace DL
open PySem PySem.Spec PyProof.Rows L2 Evl
/-! ## data that == takes -/
theorem canLay_ints : ∀ ns : List Int, PyData.canLayAll0 (lsI ns) = true
  | [] => rfl
  | n :: ns => by
    show (true && PyData.canLayAll0 (lsI ns)) = true
    rw [canLay_ints ns] <;> rfl
theorem depth_ints : ∀ ns : List Int, PyData.depthAll (lsI ns) = 0
  | [] => rfl
  | n :: ns => by
    show max 0 (PyData.depthAll (lsI ns)) = 0
    rw [depth_ints ns] <;> rfl
theorem shaped_of {d : Dt} (h1 : d.canLay0 = true) (h2 : d.depth ≤ 64) : SeqAt.shaped d = true := by
  unfold SeqAt.shaped
  rw [h1, decide_eq_true h2] <;> rfl
theorem sh_ints {ns : List Int} : SeqAt.shaped (.list (lsI ns)) = true := shaped_of (canLay_ints ns) (by
  show PyData.depthAll (lsI ns) + 1 ≤ 64
  rw [depth_ints]
  decide)
theorem sh_tints {ns : List Int} : SeqAt.shaped (.tuple (lsI ns)) = true := shaped_of (canLay_ints ns) (by
  show PyData.depthAll (lsI ns) + 1 ≤ 64
  rw [depth_ints]
  decide)
theorem sh_pd {cs : List Int} {g : Int} : SeqAt.shaped (pd cs g) = true := shaped_of (by
  show (PyData.canLayAll0 (lsI cs) && (true && true)) = true
  rw [canLay_ints] <;> rfl) (by
  show max (PyData.depthAll (lsI cs) + 1) (max 0 0) + 1 ≤ 64
  rw [depth_ints]
  decide)
theorem eqv_ints : ∀ {a b : List Int}, PyData.eqvAll (lsI a) (lsI b) = decide (a = b)
  | [], [] => rfl
  | [], _ :: _ => rfl
  | _ :: _, [] => rfl
  | x :: a, y :: b => by
    show ((x == y) && PyData.eqvAll (lsI a) (lsI b)) = _
    rw [eqv_ints, Bool.eq_iff_iff]
    simp
theorem eqv_lists {a b : List Int} : PyData.eqv (.list (lsI a)) (.list (lsI b)) = decide (a = b) := eqv_ints
theorem eqv_tups {a b : List Int} : PyData.eqv (.tuple (lsI a)) (.tuple (lsI b)) = decide (a = b) := eqv_ints
theorem cutD_last {t : List Int} : cutD (lsI t) none (some (-1)) = lsI t.dropLast := by
  have e : cutD (lsI t) none (some (-1)) = (lsI t).dropLast := by
    unfold cutD
    have e1 : HT.sIx (lsI t).length (lsI t).length (some (-1)) = (lsI t).length - 1 := by
      show (if (-1 : Int) < 0 then ((-1 : Int) + ((lsI t).length : Int)).toNat else min (-1 : Int).toNat (lsI t).length) = _
      rw [if_pos (by decide)]
      omega
    rw [e1, HT.sIx_none, List.drop_zero, Nat.sub_zero, List.dropLast_eq_take]
  rw [e, lsI, lsI, List.map_dropLast]
/-! ## all texts of a length, in the order of lists -/
def kids (k : Nat) (t : List Int) : List (List Int) := (List.range k).map fun (s : Nat) => t ++ [(s : Int)]
def texts (k : Nat) : Nat → List (List Int)
  | 0 => [[]]
  | n + 1 => (texts k n).flatMap (kids k)
abbrev lsL (ts : List (List Int)) : List Dt := ts.map fun t => .list (lsI t)
theorem kids_len {k : Nat} {t : List Int} : (kids k t).length = k := by
  unfold kids
  rw [List.length_map, List.length_range]
theorem flat_len {k : Nat} : ∀ {ts : List (List Int)}, (ts.flatMap (kids k)).length = ts.length * k
  | [] => by simp
  | t :: ts => by
    rw [List.flatMap_cons, List.length_append, kids_len, flat_len, List.length_cons, Nat.succ_mul]
    omega
theorem texts_len {k : Nat} : ∀ n, (texts k n).length = k ^ n
  | 0 => rfl
  | n + 1 => by
    show ((texts k n).flatMap (kids k)).length = _
    rw [flat_len, texts_len n, Nat.pow_succ]
theorem texts_mem {k : Nat} : ∀ {n : Nat} {t : List Int}, t ∈ texts k n → t.length = n ∧ ∀ s ∈ t, 0 ≤ s ∧ s < (k : Int)
  | 0, t, h => by
    have e : t = [] := List.mem_singleton.mp h
    subst e
    exact ⟨rfl, fun s hs => by cases hs⟩
  | n + 1, t, h => by
    obtain ⟨u, hu, h2⟩ := List.mem_flatMap.mp h
    obtain ⟨s, hs, rfl⟩ := List.mem_map.mp h2
    obtain ⟨e, h3⟩ := texts_mem hu
    refine ⟨by rw [List.length_append, e]; rfl, fun x hx => ?_⟩
    rcases List.mem_append.mp hx with hx | hx
    · exact h3 x hx
    · have := List.mem_singleton.mp hx
      have := List.mem_range.mp hs
      omega
/-- the stretches of the texts lie one behind the other, from e0 / e1 to f0 / f1 -/
def tiles (S : List Int → Str3) (f0 f1 : Int) : Int → Int → List (List Int) → Prop
  | e0, e1, [] => e0 * f1 = f0 * e1
  | e0, e1, t :: r => (S t).l * e1 = e0 * (S t).a ∧ tiles S f0 f1 ((S t).l + (S t).w) (S t).a r
theorem cross {a b c d e f : Int} (hb : b ≠ 0) (h1 : a * d = c * b) (h2 : e * b = a * f) : e * d = c * f := by
  have h3 : b * (e * d) = b * (c * f) := by
    have x1 : b * (e * d) = (e * b) * d := by rw [Int.mul_comm e b, Int.mul_assoc]
    have x2 : (e * b) * d = (a * d) * f := by rw [h2, Int.mul_assoc, Int.mul_comm f d, ← Int.mul_assoc]
    have x3 : (a * d) * f = b * (c * f) := by rw [h1, Int.mul_comm c b, Int.mul_assoc]
    rw [x1, x2, x3]
  exact Int.eq_of_mul_eq_mul_left hb h3
theorem tiles_congr {S : List Int → Str3} {f0 f1 e0 e1 d0 d1 : Int} (h1 : e1 ≠ 0) (h : e0 * d1 = d0 * e1) : ∀ {L : List (List Int)}, tiles S f0 f1 e0 e1 L → tiles S f0 f1 d0 d1 L
  | [], q => by
    have q2 : e0 * f1 = f0 * e1 := q
    show d0 * f1 = f0 * d1
    exact cross h1 q2 h.symm
  | t :: r, q => ⟨(cross h1 h q.1), q.2⟩
theorem below_succ {cs : List Int} {j : Nat} (h : j < cs.length) : below cs ((j + 1 : Nat) : Int) = below cs (j : Int) + cnt cs (j : Int) := by
  unfold below cnt
  rw [Int.toNat_natCast, Int.toNat_natCast, List.take_succ, List.sum_append, List.getElem?_eq_getElem h, List.getD_eq_getElem?_getD, List.getElem?_eq_getElem h]
  simp
theorem tiles_kids {cs : List Int} {g : Int} {t : List Int} {f0 f1 : Int} {rest : List (List Int)} (ok : PlanOk (run cs g t).cs g) (st : ∃ n, S3Ok n (run cs g t).s) (h : tiles (fun t => (run cs g t).s) f0 f1 ((run cs g t).s.l + (run cs g t).s.w) (run cs g t).s.a rest) :
    ∀ (m j : Nat), j + m = cs.length → tiles (fun t => (run cs g t).s) f0 f1 ((run cs g t).s.l * (run cs g t).cs.sum + (run cs g t).s.w * below (run cs g t).cs (j : Int)) ((run cs g t).s.a * (run cs g t).cs.sum) ((List.range' j m).map (fun (s : Nat) => t ++ [(s : Int)]) ++ rest) := by
  obtain ⟨n, s3⟩ := st
  have hl := run_len (cs := cs) (g := g) t
  have hp := sum_pos ok.cnt
  have h2 := ok.len
  have a1 := s3.w1
  have a2 := s3.l0
  have a3 := s3.le
  intro m
  induction m with
  | zero =>
    intro j hj
    have e : below (run cs g t).cs (j : Int) = (run cs g t).cs.sum := by
      unfold below
      rw [Int.toNat_natCast, List.take_of_length_le (by omega)]
    rw [e, List.range'_zero, List.map_nil, List.nil_append, ← Int.add_mul]
    refine tiles_congr (by omega) ?_ h
    rw [← Int.mul_assoc, Int.mul_right_comm]
  | succ m ih =>
    intro j hj
    have ih2 := ih (j + 1) (by omega)
    rw [below_succ (by omega)] at ih2
    rw [List.range'_succ, List.map_cons, List.cons_append]
    have e : run cs g (t ++ [(j : Int)]) = (run cs g t).step g (j : Int) := run_snoc
    refine ⟨?_, ?_⟩
    · show (run cs g (t ++ [(j : Int)])).s.l * _ = _ * (run cs g (t ++ [(j : Int)])).s.a
      rw [e]
      rfl
    · show tiles _ f0 f1 ((run cs g (t ++ [(j : Int)])).s.l + (run cs g (t ++ [(j : Int)])).s.w) (run cs g (t ++ [(j : Int)])).s.a _
      rw [e]
      show tiles _ f0 f1 ((run cs g t).s.l * (run cs g t).cs.sum + (run cs g t).s.w * below (run cs g t).cs (j : Int) + (run cs g t).s.w * cnt (run cs g t).cs (j : Int)) ((run cs g t).s.a * (run cs g t).cs.sum) _
      rw [Int.mul_add, ← Int.add_assoc] at ih2
      exact ih2
theorem tiles_step {cs : List Int} {g f0 f1 : Int} : ∀ {L : List (List Int)} {e0 e1 : Int}, (∀ t ∈ L, PlanOk (run cs g t).cs g ∧ ∃ n, S3Ok n (run cs g t).s) → tiles (fun t => (run cs g t).s) f0 f1 e0 e1 L → tiles (fun t => (run cs g t).s) f0 f1 e0 e1 (L.flatMap (kids cs.length))
  | [], _, _, _, h => h
  | t :: r, e0, e1, hL, h => by
    obtain ⟨ok, n, s3⟩ := hL t List.mem_cons_self
    have h2 : (run cs g t).s.l * e1 = e0 * (run cs g t).s.a := h.1
    have h3 := tiles_step (L := r) (fun u hu => hL u (List.mem_cons_of_mem _ hu)) h.2
    have h4 := tiles_kids ok ⟨n, s3⟩ h3 cs.length 0 (by omega)
    have hp := sum_pos ok.cnt
    have h5 := ok.len
    have a1 := s3.w1
    have a2 := s3.l0
    have a3 := s3.le
    have b0 : below (run cs g t).cs ((0 : Nat) : Int) = 0 := rfl
    rw [b0, Int.mul_zero, Int.add_zero] at h4
    rw [List.flatMap_cons]
    show tiles _ f0 f1 e0 e1 ((List.range cs.length).map (fun (s : Nat) => t ++ [(s : Int)]) ++ _)
    rw [List.range_eq_range']
    have hs : 0 < (run cs g t).cs.sum := by omega
    have ha : 0 < (run cs g t).s.a := by omega
    refine tiles_congr (Int.ne_of_gt (Int.mul_pos ha hs)) ?_ h4
    rw [Int.mul_right_comm, h2, Int.mul_assoc]
theorem texts_tile {cs : List Int} {g : Int} (ok : PlanOk cs g) : ∀ n, tiles (fun t => (run cs g t).s) 1 1 0 1 (texts cs.length n)
  | 0 => ⟨rfl, rfl⟩
  | n + 1 => tiles_step (fun t ht => by
      obtain ⟨e, h⟩ := texts_mem ht
      obtain ⟨a, b⟩ := run_ok ok n t e h
      exact ⟨b, n, a⟩) (texts_tile ok n)
/-- each part lies within -/
theorem part_in {n : Nat} {s : Str3} {b c t : Int} (h : S3Ok n s) (k : ShOk b c t) : in3 (part3 s b c t) s = true := by
  have h1 := h.l0
  have h2 := h.w1
  have h3 := h.le
  have k1 := k.b0
  have k2 := k.c1
  have k3 := k.le
  refine decide_eq_true ⟨?_, ?_⟩
  · show s.l * (s.a * t) ≤ (s.l * t + s.w * b) * s.a
    have e1 : s.l * (s.a * t) = (s.l * t) * s.a := by rw [Int.mul_comm s.a t, Int.mul_assoc]
    rw [e1, Int.add_mul]
    have := Int.mul_nonneg (Int.mul_nonneg (by omega : 0 ≤ s.w) k1) (by omega : 0 ≤ s.a)
    omega
  · show (s.l * t + s.w * b + s.w * c) * s.a ≤ (s.l + s.w) * (s.a * t)
    have e1 : (s.l + s.w) * (s.a * t) = ((s.l + s.w) * t) * s.a := by rw [Int.mul_comm s.a t, Int.mul_assoc]
    rw [e1]
    refine Int.mul_le_mul_of_nonneg_right ?_ (by omega)
    have e2 : s.w * b + s.w * c = s.w * (b + c) := (Int.mul_add _ _ _).symm
    have a1 : s.w * (b + c) ≤ s.w * t := Int.mul_le_mul_of_nonneg_left k3 (by omega)
    rw [Int.add_mul]
    omega
theorem run_in {cs : List Int} {g : Int} (ok : PlanOk cs g) {t : List Int} (hs : SignsOk cs t) (hne : t ≠ []) : in3 (run cs g t).s (run cs g t.dropLast).s = true := by
  have e2 := List.dropLast_concat_getLast hne
  have hs2 := hs
  rw [← e2] at hs2
  obtain ⟨h1, h2, h3⟩ := signs_snoc hs2
  obtain ⟨i1, i2⟩ := run_ok ok _ t.dropLast rfl h1
  have l := run_len (cs := cs) (g := g) t.dropLast
  have z := part_in i1 (share_ok i2 h2 (by rw [l]; exact h3))
  have e3 : run cs g t = (run cs g t.dropLast).step g (t.getLast hne) := by
    rw [← run_snoc, e2]
  rw [e3]
  exact z
end DL
namespace DL
open PySem PySem.Spec PyProof.Rows L2 Evl
theorem eqv_int {i j : Int} : PyData.eqv (.int i) (.int j) = decide (i = j) := by
  show (i == j) = _
  rw [Bool.eq_iff_iff]
  simp
theorem kids_snoc {k j : Nat} {L : List (List Int)} {t : List Int} (ht : L[j]? = some t) : lsL ((L.take (j + 1)).flatMap (kids k)) = lsL ((L.take j).flatMap (kids k)) ++ (List.range k).map (fun (s : Nat) => PyData.list (lsI (t ++ [(s : Int)]))) := by
  rw [take_snoc ht, List.flatMap_append, lsL, lsL, List.map_append, List.flatMap_singleton, kids, List.map_map]
  rfl
theorem lists_get {ts : List (List Int)} {i : Nat} {y : Dt} (h : (lsL ts)[i]? = some y) : ∃ t, ts[i]? = some t ∧ y = .list (lsI t) := by
  rw [List.getElem?_map] at h
  cases e : ts[i]? with
  | none => rw [e] at h; cases h
  | some x => rw [e] at h; exact ⟨x, rfl, (Option.some.inj h).symm⟩
end DL

set_option maxRecDepth 100000
set_option maxHeartbeats 4000000
namespace DL
open PySem PySem.Spec PyProof.Rows L2 Evl
/-! ## fractions, stretches within and ahead of others -/
theorem fle_trans {a b c d e f : Int} (hd : 0 < d) (hb : 0 < b) (hf : 0 < f) (h1 : a * d ≤ c * b) (h2 : c * f ≤ e * d) : a * f ≤ e * b := by
  have x1 : (a * d) * f ≤ (c * b) * f := Int.mul_le_mul_of_nonneg_right h1 (by omega)
  have x2 : (c * f) * b ≤ (e * d) * b := Int.mul_le_mul_of_nonneg_right h2 (by omega)
  have e1 : (a * d) * f = (a * f) * d := by rw [Int.mul_assoc, Int.mul_comm d f, ← Int.mul_assoc]
  have e2 : (c * b) * f = (c * f) * b := by rw [Int.mul_assoc, Int.mul_comm b f, ← Int.mul_assoc]
  have e3 : (e * d) * b = (e * b) * d := by rw [Int.mul_assoc, Int.mul_comm d b, ← Int.mul_assoc]
  have x3 : (a * f) * d ≤ (e * b) * d := by omega
  exact Int.le_of_mul_le_mul_right x3 hd
theorem in3_iff {x y : Str3} : in3 x y = true ↔ y.l * x.a ≤ x.l * y.a ∧ (x.l + x.w) * y.a ≤ (y.l + y.w) * x.a := decide_eq_true_iff
/-- x ends where y begins, or ahead of it -/
def Ahead (x y : Str3) : Prop := (x.l + x.w) * y.a ≤ y.l * x.a
structure Real3 (s : Str3) : Prop where
  w : 0 < s.w
  a : 0 < s.a
theorem S3Ok.real {n : Nat} {s : Str3} (h : S3Ok n s) : Real3 s := ⟨by have := h.w1; omega, by have := h.w1; have := h.l0; have := h.le; omega⟩
theorem in3_trans {x y z : Str3} (hx : Real3 x) (hy : Real3 y) (hz : Real3 z) (h1 : in3 x y = true) (h2 : in3 y z = true) : in3 x z = true := by
  rw [in3_iff] at h1 h2 ⊢
  exact ⟨fle_trans hy.a hz.a hx.a h2.1 h1.1, fle_trans hy.a hx.a hz.a h1.2 h2.2⟩
theorem in3_refl (x : Str3) : in3 x x = true := in3_iff.mpr ⟨Int.le_refl _, Int.le_refl _⟩
theorem ahead_in {x y u v : Str3} (hx : Real3 x) (hy : Real3 y) (hu : Real3 u) (hv : Real3 v) (h : Ahead x y) (h1 : in3 u x = true) (h2 : in3 v y = true) : Ahead u v := by
  rw [in3_iff] at h1 h2
  have a1 : (u.l + u.w) * y.a ≤ y.l * u.a := fle_trans hx.a hu.a hy.a h1.2 h
  exact fle_trans hy.a hu.a hv.a a1 h2.1
theorem not_self {x : Str3} (hx : Real3 x) (h : Ahead x x) : False := by
  have e : (x.l + x.w) * x.a ≤ x.l * x.a := h
  have e2 := Int.le_of_mul_le_mul_right e hx.a
  have := hx.w
  omega
theorem not_both {x y : Str3} (hx : Real3 x) (hy : Real3 y) (h1 : Ahead x y) (h2 : Ahead y x) : False := by
  have e1 : (x.l + x.w) * y.a ≤ y.l * x.a := h1
  have e2 : (y.l + y.w) * x.a ≤ x.l * y.a := h2
  have a1 := Int.mul_pos hx.w hy.a
  have a2 := Int.mul_pos hy.w hx.a
  rw [Int.add_mul] at e1 e2
  omega
/-! ## figures by twos -/
def Bin (f : List Int) : Prop := ∀ b ∈ f, b = 0 ∨ b = 1
def valT (f : List Int) : Int := f.foldl (fun a b => 2 * a + b) 0
def fig (f : List Int) : Str3 := ⟨valT f, 1, 2 ^ f.length⟩
theorem two_pos (n : Nat) : (0 : Int) < 2 ^ n := Int.pow_pos (by decide)
theorem fig_real (f : List Int) : Real3 (fig f) := ⟨by show (0 : Int) < 1; decide, two_pos _⟩
theorem valT_snoc {f : List Int} {b : Int} : valT (f ++ [b]) = 2 * valT f + b := by
  unfold valT
  rw [List.foldl_append]
  rfl
theorem two_succ (n : Nat) : (2 : Int) ^ (n + 1) = 2 * 2 ^ n := by rw [Int.pow_succ, Int.mul_comm]
theorem fig_snoc {f : List Int} {b : Int} : fig (f ++ [b]) = ⟨2 * valT f + b, 1, 2 * 2 ^ f.length⟩ := by
  unfold fig
  rw [valT_snoc, List.length_append, List.length_singleton, two_succ]
theorem fig_in1 {f : List Int} {b : Int} (h : b = 0 ∨ b = 1) : in3 (fig (f ++ [b])) (fig f) = true := by
  rw [fig_snoc, in3_iff]
  have p := two_pos f.length
  show valT f * (2 * 2 ^ f.length) ≤ (2 * valT f + b) * 2 ^ f.length ∧ (2 * valT f + b + 1) * 2 ^ f.length ≤ (valT f + 1) * (2 * 2 ^ f.length)
  generalize valT f = v
  generalize (2 : Int) ^ f.length = n at *
  have e1 : v * (2 * n) = 2 * (v * n) := by rw [← Int.mul_assoc, Int.mul_comm v 2, Int.mul_assoc]
  have e3 : (v + 1) * (2 * n) = 2 * (v * n) + 2 * n := by rw [Int.add_mul, e1, Int.one_mul]
  have e2 : (2 * v + b) * n = 2 * (v * n) + b * n := by rw [Int.add_mul, Int.mul_assoc]
  have e4 : (2 * v + b + 1) * n = 2 * (v * n) + b * n + n := by rw [Int.add_mul, e2, Int.one_mul]
  rw [e1, e2, e3, e4]
  rcases h with rfl | rfl <;> omega
theorem fig_in {f : List Int} : ∀ {r : List Int}, Bin r → in3 (fig (f ++ r)) (fig f) = true := by
  intro r
  induction r generalizing f with
  | nil => intro _; rw [List.append_nil]; exact in3_refl _
  | cons b r ih =>
    intro h
    have e : f ++ b :: r = (f ++ [b]) ++ r := by simp
    rw [e]
    exact in3_trans (fig_real _) (fig_real _) (fig_real _) (ih fun x hx => h x (List.mem_cons_of_mem _ hx)) (fig_in1 (h b List.mem_cons_self))
theorem fig_ahead {c f g : List Int} (hf : Bin f) (hg : Bin g) : Ahead (fig (c ++ 0 :: f)) (fig (c ++ 1 :: g)) := by
  have e : ∀ (b : Int) (f : List Int), c ++ b :: f = (c ++ [b]) ++ f := fun b f => by simp
  rw [e 0 f, e 1 g]
  refine ahead_in (fig_real (c ++ [0])) (fig_real (c ++ [1])) (fig_real _) (fig_real _) ?_ (fig_in hf) (fig_in hg)
  rw [fig_snoc, fig_snoc]
  show (2 * valT c + 0 + 1) * (2 * 2 ^ c.length) ≤ (2 * valT c + 1) * (2 * 2 ^ c.length)
  rw [Int.add_zero]
  exact Int.le_refl _
/-- two rows: one begins with the other one, or they part -/
theorem rows_cmp : ∀ (f g : List Int), (∃ r, f = g ++ r) ∨ (∃ r, g = f ++ r) ∨ ∃ c x y f' g', f = c ++ x :: f' ∧ g = c ++ y :: g' ∧ x ≠ y
  | [], g => .inr (.inl ⟨g, rfl⟩)
  | f, [] => .inl ⟨f, rfl⟩
  | x :: f, y :: g => by
    by_cases h : x = y
    · subst h
      rcases rows_cmp f g with ⟨r, rfl⟩ | ⟨r, rfl⟩ | ⟨c, u, v, f', g', rfl, rfl, n⟩
      · exact .inl ⟨r, rfl⟩
      · exact .inr (.inl ⟨r, rfl⟩)
      · exact .inr (.inr ⟨x :: c, u, v, f', g', rfl, rfl, n⟩)
    · exact .inr (.inr ⟨[], x, y, f, g, rfl, rfl, h⟩)
theorem Bin.part {c f : List Int} {x : Int} (h : Bin (c ++ x :: f)) : (x = 0 ∨ x = 1) ∧ Bin f := ⟨h x (by simp), fun b hb => h b (by simp [hb])⟩
theorem fig_wide {f g : List Int} (h : in3 (fig f) (fig g) = true) : g.length ≤ f.length := by
  rw [in3_iff] at h
  obtain ⟨h1, h2⟩ := h
  have a1 : valT g * 2 ^ f.length ≤ valT f * 2 ^ g.length := h1
  have a2 : (valT f + 1) * 2 ^ g.length ≤ (valT g + 1) * 2 ^ f.length := h2
  rw [Int.add_mul, Int.add_mul, Int.one_mul, Int.one_mul] at a2
  have a3 : (2 : Int) ^ g.length ≤ 2 ^ f.length := by omega
  have a4 : (2 : Nat) ^ g.length ≤ 2 ^ f.length := by
    rw [← Int.ofNat_le]
    simpa using a3
  exact (Nat.pow_le_pow_iff_right (by decide)).mp a4
/-- within means begins with -/
theorem fig_pre {f g : List Int} (hf : Bin f) (hg : Bin g) (h : in3 (fig f) (fig g) = true) : f.take g.length = g := by
  rcases rows_cmp f g with ⟨r, rfl⟩ | ⟨r, rfl⟩ | ⟨c, x, y, f', g', rfl, rfl, n⟩
  · rw [List.take_left']
    rfl
  · have l := fig_wide h
    rw [List.length_append] at l
    have e : r = [] := List.length_eq_zero_iff.mp (by omega)
    subst e
    rw [List.append_nil, List.take_length]
  · obtain ⟨x1, x2⟩ := hf.part
    obtain ⟨y1, y2⟩ := hg.part
    have q : Ahead (fig (c ++ x :: f')) (fig (c ++ y :: g')) ∨ Ahead (fig (c ++ y :: g')) (fig (c ++ x :: f')) := by
      rcases x1 with rfl | rfl <;> rcases y1 with rfl | rfl
      · exact absurd rfl n
      · exact .inl (fig_ahead x2 y2)
      · exact .inr (fig_ahead y2 x2)
      · exact absurd rfl n
    rcases q with q | q
    · exact (not_self (fig_real _) (ahead_in (fig_real _) (fig_real _) (fig_real _) (fig_real _) q (in3_refl _) h)).elim
    · exact (not_self (fig_real _) (ahead_in (fig_real _) (fig_real _) (fig_real _) (fig_real _) q h (in3_refl _))).elim
/-- a number by so many twos, the first one counting most -/
def twos : Nat → Int → List Int
  | 0, _ => []
  | n + 1, x => x / 2 ^ n % 2 :: twos n x
theorem twos_len : ∀ {n : Nat} {x : Int}, (twos n x).length = n
  | 0, _ => rfl
  | n + 1, x => congrArg (· + 1) (twos_len (n := n) (x := x))
theorem twos_bin : ∀ {n : Nat} {x : Int}, Bin (twos n x)
  | 0, _, b, h => by cases h
  | n + 1, x, b, h => by
    rcases List.mem_cons.mp h with rfl | h
    · omega
    · exact twos_bin b h
theorem valT_from : ∀ (f : List Int) (a : Int), f.foldl (fun a b => 2 * a + b) a = a * 2 ^ f.length + valT f
  | [], a => by simp [valT]
  | b :: f, a => by
    have e := valT_from f (2 * a + b)
    have e2 := valT_from f (2 * 0 + b)
    unfold valT at *
    rw [List.foldl_cons, e, List.foldl_cons, e2, List.length_cons, two_succ, Int.mul_zero, Int.zero_add, Int.add_mul, ← Int.mul_assoc, Int.mul_comm 2 a, Int.add_assoc]
theorem valT_cons {b : Int} {f : List Int} : valT (b :: f) = b * 2 ^ f.length + valT f := by
  have e := valT_from f (2 * 0 + b)
  have e2 : 2 * 0 + b = b := by omega
  calc valT (b :: f) = f.foldl (fun a b => 2 * a + b) (2 * 0 + b) := rfl
    _ = (2 * 0 + b) * 2 ^ f.length + valT f := e
    _ = b * 2 ^ f.length + valT f := by rw [e2]
theorem twos_val' : ∀ (n : Nat) (x : Int), valT (twos n x) = x - 2 ^ n * (x / 2 ^ n)
  | 0, x => by
    show valT [] = x - 1 * (x / 1)
    rw [Int.ediv_one, Int.one_mul, Int.sub_self]
    rfl
  | n + 1, x => by
    have e := twos_val' n x
    have p := two_pos n
    show valT (x / 2 ^ n % 2 :: twos n x) = _
    rw [valT_cons, twos_len, e]
    have d : x / 2 ^ (n + 1) = x / 2 ^ n / 2 := by rw [Int.pow_succ, Int.ediv_ediv_of_nonneg (by omega)]
    rw [d, two_succ]
    generalize x / 2 ^ n = q
    generalize (2 : Int) ^ n = N
    have hq : q = 2 * (q / 2) + q % 2 := by omega
    have h1 : N * q = N * (2 * (q / 2) + q % 2) := congrArg (N * ·) hq
    rw [Int.mul_add, ← Int.mul_assoc, Int.mul_comm N 2] at h1
    have h2 : q % 2 * N = N * (q % 2) := Int.mul_comm _ _
    omega
theorem twos_val {n : Nat} {x : Int} (h0 : 0 ≤ x) (h : x < 2 ^ n) : valT (twos n x) = x := by
  rw [twos_val', Int.ediv_eq_zero_of_lt h0 h, Int.mul_zero, Int.sub_zero]
/-! ## the fewest figures -/
def numAt (s : Str3) (m : Nat) : Int := -(-s.l * 2 ^ m / s.a)
def okAt (s : Str3) (m : Nat) : Bool := decide ((numAt s m + 1) * s.a ≤ (s.l + s.w) * 2 ^ m)
def few (s : Str3) : Nat := ((List.range 2000).find? (okAt s)).getD 0
def figs (s : Str3) : List Int := twos (few s) (numAt s (few s))
theorem num_le {s : Str3} (h : 0 < s.a) (m : Nat) : s.l * 2 ^ m ≤ numAt s m * s.a ∧ numAt s m * s.a < s.l * 2 ^ m + s.a := by
  unfold numAt
  have h1 := Int.mul_ediv_add_emod (-s.l * 2 ^ m) s.a
  have h2 := Int.emod_nonneg (-s.l * 2 ^ m) (by omega : s.a ≠ 0)
  have h3 := Int.emod_lt_of_pos (-s.l * 2 ^ m) h
  generalize -s.l * 2 ^ m % s.a = r at *
  generalize hq : -s.l * 2 ^ m / s.a = q at *
  rw [Int.neg_mul] at h1 ⊢
  have e : s.a * q = q * s.a := Int.mul_comm _ _
  omega
theorem ok_far {s : Str3} {m : Nat} (h : 0 < s.a) (hm : 2 * s.a ≤ s.w * 2 ^ m) : okAt s m = true := by
  have h1 := (num_le h m).2
  refine decide_eq_true ?_
  rw [Int.add_mul, Int.add_mul, Int.one_mul]
  omega
theorem few_ok {s : Str3} {m : Nat} (hm : m < 2000) (h : okAt s m = true) : okAt s (few s) = true ∧ few s < 2000 ∧ ∀ k < few s, okAt s k = false := by
  unfold few
  cases e : (List.range 2000).find? (okAt s) with
  | none =>
    have := List.find?_eq_none.mp e m (List.mem_range.mpr hm)
    exact absurd h this
  | some i =>
    obtain ⟨h1, h2, h3⟩ := List.find?_range_eq_some.mp e
    exact ⟨h1, List.mem_range.mp h2, fun k hk => by simpa using h3 k hk⟩
theorem few_is {s : Str3} {m : Nat} (hm : m < 2000) (h : okAt s m = true) (hk : ∀ k < m, okAt s k = false) : few s = m := by
  obtain ⟨h1, h2, h3⟩ := few_ok hm h
  rcases Nat.lt_trichotomy (few s) m with c | c | c
  · rw [hk _ c] at h1; cases h1
  · exact c
  · rw [h3 _ c] at h; cases h
/-- a stretch in the whole, not too fine -/
structure Fine (s : Str3) : Prop where
  l0 : 0 ≤ s.l
  w1 : 1 ≤ s.w
  le : s.l + s.w ≤ s.a
  big : s.a < 2 ^ 1400
theorem Fine.real {s : Str3} (h : Fine s) : Real3 s := ⟨by have := h.w1; omega, by have := h.w1; have := h.l0; have := h.le; omega⟩
theorem S3Ok.fine {n : Nat} {s : Str3} (h : S3Ok n s) (hn : n ≤ 60) : Fine s := ⟨h.l0, h.w1, h.le, by have := h.big; have := pow_bits n hn; omega⟩
theorem fine_far {s : Str3} (h : Fine s) : okAt s 1401 = true := by
  refine ok_far h.real.a ?_
  have h1 := h.big
  have h2 := h.w1
  have h3 : 1 * (2 : Int) ^ 1401 ≤ s.w * 2 ^ 1401 := Int.mul_le_mul_of_nonneg_right h2 (by have := two_pos 1401; omega)
  rw [two_succ 1400] at h3 ⊢
  omega
theorem few_le {s : Str3} (h : Fine s) : few s ≤ 1401 := by
  obtain ⟨h1, h2, h3⟩ := few_ok (by decide) (fine_far h)
  rcases Nat.lt_or_ge 1401 (few s) with c | c
  · have := h3 _ c
    rw [fine_far h] at this
    cases this
  · exact c
theorem num_in {s : Str3} (h : Fine s) {m : Nat} (ok : okAt s m = true) : 0 ≤ numAt s m ∧ numAt s m < 2 ^ m := by
  have p := two_pos m
  have ha := h.real.a
  obtain ⟨h1, h2⟩ := num_le ha m
  have h3 := of_decide_eq_true ok
  have h4 : (s.l + s.w) * 2 ^ m ≤ s.a * 2 ^ m := Int.mul_le_mul_of_nonneg_right h.le (by omega)
  have h5 : (numAt s m + 1) * s.a ≤ 2 ^ m * s.a := by rw [Int.mul_comm (2 ^ m) s.a]; omega
  have h6 := Int.le_of_mul_le_mul_right h5 ha
  have h7 : 0 * s.a ≤ numAt s m * s.a := by
    rw [Int.zero_mul]
    have := Int.mul_nonneg h.l0 (by omega : (0 : Int) ≤ 2 ^ m)
    omega
  have h8 := Int.le_of_mul_le_mul_right h7 ha
  omega
theorem figs_bin {s : Str3} : Bin (figs s) := twos_bin
theorem figs_len {s : Str3} : (figs s).length = few s := twos_len
theorem figs_fig {s : Str3} (h : Fine s) : fig (figs s) = ⟨numAt s (few s), 1, 2 ^ few s⟩ := by
  obtain ⟨h1, h2, h3⟩ := few_ok (by decide) (fine_far h)
  obtain ⟨a, b⟩ := num_in h h1
  show Str3.mk (valT (twos (few s) (numAt s (few s)))) 1 (2 ^ (twos (few s) (numAt s (few s))).length) = _
  rw [twos_val a b, twos_len]
theorem figs_in {s : Str3} (h : Fine s) : in3 (fig (figs s)) s = true := by
  obtain ⟨h1, h2, h3⟩ := few_ok (by decide) (fine_far h)
  rw [figs_fig h, in3_iff]
  exact ⟨(num_le h.real.a _).1, of_decide_eq_true h1⟩
/-! ## unlike texts lie apart -/
theorem run_nil {cs : List Int} {g : Int} : run cs g [] = ⟨whole3, cs⟩ := rfl
theorem run_real {cs : List Int} {g : Int} (ok : PlanOk cs g) {t : List Int} (h : SignsOk cs t) : Real3 (run cs g t).s := (run_ok ok _ t rfl h).1.real
theorem run_pre {cs : List Int} {g : Int} (ok : PlanOk cs g) {c : List Int} : ∀ {r : List Int}, SignsOk cs (c ++ r) → in3 (run cs g (c ++ r)).s (run cs g c).s = true := by
  intro r
  induction r generalizing c with
  | nil => intro _; rw [List.append_nil]; exact in3_refl _
  | cons b r ih =>
    intro h
    have e : c ++ b :: r = (c ++ [b]) ++ r := by simp
    rw [e] at h ⊢
    have h1 : SignsOk cs (c ++ [b]) := fun s hs => h s (List.mem_append_left _ hs)
    have h2 : SignsOk cs c := fun s hs => h1 s (List.mem_append_left _ hs)
    have z := run_in ok h1 (by simp)
    rw [List.dropLast_concat] at z
    exact in3_trans (run_real ok h) (run_real ok h1) (run_real ok h2) (ih h) z
theorem below_mono {cs : List Int} (h : ∀ c ∈ cs, 1 ≤ c ∧ c ≤ 1000000) {i j : Int} (h0 : 0 ≤ i) (hij : i < j) (hj : j < (cs.length : Int)) : below cs i + cnt cs i ≤ below cs j := by
  have e : below cs i + cnt cs i = (cs.take (i.toNat + 1)).sum := by
    have := below_succ (cs := cs) (j := i.toNat) (by omega)
    have e1 : ((i.toNat : Nat) : Int) = i := by omega
    rw [e1] at this
    rw [← this]
    unfold below
    congr 2
  rw [e]
  unfold below
  have e2 : cs.take j.toNat = cs.take (i.toNat + 1) ++ (cs.drop (i.toNat + 1)).take (j.toNat - (i.toNat + 1)) := by
    have := List.take_add (l := cs) (i := i.toNat + 1) (j := j.toNat - (i.toNat + 1))
    rw [← this]
    congr 1
    omega
  rw [e2, List.sum_append]
  have := sum_nonneg (cs := (cs.drop (i.toNat + 1)).take (j.toNat - (i.toNat + 1))) fun c hc => h c (List.mem_of_mem_drop (List.mem_of_mem_take hc))
  omega
theorem part_ahead {cs : List Int} {s : Str3} (hs : Real3 s) (h : ∀ c ∈ cs, 1 ≤ c ∧ c ≤ 1000000) {i j : Int} (h0 : 0 ≤ i) (hij : i < j) (hj : j < (cs.length : Int)) (ht : 0 < cs.sum) : Ahead (part3 s (below cs i) (cnt cs i) cs.sum) (part3 s (below cs j) (cnt cs j) cs.sum) := by
  have m := below_mono h h0 hij hj
  show (s.l * cs.sum + s.w * below cs i + s.w * cnt cs i) * (s.a * cs.sum) ≤ (s.l * cs.sum + s.w * below cs j) * (s.a * cs.sum)
  refine Int.mul_le_mul_of_nonneg_right ?_ (Int.le_of_lt (Int.mul_pos hs.a ht))
  have a1 : s.w * (below cs i + cnt cs i) ≤ s.w * below cs j := Int.mul_le_mul_of_nonneg_left m (Int.le_of_lt hs.w)
  rw [Int.mul_add] at a1
  omega
theorem run_ahead {cs : List Int} {g : Int} (ok : PlanOk cs g) {c t u : List Int} {i j : Int} (ht : SignsOk cs (c ++ i :: t)) (hu : SignsOk cs (c ++ j :: u)) (hij : i < j) : Ahead (run cs g (c ++ i :: t)).s (run cs g (c ++ j :: u)).s := by
  have e : ∀ (b : Int) (f : List Int), c ++ b :: f = (c ++ [b]) ++ f := fun b f => by simp
  rw [e i t] at ht ⊢
  rw [e j u] at hu ⊢
  have t1 : SignsOk cs (c ++ [i]) := fun s hs => ht s (List.mem_append_left _ hs)
  have u1 : SignsOk cs (c ++ [j]) := fun s hs => hu s (List.mem_append_left _ hs)
  obtain ⟨c1, i0, i1⟩ := signs_snoc t1
  obtain ⟨_, j0, j1⟩ := signs_snoc u1
  obtain ⟨r1, r2⟩ := run_ok ok _ c rfl c1
  refine ahead_in (run_real ok t1) (run_real ok u1) (run_real ok ht) (run_real ok hu) ?_ (run_pre ok ht) (run_pre ok hu)
  rw [run_snoc, run_snoc]
  have p := sum_pos r2.cnt
  have l := r2.len
  exact part_ahead r1.real r2.cnt i0 hij (by rw [run_len]; exact j1) (by omega)
theorem lex_part : ∀ {f g : List Int}, HT.lexLt f g = true → (∃ x r, g = f ++ x :: r) ∨ ∃ c x y f' g', f = c ++ x :: f' ∧ g = c ++ y :: g' ∧ x < y
  | [], [], h => by cases h
  | [], y :: g, _ => .inl ⟨y, g, rfl⟩
  | _ :: _, [], h => by cases h
  | x :: f, y :: g, h => by
    rw [HT.lexLt_cons] at h
    by_cases e : x = y
    · rw [if_pos e] at h
      subst e
      rcases lex_part h with ⟨z, r, rfl⟩ | ⟨c, u, v, f', g', rfl, rfl, n⟩
      · exact .inl ⟨z, r, rfl⟩
      · exact .inr ⟨x :: c, u, v, f', g', rfl, rfl, n⟩
    · rw [if_neg e] at h
      exact .inr ⟨[], x, y, f, g, rfl, rfl, of_decide_eq_true h⟩
theorem lex_tri : ∀ (f g : List Int), HT.lexLt f g = true ∨ f = g ∨ HT.lexLt g f = true
  | [], [] => .inr (.inl rfl)
  | [], _ :: _ => .inl rfl
  | _ :: _, [] => .inr (.inr rfl)
  | x :: f, y :: g => by
    by_cases e : x = y
    · subst e
      rw [HT.lexLt_cons, HT.lexLt_cons, if_pos rfl, if_pos rfl]
      rcases lex_tri f g with h | h | h
      · exact .inl h
      · exact .inr (.inl (by rw [h]))
      · exact .inr (.inr h)
    · rw [HT.lexLt_cons, HT.lexLt_cons, if_neg e, if_neg (Ne.symm e)]
      rcases Int.lt_trichotomy x y with h | h | h
      · exact .inl (decide_eq_true h)
      · exact absurd h e
      · exact .inr (.inr (decide_eq_true h))
theorem lex_asym : ∀ {f g : List Int}, HT.lexLt f g = true → HT.lexLt g f = false
  | [], [], h => by cases h
  | [], _ :: _, _ => rfl
  | _ :: _, [], h => by cases h
  | x :: f, y :: g, h => by
    rw [HT.lexLt_cons] at h ⊢
    by_cases e : x = y
    · subst e
      rw [if_pos rfl] at h ⊢
      exact lex_asym h
    · rw [if_neg e] at h
      rw [if_neg (Ne.symm e)]
      have := of_decide_eq_true h
      exact decide_eq_false (by omega)
theorem text_ahead {cs : List Int} {g : Int} (ok : PlanOk cs g) {t u : List Int} (ht : SignsOk cs t) (hu : SignsOk cs u) (hl : t.length = u.length) (h : HT.lexLt t u = true) : Ahead (run cs g t).s (run cs g u).s := by
  rcases lex_part h with ⟨x, r, rfl⟩ | ⟨c, x, y, f', g', rfl, rfl, n⟩
  · rw [List.length_append, List.length_cons] at hl
    omega
  · exact run_ahead ok ht hu n
theorem figs_order {x y : Str3} (hx : Fine x) (hy : Fine y) (h : Ahead x y) : HT.lexLt (figs x) (figs y) = true ∧ (figs x).take (figs y).length ≠ figs y ∧ (figs y).take (figs x).length ≠ figs x := by
  have a := ahead_in hx.real hy.real (fig_real _) (fig_real _) h (figs_in hx) (figs_in hy)
  have p1 : ∀ r, figs x ≠ figs y ++ r := fun r e => by
    have b : Bin r := fun z hz => figs_bin (s := x) z (by rw [e]; simp [hz])
    have i := fig_in (f := figs y) b
    rw [← e] at i
    exact not_self (fig_real _) (ahead_in (fig_real _) (fig_real _) (fig_real _) (fig_real _) a (in3_refl (fig (figs x))) i)
  have p2 : ∀ r, figs y ≠ figs x ++ r := fun r e => by
    have b : Bin r := fun z hz => figs_bin (s := y) z (by rw [e]; simp [hz])
    have i := fig_in (f := figs x) b
    rw [← e] at i
    exact not_self (fig_real _) (ahead_in (fig_real _) (fig_real _) (fig_real _) (fig_real _) a i (in3_refl (fig (figs y))))
  refine ⟨?_, fun e => ?_, fun e => ?_⟩
  · rcases lex_tri (figs x) (figs y) with c | c | c
    · exact c
    · exact absurd (by rw [List.append_nil]; exact c) (p1 [])
    · rcases lex_part c with ⟨z, r, e⟩ | ⟨c, u, v, f', g', e1, e2, n⟩
      · exact absurd e (p1 _)
      · have b1 : Bin (c ++ u :: f') := e1 ▸ figs_bin
        have b2 : Bin (c ++ v :: g') := e2 ▸ figs_bin
        obtain ⟨u1, u2⟩ := b1.part
        obtain ⟨v1, v2⟩ := b2.part
        have u3 : u = 0 := by omega
        have v3 : v = 1 := by omega
        subst u3; subst v3
        have q := fig_ahead (c := c) u2 v2
        rw [← e1, ← e2] at q
        exact (not_both (fig_real _) (fig_real _) a q).elim
  · have e2 := List.take_append_drop (figs y).length (figs x)
    rw [e] at e2
    exact p1 _ e2.symm
  · have e2 := List.take_append_drop (figs x).length (figs y)
    rw [e] at e2
    exact p2 _ e2.symm
end DL

set_option maxRecDepth 100000
set_option maxHeartbeats 4000000
set_option exponentiation.threshold 2000
namespace DL
open PySem PySem.Spec PyProof.Rows L2 Evl
/-! ## the law's own text of signs, its own look for what is sure -/
def signAt (c : Int) (k : Int) (kinds : Int) : Int := if c / 61 % 4 = 2 ∧ k % 4 < 3 then 0 else if c / 61 % 4 = 1 then c / 244 % kinds else mixed (c / 244) k % kinds
def signsL (c kinds most : Int) : List Int := (List.range (c % (most + 1)).toNat).map fun (k : Nat) => signAt c (k : Int) kinds
theorem signAt_in {c k kinds : Int} (h : 0 < kinds) : 0 ≤ signAt c k kinds ∧ signAt c k kinds < kinds := by
  unfold signAt
  split
  · omega
  · split
    · exact ⟨Int.emod_nonneg _ (by omega), Int.emod_lt_of_pos _ h⟩
    · exact ⟨Int.emod_nonneg _ (by omega), Int.emod_lt_of_pos _ h⟩
theorem signsL_ok {c most : Int} {cs : List Int} (h : 0 < cs.length) : SignsOk cs (signsL c (cs.length : Int) most) := fun s hs => by
  obtain ⟨k, _, rfl⟩ := List.mem_map.mp hs
  exact signAt_in (by omega)
theorem signsL_len {c kinds most : Int} (h : 0 ≤ most) : ((signsL c kinds most).length : Int) ≤ most ∧ ((signsL c kinds most).length : Int) = c % (most + 1) := by
  unfold signsL
  rw [List.length_map, List.length_range]
  have h1 := Int.emod_nonneg c (by omega : most + 1 ≠ 0)
  have h2 := Int.emod_lt_of_pos c (by omega : 0 < most + 1)
  omega
theorem range_snoc {α : Type} {f : Nat → α} (i : Nat) : (List.range (i + 1)).map f = (List.range i).map f ++ [f i] := by
  rw [List.range_succ, List.map_append]
  rfl
def sureGo (s : Str3) : Nat → List Int → List Int
  | 0, f => f
  | n + 1, f => if in3 s (fig (f ++ [0])) = true then sureGo s n (f ++ [0]) else if in3 s (fig (f ++ [1])) = true then sureGo s n (f ++ [1]) else f
def sure (s : Str3) : List Int := sureGo s 1500 []
theorem sure_go {s : Str3} : ∀ (n : Nat) (f : List Int), Bin f → in3 s (fig f) = true → Bin (sureGo s n f) ∧ in3 s (fig (sureGo s n f)) = true
  | 0, f, h, q => ⟨h, q⟩
  | n + 1, f, h, q => by
    have bn : ∀ b, b = 0 ∨ b = 1 → Bin (f ++ [b]) := fun b hb x hx => by
      rcases List.mem_append.mp hx with hx | hx
      · exact h x hx
      · rw [List.mem_singleton.mp hx]; exact hb
    unfold sureGo
    split
    · rename_i h1
      exact sure_go n _ (bn 0 (.inl rfl)) h1
    · split
      · rename_i h1
        exact sure_go n _ (bn 1 (.inr rfl)) h1
      · exact ⟨h, q⟩
theorem fine_whole {s : Str3} (h : Fine s) : in3 s (fig []) = true := by
  rw [in3_iff]
  have := h.l0
  have := h.le
  show 0 * s.a ≤ s.l * 1 ∧ (s.l + s.w) * 1 ≤ (0 + 1) * s.a
  omega
theorem sure_ok {s : Str3} (h : Fine s) : Bin (sure s) ∧ in3 s (fig (sure s)) = true := sure_go _ _ (fun _ z => by cases z) (fine_whole h)
theorem sure_few {s : Str3} (h : Fine s) {f : List Int} (q : in3 s (fig f) = true) : f.length < 1400 := by
  rw [in3_iff] at q
  obtain ⟨q1, q2⟩ := q
  have a1 : valT f * s.a ≤ s.l * 2 ^ f.length := q1
  have a2 : (s.l + s.w) * 2 ^ f.length ≤ (valT f + 1) * s.a := q2
  rw [Int.add_mul, Int.add_mul, Int.one_mul] at a2
  have p := two_pos f.length
  have b1 : 1 * (2 : Int) ^ f.length ≤ s.w * 2 ^ f.length := Int.mul_le_mul_of_nonneg_right h.w1 (by omega)
  have b2 := h.big
  have b3 : (2 : Int) ^ f.length < 2 ^ 1400 := by omega
  have b4 : (2 : Nat) ^ f.length < 2 ^ 1400 := by
    rw [← Int.ofNat_lt]
    simpa using b3
  exact (Nat.pow_lt_pow_iff_right (by decide)).mp b4
/-- the two figures that may come next -/
def nexts (s : Str3) (f : List Int) (i : Nat) : List Int := (([0, 1] : List Int).take i).filter fun b => in3 s (fig (f ++ [b]))
theorem filter2 {p : Int → Bool} : ([0, 1] : List Int).filter p = (if p 0 = true then [0] else []) ++ (if p 1 = true then [1] else []) := by
  cases h : p 0 <;> cases h1 : p 1 <;> simp [List.filter, h, h1]
theorem sureGo_succ {s : Str3} {n : Nat} {f : List Int} : sureGo s (n + 1) f = if in3 s (fig (f ++ [0])) = true then sureGo s n (f ++ [0]) else if in3 s (fig (f ++ [1])) = true then sureGo s n (f ++ [1]) else f := rfl
theorem sure_next {s : Str3} {f : List Int} {n : Nat} : (nexts s f 2 = [] ∧ sureGo s (n + 1) f = f) ∨ ∃ b r, nexts s f 2 = b :: r ∧ (b = 0 ∨ b = 1) ∧ in3 s (fig (f ++ [b])) = true ∧ sureGo s (n + 1) f = sureGo s n (f ++ [b]) := by
  have e : nexts s f 2 = (if in3 s (fig (f ++ [0])) = true then [0] else []) ++ (if in3 s (fig (f ++ [1])) = true then [1] else []) := filter2 (p := fun b => in3 s (fig (f ++ [b])))
  rw [e, sureGo_succ]
  by_cases h0 : in3 s (fig (f ++ [0])) = true
  · rw [if_pos h0, if_pos h0]
    exact .inr ⟨0, _, rfl, .inl rfl, h0, rfl⟩
  · rw [if_neg h0, if_neg h0]
    by_cases h1 : in3 s (fig (f ++ [1])) = true
    · rw [if_pos h1, if_pos h1]
      exact .inr ⟨1, [], rfl, .inr rfl, h1, rfl⟩
    · rw [if_neg h1, if_neg h1]
      exact .inl ⟨rfl, rfl⟩
theorem Fine.bits {s : Str3} (h : Fine s) : Bits 1400 s := by
  have h1 := h.l0
  have h2 := h.w1
  have h3 := h.le
  have h4 := h.big
  exact ⟨natAbs_lt h1 (by omega), natAbs_lt (by omega) (by omega), natAbs_lt (by omega) (by omega)⟩
theorem Bits.up {n m : Nat} {s : Str3} (h : Bits n s) (hm : n ≤ m) : Bits m s :=
  have p := Nat.pow_le_pow_right (n := 2) (by decide) hm
  ⟨Nat.lt_of_lt_of_le h.l p, Nat.lt_of_lt_of_le h.w p, Nat.lt_of_lt_of_le h.a p⟩
theorem two_bits {n m : Nat} (h : n < m) : ((2 : Int) ^ n).natAbs < 2 ^ m := by
  rw [Int.natAbs_pow]
  exact Nat.pow_lt_pow_right (by decide) h
theorem valT_in : ∀ (f : List Int), Bin f → 0 ≤ valT f ∧ valT f < 2 ^ f.length
  | [], _ => ⟨by decide, by decide⟩
  | b :: f, h => by
    obtain ⟨i0, i1⟩ := valT_in f fun x hx => h x (List.mem_cons_of_mem _ hx)
    have p := two_pos f.length
    rw [valT_cons, List.length_cons, two_succ]
    rcases h b List.mem_cons_self with rfl | rfl
    · rw [Int.zero_mul]; omega
    · rw [Int.one_mul]; omega
theorem val_bits {f : List Int} {m : Nat} (h : Bin f) (hm : f.length ≤ m) : (valT f).natAbs < 2 ^ m := by
  obtain ⟨i0, i1⟩ := valT_in f h
  exact Nat.lt_of_lt_of_le (natAbs_lt i0 i1) (Nat.pow_le_pow_right (by decide) hm)
theorem fig_bits {f : List Int} {m : Nat} (h : Bin f) (hm : f.length < m) : Bits m (fig f) :=
  ⟨val_bits h (by omega), by
    show 1 < 2 ^ m
    exact Nat.one_lt_two_pow (by omega), two_bits hm⟩
/-- the reading of the fewest figures -/
theorem few_step {s : Str3} (h : Fine s) {k : Nat} (hk : k ≤ few s) : (okAt s k = true ∧ k = few s) ∨ (okAt s k = false ∧ k + 1 ≤ few s) := by
  obtain ⟨h1, h2, h3⟩ := few_ok (by decide) (fine_far h)
  rcases Nat.lt_or_ge k (few s) with c | c
  · exact .inr ⟨h3 _ c, c⟩
  · have e : k = few s := by omega
    subst e
    exact .inl ⟨h1, rfl⟩
theorem num_bits {s : Str3} (h : Fine s) {k : Nat} (hk : k ≤ 1401) : (numAt s k + 1).natAbs < 2 ^ 1403 := by
  obtain ⟨h1, h2⟩ := num_le h.real.a k
  have p := two_pos k
  have a := h.real.a
  have q : (2 : Int) ^ k ≤ 2 ^ 1401 := ipow_mono (b := 2) (by decide) hk
  have h4 : s.l * 2 ^ k ≤ s.a * 2 ^ k := Int.mul_le_mul_of_nonneg_right (by have := h.le; have := h.w1; omega) (by omega)
  have n0 := Int.mul_nonneg h.l0 (by omega : (0 : Int) ≤ 2 ^ k)
  have h5 : numAt s k * s.a < (2 ^ k + 1) * s.a := by
    rw [Int.add_mul, Int.one_mul, Int.mul_comm (2 ^ k) s.a]
    omega
  have h6 := Int.lt_of_mul_lt_mul_right h5 (by omega)
  have h7 : (-1) * s.a < numAt s k * s.a := by omega
  have h8 := Int.lt_of_mul_lt_mul_right h7 (by omega)
  refine natAbs_lt (by omega) ?_
  have e1 : (2 : Int) ^ 1403 = 2 * (2 * 2 ^ 1401) := by rw [two_succ 1402, two_succ 1401]
  omega
end DL
namespace DL
open PySem PySem.Spec PyProof.Rows L2 Evl
theorem half_pow {x : Int} {i : Nat} : x / 2 ^ (i + 1) = x / 2 ^ i / 2 := by rw [Int.pow_succ, Int.ediv_ediv_of_nonneg (by have := two_pos i; omega)]
theorem twos_rev {x : Int} {i : Nat} : lsI (twos (i + 1) x).reverse = lsI (twos i x).reverse ++ [.int (x / 2 ^ i % 2)] := by
  show lsI (x / 2 ^ i % 2 :: twos i x).reverse = _
  rw [List.reverse_cons, ints_app] <;> rfl
theorem add_bits {x y : Int} {n : Nat} (h1 : x.natAbs < 2 ^ n) (h2 : y.natAbs < 2 ^ n) : (x + y).natAbs < 2 ^ (n + 1) := by
  rw [Nat.pow_succ]
  omega
theorem neg_bits {x : Int} {n : Nat} (h1 : x.natAbs < 2 ^ n) : (-x).natAbs < 2 ^ n := by rw [Int.natAbs_neg]; exact h1
theorem len_ints {cs : List Int} : ((lsI cs).length : Int) = (cs.length : Int) := by rw [List.length_map]
def wholeD (d : Dt) : Bool := isIntD d && !isBoolD d
theorem nexts_snoc0 {s : Str3} {f : List Int} : nexts s f 1 = if in3 s (fig (f ++ [0])) = true then [0] else [] := by
  show List.filter (fun b => in3 s (fig (f ++ [b]))) [0] = _
  cases h : in3 s (fig (f ++ [0])) <;> simp [List.filter, h]
theorem nexts_snoc1 {s : Str3} {f : List Int} : nexts s f 2 = if in3 s (fig (f ++ [1])) = true then nexts s f 1 ++ [1] else nexts s f 1 := by
  have e : nexts s f 2 = (if in3 s (fig (f ++ [0])) = true then [0] else []) ++ (if in3 s (fig (f ++ [1])) = true then [1] else []) := filter2 (p := fun b => in3 s (fig (f ++ [b])))
  rw [e, nexts_snoc0]
  by_cases h : in3 s (fig (f ++ [1])) = true
  · rw [if_pos h, if_pos h]
  · rw [if_neg h, if_neg h, List.append_nil]
theorem in3_signs {x y : Str3} : (decide (0 ≤ x.l * y.a - y.l * x.a) && decide (0 ≤ (y.l + y.w) * x.a - (x.l + x.w) * y.a)) = in3 x y := by
  unfold in3
  rw [Bool.eq_iff_iff]
  simp only [Bool.and_eq_true, decide_eq_true_eq]
  omega
end DL
namespace DL
open PySem PySem.Spec PyProof.Rows L2 Evl
theorem cut_any {f : List Int} {n : Nat} : cutD (lsI f) none (some (n : Int)) = lsI (f.take n) := by
  unfold cutD
  rw [HT.sIx_nat, HT.sIx_none, List.drop_zero, Nat.sub_zero, lsI, lsI, List.map_take]
  rw [List.take_eq_take_iff]
  omega
theorem cut_anyD {f : List Int} {n : Nat} : cutD (lsI f) (some (n : Int)) none = lsI (f.drop n) := by
  unfold cutD
  rw [HT.sIx_nat, HT.sIx_none, List.take_of_length_le (by rw [List.length_drop]; omega), lsI, lsI, List.map_drop]
  by_cases h : n ≤ (List.map PyData.int f).length
  · rw [Nat.min_eq_left h]
  · rw [Nat.min_eq_right (by omega), List.drop_of_length_le (Nat.le_refl _), List.drop_of_length_le (by omega)]
theorem sh_cut {f : List Int} {n : Nat} : SeqAt.shaped (.list (cutD (lsI f) none (some (n : Int)))) = true := by
  rw [cut_any]
  exact sh_ints
theorem sh_cutI {f : List Int} {n : Int} (h : 0 ≤ n) : SeqAt.shaped (.list (cutD (lsI f) none (some n))) = true := by
  obtain ⟨m, rfl⟩ := Int.eq_ofNat_of_zero_le h
  exact sh_cut
/-- two texts of one length, unlike: their figures -/
theorem two_texts {cs : List Int} {g : Int} (ok : PlanOk cs g) {t u : List Int} (ht : SignsOk cs t) (hu : SignsOk cs u) (hl : u.length = t.length) (h60 : t.length ≤ 60) (hne : u ≠ t) :
    ((figs (run cs g t).s).take (figs (run cs g u).s).length ≠ figs (run cs g u).s ∧ (figs (run cs g u).s).take (figs (run cs g t).s).length ≠ figs (run cs g t).s) ∧ HT.lexLt (figs (run cs g t).s) (figs (run cs g u).s) = HT.lexLt t u := by
  have f1 := ((run_ok ok _ t rfl ht).1).fine h60
  have f2 := ((run_ok ok _ u rfl hu).1).fine (by omega)
  rcases lex_tri t u with h | h | h
  · obtain ⟨a, b, c⟩ := figs_order f1 f2 (text_ahead ok ht hu hl.symm h)
    exact ⟨⟨b, c⟩, by rw [a, h]⟩
  · exact absurd h.symm hne
  · obtain ⟨a, b, c⟩ := figs_order f2 f1 (text_ahead ok hu ht hl h)
    exact ⟨⟨c, b⟩, by rw [lex_asym a, lex_asym h]⟩
/-- the figures begin with what is sure by the first signs -/
theorem sure_pre {cs : List Int} {g : Int} (ok : PlanOk cs g) {t : List Int} (ht : SignsOk cs t) (h60 : t.length ≤ 60) (n : Nat) : (figs (run cs g t).s).take (sure (run cs g (t.take n)).s).length = sure (run cs g (t.take n)).s := by
  have f1 := ((run_ok ok _ t rfl ht).1).fine h60
  have f2 := ((run_ok ok _ (t.take n) rfl (signs_take ht)).1).fine (by rw [List.length_take]; omega)
  obtain ⟨b, i⟩ := sure_ok f2
  refine fig_pre figs_bin b ?_
  have e : SignsOk cs (t.take n ++ t.drop n) := by rw [List.take_append_drop]; exact ht
  have p := run_pre ok e
  rw [List.take_append_drop] at p
  exact in3_trans (fig_real _) f1.real (fig_real _) (figs_in f1) (in3_trans f1.real f2.real (fig_real _) p i)
theorem eqv_bool {p q : Bool} : PyData.eqv (.bool p) (.bool q) = (p == q) := by cases p <;> cases q <;> rfl
end DL

set_option maxRecDepth 100000
set_option maxHeartbeats 4000000
namespace DL
open PySem PySem.Spec PyProof.Rows L2 Evl
/-! ## figures as data, signs read back -/
def figB (d : Dt) : Bool := match d with
  | .list ds => decide (ds.length ≤ 4000) && ds.all (isIn · 0 1)
  | _ => false
theorem figB_ok {d : Dt} (h : figB d = true) : ∃ f, d = .list (lsI f) ∧ Bin f ∧ f.length ≤ 4000 := by
  unfold figB at h
  split at h
  · rename_i ds
    rw [Bool.and_eq_true] at h
    obtain ⟨ns, rfl, h4⟩ := all_ints h.2
    have h6 := of_decide_eq_true h.1
    rw [List.length_map] at h6
    exact ⟨ns, rfl, fun b hb => by have := h4 b hb; omega, h6⟩
  · cases h
theorem figB_of {f : List Int} (h : Bin f) (hl : f.length ≤ 4000) : figB (.list (lsI f)) = true := by
  show (decide ((lsI f).length ≤ 4000) && (lsI f).all (isIn · 0 1)) = true
  rw [List.length_map, decide_eq_true hl, ints_all fun b hb => by rcases h b hb with rfl | rfl <;> decide] <;> rfl
def long3 (s : Str3) (b : Int) : Str3 := ⟨2 * s.l + b, 1, 2 * s.a⟩
theorem fig_long {f : List Int} {b : Int} : fig (f ++ [b]) = long3 (fig f) b := fig_snoc
def partJ (s : Str3) (cs : List Int) (j : Nat) : Str3 := part3 s (below cs (j : Int)) (cnt cs (j : Int)) cs.sum
def nextJ (cs : List Int) (s goal : Str3) : Option Nat := (List.range cs.length).find? fun j => in3 goal (partJ s cs j)
def nextD (cs : List Int) (s goal : Str3) : Dt := match nextJ cs s goal with
  | none => .none
  | some j => .tuple [.int (j : Int), (partJ s cs j).d]
theorem nextJ_some {cs : List Int} {s goal : Str3} {j : Nat} (hj : j < cs.length) (h : in3 goal (partJ s cs j) = true) (hk : ∀ k < j, in3 goal (partJ s cs k) = false) : nextJ cs s goal = some j :=
  List.find?_range_eq_some.mpr ⟨h, List.mem_range.mpr hj, fun k hk2 => by rw [hk k hk2] <;> rfl⟩
theorem nextJ_none {cs : List Int} {s goal : Str3} (hk : ∀ k < cs.length, in3 goal (partJ s cs k) = false) : nextJ cs s goal = none :=
  List.find?_eq_none.mpr fun k hk2 => by rw [hk k (List.mem_range.mp hk2)]; decide
theorem nextJ_lt {cs : List Int} {s goal : Str3} {j : Nat} (h : nextJ cs s goal = some j) : j < cs.length ∧ in3 goal (partJ s cs j) = true := by
  obtain ⟨h1, h2, _⟩ := List.find?_range_eq_some.mp h
  exact ⟨List.mem_range.mp h2, h1⟩
def signsBy (g : Int) (goal : Str3) : Nat → St → List Int × St
  | 0, q => ([], q)
  | n + 1, q => match nextJ q.cs q.s goal with
    | none => ([], q)
    | some j => ((j : Int) :: (signsBy g goal n (q.step g (j : Int))).1, (signsBy g goal n (q.step g (j : Int))).2)
theorem signsBy_none {g : Int} {goal : Str3} {n : Nat} {q : St} (h : nextJ q.cs q.s goal = none) : signsBy g goal n q = ([], q) := by
  cases n with
  | zero => rfl
  | succ n =>
    unfold signsBy
    rw [h]
theorem signsBy_some {g : Int} {goal : Str3} {n : Nat} {q : St} {j : Nat} (h : nextJ q.cs q.s goal = some j) : signsBy g goal (n + 1) q = ((j : Int) :: (signsBy g goal n (q.step g (j : Int))).1, (signsBy g goal n (q.step g (j : Int))).2) := by
  rw [signsBy]
  rw [h]
def st0 (cs : List Int) : St := ⟨whole3, cs⟩
def certL (cs : List Int) (g : Int) (n : Nat) (f : List Int) : List Int := (signsBy g (fig f) n (st0 cs)).1
/-- the sign whose part holds the goal is the next one -/
theorem next_is {cs : List Int} {s goal : Str3} (hs : Real3 s) (hg : Real3 goal) (h : ∀ c ∈ cs, 1 ≤ c ∧ c ≤ 1000000) {j : Nat} (hj : j < cs.length) (hi : in3 goal (partJ s cs j) = true) : nextJ cs s goal = some j := by
  have p := sum_pos h
  have tp : 0 < cs.sum := by omega
  have real : ∀ k < cs.length, Real3 (partJ s cs k) := fun k hk =>
    ⟨Int.mul_pos hs.w (by have := (h _ (getD_mem hk)).1; show 0 < cs.getD (k : Int).toNat 0; rw [Int.toNat_natCast]; omega), Int.mul_pos hs.a tp⟩
  refine nextJ_some hj hi fun k hk => ?_
  rw [Bool.eq_false_iff]
  intro hk2
  have a := part_ahead hs h (i := (k : Int)) (j := (j : Int)) (by omega) (by omega) (by omega) tp
  exact not_self hg (ahead_in (real k (by omega)) (real j hj) hg hg a hk2 hi)
theorem signsBy_text {cs : List Int} {g : Int} (ok : PlanOk cs g) {goal : Str3} (hg : Real3 goal) : ∀ (n : Nat) (c r : List Int), SignsOk cs (c ++ r) → n ≤ r.length → in3 goal (run cs g (c ++ r)).s = true → (signsBy g goal n (run cs g c)).1 = r.take n
  | 0, c, r, _, _, _ => rfl
  | n + 1, c, [], _, h, _ => by simp at h
  | n + 1, c, x :: r, hs, hn, hi => by
    have e : c ++ x :: r = (c ++ [x]) ++ r := by simp
    rw [e] at hs hi
    have t1 : SignsOk cs (c ++ [x]) := fun s hs2 => hs s (List.mem_append_left _ hs2)
    obtain ⟨c1, i0, i1⟩ := signs_snoc t1
    obtain ⟨r1, r2⟩ := run_ok ok _ c rfl c1
    have p := in3_trans hg (run_real ok hs) (run_real ok t1) hi (run_pre ok hs)
    rw [run_snoc] at p
    have ex : ((x.toNat : Nat) : Int) = x := by omega
    have nx : nextJ (run cs g c).cs (run cs g c).s goal = some x.toNat := by
      refine next_is r1.real hg r2.cnt (by rw [run_len]; omega) ?_
      unfold partJ
      rw [ex]
      exact p
    rw [signsBy_some nx, ex, ← run_snoc]
    show x :: (signsBy g goal n (run cs g (c ++ [x]))).1 = x :: r.take n
    rw [signsBy_text ok hg n (c ++ [x]) r hs (by simpa using hn) hi]
theorem cert_text {cs : List Int} {g : Int} (ok : PlanOk cs g) {t m : List Int} (ht : SignsOk cs t) (h60 : t.length ≤ 60) (hm : Bin m) {n : Nat} (hn : n ≤ t.length) : certL cs g n (figs (run cs g t).s ++ m) = t.take n := by
  have f1 := ((run_ok ok _ t rfl ht).1).fine h60
  exact signsBy_text ok (fig_real _) n [] t ht hn (in3_trans (fig_real _) (fig_real _) f1.real (fig_in hm) (figs_in f1))
theorem cert_text0 {cs : List Int} {g : Int} (ok : PlanOk cs g) {t : List Int} (ht : SignsOk cs t) (h60 : t.length ≤ 60) {n : Nat} (hn : n ≤ t.length) : certL cs g n (figs (run cs g t).s) = t.take n := by
  have := cert_text ok ht h60 (m := []) (fun _ z => by cases z) hn
  rw [List.append_nil] at this
  exact this
theorem whole_all {t : List Int} : ((lsI t).map wholeD).all id = true := by
  rw [List.all_eq_true]
  intro x hx
  obtain ⟨y, hy, rfl⟩ := List.mem_map.mp hx
  obtain ⟨z, _, rfl⟩ := List.mem_map.mp hy
  rfl
theorem whole_list {ds : List Dt} : PyData.list (ds.map fun d => .bool (wholeD d)) = .list ((ds.map wholeD).map PyData.bool) := by rw [List.map_map] <;> rfl
theorem lt5000 {n : Nat} {s : Str3} (h : Bits n s) (hn : n ≤ 5000) : Bits 5000 s := h.up hn
end DL

set_option maxRecDepth 100000
set_option maxHeartbeats 4000000
namespace DL
open PySem PySem.Spec PyProof.Rows L2 Evl
/-! ## what is no plan, no sign, no text -/
abbrev tupI (cs : List Int) : Dt := .tuple (lsI cs)
abbrev far20 (x : Int) : Int := x % (10 : Int) ^ (20 : Int).toNat
theorem far_ge (x : Int) : 0 ≤ far20 x := Int.emod_nonneg _ (by decide)
def badY (far : Int) : List Dt := [.int 0, .int (1000001 + far), .bool true, .str "1", .none, .int (-1 - far)]
def badC (cs : List Int) (j : Nat) (y : Dt) : Dt := .tuple (lsI (cs.take j) ++ [y] ++ lsI (cs.drop (j + 1)))
def noPlans (cs : List Int) (g far : Int) (j : Nat) : List Dt := ((badY far).map (badC cs j)).map (fun b => .tuple [b, .int g]) ++ [.tuple [tupI cs, .int (-1)], .tuple [tupI cs, .int (1000001 + far)], .tuple [tupI cs, .bool true], .tuple [.list (lsI cs), .int g]] ++
  [.list [tupI cs, .int g], .tuple [tupI cs], .tuple [tupI (cs.take 1), .int g], .tuple [.tuple (List.replicate 9 [.int 1]).flatten, .int g]]
def noPlan (cs : List Int) (g c : Int) : Dt := (noPlans cs g (far20 (c / 14)) (c / 14 % (cs.length : Int)).toNat).getD (c % 14).toNat .none
theorem noPlans_bad {cs : List Int} {g far : Int} {j : Nat} (hf : 0 ≤ far) : ∀ d ∈ noPlans cs g far j, planB d = false := by
  intro d hd
  rcases List.mem_append.mp hd with hd | hd
  · rcases List.mem_append.mp hd with hd | hd
    · obtain ⟨b, hb, rfl⟩ := List.mem_map.mp hd
      obtain ⟨y, hy, rfl⟩ := List.mem_map.mp hb
      have hn : isIn y 1 1000000 = false := by
        simp only [badY, List.mem_cons, List.not_mem_nil, or_false] at hy
        rcases hy with rfl | rfl | rfl | rfl | rfl | rfl
        · rfl
        · exact decide_eq_false (by omega)
        · rfl
        · rfl
        · rfl
        · exact decide_eq_false (by omega)
      have ha : (lsI (cs.take j) ++ [y] ++ lsI (cs.drop (j + 1))).all (isIn · 1 1000000) = false := List.all_eq_false.mpr ⟨y, by simp, by rw [hn]; decide⟩
      show (decide _ && ((lsI (cs.take j) ++ [y] ++ lsI (cs.drop (j + 1))).all (isIn · 1 1000000) && _)) = false
      rw [ha, Bool.false_and, Bool.and_false]
    · simp only [List.mem_cons, List.not_mem_nil, or_false] at hd
      rcases hd with rfl | rfl | rfl | rfl
      · show (_ && (_ && isIn (.int (-1)) 0 1000000)) = false
        rw [show isIn (.int (-1)) 0 1000000 = false from rfl, Bool.and_false, Bool.and_false]
      · show (_ && (_ && isIn (.int (1000001 + far)) 0 1000000)) = false
        rw [show isIn (.int (1000001 + far)) 0 1000000 = false from decide_eq_false (by omega), Bool.and_false, Bool.and_false]
      · show (_ && (_ && false)) = false
        rw [Bool.and_false, Bool.and_false]
      · rfl
  · simp only [List.mem_cons, List.not_mem_nil, or_false] at hd
    rcases hd with rfl | rfl | rfl | rfl
    · rfl
    · rfl
    · show (decide (2 ≤ (lsI (cs.take 1)).length ∧ _) && _) = false
      rw [decide_eq_false (by rw [List.length_map, List.length_take]; omega), Bool.false_and]
    · rfl
theorem getD_in {α : Type} {l : List α} {i : Nat} {d : α} (h : i < l.length) : l.getD i d ∈ l := by
  rw [List.getD_eq_getElem?_getD, List.getElem?_eq_getElem h]
  exact List.getElem_mem h
theorem at_getD {ds : List Dt} {i : Int} (h0 : 0 ≤ i) (h1 : i < (ds.length : Int)) : atI ds i = some (ds.getD i.toNat .none) := by
  refine at_nat h0 ?_
  have h2 : i.toNat < ds.length := by omega
  rw [List.getD_eq_getElem?_getD, List.getElem?_eq_getElem h2]
  rfl
theorem noPlans_len {cs : List Int} {g far : Int} {j : Nat} : (noPlans cs g far j).length = 14 := rfl
theorem noPlan_bad {cs : List Int} {g c : Int} : planB (noPlan cs g c) = false := by
  have h0 : 0 ≤ c % 14 := Int.emod_nonneg _ (by decide)
  have h1 : c % 14 < 14 := Int.emod_lt_of_pos _ (by decide)
  exact noPlans_bad (far_ge _) _ (getD_in (by rw [noPlans_len]; omega))
theorem len_cut {f : List Int} {n : Nat} : (cutD (lsI f) none (some (n : Int))).length ≤ f.length := by
  rw [cut_any, List.length_map, List.length_take]
  omega
theorem len_cutD {f : List Int} {n : Nat} : (cutD (lsI f) (some (n : Int)) none).length ≤ f.length := by
  rw [cut_anyD, List.length_map, List.length_drop]
  omega
/-! signs and texts -/
def odds (m far : Int) : List Dt := [.int m, .int (-1), .bool true, .str "0", .none, .int (m + far)]
def noTexts (ss : List Int) (odd : Dt) (j : Nat) : List Dt := [.list (lsI (ss.take j) ++ [odd] ++ lsI (ss.drop j)), .tuple (lsI ss), .none, .list (List.replicate 61 [.int 0]).flatten, .int 5]
def noText (cs ss : List Int) (c : Int) : Dt := (noTexts ss ((odds (cs.length : Int) (far20 (c / 6))).getD (c % 6).toNat .none) (c / 6 % ((ss.length : Int) + 1)).toNat).getD (c / 36 % 5).toNat .none
theorem noText_of {cs ss : List Int} {g : Int} {odd : Dt} {j : Nat} (ho : signB (pd cs g) odd = false) : ∀ d ∈ noTexts ss odd j, textB (pd cs g) d = false ∧ noZ d = true := by
  intro d hd
  simp only [noTexts, List.mem_cons, List.not_mem_nil, or_false] at hd
  rcases hd with rfl | rfl | rfl | rfl | rfl
  · have ha : (lsI (ss.take j) ++ [odd] ++ lsI (ss.drop j)).all (signB (pd cs g)) = false := List.all_eq_false.mpr ⟨odd, by simp, by rw [ho]; decide⟩
    refine ⟨?_, rfl⟩
    show (_ && (lsI (ss.take j) ++ [odd] ++ lsI (ss.drop j)).all (signB (pd cs g))) = false
    rw [ha, Bool.and_false]
  · exact ⟨rfl, rfl⟩
  · exact ⟨rfl, rfl⟩
  · exact ⟨rfl, rfl⟩
  · exact ⟨rfl, rfl⟩
theorem noText_bad {cs ss : List Int} {g c : Int} : textB (pd cs g) (noText cs ss c) = false ∧ noZ (noText cs ss c) = true := by
  have h0 : 0 ≤ c % 6 := Int.emod_nonneg _ (by decide)
  have h1 : c % 6 < 6 := Int.emod_lt_of_pos _ (by decide)
  have h2 : 0 ≤ c / 36 % 5 := Int.emod_nonneg _ (by decide)
  have h3 : c / 36 % 5 < 5 := Int.emod_lt_of_pos _ (by decide)
  refine noText_of ?_ _ (getD_in (by show _ < 5; omega))
  have hm : (odds (cs.length : Int) (far20 (c / 6))).getD (c % 6).toNat .none ∈ odds (cs.length : Int) (far20 (c / 6)) := getD_in (by show _ < 6; omega)
  have hf := far_ge (c / 6)
  generalize (odds (cs.length : Int) (far20 (c / 6))).getD (c % 6).toNat .none = y at hm
  generalize far20 (c / 6) = far at hm hf
  rw [signB_pd]
  simp only [odds, List.mem_cons, List.not_mem_nil, or_false] at hm
  rcases hm with h | h | h | h | h | h <;> rw [h]
  · exact decide_eq_false (by omega)
  · rfl
  · rfl
  · rfl
  · rfl
  · exact decide_eq_false (by omega)
def oddS (m far : Int) : List Dt := [.int m, .int (-1), .bool true, .str "0", .none, .int (m + far), .list [.int 0], .int (-1 - far)]
def noSign (cs : List Int) (c : Int) : Dt := (oddS (cs.length : Int) (far20 (c / 8))).getD (c % 8).toNat .none
theorem noSign_bad {cs : List Int} {g c : Int} : signB (pd cs g) (noSign cs c) = false := by
  have h0 : 0 ≤ c % 8 := Int.emod_nonneg _ (by decide)
  have h1 : c % 8 < 8 := Int.emod_lt_of_pos _ (by decide)
  have hm : noSign cs c ∈ oddS (cs.length : Int) (far20 (c / 8)) := getD_in (by show _ < 8; omega)
  have hf := far_ge (c / 8)
  generalize noSign cs c = y at hm
  generalize far20 (c / 8) = far at hm hf
  rw [signB_pd]
  simp only [oddS, List.mem_cons, List.not_mem_nil, or_false] at hm
  rcases hm with h | h | h | h | h | h | h | h <;> rw [h]
  · exact decide_eq_false (by omega)
  · rfl
  · rfl
  · rfl
  · rfl
  · exact decide_eq_false (by omega)
  · rfl
  · exact decide_eq_false (by omega)
def rowL (c more : Int) : List Int := (List.range (if c / 31 % 16 = 1 then c / 496 % 301 else c % 31).toNat).map fun (k : Nat) => mixed more (k : Int) / 7 % 2
theorem rowL_in {c more : Int} : Bin (rowL c more) ∧ (rowL c more).length ≤ 300 := by
  refine ⟨fun x hx => ?_, ?_⟩
  · obtain ⟨y, _, rfl⟩ := List.mem_map.mp hx
    omega
  · unfold rowL
    rw [List.length_map, List.length_range]
    split <;> omega
theorem wholeD_sd {s : Str3} : ([.int s.l, .int s.w, .int s.a].map wholeD).all id = true := rfl
theorem sh_sd {s : Str3} : SeqAt.shaped s.d = true := rfl
theorem eqv_sd {s : Str3} : PyData.eqv s.d s.d = true := by
  show ((s.l == s.l) && ((s.w == s.w) && ((s.a == s.a) && true))) = true
  simp
end DL
namespace DL
open PySem PySem.Spec PyProof.Rows L2 Evl
theorem rep_ints {n : Nat} {x : Int} : (List.replicate n [PyData.int x]).flatten = lsI (List.replicate n x) := by
  induction n with
  | zero => rfl
  | succ n ih => rw [List.replicate_succ, List.flatten_cons, ih, List.replicate_succ] <;> rfl
theorem val_zero : ∀ n : Nat, valT (List.replicate n 0) = 0
  | 0 => rfl
  | n + 1 => by rw [List.replicate_succ, valT_cons, val_zero n, Int.zero_mul] <;> rfl
theorem bin_zero {n : Nat} : Bin (List.replicate n 0) := fun b hb => .inl (List.mem_replicate.mp hb).2
theorem far_fig : (fig (1 :: List.replicate 3999 0)).l = (fig (List.replicate 4000 0)).a / 2 := by
  show valT (1 :: List.replicate 3999 0) = (2 : Int) ^ (List.replicate 4000 (0 : Int)).length / 2
  rw [valT_cons, val_zero, List.length_replicate, List.length_replicate, two_succ 3999, Int.one_mul, Int.add_zero, Int.mul_ediv_cancel_left _ (by decide)]
def oddF (far : Int) : List Dt := [.int 2, .int (-1), .bool true, .str "0", .none, .list [.int 0], .int (2 + far)]
theorem oddF_bad {far : Int} (hf : 0 ≤ far) : ∀ d ∈ oddF far, isIn d 0 1 = false := by
  intro d hd
  simp only [oddF, List.mem_cons, List.not_mem_nil, or_false] at hd
  rcases hd with rfl | rfl | rfl | rfl | rfl | rfl | rfl
  · rfl
  · rfl
  · rfl
  · rfl
  · rfl
  · rfl
  · have e : ¬ (0 ≤ 2 + far ∧ 2 + far ≤ 1) := by omega
    exact decide_eq_false e
def noFigs (F : List Int) (odd : Dt) (j : Nat) : List Dt := [.list (lsI (F.take j) ++ [odd] ++ lsI (F.drop j)), .tuple (lsI F), .none, .str "01", .int 5, .list (List.replicate 4001 [.int 0]).flatten]
theorem noFigs_bad {F : List Int} {odd : Dt} {j : Nat} (ho : isIn odd 0 1 = false) : ∀ d ∈ noFigs F odd j, figB d = false ∧ noZ d = true := by
  intro d hd
  simp only [noFigs, List.mem_cons, List.not_mem_nil, or_false] at hd
  rcases hd with rfl | rfl | rfl | rfl | rfl | rfl
  · have ha : (lsI (F.take j) ++ [odd] ++ lsI (F.drop j)).all (isIn · 0 1) = false := List.all_eq_false.mpr ⟨odd, by simp, by rw [ho]; decide⟩
    refine ⟨?_, rfl⟩
    show (_ && (lsI (F.take j) ++ [odd] ++ lsI (F.drop j)).all (isIn · 0 1)) = false
    rw [ha, Bool.and_false]
  · exact ⟨rfl, rfl⟩
  · exact ⟨rfl, rfl⟩
  · exact ⟨rfl, rfl⟩
  · exact ⟨rfl, rfl⟩
  · refine ⟨?_, rfl⟩
    rw [rep_ints]
    have e : decide ((lsI (List.replicate 4001 0)).length ≤ 4000) = false := decide_eq_false (by rw [List.length_map, List.length_replicate]; decide)
    show (decide ((lsI (List.replicate 4001 0)).length ≤ 4000) && (lsI (List.replicate 4001 0)).all (isIn · 0 1)) = false
    rw [e, Bool.false_and]
theorem strs_get {L : List Str3} {i : Nat} {y : Dt} (h : (L.map Str3.d)[i]? = some y) : ∃ x, L[i]? = some x ∧ y = x.d := by
  rw [List.getElem?_map] at h
  cases e : L[i]? with
  | none => rw [e] at h; cases h
  | some x => rw [e] at h; exact ⟨x, rfl, (Option.some.inj h).symm⟩
theorem whole_bits : Bits 5000 whole3 := ⟨by decide +kernel, by decide +kernel, by decide +kernel⟩
end DL
namespace DL
open PySem PySem.Spec PyProof.Rows L2 Evl
theorem noSign_noZ {cs : List Int} {c : Int} : noZ (noSign cs c) = true := by
  have h0 : 0 ≤ c % 8 := Int.emod_nonneg _ (by decide)
  have h1 : c % 8 < 8 := Int.emod_lt_of_pos _ (by decide)
  have hm : noSign cs c ∈ oddS (cs.length : Int) (far20 (c / 8)) := getD_in (by show _ < 8; omega)
  generalize noSign cs c = y at hm
  simp only [oddS, List.mem_cons, List.not_mem_nil, or_false] at hm
  rcases hm with h | h | h | h | h | h | h | h <;> rw [h] <;> rfl
theorem eqv_sdx {a b c : Int} : PyData.eqv (sd a b c) (sd a b c) = true := eqv_sd (s := ⟨a, b, c⟩)
theorem eqv_pd {cs : List Int} {g : Int} : PyData.eqv (pd cs g) (pd cs g) = true := by
  show (PyData.eqvAll (lsI cs) (lsI cs) && ((g == g) && true)) = true
  rw [eqv_ints, decide_eq_true rfl, beq_self_eq_true] <;> rfl
def noTexts6 (ss : List Int) (odd : Dt) (j : Nat) : List Dt := [.list (lsI (ss.take j) ++ [odd] ++ lsI (ss.drop j)), .tuple (lsI ss), .none, .list (List.replicate 61 [.int 0]).flatten, .int 5, .str "0"]
theorem noText6_of {cs ss : List Int} {g : Int} {odd : Dt} {j : Nat} (ho : signB (pd cs g) odd = false) : ∀ d ∈ noTexts6 ss odd j, textB (pd cs g) d = false ∧ noZ d = true := by
  intro d hd
  have e : noTexts6 ss odd j = noTexts ss odd j ++ [.str "0"] := rfl
  rw [e] at hd
  rcases List.mem_append.mp hd with hd | hd
  · exact noText_of ho d hd
  · rw [List.mem_singleton.mp hd]
    exact ⟨rfl, rfl⟩
end DL

set_option maxRecDepth 100000
set_option maxHeartbeats 4000000
namespace DL
open PySem PySem.Spec PyProof.Rows L2 Evl
/-! ## any stretch, the fewest figures by the law's own look -/
def anyM (c : Int) : Int := ([9, 1000, (10 : Int) ^ (20 : Int).toNat] : List Int).getD (c / 2 % 3).toNat 9
def anyA (c m : Int) : Int := 1 + m % anyM c
def anyL (c m : Int) : Int := mixed (c / 6) 3 * (c / 6 + 1) % anyA c m
def anyW (c m : Int) : Int := if c / 6 % 5 = 1 then anyA c m - anyL c m else 1 + mixed (c / 6) 4 * (c / 12 + 1) % (anyA c m - anyL c m)
def anyS (c m : Int) : Str3 := ⟨anyL c m, anyW c m, anyA c m⟩
theorem mixed_lt (c k : Int) : mixed c k < 2147483647 := Int.emod_lt_of_pos _ (by decide)
theorem anyM_at {c : Int} : atI [PyData.int 9, .int 1000, .int ((10 : Int) ^ (20 : Int).toNat)] (c / 2 % 3) = some (.int (anyM c)) ∧ 0 < anyM c ∧ anyM c ≤ 100000000000000000000 := by
  have h0 : 0 ≤ c / 2 % 3 := Int.emod_nonneg _ (by decide)
  have h1 : c / 2 % 3 < 3 := Int.emod_lt_of_pos _ (by decide)
  unfold anyM
  rcases (by omega : c / 2 % 3 = 0 ∨ c / 2 % 3 = 1 ∨ c / 2 % 3 = 2) with e | e | e <;> rw [e]
  · exact ⟨rfl, by decide, by decide⟩
  · exact ⟨rfl, by decide, by decide⟩
  · exact ⟨rfl, by decide, by decide⟩
theorem anyA_in {c m : Int} : 1 ≤ anyA c m ∧ anyA c m ≤ 100000000000000000000 := by
  obtain ⟨_, h1, h2⟩ := anyM_at (c := c)
  have a := Int.emod_nonneg m (by omega : anyM c ≠ 0)
  have b := Int.emod_lt_of_pos m h1
  unfold anyA
  omega
theorem anyL_in {c m : Int} : 0 ≤ anyL c m ∧ anyL c m < anyA c m := by
  have h := (anyA_in (c := c) (m := m)).1
  exact ⟨Int.emod_nonneg _ (by omega), Int.emod_lt_of_pos _ (by omega)⟩
theorem anyW_in {c m : Int} : 1 ≤ anyW c m ∧ anyL c m + anyW c m ≤ anyA c m := by
  obtain ⟨h1, h2⟩ := anyL_in (c := c) (m := m)
  unfold anyW
  split
  · omega
  · have a := Int.emod_nonneg (mixed (c / 6) 4 * (c / 12 + 1)) (by omega : anyA c m - anyL c m ≠ 0)
    have b := Int.emod_lt_of_pos (mixed (c / 6) 4 * (c / 12 + 1)) (by omega : 0 < anyA c m - anyL c m)
    omega
theorem anyS_fine {c m : Int} : Fine (anyS c m) := by
  have h := anyL_in (c := c) (m := m)
  have h2 := anyW_in (c := c) (m := m)
  have h3 := (anyA_in (c := c) (m := m)).2
  have h4 : (100000000000000000000 : Int) < 2 ^ 1400 := by decide +kernel
  exact ⟨h.1, h2.1, h2.2, Int.lt_of_le_of_lt h3 h4⟩
theorem ceil_is {s : Str3} (h : 0 < s.a) (k : Nat) : (s.l * 2 ^ k + s.a - 1) / s.a = numAt s k := by
  obtain ⟨h1, h2⟩ := num_le h k
  generalize numAt s k = n at h1 h2 ⊢
  generalize s.l * 2 ^ k = x at h1 h2 ⊢
  have e : x + s.a - 1 = (x + s.a - 1 - n * s.a) + n * s.a := by omega
  rw [e, Int.add_mul_ediv_right _ _ (by omega), Int.ediv_eq_zero_of_lt (by omega) (by omega), Int.zero_add]
theorem few_wide {s : Str3} (h : Fine s) : s.a ≤ 2 ^ few s * s.w ∧ 2 ^ few s * s.w < 4 * s.a := by
  obtain ⟨h1, h2, h3⟩ := few_ok (by decide) (fine_far h)
  have ha := h.real.a
  obtain ⟨n1, n2⟩ := num_le ha (few s)
  have o := of_decide_eq_true h1
  rw [Int.add_mul, Int.one_mul, Int.add_mul] at o
  have e : 2 ^ few s * s.w = s.w * 2 ^ few s := Int.mul_comm _ _
  refine ⟨by omega, ?_⟩
  rcases Nat.eq_zero_or_pos (few s) with c | c
  · rw [c]
    have := h.le
    have := h.l0
    show 1 * s.w < 4 * s.a
    omega
  · obtain ⟨m, hm⟩ : ∃ m, few s = m + 1 := ⟨few s - 1, by omega⟩
    have k := h3 m (by omega)
    have k2 : ¬ 2 * s.a ≤ s.w * 2 ^ m := fun z => by
      rw [ok_far ha z] at k
      cases k
    have e2 : s.w * (2 * 2 ^ m) = 2 * (s.w * 2 ^ m) := by rw [← Int.mul_assoc, Int.mul_comm s.w 2, Int.mul_assoc]
    rw [e, hm, two_succ, e2]
    omega
theorem not_less {s : Str3} (h : Fine s) : in3 ⟨numAt s (few s) - 1, 1, 2 ^ few s⟩ s = false := by
  rw [Bool.eq_false_iff]
  intro z
  rw [in3_iff] at z
  obtain ⟨n1, n2⟩ := num_le h.real.a (few s)
  have z1 : s.l * 2 ^ few s ≤ (numAt s (few s) - 1) * s.a := z.1
  rw [Int.sub_mul, Int.one_mul] at z1
  omega
theorem filter_none {α : Type} : ∀ l : List α, (l.filter fun _ => false) = [] := fun l => List.filter_eq_nil_iff.mpr fun _ _ => by decide
theorem flat_ints : ∀ ns : List Int, (lsI ns).all flatD = true
  | [] => rfl
  | n :: ns => flat_ints ns
theorem sub_bits {x y : Int} {n : Nat} (h1 : x.natAbs < 2 ^ n) (h2 : y.natAbs < 2 ^ n) : (x - y).natAbs < 2 ^ (n + 1) := by
  rw [Nat.pow_succ]
  omega
end DL

set_option maxRecDepth 100000
set_option maxHeartbeats 4000000
namespace DL
open PySem PySem.Spec PyProof.Rows L2 Evl
/-! ## the law's own trying of each sign -/
def partD (s : Str3) (cs : List Int) (j : Nat) : Dt := .tuple [.int (j : Int), (partJ s cs j).d]
def partsUp (cs : List Int) (s goal : Str3) (i : Nat) : List Nat := (List.range i).filter fun j => in3 goal (partJ s cs j)
theorem parts_yes {cs : List Int} {s goal : Str3} {i : Nat} (h : in3 goal (partJ s cs i) = true) : partsUp cs s goal (i + 1) = partsUp cs s goal i ++ [i] := by
  unfold partsUp
  have e : ([i] : List Nat).filter (fun j => in3 goal (partJ s cs j)) = [i] := by simp [List.filter, h]
  rw [List.range_succ, List.filter_append, e]
theorem parts_no {cs : List Int} {s goal : Str3} {i : Nat} (h : in3 goal (partJ s cs i) = false) : partsUp cs s goal (i + 1) = partsUp cs s goal i := by
  unfold partsUp
  have e : ([i] : List Nat).filter (fun j => in3 goal (partJ s cs j)) = [] := by simp [List.filter, h]
  rw [List.range_succ, List.filter_append, e, List.append_nil]
theorem parts_len {cs : List Int} {s goal : Str3} {i : Nat} : (partsUp cs s goal i).length ≤ i := by
  have := List.length_filter_le (fun j => in3 goal (partJ s cs j)) (List.range i)
  rw [List.length_range] at this
  exact this
theorem parts_next {cs : List Int} {s goal : Str3} : nextJ cs s goal = (partsUp cs s goal cs.length).head? := List.head?_filter.symm
theorem lay_parts {s : Str3} {cs : List Int} : ∀ L : List Nat, PyData.canLayAll0 (L.map (partD s cs)) = true
  | [] => rfl
  | j :: L => by
    show (true && PyData.canLayAll0 (L.map (partD s cs))) = true
    rw [lay_parts L] <;> rfl
theorem depth_parts {s : Str3} {cs : List Int} : ∀ L : List Nat, PyData.depthAll (L.map (partD s cs)) ≤ 2
  | [] => Nat.zero_le 2
  | j :: L => by
    have h := depth_parts (s := s) (cs := cs) L
    show max 2 (PyData.depthAll (L.map (partD s cs))) ≤ 2
    omega
theorem sh_parts {s : Str3} {cs : List Int} {L : List Nat} : SeqAt.shaped (.list (L.map (partD s cs))) = true := shaped_of (lay_parts L) (by
  show PyData.depthAll (L.map (partD s cs)) + 1 ≤ 64
  have := depth_parts (s := s) (cs := cs) L
  omega)
/-- the figures that k07 hands in -/
def rowK (c : Int) (F : List Int) : List Int :=
  if c % 3 = 0 then (List.range (c / 3 % 21).toNat).map fun (k : Nat) => mixed (c / 63) (k : Int) / 7 % 2
  else if c % 3 = 1 then F.take (c / 3 % ((F.length : Int) + 1)).toNat
  else F.take (c / 3 % ((F.length : Int) + 1)).toNat ++ ((F.drop (c / 3 % ((F.length : Int) + 1)).toNat).take 1).map (fun b => 1 - b) ++ F.drop ((c / 3 % ((F.length : Int) + 1)).toNat + 1)
theorem rowK_in {c : Int} {F : List Int} (h : Bin F) (hl : F.length ≤ 1401) : Bin (rowK c F) ∧ (rowK c F).length ≤ 3000 := by
  unfold rowK
  generalize (c / 3 % ((F.length : Int) + 1)).toNat = j
  split
  · refine ⟨fun x hx => ?_, by rw [List.length_map, List.length_range]; omega⟩
    obtain ⟨y, _, rfl⟩ := List.mem_map.mp hx
    omega
  · split
    · exact ⟨fun x hx => h x (List.mem_of_mem_take hx), by rw [List.length_take]; omega⟩
    · refine ⟨fun x hx => ?_, ?_⟩
      · rcases List.mem_append.mp hx with hx | hx
        · rcases List.mem_append.mp hx with hx | hx
          · exact h x (List.mem_of_mem_take hx)
          · obtain ⟨y, hy, rfl⟩ := List.mem_map.mp hx
            rcases h y (List.mem_of_mem_drop (List.mem_of_mem_take hy)) with rfl | rfl
            · exact .inr rfl
            · exact .inl rfl
        · exact h x (List.mem_of_mem_drop hx)
      · rw [List.length_append, List.length_append, List.length_map, List.length_take, List.length_take, List.length_drop, List.length_drop]
        omega
theorem cut_mid {f : List Int} {n : Nat} : cutD (lsI f) (some (n : Int)) (some ((n : Int) + 1)) = lsI ((f.drop n).take 1) := by
  have e : (n : Int) + 1 = ((n + 1 : Nat) : Int) := rfl
  rw [e]
  unfold cutD
  rw [HT.sIx_nat, HT.sIx_nat, lsI, lsI, List.map_take, List.map_drop, List.length_map]
  by_cases h : n < f.length
  · rw [Nat.min_eq_left (by omega), Nat.min_eq_left (by omega), Nat.add_sub_cancel_left]
  · rw [Nat.min_eq_right (by omega), Nat.min_eq_right (by omega), Nat.sub_self, List.drop_of_length_le (by rw [List.length_map]; omega), List.drop_of_length_le (by rw [List.length_map]; omega)]
    rfl
theorem sh_tl {f : List Int} : SeqAt.shaped (.tuple [.list (lsI f)]) = true := shaped_of (by
  show (PyData.canLayAll0 (lsI f) && true) = true
  rw [canLay_ints] <;> rfl) (by
  show max (PyData.depthAll (lsI f) + 1) 0 + 1 ≤ 64
  rw [depth_ints]
  decide)
theorem eqv_tl {f : List Int} : PyData.eqv (.tuple [.list (lsI f)]) (.tuple [.list (lsI f)]) = true := by
  show (PyData.eqv (.list (lsI f)) (.list (lsI f)) && true) = true
  rw [eqv_lists, decide_eq_true rfl] <;> rfl
/-! what is refused -/
def noPl4 (cs : List Int) (g : Int) : List Dt := [.none, .tuple [tupI cs], .tuple [.list (lsI cs), .int g], .tuple [tupI cs, .int (-1)]]
theorem noPl4_bad {cs : List Int} {g : Int} : ∀ d ∈ noPl4 cs g, planB d = false := by
  intro d hd
  simp only [noPl4, List.mem_cons, List.not_mem_nil, or_false] at hd
  rcases hd with rfl | rfl | rfl | rfl
  · rfl
  · rfl
  · rfl
  · show (_ && (_ && isIn (.int (-1)) 0 1000000)) = false
    rw [show isIn (.int (-1)) 0 1000000 = false from rfl, Bool.and_false, Bool.and_false]
def noCt6 (far : Int) : List Dt := [.int (-1), .int 61, .bool true, .none, .str "3", .int (61 + far)]
theorem noCt6_bad {far : Int} (hf : 0 ≤ far) : ∀ d ∈ noCt6 far, isIn d 0 60 = false := by
  intro d hd
  simp only [noCt6, List.mem_cons, List.not_mem_nil, or_false] at hd
  rcases hd with rfl | rfl | rfl | rfl | rfl | rfl
  · rfl
  · rfl
  · rfl
  · rfl
  · rfl
  · have e : ¬ (0 ≤ 61 + far ∧ 61 + far ≤ 60) := by omega
    exact decide_eq_false e
def noFg5 (F : List Int) : List Dt := [.none, .tuple (lsI F), .list (lsI F ++ [.int 2]), .list ([.bool true] ++ lsI F), .str "01"]
theorem noFg5_bad {F : List Int} : ∀ d ∈ noFg5 F, figB d = false ∧ noZ d = true := by
  intro d hd
  simp only [noFg5, List.mem_cons, List.not_mem_nil, or_false] at hd
  rcases hd with rfl | rfl | rfl | rfl | rfl
  · exact ⟨rfl, rfl⟩
  · exact ⟨rfl, rfl⟩
  · have ha : (lsI F ++ [PyData.int 2]).all (isIn · 0 1) = false := List.all_eq_false.mpr ⟨PyData.int 2, by simp, by decide⟩
    refine ⟨?_, rfl⟩
    show (_ && (lsI F ++ [PyData.int 2]).all (isIn · 0 1)) = false
    rw [ha, Bool.and_false]
  · refine ⟨?_, rfl⟩
    show (_ && (false && _)) = false
    rw [Bool.false_and, Bool.and_false]
  · exact ⟨rfl, rfl⟩
end DL
namespace DL
open PySem PySem.Spec PyProof.Rows L2 Evl
theorem at_last {f : List Int} {x : Int} : atI (lsI f ++ [PyData.int x]) (-1) = some (.int x) := by
  have hl : (lsI f ++ [PyData.int x]).length = f.length + 1 := by rw [List.length_append, List.length_map] <;> rfl
  unfold atI
  have e : ixN (lsI f ++ [PyData.int x]).length (-1) = some f.length := by
    unfold ixN
    rw [hl, if_neg (by decide), if_pos (by omega)]
    congr 1
    omega
  rw [e]
  show (lsI f ++ [PyData.int x])[f.length]? = some (.int x)
  rw [List.getElem?_append_right (by rw [List.length_map]; omega), List.length_map, Nat.sub_self]
  rfl
end DL

set_option maxRecDepth 100000
set_option maxHeartbeats 4000000
set_option exponentiation.threshold 2000
namespace DL
open PySem PySem.Spec PyProof.Rows L2 Evl
/-! ## readers and writers as cells -/
def rF (p : Dt) (n : Int) (s g : Dt) (t : Int) (l : Addr) : List (Str × Cv) := [("plan", .d p), ("many", .d (.int n)), ("stretch", .d s), ("goal", .d g), ("taken", .d (.int t)), ("signs", .r l)]
def rC (C a : Addr) (p : Dt) (n : Int) (s g : Dt) (t : Int) (l : Addr) (xs : List Dt) : Cs := [(a, .ins C (rF p n s g t l)), (l, .lst (xs.map Cv.d))]
def wF (p s g : Dt) (l : Addr) (t : Int) (b : Bool) : List (Str × Cv) := [("plan", .d p), ("stretch", .d s), ("goal", .d g), ("figures", .r l), ("taken", .d (.int t)), ("is_over", .d (.bool b))]
def wC (C a : Addr) (p s g : Dt) (l : Addr) (t : Int) (b : Bool) (xs : List Dt) : Cs := [(a, .ins C (wF p s g l t b)), (l, .lst (xs.map Cv.d))]
/-! ## signs by and by -/
structure QOk (g : Int) (n : Nat) (q : St) : Prop where
  p : PlanOk q.cs g
  s : S3Ok n q.s
theorem q0_ok {cs : List Int} {g : Int} (h : PlanOk cs g) : QOk g 0 (st0 cs) := ⟨h, whole_ok⟩
theorem QOk.step {g : Int} {n : Nat} {q : St} (h : QOk g n q) {j : Nat} (hj : j < q.cs.length) : QOk g (n + 1) (q.step g (j : Int)) :=
  ⟨bump_ok h.p (by omega) (by omega), part_ok h.s (share_ok h.p (by omega) (by omega))⟩
theorem signsBy_ok {g : Int} {goal : Str3} : ∀ {m n : Nat} {q : St}, QOk g n q → QOk g (n + (signsBy g goal m q).1.length) (signsBy g goal m q).2 ∧ (signsBy g goal m q).1.length ≤ m
  | 0, n, q, h => ⟨h, Nat.le_refl _⟩
  | m + 1, n, q, h => by
    cases hj : nextJ q.cs q.s goal with
    | none => rw [signsBy_none hj]; exact ⟨h, Nat.zero_le _⟩
    | some j =>
      rw [signsBy_some hj]
      obtain ⟨h1, h2⟩ := signsBy_ok (g := g) (goal := goal) (m := m) (h.step (nextJ_lt hj).1)
      refine ⟨?_, Nat.succ_le_succ h2⟩
      rw [List.length_cons, ← Nat.add_assoc, Nat.add_right_comm]
      exact h1
/-- more figures only lengthen what is told -/
theorem signsBy_more {g : Int} {goal goal' : Str3} (hg : Real3 goal) (hg' : Real3 goal') (hi : in3 goal' goal = true) : ∀ {m n : Nat} {q : St}, QOk g n q →
    signsBy g goal' m q = ((signsBy g goal m q).1 ++ (signsBy g goal' (m - (signsBy g goal m q).1.length) (signsBy g goal m q).2).1, (signsBy g goal' (m - (signsBy g goal m q).1.length) (signsBy g goal m q).2).2)
  | 0, n, q, h => rfl
  | m + 1, n, q, h => by
    cases hj : nextJ q.cs q.s goal with
    | none => rw [signsBy_none hj]; rfl
    | some j =>
      obtain ⟨jl, ji⟩ := nextJ_lt hj
      have rp : Real3 (partJ q.s q.cs j) := (part_ok h.s (share_ok h.p (s := (j : Int)) (by omega) (by omega))).real
      have hj' : nextJ q.cs q.s goal' = some j := next_is h.s.real hg' h.p.cnt jl (in3_trans hg' hg rp hi ji)
      rw [signsBy_some hj, signsBy_some hj']
      have ih := signsBy_more hg hg' hi (m := m) (h.step jl)
      rw [ih]
      simp only [List.length_cons, Nat.add_sub_add_right, List.cons_append]
/-- what a reader of so many signs has told by so many figures, and where it stands -/
def told (cs : List Int) (g : Int) (n : Nat) (f : List Int) : List Int × St := signsBy g (fig f) n (st0 cs)
theorem told_more {cs : List Int} {g : Int} (ok : PlanOk cs g) {n : Nat} {f f2 : List Int} (hb : Bin f2) : told cs g n (f ++ f2) = ((told cs g n f).1 ++ (signsBy g (fig (f ++ f2)) (n - (told cs g n f).1.length) (told cs g n f).2).1, (signsBy g (fig (f ++ f2)) (n - (told cs g n f).1.length) (told cs g n f).2).2) :=
  signsBy_more (fig_real _) (fig_real _) (fig_in hb) (q0_ok ok)
theorem told_ok {cs : List Int} {g : Int} (ok : PlanOk cs g) {n : Nat} {f : List Int} : QOk g (told cs g n f).1.length (told cs g n f).2 ∧ (told cs g n f).1.length ≤ n := by
  have z := signsBy_ok (g := g) (goal := fig f) (m := n) (q0_ok ok)
  rw [Nat.zero_add] at z
  exact z
/-! ## figures by and by -/
theorem bin_snoc {f : List Int} {b : Int} (h : Bin (f ++ [b])) : Bin f ∧ (b = 0 ∨ b = 1) := ⟨fun x hx => h x (List.mem_append_left _ hx), h b (List.mem_append_right _ List.mem_cons_self)⟩
theorem bin_app {f r : List Int} (h : Bin f) (k : Bin r) : Bin (f ++ r) := fun x hx => (List.mem_append.mp hx).elim (h x) (k x)
theorem sureGo_snoc {s : Str3} (hs : Real3 s) {n : Nat} {f : List Int} {b : Int} (hb : b = 0 ∨ b = 1) (hi : in3 s (fig (f ++ [b])) = true) : sureGo s (n + 1) f = sureGo s n (f ++ [b]) := by
  rw [sureGo_succ]
  rcases hb with rfl | rfl
  · rw [if_pos hi]
  · rw [if_neg ?_, if_pos hi]
    intro h0
    have a := fig_ahead (c := f) (f := []) (g := []) (fun _ z => by cases z) (fun _ z => by cases z)
    exact not_self hs (ahead_in (fig_real _) (fig_real _) hs hs a h0 hi)
/-- from figures that hold the stretch the look goes on -/
theorem sure_from {s : Str3} (hs : Real3 s) : ∀ (k : Nat) (f : List Int), f.length = k → Bin f → in3 s (fig f) = true → ∀ n, k ≤ n → sureGo s n [] = sureGo s (n - k) f
  | 0, f, hl, _, _, n, _ => by
    have e : f = [] := List.length_eq_zero_iff.mp hl
    rw [e, Nat.sub_zero]
  | k + 1, f, hl, hb, hi, n, hn => by
    obtain ⟨f', b, rfl⟩ : ∃ f' b, f = f' ++ [b] := by
      have hne : f ≠ [] := fun z => by rw [z] at hl; cases hl
      exact ⟨f.dropLast, f.getLast hne, (List.dropLast_concat_getLast hne).symm⟩
    have l : f'.length = k := by rw [List.length_append, List.length_singleton] at hl; omega
    obtain ⟨b1, b2⟩ := bin_snoc hb
    have i1 := in3_trans hs (fig_real _) (fig_real _) hi (fig_in1 b2)
    rw [sure_from hs k f' l b1 i1 n (by omega), show n - k = (n - (k + 1)) + 1 by omega]
    exact sureGo_snoc hs b2 hi
theorem sureGo_app {s : Str3} : ∀ (n : Nat) (f : List Int), ∃ r, sureGo s n f = f ++ r
  | 0, f => ⟨[], (List.append_nil f).symm⟩
  | n + 1, f => by
    rw [sureGo_succ]
    split
    · obtain ⟨r, h⟩ := sureGo_app (s := s) n (f ++ [0])
      exact ⟨0 :: r, by rw [h]; simp⟩
    · split
      · obtain ⟨r, h⟩ := sureGo_app (s := s) n (f ++ [1])
        exact ⟨1 :: r, by rw [h]; simp⟩
      · exact ⟨[], (List.append_nil f).symm⟩
theorem sure_app {s : Str3} (h : Fine s) {f : List Int} (hb : Bin f) (hi : in3 s (fig f) = true) : sure s = f ++ (sure s).drop f.length := by
  have l := sure_few h hi
  have e := sure_from h.real _ f rfl hb hi 1500 (by omega)
  obtain ⟨r, hr⟩ := sureGo_app (s := s) (1500 - f.length) f
  have e2 : sure s = f ++ r := e.trans hr
  rw [e2]
  congr 1
  rw [List.drop_left']
  rfl
/-- both halves hold no wider stretch -/
theorem sure_go_on {s : Str3} (h : Fine s) {f : List Int} (hb : Bin f) (hi : in3 s (fig f) = true) {n : Nat} (hn : n + f.length = 1500) : sure s = sureGo s n f := by
  have e := sure_from h.real _ f rfl hb hi 1500 (by omega)
  rw [show 1500 - f.length = n by omega] at e
  exact e
end DL
namespace DL
open PySem PySem.Spec PyProof.Rows L2 Evl
/-! ## signs taken by and by -/
def runQ (g : Int) (q : St) (ss : List Int) : St := ss.foldl (St.step g) q
theorem runQ_snoc {g : Int} {q : St} {ss : List Int} {x : Int} : runQ g q (ss ++ [x]) = (runQ g q ss).step g x := by
  unfold runQ
  rw [List.foldl_append]
  rfl
theorem run_app {cs : List Int} {g : Int} {a b : List Int} : run cs g (a ++ b) = runQ g (run cs g a) b := List.foldl_append
theorem runQ_len {g : Int} {q : St} : ∀ ss : List Int, (runQ g q ss).cs.length = q.cs.length := fun ss => by
  induction ss generalizing q with
  | nil => rfl
  | cons x ss ih =>
    show (runQ g (q.step g x) ss).cs.length = _
    rw [ih]
    exact bump_len
theorem QOk.step1 {g : Int} {n : Nat} {q : St} (h : QOk g n q) {x : Int} (h0 : 0 ≤ x) (h1 : x < q.cs.length) : QOk g (n + 1) (q.step g x) := ⟨bump_ok h.p h0 h1, part_ok h.s (share_ok h.p h0 h1)⟩
theorem runQ_ok {g : Int} : ∀ {ss : List Int} {n : Nat} {q : St}, QOk g n q → SignsOk q.cs ss → QOk g (n + ss.length) (runQ g q ss) ∧ in3 (runQ g q ss).s q.s = true
  | [], n, q, h, _ => ⟨h, in3_refl _⟩
  | x :: ss, n, q, h, hs => by
    obtain ⟨h0, h1⟩ := hs x List.mem_cons_self
    have k := h.step1 h0 h1
    obtain ⟨a, b⟩ := runQ_ok (ss := ss) k fun y hy => by
      show 0 ≤ y ∧ y < ((bump q.cs g x).length : Int)
      rw [bump_len]
      exact hs y (List.mem_cons_of_mem _ hy)
    refine ⟨?_, ?_⟩
    · rw [List.length_cons, ← Nat.add_assoc, Nat.add_right_comm]
      exact a
    · exact in3_trans a.s.real k.s.real h.s.real b (part_in h.s (share_ok h.p h0 h1))
theorem signs_takeQ {cs ss : List Int} {i : Nat} (h : SignsOk cs ss) : SignsOk cs (ss.take i) := signs_take h
end DL
namespace DL
open PySem PySem.Spec PyProof.Rows L2 Evl
theorem fig_nil : fig [] = whole3 := rfl
theorem signsBy_run {cs : List Int} {g : Int} (ok : PlanOk cs g) {goal : Str3} : ∀ (m : Nat) (c : List Int), SignsOk cs c → in3 goal (run cs g c).s = true →
    (signsBy g goal m (run cs g c)).2 = run cs g (c ++ (signsBy g goal m (run cs g c)).1) ∧ SignsOk cs (c ++ (signsBy g goal m (run cs g c)).1) ∧ in3 goal (run cs g (c ++ (signsBy g goal m (run cs g c)).1)).s = true
  | 0, c, hs, hi => by
    show run cs g c = run cs g (c ++ []) ∧ SignsOk cs (c ++ []) ∧ in3 goal (run cs g (c ++ [])).s = true
    rw [List.append_nil]
    exact ⟨rfl, hs, hi⟩
  | m + 1, c, hs, hi => by
    cases hj : nextJ (run cs g c).cs (run cs g c).s goal with
    | none =>
      rw [signsBy_none hj]
      show run cs g c = run cs g (c ++ []) ∧ SignsOk cs (c ++ []) ∧ in3 goal (run cs g (c ++ [])).s = true
      rw [List.append_nil]
      exact ⟨rfl, hs, hi⟩
    | some j =>
      obtain ⟨jl, ji⟩ := nextJ_lt hj
      rw [run_len] at jl
      have hs2 : SignsOk cs (c ++ [(j : Int)]) := fun x hx => by
        rcases List.mem_append.mp hx with hx | hx
        · exact hs x hx
        · rw [List.mem_singleton.mp hx]
          omega
      have hi2 : in3 goal (run cs g (c ++ [(j : Int)])).s = true := by
        rw [run_snoc]
        exact ji
      have ih := signsBy_run ok m (c ++ [(j : Int)]) hs2 hi2
      rw [signsBy_some hj, ← run_snoc]
      rw [List.append_assoc] at ih
      exact ih
theorem told_run {cs : List Int} {g : Int} (ok : PlanOk cs g) {n : Nat} {f : List Int} (hf : Bin f) : (told cs g n f).2 = run cs g (told cs g n f).1 ∧ SignsOk cs (told cs g n f).1 ∧ in3 (fig f) (run cs g (told cs g n f).1).s = true :=
  signsBy_run ok n [] (fun _ z => by cases z) (fig_in (f := []) hf)
/-- two texts of one length that hold a stretch together are one -/
theorem same_text {cs : List Int} {g : Int} (ok : PlanOk cs g) {t u : List Int} (ht : SignsOk cs t) (hu : SignsOk cs u) (hl : u.length = t.length) {z : Str3} (hz : Real3 z) (h1 : in3 z (run cs g t).s = true) (h2 : in3 z (run cs g u).s = true) : u = t := by
  rcases lex_tri t u with h | h | h
  · exact (not_self hz (ahead_in (run_real ok ht) (run_real ok hu) hz hz (text_ahead ok ht hu hl.symm h) h1 h2)).elim
  · exact h.symm
  · exact (not_self hz (ahead_in (run_real ok hu) (run_real ok ht) hz hz (text_ahead ok hu ht hl h) h2 h1)).elim
theorem run_preN {cs : List Int} {g : Int} (ok : PlanOk cs g) {t : List Int} (hs : SignsOk cs t) (n : Nat) : in3 (run cs g t).s (run cs g (t.take n)).s = true := by
  have e : t.take n ++ t.drop n = t := List.take_append_drop n t
  have h := run_pre ok (c := t.take n) (r := t.drop n) (by rw [e]; exact hs)
  rw [e] at h
  exact h
/-- a stretch that lies within a longer text's and within a text's: the text begins so -/
theorem text_begins {cs : List Int} {g : Int} (ok : PlanOk cs g) {t u : List Int} (ht : SignsOk cs t) (hu : SignsOk cs u) (hl : u.length ≤ t.length) {z : Str3} (hz : Real3 z) (h1 : in3 z (run cs g t).s = true) (h2 : in3 z (run cs g u).s = true) : u = t.take u.length := by
  have hs : SignsOk cs (t.take u.length) := signs_take ht
  refine same_text ok hs hu (by rw [List.length_take]; omega) hz (in3_trans hz (run_real ok ht) (run_real ok hs) h1 (run_preN ok ht _)) h2
theorem cnt_lt {cs : List Int} {g x : Int} (h : PlanOk cs g) (h0 : 0 ≤ x) (h1 : x < (cs.length : Int)) : 0 < below cs x ∨ cnt cs x < cs.sum := by
  have hl := h.len
  have hi : x.toNat < cs.length := by omega
  have e := sum_split hi
  have p1 := sum_pos (cs := cs.take x.toNat) fun c hc => h.cnt c (List.mem_of_mem_take hc)
  have p2 := sum_pos (cs := cs.drop (x.toNat + 1)) fun c hc => h.cnt c (List.mem_of_mem_drop hc)
  rw [List.length_take] at p1
  rw [List.length_drop] at p2
  show 0 < (cs.take x.toNat).sum ∨ cs.getD x.toNat 0 < cs.sum
  omega
/-- no text lies within a longer one -/
theorem narrower {cs : List Int} {g : Int} (ok : PlanOk cs g) {c : List Int} {x : Int} {r : List Int} (hs : SignsOk cs (c ++ x :: r)) : in3 (run cs g c).s (run cs g (c ++ x :: r)).s = false := by
  rw [Bool.eq_false_iff]
  intro h
  have e : c ++ x :: r = (c ++ [x]) ++ r := by simp
  have hs2 : SignsOk cs ((c ++ [x]) ++ r) := e ▸ hs
  have h1 : SignsOk cs (c ++ [x]) := fun s hs3 => hs2 s (List.mem_append_left _ hs3)
  obtain ⟨c1, i0, i1⟩ := signs_snoc h1
  obtain ⟨r1, r2⟩ := run_ok ok _ c rfl c1
  have sh := share_ok r2 i0 (by rw [run_len]; exact i1)
  rw [e] at h
  have p := in3_trans r1.real (run_real ok hs2) (run_real ok h1) h (run_pre ok hs2)
  rw [run_snoc, in3_iff] at p
  obtain ⟨p1, p2⟩ := p
  have hb := cnt_lt r2 i0 (by rw [run_len]; exact i1)
  have hc := sh.c1
  have hb0 := sh.b0
  have q1 : ((run cs g c).s.l * (run cs g c).cs.sum + (run cs g c).s.w * below (run cs g c).cs x) * (run cs g c).s.a ≤ (run cs g c).s.l * ((run cs g c).s.a * (run cs g c).cs.sum) := p1
  have q2 : ((run cs g c).s.l + (run cs g c).s.w) * ((run cs g c).s.a * (run cs g c).cs.sum) ≤ ((run cs g c).s.l * (run cs g c).cs.sum + (run cs g c).s.w * below (run cs g c).cs x + (run cs g c).s.w * cnt (run cs g c).cs x) * (run cs g c).s.a := p2
  clear p1 p2 h
  generalize below (run cs g c).cs x = B at *
  generalize cnt (run cs g c).cs x = C at *
  generalize (run cs g c).cs.sum = T at *
  have ra := r1.real.a
  have rw' := r1.real.w
  generalize (run cs g c).s.l = L at *
  generalize (run cs g c).s.w = W at *
  generalize (run cs g c).s.a = A at *
  have e2 : (L + W) * (A * T) = (L * T + W * T) * A := by
    rw [← Int.add_mul, Int.mul_comm A T, Int.mul_assoc]
  rw [e2] at q2
  have q3 := Int.le_of_mul_le_mul_right q2 ra
  have q4 : W * T ≤ W * B + W * C := by omega
  rw [← Int.mul_add] at q4
  have q5 := Int.le_of_mul_le_mul_left q4 rw'
  have e3 : L * (A * T) = L * T * A := by rw [Int.mul_comm A T, Int.mul_assoc]
  rw [e3] at q1
  have q6 := Int.le_of_mul_le_mul_right q1 ra
  have q7 : W * B ≤ W * 0 := by rw [Int.mul_zero]; omega
  have q8 := Int.le_of_mul_le_mul_left q7 rw'
  omega
end DL
namespace DL
open PySem PySem.Spec PyProof.Rows L2 Evl
/-- by figures that hold a text's stretch but first signs of it are told -/
theorem told_in {cs : List Int} {g : Int} (ok : PlanOk cs g) {v : List Int} (hv : SignsOk cs v) {f : List Int} (hf : Bin f) {n : Nat} (hi : in3 (run cs g v).s (fig f) = true) : (told cs g n f).1 = v.take (told cs g n f).1.length ∧ (told cs g n f).1.length ≤ v.length := by
  obtain ⟨_, hu, h2⟩ := told_run ok (n := n) hf
  generalize (told cs g n f).1 = u at *
  have rv := run_real ok hv
  have hz := in3_trans rv (fig_real _) (run_real ok hu) hi h2
  rcases Nat.le_total u.length v.length with c | c
  · exact ⟨text_begins ok hv hu c rv (in3_refl _) hz, c⟩
  · have hs : SignsOk cs (u.take v.length) := signs_take hu
    have e := same_text ok hv hs (by rw [List.length_take]; omega) rv (in3_refl _) (in3_trans rv (run_real ok hu) (run_real ok hs) hz (run_preN ok hu _))
    have e2 : v ++ u.drop v.length = u := by
      have := List.take_append_drop v.length u
      rw [e] at this
      exact this
    cases hd : u.drop v.length with
    | nil =>
      rw [hd, List.append_nil] at e2
      rw [← e2]
      exact ⟨by rw [List.take_length], Nat.le_refl _⟩
    | cons x r =>
      rw [hd] at e2
      rw [← e2] at hu hz
      rw [narrower ok hu] at hz
      cases hz
theorem told_fig {cs : List Int} {g : Int} (ok : PlanOk cs g) {t : List Int} (ht : SignsOk cs t) (hl : t.length ≤ 60) {f w : List Int} (hf : Bin f) (hw : Bin w) (h : f ++ w = figs (run cs g t).s) : (told cs g t.length f).1 = t.take (told cs g t.length f).1.length := by
  have fs := ((run_ok ok _ t rfl ht).1).fine hl
  obtain ⟨_, hu, h2⟩ := told_run ok (n := t.length) hf
  have hk := (told_ok ok (n := t.length) (f := f)).2
  generalize (told cs g t.length f).1 = u at *
  have i1 := figs_in fs
  rw [← h] at i1
  exact text_begins ok ht hu hk (fig_real _) i1 (in3_trans (fig_real _) (fig_real _) (run_real ok hu) (fig_in hw) h2)
theorem told_all {cs : List Int} {g : Int} (ok : PlanOk cs g) {t : List Int} (ht : SignsOk cs t) (hl : t.length ≤ 60) : (told cs g t.length (figs (run cs g t).s)).1 = t := by
  have := cert_text0 ok ht hl (Nat.le_refl t.length)
  rw [List.take_length] at this
  exact this
theorem cut_range {f : List Int} {n k : Nat} : cutD (lsI f) (some (n : Int)) (some (k : Int)) = lsI ((f.drop n).take (k - n)) := by
  unfold cutD
  rw [HT.sIx_nat, HT.sIx_nat, lsI, lsI, List.map_take, List.map_drop, List.length_map]
  rcases Nat.le_total n f.length with h | h
  · rw [Nat.min_eq_left h]
    rw [List.take_eq_take_iff, List.length_drop, List.length_map]
    omega
  · rw [Nat.min_eq_right h, List.drop_of_length_le (by rw [List.length_map]; omega), List.drop_of_length_le (by rw [List.length_map]; omega), List.take_nil, List.take_nil]
theorem take_more {α : Type} {t : List α} {i j : Nat} : t.take i ++ (t.drop i).take j = t.take (i + j) := by
  rw [List.take_add]
theorem figs_pre {s : Str3} (h : Fine s) {f : List Int} (hb : Bin f) (hi : in3 s (fig f) = true) : (figs s).take f.length = f ∧ figs s = f ++ (figs s).drop f.length := by
  have e := fig_pre figs_bin hb (in3_trans (fig_real _) h.real (fig_real _) (figs_in h) hi)
  refine ⟨e, ?_⟩
  have := List.take_append_drop f.length (figs s)
  rw [e] at this
  exact this.symm
end DL
namespace DL
open PySem PySem.Spec PyProof.Rows L2 Evl
/-- the slots and cells of the law over both -/
abbrev enX (Cw Cr : Addr) (ns cs : List Int) (g c2 : Int) (t : List Int) (a l b k tl : Addr) (w z : Sv) (pos turn : Int) (q : St) (kw : Int) (gl : Dt) (F : List Int) (ov : Bool) (r : St) (fr T : List Int) : List Sv :=
  [.d (fz (lsI ns)), .d (pd cs g), .d (.int c2), .d (.list (lsI t)), .v (.ref a), .v (.ref b), w, .v (.ref tl), .d (.int pos), .d (.int turn), z, .cell a (.ins Cw (wF (pd q.cs g) q.s.d gl l kw ov)), .cell l (.lst ((lsI F).map Cv.d)),
    .cell b (.ins Cr (rF (pd r.cs g) (t.length : Int) r.s.d (fig fr).d (fr.length : Int) k)), .cell k (.lst ((lsI T).map Cv.d)), .cell tl (.lst ((lsI T).map Cv.d))]
end DL

set_option maxRecDepth 100000
set_option maxHeartbeats 4000000
set_option exponentiation.threshold 2000
namespace DL
open PySem PySem.Spec PyProof.Rows L2 Evl
/-! ## figures by twos, taken one by one -/
theorem twos_get : ∀ {n : Nat} {x : Int} {i : Nat}, i < n → (twos n x)[i]? = some (x / 2 ^ (n - 1 - i) % 2)
  | 0, _, _, h => absurd h (Nat.not_lt_zero _)
  | n + 1, x, 0, _ => rfl
  | n + 1, x, i + 1, h => by
    show (twos n x)[i]? = _
    rw [twos_get (by omega : i < n)]
    congr 4
    omega
theorem twos_take {n : Nat} {x : Int} {i : Nat} (h : i < n) : lsI ((twos n x).take (i + 1)) = lsI ((twos n x).take i) ++ [.int (x / 2 ^ (n - 1 - i) % 2)] := by
  rw [take_snoc (twos_get h), ints_app]
  rfl
theorem half_two {n i : Nat} (h : i < n) : (2 : Int) ^ (n - i) / 2 = 2 ^ (n - 1 - i) := by
  have e : n - i = (n - 1 - i) + 1 := by omega
  rw [e, two_succ, Int.mul_ediv_cancel_left _ (by decide)]
end DL
namespace DL
open PySem PySem.Spec PyProof.Rows L2 Evl
theorem sign_rep {cs : List Int} {x : Int} {n : Nat} (h0 : 0 ≤ x) (h1 : x < (cs.length : Int)) : SignsOk cs (List.replicate n x) := fun s hs => by
  rw [(List.mem_replicate.mp hs).2]
  exact ⟨h0, h1⟩
theorem signs_app {cs a b : List Int} (h : SignsOk cs a) (k : SignsOk cs b) : SignsOk cs (a ++ b) := fun s hs => (List.mem_append.mp hs).elim (h s) (k s)
/-- a writer that has taken ss takes more -/
theorem more_ok {cs : List Int} {g : Int} (ok : PlanOk cs g) {ss more : List Int} (h1 : SignsOk cs ss) (h2 : SignsOk cs more) (hl : (ss ++ more).length ≤ 60) {F : List Int} (bF : Bin F) (iF : in3 (run cs g ss).s (fig F) = true) :
    QOk g ss.length (run cs g ss) ∧ SignsOk (run cs g ss).cs more ∧ runQ g (run cs g ss) more = run cs g (ss ++ more) ∧ Fine (run cs g (ss ++ more)).s ∧ in3 (run cs g (ss ++ more)).s (fig F) = true ∧ sure (run cs g (ss ++ more)).s = F ++ (sure (run cs g (ss ++ more)).s).drop F.length := by
  obtain ⟨r1, r2⟩ := run_ok ok _ ss rfl h1
  have h3 : SignsOk (run cs g ss).cs more := fun x hx => by rw [run_len]; exact h2 x hx
  have e := (run_app (cs := cs) (g := g) (a := ss) (b := more)).symm
  have q := (runQ_ok (g := g) ⟨r2, r1⟩ h3).2
  rw [e] at q
  have fs := ((run_ok ok _ _ rfl (signs_app h1 h2)).1).fine hl
  have i := in3_trans fs.real r1.real (fig_real _) q iF
  exact ⟨⟨r2, r1⟩, h3, e, fs, i, sure_app fs bF i⟩
/-! ## the law's writers: a dict each -/
structure WA where
  p : Addr
  a : Addr
  l : Addr
  sh : Addr
structure WS where
  cs : List Int
  g : Int
  ss : List Int
  F : List Int
  ov : Bool
  gl : Dt
  L : List Dt
def PairOk (d : Dt) : Prop := ∃ xs : List Int, d = .tuple [.list (lsI xs), .list (lsI xs)]
structure WS.Ok (D : WS) (n : Nat) : Prop where
  plan : PlanOk D.cs D.g
  signs : SignsOk D.cs D.ss
  few : D.ss.length ≤ 3 * n
  n12 : n ≤ 12
  bin : Bin D.F
  lF : D.F.length ≤ 1500
  goal : D.ov = false → D.gl = (fig D.F).d ∧ in3 (run D.cs D.g D.ss).s (fig D.F) = true
  pairs : ∀ d ∈ D.L, PairOk d
  lL : D.L.length ≤ n
def dictW (A : WA) (D : WS) : List (Key × Cv) := [(.inr "writer", .r A.a), (.inr "plan", .d (pd D.cs D.g)), (.inr "signs", .d (.list (lsI D.ss))), (.inr "figures", .d (.list (lsI D.F))), (.inr "over", .d (.bool D.ov)), (.inr "shown", .r A.sh)]
def wD (C : Addr) (A : WA) (D : WS) : Cs := [(A.p, .dct (dictW A D)), (A.a, .ins C (wF (pd (run D.cs D.g D.ss).cs D.g) (run D.cs D.g D.ss).s.d D.gl A.l (D.ss.length : Int) D.ov)), (A.l, .lst ((lsI D.F).map Cv.d)), (A.sh, .lst (D.L.map Cv.d))]
theorem WS.Ok.le {D : WS} {n m : Nat} (h : D.Ok n) (hm : n ≤ m) (h12 : m ≤ 12) : D.Ok m := ⟨h.plan, h.signs, by have := h.few; omega, h12, h.bin, h.lF, h.goal, h.pairs, by have := h.lL; omega⟩
theorem flat_bools {ns : List Int} : (lsI ns).all flatD = true := flat_ints ns
theorem noLs_ints : ∀ ns : List Int, noLs (lsI ns) = true
  | [] => rfl
  | n :: ns => noLs_ints ns
theorem noL_pd {cs : List Int} {g : Int} : noL (pd cs g) = true := by
  show (noLs (lsI cs) && (noL (.int g) && true)) = true
  rw [noLs_ints] <;> rfl
theorem noL_lst {ns : List Int} : noLc (.lst ((lsI ns).map Cv.d)) = true := by
  show (((lsI ns).map Cv.d).all noLv) = true
  rw [List.all_eq_true]
  intro c hc
  obtain ⟨d, hd, rfl⟩ := List.mem_map.mp hc
  obtain ⟨n, _, rfl⟩ := List.mem_map.mp hd
  rfl
end DL
namespace DL
open PySem PySem.Spec PyProof.Rows L2 Evl
def bad5 (m : Int) : List Dt := [.int m, .int (-1), .bool true, .none, .str "0"]
def noT5 (ss : List Int) (odd : Dt) : List Dt := [.list (lsI ss ++ [odd]), .list ([odd] ++ lsI ss), .tuple (lsI ss), .none, .int 5]
theorem bad5_bad {cs : List Int} {g : Int} : ∀ d ∈ bad5 (cs.length : Int), signB (pd cs g) d = false := by
  intro d hd
  rw [signB_pd]
  simp only [bad5, List.mem_cons, List.not_mem_nil, or_false] at hd
  rcases hd with rfl | rfl | rfl | rfl | rfl
  · exact (show decide ((0 : Int) ≤ (cs.length : Int) ∧ (cs.length : Int) ≤ (cs.length : Int) - 1) = false from decide_eq_false (by omega))
  · exact (show decide ((0 : Int) ≤ -1 ∧ (-1 : Int) ≤ (cs.length : Int) - 1) = false from decide_eq_false (by omega))
  · rfl
  · rfl
  · rfl
theorem noT5_bad {cs ss : List Int} {g : Int} {odd : Dt} (ho : signB (pd cs g) odd = false) : ∀ d ∈ noT5 ss odd, textB (pd cs g) d = false ∧ noZ d = true := by
  intro d hd
  simp only [noT5, List.mem_cons, List.not_mem_nil, or_false] at hd
  rcases hd with rfl | rfl | rfl | rfl | rfl
  · refine ⟨?_, rfl⟩
    show (decide _ && (lsI ss ++ [odd]).all (signB (pd cs g))) = false
    rw [List.all_append, List.all_cons, ho]
    simp
  · refine ⟨?_, rfl⟩
    show (decide _ && ([odd] ++ lsI ss).all (signB (pd cs g))) = false
    rw [List.all_append, List.all_cons, ho]
    simp
  · exact ⟨rfl, rfl⟩
  · exact ⟨rfl, rfl⟩
  · exact ⟨rfl, rfl⟩
end DL
namespace DL
open PySem PySem.Spec PyProof.Rows L2 Evl
theorem textB_len {cs cs' : List Int} {g g' : Int} (h : cs.length = cs'.length) (d : Dt) : textB (pd cs g) d = textB (pd cs' g') d := by
  cases d with
  | list ds =>
    show (decide _ && ds.all (signB (pd cs g))) = (decide _ && ds.all (signB (pd cs' g')))
    have e : signB (pd cs g) = signB (pd cs' g') := funext fun x => by rw [signB_pd, signB_pd, h]
    rw [e]
  | _ => rfl
theorem noL_sd {s : Str3} : noL s.d = true := rfl
theorem noL_wC {C a l : Addr} {cs xs : List Int} {g t : Int} {s gl : Str3} {b : Bool} : ((wC C a (pd cs g) s.d gl.d l t b (lsI xs)).all fun p => noLc p.2) = true := by
  show ((noL (pd cs g) && (noL s.d && (noL gl.d && (true && (true && (true && true)))))) && (noLc (.lst ((lsI xs).map Cv.d)) && true)) = true
  rw [noL_pd, noL_lst] <;> rfl
theorem noL_rC {C a l : Addr} {cs xs : List Int} {g n t : Int} {s gl : Str3} : ((rC C a (pd cs g) n s.d gl.d t l (lsI xs)).all fun p => noLc p.2) = true := by
  show ((noL (pd cs g) && (true && (noL s.d && (noL gl.d && (true && (true && true)))))) && (noLc (.lst ((lsI xs).map Cv.d)) && true)) = true
  rw [noL_pd, noL_lst] <;> rfl
end DL

set_option maxRecDepth 100000
set_option maxHeartbeats 4000000
set_option exponentiation.threshold 2000
namespace DL
open PySem PySem.Spec PyProof.Rows L2 Evl
/-! ## the law's readers: a dict each -/
structure RA where
  b : Addr
  k : Addr
  p : Addr
  sh : Addr
structure RS where
  cs : List Int
  g : Int
  n : Nat
  row : List Int
  f : List Int
  L : List Dt
structure RS.Ok (D : RS) (m : Nat) : Prop where
  plan : PlanOk D.cs D.g
  n60 : D.n ≤ 60
  row : Bin D.row
  bin : Bin D.f
  few : D.f.length ≤ 6 * m
  m13 : m ≤ 13
  pairs : ∀ d ∈ D.L, PairOk d
  lL : D.L.length ≤ m
abbrev RS.t (D : RS) : List Int × St := told D.cs D.g D.n D.f
def dictR (A : RA) (D : RS) : List (Key × Cv) := [(.inr "reader", .r A.b), (.inr "plan", .d (pd D.cs D.g)), (.inr "many", .d (.int (D.n : Int))), (.inr "row", .d (.list (lsI D.row))), (.inr "taken", .d (.list (lsI D.f))), (.inr "signs", .d (.list (lsI D.t.1))), (.inr "shown", .r A.sh)]
def rD (C : Addr) (A : RA) (D : RS) : Cs := [(A.b, .ins C (rF (pd D.t.2.cs D.g) (D.n : Int) D.t.2.s.d (fig D.f).d (D.f.length : Int) A.k)), (A.k, .lst ((lsI D.t.1).map Cv.d)), (A.p, .dct (dictR A D)), (A.sh, .lst (D.L.map Cv.d))]
theorem RS.Ok.le {D : RS} {n m : Nat} (h : D.Ok n) (hm : n ≤ m) (h13 : m ≤ 13) : D.Ok m := ⟨h.plan, h.n60, h.row, h.bin, by have := h.few; omega, h13, h.pairs, by have := h.lL; omega⟩
theorem told_nil {cs : List Int} {g : Int} {n : Nat} : told cs g n [] = told cs g n [] := rfl
theorem told0 {cs : List Int} {g : Int} (ok : PlanOk cs g) {n : Nat} : (told cs g n []).1 = [] ∧ (told cs g n []).2 = st0 cs := by
  have e0 := told_in ok (v := []) (fun _ z => by cases z) (f := []) (fun _ z => by cases z) (n := n) (in3_refl whole3)
  have e1 : (told cs g n []).1 = [] := List.length_eq_zero_iff.mp (by simpa using e0.2)
  have e2 := (told_run ok (n := n) (f := []) (fun _ z => by cases z)).1
  rw [e1] at e2
  exact ⟨e1, e2⟩
def noF6 (F : List Int) : List Dt := [.none, .tuple (lsI F), .list (lsI F ++ [.int 2]), .list ([.bool false] ++ lsI F), .str "0", .list [.list (lsI F)]]
theorem noF6_bad {F : List Int} : ∀ d ∈ noF6 F, figB d = false ∧ noZ d = true := by
  intro d hd
  simp only [noF6, List.mem_cons, List.not_mem_nil, or_false] at hd
  rcases hd with rfl | rfl | rfl | rfl | rfl | rfl
  · exact ⟨rfl, rfl⟩
  · exact ⟨rfl, rfl⟩
  · refine ⟨?_, rfl⟩
    show (decide _ && (lsI F ++ [PyData.int 2]).all (isIn · 0 1)) = false
    rw [List.all_append]
    have : ([PyData.int 2].all (isIn · 0 1)) = false := rfl
    rw [this]
    simp
  · refine ⟨?_, rfl⟩
    show (decide _ && ([PyData.bool false] ++ lsI F).all (isIn · 0 1)) = false
    rw [List.all_append]
    have : ([PyData.bool false].all (isIn · 0 1)) = false := rfl
    rw [this]
    simp
  · exact ⟨rfl, rfl⟩
  · exact ⟨by show (decide ((1 : Nat) ≤ 4000) && (false && true)) = false; rw [Bool.false_and, Bool.and_false], rfl⟩
theorem fig_rep {n : Nat} {x : Int} (h : x = 0 ∨ x = 1) : Bin (List.replicate n x) := fun b hb => by
  rw [(List.mem_replicate.mp hb).2]
  exact h
theorem cut_to {f : List Int} {i j : Nat} : cutD (lsI f) (some (i : Int)) (some ((i : Int) + (j : Int))) = lsI ((f.drop i).take j) := by
  rw [← Int.natCast_add, cut_range, Nat.add_sub_cancel_left]
end DL

namespace DL
open PySem PySem.Spec PyProof.Rows L2 Evl
open He (ga)
local macro_rules | `(tactic| walk_at "side") => `(tactic| first | assumption | omega | decide | (constructor <;> omega) | (simp only [List.length_map, List.length_cons, List.length_nil, List.length_range]; omega))
local macro_rules | `(tactic| walk_at "shaped") => `(tactic| first | rfl | assumption | decide)
local macro_rules | `(tactic| walk_at "mul") => `(tactic| first | exact Or.inl ⟨by omega, by omega⟩ | exact Or.inr ⟨by omega, by omega⟩ | decide)
local macro_rules | `(tactic| walk_at "ix") => `(tactic| first | rfl | assumption)
local macro_rules | `(tactic| walk_at "el") => `(tactic| first | rfl | assumption)
local macro_rules | `(tactic| walk_at "bits") => `(tactic| first | assumption | exact ⟨by assumption, by decide⟩)
local macro_rules | `(tactic| walk_at "mulW") => `(tactic| assumption)

def top (i : Nat) : Stmt := PySem.Challenge.pw_partline_k08_readers.main.body.getD i (.Pass ⟨0, 0, 0, 0⟩)
abbrev s_is_among : Stmt := top 12
theorem sc_is_among : FnScope ["thing", "least", "most"] ["thing", "least", "most"] (defScope s_is_among) := ⟨rfl, rfl, rfl, by decide +kernel, rfl, by decide +kernel, by decide +kernel⟩
abbrev s_is_plan : Stmt := top 13
theorem sc_is_plan : FnScope ["thing", "count"] ["thing"] (defScope s_is_plan) := ⟨rfl, rfl, rfl, by decide +kernel, rfl, by decide +kernel, by decide +kernel⟩
abbrev s_need_plan : Stmt := top 14
theorem sc_need_plan : FnScope ["plan"] ["plan"] (defScope s_need_plan) := ⟨rfl, rfl, rfl, by decide +kernel, rfl, by decide +kernel, by decide +kernel⟩
abbrev s_is_sign : Stmt := top 15
theorem sc_is_sign : FnScope ["plan", "thing"] ["plan", "thing"] (defScope s_is_sign) := ⟨rfl, rfl, rfl, by decide +kernel, rfl, by decide +kernel, by decide +kernel⟩
abbrev s_need_sign : Stmt := top 16
theorem sc_need_sign : FnScope ["plan", "sign"] ["plan", "sign"] (defScope s_need_sign) := ⟨rfl, rfl, rfl, by decide +kernel, rfl, by decide +kernel, by decide +kernel⟩
abbrev s_need_signs : Stmt := top 17
theorem sc_need_signs : FnScope ["plan", "signs", "sign"] ["plan", "signs"] (defScope s_need_signs) := ⟨rfl, rfl, rfl, by decide +kernel, rfl, by decide +kernel, by decide +kernel⟩
abbrev s_share_of : Stmt := top 18
theorem sc_share_of : FnScope ["plan", "sign"] ["plan", "sign"] (defScope s_share_of) := ⟨rfl, rfl, rfl, by decide +kernel, rfl, by decide +kernel, by decide +kernel⟩
abbrev s_plan_behind : Stmt := top 19
theorem sc_plan_behind : FnScope ["plan", "sign", "counts"] ["plan", "sign"] (defScope s_plan_behind) := ⟨rfl, rfl, rfl, by decide +kernel, rfl, by decide +kernel, by decide +kernel⟩
abbrev s_parted : Stmt := top 23
theorem sc_parted : FnScope ["stretch", "one", "low", "wide", "total"] ["stretch", "one"] (defScope s_parted) := ⟨rfl, rfl, rfl, by decide +kernel, rfl, by decide +kernel, by decide +kernel⟩
abbrev s_within : Stmt := top 24
theorem sc_within : FnScope ["one", "other"] ["one", "other"] (defScope s_within) := ⟨rfl, rfl, rfl, by decide +kernel, rfl, by decide +kernel, by decide +kernel⟩
abbrev s_stretch_of : Stmt := top 25
theorem sc_stretch_of : FnScope ["plan", "signs", "found", "sign"] ["plan", "signs"] (defScope s_stretch_of) := ⟨rfl, rfl, rfl, by decide +kernel, rfl, by decide +kernel, by decide +kernel⟩
abbrev s__law_cell_at : Stmt := top 39
theorem sc__law_cell_at : FnScope ["_law_script", "_law_k"] ["_law_script", "_law_k"] (defScope s__law_cell_at) := ⟨rfl, rfl, rfl, by decide +kernel, rfl, by decide +kernel, by decide +kernel⟩
abbrev s__law_mixed : Stmt := top 40
theorem sc__law_mixed : FnScope ["_law_cell", "_law_k"] ["_law_cell", "_law_k"] (defScope s__law_mixed) := ⟨rfl, rfl, rfl, by decide +kernel, rfl, by decide +kernel, by decide +kernel⟩
abbrev s__law_plan : Stmt := top 42
theorem sc__law_plan : FnScope ["_law_cell", "_law_most", "_law_counts", "_law_k"] ["_law_cell"] (defScope s__law_plan) := ⟨rfl, rfl, rfl, by decide +kernel, rfl, by decide +kernel, by decide +kernel⟩
abbrev s_by_twos : Stmt := top 35
theorem sc_by_twos : FnScope ["number", "many", "found", "turn"] ["number", "many"] (defScope s_by_twos) := ⟨rfl, rfl, rfl, by decide +kernel, rfl, by decide +kernel, by decide +kernel⟩
abbrev s_figures_in : Stmt := top 36
theorem sc_figures_in : FnScope ["stretch", "low", "wide", "total", "many", "whole", "number"] ["stretch"] (defScope s_figures_in) := ⟨rfl, rfl, rfl, by decide +kernel, rfl, by decide +kernel, by decide +kernel⟩
abbrev s_pressed : Stmt := top 37
theorem sc_pressed : FnScope ["plan", "signs"] ["plan", "signs"] (defScope s_pressed) := ⟨rfl, rfl, rfl, by decide +kernel, rfl, by decide +kernel, by decide +kernel⟩
abbrev s__law_whole : Stmt := top 41
theorem sc__law_whole : FnScope ["_law_found"] ["_law_found"] (defScope s__law_whole) := ⟨rfl, rfl, rfl, by decide +kernel, rfl, by decide +kernel, by decide +kernel⟩
abbrev s__law_behind : Stmt := top 43
theorem sc__law_behind : FnScope ["_law_plan_here", "_law_sign", "_law_counts"] ["_law_plan_here", "_law_sign"] (defScope s__law_behind) := ⟨rfl, rfl, rfl, by decide +kernel, rfl, by decide +kernel, by decide +kernel⟩
abbrev s__law_signs : Stmt := top 44
theorem sc__law_signs : FnScope ["_law_cell", "_law_plan_here", "_law_most", "_law_size", "_law_way", "_law_signs_here", "_law_k", "_law_sign"] ["_law_cell", "_law_plan_here", "_law_most"] (defScope s__law_signs) := ⟨rfl, rfl, rfl, by decide +kernel, rfl, by decide +kernel, by decide +kernel⟩
abbrev s__law_within : Stmt := top 46
theorem sc__law_within : FnScope ["_law_one", "_law_other", "_law_first", "_law_last"] ["_law_one", "_law_other"] (defScope s__law_within) := ⟨rfl, rfl, rfl, by decide +kernel, rfl, by decide +kernel, by decide +kernel⟩
abbrev s__law_figured : Stmt := top 47
theorem sc__law_figured : FnScope ["_law_figures", "_law_number", "_law_whole_here", "_law_figure"] ["_law_figures"] (defScope s__law_figured) := ⟨rfl, rfl, rfl, by decide +kernel, rfl, by decide +kernel, by decide +kernel⟩
abbrev s_need_figures : Stmt := top 26
theorem sc_need_figures : FnScope ["figures", "figure"] ["figures"] (defScope s_need_figures) := ⟨rfl, rfl, rfl, by decide +kernel, rfl, by decide +kernel, by decide +kernel⟩
abbrev s_longer : Stmt := top 27
theorem sc_longer : FnScope ["stretch", "figure"] ["stretch", "figure"] (defScope s_longer) := ⟨rfl, rfl, rfl, by decide +kernel, rfl, by decide +kernel, by decide +kernel⟩
abbrev s_need_many : Stmt := top 29
theorem sc_need_many : FnScope ["many"] ["many"] (defScope s_need_many) := ⟨rfl, rfl, rfl, by decide +kernel, rfl, by decide +kernel, by decide +kernel⟩
abbrev s_next_sign : Stmt := top 30
theorem sc_next_sign : FnScope ["plan", "stretch", "goal", "sign", "part"] ["plan", "stretch", "goal"] (defScope s_next_sign) := ⟨rfl, rfl, rfl, by decide +kernel, rfl, by decide +kernel, by decide +kernel⟩
abbrev s_signs_by : Stmt := top 31
theorem sc_signs_by : FnScope ["plan", "stretch", "many", "goal", "found", "one"] ["plan", "stretch", "many", "goal"] (defScope s_signs_by) := ⟨rfl, rfl, rfl, by decide +kernel, rfl, by decide +kernel, by decide +kernel⟩
abbrev s__law_word : Stmt := top 49
theorem sc__law_word : FnScope ["_law_e", "_law_words"] ["_law_e"] (defScope s__law_word) := ⟨rfl, rfl, rfl, by decide +kernel, rfl, by decide +kernel, by decide +kernel⟩
abbrev s__law_no_plan : Stmt := top 50
theorem sc__law_no_plan : FnScope ["_law_plan_here", "_law_cell", "_law_counts", "_law_gain", "_law_far", "_law_at", "_law_bad", "_law_some", "_law_one"] ["_law_plan_here", "_law_cell"] (defScope s__law_no_plan) := ⟨rfl, rfl, rfl, by decide +kernel, rfl, by decide +kernel, by decide +kernel⟩
abbrev s_Reader___init__ : Stmt := inClass (top 33) 0
theorem sc_Reader___init__ : FnScope ["self", "plan", "many"] ["self", "plan", "many"] (defScope s_Reader___init__) := ⟨rfl, rfl, rfl, by decide +kernel, rfl, by decide +kernel, by decide +kernel⟩
abbrev s_Reader_lacking : Stmt := inClass (top 33) 3
theorem sc_Reader_lacking : FnScope ["self"] ["self"] (defScope s_Reader_lacking) := ⟨rfl, rfl, rfl, by decide +kernel, rfl, by decide +kernel, by decide +kernel⟩
abbrev s_Reader_told : Stmt := inClass (top 33) 2
theorem sc_Reader_told : FnScope ["self"] ["self"] (defScope s_Reader_told) := ⟨rfl, rfl, rfl, by decide +kernel, rfl, by decide +kernel, by decide +kernel⟩
abbrev s_Reader_take : Stmt := inClass (top 33) 1
theorem sc_Reader_take : FnScope ["self", "figures", "figure", "found"] ["self", "figures"] (defScope s_Reader_take) := ⟨rfl, rfl, rfl, by decide +kernel, rfl, by decide +kernel, by decide +kernel⟩
abbrev s__law_certain : Stmt := top 48
theorem sc__law_certain : FnScope ["_law_plan_here", "_law_many", "_law_figures", "_law_goal", "_law_signs_here", "_law_now", "_law_total", "_law_parts", "_law_sign", "_law_below", "_law_part"] ["_law_plan_here", "_law_many", "_law_figures"] (defScope s__law_certain) := ⟨rfl, rfl, rfl, by decide +kernel, rfl, by decide +kernel, by decide +kernel⟩
abbrev s__law_refused : Stmt := top 51
theorem sc__law_refused : FnScope ["_law_plan_here", "_law_cell", "_law_no_count", "_law_words", "_law_one", "_law_many", "_law_e"] ["_law_plan_here", "_law_cell"] (defScope s__law_refused) := ⟨rfl, rfl, rfl, by decide +kernel, rfl, by decide +kernel, by decide +kernel⟩
abbrev s__law_edge : Stmt := top 52
theorem sc__law_edge : FnScope ["_law_plan_here", "_law_figure", "_law_reader", "_law_many", "_law_e"] ["_law_plan_here", "_law_figure"] (defScope s__law_edge) := ⟨rfl, rfl, rfl, by decide +kernel, rfl, by decide +kernel, by decide +kernel⟩
abbrev s__law_made : Stmt := top 53
theorem sc__law_made : FnScope ["_law_script", "_law_k", "_law_plan_here", "_law_signs_here", "_law_many", "_law_reader"] ["_law_script", "_law_k"] (defScope s__law_made) := ⟨rfl, rfl, rfl, by decide +kernel, rfl, by decide +kernel, by decide +kernel⟩
abbrev s__law_lacks : Stmt := top 55
theorem sc__law_lacks : FnScope ["_law_one", "_law_lacking"] ["_law_one"] (defScope s__law_lacks) := ⟨rfl, rfl, rfl, by decide +kernel, rfl, by decide +kernel, by decide +kernel⟩
abbrev s__law_seen : Stmt := top 56
theorem sc__law_seen : FnScope ["_law_one", "_law_shown", "_law_is_turned", "_law_found", "_law_sign"] ["_law_one", "_law_shown", "_law_is_turned"] (defScope s__law_seen) := ⟨rfl, rfl, rfl, by decide +kernel, rfl, by decide +kernel, by decide +kernel⟩
abbrev s__law_take : Stmt := top 54
theorem sc__law_take : FnScope ["_law_one", "_law_cell", "_law_size", "_law_at", "_law_figures", "_law_handed", "_law_found", "_law_e", "_law_due", "_law_k", "_law_sign"] ["_law_one", "_law_cell"] (defScope s__law_take) := ⟨rfl, rfl, rfl, by decide +kernel, rfl, by decide +kernel, by decide +kernel⟩
abbrev s_law : Stmt := top 57
theorem sc_law : FnScope ["_law_script", "_law_both", "_law_cell", "_law_shown", "_law_k", "_law_turn", "_law_found", "_law_copy"] ["_law_script"] (defScope s_law) := ⟨rfl, rfl, rfl, by decide +kernel, rfl, by decide +kernel, by decide +kernel⟩
structure Tx (K : PySem.W.Frag) (mg : Str → Option Value) : Prop where
  d_is_among : ∃ fd, Fun K "is_among" "is_among" s_is_among (ga K "is_among") fd
  g_is_among : mg "is_among" = some (.ref (ga K "is_among"))
  d_is_plan : ∃ fd, Fun K "is_plan" "is_plan" s_is_plan (ga K "is_plan") fd
  g_is_plan : mg "is_plan" = some (.ref (ga K "is_plan"))
  d_need_plan : ∃ fd, Fun K "need_plan" "need_plan" s_need_plan (ga K "need_plan") fd
  g_need_plan : mg "need_plan" = some (.ref (ga K "need_plan"))
  d_is_sign : ∃ fd, Fun K "is_sign" "is_sign" s_is_sign (ga K "is_sign") fd
  g_is_sign : mg "is_sign" = some (.ref (ga K "is_sign"))
  d_need_sign : ∃ fd, Fun K "need_sign" "need_sign" s_need_sign (ga K "need_sign") fd
  g_need_sign : mg "need_sign" = some (.ref (ga K "need_sign"))
  d_need_signs : ∃ fd, Fun K "need_signs" "need_signs" s_need_signs (ga K "need_signs") fd
  g_need_signs : mg "need_signs" = some (.ref (ga K "need_signs"))
  d_share_of : ∃ fd, Fun K "share_of" "share_of" s_share_of (ga K "share_of") fd
  g_share_of : mg "share_of" = some (.ref (ga K "share_of"))
  d_plan_behind : ∃ fd, Fun K "plan_behind" "plan_behind" s_plan_behind (ga K "plan_behind") fd
  g_plan_behind : mg "plan_behind" = some (.ref (ga K "plan_behind"))
  d_parted : ∃ fd, Fun K "parted" "parted" s_parted (ga K "parted") fd
  g_parted : mg "parted" = some (.ref (ga K "parted"))
  d_within : ∃ fd, Fun K "within" "within" s_within (ga K "within") fd
  g_within : mg "within" = some (.ref (ga K "within"))
  d_stretch_of : ∃ fd, Fun K "stretch_of" "stretch_of" s_stretch_of (ga K "stretch_of") fd
  g_stretch_of : mg "stretch_of" = some (.ref (ga K "stretch_of"))
  d__law_cell_at : ∃ fd, Fun K "_law_cell_at" "_law_cell_at" s__law_cell_at (ga K "_law_cell_at") fd
  g__law_cell_at : mg "_law_cell_at" = some (.ref (ga K "_law_cell_at"))
  d__law_mixed : ∃ fd, Fun K "_law_mixed" "_law_mixed" s__law_mixed (ga K "_law_mixed") fd
  g__law_mixed : mg "_law_mixed" = some (.ref (ga K "_law_mixed"))
  d__law_plan : ∃ fd, Fun K "_law_plan" "_law_plan" s__law_plan (ga K "_law_plan") fd
  g__law_plan : mg "_law_plan" = some (.ref (ga K "_law_plan"))
  d_by_twos : ∃ fd, Fun K "by_twos" "by_twos" s_by_twos (ga K "by_twos") fd
  g_by_twos : mg "by_twos" = some (.ref (ga K "by_twos"))
  d_figures_in : ∃ fd, Fun K "figures_in" "figures_in" s_figures_in (ga K "figures_in") fd
  g_figures_in : mg "figures_in" = some (.ref (ga K "figures_in"))
  d_pressed : ∃ fd, Fun K "pressed" "pressed" s_pressed (ga K "pressed") fd
  g_pressed : mg "pressed" = some (.ref (ga K "pressed"))
  d__law_whole : ∃ fd, Fun K "_law_whole" "_law_whole" s__law_whole (ga K "_law_whole") fd
  g__law_whole : mg "_law_whole" = some (.ref (ga K "_law_whole"))
  d__law_behind : ∃ fd, Fun K "_law_behind" "_law_behind" s__law_behind (ga K "_law_behind") fd
  g__law_behind : mg "_law_behind" = some (.ref (ga K "_law_behind"))
  d__law_signs : ∃ fd, Fun K "_law_signs" "_law_signs" s__law_signs (ga K "_law_signs") fd
  g__law_signs : mg "_law_signs" = some (.ref (ga K "_law_signs"))
  d__law_within : ∃ fd, Fun K "_law_within" "_law_within" s__law_within (ga K "_law_within") fd
  g__law_within : mg "_law_within" = some (.ref (ga K "_law_within"))
  d__law_figured : ∃ fd, Fun K "_law_figured" "_law_figured" s__law_figured (ga K "_law_figured") fd
  g__law_figured : mg "_law_figured" = some (.ref (ga K "_law_figured"))
  d_need_figures : ∃ fd, Fun K "need_figures" "need_figures" s_need_figures (ga K "need_figures") fd
  g_need_figures : mg "need_figures" = some (.ref (ga K "need_figures"))
  d_longer : ∃ fd, Fun K "longer" "longer" s_longer (ga K "longer") fd
  g_longer : mg "longer" = some (.ref (ga K "longer"))
  d_need_many : ∃ fd, Fun K "need_many" "need_many" s_need_many (ga K "need_many") fd
  g_need_many : mg "need_many" = some (.ref (ga K "need_many"))
  d_next_sign : ∃ fd, Fun K "next_sign" "next_sign" s_next_sign (ga K "next_sign") fd
  g_next_sign : mg "next_sign" = some (.ref (ga K "next_sign"))
  d_signs_by : ∃ fd, Fun K "signs_by" "signs_by" s_signs_by (ga K "signs_by") fd
  g_signs_by : mg "signs_by" = some (.ref (ga K "signs_by"))
  d__law_word : ∃ fd, Fun K "_law_word" "_law_word" s__law_word (ga K "_law_word") fd
  g__law_word : mg "_law_word" = some (.ref (ga K "_law_word"))
  d__law_no_plan : ∃ fd, Fun K "_law_no_plan" "_law_no_plan" s__law_no_plan (ga K "_law_no_plan") fd
  g__law_no_plan : mg "_law_no_plan" = some (.ref (ga K "_law_no_plan"))
  d_Reader___init__ : ∃ fd, Fun K "__init__" "Reader.__init__" s_Reader___init__ (He.ma K (ga K "Reader") "__init__") fd
  m_Reader___init__ : Meth K (ga K "Reader") "__init__" (He.ma K (ga K "Reader") "__init__")
  d_Reader_lacking : ∃ fd, Fun K "lacking" "Reader.lacking" s_Reader_lacking (He.ma K (ga K "Reader") "lacking") fd
  m_Reader_lacking : Meth K (ga K "Reader") "lacking" (He.ma K (ga K "Reader") "lacking")
  d_Reader_told : ∃ fd, Fun K "told" "Reader.told" s_Reader_told (He.ma K (ga K "Reader") "told") fd
  m_Reader_told : Meth K (ga K "Reader") "told" (He.ma K (ga K "Reader") "told")
  d_Reader_take : ∃ fd, Fun K "take" "Reader.take" s_Reader_take (He.ma K (ga K "Reader") "take") fd
  m_Reader_take : Meth K (ga K "Reader") "take" (He.ma K (ga K "Reader") "take")
  d__law_certain : ∃ fd, Fun K "_law_certain" "_law_certain" s__law_certain (ga K "_law_certain") fd
  g__law_certain : mg "_law_certain" = some (.ref (ga K "_law_certain"))
  d__law_refused : ∃ fd, Fun K "_law_refused" "_law_refused" s__law_refused (ga K "_law_refused") fd
  g__law_refused : mg "_law_refused" = some (.ref (ga K "_law_refused"))
  d__law_edge : ∃ fd, Fun K "_law_edge" "_law_edge" s__law_edge (ga K "_law_edge") fd
  g__law_edge : mg "_law_edge" = some (.ref (ga K "_law_edge"))
  d__law_made : ∃ fd, Fun K "_law_made" "_law_made" s__law_made (ga K "_law_made") fd
  g__law_made : mg "_law_made" = some (.ref (ga K "_law_made"))
  k__law_made : PySem.W.keepIn K (.ref (ga K "_law_made")) = true
  d__law_lacks : ∃ fd, Fun K "_law_lacks" "_law_lacks" s__law_lacks (ga K "_law_lacks") fd
  g__law_lacks : mg "_law_lacks" = some (.ref (ga K "_law_lacks"))
  k__law_lacks : PySem.W.keepIn K (.ref (ga K "_law_lacks")) = true
  d__law_seen : ∃ fd, Fun K "_law_seen" "_law_seen" s__law_seen (ga K "_law_seen") fd
  g__law_seen : mg "_law_seen" = some (.ref (ga K "_law_seen"))
  k__law_seen : PySem.W.keepIn K (.ref (ga K "_law_seen")) = true
  d__law_take : ∃ fd, Fun K "_law_take" "_law_take" s__law_take (ga K "_law_take") fd
  g__law_take : mg "_law_take" = some (.ref (ga K "_law_take"))
  k__law_take : PySem.W.keepIn K (.ref (ga K "_law_take")) = true
  d_law : ∃ fd, Fun K "law" "law" s_law (ga K "law") fd
  g_law : mg "law" = some (.ref (ga K "law"))
  c_Reader : Cls K (ga K "Reader")
  k_Reader : Mk K (ga K "Reader") (He.ma K (ga K "Reader") "__init__")
  g_Reader : mg "Reader" = some (.ref (ga K "Reader"))
  a_Reader_plan : NoAttr K (ga K "Reader") "plan"
  a_Reader_many : NoAttr K (ga K "Reader") "many"
  a_Reader_stretch : NoAttr K (ga K "Reader") "stretch"
  a_Reader_goal : NoAttr K (ga K "Reader") "goal"
  a_Reader_taken : NoAttr K (ga K "Reader") "taken"
  a_Reader_signs : NoAttr K (ga K "Reader") "signs"
  n_len : mg "len" = none
  n_sum : mg "sum" = none
  n_all : mg "all" = none
  n_list : mg "list" = none
  n_tuple : mg "tuple" = none
  n_min : mg "min" = none
  n_int : mg "int" = none
  n_isinstance : mg "isinstance" = none
  n_bool : mg "bool" = none
  n_range : mg "range" = none
  n_ValueError : mg "ValueError" = none
  n_str : mg "str" = none
  i_LEAST_KINDS : ∃ t, mg "LEAST_KINDS" = some (.int 2 t)
  i_MOST_KINDS : ∃ t, mg "MOST_KINDS" = some (.int 8 t)
  i_MOST_SIGNS : ∃ t, mg "MOST_SIGNS" = some (.int 60 t)
  i_MOST_COUNT : ∃ t, mg "MOST_COUNT" = some (.int 1000000 t)
  i_MOST_FIGURES : ∃ t, mg "MOST_FIGURES" = some (.int 4000 t)
  x_PressError : Xc K (ga K "PressError")
  g_PressError : mg "PressError" = some (.ref (ga K "PressError"))
  x_BadPlan : Xc K (ga K "BadPlan")
  g_BadPlan : mg "BadPlan" = some (.ref (ga K "BadPlan"))
  x_BadSign : Xc K (ga K "BadSign")
  g_BadSign : mg "BadSign" = some (.ref (ga K "BadSign"))
  x_BadCount : Xc K (ga K "BadCount")
  g_BadCount : mg "BadCount" = some (.ref (ga K "BadCount"))
  x_BadFigures : Xc K (ga K "BadFigures")
  g_BadFigures : mg "BadFigures" = some (.ref (ga K "BadFigures"))
  x_Ended : Xc K (ga K "Ended")
  g_Ended : mg "Ended" = some (.ref (ga K "Ended"))
  e_BadPlan : ExcC K (ga K "BadPlan")
  q_BadPlan_BadPlan : PySem.W.kitOne K (.ref (ga K "BadPlan")) (.ref (ga K "BadPlan")) = some true
  q_BadPlan_BadSign : PySem.W.kitOne K (.ref (ga K "BadPlan")) (.ref (ga K "BadSign")) = some false
  q_BadPlan_BadCount : PySem.W.kitOne K (.ref (ga K "BadPlan")) (.ref (ga K "BadCount")) = some false
  q_BadPlan_BadFigures : PySem.W.kitOne K (.ref (ga K "BadPlan")) (.ref (ga K "BadFigures")) = some false
  q_BadPlan_Ended : PySem.W.kitOne K (.ref (ga K "BadPlan")) (.ref (ga K "Ended")) = some false
  q_BadPlan : PySem.W.kitOne K (.ref (ga K "BadPlan")) (.type "ValueError") = some true
  m_BadPlan : PySem.W.exmOne K (.ref (ga K "BadPlan")) (.ref (ga K "PressError")) = some true
  e_BadSign : ExcC K (ga K "BadSign")
  q_BadSign_BadPlan : PySem.W.kitOne K (.ref (ga K "BadSign")) (.ref (ga K "BadPlan")) = some false
  q_BadSign_BadSign : PySem.W.kitOne K (.ref (ga K "BadSign")) (.ref (ga K "BadSign")) = some true
  q_BadSign_BadCount : PySem.W.kitOne K (.ref (ga K "BadSign")) (.ref (ga K "BadCount")) = some false
  q_BadSign_BadFigures : PySem.W.kitOne K (.ref (ga K "BadSign")) (.ref (ga K "BadFigures")) = some false
  q_BadSign_Ended : PySem.W.kitOne K (.ref (ga K "BadSign")) (.ref (ga K "Ended")) = some false
  q_BadSign : PySem.W.kitOne K (.ref (ga K "BadSign")) (.type "ValueError") = some true
  m_BadSign : PySem.W.exmOne K (.ref (ga K "BadSign")) (.ref (ga K "PressError")) = some true
  e_BadCount : ExcC K (ga K "BadCount")
  q_BadCount_BadPlan : PySem.W.kitOne K (.ref (ga K "BadCount")) (.ref (ga K "BadPlan")) = some false
  q_BadCount_BadSign : PySem.W.kitOne K (.ref (ga K "BadCount")) (.ref (ga K "BadSign")) = some false
  q_BadCount_BadCount : PySem.W.kitOne K (.ref (ga K "BadCount")) (.ref (ga K "BadCount")) = some true
  q_BadCount_BadFigures : PySem.W.kitOne K (.ref (ga K "BadCount")) (.ref (ga K "BadFigures")) = some false
  q_BadCount_Ended : PySem.W.kitOne K (.ref (ga K "BadCount")) (.ref (ga K "Ended")) = some false
  q_BadCount : PySem.W.kitOne K (.ref (ga K "BadCount")) (.type "ValueError") = some true
  m_BadCount : PySem.W.exmOne K (.ref (ga K "BadCount")) (.ref (ga K "PressError")) = some true
  e_BadFigures : ExcC K (ga K "BadFigures")
  q_BadFigures_BadPlan : PySem.W.kitOne K (.ref (ga K "BadFigures")) (.ref (ga K "BadPlan")) = some false
  q_BadFigures_BadSign : PySem.W.kitOne K (.ref (ga K "BadFigures")) (.ref (ga K "BadSign")) = some false
  q_BadFigures_BadCount : PySem.W.kitOne K (.ref (ga K "BadFigures")) (.ref (ga K "BadCount")) = some false
  q_BadFigures_BadFigures : PySem.W.kitOne K (.ref (ga K "BadFigures")) (.ref (ga K "BadFigures")) = some true
  q_BadFigures_Ended : PySem.W.kitOne K (.ref (ga K "BadFigures")) (.ref (ga K "Ended")) = some false
  q_BadFigures : PySem.W.kitOne K (.ref (ga K "BadFigures")) (.type "ValueError") = some true
  m_BadFigures : PySem.W.exmOne K (.ref (ga K "BadFigures")) (.ref (ga K "PressError")) = some true
  e_Ended : ExcC K (ga K "Ended")
  q_Ended_BadPlan : PySem.W.kitOne K (.ref (ga K "Ended")) (.ref (ga K "BadPlan")) = some false
  q_Ended_BadSign : PySem.W.kitOne K (.ref (ga K "Ended")) (.ref (ga K "BadSign")) = some false
  q_Ended_BadCount : PySem.W.kitOne K (.ref (ga K "Ended")) (.ref (ga K "BadCount")) = some false
  q_Ended_BadFigures : PySem.W.kitOne K (.ref (ga K "Ended")) (.ref (ga K "BadFigures")) = some false
  q_Ended_Ended : PySem.W.kitOne K (.ref (ga K "Ended")) (.ref (ga K "Ended")) = some true
  q_Ended : PySem.W.kitOne K (.ref (ga K "Ended")) (.type "ValueError") = some true
  m_Ended : PySem.W.exmOne K (.ref (ga K "Ended")) (.ref (ga K "PressError")) = some true
  g_WHOLE : mg "WHOLE" = some (.ref (ga K "WHOLE"))
  w_WHOLE : ∀ H, SqT K H (ga K "WHOLE") [.int 0, .int 1, .int 1]
section
variable {P : Program} {w : World} {K : PySem.W.Frag} {mg : Str → Option Value} {base : Heap}
abbrev R_is_among (as : List Dt) (o : Out) : Prop := ∃ d lo hi, as = [d, .int lo, .int hi] ∧ o = .ret (.bool (isIn d lo hi))
theorem ok_is_among (T : Tx K mg) : Fn P w K mg base 1 (ga K "is_among") ["thing", "least", "most"] (R_is_among) := by
  obtain ⟨fd, F⟩ := T.d_is_among
  have nd := sc_is_among.nd
  refine fn_mk F sc_is_among (F.binds fun _ _ _ _ _ _ us hl => match us, hl with | [_, _, _], _ => rfl) (fun as o h => ?_) (fun cdv A outer s H E as o hr h tk hp => ?_)
  · obtain ⟨d, lo, hi, rfl, rfl⟩ := h
    rfl
  · have hu := hr.units
    obtain ⟨d, lo, hi, rfl, rfl⟩ := h
    cases d <;> exact b_one (s_ret (by first | exact x_andF (x_isInt (x_var 0 rfl) (k_int _) T.n_isinstance T.n_int) | exact x_andT (x_isInt (x_var 0 rfl) (k_int _) T.n_isinstance T.n_int) (by first | exact x_andF (x_not (x_isBool (x_var 0 rfl) (k_bool _) T.n_isinstance T.n_bool)) | exact x_andT (x_not (x_isBool (x_var 0 rfl) (k_bool _) T.n_isinstance T.n_bool)) (x_one (x_between (x_var 1 rfl) (x_var 0 rfl) (x_var 2 rfl))))) rfl)
abbrev R_is_plan (as : List Dt) (o : Out) : Prop := ∃ d, as = [d] ∧ o = .ret (.bool (planB d))
theorem ok_is_plan (T : Tx K mg) : Fn P w K mg base 2 (ga K "is_plan") ["thing"] (R_is_plan) := by
  obtain ⟨fd, F⟩ := T.d_is_plan
  have nd := sc_is_plan.nd
  refine fn_mk F sc_is_plan (F.binds fun _ _ _ _ _ _ us hl => match us, hl with | [_], _ => rfl) (fun as o h => ?_) (fun cdv A outer s H E as o hr h tk hp => ?_)
  · obtain ⟨d, rfl, rfl⟩ := h
    rfl
  · have hu := hr.units
    obtain ⟨d, rfl, rfl⟩ := h
    cases d with
    | tuple ds =>
      by_cases h2 : ds.length = 2
      · obtain ⟨a, b, rfl⟩ : ∃ a b, ds = [a, b] := by
          match ds, h2 with
          | [a, b], _ => exact ⟨a, b, rfl⟩
        cases a with
        | tuple cs =>
          by_cases hl : 2 ≤ cs.length ∧ cs.length ≤ 8
          · refine b_skip (XW.xt (by first | exact w_orF (t_not (t_val (x_isTuple (x_var 0 rfl) (k_tup _) T.n_isinstance T.n_tuple))) (by first | exact w_orF (t_ne hu (x_lenT T.n_len (x_var 0 rfl)) x_int (by walk_at "shaped") (by walk_at "shaped")) (w_or1 (t_not (t_val (x_isTuple (x_ixT (x_var 0 rfl) x_int (by walk_at "ix")) (k_tup _) T.n_isinstance T.n_tuple)))) | exact w_orT (t_ne hu (x_lenT T.n_len (x_var 0 rfl)) x_int (by walk_at "shaped") (by walk_at "shaped"))) | exact w_orT (t_not (t_val (x_isTuple (x_var 0 rfl) (k_tup _) T.n_isinstance T.n_tuple))))) (b_skip (t_not (t_between (x_gint T.i_LEAST_KINDS) (x_lenT T.n_len (x_ixT (x_var 0 rfl) x_int (by walk_at "ix"))) (x_gint T.i_MOST_KINDS))) ?_ (by
              have hx : (2 : Int) ≤ (cs.length : Int) ∧ (cs.length : Int) ≤ 8 := by omega
              rw [decide_eq_true hx] <;> rfl))
            by_cases ha : cs.all (isIn · 1 1000000) = true
            · refine b_skip (t_not (t_val (x_allF (isIn · 1 1000000) T.n_all (XL.xd (l_tup0 1 (fun y => .bool (isIn y 1 1000000)) nd (x_ixT (x_var 0 rfl) x_int (by walk_at "ix")) (by omega) (fun y hy => ((x_call (ok_is_among T) T.g_is_among hr (by decide) (a_cons (x_var 1 rfl) (a_cons x_int (a_cons (x_gint T.i_MOST_COUNT) a_nil))) ⟨_, _, _, rfl, rfl⟩).is (by walk_at "el")))))))) (b_one (s_ret (x_call (ok_is_among T) T.g_is_among hr (by decide) (a_cons (x_ixT (x_var 0 rfl) x_int (by walk_at "ix")) (a_cons x_int (a_cons (x_gint T.i_MOST_COUNT) a_nil))) ⟨_, _, _, rfl, rfl⟩) ?_)) (by rw [ha] <;> rfl)
              show Out.ret _ = Out.ret (.bool (decide (2 ≤ cs.length ∧ cs.length ≤ 8) && (cs.all (isIn · 1 1000000) && isIn b 0 1000000)))
              rw [decide_eq_true hl, ha] <;> rfl
            · refine b_yes (t_not (t_val (x_allF (isIn · 1 1000000) T.n_all (XL.xd (l_tup0 1 (fun y => .bool (isIn y 1 1000000)) nd (x_ixT (x_var 0 rfl) x_int (by walk_at "ix")) (by omega) (fun y hy => ((x_call (ok_is_among T) T.g_is_among hr (by decide) (a_cons (x_var 1 rfl) (a_cons x_int (a_cons (x_gint T.i_MOST_COUNT) a_nil))) ⟨_, _, _, rfl, rfl⟩).is (by walk_at "el")))))))) (b_one (s_ret x_bool ?_)) (by rw [Bool.eq_false_iff.mpr ha] <;> rfl)
              show Out.ret _ = Out.ret (.bool (decide (2 ≤ cs.length ∧ cs.length ≤ 8) && (cs.all (isIn · 1 1000000) && isIn b 0 1000000)))
              rw [Bool.eq_false_iff.mpr ha, Bool.false_and, Bool.and_false] <;> rfl
          · refine b_skip (XW.xt (by first | exact w_orF (t_not (t_val (x_isTuple (x_var 0 rfl) (k_tup _) T.n_isinstance T.n_tuple))) (by first | exact w_orF (t_ne hu (x_lenT T.n_len (x_var 0 rfl)) x_int (by walk_at "shaped") (by walk_at "shaped")) (w_or1 (t_not (t_val (x_isTuple (x_ixT (x_var 0 rfl) x_int (by walk_at "ix")) (k_tup _) T.n_isinstance T.n_tuple)))) | exact w_orT (t_ne hu (x_lenT T.n_len (x_var 0 rfl)) x_int (by walk_at "shaped") (by walk_at "shaped"))) | exact w_orT (t_not (t_val (x_isTuple (x_var 0 rfl) (k_tup _) T.n_isinstance T.n_tuple))))) (b_yes (t_not (t_between (x_gint T.i_LEAST_KINDS) (x_lenT T.n_len (x_ixT (x_var 0 rfl) x_int (by walk_at "ix"))) (x_gint T.i_MOST_KINDS))) (b_one (s_ret x_bool ?_)) (by
              have hx : ¬ ((2 : Int) ≤ (cs.length : Int) ∧ (cs.length : Int) ≤ 8) := by omega
              rw [decide_eq_false hx] <;> rfl))
            show Out.ret _ = Out.ret (.bool (decide (2 ≤ cs.length ∧ cs.length ≤ 8) && (cs.all (isIn · 1 1000000) && isIn b 0 1000000)))
            rw [decide_eq_false hl, Bool.false_and] <;> rfl
        | _ => exact b_yes (XW.xt (by first | exact w_orF (t_not (t_val (x_isTuple (x_var 0 rfl) (k_tup _) T.n_isinstance T.n_tuple))) (by first | exact w_orF (t_ne hu (x_lenT T.n_len (x_var 0 rfl)) x_int (by walk_at "shaped") (by walk_at "shaped")) (w_or1 (t_not (t_val (x_isTuple (x_ixT (x_var 0 rfl) x_int (by walk_at "ix")) (k_tup _) T.n_isinstance T.n_tuple)))) | exact w_orT (t_ne hu (x_lenT T.n_len (x_var 0 rfl)) x_int (by walk_at "shaped") (by walk_at "shaped"))) | exact w_orT (t_not (t_val (x_isTuple (x_var 0 rfl) (k_tup _) T.n_isinstance T.n_tuple))))) (b_one (s_ret x_bool rfl))
      · refine b_yes (XW.xt (w_orF (t_not (t_val (x_isTuple (x_var 0 rfl) (k_tup _) T.n_isinstance T.n_tuple))) (w_orT (t_ne hu (x_lenT T.n_len (x_var 0 rfl)) x_int (by walk_at "shaped") (by walk_at "shaped")) (by
          have hx : ¬ ((ds.length : Int) = 2) := by omega
          show (!((ds.length : Int) == 2)) = true
          rw [beq_eq_false_iff_ne.mpr hx] <;> rfl)))) (b_one (s_ret x_bool ?_))
        match ds, h2 with
        | [], _ => rfl
        | [a], _ => cases a <;> rfl
        | a :: b :: c :: r, _ => cases a <;> rfl
    | _ => exact b_yes (XW.xt (by first | exact w_orF (t_not (t_val (x_isTuple (x_var 0 rfl) (k_tup _) T.n_isinstance T.n_tuple))) (by first | exact w_orF (t_ne hu (x_lenT T.n_len (x_var 0 rfl)) x_int (by walk_at "shaped") (by walk_at "shaped")) (w_or1 (t_not (t_val (x_isTuple (x_ixT (x_var 0 rfl) x_int (by walk_at "ix")) (k_tup _) T.n_isinstance T.n_tuple)))) | exact w_orT (t_ne hu (x_lenT T.n_len (x_var 0 rfl)) x_int (by walk_at "shaped") (by walk_at "shaped"))) | exact w_orT (t_not (t_val (x_isTuple (x_var 0 rfl) (k_tup _) T.n_isinstance T.n_tuple))))) (b_one (s_ret x_bool rfl))
abbrev R_need_plan (K : PySem.W.Frag) (as : List Dt) (o : Out) : Prop := ∃ d, as = [d] ∧ o = if planB d = true then .ret .none else .exc (ga K "BadPlan")
theorem ok_need_plan (T : Tx K mg) : Fn P w K mg base 3 (ga K "need_plan") ["plan"] (R_need_plan K) := by
  obtain ⟨fd, F⟩ := T.d_need_plan
  have nd := sc_need_plan.nd
  refine fn_mk F sc_need_plan (F.binds fun _ _ _ _ _ _ us hl => match us, hl with | [_], _ => rfl) (fun as o h => ?_) (fun cdv A outer s H E as o hr h tk hp => ?_)
  · obtain ⟨d, rfl, rfl⟩ := h
    rfl
  · have hu := hr.units
    obtain ⟨d, rfl, rfl⟩ := h
    by_cases hp2 : planB d = true
    · exact b_skip (t_not (t_val (x_call (ok_is_plan T) T.g_is_plan hr (by decide) (a_cons (x_var 0 rfl) a_nil) ⟨_, rfl, rfl⟩))) (b_nil (if_pos hp2)) (by rw [hp2] <;> rfl)
    · exact b_yes (t_not (t_val (x_call (ok_is_plan T) T.g_is_plan hr (by decide) (a_cons (x_var 0 rfl) a_nil) ⟨_, rfl, rfl⟩))) (b_one (s_raise tk T.x_BadPlan T.g_BadPlan (if_neg hp2))) (by rw [Bool.eq_false_iff.mpr hp2] <;> rfl)
abbrev R_is_sign (as : List Dt) (o : Out) : Prop := ∃ cs g d, as = [pd cs g, d] ∧ o = .ret (.bool (isIn d 0 (cs.length - 1)))
theorem ok_is_sign (T : Tx K mg) : Fn P w K mg base 2 (ga K "is_sign") ["plan", "thing"] (R_is_sign) := by
  obtain ⟨fd, F⟩ := T.d_is_sign
  have nd := sc_is_sign.nd
  refine fn_mk F sc_is_sign (F.binds fun _ _ _ _ _ _ us hl => match us, hl with | [_, _], _ => rfl) (fun as o h => ?_) (fun cdv A outer s H E as o hr h tk hp => ?_)
  · obtain ⟨cs, g, d, rfl, rfl⟩ := h
    rfl
  · have hu := hr.units
    obtain ⟨cs, g, d, rfl, rfl⟩ := h
    exact b_one (s_ret (x_call (ok_is_among T) T.g_is_among hr (by decide) (a_cons (x_var 1 rfl) (a_cons x_int (a_cons (x_sub (x_lenT T.n_len (x_ixT (x_var 0 rfl) x_int (by walk_at "ix"))) x_int) a_nil))) ⟨_, _, _, rfl, rfl⟩) (by rw [List.length_map]))
abbrev R_need_sign (K : PySem.W.Frag) (as : List Dt) (o : Out) : Prop := ∃ p d, as = [p, d] ∧ o = if planB p = true then (if signB p d = true then .ret .none else .exc (ga K "BadSign")) else .exc (ga K "BadPlan")
theorem ok_need_sign (T : Tx K mg) : Fn P w K mg base 4 (ga K "need_sign") ["plan", "sign"] (R_need_sign K) := by
  obtain ⟨fd, F⟩ := T.d_need_sign
  have nd := sc_need_sign.nd
  refine fn_mk F sc_need_sign (F.binds fun _ _ _ _ _ _ us hl => match us, hl with | [_, _], _ => rfl) (fun as o h => ?_) (fun cdv A outer s H E as o hr h tk hp => ?_)
  · obtain ⟨p, d, rfl, rfl⟩ := h
    rfl
  · have hu := hr.units
    obtain ⟨p, d, rfl, rfl⟩ := h
    by_cases hp2 : planB p = true
    · obtain ⟨cs, g, rfl, ok⟩ := planB_ok hp2
      refine b_seq _ (s_expr (x_call (ok_need_plan T) T.g_need_plan hr (by decide) (a_cons (x_var 0 rfl) a_nil) (⟨_, rfl, (if_pos hp2).symm⟩)) rfl) ?_
      rw [if_pos hp2, signB_pd]
      by_cases hs : isIn d 0 (cs.length - 1) = true
      · exact b_skip (t_not (t_val (x_call (ok_is_sign T) T.g_is_sign hr (by decide) (a_cons (x_var 0 rfl) (a_cons (x_var 1 rfl) a_nil)) ⟨_, _, _, rfl, rfl⟩))) (b_nil (if_pos hs)) (by rw [hs] <;> rfl)
      · exact b_yes (t_not (t_val (x_call (ok_is_sign T) T.g_is_sign hr (by decide) (a_cons (x_var 0 rfl) (a_cons (x_var 1 rfl) a_nil)) ⟨_, _, _, rfl, rfl⟩))) (b_one (s_raise tk T.x_BadSign T.g_BadSign (if_neg hs))) (by rw [Bool.eq_false_iff.mpr hs] <;> rfl)
    · exact b_stop (s_exprE (c_call tk (ok_need_plan T) T.g_need_plan hr (by decide) (a_cons (x_var 0 rfl) a_nil) ⟨_, rfl, (if_neg hp2).symm⟩) (if_neg hp2))
abbrev R_need_signs (K : PySem.W.Frag) (as : List Dt) (o : Out) : Prop := ∃ p d, as = [p, d] ∧ noZ d = true ∧ o = if planB p = true then (if textB p d = true then .ret .none else .exc (ga K "BadSign")) else .exc (ga K "BadPlan")
theorem ok_need_signs (T : Tx K mg) : Fn P w K mg base 5 (ga K "need_signs") ["plan", "signs"] (R_need_signs K) := by
  obtain ⟨fd, F⟩ := T.d_need_signs
  have nd := sc_need_signs.nd
  refine fn_mk F sc_need_signs (F.binds fun _ _ _ _ _ _ us hl => match us, hl with | [_, _], _ => rfl) (fun as o h => ?_) (fun cdv A outer s H E as o hr h tk hp => ?_)
  · obtain ⟨p, d, rfl, hz, rfl⟩ := h
    rfl
  · have hu := hr.units
    obtain ⟨p, d, rfl, hz, rfl⟩ := h
    by_cases hp2 : planB p = true
    · refine b_seq _ (s_expr (x_call (ok_need_plan T) T.g_need_plan hr (by decide) (a_cons (x_var 0 rfl) a_nil) (⟨_, rfl, (if_pos hp2).symm⟩)) rfl) ?_
      rw [if_pos hp2]
      cases d with
      | list ds =>
        by_cases hl : ds.length ≤ 60
        · refine b_skip (XW.xt (w_or (t_not (t_val (x_isList (x_var 1 rfl) (k_list _) T.n_isinstance T.n_list))) (fun hb => (w_or1 (t_gt (x_lenL T.n_len (x_var 1 rfl)) (x_gint T.i_MOST_SIGNS)))))) ?_ (by
            have hx : ¬ ((60 : Int) < (ds.length : Int)) := by omega
            rw [decide_eq_false hx] <;> rfl)
          have he : textB p (.list ds) = ds.all (signB p) := by
            show (decide (ds.length ≤ 60) && _) = _
            rw [decide_eq_true hl, Bool.true_and]
          rw [he]
          refine b_one (s_forL 2 nd hp (x_var 1 rfl) (fun i en => (∃ z, en = [.d p, .d (.list ds), z]) ∧ (ds.take i).all (signB p) = true) ⟨⟨_, rfl⟩, rfl⟩ ?_ ?_)
          · rintro i y en' hy ⟨⟨z, rfl⟩, hi⟩
            by_cases hs : signB p y = true
            · refine b_one (s_expr (x_call (ok_need_sign T) T.g_need_sign hr (by decide) (a_cons (x_var 0 rfl) (a_cons (x_var 2 rfl) a_nil)) (⟨_, _, rfl, ((if_pos hp2).trans (if_pos hs)).symm⟩)) ⟨⟨_, rfl⟩, ?_⟩)
              rw [List.take_succ, hy, List.all_append, hi]
              show (true && (signB p y && true)) = true
              rw [hs] <;> rfl
            · have hn : ds.all (signB p) = false := by
                rw [List.all_eq_false]
                exact ⟨y, List.mem_of_getElem? hy, hs⟩
              exact b_one (s_exprE (c_call tk (ok_need_sign T) T.g_need_sign hr (by decide) (a_cons (x_var 0 rfl) (a_cons (x_var 2 rfl) a_nil)) ⟨_, _, rfl, ((if_pos hp2).trans (if_neg hs)).symm⟩) (by rw [hn] <;> rfl))
          · rintro en' ⟨_, hi⟩
            rw [List.take_length] at hi
            show (if ds.all (signB p) = true then _ else _) = _
            rw [if_pos hi]
        · refine b_yes (XW.xt (w_or (t_not (t_val (x_isList (x_var 1 rfl) (k_list _) T.n_isinstance T.n_list))) (fun hb => (w_or1 (t_gt (x_lenL T.n_len (x_var 1 rfl)) (x_gint T.i_MOST_SIGNS)))))) (b_one (s_raise tk T.x_BadSign T.g_BadSign ?_)) (by
            have hx : (60 : Int) < (ds.length : Int) := by omega
            rw [decide_eq_true hx] <;> rfl)
          have he : textB p (.list ds) = false := by
            show (decide (ds.length ≤ 60) && _) = _
            rw [decide_eq_false hl, Bool.false_and]
          rw [he] <;> rfl
      | dict kvs => cases hz
      | _ => exact b_yes (XW.xt (by first | exact w_orF (t_not (t_val (x_isList (x_var 1 rfl) (k_list _) T.n_isinstance T.n_list))) (w_or1 (t_gt (x_lenL T.n_len (x_var 1 rfl)) (x_gint T.i_MOST_SIGNS))) | exact w_orT (t_not (t_val (x_isList (x_var 1 rfl) (k_list _) T.n_isinstance T.n_list))))) (b_one (s_raise tk T.x_BadSign T.g_BadSign rfl))
    · exact b_stop (s_exprE (c_call tk (ok_need_plan T) T.g_need_plan hr (by decide) (a_cons (x_var 0 rfl) a_nil) ⟨_, rfl, (if_neg hp2).symm⟩) (if_neg hp2))
abbrev R_share_of (as : List Dt) (o : Out) : Prop := ∃ cs g s, as = [pd cs g, .int s] ∧ 0 ≤ s ∧ s < (cs.length : Int) ∧ o = .ret (shareD cs s)
theorem ok_share_of (T : Tx K mg) : Fn P w K mg base 1 (ga K "share_of") ["plan", "sign"] (R_share_of) := by
  obtain ⟨fd, F⟩ := T.d_share_of
  have nd := sc_share_of.nd
  refine fn_mk F sc_share_of (F.binds fun _ _ _ _ _ _ us hl => match us, hl with | [_, _], _ => rfl) (fun as o h => ?_) (fun cdv A outer s H E as o hr h tk hp => ?_)
  · obtain ⟨cs, g, s0, rfl, h0, h1, rfl⟩ := h
    rfl
  · have hu := hr.units
    obtain ⟨cs, g, s0, rfl, h0, h1, rfl⟩ := h
    exact b_one (s_ret (x_tup (a_cons (x_sumT T.n_sum ((x_sliceT (x_ixT (x_var 0 rfl) x_int (by walk_at "ix")) o_none (o_some (x_var 1 rfl))).is (cut_take h0 h1))) (a_cons (x_ixT (x_ixT (x_var 0 rfl) x_int (by walk_at "ix")) (x_var 1 rfl) (at_ints h0 h1)) (a_cons (x_sumT T.n_sum ((x_ixT (x_var 0 rfl) x_int (by walk_at "ix")).is rfl)) a_nil)))) rfl)
abbrev R_plan_behind (as : List Dt) (o : Out) : Prop := ∃ cs g s, as = [pd cs g, .int s] ∧ 0 ≤ s ∧ s < (cs.length : Int) ∧ o = .ret (pd (bump cs g s) g)
theorem ok_plan_behind (T : Tx K mg) : Fn P w K mg base 1 (ga K "plan_behind") ["plan", "sign"] (R_plan_behind) := by
  obtain ⟨fd, F⟩ := T.d_plan_behind
  have nd := sc_plan_behind.nd
  refine fn_mk F sc_plan_behind (F.binds fun _ _ _ _ _ _ us hl => match us, hl with | [_, _], _ => rfl) (fun as o h => ?_) (fun cdv A outer s H E as o hr h tk hp => ?_)
  · obtain ⟨cs, g, s0, rfl, h0, h1, rfl⟩ := h
    rfl
  · have hu := hr.units
    obtain ⟨cs, g, s0, rfl, h0, h1, rfl⟩ := h
    refine b_seq _ (s_setN 2 nd (n_listT T.n_list (x_ixT (x_var 0 rfl) x_int (by walk_at "ix"))) rfl) (b_seq _ (s_setItem 2 (y := "counts") rfl (x_view (x_min T.n_min (x_gint T.i_MOST_COUNT) (x_add (x_ixL (x_var 2 rfl) (x_var 1 rfl) (at_ints h0 h1)) (x_ixT (x_var 0 rfl) x_int (by walk_at "ix"))))) (x_var 1 rfl) (ix_ints h0 h1) rfl rfl (fun _ => .inl rfl) (by decide) (by decide) (fun _ => ps_asg (uE_ok ()) (pg_sub (pv 2) (uE_ok ()) set_list))) (XB.view (b_one (s_ret (x_tup (a_cons (x_tupleL T.n_tuple (x_var 2 rfl)) (a_cons (x_ixT (x_var 0 rfl) x_int (by walk_at "ix")) a_nil))) ?_))))
    show Out.ret (.tuple [.tuple ((lsI cs).set s0.toNat (.int (min 1000000 (cnt cs s0 + g)))), .int g]) = _
    rw [set_ints] <;> rfl
abbrev R_parted (as : List Dt) (o : Out) : Prop := ∃ (z : Str3) (b c t : Int) (n : Nat), as = [z.d, sd b c t] ∧ (Bits n z ∧ n ≤ 9000) ∧ b.natAbs < 2 ^ 64 ∧ c.natAbs < 2 ^ 64 ∧ t.natAbs < 2 ^ 64 ∧ o = .ret (part3 z b c t).d
theorem ok_parted (T : Tx K mg) : Fn P w K mg base 1 (ga K "parted") ["stretch", "one"] (R_parted) := by
  obtain ⟨fd, F⟩ := T.d_parted
  have nd := sc_parted.nd
  refine fn_mk F sc_parted (F.binds fun _ _ _ _ _ _ us hl => match us, hl with | [_, _], _ => rfl) (fun as o h => ?_) (fun cdv A outer s H E as o hr h tk hp => ?_)
  · obtain ⟨z, b, c, t, n, rfl, ⟨hz, hn⟩, hb, hc, ht, rfl⟩ := h
    rfl
  · have hu := hr.units
    obtain ⟨z, b, c, t, n, rfl, ⟨hz, hn⟩, hb, hc, ht, rfl⟩ := h
    have m1 : ∀ {x y : Int}, x.natAbs < 2 ^ n → y.natAbs < 2 ^ 64 → CMulW x y := fun h1 h2 => wide_mulN h1 h2 (by omega)
    exact b_seq _ (s_unp3 2 3 4 (d1 := .int z.l) (d2 := .int z.w) (d3 := .int z.a) (x_var 0 rfl) (fun _ _ h => ps_asg h (pg_tup rfl (pgs_cons (pg_name nd rfl (Or.inl rfl)) (pgs_cons (pg_name nd rfl (Or.inl rfl)) (pgs_cons (pg_name nd rfl (Or.inl rfl)) pgs_nil))))) rfl) (b_one (s_ret (x_tup (a_cons (x_add (x_mulW (x_var 2 rfl) (x_ixT (x_var 1 rfl) x_int (by walk_at "ix")) (m1 hz.l ht)) (x_mulW (x_var 3 rfl) (x_ixT (x_var 1 rfl) x_int (by walk_at "ix")) (m1 hz.w hb))) (a_cons (x_mulW (x_var 3 rfl) (x_ixT (x_var 1 rfl) x_int (by walk_at "ix")) (m1 hz.w hc)) (a_cons (x_mulW (x_var 4 rfl) (x_ixT (x_var 1 rfl) x_int (by walk_at "ix")) (m1 hz.a ht)) a_nil)))) rfl))
abbrev R_within (as : List Dt) (o : Out) : Prop := ∃ (x y : Str3) (n : Nat), as = [x.d, y.d] ∧ (Bits n x ∧ n ≤ 9000) ∧ (Bits n y ∧ n ≤ 9000) ∧ o = .ret (.bool (in3 x y))
theorem ok_within (T : Tx K mg) : Fn P w K mg base 1 (ga K "within") ["one", "other"] (R_within) := by
  obtain ⟨fd, F⟩ := T.d_within
  have nd := sc_within.nd
  refine fn_mk F sc_within (F.binds fun _ _ _ _ _ _ us hl => match us, hl with | [_, _], _ => rfl) (fun as o h => ?_) (fun cdv A outer s H E as o hr h tk hp => ?_)
  · obtain ⟨x, y, n, rfl, ⟨hx, hn⟩, ⟨hy, _⟩, rfl⟩ := h
    rfl
  · have hu := hr.units
    obtain ⟨x, y, n, rfl, ⟨hx, hn⟩, ⟨hy, _⟩, rfl⟩ := h
    have m1 : ∀ {x y : Int}, x.natAbs < 2 ^ (n + 1) → y.natAbs < 2 ^ n → CMulW x y := fun h1 h2 => wide_mulN h1 h2 (by omega)
    have up : ∀ {x : Int}, x.natAbs < 2 ^ n → x.natAbs < 2 ^ (n + 1) := fun h => by
      rw [Nat.pow_succ]
      omega
    have ad : ∀ {x y : Int}, x.natAbs < 2 ^ n → y.natAbs < 2 ^ n → (x + y).natAbs < 2 ^ (n + 1) := fun h1 h2 => by
      rw [Nat.pow_succ]
      omega
    by_cases h1 : x.l * y.a < y.l * x.a
    · refine b_yes (t_lt (x_mulW (x_ixT (x_var 0 rfl) x_int (by walk_at "ix")) (x_ixT (x_var 1 rfl) x_int (by walk_at "ix")) (m1 (up hx.l) hy.a)) (x_mulW (x_ixT (x_var 1 rfl) x_int (by walk_at "ix")) (x_ixT (x_var 0 rfl) x_int (by walk_at "ix")) (m1 (up hy.l) hx.a))) (b_one (s_ret x_bool ?_)) (decide_eq_true h1)
      show Out.ret (.bool false) = .ret (.bool (decide _))
      rw [decide_eq_false (fun z => absurd z.1 (by omega))]
    · refine b_skip (t_lt (x_mulW (x_ixT (x_var 0 rfl) x_int (by walk_at "ix")) (x_ixT (x_var 1 rfl) x_int (by walk_at "ix")) (m1 (up hx.l) hy.a)) (x_mulW (x_ixT (x_var 1 rfl) x_int (by walk_at "ix")) (x_ixT (x_var 0 rfl) x_int (by walk_at "ix")) (m1 (up hy.l) hx.a))) (b_one (s_ret (x_le (x_mulW (x_add (x_ixT (x_var 0 rfl) x_int (by walk_at "ix")) (x_ixT (x_var 0 rfl) x_int (by walk_at "ix"))) (x_ixT (x_var 1 rfl) x_int (by walk_at "ix")) (m1 (ad hx.l hx.w) hy.a)) (x_mulW (x_add (x_ixT (x_var 1 rfl) x_int (by walk_at "ix")) (x_ixT (x_var 1 rfl) x_int (by walk_at "ix"))) (x_ixT (x_var 0 rfl) x_int (by walk_at "ix")) (m1 (ad hy.l hy.w) hx.a))) ?_)) (decide_eq_false h1)
      have h2 : y.l * x.a ≤ x.l * y.a := by omega
      show Out.ret (.bool (decide _)) = .ret (.bool (decide _))
      congr 2
      simp only [h2, true_and]
abbrev R_stretch_of (K : PySem.W.Frag) (as : List Dt) (o : Out) : Prop := ∃ p d, as = [p, d] ∧ noZ d = true ∧ ((planB p = false ∧ o = .exc (ga K "BadPlan")) ∨ (planB p = true ∧ textB p d = false ∧ o = .exc (ga K "BadSign")) ∨ ∃ cs g ss, p = pd cs g ∧ d = .list (lsI ss) ∧ PlanOk cs g ∧ SignsOk cs ss ∧ ss.length ≤ 60 ∧ o = .ret (run cs g ss).s.d)
theorem ok_stretch_of (T : Tx K mg) : Fn P w K mg base 6 (ga K "stretch_of") ["plan", "signs"] (R_stretch_of K) := by
  obtain ⟨fd, F⟩ := T.d_stretch_of
  have nd := sc_stretch_of.nd
  refine fn_mk F sc_stretch_of (F.binds fun _ _ _ _ _ _ us hl => match us, hl with | [_, _], _ => rfl) (fun as o h => ?_) (fun cdv A outer s H E as o hr h tk hp => ?_)
  · obtain ⟨p, d, rfl, hz, h⟩ := h
    rfl
  · have hu := hr.units
    obtain ⟨p, d, rfl, hz, h⟩ := h
    rcases h with ⟨h1, rfl⟩ | ⟨h1, h2, rfl⟩ | ⟨cs, g, ss, rfl, rfl, ok, hs, hl, rfl⟩
    · exact b_stop (s_exprE (c_call tk (ok_need_signs T) T.g_need_signs hr (by decide) (a_cons (x_var 0 rfl) (a_cons (x_var 1 rfl) a_nil)) ⟨_, _, rfl, hz, by rw [if_neg (by rw [h1]; decide)]⟩) rfl)
    · exact b_stop (s_exprE (c_call tk (ok_need_signs T) T.g_need_signs hr (by decide) (a_cons (x_var 0 rfl) (a_cons (x_var 1 rfl) a_nil)) ⟨_, _, rfl, hz, by rw [if_pos h1, if_neg (by rw [h2]; decide)]⟩) rfl)
    · refine b_seq _ (s_expr (x_call (ok_need_signs T) T.g_need_signs hr (by decide) (a_cons (x_var 0 rfl) (a_cons (x_var 1 rfl) a_nil)) (⟨_, _, rfl, rfl, by rw [if_pos (planB_pd ok), if_pos (textB_pd hs hl)]⟩)) rfl) (b_seq _ (s_set 2 nd (x_gtup T.g_WHOLE T.w_WHOLE (fun _ => .cons (.int _) (.cons (.int _) (.cons (.int _) .nil)))) rfl) (b_cons (fun en => ∃ z1 z2 z3, en = [z1, z2, .d (run cs g ss).s.d, z3]) ?_ ?_))
      · refine s_forL 3 nd hp (x_var 1 rfl) (fun i en => ∃ z, en = [.d (pd (run cs g (ss.take i)).cs g), .d (.list (lsI ss)), .d (run cs g (ss.take i)).s.d, z]) ⟨_, rfl⟩ ?_ ?_
        · rintro i y en' hy ⟨z, rfl⟩
          obtain ⟨x, hx, rfl⟩ := ints_get hy
          obtain ⟨h0, h1⟩ := hs x (List.mem_of_getElem? hx)
          have hi : i < ss.length := (List.getElem?_eq_some_iff.mp hx).1
          obtain ⟨r1, r2⟩ := run_ok ok i (ss.take i) (by rw [List.length_take]; omega) (signs_take hs)
          have h2 : x < ((run cs g (ss.take i)).cs.length : Int) := by rw [run_len]; exact h1
          have sh := share_ok r2 h0 h2
          have bt := r1.bits (by omega)
          refine b_seq _ (s_set 2 nd (x_call (ok_parted T) T.g_parted hr (by decide) (a_cons (x_var 2 rfl) (a_cons (x_call (ok_share_of T) T.g_share_of hr (by decide) (a_cons (x_var 0 rfl) (a_cons (x_var 3 rfl) a_nil)) (⟨_, _, _, rfl, h0, h2, rfl⟩)) a_nil)) (⟨_, _, _, _, 1400, rfl, ⟨bt, by decide⟩, sh.bb, sh.bc, sh.bt, rfl⟩)) rfl) (b_one (s_set 0 nd (x_call (ok_plan_behind T) T.g_plan_behind hr (by decide) (a_cons (x_var 0 rfl) (a_cons (x_var 3 rfl) a_nil)) (⟨_, _, _, rfl, h0, h2, rfl⟩)) ?_))
          refine ⟨.d (.int x), ?_⟩
          rw [take_snoc hx, run_snoc]
          rfl
        · rintro en' ⟨z, rfl⟩
          rw [List.length_map, List.take_length]
          exact ⟨_, _, _, rfl⟩
      · rintro en' ⟨z1, z2, z3, rfl⟩
        exact b_one (s_ret (x_var 2 rfl) rfl)
abbrev R__law_cell_at (as : List Dt) (o : Out) : Prop := ∃ ns k, as = [fz (lsI ns), .int k] ∧ 0 ≤ k ∧ o = .ret (.int (cellAt ns k))
theorem ok__law_cell_at (T : Tx K mg) : Fn P w K mg base 1 (ga K "_law_cell_at") ["_law_script", "_law_k"] (R__law_cell_at) := by
  obtain ⟨fd, F⟩ := T.d__law_cell_at
  have nd := sc__law_cell_at.nd
  refine fn_mk F sc__law_cell_at (F.binds fun _ _ _ _ _ _ us hl => match us, hl with | [_, _], _ => rfl) (fun as o h => ?_) (fun cdv A outer s H E as o hr h tk hp => ?_)
  · obtain ⟨ns, k, rfl, h0, rfl⟩ := h
    rfl
  · have hu := hr.units
    obtain ⟨ns, k, rfl, h0, rfl⟩ := h
    by_cases hk : k < (ns.length : Int)
    · refine b_yes (t_lt (x_var 1 rfl) (x_lenZ T.n_len (x_var 0 rfl))) (b_one (s_ret (x_add (x_ixZ (x_var 0 rfl) (x_var 1 rfl) (at_ints h0 hk)) (x_mul (x_mod (x_ixZ (x_var 0 rfl) (x_var 1 rfl) (at_ints h0 hk)) x_int (by walk_at "side")) x_int (by walk_at "mul"))) rfl)) (by rw [List.length_map, decide_eq_true hk])
    · refine b_skip (t_lt (x_var 1 rfl) (x_lenZ T.n_len (x_var 0 rfl))) (b_one (s_ret x_int ?_)) (by rw [List.length_map, decide_eq_false hk])
      rw [cellAt_out (by omega)]
abbrev R__law_mixed (as : List Dt) (o : Out) : Prop := ∃ c k, as = [.int c, .int k] ∧ (0 ≤ k ∧ k ≤ 100000) ∧ o = .ret (.int (mixed c k))
theorem ok__law_mixed (T : Tx K mg) : Fn P w K mg base 1 (ga K "_law_mixed") ["_law_cell", "_law_k"] (R__law_mixed) := by
  obtain ⟨fd, F⟩ := T.d__law_mixed
  have nd := sc__law_mixed.nd
  refine fn_mk F sc__law_mixed (F.binds fun _ _ _ _ _ _ us hl => match us, hl with | [_, _], _ => rfl) (fun as o h => ?_) (fun cdv A outer s H E as o hr h tk hp => ?_)
  · obtain ⟨c0, k, rfl, ⟨h0, h1⟩, rfl⟩ := h
    rfl
  · have hu := hr.units
    obtain ⟨c0, k, rfl, ⟨h0, h1⟩, rfl⟩ := h
    have h2 : 0 ≤ 7919 * k * k ∧ 7919 * k * k ≤ 7919 * 100000 * 100000 := ⟨Int.mul_nonneg (by omega) h0, Int.mul_le_mul (by omega) h1 h0 (by omega)⟩
    exact b_one (s_ret (x_mod (x_add (x_add (x_mul (x_var 0 rfl) (x_add (x_add x_int (x_mul (x_mul x_int (x_var 1 rfl) (by walk_at "mul")) (x_var 1 rfl) (by walk_at "mul"))) (x_mul x_int (x_var 1 rfl) (by walk_at "mul"))) (by walk_at "mul")) (x_mul x_int (x_var 1 rfl) (by walk_at "mul"))) x_int) x_int (by walk_at "side")) rfl)
abbrev R__law_plan (as : List Dt) (o : Out) : Prop := ∃ c, as = [.int c] ∧ o = .ret (pd (planC c) (planG c))
theorem ok__law_plan (T : Tx K mg) : Fn P w K mg base 2 (ga K "_law_plan") ["_law_cell"] (R__law_plan) := by
  obtain ⟨fd, F⟩ := T.d__law_plan
  have nd := sc__law_plan.nd
  refine fn_mk F sc__law_plan (F.binds fun _ _ _ _ _ _ us hl => match us, hl with | [_], _ => rfl) (fun as o h => ?_) (fun cdv A outer s H E as o hr h tk hp => ?_)
  · obtain ⟨c0, rfl, rfl⟩ := h
    rfl
  · have hu := hr.units
    obtain ⟨c0, rfl, rfl⟩ := h
    have h7 : 0 ≤ c0 % 7 ∧ c0 % 7 < 7 := ⟨Int.emod_nonneg _ (by decide), Int.emod_lt_of_pos _ (by decide)⟩
    have h4 : 0 ≤ c0 / 7 % 4 ∧ c0 / 7 % 4 < 4 := ⟨Int.emod_nonneg _ (by decide), Int.emod_lt_of_pos _ (by decide)⟩
    have h8 : 0 ≤ c0 / 28 % 4 ∧ c0 / 28 % 4 < 4 := ⟨Int.emod_nonneg _ (by decide), Int.emod_lt_of_pos _ (by decide)⟩
    have hm := planM_pos c0
    refine b_seq _ (s_set 1 nd (x_ixL (XN.xd (n_list (a_cons x_int (a_cons x_int (a_cons x_int (a_cons x_int a_nil)))))) (x_mod (x_div (x_var 0 rfl) x_int (by walk_at "side")) x_int (by walk_at "side")) (planM_at h4.1 h4.2)) rfl) ?_
    refine b_seq _ (s_setL 2 nd (l_range0 3 (fun (y : Nat) => .int (1 + mixed (c0 / 112) (y : Int) % planM c0)) nd (x_add x_int (x_mod (x_var 0 rfl) x_int (by walk_at "side"))) (⟨by omega, by omega⟩) T.n_range (fun y hy => ((x_add x_int (x_mod (x_call (ok__law_mixed T) T.g__law_mixed hr (by decide) (a_cons (x_div (x_var 0 rfl) x_int (by walk_at "side")) (a_cons (x_var 3 rfl) a_nil)) (⟨_, _, rfl, ⟨by omega, by omega⟩, rfl⟩)) (x_var 1 rfl) (hm))).is (by walk_at "el")))) rfl (fun _ => sw_true rfl rfl rfl (by decide +kernel))) ?_
    have el : (List.range (2 + c0 % 7).toNat).map (fun (y : Nat) => PyData.int (1 + mixed (c0 / 112) (y : Int) % planM c0)) = lsI (planC0 c0) := by
      rw [planC0, lsI, List.map_map]
      rfl
    have ln : ((planC0 c0).length : Int) = 2 + c0 % 7 := by rw [planC0_len]; omega
    rw [el]
    have last : ∀ cs : List Int, cs = planC c0 → XB (dc P w K mg base ["_law_cell", "_law_most", "_law_counts", "_law_k"] "_law_plan" (defScope s__law_plan) (ga K "_law_plan") cdv A s) (dv P w "_law_plan" (defScope s__law_plan) (ga K "_law_plan") cdv A outer s H E) (fnW E) ((defBody s__law_plan).drop 3) [.d (.int c0), .d (.int (planM c0)), .own (lsI cs), .no] (fnPo (.ret (pd (planC c0) (planG c0)))) := fun cs e => by
      subst e
      exact XB.view (b_one (s_ret (x_tup (a_cons (x_tupleL T.n_tuple (x_var 2 rfl)) (a_cons (x_ixL (XN.xd (n_list (a_cons x_int (a_cons x_int (a_cons x_int (a_cons (x_mod (x_div (x_var 0 rfl) x_int (by walk_at "side")) x_int (by walk_at "side")) a_nil)))))) (x_mod (x_div (x_var 0 rfl) x_int (by walk_at "side")) x_int (by walk_at "side")) (planG_at h8.1 h8.2)) a_nil))) rfl))
    by_cases h3 : c0 / 28 % 4 = 3
    · have hj : 0 ≤ c0 / 112 % ((planC0 c0).length : Int) ∧ c0 / 112 % ((planC0 c0).length : Int) < ((planC0 c0).length : Int) := ⟨Int.emod_nonneg _ (by omega), Int.emod_lt_of_pos _ (by omega)⟩
      refine b_if (b := true) [.d (.int c0), .d (.int (planM c0)), .own (lsI (planC c0)), .no] (((t_eq hu (x_mod (x_div (x_var 0 rfl) x_int (by walk_at "side")) x_int (by walk_at "side")) x_int (by walk_at "shaped") (by walk_at "shaped"))).is (beq_iff_eq.mpr h3)) (fun _ => b_one (s_setItem 2 (y := "_law_counts") rfl (x_sub x_int (x_mod (x_div (x_var 0 rfl) x_int (by walk_at "side")) x_int (by walk_at "side"))) (x_view (x_mod (x_div (x_var 0 rfl) x_int (by walk_at "side")) (x_lenL T.n_len (x_var 2 rfl)) (by rw [List.length_map]; omega))) (by rw [List.length_map]; exact ixN_nat hj.1 hj.2) ?_ rfl (fun _ => .inl rfl) (by decide) (by decide) (fun _ => ps_asg (uE_ok ()) (pg_sub (pv 2) (uE_ok ()) set_list)))) (fun z => by cases z) (last _ rfl)
      show _ = _
      rw [planC_yes h3, set_ints] <;> rfl
    · exact b_skip (t_eq hu (x_mod (x_div (x_var 0 rfl) x_int (by walk_at "side")) x_int (by walk_at "side")) x_int (by walk_at "shaped") (by walk_at "shaped")) (last _ (planC_no h3).symm) (beq_eq_false_iff_ne.mpr h3)
abbrev R_by_twos (as : List Dt) (o : Out) : Prop := ∃ (x : Int) (n : Nat), as = [.int x, .int (n : Int)] ∧ n ≤ 2000 ∧ o = .new (lsI (twos n x))
theorem ok_by_twos (T : Tx K mg) : Fn P w K mg base 1 (ga K "by_twos") ["number", "many"] (R_by_twos) := by
  obtain ⟨fd, F⟩ := T.d_by_twos
  have nd := sc_by_twos.nd
  refine fn_mk F sc_by_twos (F.binds fun _ _ _ _ _ _ us hl => match us, hl with | [_, _], _ => rfl) (fun as o h => ?_) (fun cdv A outer s H E as o hr h tk hp => ?_)
  · obtain ⟨x, n, rfl, hn, rfl⟩ := h
    rfl
  · have hu := hr.units
    obtain ⟨x, n, rfl, hn, rfl⟩ := h
    refine b_seq _ (s_setN 2 nd (n_list a_nil) rfl) (b_cons (fun en => ∃ z, en = [.d (.int (x / 2 ^ n)), .d (.int n), .own (lsI (twos n x).reverse), z]) ?_ ?_)
    · refine s_forR 3 nd hp (x_var 1 rfl) ⟨by omega, by omega⟩ T.n_range (fun i en => ∃ z, en = [.d (.int (x / 2 ^ i)), .d (.int n), .own (lsI (twos i x).reverse), z]) ⟨Sv.no, ?_⟩ ?_ ?_
      · show _ = [Sv.d (.int (x / 1)), .d (.int n), .own [], _]
        rw [Int.ediv_one] <;> rfl
      · rintro i en' hi ⟨z, rfl⟩
        refine b_seq _ (s_append 2 rfl (x_mod (x_var 0 rfl) x_int (by walk_at "side")) rfl (by rw [List.length_map, List.length_reverse, twos_len]; omega)) (b_one (s_set 0 nd (x_div (x_var 0 rfl) x_int (by walk_at "side")) ⟨.d (.int (i : Int)), ?_⟩))
        rw [half_pow, twos_rev] <;> rfl
      · rintro en' ⟨z, rfl⟩
        exact ⟨z, rfl⟩
    · rintro en' ⟨z, rfl⟩
      refine XB.view (b_one (s_retN (n_rev (x_var 2 rfl)) ?_))
      show Out.new (lsI (twos n x).reverse).reverse = Out.new _
      rw [lsI, ← List.map_reverse, List.reverse_reverse]
abbrev R_figures_in (as : List Dt) (o : Out) : Prop := ∃ s : Str3, as = [s.d] ∧ Fine s ∧ o = .new (lsI (figs s))
theorem ok_figures_in (T : Tx K mg) : Fn P w K mg base 2 (ga K "figures_in") ["stretch"] (R_figures_in) := by
  obtain ⟨fd, F⟩ := T.d_figures_in
  have nd := sc_figures_in.nd
  refine fn_mk F sc_figures_in (F.binds fun _ _ _ _ _ _ us hl => match us, hl with | [_], _ => rfl) (fun as o h => ?_) (fun cdv A outer s H E as o hr h tk hp => ?_)
  · obtain ⟨s3, rfl, fs, rfl⟩ := h
    rfl
  · have hu := hr.units
    obtain ⟨s3, rfl, fs, rfl⟩ := h
    have fb := fs.bits
    have fl := few_le fs
    refine b_seq _ (s_unp3 1 2 3 (d1 := .int s3.l) (d2 := .int s3.w) (d3 := .int s3.a) (x_var 0 rfl) (fun _ _ h => ps_asg h (pg_tup rfl (pgs_cons (pg_name nd rfl (Or.inl rfl)) (pgs_cons (pg_name nd rfl (Or.inl rfl)) (pgs_cons (pg_name nd rfl (Or.inl rfl)) pgs_nil))))) rfl) (b_seq _ (s_set 4 nd x_int rfl) (b_seq _ (s_set 5 nd x_int rfl) (b_one (s_while hp (fun m en => ∃ (k : Nat) (z : Sv), m + k = 1500 ∧ k ≤ few s3 ∧ en = [.d s3.d, .d (.int s3.l), .d (.int s3.w), .d (.int s3.a), .d (.int (k : Int)), .d (.int (2 ^ k)), z]) ⟨1500, 0, _, rfl, by omega, rfl⟩ ?_))))
    rintro m en' ⟨k, z, hm, hk, rfl⟩
    have k1 : k ≤ 1401 := by omega
    have nb := num_bits fs k1
    have tb := two_bits (Nat.lt_succ_of_le k1)
    refine ⟨true, (t_val x_bool), fun _ => ?_, fun z => by cases z⟩
    refine b_seq _ (s_set 6 nd (x_neg (x_divW (x_mulW (x_neg (x_var 1 rfl)) (x_var 5 rfl) (wide_mulN (neg_bits fb.l) tb (by decide))) (x_var 3 rfl) (wide_div fs.real.a fb.a (by decide) (by decide)))) rfl) ?_
    rcases few_step fs hk with ⟨ok, e⟩ | ⟨no, e⟩
    · refine b_yes (t_le (x_mulW (x_add (x_var 6 rfl) x_int) (x_var 3 rfl) (wide_mulN nb fb.a (by decide))) (x_mulW (x_add (x_var 1 rfl) (x_var 2 rfl)) (x_var 5 rfl) (wide_mulN (add_bits fb.l fb.w) tb (by decide)))) (b_one (s_retN (n_call (ok_by_twos T) T.g_by_twos hr (by decide) (a_cons (x_var 6 rfl) (a_cons (x_var 4 rfl) a_nil)) (⟨numAt s3 k, k, rfl, by omega, rfl⟩)) ?_)) ok
      show Out.new _ = Out.new _
      rw [figs, ← e]
    · refine b_skip (t_le (x_mulW (x_add (x_var 6 rfl) x_int) (x_var 3 rfl) (wide_mulN nb fb.a (by decide))) (x_mulW (x_add (x_var 1 rfl) (x_var 2 rfl)) (x_var 5 rfl) (wide_mulN (add_bits fb.l fb.w) tb (by decide)))) (b_seq _ (s_set 4 nd (x_add (x_var 4 rfl) x_int) rfl) (b_one (s_set 5 nd (x_mulW x_int (x_var 5 rfl) (wide_mulN (a := 2) (by decide) tb (by decide))) ⟨m - 1, by omega, k + 1, .d (.int (numAt s3 k)), by omega, e, ?_⟩))) no
      rw [two_succ] <;> rfl
abbrev R_pressed (K : PySem.W.Frag) (as : List Dt) (o : Out) : Prop := ∃ p d, as = [p, d] ∧ noZ d = true ∧ ((planB p = false ∧ o = .exc (ga K "BadPlan")) ∨ (planB p = true ∧ textB p d = false ∧ o = .exc (ga K "BadSign")) ∨ ∃ cs g ss, p = pd cs g ∧ d = .list (lsI ss) ∧ PlanOk cs g ∧ SignsOk cs ss ∧ ss.length ≤ 60 ∧ o = .new (lsI (figs (run cs g ss).s)))
theorem ok_pressed (T : Tx K mg) : Fn P w K mg base 7 (ga K "pressed") ["plan", "signs"] (R_pressed K) := by
  obtain ⟨fd, F⟩ := T.d_pressed
  have nd := sc_pressed.nd
  refine fn_mk F sc_pressed (F.binds fun _ _ _ _ _ _ us hl => match us, hl with | [_, _], _ => rfl) (fun as o h => ?_) (fun cdv A outer s H E as o hr h tk hp => ?_)
  · obtain ⟨p, d, rfl, hz, h⟩ := h
    rfl
  · have hu := hr.units
    obtain ⟨p, d, rfl, hz, h⟩ := h
    rcases h with ⟨h1, rfl⟩ | ⟨h1, h2, rfl⟩ | ⟨cs, g, ss, rfl, rfl, ok, hs, hl, rfl⟩
    · exact b_one (s_retE (e_call (ok_figures_in T) T.g_figures_in hr (by decide) (ae_here (c_call tk (ok_stretch_of T) T.g_stretch_of hr (by decide) (a_cons (x_var 0 rfl) (a_cons (x_var 1 rfl) a_nil)) ⟨_, _, rfl, hz, .inl ⟨h1, rfl⟩⟩))) rfl)
    · exact b_one (s_retE (e_call (ok_figures_in T) T.g_figures_in hr (by decide) (ae_here (c_call tk (ok_stretch_of T) T.g_stretch_of hr (by decide) (a_cons (x_var 0 rfl) (a_cons (x_var 1 rfl) a_nil)) ⟨_, _, rfl, hz, .inr (.inl ⟨h1, h2, rfl⟩)⟩))) rfl)
    · have fs := ((run_ok ok _ ss rfl hs).1).fine hl
      exact b_one (s_retN (n_call (ok_figures_in T) T.g_figures_in hr (by decide) (a_cons (x_call (ok_stretch_of T) T.g_stretch_of hr (by decide) (a_cons (x_var 0 rfl) (a_cons (x_var 1 rfl) a_nil)) (⟨_, _, rfl, rfl, .inr (.inr ⟨_, _, _, rfl, rfl, ok, hs, hl, rfl⟩)⟩)) a_nil) (⟨_, rfl, fs, rfl⟩)) rfl)
abbrev R__law_whole (as : List Dt) (o : Out) : Prop := ∃ d, as = [d] ∧ o = .ret (.bool (wholeD d))
theorem ok__law_whole (T : Tx K mg) : Fn P w K mg base 1 (ga K "_law_whole") ["_law_found"] (R__law_whole) := by
  obtain ⟨fd, F⟩ := T.d__law_whole
  have nd := sc__law_whole.nd
  refine fn_mk F sc__law_whole (F.binds fun _ _ _ _ _ _ us hl => match us, hl with | [_], _ => rfl) (fun as o h => ?_) (fun cdv A outer s H E as o hr h tk hp => ?_)
  · obtain ⟨d, rfl, rfl⟩ := h
    rfl
  · have hu := hr.units
    obtain ⟨d, rfl, rfl⟩ := h
    exact b_one (s_ret (x_and (x_isInt (x_var 0 rfl) (k_int _) T.n_isinstance T.n_int) (fun hb => (x_one (x_not (x_isBool (x_var 0 rfl) (k_bool _) T.n_isinstance T.n_bool))))) rfl)
abbrev R__law_behind (as : List Dt) (o : Out) : Prop := ∃ cs g s, as = [pd cs g, .int s] ∧ 0 ≤ s ∧ s < (cs.length : Int) ∧ o = .ret (pd (bump cs g s) g)
theorem ok__law_behind (T : Tx K mg) : Fn P w K mg base 1 (ga K "_law_behind") ["_law_plan_here", "_law_sign"] (R__law_behind) := by
  obtain ⟨fd, F⟩ := T.d__law_behind
  have nd := sc__law_behind.nd
  refine fn_mk F sc__law_behind (F.binds fun _ _ _ _ _ _ us hl => match us, hl with | [_, _], _ => rfl) (fun as o h => ?_) (fun cdv A outer s H E as o hr h tk hp => ?_)
  · obtain ⟨cs, g, s0, rfl, h0, h1, rfl⟩ := h
    rfl
  · have hu := hr.units
    obtain ⟨cs, g, s0, rfl, h0, h1, rfl⟩ := h
    refine b_seq _ (s_setN 2 nd (n_listT T.n_list (x_ixT (x_var 0 rfl) x_int (by walk_at "ix"))) rfl) (b_seq _ (s_setItem 2 (y := "_law_counts") rfl (x_view (x_min T.n_min x_int (x_add (x_ixL (x_var 2 rfl) (x_var 1 rfl) (at_ints h0 h1)) (x_ixT (x_var 0 rfl) x_int (by walk_at "ix"))))) (x_var 1 rfl) (ix_ints h0 h1) rfl rfl (fun _ => .inl rfl) (by decide) (by decide) (fun _ => ps_asg (uE_ok ()) (pg_sub (pv 2) (uE_ok ()) set_list))) (XB.view (b_one (s_ret (x_tup (a_cons (x_tupleL T.n_tuple (x_var 2 rfl)) (a_cons (x_ixT (x_var 0 rfl) x_int (by walk_at "ix")) a_nil))) ?_))))
    show Out.ret (.tuple [.tuple ((lsI cs).set s0.toNat (.int (min 1000000 (cnt cs s0 + g)))), .int g]) = _
    rw [set_ints] <;> rfl
abbrev R__law_signs (as : List Dt) (o : Out) : Prop := ∃ (c0 : Int) (cs : List Int) (g m : Int), as = [.int c0, pd cs g, .int m] ∧ (0 ≤ m ∧ m ≤ 60) ∧ PlanOk cs g ∧ o = .new (lsI (signsL c0 (cs.length : Int) m))
theorem ok__law_signs (T : Tx K mg) : Fn P w K mg base 2 (ga K "_law_signs") ["_law_cell", "_law_plan_here", "_law_most"] (R__law_signs) := by
  obtain ⟨fd, F⟩ := T.d__law_signs
  have nd := sc__law_signs.nd
  refine fn_mk F sc__law_signs (F.binds fun _ _ _ _ _ _ us hl => match us, hl with | [_, _, _], _ => rfl) (fun as o h => ?_) (fun cdv A outer s H E as o hr h tk hp => ?_)
  · obtain ⟨c0, cs, g, m, rfl, hm, ok, rfl⟩ := h
    rfl
  · have hu := hr.units
    obtain ⟨c0, cs, g, m, rfl, hm, ok, rfl⟩ := h
    have hk := ok.len
    have hc : ((lsI cs).length : Int) = (cs.length : Int) := len_ints
    have hs : 0 ≤ c0 % (m + 1) ∧ c0 % (m + 1) < m + 1 := ⟨Int.emod_nonneg _ (by omega), Int.emod_lt_of_pos _ (by omega)⟩
    refine b_seq _ (s_set 3 nd (x_mod (x_var 0 rfl) (x_add (x_var 2 rfl) x_int) (by walk_at "side")) rfl) (b_seq _ (s_set 4 nd (x_mod (x_div (x_var 0 rfl) x_int (by walk_at "side")) x_int (by walk_at "side")) rfl) (b_seq _ (s_setN 5 nd (n_list a_nil) rfl) (b_cons (fun en => ∃ z0 z1 z2 z3 z4 z6 z7, en = [z0, z1, z2, z3, z4, .own (lsI (signsL c0 (cs.length : Int) m)), z6, z7]) ?_ ?_)))
    · refine s_forR 6 nd hp (x_var 3 rfl) ⟨by omega, by omega⟩ T.n_range (fun i en => ∃ z6 z7, en = [.d (.int c0), .d (pd cs g), .d (.int m), .d (.int (c0 % (m + 1))), .d (.int (c0 / 61 % 4)), .own (lsI ((List.range i).map fun (k : Nat) => signAt c0 (k : Int) (cs.length : Int))), z6, z7]) ⟨_, _, rfl⟩ ?_ ?_
      · rintro i en' hi ⟨z6, z7, rfl⟩
        refine b_seq _ (s_set 7 nd ((x_mod (x_call (ok__law_mixed T) T.g__law_mixed hr (by decide) (a_cons (x_div (x_var 0 rfl) x_int (by walk_at "side")) (a_cons (x_var 6 rfl) a_nil)) (⟨_, _, rfl, ⟨by omega, by omega⟩, rfl⟩)) (x_lenT T.n_len (x_ixT (x_var 1 rfl) x_int (by walk_at "ix"))) (by omega)).is (by rw [hc])) rfl) ?_
        refine b_if [.d (.int c0), .d (pd cs g), .d (.int m), .d (.int (c0 % (m + 1))), .d (.int (c0 / 61 % 4)), .own (lsI ((List.range i).map fun (k : Nat) => signAt c0 (k : Int) (cs.length : Int))), .d (.int (i : Int)), .d (.int (if c0 / 61 % 4 = 1 then c0 / 244 % (cs.length : Int) else mixed (c0 / 244) (i : Int) % (cs.length : Int)))] ((t_eq hu (x_var 4 rfl) x_int (by walk_at "shaped") (by walk_at "shaped")).is eqv_int) (fun hb => b_one (s_set 7 nd ((x_mod (x_div (x_var 0 rfl) x_int (by walk_at "side")) (x_lenT T.n_len (x_ixT (x_var 1 rfl) x_int (by walk_at "ix"))) (by omega)).is (by rw [hc])) (by rw [if_pos (of_decide_eq_true hb)] <;> rfl))) (fun hb => by rw [if_neg (of_decide_eq_false hb)] <;> rfl) ?_
        refine b_if (b := decide (c0 / 61 % 4 = 2 ∧ (i : Int) % 4 < 3)) [.d (.int c0), .d (pd cs g), .d (.int m), .d (.int (c0 % (m + 1))), .d (.int (c0 / 61 % 4)), .own (lsI ((List.range i).map fun (k : Nat) => signAt c0 (k : Int) (cs.length : Int))), .d (.int (i : Int)), .d (.int (signAt c0 (i : Int) (cs.length : Int)))] ((XW.xt (w_and (t_eq hu (x_var 4 rfl) x_int (by walk_at "shaped") (by walk_at "shaped")) (fun hb => (w_and1 (t_lt (x_mod (x_var 6 rfl) x_int (by walk_at "side")) x_int))))).is (by rw [eqv_int, Bool.eq_iff_iff]; simp)) (fun hb => b_one (s_set 7 nd x_int (by rw [signAt, if_pos (of_decide_eq_true hb)] <;> rfl))) (fun hb => by rw [signAt, if_neg (of_decide_eq_false hb)] <;> rfl) ?_
        refine b_one (s_append 5 rfl (x_var 7 rfl) ⟨.d (.int (i : Int)), .d (.int (signAt c0 (i : Int) (cs.length : Int))), ?_⟩ (by rw [List.length_map, List.length_map, List.length_range]; omega))
        rw [range_snoc, ints_app] <;> rfl
      · rintro en' ⟨z6, z7, rfl⟩
        exact ⟨_, _, _, _, _, _, _, rfl⟩
    · rintro en' ⟨z0, z1, z2, z3, z4, z6, z7, rfl⟩
      exact b_one (s_retO 5 rfl rfl)
abbrev R__law_within (as : List Dt) (o : Out) : Prop := ∃ (x y : Str3) (n : Nat), as = [x.d, y.d] ∧ (Bits n x ∧ n ≤ 9000) ∧ (Bits n y ∧ n ≤ 9000) ∧ o = .ret (.bool (in3 x y))
theorem ok__law_within (T : Tx K mg) : Fn P w K mg base 1 (ga K "_law_within") ["_law_one", "_law_other"] (R__law_within) := by
  obtain ⟨fd, F⟩ := T.d__law_within
  have nd := sc__law_within.nd
  refine fn_mk F sc__law_within (F.binds fun _ _ _ _ _ _ us hl => match us, hl with | [_, _], _ => rfl) (fun as o h => ?_) (fun cdv A outer s H E as o hr h tk hp => ?_)
  · obtain ⟨x, y, n, rfl, ⟨hx, hn⟩, ⟨hy, _⟩, rfl⟩ := h
    rfl
  · have hu := hr.units
    obtain ⟨x, y, n, rfl, ⟨hx, hn⟩, ⟨hy, _⟩, rfl⟩ := h
    have m1 : ∀ {x y : Int}, x.natAbs < 2 ^ n → y.natAbs < 2 ^ n → CMulW x y := fun h1 h2 => wide_mulN h1 h2 (by omega)
    have m2 : ∀ {x y : Int}, x.natAbs < 2 ^ (n + 1) → y.natAbs < 2 ^ n → CMulW x y := fun h1 h2 => wide_mulN h1 h2 (by omega)
    refine b_seq _ (s_set 2 nd (x_sub (x_mulW (x_ixT (x_var 0 rfl) x_int (by walk_at "ix")) (x_ixT (x_var 1 rfl) x_int (by walk_at "ix")) (m1 hx.l hy.a)) (x_mulW (x_ixT (x_var 1 rfl) x_int (by walk_at "ix")) (x_ixT (x_var 0 rfl) x_int (by walk_at "ix")) (m1 hy.l hx.a))) rfl) (b_seq _ (s_set 3 nd (x_sub (x_mulW (x_add (x_ixT (x_var 1 rfl) x_int (by walk_at "ix")) (x_ixT (x_var 1 rfl) x_int (by walk_at "ix"))) (x_ixT (x_var 0 rfl) x_int (by walk_at "ix")) (m2 (add_bits hy.l hy.w) hx.a)) (x_mulW (x_add (x_ixT (x_var 0 rfl) x_int (by walk_at "ix")) (x_ixT (x_var 0 rfl) x_int (by walk_at "ix"))) (x_ixT (x_var 1 rfl) x_int (by walk_at "ix")) (m2 (add_bits hx.l hx.w) hy.a))) rfl) (b_one (s_ret (x_and (x_ge (x_var 2 rfl) x_int) (fun hb => (x_one (x_ge (x_var 3 rfl) x_int)))) ?_)))
    rw [in3_signs]
abbrev R__law_figured (as : List Dt) (o : Out) : Prop := ∃ f, as = [.list (lsI f)] ∧ Bin f ∧ f.length ≤ 8000 ∧ o = .ret (fig f).d
theorem ok__law_figured (T : Tx K mg) : Fn P w K mg base 1 (ga K "_law_figured") ["_law_figures"] (R__law_figured) := by
  obtain ⟨fd, F⟩ := T.d__law_figured
  have nd := sc__law_figured.nd
  refine fn_mk F sc__law_figured (F.binds fun _ _ _ _ _ _ us hl => match us, hl with | [_], _ => rfl) (fun as o h => ?_) (fun cdv A outer s H E as o hr h tk hp => ?_)
  · obtain ⟨f, rfl, hf, hl, rfl⟩ := h
    rfl
  · have hu := hr.units
    obtain ⟨f, rfl, hf, hl, rfl⟩ := h
    refine b_seq _ (s_set 1 nd x_int rfl) (b_seq _ (s_set 2 nd x_int rfl) (b_cons (fun en => ∃ z0 z3, en = [z0, .d (.int (valT f)), .d (.int (2 ^ f.length)), z3]) ?_ ?_))
    · refine s_forL 3 nd hp (x_var 0 rfl) (fun i en => ∃ z3, en = [.d (.list (lsI f)), .d (.int (valT (f.take i))), .d (.int (2 ^ (f.take i).length)), z3]) ⟨_, rfl⟩ ?_ ?_
      · rintro i y en' hy ⟨z3, rfl⟩
        obtain ⟨x, hx, rfl⟩ := ints_get hy
        have bn : Bin (f.take i) := fun b hb => hf b (List.mem_of_mem_take hb)
        have ln : (f.take i).length ≤ 8000 := by rw [List.length_take]; omega
        refine b_seq _ (s_set 1 nd (x_add (x_mulW x_int (x_var 1 rfl) (wide_mulN (a := 2) (by decide) (val_bits bn ln) (by decide))) (x_var 3 rfl)) rfl) (b_one (s_set 2 nd (x_mulW x_int (x_var 2 rfl) (wide_mulN (a := 2) (by decide) (two_bits (Nat.lt_succ_of_le ln)) (by decide))) ⟨.d (.int x), ?_⟩))
        rw [take_snoc hx, valT_snoc, List.length_append, List.length_singleton, two_succ] <;> rfl
      · rintro en' ⟨z3, rfl⟩
        rw [List.length_map, List.take_length]
        exact ⟨_, _, rfl⟩
    · rintro en' ⟨z0, z3, rfl⟩
      exact b_one (s_ret (x_tup (a_cons (x_var 1 rfl) (a_cons x_int (a_cons (x_var 2 rfl) a_nil)))) rfl)
abbrev R_need_figures (K : PySem.W.Frag) (as : List Dt) (o : Out) : Prop := ∃ d, as = [d] ∧ noZ d = true ∧ o = if figB d = true then .ret .none else .exc (ga K "BadFigures")
theorem ok_need_figures (T : Tx K mg) : Fn P w K mg base 2 (ga K "need_figures") ["figures"] (R_need_figures K) := by
  obtain ⟨fd, F⟩ := T.d_need_figures
  have nd := sc_need_figures.nd
  refine fn_mk F sc_need_figures (F.binds fun _ _ _ _ _ _ us hl => match us, hl with | [_], _ => rfl) (fun as o h => ?_) (fun cdv A outer s H E as o hr h tk hp => ?_)
  · obtain ⟨d, rfl, hz, rfl⟩ := h
    rfl
  · have hu := hr.units
    obtain ⟨d, rfl, hz, rfl⟩ := h
    cases d with
    | list ds =>
      by_cases hl : ds.length ≤ 4000
      · refine b_skip (XW.xt (w_or (t_not (t_val (x_isList (x_var 0 rfl) (k_list _) T.n_isinstance T.n_list))) (fun hb => (w_or1 (t_gt (x_lenL T.n_len (x_var 0 rfl)) (x_gint T.i_MOST_FIGURES)))))) ?_ (by
          have hx : ¬ ((4000 : Int) < (ds.length : Int)) := by omega
          rw [decide_eq_false hx] <;> rfl)
        have he : figB (.list ds) = ds.all (isIn · 0 1) := by
          show (decide (ds.length ≤ 4000) && _) = _
          rw [decide_eq_true hl, Bool.true_and]
        rw [he]
        refine b_one (s_forL 1 nd hp (x_var 0 rfl) (fun i en => (∃ z, en = [.d (.list ds), z]) ∧ (ds.take i).all (isIn · 0 1) = true) ⟨⟨_, rfl⟩, rfl⟩ ?_ ?_)
        · rintro i y en' hy ⟨⟨z, rfl⟩, hi⟩
          by_cases hs : isIn y 0 1 = true
          · refine b_skip (t_not (t_val (x_call (ok_is_among T) T.g_is_among hr (by decide) (a_cons (x_var 1 rfl) (a_cons x_int (a_cons x_int a_nil))) ⟨_, _, _, rfl, rfl⟩))) (b_nil ⟨⟨_, rfl⟩, ?_⟩) (by rw [hs] <;> rfl)
            rw [List.take_succ, hy, List.all_append, hi]
            show (true && (isIn y 0 1 && true)) = true
            rw [hs] <;> rfl
          · have hn : ds.all (isIn · 0 1) = false := by
              rw [List.all_eq_false]
              exact ⟨y, List.mem_of_getElem? hy, hs⟩
            exact b_yes (t_not (t_val (x_call (ok_is_among T) T.g_is_among hr (by decide) (a_cons (x_var 1 rfl) (a_cons x_int (a_cons x_int a_nil))) ⟨_, _, _, rfl, rfl⟩))) (b_one (s_raise tk T.x_BadFigures T.g_BadFigures (by rw [hn] <;> rfl))) (by rw [Bool.eq_false_iff.mpr hs] <;> rfl)
        · rintro en' ⟨_, hi⟩
          rw [List.take_length] at hi
          show (if ds.all (isIn · 0 1) = true then _ else _) = _
          rw [if_pos hi]
      · refine b_yes (XW.xt (w_or (t_not (t_val (x_isList (x_var 0 rfl) (k_list _) T.n_isinstance T.n_list))) (fun hb => (w_or1 (t_gt (x_lenL T.n_len (x_var 0 rfl)) (x_gint T.i_MOST_FIGURES)))))) (b_one (s_raise tk T.x_BadFigures T.g_BadFigures ?_)) (by
          have hx : (4000 : Int) < (ds.length : Int) := by omega
          rw [decide_eq_true hx] <;> rfl)
        have he : figB (.list ds) = false := by
          show (decide (ds.length ≤ 4000) && _) = _
          rw [decide_eq_false hl, Bool.false_and]
        rw [he] <;> rfl
    | dict kvs => cases hz
    | _ => exact b_yes (XW.xt (by first | exact w_orF (t_not (t_val (x_isList (x_var 0 rfl) (k_list _) T.n_isinstance T.n_list))) (w_or1 (t_gt (x_lenL T.n_len (x_var 0 rfl)) (x_gint T.i_MOST_FIGURES))) | exact w_orT (t_not (t_val (x_isList (x_var 0 rfl) (k_list _) T.n_isinstance T.n_list))))) (b_one (s_raise tk T.x_BadFigures T.g_BadFigures rfl))
abbrev R_longer (as : List Dt) (o : Out) : Prop := ∃ (s : Str3) (b : Int) (n : Nat), as = [s.d, .int b] ∧ (Bits n s ∧ n ≤ 9000) ∧ o = .ret (long3 s b).d
theorem ok_longer (T : Tx K mg) : Fn P w K mg base 1 (ga K "longer") ["stretch", "figure"] (R_longer) := by
  obtain ⟨fd, F⟩ := T.d_longer
  have nd := sc_longer.nd
  refine fn_mk F sc_longer (F.binds fun _ _ _ _ _ _ us hl => match us, hl with | [_, _], _ => rfl) (fun as o h => ?_) (fun cdv A outer s H E as o hr h tk hp => ?_)
  · obtain ⟨s3, b, n, rfl, ⟨hs, hn⟩, rfl⟩ := h
    rfl
  · have hu := hr.units
    obtain ⟨s3, b, n, rfl, ⟨hs, hn⟩, rfl⟩ := h
    exact b_one (s_ret (x_tup (a_cons (x_add (x_mulW x_int (x_ixT (x_var 0 rfl) x_int (by walk_at "ix")) (wide_mulN (a := 2) (by decide) hs.l (by omega))) (x_var 1 rfl)) (a_cons x_int (a_cons (x_mulW x_int (x_ixT (x_var 0 rfl) x_int (by walk_at "ix")) (wide_mulN (a := 2) (by decide) hs.a (by omega))) a_nil)))) rfl)
abbrev R_need_many (K : PySem.W.Frag) (as : List Dt) (o : Out) : Prop := ∃ d, as = [d] ∧ o = if isIn d 0 60 = true then .ret .none else .exc (ga K "BadCount")
theorem ok_need_many (T : Tx K mg) : Fn P w K mg base 2 (ga K "need_many") ["many"] (R_need_many K) := by
  obtain ⟨fd, F⟩ := T.d_need_many
  have nd := sc_need_many.nd
  refine fn_mk F sc_need_many (F.binds fun _ _ _ _ _ _ us hl => match us, hl with | [_], _ => rfl) (fun as o h => ?_) (fun cdv A outer s H E as o hr h tk hp => ?_)
  · obtain ⟨d, rfl, rfl⟩ := h
    rfl
  · have hu := hr.units
    obtain ⟨d, rfl, rfl⟩ := h
    by_cases hp2 : isIn d 0 60 = true
    · exact b_skip (t_not (t_val (x_call (ok_is_among T) T.g_is_among hr (by decide) (a_cons (x_var 0 rfl) (a_cons x_int (a_cons (x_gint T.i_MOST_SIGNS) a_nil))) ⟨_, _, _, rfl, rfl⟩))) (b_nil (if_pos hp2)) (by rw [hp2] <;> rfl)
    · exact b_yes (t_not (t_val (x_call (ok_is_among T) T.g_is_among hr (by decide) (a_cons (x_var 0 rfl) (a_cons x_int (a_cons (x_gint T.i_MOST_SIGNS) a_nil))) ⟨_, _, _, rfl, rfl⟩))) (b_one (s_raise tk T.x_BadCount T.g_BadCount (if_neg hp2))) (by rw [Bool.eq_false_iff.mpr hp2] <;> rfl)
abbrev R_next_sign (as : List Dt) (o : Out) : Prop := ∃ (cs : List Int) (g : Int) (s goal : Str3) (n : Nat), as = [pd cs g, s.d, goal.d] ∧ PlanOk cs g ∧ S3Ok n s ∧ n < 60 ∧ Bits 5000 goal ∧ o = .ret (nextD cs s goal)
theorem ok_next_sign (T : Tx K mg) : Fn P w K mg base 2 (ga K "next_sign") ["plan", "stretch", "goal"] (R_next_sign) := by
  obtain ⟨fd, F⟩ := T.d_next_sign
  have nd := sc_next_sign.nd
  refine fn_mk F sc_next_sign (F.binds fun _ _ _ _ _ _ us hl => match us, hl with | [_, _, _], _ => rfl) (fun as o h => ?_) (fun cdv A outer s H E as o hr h tk hp => ?_)
  · obtain ⟨cs, g, s3, goal, n, rfl, ok, r1, hn, hg, rfl⟩ := h
    rfl
  · have hu := hr.units
    obtain ⟨cs, g, s3, goal, n, rfl, ok, r1, hn, hg, rfl⟩ := h
    have hc : ((lsI cs).length : Int) = (cs.length : Int) := len_ints
    have l8 := ok.len
    have bt := r1.bits (by omega)
    refine b_cons (fun en => (∀ k < cs.length, in3 goal (partJ s3 cs k) = false) ∧ ∃ z3 z4, en = [.d (pd cs g), .d s3.d, .d goal.d, z3, z4]) ?_ ?_
    · refine s_forR 3 nd hp ((x_lenT T.n_len (x_ixT (x_var 0 rfl) x_int (by walk_at "ix"))).is (by rw [hc])) ⟨by omega, by omega⟩ T.n_range (fun i en => (∀ k < i, in3 goal (partJ s3 cs k) = false) ∧ ∃ z3 z4, en = [.d (pd cs g), .d s3.d, .d goal.d, z3, z4]) ⟨fun k hk => absurd hk (Nat.not_lt_zero k), _, _, rfl⟩ ?_ ?_
      · rintro i en' hi ⟨hno, z3, z4, rfl⟩
        have h0 : 0 ≤ (i : Int) := by omega
        have sh := share_ok ok h0 hi
        have b2 := ((part_ok r1 sh).bits (by omega)).up (by decide : 1400 ≤ 5000)
        refine b_seq _ (s_set 4 nd ((x_call (ok_parted T) T.g_parted hr (by decide) (a_cons (x_var 1 rfl) (a_cons (x_call (ok_share_of T) T.g_share_of hr (by decide) (a_cons (x_var 0 rfl) (a_cons (x_var 3 rfl) a_nil)) (⟨_, _, _, rfl, h0, hi, rfl⟩)) a_nil)) (⟨_, _, _, _, 1400, rfl, ⟨bt, by decide⟩, sh.bb, sh.bc, sh.bt, rfl⟩)).is (d := (partJ s3 cs i).d) rfl) rfl) ?_
        by_cases hq : in3 goal (partJ s3 cs i) = true
        · refine b_yes (t_val (x_call (ok_within T) T.g_within hr (by decide) (a_cons (x_var 2 rfl) (a_cons (x_var 4 rfl) a_nil)) (⟨goal, partJ s3 cs i, 5000, rfl, ⟨hg, by decide⟩, ⟨b2, by decide⟩, rfl⟩))) (b_one (s_ret (x_tup (a_cons (x_var 3 rfl) (a_cons (x_var 4 rfl) a_nil))) ?_)) hq
          show Out.ret _ = Out.ret _
          rw [nextD, nextJ_some (by omega) hq hno]
        · refine b_skip (t_val (x_call (ok_within T) T.g_within hr (by decide) (a_cons (x_var 2 rfl) (a_cons (x_var 4 rfl) a_nil)) (⟨goal, partJ s3 cs i, 5000, rfl, ⟨hg, by decide⟩, ⟨b2, by decide⟩, rfl⟩))) (b_nil ⟨fun k hk => ?_, _, _, rfl⟩) (Bool.eq_false_iff.mpr hq)
          rcases Nat.lt_or_ge k i with c | c
          · exact hno k c
          · have e : k = i := by omega
            rw [e]
            exact Bool.eq_false_iff.mpr hq
      · rintro en' ⟨hno, z3, z4, rfl⟩
        exact ⟨hno, _, _, rfl⟩
    · rintro en' ⟨hno, z3, z4, rfl⟩
      refine b_one (s_ret x_none ?_)
      show Out.ret _ = Out.ret _
      rw [nextD, nextJ_none hno]
abbrev R_signs_by (as : List Dt) (o : Out) : Prop := ∃ (q : St) (g : Int) (goal : Str3) (n m : Nat), as = [pd q.cs g, q.s.d, .int (m : Int), goal.d] ∧ PlanOk q.cs g ∧ S3Ok n q.s ∧ n + m ≤ 60 ∧ Bits 5000 goal ∧ o = .newT (lsI (signsBy g goal m q).1) [pd (signsBy g goal m q).2.cs g, (signsBy g goal m q).2.s.d]
theorem ok_signs_by (T : Tx K mg) : Fn P w K mg base 3 (ga K "signs_by") ["plan", "stretch", "many", "goal"] (R_signs_by) := by
  obtain ⟨fd, F⟩ := T.d_signs_by
  have nd := sc_signs_by.nd
  refine fn_mk F sc_signs_by (F.binds fun _ _ _ _ _ _ us hl => match us, hl with | [_, _, _, _], _ => rfl) (fun as o h => ?_) (fun cdv A outer s H E as o hr h tk hp => ?_)
  · obtain ⟨q0, g, goal, n, m0, rfl, ok0, r0, hn, hg, rfl⟩ := h
    rfl
  · have hu := hr.units
    obtain ⟨q0, g, goal, n, m0, rfl, ok0, r0, hn, hg, rfl⟩ := h
    refine b_seq _ (s_setN 4 nd (n_list a_nil) rfl) (b_cons (fun en => ∃ z2 z3 z5, en = [.d (pd (signsBy g goal m0 q0).2.cs g), .d (signsBy g goal m0 q0).2.s.d, z2, z3, .own (lsI (signsBy g goal m0 q0).1), z5]) ?_ ?_)
    · refine s_while hp (fun m en => ∃ (q : St) (f : List Int) (z5 : Sv), m + f.length = m0 ∧ PlanOk q.cs g ∧ S3Ok (n + f.length) q.s ∧ signsBy g goal m0 q0 = (f ++ (signsBy g goal m q).1, (signsBy g goal m q).2) ∧ en = [.d (pd q.cs g), .d q.s.d, .d (.int (m0 : Int)), .d goal.d, .own (lsI f), z5]) ⟨m0, q0, [], _, rfl, ok0, r0, rfl, rfl⟩ ?_
      rintro m en' ⟨q, f, z5, hm, ok, r1, he, rfl⟩
      refine ⟨decide (f.length < m0), (t_view (t_lt (x_lenL T.n_len (x_var 4 rfl)) (x_var 2 rfl))).is ?_, fun hb => ?_, fun hb => ?_⟩
      · rw [List.length_map, decide_eq_decide]
        omega
      · have hlt := of_decide_eq_true hb
        obtain ⟨m', rfl⟩ : ∃ m', m = m' + 1 := ⟨m - 1, by omega⟩
        refine b_seq _ (s_set 5 nd (x_call (ok_next_sign T) T.g_next_sign hr (by decide) (a_cons (x_var 0 rfl) (a_cons (x_var 1 rfl) (a_cons (x_var 3 rfl) a_nil))) (⟨_, _, _, _, n + f.length, rfl, ok, r1, by omega, hg, rfl⟩)) rfl) ?_
        cases hj : nextJ q.cs q.s goal with
        | none =>
          have e1 : nextD q.cs q.s goal = .none := by rw [nextD, hj]
          rw [e1]
          refine b_yes (t_isN (x_var 5 rfl) x_none) (b_one (s_retT 4 rfl (a_cons (x_var 0 rfl) (a_cons (x_var 1 rfl) a_nil)) ?_))
          show Out.newT _ _ = Out.newT _ _
          rw [he, signsBy_none hj, List.append_nil]
        | some j =>
          obtain ⟨jl, _⟩ := nextJ_lt hj
          have j0 : 0 ≤ (j : Int) := by omega
          have j1 : (j : Int) < (q.cs.length : Int) := by omega
          have e1 : nextD q.cs q.s goal = .tuple [.int (j : Int), (partJ q.s q.cs j).d] := by rw [nextD, hj]
          rw [e1]
          refine b_skip (t_isN (x_var 5 rfl) x_none) (b_seq _ (s_append 4 rfl (x_ixT (x_var 5 rfl) x_int (by walk_at "ix")) rfl (by rw [List.length_map]; omega)) (b_seq _ (s_set 0 nd (x_call (ok_plan_behind T) T.g_plan_behind hr (by decide) (a_cons (x_var 0 rfl) (a_cons (x_ixT (x_var 5 rfl) x_int (by walk_at "ix")) a_nil)) (⟨_, _, _, rfl, j0, j1, rfl⟩)) rfl) (b_one (s_set 1 nd (x_ixT (x_var 5 rfl) x_int (by walk_at "ix")) ⟨m', Nat.lt_succ_self _, q.step g (j : Int), f ++ [(j : Int)], .d (.tuple [.int (j : Int), (partJ q.s q.cs j).d]), ?_, bump_ok ok j0 j1, ?_, ?_, ?_⟩))))
          · rw [List.length_append, List.length_singleton]; omega
          · rw [List.length_append, List.length_singleton]
            exact part_ok r1 (share_ok ok j0 j1)
          · rw [he, signsBy_some hj, List.append_assoc] <;> rfl
          · rw [ints_app] <;> rfl
      · have hge := of_decide_eq_false hb
        have m0e : m = 0 := by omega
        subst m0e
        have e2 : signsBy g goal m0 q0 = (f, q) := by
          rw [he]
          show (f ++ [], q) = _
          rw [List.append_nil]
        show ∃ z2 z3 z5, _ = _
        rw [e2]
        exact ⟨_, _, _, rfl⟩
    · rintro en' ⟨z2, z3, z5, rfl⟩
      exact b_one (s_retT 4 rfl (a_cons (x_var 0 rfl) (a_cons (x_var 1 rfl) a_nil)) rfl)
theorem ok__law_word_BadPlan (T : Tx K mg) : Wd P w K mg base 1 (ga K "_law_word") ["_law_e"] (ga K "BadPlan") "plan" := by
  obtain ⟨fd, F⟩ := T.d__law_word
  have nd := sc__law_word.nd
  refine wd_mk F sc__law_word (F.binds fun _ _ _ _ _ _ us hl => match us, hl with | [_], _ => rfl) rfl fun cdv A outer s H p z h => ?_
  have hpn : ∀ q : Unit, ∃ oe, L2N.Zn (.ref (ga K "BadPlan")) none oe ∧ (∃ vs, oe.data = .fields vs) ∧ (p.1, oe) ∈ (wv P w "_law_word" (defScope s__law_word) (ga K "_law_word") cdv A outer s H p q).pn := fun _ => ⟨p.2, z, h, List.mem_cons_self⟩
  refine b_seq _ (s_set 1 nd (n_cat (n_rep (n_list (a_cons x_str a_nil)).xd (x_intB T.n_int (x_excIs 0 T.e_BadPlan T.q_BadPlan_BadPlan T.g_BadPlan T.n_isinstance rfl hpn)) (by decide)).xd (n_rep (n_list (a_cons x_str a_nil)).xd (x_intB T.n_int (x_excIs 0 T.e_BadPlan T.q_BadPlan_BadSign T.g_BadSign T.n_isinstance rfl hpn)) (by decide)).xd (by decide)).xd rfl) (b_seq _ (s_set 1 nd (n_cat (n_cat (x_var 1 rfl) (n_rep (n_list (a_cons x_str a_nil)).xd (x_intB T.n_int (x_excIs 0 T.e_BadPlan T.q_BadPlan_BadCount T.g_BadCount T.n_isinstance rfl hpn)) (by decide)).xd (by decide)).xd (n_rep (n_list (a_cons x_str a_nil)).xd (x_intB T.n_int (x_excIs 0 T.e_BadPlan T.q_BadPlan_BadFigures T.g_BadFigures T.n_isinstance rfl hpn)) (by decide)).xd (by decide)).xd rfl) (b_one (s_retN (n_list (a_cons (x_once (x_join x_str ((n_cat (x_var 1 rfl) (n_rep (n_list (a_cons x_str a_nil)).xd (x_intB T.n_int (x_excIs 0 T.e_BadPlan T.q_BadPlan_Ended T.g_Ended T.n_isinstance rfl hpn)) (by decide)).xd (by decide)).xd.is (d := .list ([("plan" : Str)].map PyData.str)) rfl) (by decide)) (x_intB (b := true) T.n_int (x_excIsV 0 T.e_BadPlan T.q_BadPlan T.n_ValueError (by decide +kernel) T.n_isinstance rfl hpn))) a_nil)) rfl)))
theorem ok__law_word_BadSign (T : Tx K mg) : Wd P w K mg base 1 (ga K "_law_word") ["_law_e"] (ga K "BadSign") "sign" := by
  obtain ⟨fd, F⟩ := T.d__law_word
  have nd := sc__law_word.nd
  refine wd_mk F sc__law_word (F.binds fun _ _ _ _ _ _ us hl => match us, hl with | [_], _ => rfl) rfl fun cdv A outer s H p z h => ?_
  have hpn : ∀ q : Unit, ∃ oe, L2N.Zn (.ref (ga K "BadSign")) none oe ∧ (∃ vs, oe.data = .fields vs) ∧ (p.1, oe) ∈ (wv P w "_law_word" (defScope s__law_word) (ga K "_law_word") cdv A outer s H p q).pn := fun _ => ⟨p.2, z, h, List.mem_cons_self⟩
  refine b_seq _ (s_set 1 nd (n_cat (n_rep (n_list (a_cons x_str a_nil)).xd (x_intB T.n_int (x_excIs 0 T.e_BadSign T.q_BadSign_BadPlan T.g_BadPlan T.n_isinstance rfl hpn)) (by decide)).xd (n_rep (n_list (a_cons x_str a_nil)).xd (x_intB T.n_int (x_excIs 0 T.e_BadSign T.q_BadSign_BadSign T.g_BadSign T.n_isinstance rfl hpn)) (by decide)).xd (by decide)).xd rfl) (b_seq _ (s_set 1 nd (n_cat (n_cat (x_var 1 rfl) (n_rep (n_list (a_cons x_str a_nil)).xd (x_intB T.n_int (x_excIs 0 T.e_BadSign T.q_BadSign_BadCount T.g_BadCount T.n_isinstance rfl hpn)) (by decide)).xd (by decide)).xd (n_rep (n_list (a_cons x_str a_nil)).xd (x_intB T.n_int (x_excIs 0 T.e_BadSign T.q_BadSign_BadFigures T.g_BadFigures T.n_isinstance rfl hpn)) (by decide)).xd (by decide)).xd rfl) (b_one (s_retN (n_list (a_cons (x_once (x_join x_str ((n_cat (x_var 1 rfl) (n_rep (n_list (a_cons x_str a_nil)).xd (x_intB T.n_int (x_excIs 0 T.e_BadSign T.q_BadSign_Ended T.g_Ended T.n_isinstance rfl hpn)) (by decide)).xd (by decide)).xd.is (d := .list ([("sign" : Str)].map PyData.str)) rfl) (by decide)) (x_intB (b := true) T.n_int (x_excIsV 0 T.e_BadSign T.q_BadSign T.n_ValueError (by decide +kernel) T.n_isinstance rfl hpn))) a_nil)) rfl)))
theorem ok__law_word_BadCount (T : Tx K mg) : Wd P w K mg base 1 (ga K "_law_word") ["_law_e"] (ga K "BadCount") "count" := by
  obtain ⟨fd, F⟩ := T.d__law_word
  have nd := sc__law_word.nd
  refine wd_mk F sc__law_word (F.binds fun _ _ _ _ _ _ us hl => match us, hl with | [_], _ => rfl) rfl fun cdv A outer s H p z h => ?_
  have hpn : ∀ q : Unit, ∃ oe, L2N.Zn (.ref (ga K "BadCount")) none oe ∧ (∃ vs, oe.data = .fields vs) ∧ (p.1, oe) ∈ (wv P w "_law_word" (defScope s__law_word) (ga K "_law_word") cdv A outer s H p q).pn := fun _ => ⟨p.2, z, h, List.mem_cons_self⟩
  refine b_seq _ (s_set 1 nd (n_cat (n_rep (n_list (a_cons x_str a_nil)).xd (x_intB T.n_int (x_excIs 0 T.e_BadCount T.q_BadCount_BadPlan T.g_BadPlan T.n_isinstance rfl hpn)) (by decide)).xd (n_rep (n_list (a_cons x_str a_nil)).xd (x_intB T.n_int (x_excIs 0 T.e_BadCount T.q_BadCount_BadSign T.g_BadSign T.n_isinstance rfl hpn)) (by decide)).xd (by decide)).xd rfl) (b_seq _ (s_set 1 nd (n_cat (n_cat (x_var 1 rfl) (n_rep (n_list (a_cons x_str a_nil)).xd (x_intB T.n_int (x_excIs 0 T.e_BadCount T.q_BadCount_BadCount T.g_BadCount T.n_isinstance rfl hpn)) (by decide)).xd (by decide)).xd (n_rep (n_list (a_cons x_str a_nil)).xd (x_intB T.n_int (x_excIs 0 T.e_BadCount T.q_BadCount_BadFigures T.g_BadFigures T.n_isinstance rfl hpn)) (by decide)).xd (by decide)).xd rfl) (b_one (s_retN (n_list (a_cons (x_once (x_join x_str ((n_cat (x_var 1 rfl) (n_rep (n_list (a_cons x_str a_nil)).xd (x_intB T.n_int (x_excIs 0 T.e_BadCount T.q_BadCount_Ended T.g_Ended T.n_isinstance rfl hpn)) (by decide)).xd (by decide)).xd.is (d := .list ([("count" : Str)].map PyData.str)) rfl) (by decide)) (x_intB (b := true) T.n_int (x_excIsV 0 T.e_BadCount T.q_BadCount T.n_ValueError (by decide +kernel) T.n_isinstance rfl hpn))) a_nil)) rfl)))
theorem ok__law_word_BadFigures (T : Tx K mg) : Wd P w K mg base 1 (ga K "_law_word") ["_law_e"] (ga K "BadFigures") "figures" := by
  obtain ⟨fd, F⟩ := T.d__law_word
  have nd := sc__law_word.nd
  refine wd_mk F sc__law_word (F.binds fun _ _ _ _ _ _ us hl => match us, hl with | [_], _ => rfl) rfl fun cdv A outer s H p z h => ?_
  have hpn : ∀ q : Unit, ∃ oe, L2N.Zn (.ref (ga K "BadFigures")) none oe ∧ (∃ vs, oe.data = .fields vs) ∧ (p.1, oe) ∈ (wv P w "_law_word" (defScope s__law_word) (ga K "_law_word") cdv A outer s H p q).pn := fun _ => ⟨p.2, z, h, List.mem_cons_self⟩
  refine b_seq _ (s_set 1 nd (n_cat (n_rep (n_list (a_cons x_str a_nil)).xd (x_intB T.n_int (x_excIs 0 T.e_BadFigures T.q_BadFigures_BadPlan T.g_BadPlan T.n_isinstance rfl hpn)) (by decide)).xd (n_rep (n_list (a_cons x_str a_nil)).xd (x_intB T.n_int (x_excIs 0 T.e_BadFigures T.q_BadFigures_BadSign T.g_BadSign T.n_isinstance rfl hpn)) (by decide)).xd (by decide)).xd rfl) (b_seq _ (s_set 1 nd (n_cat (n_cat (x_var 1 rfl) (n_rep (n_list (a_cons x_str a_nil)).xd (x_intB T.n_int (x_excIs 0 T.e_BadFigures T.q_BadFigures_BadCount T.g_BadCount T.n_isinstance rfl hpn)) (by decide)).xd (by decide)).xd (n_rep (n_list (a_cons x_str a_nil)).xd (x_intB T.n_int (x_excIs 0 T.e_BadFigures T.q_BadFigures_BadFigures T.g_BadFigures T.n_isinstance rfl hpn)) (by decide)).xd (by decide)).xd rfl) (b_one (s_retN (n_list (a_cons (x_once (x_join x_str ((n_cat (x_var 1 rfl) (n_rep (n_list (a_cons x_str a_nil)).xd (x_intB T.n_int (x_excIs 0 T.e_BadFigures T.q_BadFigures_Ended T.g_Ended T.n_isinstance rfl hpn)) (by decide)).xd (by decide)).xd.is (d := .list ([("figures" : Str)].map PyData.str)) rfl) (by decide)) (x_intB (b := true) T.n_int (x_excIsV 0 T.e_BadFigures T.q_BadFigures T.n_ValueError (by decide +kernel) T.n_isinstance rfl hpn))) a_nil)) rfl)))
theorem ok__law_word_Ended (T : Tx K mg) : Wd P w K mg base 1 (ga K "_law_word") ["_law_e"] (ga K "Ended") "ended" := by
  obtain ⟨fd, F⟩ := T.d__law_word
  have nd := sc__law_word.nd
  refine wd_mk F sc__law_word (F.binds fun _ _ _ _ _ _ us hl => match us, hl with | [_], _ => rfl) rfl fun cdv A outer s H p z h => ?_
  have hpn : ∀ q : Unit, ∃ oe, L2N.Zn (.ref (ga K "Ended")) none oe ∧ (∃ vs, oe.data = .fields vs) ∧ (p.1, oe) ∈ (wv P w "_law_word" (defScope s__law_word) (ga K "_law_word") cdv A outer s H p q).pn := fun _ => ⟨p.2, z, h, List.mem_cons_self⟩
  refine b_seq _ (s_set 1 nd (n_cat (n_rep (n_list (a_cons x_str a_nil)).xd (x_intB T.n_int (x_excIs 0 T.e_Ended T.q_Ended_BadPlan T.g_BadPlan T.n_isinstance rfl hpn)) (by decide)).xd (n_rep (n_list (a_cons x_str a_nil)).xd (x_intB T.n_int (x_excIs 0 T.e_Ended T.q_Ended_BadSign T.g_BadSign T.n_isinstance rfl hpn)) (by decide)).xd (by decide)).xd rfl) (b_seq _ (s_set 1 nd (n_cat (n_cat (x_var 1 rfl) (n_rep (n_list (a_cons x_str a_nil)).xd (x_intB T.n_int (x_excIs 0 T.e_Ended T.q_Ended_BadCount T.g_BadCount T.n_isinstance rfl hpn)) (by decide)).xd (by decide)).xd (n_rep (n_list (a_cons x_str a_nil)).xd (x_intB T.n_int (x_excIs 0 T.e_Ended T.q_Ended_BadFigures T.g_BadFigures T.n_isinstance rfl hpn)) (by decide)).xd (by decide)).xd rfl) (b_one (s_retN (n_list (a_cons (x_once (x_join x_str ((n_cat (x_var 1 rfl) (n_rep (n_list (a_cons x_str a_nil)).xd (x_intB T.n_int (x_excIs 0 T.e_Ended T.q_Ended_Ended T.g_Ended T.n_isinstance rfl hpn)) (by decide)).xd (by decide)).xd.is (d := .list ([("ended" : Str)].map PyData.str)) rfl) (by decide)) (x_intB (b := true) T.n_int (x_excIsV 0 T.e_Ended T.q_Ended T.n_ValueError (by decide +kernel) T.n_isinstance rfl hpn))) a_nil)) rfl)))
abbrev R__law_no_plan (as : List Dt) (o : Out) : Prop := ∃ (cs : List Int) (g c : Int), as = [pd cs g, .int c] ∧ PlanOk cs g ∧ o = .ret (noPlan cs g c)
theorem ok__law_no_plan (T : Tx K mg) : Fn P w K mg base 1 (ga K "_law_no_plan") ["_law_plan_here", "_law_cell"] (R__law_no_plan) := by
  obtain ⟨fd, F⟩ := T.d__law_no_plan
  have nd := sc__law_no_plan.nd
  refine fn_mk F sc__law_no_plan (F.binds fun _ _ _ _ _ _ us hl => match us, hl with | [_, _], _ => rfl) (fun as o h => ?_) (fun cdv A outer s H E as o hr h tk hp => ?_)
  · obtain ⟨cs, g, c0, rfl, ok, rfl⟩ := h
    rfl
  · have hu := hr.units
    obtain ⟨cs, g, c0, rfl, ok, rfl⟩ := h
    have hk := ok.len
    have hc : ((lsI cs).length : Int) = (cs.length : Int) := len_ints
    obtain ⟨j, hj, jl⟩ : ∃ j : Nat, c0 / 14 % (cs.length : Int) = (j : Int) ∧ j < cs.length := by
      have h0 : 0 ≤ c0 / 14 % (cs.length : Int) := Int.emod_nonneg _ (by omega)
      have h1 : c0 / 14 % (cs.length : Int) < (cs.length : Int) := Int.emod_lt_of_pos _ (by omega)
      exact ⟨(c0 / 14 % (cs.length : Int)).toNat, by omega, by omega⟩
    have e : noPlan cs g c0 = (noPlans cs g (far20 (c0 / 14)) j).getD (c0 % 14).toNat .none := by
      unfold noPlan
      rw [hj, Int.toNat_natCast]
    rw [e]
    have k1 : (cutD (lsI cs) none (some (j : Int))).length ≤ cs.length := len_cut
    have k2 : (cutD (lsI cs) (some ((j : Int) + 1)) none).length ≤ cs.length := len_cutD (n := j + 1)
    have k3 : cutD (lsI cs) (some ((j : Int) + 1)) none = lsI (cs.drop (j + 1)) := cut_anyD (n := j + 1)
    have k4 : cutD (lsI cs) none (some 1) = lsI (cs.take 1) := cut_any (n := 1)
    have h14 : 0 ≤ c0 % 14 ∧ c0 % 14 < 14 := ⟨Int.emod_nonneg _ (by decide), Int.emod_lt_of_pos _ (by decide)⟩
    refine b_seq _ (s_unp2 2 3 (x_var 0 rfl) (fun _ _ h => ps_asg h (pg_tup rfl (pgs_cons (pg_name nd rfl (by first | exact Or.inl rfl | exact Or.inr rfl)) (pgs_cons (pg_name nd rfl (by first | exact Or.inl rfl | exact Or.inr rfl)) pgs_nil)))) rfl) ?_
    refine b_seq _ (s_set 4 nd (x_mod (x_div (x_var 1 rfl) x_int (by walk_at "side")) (x_pow x_int x_int (⟨by decide, by decide, by decide⟩)) (by decide)) rfl) ?_
    refine b_seq _ (s_set 5 nd ((x_mod (x_div (x_var 1 rfl) x_int (by walk_at "side")) (x_lenT T.n_len (x_var 2 rfl)) (by omega)).is (by rw [hc, hj])) rfl) ?_
    refine b_seq _ (s_setL 6 nd (l_list0 8 (badC cs j) nd (XN.xd (n_list (a_cons x_int (a_cons (x_add x_int (x_var 4 rfl)) (a_cons x_bool (a_cons x_str (a_cons x_none (a_cons (x_sub (x_neg x_int) (x_var 4 rfl)) a_nil)))))))) (Nat.le_of_ble_eq_true rfl) (fun y hy => ((x_catT (x_catT (x_sliceT (x_var 2 rfl) o_none (o_some (x_var 5 rfl))) (x_tup (a_cons (x_var 8 rfl) a_nil)) (by show _ + 1 ≤ 100000; omega)) (x_sliceT (x_var 2 rfl) (o_some (x_add (x_var 5 rfl) x_int)) o_none) (by rw [List.length_append]; show _ + 1 + _ ≤ 100000; omega)).is (by rw [k3, cut_any] <;> rfl)))) rfl (fun _ => sw_true rfl rfl rfl (by decide +kernel))) (XB.view ?_)
    refine b_seq _ (s_set 7 nd (XN.xd (n_cat (XL.xd (l_list0 8 (fun b => .tuple [b, .int g]) nd (x_var 6 rfl) (Nat.le_of_ble_eq_true rfl) (fun y hy => ((x_tup (a_cons (x_var 8 rfl) (a_cons (x_var 3 rfl) a_nil))).is (by walk_at "el"))))) (XN.xd (n_list (a_cons (x_tup (a_cons (x_var 2 rfl) (a_cons (x_neg x_int) a_nil))) (a_cons (x_tup (a_cons (x_var 2 rfl) (a_cons (x_add x_int (x_var 4 rfl)) a_nil))) (a_cons (x_tup (a_cons (x_var 2 rfl) (a_cons x_bool a_nil))) (a_cons (x_tup (a_cons (XN.xd (n_listT T.n_list (x_var 2 rfl))) (a_cons (x_var 3 rfl) a_nil))) a_nil)))))) (Nat.le_of_ble_eq_true rfl))) rfl) ?_
    refine b_one (s_ret (x_ixL (XN.xd (n_cat (x_var 7 rfl) (XN.xd (n_list (a_cons (XN.xd (n_list (a_cons (x_var 2 rfl) (a_cons (x_var 3 rfl) a_nil)))) (a_cons (x_tup (a_cons (x_var 2 rfl) a_nil)) (a_cons (x_tup (a_cons (x_sliceT (x_var 2 rfl) o_none (o_some x_int)) (a_cons (x_var 3 rfl) a_nil))) (a_cons (x_tup (a_cons (x_repT (x_tup (a_cons x_int a_nil)) x_int (⟨by decide, by decide, by decide, by simp⟩)) (a_cons (x_var 3 rfl) a_nil))) a_nil)))))) (Nat.le_of_ble_eq_true rfl))) (x_mod (x_var 1 rfl) x_int (by walk_at "side")) (at_getD h14.1 h14.2)) ?_)
    rw [k4] <;> rfl
abbrev R_Reader___init__ (K : PySem.W.Frag) (cs : Cs) (as : List Cv) (M : OutC) : Prop := ∃ (a : Addr) (p m : Dt), cs = [(a, .ins (ga K "Reader") [])] ∧ as = [.r a, .d p, .d m] ∧ ((planB p = false ∧ M = fun o cs' => o = .exc (ga K "BadPlan")) ∨ (planB p = true ∧ isIn m 0 60 = false ∧ M = fun o cs' => o = .exc (ga K "BadCount")) ∨ ∃ (ps : List Int) (g n : Int), p = pd ps g ∧ m = .int n ∧ PlanOk ps g ∧ (0 ≤ n ∧ n ≤ 60) ∧ M = fun o cs' => o = .ret .none ∧ ∃ l, cs' = rC (ga K "Reader") a (pd ps g) n whole3.d whole3.d 0 l [])
theorem ok_Reader___init__ (T : Tx K mg) : FnS P w K mg base 4 (He.ma K (ga K "Reader") "__init__") ["self", "plan", "many"] (spC K (R_Reader___init__ K)) := by
  obtain ⟨fd, F⟩ := T.d_Reader___init__
  have nd := sc_Reader___init__.nd
  refine fn_mkC F sc_Reader___init__ (F.binds fun _ _ _ _ _ _ us hl => match us, hl with | [_, _, _], _ => rfl) (fun cs as M h => ?_) (fun cdv A outer s H E cs as M hr h tk hp => ?_)
  · obtain ⟨a, p, m, rfl, rfl, h⟩ := h
    rfl
  · have hu := hr.units
    obtain ⟨a, p, m, rfl, rfl, h⟩ := h
    rcases h with ⟨h1, rfl⟩ | ⟨h1, h2, rfl⟩ | ⟨ps, g, n, rfl, rfl, ok, hn, rfl⟩
    · exact b_stop (s_exprE (c_call tk (ok_need_plan T) T.g_need_plan hr (by decide) (a_cons (x_var 1 rfl) a_nil) ⟨_, rfl, by rw [if_neg (by rw [h1]; decide)]⟩) ⟨rfl, ⟨[], rfl⟩⟩)
    · exact b_seq _ (s_expr (x_call (ok_need_plan T) T.g_need_plan hr (by decide) (a_cons (x_var 1 rfl) a_nil) (⟨_, rfl, (if_pos h1).symm⟩)) rfl) (b_stop (s_exprE (c_call tk (ok_need_many T) T.g_need_many hr (by decide) (a_cons (x_var 2 rfl) a_nil) ⟨_, rfl, by rw [if_neg (by rw [h2]; decide)]⟩) ⟨rfl, ⟨[], rfl⟩⟩))
    · have h1 := planB_pd ok
      have h2 : isIn (.int n) 0 60 = true := decide_eq_true hn
      exact b_seq _ (s_expr (x_call (ok_need_plan T) T.g_need_plan hr (by decide) (a_cons (x_var 1 rfl) a_nil) (⟨_, rfl, (if_pos h1).symm⟩)) rfl) (b_seq _ (s_expr (x_call (ok_need_many T) T.g_need_many hr (by decide) (a_cons (x_var 2 rfl) a_nil) (⟨_, rfl, (if_pos h2).symm⟩)) rfl) (b_seq _ (s_fld 3 (r_var 0) (x_var 1 rfl) rfl rfl T.c_Reader T.a_Reader_plan) (b_seq _ (s_fld 3 (r_var 0) (x_var 2 rfl) rfl rfl T.c_Reader T.a_Reader_many) (b_seq _ (s_fld 3 (r_var 0) (x_gtup T.g_WHOLE T.w_WHOLE (fun _ => .cons (.int _) (.cons (.int _) (.cons (.int _) .nil)))) rfl rfl T.c_Reader T.a_Reader_stretch) (b_seq _ (s_fld 3 (r_var 0) (x_gtup T.g_WHOLE T.w_WHOLE (fun _ => .cons (.int _) (.cons (.int _) (.cons (.int _) .nil)))) rfl rfl T.c_Reader T.a_Reader_goal) (b_seq _ (s_fld 3 (r_var 0) x_int rfl rfl T.c_Reader T.a_Reader_taken) (b_one (s_fldN 3 (fun l => r_var 0) (n_list a_nil) rfl (fun l => ⟨⟨rfl, l, rfl⟩, ⟨[l], rfl⟩⟩) T.c_Reader T.a_Reader_signs))))))))
abbrev R_Reader_lacking (K : PySem.W.Frag) (cs : Cs) (as : List Cv) (o : Out) : Prop := ∃ (a l : Addr) (p s g : Dt) (n t : Int) (xs : List Dt), cs = rC (ga K "Reader") a p n s g t l xs ∧ as = [.r a] ∧ o = .ret (.int (n - xs.length))
theorem ok_Reader_lacking (T : Tx K mg) : FnS P w K mg base 1 (He.ma K (ga K "Reader") "lacking") ["self"] (spK K (R_Reader_lacking K)) := by
  obtain ⟨fd, F⟩ := T.d_Reader_lacking
  have nd := sc_Reader_lacking.nd
  refine fn_mkK F sc_Reader_lacking (F.binds fun _ _ _ _ _ _ us hl => match us, hl with | [_], _ => rfl) (fun cs as o h => ?_) (fun cdv A outer s H E cs as o hr h tk hp => ?_)
  · obtain ⟨a, l, p, s0, g, n, t, xs, rfl, rfl, rfl⟩ := h
    rfl
  · have hu := hr.units
    obtain ⟨a, l, p, s0, g, n, t, xs, rfl, rfl, rfl⟩ := h
    exact b_one (s_ret (x_sub (x_fld 1 (r_var 0) (by first | exact Or.inl rfl | exact Or.inr rfl) rfl T.c_Reader T.a_Reader_many) (x_lenS T.n_len (ls_cel 2 (r_fld 1 (r_var 0) (by first | exact Or.inl rfl | exact Or.inr rfl) rfl T.c_Reader T.a_Reader_signs) (by first | exact Or.inl rfl | exact Or.inr rfl)))) rfl)
abbrev R_Reader_told (K : PySem.W.Frag) (cs : Cs) (as : List Cv) (o : Out) : Prop := ∃ (a l : Addr) (p s g : Dt) (n t : Int) (xs : List Dt), cs = rC (ga K "Reader") a p n s g t l xs ∧ as = [.r a] ∧ o = .new xs
theorem ok_Reader_told (T : Tx K mg) : FnS P w K mg base 1 (He.ma K (ga K "Reader") "told") ["self"] (spK K (R_Reader_told K)) := by
  obtain ⟨fd, F⟩ := T.d_Reader_told
  have nd := sc_Reader_told.nd
  refine fn_mkK F sc_Reader_told (F.binds fun _ _ _ _ _ _ us hl => match us, hl with | [_], _ => rfl) (fun cs as o h => ?_) (fun cdv A outer s H E cs as o hr h tk hp => ?_)
  · obtain ⟨a, l, p, s0, g, n, t, xs, rfl, rfl, rfl⟩ := h
    rfl
  · have hu := hr.units
    obtain ⟨a, l, p, s0, g, n, t, xs, rfl, rfl, rfl⟩ := h
    exact b_one (s_retN (n_listS T.n_list (ls_cel 2 (r_fld 1 (r_var 0) (by first | exact Or.inl rfl | exact Or.inr rfl) rfl T.c_Reader T.a_Reader_signs) (by first | exact Or.inl rfl | exact Or.inr rfl))) rfl)
abbrev R_Reader_take (K : PySem.W.Frag) (cs : Cs) (as : List Cv) (M : OutC) : Prop := ∃ (a l : Addr) (q : St) (g : Int) (n : Nat) (f xs : List Int) (d : Dt), cs = rC (ga K "Reader") a (pd q.cs g) (n : Int) q.s.d (fig f).d (f.length : Int) l (lsI xs) ∧ as = [.r a, .d d] ∧ noZ d = true ∧ QOk g xs.length q ∧ xs.length ≤ n ∧ n ≤ 60 ∧ Bin f ∧ f.length ≤ 4000 ∧ (((figB d = false ∨ ∃ f2, d = .list (lsI f2) ∧ Bin f2 ∧ f2.length ≤ 4000 ∧ 4000 < f.length + f2.length) ∧ M = fun o cs' => o = .exc (ga K "BadFigures") ∧ cs' = cs) ∨ ∃ f2, d = .list (lsI f2) ∧ Bin f2 ∧ f.length + f2.length ≤ 4000 ∧ M = fun o cs' => o = .new (lsI (signsBy g (fig (f ++ f2)) (n - xs.length) q).1) ∧ cs' = rC (ga K "Reader") a (pd (signsBy g (fig (f ++ f2)) (n - xs.length) q).2.cs g) (n : Int) (signsBy g (fig (f ++ f2)) (n - xs.length) q).2.s.d (fig (f ++ f2)).d ((f.length : Int) + f2.length) l (lsI xs ++ lsI (signsBy g (fig (f ++ f2)) (n - xs.length) q).1))
theorem ok_Reader_take (T : Tx K mg) : FnS P w K mg base 4 (He.ma K (ga K "Reader") "take") ["self", "figures"] (spC K (R_Reader_take K)) := by
  obtain ⟨fd, F⟩ := T.d_Reader_take
  have nd := sc_Reader_take.nd
  refine fn_mkC F sc_Reader_take (F.binds fun _ _ _ _ _ _ us hl => match us, hl with | [_, _], _ => rfl) (fun cs as M h => ?_) (fun cdv A outer s H E cs as M hr h tk hp => ?_)
  · obtain ⟨a, l, q, g, n, f0, xs, d, rfl, rfl, hz, qk, hx, hn, hf, hl, h⟩ := h
    rfl
  · have hu := hr.units
    obtain ⟨a, l, q, g, n, f0, xs, d, rfl, rfl, hz, qk, hx, hn, hf, hl, h⟩ := h
    rcases h with ⟨h1 | ⟨f2, rfl, hf2, hl2, h3⟩, rfl⟩ | ⟨f2, rfl, hf2, h3, rfl⟩
    · exact b_stop (s_exprE (c_call tk (ok_need_figures T) T.g_need_figures hr (by decide) (a_cons (x_var 1 rfl) a_nil) ⟨_, rfl, hz, by rw [if_neg (by rw [h1]; decide)]⟩) ⟨⟨rfl, rfl⟩, ⟨[], rfl⟩⟩)
    · exact b_seq _ (s_expr (x_call (ok_need_figures T) T.g_need_figures hr (by decide) (a_cons (x_var 1 rfl) a_nil) (⟨_, rfl, rfl, by rw [if_pos (figB_of hf2 hl2)]⟩)) rfl) (b_yes (t_gt (x_add (x_fld 4 (r_var 0) (by first | exact Or.inl rfl | exact Or.inr rfl) rfl T.c_Reader T.a_Reader_taken) (x_lenL T.n_len (x_var 1 rfl))) (x_gint T.i_MOST_FIGURES)) (b_one (s_raise tk T.x_BadFigures T.g_BadFigures (by exact ⟨⟨rfl, rfl⟩, pre2⟩))) (decide_eq_true (by rw [List.length_map]; omega)))
    · refine b_seq _ (s_expr (x_call (ok_need_figures T) T.g_need_figures hr (by decide) (a_cons (x_var 1 rfl) a_nil) (⟨_, rfl, rfl, by rw [if_pos (figB_of hf2 (by omega))]⟩)) rfl) (b_skip (t_gt (x_add (x_fld 4 (r_var 0) (by first | exact Or.inl rfl | exact Or.inr rfl) rfl T.c_Reader T.a_Reader_taken) (x_lenL T.n_len (x_var 1 rfl))) (x_gint T.i_MOST_FIGURES)) ?_ (decide_eq_false (by rw [List.length_map]; omega)))
      refine b_seq [.v (.ref a), .d (.list (lsI f2)), .no, .no, .cell a (.ins (ga K "Reader") (rF (pd q.cs g) (n : Int) q.s.d (fig f0).d ((f0.length : Int) + f2.length) l)), .cell l (.lst ((lsI xs).map Cv.d))] (s_fld 4 (r_var 0) (x_add (x_fld 4 (r_var 0) (by first | exact Or.inl rfl | exact Or.inr rfl) rfl T.c_Reader T.a_Reader_taken) (x_lenL T.n_len (x_var 1 rfl))) rfl (by rw [List.length_map] <;> rfl) T.c_Reader T.a_Reader_taken) ?_
      refine b_cons (fun en => ∃ z, en = [.v (.ref a), .d (.list (lsI f2)), z, .no, .cell a (.ins (ga K "Reader") (rF (pd q.cs g) (n : Int) q.s.d (fig (f0 ++ f2)).d ((f0.length : Int) + f2.length) l)), .cell l (.lst ((lsI xs).map Cv.d))]) ?_ ?_
      · refine s_forL 2 nd hp (x_var 1 rfl) (fun i en => ∃ z, en = [.v (.ref a), .d (.list (lsI f2)), z, .no, .cell a (.ins (ga K "Reader") (rF (pd q.cs g) (n : Int) q.s.d (fig (f0 ++ f2.take i)).d ((f0.length : Int) + f2.length) l)), .cell l (.lst ((lsI xs).map Cv.d))]) ⟨_, by rw [List.take_zero, List.append_nil] <;> rfl⟩ ?_ ?_
        · rintro i y en' hy ⟨z, rfl⟩
          obtain ⟨x, hx, rfl⟩ := ints_get hy
          have bb := fig_bits (m := 4001) (bin_app hf fun b hb => hf2 b (List.mem_of_mem_take hb) : Bin (f0 ++ f2.take i)) (by rw [List.length_append, List.length_take]; omega)
          refine b_one (s_fld 4 (r_var 0) (x_call (ok_longer T) T.g_longer hr (by decide) (a_cons (x_fld 4 (r_var 0) (by first | exact Or.inl rfl | exact Or.inr rfl) rfl T.c_Reader T.a_Reader_goal) (a_cons (x_var 2 rfl) a_nil)) (⟨fig (f0 ++ f2.take i), _, 4001, rfl, ⟨bb, by decide⟩, rfl⟩)) rfl ⟨.d (.int x), ?_⟩ T.c_Reader T.a_Reader_goal)
          rw [take_snoc hx, ← List.append_assoc, fig_long] <;> rfl
        · rintro en' ⟨z, rfl⟩
          rw [List.length_map, List.take_length]
          exact ⟨_, rfl⟩
      · rintro en' ⟨z, rfl⟩
        refine XB.forget 2 ?_
        have bb := fig_bits (m := 5000) (bin_app hf hf2) (by rw [List.length_append]; omega)
        have sl := (signsBy_ok (g := g) (goal := fig (f0 ++ f2)) (m := n - xs.length) qk).2
        have r3 : ∀ r : List Int × St, r.1.length ≤ 60 → XB (dc P w K mg base ["self", "figures", "figure", "found"] "Reader.take" (defScope s_Reader_take) (He.ma K (ga K "Reader") "take") cdv A s) (dv P w "Reader.take" (defScope s_Reader_take) (He.ma K (ga K "Reader") "take") cdv A outer s H E) (fnW E) ((defBody s_Reader_take).drop 5) [.v (.ref a), .d (.list (lsI f2)), .no, .own (lsI r.1), .cell a (.ins (ga K "Reader") (rF (pd r.2.cs g) (n : Int) r.2.s.d (fig (f0 ++ f2)).d ((f0.length : Int) + f2.length) l)), .cell l (.lst ((lsI xs).map Cv.d))] (fnPoC (rC (ga K "Reader") a (pd q.cs g) (n : Int) q.s.d (fig f0).d (f0.length : Int) l (lsI xs)) fun o cs' => o = .new (lsI r.1) ∧ cs' = rC (ga K "Reader") a (pd r.2.cs g) (n : Int) r.2.s.d (fig (f0 ++ f2)).d ((f0.length : Int) + f2.length) l (lsI xs ++ lsI r.1)) := fun r hr5 =>
          b_seq _ (s_ext 5 (r_fld 4 (r_var 0) (by first | exact Or.inl rfl | exact Or.inr rfl) rfl T.c_Reader T.a_Reader_signs) rfl (ls_own 3) (by rw [List.length_map, List.length_map]; omega) rfl) (b_one (s_retO 3 rfl (by exact ⟨⟨rfl, rfl⟩, pre2⟩)))
        refine b_seq _ (s_unpF 4 3 (ok_signs_by T) T.g_signs_by hr (by decide) (a_cons (x_fld 4 (r_var 0) (by first | exact Or.inl rfl | exact Or.inr rfl) rfl T.c_Reader T.a_Reader_plan) (a_cons (x_fld 4 (r_var 0) (by first | exact Or.inl rfl | exact Or.inr rfl) rfl T.c_Reader T.a_Reader_stretch) (a_cons ((x_methK 4 (ok_Reader_lacking T) T.c_Reader T.m_Reader_lacking hr (by decide) (r_var 0) (by first | exact Or.inl rfl | exact Or.inr rfl) rfl (cin_cons 4 (by first | exact Or.inl rfl | exact Or.inr rfl) (cin_cons 5 (by first | exact Or.inl rfl | exact Or.inr rfl) cin_nil)) ⟨_, _, _, _, _, _, _, _, rfl, rfl, rfl⟩).is (d := .int ((n - xs.length : Nat) : Int)) (by rw [List.length_map]; congr 1; omega)) (a_cons (x_fld 4 (r_var 0) (by first | exact Or.inl rfl | exact Or.inr rfl) rfl T.c_Reader T.a_Reader_goal) a_nil)))) ⟨q, g, fig (f0 ++ f2), xs.length, n - xs.length, rfl, qk.p, qk.s, by omega, bb, rfl⟩ (r_var 0) (r_var 0) rfl rfl T.c_Reader T.a_Reader_plan T.a_Reader_stretch (fun _ _ _ _ h h1 h2 => ps_asg h (pg_tup rfl (pgs_cons (pg_name nd rfl (Or.inl rfl)) (pgs_cons (pg_fld h1) (pgs_cons (pg_fld h2) pgs_nil)))))) ?_
        exact r3 (signsBy g (fig (f0 ++ f2)) (n - xs.length) q) (by omega)
abbrev R__law_certain (as : List Dt) (o : Out) : Prop := ∃ (cs : List Int) (g : Int) (n : Nat) (f : List Int), as = [pd cs g, .int (n : Int), .list (lsI f)] ∧ PlanOk cs g ∧ n ≤ 60 ∧ Bin f ∧ f.length ≤ 4000 ∧ o = .new (lsI (certL cs g n f))
theorem ok__law_certain (T : Tx K mg) : Fn P w K mg base 2 (ga K "_law_certain") ["_law_plan_here", "_law_many", "_law_figures"] (R__law_certain) := by
  obtain ⟨fd, F⟩ := T.d__law_certain
  have nd := sc__law_certain.nd
  refine fn_mk F sc__law_certain (F.binds fun _ _ _ _ _ _ us hl => match us, hl with | [_, _, _], _ => rfl) (fun as o h => ?_) (fun cdv A outer s H E as o hr h tk hp => ?_)
  · obtain ⟨cs, g, m0, F0, rfl, ok0, hn, hF, hl, rfl⟩ := h
    rfl
  · have hu := hr.units
    obtain ⟨cs, g, m0, F0, rfl, ok0, hn, hF, hl, rfl⟩ := h
    have hg := fig_bits (m := 5000) hF (by omega)
    refine b_seq _ (s_set 3 nd (x_call (ok__law_figured T) T.g__law_figured hr (by decide) (a_cons (x_var 2 rfl) a_nil) (⟨F0, rfl, hF, by omega, rfl⟩)) rfl) (b_seq _ (s_setN 4 nd (n_list a_nil) rfl) (b_seq _ (s_set 5 nd (x_tup (a_cons x_int (a_cons x_int (a_cons x_int a_nil)))) rfl) ?_))
    have ce : certL cs g m0 F0 = (signsBy g (fig F0) m0 (st0 cs)).1 := rfl
    rw [ce]
    generalize fig F0 = goal at hg ⊢
    refine b_cons (fun en => ∃ z0 z1 z2 z3 z5 z6 z7 z8 z9 z10, en = [z0, z1, z2, z3, .own (lsI (signsBy g goal m0 (st0 cs)).1), z5, z6, z7, z8, z9, z10]) ?_ ?_
    · refine s_while hp (fun m en => ∃ (q : St) (f : List Int) (z6 z7 z8 z9 z10 : Sv), m + f.length = m0 ∧ PlanOk q.cs g ∧ S3Ok f.length q.s ∧ signsBy g goal m0 (st0 cs) = (f ++ (signsBy g goal m q).1, (signsBy g goal m q).2) ∧ en = [.d (pd q.cs g), .d (.int (m0 : Int)), .d (.list (lsI F0)), .d goal.d, .own (lsI f), .d q.s.d, z6, z7, z8, z9, z10]) ⟨m0, st0 cs, [], _, _, _, _, _, rfl, ok0, whole_ok, rfl, rfl⟩ ?_
      rintro m en' ⟨q, f, z6, z7, z8, z9, z10, hm, ok, r1, he, rfl⟩
      refine ⟨decide (f.length < m0), (t_view (t_lt (x_lenL T.n_len (x_var 4 rfl)) (x_var 1 rfl))).is ?_, fun hb => ?_, fun hb => ?_⟩
      · rw [List.length_map, decide_eq_decide]
        omega
      · have hlt := of_decide_eq_true hb
        obtain ⟨m', rfl⟩ : ∃ m', m = m' + 1 := ⟨m - 1, by omega⟩
        have bq := (r1.bits (by omega)).up (by decide : 1400 ≤ 5000)
        have hk := ok.len
        have hc : ((lsI q.cs).length : Int) = (q.cs.length : Int) := len_ints
        refine b_seq _ (s_set 6 nd (x_sumT T.n_sum ((x_ixT (x_var 0 rfl) x_int (by walk_at "ix")).is rfl)) rfl) (b_seq _ (s_setN 7 nd (n_list a_nil) rfl) (b_cons (fun en => ∃ z8 z9 z10, en = [.d (pd q.cs g), .d (.int (m0 : Int)), .d (.list (lsI F0)), .d goal.d, .own (lsI f), .d q.s.d, .d (.int q.cs.sum), .own ((partsUp q.cs q.s goal q.cs.length).map (partD q.s q.cs)), z8, z9, z10]) ?_ ?_))
        · refine s_forR 8 nd hp ((x_lenT T.n_len (x_ixT (x_var 0 rfl) x_int (by walk_at "ix"))).is (by rw [hc])) ⟨by omega, by omega⟩ T.n_range (fun i en => ∃ z8 z9 z10, en = [.d (pd q.cs g), .d (.int (m0 : Int)), .d (.list (lsI F0)), .d goal.d, .own (lsI f), .d q.s.d, .d (.int q.cs.sum), .own ((partsUp q.cs q.s goal i).map (partD q.s q.cs)), z8, z9, z10]) ⟨_, _, _, rfl⟩ ?_ ?_
          · rintro i en' hi ⟨z8, z9, z10, rfl⟩
            have h0 : 0 ≤ (i : Int) := by omega
            have sh := share_ok ok h0 hi
            have bt := r1.bits (by omega)
            have b2 := ((part_ok r1 sh).bits (by omega)).up (by decide : 1400 ≤ 5000)
            refine b_seq _ (s_set 9 nd (x_sumT T.n_sum ((x_sliceT (x_ixT (x_var 0 rfl) x_int (by walk_at "ix")) o_none (o_some (x_var 8 rfl))).is (cut_take h0 hi))) rfl) ?_
            refine b_seq _ (s_set 10 nd ((x_tup (a_cons (x_add (x_mulW (x_ixT (x_var 5 rfl) x_int (by walk_at "ix")) (x_var 6 rfl) (wide_mulN bt.l sh.bt (by decide))) (x_mulW (x_ixT (x_var 5 rfl) x_int (by walk_at "ix")) (x_var 9 rfl) (wide_mulN bt.w sh.bb (by decide)))) (a_cons (x_mulW (x_ixT (x_var 5 rfl) x_int (by walk_at "ix")) (x_ixT (x_ixT (x_var 0 rfl) x_int (by walk_at "ix")) (x_var 8 rfl) (at_ints h0 hi)) (wide_mulN bt.w sh.bc (by decide))) (a_cons (x_mulW (x_ixT (x_var 5 rfl) x_int (by walk_at "ix")) (x_var 6 rfl) (wide_mulN bt.a sh.bt (by decide))) a_nil)))).is (d := (partJ q.s q.cs i).d) rfl) rfl) ?_
            by_cases hq : in3 goal (partJ q.s q.cs i) = true
            · refine b_one (s_if (t_val (x_call (ok__law_within T) T.g__law_within hr (by decide) (a_cons (x_var 3 rfl) (a_cons (x_var 10 rfl) a_nil)) (⟨goal, partJ q.s q.cs i, 5000, rfl, ⟨hg, by decide⟩, ⟨b2, by decide⟩, rfl⟩))) (fun _ => b_one (s_append 7 rfl (x_tup (a_cons (x_var 8 rfl) (a_cons (x_var 10 rfl) a_nil))) ⟨.d (.int (i : Int)), .d (.int (below q.cs (i : Int))), .d (partJ q.s q.cs i).d, ?_⟩ (by rw [List.length_map]; have := parts_len (cs := q.cs) (s := q.s) (goal := goal) (i := i); omega))) fun z => absurd (hq.symm.trans z) (by decide))
              rw [parts_yes hq, List.map_append] <;> rfl
            · refine b_one (s_if (t_val (x_call (ok__law_within T) T.g__law_within hr (by decide) (a_cons (x_var 3 rfl) (a_cons (x_var 10 rfl) a_nil)) (⟨goal, partJ q.s q.cs i, 5000, rfl, ⟨hg, by decide⟩, ⟨b2, by decide⟩, rfl⟩))) (fun z => absurd z hq) fun _ => b_nil ⟨.d (.int (i : Int)), .d (.int (below q.cs (i : Int))), .d (partJ q.s q.cs i).d, ?_⟩)
              rw [parts_no (Bool.eq_false_iff.mpr hq)] <;> rfl
          · rintro en' ⟨z8, z9, z10, rfl⟩
            exact ⟨_, _, _, rfl⟩
        · rintro en' ⟨z8, z9, z10, rfl⟩
          have pn := parts_next (cs := q.cs) (s := q.s) (goal := goal)
          refine XB.openAt 7 (b_cons (fun en => en = [.d (pd q.cs g), .d (.int (m0 : Int)), .d (.list (lsI F0)), .d goal.d, .own (lsI f), .d q.s.d, .d (.int q.cs.sum), .d (.list ((partsUp q.cs q.s goal q.cs.length).map (partD q.s q.cs))), z8, z9, z10] ∧ partsUp q.cs q.s goal q.cs.length ≠ []) ?_ ?_)
          · cases hj : partsUp q.cs q.s goal q.cs.length with
            | nil =>
              rw [hj] at pn
              refine s_if (b := true) ((t_eq hu (x_var 7 rfl) (XN.xd (n_list a_nil)) (rfl) (by walk_at "shaped")).is rfl) (fun _ => b_one (s_retO 4 rfl ?_)) fun z => by cases z
              show Out.new _ = Out.new _
              rw [he, signsBy_none pn, List.append_nil]
            | cons j r =>
              rw [hj] at pn
              exact s_if (b := false) ((t_eq hu (x_var 7 rfl) (XN.xd (n_list a_nil)) (sh_parts (L := j :: r)) (by walk_at "shaped")).is rfl) (fun z => by cases z) fun _ => b_nil ⟨rfl, by simp⟩
          · rintro en' ⟨rfl, hne⟩
            obtain ⟨j, r, hj⟩ : ∃ j r, partsUp q.cs q.s goal q.cs.length = j :: r := by
              cases h : partsUp q.cs q.s goal q.cs.length with
              | nil => exact absurd h hne
              | cons j r => exact ⟨j, r, rfl⟩
            rw [hj] at pn ⊢
            have pj : nextJ q.cs q.s goal = some j := pn
            obtain ⟨jl, _⟩ := nextJ_lt pj
            have j0 : 0 ≤ (j : Int) := by omega
            have j1 : (j : Int) < (q.cs.length : Int) := by omega
            have at0 : atI ((j :: r).map (partD q.s q.cs)) 0 = some (partD q.s q.cs j) := at_nat (by decide) rfl
            refine b_seq _ (s_append 4 rfl (x_ixT (x_ixL (x_var 7 rfl) x_int (at0)) x_int (rfl)) rfl (by rw [List.length_map]; omega)) (b_seq _ (s_set 5 nd ((x_ixT (x_ixL (x_var 7 rfl) x_int (at0)) x_int (rfl)).is (d := (partJ q.s q.cs j).d) rfl) rfl) (b_one (s_set 0 nd (x_call (ok__law_behind T) T.g__law_behind hr (by decide) (a_cons (x_var 0 rfl) (a_cons (x_view (x_ixL (x_var 4 rfl) (x_neg x_int) (at_last))) a_nil)) ⟨_, _, _, rfl, j0, j1, rfl⟩) ⟨m', Nat.lt_succ_self _, q.step g (j : Int), f ++ [(j : Int)], .d (.int q.cs.sum), .d (.list ((j :: r).map (partD q.s q.cs))), z8, z9, z10, ?_, bump_ok ok j0 j1, ?_, ?_, ?_⟩)))
            · rw [List.length_append, List.length_singleton]; omega
            · rw [List.length_append, List.length_singleton]
              exact part_ok r1 (share_ok ok j0 j1)
            · rw [he, signsBy_some pj, List.append_assoc] <;> rfl
            · rw [ints_app] <;> rfl
      · have hge := of_decide_eq_false hb
        have m0e : m = 0 := by omega
        subst m0e
        have e2 : signsBy g goal m0 (st0 cs) = (f, q) := by
          rw [he]
          show (f ++ [], q) = _
          rw [List.append_nil]
        show ∃ z0 z1 z2 z3 z5 z6 z7 z8 z9 z10, _ = _
        rw [e2]
        exact ⟨_, _, _, _, _, _, _, _, _, _, rfl⟩
    · rintro en' ⟨z0, z1, z2, z3, z5, z6, z7, z8, z9, z10, rfl⟩
      exact b_one (s_retO 4 rfl rfl)
abbrev R__law_refused (as : List Dt) (o : Out) : Prop := ∃ (ps : List Int) (g c : Int), as = [pd ps g, .int c] ∧ PlanOk ps g ∧ o = .ret (.bool true)
theorem ok__law_refused (T : Tx K mg) : Fn P w K mg base 6 (ga K "_law_refused") ["_law_plan_here", "_law_cell"] (R__law_refused) := by
  obtain ⟨fd, F⟩ := T.d__law_refused
  have nd := sc__law_refused.nd
  refine fn_mk F sc__law_refused (F.binds fun _ _ _ _ _ _ us hl => match us, hl with | [_, _], _ => rfl) (fun as o h => ?_) (fun cdv A outer s H E as o hr h tk hp => ?_)
  · obtain ⟨ps, g, c, rfl, ok, rfl⟩ := h
    rfl
  · have hu := hr.units
    obtain ⟨ps, g, c, rfl, ok, rfl⟩ := h
    have h6 : 0 ≤ c % 6 ∧ c % 6 < 6 := ⟨Int.emod_nonneg _ (by decide), Int.emod_lt_of_pos _ (by decide)⟩
    refine b_seq _ (s_set 2 nd ((x_ixL (XN.xd (n_list (a_cons (x_neg x_int) (a_cons x_int (a_cons x_bool (a_cons x_none (a_cons x_str (a_cons (x_add x_int (x_mod (x_div (x_var 1 rfl) x_int (by walk_at "side")) (x_pow x_int x_int (⟨by decide, by decide, by decide⟩)) (by decide))) a_nil)))))))) (x_mod (x_var 1 rfl) x_int (by walk_at "side")) (at_getD h6.1 h6.2)).is (d := (noCt6 (far20 (c / 6))).getD (c % 6).toNat .none) rfl) rfl) ?_
    have nc := noCt6_bad (far_ge (c / 6)) _ (getD_in (d := .none) (show (c % 6).toNat < 6 by omega))
    generalize (noCt6 (far20 (c / 6))).getD (c % 6).toNat .none = xc at nc ⊢
    refine b_seq _ (s_set 3 nd (XN.xd (n_list a_nil)) rfl) ?_
    have hpl := planB_pd ok
    refine b_cons (fun en => ∃ z4 z5 z6, en = [.d (pd ps g), .d (.int c), .d xc, .d (.list [.str "plan", .str "count"]), z4, z5, z6]) ?_ ?_
    · refine s_forL2 4 5 nd hp (XN.xd (n_list (a_cons (x_tup (a_cons (x_call (ok__law_no_plan T) T.g__law_no_plan hr (by decide) (a_cons (x_var 0 rfl) (a_cons (x_div (x_var 1 rfl) x_int (by walk_at "side")) a_nil)) (⟨_, _, _, rfl, ok, rfl⟩)) (a_cons (x_var 2 rfl) a_nil))) (a_cons (x_tup (a_cons (x_var 0 rfl) (a_cons (x_var 2 rfl) a_nil))) a_nil)))) (by intro z hz; simp only [List.mem_cons, List.not_mem_nil, or_false] at hz; rcases hz with rfl | rfl <;> exact ⟨_, _, rfl⟩) (fun i en => ∃ z4 z5 z6, en = [.d (pd ps g), .d (.int c), .d xc, .d (.list (([.str "plan", .str "count"] : List Dt).take i)), z4, z5, z6]) ⟨.no, .no, .no, rfl⟩ ?_ ?_ rfl rfl rfl (fun q => pg_tup rfl (pgs_cons (pg_name nd rfl (by first | exact Or.inl rfl | exact Or.inr rfl)) (pgs_cons (pg_name nd rfl (by first | exact Or.inl rfl | exact Or.inr rfl)) pgs_nil)))
      · rintro i d1 d2 en' hy ⟨z4, z5, z6, rfl⟩
        match i, hy with
        | 0, hy =>
          cases hy
          refine b_one (s_try 6 nd tk T.g_PressError fun W' => b_one (s_exprG (g_make (N := fun o en' => o = .exc (ga K "BadPlan") ∧ en' = [.d (pd ps g), .d (.int c), .d xc, .d (.list []), .d (noPlan ps g (c / 6)), .d xc, z6]) (fun q => q.2.1) (ok_Reader___init__ T) T.k_Reader T.g_Reader hr (by decide) (ar_d (x_var 4 rfl) (ar_d (x_var 5 rfl) ar_nil)) fun y => ⟨_, ⟨y, _, _, rfl, rfl, .inl ⟨noPlan_bad, rfl⟩⟩, by rintro o cs' rfl; exact ⟨rfl, rfl⟩⟩) ?_))
          rintro o en' ⟨rfl, rfl⟩
          exact ⟨T.m_BadPlan, fun a => b_one (s_set 3 nd (n_cat (x_var 3 rfl) (su_n 6 (ok__law_word_BadPlan T) T.g__law_word hr (by decide) rfl).xd (by decide)).xd ⟨_, _, .no, rfl⟩)⟩
        | 1, hy =>
          cases hy
          refine b_one (s_try 6 nd tk T.g_PressError fun W' => b_one (s_exprG (g_make (N := fun o en' => o = .exc (ga K "BadCount") ∧ en' = [.d (pd ps g), .d (.int c), .d xc, .d (.list [.str "plan"]), .d (pd ps g), .d xc, z6]) (fun q => q.2.1) (ok_Reader___init__ T) T.k_Reader T.g_Reader hr (by decide) (ar_d (x_var 4 rfl) (ar_d (x_var 5 rfl) ar_nil)) fun y => ⟨_, ⟨y, _, _, rfl, rfl, .inr (.inl ⟨hpl, nc, rfl⟩)⟩, by rintro o cs' rfl; exact ⟨rfl, rfl⟩⟩) ?_))
          rintro o en' ⟨rfl, rfl⟩
          exact ⟨T.m_BadCount, fun a => b_one (s_set 3 nd (n_cat (x_var 3 rfl) (su_n 6 (ok__law_word_BadCount T) T.g__law_word hr (by decide) rfl).xd (by decide)).xd ⟨_, _, .no, rfl⟩)⟩
      · rintro en' ⟨z4, z5, z6, rfl⟩
        exact ⟨z4, z5, z6, rfl⟩
    · rintro en' ⟨z4, z5, z6, rfl⟩
      exact b_one (s_ret ((x_eq hu (x_var 3 rfl) (XN.xd (n_list (a_cons x_str (a_cons x_str a_nil)))) (by decide +kernel) (by decide +kernel)).is (d := .bool true) (congrArg PyData.bool (by decide +kernel))) rfl)
abbrev R__law_edge (as : List Dt) (o : Out) : Prop := ∃ (ps : List Int) (g x : Int), as = [pd ps g, .int x] ∧ PlanOk ps g ∧ (x = 0 ∨ x = 1) ∧ o = .ret (.bool true)
theorem ok__law_edge (T : Tx K mg) : Fn P w K mg base 6 (ga K "_law_edge") ["_law_plan_here", "_law_figure"] (R__law_edge) := by
  obtain ⟨fd, F⟩ := T.d__law_edge
  have nd := sc__law_edge.nd
  refine fn_mk F sc__law_edge (F.binds fun _ _ _ _ _ _ us hl => match us, hl with | [_, _], _ => rfl) (fun as o h => ?_) (fun cdv A outer s H E as o hr h tk hp => ?_)
  · obtain ⟨ps, g, x, rfl, ok, x01, rfl⟩ := h
    rfl
  · have hu := hr.units
    obtain ⟨ps, g, x, rfl, ok, x01, rfl⟩ := h
    let Z : List Int → Sv → Sv → Addr → Addr → List Sv := fun f w3 w4 b k => [.d (pd ps g), .d (.int x), .v (.ref b), w3, w4, .cell b (.ins (ga K "Reader") (rF (pd ps g) 0 whole3.d (fig f).d (f.length : Int) k)), .cell k (.lst (([] : List Dt).map Cv.d))]
    refine b_cons (fun en => ∃ b k, en = Z [] .no .no b k) (s_setG 2 nd (g_make tk (ok_Reader___init__ T) T.k_Reader T.g_Reader hr (by decide) (ar_d (x_var 0 rfl) (ar_d x_int ar_nil)) (N := fun o en' => ∃ b k, o = .raw (.ref b) ∧ en' = [.d (pd ps g), .d (.int x), .no, .no, .no] ++ (rC (ga K "Reader") b (pd ps g) 0 whole3.d whole3.d 0 k []).map fun p => Sv.cell p.1 p.2) fun y => ⟨_, ⟨y, _, _, rfl, rfl, .inr (.inr ⟨ps, g, 0, rfl, rfl, ok, by decide, rfl⟩)⟩, ?_⟩) ?_) ?_
    · rintro o cs' ⟨rfl, k, rfl⟩
      exact ⟨rfl, y, k, rfl, rfl⟩
    · rintro o en' ⟨b, k, rfl, rfl⟩
      exact ⟨b, k, rfl⟩
    rintro en' ⟨b, k, rfl⟩
    have yes : ∀ f m : List Int, Bin f → Bin m → f.length + m.length ≤ 4000 → R_Reader_take K (rC (ga K "Reader") b (pd ps g) 0 whole3.d (fig f).d (f.length : Int) k []) [.r b, .d (.list (lsI m))] (fun o cs' => o = .new [] ∧ cs' = rC (ga K "Reader") b (pd ps g) 0 whole3.d (fig (f ++ m)).d ((f ++ m).length : Int) k []) := fun f m hf hm hl => ⟨b, k, st0 ps, g, 0, f, [], _, rfl, rfl, rfl, q0_ok ok, Nat.le_refl _, by decide, hf, by omega, .inr ⟨m, rfl, hm, hl, by rw [List.length_append, Int.natCast_add] <;> rfl⟩⟩
    have no : ∀ f m : List Int, Bin f → Bin m → f.length ≤ 4000 → m.length ≤ 4000 → 4000 < f.length + m.length → R_Reader_take K (rC (ga K "Reader") b (pd ps g) 0 whole3.d (fig f).d (f.length : Int) k []) [.r b, .d (.list (lsI m))] (fun o cs' => o = .exc (ga K "BadFigures") ∧ cs' = rC (ga K "Reader") b (pd ps g) 0 whole3.d (fig f).d (f.length : Int) k []) := fun f m hf hm h1 h2 h3 => ⟨b, k, st0 ps, g, 0, f, [], _, rfl, rfl, rfl, q0_ok ok, Nat.le_refl _, by decide, hf, h1, .inl ⟨.inr ⟨m, rfl, hm, h2, h3⟩, rfl⟩⟩
    have bx : ∀ n, Bin (List.replicate n x) := fun n => fig_rep x01
    have by1 : ∀ n, Bin (List.replicate n (1 - x)) := fun n => fig_rep (by omega)
    have F0 : Bin (([] ++ List.replicate 2000 x) ++ List.replicate 1990 (1 - x)) := bin_app (bx _) (by1 _)
    have L0 : (([] ++ List.replicate 2000 x) ++ List.replicate 1990 (1 - x)).length = 3990 := by simp
    refine b_seq (Z (([] ++ List.replicate 2000 x) ++ List.replicate 1990 (1 - x)) .no .no b k) (s_ifG (N := fun z en' => z = false ∧ en' = Z (([] ++ List.replicate 2000 x) ++ List.replicate 1990 (1 - x)) .no .no b k) (XWG.xt (wg_or (N1 := fun z en' => z = false ∧ en' = Z ([] ++ List.replicate 2000 x) .no .no b k) (tg_ne hu (g_meth (N := fun o en' => o = .new [] ∧ en' = Z ([] ++ List.replicate 2000 x) .no .no b k) 5 (fun _ => takesNo) (ok_Reader_take T) T.c_Reader T.m_Reader_take hr (by decide) (r_var 2) (.inl rfl) rfl (as_of (X := fun _ _ => False) (ar_d ((XN.xd (n_rep (XN.xd (n_list (a_cons (x_var 1 rfl) a_nil))) x_int (⟨by decide, by decide, Nat.le_of_ble_eq_true rfl⟩))).is (d := .list (lsI (List.replicate 2000 x))) (by rw [← rep_ints] <;> rfl)) ar_nil)) (fun as en1 h => ?_) (fun _ _ h => h.elim)) fun o en1 h => ?_) fun z en1 h => ?_)) ?_ ?_) ?_
    · obtain ⟨rfl, rfl⟩ := h
      exact ⟨[5, 6], _, _, rfl, by decide, yes [] (List.replicate 2000 x) (fun _ z => by cases z) (bx _) (by simp), by rintro o cs' ⟨rfl, rfl⟩; exact ⟨rfl, rfl⟩⟩
    · obtain ⟨rfl, rfl⟩ := h
      exact ⟨_, (n_list a_nil).xd, rfl, rfl, rfl, rfl⟩
    · obtain ⟨rfl, rfl⟩ := h
      refine wg_or1 (tg_ne hu (g_meth (N := fun o en' => o = .new [] ∧ en' = Z (([] ++ List.replicate 2000 x) ++ List.replicate 1990 (1 - x)) .no .no b k) 5 (fun _ => takesNo) (ok_Reader_take T) T.c_Reader T.m_Reader_take hr (by decide) (r_var 2) (.inl rfl) rfl (as_of (X := fun _ _ => False) (ar_d ((XN.xd (n_rep (XN.xd (n_list (a_cons (x_sub x_int (x_var 1 rfl)) a_nil))) x_int (⟨by decide, by decide, Nat.le_of_ble_eq_true rfl⟩))).is (d := .list (lsI (List.replicate 1990 (1 - x)))) (by rw [← rep_ints] <;> rfl)) ar_nil)) (fun as en1 h => ?_) (fun _ _ h => h.elim)) fun o en1 h => ?_)
      · obtain ⟨rfl, rfl⟩ := h
        exact ⟨[5, 6], _, _, rfl, by decide, yes ([] ++ List.replicate 2000 x) (List.replicate 1990 (1 - x)) (bx _) (by1 _) (by simp), by rintro o cs' ⟨rfl, rfl⟩; exact ⟨rfl, rfl⟩⟩
      · obtain ⟨rfl, rfl⟩ := h
        exact ⟨_, (n_list a_nil).xd, rfl, rfl, rfl, rfl⟩
    · rintro en' ⟨z, _⟩
      cases z
    · rintro en' ⟨_, rfl⟩
      exact b_nil rfl
    generalize ([] ++ List.replicate 2000 x) ++ List.replicate 1990 (1 - x) = f0 at F0 L0 ⊢
    refine b_cons (fun en => ∃ f w3 w4, en = Z f w3 w4 b k) ?_ ?_
    · refine s_forT 3 nd hp (x_tup (a_cons x_int (a_cons x_int (a_cons x_int (a_cons x_int a_nil))))) (fun i en => ∃ f w3 w4, Bin f ∧ (f.length = if i < 2 then 3990 else 4000) ∧ en = Z f w3 w4 b k) ⟨f0, .no, .no, F0, L0, rfl⟩ ?_ ?_
      · rintro i y en' hy ⟨f, w3, w4, bf, lf, rfl⟩
        obtain ⟨m, hm, hl⟩ : ∃ m : Nat, y = .int (m : Int) ∧ ((i = 0 ∧ m = 11) ∨ (i = 1 ∧ m = 10) ∨ (i = 2 ∧ m = 1) ∨ (i = 3 ∧ m = 0)) := by
          match i, hy with
          | 0, hy => cases hy; exact ⟨11, rfl, .inl ⟨rfl, rfl⟩⟩
          | 1, hy => cases hy; exact ⟨10, rfl, .inr (.inl ⟨rfl, rfl⟩)⟩
          | 2, hy => cases hy; exact ⟨1, rfl, .inr (.inr (.inl ⟨rfl, rfl⟩))⟩
          | 3, hy => cases hy; exact ⟨0, rfl, .inr (.inr (.inr ⟨rfl, rfl⟩))⟩
        subst hm
        have m11 : m ≤ 11 := by omega
        by_cases hi : i = 0 ∨ i = 2
        · have hm1 : ((m : Int) % 10 = 1) := by omega
          have hno := no f (List.replicate m x) bf (bx m) (by rw [lf]; split <;> decide) (by rw [List.length_replicate]; omega) (by rw [lf, List.length_replicate]; rcases hi with rfl | rfl <;> simp <;> omega)
          refine b_one (s_try 4 nd tk T.g_PressError fun W' => b_one (s_ifX (C := ga K "BadFigures") (en2 := Z f (.d (.int (m : Int))) w4 b k) (tx_or (tx_cmp (g_meth (N := fun o en' => o = .exc (ga K "BadFigures") ∧ en' = Z f (.d (.int (m : Int))) w4 b k) 5 (fun q => q.2.1) (ok_Reader_take T) T.c_Reader T.m_Reader_take hr (by decide) (r_var 2) (.inl rfl) rfl (as_of (X := fun _ _ => False) (ar_d ((XN.xd (n_rep (XN.xd (n_list (a_cons (x_var 1 rfl) a_nil))) (x_var 3 rfl) (⟨by omega, by omega, by show 1 * _ ≤ 100000; omega⟩))).is (d := .list (lsI (List.replicate m x))) (by rw [← rep_ints, Int.toNat_natCast])) ar_nil)) (fun as en1 h => ?_) (fun _ _ h => h.elim)))) ?_))
          · obtain ⟨rfl, rfl⟩ := h
            exact ⟨[5, 6], _, _, rfl, by decide, hno, by rintro o cs' ⟨rfl, rfl⟩; exact ⟨rfl, rfl⟩⟩
          · refine ⟨T.m_BadFigures, fun a => b_one (s_if (b := false) (XT.is (XW.xt (w_or (t_ne hu (x_mod (x_var 3 rfl) x_int (by decide)) x_int rfl rfl) fun _ => w_or1 (t_ne hu (su_n 4 (ok__law_word_BadFigures T) T.g__law_word hr (by decide) rfl).xd (n_list (a_cons x_str a_nil)).xd (by decide +kernel) (by decide +kernel)))) ?_) (fun z => by cases z) fun _ => b_nil ?_)⟩
            · rw [eqv_int, decide_eq_true hm1] <;> rfl
            · refine ⟨f, _, .no, bf, ?_, rfl⟩
              rw [lf]
              rcases hi with rfl | rfl <;> rfl
        · have hm1 : ¬ ((m : Int) % 10 = 1) := by omega
          have hyes := yes f (List.replicate m x) bf (bx m) (by rw [lf, List.length_replicate]; split <;> omega)
          refine b_one (s_try 4 nd tk T.g_PressError fun W' => b_one (s_ifG (N := fun z en' => z = false ∧ en' = Z (f ++ List.replicate m x) (.d (.int (m : Int))) w4 b k) (XWG.xt (wg_or (N1 := fun z en' => z = false ∧ en' = Z (f ++ List.replicate m x) (.d (.int (m : Int))) w4 b k) (tg_ne hu (g_meth (N := fun o en' => o = .new [] ∧ en' = Z (f ++ List.replicate m x) (.d (.int (m : Int))) w4 b k) 5 (fun _ => takesNo) (ok_Reader_take T) T.c_Reader T.m_Reader_take hr (by decide) (r_var 2) (.inl rfl) rfl (as_of (X := fun _ _ => False) (ar_d ((XN.xd (n_rep (XN.xd (n_list (a_cons (x_var 1 rfl) a_nil))) (x_var 3 rfl) (⟨by omega, by omega, by show 1 * _ ≤ 100000; omega⟩))).is (d := .list (lsI (List.replicate m x))) (by rw [← rep_ints, Int.toNat_natCast])) ar_nil)) (fun as en1 h => ?_) (fun _ _ h => h.elim)) fun o en1 h => ?_) fun z en1 h => ?_)) ?_ ?_))
          · obtain ⟨rfl, rfl⟩ := h
            exact ⟨[5, 6], _, _, rfl, by decide, hyes, by rintro o cs' ⟨rfl, rfl⟩; exact ⟨rfl, rfl⟩⟩
          · obtain ⟨rfl, rfl⟩ := h
            exact ⟨_, (n_list a_nil).xd, rfl, rfl, rfl, rfl⟩
          · obtain ⟨rfl, rfl⟩ := h
            exact wg_or1 (tg_t (XT.is (j := false) (t_eq hu (x_mod (x_var 3 rfl) x_int (by walk_at "side")) x_int (by walk_at "shaped") (by walk_at "shaped")) (by rw [eqv_int, decide_eq_false hm1])))
          · rintro en' ⟨z, _⟩
            cases z
          · rintro en' ⟨_, rfl⟩
            refine b_nil ⟨f ++ List.replicate m x, _, _, bin_app bf (bx m), ?_, rfl⟩
            rw [List.length_append, lf, List.length_replicate]
            rcases hl with ⟨rfl, rfl⟩ | ⟨rfl, rfl⟩ | ⟨rfl, rfl⟩ | ⟨rfl, rfl⟩
            · exact absurd (.inl rfl) hi
            · rfl
            · exact absurd (.inr rfl) hi
            · rfl
      · rintro en' ⟨f, w3, w4, _, _, rfl⟩
        exact ⟨f, w3, w4, rfl⟩
    · rintro en' ⟨f, w3, w4, rfl⟩
      exact b_one (s_ret ((x_and (x_eq hu (x_methK 5 (ok_Reader_lacking T) T.c_Reader T.m_Reader_lacking hr (by decide) (r_var 2) (by first | exact Or.inl rfl | exact Or.inr rfl) rfl (cin_cons 5 (by first | exact Or.inl rfl | exact Or.inr rfl) (cin_cons 6 (by first | exact Or.inl rfl | exact Or.inr rfl) cin_nil)) ⟨_, _, _, _, _, _, _, _, rfl, rfl, rfl⟩) x_int (rfl) (rfl)) (fun hb => (x_one (x_eq hu (XN.xd (n_methK 5 (ok_Reader_told T) T.c_Reader T.m_Reader_told hr (by decide) (r_var 2) (by first | exact Or.inl rfl | exact Or.inr rfl) rfl (cin_cons 5 (by first | exact Or.inl rfl | exact Or.inr rfl) (cin_cons 6 (by first | exact Or.inl rfl | exact Or.inr rfl) cin_nil)) ⟨_, _, _, _, _, _, _, _, rfl, rfl, rfl⟩)) (XN.xd (n_list a_nil)) (rfl) (rfl))))).is (d := .bool true) rfl) rfl)
theorem rtake_yes {K : PySem.W.Frag} {cs : List Int} {g : Int} (ok : PlanOk cs g) {n : Nat} (hn : n ≤ 60) {f m : List Int} (bf : Bin f) (bm : Bin m) (hl : f.length + m.length ≤ 4000) (b k : Addr) : R_Reader_take K (rC (ga K "Reader") b (pd (told cs g n f).2.cs g) (n : Int) (told cs g n f).2.s.d (fig f).d (f.length : Int) k (lsI (told cs g n f).1)) [.r b, .d (.list (lsI m))] (fun o cs' => o = .new (lsI ((told cs g n (f ++ m)).1.drop (told cs g n f).1.length)) ∧ cs' = rC (ga K "Reader") b (pd (told cs g n (f ++ m)).2.cs g) (n : Int) (told cs g n (f ++ m)).2.s.d (fig (f ++ m)).d ((f ++ m).length : Int) k (lsI (told cs g n (f ++ m)).1)) := by
  obtain ⟨t1, t2⟩ := told_ok ok (n := n) (f := f)
  have e := told_more ok (n := n) (f := f) bm
  have e1 := congrArg Prod.fst e
  have e2 := congrArg Prod.snd e
  dsimp only at e1 e2
  refine ⟨b, k, (told cs g n f).2, g, n, f, (told cs g n f).1, _, rfl, rfl, rfl, t1, t2, hn, bf, by omega, .inr ⟨m, rfl, bm, hl, ?_⟩⟩
  rw [e1, e2, List.drop_left' rfl, ints_app, List.length_append, Int.natCast_add]
abbrev R__law_made (K : PySem.W.Frag) (cs : Cs) (as : List Cv) (M : OutC) : Prop := ∃ (ns : List Int) (k : Int), cs = [] ∧ as = [.d (fz (lsI ns)), .d (.int k)] ∧ 0 ≤ k ∧ M = fun o cs' => ∃ (A : RA) (D : RS), D.Ok 0 ∧ o = .raw (.ref A.p) ∧ cs' = rD (ga K "Reader") A D
theorem ok__law_made (T : Tx K mg) : FnS P w K mg base 8 (ga K "_law_made") ["_law_script", "_law_k"] (spC K (R__law_made K)) := by
  obtain ⟨fd, F⟩ := T.d__law_made
  have nd := sc__law_made.nd
  refine fn_mkC F sc__law_made (F.binds fun _ _ _ _ _ _ us hl => match us, hl with | [_, _], _ => rfl) (fun cs as M h => ?_) (fun cdv A outer s H E cs as M hr h tk hp => ?_)
  · obtain ⟨ns, k, rfl, rfl, h0, rfl⟩ := h
    rfl
  · have hu := hr.units
    obtain ⟨ns, k, rfl, rfl, h0, rfl⟩ := h
    have ok := plan_ok (cellAt ns k)
    refine b_seq _ (s_set 2 nd (x_call (ok__law_plan T) T.g__law_plan hr (by decide) (a_cons (x_call (ok__law_cell_at T) T.g__law_cell_at hr (by decide) (a_cons (x_var 0 rfl) (a_cons (x_var 1 rfl) a_nil)) ⟨_, _, rfl, by walk_at "side", rfl⟩) a_nil) ⟨_, rfl, rfl⟩) rfl) ?_
    generalize planC (cellAt ns k) = ps at ok ⊢
    generalize planG (cellAt ns k) = g at ok ⊢
    have hk := ok.len
    have st := signsL_ok (c := cellAt ns (2 + k)) (most := 8) (cs := ps) (by omega)
    have l1 := (signsL_len (c := cellAt ns (2 + k)) (kinds := (ps.length : Int)) (most := 8) (by decide)).1
    refine b_seq _ (s_set 3 nd (XN.xd (n_call (ok__law_signs T) T.g__law_signs hr (by decide) (a_cons (x_call (ok__law_cell_at T) T.g__law_cell_at hr (by decide) (a_cons (x_var 0 rfl) (a_cons (x_add x_int (x_var 1 rfl)) a_nil)) ⟨_, _, rfl, by walk_at "side", rfl⟩) (a_cons (x_var 2 rfl) (a_cons x_int a_nil))) (⟨_, _, _, _, rfl, by decide, ok, rfl⟩))) rfl) ?_
    generalize signsL (cellAt ns (2 + k)) (ps.length : Int) 8 = t at st l1 ⊢
    have lt : ((lsI t).length : Int) = (t.length : Int) := len_ints
    have fs := ((run_ok ok _ t rfl st).1).fine (by omega)
    refine b_seq _ (s_set 4 nd ((x_lenL T.n_len (x_var 3 rfl)).is (d := .int (t.length : Int)) (by rw [lt])) rfl) ?_
    obtain ⟨n, hn, n60⟩ : ∃ n : Nat, (n : Int) = (if cellAt ns (4 + k) % 4 = 1 then cellAt ns (4 + k) / 4 % 9 else (t.length : Int)) ∧ n ≤ 60 := by
      by_cases h : cellAt ns (4 + k) % 4 = 1
      · exact ⟨(cellAt ns (4 + k) / 4 % 9).toNat, by rw [if_pos h]; omega, by omega⟩
      · exact ⟨t.length, by rw [if_neg h], by omega⟩
    refine b_if [.d (fz (lsI ns)), .d (.int k), .d (pd ps g), .d (.list (lsI t)), .d (.int (n : Int)), .no] ((t_eq hu (x_mod (x_call (ok__law_cell_at T) T.g__law_cell_at hr (by decide) (a_cons (x_var 0 rfl) (a_cons (x_add x_int (x_var 1 rfl)) a_nil)) ⟨_, _, rfl, by walk_at "side", rfl⟩) x_int (by walk_at "side")) x_int (by walk_at "shaped") (by walk_at "shaped")).is eqv_int) (fun hb => b_one (s_set 4 nd (x_mod (x_div (x_call (ok__law_cell_at T) T.g__law_cell_at hr (by decide) (a_cons (x_var 0 rfl) (a_cons (x_add x_int (x_var 1 rfl)) a_nil)) ⟨_, _, rfl, by walk_at "side", rfl⟩) x_int (by walk_at "side")) x_int (by walk_at "side")) (by rw [hn, if_pos (of_decide_eq_true hb)] <;> rfl))) (fun hb => by rw [hn, if_neg (of_decide_eq_false hb)] <;> rfl) ?_
    clear hn
    refine b_cons (fun en => ∃ b kk, en = [.d (fz (lsI ns)), .d (.int k), .d (pd ps g), .d (.list (lsI t)), .d (.int (n : Int)), .v (.ref b)] ++ (rC (ga K "Reader") b (pd ps g) (n : Int) whole3.d whole3.d 0 kk []).map fun p => Sv.cell p.1 p.2) (s_setG 5 nd (g_make tk (ok_Reader___init__ T) T.k_Reader T.g_Reader hr (by decide) (ar_d (x_var 2 rfl) (ar_d (x_var 4 rfl) ar_nil)) (N := fun o en' => ∃ b kk, o = .raw (.ref b) ∧ en' = [.d (fz (lsI ns)), .d (.int k), .d (pd ps g), .d (.list (lsI t)), .d (.int (n : Int)), .no] ++ (rC (ga K "Reader") b (pd ps g) (n : Int) whole3.d whole3.d 0 kk []).map fun p => Sv.cell p.1 p.2) fun y => ⟨_, ⟨y, _, _, rfl, rfl, .inr (.inr ⟨ps, g, (n : Int), rfl, rfl, ok, by omega, rfl⟩)⟩, ?_⟩) ?_) ?_
    · rintro o cs' ⟨rfl, kk, rfl⟩
      exact ⟨rfl, y, kk, rfl, rfl⟩
    · rintro o en' ⟨b, kk, rfl, rfl⟩
      exact ⟨b, kk, rfl⟩
    rintro en' ⟨b, kk, rfl⟩
    have pr : R_pressed K [pd ps g, .list (lsI t)] (.new (lsI (figs (run ps g t).s))) := ⟨_, _, rfl, rfl, .inr (.inr ⟨_, _, _, rfl, rfl, ok, st, by omega, rfl⟩)⟩
    have lf : (figs (run ps g t).s).length ≤ 1401 := by rw [figs_len]; exact few_le fs
    have bS : Bin (figs (run ps g t).s) := figs_bin
    generalize figs (run ps g t).s = row at pr lf bS
    refine b_one (s_retG (g_disp (N := fun o en' => ∃ p sh, o = .raw (.ref p) ∧ en' = [.d (fz (lsI ns)), .d (.int k), .d (pd ps g), .d (.list (lsI t)), .d (.int (n : Int)), .v (.ref b), .cell b (.ins (ga K "Reader") (rF (pd ps g) (n : Int) whole3.d whole3.d 0 kk)), .cell kk (.lst []), .cell p (.dct [(.inr "reader", .r b), (.inr "plan", .d (pd ps g)), (.inr "many", .d (.int (n : Int))), (.inr "row", .d (.list (lsI row))), (.inr "taken", .d (.list [])), (.inr "signs", .d (.list [])), (.inr "shown", .r sh)]), .cell sh (.lst [])]) fun p => xp_cons (g_r (r_var 5)) ?_) ?_)
    · rintro o en1 ⟨rfl, rfl⟩
      refine xp_cons (g_d (x_var 2 rfl)) ?_
      rintro o en1 ⟨rfl, rfl⟩
      refine xp_cons (g_d (x_var 4 rfl)) ?_
      rintro o en1 ⟨rfl, rfl⟩
      refine xp_cons (g_d (XN.xd (n_call (ok_pressed T) T.g_pressed hr (by decide) (a_cons (x_var 2 rfl) (a_cons (x_var 3 rfl) a_nil)) (pr)))) ?_
      rintro o en1 ⟨rfl, rfl⟩
      refine xp_cons (g_d (XN.xd (n_list a_nil))) ?_
      rintro o en1 ⟨rfl, rfl⟩
      refine xp_cons (g_d (XN.xd (n_list a_nil))) ?_
      rintro o en1 ⟨rfl, rfl⟩
      refine xp_cons (g_cel (n_list a_nil)) ?_
      rintro o en1 ⟨sh, rfl, rfl⟩
      refine XPs.imp xp_nil ?_
      rintro kvs en1 ⟨rfl, rfl⟩
      exact ⟨rfl, (show (["reader", "plan", "many", "row", "taken", "signs", "shown"] : List Str).Nodup by decide +kernel), Nat.le_of_ble_eq_true rfl, p, sh, rfl, rfl⟩
    · rintro o en' ⟨p, sh, rfl, rfl⟩
      refine ⟨⟨⟨b, kk, p, sh⟩, ⟨ps, g, n, row, [], []⟩, ⟨ok, n60, bS, (fun _ z => by cases z), Nat.le_refl _, by decide, (fun _ z => by cases z), Nat.le_refl _⟩, rfl, ?_⟩, List.nil_prefix⟩
      have e := told0 ok (n := n)
      show _ = [(b, Cl.ins (ga K "Reader") (rF (pd (told ps g n []).2.cs g) (n : Int) (told ps g n []).2.s.d (fig []).d 0 kk)), (kk, Cl.lst ((lsI (told ps g n []).1).map Cv.d)), (p, Cl.dct [(.inr "reader", .r b), (.inr "plan", .d (pd ps g)), (.inr "many", .d (.int (n : Int))), (.inr "row", .d (.list (lsI row))), (.inr "taken", .d (.list [])), (.inr "signs", .d (.list (lsI (told ps g n []).1))), (.inr "shown", .r sh)]), (sh, Cl.lst [])]
      rw [e.1, e.2]
      rfl
abbrev R__law_lacks (K : PySem.W.Frag) (cs : Cs) (as : List Cv) (o : Out) : Prop := ∃ (A : RA) (D : RS), cs = rD (ga K "Reader") A D ∧ as = [.r A.p] ∧ o = .ret (.bool true)
theorem ok__law_lacks (T : Tx K mg) : FnS P w K mg base 2 (ga K "_law_lacks") ["_law_one"] (spK K (R__law_lacks K)) := by
  obtain ⟨fd, F⟩ := T.d__law_lacks
  have nd := sc__law_lacks.nd
  refine fn_mkK F sc__law_lacks (F.binds fun _ _ _ _ _ _ us hl => match us, hl with | [_], _ => rfl) (fun cs as o h => ?_) (fun cdv A outer s H E cs as o hr h tk hp => ?_)
  · obtain ⟨A1, D1, rfl, rfl, rfl⟩ := h
    rfl
  · have hu := hr.units
    obtain ⟨A1, D1, rfl, rfl, rfl⟩ := h
    refine b_seq _ (s_set 1 nd (x_methK 2 (ok_Reader_lacking T) T.c_Reader T.m_Reader_lacking hr (by decide) (r_key 4 hu (r_var 0) (.inr rfl) rfl) (by first | exact Or.inl rfl | exact Or.inr rfl) rfl (cin_cons 2 (by first | exact Or.inl rfl | exact Or.inr rfl) (cin_cons 3 (by first | exact Or.inl rfl | exact Or.inr rfl) cin_nil)) ⟨_, _, _, _, _, _, _, _, rfl, rfl, rfl⟩) rfl) (b_one (s_ret ((x_and (x_call (ok__law_whole T) T.g__law_whole hr (by decide) (a_cons (x_var 1 rfl) a_nil) ⟨_, rfl, rfl⟩) (fun hb => (x_one (x_eq hu (x_var 1 rfl) (x_sub (x_key 4 hu (r_var 0) (.inr rfl) rfl) (x_lenL T.n_len (x_key 4 hu (r_var 0) (.inr rfl) rfl))) (rfl) (rfl))))).is (d := .bool true) ?_) rfl))
    rw [eqv_int, decide_eq_true rfl] <;> rfl
abbrev R__law_seen (K : PySem.W.Frag) (cs : Cs) (as : List Cv) (M : OutC) : Prop := ∃ (A : RA) (D : RS) (n : Nat) (s : Addr) (S : List Dt) (b : Bool), cs = rD (ga K "Reader") A D ++ [(s, .lst (S.map Cv.d))] ∧ as = [.r A.p, .r s, .d (.bool b)] ∧ D.Ok n ∧ S.length ≤ 1000 ∧ M = fun o cs' => o = .ret (.bool true) ∧ ∃ x, PairOk x ∧ cs' = rD (ga K "Reader") A D ++ [(s, .lst ((S ++ [x]).map Cv.d))]
theorem ok__law_seen (T : Tx K mg) : FnS P w K mg base 3 (ga K "_law_seen") ["_law_one", "_law_shown", "_law_is_turned"] (spC K (R__law_seen K)) := by
  obtain ⟨fd, F⟩ := T.d__law_seen
  have nd := sc__law_seen.nd
  refine fn_mkC F sc__law_seen (F.binds fun _ _ _ _ _ _ us hl => match us, hl with | [_, _, _], _ => rfl) (fun cs as M h => ?_) (fun cdv A outer s H E cs as M hr h tk hp => ?_)
  · obtain ⟨A1, D1, n1, s1, S1, b1, rfl, rfl, hD, hS, rfl⟩ := h
    rfl
  · have hu := hr.units
    obtain ⟨A1, D1, n1, s1, S1, b1, rfl, rfl, hD, hS, rfl⟩ := h
    have lT : D1.t.1.length ≤ D1.n := (told_ok hD.plan (n := D1.n) (f := D1.f)).2
    have n60 := hD.n60
    have lacks : ∀ {en : List Sv} {p1 p2 : Pos} {q1 : Pos}, en[0]? = some (Sv.v (.ref A1.p)) → CelIn en 5 A1.b (.ins (ga K "Reader") (rF (pd D1.t.2.cs D1.g) (D1.n : Int) D1.t.2.s.d (fig D1.f).d (D1.f.length : Int) A1.k)) → CelIn en 6 A1.k (.lst ((lsI D1.t.1).map Cv.d)) → CelIn en 7 A1.p (.dct (dictR A1 D1)) → CelIn en 8 A1.sh (.lst (D1.L.map Cv.d)) → XD (dc P w K mg base ["_law_one", "_law_shown", "_law_is_turned", "_law_found", "_law_sign"] "_law_seen" (defScope s__law_seen) (ga K "_law_seen") cdv A s) (dv P w "_law_seen" (defScope s__law_seen) (ga K "_law_seen") cdv A outer s H E) (.Call (.Name "_law_lacks" p1) [.Name "_law_one" p2] [] q1) en (.bool true) := fun e0 c1 c2 c3 c4 => x_callK (ok__law_lacks T) T.g__law_lacks T.k__law_lacks hr (by decide) (ar_r (r_var 0 e0) ar_nil) (cin_cons 5 c1 (cin_cons 6 c2 (cin_cons 7 c3 (cin_cons 8 c4 cin_nil)))) ⟨A1, D1, rfl, rfl, rfl⟩
    refine b_skip (b := false) (XT.is (XW.xt (w_and (t_val (x_var 2 rfl)) fun _ => w_and1 (t_not (t_val (lacks rfl (.inl rfl) (.inl rfl) (.inl rfl) (.inl rfl)))))) (by rw [Bool.not_true, Bool.and_false])) ?_
    refine b_seq _ (s_setN 3 nd (n_methK 5 (ok_Reader_told T) T.c_Reader T.m_Reader_told hr (by decide) (r_key 7 hu (r_var 0) (.inl rfl) rfl) (by first | exact Or.inl rfl | exact Or.inr rfl) rfl (cin_cons 5 (by first | exact Or.inl rfl | exact Or.inr rfl) (cin_cons 6 (by first | exact Or.inl rfl | exact Or.inr rfl) cin_nil)) ⟨_, _, _, _, _, _, _, _, rfl, rfl, rfl⟩) rfl) ?_
    refine b_skip (b := false) (t_view (XT.is (XW.xt (w_orF (t_not (t_val (x_isList (x_var 3 rfl) (k_list _) T.n_isinstance T.n_list))) (w_or (t_ne hu (x_var 3 rfl) (x_key 7 hu (r_var 0) (.inl rfl) rfl) (sh_ints) (sh_ints)) fun _ => w_or1 (t_not (t_val (x_all T.n_all ((XL.xd (l_list0 4 (fun d => .bool (wholeD d)) nd (x_var 3 rfl) (by rw [List.length_map]; omega) (fun y hy => ((x_call (ok__law_whole T) T.g__law_whole hr (by decide) (a_cons (x_var 4 rfl) a_nil) ⟨_, rfl, rfl⟩).is (by walk_at "el"))))).is (whole_list)))))))) (by rw [eqv_lists, decide_eq_true rfl, whole_all] <;> rfl))) ?_
    refine b_seq _ (s_append 3 rfl x_int rfl (by rw [List.length_map]; omega)) ?_
    refine XB.openAt 3 (b_seq [.v (.ref A1.p), .v (.ref s1), .d (.bool b1), .d (.list (lsI (D1.t.1 ++ [9]))), .no, .cell A1.b (.ins (ga K "Reader") (rF (pd D1.t.2.cs D1.g) (D1.n : Int) D1.t.2.s.d (fig D1.f).d (D1.f.length : Int) A1.k)), .cell A1.k (.lst ((lsI D1.t.1).map Cv.d)), .cell A1.p (.dct (dictR A1 D1)), .cell A1.sh (.lst (D1.L.map Cv.d)), .cell s1 (.lst ((S1 ++ [PyData.tuple [.list (lsI (D1.t.1 ++ [9])), .list (lsI (D1.t.1 ++ [9]))]]).map Cv.d))] (s_app 9 (r_var 1) rfl (x_tup (a_cons (x_var 3 rfl) (a_cons (XN.xd (n_listL T.n_list (x_var 3 rfl))) a_nil))) (by rw [List.length_map]; omega) ?_) (b_one (s_ret ((x_or (x_var 2 rfl) fun _ => x_one (lacks rfl (.inl rfl) (.inl rfl) (.inl rfl) (.inl rfl))).is (d := .bool true) (by rw [Bool.or_true])) ?_)))
    · show _ = _
      rw [ints_app, List.map_append] <;> rfl
    · exact ⟨⟨rfl, _, ⟨_, rfl⟩, rfl⟩, ⟨[], rfl⟩⟩
abbrev R__law_take (K : PySem.W.Frag) (cs : Cs) (as : List Cv) (M : OutC) : Prop := ∃ (A : RA) (D : RS) (n : Nat) (c : Int), cs = rD (ga K "Reader") A D ∧ as = [.r A.p, .d (.int c)] ∧ D.Ok n ∧ n < 13 ∧ M = fun o cs' => o = .ret (.bool true) ∧ ∃ D' : RS, D'.Ok (n + 1) ∧ cs' = rD (ga K "Reader") A D'
theorem ok__law_take (T : Tx K mg) : FnS P w K mg base 6 (ga K "_law_take") ["_law_one", "_law_cell"] (spC K (R__law_take K)) := by
  obtain ⟨fd, F⟩ := T.d__law_take
  have nd := sc__law_take.nd
  refine fn_mkC F sc__law_take (F.binds fun _ _ _ _ _ _ us hl => match us, hl with | [_, _], _ => rfl) (fun cs as M h => ?_) (fun cdv A outer s H E cs as M hr h tk hp => ?_)
  · obtain ⟨A1, ⟨ps, g, n, row, f, L1⟩, n1, c, rfl, rfl, hD, hn, rfl⟩ := h
    rfl
  · have hu := hr.units
    obtain ⟨A1, ⟨ps, g, n, row, f, L1⟩, n1, c, rfl, rfl, hD, hn, rfl⟩ := h
    have ok : PlanOk ps g := hD.plan
    have n60 : n ≤ 60 := hD.n60
    have br : Bin row := hD.row
    have bf : Bin f := hD.bin
    have lf : f.length ≤ 6 * n1 := hD.few
    have lL : L1.length ≤ n1 := hD.lL
    obtain ⟨j, hj, j6⟩ : ∃ j : Nat, c % 7 = (j : Int) ∧ j ≤ 6 := ⟨(c % 7).toNat, by omega, by omega⟩
    refine b_seq _ (s_set 2 nd ((x_mod (x_var 1 rfl) x_int (by walk_at "side")).is (d := .int (j : Int)) (by rw [hj])) rfl) ?_
    refine b_seq _ (s_set 3 nd ((x_lenL T.n_len (ds := lsI f) (x_key 13 hu (r_var 0) (.inl rfl) rfl)).is (d := .int (f.length : Int)) (by rw [List.length_map])) rfl) ?_
    refine b_seq _ (s_set 4 nd ((n_slice (ds := lsI row) (x_key 13 hu (r_var 0) (.inl rfl) rfl) (o_some (x_var 3 rfl)) (o_some (x_add (x_var 3 rfl) (x_var 2 rfl)))).xd.is (d := .list (lsI ((row.drop f.length).take j))) (by rw [cut_to])) rfl) ?_
    refine b_cons (fun en => ∃ m : List Int, Bin m ∧ m.length ≤ 6 ∧ en = [.v (.ref A1.p), .d (.int c), .d (.int (j : Int)), .d (.int (f.length : Int)), .d (.list (lsI m)), .no, .no, .no, .no, .no, .no] ++ (rD (ga K "Reader") A1 ⟨ps, g, n, row, f, L1⟩).map fun p => Sv.cell p.1 p.2) (s_if (b := decide (c / 7 % 4 = 1)) ((t_eq hu (x_mod (x_div (x_var 1 rfl) x_int (by walk_at "side")) x_int (by walk_at "side")) x_int (by walk_at "shaped") (by walk_at "shaped")).is eqv_int) (fun _ => b_seq _ (s_setL 4 nd (l_range0 9 (fun (y : Nat) => .int (mixed (c / 28) (y : Int) / 7 % 2)) nd (x_var 2 rfl) (⟨by omega, by omega⟩) T.n_range (fun y hy => ((x_mod (x_div (x_call (ok__law_mixed T) T.g__law_mixed hr (by decide) (a_cons (x_div (x_var 1 rfl) x_int (by walk_at "side")) (a_cons (x_var 9 rfl) a_nil)) (⟨_, _, rfl, ⟨by omega, by omega⟩, rfl⟩)) x_int (by walk_at "side")) x_int (by walk_at "side")).is (by walk_at "el")))) rfl (fun _ => sw_true rfl rfl rfl (by decide +kernel))) (XB.openAt 4 (b_nil ⟨(List.range j).map fun (y : Nat) => mixed (c / 28) (y : Int) / 7 % 2, ?_, ?_, ?_⟩))) (fun _ => b_nil ⟨(row.drop f.length).take j, fun x hx => br x (List.mem_of_mem_drop (List.mem_of_mem_take hx)), by rw [List.length_take]; omega, rfl⟩)) ?_
    · intro x hx
      obtain ⟨y, _, rfl⟩ := List.mem_map.mp hx
      omega
    · rw [List.length_map, List.length_range]
      exact j6
    · have e : (List.range j).map (fun (y : Nat) => PyData.int (mixed (c / 28) (y : Int) / 7 % 2)) = lsI ((List.range j).map fun (y : Nat) => mixed (c / 28) (y : Int) / 7 % 2) := by
        rw [lsI, List.map_map]
        rfl
      rw [Int.toNat_natCast, e] <;> rfl
    rintro en' ⟨m, bm, lm, rfl⟩
    refine b_seq _ (s_setN 5 nd (n_listL T.n_list (x_var 4 rfl)) rfl) ?_
    by_cases hodd : c / 28 % 6 = 1
    · have h6 : 0 ≤ c / 168 % 6 ∧ c / 168 % 6 < 6 := ⟨Int.emod_nonneg _ (by decide), Int.emod_lt_of_pos _ (by decide)⟩
      have hb := noF6_bad (F := m) _ (getD_in (d := .none) (show (c / 168 % 6).toNat < 6 by omega))
      refine b_cons (fun en => ∃ hd, figB hd = false ∧ noZ hd = true ∧ en = [.v (.ref A1.p), .d (.int c), .d (.int (j : Int)), .d (.int (f.length : Int)), .d (.list (lsI m)), .d hd, .no, .no, .no, .no, .no] ++ (rD (ga K "Reader") A1 ⟨ps, g, n, row, f, L1⟩).map fun p => Sv.cell p.1 p.2) (s_if (b := true) ((t_eq hu (x_mod (x_div (x_var 1 rfl) x_int (by walk_at "side")) x_int (by walk_at "side")) x_int (by walk_at "shaped") (by walk_at "shaped")).is (by rw [eqv_int, decide_eq_true hodd])) (fun _ => b_one (s_set 5 nd ((x_ixL (XN.xd (n_list (a_cons x_none (a_cons (x_tupleL T.n_tuple (x_var 4 rfl)) (a_cons (XN.xd (n_cat (x_var 4 rfl) (XN.xd (n_list (a_cons x_int a_nil))) (by rw [List.length_map]; show _ + 1 ≤ 100000; omega))) (a_cons (XN.xd (n_cat (XN.xd (n_list (a_cons x_bool a_nil))) (x_var 4 rfl) (by rw [List.length_map]; show 1 + _ ≤ 100000; omega))) (a_cons x_str (a_cons (XN.xd (n_list (a_cons (x_var 4 rfl) a_nil))) a_nil)))))))) (x_mod (x_div (x_var 1 rfl) x_int (by walk_at "side")) x_int (by walk_at "side")) (at_getD h6.1 h6.2)).is (d := (noF6 m).getD (c / 168 % 6).toNat .none) rfl) ⟨_, hb.1, hb.2, rfl⟩)) (fun z => by cases z)) ?_
      rintro en' ⟨hd, h1, h2, rfl⟩
      obtain ⟨t1, t2⟩ := told_ok ok (n := n) (f := f)
      have hR : R_Reader_take K (rC (ga K "Reader") A1.b (pd (told ps g n f).2.cs g) (n : Int) (told ps g n f).2.s.d (fig f).d (f.length : Int) A1.k (lsI (told ps g n f).1)) [.r A1.b, .d hd] (fun o cs' => o = .exc (ga K "BadFigures") ∧ cs' = rC (ga K "Reader") A1.b (pd (told ps g n f).2.cs g) (n : Int) (told ps g n f).2.s.d (fig f).d (f.length : Int) A1.k (lsI (told ps g n f).1)) := ⟨A1.b, A1.k, (told ps g n f).2, g, n, f, (told ps g n f).1, _, rfl, rfl, h2, t1, t2, n60, bf, by omega, .inl ⟨.inl h1, rfl⟩⟩
      refine b_stop (s_try 7 nd tk T.g_PressError fun W' => b_one (s_setG 6 nd (g_meth 11 (N := fun o en' => o = .exc (ga K "BadFigures") ∧ en' = [.v (.ref A1.p), .d (.int c), .d (.int (j : Int)), .d (.int (f.length : Int)), .d (.list (lsI m)), .d hd, .no, .no, .no, .no, .no] ++ (rD (ga K "Reader") A1 ⟨ps, g, n, row, f, L1⟩).map fun p => Sv.cell p.1 p.2) (fun q => q.2.1) (ok_Reader_take T) T.c_Reader T.m_Reader_take hr (by decide) (r_key 13 hu (r_var 0) (.inl rfl) rfl) (.inl rfl) rfl (as_of (X := fun _ _ => False) (ar_d (x_var 5 rfl) ar_nil)) (fun as en1 h => ?_) (fun _ _ h => h.elim)) ?_))
      · obtain ⟨rfl, rfl⟩ := h
        exact ⟨[11, 12], _, _, rfl, by decide, hR, by rintro o cs' ⟨rfl, rfl⟩; exact ⟨rfl, rfl⟩⟩
      · rintro o en' ⟨rfl, rfl⟩
        refine ⟨T.m_BadFigures, fun a => b_one (s_ret ((x_and (u := true) ((x_eq hu (x_mod (x_div (x_var 1 rfl) x_int (by decide)) x_int (by decide)) x_int rfl rfl).is (d := .bool true) (by rw [eqv_int, decide_eq_true hodd])) fun _ => x_one (x_eq hu (su_n 7 (ok__law_word_BadFigures T) T.g__law_word hr (by decide) rfl).xd (n_list (a_cons x_str a_nil)).xd (by decide +kernel) (by decide +kernel))).is (d := .bool true) (congrArg PyData.bool (by decide +kernel))) (by exact ⟨⟨rfl, _, hD.le (Nat.le_succ _) (by omega), rfl⟩, pre4⟩))⟩
    · have w1 := rtake_yes (K := K) ok n60 bf bm (by omega) A1.b A1.k
      have e := told_more ok (n := n) (f := f) bm
      have e1 := congrArg Prod.fst e
      dsimp only at e1
      have lT1 := (told_ok ok (n := n) (f := f)).2
      have lT2 := (told_ok ok (n := n) (f := f ++ m)).2
      have bfm : Bin (f ++ m) := bin_app bf bm
      have lfm : (f ++ m).length ≤ 6 * (n1 + 1) := by rw [List.length_append]; omega
      have hc2 : R__law_certain [pd ps g, .int (n : Int), .list (lsI (f ++ m))] (.new (lsI (told ps g n (f ++ m)).1)) := ⟨ps, g, n, _, rfl, ok, n60, bfm, by omega, rfl⟩
      have eD : (told ps g n (f ++ m)).1 = (told ps g n f).1 ++ (told ps g n (f ++ m)).1.drop (told ps g n f).1.length := by
        rw [e1, List.drop_left' rfl]
      have lD : ((told ps g n (f ++ m)).1.drop (told ps g n f).1.length).length ≤ 60 := by rw [List.length_drop]; omega
      refine b_skip ((t_eq hu (x_mod (x_div (x_var 1 rfl) x_int (by walk_at "side")) x_int (by walk_at "side")) x_int (by walk_at "shaped") (by walk_at "shaped")).is (by rw [eqv_int, decide_eq_false hodd])) ?_
      refine b_seq [.v (.ref A1.p), .d (.int c), .d (.int (j : Int)), .d (.int (f.length : Int)), .d (.list (lsI m)), .own (lsI m), .own (lsI ((told ps g n (f ++ m)).1.drop (told ps g n f).1.length)), .no, .no, .no, .no, .cell A1.b (.ins (ga K "Reader") (rF (pd (told ps g n (f ++ m)).2.cs g) (n : Int) (told ps g n (f ++ m)).2.s.d (fig (f ++ m)).d ((f ++ m).length : Int) A1.k)), .cell A1.k (.lst ((lsI (told ps g n (f ++ m)).1).map Cv.d)), .cell A1.p (.dct (dictR A1 ⟨ps, g, n, row, f, L1⟩)), .cell A1.sh (.lst (L1.map Cv.d))] (s_try 7 nd tk T.g_PressError fun W' => b_one (s_setG 6 nd (g_methV 11 5 [11, 12] (N := fun o en' => o = .new (lsI ((told ps g n (f ++ m)).1.drop (told ps g n f).1.length)) ∧ en' = [.v (.ref A1.p), .d (.int c), .d (.int (j : Int)), .d (.int (f.length : Int)), .d (.list (lsI m)), .own (lsI m), .no, .no, .no, .no, .no, .cell A1.b (.ins (ga K "Reader") (rF (pd (told ps g n (f ++ m)).2.cs g) (n : Int) (told ps g n (f ++ m)).2.s.d (fig (f ++ m)).d ((f ++ m).length : Int) A1.k)), .cell A1.k (.lst ((lsI (told ps g n (f ++ m)).1).map Cv.d)), .cell A1.p (.dct (dictR A1 ⟨ps, g, n, row, f, L1⟩)), .cell A1.sh (.lst (L1.map Cv.d))]) (fun q => q.2.1) (ok_Reader_take T) T.c_Reader T.m_Reader_take hr (by decide) (r_key 13 hu (r_var 0) (.inl rfl) rfl) (.inl rfl) rfl rfl rfl (by decide) w1 (by rintro o cs' ⟨rfl, rfl⟩; exact ⟨flat_ints _, noL_rC, rfl, rfl⟩)) (by rintro o en' ⟨rfl, rfl⟩; rfl))) ?_
      refine b_skip (b := false) (t_view (XT.is (XW.xt (w_or ((t_eq hu (x_mod (x_div (x_var 1 rfl) x_int (by walk_at "side")) x_int (by walk_at "side")) x_int (by walk_at "shaped") (by walk_at "shaped")).is (show _ = false by rw [eqv_int, decide_eq_false hodd])) fun _ => w_or1 (t_ne hu (x_var 5 rfl) (x_var 4 rfl) (sh_ints) (sh_ints)))) (by rw [eqv_lists, decide_eq_true rfl] <;> rfl))) ?_
      refine b_seq _ (s_append 5 rfl x_int rfl (by rw [List.length_map]; omega)) ?_
      have hdc : cutD (lsI (told ps g n (f ++ m)).1) (some ((lsI (told ps g n f).1).length : Int)) none = lsI ((told ps g n (f ++ m)).1.drop (told ps g n f).1.length) := by rw [List.length_map, cut_anyD]
      generalize (told ps g n (f ++ m)).1.drop (told ps g n f).1.length = Dr at *
      refine b_seq [.v (.ref A1.p), .d (.int c), .d (.int (j : Int)), .d (.int (f.length : Int)), .d (.list (lsI m)), .own (lsI m ++ [.int 1]), .own (lsI Dr), .no, .no, .no, .no, .cell A1.b (.ins (ga K "Reader") (rF (pd (told ps g n (f ++ m)).2.cs g) (n : Int) (told ps g n (f ++ m)).2.s.d (fig (f ++ m)).d ((f ++ m).length : Int) A1.k)), .cell A1.k (.lst ((lsI (told ps g n (f ++ m)).1).map Cv.d)), .cell A1.p (.dct [(.inr "reader", .r A1.b), (.inr "plan", .d (pd ps g)), (.inr "many", .d (.int (n : Int))), (.inr "row", .d (.list (lsI row))), (.inr "taken", .d (.list (lsI (f ++ m)))), (.inr "signs", .d (.list (lsI (told ps g n f).1))), (.inr "shown", .r A1.sh)]), .cell A1.sh (.lst (L1.map Cv.d))] (s_key 13 hu (r_var 0) (n_cat (ds := lsI f) (es := lsI m) (x_key 13 hu (r_var 0) (.inl rfl) rfl) (x_var 4 rfl) (by rw [List.length_map, List.length_map]; omega)).xd rfl (by show _ = _; rw [← ints_app] <;> rfl)) ?_
      refine b_seq _ (s_set 8 nd (XN.xd (n_call (ok__law_certain T) T.g__law_certain hr (by decide) (a_cons (x_key 13 hu (r_var 0) (.inl rfl) rfl) (a_cons (x_key 13 hu (r_var 0) (.inl rfl) rfl) (a_cons (x_key 13 hu (r_var 0) (.inl rfl) rfl) a_nil))) (hc2))) rfl) ?_
      refine b_skip (t_view (XW.xt (w_or (t_not (t_val (x_isList (x_var 6 rfl) (k_list _) T.n_isinstance T.n_list))) (fun hb => (w_or1 (t_ne hu (x_var 6 rfl) (XN.xd (n_slice (x_var 8 rfl) (o_some (x_lenL T.n_len (x_key 13 hu (r_var 0) (.inl rfl) rfl))) o_none)) (sh_ints) (by rw [hdc]; exact sh_ints))))))) ?_ (by rw [hdc, eqv_lists, decide_eq_true rfl] <;> rfl)
      refine b_skip (t_view (t_not (t_val (x_all T.n_all ((XL.xd (l_list0 10 (fun d => .bool (wholeD d)) nd (x_var 6 rfl) (by rw [List.length_map]; omega) (fun y hy => ((x_call (ok__law_whole T) T.g__law_whole hr (by decide) (a_cons (x_var 10 rfl) a_nil) ⟨_, rfl, rfl⟩).is (by walk_at "el"))))).is (whole_list)))))) ?_ (by rw [whole_all] <;> rfl)
      refine b_seq _ (s_append 6 rfl x_int rfl (by rw [List.length_map]; omega)) ?_
      refine XB.openAt 6 (b_seq [.v (.ref A1.p), .d (.int c), .d (.int (j : Int)), .d (.int (f.length : Int)), .d (.list (lsI m)), .own (lsI m ++ [.int 1]), .d (.list (lsI Dr ++ [.int 0])), .no, .d (.list (lsI (told ps g n (f ++ m)).1)), .no, .no, .cell A1.b (.ins (ga K "Reader") (rF (pd (told ps g n (f ++ m)).2.cs g) (n : Int) (told ps g n (f ++ m)).2.s.d (fig (f ++ m)).d ((f ++ m).length : Int) A1.k)), .cell A1.k (.lst ((lsI (told ps g n (f ++ m)).1).map Cv.d)), .cell A1.p (.dct [(.inr "reader", .r A1.b), (.inr "plan", .d (pd ps g)), (.inr "many", .d (.int (n : Int))), (.inr "row", .d (.list (lsI row))), (.inr "taken", .d (.list (lsI (f ++ m)))), (.inr "signs", .d (.list (lsI (told ps g n f).1))), (.inr "shown", .r A1.sh)]), .cell A1.sh (.lst ((L1 ++ [PyData.tuple [.list (lsI (Dr ++ [0])), .list (lsI (Dr ++ [0]))]]).map Cv.d))] (s_app 14 (r_key 13 hu (r_var 0) (.inl rfl) rfl) rfl (x_tup (a_cons (x_var 6 rfl) (a_cons (XN.xd (n_listL T.n_list (x_var 6 rfl))) a_nil))) (by rw [List.length_map]; omega) (by show _ = _; rw [ints_app (a := Dr) (b := [0]), List.map_append] <;> rfl)) (b_seq _ (s_key 13 hu (r_var 0) (x_var 8 rfl) rfl rfl) (b_one (s_ret x_bool ?_))))
      refine ⟨⟨rfl, ⟨ps, g, n, row, f ++ m, L1 ++ [PyData.tuple [.list (lsI (Dr ++ [0])), .list (lsI (Dr ++ [0]))]]⟩, ⟨ok, n60, br, bfm, lfm, by omega, ?_, ?_⟩, rfl⟩, pre4⟩
      · intro d hd
        rcases List.mem_append.mp hd with hd | hd
        · exact hD.pairs d hd
        · rw [List.mem_singleton.mp hd]
          exact ⟨_, rfl⟩
      · show (L1 ++ _).length ≤ n1 + 1
        rw [List.length_append, List.length_singleton]
        omega
abbrev R_law (as : List Dt) (o : Out) : Prop := ∃ ns, as = [fz (lsI ns)] ∧ o = .ret (.bool true)
theorem ok_law (T : Tx K mg) : Fn P w K mg base 10 (ga K "law") ["_law_script"] (R_law) := by
  obtain ⟨fd, F⟩ := T.d_law
  have nd := sc_law.nd
  refine fn_mk F sc_law (F.binds fun _ _ _ _ _ _ us hl => match us, hl with | [_], _ => rfl) (fun as o h => ?_) (fun cdv A outer s H E as o hr h tk hp => ?_)
  · obtain ⟨ns, rfl, rfl⟩ := h
    rfl
  · have hu := hr.units
    obtain ⟨ns, rfl, rfl⟩ := h
    refine b_cons (fun en => ∃ (A0 A1 : RA) (D0 D1 : RS) (B : Addr), D0.Ok 0 ∧ D1.Ok 0 ∧ en = [.d (fz (lsI ns)), .v (.ref B), .no, .no, .no, .no, .no, .no] ++ ((rD (ga K "Reader") A0 D0).map fun p => Sv.cell p.1 p.2) ++ ((rD (ga K "Reader") A1 D1).map fun p => Sv.cell p.1 p.2) ++ [.cell B (.lst [.r A0.p, .r A1.p])]) (s_setG 1 nd (g_listR (X := fun _ _ => False) (MA := fun as en' => ∃ (A0 A1 : RA) (D0 D1 : RS), D0.Ok 0 ∧ D1.Ok 0 ∧ as = [.r A0.p, .r A1.p] ∧ en' = [.d (fz (lsI ns)), .no, .no, .no, .no, .no, .no, .no] ++ ((rD (ga K "Reader") A0 D0).map fun p => Sv.cell p.1 p.2) ++ ((rD (ga K "Reader") A1 D1).map fun p => Sv.cell p.1 p.2)) (N := fun o en' => ∃ (A0 A1 : RA) (D0 D1 : RS) (B : Addr), D0.Ok 0 ∧ D1.Ok 0 ∧ o = .raw (.ref B) ∧ en' = [.d (fz (lsI ns)), .no, .no, .no, .no, .no, .no, .no] ++ ((rD (ga K "Reader") A0 D0).map fun p => Sv.cell p.1 p.2) ++ ((rD (ga K "Reader") A1 D1).map fun p => Sv.cell p.1 p.2) ++ [.cell B (.lst [.r A0.p, .r A1.p])])
      (as_cons (M1 := fun o en' => ∃ (A0 : RA) (D0 : RS), D0.Ok 0 ∧ o = .raw (.ref A0.p) ∧ en' = [.d (fz (lsI ns)), .no, .no, .no, .no, .no, .no, .no] ++ ((rD (ga K "Reader") A0 D0).map fun p => Sv.cell p.1 p.2)) (g_call tk (ok__law_made T) T.g__law_made T.k__law_made hr (by decide) (as_of (X := fun _ _ => False) (ar_d (x_var 0 rfl) (ar_d x_int ar_nil))) (fun as en1 h => ?_) (fun _ _ h => h.elim)) (fun o en1 h => ?_)) (fun as en1 h => ?_) (fun _ _ h => h.elim)) ?_) ?_
    · obtain ⟨rfl, rfl⟩ := h
      refine ⟨[], [], _, rfl, List.nodup_nil, ⟨ns, 0, rfl, rfl, by decide, rfl⟩, ?_⟩
      rintro o cs' ⟨A0, D0, h0, rfl, rfl⟩
      exact ⟨A0, D0, h0, rfl, rfl⟩
    · obtain ⟨A0, D0, h0, rfl, rfl⟩ := h
      refine as_cons (M1 := fun o en' => ∃ (A1 : RA) (D1 : RS), D1.Ok 0 ∧ o = .raw (.ref A1.p) ∧ en' = [.d (fz (lsI ns)), .no, .no, .no, .no, .no, .no, .no] ++ ((rD (ga K "Reader") A0 D0).map fun p => Sv.cell p.1 p.2) ++ ((rD (ga K "Reader") A1 D1).map fun p => Sv.cell p.1 p.2)) (g_call tk (ok__law_made T) T.g__law_made T.k__law_made hr (by decide) (as_of (X := fun _ _ => False) (ar_d (x_var 0 rfl) (ar_d x_int ar_nil))) (fun as en1 h => ?_) (fun _ _ h => h.elim)) (fun o en1 h => ?_)
      · obtain ⟨rfl, rfl⟩ := h
        refine ⟨[], [], _, rfl, List.nodup_nil, ⟨ns, 1, rfl, rfl, by decide, rfl⟩, ?_⟩
        rintro o cs' ⟨A1, D1, h1, rfl, rfl⟩
        exact ⟨A1, D1, h1, rfl, rfl⟩
      · obtain ⟨A1, D1, h1, rfl, rfl⟩ := h
        exact XAs.imp (as_nil (X := fun _ _ => False)) (by rintro as en' ⟨rfl, rfl⟩; exact ⟨A0, A1, D0, D1, h0, h1, rfl, rfl⟩)
    · obtain ⟨A0, A1, D0, D1, h0, h1, rfl, rfl⟩ := h
      exact ⟨Nat.le_of_ble_eq_true rfl, fun l => ⟨A0, A1, D0, D1, l, h0, h1, rfl, rfl⟩⟩
    · rintro o en' ⟨A0, A1, D0, D1, B, h0, h1, rfl, rfl⟩
      exact ⟨A0, A1, D0, D1, B, h0, h1, rfl⟩
    rintro en' ⟨A0, A1, D0, D1, B, okD0, okD1, rfl⟩
    have ok0 : PlanOk D0.cs D0.g := okD0.plan
    refine b_seq _ (s_set 2 nd (x_call (ok__law_cell_at T) T.g__law_cell_at hr (by decide) (a_cons (x_var 0 rfl) (a_cons x_int a_nil)) ⟨_, _, rfl, by walk_at "side", rfl⟩) rfl) ?_
    generalize cellAt ns 5 = c
    refine b_skip (t_not (t_val (x_call (ok__law_refused T) T.g__law_refused hr (by decide) (a_cons (x_key (d := pd D0.cs D0.g) 10 hu (r_ix 16 (r_var 1) (.inl rfl) x_int (by decide) rfl) (.inl rfl) rfl) (a_cons (x_div (x_var 2 rfl) x_int (by walk_at "side")) a_nil)) ⟨_, _, _, rfl, ok0, rfl⟩))) ?_
    refine b_skip (b := false) (XT.is (XW.xt (w_and (t_eq hu (x_mod (x_div (x_var 2 rfl) x_int (by walk_at "side")) x_int (by walk_at "side")) x_int (by walk_at "shaped") (by walk_at "shaped")) fun _ => w_and1 (t_not (t_val (x_call (ok__law_edge T) T.g__law_edge hr (by decide) (a_cons (x_key (d := pd D0.cs D0.g) 10 hu (r_ix 16 (r_var 1) (.inl rfl) x_int (by decide) rfl) (.inl rfl) rfl) (a_cons (x_mod (x_var 2 rfl) x_int (by walk_at "side")) a_nil)) ⟨_, _, _, rfl, ok0, by omega, rfl⟩))))) (by rw [Bool.not_true, Bool.and_false])) ?_
    let Z : RS → RS → Addr → List Dt → Sv → Sv → Sv → Sv → List Sv := fun Da Db s S w2 w3 w4 w5 => [.d (fz (lsI ns)), .v (.ref B), w2, w3, w4, w5, .no, .no] ++ ((rD (ga K "Reader") A0 Da).map fun p => Sv.cell p.1 p.2) ++ ((rD (ga K "Reader") A1 Db).map fun p => Sv.cell p.1 p.2) ++ [.cell B (.lst [.r A0.p, .r A1.p]), .cell s (.lst (S.map Cv.d))]
    refine b_cons (fun en => ∃ sa, en = Z D0 D1 sa [] (.d (.int c)) (.v (.ref sa)) .no .no) (s_setG 3 nd (g_cel (n_list a_nil)) (by rintro o en' ⟨sa, rfl, rfl⟩; exact ⟨sa, rfl⟩)) ?_
    rintro en' ⟨sa, rfl⟩
    refine b_cons (fun en => ∃ (Da Db : RS) (S : List Dt) (w2 w4 w5 : Sv), Da.Ok 12 ∧ Db.Ok 12 ∧ (∀ d ∈ S, PairOk d) ∧ S.length ≤ 24 ∧ en = Z Da Db sa S w2 (.v (.ref sa)) w4 w5) ?_ ?_
    · refine s_forR2 4 nd hp x_int ((x_min T.n_min (x_lenZ T.n_len (x_var 0 rfl)) x_int).is (d := .int (min (ns.length : Int) 18)) (by rw [List.length_map])) (by omega) T.n_range (fun i en => ∃ (Da Db : RS) (S : List Dt) (w2 w4 w5 : Sv), i ≤ 12 ∧ Da.Ok i ∧ Db.Ok i ∧ (∀ d ∈ S, PairOk d) ∧ S.length ≤ 2 * i ∧ en = Z Da Db sa S w2 (.v (.ref sa)) w4 w5) ⟨_, _, [], _, _, _, by decide, okD0, okD1, (fun _ z => by cases z), Nat.le_refl _, rfl⟩ ?_ ?_
      · rintro i en' hi ⟨Da, Db, S, w2, w4, w5, h12, oa, ob, hS, lS, rfl⟩
        have i12 : i < 12 := by omega
        refine b_seq _ (s_set 2 nd (x_call (ok__law_cell_at T) T.g__law_cell_at hr (by decide) (a_cons (x_var 0 rfl) (a_cons (x_var 4 rfl) a_nil)) ⟨_, _, rfl, by walk_at "side", rfl⟩) rfl) ?_
        generalize cellAt ns (6 + (i : Int)) = c
        have rest : ∀ (Da Db : RS) (w4 w5 : Sv), Da.Ok (i + 1) → Db.Ok (i + 1) → XB (dc P w K mg base ["_law_script", "_law_both", "_law_cell", "_law_shown", "_law_k", "_law_turn", "_law_found", "_law_copy"] "law" (defScope s_law) (ga K "law") cdv A s) (dv P w "law" (defScope s_law) (ga K "law") cdv A outer s H E) (fnW E) ((match (defBody s_law).getD 5 (.Pass ⟨0, 0, 0, 0⟩) with | .For _ _ b _ _ => b | x => [x]).drop 2) (Z Da Db sa S (.d (.int c)) (.v (.ref sa)) w4 w5) (Po.loop { fnPo (.ret (.bool true)) with nx := fun en => ∃ (Da Db : RS) (S : List Dt) (w2 w4 w5 : Sv), Da.Ok 12 ∧ Db.Ok 12 ∧ (∀ d ∈ S, PairOk d) ∧ S.length ≤ 24 ∧ en = Z Da Db sa S w2 (.v (.ref sa)) w4 w5 } (fun en => ∃ (Da Db : RS) (S : List Dt) (w2 w4 w5 : Sv), i + 1 ≤ 12 ∧ Da.Ok (i + 1) ∧ Db.Ok (i + 1) ∧ (∀ d ∈ S, PairOk d) ∧ S.length ≤ 2 * (i + 1) ∧ en = Z Da Db sa S w2 (.v (.ref sa)) w4 w5)) := by
          intro Da Db w4 w5 oa ob
          have dd : ∀ (x y : Dt), PairOk x → PairOk y → (∀ d ∈ S ++ [x] ++ [y], PairOk d) ∧ (S ++ [x] ++ [y]).length ≤ 2 * (i + 1) := fun x y hx hy => by
            refine ⟨fun d hd => ?_, by rw [List.length_append, List.length_append, List.length_singleton, List.length_singleton]; omega⟩
            rcases List.mem_append.mp hd with hd | hd
            · rcases List.mem_append.mp hd with hd | hd
              · exact hS d hd
              · rw [List.mem_singleton.mp hd]
                exact hx
            · rw [List.mem_singleton.mp hd]
              exact hy
          rcases (by omega : c / 3 % 2 = 0 ∨ c / 3 % 2 = 1) with hc3 | hc3
          · refine b_seq (Z Da Db sa S (.d (.int c)) (.v (.ref sa)) w4 (.d (.int 0))) (s_set 5 nd ((x_mod (x_div (x_var 2 rfl) x_int (by walk_at "side")) x_int (by walk_at "side")).is (d := .int 0) (by rw [hc3])) rfl) ?_
            refine b_one (s_ifG (N := fun b en' => b = false ∧ ∃ x y, PairOk x ∧ PairOk y ∧ en' = Z Da Db sa (S ++ [x] ++ [y]) (.d (.int c)) (.v (.ref sa)) w4 (.d (.int 0))) (XWG.xt (wg_or (N1 := fun b en' => b = false ∧ ∃ x, PairOk x ∧ en' = Z Da Db sa (S ++ [x]) (.d (.int c)) (.v (.ref sa)) w4 (.d (.int 0))) (tg_not (N1 := fun b en' => b = true ∧ ∃ x, PairOk x ∧ en' = Z Da Db sa (S ++ [x]) (.d (.int c)) (.v (.ref sa)) w4 (.d (.int 0))) (tg_val (M := fun o en' => o = .ret (.bool true) ∧ ∃ x, PairOk x ∧ en' = Z Da Db sa (S ++ [x]) (.d (.int c)) (.v (.ref sa)) w4 (.d (.int 0))) (g_call (fun _ => takesNo) (ok__law_seen T) T.g__law_seen T.k__law_seen hr (by decide) (as_of (X := fun _ _ => False) (ar_r (r_ix 16 (r_var 1) (.inl rfl) (x_var (d := .int 0) 5 rfl) (by decide) rfl) (ar_r (r_var 3) (ar_d (x_lt (x_mod (x_var 2 rfl) x_int (by walk_at "side")) x_int) ar_nil)))) (fun as en1 h => ?_) (fun _ _ h => h.elim)) ?_) ?_) fun b en1 h => ?_)) ?_ ?_)
            · obtain ⟨rfl, rfl⟩ := h
              refine ⟨[8, 9, 10, 11, 17], rD (ga K "Reader") A0 Da ++ [(sa, .lst (S.map Cv.d))], _, rfl, by decide, ⟨A0, Da, i + 1, sa, S, _, rfl, rfl, oa, by omega, rfl⟩, ?_⟩
              rintro o cs' ⟨rfl, x, hx, rfl⟩
              exact ⟨rfl, x, hx, rfl⟩
            · rintro o en' ⟨rfl, x, hx, rfl⟩
              exact ⟨true, rfl, rfl, x, hx, rfl⟩
            · rintro b en' ⟨rfl, x, hx, rfl⟩
              exact ⟨rfl, x, hx, rfl⟩
            · obtain ⟨rfl, x, hx, rfl⟩ := h
              refine wg_or1 (tg_not (N1 := fun b en' => b = true ∧ ∃ y, PairOk y ∧ en' = Z Da Db sa (S ++ [x] ++ [y]) (.d (.int c)) (.v (.ref sa)) w4 (.d (.int 0))) (tg_val (M := fun o en' => o = .ret (.bool true) ∧ ∃ y, PairOk y ∧ en' = Z Da Db sa (S ++ [x] ++ [y]) (.d (.int c)) (.v (.ref sa)) w4 (.d (.int 0))) (g_call (fun _ => takesNo) (ok__law_seen T) T.g__law_seen T.k__law_seen hr (by decide) (as_of (X := fun _ _ => False) (ar_r (r_ix 16 (r_var 1) (.inl rfl) ((x_sub x_int (x_var (d := .int 0) 5 rfl)).is (d := .int 1) rfl) (by decide) rfl) (ar_r (r_var 3) (ar_d (x_lt (x_mod (x_var 2 rfl) x_int (by walk_at "side")) x_int) ar_nil)))) (fun as en1 h => ?_) (fun _ _ h => h.elim)) ?_) ?_)
              · obtain ⟨rfl, rfl⟩ := h
                refine ⟨[12, 13, 14, 15, 17], rD (ga K "Reader") A1 Db ++ [(sa, .lst ((S ++ [x]).map Cv.d))], _, rfl, by decide, ⟨A1, Db, i + 1, sa, S ++ [x], _, rfl, rfl, ob, by rw [List.length_append, List.length_singleton]; omega, rfl⟩, ?_⟩
                rintro o cs' ⟨rfl, y, hy, rfl⟩
                exact ⟨rfl, y, hy, rfl⟩
              · rintro o en' ⟨rfl, y, hy, rfl⟩
                exact ⟨true, rfl, rfl, y, hy, rfl⟩
              · rintro b en' ⟨rfl, y, hy, rfl⟩
                exact ⟨rfl, x, y, hx, hy, rfl⟩
            · rintro en' ⟨z, _⟩
              cases z
            · rintro en' ⟨_, x, y, hx, hy, rfl⟩
              exact b_nil ⟨Da, Db, S ++ [x] ++ [y], _, _, _, by omega, oa, ob, (dd x y hx hy).1, (dd x y hx hy).2, rfl⟩
          · refine b_seq (Z Da Db sa S (.d (.int c)) (.v (.ref sa)) w4 (.d (.int 1))) (s_set 5 nd ((x_mod (x_div (x_var 2 rfl) x_int (by walk_at "side")) x_int (by walk_at "side")).is (d := .int 1) (by rw [hc3])) rfl) ?_
            refine b_one (s_ifG (N := fun b en' => b = false ∧ ∃ x y, PairOk x ∧ PairOk y ∧ en' = Z Da Db sa (S ++ [x] ++ [y]) (.d (.int c)) (.v (.ref sa)) w4 (.d (.int 1))) (XWG.xt (wg_or (N1 := fun b en' => b = false ∧ ∃ x, PairOk x ∧ en' = Z Da Db sa (S ++ [x]) (.d (.int c)) (.v (.ref sa)) w4 (.d (.int 1))) (tg_not (N1 := fun b en' => b = true ∧ ∃ x, PairOk x ∧ en' = Z Da Db sa (S ++ [x]) (.d (.int c)) (.v (.ref sa)) w4 (.d (.int 1))) (tg_val (M := fun o en' => o = .ret (.bool true) ∧ ∃ x, PairOk x ∧ en' = Z Da Db sa (S ++ [x]) (.d (.int c)) (.v (.ref sa)) w4 (.d (.int 1))) (g_call (fun _ => takesNo) (ok__law_seen T) T.g__law_seen T.k__law_seen hr (by decide) (as_of (X := fun _ _ => False) (ar_r (r_ix 16 (r_var 1) (.inl rfl) (x_var (d := .int 1) 5 rfl) (by decide) rfl) (ar_r (r_var 3) (ar_d (x_lt (x_mod (x_var 2 rfl) x_int (by walk_at "side")) x_int) ar_nil)))) (fun as en1 h => ?_) (fun _ _ h => h.elim)) ?_) ?_) fun b en1 h => ?_)) ?_ ?_)
            · obtain ⟨rfl, rfl⟩ := h
              refine ⟨[12, 13, 14, 15, 17], rD (ga K "Reader") A1 Db ++ [(sa, .lst (S.map Cv.d))], _, rfl, by decide, ⟨A1, Db, i + 1, sa, S, _, rfl, rfl, ob, by omega, rfl⟩, ?_⟩
              rintro o cs' ⟨rfl, x, hx, rfl⟩
              exact ⟨rfl, x, hx, rfl⟩
            · rintro o en' ⟨rfl, x, hx, rfl⟩
              exact ⟨true, rfl, rfl, x, hx, rfl⟩
            · rintro b en' ⟨rfl, x, hx, rfl⟩
              exact ⟨rfl, x, hx, rfl⟩
            · obtain ⟨rfl, x, hx, rfl⟩ := h
              refine wg_or1 (tg_not (N1 := fun b en' => b = true ∧ ∃ y, PairOk y ∧ en' = Z Da Db sa (S ++ [x] ++ [y]) (.d (.int c)) (.v (.ref sa)) w4 (.d (.int 1))) (tg_val (M := fun o en' => o = .ret (.bool true) ∧ ∃ y, PairOk y ∧ en' = Z Da Db sa (S ++ [x] ++ [y]) (.d (.int c)) (.v (.ref sa)) w4 (.d (.int 1))) (g_call (fun _ => takesNo) (ok__law_seen T) T.g__law_seen T.k__law_seen hr (by decide) (as_of (X := fun _ _ => False) (ar_r (r_ix 16 (r_var 1) (.inl rfl) ((x_sub x_int (x_var (d := .int 1) 5 rfl)).is (d := .int 0) rfl) (by decide) rfl) (ar_r (r_var 3) (ar_d (x_lt (x_mod (x_var 2 rfl) x_int (by walk_at "side")) x_int) ar_nil)))) (fun as en1 h => ?_) (fun _ _ h => h.elim)) ?_) ?_)
              · obtain ⟨rfl, rfl⟩ := h
                refine ⟨[8, 9, 10, 11, 17], rD (ga K "Reader") A0 Da ++ [(sa, .lst ((S ++ [x]).map Cv.d))], _, rfl, by decide, ⟨A0, Da, i + 1, sa, S ++ [x], _, rfl, rfl, oa, by rw [List.length_append, List.length_singleton]; omega, rfl⟩, ?_⟩
                rintro o cs' ⟨rfl, y, hy, rfl⟩
                exact ⟨rfl, y, hy, rfl⟩
              · rintro o en' ⟨rfl, y, hy, rfl⟩
                exact ⟨true, rfl, rfl, y, hy, rfl⟩
              · rintro b en' ⟨rfl, y, hy, rfl⟩
                exact ⟨rfl, x, y, hx, hy, rfl⟩
            · rintro en' ⟨z, _⟩
              cases z
            · rintro en' ⟨_, x, y, hx, hy, rfl⟩
              exact b_nil ⟨Da, Db, S ++ [x] ++ [y], _, _, _, by omega, oa, ob, (dd x y hx hy).1, (dd x y hx hy).2, rfl⟩
        rcases (by omega : c % 2 = 0 ∨ c % 2 = 1) with hc2 | hc2
        · refine b_cons (fun en => ∃ D' : RS, D'.Ok (i + 1) ∧ en = Z D' Db sa S (.d (.int c)) (.v (.ref sa)) (.d (.int (6 + (i : Int)))) w5) (s_ifG (N := fun b en' => b = false ∧ ∃ D' : RS, D'.Ok (i + 1) ∧ en' = Z D' Db sa S (.d (.int c)) (.v (.ref sa)) (.d (.int (6 + (i : Int)))) w5) (tg_not (N1 := fun b en' => b = true ∧ ∃ D' : RS, D'.Ok (i + 1) ∧ en' = Z D' Db sa S (.d (.int c)) (.v (.ref sa)) (.d (.int (6 + (i : Int)))) w5) (tg_val (M := fun o en' => o = .ret (.bool true) ∧ ∃ D' : RS, D'.Ok (i + 1) ∧ en' = Z D' Db sa S (.d (.int c)) (.v (.ref sa)) (.d (.int (6 + (i : Int)))) w5) (g_call (fun _ => takesNo) (ok__law_take T) T.g__law_take T.k__law_take hr (by decide) (as_of (X := fun _ _ => False) (ar_r (r_ix 16 (r_var 1) (.inl rfl) ((x_mod (x_var 2 rfl) x_int (by walk_at "side")).is (d := .int 0) (by rw [hc2])) (by decide) rfl) (ar_d (x_div (x_var 2 rfl) x_int (by walk_at "side")) ar_nil))) (fun as en1 h => ?_) (fun _ _ h => h.elim)) ?_) ?_) ?_ ?_) ?_
          · obtain ⟨rfl, rfl⟩ := h
            refine ⟨[8, 9, 10, 11], rD (ga K "Reader") A0 Da, _, rfl, by decide, ⟨A0, Da, i, _, rfl, rfl, oa, by omega, rfl⟩, ?_⟩
            rintro o cs' ⟨rfl, D', hD', rfl⟩
            exact ⟨rfl, D', hD', rfl⟩
          · rintro o en' ⟨rfl, D', hD', rfl⟩
            exact ⟨true, rfl, rfl, D', hD', rfl⟩
          · rintro b en' ⟨rfl, D', hD', rfl⟩
            exact ⟨rfl, D', hD', rfl⟩
          · rintro en' ⟨z, _⟩
            cases z
          · rintro en' ⟨_, D', hD', rfl⟩
            exact b_nil ⟨D', hD', rfl⟩
          · rintro en' ⟨D', hD', rfl⟩
            exact rest D' Db _ _ hD' (ob.le (Nat.le_succ _) (by omega))
        · refine b_cons (fun en => ∃ D' : RS, D'.Ok (i + 1) ∧ en = Z Da D' sa S (.d (.int c)) (.v (.ref sa)) (.d (.int (6 + (i : Int)))) w5) (s_ifG (N := fun b en' => b = false ∧ ∃ D' : RS, D'.Ok (i + 1) ∧ en' = Z Da D' sa S (.d (.int c)) (.v (.ref sa)) (.d (.int (6 + (i : Int)))) w5) (tg_not (N1 := fun b en' => b = true ∧ ∃ D' : RS, D'.Ok (i + 1) ∧ en' = Z Da D' sa S (.d (.int c)) (.v (.ref sa)) (.d (.int (6 + (i : Int)))) w5) (tg_val (M := fun o en' => o = .ret (.bool true) ∧ ∃ D' : RS, D'.Ok (i + 1) ∧ en' = Z Da D' sa S (.d (.int c)) (.v (.ref sa)) (.d (.int (6 + (i : Int)))) w5) (g_call (fun _ => takesNo) (ok__law_take T) T.g__law_take T.k__law_take hr (by decide) (as_of (X := fun _ _ => False) (ar_r (r_ix 16 (r_var 1) (.inl rfl) ((x_mod (x_var 2 rfl) x_int (by walk_at "side")).is (d := .int 1) (by rw [hc2])) (by decide) rfl) (ar_d (x_div (x_var 2 rfl) x_int (by walk_at "side")) ar_nil))) (fun as en1 h => ?_) (fun _ _ h => h.elim)) ?_) ?_) ?_ ?_) ?_
          · obtain ⟨rfl, rfl⟩ := h
            refine ⟨[12, 13, 14, 15], rD (ga K "Reader") A1 Db, _, rfl, by decide, ⟨A1, Db, i, _, rfl, rfl, ob, by omega, rfl⟩, ?_⟩
            rintro o cs' ⟨rfl, D', hD', rfl⟩
            exact ⟨rfl, D', hD', rfl⟩
          · rintro o en' ⟨rfl, D', hD', rfl⟩
            exact ⟨true, rfl, rfl, D', hD', rfl⟩
          · rintro b en' ⟨rfl, D', hD', rfl⟩
            exact ⟨rfl, D', hD', rfl⟩
          · rintro en' ⟨z, _⟩
            cases z
          · rintro en' ⟨_, D', hD', rfl⟩
            exact b_nil ⟨D', hD', rfl⟩
          · rintro en' ⟨D', hD', rfl⟩
            exact rest Da D' _ _ (oa.le (Nat.le_succ _) (by omega)) hD'
      · rintro en' ⟨Da, Db, S, w2, w4, w5, h12, oa, ob, hS, lS, rfl⟩
        exact ⟨Da, Db, S, w2, w4, w5, oa.le h12 (by decide), ob.le h12 (by decide), hS, by omega, rfl⟩
    · rintro en' ⟨Da, Db, S, w2, w4, w5, oa, ob, hS, lS, rfl⟩
      have la := oa.lL
      have lb := ob.lL
      refine b_seq _ (s_setN 3 nd (n_catS (ls_d (n_catS (ls_cel (ds := S) 17 (r_var 3) (.inl rfl)) (ls_cel (ds := Da.L) 11 (r_key 10 hu (r_ix 16 (r_var 1) (.inl rfl) x_int (by decide) rfl) (.inl rfl) rfl) (.inl rfl)) (by omega)).xd) (ls_cel (ds := Db.L) 15 (r_key 14 hu (r_ix 16 (r_var 1) (.inl rfl) x_int (by decide) rfl) (.inl rfl) rfl) (.inl rfl)) (by rw [List.length_append]; omega)) rfl) ?_
      have hall : ∀ d ∈ S ++ Da.L ++ Db.L, PairOk d := fun d hd => by
        rcases List.mem_append.mp hd with hd | hd
        · rcases List.mem_append.mp hd with hd | hd
          · exact hS d hd
          · exact oa.pairs d hd
        · exact ob.pairs d hd
      have lall : (S ++ Da.L ++ Db.L).length ≤ 100000 := by
        rw [List.length_append, List.length_append]
        omega
      generalize S ++ Da.L ++ Db.L = L at hall lall ⊢
      have L0 : ((L.filter fun z => match z with | .tuple [d1, d2] => (fun _ _ => false : Dt → Dt → Bool) d1 d2 | _ => false).map fun z => match z with | .tuple [d1, d2] => (fun _ _ => .int 1 : Dt → Dt → Dt) d1 d2 | z => z) = ([] : List Dt) := by
        rw [List.filter_eq_nil_iff.mpr fun z hz => by
          obtain ⟨xs, rfl⟩ := hall z hz
          simp]
        rfl
      refine XB.openAt 3 (b_one (s_retG (M := fun o en' => o = .ret (.bool true)) (g_and (M1 := fun o en' => o = .ret (.bool true) ∧ ∃ cs2, en' = [.d (fz (lsI ns)), .v (.ref B), w2, .d (.list L), w4, w5, .no, .no] ++ cs2) (g_call tk (ok__law_seen T) T.g__law_seen T.k__law_seen hr (by decide) (as_cons (X := fun _ _ => False) (M := fun as en' => ∃ l, as = [.r A0.p, .r l, .d (.bool true)] ∧ en' = Z Da Db sa S w2 (.d (.list L)) w4 w5 ++ [.cell l (.lst [])]) (g_r (r_ix 16 (r_var 1) (.inl rfl) x_int (by decide) rfl)) (by
        rintro o en1 ⟨rfl, rfl⟩
        exact as_cons (g_cel (n_list a_nil)) (by
          rintro o en1 ⟨l, rfl, rfl⟩
          exact as_cons (g_d x_bool) (by
            rintro o en1 ⟨rfl, rfl⟩
            exact XAs.imp (as_nil (X := fun _ _ => False)) (by rintro as en' ⟨rfl, rfl⟩; exact ⟨l, rfl, rfl⟩))))) (fun as en1 h => ?_) (fun _ _ h => h.elim)) fun o en1 h => ?_) (by rintro o en' rfl; rfl)))
      · obtain ⟨l, rfl, rfl⟩ := h
        refine ⟨[8, 9, 10, 11, 18], rD (ga K "Reader") A0 Da ++ [(l, .lst [])], _, rfl, by decide, ⟨A0, Da, 12, l, [], true, rfl, rfl, oa, by decide, rfl⟩, ?_⟩
        rintro o cs' ⟨rfl, x, hx, rfl⟩
        exact ⟨rfl, _, rfl⟩
      · obtain ⟨rfl, cs2, rfl⟩ := h
        refine g_one (XG.imp (g_d ((x_eq hu (XL.xd (XL.is (l_pairs 6 7 (xs := L) (fun _ _ => .int 1) (fun _ _ => false) (by decide) nd (x_var 3 rfl) lall (fun z hz => let ⟨xs, e⟩ := hall z hz; ⟨_, _, e⟩) (fun d1 d2 hd => ?_) (fun _ _ _ _ => x_int) (fun q => pg_tup rfl (pgs_cons (pg_name nd rfl (by first | exact Or.inl rfl | exact Or.inr rfl)) (pgs_cons (pg_name nd rfl (by first | exact Or.inl rfl | exact Or.inr rfl)) pgs_nil)))) L0)) (n_list a_nil).xd rfl rfl).is (d := .bool true) rfl)) fun o en' h => h.1)
        obtain ⟨xs, e⟩ := hall _ hd
        cases e
        exact f_one ((t_ne hu (x_var 6 rfl) (x_var 7 rfl) (sh_ints) (sh_ints)).is (by rw [eqv_lists, decide_eq_true rfl] <;> rfl))
end
def fnD : List He.FnD := [⟨("is_among", none), "is_among", "is_among", defArgs s_is_among, defBody s_is_among, defScope s_is_among⟩,
  ⟨("is_plan", none), "is_plan", "is_plan", defArgs s_is_plan, defBody s_is_plan, defScope s_is_plan⟩,
  ⟨("need_plan", none), "need_plan", "need_plan", defArgs s_need_plan, defBody s_need_plan, defScope s_need_plan⟩,
  ⟨("is_sign", none), "is_sign", "is_sign", defArgs s_is_sign, defBody s_is_sign, defScope s_is_sign⟩,
  ⟨("need_sign", none), "need_sign", "need_sign", defArgs s_need_sign, defBody s_need_sign, defScope s_need_sign⟩,
  ⟨("need_signs", none), "need_signs", "need_signs", defArgs s_need_signs, defBody s_need_signs, defScope s_need_signs⟩,
  ⟨("share_of", none), "share_of", "share_of", defArgs s_share_of, defBody s_share_of, defScope s_share_of⟩,
  ⟨("plan_behind", none), "plan_behind", "plan_behind", defArgs s_plan_behind, defBody s_plan_behind, defScope s_plan_behind⟩,
  ⟨("parted", none), "parted", "parted", defArgs s_parted, defBody s_parted, defScope s_parted⟩,
  ⟨("within", none), "within", "within", defArgs s_within, defBody s_within, defScope s_within⟩,
  ⟨("stretch_of", none), "stretch_of", "stretch_of", defArgs s_stretch_of, defBody s_stretch_of, defScope s_stretch_of⟩,
  ⟨("_law_cell_at", none), "_law_cell_at", "_law_cell_at", defArgs s__law_cell_at, defBody s__law_cell_at, defScope s__law_cell_at⟩,
  ⟨("_law_mixed", none), "_law_mixed", "_law_mixed", defArgs s__law_mixed, defBody s__law_mixed, defScope s__law_mixed⟩,
  ⟨("_law_plan", none), "_law_plan", "_law_plan", defArgs s__law_plan, defBody s__law_plan, defScope s__law_plan⟩,
  ⟨("by_twos", none), "by_twos", "by_twos", defArgs s_by_twos, defBody s_by_twos, defScope s_by_twos⟩,
  ⟨("figures_in", none), "figures_in", "figures_in", defArgs s_figures_in, defBody s_figures_in, defScope s_figures_in⟩,
  ⟨("pressed", none), "pressed", "pressed", defArgs s_pressed, defBody s_pressed, defScope s_pressed⟩,
  ⟨("_law_whole", none), "_law_whole", "_law_whole", defArgs s__law_whole, defBody s__law_whole, defScope s__law_whole⟩,
  ⟨("_law_behind", none), "_law_behind", "_law_behind", defArgs s__law_behind, defBody s__law_behind, defScope s__law_behind⟩,
  ⟨("_law_signs", none), "_law_signs", "_law_signs", defArgs s__law_signs, defBody s__law_signs, defScope s__law_signs⟩,
  ⟨("_law_within", none), "_law_within", "_law_within", defArgs s__law_within, defBody s__law_within, defScope s__law_within⟩,
  ⟨("_law_figured", none), "_law_figured", "_law_figured", defArgs s__law_figured, defBody s__law_figured, defScope s__law_figured⟩,
  ⟨("need_figures", none), "need_figures", "need_figures", defArgs s_need_figures, defBody s_need_figures, defScope s_need_figures⟩,
  ⟨("longer", none), "longer", "longer", defArgs s_longer, defBody s_longer, defScope s_longer⟩,
  ⟨("need_many", none), "need_many", "need_many", defArgs s_need_many, defBody s_need_many, defScope s_need_many⟩,
  ⟨("next_sign", none), "next_sign", "next_sign", defArgs s_next_sign, defBody s_next_sign, defScope s_next_sign⟩,
  ⟨("signs_by", none), "signs_by", "signs_by", defArgs s_signs_by, defBody s_signs_by, defScope s_signs_by⟩,
  ⟨("_law_word", none), "_law_word", "_law_word", defArgs s__law_word, defBody s__law_word, defScope s__law_word⟩,
  ⟨("_law_no_plan", none), "_law_no_plan", "_law_no_plan", defArgs s__law_no_plan, defBody s__law_no_plan, defScope s__law_no_plan⟩,
  ⟨("Reader", some "__init__"), "__init__", "Reader.__init__", defArgs s_Reader___init__, defBody s_Reader___init__, defScope s_Reader___init__⟩,
  ⟨("Reader", some "lacking"), "lacking", "Reader.lacking", defArgs s_Reader_lacking, defBody s_Reader_lacking, defScope s_Reader_lacking⟩,
  ⟨("Reader", some "told"), "told", "Reader.told", defArgs s_Reader_told, defBody s_Reader_told, defScope s_Reader_told⟩,
  ⟨("Reader", some "take"), "take", "Reader.take", defArgs s_Reader_take, defBody s_Reader_take, defScope s_Reader_take⟩,
  ⟨("_law_certain", none), "_law_certain", "_law_certain", defArgs s__law_certain, defBody s__law_certain, defScope s__law_certain⟩,
  ⟨("_law_refused", none), "_law_refused", "_law_refused", defArgs s__law_refused, defBody s__law_refused, defScope s__law_refused⟩,
  ⟨("_law_edge", none), "_law_edge", "_law_edge", defArgs s__law_edge, defBody s__law_edge, defScope s__law_edge⟩,
  ⟨("_law_made", none), "_law_made", "_law_made", defArgs s__law_made, defBody s__law_made, defScope s__law_made⟩,
  ⟨("_law_lacks", none), "_law_lacks", "_law_lacks", defArgs s__law_lacks, defBody s__law_lacks, defScope s__law_lacks⟩,
  ⟨("_law_seen", none), "_law_seen", "_law_seen", defArgs s__law_seen, defBody s__law_seen, defScope s__law_seen⟩,
  ⟨("_law_take", none), "_law_take", "_law_take", defArgs s__law_take, defBody s__law_take, defScope s__law_take⟩,
  ⟨("law", none), "law", "law", defArgs s_law, defBody s_law, defScope s_law⟩]
def faD : List He.Fa := [.glo "is_among", .keep "is_among", .glo "is_plan", .keep "is_plan", .glo "need_plan", .keep "need_plan", .glo "is_sign", .keep "is_sign", .glo "need_sign", .keep "need_sign", .glo "need_signs", .keep "need_signs", .glo "share_of", .keep "share_of", .glo "plan_behind", .keep "plan_behind", .glo "parted", .keep "parted", .glo "within", .keep "within", .glo "stretch_of", .keep "stretch_of", .glo "_law_cell_at", .keep "_law_cell_at", .glo "_law_mixed", .keep "_law_mixed", .glo "_law_plan", .keep "_law_plan", .glo "by_twos", .keep "by_twos", .glo "figures_in", .keep "figures_in", .glo "pressed", .keep "pressed", .glo "_law_whole", .keep "_law_whole", .glo "_law_behind", .keep "_law_behind", .glo "_law_signs", .keep "_law_signs", .glo "_law_within", .keep "_law_within", .glo "_law_figured", .keep "_law_figured", .glo "need_figures", .keep "need_figures", .glo "longer", .keep "longer", .glo "need_many", .keep "need_many", .glo "next_sign", .keep "next_sign", .glo "signs_by", .keep "signs_by", .glo "_law_word", .keep "_law_word", .glo "_law_no_plan", .keep "_law_no_plan", .meth "Reader" "__init__", .meth "Reader" "lacking", .meth "Reader" "told", .meth "Reader" "take", .glo "_law_certain", .keep "_law_certain", .glo "_law_refused", .keep "_law_refused", .glo "_law_edge", .keep "_law_edge", .glo "_law_made", .keep "_law_made", .glo "_law_lacks", .keep "_law_lacks", .glo "_law_seen", .keep "_law_seen", .glo "_law_take", .keep "_law_take", .glo "law", .keep "law", .cls "Reader", .mkr "Reader", .glo "Reader", .noat "Reader" "plan", .noat "Reader" "many", .noat "Reader" "stretch", .noat "Reader" "goal", .noat "Reader" "taken", .noat "Reader" "signs", .free "len", .free "sum", .free "all", .free "list", .free "tuple", .free "min", .free "int", .free "isinstance", .free "bool", .free "range", .free "ValueError", .free "str", .int "LEAST_KINDS" 2, .int "MOST_KINDS" 8, .int "MOST_SIGNS" 60, .int "MOST_COUNT" 1000000, .int "MOST_FIGURES" 4000, .exc "PressError", .glo "PressError", .exc "BadPlan", .glo "BadPlan", .exc "BadSign", .glo "BadSign", .exc "BadCount", .glo "BadCount", .exc "BadFigures", .glo "BadFigures", .exc "Ended", .glo "Ended", .glo "WHOLE"]
def ebL (K : PySem.W.Frag) : List Bool := [excOne K (ga K "BadPlan"), excOne K (ga K "BadSign"), excOne K (ga K "BadCount"), excOne K (ga K "BadFigures"), excOne K (ga K "Ended")]
def exL (K : PySem.W.Frag) : List (Option Bool) := [PySem.W.kitOne K (.ref (ga K "BadPlan")) (.ref (ga K "BadPlan")), PySem.W.kitOne K (.ref (ga K "BadPlan")) (.ref (ga K "BadSign")), PySem.W.kitOne K (.ref (ga K "BadPlan")) (.ref (ga K "BadCount")), PySem.W.kitOne K (.ref (ga K "BadPlan")) (.ref (ga K "BadFigures")), PySem.W.kitOne K (.ref (ga K "BadPlan")) (.ref (ga K "Ended")), PySem.W.kitOne K (.ref (ga K "BadPlan")) (.type "ValueError"), PySem.W.exmOne K (.ref (ga K "BadPlan")) (.ref (ga K "PressError")), PySem.W.kitOne K (.ref (ga K "BadSign")) (.ref (ga K "BadPlan")), PySem.W.kitOne K (.ref (ga K "BadSign")) (.ref (ga K "BadSign")), PySem.W.kitOne K (.ref (ga K "BadSign")) (.ref (ga K "BadCount")), PySem.W.kitOne K (.ref (ga K "BadSign")) (.ref (ga K "BadFigures")), PySem.W.kitOne K (.ref (ga K "BadSign")) (.ref (ga K "Ended")), PySem.W.kitOne K (.ref (ga K "BadSign")) (.type "ValueError"), PySem.W.exmOne K (.ref (ga K "BadSign")) (.ref (ga K "PressError")), PySem.W.kitOne K (.ref (ga K "BadCount")) (.ref (ga K "BadPlan")), PySem.W.kitOne K (.ref (ga K "BadCount")) (.ref (ga K "BadSign")), PySem.W.kitOne K (.ref (ga K "BadCount")) (.ref (ga K "BadCount")), PySem.W.kitOne K (.ref (ga K "BadCount")) (.ref (ga K "BadFigures")), PySem.W.kitOne K (.ref (ga K "BadCount")) (.ref (ga K "Ended")), PySem.W.kitOne K (.ref (ga K "BadCount")) (.type "ValueError"), PySem.W.exmOne K (.ref (ga K "BadCount")) (.ref (ga K "PressError")), PySem.W.kitOne K (.ref (ga K "BadFigures")) (.ref (ga K "BadPlan")), PySem.W.kitOne K (.ref (ga K "BadFigures")) (.ref (ga K "BadSign")), PySem.W.kitOne K (.ref (ga K "BadFigures")) (.ref (ga K "BadCount")), PySem.W.kitOne K (.ref (ga K "BadFigures")) (.ref (ga K "BadFigures")), PySem.W.kitOne K (.ref (ga K "BadFigures")) (.ref (ga K "Ended")), PySem.W.kitOne K (.ref (ga K "BadFigures")) (.type "ValueError"), PySem.W.exmOne K (.ref (ga K "BadFigures")) (.ref (ga K "PressError")), PySem.W.kitOne K (.ref (ga K "Ended")) (.ref (ga K "BadPlan")), PySem.W.kitOne K (.ref (ga K "Ended")) (.ref (ga K "BadSign")), PySem.W.kitOne K (.ref (ga K "Ended")) (.ref (ga K "BadCount")), PySem.W.kitOne K (.ref (ga K "Ended")) (.ref (ga K "BadFigures")), PySem.W.kitOne K (.ref (ga K "Ended")) (.ref (ga K "Ended")), PySem.W.kitOne K (.ref (ga K "Ended")) (.type "ValueError"), PySem.W.exmOne K (.ref (ga K "Ended")) (.ref (ga K "PressError"))]
def exV : List (Option Bool) := [some true, some false, some false, some false, some false, some true, some true, some false, some true, some false, some false, some false, some true, some true, some false, some false, some true, some false, some false, some true, some true, some false, some false, some false, some true, some false, some true, some true, some false, some false, some false, some false, some true, some true, some true]
theorem tx_of {K : PySem.W.Frag} {h : Heap} {mg : Str → Option Value} (X : K.In h) (G : h.Ns mainGlobals mg) (c : He.SaysE faD fnD K) (wh : He.tupB K "WHOLE" [.int 0, .int 1, .int 1] = true) (eb : ebL K = [true, true, true, true, true]) (xl : exL K = exV) : Tx K mg where
  d_is_among := def_fun (c.def_ 0 rfl) (c.fact 1 (f := .keep "is_among") rfl)
  g_is_among := He.glo_ok X G (c.fact 0 (f := .glo "is_among") rfl)
  d_is_plan := def_fun (c.def_ 1 rfl) (c.fact 3 (f := .keep "is_plan") rfl)
  g_is_plan := He.glo_ok X G (c.fact 2 (f := .glo "is_plan") rfl)
  d_need_plan := def_fun (c.def_ 2 rfl) (c.fact 5 (f := .keep "need_plan") rfl)
  g_need_plan := He.glo_ok X G (c.fact 4 (f := .glo "need_plan") rfl)
  d_is_sign := def_fun (c.def_ 3 rfl) (c.fact 7 (f := .keep "is_sign") rfl)
  g_is_sign := He.glo_ok X G (c.fact 6 (f := .glo "is_sign") rfl)
  d_need_sign := def_fun (c.def_ 4 rfl) (c.fact 9 (f := .keep "need_sign") rfl)
  g_need_sign := He.glo_ok X G (c.fact 8 (f := .glo "need_sign") rfl)
  d_need_signs := def_fun (c.def_ 5 rfl) (c.fact 11 (f := .keep "need_signs") rfl)
  g_need_signs := He.glo_ok X G (c.fact 10 (f := .glo "need_signs") rfl)
  d_share_of := def_fun (c.def_ 6 rfl) (c.fact 13 (f := .keep "share_of") rfl)
  g_share_of := He.glo_ok X G (c.fact 12 (f := .glo "share_of") rfl)
  d_plan_behind := def_fun (c.def_ 7 rfl) (c.fact 15 (f := .keep "plan_behind") rfl)
  g_plan_behind := He.glo_ok X G (c.fact 14 (f := .glo "plan_behind") rfl)
  d_parted := def_fun (c.def_ 8 rfl) (c.fact 17 (f := .keep "parted") rfl)
  g_parted := He.glo_ok X G (c.fact 16 (f := .glo "parted") rfl)
  d_within := def_fun (c.def_ 9 rfl) (c.fact 19 (f := .keep "within") rfl)
  g_within := He.glo_ok X G (c.fact 18 (f := .glo "within") rfl)
  d_stretch_of := def_fun (c.def_ 10 rfl) (c.fact 21 (f := .keep "stretch_of") rfl)
  g_stretch_of := He.glo_ok X G (c.fact 20 (f := .glo "stretch_of") rfl)
  d__law_cell_at := def_fun (c.def_ 11 rfl) (c.fact 23 (f := .keep "_law_cell_at") rfl)
  g__law_cell_at := He.glo_ok X G (c.fact 22 (f := .glo "_law_cell_at") rfl)
  d__law_mixed := def_fun (c.def_ 12 rfl) (c.fact 25 (f := .keep "_law_mixed") rfl)
  g__law_mixed := He.glo_ok X G (c.fact 24 (f := .glo "_law_mixed") rfl)
  d__law_plan := def_fun (c.def_ 13 rfl) (c.fact 27 (f := .keep "_law_plan") rfl)
  g__law_plan := He.glo_ok X G (c.fact 26 (f := .glo "_law_plan") rfl)
  d_by_twos := def_fun (c.def_ 14 rfl) (c.fact 29 (f := .keep "by_twos") rfl)
  g_by_twos := He.glo_ok X G (c.fact 28 (f := .glo "by_twos") rfl)
  d_figures_in := def_fun (c.def_ 15 rfl) (c.fact 31 (f := .keep "figures_in") rfl)
  g_figures_in := He.glo_ok X G (c.fact 30 (f := .glo "figures_in") rfl)
  d_pressed := def_fun (c.def_ 16 rfl) (c.fact 33 (f := .keep "pressed") rfl)
  g_pressed := He.glo_ok X G (c.fact 32 (f := .glo "pressed") rfl)
  d__law_whole := def_fun (c.def_ 17 rfl) (c.fact 35 (f := .keep "_law_whole") rfl)
  g__law_whole := He.glo_ok X G (c.fact 34 (f := .glo "_law_whole") rfl)
  d__law_behind := def_fun (c.def_ 18 rfl) (c.fact 37 (f := .keep "_law_behind") rfl)
  g__law_behind := He.glo_ok X G (c.fact 36 (f := .glo "_law_behind") rfl)
  d__law_signs := def_fun (c.def_ 19 rfl) (c.fact 39 (f := .keep "_law_signs") rfl)
  g__law_signs := He.glo_ok X G (c.fact 38 (f := .glo "_law_signs") rfl)
  d__law_within := def_fun (c.def_ 20 rfl) (c.fact 41 (f := .keep "_law_within") rfl)
  g__law_within := He.glo_ok X G (c.fact 40 (f := .glo "_law_within") rfl)
  d__law_figured := def_fun (c.def_ 21 rfl) (c.fact 43 (f := .keep "_law_figured") rfl)
  g__law_figured := He.glo_ok X G (c.fact 42 (f := .glo "_law_figured") rfl)
  d_need_figures := def_fun (c.def_ 22 rfl) (c.fact 45 (f := .keep "need_figures") rfl)
  g_need_figures := He.glo_ok X G (c.fact 44 (f := .glo "need_figures") rfl)
  d_longer := def_fun (c.def_ 23 rfl) (c.fact 47 (f := .keep "longer") rfl)
  g_longer := He.glo_ok X G (c.fact 46 (f := .glo "longer") rfl)
  d_need_many := def_fun (c.def_ 24 rfl) (c.fact 49 (f := .keep "need_many") rfl)
  g_need_many := He.glo_ok X G (c.fact 48 (f := .glo "need_many") rfl)
  d_next_sign := def_fun (c.def_ 25 rfl) (c.fact 51 (f := .keep "next_sign") rfl)
  g_next_sign := He.glo_ok X G (c.fact 50 (f := .glo "next_sign") rfl)
  d_signs_by := def_fun (c.def_ 26 rfl) (c.fact 53 (f := .keep "signs_by") rfl)
  g_signs_by := He.glo_ok X G (c.fact 52 (f := .glo "signs_by") rfl)
  d__law_word := def_fun (c.def_ 27 rfl) (c.fact 55 (f := .keep "_law_word") rfl)
  g__law_word := He.glo_ok X G (c.fact 54 (f := .glo "_law_word") rfl)
  d__law_no_plan := def_fun (c.def_ 28 rfl) (c.fact 57 (f := .keep "_law_no_plan") rfl)
  g__law_no_plan := He.glo_ok X G (c.fact 56 (f := .glo "_law_no_plan") rfl)
  d_Reader___init__ := def_meth (c.def_ 29 rfl) (c.fact 58 (f := .meth "Reader" "__init__") rfl)
  m_Reader___init__ := He.meth_ok (c.fact 58 (f := .meth "Reader" "__init__") rfl)
  d_Reader_lacking := def_meth (c.def_ 30 rfl) (c.fact 59 (f := .meth "Reader" "lacking") rfl)
  m_Reader_lacking := He.meth_ok (c.fact 59 (f := .meth "Reader" "lacking") rfl)
  d_Reader_told := def_meth (c.def_ 31 rfl) (c.fact 60 (f := .meth "Reader" "told") rfl)
  m_Reader_told := He.meth_ok (c.fact 60 (f := .meth "Reader" "told") rfl)
  d_Reader_take := def_meth (c.def_ 32 rfl) (c.fact 61 (f := .meth "Reader" "take") rfl)
  m_Reader_take := He.meth_ok (c.fact 61 (f := .meth "Reader" "take") rfl)
  d__law_certain := def_fun (c.def_ 33 rfl) (c.fact 63 (f := .keep "_law_certain") rfl)
  g__law_certain := He.glo_ok X G (c.fact 62 (f := .glo "_law_certain") rfl)
  d__law_refused := def_fun (c.def_ 34 rfl) (c.fact 65 (f := .keep "_law_refused") rfl)
  g__law_refused := He.glo_ok X G (c.fact 64 (f := .glo "_law_refused") rfl)
  d__law_edge := def_fun (c.def_ 35 rfl) (c.fact 67 (f := .keep "_law_edge") rfl)
  g__law_edge := He.glo_ok X G (c.fact 66 (f := .glo "_law_edge") rfl)
  d__law_made := def_fun (c.def_ 36 rfl) (c.fact 69 (f := .keep "_law_made") rfl)
  g__law_made := He.glo_ok X G (c.fact 68 (f := .glo "_law_made") rfl)
  k__law_made := He.keep_ok (c.fact 69 (f := .keep "_law_made") rfl)
  d__law_lacks := def_fun (c.def_ 37 rfl) (c.fact 71 (f := .keep "_law_lacks") rfl)
  g__law_lacks := He.glo_ok X G (c.fact 70 (f := .glo "_law_lacks") rfl)
  k__law_lacks := He.keep_ok (c.fact 71 (f := .keep "_law_lacks") rfl)
  d__law_seen := def_fun (c.def_ 38 rfl) (c.fact 73 (f := .keep "_law_seen") rfl)
  g__law_seen := He.glo_ok X G (c.fact 72 (f := .glo "_law_seen") rfl)
  k__law_seen := He.keep_ok (c.fact 73 (f := .keep "_law_seen") rfl)
  d__law_take := def_fun (c.def_ 39 rfl) (c.fact 75 (f := .keep "_law_take") rfl)
  g__law_take := He.glo_ok X G (c.fact 74 (f := .glo "_law_take") rfl)
  k__law_take := He.keep_ok (c.fact 75 (f := .keep "_law_take") rfl)
  d_law := def_fun (c.def_ 40 rfl) (c.fact 77 (f := .keep "law") rfl)
  g_law := He.glo_ok X G (c.fact 76 (f := .glo "law") rfl)
  c_Reader := He.cls_ok (c.fact 78 (f := .cls "Reader") rfl)
  k_Reader := He.mkr_ok (c.fact 79 (f := .mkr "Reader") rfl)
  g_Reader := He.glo_ok X G (c.fact 80 (f := .glo "Reader") rfl)
  a_Reader_plan := He.noat_ok (c.fact 81 (f := .noat "Reader" "plan") rfl)
  a_Reader_many := He.noat_ok (c.fact 82 (f := .noat "Reader" "many") rfl)
  a_Reader_stretch := He.noat_ok (c.fact 83 (f := .noat "Reader" "stretch") rfl)
  a_Reader_goal := He.noat_ok (c.fact 84 (f := .noat "Reader" "goal") rfl)
  a_Reader_taken := He.noat_ok (c.fact 85 (f := .noat "Reader" "taken") rfl)
  a_Reader_signs := He.noat_ok (c.fact 86 (f := .noat "Reader" "signs") rfl)
  n_len := He.free_ok X G (c.fact 87 (f := .free "len") rfl)
  n_sum := He.free_ok X G (c.fact 88 (f := .free "sum") rfl)
  n_all := He.free_ok X G (c.fact 89 (f := .free "all") rfl)
  n_list := He.free_ok X G (c.fact 90 (f := .free "list") rfl)
  n_tuple := He.free_ok X G (c.fact 91 (f := .free "tuple") rfl)
  n_min := He.free_ok X G (c.fact 92 (f := .free "min") rfl)
  n_int := He.free_ok X G (c.fact 93 (f := .free "int") rfl)
  n_isinstance := He.free_ok X G (c.fact 94 (f := .free "isinstance") rfl)
  n_bool := He.free_ok X G (c.fact 95 (f := .free "bool") rfl)
  n_range := He.free_ok X G (c.fact 96 (f := .free "range") rfl)
  n_ValueError := He.free_ok X G (c.fact 97 (f := .free "ValueError") rfl)
  n_str := He.free_ok X G (c.fact 98 (f := .free "str") rfl)
  i_LEAST_KINDS := He.int_ok X G (c.fact 99 (f := .int "LEAST_KINDS" 2) rfl)
  i_MOST_KINDS := He.int_ok X G (c.fact 100 (f := .int "MOST_KINDS" 8) rfl)
  i_MOST_SIGNS := He.int_ok X G (c.fact 101 (f := .int "MOST_SIGNS" 60) rfl)
  i_MOST_COUNT := He.int_ok X G (c.fact 102 (f := .int "MOST_COUNT" 1000000) rfl)
  i_MOST_FIGURES := He.int_ok X G (c.fact 103 (f := .int "MOST_FIGURES" 4000) rfl)
  x_PressError := exc_xc (He.exc_ok (c.fact 104 (f := .exc "PressError") rfl))
  g_PressError := He.glo_ok X G (c.fact 105 (f := .glo "PressError") rfl)
  x_BadPlan := exc_xc (He.exc_ok (c.fact 106 (f := .exc "BadPlan") rfl))
  g_BadPlan := He.glo_ok X G (c.fact 107 (f := .glo "BadPlan") rfl)
  x_BadSign := exc_xc (He.exc_ok (c.fact 108 (f := .exc "BadSign") rfl))
  g_BadSign := He.glo_ok X G (c.fact 109 (f := .glo "BadSign") rfl)
  x_BadCount := exc_xc (He.exc_ok (c.fact 110 (f := .exc "BadCount") rfl))
  g_BadCount := He.glo_ok X G (c.fact 111 (f := .glo "BadCount") rfl)
  x_BadFigures := exc_xc (He.exc_ok (c.fact 112 (f := .exc "BadFigures") rfl))
  g_BadFigures := He.glo_ok X G (c.fact 113 (f := .glo "BadFigures") rfl)
  x_Ended := exc_xc (He.exc_ok (c.fact 114 (f := .exc "Ended") rfl))
  g_Ended := He.glo_ok X G (c.fact 115 (f := .glo "Ended") rfl)
  g_WHOLE := He.glo_ok X G (c.fact 116 (f := .glo "WHOLE") rfl)
  w_WHOLE := fun H => He.tupB_ok wh H
  e_BadPlan := excOne_ok (congrArg (fun l => l.getD 0 false) eb)
  q_BadPlan_BadPlan := congrArg (fun l => l.getD 0 none) xl
  q_BadPlan_BadSign := congrArg (fun l => l.getD 1 none) xl
  q_BadPlan_BadCount := congrArg (fun l => l.getD 2 none) xl
  q_BadPlan_BadFigures := congrArg (fun l => l.getD 3 none) xl
  q_BadPlan_Ended := congrArg (fun l => l.getD 4 none) xl
  q_BadPlan := congrArg (fun l => l.getD 5 none) xl
  m_BadPlan := congrArg (fun l => l.getD 6 none) xl
  e_BadSign := excOne_ok (congrArg (fun l => l.getD 1 false) eb)
  q_BadSign_BadPlan := congrArg (fun l => l.getD 7 none) xl
  q_BadSign_BadSign := congrArg (fun l => l.getD 8 none) xl
  q_BadSign_BadCount := congrArg (fun l => l.getD 9 none) xl
  q_BadSign_BadFigures := congrArg (fun l => l.getD 10 none) xl
  q_BadSign_Ended := congrArg (fun l => l.getD 11 none) xl
  q_BadSign := congrArg (fun l => l.getD 12 none) xl
  m_BadSign := congrArg (fun l => l.getD 13 none) xl
  e_BadCount := excOne_ok (congrArg (fun l => l.getD 2 false) eb)
  q_BadCount_BadPlan := congrArg (fun l => l.getD 14 none) xl
  q_BadCount_BadSign := congrArg (fun l => l.getD 15 none) xl
  q_BadCount_BadCount := congrArg (fun l => l.getD 16 none) xl
  q_BadCount_BadFigures := congrArg (fun l => l.getD 17 none) xl
  q_BadCount_Ended := congrArg (fun l => l.getD 18 none) xl
  q_BadCount := congrArg (fun l => l.getD 19 none) xl
  m_BadCount := congrArg (fun l => l.getD 20 none) xl
  e_BadFigures := excOne_ok (congrArg (fun l => l.getD 3 false) eb)
  q_BadFigures_BadPlan := congrArg (fun l => l.getD 21 none) xl
  q_BadFigures_BadSign := congrArg (fun l => l.getD 22 none) xl
  q_BadFigures_BadCount := congrArg (fun l => l.getD 23 none) xl
  q_BadFigures_BadFigures := congrArg (fun l => l.getD 24 none) xl
  q_BadFigures_Ended := congrArg (fun l => l.getD 25 none) xl
  q_BadFigures := congrArg (fun l => l.getD 26 none) xl
  m_BadFigures := congrArg (fun l => l.getD 27 none) xl
  e_Ended := excOne_ok (congrArg (fun l => l.getD 4 false) eb)
  q_Ended_BadPlan := congrArg (fun l => l.getD 28 none) xl
  q_Ended_BadSign := congrArg (fun l => l.getD 29 none) xl
  q_Ended_BadCount := congrArg (fun l => l.getD 30 none) xl
  q_Ended_BadFigures := congrArg (fun l => l.getD 31 none) xl
  q_Ended_Ended := congrArg (fun l => l.getD 32 none) xl
  q_Ended := congrArg (fun l => l.getD 33 none) xl
  m_Ended := congrArg (fun l => l.getD 34 none) xl
end DL
open PySem PySem.W PyProof.Rows in
set_option maxRecDepth 100000 in
set_option maxHeartbeats 0 in
theorem PySem.Challenge.cw_partline_k08_readers_holds : PySem.Challenge.rw_partline_k08_readers.Holds := by
  w_on; o_law; k_head; (case hw => w_witness2)
  k_fill
  refine L2.walk_ofB (l := PySem.Challenge.rw_partline_k08_readers) (n := 63) (k := 10) (x := "_law_script") (CX := fun w => L2N.CX PySem.Challenge.pw_partline_k08_readers w) rfl (by decide) rfl ⟨rfl, by decide, by decide⟩ (fun w h Y => PySem.W.kIn_of Y) ?F (fun w H a ns hl hbits hO hS => DL.sp_law (R := DL.R_law) hS ⟨ns, rfl, rfl⟩) fun _ _ _ _ _ z => DL.cx_none z
  case F =>
    intro w mg fa h KX G hmg
    have T := DL.tx_of KX G (by show He.obsE DL.faD DL.fnD _ = He.valE DL.fnD; kernel_rfl) (by kernel_rfl) (by kernel_rfl) (by kernel_rfl)
    exact DL.fin_law hmg T.g_law T.d_law (fun _ _ _ _ _ _ _ _ => .of_eq rfl) (fun base => DL.ok_law T)
#print axioms PySem.Challenge.cw_partline_k08_readers_holds
