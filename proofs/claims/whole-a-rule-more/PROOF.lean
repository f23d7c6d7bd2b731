import PyProof.Rows.All
import Wide.All
import OpenK.AllK
import Wide.FinOn
import HandS.ForMost
import HandS.Codes
import HandS.TupAny
import HandS.Style
import HandS.IsInst
import HandS.SortInts
import HandS.ForExc
import HandS.WideBits
import HandS.HeadHook1
import KE.GoesEnum
import KE.KDictWalk
import KE.KDictDisplayH
import HandS.Strs
import HandS.TupLen
import HandS.SetFor
import KE.DatumOrd
import HandS.ExcOwn
import HandS.TryOnly
import KE.KStateDown
import Lean
import HandS.More
import HandS.Defaults
import HandS.Head0
import HandS.Head1
import HandS.Head2
import HandS.HeadEnd
import HandS.HeadHook2
import HandS.HeadNt
import PySem.Challenge.RW_nearreach_k63_whole_a_rule_more
set_option Elab.async false
set_option linter.all false
set_option maxRecDepth 100000
set_option maxHeartbeats 4000000
namespace Nr
open PySem PySem.Spec PyProof.Rows L2

/-! ### extension of heaps, data -/
abbrev Ex (H H' : Hp) : Prop := ∀ a o, H a = some o → H' a = some o
theorem Ex.refl (H : Hp) : Ex H H := fun _ _ h => h
theorem Ex.trans {H H1 H2 : Hp} (a : Ex H H1) (b : Ex H1 H2) : Ex H H2 := fun x o h => b x o (a x o h)
theorem Ex.new {H : Hp} {p : Addr} {o : HO} (h : H p = none) : Ex H (upd H p o) := fun a u e => by
  rw [upd_ne (ne_of_none e h)]
  exact e
theorem Ex.mut {H H' : Hp} {p : Addr} {o : HO} (e : Ex H H') (h : H p = none) : Ex H (upd H' p o) := fun a u ha => by
  rw [upd_ne (ne_of_none ha h)]
  exact e a u ha
theorem Ex.free {H H' : Hp} (e : Ex H H') {p : Addr} (h : H' p = none) : H p = none := by
  cases h1 : H p with
  | none => rfl
  | some o => rw [e p o h1] at h; cases h
theorem Ex.some {H H' : Hp} (e : Ex H H') {p : Addr} (h : H p ≠ none) : H' p ≠ none := fun q => h (e.free q)
theorem sz_le {n : Nat} (h : n ≤ 100000) : n ≤ sizeLine := Nat.le_trans h (by decide)
theorem sz_lt {n : Nat} (h : n < 100000) : n < sizeLine := Nat.lt_of_lt_of_le h (by decide)

mutual
/-- v stands for the datum d, read off F -/
def Dt (F : Hp) : PyData → V → Prop
  | .none, v => v = .non
  | .bool b, v => v = .bl b
  | .int i, v => v = .int i
  | .str x, v => v = .str x
  | .list ds, v => ∃ a xs, v = .ref a ∧ F a = some (.lst xs) ∧ Dts F ds xs
  | .tuple ds, v => ∃ a xs, v = .ref a ∧ F a = some (.tup xs) ∧ Dts F ds xs
  | .dict _, _ => False
def Dts (F : Hp) : List PyData → List V → Prop
  | [], xs => xs = []
  | d :: ds, xs => ∃ y ys, xs = y :: ys ∧ Dt F d y ∧ Dts F ds ys
end

mutual
theorem Dt.mono {F F' : Hp} (e : Ex F F') : ∀ {d : PyData} {v : V}, Dt F d v → Dt F' d v
  | .none, _, h => h
  | .bool _, _, h => h
  | .int _, _, h => h
  | .str _, _, h => h
  | .list _, _, h => by
    obtain ⟨a, xs, h1, h2, h3⟩ := h
    exact ⟨a, xs, h1, e _ _ h2, Dts.mono e h3⟩
  | .tuple _, _, h => by
    obtain ⟨a, xs, h1, h2, h3⟩ := h
    exact ⟨a, xs, h1, e _ _ h2, Dts.mono e h3⟩
  | .dict _, _, h => h.elim
theorem Dts.mono {F F' : Hp} (e : Ex F F') : ∀ {ds : List PyData} {xs : List V}, Dts F ds xs → Dts F' ds xs
  | [], _, h => h
  | _ :: _, _, h => by
    obtain ⟨y, ys, h1, h2, h3⟩ := h
    exact ⟨y, ys, h1, Dt.mono e h2, Dts.mono e h3⟩
end
theorem Dts.nil {F : Hp} : Dts F [] [] := rfl
theorem Dts.cons {F : Hp} {d : PyData} {ds : List PyData} {v : V} {vs : List V} (h : Dt F d v) (t : Dts F ds vs) : Dts F (d :: ds) (v :: vs) := ⟨v, vs, rfl, h, t⟩
theorem Dts.length {F : Hp} : ∀ {ds : List PyData} {xs : List V}, Dts F ds xs → xs.length = ds.length
  | [], _, h => by
    have h : _ = [] := h
    rw [h]
    rfl
  | _ :: ds, _, h => by
    obtain ⟨y, ys, rfl, _, h3⟩ := h
    rw [List.length_cons, List.length_cons, Dts.length h3]
theorem Dts.get {F : Hp} : ∀ {ds : List PyData} {xs : List V} {i : Nat} {d : PyData}, Dts F ds xs → ds[i]? = some d → ∃ v, xs[i]? = some v ∧ Dt F d v
  | [], _, i, d, _, e => by simp at e
  | d0 :: ds, _, 0, d, h, e => by
    obtain ⟨y, ys, rfl, h2, _⟩ := h
    have e : d0 = d := by simpa using e
    subst e
    exact ⟨y, rfl, h2⟩
  | _ :: ds, _, i + 1, d, h, e => by
    obtain ⟨y, ys, rfl, _, h3⟩ := h
    obtain ⟨v, h4, h5⟩ := Dts.get (i := i) (d := d) h3 (by simpa using e)
    exact ⟨v, by simpa using h4, h5⟩
theorem Dts.get2 {F : Hp} {ds : List PyData} {xs : List V} {i : Nat} {v : V} (h : Dts F ds xs) (e : xs[i]? = some v) : ∃ d, ds[i]? = some d ∧ Dt F d v := by
  have hl := h.length
  have hi := (List.getElem?_eq_some_iff.mp e).1
  obtain ⟨w, h1, h2⟩ := h.get (i := i) (d := ds[i]'(by omega)) (by simp)
  rw [e] at h1
  cases h1
  exact ⟨_, by simp, h2⟩
theorem Dts.app {F : Hp} : ∀ {ds es : List PyData} {xs ys : List V}, Dts F ds xs → Dts F es ys → Dts F (ds ++ es) (xs ++ ys)
  | [], es, xs, ys, h, g => by
    have h : xs = [] := h
    subst h
    exact g
  | d :: ds, es, _, ys, h, g => by
    obtain ⟨y, ys', rfl, h2, h3⟩ := h
    exact ⟨y, ys' ++ ys, rfl, h2, Dts.app h3 g⟩
theorem Dts.snoc {F : Hp} {ds : List PyData} {xs : List V} {d : PyData} {v : V} (h : Dts F ds xs) (g : Dt F d v) : Dts F (ds ++ [d]) (xs ++ [v]) := h.app (Dts.cons g Dts.nil)
theorem Dts.take {F : Hp} : ∀ {ds : List PyData} {xs : List V} (n : Nat), Dts F ds xs → Dts F (ds.take n) (xs.take n)
  | [], xs, n, h => by
    have h : xs = [] := h
    subst h
    simp [Dts]
  | d :: ds, _, 0, h => by simp [Dts]
  | d :: ds, _, n + 1, h => by
    obtain ⟨y, ys, rfl, h2, h3⟩ := h
    exact ⟨y, ys.take n, rfl, h2, Dts.take n h3⟩
theorem Dts.drop {F : Hp} : ∀ {ds : List PyData} {xs : List V} (n : Nat), Dts F ds xs → Dts F (ds.drop n) (xs.drop n)
  | [], xs, n, h => by
    have h : xs = [] := h
    subst h
    simp [Dts]
  | d :: ds, _, 0, h => h
  | d :: ds, _, n + 1, h => by
    obtain ⟨y, ys, rfl, h2, h3⟩ := h
    exact Dts.drop n h3
theorem Dts.set {F : Hp} {d : PyData} {v : V} (g : Dt F d v) : ∀ {ds : List PyData} {xs : List V} (n : Nat), Dts F ds xs → Dts F (ds.set n d) (xs.set n v)
  | [], xs, n, h => by
    have h : xs = [] := h
    subst h
    simp [Dts]
  | d0 :: ds, _, 0, h => by
    obtain ⟨y, ys, rfl, h2, h3⟩ := h
    exact ⟨v, ys, rfl, g, h3⟩
  | d0 :: ds, _, n + 1, h => by
    obtain ⟨y, ys, rfl, h2, h3⟩ := h
    exact ⟨y, ys.set n v, rfl, h2, Dts.set g n h3⟩
theorem Dts.ints {F : Hp} : ∀ (ns : List Int), Dts F (ns.map .int) (ns.map .int)
  | [] => rfl
  | n :: ns => ⟨.int n, ns.map .int, rfl, rfl, Dts.ints ns⟩
theorem Dts.strs {F : Hp} : ∀ (ns : List Str), Dts F (ns.map .str) (ns.map .str)
  | [] => rfl
  | n :: ns => ⟨.str n, ns.map .str, rfl, rfl, Dts.strs ns⟩
theorem Dts.ints_eq {F : Hp} : ∀ {ns : List Int} {xs : List V}, Dts F (ns.map .int) xs → xs = ns.map .int
  | [], xs, h => h
  | n :: ns, xs, h => by
    obtain ⟨y, ys, rfl, h2, h3⟩ := h
    have h2 : y = .int n := h2
    rw [h2, Dts.ints_eq h3, List.map_cons]
theorem Dts.strs_eq {F : Hp} : ∀ {ns : List Str} {xs : List V}, Dts F (ns.map .str) xs → xs = ns.map .str
  | [], xs, h => h
  | n :: ns, xs, h => by
    obtain ⟨y, ys, rfl, h2, h3⟩ := h
    have h2 : y = .str n := h2
    rw [h2, Dts.strs_eq h3, List.map_cons]
theorem Dts.bls_eq {F : Hp} : ∀ {ns : List Bool} {xs : List V}, Dts F (ns.map .bool) xs → xs = ns.map .bl
  | [], xs, h => h
  | n :: ns, xs, h => by
    obtain ⟨y, ys, rfl, h2, h3⟩ := h
    have h2 : y = .bl n := h2
    rw [h2, Dts.bls_eq h3, List.map_cons]

theorem set_self {α : Type} : ∀ {l : List α} {i : Nat} {x : α}, l[i]? = some x → l.set i x = l
  | [], _, _, h => by simp at h
  | a :: l, 0, x, h => by
    have h : a = x := by simpa using h
    subst h; rfl
  | a :: l, i + 1, x, h => by
    show a :: l.set i x = a :: l
    rw [set_self (l := l) (i := i) (x := x) (by simpa using h)]
/-! ### things of one's own, slots, the state -/
inductive Ow where
  | lst (ds : List PyData)
  | dk (kvs : List (Key × PyData))
  | dt (kvs : List (List Key × PyData))
  | pl (ms : List Str) (ns : List (List Int))
  | pf (ms : List Str) (ns : List (List Int))
inductive Sl where
  | no
  | im (d : PyData)
  | ow (o : Ow)
  | bo (p : Addr) (o : Ow)
def Dkv {κ : Type} (F : Hp) : List (κ × PyData) → List (κ × V) → Prop := Paired fun p q => p.1 = q.1 ∧ Dt F p.2 q.2
theorem Dkv.mono {κ : Type} {F F' : Hp} (e : Ex F F') {l : List (κ × PyData)} {m : List (κ × V)} (h : Dkv F l m) : Dkv F' l m := Paired.mapP h fun _ _ q => ⟨q.1, q.2.mono e⟩
def OwAt (C : Addr) (F H : Hp) (p : Addr) (fp : List Addr) : Ow → Prop
  | .lst ds => fp = [p] ∧ ∃ xs, H p = some (.lst xs) ∧ Dts F ds xs
  | .dk kvs => fp = [p] ∧ ∃ vs, H p = some (.dK vs) ∧ Dkv F kvs vs
  | .dt kvs => fp = [p] ∧ ∃ vs, H p = some (.dT vs) ∧ Dkv F kvs vs
  | .pl ms ns => ∃ dx m n rs, fp = [p, dx, m, n] ++ rs ∧ fp.Nodup ∧ H p = some (.ins C dx [("marks", .ref m), ("nexts", .ref n)]) ∧ H dx = some (.own p) ∧ H m = some (.lst (ms.map .str)) ∧ H n = some (.lst (rs.map .ref)) ∧ Paired (fun r z => H r = some (.lst (z.map .int))) rs ns
  | .pf ms ns => ∃ dx m n, fp = [p, dx] ∧ H p = some (.ins C dx [("marks", .ref m), ("nexts", .ref n)]) ∧ H dx = some (.own p) ∧ Dt F (.list (ms.map .str)) (.ref m) ∧ Dt F (.list (ns.map fun z => .list (z.map .int))) (.ref n)
structure Ct where
  C : Addr
  B : Hp
  H_0 : Hp
  F_0 : Hp
  bs : List Addr
def SlAt (c : Ct) (F H : Hp) : Option V → Sl → List Addr → Prop
  | _, .no, fp => fp = []
  | sv, .im d, fp => fp = [] ∧ ∃ v, sv = some v ∧ Dt F d v
  | sv, .ow o, fp => ∃ p, sv = some (.ref p) ∧ OwAt c.C F H p fp o ∧ ∀ b ∈ fp, c.H_0 b = none
  | sv, .bo p o, fp => sv = some (.ref p) ∧ OwAt c.C F H p fp o
/-- the slots, one by one -/
inductive Sls (c : Ct) (F H : Hp) : List (Option V) → List Sl → List (List Addr) → Prop where
  | nil : Sls c F H [] [] []
  | cons {v : Option V} {s : Sl} {fp : List Addr} {σ : List (Option V)} {env : List Sl} {fps : List (List Addr)} : SlAt c F H v s fp → Sls c F H σ env fps → Sls c F H (v :: σ) (s :: env) (fp :: fps)

theorem OwAt.some {C : Addr} {F H : Hp} {p : Addr} {fp : List Addr} {o : Ow} (h : OwAt C F H p fp o) : ∀ b ∈ fp, H b ≠ none := by
  cases o with
  | lst ds => obtain ⟨rfl, xs, h1, _⟩ := h; intro b hb; simp only [List.mem_singleton] at hb; subst hb; rw [h1]; exact fun q => nomatch q
  | dk kvs => obtain ⟨rfl, xs, h1, _⟩ := h; intro b hb; simp only [List.mem_singleton] at hb; subst hb; rw [h1]; exact fun q => nomatch q
  | dt kvs => obtain ⟨rfl, xs, h1, _⟩ := h; intro b hb; simp only [List.mem_singleton] at hb; subst hb; rw [h1]; exact fun q => nomatch q
  | pl ms ns =>
    obtain ⟨dx, m, n, rs, rfl, nd, h1, h2, h3, h4, h5⟩ := h
    intro b hb
    simp only [List.cons_append, List.nil_append, List.mem_cons] at hb
    rcases hb with rfl | rfl | rfl | rfl | hb
    · rw [h1]; exact fun q => nomatch q
    · rw [h2]; exact fun q => nomatch q
    · rw [h3]; exact fun q => nomatch q
    · rw [h4]; exact fun q => nomatch q
    · clear h4 nd
      induction h5 with
      | nil => simp at hb
      | cons r t ih =>
        rcases List.mem_cons.mp hb with rfl | hb
        · rw [r]; exact fun q => nomatch q
        · exact ih hb
  | pf ms ns =>
    obtain ⟨dx, m, n, rfl, h1, h2, _⟩ := h
    intro b hb
    simp only [List.mem_cons, List.not_mem_nil, or_false] at hb
    rcases hb with rfl | rfl
    · rw [h1]; exact fun q => nomatch q
    · rw [h2]; exact fun q => nomatch q
/-- .. and no tuple is among them -/
theorem OwAt.nt {C : Addr} {F H : Hp} {p : Addr} {fp : List Addr} {o : Ow} (h : OwAt C F H p fp o) : ∀ b ∈ fp, ∀ xs, H b ≠ Option.some (HO.tup xs) := by
  cases o with
  | lst ds => obtain ⟨rfl, xs, h1, _⟩ := h; intro b hb; simp only [List.mem_singleton] at hb; subst hb; rw [h1]; exact fun _ q => nomatch q
  | dk kvs => obtain ⟨rfl, xs, h1, _⟩ := h; intro b hb; simp only [List.mem_singleton] at hb; subst hb; rw [h1]; exact fun _ q => nomatch q
  | dt kvs => obtain ⟨rfl, xs, h1, _⟩ := h; intro b hb; simp only [List.mem_singleton] at hb; subst hb; rw [h1]; exact fun _ q => nomatch q
  | pl ms ns =>
    obtain ⟨dx, m, n, rs, rfl, nd, h1, h2, h3, h4, h5⟩ := h
    intro b hb
    simp only [List.cons_append, List.nil_append, List.mem_cons] at hb
    rcases hb with rfl | rfl | rfl | rfl | hb
    · rw [h1]; exact fun _ q => nomatch q
    · rw [h2]; exact fun _ q => nomatch q
    · rw [h3]; exact fun _ q => nomatch q
    · rw [h4]; exact fun _ q => nomatch q
    · clear h4 nd
      induction h5 with
      | nil => simp at hb
      | cons r t ih =>
        rcases List.mem_cons.mp hb with rfl | hb
        · rw [r]; exact fun _ q => nomatch q
        · exact ih hb
  | pf ms ns =>
    obtain ⟨dx, m, n, rfl, h1, h2, _⟩ := h
    intro b hb
    simp only [List.mem_cons, List.not_mem_nil, or_false] at hb
    rcases hb with rfl | rfl
    · rw [h1]; exact fun _ q => nomatch q
    · rw [h2]; exact fun _ q => nomatch q
theorem OwAt.stay {C : Addr} {F F' H H' : Hp} {p : Addr} {fp : List Addr} {o : Ow} (h : OwAt C F H p fp o) (e : Ex F F') (k : ∀ b ∈ fp, H' b = H b) : OwAt C F' H' p fp o := by
  cases o with
  | lst ds => obtain ⟨rfl, xs, h1, h2⟩ := h; exact ⟨rfl, xs, by rw [k p (List.mem_singleton.mpr rfl)]; exact h1, h2.mono e⟩
  | dk kvs => obtain ⟨rfl, xs, h1, h2⟩ := h; exact ⟨rfl, xs, by rw [k p (List.mem_singleton.mpr rfl)]; exact h1, h2.mono e⟩
  | dt kvs => obtain ⟨rfl, xs, h1, h2⟩ := h; exact ⟨rfl, xs, by rw [k p (List.mem_singleton.mpr rfl)]; exact h1, h2.mono e⟩
  | pl ms ns =>
    obtain ⟨dx, m, n, rs, rfl, nd, h1, h2, h3, h4, h5⟩ := h
    refine ⟨dx, m, n, rs, rfl, nd, ?_, ?_, ?_, ?_, ?_⟩
    · rw [k p (by simp)]; exact h1
    · rw [k dx (by simp)]; exact h2
    · rw [k m (by simp)]; exact h3
    · rw [k n (by simp)]; exact h4
    · have k' : ∀ b ∈ rs, H' b = H b := fun b hb => k b (by simp [hb])
      clear k h4 nd
      induction h5 with
      | nil => exact .nil
      | cons r t ih => exact .cons (by rw [k' _ List.mem_cons_self]; exact r) (ih fun b hb => k' b (List.mem_cons_of_mem _ hb))
  | pf ms ns =>
    obtain ⟨dx, m, n, rfl, h1, h2, h3, h4⟩ := h
    exact ⟨dx, m, n, rfl, by rw [k p (by simp)]; exact h1, by rw [k dx (by simp)]; exact h2, h3.mono e, h4.mono e⟩
theorem SlAt.nt {c : Ct} {F H : Hp} {v : Option V} {s : Sl} {fp : List Addr} (h : SlAt c F H v s fp) : ∀ b ∈ fp, ∀ xs, H b ≠ Option.some (HO.tup xs) := by
  cases s with
  | no => have h : fp = [] := h; subst h; simp
  | im d => obtain ⟨rfl, _⟩ := h; simp
  | ow o => obtain ⟨p, _, h, _⟩ := h; exact OwAt.nt h
  | bo p o => obtain ⟨_, h⟩ := h; exact OwAt.nt h
theorem SlAt.some {c : Ct} {F H : Hp} {v : Option V} {s : Sl} {fp : List Addr} (h : SlAt c F H v s fp) : ∀ b ∈ fp, H b ≠ none := by
  cases s with
  | no => have h : fp = [] := h; subst h; simp
  | im d => obtain ⟨rfl, _⟩ := h; simp
  | ow o => obtain ⟨p, _, h, _⟩ := h; exact h.some
  | bo p o => obtain ⟨_, h⟩ := h; exact h.some
theorem SlAt.stay {c : Ct} {F F' H H' : Hp} {v : Option V} {s : Sl} {fp : List Addr} (h : SlAt c F H v s fp) (e : Ex F F') (k : ∀ b ∈ fp, H' b = H b) : SlAt c F' H' v s fp := by
  cases s with
  | no => exact h
  | im d => obtain ⟨h1, v, h2, h3⟩ := h; exact ⟨h1, v, h2, h3.mono e⟩
  | ow o => obtain ⟨p, h1, h2, h3⟩ := h; exact ⟨p, h1, h2.stay e k, h3⟩
  | bo p o => obtain ⟨h1, h2⟩ := h; exact ⟨h1, h2.stay e k⟩
section
variable {c : Ct} {F F' H H' : Hp} {σ : List (Option V)} {env : List Sl} {fps : List (List Addr)}
theorem Sls.len (h : Sls c F H σ env fps) : σ.length = env.length ∧ fps.length = env.length := by
  induction h with
  | nil => exact ⟨rfl, rfl⟩
  | cons _ _ ih => simp [ih.1, ih.2]
theorem Sls.get (h : Sls c F H σ env fps) : ∀ {i : Nat} {s : Sl}, env[i]? = some s → ∃ v fp, σ[i]? = some v ∧ fps[i]? = some fp ∧ SlAt c F H v s fp := by
  induction h with
  | nil => intro i s e; simp at e
  | @cons v s0 fp σ env fps h1 h2 ih =>
    intro i s e
    cases i with
    | zero =>
      have e : s0 = s := by simpa using e
      subst e
      exact ⟨v, fp, rfl, rfl, h1⟩
    | succ i => simpa using ih (i := i) (s := s) (by simpa using e)
theorem Sls.getF (h : Sls c F H σ env fps) : ∀ {i : Nat} {fp : List Addr}, fps[i]? = some fp → ∃ v s, σ[i]? = some v ∧ env[i]? = some s ∧ SlAt c F H v s fp := by
  induction h with
  | nil => intro i s e; simp at e
  | @cons v s0 fp0 σ env fps h1 h2 ih =>
    intro i fp e
    cases i with
    | zero =>
      have e : fp0 = fp := by simpa using e
      subst e
      exact ⟨v, s0, rfl, rfl, h1⟩
    | succ i => simpa using ih (i := i) (fp := fp) (by simpa using e)
theorem Sls.stay (h : Sls c F H σ env fps) (e : Ex F F') (k : ∀ fp ∈ fps, ∀ b ∈ fp, H' b = H b) : Sls c F' H' σ env fps := by
  induction h with
  | nil => exact .nil
  | cons h1 _ ih => exact .cons (h1.stay e (k _ List.mem_cons_self)) (ih fun fp hf => k fp (List.mem_cons_of_mem _ hf))
theorem Sls.set {v : Option V} {s : Sl} {fp : List Addr} (g : SlAt c F H v s fp) (h : Sls c F H σ env fps) : ∀ (i : Nat), Sls c F H (σ.set i v) (env.set i s) (fps.set i fp) := by
  induction h with
  | nil => intro i; exact .nil
  | cons h1 h2 ih =>
    intro i
    cases i with
    | zero => exact .cons g h2
    | succ i => exact .cons h1 (ih i)
/-- .. the other slots carried over a change at slot i -/
theorem Sls.put {v : Option V} {s : Sl} {fp : List Addr} (h : Sls c F H σ env fps) (e : Ex F F') : ∀ (i : Nat) (g : SlAt c F' H' v s fp) (k : ∀ j fj, j ≠ i → fps[j]? = some fj → ∀ b ∈ fj, H' b = H b), Sls c F' H' (σ.set i v) (env.set i s) (fps.set i fp) := by
  induction h with
  | nil => intro i _ _; exact .nil
  | @cons v0 s0 fp0 σ env fps h1 h2 ih =>
    intro i g k
    cases i with
    | zero => exact .cons g (h2.stay e fun f hf b hb => by
        obtain ⟨j, hj⟩ := List.mem_iff_getElem?.mp hf
        exact k (j + 1) f (by omega) (by simpa using hj) b hb)
    | succ i => exact .cons (h1.stay e (k 0 fp0 (by omega) rfl)) (ih i g fun j fj hj e1 => k (j + 1) fj (by omega) (by simpa using e1))
end

/-- at b nothing new is frozen, but for a tuple -/
abbrev Nb (F F' : Hp) (b : Addr) : Prop := F' b = F b ∨ ∃ xs, F' b = some (.tup xs)
theorem Nb.trans {F F1 F2 : Hp} {b : Addr} (a : Nb F F1 b) (h : Nb F1 F2 b) (e : Ex F1 F2) : Nb F F2 b := by
  rcases h with h | h
  · rcases a with a | a
    · exact Or.inl (h.trans a)
    · exact Or.inr (by obtain ⟨xs, q⟩ := a; exact ⟨xs, by rw [h]; exact q⟩)
  · exact Or.inr h
theorem Nb.none {F F' H' : Hp} {b : Addr} (a : Nb F F' b) (e : Ex F' H') (h : ∀ xs, H' b ≠ Option.some (HO.tup xs)) (z : F b = Option.none) : F' b = Option.none := by
  rcases a with a | ⟨xs, a⟩
  · rw [a]; exact z
  · exact absurd (e _ _ a) (h xs)
structure Rl (c : Ct) (σ : List (Option V)) (F H : Hp) (env : List Sl) (fps : List (List Addr)) : Prop where
  eB : Ex c.B H
  eF : Ex c.F_0 F
  eH : Ex F H
  nw : ∀ b, c.H_0 b ≠ none → Nb c.F_0 F b
  dm : ∀ b, c.H_0 b ≠ none → H b ≠ none
  sl : Sls c F H σ env fps
  dj : ∀ (i j : Nat) fi fj b, fps[i]? = some fi → fps[j]? = some fj → b ∈ fi → b ∈ fj → i = j
  ff : ∀ fp ∈ fps, ∀ b ∈ fp, F b = none ∧ c.B b = none ∧ (b ∈ c.bs ∨ c.H_0 b = none)

/-- a pure step: the heap grows, the frozen part too, within what is new -/
structure Stp (H F H' F' : Hp) : Prop where
  f : Ex F F'
  h : Ex F' H'
  e : Ex H H'
  n : ∀ b, H b ≠ none → Nb F F' b
theorem Stp.refl {H F : Hp} (h : Ex F H) : Stp H F H F := ⟨Ex.refl _, h, Ex.refl _, fun _ _ => Or.inl rfl⟩
theorem Stp.trans {H F H1 F1 H2 F2 : Hp} (a : Stp H F H1 F1) (b : Stp H1 F1 H2 F2) : Stp H F H2 F2 :=
  ⟨a.f.trans b.f, b.h, a.e.trans b.e, fun x hx => (a.n x hx).trans (b.n x (a.e.some hx)) b.f⟩
/-- a new thing, frozen at once -/
theorem Stp.new {H F : Hp} {p : Addr} {o : HO} (hF : Ex F H) (h : H p = none) : Stp H F (upd H p o) (upd F p o) := by
  have f0 : F p = none := hF.free h
  refine ⟨Ex.new f0, fun a u e => ?_, Ex.new h, fun b hb => Or.inl (upd_ne fun q => hb (by rw [q]; exact h))⟩
  by_cases q : a = p
  · subst q; rw [upd_same] at e ⊢; exact e
  · rw [upd_ne q] at e ⊢; exact hF _ _ e
/-- a new thing, not frozen -/
theorem Stp.lay {H F : Hp} {p : Addr} {o : HO} (hF : Ex F H) (h : H p = none) : Stp H F (upd H p o) F :=
  ⟨Ex.refl _, hF.mut (hF.free h), Ex.new h, fun _ _ => Or.inl rfl⟩
/-- a tuple that stands is frozen -/
theorem Stp.tup {H F : Hp} {p : Addr} {xs : List V} (hF : Ex F H) (h : H p = some (.tup xs)) : ∃ F', Stp H F H F' ∧ F' p = some (.tup xs) := by
  cases q : F p with
  | some u =>
    have e := hF _ _ q
    rw [h] at e; cases e
    exact ⟨F, .refl hF, q⟩
  | none =>
    refine ⟨upd F p (.tup xs), ⟨Ex.new q, fun a u e => ?_, Ex.refl _, fun b _ => ?_⟩, upd_same⟩
    · by_cases z : a = p
      · subst z; rw [upd_same] at e; cases e; exact h
      · rw [upd_ne z] at e; exact hF _ _ e
    · by_cases z : b = p
      · exact Or.inr ⟨xs, by rw [z]; exact upd_same⟩
      · exact Or.inl (upd_ne z)

section
variable {c : Ct} {F F' H H' : Hp} {σ : List (Option V)} {env : List Sl} {fps : List (List Addr)}
theorem Rl.ext (r : Rl c σ F H env fps) (s : Stp H F H' F') : Rl c σ F' H' env fps where
  eB := r.eB.trans s.e
  eF := r.eF.trans s.f
  eH := s.h
  nw := fun b hb => (r.nw b hb).trans (s.n b (r.dm b hb)) s.f
  dm := fun b hb => s.e.some (r.dm b hb)
  sl := r.sl.stay s.f fun fp hf b hb => by
    obtain ⟨i, hi⟩ := List.mem_iff_getElem?.mp hf
    obtain ⟨v, sl, _, _, h⟩ := r.sl.getF hi
    have h1 := h.some b hb
    cases h2 : H b with
    | none => exact absurd h2 h1
    | some o => exact s.e b o h2
  dj := r.dj
  ff := fun fp hf b hb => by
    obtain ⟨h1, h2, h3⟩ := r.ff fp hf b hb
    obtain ⟨i, hi⟩ := List.mem_iff_getElem?.mp hf
    obtain ⟨v, sl, _, _, h⟩ := r.sl.getF hi
    refine ⟨(s.n b (h.some b hb)).none s.h (fun xs q => ?_) h1, h2, h3⟩
    cases z : H b with
    | none => exact h.some b hb z
    | some o =>
      have e := s.e _ _ z
      rw [q] at e; cases e
      exact h.nt b hb xs z
theorem mem_set {α : Type} {l : List α} {i : Nat} {x y : α} (h : y ∈ l.set i x) : y = x ∨ y ∈ l := by
  rcases List.mem_or_eq_of_mem_set h with h | h
  · exact Or.inr h
  · exact Or.inl h
/-- a slot takes a datum -/
theorem Rl.putD (r : Rl c σ F H env fps) (i : Nat) {d : PyData} {v : V} (h : Dt F d v) : Rl c (σ.set i (some v)) F H (env.set i (.im d)) (fps.set i []) where
  eB := r.eB
  eF := r.eF
  eH := r.eH
  nw := r.nw
  dm := r.dm
  sl := Sls.set (show SlAt c F H (some v) (.im d) [] from ⟨rfl, v, rfl, h⟩) r.sl i
  dj := fun j k fj fk b h1 h2 h3 h4 => by
    rw [List.getElem?_set] at h1 h2
    split at h1
    · split at h1
      · cases h1; simp at h3
      · cases h1
    · split at h2
      · split at h2
        · cases h2; simp at h4
        · cases h2
      · exact r.dj j k fj fk b h1 h2 h3 h4
  ff := fun fp hf b hb => by
    rcases mem_set hf with rfl | hf
    · simp at hb
    · exact r.ff fp hf b hb
/-- a slot is forgotten -/
theorem Rl.putN (r : Rl c σ F H env fps) (i : Nat) (sv : Option V) : Rl c (σ.set i sv) F H (env.set i .no) (fps.set i []) where
  eB := r.eB
  eF := r.eF
  eH := r.eH
  nw := r.nw
  dm := r.dm
  sl := Sls.set (show SlAt c F H sv .no [] from rfl) r.sl i
  dj := fun j k fj fk b h1 h2 h3 h4 => by
    rw [List.getElem?_set] at h1 h2
    split at h1
    · split at h1
      · cases h1; simp at h3
      · cases h1
    · split at h2
      · split at h2
        · cases h2; simp at h4
        · cases h2
      · exact r.dj j k fj fk b h1 h2 h3 h4
  ff := fun fp hf b hb => by
    rcases mem_set hf with rfl | hf
    · simp at hb
    · exact r.ff fp hf b hb
/-- a slot takes a new thing of its own that stands at p, unfrozen -/
theorem Rl.putO (r : Rl c σ F H env fps) (i : Nat) {o : Ow} {p : Addr} {h : HO} (hp : H p = none) (ha : ∀ F' H', Ex F F' → H' p = some h → OwAt c.C F' H' p [p] o) :
    Rl c (σ.set i (some (.ref p))) F (upd H p h) (env.set i (.ow o)) (fps.set i [p]) := by
  have s := Stp.lay (o := h) r.eH hp
  have r1 := r.ext s
  have h0 : c.H_0 p = none := by
    cases q : c.H_0 p with
    | none => rfl
    | some u => exact absurd hp (r.dm p (by rw [q]; exact fun z => nomatch z))
  have nf : ∀ fp ∈ fps, p ∉ fp := fun fp hf hm => by
    obtain ⟨j, hj⟩ := List.mem_iff_getElem?.mp hf
    obtain ⟨v, sl, _, _, g⟩ := r.sl.getF hj
    exact g.some p hm hp
  refine ⟨r1.eB, r1.eF, r1.eH, r1.nw, r1.dm, Sls.set (show SlAt c F (upd H p h) (some (.ref p)) (.ow o) [p] from ⟨p, rfl, ha _ _ (Ex.refl _) upd_same, fun b hb => by
    simp only [List.mem_singleton] at hb; subst hb; exact h0⟩) r1.sl i, fun j k fj fk b h1 h2 h3 h4 => ?_, fun fp hf b hb => ?_⟩
  · rw [List.getElem?_set] at h1 h2
    split at h1
    · split at h1
      · cases h1
        simp only [List.mem_singleton] at h3; subst h3
        split at h2
        · omega
        · exact absurd h4 (nf fk (List.mem_of_getElem? h2))
      · cases h1
    · split at h2
      · split at h2
        · cases h2
          simp only [List.mem_singleton] at h4; subst h4
          exact absurd h3 (nf fj (List.mem_of_getElem? h1))
        · cases h2
      · exact r.dj j k fj fk b h1 h2 h3 h4
  · rcases mem_set hf with rfl | hf
    · simp only [List.mem_singleton] at hb; subst hb
      exact ⟨r.eH.free hp, r.eB.free hp, Or.inr h0⟩
    · exact r.ff fp hf b hb
/-- the thing at slot i is rewritten (one address) -/
theorem Rl.mutO (r : Rl c σ F H env fps) {i : Nat} {s s' : Sl} {p : Addr} {h : HO} (hs : env[i]? = some s) (hf : fps[i]? = some [p]) (g : ∀ v, SlAt c F H v s [p] → SlAt c F (upd H p h) v s' [p]) :
    Rl c σ F (upd H p h) (env.set i s') fps := by
  obtain ⟨hF, hB, hbs⟩ := r.ff [p] (List.mem_of_getElem? hf) p (by simp)
  obtain ⟨v, fp, h1, h2, h3⟩ := r.sl.get hs
  rw [hf] at h2; cases h2
  have hi := (List.getElem?_eq_some_iff.mp h1).1
  have hi2 := (List.getElem?_eq_some_iff.mp hf).1
  refine ⟨r.eB.mut hB, r.eF, r.eH.mut hF, r.nw, fun b hb => ?_, ?_, r.dj, r.ff⟩
  · by_cases q : b = p
    · subst q; rw [upd_same]; exact fun z => nomatch z
    · rw [upd_ne q]; exact r.dm b hb
  · have k := r.sl.put (H' := upd H p h) (Ex.refl F) i (g v h3) (fun j fj hj e1 b hm => upd_ne fun q => by
      rw [q] at hm
      exact hj (r.dj j i fj [p] p e1 hf hm (by simp)))
    have e1 : σ.set i v = σ := set_self h1
    have e2 : fps.set i [p] = fps := set_self hf
    rw [e1, e2] at k
    exact k
/-- the thing at slot i, made here, is frozen: o its content -/
theorem Rl.frz (r : Rl c σ F H env fps) {i : Nat} {o : Ow} {d : PyData} (hs : env[i]? = some (.ow o)) (hd : ∀ p fp, OwAt c.C F H p fp o → ∃ h, fp = [p] ∧ H p = some h ∧ ∀ F', Ex F F' → F' p = some h → Dt F' d (.ref p)) :
    ∃ F' fps', Rl c σ F' H (env.set i (.im d)) fps' ∧ Ex F F' := by
  obtain ⟨v, fp, h1, h2, p, h3, h4, h5⟩ := r.sl.get hs
  obtain ⟨ho, e1, e2, e3⟩ := hd p fp h4
  subst e1
  have hf := r.ff [p] (List.mem_of_getElem? h2) p (by simp)
  have eF : Ex F (upd F p ho) := Ex.new hf.1
  have eH : Ex (upd F p ho) H := fun a u e => by
    by_cases q : a = p
    · subst q; rw [upd_same] at e; rw [e2]; exact e
    · rw [upd_ne q] at e; exact r.eH _ _ e
  have hi := (List.getElem?_eq_some_iff.mp h1).1
  refine ⟨upd F p ho, fps.set i [], ⟨⟨r.eB, r.eF.trans eF, eH, fun b hb => ?_, r.dm, ?_, ?_, ?_⟩, eF⟩⟩
  · have e : upd F p ho b = F b := upd_ne fun q => hb (by rw [q]; exact h5 p (by simp))
    show Nb _ _ _
    unfold Nb
    rw [e]; exact r.nw b hb
  · have k := r.sl.put (H' := H) eF i (show SlAt c (upd F p ho) H v (.im d) [] from ⟨rfl, .ref p, h3, e3 _ eF upd_same⟩) (fun _ _ _ _ _ _ => rfl)
    have e1 : σ.set i v = σ := set_self h1
    rw [e1] at k
    exact k
  · intro j k fj fk b g1 g2 g3 g4
    rw [List.getElem?_set] at g1 g2
    split at g1
    · split at g1
      · cases g1; simp at g3
      · cases g1
    · split at g2
      · split at g2
        · cases g2; simp at g4
        · cases g2
      · exact r.dj j k fj fk b g1 g2 g3 g4
  · intro fp hm b hb
    obtain ⟨j, hj⟩ := List.mem_iff_getElem?.mp hm
    rw [List.getElem?_set] at hj
    split at hj
    · split at hj
      · cases hj; simp at hb
      · cases hj
    · rename_i q
      have g := r.ff fp (List.mem_of_getElem? hj) b hb
      refine ⟨?_, g.2⟩
      rw [upd_ne fun z => ?_]
      · exact g.1
      · subst z
        exact q (r.dj i j [b] fp b h2 hj (by simp) hb)
end
end Nr
set_option Elab.async false
set_option linter.all false
set_option maxRecDepth 100000
set_option maxHeartbeats 4000000
namespace Nr
open PySem PySem.Spec PyProof.Rows L2

/-! ### what evaluates to what -/
def EvE (c : Ct) (te : TE) (env : List Sl) (d : PyData) : Prop :=
  ∀ σ F H fps, Rl c σ F H env fps → ∀ Q : VK, (∀ v F' H', Stp H F H' F' → Dt F' d v → Q v H') → te σ H Q
def EvB (c : Ct) (tt : TT) (env : List Sl) (b : Bool) : Prop :=
  ∀ σ F H fps, Rl c σ F H env fps → ∀ Q : Bool → Hp → Prop, (∀ F' H', Stp H F H' F' → Q b H') → tt σ H Q
def EvA (c : Ct) (ta : TA) (env : List Sl) (ds : List PyData) : Prop :=
  ∀ σ F H fps, Rl c σ F H env fps → ∀ Q : List V → Hp → Prop, (∀ vs F' H', Stp H F H' F' → Dts F' ds vs → Q vs H') → ta σ H Q
def EvO (c : Ct) (to : TO) (env : List Sl) (o : Option Int) : Prop :=
  ∀ σ F H fps, Rl c σ F H env fps → ∀ Q : Option Int → Hp → Prop, (∀ F' H', Stp H F H' F' → Q o H') → to σ H Q
/-- operations on data -/
def Rv (r : R2) (x y z : PyData) : Prop :=
  ∀ F H v w, Ex F H → Dt F x v → Dt F y w → ∀ Q : VK, (∀ u F' H', Stp H F H' F' → Dt F' z u → Q u H') → r v w H Q
def Ru (r : V → Hp → VK → Prop) (x z : PyData) : Prop :=
  ∀ F H v, Ex F H → Dt F x v → ∀ Q : VK, (∀ u F' H', Stp H F H' F' → Dt F' z u → Q u H') → r v H Q
def Rc (r : List V → Hp → VK → Prop) (xs : List PyData) (z : PyData) : Prop :=
  ∀ F H vs, Ex F H → Dts F xs vs → ∀ Q : VK, (∀ u F' H', Stp H F H' F' → Dt F' z u → Q u H') → r vs H Q
def Rm (r : V → List V → Hp → VK → Prop) (x : PyData) (xs : List PyData) (z : PyData) : Prop :=
  ∀ F H v vs, Ex F H → Dt F x v → Dts F xs vs → ∀ Q : VK, (∀ u F' H', Stp H F H' F' → Dt F' z u → Q u H') → r v vs H Q

section
variable {c : Ct} {env : List Sl} {ta tb tc te : TE} {t u tt : TT} {x y z d e : PyData} {r : R2} {K : PySem.W.Frag}
theorem ev_is (h : EvE c te env d) (q : d = e) : EvE c te env e := q ▸ h
theorem eb_is {b b' : Bool} (h : EvB c tt env b) (q : b = b') : EvB c tt env b' := q ▸ h
theorem ev_var {i : Nat} (h : env[i]? = some (.im d)) : EvE c (tVar i) env d := fun σ F H fps R Q q => by
  obtain ⟨sv, fp, h1, _, _, v, h2, h3⟩ := R.sl.get h
  exact ⟨v, by rw [h1, h2], q v F H (Stp.refl R.eH) h3⟩
theorem ev_int {i : Int} : EvE c (tC (.int i)) env (.int i) := fun σ F H fps R Q q => q _ F H (Stp.refl R.eH) rfl
theorem ev_str {i : Str} : EvE c (tC (.str i)) env (.str i) := fun σ F H fps R Q q => q _ F H (Stp.refl R.eH) rfl
theorem ev_bl {i : Bool} : EvE c (tC (.bl i)) env (.bool i) := fun σ F H fps R Q q => q _ F H (Stp.refl R.eH) rfl
theorem ev_non : EvE c (tC .non) env .none := fun σ F H fps R Q q => q _ F H (Stp.refl R.eH) rfl
theorem ev_op (ha : EvE c ta env x) (hb : EvE c tb env y) (hr : Rv r x y z) : EvE c (tOp r ta tb) env z := fun σ F H fps R Q q =>
  ha σ F H fps R _ fun v F1 H1 s1 h1 => hb σ F1 H1 fps (R.ext s1) _ fun w F2 H2 s2 h2 => hr F2 H2 v w s2.h (h1.mono s2.f) h2 Q fun u F3 H3 s3 h3 => q u F3 H3 (s1.trans (s2.trans s3)) h3
theorem ev_un {r : V → Hp → VK → Prop} (ha : EvE c ta env x) (hr : Ru r x z) : EvE c (tUn r ta) env z := fun σ F H fps R Q q =>
  ha σ F H fps R _ fun v F1 H1 s1 h1 => hr F1 H1 v s1.h h1 Q fun u F3 H3 s3 h3 => q u F3 H3 (s1.trans s3) h3
theorem ev_chain {r r' : R2} {k k' : Bool} (ha : EvE c ta env x) (hb : EvE c tb env y) (hr : Rv r x y (.bool k)) (hc : k = true → EvE c tc env z) (hr' : k = true → Rv r' y z (.bool k')) : EvE c (tChain r r' ta tb tc) env (.bool (k && k')) := fun σ F H fps R Q q =>
  ha σ F H fps R _ fun v F1 H1 s1 h1 => hb σ F1 H1 fps (R.ext s1) _ fun w F2 H2 s2 h2 => hr F2 H2 v w s2.h (h1.mono s2.f) h2 _ fun u F3 H3 s3 h3 => ⟨k, h3, by
    have s := s1.trans (s2.trans s3)
    cases k with
    | true =>
      show tc σ H3 fun w' H4 => r' w w' H4 Q
      exact hc rfl σ F3 H3 fps (R.ext s) _ fun w' F4 H4 s4 h4 => hr' rfl F4 H4 w w' s4.h (h2.mono (s3.f.trans s4.f)) h4 Q fun u' F5 H5 s5 h5 => q u' F5 H5 (s.trans (s4.trans s5)) h5
    | false => exact q _ F3 H3 s rfl⟩
theorem ev_andV {a b : Bool} (h1 : EvE c ta env (.bool a)) (h2 : a = true → EvE c tb env (.bool b)) : EvE c (tAndV ta tb) env (.bool (a && b)) := fun σ F H fps R Q q =>
  h1 σ F H fps R _ fun v F1 H1 s1 g1 => ⟨a, g1, by
    cases a with
    | true => exact h2 rfl σ F1 H1 fps (R.ext s1) Q fun u F2 H2 s2 g2 => q u F2 H2 (s1.trans s2) g2
    | false => exact q _ F1 H1 s1 rfl⟩
theorem ev_orV {a b : Bool} (h1 : EvE c ta env (.bool a)) (h2 : a = false → EvE c tb env (.bool b)) : EvE c (tOrV ta tb) env (.bool (a || b)) := fun σ F H fps R Q q =>
  h1 σ F H fps R _ fun v F1 H1 s1 g1 => ⟨a, g1, by
    cases a with
    | false => exact h2 rfl σ F1 H1 fps (R.ext s1) Q fun u F2 H2 s2 g2 => q u F2 H2 (s1.trans s2) g2
    | true => exact q _ F1 H1 s1 rfl⟩
theorem ev_notV {a : Bool} (h1 : EvE c ta env (.bool a)) : EvE c (tNotV ta) env (.bool (!a)) := fun σ F H fps R Q q =>
  h1 σ F H fps R _ fun v F1 H1 s1 g1 => ⟨a, g1, q _ F1 H1 s1 rfl⟩
theorem ev_if {b : Bool} (h : EvB c t env b) (h1 : b = true → EvE c ta env d) (h2 : b = false → EvE c tb env d) : EvE c (tIf t ta tb) env d := fun σ F H fps R Q q =>
  h σ F H fps R _ fun F1 H1 s1 => by
    cases b with
    | true => exact h1 rfl σ F1 H1 fps (R.ext s1) Q fun u F2 H2 s2 g2 => q u F2 H2 (s1.trans s2) g2
    | false => exact h2 rfl σ F1 H1 fps (R.ext s1) Q fun u F2 H2 s2 g2 => q u F2 H2 (s1.trans s2) g2
/-! tests -/
theorem eb_test {b : Bool} (h : EvE c te env (.bool b)) : EvB c (tTest te) env b := fun σ F H fps R Q q => h σ F H fps R _ fun v F1 H1 s1 h1 => ⟨b, h1, q F1 H1 s1⟩
theorem eb_B {b : Bool} (h : EvE c te env (.bool b)) : EvB c (tB te) env b := fun σ F H fps R Q q => h σ F H fps R _ fun v F1 H1 s1 h1 => ⟨b, h1, q F1 H1 s1⟩
theorem eb_tru {b : Bool} (h : EvE c te env (.bool b)) : EvB c (fun σ H Q => te σ H fun x H' => ∃ k, TruV K x H' k ∧ Q k H') env b := fun σ F H fps R Q q => h σ F H fps R _ fun v F1 H1 s1 h1 => ⟨b, by
  have h1 : v = .bl b := h1
  subst h1
  exact rfl, q F1 H1 s1⟩
theorem eb_and {a b : Bool} (h1 : EvB c t env a) (h2 : a = true → EvB c u env b) : EvB c (tAnd t u) env (a && b) := fun σ F H fps R Q q => h1 σ F H fps R _ fun F1 H1 s1 => by
  cases a with
  | true => exact h2 rfl σ F1 H1 fps (R.ext s1) Q fun F2 H2 s2 => q F2 H2 (s1.trans s2)
  | false => exact q F1 H1 s1
theorem eb_or {a b : Bool} (h1 : EvB c t env a) (h2 : a = false → EvB c u env b) : EvB c (tOr t u) env (a || b) := fun σ F H fps R Q q => h1 σ F H fps R _ fun F1 H1 s1 => by
  cases a with
  | false => exact h2 rfl σ F1 H1 fps (R.ext s1) Q fun F2 H2 s2 => q F2 H2 (s1.trans s2)
  | true => exact q F1 H1 s1
theorem eb_not {a : Bool} (h1 : EvB c t env a) : EvB c (tNot t) env (!a) := fun σ F H fps R Q q => h1 σ F H fps R _ fun F1 H1 s1 => q F1 H1 s1
theorem eb_yes : EvB c tYes env true := fun σ F H fps R Q q => q F H (Stp.refl R.eH)
/-! arguments -/
theorem ea_nil : EvA c tNil env [] := fun σ F H fps R Q q => q _ F H (Stp.refl R.eH) Dts.nil
theorem ea_cons {tr : TA} {ds : List PyData} (h : EvE c ta env d) (hr : EvA c tr env ds) : EvA c (tCons ta tr) env (d :: ds) := fun σ F H fps R Q q =>
  h σ F H fps R _ fun v F1 H1 s1 h1 => hr σ F1 H1 fps (R.ext s1) _ fun vs F2 H2 s2 h2 => q _ F2 H2 (s1.trans s2) (Dts.cons (h1.mono s2.f) h2)
theorem ea_1 (h : EvE c ta env d) : EvA c (tCons ta tNil) env [d] := ea_cons h ea_nil
theorem ea_2 (h : EvE c ta env d) (h' : EvE c tb env e) : EvA c (tCons ta (tCons tb tNil)) env [d, e] := ea_cons h (ea_1 h')
theorem ev_tup {ta : TA} {ds : List PyData} (h : EvA c ta env ds) (hl : ds.length ≤ 100000) : EvE c (tTup ta) env (.tuple ds) := fun σ F H fps R Q q =>
  h σ F H fps R _ fun vs F1 H1 s1 h1 => ⟨by rw [h1.length]; exact sz_le hl, fun p hp => q _ _ _ (s1.trans (Stp.new s1.h hp)) ⟨p, vs, rfl, upd_same, h1.mono (Ex.new (s1.h.free hp))⟩⟩
theorem ev_lst {ta : TA} {ds : List PyData} (h : EvA c ta env ds) (hl : ds.length ≤ 100000) : EvE c (tLst ta) env (.list ds) := fun σ F H fps R Q q =>
  h σ F H fps R _ fun vs F1 H1 s1 h1 => ⟨by rw [h1.length]; exact sz_le hl, fun p hp => q _ _ _ (s1.trans (Stp.new s1.h hp)) ⟨p, vs, rfl, upd_same, h1.mono (Ex.new (s1.h.free hp))⟩⟩
theorem ev_cb {r : List V → Hp → VK → Prop} {ta : TA} {ds : List PyData} (h : EvA c ta env ds) (hr : Rc r ds d) : EvE c (tCB r ta) env d := fun σ F H fps R Q q =>
  h σ F H fps R _ fun vs F1 H1 s1 h1 => hr F1 H1 vs s1.h h1 Q fun u F2 H2 s2 h2 => q u F2 H2 (s1.trans s2) h2
/-! ### operations -/
theorem rv_add {i j : Int} : Rv (rI0 fun i j => .int (i + j)) (.int i) (.int j) (.int (i + j)) := fun F H v w e h1 h2 Q q => ⟨i, j, h1, h2, q _ F H (Stp.refl e) rfl⟩
theorem rv_sub {i j : Int} : Rv (rI0 fun i j => .int (i - j)) (.int i) (.int j) (.int (i - j)) := fun F H v w e h1 h2 Q q => ⟨i, j, h1, h2, q _ F H (Stp.refl e) rfl⟩
theorem rv_I0i {g : Int → Int → Int} {i j : Int} : Rv (rI0 fun i j => .int (g i j)) (.int i) (.int j) (.int (g i j)) := fun F H v w e h1 h2 Q q => ⟨i, j, h1, h2, q _ F H (Stp.refl e) rfl⟩
theorem rv_I0b {g : Int → Int → Bool} {i j : Int} : Rv (rI0 fun i j => .bl (g i j)) (.int i) (.int j) (.bool (g i j)) := fun F H v w e h1 h2 Q q => ⟨i, j, h1, h2, q _ F H (Stp.refl e) rfl⟩
theorem rv_Ii {C : Int → Int → Prop} {g : Int → Int → Int} {i j : Int} (hc : C i j) : Rv (rI C fun i j => .int (g i j)) (.int i) (.int j) (.int (g i j)) := fun F H v w e h1 h2 Q q => ⟨i, j, h1, h2, hc, q _ F H (Stp.refl e) rfl⟩
theorem ru_neg {i : Int} : Ru (rU fun i => .int (-i)) (.int i) (.int (-i)) := fun F H v e h1 Q q => ⟨i, h1, q _ F H (Stp.refl e) rfl⟩
/-- the scalars -/
def scD : PyData → Option V
  | .none => some .non
  | .bool b => some (.bl b)
  | .int i => some (.int i)
  | .str z => some (.str z)
  | _ => none
theorem scD_v {F : Hp} {d : PyData} {v w : V} (h : scD d = some w) (g : Dt F d v) : v = w := by
  cases d with
  | none => cases h; exact g
  | bool b => cases h; exact g
  | int i => cases h; exact g
  | str z => cases h; exact g
  | list ds => cases h
  | tuple ds => cases h
  | dict ds => cases h
theorem rv_eq {v w : V} (hx : scD x = some v) (hy : scD y = some w) (h : scal v w = true) : Rv rEq x y (.bool (decide (v = w))) := fun F H v' w' e h1 h2 Q q => by
  rw [scD_v hx h1, scD_v hy h2]
  exact ⟨h, q _ F H (Stp.refl e) rfl⟩
theorem rv_ne {v w : V} (hx : scD x = some v) (hy : scD y = some w) (h : scal v w = true) : Rv rNe x y (.bool (!decide (v = w))) := fun F H v' w' e h1 h2 Q q => by
  rw [scD_v hx h1, scD_v hy h2]
  exact ⟨h, q _ F H (Stp.refl e) rfl⟩
theorem dec_int' {i j : Int} : decide (V.int i = V.int j) = decide (i = j) := by
  rw [dec_int, Bool.beq_eq_decide_eq]
theorem dec_str' {i j : Str} : decide (V.str i = V.str j) = decide (i = j) := by
  by_cases h : i = j
  · subst h; simp
  · rw [decide_eq_false h, decide_eq_false]
    intro q; cases q; exact h rfl
theorem rv_eqI {i j : Int} : Rv rEq (.int i) (.int j) (.bool (decide (i = j))) := by
  have h := rv_eq (x := .int i) (y := .int j) rfl rfl rfl
  rw [dec_int'] at h; exact h
theorem rv_neI {i j : Int} : Rv rNe (.int i) (.int j) (.bool (!decide (i = j))) := by
  have h := rv_ne (x := .int i) (y := .int j) rfl rfl rfl
  rw [dec_int'] at h; exact h
theorem rv_eqS {i j : Str} : Rv rEq (.str i) (.str j) (.bool (decide (i = j))) := by
  have h := rv_eq (x := .str i) (y := .str j) rfl rfl rfl
  rw [dec_str'] at h; exact h
theorem rv_neS {i j : Str} : Rv rNe (.str i) (.str j) (.bool (!decide (i = j))) := by
  have h := rv_ne (x := .str i) (y := .str j) rfl rfl rfl
  rw [dec_str'] at h; exact h
theorem rv_isN {v : V} (hx : scD x = some v) : Rv (fun x y H Q => y = .non ∧ Q (.bl (decide (x = .non))) H) x .none (.bool (decide (v = .non))) := fun F H v' w' e h1 h2 Q q => by
  rw [scD_v hx h1]
  exact ⟨h2, q _ F H (Stp.refl e) rfl⟩
/-- is None, the left any datum -/
def isN : PyData → Bool
  | .none => true
  | _ => false
theorem isN_v {F : Hp} {d : PyData} {v : V} (g : Dt F d v) : decide (v = .non) = isN d := by
  cases d with
  | none => have g : v = .non := g; subst g; rfl
  | bool b => have g : v = .bl b := g; subst g; rfl
  | int i => have g : v = .int i := g; subst g; rfl
  | str z => have g : v = .str z := g; subst g; rfl
  | list ds => obtain ⟨a, xs, g, _⟩ := g; subst g; rfl
  | tuple ds => obtain ⟨a, xs, g, _⟩ := g; subst g; rfl
  | dict ds => exact g.elim
theorem ev_isN (h : EvE c te env d) : EvE c (tIsN te) env (.bool (isN d)) := fun σ F H fps R Q q => h σ F H fps R _ fun v F1 H1 s1 h1 => by
  rw [isN_v h1]; exact q _ F1 H1 s1 rfl
theorem ev_notN (h : EvE c te env d) : EvE c (tNotN te) env (.bool (!isN d)) := fun σ F H fps R Q q => h σ F H fps R _ fun v F1 H1 s1 h1 => by
  rw [isN_v h1]; exact q _ F1 H1 s1 rfl
theorem atI_dts {F : Hp} {ds : List PyData} {xs : List V} {i : Int} {d : PyData} (h : Dts F ds xs) (e : atI ds i = some d) : ∃ v, atI xs i = some v ∧ Dt F d v := by
  unfold atI at e ⊢
  rw [h.length]
  cases q : ixN ds.length i with
  | none => rw [q] at e; cases e
  | some j =>
    rw [q] at e
    obtain ⟨v, h1, h2⟩ := h.get (i := j) (d := d) e
    exact ⟨v, h1, h2⟩
theorem rv_ixT {ds : List PyData} {i : Int} (h : atI ds i = some d) : Rv (rIxT K) (.tuple ds) (.int i) d := fun F H v w e h1 h2 Q q => by
  obtain ⟨a, xs, rfl, h3, h4⟩ := h1
  have h2 : w = .int i := h2
  subst h2
  obtain ⟨u, h5, h6⟩ := atI_dts h4 h
  exact ⟨a, xs, i, u, rfl, rfl, SqT.of (e _ _ h3), h5, q u F H (Stp.refl e) h6⟩
theorem rv_ixL {ds : List PyData} {i : Int} (h : atI ds i = some d) : Rv (rIxL K) (.list ds) (.int i) d := fun F H v w e h1 h2 Q q => by
  obtain ⟨a, xs, rfl, h3, h4⟩ := h1
  have h2 : w = .int i := h2
  subst h2
  obtain ⟨u, h5, h6⟩ := atI_dts h4 h
  exact ⟨a, xs, i, u, rfl, rfl, SqL.of (e _ _ h3), h5, q u F H (Stp.refl e) h6⟩
theorem rv_ixS {s : Str} {i : Int} {k : Nat} (hl : s.length ≤ 100000) (h : atI s.cps.toList i = some k) : Rv rIxS (.str s) (.int i) (.str ⟨#[k]⟩) := fun F H v w e h1 h2 Q q => by
  have h1 : v = .str s := h1
  have h2 : w = .int i := h2
  subst h1 h2
  exact ⟨s, i, k, rfl, rfl, sz_le hl, h, q _ F H (Stp.refl e) rfl⟩
/-- the literal index -/
theorem ix_of {α : Type} {xs : List α} {i : Int} {j : Nat} {x : α} (e : i = (j : Int)) (h : xs[j]? = some x) : atI xs i = some x := by rw [e]; exact atI_nat h
theorem rv_addS {s s' : Str} (h : s.length + s'.length ≤ 100000) : Rv (fun x y H Q => ∃ i j, x = .str i ∧ y = .str j ∧ i.length + j.length ≤ sizeLine ∧ Q (.str (i ++ j)) H) (.str s) (.str s') (.str (s ++ s')) :=
  fun F H v w e h1 h2 Q q => ⟨s, s', h1, h2, sz_le h, q _ F H (Stp.refl e) rfl⟩
theorem rv_cat {ds es : List PyData} (h : ds.length + es.length ≤ 100000) : Rv rCat (.list ds) (.list es) (.list (ds ++ es)) := fun F H v w e h1 h2 Q q => by
  obtain ⟨a, xs, rfl, h3, h4⟩ := h1
  obtain ⟨b, ys, rfl, h5, h6⟩ := h2
  exact ⟨a, b, xs, ys, rfl, rfl, e _ _ h3, e _ _ h5, by rw [h4.length, h6.length]; exact sz_le h, fun p hp => q _ _ _ (Stp.new e hp) ⟨p, _, rfl, upd_same, (h4.app h6).mono (Ex.new (e.free hp))⟩⟩
theorem rv_catA {ds es : List PyData} (h : ds.length + es.length ≤ 100000) : Rv (L2.rCatA K) (.tuple ds) (.tuple es) (.tuple (ds ++ es)) := fun F H v w e h1 h2 Q q => by
  obtain ⟨a, xs, rfl, h3, h4⟩ := h1
  obtain ⟨b, ys, rfl, h5, h6⟩ := h2
  refine ⟨a, b, xs, ys, rfl, rfl, SqT.of (e _ _ h3), SqT.of (e _ _ h5), by rw [h4.length, h6.length]; exact sz_le h, fun z => ?_, fun _ z => ?_, fun _ _ p hp => ?_⟩
  · subst z
    have := h4.length
    have e0 : ds = [] := List.length_eq_zero_iff.mp (by simpa using this.symm)
    subst e0
    exact q _ F H (Stp.refl e) ⟨b, ys, rfl, h5, h6⟩
  · subst z
    have := h6.length
    have e0 : es = [] := List.length_eq_zero_iff.mp (by simpa using this.symm)
    subst e0
    rw [List.append_nil] at q
    exact q _ F H (Stp.refl e) ⟨a, xs, rfl, h3, h4⟩
  · exact q _ _ _ (Stp.new e hp) ⟨p, _, rfl, upd_same, (h4.app h6).mono (Ex.new (e.free hp))⟩
end
end Nr
set_option Elab.async false
set_option linter.all false
set_option maxRecDepth 100000
set_option maxHeartbeats 4000000
namespace Nr
open PySem PySem.Spec PyProof.Rows L2

section
variable {c : Ct} {env : List Sl} {ta tb tc te : TE} {t u tt : TT} {x y z d e : PyData} {r : R2} {K : PySem.W.Frag}
/-! ### built-ins by values -/
theorem rc_lenT {ds : List PyData} : Rc (fun xs H Q => ∃ p ys, xs = [.ref p] ∧ (SqL K H p ys ∨ SqT K H p ys) ∧ Q (.int ys.length) H) [.tuple ds] (.int ds.length) := fun F H vs e h Q q => by
  obtain ⟨v, _, rfl, ⟨a, xs, rfl, h3, h4⟩, rfl⟩ := h
  exact ⟨a, xs, rfl, Or.inr (SqT.of (e _ _ h3)), q _ F H (Stp.refl e) (by rw [h4.length]; rfl)⟩
theorem rc_lenL {ds : List PyData} : Rc (fun xs H Q => ∃ p ys, xs = [.ref p] ∧ (SqL K H p ys ∨ SqT K H p ys) ∧ Q (.int ys.length) H) [.list ds] (.int ds.length) := fun F H vs e h Q q => by
  obtain ⟨v, _, rfl, ⟨a, xs, rfl, h3, h4⟩, rfl⟩ := h
  exact ⟨a, xs, rfl, Or.inl (SqL.of (e _ _ h3)), q _ F H (Stp.refl e) (by rw [h4.length]; rfl)⟩
theorem rc_lenS {s : Str} (hl : s.length ≤ 100000) : Rc (fun xs H Q => ∃ z, xs = [.str z] ∧ z.length ≤ sizeLine ∧ Q (.int z.length) H) [.str s] (.int s.length) := fun F H vs e h Q q => by
  obtain ⟨v, _, rfl, h1, rfl⟩ := h
  have h1 : v = .str s := h1
  subst h1
  exact ⟨s, rfl, sz_le hl, q _ F H (Stp.refl e) rfl⟩
theorem rc_sum {ns : List Int} : Rc (rSum K) [.list (ns.map .int)] (.int ns.sum) := fun F H vs e h Q q => by
  obtain ⟨v, _, rfl, ⟨a, xs, rfl, h3, h4⟩, rfl⟩ := h
  rw [h4.ints_eq] at h3
  exact ⟨a, ns, rfl, SqL.of (e _ _ h3), q _ F H (Stp.refl e) rfl⟩
theorem rc_max {ns : List Int} {m : Int} (hm : m ∈ ns) (hle : ∀ y ∈ ns, y ≤ m) : Rc (rMax K) [.list (ns.map .int)] (.int m) := fun F H vs e h Q q => by
  obtain ⟨v, _, rfl, ⟨a, xs, rfl, h3, h4⟩, rfl⟩ := h
  rw [h4.ints_eq] at h3
  refine ⟨a, ns, rfl, SqL.of (e _ _ h3), List.length_pos_of_mem hm, fun m' h1 h2 => ?_⟩
  have e0 : m' = m := Int.le_antisymm (hle _ h1) (h2 _ hm)
  rw [e0]
  exact q _ F H (Stp.refl e) rfl
theorem rc_all {ns : List Bool} : Rc (rAll K) [.list (ns.map .bool)] (.bool (ns.all id)) := fun F H vs e h Q q => by
  obtain ⟨v, _, rfl, ⟨a, xs, rfl, h3, h4⟩, rfl⟩ := h
  rw [h4.bls_eq] at h3
  exact ⟨a, ns, rfl, SqL.of (e _ _ h3), q _ F H (Stp.refl e) rfl⟩
theorem rc_tup {ds : List PyData} : Rc (fun xs H Q => ∃ p ys, xs = [.ref p] ∧ ((SqL K H p ys ∧ ∀ l, H l = none → Q (.ref l) (upd H l (.tup ys))) ∨ (SqT K H p ys ∧ Q (.ref p) H))) [.list ds] (.tuple ds) := fun F H vs e h Q q => by
  obtain ⟨v, _, rfl, ⟨a, xs, rfl, h3, h4⟩, rfl⟩ := h
  exact ⟨a, xs, rfl, Or.inl ⟨SqL.of (e _ _ h3), fun l hl => q _ _ _ (Stp.new e hl) ⟨l, xs, rfl, upd_same, h4.mono (Ex.new (e.free hl))⟩⟩⟩
theorem rc_list {ds : List PyData} : Rc (fun xs H Q => ∃ p ys, xs = [.ref p] ∧ (SqL K H p ys ∨ SqT K H p ys) ∧ ∀ l, H l = none → Q (.ref l) (upd H l (.lst ys))) [.list ds] (.list ds) := fun F H vs e h Q q => by
  obtain ⟨v, _, rfl, ⟨a, xs, rfl, h3, h4⟩, rfl⟩ := h
  exact ⟨a, xs, rfl, Or.inl (SqL.of (e _ _ h3)), fun l hl => q _ _ _ (Stp.new e hl) ⟨l, xs, rfl, upd_same, h4.mono (Ex.new (e.free hl))⟩⟩
theorem rc_abs {i : Int} : Rc (fun xs H Q => ∃ i, xs = [.int i] ∧ Q (.int (if i < 0 then -i else i)) H) [.int i] (.int (if i < 0 then -i else i)) := fun F H vs e h Q q => by
  obtain ⟨v, _, rfl, h1, rfl⟩ := h
  have h1 : v = .int i := h1
  subst h1
  exact ⟨i, rfl, q _ F H (Stp.refl e) rfl⟩
theorem rc_max2 {i j : Int} : Rc (fun xs H Q => ∃ i j, xs = [.int i, .int j] ∧ Q (.int (if j > i then j else i)) H) [.int i, .int j] (.int (if j > i then j else i)) := fun F H vs e h Q q => by
  obtain ⟨v, _, rfl, h1, w, _, rfl, h2, rfl⟩ := h
  have h1 : v = .int i := h1
  have h2 : w = .int j := h2
  subst h1 h2
  exact ⟨i, j, rfl, q _ F H (Stp.refl e) rfl⟩
theorem rc_min2 {i j : Int} : Rc (fun xs H Q => ∃ i j, xs = [.int i, .int j] ∧ Q (.int (if j < i then j else i)) H) [.int i, .int j] (.int (if j < i then j else i)) := fun F H vs e h Q q => by
  obtain ⟨v, _, rfl, h1, w, _, rfl, h2, rfl⟩ := h
  have h1 : v = .int i := h1
  have h2 : w = .int j := h2
  subst h1 h2
  exact ⟨i, j, rfl, q _ F H (Stp.refl e) rfl⟩
theorem rc_intB {b : Bool} : Rc (fun xs H Q => (∃ i, xs = [.int i] ∧ Q (.int i) H) ∨ ∃ k, xs = [.bl k] ∧ Q (.int (if k then 1 else 0)) H) [.bool b] (.int (if b then 1 else 0)) := fun F H vs e h Q q => by
  obtain ⟨v, _, rfl, h1, rfl⟩ := h
  have h1 : v = .bl b := h1
  subst h1
  exact Or.inr ⟨b, rfl, q _ F H (Stp.refl e) rfl⟩
/-- a rising list of the same things is the same list -/
theorem up_eq : ∀ {l m : List Int}, l.Perm m → l.Pairwise (· ≤ ·) → m.Pairwise (· ≤ ·) → l = m
  | [], m, p, _, _ => by rw [List.nil_perm.mp p]
  | a :: l, m, p, h, g => by
    cases m with
    | nil => exact absurd p.length_eq (by simp)
    | cons b m =>
      obtain ⟨h1, h2⟩ := List.pairwise_cons.mp h
      obtain ⟨g1, g2⟩ := List.pairwise_cons.mp g
      have e : a = b := by
        have ma : a ∈ b :: m := p.subset List.mem_cons_self
        have mb : b ∈ a :: l := p.symm.subset List.mem_cons_self
        rcases List.mem_cons.mp ma with q | q
        · exact q
        · rcases List.mem_cons.mp mb with q' | q'
          · exact q'.symm
          · exact Int.le_antisymm (h1 _ q') (g1 _ q)
      subst e
      rw [up_eq (List.perm_cons a |>.mp p) h2 g2]
def srtI (ns : List Int) : List Int := ns.mergeSort (fun a b => decide (a ≤ b))
theorem srtI_perm (ns : List Int) : (srtI ns).Perm ns := List.mergeSort_perm ns _
theorem srtI_up (ns : List Int) : (srtI ns).Pairwise (· ≤ ·) := by
  have h := List.pairwise_mergeSort (le := fun a b : Int => decide (a ≤ b)) (fun a b c h1 h2 => decide_eq_true (Int.le_trans (of_decide_eq_true h1) (of_decide_eq_true h2))) (fun a b => by
    rcases Int.le_total a b with h | h
    · simp [h]
    · simp [h]) ns
  exact h.imp fun q => of_decide_eq_true q
theorem rc_sortI {ns : List Int} : Rc (rSortedI K) [.list (ns.map .int)] (.list ((srtI ns).map .int)) := fun F H vs e h Q q => by
  obtain ⟨v, _, rfl, ⟨a, xs, rfl, h3, h4⟩, rfl⟩ := h
  rw [h4.ints_eq] at h3
  refine ⟨a, ns, rfl, SqL.of (e _ _ h3), fun ns' p h1 h2 hp => ?_⟩
  have e0 : ns' = srtI ns := up_eq (h1.trans (srtI_perm ns).symm) h2 (srtI_up ns)
  rw [e0]
  exact q _ _ _ (Stp.new e hp) ⟨p, _, rfl, upd_same, Dts.ints _⟩
/-! isinstance -/
def tyD : PyData → String
  | .none => "NoneType"
  | .bool _ => "bool"
  | .int _ => "int"
  | .str _ => "str"
  | .list _ => "list"
  | .tuple _ => "tuple"
  | .dict _ => "dict"
theorem tyD_ok {F H : Hp} {d : PyData} {v : V} (e : Ex F H) (h : Dt F d v) : TyX K H v (.type (tyD d)) := by
  cases d with
  | none => have h : v = .non := h; subst h; exact .base .non
  | bool b => have h : v = .bl b := h; subst h; exact .base (.bl b)
  | int b => have h : v = .int b := h; subst h; exact .base (.int b)
  | str b => have h : v = .str b := h; subst h; exact .base (.str b)
  | list ds => obtain ⟨a, xs, rfl, h1, _⟩ := h; exact .base (.lst (e _ _ h1))
  | tuple ds => obtain ⟨a, xs, rfl, h1, _⟩ := h; exact .base (.tup (e _ _ h1))
  | dict ds => exact h.elim
theorem ev_isi {T : String} {b : Bool} (h : EvE c te env d) (k : PySem.W.kitOne K (.type (tyD d)) (.type T) = some b) : EvE c (tCB (rIsi K) (tCons te (tCons (tC (.ty T)) tNil))) env (.bool b) := fun σ F H fps R Q q =>
  h σ F H fps R _ fun v F1 H1 s1 h1 => ⟨v, .ty T, _, _, b, rfl, .ty T, tyD_ok s1.h h1, k, q _ F1 H1 s1 rfl⟩
/-! in -/
theorem rv_inC {k : Nat} {z : Str} : Rv (fun x y H Q => ∃ (c : Nat) (z : Str), x = .str ⟨#[c]⟩ ∧ y = .str z ∧ Q (.bl (decide (c ∈ z.cps.toList))) H) (.str ⟨#[k]⟩) (.str z) (.bool (decide (k ∈ z.cps.toList))) := fun F H v w e h1 h2 Q q => ⟨k, z, h1, h2, q _ F H (Stp.refl e) rfl⟩
theorem rv_ninC {k : Nat} {z : Str} : Rv (fun x y H Q => ∃ (c : Nat) (z : Str), x = .str ⟨#[c]⟩ ∧ y = .str z ∧ Q (.bl (!decide (c ∈ z.cps.toList))) H) (.str ⟨#[k]⟩) (.str z) (.bool (!decide (k ∈ z.cps.toList))) := fun F H v w e h1 h2 Q q => ⟨k, z, h1, h2, q _ F H (Stp.refl e) rfl⟩
theorem inV_strs (z : Str) : ∀ zs : List Str, inV (.str z) (zs.map .str) = decide (z ∈ zs)
  | [] => by simp [inV]
  | w :: zs => by
    have ih := inV_strs z zs
    show (eqV (.str w) (.str z) || inV (.str z) (zs.map .str)) = _
    rw [ih]
    show ((w == z) || _) = _
    by_cases q : z = w
    · subst q; simp
    · have q1 : (w == z) = false := by simp; exact fun h => q h.symm
      rw [q1]; simp [q]
theorem inV_ints (z : Int) : ∀ zs : List Int, inV (.int z) (zs.map .int) = decide (z ∈ zs)
  | [] => by simp [inV]
  | w :: zs => by
    have ih := inV_ints z zs
    show (eqV (.int w) (.int z) || inV (.int z) (zs.map .int)) = _
    rw [ih]
    show ((w == z) || _) = _
    by_cases q : z = w
    · subst q; simp
    · have q1 : (w == z) = false := by simp; exact fun h => q h.symm
      rw [q1]; simp [q]
theorem flat_strs : ∀ zs : List Str, (zs.map V.str).all flatV = true
  | [] => rfl
  | _ :: zs => by rw [List.map_cons, List.all_cons, flat_strs zs]; rfl
theorem flat_ints : ∀ zs : List Int, (zs.map V.int).all flatV = true
  | [] => rfl
  | _ :: zs => by rw [List.map_cons, List.all_cons, flat_ints zs]; rfl
theorem rv_inT {z : Str} {zs : List Str} : Rv (rIn K false) (.str z) (.tuple (zs.map .str)) (.bool (decide (z ∈ zs))) := fun F H v w e h1 h2 Q q => by
  have h1 : v = .str z := h1
  obtain ⟨a, xs, rfl, h3, h4⟩ := h2
  subst h1
  rw [h4.strs_eq] at h3
  refine ⟨a, _, rfl, Or.inr (SqT.of (e _ _ h3)), rfl, flat_strs zs, ?_⟩
  show Q (.bl (inV (.str z) (zs.map .str))) H
  rw [inV_strs]
  exact q _ F H (Stp.refl e) rfl
/-! == of data -/
mutual
theorem Dt.dp {F H : Hp} (e : Ex F H) : ∀ {d : PyData} {v : V}, Dt F d v → Dp K H v d
  | .none, v, h => by have h : v = .non := h; subst h; exact .non
  | .bool b, v, h => by have h : v = .bl b := h; subst h; exact .bl b
  | .int b, v, h => by have h : v = .int b := h; subst h; exact .int b
  | .str b, v, h => by have h : v = .str b := h; subst h; exact .str b
  | .list ds, v, h => by obtain ⟨a, xs, rfl, h1, h2⟩ := h; exact .lst (SqL.of (e _ _ h1)) (Dts.dp e h2)
  | .tuple ds, v, h => by obtain ⟨a, xs, rfl, h1, h2⟩ := h; exact .tup (SqT.of (e _ _ h1)) (Dts.dp e h2)
  | .dict _, _, h => h.elim
theorem Dts.dp {F H : Hp} (e : Ex F H) : ∀ {ds : List PyData} {xs : List V}, Dts F ds xs → DpAll K H xs ds
  | [], xs, h => by have h : xs = [] := h; subst h; exact .nil
  | d :: ds, xs, h => by obtain ⟨y, ys, rfl, h1, h2⟩ := h; exact .cons (Dt.dp e h1) (Dts.dp e h2)
end
theorem rv_eqD (hx : SeqAt.shaped x = true) (hy : SeqAt.shaped y = true) : Rv (rEqD K) x y (.bool (PyData.eqv x y)) := fun F H v w e h1 h2 Q q => ⟨x, y, h1.dp e, h2.dp e, hx, hy, q _ F H (Stp.refl e) rfl⟩
theorem rv_neD (hx : SeqAt.shaped x = true) (hy : SeqAt.shaped y = true) : Rv (rNeD K) x y (.bool (!PyData.eqv x y)) := fun F H v w e h1 h2 Q q => ⟨x, y, h1.dp e, h2.dp e, hx, hy, q _ F H (Stp.refl e) rfl⟩
/-! slices -/
theorem eo_none : EvO c tNoPart env none := fun σ F H fps R Q q => q F H (Stp.refl R.eH)
theorem eo_some {i : Int} (h : EvE c te env (.int i)) : EvO c (tPart te) env (some i) := fun σ F H fps R Q q => h σ F H fps R _ fun v F1 H1 s1 h1 => ⟨i, h1, q F1 H1 s1⟩
def cutD (ds : List PyData) (lo hi : Option Int) : List PyData := (ds.drop (HT.sIx ds.length 0 lo)).take (HT.sIx ds.length ds.length hi - HT.sIx ds.length 0 lo)
theorem Dts.cut {F : Hp} {ds : List PyData} {xs : List V} (h : Dts F ds xs) (lo hi : Option Int) : Dts F (cutD ds lo hi) (cutV xs lo hi) := by
  unfold cutD cutV
  rw [h.length]
  exact (h.drop _).take _
theorem ev_slS {tl th : TO} {s : Str} {lo hi : Option Int} (h : EvE c te env (.str s)) (hl : EvO c tl env lo) (hh : EvO c th env hi) (hs : s.length ≤ 100000) : EvE c (tSl rSlS te tl th) env (.str (cutS s lo hi)) := fun σ F H fps R Q q =>
  h σ F H fps R _ fun v F1 H1 s1 h1 => hl σ F1 H1 fps (R.ext s1) _ fun F2 H2 s2 => hh σ F2 H2 fps (R.ext (s1.trans s2)) _ fun F3 H3 s3 => ⟨s, h1, sz_le hs, q _ F3 H3 (s1.trans (s2.trans s3)) rfl⟩
theorem ev_slL {tl th : TO} {ds : List PyData} {lo hi : Option Int} (h : EvE c te env (.list ds)) (hl : EvO c tl env lo) (hh : EvO c th env hi) : EvE c (tSl (rSlL K) te tl th) env (.list (cutD ds lo hi)) := fun σ F H fps R Q q =>
  h σ F H fps R _ fun v F1 H1 s1 h1 => hl σ F1 H1 fps (R.ext s1) _ fun F2 H2 s2 => hh σ F2 H2 fps (R.ext (s1.trans s2)) _ fun F3 H3 s3 => by
    obtain ⟨a, xs, rfl, h3, h4⟩ := h1
    exact ⟨a, xs, rfl, SqL.of ((s2.e.trans s3.e) _ _ (s1.h _ _ h3)), fun p hp => q _ _ _ ((s1.trans (s2.trans s3)).trans (Stp.new s3.h hp)) ⟨p, _, rfl, upd_same, (h4.cut lo hi).mono ((s2.f.trans s3.f).trans (Ex.new (s3.h.free hp)))⟩⟩
theorem ev_slT {tl th : TO} {ds : List PyData} {lo hi : Option Int} (h : EvE c te env (.tuple ds)) (hl : EvO c tl env lo) (hh : EvO c th env hi) : EvE c (tSl (L2.rSlA K) te tl th) env (.tuple (cutD ds lo hi)) := fun σ F H fps R Q q =>
  h σ F H fps R _ fun v F1 H1 s1 h1 => hl σ F1 H1 fps (R.ext s1) _ fun F2 H2 s2 => hh σ F2 H2 fps (R.ext (s1.trans s2)) _ fun F3 H3 s3 => by
    obtain ⟨a, xs, rfl, h3, h4⟩ := h1
    refine ⟨a, xs, rfl, SqT.of ((s2.e.trans s3.e) _ _ (s1.h _ _ h3)), fun z => ?_, fun _ p hp => q _ _ _ ((s1.trans (s2.trans s3)).trans (Stp.new s3.h hp)) ⟨p, _, rfl, upd_same, (h4.cut lo hi).mono ((s2.f.trans s3.f).trans (Ex.new (s3.h.free hp)))⟩⟩
    have e0 : cutD ds lo hi = ds := by
      unfold cutD
      rw [← h4.length, z.1, z.2, h4.length]
      simp
    rw [e0] at q
    exact q _ F3 H3 (s1.trans (s2.trans s3)) ⟨a, xs, rfl, (s2.f.trans s3.f) _ _ h3, h4.mono (s2.f.trans s3.f)⟩
/-! methods of texts -/
theorem ev_bmS {to : TE} {ta : TA} {T : String} {r : V → List V → Hp → VK → Prop} {s : Str} {ds : List PyData} (h : EvE c to env (.str s)) (ha : EvA c ta env ds) (hr : Rm r (.str s) ds d) (hT : T = "str") : EvE c (tBM K T r to ta) env d := fun σ F H fps R Q q =>
  h σ F H fps R _ fun v F1 H1 s1 h1 => by
    have h1 : v = .str s := h1
    subst h1
    refine ⟨hT, ?_⟩
    exact ha σ F1 H1 fps (R.ext s1) _ fun vs F2 H2 s2 h2 => hr F2 H2 _ vs s2.h rfl h2 Q fun u F3 H3 s3 h3 => q u F3 H3 (s1.trans (s2.trans s3)) h3
theorem rm_find {s s' : Str} : Rm (fun x xs H Q => ∃ a b, x = .str a ∧ xs = [.str b] ∧ Q (.int (Txt.find a b)) H) (.str s) [.str s'] (.int (Txt.find s s')) := fun F H v vs e h1 h2 Q q => by
  obtain ⟨w, _, rfl, h3, rfl⟩ := h2
  have h1 : v = .str s := h1
  have h3 : w = .str s' := h3
  subst h1 h3
  exact ⟨s, s', rfl, rfl, q _ F H (Stp.refl e) rfl⟩
theorem rm_count {s s' : Str} : Rm (fun x xs H Q => ∃ a b, x = .str a ∧ xs = [.str b] ∧ Q (.int (Txt.count a b)) H) (.str s) [.str s'] (.int (Txt.count s s')) := fun F H v vs e h1 h2 Q q => by
  obtain ⟨w, _, rfl, h3, rfl⟩ := h2
  have h1 : v = .str s := h1
  have h3 : w = .str s' := h3
  subst h1 h3
  exact ⟨s, s', rfl, rfl, q _ F H (Stp.refl e) rfl⟩
theorem ev_m1S {to : TE} {r : V → List V → Hp → VK → Prop} {s : Str} (h : EvE c to env (.str s)) (ha : EvE c ta env x) (hr : Rm r (.str s) [x] d) : EvE c (tM1 r to ta) env d := fun σ F H fps R Q q =>
  h σ F H fps R _ fun v F1 H1 s1 h1 => by
    have h1 : v = .str s := h1
    subst h1
    refine ⟨⟨s, rfl⟩, ?_⟩
    exact ha σ F1 H1 fps (R.ext s1) _ fun w F2 H2 s2 h2 => hr F2 H2 _ [w] s2.h rfl (Dts.cons h2 Dts.nil) Q fun u F3 H3 s3 h3 => q u F3 H3 (s1.trans (s2.trans s3)) h3
theorem rm_join {s : Str} {ys : List Str} (hz : (ys.map (·.length)).sum + ys.length * s.length ≤ 100000) : Rm (fun x xs H Q => ∃ a p, ∃ ys : List Str, x = .str a ∧ xs = [.ref p] ∧ (SqL K H p (ys.map V.str) ∨ SqT K H p (ys.map V.str)) ∧ (ys.map (·.length)).sum + ys.length * a.length ≤ 16777216 ∧ Q (.str (Txt.join a ys)) H)
    (.str s) [.list (ys.map .str)] (.str (Txt.join s ys)) := fun F H v vs e h1 h2 Q q => by
  obtain ⟨w, _, rfl, ⟨a, xs, rfl, h3, h4⟩, rfl⟩ := h2
  have h1 : v = .str s := h1
  subst h1
  rw [h4.strs_eq] at h3
  exact ⟨s, a, ys, rfl, rfl, Or.inl (SqL.of (e _ _ h3)), by omega, q _ F H (Stp.refl e) rfl⟩
/-! one's own lists and dicts, read -/
def ownL : Sl → Option (List PyData)
  | .ow (.lst ds) => some ds
  | .bo _ (.lst ds) => some ds
  | _ => none
def ownK : Sl → Option (List (Key × PyData))
  | .ow (.dk ds) => some ds
  | .bo _ (.dk ds) => some ds
  | _ => none
def ownT : Sl → Option (List (List Key × PyData))
  | .ow (.dt ds) => some ds
  | .bo _ (.dt ds) => some ds
  | _ => none
section
variable {F H : Hp} {σ : List (Option V)} {fps : List (List Addr)} {i : Nat} {s : Sl}
theorem Rl.ownL {ds : List PyData} (r : Rl c σ F H env fps) (h : env[i]? = some s) (ho : ownL s = some ds) : ∃ p xs, σ[i]? = some (some (.ref p)) ∧ fps[i]? = some [p] ∧ H p = some (.lst xs) ∧ Dts F ds xs := by
  obtain ⟨v, fp, h1, h2, h3⟩ := r.sl.get h
  cases s with
  | no => cases ho
  | im d => cases ho
  | ow o =>
    cases o with
    | lst es =>
      cases ho
      obtain ⟨p, rfl, ⟨rfl, xs, h4, h5⟩, _⟩ := h3
      exact ⟨p, xs, h1, h2, h4, h5⟩
    | dk _ => cases ho
    | dt _ => cases ho
    | pl _ _ => cases ho
    | pf _ _ => cases ho
  | bo p o =>
    cases o with
    | lst es =>
      cases ho
      obtain ⟨rfl, rfl, xs, h4, h5⟩ := h3
      exact ⟨p, xs, h1, h2, h4, h5⟩
    | dk _ => cases ho
    | dt _ => cases ho
    | pl _ _ => cases ho
    | pf _ _ => cases ho
theorem Rl.ownK {ds : List (Key × PyData)} (r : Rl c σ F H env fps) (h : env[i]? = some s) (ho : ownK s = some ds) : ∃ p xs, σ[i]? = some (some (.ref p)) ∧ fps[i]? = some [p] ∧ H p = some (.dK xs) ∧ Dkv F ds xs := by
  obtain ⟨v, fp, h1, h2, h3⟩ := r.sl.get h
  cases s with
  | no => cases ho
  | im d => cases ho
  | ow o =>
    cases o with
    | dk es =>
      cases ho
      obtain ⟨p, rfl, ⟨rfl, xs, h4, h5⟩, _⟩ := h3
      exact ⟨p, xs, h1, h2, h4, h5⟩
    | lst _ => cases ho
    | dt _ => cases ho
    | pl _ _ => cases ho
    | pf _ _ => cases ho
  | bo p o =>
    cases o with
    | dk es =>
      cases ho
      obtain ⟨rfl, rfl, xs, h4, h5⟩ := h3
      exact ⟨p, xs, h1, h2, h4, h5⟩
    | lst _ => cases ho
    | dt _ => cases ho
    | pl _ _ => cases ho
    | pf _ _ => cases ho
theorem Rl.ownT {ds : List (List Key × PyData)} (r : Rl c σ F H env fps) (h : env[i]? = some s) (ho : ownT s = some ds) : ∃ p xs, σ[i]? = some (some (.ref p)) ∧ fps[i]? = some [p] ∧ H p = some (.dT xs) ∧ Dkv F ds xs := by
  obtain ⟨v, fp, h1, h2, h3⟩ := r.sl.get h
  cases s with
  | no => cases ho
  | im d => cases ho
  | ow o =>
    cases o with
    | dt es =>
      cases ho
      obtain ⟨p, rfl, ⟨rfl, xs, h4, h5⟩, _⟩ := h3
      exact ⟨p, xs, h1, h2, h4, h5⟩
    | lst _ => cases ho
    | dk _ => cases ho
    | pl _ _ => cases ho
    | pf _ _ => cases ho
  | bo p o =>
    cases o with
    | dt es =>
      cases ho
      obtain ⟨rfl, rfl, xs, h4, h5⟩ := h3
      exact ⟨p, xs, h1, h2, h4, h5⟩
    | lst _ => cases ho
    | dk _ => cases ho
    | pl _ _ => cases ho
    | pf _ _ => cases ho
end
theorem ev_lenO {i : Nat} {s : Sl} {ds : List PyData} (h : env[i]? = some s) (ho : ownL s = some ds) : EvE c (tCB (fun xs H Q => ∃ p ys, xs = [.ref p] ∧ (SqL K H p ys ∨ SqT K H p ys) ∧ Q (.int ys.length) H) (tCons (tVar i) tNil)) env (.int ds.length) := fun σ F H fps R Q q => by
  obtain ⟨p, xs, h1, _, h3, h4⟩ := R.ownL h ho
  exact ⟨_, h1, p, xs, rfl, Or.inl (SqL.of h3), q _ F H (Stp.refl R.eH) (by rw [h4.length]; rfl)⟩
theorem ev_ixO {i : Nat} {s : Sl} {ds : List PyData} {j : Int} (h : env[i]? = some s) (ho : ownL s = some ds) (hb : EvE c tb env (.int j)) (hd : atI ds j = some d) : EvE c (tOp (rIxL K) (tVar i) tb) env d := fun σ F H fps R Q q => by
  obtain ⟨p, xs, h1, _, h3, h4⟩ := R.ownL h ho
  refine ⟨_, h1, hb σ F H fps R _ fun w F1 H1 s1 g1 => ?_⟩
  have g1 : w = .int j := g1
  subst g1
  obtain ⟨v, h5, h6⟩ := atI_dts h4 hd
  exact ⟨p, xs, j, v, rfl, rfl, SqL.of (s1.e _ _ h3), h5, q v F1 H1 s1 (h6.mono s1.f)⟩
theorem rv_inO {i : Nat} {s : Sl} {z : Str} {zs : List Str} (h : env[i]? = some s) (ho : ownL s = some (zs.map .str)) (ha : EvE c ta env (.str z)) : EvE c (tOp (rIn K false) ta (tVar i)) env (.bool (decide (z ∈ zs))) := fun σ F H fps R Q q =>
  ha σ F H fps R _ fun v F1 H1 s1 h1 => by
    have h1 : v = .str z := h1
    subst h1
    obtain ⟨p, xs, h2, _, h3, h4⟩ := (R.ext s1).ownL h ho
    rw [h4.strs_eq] at h3
    refine ⟨_, h2, p, _, rfl, Or.inl (SqL.of h3), rfl, flat_strs zs, ?_⟩
    show Q (.bl (inV (.str z) (zs.map .str))) H1
    rw [inV_strs]
    exact q _ F1 H1 s1 rfl
/-- a look-up -/
def valD {κ : Type} [DecidableEq κ] (kvs : List (κ × PyData)) (k : κ) : Option PyData := (kvs.find? fun kv => decide (kv.1 = k)).map (·.2)
def putD {κ : Type} [DecidableEq κ] (kvs : List (κ × PyData)) (k : κ) (v : PyData) : List (κ × PyData) :=
  if (kvs.any fun kv => decide (kv.1 = k)) = true then kvs.map (fun kv => if kv.1 = k then (kv.1, v) else kv) else kvs ++ [(k, v)]
theorem Dkv.val {κ : Type} [DecidableEq κ] {F : Hp} {kvs : List (κ × PyData)} {vs : List (κ × V)} (h : Dkv F kvs vs) (k : κ) : (∀ d, valD kvs k = some d → ∃ v, valV vs k = some v ∧ Dt F d v) ∧ (valD kvs k = none → valV vs k = none) := by
  induction h with
  | nil => exact ⟨fun d q => (by cases q), fun _ => rfl⟩
  | @cons p q ps qs r t ih =>
    by_cases e : p.1 = k
    · have e1 : valD (p :: ps) k = some p.2 := by simp [valD, List.find?_cons, e]
      have e2 : valV (q :: qs) k = some q.2 := valV_pos (by rw [← r.1]; exact e)
      rw [e1, e2]
      exact ⟨fun d z => by cases z; exact ⟨q.2, rfl, r.2⟩, fun z => by cases z⟩
    · have e1 : valD (p :: ps) k = valD ps k := by simp [valD, List.find?_cons, e]
      have e2 : valV (q :: qs) k = valV qs k := valV_neg (by rw [← r.1]; exact e)
      rw [e1, e2]
      exact ih
theorem Dkv.any {κ : Type} [DecidableEq κ] {F : Hp} {kvs : List (κ × PyData)} {vs : List (κ × V)} (h : Dkv F kvs vs) (k : κ) : (kvs.any fun kv => decide (kv.1 = k)) = (vs.any fun kv => decide (kv.1 = k)) := by
  induction h with
  | nil => rfl
  | @cons p q ps qs r t ih => rw [List.any_cons, List.any_cons, ih, r.1]
theorem Dkv.len {κ : Type} {F : Hp} {kvs : List (κ × PyData)} {vs : List (κ × V)} (h : Dkv F kvs vs) : vs.length = kvs.length := (Paired.length h).symm
theorem Dkv.app {κ : Type} {F : Hp} {kvs k2 : List (κ × PyData)} {vs v2 : List (κ × V)} (h : Dkv F kvs vs) (g : Dkv F k2 v2) : Dkv F (kvs ++ k2) (vs ++ v2) := by
  induction h with
  | nil => exact g
  | cons r t ih => exact .cons r ih
theorem Dkv.put {κ : Type} [DecidableEq κ] {F : Hp} {kvs : List (κ × PyData)} {vs : List (κ × V)} (h : Dkv F kvs vs) (k : κ) {d : PyData} {v : V} (g : Dt F d v) : Dkv F (putD kvs k d) (putK vs k v) := by
  unfold putD putK
  rw [h.any k]
  split
  · rename_i q
    clear q
    induction h with
    | nil => exact .nil
    | @cons p q ps qs r t ih =>
      refine .cons ?_ ih
      show (if p.1 = k then (p.1, d) else p).1 = (if q.1 = k then (q.1, v) else q).1 ∧ Dt F (if p.1 = k then (p.1, d) else p).2 (if q.1 = k then (q.1, v) else q).2
      rw [← r.1]
      split
      · exact ⟨rfl, g⟩
      · exact r
  · exact h.app (.cons ⟨rfl, g⟩ .nil)
/-- a key as a datum -/
def kD : Key → PyData
  | .inl i => .int i
  | .inr x => .str x
theorem kD_v {F : Hp} {k : Key} {v : V} (h : Dt F (kD k) v) : v = kV k := by
  cases k with
  | inl i => exact h
  | inr x => exact h
theorem kDs_v {F : Hp} : ∀ {ks : List Key} {vs : List V}, Dts F (ks.map kD) vs → vs = ks.map kV
  | [], vs, h => h
  | k :: ks, vs, h => by
    obtain ⟨y, ys, rfl, h2, h3⟩ := h
    rw [kD_v h2, kDs_v h3, List.map_cons]
theorem ev_dgetK {i : Nat} {s : Sl} {ds : List (Key × PyData)} {k : Key} (h : env[i]? = some s) (ho : ownK s = some ds) (hb : EvE c tb env (kD k)) (hd : valD ds k = some d) : EvE c (tDGet (tVar i) tb) env d := fun σ F H fps R Q q => by
  obtain ⟨p, xs, h1, _, h3, h4⟩ := R.ownK h ho
  refine ⟨_, h1, hb σ F H fps R _ fun w F1 H1 s1 g1 => ?_⟩
  obtain ⟨v, h5, h6⟩ := (h4.val k).1 d hd
  refine ⟨p, v, rfl, ?_, q v F1 H1 s1 (h6.mono s1.f)⟩
  rw [kD_v g1, ← h5]
  exact DGet.k (s1.e _ _ h3)
theorem ev_dnotinK {i : Nat} {s : Sl} {ds : List (Key × PyData)} {k : Key} (h : env[i]? = some s) (ho : ownK s = some ds) (hb : EvE c tb env (kD k)) : EvE c (tDNotIn tb (tVar i)) env (.bool (!(valD ds k).isSome)) := fun σ F H fps R Q q =>
  hb σ F H fps R _ fun w F1 H1 s1 g1 => by
    obtain ⟨p, xs, h1, _, h3, h4⟩ := (R.ext s1).ownK h ho
    refine ⟨_, h1, p, _, rfl, by rw [kD_v g1]; exact DGet.k h3, ?_⟩
    have e : (valV xs k).isSome = (valD ds k).isSome := by
      cases z : valD ds k with
      | none => rw [(h4.val k).2 z]; rfl
      | some d => obtain ⟨v, z1, _⟩ := (h4.val k).1 d z; rw [z1]; rfl
    rw [e]
    exact q _ F1 H1 s1 rfl
theorem ev_dgetT {i : Nat} {s : Sl} {ds : List (List Key × PyData)} {k : List Key} (h : env[i]? = some s) (ho : ownT s = some ds) (hb : EvE c tb env (.tuple (k.map kD))) (hd : valD ds k = some d) : EvE c (tDGet (tVar i) tb) env d := fun σ F H fps R Q q => by
  obtain ⟨p, xs, h1, _, h3, h4⟩ := R.ownT h ho
  refine ⟨_, h1, hb σ F H fps R _ fun w F1 H1 s1 g1 => ?_⟩
  obtain ⟨v, h5, h6⟩ := (h4.val k).1 d hd
  obtain ⟨b, ys, rfl, g2, g3⟩ := g1
  refine ⟨p, v, rfl, ?_, q v F1 H1 s1 (h6.mono s1.f)⟩
  rw [← h5]
  rw [kDs_v g3] at g2
  exact DGet.t (s1.e _ _ h3) (s1.h _ _ g2)
theorem ev_dnotinT {i : Nat} {s : Sl} {ds : List (List Key × PyData)} {k : List Key} (h : env[i]? = some s) (ho : ownT s = some ds) (hb : EvE c tb env (.tuple (k.map kD))) : EvE c (tDNotIn tb (tVar i)) env (.bool (!(valD ds k).isSome)) := fun σ F H fps R Q q =>
  hb σ F H fps R _ fun w F1 H1 s1 g1 => by
    obtain ⟨p, xs, h1, _, h3, h4⟩ := (R.ext s1).ownT h ho
    obtain ⟨b, ys, rfl, g2, g3⟩ := g1
    rw [kDs_v g3] at g2
    refine ⟨_, h1, p, _, rfl, DGet.t h3 (s1.h _ _ g2), ?_⟩
    have e : (valV xs k).isSome = (valD ds k).isSome := by
      cases z : valD ds k with
      | none => rw [(h4.val k).2 z]; rfl
      | some d => obtain ⟨v, z1, _⟩ := (h4.val k).1 d z; rw [z1]; rfl
    rw [e]
    exact q _ F1 H1 s1 rfl
theorem ev_lenK {i : Nat} {s : Sl} {ds : List (Key × PyData)} (h : env[i]? = some s) (ho : ownK s = some ds) : EvE c (tCB (fun xs H Q => ∃ a kvs, xs = [V.ref a] ∧ H a = some (.dK kvs) ∧ Q (.int kvs.length) H) (tCons (tVar i) tNil)) env (.int ds.length) := fun σ F H fps R Q q => by
  obtain ⟨p, xs, h1, _, h3, h4⟩ := R.ownK h ho
  exact ⟨_, h1, p, xs, rfl, h3, q _ F H (Stp.refl R.eH) (by rw [h4.len]; rfl)⟩
end
end Nr
set_option Elab.async false
set_option linter.all false
set_option maxRecDepth 100000
set_option maxHeartbeats 4000000
namespace Nr
open PySem PySem.Spec PyProof.Rows L2

/-! ### what is walked -/
/-- the iterator yields these data, from F on -/
def Walks (J : It) (F : Hp) (ds : List PyData) : Prop :=
  ∀ (i : Nat) H F2, Ex F F2 → Ex F2 H → (∀ d, ds[i]? = some d → J.go i H ∧ ∀ x H', J.yld i H x H' → ∃ F3, Stp H F2 H' F3 ∧ Dt F3 d x) ∧ (i = ds.length → J.stop i H)
def EvI (c : Ct) (wi : TI) (env : List Sl) (ds : List PyData) : Prop :=
  ∀ σ F H fps, Rl c σ F H env fps → ∀ R : It → Hp → Prop, (∀ J F' H', Stp H F H' F' → Walks J F' ds → R J H') → wi σ H R
/-- a target takes a datum -/
def EvG (c : Ct) (g : TG) (js : List Nat) (d : PyData) (env env' : List Sl) : Prop :=
  ∀ σ F H fps v, Rl c σ F H env fps → Dt F d v → ∀ Q : L2.St → Hp → Prop, (∀ σ' fps', Rl c σ' F H env' fps' → (∀ vs, (∀ j ∈ js, j ∈ vs) → wipe σ' vs = wipe σ vs) → Q σ' H) → g v σ H Q

section
variable {c : Ct} {env env' env2 : List Sl} {ta tb tc te : TE} {t u tt : TT} {x y z d e : PyData} {r : R2} {K : PySem.W.Frag} {ds : List PyData}
theorem wipe_get {σ : L2.St} {i : Nat} : ∀ {vs : List Nat}, i ∈ vs → i < σ.length → (wipe σ vs)[i]? = some none
  | [], h, _ => by simp at h
  | v :: vs, h, hl => by
    show ((wipe σ vs).set v none)[i]? = _
    rw [List.getElem?_set]
    split
    · rename_i q; subst q; rw [if_pos (by rw [wipe_length]; exact hl)]
    · rename_i q
      rcases List.mem_cons.mp h with z | z
      · exact absurd z.symm q
      · exact wipe_get z hl
theorem wipe_set {σ : L2.St} {j : Nat} {x : Option V} {vs : List Nat} (h : j ∈ vs) : wipe (σ.set j x) vs = wipe σ vs := by
  apply List.ext_getElem?
  intro i
  by_cases hi : i < σ.length
  · by_cases m : i ∈ vs
    · rw [wipe_get m (by rw [List.length_set]; exact hi), wipe_get m hi]
    · rw [wipe_out m, wipe_out m, List.getElem?_set_ne (fun q => m (by rw [← q]; exact h))]
  · rw [List.getElem?_eq_none (by rw [wipe_length, List.length_set]; omega), List.getElem?_eq_none (by rw [wipe_length]; omega)]
theorem eg_name {j : Nat} : EvG c (gName j) [j] d env (env.set j (.im d)) := fun σ F H fps v R h Q q => q _ _ (R.putD j h) fun vs hv => wipe_set (hv j (by simp))
theorem eg_name' {j : Nat} (h : env.set j (.im d) = env') : EvG c (gName j) [j] d env env' := h ▸ eg_name
/-- several targets -/
def EvGs (c : Ct) (g : TGs) (js : List Nat) (ds : List PyData) (env env' : List Sl) : Prop :=
  ∀ σ F H fps vs, Rl c σ F H env fps → Dts F ds vs → ∀ Q : L2.St → Hp → Prop, (∀ σ' fps', Rl c σ' F H env' fps' → (∀ vs, (∀ j ∈ js, j ∈ vs) → wipe σ' vs = wipe σ vs) → Q σ' H) → g vs σ H Q
theorem egs_nil : EvGs c gNil [] [] env env := fun σ F H fps vs R h Q q => ⟨h, q σ fps R fun _ _ => rfl⟩
theorem egs_cons {g : TG} {gs : TGs} {j1 j2 : List Nat} (h1 : EvG c g j1 d env env') (h2 : EvGs c gs j2 ds env' env2) : EvGs c (gCons g gs) (j1 ++ j2) (d :: ds) env env2 := fun σ F H fps vs R h Q q => by
  obtain ⟨v, r, rfl, h3, h4⟩ := h
  exact ⟨v, r, rfl, h1 σ F H fps v R h3 _ fun σ1 fps1 R1 w1 => h2 σ1 F H fps1 r R1 h4 Q fun σ2 fps2 R2 w2 => q σ2 fps2 R2 fun vs hv => (w2 vs fun j hj => hv j (List.mem_append_right _ hj)).trans (w1 vs fun j hj => hv j (List.mem_append_left _ hj))⟩
theorem eg_tup {gs : TGs} {js : List Nat} {n : Nat} (h : EvGs c gs js ds env env') (hn : ds.length = n) : EvG c (gTup K n gs) js (.tuple ds) env env' := fun σ F H fps v R g Q q => by
  obtain ⟨a, xs, rfl, h1, h2⟩ := g
  exact ⟨a, xs, rfl, SqT.of (R.eH _ _ h1), by rw [h2.length]; exact hn, h σ F H fps xs R h2 Q q⟩
theorem walks_l {F : Hp} {a : Addr} {xs : List V} (h1 : F a = some (.lst xs)) (h2 : Dts F ds xs) : Walks (Itl K a) F ds := fun i H F2 e1 e2 => by
  refine ⟨fun d hd => ?_, fun hi => ⟨xs, SqL.of (e2 _ _ (e1 _ _ h1)), by rw [h2.length]; omega⟩⟩
  obtain ⟨v, h3, h4⟩ := h2.get hd
  refine ⟨⟨xs, v, SqL.of (e2 _ _ (e1 _ _ h1)), h3⟩, fun x H' hy => ?_⟩
  obtain ⟨rfl, hy⟩ := hy
  have e0 : some v = some x := h3.symm.trans (hy xs (SqL.of (e2 _ _ (e1 _ _ h1))))
  cases e0
  exact ⟨F2, Stp.refl e2, h4.mono e1⟩
theorem walks_t {F : Hp} {a : Addr} {xs : List V} (h1 : F a = some (.tup xs)) (h2 : Dts F ds xs) : Walks (Itt K a) F ds := fun i H F2 e1 e2 => by
  refine ⟨fun d hd => ?_, fun hi => ⟨xs, SqT.of (e2 _ _ (e1 _ _ h1)), by rw [h2.length]; omega⟩⟩
  obtain ⟨v, h3, h4⟩ := h2.get hd
  refine ⟨⟨xs, v, SqT.of (e2 _ _ (e1 _ _ h1)), h3⟩, fun x H' hy => ?_⟩
  obtain ⟨rfl, hy⟩ := hy
  have e0 : some v = some x := h3.symm.trans (hy xs (SqT.of (e2 _ _ (e1 _ _ h1))))
  cases e0
  exact ⟨F2, Stp.refl e2, h4.mono e1⟩
theorem ei_list (h : EvE c te env (.list ds)) : EvI c (iList K te) env ds := fun σ F H fps R P q => h σ F H fps R _ fun v F1 H1 s1 h1 => by
  obtain ⟨a, xs, rfl, h3, h4⟩ := h1
  exact ⟨a, rfl, ⟨xs, SqL.of (s1.h _ _ h3)⟩, q _ F1 H1 s1 (walks_l h3 h4)⟩
theorem ei_tup (h : EvE c te env (.tuple ds)) : EvI c (iTup K te) env ds := fun σ F H fps R P q => h σ F H fps R _ fun v F1 H1 s1 h1 => by
  obtain ⟨a, xs, rfl, h3, h4⟩ := h1
  exact ⟨a, rfl, ⟨xs, SqT.of (s1.h _ _ h3)⟩, q _ F1 H1 s1 (walks_t h3 h4)⟩
def rngD (lo : Int) (n : Nat) : List PyData := (List.range n).map fun i => PyData.int (lo + (i : Nat))
theorem rngD_len (lo : Int) (n : Nat) : (rngD lo n).length = n := by simp [rngD]
theorem rngD_get {lo : Int} {n i : Nat} {d : PyData} (h : (rngD lo n)[i]? = some d) : i < n ∧ d = .int (lo + i) := by
  have hi := (List.getElem?_eq_some_iff.mp h).1
  rw [rngD_len] at hi
  refine ⟨hi, ?_⟩
  unfold rngD at h
  rw [List.getElem?_map, List.getElem?_range hi] at h
  exact (Option.some.inj h).symm
theorem walks_r {F : Hp} {lo : Int} {n : Nat} : Walks (Itr lo n) F (rngD lo n) := fun i H F2 e1 e2 => by
  refine ⟨fun d hd => ?_, fun hi => by rw [rngD_len] at hi; exact Nat.le_of_eq hi.symm⟩
  obtain ⟨h1, rfl⟩ := rngD_get hd
  refine ⟨h1, fun x H' hy => ?_⟩
  obtain ⟨rfl, rfl⟩ := hy
  exact ⟨F2, Stp.refl e2, rfl⟩
theorem ei_range1 {n : Int} (h : EvE c te env (.int n)) (h1 : -100000 ≤ n) (h2 : n ≤ 100000) : EvI c (iRng1 (tCons te tNil)) env (rngD 0 n.toNat) := fun σ F H fps R P q => h σ F H fps R _ fun v F1 H1 s1 g1 => by
  have g1 : v = .int n := g1
  subst g1
  exact ⟨n, rfl, by omega, by omega, q _ F1 H1 s1 walks_r⟩
theorem ei_range2 {n m : Int} (h : EvE c ta env (.int m)) (g : EvE c te env (.int n)) (h1 : -100000 ≤ n) (h2 : n ≤ 100000) (h3 : -100000 ≤ m) (h4 : m ≤ 100000) : EvI c (iRng2 (tCons ta (tCons te tNil))) env (rngD m (n - m).toNat) := fun σ F H fps R P q => h σ F H fps R _ fun w F1 H1 s1 g1 => g σ F1 H1 fps (R.ext s1) _ fun v F2 H2 s2 g2 => by
  have g1 : w = .int m := g1
  have g2 : v = .int n := g2
  subst g1 g2
  exact ⟨m, n, rfl, by omega, q _ F2 H2 (s1.trans s2) walks_r⟩
def strD (s : Str) : List PyData := s.cps.toList.map fun k => PyData.str ⟨#[k]⟩
theorem walks_s {F : Hp} {s : Str} : Walks (Its s) F (strD s) := fun i H F2 e1 e2 => by
  have hl : (strD s).length = s.cps.size := by simp [strD]
  refine ⟨fun d hd => ?_, fun hi => by rw [hl] at hi; exact Nat.le_of_eq hi.symm⟩
  have hi := (List.getElem?_eq_some_iff.mp hd).1
  rw [hl] at hi
  refine ⟨hi, fun x H' hy => ?_⟩
  obtain ⟨rfl, k, hk, rfl⟩ := hy
  refine ⟨F2, Stp.refl e2, ?_⟩
  unfold strD at hd
  rw [List.getElem?_map, Array.getElem?_toList, hk] at hd
  cases hd
  exact rfl
theorem ei_str {s : Str} (h : EvE c te env (.str s)) : EvI c (iStr te) env (strD s) := fun σ F H fps R P q => h σ F H fps R _ fun v F1 H1 s1 h1 => ⟨s, h1, q _ F1 H1 s1 walks_s⟩

/-! ### list comprehensions without effects -/
def wipeE (env : List Sl) : List Nat → List Sl
  | [] => env
  | v :: vs => (wipeE env vs).set v .no
/-- nothing of one's own is forgotten -/
def WipeOk (env : List Sl) (vs : List Nat) : Prop := ∀ j ∈ vs, ∀ s, env[j]? = some s → s = .no ∨ ∃ d, s = .im d
theorem Rl.wipe {σ : L2.St} {F H : Hp} {fps : List (List Addr)} (R : Rl c σ F H env fps) : ∀ vs : List Nat, ∃ fps', Rl c (wipe σ vs) F H (wipeE env vs) fps'
  | [] => ⟨fps, R⟩
  | v :: vs => by
    obtain ⟨f, h⟩ := R.wipe vs
    exact ⟨_, h.putN v none⟩
theorem ev_comp {wi : TI} {g : TG} {js vs : List Nat} (hi : EvI c wi env ds) (f : PyData → Bool) (v : PyData → PyData) (hl : ds.length ≤ 50000) (hj : ∀ j ∈ js, j ∈ vs)
    (hs : ∀ d ∈ ds, ∃ env', EvG c g js d (wipeE env vs) env' ∧ EvB c tt env' (f d) ∧ (f d = true → EvE c te env' (v d))) : EvE c (tLc wi g tt te vs) env (.list ((ds.filter f).map v)) := fun σ F H fps R Q q =>
  hi σ F H fps R _ fun J F1 H1 s1 w1 D hD => by
    have R1 := R.ext s1
    have hF1 : F1 D = none := s1.h.free hD
    refine ⟨fun i m H' => m = ds.length - i ∧ i ≤ ds.length ∧ ∃ F' acc, Ex F1 F' ∧ Ex F' H' ∧ Ex H1 H' ∧ (∀ b, H1 b ≠ none → Nb F1 F' b) ∧ F' D = none ∧ H' D = some (.lst acc) ∧ Dts F' (((ds.take i).filter f).map v) acc,
      ⟨ds.length, by omega, by omega, F1, [], Ex.refl _, s1.h.mut hF1, Ex.new hD, fun _ _ => Or.inl rfl, hF1, upd_same, by simp [Dts]⟩, ?_⟩
    rintro i m H' ⟨rfl, hile, F', acc, e1, e2, e3, e4, e5, e6, e7⟩
    have Rx : ∀ F'' H'', Ex F1 F'' → Ex F'' H'' → Ex H1 H'' → (∀ b, H1 b ≠ none → Nb F1 F'' b) → Rl c σ F'' H'' env fps := fun F'' H'' a1 a2 a3 a4 => R1.ext ⟨a1, a2, a3, a4⟩
    obtain ⟨hgo, hstop⟩ := w1 i H' F' e1 e2
    by_cases hlt : i < ds.length
    · refine Or.inr ?_
      have hd : ds[i]? = some ds[i] := List.getElem?_eq_getElem hlt
      obtain ⟨g1, g2⟩ := hgo _ hd
      have hnn : H' D ≠ none := by rw [e6]; exact fun z => nomatch z
      refine ⟨g1, fun H'' => ∃ F'' acc, Ex F1 F'' ∧ Ex F'' H'' ∧ Ex H1 H'' ∧ (∀ b, H1 b ≠ none → Nb F1 F'' b) ∧ F'' D = none ∧ H'' D = some (.lst acc) ∧ Dts F'' (((ds.take (i + 1)).filter f).map v) acc, fun H'' hN => ⟨ds.length - (i + 1), by omega, rfl, by omega, hN⟩, fun x H2 hy => ?_⟩
      obtain ⟨F2, s2, hx⟩ := g2 x H2 hy
      have c1 : Ex F1 F2 := e1.trans s2.f
      have c3 : Ex H1 H2 := e3.trans s2.e
      have c4 : ∀ b, H1 b ≠ none → Nb F1 F2 b := fun b hb => (e4 b hb).trans (s2.n b (e3.some hb)) s2.f
      have c6 : H2 D = some (.lst acc) := s2.e _ _ e6
      have c5 : F2 D = none := (s2.n D hnn).none s2.h (fun xs q => by rw [c6] at q; cases q) e5
      obtain ⟨fw, Rw⟩ := (Rx F2 H2 c1 s2.h c3 c4).wipe vs
      obtain ⟨env', hg, ht, he⟩ := hs _ (List.getElem_mem hlt)
      refine hg _ F2 H2 fw x Rw hx _ fun σ2 fps2 R2 hw => ⟨?_, ?_⟩
      · rw [hw vs hj]
        apply List.ext_getElem?
        intro k
        by_cases hk : k < σ.length
        · by_cases m : k ∈ vs
          · rw [wipe_get m (by rw [wipe_length]; exact hk), wipe_get m hk]
          · rw [wipe_out m]
        · rw [List.getElem?_eq_none (by rw [wipe_length, wipe_length]; omega), List.getElem?_eq_none (by rw [wipe_length]; omega)]
      · refine ht σ2 F2 H2 fps2 R2 _ fun F3 H3 s3 => ?_
        have hnn2 : H2 D ≠ none := by rw [c6]; exact fun z => nomatch z
        cases hf : f ds[i] with
        | false =>
          refine ⟨F3, acc, c1.trans s3.f, s3.h, c3.trans s3.e, fun b hb => (c4 b hb).trans (s3.n b (c3.some hb)) s3.f, (s3.n D hnn2).none s3.h (fun xs q => by rw [s3.e _ _ c6] at q; cases q) c5, s3.e _ _ c6, ?_⟩
          rw [List.take_add_one, hd]
          simp only [Option.toList_some, List.filter_append, List.filter_cons, hf, Bool.false_eq_true, ↓reduceIte, List.filter_nil, List.append_nil]
          exact e7.mono (s2.f.trans s3.f)
        | true =>
          refine he hf σ2 F3 H3 fps2 (R2.ext s3) _ fun y F4 H4 s4 hy4 => ?_
          have s34 := s3.trans s4
          have c7 : H4 D = some (.lst acc) := s34.e _ _ c6
          have c8 : F4 D = none := (s34.n D hnn2).none s34.h (fun xs q => by rw [c7] at q; cases q) c5
          have e8 : Dts F4 (((ds.take i).filter f).map v) acc := e7.mono (s2.f.trans s34.f)
          have hla : acc.length ≤ ds.length := by
            rw [e8.length, List.length_map]
            refine Nat.le_trans (List.length_filter_le _ _) ?_
            rw [List.length_take]; omega
          refine ⟨acc, c7, sz_lt (by omega), F4, acc ++ [y], c1.trans s34.f, s34.h.mut c8, (c3.trans s34.e).mut hD, fun b hb => (c4 b hb).trans (s34.n b (c3.some hb)) s34.f, c8, upd_same, ?_⟩
          rw [List.take_add_one, hd]
          simp only [Option.toList_some, List.filter_append, List.filter_cons, hf, ↓reduceIte, List.filter_nil, List.map_append, List.map_cons, List.map_nil]
          exact e8.snoc hy4
    · refine Or.inl ⟨hstop (by omega), ?_⟩
      have ei : i = ds.length := by omega
      subst ei
      rw [List.take_length] at e7
      have eF : Ex F' (upd F' D (.lst acc)) := Ex.new e5
      refine q (.ref D) (upd F' D (.lst acc)) H' (s1.trans ⟨e1.trans eF, fun a o ha => ?_, e3, fun b hb => ?_⟩) ⟨D, acc, rfl, upd_same, e7.mono eF⟩
      · by_cases z : a = D
        · rw [z, upd_same] at ha; rw [z]; cases ha; exact e6
        · rw [upd_ne z] at ha; exact e2 _ _ ha
      · have e : upd F' D (.lst acc) b = F' b := upd_ne (fun z => hb (by rw [z]; exact hD))
        show Nb _ _ _
        unfold Nb
        rw [e]; exact e4 b hb
/-- .. without a test -/
theorem ev_compA {wi : TI} {g : TG} {js vs : List Nat} (hi : EvI c wi env ds) (v : PyData → PyData) (hl : ds.length ≤ 50000) (hj : ∀ j ∈ js, j ∈ vs)
    (hs : ∀ d ∈ ds, ∃ env', EvG c g js d (wipeE env vs) env' ∧ EvE c te env' (v d)) : EvE c (tLc wi g tYes te vs) env (.list (ds.map v)) := by
  have h := ev_comp (te := te) (tt := tYes) (js := js) (vs := vs) (g := g) hi (fun _ => true) v hl hj (fun d hd => by
    obtain ⟨env', h1, h2⟩ := hs d hd
    exact ⟨env', h1, eb_yes, fun _ => h2⟩)
  rw [List.filter_eq_self.mpr (fun _ _ => rfl)] at h
  exact h
end
end Nr
set_option Elab.async false
set_option linter.all false
set_option maxRecDepth 100000
set_option maxHeartbeats 4000000
namespace Nr
open PySem PySem.Spec PyProof.Rows L2

/-! ### with effects -/
def RE (c : Ct) (te : TE) (env : List Sl) (P : PyData → List Sl → Prop) : Prop :=
  ∀ σ F H fps, Rl c σ F H env fps → ∀ Q : VK, (∀ v d F' H' fps' env', Rl c σ F' H' env' fps' → Ex F F' → Dt F' d v → P d env' → Q v H') → te σ H Q
def RT (c : Ct) (tt : TT) (env : List Sl) (P : Bool → List Sl → Prop) : Prop :=
  ∀ σ F H fps, Rl c σ F H env fps → ∀ Q : Bool → Hp → Prop, (∀ b F' H' fps' env', Rl c σ F' H' env' fps' → Ex F F' → P b env' → Q b H') → tt σ H Q
def RA (c : Ct) (ta : TA) (env : List Sl) (P : List PyData → List Sl → Prop) : Prop :=
  ∀ σ F H fps, Rl c σ F H env fps → ∀ Q : List V → Hp → Prop, (∀ vs ds F' H' fps' env', Rl c σ F' H' env' fps' → Ex F F' → Dts F' ds vs → P ds env' → Q vs H') → ta σ H Q
structure De where
  nx : List Sl → Prop
  rt : PyData → List Sl → Prop
  bk : List Sl → Prop := fun _ => False
  ct : List Sl → Prop := fun _ => False
  ro : Nat → List Sl → Prop := fun _ _ => False
structure Acc (c : Ct) (F : Hp) (D : De) (E : Ends) : Prop where
  nx : ∀ σ F' H env fps, Rl c σ F' H env fps → Ex F F' → D.nx env → E.nx σ H
  rt : ∀ σ F' H env fps d v, Rl c σ F' H env fps → Ex F F' → Dt F' d v → D.rt d env → E.rt v H
  bk : ∀ σ F' H env fps, Rl c σ F' H env fps → Ex F F' → D.bk env → E.bk σ H
  ct : ∀ σ F' H env fps, Rl c σ F' H env fps → Ex F F' → D.ct env → E.ct σ H
  ro : ∀ σ F' H env fps i p, Rl c σ F' H env fps → Ex F F' → σ[i]? = some (some (.ref p)) → D.ro i env → E.rt (.ref p) H
def RS (c : Ct) (ts : TS) (D : De) (env : List Sl) : Prop :=
  ∀ σ F H fps, Rl c σ F H env fps → ∀ E : Ends, Acc c F D E → ts E σ H

section
variable {c : Ct} {env env' env2 : List Sl} {ta tb tc te : TE} {t u tt : TT} {ts us : TS} {x y z d e : PyData} {r : R2} {K : PySem.W.Frag} {ds : List PyData} {D : De} {P : PyData → List Sl → Prop}
theorem Acc.mono {F F' : Hp} {E : Ends} (a : Acc c F D E) (e : Ex F F') : Acc c F' D E :=
  ⟨fun σ G H env fps h g => a.nx σ G H env fps h (e.trans g), fun σ G H env fps d v h g => a.rt σ G H env fps d v h (e.trans g), fun σ G H env fps h g => a.bk σ G H env fps h (e.trans g), fun σ G H env fps h g => a.ct σ G H env fps h (e.trans g), fun σ G H env fps i p h g => a.ro σ G H env fps i p h (e.trans g)⟩
theorem re_ev (h : EvE c te env d) (p : P d env) : RE c te env P := fun σ F H fps R Q q => h σ F H fps R Q fun v F1 H1 s1 h1 => q v d F1 H1 fps env (R.ext s1) s1.f h1 p
theorem re_mono {P' : PyData → List Sl → Prop} (h : RE c te env P) (p : ∀ d e, P d e → P' d e) : RE c te env P' := fun σ F H fps R Q q => h σ F H fps R Q fun v d F1 H1 f1 e1 R1 x1 h1 p1 => q v d F1 H1 f1 e1 R1 x1 h1 (p _ _ p1)
theorem re_op (ha : RE c ta env fun x e1 => RE c tb e1 fun y e2 => ∃ z, Rv r x y z ∧ P z e2) : RE c (tOp r ta tb) env P := fun σ F H fps R Q q =>
  ha σ F H fps R _ fun v x F1 H1 f1 e1 R1 x1 h1 p1 => p1 σ F1 H1 f1 R1 _ fun w y F2 H2 f2 e2 R2 x2 h2 p2 => by
    obtain ⟨z, hr, p⟩ := p2
    exact hr F2 H2 v w R2.eH (h1.mono x2) h2 Q fun u F3 H3 s3 h3 => q u z F3 H3 f2 e2 (R2.ext s3) (x1.trans (x2.trans s3.f)) h3 p
theorem ra_nil {P : List PyData → List Sl → Prop} (p : P [] env) : RA c tNil env P := fun σ F H fps R Q q => q [] [] F H fps env R (Ex.refl _) Dts.nil p
theorem ra_cons {tr : TA} {P : List PyData → List Sl → Prop} (h : RE c te env fun d e1 => RA c tr e1 fun ds e2 => P (d :: ds) e2) : RA c (tCons te tr) env P := fun σ F H fps R Q q =>
  h σ F H fps R _ fun v d F1 H1 f1 e1 R1 x1 h1 p1 => p1 σ F1 H1 f1 R1 _ fun vs ds F2 H2 f2 e2 R2 x2 h2 p2 => q (v :: vs) (d :: ds) F2 H2 f2 e2 R2 (x1.trans x2) (Dts.cons (h1.mono x2) h2) p2
theorem ra_ev {ta : TA} {P : List PyData → List Sl → Prop} (h : EvA c ta env ds) (p : P ds env) : RA c ta env P := fun σ F H fps R Q q => h σ F H fps R Q fun vs F1 H1 s1 h1 => q vs ds F1 H1 fps env (R.ext s1) s1.f h1 p
theorem re_tup {ta : TA} (h : RA c ta env fun ds e1 => ds.length ≤ 100000 ∧ P (.tuple ds) e1) : RE c (tTup ta) env P := fun σ F H fps R Q q =>
  h σ F H fps R _ fun vs ds F1 H1 f1 e1 R1 x1 h1 p1 => ⟨by rw [h1.length]; exact sz_le p1.1, fun p hp => q (.ref p) (.tuple ds) (upd F1 p (.tup vs)) (upd H1 p (.tup vs)) f1 e1 (R1.ext (Stp.new R1.eH hp)) (x1.trans (Ex.new (R1.eH.free hp))) ⟨p, vs, rfl, upd_same, h1.mono (Ex.new (R1.eH.free hp))⟩ p1.2⟩
theorem re_lst {ta : TA} (h : RA c ta env fun ds e1 => ds.length ≤ 100000 ∧ P (.list ds) e1) : RE c (tLst ta) env P := fun σ F H fps R Q q =>
  h σ F H fps R _ fun vs ds F1 H1 f1 e1 R1 x1 h1 p1 => ⟨by rw [h1.length]; exact sz_le p1.1, fun p hp => q (.ref p) (.list ds) (upd F1 p (.lst vs)) (upd H1 p (.lst vs)) f1 e1 (R1.ext (Stp.new R1.eH hp)) (x1.trans (Ex.new (R1.eH.free hp))) ⟨p, vs, rfl, upd_same, h1.mono (Ex.new (R1.eH.free hp))⟩ p1.2⟩
theorem re_cb {r : List V → Hp → VK → Prop} {ta : TA} (h : RA c ta env fun ds e1 => ∃ z, Rc r ds z ∧ P z e1) : RE c (tCB r ta) env P := fun σ F H fps R Q q =>
  h σ F H fps R _ fun vs ds F1 H1 f1 e1 R1 x1 h1 p1 => by
    obtain ⟨z, hr, p⟩ := p1
    exact hr F1 H1 vs R1.eH h1 Q fun u F3 H3 s3 h3 => q u z F3 H3 f1 e1 (R1.ext s3) (x1.trans s3.f) h3 p
theorem rt_eb {b : Bool} {P : Bool → List Sl → Prop} (h : EvB c tt env b) (p : P b env) : RT c tt env P := fun σ F H fps R Q q => h σ F H fps R Q fun F1 H1 s1 => q b F1 H1 fps env (R.ext s1) s1.f p
theorem rt_test {P : Bool → List Sl → Prop} (h : RE c te env fun d e1 => ∃ b, d = .bool b ∧ P b e1) : RT c (tTest te) env P := fun σ F H fps R Q q => h σ F H fps R _ fun v d F1 H1 f1 e1 R1 x1 h1 p1 => by
  obtain ⟨b, rfl, p⟩ := p1
  exact ⟨b, h1, q b F1 H1 f1 e1 R1 x1 p⟩
theorem rt_tru {P : Bool → List Sl → Prop} (h : RE c te env fun d e1 => ∃ b, d = .bool b ∧ P b e1) : RT c (fun σ H Q => te σ H fun x H' => ∃ k, TruV K x H' k ∧ Q k H') env P := fun σ F H fps R Q q => h σ F H fps R _ fun v d F1 H1 f1 e1 R1 x1 h1 p1 => by
  obtain ⟨b, rfl, p⟩ := p1
  have h1 : v = .bl b := h1
  subst h1
  exact ⟨b, rfl, q b F1 H1 f1 e1 R1 x1 p⟩
theorem rt_not {P : Bool → List Sl → Prop} (h : RT c tt env fun b e => P (!b) e) : RT c (tNot tt) env P := fun σ F H fps R Q q => h σ F H fps R _ fun b F1 H1 f1 e1 R1 x1 p1 => q (!b) F1 H1 f1 e1 R1 x1 p1
theorem rt_or {P : Bool → List Sl → Prop} (h : RT c t env fun b e => if b = true then P true e else RT c u e P) : RT c (tOr t u) env P := fun σ F H fps R Q q => h σ F H fps R _ fun b F1 H1 f1 e1 R1 x1 p1 => by
  cases b with
  | true => exact q true F1 H1 f1 e1 R1 x1 p1
  | false =>
    have p1 : RT c u e1 P := p1
    exact p1 σ F1 H1 f1 R1 Q fun b F2 H2 f2 e2 R2 x2 p2 => q b F2 H2 f2 e2 R2 (x1.trans x2) p2

/-! ### statements -/
theorem rs_seq (h : RS c ts { D with nx := fun e => RS c us D e } env) : RS c (tSeq ts us) D env := fun σ F H fps R E a =>
  h σ F H fps R { E with nx := us E } ⟨fun σ' F' H' env' fps' R' e' k => k σ' F' H' fps' R' E (a.mono e'), a.rt, a.bk, a.ct, a.ro⟩
theorem rs_next (h : D.nx env) : RS c tNext D env := fun σ F H fps R E a => a.nx σ F H env fps R (Ex.refl _) h
theorem rs_asg {i : Nat} (h : EvE c te env d) (k : D.nx (env.set i (.im d))) : RS c (tAsg te (gName i)) D env := fun σ F H fps R E a =>
  h σ F H fps R _ fun v F1 H1 s1 h1 => a.nx _ F1 H1 _ _ ((R.ext s1).putD i h1) s1.f k
theorem rs_asgG {g : TG} {js : List Nat} (h : EvE c te env d) (hg : EvG c g js d env env') (k : D.nx env') : RS c (tAsg te g) D env := fun σ F H fps R E a =>
  h σ F H fps R _ fun v F1 H1 s1 h1 => hg σ F1 H1 fps v (R.ext s1) h1 _ fun σ' fps' R' _ => a.nx _ F1 H1 _ _ R' s1.f k
theorem rs_asgR {i : Nat} (h : RE c te env fun d e1 => D.nx (e1.set i (.im d))) : RS c (tAsg te (gName i)) D env := fun σ F H fps R E a =>
  h σ F H fps R _ fun v d F1 H1 f1 e1 R1 x1 h1 p1 => a.nx _ F1 H1 _ _ (R1.putD i h1) x1 p1
theorem rs_asgRG {g : TG} (h : RE c te env fun d e1 => ∃ js env', EvG c g js d e1 env' ∧ D.nx env') : RS c (tAsg te g) D env := fun σ F H fps R E a =>
  h σ F H fps R _ fun v d F1 H1 f1 e1 R1 x1 h1 p1 => by
    obtain ⟨js, env', hg, k⟩ := p1
    exact hg σ F1 H1 f1 v R1 h1 _ fun σ' fps' R' _ => a.nx _ F1 H1 _ _ R' x1 k
/-- a new list of one's own -/
theorem rs_asgO {i : Nat} {t : TA} (h : EvA c t env ds) (hl : ds.length ≤ 100000) (k : D.nx (env.set i (.ow (.lst ds)))) : RS c (tAsg (tLst t) (gName i)) D env := fun σ F H fps R E a =>
  h σ F H fps R _ fun vs F1 H1 s1 h1 => ⟨by rw [h1.length]; exact sz_le hl, fun p hp => a.nx _ F1 _ _ _ ((R.ext s1).putO i (o := .lst ds) hp fun F' H' e1 e2 => ⟨rfl, vs, e2, h1.mono e1⟩) s1.f k⟩
theorem rs_asgOR {i : Nat} {t : TA} (h : RA c t env fun ds e1 => ds.length ≤ 100000 ∧ D.nx (e1.set i (.ow (.lst ds)))) : RS c (tAsg (tLst t) (gName i)) D env := fun σ F H fps R E a =>
  h σ F H fps R _ fun vs ds F1 H1 f1 e1 R1 x1 h1 p1 => ⟨by rw [h1.length]; exact sz_le p1.1, fun p hp => a.nx _ F1 _ _ _ (R1.putO i (o := .lst ds) hp fun F' H' e1 e2 => ⟨rfl, vs, e2, h1.mono e1⟩) x1 p1.2⟩
theorem rs_newK {i : Nat} (k : D.nx (env.set i (.ow (.dk [])))) : RS c (tAsg tDNewK (gName i)) D env := fun σ F H fps R E a p hp =>
  a.nx _ F _ _ _ (R.putO i (o := .dk []) hp fun F' H' e1 e2 => ⟨rfl, [], e2, .nil⟩) (Ex.refl _) k
theorem rs_newT {i : Nat} (k : D.nx (env.set i (.ow (.dt [])))) : RS c (tAsg tDNewT (gName i)) D env := fun σ F H fps R E a p hp =>
  a.nx _ F _ _ _ (R.putO i (o := .dt []) hp fun F' H' e1 e2 => ⟨rfl, [], e2, .nil⟩) (Ex.refl _) k
theorem rs_if {b : Bool} (h : EvB c tt env b) (h1 : b = true → RS c ts D env) (h2 : b = false → RS c us D env) : RS c (tIfS tt ts us) D env := fun σ F H fps R E a =>
  h σ F H fps R _ fun F1 H1 s1 => by
    cases b with
    | true => exact h1 rfl σ F1 H1 fps (R.ext s1) E (a.mono s1.f)
    | false => exact h2 rfl σ F1 H1 fps (R.ext s1) E (a.mono s1.f)
theorem rs_ifT (h : EvB c tt env true) (h1 : RS c ts D env) : RS c (tIfS tt ts us) D env := rs_if h (fun _ => h1) (fun q => nomatch q)
theorem rs_ifF (h : EvB c tt env false) (h1 : RS c us D env) : RS c (tIfS tt ts us) D env := rs_if h (fun q => nomatch q) (fun _ => h1)
theorem rs_ifR (h : RT c tt env fun b e1 => (b = true → RS c ts D e1) ∧ (b = false → RS c us D e1)) : RS c (tIfS tt ts us) D env := fun σ F H fps R E a =>
  h σ F H fps R _ fun b F1 H1 f1 e1 R1 x1 p1 => by
    cases b with
    | true => exact p1.1 rfl σ F1 H1 f1 R1 E (a.mono x1)
    | false => exact p1.2 rfl σ F1 H1 f1 R1 E (a.mono x1)
theorem rs_ret (h : EvE c te env d) (k : D.rt d env) : RS c (tRet te) D env := fun σ F H fps R E a => h σ F H fps R _ fun v F1 H1 s1 h1 => a.rt σ F1 H1 env fps d v (R.ext s1) s1.f h1 k
theorem rs_retR (h : RE c te env fun d e1 => D.rt d e1) : RS c (tRet te) D env := fun σ F H fps R E a => h σ F H fps R _ fun v d F1 H1 f1 e1 R1 x1 h1 p1 => a.rt σ F1 H1 e1 f1 d v R1 x1 h1 p1
theorem rs_drop (h : EvE c te env d) (k : D.nx env) : RS c (tDrop te) D env := fun σ F H fps R E a => h σ F H fps R _ fun v F1 H1 s1 h1 => a.nx σ F1 H1 env fps (R.ext s1) s1.f k
theorem rs_dropR (h : RE c te env fun _ e1 => D.nx e1) : RS c (tDrop te) D env := fun σ F H fps R E a => h σ F H fps R _ fun v d F1 H1 f1 e1 R1 x1 h1 p1 => a.nx σ F1 H1 e1 f1 R1 x1 p1
/-- the slot's thing with another content -/
def reO : Sl → Ow → Sl
  | .ow _, o => .ow o
  | .bo p _, o => .bo p o
  | s, _ => s
theorem Rl.mutL {σ : L2.St} {F H : Hp} {fps : List (List Addr)} {i : Nat} {s : Sl} {ds es : List PyData} {p : Addr} {ys : List V} (R : Rl c σ F H env fps) (h : env[i]? = some s) (ho : Nr.ownL s = some ds) (hp : σ[i]? = some (some (.ref p))) (hf : fps[i]? = some [p]) (g : Dts F es ys) :
    Rl c σ F (upd H p (.lst ys)) (env.set i (reO s (.lst es))) fps := by
  refine R.mutO h hf fun v k => ?_
  cases s with
  | no => cases ho
  | im d => cases ho
  | ow o =>
    obtain ⟨q, h1, h2, h3⟩ := k
    cases o with
    | lst ds' => obtain ⟨h4, _⟩ := h2; cases h4; exact ⟨_, h1, ⟨rfl, ys, upd_same, g⟩, h3⟩
    | dk _ => cases ho
    | dt _ => cases ho
    | pl _ _ => cases ho
    | pf _ _ => cases ho
  | bo q o =>
    obtain ⟨h1, h2⟩ := k
    cases o with
    | lst ds' => obtain ⟨h4, _⟩ := h2; cases h4; exact ⟨h1, rfl, ys, upd_same, g⟩
    | dk _ => cases ho
    | dt _ => cases ho
    | pl _ _ => cases ho
    | pf _ _ => cases ho
theorem Rl.mutK {σ : L2.St} {F H : Hp} {fps : List (List Addr)} {i : Nat} {s : Sl} {ds es : List (Key × PyData)} {p : Addr} {ys : List (Key × V)} (R : Rl c σ F H env fps) (h : env[i]? = some s) (ho : Nr.ownK s = some ds) (hp : σ[i]? = some (some (.ref p))) (hf : fps[i]? = some [p]) (g : Dkv F es ys) :
    Rl c σ F (upd H p (.dK ys)) (env.set i (reO s (.dk es))) fps := by
  refine R.mutO h hf fun v k => ?_
  cases s with
  | no => cases ho
  | im d => cases ho
  | ow o =>
    obtain ⟨q, h1, h2, h3⟩ := k
    cases o with
    | dk ds' => obtain ⟨h4, _⟩ := h2; cases h4; exact ⟨_, h1, ⟨rfl, ys, upd_same, g⟩, h3⟩
    | lst _ => cases ho
    | dt _ => cases ho
    | pl _ _ => cases ho
    | pf _ _ => cases ho
  | bo q o =>
    obtain ⟨h1, h2⟩ := k
    cases o with
    | dk ds' => obtain ⟨h4, _⟩ := h2; cases h4; exact ⟨h1, rfl, ys, upd_same, g⟩
    | lst _ => cases ho
    | dt _ => cases ho
    | pl _ _ => cases ho
    | pf _ _ => cases ho
theorem Rl.mutT {σ : L2.St} {F H : Hp} {fps : List (List Addr)} {i : Nat} {s : Sl} {ds es : List (List Key × PyData)} {p : Addr} {ys : List (List Key × V)} (R : Rl c σ F H env fps) (h : env[i]? = some s) (ho : Nr.ownT s = some ds) (hp : σ[i]? = some (some (.ref p))) (hf : fps[i]? = some [p]) (g : Dkv F es ys) :
    Rl c σ F (upd H p (.dT ys)) (env.set i (reO s (.dt es))) fps := by
  refine R.mutO h hf fun v k => ?_
  cases s with
  | no => cases ho
  | im d => cases ho
  | ow o =>
    obtain ⟨q, h1, h2, h3⟩ := k
    cases o with
    | dt ds' => obtain ⟨h4, _⟩ := h2; cases h4; exact ⟨_, h1, ⟨rfl, ys, upd_same, g⟩, h3⟩
    | lst _ => cases ho
    | dk _ => cases ho
    | pl _ _ => cases ho
    | pf _ _ => cases ho
  | bo q o =>
    obtain ⟨h1, h2⟩ := k
    cases o with
    | dt ds' => obtain ⟨h4, _⟩ := h2; cases h4; exact ⟨h1, rfl, ys, upd_same, g⟩
    | lst _ => cases ho
    | dk _ => cases ho
    | pl _ _ => cases ho
    | pf _ _ => cases ho
/-- append -/
theorem rs_appR {i : Nat} {s : Sl} (h : env[i]? = some s) (hs : (ownL s).isSome = true) (hv : RE c te env fun d e1 => ∃ s1 ds, e1[i]? = some s1 ∧ ownL s1 = some ds ∧ ds.length < 100000 ∧ D.nx (e1.set i (reO s1 (.lst (ds ++ [d]))))) : RS c (tDrop (tBM K "list" rAppend (tVar i) (tCons te tNil))) D env := fun σ F H fps R E a => by
  obtain ⟨ds0, ho⟩ := Option.isSome_iff_exists.mp hs
  obtain ⟨p, xs, h1, h2, h3, h4⟩ := R.ownL h ho
  refine ⟨_, h1, Or.inl ⟨rfl, _, SqL.of h3⟩, hv σ F H fps R _ fun v d F1 H1 f1 e1 R1 x1 g1 p1 => ?_⟩
  obtain ⟨s1, ds, k1, k2, k3, k4⟩ := p1
  obtain ⟨q, ys, m1, m2, m3, m4⟩ := R1.ownL k1 k2
  rw [h1] at m1
  cases m1
  exact ⟨p, ys, v, rfl, rfl, m3, by rw [m4.length]; exact sz_lt k3, a.nx _ F1 _ _ _ (R1.mutL k1 k2 h1 m2 (m4.snoc g1)) x1 k4⟩
theorem rs_app {i : Nat} {s : Sl} (h : env[i]? = some s) (ho : ownL s = some ds) (hv : EvE c te env d) (hl : ds.length < 100000) (k : D.nx (env.set i (reO s (.lst (ds ++ [d]))))) : RS c (tDrop (tBM K "list" rAppend (tVar i) (tCons te tNil))) D env :=
  rs_appR h (by rw [ho]; rfl) (re_ev hv ⟨s, ds, h, ho, hl, k⟩)
/-- own[j] = e -/
theorem rs_setR {i : Nat} {ti : TE} (hv : RE c te env fun d e1 => RE c ti e1 fun j e2 => ∃ s1 ds k n, e2[i]? = some s1 ∧ ownL s1 = some ds ∧ j = .int k ∧ ixN ds.length k = some n ∧ D.nx (e2.set i (reO s1 (.lst (ds.set n d)))))
    (hσ : ∃ s ds, env[i]? = some s ∧ ownL s = some ds) (hs : ∀ e, RE c te env e → True) : RS c (tAsg te (gSub (tVar i) ti rSetL)) D env := fun σ F H fps R E a => by
  obtain ⟨s0, ds0, h, ho⟩ := hσ
  obtain ⟨p, xs, h1, _, _, _⟩ := R.ownL h ho
  refine hv σ F H fps R _ fun v d F1 H1 f1 e1 R1 x1 g1 p1 => ⟨_, h1, p1 σ F1 H1 f1 R1 _ fun w j F2 H2 f2 e2 R2 x2 g2 p2 => ?_⟩
  obtain ⟨s1, ds, k, n, k1, k2, rfl, k3, k4⟩ := p2
  obtain ⟨q, ys, m1, m2, m3, m4⟩ := R2.ownL k1 k2
  rw [h1] at m1
  cases m1
  have g2 : w = .int k := g2
  subst g2
  exact ⟨p, ys, k, n, rfl, rfl, m3, by rw [m4.length]; exact k3, a.nx _ F2 _ _ _ (R2.mutL k1 k2 h1 m2 (Dts.set (g1.mono x2) n m4)) (x1.trans x2) k4⟩
theorem rs_set {i : Nat} {ti : TE} {s : Sl} {k : Int} {n : Nat} (h : env[i]? = some s) (ho : ownL s = some ds) (hv : EvE c te env d) (hi : EvE c ti env (.int k)) (hk : ixN ds.length k = some n) (q : D.nx (env.set i (reO s (.lst (ds.set n d))))) : RS c (tAsg te (gSub (tVar i) ti rSetL)) D env :=
  rs_setR (re_ev hv (re_ev hi ⟨s, ds, k, n, h, ho, rfl, hk, q⟩)) ⟨s, ds, h, ho⟩ fun _ _ => trivial
/-- d[k] = e -/
theorem rs_dputK {i : Nat} {s : Sl} {kvs : List (Key × PyData)} {k : Key} (h : env[i]? = some s) (ho : ownK s = some kvs) (hv : EvE c te env d) (hk : EvE c ta env (kD k)) (hl : kvs.length < 100000) (q : D.nx (env.set i (reO s (.dk (putD kvs k d))))) : RS c (sDPut (tVar i) ta te) D env := fun σ F H fps R E a =>
  hv σ F H fps R _ fun v F1 H1 s1 g1 => by
    obtain ⟨p, xs, h1, h2, h3, h4⟩ := (R.ext s1).ownK h ho
    refine ⟨_, h1, hk σ F1 H1 fps (R.ext s1) _ fun w F2 H2 s2 g2 => ?_⟩
    refine ⟨p, upd H2 p (.dK (putK xs k v)), rfl, ?_, a.nx _ F2 _ _ _ ((R.ext (s1.trans s2)).mutK h ho h1 h2 ((h4.mono s2.f).put k (g1.mono s2.f))) (s1.f.trans s2.f) q⟩
    rw [kD_v g2]
    exact DPut.k (s2.e _ _ h3) (by rw [h4.len]; exact sz_lt hl)
theorem rs_dputT {i : Nat} {s : Sl} {kvs : List (List Key × PyData)} {k : List Key} (h : env[i]? = some s) (ho : ownT s = some kvs) (hv : EvE c te env d) (hk : EvE c ta env (.tuple (k.map kD))) (hl : kvs.length < 100000) (q : D.nx (env.set i (reO s (.dt (putD kvs k d))))) : RS c (sDPut (tVar i) ta te) D env := fun σ F H fps R E a =>
  hv σ F H fps R _ fun v F1 H1 s1 g1 => by
    obtain ⟨p, xs, h1, h2, h3, h4⟩ := (R.ext s1).ownT h ho
    refine ⟨_, h1, hk σ F1 H1 fps (R.ext s1) _ fun w F2 H2 s2 g2 => ?_⟩
    obtain ⟨b, ys, rfl, g3, g4⟩ := g2
    rw [kDs_v g4] at g3
    refine ⟨p, upd H2 p (.dT (putK xs k v)), rfl, ?_, a.nx _ F2 _ _ _ ((R.ext (s1.trans s2)).mutT h ho h1 h2 ((h4.mono s2.f).put k (g1.mono s2.f))) (s1.f.trans s2.f) q⟩
    exact DPut.t (s2.e _ _ h3) (s2.h _ _ g3) (by rw [h4.len]; exact sz_lt hl)
/-- a list of one's own is done: a datum from here on -/
theorem rs_frz {i : Nat} (h : env[i]? = some (.ow (.lst ds))) (k : RS c ts D (env.set i (.im (.list ds)))) : RS c ts D env := fun σ F H fps R E a => by
  obtain ⟨F', fps', R', e⟩ := R.frz (d := .list ds) h fun p fp ho => by
    obtain ⟨rfl, xs, h1, h2⟩ := ho
    exact ⟨_, rfl, h1, fun F' e q => ⟨p, xs, rfl, q, h2.mono e⟩⟩
  exact k σ F' H fps' R' E (a.mono e)
/-- own list += a list -/
theorem rs_ext {i : Nat} {s : Sl} {es : List PyData} (h : env[i]? = some s) (ho : ownL s = some ds) (hv : EvE c te env (.list es)) (hl : ds.length + es.length ≤ 100000) (k : D.nx (env.set i (reO s (.lst (ds ++ es))))) : RS c (tAug i te L2.rExt2) D env := fun σ F H fps R E a => by
  obtain ⟨p, xs, h1, h2, h3, h4⟩ := R.ownL h ho
  refine ⟨_, h1, hv σ F H fps R _ fun w F1 H1 s1 g1 => ?_⟩
  obtain ⟨b, ys, rfl, g3, g4⟩ := g1
  refine ⟨p, b, xs, ys, rfl, rfl, s1.e _ _ h3, s1.h _ _ g3, by rw [h4.length, g4.length]; exact sz_le hl, ?_⟩
  have e0 : σ.set i (some (.ref p)) = σ := set_self h1
  show E.nx (σ.set i (some (.ref p))) _
  rw [e0]
  exact a.nx _ F1 _ _ _ ((R.ext s1).mutL h ho h1 h2 ((h4.mono s1.f).app g4)) s1.f k
/-- the thing of one's own at i is returned -/
theorem rs_retO {i : Nat} {s : Sl} {o : Ow} (h : env[i]? = some s) (ho : (match s with | .ow o => some o | .bo _ o => some o | _ => none) = some o) (k : D.ro i env) : RS c (tRet (tVar i)) D env := fun σ F H fps R E a => by
  obtain ⟨v, fp, h1, h2, h3⟩ := R.sl.get h
  have e : ∃ p, v = some (.ref p) := by
    cases s with
    | no => cases ho
    | im d => cases ho
    | ow o0 => obtain ⟨p, q, _⟩ := h3; exact ⟨p, q⟩
    | bo p o0 => exact ⟨p, h3.1⟩
  obtain ⟨p, rfl⟩ := e
  exact ⟨_, h1, a.ro σ F H env fps i p R (Ex.refl _) h1 k⟩
/-- a, b = x, y -/
theorem rs_par {i j : Nat} {t : TA} (h : EvA c t env [x, y]) (k : D.nx ((env.set i (.im x)).set j (.im y))) : RS c (tPar i j t) D env := fun σ F H fps R E a =>
  h σ F H fps R _ fun vs F1 H1 s1 h1 => by
    obtain ⟨v, _, rfl, h2, w, _, rfl, h3, rfl⟩ := h1
    exact ⟨v, w, rfl, a.nx _ F1 H1 _ _ (((R.ext s1).putD i h2).putD j h3) s1.f k⟩
/-- for -/
theorem rs_for {wi : TI} {g : TG} {tb : TS} (hi : EvI c wi env ds) (I : Nat → List Sl → Prop) (h0 : I 0 env)
    (hs : ∀ (i : Nat) d env1, ds[i]? = some d → I i env1 → ∃ js env2, EvG c g js d env1 env2 ∧ RS c tb { D with nx := I (i + 1), ct := I (i + 1), bk := D.nx } env2) (hd : ∀ env1, I ds.length env1 → D.nx env1) : RS c (tFor wi g tb) D env := fun σ F H fps R E a =>
  hi σ F H fps R _ fun J F1 H1 s1 w1 => by
    refine ⟨fun i m σ' H' => m = ds.length - i ∧ i ≤ ds.length ∧ ∃ F' env' fps', Rl c σ' F' H' env' fps' ∧ Ex F1 F' ∧ I i env', ⟨_, rfl, by omega, F1, env, fps, R.ext s1, Ex.refl _, h0⟩, ?_⟩
    rintro i m σ' H' ⟨rfl, hile, F', env1, fps', R1, e1, hI⟩
    obtain ⟨hgo, hstop⟩ := w1 i H' F' e1 R1.eH
    by_cases hlt : i < ds.length
    · refine Or.inr ?_
      have hdd : ds[i]? = some ds[i] := List.getElem?_eq_getElem hlt
      obtain ⟨g1, g2⟩ := hgo _ hdd
      refine ⟨g1, fun σ2 H2 => ∃ F2 env2 fps2, Rl c σ2 F2 H2 env2 fps2 ∧ Ex F1 F2 ∧ I (i + 1) env2, fun σ2 H2 hN => ⟨ds.length - (i + 1), by omega, rfl, by omega, hN⟩, fun x H2 hy => ?_⟩
      obtain ⟨F2, s2, hx⟩ := g2 x H2 hy
      obtain ⟨js, env2, hg, hb⟩ := hs i _ env1 hdd hI
      have z1 : Ex F F2 := s1.f.trans (e1.trans s2.f)
      refine hg σ' F2 H2 fps' x (R1.ext s2) hx _ fun σ2 fps2 R2 _ => hb σ2 F2 H2 fps2 R2 _ ⟨fun σ3 F3 H3 env3 fps3 R3 x3 k3 => ⟨F3, env3, fps3, R3, (e1.trans s2.f).trans x3, k3⟩, fun σ3 F3 H3 env3 fps3 d v R3 x3 => a.rt σ3 F3 H3 env3 fps3 d v R3 (z1.trans x3), fun σ3 F3 H3 env3 fps3 R3 x3 => a.nx σ3 F3 H3 env3 fps3 R3 (z1.trans x3), fun σ3 F3 H3 env3 fps3 R3 x3 k3 => ⟨F3, env3, fps3, R3, (e1.trans s2.f).trans x3, k3⟩, fun σ3 F3 H3 env3 fps3 i p R3 x3 => a.ro σ3 F3 H3 env3 fps3 i p R3 (z1.trans x3)⟩
    · have ei : i = ds.length := by omega
      subst ei
      exact Or.inl ⟨hstop rfl, a.nx σ' F' H' env1 fps' R1 (s1.f.trans e1) (hd env1 hI)⟩
/-- while: an invariant with a measure -/
theorem rs_while {tb : TS} (W : Nat → List Sl → Prop) {m0 : Nat} (h0 : W m0 env)
    (hs : ∀ m env1, W m env1 → RT c tt env1 fun b e1 => (b = true → RS c tb { D with nx := fun e => ∃ m', m' < m ∧ W m' e, ct := fun e => ∃ m', m' < m ∧ W m' e, bk := D.nx } e1) ∧ (b = false → D.nx e1)) : RS c (tWhile tt tb) D env := fun σ F H fps R E a => by
  refine ⟨fun m σ' H' => ∃ F' env' fps', Rl c σ' F' H' env' fps' ∧ Ex F F' ∧ W m env', ⟨m0, F, env, fps, R, Ex.refl _, h0⟩, ?_⟩
  rintro m σ' H' ⟨F', env', fps', R', e', hW⟩
  refine hs m env' hW σ' F' H' fps' R' _ fun b F1 H1 f1 e1 R1 x1 p1 => ?_
  cases b with
  | true =>
    refine ⟨fun σ2 H2 => ∃ m', m' < m ∧ ∃ F' env' fps', Rl c σ2 F' H2 env' fps' ∧ Ex F F' ∧ W m' env', fun σ2 H2 h => h, p1.1 rfl σ' F1 H1 f1 R1 _ ⟨?_, ?_, ?_, ?_, ?_⟩⟩
    · rintro σ3 F3 H3 env3 fps3 R3 x3 ⟨m', hm, k3⟩
      exact ⟨m', hm, F3, env3, fps3, R3, e'.trans (x1.trans x3), k3⟩
    · intro σ3 F3 H3 env3 fps3 d v R3 x3
      exact a.rt σ3 F3 H3 env3 fps3 d v R3 (e'.trans (x1.trans x3))
    · intro σ3 F3 H3 env3 fps3 R3 x3
      exact a.nx σ3 F3 H3 env3 fps3 R3 (e'.trans (x1.trans x3))
    · rintro σ3 F3 H3 env3 fps3 R3 x3 ⟨m', hm, k3⟩
      exact ⟨m', hm, F3, env3, fps3, R3, e'.trans (x1.trans x3), k3⟩
    · intro σ3 F3 H3 env3 fps3 i p R3 x3
      exact a.ro σ3 F3 H3 env3 fps3 i p R3 (e'.trans (x1.trans x3))
  | false => exact a.nx σ' F1 H1 e1 f1 R1 (e'.trans x1) (p1.2 rfl)
end
end Nr
set_option Elab.async false
set_option linter.all false
set_option maxRecDepth 100000
set_option maxHeartbeats 4000000
namespace Nr
open PySem PySem.Spec PyProof.Rows L2

/-! ### promises -/
/-- a def of data alone -/
def PF (R : List PyData → (PyData → Prop) → Prop) : Sp := fun vs H Q _ => ∃ F ds Post, Ex F H ∧ Dts F ds vs ∧ R ds Post ∧ ∀ d v F' H', Post d → Stp H F H' F' → Dt F' d v → Q v H'
/-- .. that may raise the class at T -/
def PX (T : Addr) (R : List PyData → (PyData → Prop) → Prop → Prop) : Sp := fun vs H Q E => ∃ F ds Post X, Ex F H ∧ Dts F ds vs ∧ R ds Post X ∧ (∀ d v F' H', Post d → Stp H F H' F' → Dt F' d v → Q v H') ∧ ∀ F' H', X → Stp H F H' F' → E (.ref T) none H'
/-- .. that changes things of the caller's -/
def PO (C : Addr) (R : List Sl → (PyData → List Sl → Prop) → Prop) : Sp := fun vs H Q _ => ∃ B F bs env fps Post, Rl ⟨C, B, H, F, bs⟩ (vs.map some) F H env fps ∧ R env Post ∧
  ∀ d env' v F' H' fps', Post d env' → Rl ⟨C, B, H, F, bs⟩ (vs.map some) F' H' env' fps' → Dt F' d v → Q v H'

/-- .. that makes a dict with tuple keys -/
def PD (R : List PyData → (List (List Key × PyData) → Prop) → Prop) : Sp := fun vs H Q _ => ∃ F ds Post, Ex F H ∧ Dts F ds vs ∧ R ds Post ∧ ∀ kvs p ws F' H', Post kvs → Stp H F H' F' → H p = none → F' p = none → H' p = some (.dT ws) → Dkv F' kvs ws → Q (.ref p) H'
theorem sls_im {c : Ct} {F H : Hp} : ∀ {ds : List PyData} {vs : List V}, Dts F ds vs → Sls c F H (vs.map some) (ds.map .im) (ds.map fun _ => [])
  | [], vs, h => by
    have h : vs = [] := h
    subst h
    exact .nil
  | d :: ds, vs, h => by
    obtain ⟨y, ys, rfl, h1, h2⟩ := h
    exact .cons ⟨rfl, y, rfl, h1⟩ (sls_im h2)
theorem sls_no {c : Ct} {F H : Hp} : ∀ n : Nat, Sls c F H (List.replicate n none) (List.replicate n .no) (List.replicate n [])
  | 0 => .nil
  | n + 1 => .cons rfl (sls_no n)
theorem Sls.app {c : Ct} {F H : Hp} {σ σ' : List (Option V)} {env env' : List Sl} {fps fps' : List (List Addr)} (h : Sls c F H σ env fps) (g : Sls c F H σ' env' fps') : Sls c F H (σ ++ σ') (env ++ env') (fps ++ fps') := by
  induction h with
  | nil => exact g
  | cons h1 _ ih => exact .cons h1 ih
theorem rep_nil {α : Type} {n i : Nat} {x : α} {l : List α} (h : (List.replicate n l)[i]? = some [x]) : False ∨ l = [x] := by
  rw [List.getElem?_replicate] at h
  split at h
  · exact Or.inr (Option.some.inj h)
  · cases h
theorem all_nil {α β : Type} {ds : List β} {n i : Nat} {fp : List α} (h : (ds.map (fun _ => ([] : List α)) ++ List.replicate n [])[i]? = some fp) : fp = [] := by
  have m := List.mem_of_getElem? h
  rcases List.mem_append.mp m with q | q
  · obtain ⟨_, _, q⟩ := List.mem_map.mp q; exact q.symm
  · exact (List.mem_replicate.mp q).2
section
variable {P : Program} {w : World} {K : PySem.W.Frag} {mg : Str → Option Value} {base : Heap}
theorem rl_im {C : Addr} {F H : Hp} {ds : List PyData} {vs : List V} (e : Ex F H) (h : Dts F ds vs) (n : Nat) : Rl ⟨C, H, H, F, []⟩ (vs.map some ++ List.replicate n none) F H (ds.map .im ++ List.replicate n .no) (ds.map (fun _ => []) ++ List.replicate n []) :=
  ⟨Ex.refl _, Ex.refl _, e, fun _ _ => Or.inl rfl, fun _ h => h, (sls_im h).app (sls_no n), fun i j fi fj b h1 h2 h3 _ => by
    rw [all_nil h1] at h3
    exact absurd h3 (by simp), fun fp hf b hb => by
    obtain ⟨i, hi⟩ := List.mem_iff_getElem?.mp hf
    rw [all_nil hi] at hb
    exact absurd hb (by simp)⟩
theorem start_eq {N : List Str} {vs : List V} : start N vs = vs.map some ++ List.replicate (N.length - vs.length) none := rfl
/-- THE RULE for a def of data alone -/
theorem fn_pure {C : Addr} {x qual : Str} {st : Stmt} {f : Addr} {fd : FuncData} {N ps : List Str} {k : Nat} {R : List PyData → (PyData → Prop) → Prop} (F : Fun K x qual st f fd) (S : FnScope N ps (defScope st)) (len : ∀ ds Post, R ds Post → ds.length = ps.length)
    (hbody : ∀ (cdv : Value) (A : Around) (outer : List Env) (s : Shared) (H : Hp) (E : XK), Room k (A.deeper (envOfC qual (defScope st) s.heap.objs.size f cdv)) →
      ∃ t, PSs (cxOf CX0 P w K mg base N qual (defScope st) f cdv A outer s H E).nox (defBody st) t ∧ ∀ c ds Post, c.C = C → R ds Post → RS c t { nx := fun _ => Post .none, rt := fun d _ => Post d } (ds.map .im ++ List.replicate (N.length - ps.length) .no)) : FnOk P w K mg base CX0 (k + 1) f fd ps (PF R) := by
  refine F.ok S (fun vs H Q E h => ?_) fun cdv A outer s H vs Q E hr h => ?_
  · obtain ⟨F0, ds, Post, _, h1, h2, _⟩ := h
    rw [h1.length]; exact len ds Post h2
  · obtain ⟨F0, ds, Post, e, h1, h2, q⟩ := h
    obtain ⟨t, ht, hb⟩ := hbody cdv A outer s H E hr
    refine ⟨t, ht, ?_⟩
    have hl : vs.length = ps.length := by rw [h1.length]; exact len ds Post h2
    have R0 := rl_im (C := C) e h1 (N.length - ps.length)
    rw [start_eq, hl]
    refine hb _ ds Post rfl h2 _ F0 H _ R0 _ ⟨fun σ F' H' env fps R' _ k => q .none .non F' H' k ⟨R'.eF, R'.eH, R'.eB, R'.nw⟩ rfl, fun σ F' H' env fps d v R' _ hd k => q d v F' H' k ⟨R'.eF, R'.eH, R'.eB, R'.nw⟩ hd, fun _ _ _ _ _ _ _ z => z.elim, fun _ _ _ _ _ _ _ z => z.elim, fun _ _ _ _ _ _ _ _ _ _ z => z.elim⟩
/-- .. that may raise -/
theorem fn_rais {C T : Addr} {x qual : Str} {st : Stmt} {f : Addr} {fd : FuncData} {N ps : List Str} {k : Nat} {R : List PyData → (PyData → Prop) → Prop → Prop} (F : Fun K x qual st f fd) (S : FnScope N ps (defScope st)) (len : ∀ ds Post X, R ds Post X → ds.length = ps.length)
    (hbody : ∀ (cdv : Value) (A : Around) (outer : List Env) (s : Shared) (H : Hp) (E : XK), Room k (A.deeper (envOfC qual (defScope st) s.heap.objs.size f cdv)) →
      ∃ t, PSs (cxOf (L2.CX P w) P w K mg base N qual (defScope st) f cdv A outer s H E) (defBody st) t ∧ ∀ c ds Post X, c.C = C → c.B = H → c.H_0 = H → R ds Post X → (∀ F' H', X → Stp H c.F_0 H' F' → E (.ref T) none H') → RS c t { nx := fun _ => Post .none, rt := fun d _ => Post d } (ds.map .im ++ List.replicate (N.length - ps.length) .no)) : FnOk P w K mg base (L2.CX P w) (k + 1) f fd ps (PX T R) := by
  refine F.okX S (fun vs H Q E h => ?_) fun cdv A outer s H vs Q E hr h => ?_
  · obtain ⟨F0, ds, Post, X, _, h1, h2, _⟩ := h
    rw [h1.length]; exact len ds Post X h2
  · obtain ⟨F0, ds, Post, X, e, h1, h2, q, qx⟩ := h
    obtain ⟨t, ht, hb⟩ := hbody cdv A outer s H E hr
    refine ⟨t, ht, ?_⟩
    have hl : vs.length = ps.length := by rw [h1.length]; exact len ds Post X h2
    have R0 := rl_im (C := C) e h1 (N.length - ps.length)
    rw [start_eq, hl]
    refine hb ⟨C, H, H, F0, []⟩ ds Post X rfl rfl rfl h2 qx _ F0 H _ R0 _ ⟨fun σ F' H' env fps R' _ k => q .none .non F' H' k ⟨R'.eF, R'.eH, R'.eB, R'.nw⟩ rfl, fun σ F' H' env fps d v R' _ hd k => q d v F' H' k ⟨R'.eF, R'.eH, R'.eB, R'.nw⟩ hd, fun _ _ _ _ _ _ _ z => z.elim, fun _ _ _ _ _ _ _ z => z.elim, fun _ _ _ _ _ _ _ _ _ _ z => z.elim⟩
/-- .. that returns the dict at slot i -/
theorem fn_dict {C : Addr} {x qual : Str} {st : Stmt} {f : Addr} {fd : FuncData} {N ps : List Str} {k : Nat} {R : List PyData → (List (List Key × PyData) → Prop) → Prop} (F : Fun K x qual st f fd) (S : FnScope N ps (defScope st)) (len : ∀ ds Post, R ds Post → ds.length = ps.length)
    (hbody : ∀ (cdv : Value) (A : Around) (outer : List Env) (s : Shared) (H : Hp) (E : XK), Room k (A.deeper (envOfC qual (defScope st) s.heap.objs.size f cdv)) →
      ∃ t, PSs (cxOf CX0 P w K mg base N qual (defScope st) f cdv A outer s H E).nox (defBody st) t ∧ ∀ c ds Post, c.C = C → R ds Post → RS c t { nx := fun _ => False, rt := fun _ _ => False, ro := fun i e => ∃ kvs, e[i]? = some (.ow (.dt kvs)) ∧ Post kvs } (ds.map .im ++ List.replicate (N.length - ps.length) .no)) : FnOk P w K mg base CX0 (k + 1) f fd ps (PD R) := by
  refine F.ok S (fun vs H Q E h => ?_) fun cdv A outer s H vs Q E hr h => ?_
  · obtain ⟨F0, ds, Post, _, h1, h2, _⟩ := h
    rw [h1.length]; exact len ds Post h2
  · obtain ⟨F0, ds, Post, e, h1, h2, q⟩ := h
    obtain ⟨t, ht, hb⟩ := hbody cdv A outer s H E hr
    refine ⟨t, ht, ?_⟩
    have hl : vs.length = ps.length := by rw [h1.length]; exact len ds Post h2
    have R0 := rl_im (C := C) e h1 (N.length - ps.length)
    rw [start_eq, hl]
    refine hb _ ds Post rfl h2 _ F0 H _ R0 _ ⟨fun _ _ _ _ _ _ _ z => z.elim, fun _ _ _ _ _ _ _ _ _ _ z => z.elim, fun _ _ _ _ _ _ _ z => z.elim, fun _ _ _ _ _ _ _ z => z.elim, fun σ F' H' env fps i p R' _ hs z => ?_⟩
    obtain ⟨kvs, h3, h4⟩ := z
    obtain ⟨v, fp, h5, h6, p', h7, h8, h9⟩ := R'.sl.get h3
    rw [hs] at h5; cases h5
    cases h7
    obtain ⟨rfl, ws, h10, h11⟩ := h8
    exact q kvs p ws F' H' h4 ⟨R'.eF, R'.eH, R'.eB, R'.nw⟩ (h9 p (by simp)) (R'.ff [p] (List.mem_of_getElem? h6) p (by simp)).1 h10 h11
/-- what a caller sees of the slots -/
def proj : Nat → List Sl → List Sl
  | 0, _ => []
  | _ + 1, [] => []
  | n + 1, .bo p o :: r => .bo p o :: proj n r
  | n + 1, _ :: r => .no :: proj n r
/-- the borrowed things stand where they stood -/
def sbo : Nat → List Sl → List Sl → Prop
  | 0, _, _ => True
  | n + 1, e :: r, .bo p _ :: r' => (∃ o, e = .bo p o) ∧ sbo n r r'
  | n + 1, _ :: r, _ :: r' => sbo n r r'
  | _ + 1, _, _ => False
theorem sls_proj {c : Ct} {F H F0 H0 : Hp} : ∀ {n : Nat} {σ σ0 : List (Option V)} {env env0 : List Sl} {fps fps0 : List (List Addr)}, Sls c F0 H0 σ0 env0 fps0 → σ0.length = n → Sls c F H σ env fps → sbo n env0 env →
    ∃ fps', Sls c F H σ0 (proj n env) fps' ∧ fps'.length = n ∧ ∀ (i : Nat) f, fps'[i]? = some f → f = [] ∨ fps[i]? = some f := by
  intro n
  induction n with
  | zero =>
    intro σ σ0 env env0 fps fps0 h0 hl h hb
    cases h0 with
    | nil => exact ⟨[], .nil, rfl, fun i f h => by simp at h⟩
    | cons => simp at hl
  | succ n ih =>
    intro σ σ0 env env0 fps fps0 h0 hl h hb
    cases h0 with
    | nil => simp at hl
    | @cons v0 s0 fp0 σ0 env0 fps0 g0 h0 =>
      cases h with
      | nil => exact hb.elim
      | @cons v s fp σ env fps g h =>
        have hl' : σ0.length = n := by simpa using hl
        cases s with
        | no =>
          obtain ⟨fps', k1, k2, k3⟩ := ih h0 hl' h hb
          exact ⟨[] :: fps', .cons rfl k1, by simp [k2], fun i f z => by
            cases i with
            | zero => left; simpa using z.symm
            | succ i => exact k3 i f (by simpa using z)⟩
        | im d =>
          obtain ⟨fps', k1, k2, k3⟩ := ih h0 hl' h hb
          exact ⟨[] :: fps', .cons rfl k1, by simp [k2], fun i f z => by
            cases i with
            | zero => left; simpa using z.symm
            | succ i => exact k3 i f (by simpa using z)⟩
        | ow o =>
          obtain ⟨fps', k1, k2, k3⟩ := ih h0 hl' h hb
          exact ⟨[] :: fps', .cons rfl k1, by simp [k2], fun i f z => by
            cases i with
            | zero => left; simpa using z.symm
            | succ i => exact k3 i f (by simpa using z)⟩
        | bo p o =>
          obtain ⟨⟨o0, rfl⟩, hb⟩ := hb
          obtain ⟨fps', k1, k2, k3⟩ := ih h0 hl' h hb
          refine ⟨fp :: fps', .cons ⟨g0.1, g.2⟩ k1, by simp [k2], fun i f z => ?_⟩
          cases i with
          | zero => right; simpa using z
          | succ i => exact k3 i f (by simpa using z)
theorem Rl.proj {c : Ct} {F H : Hp} {n : Nat} {σ σ0 : List (Option V)} {env env0 : List Sl} {fps fps0 : List (List Addr)} {F0 H0 : Hp} (h0 : Sls c F0 H0 σ0 env0 fps0) (hl : σ0.length = n) (r : Rl c σ F H env fps) (hb : sbo n env0 env) : ∃ fps', Rl c σ0 F H (Nr.proj n env) fps' := by
  obtain ⟨fps', k1, k2, k3⟩ := sls_proj h0 hl r.sl hb
  refine ⟨fps', r.eB, r.eF, r.eH, r.nw, r.dm, k1, fun i j fi fj b h1 h2 h3 h4 => ?_, fun fp hf b hb => ?_⟩
  · rcases k3 i fi h1 with q | q
    · rw [q] at h3; simp at h3
    · rcases k3 j fj h2 with q' | q'
      · rw [q'] at h4; simp at h4
      · exact r.dj i j fi fj b q q' h3 h4
  · obtain ⟨i, hi⟩ := List.mem_iff_getElem?.mp hf
    rcases k3 i fp hi with q | q
    · rw [q] at hb; simp at hb
    · exact r.ff fp (List.mem_of_getElem? q) b hb
/-- THE RULE for a def that changes things of its caller's -/
theorem fn_own {C : Addr} {x qual : Str} {st : Stmt} {f : Addr} {fd : FuncData} {N ps : List Str} {k : Nat} {R : List Sl → (PyData → List Sl → Prop) → Prop} (F : Fun K x qual st f fd) (S : FnScope N ps (defScope st)) (len : ∀ env Post, R env Post → env.length = ps.length)
    (hbody : ∀ (cdv : Value) (A : Around) (outer : List Env) (s : Shared) (H : Hp) (E : XK), Room k (A.deeper (envOfC qual (defScope st) s.heap.objs.size f cdv)) →
      ∃ t, PSs (cxOf CX0 P w K mg base N qual (defScope st) f cdv A outer s H E).nox (defBody st) t ∧ ∀ c env Post, c.C = C → R env Post → RS c t { nx := fun e => Post .none (Nr.proj ps.length e) ∧ sbo ps.length env e, rt := fun d e => Post d (Nr.proj ps.length e) ∧ sbo ps.length env e } (env ++ List.replicate (N.length - ps.length) .no)) : FnOk P w K mg base CX0 (k + 1) f fd ps (PO C R) := by
  refine F.ok S (fun vs H Q E h => ?_) fun cdv A outer s H vs Q E hr h => ?_
  · obtain ⟨B, F0, bs, env, fps, Post, R0, h2, _⟩ := h
    have := R0.sl.len.1
    rw [List.length_map] at this
    rw [this]; exact len env Post h2
  · obtain ⟨B, F0, bs, env, fps, Post, R0, h2, q⟩ := h
    obtain ⟨t, ht, hb⟩ := hbody cdv A outer s H E hr
    refine ⟨t, ht, ?_⟩
    have hl : vs.length = ps.length := by
      have := R0.sl.len.1
      rw [List.length_map] at this
      rw [this]; exact len env Post h2
    have R1 : Rl ⟨C, B, H, F0, bs⟩ (vs.map some ++ List.replicate (N.length - ps.length) none) F0 H (env ++ List.replicate (N.length - ps.length) .no) (fps ++ List.replicate (N.length - ps.length) []) := by
      have rep : ∀ {i : Nat} {f : List Addr} {b : Addr}, (fps ++ List.replicate (N.length - ps.length) [])[i]? = some f → b ∈ f → fps[i]? = some f := fun {i f b} z hb => by
        rw [List.getElem?_append] at z
        split at z
        · exact z
        · rw [List.getElem?_replicate] at z
          split at z
          · cases z; simp at hb
          · cases z
      refine ⟨R0.eB, R0.eF, R0.eH, R0.nw, R0.dm, R0.sl.app (sls_no _), fun i j fi fj b h1 h2 h3 h4 => R0.dj i j fi fj b (rep h1 h3) (rep h2 h4) h3 h4, fun fp hf b hb => ?_⟩
      obtain ⟨i, hi⟩ := List.mem_iff_getElem?.mp hf
      exact R0.ff fp (List.mem_of_getElem? (rep hi hb)) b hb
    rw [start_eq, hl]
    have hl0 : (vs.map some).length = ps.length := by rw [List.length_map]; exact hl
    have key := hb _ env Post rfl h2 _ F0 H _ R1
    refine key { nx := fun _ H' => Q .non H', rt := Q } ⟨fun σ F' H' env' fps' R' _ k => ?_, fun σ F' H' env' fps' d v R' _ hd k => ?_, fun _ _ _ _ _ _ _ z => z.elim, fun _ _ _ _ _ _ _ z => z.elim, fun _ _ _ _ _ _ _ _ _ _ z => z.elim⟩
    · obtain ⟨f2, R2⟩ := R'.proj R0.sl hl0 k.2
      exact q .none _ .non F' H' f2 k.1 R2 rfl
    · obtain ⟨f2, R2⟩ := R'.proj R0.sl hl0 k.2
      exact q d _ v F' H' f2 k.1 R2 hd
end
end Nr
set_option Elab.async false
set_option linter.all false
set_option maxRecDepth 100000
set_option maxHeartbeats 4000000
namespace Nr
open PySem PySem.Spec PyProof.Rows L2

section
variable {c : Ct} {env env' env2 : List Sl} {ta tb tc te : TE} {t : TA} {x y z d e : PyData} {r : R2} {K : PySem.W.Frag} {ds : List PyData} {D : De} {P : PyData → List Sl → Prop} {E : XK}
theorem ev_call {R : List PyData → (PyData → Prop) → Prop} (ha : EvA c t env ds) (hR : R ds (fun d' => d' = d)) : EvE c (tCall (PF R) [] E t) env d := fun σ F H fps Rs Q q =>
  ha σ F H fps Rs _ fun vs F1 H1 s1 h1 => ⟨F1, ds, _, s1.h, by rw [List.append_nil]; exact h1, hR, fun d' v F2 H2 e s2 h2 => by
    subst e
    exact q v F2 H2 (s1.trans s2) h2⟩
theorem re_call {R : List PyData → (PyData → Prop) → Prop} (ha : RA c t env fun ds e1 => R ds (fun d' => P d' e1)) : RE c (tCall (PF R) [] E t) env P := fun σ F H fps Rs Q q =>
  ha σ F H fps Rs _ fun vs ds F1 H1 f1 e1 R1 x1 h1 p1 => ⟨F1, ds, _, R1.eH, by rw [List.append_nil]; exact h1, p1, fun d' v F2 H2 e s2 h2 => q v d' F2 H2 f1 e1 (R1.ext s2) (x1.trans s2.f) h2 e⟩
/-- a call that does not raise -/
theorem ev_callX {T : Addr} {R : List PyData → (PyData → Prop) → Prop → Prop} (ha : EvA c t env ds) (hR : R ds (fun d' => d' = d) False) : EvE c (tCall (PX T R) [] E t) env d := fun σ F H fps Rs Q q =>
  ha σ F H fps Rs _ fun vs F1 H1 s1 h1 => ⟨F1, ds, _, _, s1.h, by rw [List.append_nil]; exact h1, hR, fun d' v F2 H2 e s2 h2 => by
    subst e
    exact q v F2 H2 (s1.trans s2) h2, fun _ _ z => z.elim⟩
/-- what never ends but by an exception -/
def EvN (c : Ct) (te : TE) (env : List Sl) : Prop := ∀ σ F H fps, Rl c σ F H env fps → ∀ Q : VK, te σ H Q
theorem en_callX {T : Addr} {R : List PyData → (PyData → Prop) → Prop → Prop} (ha : EvA c t env ds) (hR : R ds (fun _ => False) True) (hE : ∀ F' H', Stp c.H_0 c.F_0 H' F' → E (.ref T) none H') (hB : c.B = c.H_0) : EvN c (tCall (PX T R) [] E t) env := fun σ F H fps Rs Q =>
  ha σ F H fps Rs _ fun vs F1 H1 s1 h1 => ⟨F1, ds, _, _, s1.h, by rw [List.append_nil]; exact h1, hR, fun d' v F2 H2 e s2 h2 => e.elim, fun F' H' _ s2 => hE F' H' (Stp.trans ⟨Rs.eF, Rs.eH, by rw [← hB]; exact Rs.eB, Rs.nw⟩ (s1.trans s2))⟩
theorem en_op1 (h : EvN c ta env) : EvN c (tOp r ta tb) env := fun σ F H fps R Q => h σ F H fps R _
theorem rs_asgN {g : TG} (h : EvN c te env) : RS c (tAsg te g) D env := fun σ F H fps R E a => h σ F H fps R _
theorem rs_retN (h : EvN c te env) : RS c (tRet te) D env := fun σ F H fps R E a => h σ F H fps R _

/-! ### calls that change things of one's own -/
def conO : Sl → Option Ow
  | .ow o => some o
  | .bo _ o => some o
  | _ => none
theorem Sls.mk {c : Ct} {F H : Hp} : ∀ {σ : List (Option V)} {env : List Sl} {fps : List (List Addr)}, σ.length = env.length → fps.length = env.length → (∀ (j : Nat) v s fp, σ[j]? = some v → env[j]? = some s → fps[j]? = some fp → SlAt c F H v s fp) → Sls c F H σ env fps
  | [], [], [], _, _, _ => .nil
  | [], [], _ :: _, _, h, _ => by simp at h
  | [], _ :: _, _, h, _, _ => by simp at h
  | _ :: _, [], _, h, _, _ => by simp at h
  | v :: σ, s :: env, [], _, h, _ => by simp at h
  | v :: σ, s :: env, fp :: fps, h1, h2, h => .cons (h 0 v s fp rfl rfl rfl) (Sls.mk (by simpa using h1) (by simpa using h2) fun j v' s' fp' a b c => h (j + 1) v' s' fp' (by simpa using a) (by simpa using b) (by simpa using c))
theorem Rl.conO {σ : L2.St} {F H : Hp} {fps : List (List Addr)} {i : Nat} {s : Sl} {o : Ow} (R : Rl c σ F H env fps) (h : env[i]? = some s) (ho : Nr.conO s = some o) : ∃ p fp, σ[i]? = some (some (.ref p)) ∧ fps[i]? = some fp ∧ OwAt c.C F H p fp o ∧
    (∀ F' H' o' fp', OwAt c.C F' H' p fp' o' → (∀ b ∈ fp', b ∈ fp ∨ c.H_0 b = none) → SlAt c F' H' (some (.ref p)) (reO s o') fp') := by
  obtain ⟨v, fp, h1, h2, h3⟩ := R.sl.get h
  cases s with
  | no => cases ho
  | im d => cases ho
  | ow o0 =>
    cases ho
    obtain ⟨p, rfl, h4, h5⟩ := h3
    exact ⟨p, fp, h1, h2, h4, fun F' H' o' fp' g k => ⟨p, rfl, g, fun b hb => (k b hb).elim (fun z => h5 b z) id⟩⟩
  | bo p o0 =>
    cases ho
    obtain ⟨rfl, h4⟩ := h3
    exact ⟨p, fp, h1, h2, h4, fun F' H' o' fp' g k => ⟨rfl, g⟩⟩
/-- the heap without some addresses -/
def cutH (H : Hp) (fp : List Addr) : Hp := fun b => if b ∈ fp then none else H b
theorem cutH_in {H : Hp} {fp : List Addr} {b : Addr} (h : b ∈ fp) : cutH H fp b = none := if_pos h
theorem cutH_out {H : Hp} {fp : List Addr} {b : Addr} (h : b ∉ fp) : cutH H fp b = H b := if_neg h
theorem call_own {R : List Sl → (PyData → List Sl → Prop) → Prop} {σ : L2.St} {F H : Hp} {fps : List (List Addr)} {i : Nat} {s : Sl} {o : Ow} {vs : List V} {p : Addr} (Rs : Rl c σ F H env fps) (h : env[i]? = some s) (ho : conO s = some o) (hp : σ[i]? = some (some (.ref p))) (hd : Dts F ds vs)
    (hR : ∀ p, R (.bo p o :: ds.map .im) (fun d e' => ∃ o2 r, e' = .bo p o2 :: r ∧ P d (env.set i (reO s o2)))) {Q : VK} (q : ∀ v d F' H' fps' env', Rl c σ F' H' env' fps' → Ex F F' → Dt F' d v → P d env' → Q v H') : PO c.C R (.ref p :: vs) H Q E := by
  obtain ⟨p', fp, h1, h2, h3, h4⟩ := Rs.conO h ho
  rw [hp] at h1
  cases h1
  have nF : ∀ b ∈ fp, F b = none := fun b hb => (Rs.ff fp (List.mem_of_getElem? h2) b hb).1
  have eFB : Ex F (cutH H fp) := fun a u e => by
    rw [cutH_out (fun z => by rw [nF a z] at e; cases e)]
    exact Rs.eH a u e
  have eBH : Ex (cutH H fp) H := fun a u e => by
    by_cases z : a ∈ fp
    · rw [cutH_in z] at e; cases e
    · rw [cutH_out z] at e; exact e
  refine ⟨cutH H fp, F, fp, .bo p o :: ds.map .im, fp :: ds.map (fun _ => []), _, ⟨eBH, Ex.refl _, Rs.eH, fun _ _ => Or.inl rfl, fun _ h => h, .cons ⟨rfl, h3⟩ (sls_im hd), fun j k fj fk b g1 g2 g3 g4 => ?_, fun f hf b hb => ?_⟩, hR p, fun d env' v F' H' fps' hP R' hv => ?_⟩
  · have z : ∀ {m : Nat} {fm : List Addr}, (fp :: ds.map (fun _ => ([] : List Addr)))[m]? = some fm → b ∈ fm → m = 0 := fun {m fm} g hb => by
      cases m with
      | zero => rfl
      | succ m =>
        have g : (ds.map (fun _ => ([] : List Addr)))[m]? = some fm := by simpa using g
        have m1 := List.mem_of_getElem? g
        obtain ⟨_, _, q⟩ := List.mem_map.mp m1
        rw [← q] at hb; simp at hb
    rw [z g1 g3, z g2 g4]
  · rcases List.mem_cons.mp hf with rfl | hf
    · exact ⟨nF b hb, cutH_in hb, Or.inl hb⟩
    · obtain ⟨_, _, q⟩ := List.mem_map.mp hf
      rw [← q] at hb; simp at hb
  · obtain ⟨o2, rr, rfl, hP⟩ := hP
    have hsl := R'.sl
    have hff := R'.ff
    revert hff
    cases hsl with
    | @cons _ _ fp2 _ _ fps2 g1 g2 =>
      intro hff
      obtain ⟨_, hO⟩ := g1
      have ff2 := hff fp2 List.mem_cons_self
      have hHs : ∀ b ∈ fp, H b ≠ none := h3.some
      have own : ∀ b ∈ fp2, b ∈ fp ∨ H b = none := fun b hb => (ff2 b hb).2.2
      have out : ∀ b, H b ≠ none → b ∉ fp → H' b = H b := fun b hb hn => by
        cases z : H b with
        | none => exact absurd z hb
        | some u => exact R'.eB b u (by show cutH H fp b = _; rw [cutH_out hn]; exact z)
      have h0n : ∀ b, H b = none → c.H_0 b = none := fun b hb => by
        cases z : c.H_0 b with
        | none => rfl
        | some u => exact absurd hb (Rs.dm b (by rw [z]; exact fun y => nomatch y))
      have i1 := (List.getElem?_eq_some_iff.mp hp).1
      have i2 := (List.getElem?_eq_some_iff.mp h2).1
      have i3 := (List.getElem?_eq_some_iff.mp h).1
      refine q v d F' H' (fps.set i fp2) _ ⟨fun b u hb => ?_, Rs.eF.trans R'.eF, R'.eH, fun b hb => ?_, fun b hb => R'.dm b (Rs.dm b hb), ?_, ?_, ?_⟩ R'.eF hv hP
      · refine R'.eB b u ?_
        show cutH H fp b = _
        rw [cutH_out (fun z => by rw [(Rs.ff fp (List.mem_of_getElem? h2) b z).2.1] at hb; cases hb)]
        exact Rs.eB b u hb
      · exact (Rs.nw b hb).trans (R'.nw b (Rs.dm b hb)) R'.eF
      · refine Sls.mk (by rw [List.length_set]; exact Rs.sl.len.1) (by rw [List.length_set, List.length_set]; exact Rs.sl.len.2) fun j v' s' f' a1 a2 a3 => ?_
        rw [List.getElem?_set] at a2 a3
        split at a2
        · rename_i ej
          subst ej
          rw [if_pos rfl, if_pos i2] at a3
          cases a2; cases a3
          rw [hp] at a1; cases a1
          exact h4 F' H' o2 fp2 hO fun b hb => (own b hb).elim Or.inl fun z => Or.inr (h0n b z)
        · rename_i ej
          rw [if_neg ej] at a3
          obtain ⟨v2, f2, b1, b2, b3⟩ := Rs.sl.get a2
          rw [a1] at b1; cases b1
          rw [a3] at b2; cases b2
          refine b3.stay R'.eF fun b hb => out b (b3.some b hb) fun z => ej (Rs.dj i j fp f' b h2 a3 z hb)
      · have nn : ∀ {j : Nat} {fj : List Addr} {b : Addr}, i ≠ j → fps[j]? = some fj → b ∈ fj → b ∉ fp2 := fun {j fj b} hij hj hb hb2 => by
          rcases own b hb2 with z | z
          · exact hij (Rs.dj i j fp fj b h2 hj z hb)
          · obtain ⟨v2, s2, b1, b2, b3⟩ := Rs.sl.getF hj
            exact b3.some b hb z
        intro j k fj fk b a1 a2 a3 a4
        rw [List.getElem?_set] at a1 a2
        split at a1
        · rename_i ej
          split at a2
          · rename_i ek; exact ej.symm.trans ek
          · rename_i ek
            cases a1
            exact absurd a3 (nn ek a2 a4)
        · rename_i ej
          split at a2
          · rename_i ek
            cases a2
            exact absurd a4 (nn (fun z => ej z) a1 a3)
          · exact Rs.dj j k fj fk b a1 a2 a3 a4
      · intro f hf b hb
        obtain ⟨j, hj⟩ := List.mem_iff_getElem?.mp hf
        rw [List.getElem?_set] at hj
        split at hj
        · have e := Option.some.inj hj
          subst e
          · refine ⟨(ff2 b hb).1, ?_, ?_⟩
            · rcases own b hb with z | z
              · exact (Rs.ff fp (List.mem_of_getElem? h2) b z).2.1
              · exact Rs.eB.free z
            · rcases own b hb with z | z
              · exact (Rs.ff fp (List.mem_of_getElem? h2) b z).2.2
              · exact Or.inr (h0n b z)
        · rename_i ej
          obtain ⟨v2, s2, b1, b2, b3⟩ := Rs.sl.getF hj
          have k := Rs.ff f (List.mem_of_getElem? hj) b hb
          refine ⟨(R'.nw b (b3.some b hb)).none R'.eH (fun xs q => ?_) k.1, k.2⟩
          rw [out b (b3.some b hb) fun z => ej (Rs.dj i j fp f b h2 hj z hb)] at q
          exact b3.nt b hb xs q
theorem re_call1 {R : List Sl → (PyData → List Sl → Prop) → Prop} {i : Nat} {s : Sl} {C : Addr} (hC : C = c.C) (h : env[i]? = some s) (ho : (conO s).isSome = true)
    (ha : RA c t env fun ds e1 => ∃ s1 o1, e1[i]? = some s1 ∧ conO s1 = some o1 ∧ ∀ p, R (.bo p o1 :: ds.map .im) (fun d e' => ∃ o2 r, e' = .bo p o2 :: r ∧ P d (e1.set i (reO s1 o2)))) : RE c (tCall (PO C R) [] E (tCons (tVar i) t)) env P := fun σ F H fps Rs Q q => by
  subst hC
  obtain ⟨o, ho⟩ := Option.isSome_iff_exists.mp ho
  obtain ⟨p, fp, h1, h2, h3, h4⟩ := Rs.conO h ho
  refine ⟨_, h1, ha σ F H fps Rs _ fun vs ds F1 H1 f1 e1 R1 x1 g1 p1 => ?_⟩
  obtain ⟨s1, o1, k1, k2, k3⟩ := p1
  show PO c.C R ((.ref p :: vs) ++ []) H1 Q E
  rw [List.append_nil]
  exact call_own R1 k1 k2 h1 g1 k3 fun v d F' H' fps' env' R' x2 => q v d F' H' fps' env' R' (x1.trans x2)
theorem re_meth1 {C : Addr} {m : Str} {R : List Sl → (PyData → List Sl → Prop) → Prop} {i : Nat} {s : Sl} {ms : List Str} {ns : List (List Int)} (hC : C = c.C) (hm : List.lookup m [(("marks" : Str), (0 : Nat)), ("nexts", 0)] = none) (h : env[i]? = some s) (ho : conO s = some (.pl ms ns))
    (ha : RA c t env fun ds e1 => ∃ s1 o1, e1[i]? = some s1 ∧ conO s1 = some o1 ∧ ∀ p, R (.bo p o1 :: ds.map .im) (fun d e' => ∃ o2 r, e' = .bo p o2 :: r ∧ P d (e1.set i (reO s1 o2)))) : RE c (tMeth C m (PO C R) [] E (tVar i) t) env P := fun σ F H fps Rs Q q => by
  subst hC
  obtain ⟨p, fp, h1, h2, h3, h4⟩ := Rs.conO h ho
  obtain ⟨dx, m1, n1, rs, _, _, k1, _⟩ := h3
  refine ⟨_, h1, p, dx, _, rfl, k1, ?_, ha σ F H fps Rs _ fun vs ds F1 H1 f1 e1 R1 x1 g1 p1 => ?_⟩
  · have a1 : (m == ("marks" : Str)) = false := by
      cases z : m == ("marks" : Str) with
      | false => rfl
      | true => rw [List.lookup, z] at hm; cases hm
    have a2 : (m == ("nexts" : Str)) = false := by
      cases z : m == ("nexts" : Str) with
      | false => rfl
      | true => rw [List.lookup, a1, List.lookup, z] at hm; cases hm
    rw [List.lookup, a1, List.lookup, a2, List.lookup]
  · obtain ⟨s1, o1, k1, k2, k3⟩ := p1
    show PO c.C R ((.ref p :: (vs ++ []))) H1 Q E
    rw [List.append_nil]
    exact call_own R1 k1 k2 h1 g1 k3 fun v d F' H' fps' env' R' x2 => q v d F' H' fps' env' R' (x1.trans x2)
end
end Nr
set_option Elab.async false
set_option linter.all false
set_option maxRecDepth 100000
set_option maxHeartbeats 4000000
namespace Nr
open PySem PySem.Spec PyProof.Rows L2
/-! ### the text -/
def top (i : Nat) : Stmt := PySem.Challenge.pw_nearreach_k63_whole_a_rule_more.main.body.getD i (.Pass ⟨0, 0, 0, 0⟩)
abbrev s_is_number : Stmt := top 1
abbrev s_is_tongue : Stmt := top 13
abbrev s_is_text : Stmt := top 14
abbrev s_are_some : Stmt := top 20
abbrev s_are_times : Stmt := top 21
abbrev s_is_form : Stmt := top 22
abbrev s_inner : Stmt := top 23
abbrev s_counted : Stmt := top 24
abbrev s_is_shape : Stmt := top 25
abbrev s_weight : Stmt := top 26
abbrev s_in_turn : Stmt := top 30
abbrev s_laid_row : Stmt := top 31
abbrev s_laid_either : Stmt := top 32
abbrev s_laid_many : Stmt := top 33
abbrev s_laid_times : Stmt := top 34
abbrev s_laid : Stmt := top 35
abbrev s_spread : Stmt := top 36
abbrev s_is_name : Stmt := top 41
abbrev s_is_of : Stmt := top 42
abbrev s_is_rule : Stmt := top 43
abbrev s_is_book : Stmt := top 44
abbrev s_looked_book : Stmt := top 45
abbrev s_book_spread : Stmt := top 46
abbrev s_asked_place : Stmt := top 47
abbrev s_with_rule : Stmt := top 48
abbrev s_asked_alike : Stmt := top 50
abbrev s_together : Stmt := top 51
abbrev s_first_parted : Stmt := top 52
abbrev s_bits_of : Stmt := top 54
abbrev s_places_of : Stmt := top 55
abbrev s_bearers : Stmt := top 56
abbrev s_behind_all : Stmt := top 57
abbrev s_owned_ends : Stmt := top 58
abbrev s_owner_of : Stmt := top 59
abbrev s_crowd_rooms : Stmt := top 60
abbrev s_longest : Stmt := top 62
abbrev s_cut : Stmt := top 63
abbrev s_numbered : Stmt := top 65
abbrev s_finer : Stmt := top 66
abbrev s_classes_of : Stmt := top 67
abbrev s_joined : Stmt := top 68
abbrev s_classed : Stmt := top 70
abbrev s_table_of : Stmt := top 71
abbrev s_by_names : Stmt := top 73
abbrev s_named_cut : Stmt := top 74
abbrev s_named_kinds : Stmt := top 75
abbrev s_altered : Stmt := top 76
abbrev s_law_pen : Stmt := top 78
abbrev s_law_take : Stmt := top 79
abbrev s_law_signs : Stmt := top 80
abbrev s_law_some : Stmt := top 81
abbrev s_law_light : Stmt := top 82
abbrev s_law_names : Stmt := top 83
abbrev s_law_rules : Stmt := top 84
abbrev s_law_text : Stmt := top 85
abbrev s_law_parts_so : Stmt := top 86
abbrev s_law_told : Stmt := top 87
abbrev s_law_right : Stmt := top 88
abbrev s_law : Stmt := top 89
abbrev s_P_init : Stmt := inClass (top 29) 0
abbrev s_P_lay : Stmt := inClass (top 29) 1
abbrev s_P_link : Stmt := inClass (top 29) 2
def str_SIGNS : Str := (" !\"#$&'()*+,-./0123456789:;<=>?@ABCDEFGHIJKLMNOPQRSTUVWXYZ[\\]^_`abcdefghijklmnopqrstuvwxyz{|}~\n" : Str)
def str_LETTERS : Str := ("abcdefghijklmnopqrstuvwxyz" : Str)
theorem bt_abs : bootBuiltins "abs" = some (.builtin "abs") := by decide +kernel
theorem bt_all : bootBuiltins "all" = some (.builtin "all") := by decide +kernel
theorem bt_bool : bootBuiltins "bool" = some (.type "bool") := by decide +kernel
theorem bt_enumerate : bootBuiltins "enumerate" = some (.type "enumerate") := by decide +kernel
theorem bt_int : bootBuiltins "int" = some (.type "int") := by decide +kernel
theorem bt_isinstance : bootBuiltins "isinstance" = some (.builtin "isinstance") := by decide +kernel
theorem bt_len : bootBuiltins "len" = some (.builtin "len") := by decide +kernel
theorem bt_list : bootBuiltins "list" = some (.type "list") := by decide +kernel
theorem bt_max : bootBuiltins "max" = some (.builtin "max") := by decide +kernel
theorem bt_min : bootBuiltins "min" = some (.builtin "min") := by decide +kernel
theorem bt_range : bootBuiltins "range" = some (.type "range") := by decide +kernel
theorem bt_set : bootBuiltins "set" = some (.type "set") := by decide +kernel
theorem bt_sorted : bootBuiltins "sorted" = some (.builtin "sorted") := by decide +kernel
theorem bt_str : bootBuiltins "str" = some (.type "str") := by decide +kernel
theorem bt_sum : bootBuiltins "sum" = some (.builtin "sum") := by decide +kernel
theorem bt_tuple : bootBuiltins "tuple" = some (.type "tuple") := by decide +kernel
/-- a def of the text, under its name -/
structure Dn (K : PySem.W.Frag) (mg : Str → Option Value) (x : Str) (st : Stmt) : Prop where
  ex : ∃ f fd, Fun K x x st f fd ∧ mg x = some (.ref f)
/-- a method of the class at C -/
structure Md (K : PySem.W.Frag) (C : Addr) (m qual : Str) (st : Stmt) : Prop where
  ex : ∃ f fd, Meth K C m f ∧ Fun K m qual st f fd
/-- what the top has written -/
structure Tx (K : PySem.W.Frag) (mg : Str → Option Value) (C T : Addr) : Prop where
  d_is_number : Dn K mg "is_number" s_is_number
  d_is_tongue : Dn K mg "is_tongue" s_is_tongue
  d_is_text : Dn K mg "is_text" s_is_text
  d_are_some : Dn K mg "are_some" s_are_some
  d_are_times : Dn K mg "are_times" s_are_times
  d_is_form : Dn K mg "is_form" s_is_form
  d_inner : Dn K mg "inner" s_inner
  d_counted : Dn K mg "counted" s_counted
  d_is_shape : Dn K mg "is_shape" s_is_shape
  d_weight : Dn K mg "weight" s_weight
  d_in_turn : Dn K mg "in_turn" s_in_turn
  d_laid_row : Dn K mg "laid_row" s_laid_row
  d_laid_either : Dn K mg "laid_either" s_laid_either
  d_laid_many : Dn K mg "laid_many" s_laid_many
  d_laid_times : Dn K mg "laid_times" s_laid_times
  d_laid : Dn K mg "laid" s_laid
  d_spread : Dn K mg "spread" s_spread
  d_is_name : Dn K mg "is_name" s_is_name
  d_is_of : Dn K mg "is_of" s_is_of
  d_is_rule : Dn K mg "is_rule" s_is_rule
  d_is_book : Dn K mg "is_book" s_is_book
  d_looked_book : Dn K mg "looked_book" s_looked_book
  d_book_spread : Dn K mg "book_spread" s_book_spread
  d_asked_place : Dn K mg "asked_place" s_asked_place
  d_with_rule : Dn K mg "with_rule" s_with_rule
  d_asked_alike : Dn K mg "asked_alike" s_asked_alike
  d_together : Dn K mg "together" s_together
  d_first_parted : Dn K mg "first_parted" s_first_parted
  d_bits_of : Dn K mg "bits_of" s_bits_of
  d_places_of : Dn K mg "places_of" s_places_of
  d_bearers : Dn K mg "bearers" s_bearers
  d_behind_all : Dn K mg "behind_all" s_behind_all
  d_owned_ends : Dn K mg "owned_ends" s_owned_ends
  d_owner_of : Dn K mg "owner_of" s_owner_of
  d_crowd_rooms : Dn K mg "crowd_rooms" s_crowd_rooms
  d_longest : Dn K mg "longest" s_longest
  d_cut : Dn K mg "cut" s_cut
  d_numbered : Dn K mg "numbered" s_numbered
  d_finer : Dn K mg "finer" s_finer
  d_classes_of : Dn K mg "classes_of" s_classes_of
  d_joined : Dn K mg "joined" s_joined
  d_classed : Dn K mg "classed" s_classed
  d_table_of : Dn K mg "table_of" s_table_of
  d_by_names : Dn K mg "by_names" s_by_names
  d_named_cut : Dn K mg "named_cut" s_named_cut
  d_named_kinds : Dn K mg "named_kinds" s_named_kinds
  d_altered : Dn K mg "altered" s_altered
  d_law_pen : Dn K mg "_law_pen" s_law_pen
  d_law_take : Dn K mg "_law_take" s_law_take
  d_law_signs : Dn K mg "_law_signs" s_law_signs
  d_law_some : Dn K mg "_law_some" s_law_some
  d_law_light : Dn K mg "_law_light" s_law_light
  d_law_names : Dn K mg "_law_names" s_law_names
  d_law_rules : Dn K mg "_law_rules" s_law_rules
  d_law_text : Dn K mg "_law_text" s_law_text
  d_law_parts_so : Dn K mg "_law_parts_so" s_law_parts_so
  d_law_told : Dn K mg "_law_told" s_law_told
  d_law_right : Dn K mg "_law_right" s_law_right
  d_law : Dn K mg "law" s_law
  n_abs : mg "abs" = none
  n_all : mg "all" = none
  n_bool : mg "bool" = none
  n_enumerate : mg "enumerate" = none
  n_int : mg "int" = none
  n_isinstance : mg "isinstance" = none
  n_len : mg "len" = none
  n_list : mg "list" = none
  n_max : mg "max" = none
  n_min : mg "min" = none
  n_range : mg "range" = none
  n_set : mg "set" = none
  n_sorted : mg "sorted" = none
  n_str : mg "str" = none
  n_sum : mg "sum" = none
  n_tuple : mg "tuple" = none
  c_MOST_SIGNS : ∃ u, mg "MOST_SIGNS" = some u ∧ RelV (.int 6) u
  c_DEEPEST : ∃ u, mg "DEEPEST" = some u ∧ RelV (.int 5) u
  c_MOST_PARTS : ∃ u, mg "MOST_PARTS" = some u ∧ RelV (.int 24) u
  c_MOST_IN : ∃ u, mg "MOST_IN" = some u ∧ RelV (.int 6) u
  c_MOST_TIMES : ∃ u, mg "MOST_TIMES" = some u ∧ RelV (.int 4) u
  c_MOST_WEIGHT : ∃ u, mg "MOST_WEIGHT" = some u ∧ RelV (.int 10) u
  c_MOST_RULES : ∃ u, mg "MOST_RULES" = some u ∧ RelV (.int 6) u
  c_MOST_LETTERS : ∃ u, mg "MOST_LETTERS" = some u ∧ RelV (.int 8) u
  c_SIGNS : ∃ u, mg "SIGNS" = some u ∧ RelV (.str str_SIGNS) u
  c_LETTERS : ∃ u, mg "LETTERS" = some u ∧ RelV (.str str_LETTERS) u
  cl : Cls K C
  nM : NoAttr K C "marks"
  nN : NoAttr K C "nexts"
  gP : mg "Plan" = some (.ref C)
  mkP : ∃ f fd, Mk K C f ∧ Fun K "__init__" "Plan.__init__" s_P_init f fd
  d_lay : Md K C "lay" "Plan.lay" s_P_lay
  d_link : Md K C "link" "Plan.link" s_P_link
  gT : mg "TooMany" = some (.ref T)
  xT : PySem.W.excIn K T He.veBase "ValueError.__new__" = true
  kT : PySem.W.keepIn K (.ref T) = true
  bT : PySem.W.subIn K (.ref T) (.type "BaseException") = some true
  tT : PySem.W.typeIn K (.ref T) = some (.type "type")
  eT : PySem.W.exmOne K (.ref T) (.ref T) = some true
section
variable {P : Program} {w : World} {K : PySem.W.Frag} {mg : Str → Option Value} {base : Heap}
/-- a def that may be called by its name -/
structure Cl (P : Program) (w : World) (K : PySem.W.Frag) (mg : Str → Option Value) (base : Heap) (k : Nat) (x : Str) (sp : Sp) : Prop where
  ex : ∃ (f : Addr) (fd : FuncData) (ps : List Str), FnOk P w K mg base CX0 k f fd ps sp ∧ mg x = some (.ref f) ∧ PySem.W.keepIn K (.ref f) = true ∧ Binds K fd ps []
structure ClX (P : Program) (w : World) (K : PySem.W.Frag) (mg : Str → Option Value) (base : Heap) (k : Nat) (x : Str) (sp : Sp) : Prop where
  ex : ∃ (f : Addr) (fd : FuncData) (ps : List Str), FnOk P w K mg base (L2.CX P w) k f fd ps sp ∧ mg x = some (.ref f) ∧ PySem.W.keepIn K (.ref f) = true ∧ Binds K fd ps []
structure Mt (P : Program) (w : World) (K : PySem.W.Frag) (mg : Str → Option Value) (base : Heap) (k : Nat) (C : Addr) (m : Str) (sp : Sp) : Prop where
  ex : ∃ (f : Addr) (fd : FuncData) (ps : List Str), Cls K C ∧ Meth K C m f ∧ FnOk P w K mg base CX0 k f fd ps sp ∧ Binds K fd ps []
def BindsTo1 (x qual : Str) (st : Stmt) (ps : List Str) : Prop := ∀ (kV doc pm : Value) (an : Option Addr) (cdv ct : Value) (us : List Value), us.length = ps.length → bindArgs (PySem.W.fnOf x qual (defArgs st) (defBody st) (defScope st) .none kV doc pm an cdv ct) ⟨us, []⟩ = pure (ps.zip us)
theorem cl_pure {C : Addr} {x : Str} {st : Stmt} {N ps : List Str} {k : Nat} {R : List PyData → (PyData → Prop) → Prop} (D : Dn K mg x st) (S : FnScope N ps (defScope st)) (hb : BindsTo1 x x st ps) (len : ∀ ds Post, R ds Post → ds.length = ps.length)
    (hbody : ∀ (f : Addr) (cdv : Value) (A : Around) (outer : List Env) (s : Shared) (H : Hp) (E : XK), Room k (A.deeper (envOfC x (defScope st) s.heap.objs.size f cdv)) →
      ∃ t, PSs (cxOf CX0 P w K mg base N x (defScope st) f cdv A outer s H E).nox (defBody st) t ∧ ∀ c ds Post, c.C = C → R ds Post → RS c t { nx := fun _ => Post .none, rt := fun d _ => Post d } (ds.map .im ++ List.replicate (N.length - ps.length) .no)) : Cl P w K mg base (k + 1) x (PF R) := by
  obtain ⟨f, fd, F, hm⟩ := D.ex
  exact ⟨f, fd, ps, fn_pure (C := C) F S len (hbody f), hm, F.kp, F.binds hb⟩
theorem cl_rais {C T : Addr} {x : Str} {st : Stmt} {N ps : List Str} {k : Nat} {R : List PyData → (PyData → Prop) → Prop → Prop} (D : Dn K mg x st) (S : FnScope N ps (defScope st)) (hb : BindsTo1 x x st ps) (len : ∀ ds Post X, R ds Post X → ds.length = ps.length)
    (hbody : ∀ (f : Addr) (cdv : Value) (A : Around) (outer : List Env) (s : Shared) (H : Hp) (E : XK), Room k (A.deeper (envOfC x (defScope st) s.heap.objs.size f cdv)) →
      ∃ t, PSs (cxOf (L2.CX P w) P w K mg base N x (defScope st) f cdv A outer s H E) (defBody st) t ∧ ∀ c ds Post X, c.C = C → c.B = H → c.H_0 = H → R ds Post X → (∀ F' H', X → Stp H c.F_0 H' F' → E (.ref T) none H') → RS c t { nx := fun _ => Post .none, rt := fun d _ => Post d } (ds.map .im ++ List.replicate (N.length - ps.length) .no)) : ClX P w K mg base (k + 1) x (PX T R) := by
  obtain ⟨f, fd, F, hm⟩ := D.ex
  exact ⟨f, fd, ps, fn_rais (C := C) F S len (hbody f), hm, F.kp, F.binds hb⟩
theorem cl_own {C : Addr} {x : Str} {st : Stmt} {N ps : List Str} {k : Nat} {R : List Sl → (PyData → List Sl → Prop) → Prop} (D : Dn K mg x st) (S : FnScope N ps (defScope st)) (hb : BindsTo1 x x st ps) (len : ∀ env Post, R env Post → env.length = ps.length)
    (hbody : ∀ (f : Addr) (cdv : Value) (A : Around) (outer : List Env) (s : Shared) (H : Hp) (E : XK), Room k (A.deeper (envOfC x (defScope st) s.heap.objs.size f cdv)) →
      ∃ t, PSs (cxOf CX0 P w K mg base N x (defScope st) f cdv A outer s H E).nox (defBody st) t ∧ ∀ c env Post, c.C = C → R env Post → RS c t { nx := fun e => Post .none (Nr.proj ps.length e) ∧ sbo ps.length env e, rt := fun d e => Post d (Nr.proj ps.length e) ∧ sbo ps.length env e } (env ++ List.replicate (N.length - ps.length) .no)) : Cl P w K mg base (k + 1) x (PO C R) := by
  obtain ⟨f, fd, F, hm⟩ := D.ex
  exact ⟨f, fd, ps, fn_own F S len (hbody f), hm, F.kp, F.binds hb⟩
end
section
variable {X : Cx} {k j : Nat} {C : Addr} {x m : Str} {sp : Sp} {p pos apos : Pos} {e o : Expr} {es : List Expr} {ta : TE} {t : TA}
theorem pe_cl (c : Cl X.prog X.w X.K X.mg X.base k x sp) (hr : Room j X.A) (hk : k ≤ j) (hg : Gl X x) (ha : PA X (e :: es) t) (hdb : (x == ("__debug__" : Str)) = false := by decide) (he : starEach (e :: es) X.env = (false, eval e X.env) :: starEach es X.env := by rfl) (hpl : (backTo pos (starEach es X.env)).any (·.1) = false := by rfl) :
    PE X (.Call (.Name x p) (e :: es) [] pos) (tCall sp [] E0 t) := by
  obtain ⟨f, fd, ps, F, hm, kp, b⟩ := c.ex
  exact pe_call F (hr.mono hk) hg hm kp b .nil pass0 ha hdb he hpl
theorem pe_cl0 (c : Cl X.prog X.w X.K X.mg X.base k x sp) (hr : Room j X.A) (hk : k ≤ j) (hg : Gl X x) (hdb : (x == ("__debug__" : Str)) = false := by decide) : PE X (.Call (.Name x p) [] [] pos) (tCall sp [] E0 tNil) := by
  obtain ⟨f, fd, ps, F, hm, kp, b⟩ := c.ex
  exact pe_call0 F (hr.mono hk) hg hm kp b .nil pass0 hdb
theorem pe_clX {E : XK} (c : ClX X.prog X.w X.K X.mg X.base k x sp) (hr : Room j X.A) (hk : k ≤ j) (hg : Gl X x) (hx : Passes (L2.CX X.prog X.w) X E) (ha : PA X (e :: es) t) (hdb : (x == ("__debug__" : Str)) = false := by decide) (he : starEach (e :: es) X.env = (false, eval e X.env) :: starEach es X.env := by rfl) (hpl : (backTo pos (starEach es X.env)).any (·.1) = false := by rfl) :
    PE X (.Call (.Name x p) (e :: es) [] pos) (tCall sp [] E t) := by
  obtain ⟨f, fd, ps, F, hm, kp, b⟩ := c.ex
  exact pe_call F (hr.mono hk) hg hm kp b .nil hx ha hdb he hpl
end
end Nr
set_option Elab.async false
set_option linter.all false
set_option maxRecDepth 100000
set_option maxHeartbeats 4000000
namespace Nr
open PySem PySem.Spec PyProof.Rows L2
/-! ### a list or a tuple, walked -/
def iSeq (K : PySem.W.Frag) (tl : TE) : TI := fun σ H R => iList K tl σ H R ∨ iTup K tl σ H R
theorem pi_seq {X : Cx} {tg l : Expr} {tl : TE} (hl : PE X l tl) : PI X tg l (iSeq X.K tl) := ⟨fun pins s σ H R I h => h.elim ((pi_list hl).run pins s σ H R I) ((pi_tup hl).run pins s σ H R I)⟩
section
variable {c : Ct} {env : List Sl} {te ta tb : TE} {ds : List PyData} {K : PySem.W.Frag} {d x y : PyData}
theorem ei_seqL (h : EvE c te env (.list ds)) : EvI c (iSeq K te) env ds := fun σ F H fps R P q => Or.inl (ei_list h σ F H fps R P q)
theorem ei_seqT (h : EvE c te env (.tuple ds)) : EvI c (iSeq K te) env ds := fun σ F H fps R P q => Or.inr (ei_tup h σ F H fps R P q)
/-! ### bits -/
theorem bor_nat (a b : Nat) : Builtin.bitOr (a : Int) (b : Int) = ((a ||| b : Nat) : Int) := by
  have h1 : ∀ n : Nat, Builtin.bitNot (n : Int) = -(n : Int) - 1 := fun n => rfl
  have h2 : ∀ n : Nat, Builtin.bitNot (-(n : Int) - 1) = (n : Int) := fun n => by show -(-(n : Int) - 1) - 1 = _; omega
  unfold Builtin.bitOr Builtin.bitAnd
  rw [h1 a, h1 b]
  rw [decide_eq_false (by omega : ¬ (0 : Int) ≤ -(a : Int) - 1), decide_eq_false (by omega : ¬ (0 : Int) ≤ -(b : Int) - 1)]
  simp only [h2, Int.toNat_natCast]
  rw [h1, h2]
theorem band_nat (a b : Nat) : Builtin.bitAnd (a : Int) (b : Int) = ((a &&& b : Nat) : Int) := by
  unfold Builtin.bitAnd
  rw [decide_eq_true (by omega : (0 : Int) ≤ (a : Int)), decide_eq_true (by omega : (0 : Int) ≤ (b : Int))]
  simp
theorem rv_or {a b : Nat} : Rv (rI0 fun i j => .int (Builtin.bitOr i j)) (.int (a : Int)) (.int (b : Int)) (.int ((a ||| b : Nat) : Int)) := by
  have h := rv_I0i (g := Builtin.bitOr) (i := (a : Int)) (j := (b : Int))
  rw [bor_nat] at h
  exact h
theorem rv_and {a b : Nat} : Rv (rI0 fun i j => .int (Builtin.bitAnd i j)) (.int (a : Int)) (.int (b : Int)) (.int ((a &&& b : Nat) : Int)) := by
  have h := rv_I0i (g := Builtin.bitAnd) (i := (a : Int)) (j := (b : Int))
  rw [band_nat] at h
  exact h
theorem rv_oneShl {k : Nat} (h : k ≤ 100000) : Rv (fun x y H Q => ∃ k : Nat, x = .int 1 ∧ y = .int (k : Int) ∧ k ≤ 134217727 ∧ Q (.int (2 ^ k)) H) (.int 1) (.int (k : Int)) (.int ((2 ^ k : Nat) : Int)) := fun F H v w e h1 h2 Q q =>
  ⟨k, h1, h2, by omega, q _ F H (Stp.refl e) (by show V.int _ = V.int _; rw [Int.natCast_pow]; rfl)⟩
theorem rv_shrN {n k : Nat} : Rv (fun x y H Q => ∃ (i : Int) (k : Nat), x = .int i ∧ y = .int (k : Int) ∧ Q (.int (i / 2 ^ k)) H) (.int (n : Int)) (.int (k : Int)) (.int ((n >>> k : Nat) : Int)) := fun F H v w e h1 h2 Q q =>
  ⟨(n : Int), k, h1, h2, q _ F H (Stp.refl e) (by
    show V.int _ = V.int _
    rw [Nat.shiftRight_eq_div_pow, Int.natCast_ediv, Int.natCast_pow]
    rfl)⟩
end
/-- numbers as data -/
abbrev nD (n : Nat) : PyData := .int (n : Int)
abbrev nsD (ns : List Nat) : List PyData := ns.map nD
theorem take_one {α : Type} {l : List α} {i : Nat} {x : α} (h : l[i]? = some x) : l.take (i + 1) = l.take i ++ [x] := by
  rw [List.take_add_one, h]; rfl
theorem get_map {α β : Type} {f : α → β} {l : List α} {i : Nat} {y : β} (h : (l.map f)[i]? = some y) : ∃ x, l[i]? = some x ∧ f x = y := by
  rw [List.getElem?_map] at h
  cases e : l[i]? with
  | none => rw [e] at h; cases h
  | some x => rw [e] at h; exact ⟨x, rfl, Option.some.inj h⟩
end Nr
set_option Elab.async false
set_option linter.all false
set_option maxRecDepth 100000
set_option maxHeartbeats 4000000
namespace Nr
open PySem PySem.Spec PyProof.Rows L2
/-! ### enumerate of a tuple, of a text -/
set_option maxHeartbeats 1000000 in
theorem meets_enum1 {v : Value} {o : Obj} {Hc : Heap → Prop} (B : Begins v o Hc) :
    Meets (Builtin.«enumerate.__new__» ⟨[.type "enumerate", v], []⟩) (fun _ R s => Hc s.heap ∧
      R (.ok (.ret (.ref (s.heap.push o).objs.size))) { s with heap := (s.heap.push o).push { cls := .type "enumerate", data := .fields #[.none, .bool false, .ref s.heap.objs.size, rawInt 0, .none, .none] } }) :=
  .of_wp fun pr w A R s hs => by
    obtain ⟨hp, g, d, tk, os⟩ := s
    obtain ⟨hB, hs⟩ := hs
    have hsub := sub_enumerate
    have begin_ : ∀ {A2 : Around} {E2 : Value → Shared → Prop} {Q2 : Value → Shared → Prop}, Q2 (.ref hp.objs.size) ⟨hp.push o, g, d, tk, os⟩ → wpAny (model pr w) A2 (pyIter v) Q2 E2 ⟨hp, g, d, tk, os⟩ := fun z => B.iter pr w _ _ ⟨hp, g, d, tk, os⟩ _ hB z
    wp_walk using begin_
    refine wpAny_stack_any fun _ => wpAny_pure ?_
    split
    · rename_i cc _ _ _ _ _
      cases (cc == Value.type "enumerate") <;>
        (wp_walk using begin_
         exact ⟨_, rfl, hs⟩)
    · wp_walk using begin_
      exact ⟨_, rfl, hs⟩
theorem enum_begin1 {pr : Program} {w : World} {A : Around} {E : Value → Shared → Prop} {s : Shared} {v : Value} {o : Obj} {Hc : Heap → Prop} {Q : Value → Shared → Prop} (B : Begins v o Hc) (hB : Hc s.heap)
    (k : ∀ h', IsEnum h' (s.heap.objs.size + 1) s.heap.objs.size 0 .none → h'.get? s.heap.objs.size = some o → (∀ b u, s.heap.get? b = some u → h'.get? b = some u) → Q (.ref (s.heap.objs.size + 1)) { s with heap := h' }) :
    wpAny (model pr w) A (call (.type "enumerate") [v]) Q E s := by
  refine callType_new F.called_enumerate (by decide) (F.typeCall_enumerate_1 _) (F.newCall_enumerate_1 _) (fun ob => F.args_object_init_2 ob _) F.entry_enumerate_new (meets_enum1 B) ⟨hB, ?_⟩
  have z : (s.heap.push o).objs.size = s.heap.objs.size + 1 := Heap.size_push ..
  show _ ∧ _
  rw [z]
  have ie : IsEnum ((s.heap.push o).push { cls := .type "enumerate", data := .fields #[.none, .bool false, .ref s.heap.objs.size, rawInt 0, .none, .none] }) (s.heap.objs.size + 1) s.heap.objs.size 0 .none := by
    have q := Heap.get?_push_size (s.heap.push o) (o := { cls := .type "enumerate", data := .fields #[.none, .bool false, .ref s.heap.objs.size, rawInt 0, .none, .none] }) rfl
    rw [z] at q
    exact q
  exact ⟨⟨_, ie, rfl⟩, k _ ie (Heap.get?_push_of_some _ (Heap.get?_push_size _ B.free)) fun b u x => Heap.get?_push_of_some _ (Heap.get?_push_of_some _ x)⟩
/-- the items of something, each with its number, in a new pair: go tells when an item is there, at_ which -/
def Iten (go : Nat → Hp → Prop) (at_ : Nat → Hp → V → Prop) (stop : Nat → Hp → Prop) : It :=
  ⟨go, fun i H v H' => ∃ T x, v = .ref T ∧ H T = none ∧ H' = upd H T (.tup [.int (i : Nat), x]) ∧ at_ i H x, stop⟩
theorem turn_en {P : Program} {w : World} {K : PySem.W.Frag} {elts : List Expr} {kk : Nat} {tpos : Pos} {go : Nat → Hp → Prop} {at_ : Nat → Hp → V → Prop} {stop : Nat → Hp → Prop} (e it : Addr) (St : Nat → Heap → Prop) (hne : e ≠ it)
    (ob : ∀ i h, St i h → ∃ o, h.get? it = some o ∧ ∀ v, o.data ≠ .cell v) (kp : ∀ i h h', St i h → (∀ o, h.get? it = some o → h'.get? it = some o) → St i h')
    (dr : ∀ (X : Cx), X.prog = P → X.w = w → X.K = K → X.calm = true → ∀ (i : Nat) (pins : List (Addr × Obj)) (s : Shared) (σ : L2.St) (H : Hp), Inv X pins σ H s → St i s.heap → (∃ old, IsEnum s.heap e it ((i : Nat) : Int) old) → (go i H ∨ stop i H) →
      ∃ (fp : List Addr) (n : Nat) (Pw : Nat → Value → Prop) (St2 : Nat → Heap → Prop), Draws P w X.A.in1 it fp n Pw St2 ∧ e ∉ fp ∧ St2 i s.heap ∧ (∀ h', St2 (i + 1) h' → St (i + 1) h') ∧ (go i H → i < n ∧ ∀ u, Pw i u → ∃ x, RelV x u ∧ at_ i H x) ∧ (stop i H → i = n)) :
    Turn P w K (.Tuple elts kk tpos) (Iten go at_ stop) [e, it] e (fun i h => (∃ old, IsEnum h e it ((i : Nat) : Int) old) ∧ St i h) where
  mem := by simp
  obj := fun i h st b hb => by
    obtain ⟨⟨old, he⟩, hst⟩ := st
    simp only [List.mem_cons, List.not_mem_nil, or_false] at hb
    rcases hb with rfl | rfl
    · exact ⟨_, he, fun v q => nomatch q⟩
    · exact ob i h hst
  keep := fun i h h' st k => ⟨let ⟨old, he⟩ := st.1; ⟨old, k e (by simp) _ he⟩, kp i h h' st.2 fun o q => k it (by simp) o q⟩
  item := by
    intro X hP hw hK hc i pins s σ H E I hf st hg
    obtain ⟨fp, n, Pw, St2, Dw, hef, h2, hto, hgo, _⟩ := dr X hP hw hK hc i pins s σ H I st.2 st.1 (Or.inl hg)
    obtain ⟨⟨old, he⟩, hst⟩ := st
    obtain ⟨hlt, hat⟩ := hgo hg
    have hel : e < s.heap.objs.size := Heap.lt_size he
    have hil : it < s.heap.objs.size := by
      obtain ⟨o, ho, _⟩ := ob i _ hst
      exact Heap.lt_size ho
    refine wpAny_pyNext_enum_itemD Dw he h2 hlt hne hef fun u h' tk hPu ho hs' hT hsz hk => ?_
    obtain ⟨x, rx, ax⟩ := hat u hPu
    refine ⟨_, rfl, wpAny_letOwnedTupleGo_enum (s := { s with heap := h', toks := tk + 1 }) ho fun h2' he' sb => ?_⟩
    have hT2 : h2'.get? s.heap.objs.size = some { cls := .type "tuple", data := .seq #[.int i tk, u] } := (sb.2 _ (Nat.ne_of_gt hel)).trans hT
    have new : ObjOk X.prog X.w (upd H s.heap.objs.size (.tup [.int (i : Nat), x])) h2' s.heap.objs.size (.tup [.int (i : Nat), x]) :=
      ⟨by show 2 ≤ sizeLine; decide, [.int i tk, u], .cons ⟨_, rfl⟩ (.cons rx .nil), ⟨_, hT2, rfl, _, rfl⟩⟩
    have I1 : Inv X pins σ (upd H s.heap.objs.size (.tup [.int (i : Nat), x])) { s with heap := h2', toks := tk + 1 } :=
      I.turnedNew (ch := [e, it]) (fun b o hb q => (sb.2 b (fun z => hb (by simp [z]))).trans (hk b o (fun z => hb (by simp [z])) (fun z => hb (by simp [z])) q)) hf (Nat.le_refl _) new
    have e1 : ((i + 1 : Nat) : Int) = (i : Int) + 1 := by omega
    refine ⟨.ref s.heap.objs.size, _, I1, rfl, ⟨_, x, rfl, I.hok.fresh (Nat.le_refl _), rfl, ax⟩, ⟨⟨u, by rw [e1]; exact he'⟩, kp _ _ _ (hto _ hs') fun o q => (sb.2 it (Ne.symm hne)).trans q⟩, fun b hb => ?_⟩
    have hb' : b < s.heap.objs.size := by
      simp only [List.mem_cons, List.not_mem_nil, or_false] at hb
      rcases hb with rfl | rfl
      · exact hel
      · exact hil
    rw [upd_ne (Nat.ne_of_lt hb')]
    exact (hf b hb).1
  done := by
    intro X hP hw hK hc i pins s σ H E I hf st hg
    obtain ⟨fp, n, Pw, St2, Dw, hef, h2, hto, _, hstop⟩ := dr X hP hw hK hc i pins s σ H I st.2 st.1 (Or.inr hg)
    obtain ⟨⟨old, he⟩, hst⟩ := st
    obtain ⟨f0, f1, f2, f3, f4, f5⟩ := hf it (by simp)
    have en := hstop hg
    subst en
    exact wpAny_pyNext_enum_endD Dw he h2 fun h' eb => ⟨rfl, I.turned (t' := s.toks) (fun b o hb q => eb b o hb q) f0 f1 f3 f4 f5⟩
  self := fun A i s Q E st h => let ⟨⟨_, he⟩, _⟩ := st; wpAny_pyIter_enum he h
/-- over a tuple -/
def IteT (K : PySem.W.Frag) (a : Addr) : It := Iten (fun i H => ∃ (xs : List V) (x : V), SqT K H a xs ∧ xs[i]? = some x) (fun i H x => ∀ xs, SqT K H a xs → xs[i]? = some x) (fun i H => ∃ xs : List V, SqT K H a xs ∧ xs.length = i)
theorem turn_enT {P : Program} {w : World} {K : PySem.W.Frag} {elts : List Expr} {kk : Nat} {tpos : Pos} (a e it : Addr) (hne : e ≠ it) (hei : it ≠ a) (hea : e ≠ a) : Turn P w K (.Tuple elts kk tpos) (IteT K a) [e, it] e (fun i h => (∃ old, IsEnum h e it ((i : Nat) : Int) old) ∧ h.IsTupleIter it a i) := by
  refine turn_en e it (fun i h => h.IsTupleIter it a i) hne (fun i h st => ?_) (fun i h h' st k => st.at k) fun X hP hw hK hc i pins s σ H I st he hg => ?_
  · obtain ⟨o, ho, _, hd⟩ := st
    exact ⟨o, ho, fun v q => by rw [hd] at q; cases q⟩
  · subst hP hw hK
    have hq : ∃ xs, SqT X.K H a xs := by
      rcases hg with ⟨xs, _, h, _⟩ | ⟨xs, h, _⟩ <;> exact ⟨xs, h⟩
    obtain ⟨xs, hq⟩ := hq
    obtain ⟨its, rv, p, hz⟩ := I.tuple hq
    have hl := rv.length
    refine ⟨[it, a], its.toArray.size, _, _, Draws.tuple (show X.A.in1.handled = none from I.ok.hd hc) it a hei.symm its.toArray, by simp [hne, hea], ⟨st, p⟩, fun h' z => z.1, fun hg => ?_, fun hg => ?_⟩
    · obtain ⟨ys, x, h1, h2⟩ := hg
      rw [I.tuple_inj h1 hq] at h2
      obtain ⟨u, h3, h4⟩ := rv.get h2
      refine ⟨by have := (List.getElem?_eq_some_iff.mp h2).1; simp; omega, fun u' hu' => ⟨x, ?_, fun zs hzs => by rw [I.tuple_inj hzs hq]; exact h2⟩⟩
      have e0 : some u' = some u := by rw [← hu', ← h3]; simp
      cases e0
      exact h4
    · obtain ⟨ys, h1, h2⟩ := hg
      rw [I.tuple_inj h1 hq] at h2
      simp; omega
/-- over a text -/
def IteS (z : Str) : It := Iten (fun i _ => i < z.cps.size) (fun i _ x => ∃ k, z.cps[i]? = some k ∧ x = .str ⟨#[k]⟩) (fun i _ => i = z.cps.size)
theorem turn_enS {P : Program} {w : World} {K : PySem.W.Frag} {elts : List Expr} {kk : Nat} {tpos : Pos} (z : Str) (t : Tok) (e it : Addr) (hne : e ≠ it) : Turn P w K (.Tuple elts kk tpos) (IteS z) [e, it] e (fun i h => (∃ old, IsEnum h e it ((i : Nat) : Int) old) ∧ h.IsStrIter it (strIterType z) z t i) := by
  refine turn_en e it (fun i h => h.IsStrIter it (strIterType z) z t i) hne (fun i h st => ?_) (fun i h h' st k => ?_) fun X hP hw hK hc i pins s σ H I st he hg => ?_
  · obtain ⟨o, ho, _, hd⟩ := st
    exact ⟨o, ho, fun v q => by rw [hd] at q; cases q⟩
  · obtain ⟨o, ho, r⟩ := st
    exact ⟨o, k o ho, r⟩
  · subst hP hw hK
    refine ⟨[it], z.cps.size, _, _, Draws.text (show X.A.in1.handled = none from I.ok.hd hc) it z t, by simp [hne], st, fun h' q => q, fun hg => ⟨hg, fun u hu => ?_⟩, fun hg => hg⟩
    obtain ⟨k, tk, h1, rfl⟩ := hu
    exact ⟨.str ⟨#[k]⟩, ⟨tk, rfl⟩, k, h1, rfl⟩
def iEnumT (K : PySem.W.Frag) (ta : TA) : TI := fun σ H R => ta σ H fun vs H1 => ∃ a xs, vs = [.ref a] ∧ SqT K H1 a xs ∧ R (IteT K a) H1
def iEnumS (ta : TA) : TI := fun σ H R => ta σ H fun vs H1 => ∃ z, vs = [.str z] ∧ R (IteS z) H1
section
variable {X : Cx} {e : Expr} {ta : TA} {p pos tpos : Pos} {elts : List Expr} {kk : Nat}
theorem pi_enumT (hg : Gl X "enumerate") (hm : X.mg "enumerate" = none) (ha : PA X [e] ta) (hs : starEach [e] X.env = [(false, eval e X.env)] := by rfl) : PI X (.Tuple elts kk tpos) (.Call (.Name "enumerate" p) [e] [] pos) (iEnumT X.K ta) := by
  refine ⟨fun pins s σ H R I h => Call_ (ld_blt I hg hm bt_enumerate (PyProof.Rows.callWith_type1 (thn (ha.run pos pins s σ H _ I h) fun us s1 q1 => ?_) hs rfl))⟩
  obtain ⟨vs, H1, I1, r1, a, xs, rfl, hq, q⟩ := q1
  cases r1 with
  | cons r rr =>
    cases rr
    cases r
    obtain ⟨its, rv, p', hz⟩ := I1.tuple hq
    have hal : a < s1.heap.objs.size := by
      obtain ⟨o, ho, _⟩ := p'
      exact Heap.lt_size ho
    refine enum_begin1 (begins_tuple a its.toArray) p' fun h' he hit hk => wpAny_pyIter_enum he ?_
    have I2 : Inv X pins σ H1 { s1 with heap := h' } := I1.kept (t' := s1.toks) hk
    refine ⟨s1.heap.objs.size + 1, [s1.heap.objs.size + 1, s1.heap.objs.size], _, _, H1, rfl, I2, turn_enT a (s1.heap.objs.size + 1) s1.heap.objs.size (Nat.succ_ne_self _) (Nat.ne_of_gt hal) (Nat.ne_of_gt (Nat.lt_succ_of_lt hal)), ⟨⟨.none, he⟩, ⟨_, hit, rfl, rfl⟩⟩, fun b hb => ?_, q⟩
    have hle : s1.heap.objs.size ≤ b := by
      simp only [List.mem_cons, List.not_mem_nil, or_false] at hb
      rcases hb with rfl | rfl
      · exact Nat.le_succ _
      · exact Nat.le_refl _
    exact I1.fpOk hle (I1.hok.fresh hle)
theorem pi_enumS (hg : Gl X "enumerate") (hm : X.mg "enumerate" = none) (ha : PA X [e] ta) (hs : starEach [e] X.env = [(false, eval e X.env)] := by rfl) : PI X (.Tuple elts kk tpos) (.Call (.Name "enumerate" p) [e] [] pos) (iEnumS ta) := by
  refine ⟨fun pins s σ H R I h => Call_ (ld_blt I hg hm bt_enumerate (PyProof.Rows.callWith_type1 (thn (ha.run pos pins s σ H _ I h) fun us s1 q1 => ?_) hs rfl))⟩
  obtain ⟨vs, H1, I1, r1, z, rfl, q⟩ := q1
  cases r1 with
  | cons r rr =>
    cases rr
    obtain ⟨t, rfl⟩ := r
    refine enum_begin1 (begins_text z t) trivial fun h' he hit hk => wpAny_pyIter_enum he ?_
    have I2 : Inv X pins σ H1 { s1 with heap := h' } := I1.kept (t' := s1.toks) hk
    refine ⟨s1.heap.objs.size + 1, [s1.heap.objs.size + 1, s1.heap.objs.size], _, _, H1, rfl, I2, turn_enS z t (s1.heap.objs.size + 1) s1.heap.objs.size (Nat.succ_ne_self _), ⟨⟨.none, he⟩, ⟨_, hit, rfl, rfl⟩⟩, fun b hb => ?_, q⟩
    have hle : s1.heap.objs.size ≤ b := by
      simp only [List.mem_cons, List.not_mem_nil, or_false] at hb
      rcases hb with rfl | rfl
      · exact Nat.le_succ _
      · exact Nat.le_refl _
    exact I1.fpOk hle (I1.hok.fresh hle)
end
/-! the data walked -/
def enD (ds : List PyData) : List PyData := ds.zipIdx.map fun p => .tuple [nD p.2, p.1]
theorem enD_len (ds : List PyData) : (enD ds).length = ds.length := by simp [enD]
theorem enD_get {ds : List PyData} {i : Nat} {d : PyData} (h : (enD ds)[i]? = some d) : ∃ x, ds[i]? = some x ∧ d = .tuple [nD i, x] := by
  unfold enD at h
  rw [List.getElem?_map, List.getElem?_zipIdx] at h
  cases e : ds[i]? with
  | none => rw [e] at h; cases h
  | some x =>
    rw [e] at h
    refine ⟨x, rfl, ?_⟩
    have h := Option.some.inj h
    rw [← h]
    simp
section
variable {c : Ct} {env : List Sl} {te : TE} {ds : List PyData} {K : PySem.W.Frag}
theorem pair_new {F2 H : Hp} {i : Nat} {x : PyData} {v : V} {T : Addr} (e2 : Ex F2 H) (hT : H T = none) (hv : Dt F2 x v) : ∃ F3, Stp H F2 (upd H T (.tup [.int (i : Nat), v])) F3 ∧ Dt F3 (.tuple [nD i, x]) (.ref T) :=
  ⟨_, Stp.new e2 hT, T, _, rfl, upd_same, Dts.cons rfl (Dts.cons (hv.mono (Ex.new (e2.free hT))) Dts.nil)⟩
theorem ei_enum (h : EvE c te env (.list ds)) : EvI c (iEnum K (tCons te tNil)) env (enD ds) := fun σ F H fps R P q => h σ F H fps R _ fun v F1 H1 s1 h1 => by
  obtain ⟨a, xs, rfl, h3, h4⟩ := h1
  refine ⟨a, xs, rfl, SqL.of (s1.h _ _ h3), q _ F1 H1 s1 fun i H F2 e1 e2 => ⟨fun d hd => ?_, fun hi => ⟨xs, SqL.of (e2 _ _ (e1 _ _ h3)), by rw [h4.length]; rw [enD_len] at hi; omega⟩⟩⟩
  obtain ⟨x, hx, rfl⟩ := enD_get hd
  obtain ⟨v, g1, g2⟩ := h4.get hx
  refine ⟨⟨xs, v, SqL.of (e2 _ _ (e1 _ _ h3)), g1⟩, fun y H' hy => ?_⟩
  obtain ⟨T, u, rfl, hT, rfl, hu⟩ := hy
  have e0 : some v = some u := g1.symm.trans (hu xs (SqL.of (e2 _ _ (e1 _ _ h3))))
  cases e0
  exact pair_new e2 hT (g2.mono e1)
theorem ei_enumT (h : EvE c te env (.tuple ds)) : EvI c (iEnumT K (tCons te tNil)) env (enD ds) := fun σ F H fps R P q => h σ F H fps R _ fun v F1 H1 s1 h1 => by
  obtain ⟨a, xs, rfl, h3, h4⟩ := h1
  have hz : ∀ F2 H, Ex F1 F2 → Ex F2 H → SqT K H a xs := fun F2 H e1 e2 => SqT.of (e2 _ _ (e1 _ _ h3))
  refine ⟨a, xs, rfl, SqT.of (s1.h _ _ h3), q _ F1 H1 s1 fun i H F2 e1 e2 => ⟨fun d hd => ?_, fun hi => ?_⟩⟩
  · obtain ⟨x, hx, rfl⟩ := enD_get hd
    obtain ⟨v, g1, g2⟩ := h4.get hx
    refine ⟨⟨xs, v, hz _ _ e1 e2, g1⟩, fun y H' hy => ?_⟩
    obtain ⟨T, u, rfl, hT, rfl, hu⟩ := hy
    have e0 : some v = some u := g1.symm.trans (hu xs (hz _ _ e1 e2))
    cases e0
    exact pair_new e2 hT (g2.mono e1)
  · exact ⟨xs, hz _ _ e1 e2, by rw [h4.length, hi, enD_len]⟩
theorem ei_enumS {z : Str} (h : EvE c te env (.str z)) : EvI c (iEnumS (tCons te tNil)) env (enD (strD z)) := fun σ F H fps R P q => h σ F H fps R _ fun v F1 H1 s1 h1 => by
  have h1 : v = .str z := h1
  subst h1
  have hl : (strD z).length = z.cps.size := by simp [strD]
  refine ⟨z, rfl, q _ F1 H1 s1 fun i H F2 e1 e2 => ⟨fun d hd => ?_, fun hi => by rw [enD_len, hl] at hi; exact hi⟩⟩
  obtain ⟨x, hx, rfl⟩ := enD_get hd
  have hi := (List.getElem?_eq_some_iff.mp hx).1
  rw [hl] at hi
  refine ⟨hi, fun y H' hy => ?_⟩
  obtain ⟨T, u, rfl, hT, rfl, k, hk, rfl⟩ := hy
  unfold strD at hx
  rw [List.getElem?_map, Array.getElem?_toList, hk] at hx
  cases hx
  exact pair_new e2 hT rfl
end
end Nr
set_option Elab.async false
set_option linter.all false
set_option maxRecDepth 100000
set_option maxHeartbeats 4000000
namespace Nr
open PySem PySem.Spec PyProof.Rows L2
/-! ### the pairs of a dict with tuple keys -/
section
variable {X : Cx} {pins : List (Addr × Obj)} {σ : L2.St} {H : Hp} {s : Shared} {d : Addr} {o : Obj}
theorem frzT2 {kvs : List (List L2.Key × V)} (I : Inv X pins σ H s) (h : H d = some (.frz o (.dT kvs))) :
    (d == sysModules) = false ∧ s.heap.get? d = some o ∧ o.ExactDict ∧ ∃ (es : Array DictEntry) (ep : Nat), o.data = .dict es ep ∧ es.size = kvs.length ∧
      ∀ (i : Nat) k v, kvs[i]? = some (k, v) → ∃ (en : DictEntry) (q : Addr), es[i]? = some en ∧ en.key = .ref q ∧ H q = some (.tup (k.map kV)) ∧ RelV v en.val := by
  obtain ⟨hd, z, hs, xs, pr, o', es, ep, ho, hx, hdt, he, _⟩ := I.hok d _ h
  rw [hd] at ho
  cases ho
  refine ⟨hs, hd, hx, es, ep, hdt, by rw [size_of_entries he, Paired.length pr], fun i k v e => ?_⟩
  obtain ⟨b, hb, e1, e2, e3⟩ := paired_get pr e
  have q := entry_at he i
  rw [hb] at q
  exact ⟨_, b.2.1, q, rfl, e2, e3⟩
end
def Itit (d : Addr) (o : Obj) (kvs : List (List L2.Key × V)) : It :=
  ⟨fun i H => H d = some (.frz o (.dT kvs)) ∧ i < kvs.length, fun i H x H' => ∃ T q k v, kvs[i]? = some (k, v) ∧ x = .ref T ∧ H T = none ∧ H q = some (.tup (k.map kV)) ∧ H' = upd H T (.tup [.ref q, v]), fun i H => H d = some (.frz o (.dT kvs)) ∧ kvs.length ≤ i⟩
theorem turn_itT {P : Program} {w : World} {K : PySem.W.Frag} {d : Addr} {o : Obj} {es : Array DictEntry} {ep : Nat} {kvs : List (List L2.Key × V)} {elts : List Expr} {kk : Nat} {tpos : Pos} (it : Addr) (hod : o.data = .dict es ep) :
    Turn P w K (.Tuple elts kk tpos) (Itit d o kvs) [it] it (fun i h => ∃ ok ov, IsItemIter h it d i es.size ep ok ov) where
  mem := by simp
  obj := fun i h st b hb => by
    rw [List.mem_singleton] at hb
    subst hb
    obtain ⟨ok, ov, e⟩ := st
    exact ⟨_, e, fun v z => nomatch z⟩
  keep := fun i h h' st k => by
    obtain ⟨ok, ov, e⟩ := st
    exact ⟨ok, ov, k it (by simp) _ e⟩
  item := by
    intro X hP hw hK hc i pins s σ H E I hf st hg
    subst hP hw hK
    obtain ⟨hd, hi⟩ := hg
    obtain ⟨hs, hgd, hx, es', ep', hdt, hsz, hat⟩ := frzT2 I hd
    obtain ⟨rfl, rfl⟩ := dict_ep hod hdt
    obtain ⟨⟨k, v⟩, hkv⟩ : ∃ p, kvs[i]? = some p := ⟨kvs[i], List.getElem?_eq_getElem hi⟩
    obtain ⟨en, q, hen, hkey, hq, rv⟩ := hat i k v hkv
    obtain ⟨ok, ov, he⟩ := st
    have hlt : it < s.heap.objs.size := Heap.lt_size he
    have hi2 : i < es'.size := by omega
    have een : es'[i] = en := by
      rw [Array.getElem?_eq_getElem hi2] at hen
      exact Option.some.inj hen
    refine wpAny_pyNext_items_item_raw he ⟨o, hgd, hx, hdt⟩ hi2 fun h' ho hT hz hk => ?_
    rw [een] at ho hT
    refine ⟨_, rfl, wpAny_letOwnedTupleGo_items (s := { s with heap := h' }) ho fun h'' he' sb => ?_⟩
    have hT2 := (sb.2 _ (Nat.ne_of_gt hlt)).trans hT
    have new : ObjOk X.prog X.w (upd H s.heap.objs.size (.tup [.ref q, v])) h'' s.heap.objs.size (.tup [.ref q, v]) :=
      ⟨by show 2 ≤ sizeLine; decide, [en.key, en.val], .cons hkey (.cons rv .nil), ⟨_, hT2, rfl, _, rfl⟩⟩
    have I1 : Inv X pins σ (upd H s.heap.objs.size (.tup [.ref q, v])) { s with heap := h'' } :=
      I.turnedNew (t' := s.toks) (ch := [it]) (fun b ob hb e => (sb.2 b (by simpa using hb)).trans (hk b ob (by simpa using hb) e)) hf (Nat.le_refl _) new
    refine ⟨.ref s.heap.objs.size, _, I1, rfl, ⟨_, q, k, v, hkv, rfl, I.hok.fresh (Nat.le_refl _), hq, rfl⟩, ⟨en.key, en.val, he'⟩, fun b hb => ?_⟩
    rw [List.mem_singleton] at hb
    rw [hb, upd_ne (Nat.ne_of_lt hlt)]
    exact (hf it (by simp)).1
  done := by
    intro X hP hw hK hc i pins s σ H E I hf st hg
    subst hP hw hK
    obtain ⟨hd, hi⟩ := hg
    obtain ⟨f0, f1, f2, f3, f4, f5⟩ := hf it (by simp)
    obtain ⟨hs, hgd, hx, es', ep', hdt, hsz, hat⟩ := frzT2 I hd
    obtain ⟨rfl, rfl⟩ := dict_ep hod hdt
    obtain ⟨ok, ov, he⟩ := st
    exact wpAny_pyNext_items_end_raw (I.ok.hd hc) he ⟨o, hgd, hx, hdt⟩ (by omega) fun h' eb => ⟨rfl, I.turned (t' := s.toks) (fun b ob hb e => eb b ob hb e) f0 f1 f3 f4 f5⟩
  self := fun A i s Q E st h => by
    obtain ⟨_, _, e⟩ := st
    exact PySem.W.kcp_self e h
/-- .. of a dict that nobody else holds *) -/
def iItemsT (td : TE) : TI := fun σ H R => td σ H fun x H1 => ∃ d kvs, x = .ref d ∧ H1 d = some (.dT kvs) ∧ ∀ o, R (Itit d o kvs) (upd H1 d (.frz o (.dT kvs)))
theorem pi_itemsT {X : Cx} {e : Expr} {td : TE} {apos cpos : Pos} {elts : List Expr} {kk : Nat} {tpos : Pos} (he : PE X e td) (hbase : attributeBase e "items" X.env (eval e X.env) = eval e X.env := by rfl) (hline : (apos.endLine == cpos.line) = true := by rfl) :
    PI X (.Tuple elts kk tpos) (.Call (.Attribute e "items" apos) [] [] cpos) (iItemsT td) := by
  refine ⟨fun pins s σ H R I h => ?_⟩
  refine wpAny_Call_method (T := "dict") (id := "dict.items") hbase rfl hline F.plainAttrs_dict F.slot_dict_items F.type_dict_items (thn (he.run pins s σ H _ I h) fun u s1 ⟨x, H1, J1, rx, d, kvs, ex, hd, q⟩ => ?_)
  subst ex
  obtain rfl : u = Value.ref d := rx
  obtain ⟨o, I1⟩ := J1.lock hd trivial
  replace q := q o
  obtain ⟨hs, hgd, hx, es, ep, hdt, hsz, hat⟩ := frzT2 I1 upd_same
  have raw : s1.heap.DictRaw d es ep := ⟨o, hgd, hx, hdt⟩
  refine ⟨raw.typeIs, fun a z => ?_, ?_⟩
  · cases z
    exact ⟨o, hgd, hx.2.1⟩
  have I2 : Inv X pins σ (upd H1 d (.frz o (.dT kvs))) { s1 with heap := s1.heap.push { cls := .type "dict_items", data := .fields #[.ref d] } } := I1.kept (t' := s1.toks) fun b ob q => Heap.get?_push_of_some _ q
  have fin : wpAny (model X.prog X.w) X.A (pyIter (.ref s1.heap.objs.size)) (PIE X pins σ (.Tuple elts kk tpos) R) X.xe { s1 with heap := s1.heap.push { cls := .type "dict_items", data := .fields #[.ref d] } } := by
    refine wpAny_pyIter_items_raw (d := d) ⟨_, Heap.get?_push_size _ rfl, rfl, rfl⟩ ⟨o, Heap.get?_push_of_some _ hgd, hx, hdt⟩ (pi_one (tk := s1.toks) I2 _ (turn_itT _ hdt) ⟨.none, .none, ?_⟩ q)
    exact Heap.get?_push_size _ rfl
  show wpAny _ _ (callWith cpos (.builtin "dict.items") [.ref d] [] []) _ X.xe s1
  exact method_meetsIn F.slot_dict_items F.entry_dict_items rfl (PySem.evalArgs_none ⟨rfl, raw.typeIs, F.args_dict_items_1 _, _, meets_dict_items_raw d hs, ⟨es, ep, raw⟩, fin⟩)
def prD (kvs : List (List L2.Key × PyData)) : List PyData := kvs.map fun p => .tuple [.tuple (p.1.map kD), p.2]
theorem dt_kV (F : Hp) (k : L2.Key) : Dt F (kD k) (kV k) := by
  cases k <;> rfl
theorem dts_kV (F : Hp) : ∀ ks : List L2.Key, Dts F (ks.map kD) (ks.map kV)
  | [] => rfl
  | k :: ks => Dts.cons (dt_kV F k) (dts_kV F ks)
theorem dkv_get {κ : Type} {F : Hp} {kvs : List (κ × PyData)} {ws : List (κ × V)} (h : Dkv F kvs ws) : ∀ {i : Nat} {k : κ} {v : V}, ws[i]? = some (k, v) → ∃ d, kvs[i]? = some (k, d) ∧ Dt F d v := by
  induction h with
  | nil => intro i k v e; simp at e
  | @cons p q ps qs hq t ih =>
    intro i k v e
    cases i with
    | zero =>
      have e : q = (k, v) := by simpa using e
      subst e
      obtain ⟨k0, d0⟩ := p
      obtain ⟨h1, h2⟩ := hq
      have h1 : k0 = k := h1
      subst h1
      exact ⟨d0, rfl, h2⟩
    | succ i => simpa using ih (i := i) (k := k) (v := v) (by simpa using e)
theorem walks_itT {F : Hp} {d : Addr} {o : Obj} {kvs : List (List L2.Key × PyData)} {ws : List (List L2.Key × V)} (hd : F d = some (.frz o (.dT ws))) (hk : Dkv F kvs ws) : Walks (Itit d o ws) F (prD kvs) := fun i H F2 e1 e2 => by
  have hl := hk.len
  refine ⟨fun x hx => ?_, fun e => ⟨e2 _ _ (e1 _ _ hd), by rw [e]; simp [prD, hl]⟩⟩
  obtain ⟨⟨k, dv⟩, hkv, rfl⟩ := get_map hx
  have hi : i < kvs.length := (List.getElem?_eq_some_iff.mp hkv).1
  refine ⟨⟨e2 _ _ (e1 _ _ hd), by omega⟩, fun v H' hy => ?_⟩
  obtain ⟨T, q, k', v', h1, rfl, h2, h3, rfl⟩ := hy
  obtain ⟨dv', h4, h5⟩ := dkv_get hk h1
  rw [hkv] at h4
  cases h4
  obtain ⟨F3, s3, h6⟩ := Stp.tup e2 h3
  have s4 := Stp.new (o := .tup [.ref q, v']) s3.h h2
  refine ⟨_, s3.trans s4, T, [.ref q, v'], rfl, upd_same, .cons ?_ (.cons ?_ .nil)⟩
  · exact ⟨q, _, rfl, s4.f _ _ h6, dts_kV _ _⟩
  · exact h5.mono (e1.trans (s3.f.trans s4.f))
section
variable {c : Ct} {env : List Sl} {t : TA} {ds : List PyData} {E : XK}
theorem ei_itemsT {R : List PyData → (List (List L2.Key × PyData) → Prop) → Prop} {kvs : List (List L2.Key × PyData)} (ha : EvA c t env ds) (hR : R ds (fun k => k = kvs)) : EvI c (iItemsT (tCall (PD R) [] E t)) env (prD kvs) := fun σ F H fps Rs P q =>
  ha σ F H fps Rs _ fun vs F1 H1 s1 h1 => ⟨F1, ds, _, s1.h, by rw [List.append_nil]; exact h1, hR, fun k' p ws F2 H2 ek s2 n1 n2 hp hk => by
    subst ek
    refine ⟨p, ws, rfl, hp, fun o => ?_⟩
    have s3 : Stp H1 F1 (upd H2 p (.frz o (.dT ws))) (upd F2 p (.frz o (.dT ws))) := by
      refine ⟨s2.f.trans (Ex.new n2), fun a u e => ?_, s2.e.mut n1, fun b hb => ?_⟩
      · by_cases z : a = p
        · subst z; rw [upd_same] at e ⊢; exact e
        · rw [upd_ne z] at e ⊢; exact s2.h _ _ e
      · have z : b ≠ p := fun z => hb (by rw [z]; exact n1)
        have e : upd F2 p (.frz o (.dT ws)) b = F2 b := upd_ne z
        show Nb _ _ _
        unfold Nb
        rw [e]; exact s2.n b hb
    exact q _ (upd F2 p (.frz o (.dT ws))) _ (s1.trans s3) (walks_itT upd_same (hk.mono (Ex.new n2)))⟩
end
end Nr
set_option Elab.async false
set_option linter.all false
set_option maxRecDepth 100000
set_option maxHeartbeats 4000000
namespace Nr
open PySem PySem.Spec PyProof.Rows L2
open PySem.W (maxOf max_tuple_datum DatumOrd Datum)
/-! ### the class Plan, its methods -/
structure Mkc (P : Program) (w : World) (K : PySem.W.Frag) (mg : Str → Option Value) (base : Heap) (k : Nat) (C : Addr) (sp : Sp) : Prop where
  ex : ∃ (f : Addr) (fd : FuncData) (ps : List Str), Mk K C f ∧ FnOk P w K mg base CX0 k f fd ps sp ∧ mg "Plan" = some (.ref C) ∧ Binds K fd ps []
section
variable {X : Cx} {k j : Nat} {C : Addr} {x m : Str} {sp : Sp} {p pos apos : Pos} {e o : Expr} {es : List Expr} {ta : TE} {t : TA}
theorem pe_mk0 (c : Mkc X.prog X.w X.K X.mg X.base k C sp) (hr : Room j X.A) (hk : k + 1 ≤ j) (hg : Gl X "Plan") : PE X (.Call (.Name "Plan" p) [] [] pos) (tMake C sp [] E0 tNil) := by
  obtain ⟨f, fd, ps, M, F, hm, b⟩ := c.ex
  exact pe_make0 M F (hr.mono hk) hg hm b .nil pass0
theorem pe_mtC {pl : Sem Bool} (c : Mt X.prog X.w X.K X.mg X.base k C m sp) (hr : Room j X.A) (hk : k ≤ j) (he : PE X o ta) (ha : PA X (e :: es) t)
    (hst : starEach (e :: es) X.env = (false, eval e X.env) :: starEach es X.env := by rfl) (hpl : (backTo pos (starEach es X.env)).any (·.1) = false := by rfl)
    (ht : eval (.Call (.Attribute o m apos) (e :: es) [] pos) X.env = (do
      let ov ← eval o X.env
      standAt apos.atName
      let (f, first) ← holding [ov] (getMethod ov m pl)
      callWith pos f first (backTo pos (starEach (e :: es) X.env)) (backToKw pos (keywordEach [] X.env))) := by rfl) : PE X (.Call (.Attribute o m apos) (e :: es) [] pos) (tMeth C m sp [] E0 ta t) := by
  obtain ⟨f, fd, ps, hc, hm, F, b⟩ := c.ex
  exact pe_meth (pl := pl) he hc hm F (hr.mono hk) b .nil pass0 ha hst hpl ht
/-! ### three comparisons -/
def tChain3 (r r' r'' : R2) (ta tb tc td : TE) : TE := fun σ H Q => ta σ H fun x H1 => tb σ H1 fun y H2 => r x y H2 fun c H3 => ∃ k, c = .bl k ∧ if k = true then (tc σ H3 fun z H4 => r' y z H4 fun c' H5 => ∃ k', c' = .bl k' ∧ if k' = true then (td σ H5 fun u H6 => r'' z u H6 Q) else Q (.bl false) H5) else Q (.bl false) H3
theorem pe_chain3 {a b c d : Expr} {tb tc td : TE} {op op' op'' : CmpOp} {r r' r'' : R2} (ho : OpR X (compareOp op) r) (ho' : OpR X (compareOp op') r') (ho'' : OpR X (compareOp op'') r'') (ha : PE X a ta) (hb : PE X b tb) (hc : PE X c tc) (hd : PE X d td)
    (hm : lastMarks [op, op', op''] [b, c, d] = false := by with_unfolding_all rfl) : PE X (.Compare a [op, op', op''] [b, c, d] pos) (tChain3 r r' r'' ta tb tc td) := by
  refine ⟨fun pins s σ H Q I h => ?_⟩
  refine Compare_chain (thn (ha.run pins s σ H _ I h) fun v s1 ⟨x, H1, I1, r1, q1⟩ => chain_link (thn (hb.run pins s1 σ H1 _ I1 q1) fun u s2 ⟨y, H2, I2, r2, q2⟩ =>
    thn (ho pins s2 σ H2 x y v u _ I2 r1 r2 q2) fun d s3 ⟨z, H3, I3, r3, k, e, q3⟩ => ?_)) hm
  subst e
  cases r3
  refine wpAny_truthy_bool ?_
  cases k with
  | false => exact ite_ff ⟨.bl false, H3, I3, rfl, q3⟩
  | true =>
    refine ite_tt (chain_link (thn (hc.run pins s3 σ H3 _ I3 q3) fun w' s4 ⟨z', H4, I4, r4, q4⟩ => thn (ho' pins s4 σ H4 y z' u w' _ I4 r2 r4 q4) fun d' s5 ⟨z2, H5, I5, r5, k2, e2, q5⟩ => ?_))
    subst e2
    cases r5
    refine wpAny_truthy_bool ?_
    cases k2 with
    | false => exact ite_ff ⟨.bl false, H5, I5, rfl, q5⟩
    | true => exact ite_tt (chain_last (thn (hd.run pins s5 σ H5 _ I5 q5) fun w6 s6 ⟨z6, H6, I6, r6, q6⟩ => ho'' pins s6 σ H6 z' z6 w' w6 Q I6 r4 r6 q6))
end
section
variable {c : Ct} {env : List Sl} {ta tb tc td : TE} {x y z u : PyData} {r r' r'' : R2} {k k' k'' : Bool}
theorem ev_chain3 (ha : EvE c ta env x) (hb : EvE c tb env y) (hr : Rv r x y (.bool k)) (hc : k = true → EvE c tc env z) (hr' : k = true → Rv r' y z (.bool k')) (hd : k = true → k' = true → EvE c td env u) (hr'' : k = true → k' = true → Rv r'' z u (.bool k'')) :
    EvE c (tChain3 r r' r'' ta tb tc td) env (.bool (k && (k' && k''))) := fun σ F H fps R Q q =>
  ha σ F H fps R _ fun v F1 H1 s1 h1 => hb σ F1 H1 fps (R.ext s1) _ fun w F2 H2 s2 h2 => hr F2 H2 v w s2.h (h1.mono s2.f) h2 _ fun b F3 H3 s3 h3 => by
    have s123 := (s1.trans s2).trans s3
    refine ⟨k, h3, ?_⟩
    cases k with
    | false => exact q _ F3 H3 s123 rfl
    | true =>
      refine hc rfl σ F3 H3 fps (R.ext s123) _ fun w3 F4 H4 s4 h4 => hr' rfl F4 H4 w w3 s4.h ((h2.mono s3.f).mono s4.f) h4 _ fun b2 F5 H5 s5 h5 => ⟨k', h5, ?_⟩
      have s15 := (s123.trans s4).trans s5
      cases k' with
      | false => exact q _ F5 H5 s15 rfl
      | true => exact hd rfl rfl σ F5 H5 fps (R.ext s15) _ fun w4 F6 H6 s6 h6 => hr'' rfl rfl F6 H6 w3 w4 s6.h ((h4.mono s5.f).mono s6.f) h6 _ fun b3 F7 H7 s7 h7 => q b3 F7 H7 ((s15.trans s6).trans s7) h7
end
/-! ### max of a tuple of numbers -/
def rMaxT (K : PySem.W.Frag) : List V → Hp → VK → Prop := fun vs H Q => ∃ (a : Addr) (ns : List Int), vs = [V.ref a] ∧ SqT K H a (ns.map V.int) ∧ 0 < ns.length ∧ ∀ m, m ∈ ns → (∀ y, y ∈ ns → y ≤ m) → Q (.int m) H
theorem maxOf_int (x : Int) : ∀ xs : List Int, (maxOf x xs) ∈ x :: xs ∧ ∀ y ∈ x :: xs, y ≤ maxOf x xs
  | [] => by simp [maxOf]
  | z :: xs => by
    have e : maxOf x (z :: xs) = maxOf (if x < z then z else x) xs := by
      show xs.foldl _ (if DatumOrd.lt x z = true then z else x) = _
      have : (DatumOrd.lt x z = true) = (x < z) := by show (decide (x < z) = true) = _; simp
      simp only [this]
      rfl
    rw [e]
    obtain ⟨h1, h2⟩ := maxOf_int (if x < z then z else x) xs
    have h3 := h2 _ List.mem_cons_self
    constructor
    · rcases List.mem_cons.mp h1 with h | h
      · rw [h]; split <;> simp
      · simp [h]
    · intro y hy
      rcases List.mem_cons.mp hy with rfl | hy
      · refine Int.le_trans ?_ h3
        split <;> omega
      · rcases List.mem_cons.mp hy with rfl | hy
        · refine Int.le_trans ?_ h3
          split <;> omega
        · exact h2 y (List.mem_cons_of_mem _ hy)
theorem reads_ints {h : Heap} : ∀ {ns : List Int} {us : List Value}, IntsAre us ns → ∃ as, ReadsAll h us (ns.map Datum.toD) as
  | _, _, .nil => ⟨[], .nil⟩
  | _, _, .cons n t r => by
    obtain ⟨as, q⟩ := reads_ints (h := h) r
    exact ⟨_, .cons (.int n t) q⟩
theorem cr_maxT {X : Cx} {j : Nat} (hc : X.calm = true) (hr : Room j X.A) : CallR X (.builtin "max") (rMaxT X.K) := by
  intro pins s σ H vs us Q I r h
  obtain ⟨a, ns, rfl, hs, hne, q⟩ := h
  obtain ⟨its, rv, hl, _⟩ := I.tuple hs
  rw [Vals.ref1 r]
  have hi := ints_of_vals rv
  cases ns with
  | nil => exact absurd hne (Nat.lt_irrefl 0)
  | cons n ns =>
    have hu := hr.units
    refine max_tuple_datum (α := Int) (x := n) (xs := ns) (I.ok.hd hc) (show s.heap.IsTuple a its.toArray from hl) (reads_ints (by simpa using hi)) (by show X.A.units + 1 + 0 < cLine; omega) fun i v h' tk _ hv hk => ?_
    obtain ⟨as, hv⟩ := hv
    obtain ⟨t, rfl, _⟩ := reads_int_inv (show Reads h' v (.int (maxOf n ns)) as from hv)
    exact ⟨.int (maxOf n ns), H, I.kept hk, ⟨t, rfl⟩, q _ (maxOf_int n ns).1 (maxOf_int n ns).2⟩
theorem rc_maxT {K : PySem.W.Frag} {ns : List Int} {m : Int} (hm : m ∈ ns) (hle : ∀ y ∈ ns, y ≤ m) : Rc (rMaxT K) [.tuple (ns.map .int)] (.int m) := fun F H vs e h Q q => by
  obtain ⟨v, _, rfl, ⟨a, xs, rfl, h1, h2⟩, rfl⟩ := h
  rw [h2.ints_eq] at h1
  refine ⟨a, ns, rfl, SqT.of (e _ _ h1), List.length_pos_of_mem hm, fun m' hm' hle' => ?_⟩
  have e1 : m' = m := Int.le_antisymm (hle _ hm') (hle' _ hm)
  rw [e1]
  exact q _ F H (Stp.refl e) rfl
/-! ### list += tuple -/
theorem meets_iadd_lt (l : Addr) (items : Array Value) (n : Nat) (b : Addr) (items2 : Array Value) (n2 : Nat) (dd : Option Addr) (sl : Array (Option Value)) (h0 : ¬(!items.isEmpty && Builtin.List.listTooLong (items.size + items2.size)) = true) (h1 : items.size ≤ sizeLine) (h2 : items.size + items2.size ≤ sizeLine + 1) :
    Meets (Builtin.«list.__iadd__» ⟨[.ref l, .ref b], []⟩) (fun _ R s => s.heap.get? l = some { cls := .type "list", dict := none, data := .seq items n, slots := #[] } ∧ s.heap.get? b = some { cls := .type "tuple", dict := dd, data := .seq items2 n2, slots := sl } ∧ R (.ok (.ret (Value.ref l))) { s with heap := s.heap.update l (Obj.mapSeq fun x => x ++ items2), toks := s.toks }) :=
  .of_wp fun prog w A R s h => by
    obtain ⟨hp, g, d, tk, os⟩ := s
    obtain ⟨hl, hb, h⟩ := h
    have f2 := F.sub_tuple_tuple
    have f3 := F.sub_list_list
    have f4 := F.sub_tuple_list
    have f5 := F.sub_list_tuple
    have hz : (items ++ items2).size ≤ sizeLine + 1 := by rw [Array.size_append]; exact h2
    wp_walk using (wpAny_updateSeq hl rfl (hz := h1) (_hz' := hz)), wpAny_loadPart' hl, wpAny_loadPart' hb
    exact ⟨_, rfl, h⟩
theorem iadd_lt {M : Model} {A : Around} {E : Value → Shared → Prop} {s : Shared} {a b : Value} {Q : Value → Shared → Prop} (ha : s.TypeIs a "list") (hb : s.TypeIs b "tuple") (h : wpAny M A (call (.builtin "list.__iadd__") [a, b]) Q E s) : wpAny M A (inplaceOp .Add a b) Q E s := by
  have l1 : typeLookup (.type "list") (dunderI "add") = pure (some (.builtin "list.__iadd__")) := PySem.F.slot_list_iadd.lookup
  have l2 : isSeqSlot (some (.builtin "list.__iadd__")) = true := by decide +kernel
  have l3 : fillsInplaceSlot (.type "list") "add" (Operator.Add == .Add) = pure false := by
    show (typeLookup (.type "list") (dunderI "add") >>= fun fi => pure (fi.isSome && !isSeqSlot fi)) = pure false
    rw [l1]
    show (pure (true && !isSeqSlot (some (.builtin "list.__iadd__"))) : Sem Bool) = pure false
    rw [l2]
    rfl
  unfold inplaceOp
  refine wpAny_holding (wpAny_bind (wpAny_typeOf ha (wpAny_bind (wpAny_of_eq l3 ?_))))
  show wpAny M A (if false = true then _ else _) Q E s
  rw [if_neg Bool.false_ne_true]
  refine wpAny_bind ?_
  simp only [binaryOp1]
  refine wpAny_bind (wpAny_typeOf ha (wpAny_bind (wpAny_typeOf hb (wpAny_bind (wpAny_of_eq noFill_list_add ?_)))))
  have ne : (Value.type "list" == Value.type "tuple") = false := by decide
  simp only [ne, Bool.false_eq_true, if_false]
  refine wpAny_bind (wpAny_of_eq noFill_tuple_add ?_)
  simp only [pure_bind, Bool.false_and, Bool.false_eq_true, if_false]
  refine wpAny_pure ?_
  refine wpAny_bind (wpAny_of_eq (PySem.seqSlot_of l1 l2) ?_)
  exact wpAny_bind (wpAny_rule h)
def rExtT (K : PySem.W.Frag) : R2 := fun x y H Q => ∃ l b xs zs, x = .ref l ∧ y = .ref b ∧ H l = some (.lst xs) ∧ SqT K H b zs ∧ xs.length + zs.length ≤ sizeLine ∧ Q (.ref l) (upd H l (.lst (xs ++ zs)))
theorem iop_extT {X : Cx} : OpR X (inplaceOp .Add) (rExtT X.K) := by
  intro pins s σ H x y v u Q I rx ry h
  obtain ⟨l, b, xs, zs, rfl, rfl, hH, hB, hz, q⟩ := h
  cases rx
  cases ry
  obtain ⟨z, its, n, r, hl, e⟩ := I.lstM hH
  obtain ⟨its2, r2, ⟨⟨cls, dd, dat, sl⟩, e2, hcl, n2, hda⟩, hl2⟩ := I.tuple hB
  simp only at hcl hda
  subst hcl hda
  have l1 := r2.length
  have hsz : its.toArray.size + its2.toArray.size ≤ sizeLine := by rw [List.size_toArray, List.size_toArray]; omega
  have hlong : ¬ (!its.toArray.isEmpty && Builtin.List.listTooLong (its.toArray.size + its2.toArray.size)) = true := by
    rw [notLongL hsz, Bool.and_false]
    exact Bool.false_ne_true
  refine iadd_lt ⟨_, e, rfl⟩ ⟨_, e2, rfl⟩ (call_meets PySem.F.slot_list_iadd ⟨_, e, rfl⟩ PySem.F.entry_list_iadd (PySem.F.args_list_iadd_2 _ _)
    (meets_iadd_lt l its.toArray n b its2.toArray n2 dd sl hlong (by rw [List.size_toArray]; omega) (by omega)) ⟨e, e2, ?_⟩)
  refine ⟨.ref l, _, I.lset (its' := its ++ its2) (t' := s.toks) hH e (by simp) (r.append r2) ?_, rfl, q⟩
  rw [List.length_append]
  omega
/-- own list += a tuple -/
theorem rs_extT {c : Ct} {env : List Sl} {te : TE} {ds es : List PyData} {D : De} {K : PySem.W.Frag} {i : Nat} {s : Sl} (h : env[i]? = some s) (ho : ownL s = some ds) (hv : EvE c te env (.tuple es)) (hl : ds.length + es.length ≤ 100000) (k : D.nx (env.set i (reO s (.lst (ds ++ es))))) : RS c (tAug i te (rExtT K)) D env := fun σ F H fps R E a => by
  obtain ⟨p, xs, h1, h2, h3, h4⟩ := R.ownL h ho
  refine ⟨_, h1, hv σ F H fps R _ fun w F1 H1 s1 g1 => ?_⟩
  obtain ⟨b, ys, rfl, g3, g4⟩ := g1
  refine ⟨p, b, xs, ys, rfl, rfl, s1.e _ _ h3, SqT.of (s1.h _ _ g3), by rw [h4.length, g4.length]; exact sz_le hl, ?_⟩
  have e0 : σ.set i (some (.ref p)) = σ := set_self h1
  show E.nx (σ.set i (some (.ref p))) _
  rw [e0]
  exact a.nx _ F1 _ _ _ ((R.ext s1).mutL h ho h1 h2 ((h4.mono s1.f).app g4)) s1.f k
/-! ### dicts made whole -/
/-- a slot takes a thing that stands at p, nobody else's -/
theorem Rl.putM {c : Ct} {F H : Hp} {σ : List (Option V)} {env : List Sl} {fps : List (List Addr)} (r : Rl c σ F H env fps) (i : Nat) {o : Ow} {p : Addr} {h h0 : HO} (hp : H p = some h0) (hf : F p = .none) (z0 : c.H_0 p = .none) (zB : c.B p = .none) (nf : ∀ fp ∈ fps, p ∉ fp) (ha : ∀ F' H', Ex F F' → H' p = some h → OwAt c.C F' H' p [p] o) :
    Rl c (σ.set i (some (.ref p))) F (upd H p h) (env.set i (.ow o)) (fps.set i [p]) := by
  refine ⟨r.eB.mut zB, r.eF, r.eH.mut hf, r.nw, fun b hb => ?_, r.sl.put (Ex.refl _) i (show SlAt c F (upd H p h) (some (.ref p)) (.ow o) [p] from ⟨p, rfl, ha _ _ (Ex.refl _) upd_same, fun b hb => by
    simp only [List.mem_singleton] at hb; subst hb; exact z0⟩) (fun j fj hj e1 b hm => upd_ne fun q => nf fj (List.mem_of_getElem? e1) (by rw [← q]; exact hm)), fun j k fj fk b h1 h2 h3 h4 => ?_, fun fp hm b hb => ?_⟩
  · by_cases q : b = p
    · subst q; exact absurd z0 hb
    · rw [upd_ne q]; exact r.dm b hb
  · rw [List.getElem?_set] at h1 h2
    split at h1
    · split at h1
      · cases h1
        simp only [List.mem_singleton] at h3; subst h3
        split at h2
        · omega
        · exact absurd h4 (nf fk (List.mem_of_getElem? h2))
      · cases h1
    · split at h2
      · split at h2
        · cases h2
          simp only [List.mem_singleton] at h4; subst h4
          exact absurd h3 (nf fj (List.mem_of_getElem? h1))
        · cases h2
      · exact r.dj j k fj fk b h1 h2 h3 h4
  · rcases mem_set hm with rfl | hm
    · simp only [List.mem_singleton] at hb; subst hb
      exact ⟨hf, zB, Or.inr z0⟩
    · exact r.ff fp hm b hb
/-- {k: e} with one tuple key -/
def tDisp1T (tk tv : TE) : TE := fun σ H Q => ∀ p, H p = none → tk σ (upd H p (.dT [])) fun x H1 => tv σ H1 fun y H2 => H2 p = some (.dT []) ∧ ∃ b k, x = .ref b ∧ H2 b = some (.tup (k.map kV)) ∧ Q (.ref p) (upd H2 p (.dT [(k, y)]))
theorem pe_disp1T {X : Cx} {pos : Pos} {ke ve : Expr} {tk tv : TE} (hu : X.A.units + 1 < cLine) (hk : PE X ke tk) (hv : PE X ve tv) : PE X (.Dict [some ke] [ve] pos) (tDisp1T tk tv) := by
  refine ⟨fun pins s σ H Q I q => ?_⟩
  have hn := I.hok.fresh (Nat.le_refl s.heap.objs.size)
  have I1 := I.laid (a := s.heap.objs.size) (o := .dT []) (h' := s.heap.push { cls := .type "dict", data := .dict #[] }) (t' := s.toks) (fun _ _ q => Heap.get?_push_of_some _ q) (Nat.le_refl _) (dt_empty s.heap I.big)
  have hn2 : pairTrees [some ke] [ve] X.env pos ≠ [] := fun z => by
    have := pairTrees_length [some ke] [ve] X.env pos rfl rfl
    rw [z] at this; cases this
  have hl2 : (pairTrees [some ke] [ve] X.env pos).length ≤ 15 := by rw [pairTrees_length [some ke] [ve] X.env pos rfl rfl]; exact Nat.le_add_left 1 14
  rw [arm_eval_Dict, zip_pairTrees [some ke] [ve] X.env pos rfl rfl, dictDisplay_pairs (pairTrees [some ke] [ve] X.env pos) hn2 (by omega)]
  refine wpAny_bind (wpAny_standAt (wpAny_bind (wpAny_subDictH (knd := tupleKind (mixKind X.prog X.w)) (show X.A.units < cLine by omega) hl2 ?_)))
  refine pairTrees_cons_walk (thn (hk.run pins _ σ _ _ I1 (q _ hn)) fun u s1 ⟨x, H1, I2, rx, q1⟩ => thn (hv.run pins s1 σ H1 _ I2 q1) fun w2 s2 ⟨y, H2, I3, ry, hp, b, k, ex, hb, q2⟩ => ?_)
  subst ex
  obtain rfl : u = Value.ref b := rx
  refine pairTrees_nil_walk ?_
  obtain ⟨z, hd, xs, rel, dd⟩ := dt_of I3.hok hp
  cases rel
  refine ⟨[(k, b, w2)], ⟨rfl, rfl, key_of I3.hok hb, trivial⟩, dd, fun h' tk dd' hs => wpAny_pure ⟨.ref s.heap.objs.size, _, ?_, rfl, q2⟩⟩
  obtain ⟨o, es, ep, ho, h2, h3, h4, _, h5⟩ := dd'
  refine d_write I3 (by rw [hp]; exact True.intro) hs ⟨o, ho⟩ ⟨by show 1 ≤ sizeLine; decide, hd, _, .cons ⟨rfl, ?_, ry⟩ .nil, o, es, ep, ho, h2, h3, h4, h5⟩
  rw [upd_ne (ne_of hb hp (fun z => nomatch z))]
  exact hb
/-- a new dict of one's own, by a display -/
theorem rs_disp1K {c : Ct} {env : List Sl} {tk tv : TE} {k : L2.Key} {d : PyData} {D : De} {i : Nat} (hk : EvE c tk env (kD k)) (hv : EvE c tv env d) (q : D.nx (env.set i (.ow (.dk [(k, d)])))) : RS c (tAsg (tDisp [(tk, tv)]) (gName i)) D env := fun σ F H fps R E a p hp => by
  have s0 := Stp.lay (o := .dK []) R.eH hp
  refine hk σ F _ fps (R.ext s0) _ fun v F1 H1 s1 h1 => hv σ F1 H1 fps ((R.ext s0).ext s1) _ fun w F2 H2 s2 h2 => ?_
  have s12 := s1.trans s2
  have e2 : H2 p = some (.dK []) := s12.e _ _ upd_same
  have f2 : F2 p = none := (s12.n p (by rw [upd_same]; exact fun z => nomatch z)).none s12.h (fun xs q => by rw [e2] at q; cases q) (R.eH.free hp)
  refine ⟨e2, [(k, w)], by rw [kD_v h1]; rfl, Nat.le_add_left 1 14, ?_⟩
  have key := (R.ext (s0.trans s12))
  have h0 : c.H_0 p = none := by
    cases q : c.H_0 p with
    | none => rfl
    | some u => exact absurd hp (R.dm p (by rw [q]; exact fun z => nomatch z))
  have nf : ∀ fp ∈ fps, p ∉ fp := fun fp hf hm => by
    obtain ⟨j, hj⟩ := List.mem_iff_getElem?.mp hf
    obtain ⟨v, sl, _, _, g⟩ := R.sl.getF hj
    exact g.some p hm hp
  exact a.nx _ F2 _ _ _ (key.putM i (o := .dk [(k, d)]) e2 f2 h0 (R.eB.free hp) nf (fun F' H' e1 e2 => ⟨rfl, [(k, w)], e2, .cons ⟨rfl, h2.mono e1⟩ .nil⟩)) s12.f q
theorem rs_disp1T {c : Ct} {env : List Sl} {tk tv : TE} {k : List L2.Key} {d : PyData} {D : De} {i : Nat} (hk : EvE c tk env (.tuple (k.map kD))) (hv : EvE c tv env d) (q : D.nx (env.set i (.ow (.dt [(k, d)])))) : RS c (tAsg (tDisp1T tk tv) (gName i)) D env := fun σ F H fps R E a p hp => by
  have s0 := Stp.lay (o := .dT []) R.eH hp
  refine hk σ F _ fps (R.ext s0) _ fun v F1 H1 s1 h1 => hv σ F1 H1 fps ((R.ext s0).ext s1) _ fun w F2 H2 s2 h2 => ?_
  have s12 := s1.trans s2
  have e2 : H2 p = some (.dT []) := s12.e _ _ upd_same
  have f2 : F2 p = none := (s12.n p (by rw [upd_same]; exact fun z => nomatch z)).none s12.h (fun xs q => by rw [e2] at q; cases q) (R.eH.free hp)
  obtain ⟨b, xs, rfl, h3, h4⟩ := h1
  rw [kDs_v h4] at h3
  refine ⟨e2, b, k, rfl, s2.e _ _ (s1.h _ _ h3), ?_⟩
  have key := (R.ext (s0.trans s12))
  have h0 : c.H_0 p = none := by
    cases q : c.H_0 p with
    | none => rfl
    | some u => exact absurd hp (R.dm p (by rw [q]; exact fun z => nomatch z))
  have nf : ∀ fp ∈ fps, p ∉ fp := fun fp hf hm => by
    obtain ⟨j, hj⟩ := List.mem_iff_getElem?.mp hf
    obtain ⟨v, sl, _, _, g⟩ := R.sl.getF hj
    exact g.some p hm hp
  exact a.nx _ F2 _ _ _ (key.putM i (o := .dt [(k, d)]) e2 f2 h0 (R.eB.free hp) nf (fun F' H' e1 e2 => ⟨rfl, [(k, w)], e2, .cons ⟨rfl, h2.mono e1⟩ .nil⟩)) s12.f q
/-! ### the length of a dict with tuple keys -/
theorem ev_lenT {c : Ct} {env : List Sl} {i : Nat} {s : Sl} {ds : List (List L2.Key × PyData)} (h : env[i]? = some s) (ho : ownT s = some ds) : EvE c (tCB rLenT (tCons (tVar i) tNil)) env (.int ds.length) := fun σ F H fps R Q q => by
  obtain ⟨p, xs, h1, h2, h3, h4⟩ := R.ownT h ho
  refine ⟨_, h1, p, xs, rfl, h3, q _ F H (Stp.refl R.eH) ?_⟩
  rw [h4.len]
  rfl
end Nr
set_option Elab.async false
set_option linter.all false
set_option maxRecDepth 100000
set_option maxHeartbeats 4000000
namespace Nr
open PySem PySem.Spec PyProof.Rows L2
/-! ### set(list of numbers), sorted -/
abbrev eset (w : World) : Obj := { cls := .type "set", dict := none, data := .set #[] 0 (.fresh 0 0 (!w.params.followText "set-order")) }
section
variable {P : Program} {w : World} {A : Around} {E : Value → Shared → Prop} {s : Shared}
theorem call_setL {l : Addr} {items : Array Value} (ns : List Int) {Q : Value → Shared → Prop} (hh : A.handled = none) (hl : s.heap.IsList l items) (hit : IntsAre items.toList ns) (hb : ns.length + 1 < scanBound)
    (h : ∀ (h' : Heap) (tk c : Nat), SetR w h' s.heap.objs.size (fun j => decide (j ∈ ns)) c → c ≤ ns.length → (∀ b o, s.heap.get? b = some o → h'.get? b = some o) → Q (.ref s.heap.objs.size) { s with heap := h', toks := tk }) :
    wpAny (model P w) A (call (.type "set") [.ref l]) Q E s := by
  have hisz : items.size = ns.length := by
    have q := IntsAre.length hit
    rw [Array.length_toList] at q
    exact q
  obtain ⟨cc, tl, k1⟩ := F.called_set.mro
  have k2 := F.called_set.made
  have k3 := F.called_set.sub
  refine wpAny_call (codeAny_of_tree ?_)
  show wpAny _ _ (callAny (.type "set") _) _ _ _
  refine wpAny_pure ⟨Code.quiet_builtin _ (by decide +kernel), codeAny_builtin F.entry_type_call ?_⟩
  rw [Around.under_plain (weight_type_call_type "set" [.ref l] []) rfl]
  have k4 := F.called_set.notType
  have k5 := F.called_set.canCreate
  have k6 := F.typeCall_set_1 (.ref l)
  repeat (any_goals (first | assumption | wp_step))
  refine codeAny_mono (code_set_led1 (.ref l) (E := E) (Q₁ := fun obj t => obj = .ref s.heap.objs.size ∧ t = { s with heap := s.heap.push (eset w) }) ⟨rfl, rfl⟩) fun r t hr => ?_
  cases r with
  | error e => exact hr
  | ok fl =>
    cases fl with
    | next => exact hr.elim
    | brk => exact hr.elim
    | cont => exact hr.elim
    | ret obj =>
      obtain ⟨rfl, rfl⟩ := hr
      have hS : (s.heap.push (eset w)).get? s.heap.objs.size = some (eset w) := Heap.get?_push_size _ rfl
      have hT : Shared.TypeIs { s with heap := s.heap.push (eset w) } (.ref s.heap.objs.size) "set" := ⟨_, hS, rfl⟩
      have k7 := F.called_set.init.lookup
      have k8 := F.called_set.init.bind (.ref s.heap.objs.size)
      repeat (any_goals (first | assumption | wp_step))
      refine codeAny_mono (codeAny_call_builtin (R := wants (fun r t => r = .none ∧ ∃ h' tk c, t = { s with heap := h', toks := tk } ∧ SetR w h' s.heap.objs.size (fun j => decide (j ∈ ns)) c ∧ c ≤ ns.length ∧
          (∀ b o, s.heap.get? b = some o → h'.get? b = some o)) E) F.called_set.init.plain F.entry_set_init (check_set_init_1 hT ?_)) fun r t hr => ?_
      · obtain ⟨⟨oc, od, odt, osl⟩, hol, hcl, nl, hdl⟩ := hl
        simp only at hcl hdl
        subst hcl; subst hdl
        have hol' : (s.heap.push (eset w)).get? l = some { cls := .type "list", dict := od, data := .seq items nl, slots := osl } := Heap.get?_push_of_some _ hol
        have j1 := F.sub_list_set
        have j2 := F.sub_list_frozenset
        have j3 : (Value.type "list" == Value.type "dict") = false := by decide
        have hl1 : (s.heap.push (eset w)).IsList l items := ⟨_, hol', rfl, nl, rfl⟩
        unfold Builtin.«set.__init__» noKeywords Builtin.Frozenset.updateFrom
        generalize hPI : pyIter = PI
        wp_walk
        subst hPI
        refine wpAny_pyIter_list hl1 (wpAny_bind (wpAny_runValue ?_))
        have hlS : l < s.heap.objs.size := Heap.lt_size hol
        have hz : (s.heap.push (eset w)).objs.size = s.heap.objs.size + 1 := Heap.size_push ..
        have hneI : l ≠ (s.heap.push (eset w)).objs.size := by
          rw [hz]; exact Nat.ne_of_lt (Nat.lt_succ_of_lt hlS)
        have hSf : s.heap.objs.size ∉ [(s.heap.push (eset w)).objs.size, l] := by
          rw [hz]
          simp only [List.mem_cons, List.not_mem_nil, or_false, not_or]
          exact ⟨Nat.ne_of_lt (Nat.lt_succ_self _), Nat.ne_of_gt hlS⟩
        refine set_update_ints ((Walks.list (by simp [hh]) _ l hneI items).toS) s.heap.objs.size hSf ns hisz hb (fun i v hv => ?_) (items.size - 0) 0 _ (by omega) (Nat.zero_le _)
          ⟨⟨_, Heap.get?_push_size _ rfl, rfl, rfl⟩, (hl1.push _)⟩ ⟨0, Nat.le_refl 0, setR_new_at (Heap.get?_push_of_some _ hS)⟩ ?_
        · have hi : i < ns.length := by rw [← hisz]; exact (Array.getElem?_eq_some_iff.mp hv).1
          obtain ⟨t, e⟩ := PyProof.Rows.IntsAre.int_at hit i v (by rw [Array.getElem?_toList]; exact hv)
          refine ⟨ns[i], t, List.getElem?_eq_getElem hi, ?_⟩
          rw [e, List.getD_eq_getElem?_getD, List.getElem?_eq_getElem hi] <;> rfl
        · intro s' c' hm hc' hS'
          obtain ⟨h', g2, d', tk', os'⟩ := s'
          have eg : g2 = s.gens := hm.gens
          have ed : d' = s.drawn := hm.drawn
          have eo : os' = s.os := hm.os
          subst eg; subst ed; subst eo
          show wpAny _ _ _ _ _ _
          refine wpAny_pure ?_
          show wpAny _ _ (ret Value.none) _ _ _
          rw [hisz] at hc'
          refine wpAny_pure ⟨rfl, h', tk', c', rfl, hS', hc', fun b o e => ?_⟩
          have hb0 : b < s.heap.objs.size := Heap.lt_size e
          refine hm.heap b o ?_ (Heap.get?_push_of_some _ (Heap.get?_push_of_some _ e))
          simp only [List.mem_cons, List.not_mem_nil, or_false, not_or]
          refine ⟨Nat.ne_of_lt hb0, ?_⟩
          show b ≠ (s.heap.push (eset w)).objs.size
          rw [hz]
          exact Nat.ne_of_lt (Nat.lt_succ_of_lt hb0)
      · cases r with
        | error e => exact hr
        | ok fl =>
          cases fl with
          | next => exact hr.elim
          | brk => exact hr.elim
          | cont => exact hr.elim
          | ret r =>
            obtain ⟨rfl, h', tk, c', rfl, hS', hc', hk'⟩ := hr
            repeat (any_goals (first | assumption | wp_step))
            exact h _ _ _ hS' hc' hk'
end
def rSetLi (K : PySem.W.Frag) (w : World) : List V → Hp → VK → Prop := fun vs H Q => ∃ (l : Addr) (ns : List Int), vs = [V.ref l] ∧ SqL K H l (ns.map V.int) ∧ ns.length ≤ 60 ∧ ∀ p n, H p = none → n ≤ ns.length → Q (.ref p) (upd H p (SetO w p (fun j => decide (j ∈ ns)) n))
theorem cr_setL {X : Cx} (hc : X.calm = true) : CallR X (.type "set") (rSetLi X.K X.w) := by
  intro pins s σ H vs us Q I r h
  obtain ⟨l, ns, rfl, hs, hl, q⟩ := h
  obtain ⟨its, rv, pl, _⟩ := I.list hs
  rw [Vals.ref1 r]
  refine call_setL ns (I.ok.hd hc) pl.isList (by simpa using ints_of_vals rv) (by unfold scanBound; omega) fun h' tk c R hc' hk => ?_
  refine ⟨.ref s.heap.objs.size, upd H s.heap.objs.size (SetO X.w s.heap.objs.size (fun j => decide (j ∈ ns)) c), I.laid (t' := tk) hk (Nat.le_refl _) (setO_new R), rfl, q _ c (I.hok.fresh (Nat.le_refl _)) hc'⟩
/-- the numbers of a list, rising, each once -/
def insI (x : Int) : List Int → List Int
  | [] => [x]
  | y :: ys => if x < y then x :: y :: ys else if x = y then y :: ys else y :: insI x ys
def upI (ns : List Int) : List Int := ns.foldr insI []
theorem insI_mem {x y : Int} : ∀ {l : List Int}, y ∈ insI x l ↔ y = x ∨ y ∈ l
  | [] => by simp [insI]
  | z :: l => by
    unfold insI
    split
    · simp
    · split
      · rename_i h1 h2
        subst h2
        simp
      · rw [List.mem_cons, insI_mem (l := l), List.mem_cons]
        constructor
        · rintro (h | h | h) <;> simp [h]
        · rintro (h | h | h) <;> simp [h]
theorem insI_up {x : Int} : ∀ {l : List Int}, l.Pairwise (· < ·) → (insI x l).Pairwise (· < ·)
  | [], _ => by simp [insI]
  | z :: l, h => by
    have h1 := List.pairwise_cons.mp h
    unfold insI
    split
    · rename_i hx
      refine List.pairwise_cons.mpr ⟨fun y hy => ?_, h⟩
      rcases List.mem_cons.mp hy with rfl | hy
      · exact hx
      · exact Int.lt_trans hx (h1.1 y hy)
    · split
      · exact h
      · refine List.pairwise_cons.mpr ⟨fun y hy => ?_, insI_up h1.2⟩
        rcases insI_mem.mp hy with rfl | hy
        · omega
        · exact h1.1 y hy
theorem upI_mem {y : Int} : ∀ {l : List Int}, y ∈ upI l ↔ y ∈ l
  | [] => by simp [upI]
  | z :: l => by
    show y ∈ insI z (upI l) ↔ _
    rw [insI_mem, upI_mem (l := l), List.mem_cons]
theorem upI_up : ∀ l : List Int, (upI l).Pairwise (· < ·)
  | [] => .nil
  | z :: l => insI_up (upI_up l)
theorem up_uniq : ∀ {l m : List Int}, l.Pairwise (· < ·) → m.Pairwise (· < ·) → (∀ k, k ∈ l ↔ k ∈ m) → l = m
  | [], [], _, _, _ => rfl
  | [], y :: m, _, _, h => by have := (h y).mpr List.mem_cons_self; simp at this
  | x :: l, [], _, _, h => by have := (h x).mp List.mem_cons_self; simp at this
  | x :: l, y :: m, h1, h2, h => by
    have g1 := List.pairwise_cons.mp h1
    have g2 := List.pairwise_cons.mp h2
    have e : x = y := by
      have a := (h x).mp List.mem_cons_self
      have b := (h y).mpr List.mem_cons_self
      rcases List.mem_cons.mp a with a | a
      · exact a
      · rcases List.mem_cons.mp b with b | b
        · exact b.symm
        · have := g2.1 x a
          have := g1.1 y b
          omega
    subst e
    congr 1
    refine up_uniq g1.2 g2.2 fun k => ?_
    constructor
    · intro hk
      rcases List.mem_cons.mp ((h k).mp (List.mem_cons_of_mem _ hk)) with z | z
      · have := g1.1 k hk; omega
      · exact z
    · intro hk
      rcases List.mem_cons.mp ((h k).mpr (List.mem_cons_of_mem _ hk)) with z | z
      · have := g2.1 k hk; omega
      · exact z
theorem ev_sortedSet {c : Ct} {env : List Sl} {te : TE} {K : PySem.W.Frag} {w : World} {ns : List Int} (h : EvE c te env (.list (ns.map .int))) (hl : ns.length ≤ 60) :
    EvE c (tCB (rSortedSet w) (tCons (tCB (rSetLi K w) (tCons te tNil)) tNil)) env (.list ((upI ns).map .int)) := fun σ F H fps R Q q =>
  h σ F H fps R _ fun v F1 H1 s1 h1 => by
    obtain ⟨a, xs, rfl, h2, h3⟩ := h1
    rw [h3.ints_eq] at h2
    refine ⟨a, ns, rfl, SqL.of (s1.h _ _ h2), hl, fun p n hp hn => ⟨p, _, n, rfl, upd_same, by omega, fun ns' p' up mem len hp' => ?_⟩⟩
    have e : ns' = upI ns := up_uniq up (upI_up ns) fun k => by rw [mem k, upI_mem]; simp
    rw [e]
    have s2 := Stp.lay (o := SetO w p (fun j => decide (j ∈ ns)) n) s1.h hp
    have s3 := Stp.new (o := .lst ((upI ns).map V.int)) s2.h hp'
    exact q _ _ _ ((s1.trans s2).trans s3) ⟨p', _, rfl, upd_same, (Dts.ints _).mono s3.f⟩
end Nr
set_option Elab.async false
set_option linter.all false
set_option maxRecDepth 100000
set_option maxHeartbeats 4000000
namespace Nr
open PySem PySem.Spec PyProof.Rows L2
/-! ### ranges and comprehensions with effects -/
def RI (c : Ct) (wi : TI) (env : List Sl) (P : List PyData → List Sl → Prop) : Prop :=
  ∀ σ F H fps, Rl c σ F H env fps → ∀ R : It → Hp → Prop, (∀ J F' H' fps' env' ds, Rl c σ F' H' env' fps' → Ex F F' → Walks J F' ds → P ds env' → R J H') → wi σ H R
section
variable {c : Ct} {env env' env2 : List Sl} {ta tb tc te : TE} {t : TA} {x y z d e : PyData} {r : R2} {K : PySem.W.Frag} {ds : List PyData} {D : De} {P : PyData → List Sl → Prop} {wi : TI} {g : TG} {js vs : List Nat} {F H : Hp} {σ : List (Option V)} {fps : List (List Addr)}
theorem ri_ev {P : List PyData → List Sl → Prop} (h : EvI c wi env ds) (p : P ds env) : RI c wi env P := fun σ F H fps Rs R q => h σ F H fps Rs R fun J F1 H1 s1 w1 => q J F1 H1 fps env ds (Rs.ext s1) s1.f w1 p
theorem ri_range1 {P : List PyData → List Sl → Prop} (h : RE c te env fun d e => ∃ n : Int, d = .int n ∧ -100000 ≤ n ∧ n ≤ 100000 ∧ P (rngD 0 n.toNat) e) : RI c (iRng1 (tCons te tNil)) env P := fun σ F H fps Rs R q => h σ F H fps Rs _ fun v d F1 H1 f1 e1 R1 x1 g1 p1 => by
  obtain ⟨n, rfl, h1, h2, h3⟩ := p1
  have g1 : v = .int n := g1
  subst g1
  exact ⟨n, rfl, by omega, by omega, q _ F1 H1 f1 e1 _ R1 x1 walks_r h3⟩
/-- the slots of a wiped state do not care -/
theorem Rl.swap {σ' : List (Option V)} (R : Rl c σ' F H env fps) (hl : σ.length = σ'.length) (h : ∀ j : Nat, σ[j]? = σ'[j]? ∨ env[j]? = some .no ∨ σ'.length ≤ j) : Rl c σ F H env fps := by
  refine ⟨R.eB, R.eF, R.eH, R.nw, R.dm, Sls.mk (by rw [hl]; exact R.sl.len.1) R.sl.len.2 fun j v s fp h1 h2 h3 => ?_, R.dj, R.ff⟩
  obtain ⟨v', fp', h4, h5, h6⟩ := R.sl.get h2
  rw [h3] at h5; cases h5
  rcases h j with q | q | q
  · rw [h1, h4] at q; cases q; exact h6
  · rw [h2] at q
    have e : s = .no := Option.some.inj q
    subst e
    exact h6
  · have := (List.getElem?_eq_some_iff.mp h4).1; omega
theorem wipeE_len (env : List Sl) : ∀ vs : List Nat, (wipeE env vs).length = env.length
  | [] => rfl
  | a :: l => by show ((wipeE env l).set a .no).length = _; rw [List.length_set]; exact wipeE_len env l
theorem wipe_two (σ : L2.St) (vs : List Nat) : wipe (wipe σ vs) vs = wipe σ vs := by
  apply List.ext_getElem?
  intro k
  by_cases hk : k < σ.length
  · by_cases m : k ∈ vs
    · rw [wipe_get m (by rw [wipe_length]; exact hk), wipe_get m hk]
    · rw [wipe_out m]
  · rw [List.getElem?_eq_none (by rw [wipe_length, wipe_length]; omega), List.getElem?_eq_none (by rw [wipe_length]; omega)]
theorem wipeE_get {env : List Sl} {j : Nat} : ∀ {vs : List Nat}, j ∈ vs → j < env.length → (wipeE env vs)[j]? = some .no
  | [], h, _ => by simp at h
  | v :: vs, h, hl => by
    have e : (wipeE env (v :: vs)) = (wipeE env vs).set v .no := rfl
    rw [e, List.getElem?_set]
    split
    · rename_i q
      subst q
      rw [if_pos (by rw [wipeE_len]; exact hl)]
    · rename_i q
      rcases List.mem_cons.mp h with z | z
      · exact absurd z.symm q
      · exact wipeE_get z hl
/-- a list under the making is set aside -/
def Ct.hold (c : Ct) (D : Addr) (xs : List V) : Ct := ⟨c.C, upd c.B D (.lst xs), upd c.H_0 D (.lst xs), c.F_0, c.bs⟩
theorem Rl.hold {Da : Addr} {xs : List V} (R : Rl c σ F H env fps) (hF : F Da = none) (hH : H Da = some (.lst xs)) (h0 : c.H_0 Da = none) (nf : ∀ fp ∈ fps, Da ∉ fp) : Rl (c.hold Da xs) σ F H env fps := by
  have ne : ∀ fp ∈ fps, ∀ b ∈ fp, b ≠ Da := fun fp hf b hb z => nf fp hf (by rw [← z]; exact hb)
  refine ⟨fun a u e => ?_, R.eF, R.eH, fun b hb => ?_, fun b hb => ?_, ?_, R.dj, fun fp hf b hb => ?_⟩
  · by_cases z : a = Da
    · subst z
      have e : upd c.B a (.lst xs) a = some u := e
      rw [upd_same] at e; rw [hH]; exact e
    · have e : upd c.B Da (.lst xs) a = some u := e
      rw [upd_ne z] at e; exact R.eB _ _ e
  · by_cases z : b = Da
    · subst z
      refine Or.inl ?_
      rw [hF]
      exact (R.eF.free hF).symm
    · have hb : upd c.H_0 Da (.lst xs) b ≠ none := hb
      rw [upd_ne z] at hb; exact R.nw b hb
  · by_cases z : b = Da
    · subst z; rw [hH]; exact fun q => nomatch q
    · have hb : upd c.H_0 Da (.lst xs) b ≠ none := hb
      rw [upd_ne z] at hb; exact R.dm b hb
  · refine Sls.mk R.sl.len.1 R.sl.len.2 fun j v s fp h1 h2 h3 => ?_
    obtain ⟨v', fp', h4, h5, h6⟩ := R.sl.get h2
    rw [h3] at h5; cases h5
    rw [h1] at h4; cases h4
    cases s with
    | no => exact h6
    | im d => exact h6
    | bo p o => exact h6
    | ow o =>
      obtain ⟨p, g1, g2, g3⟩ := h6
      exact ⟨p, g1, g2, fun b hb => by
        show upd c.H_0 Da (.lst xs) b = none
        rw [upd_ne (ne fp (List.mem_of_getElem? h3) b hb)]; exact g3 b hb⟩
  · obtain ⟨g1, g2, g3⟩ := R.ff fp hf b hb
    have z := ne fp hf b hb
    refine ⟨g1, ?_, g3.elim Or.inl fun q => Or.inr ?_⟩
    · show upd c.B Da (.lst xs) b = none
      rw [upd_ne z]; exact g2
    · show upd c.H_0 Da (.lst xs) b = none
      rw [upd_ne z]; exact q
theorem Rl.unhold {Da : Addr} {xs : List V} (R : Rl (c.hold Da xs) σ F H env fps) (h0 : c.H_0 Da = none) (hB : c.B Da = none) : Rl c σ F H env fps ∧ H Da = some (.lst xs) ∧ (c.F_0 Da = none → F Da = none) ∧ ∀ fp ∈ fps, Da ∉ fp := by
  have eH : H Da = some (.lst xs) := R.eB Da _ upd_same
  have nf : ∀ fp ∈ fps, Da ∉ fp := fun fp hf hm => by
    have g : upd c.B Da (.lst xs) Da = none := (R.ff fp hf Da hm).2.1
    rw [upd_same] at g; cases g
  have ne : ∀ fp ∈ fps, ∀ b ∈ fp, b ≠ Da := fun fp hf b hb z => nf fp hf (by rw [← z]; exact hb)
  refine ⟨⟨fun a u e => ?_, R.eF, R.eH, fun b hb => ?_, fun b hb => ?_, ?_, R.dj, fun fp hf b hb => ?_⟩, eH, fun z => ?_, nf⟩
  · refine R.eB a u ?_
    show upd c.B Da (.lst xs) a = some u
    rw [upd_ne (ne_of_none e hB)]; exact e
  · refine R.nw b ?_
    show upd c.H_0 Da (.lst xs) b ≠ none
    rw [upd_ne (fun z => hb (by rw [z]; exact h0))]; exact hb
  · refine R.dm b ?_
    show upd c.H_0 Da (.lst xs) b ≠ none
    rw [upd_ne (fun z => hb (by rw [z]; exact h0))]; exact hb
  · refine Sls.mk R.sl.len.1 R.sl.len.2 fun j v s fp h1 h2 h3 => ?_
    obtain ⟨v', fp', h4, h5, h6⟩ := R.sl.get h2
    rw [h3] at h5; cases h5
    rw [h1] at h4; cases h4
    cases s with
    | no => exact h6
    | im d => exact h6
    | bo p o => exact h6
    | ow o =>
      obtain ⟨p, g1, g2, g3⟩ := h6
      exact ⟨p, g1, g2, fun b hb => by
        have q : upd c.H_0 Da (.lst xs) b = none := g3 b hb
        rw [upd_ne (ne fp (List.mem_of_getElem? h3) b hb)] at q; exact q⟩
  · obtain ⟨g1, g2, g3⟩ := R.ff fp hf b hb
    have z := ne fp hf b hb
    refine ⟨g1, ?_, g3.elim Or.inl fun q => Or.inr ?_⟩
    · have q : upd c.B Da (.lst xs) b = none := g2
      rw [upd_ne z] at q; exact q
    · have q : upd c.H_0 Da (.lst xs) b = none := q
      rw [upd_ne z] at q; exact q
  · refine (R.nw Da (by show upd c.H_0 Da (.lst xs) Da ≠ none; rw [upd_same]; exact fun q => nomatch q)).none R.eH (fun ys q => by rw [eH] at q; cases q) z
theorem re_comp (hi : RI c wi env fun ds e0 => ds.length ≤ 50000 ∧ ∃ I : Nat → List PyData → List Sl → Prop, I 0 [] (wipeE e0 vs) ∧
      (∀ (i : Nat) d acc env1, ds[i]? = some d → acc.length = i → I i acc env1 → ∃ env2, ∀ c' : Ct, c'.C = c.C → EvG c' g js d env1 env2 ∧ RE c' te env2 fun v env3 => I (i + 1) (acc ++ [v]) (wipeE env3 vs)) ∧
      ∀ acc env1, acc.length = ds.length → I ds.length acc env1 → P (.list acc) env1) (hj : ∀ j ∈ js, j ∈ vs) : RE c (tLc wi g tYes te vs) env P := fun σ F H fps R Q q =>
  hi σ F H fps R _ fun J F1 H1 f1 e1 ds R1 x1 w1 hh D hD => by
    obtain ⟨hl, I, h0, hs, hd⟩ := hh
    have hF1 : F1 D = none := R1.eH.free hD
    have hB : c.B D = none := R1.eB.free hD
    have hH0 : c.H_0 D = none := by
      cases q : c.H_0 D with
      | none => rfl
      | some u => exact absurd hD (R1.dm D (by rw [q]; exact fun z => nomatch z))
    have hF0 : c.F_0 D = none := R1.eF.free hF1
    have nf1 : ∀ fp ∈ f1, D ∉ fp := fun fp hf hm => by
      obtain ⟨j, hj⟩ := List.mem_iff_getElem?.mp hf
      obtain ⟨v, sl, _, _, g⟩ := R1.sl.getF hj
      exact g.some D hm hD
    have s0 := Stp.lay (o := .lst []) R1.eH hD
    obtain ⟨fw, Rw⟩ := (R1.ext s0).wipe vs
    have nfw : ∀ {fps : List (List Addr)} {σ F H env}, Rl c σ F H env fps → (∀ fp ∈ fps, D ∉ fp) → ∀ vs, ∃ fps', Rl c (wipe σ vs) F H (wipeE env vs) fps' ∧ ∀ fp ∈ fps', D ∉ fp := fun {fps σ F H env} R h vs => by
      induction vs with
      | nil => exact ⟨fps, R, h⟩
      | cons v vs ih =>
        obtain ⟨f, k1, k2⟩ := ih
        exact ⟨_, k1.putN v none, fun fp hf => by
          rcases mem_set hf with rfl | hf
          · simp
          · exact k2 fp hf⟩
    obtain ⟨fw, Rw, nw⟩ := nfw (R1.ext s0) nf1 vs
    refine ⟨fun i m H' => m = ds.length - i ∧ i ≤ ds.length ∧ ∃ F' acc ac env' fps', Ex F1 F' ∧ Rl c (wipe σ vs) F' H' (wipeE env' vs) fps' ∧ (∀ fp ∈ fps', D ∉ fp) ∧ F' D = none ∧ H' D = some (.lst acc) ∧ Dts F' ac acc ∧ ac.length = i ∧ I i ac (wipeE env' vs),
      ⟨ds.length, by omega, by omega, F1, [], [], e1, fw, Ex.refl _, Rw, nw, hF1, upd_same, Dts.nil, rfl, h0⟩, ?_⟩
    rintro i m H' ⟨rfl, hile, F', acc, ac, env', fps', x2, R2, n2, c5, c6, c7, c8, hI⟩
    obtain ⟨hgo, hstop⟩ := w1 i H' F' x2 R2.eH
    by_cases hlt : i < ds.length
    · refine Or.inr ?_
      have hdd : ds[i]? = some ds[i] := List.getElem?_eq_getElem hlt
      obtain ⟨g1, g2⟩ := hgo _ hdd
      refine ⟨g1, fun H'' => ∃ F'' acc ac env' fps', Ex F1 F'' ∧ Rl c (wipe σ vs) F'' H'' (wipeE env' vs) fps' ∧ (∀ fp ∈ fps', D ∉ fp) ∧ F'' D = none ∧ H'' D = some (.lst acc) ∧ Dts F'' ac acc ∧ ac.length = i + 1 ∧ I (i + 1) ac (wipeE env' vs), fun H'' hN => ⟨ds.length - (i + 1), by omega, rfl, by omega, hN⟩, fun x H2 hy => ?_⟩
      obtain ⟨F2, s2, hx⟩ := g2 x H2 hy
      have R3 := R2.ext s2
      have d6 : H2 D = some (.lst acc) := s2.e _ _ c6
      have d5 : F2 D = none := (s2.n D (by rw [c6]; exact fun z => nomatch z)).none s2.h (fun xs q => by rw [d6] at q; cases q) c5
      obtain ⟨env2, hh⟩ := hs i _ ac _ hdd c8 hI
      obtain ⟨hg, he⟩ := hh (c.hold D acc) rfl
      refine hg _ F2 H2 fps' x (R3.hold d5 d6 hH0 n2) hx _ fun σ2 fps2 R5 hw => ?_
      have ew : wipe σ2 vs = wipe σ vs := by rw [hw vs hj]; exact wipe_two σ vs
      refine ⟨ew, ?_⟩
      · show te σ2 H2 _
        refine he σ2 F2 H2 fps2 R5 _ fun y d F4 H4 f4 e4 R6 x4 hy4 hI4 => ?_
        obtain ⟨R7, k6, k5, nf7⟩ := R6.unhold hH0 hB
        have k5 := k5 hF0
        refine ⟨acc, k6, sz_lt (by rw [c7.length]; omega), ?_⟩
        obtain ⟨f8, R8, nf8⟩ := nfw R7 nf7 vs
        rw [ew] at R8
        refine ⟨F4, acc ++ [y], ac ++ [d], e4, f8, x2.trans (s2.f.trans x4), ⟨R8.eB.mut hB, R8.eF, R8.eH.mut k5, R8.nw, fun b hb => ?_, R8.sl.stay (Ex.refl _) fun fp hf b hb => upd_ne fun z => nf8 fp hf (by rw [← z]; exact hb), R8.dj, R8.ff⟩, nf8, k5, upd_same, (c7.mono (s2.f.trans x4)).snoc hy4, by rw [List.length_append, c8]; rfl, hI4⟩
        by_cases z : b = D
        · rw [z, upd_same]; exact fun q => nomatch q
        · rw [upd_ne z]; exact R8.dm b hb
    · refine Or.inl ⟨hstop (by omega), ?_⟩
      have ei : i = ds.length := by omega
      subst ei
      have R9 : Rl c σ F' H' (wipeE env' vs) fps' := R2.swap (by rw [wipe_length]) fun j => by
        by_cases hk : j ∈ vs
        · by_cases hl : j < σ.length
          · refine Or.inr (Or.inl (wipeE_get hk ?_))
            have := R2.sl.len.1
            rw [wipe_length] at this
            have e := wipeE_len env' vs
            omega
          · exact Or.inr (Or.inr (by rw [wipe_length]; omega))
        · exact Or.inl (wipe_out hk).symm
      have eF : Ex F' (upd F' D (.lst acc)) := Ex.new c5
      have R10 : Rl c σ (upd F' D (.lst acc)) H' (wipeE env' vs) fps' := by
        refine ⟨R9.eB, R9.eF.trans eF, fun a o ha => ?_, fun b hb => ?_, R9.dm, R9.sl.stay eF fun _ _ _ _ => rfl, R9.dj, fun fp hf b hb => ?_⟩
        · by_cases z : a = D
          · rw [z, upd_same] at ha; rw [z]; cases ha; exact c6
          · rw [upd_ne z] at ha; exact R9.eH _ _ ha
        · have e : upd F' D (.lst acc) b = F' b := upd_ne (fun z => hb (by rw [z]; exact hH0))
          show Nb _ _ _
          unfold Nb
          rw [e]; exact R9.nw b hb
        · obtain ⟨z1, z2⟩ := R9.ff fp hf b hb
          exact ⟨by rw [upd_ne fun z => n2 fp hf (by rw [← z]; exact hb)]; exact z1, z2⟩
      exact q (.ref D) (.list ac) _ H' fps' _ R10 (x1.trans (x2.trans eF)) ⟨D, acc, rfl, upd_same, c7.mono eF⟩ (hd ac _ c8 hI)
end
end Nr
set_option Elab.async false
set_option linter.all false
set_option maxRecDepth 100000
set_option maxHeartbeats 4000000
namespace Nr
open PySem PySem.Spec PyProof.Rows L2
section
variable {c : Ct} {env env' env2 : List Sl} {ta tb tc te ti : TE} {t : TA} {tb' : TS} {x y z d e : PyData} {r : R2} {K : PySem.W.Frag} {ds : List PyData} {D : De} {P : PyData → List Sl → Prop} {wi : TI} {g : TG} {js vs : List Nat} {F H : Hp} {σ : List (Option V)} {fps : List (List Addr)} {E : XK}
/-- for, the iterable with effects -/
theorem rs_forR {tb : TS} (hi : RI c wi env fun ds e0 => ∃ I : Nat → List Sl → Prop, I 0 e0 ∧
    (∀ (i : Nat) d env1, ds[i]? = some d → I i env1 → ∃ js env2, EvG c g js d env1 env2 ∧ RS c tb { D with nx := I (i + 1), ct := I (i + 1), bk := D.nx } env2) ∧ ∀ env1, I ds.length env1 → D.nx env1) : RS c (tFor wi g tb) D env := fun σ F H fps R E a =>
  hi σ F H fps R _ fun J F1 H1 f1 e1 ds R1 x1 w1 hh => by
    obtain ⟨I, h0, hs, hd⟩ := hh
    refine ⟨fun i m σ' H' => m = ds.length - i ∧ i ≤ ds.length ∧ ∃ F' env' fps', Rl c σ' F' H' env' fps' ∧ Ex F1 F' ∧ I i env', ⟨_, rfl, by omega, F1, e1, f1, R1, Ex.refl _, h0⟩, ?_⟩
    rintro i m σ' H' ⟨rfl, hile, F', env1, fps', R2, x2, hI⟩
    obtain ⟨hgo, hstop⟩ := w1 i H' F' x2 R2.eH
    by_cases hlt : i < ds.length
    · refine Or.inr ?_
      have hdd : ds[i]? = some ds[i] := List.getElem?_eq_getElem hlt
      obtain ⟨g1, g2⟩ := hgo _ hdd
      refine ⟨g1, fun σ2 H2 => ∃ F2 env2 fps2, Rl c σ2 F2 H2 env2 fps2 ∧ Ex F1 F2 ∧ I (i + 1) env2, fun σ2 H2 hN => ⟨ds.length - (i + 1), by omega, rfl, by omega, hN⟩, fun x H2 hy => ?_⟩
      obtain ⟨F2, s2, hx⟩ := g2 x H2 hy
      obtain ⟨js, env2, hg, hb⟩ := hs i _ env1 hdd hI
      have z1 : Ex F F2 := x1.trans (x2.trans s2.f)
      refine hg σ' F2 H2 fps' x (R2.ext s2) hx _ fun σ2 fps2 R3 _ => hb σ2 F2 H2 fps2 R3 _ ⟨fun σ3 F3 H3 env3 fps3 R3 x3 k3 => ⟨F3, env3, fps3, R3, (x2.trans s2.f).trans x3, k3⟩, fun σ3 F3 H3 env3 fps3 d v R3 x3 => a.rt σ3 F3 H3 env3 fps3 d v R3 (z1.trans x3), fun σ3 F3 H3 env3 fps3 R3 x3 => a.nx σ3 F3 H3 env3 fps3 R3 (z1.trans x3), fun σ3 F3 H3 env3 fps3 R3 x3 k3 => ⟨F3, env3, fps3, R3, (x2.trans s2.f).trans x3, k3⟩, fun σ3 F3 H3 env3 fps3 i p R3 x3 => a.ro σ3 F3 H3 env3 fps3 i p R3 (z1.trans x3)⟩
    · have ei : i = ds.length := by omega
      subst ei
      exact Or.inl ⟨hstop rfl, a.nx σ' F' H' env1 fps' R2 (x1.trans x2) (hd env1 hI)⟩

/-- the thing at slot i changes, within its own addresses and new ones -/
theorem Rl.mutG {H' : Hp} {i : Nat} {s s' : Sl} {fp fp' : List Addr} (r : Rl c σ F H env fps) (hs : env[i]? = some s) (hf : fps[i]? = some fp) (hH : ∀ b, b ∉ fp → H b ≠ none → H' b = H b) (hsub : ∀ b ∈ fp', b ∈ fp ∨ H b = none) (hdm : ∀ b, H b ≠ none → H' b ≠ none)
    (g : ∀ v, σ[i]? = some v → SlAt c F H v s fp → SlAt c F H' v s' fp') : Rl c σ F H' (env.set i s') (fps.set i fp') := by
  obtain ⟨v, fp0, h1, h2, h3⟩ := r.sl.get hs
  rw [hf] at h2; cases h2
  have hi2 := (List.getElem?_eq_some_iff.mp hf).1
  have ff0 := r.ff fp (List.mem_of_getElem? hf)
  have some_of : ∀ {G : Hp} {b : Addr} {u : HO}, G b = some u → Ex G H → H b ≠ none := fun e x => x.some (by rw [e]; exact fun z => nomatch z)
  have keep : ∀ {j : Nat} {fj : List Addr} {b : Addr}, j ≠ i → fps[j]? = some fj → b ∈ fj → b ∉ fp ∧ H b ≠ none := fun {j fj b} hj e hb => by
    obtain ⟨v2, s2, q1, q2, q3⟩ := r.sl.getF e
    exact ⟨fun z => hj (r.dj j i fj fp b e hf hb z), q3.some b hb⟩
  refine ⟨fun a u e => ?_, r.eF, fun a u e => ?_, r.nw, fun b hb => hdm b (r.dm b hb), ?_, fun j k fj fk b a1 a2 a3 a4 => ?_, fun f hm b hb => ?_⟩
  · rw [hH a (fun z => by rw [(ff0 a z).2.1] at e; cases e) (some_of e r.eB)]; exact r.eB a u e
  · rw [hH a (fun z => by rw [(ff0 a z).1] at e; cases e) (some_of e r.eH)]; exact r.eH a u e
  · have k := r.sl.put (H' := H') (Ex.refl F) i (g v h1 h3) fun j fj hj e1 b hm => by
      obtain ⟨z1, z2⟩ := keep hj e1 hm
      exact hH b z1 z2
    rw [set_self h1] at k
    exact k
  · have nn : ∀ {j : Nat} {fj : List Addr}, i ≠ j → fps[j]? = some fj → b ∈ fj → b ∉ fp' := fun {j fj} hij e hb hm => by
      obtain ⟨z1, z2⟩ := keep (Ne.symm hij) e hb
      rcases hsub b hm with z | z
      · exact z1 z
      · exact z2 z
    rw [List.getElem?_set] at a1 a2
    split at a1
    · rename_i ej
      split at a2
      · rename_i ek; exact ej.symm.trans ek
      · rename_i ek
        cases a1
        exact absurd a3 (nn ek a2 a4)
    · rename_i ej
      split at a2
      · rename_i ek
        cases a2
        exact absurd a4 (nn ej a1 a3)
      · exact r.dj j k fj fk b a1 a2 a3 a4
  · rcases mem_set hm with rfl | hm
    · rcases hsub b hb with z | z
      · exact ff0 b z
      · refine ⟨r.eH.free z, r.eB.free z, Or.inr ?_⟩
        cases q : c.H_0 b with
        | none => rfl
        | some u => exact absurd z (r.dm b (by rw [q]; exact fun z => nomatch z))
    · exact r.ff f hm b hb
/-- a call that changes two lists of the caller's -/
theorem call_own2 {R : List Sl → (PyData → List Sl → Prop) → Prop} {i j : Nat} {s1 s2 : Sl} {l1 l2 : List PyData} {ws : List V} {p q : Addr} (Rs : Rl c σ F H env fps) (h1 : env[i]? = some s1) (g1 : ownL s1 = some l1) (h2 : env[j]? = some s2) (g2 : ownL s2 = some l2) (hij : i ≠ j)
    (hp : σ[i]? = some (some (.ref p))) (hq : σ[j]? = some (some (.ref q))) (hd : Dts F ds ws)
    (hR : ∀ p q, R (.bo p (.lst l1) :: .bo q (.lst l2) :: ds.map .im) (fun d e' => ∃ m1 m2 r, e' = .bo p (.lst m1) :: .bo q (.lst m2) :: r ∧ P d ((env.set i (reO s1 (.lst m1))).set j (reO s2 (.lst m2))))) {Q : VK}
    (k : ∀ v d F' H' fps' env', Rl c σ F' H' env' fps' → Ex F F' → Dt F' d v → P d env' → Q v H') : PO c.C R (.ref p :: .ref q :: ws) H Q E := by
  obtain ⟨p', xs, a1, a2, a3, a4⟩ := Rs.ownL h1 g1
  rw [hp] at a1; cases a1
  obtain ⟨q', ys, b1, b2, b3, b4⟩ := Rs.ownL h2 g2
  rw [hq] at b1; cases b1
  have npq : p ≠ q := fun z => hij (Rs.dj i j [p] [q] p a2 b2 (by simp) (by simp [z]))
  have fp1 := Rs.ff [p] (List.mem_of_getElem? a2) p (by simp)
  have fq1 := Rs.ff [q] (List.mem_of_getElem? b2) q (by simp)
  have eFB : Ex F (cutH H [p, q]) := fun a u e => by
    rw [cutH_out (fun z => by
      simp only [List.mem_cons, List.not_mem_nil, or_false] at z
      rcases z with z | z
      · rw [z, fp1.1] at e; cases e
      · rw [z, fq1.1] at e; cases e)]
    exact Rs.eH a u e
  have eBH : Ex (cutH H [p, q]) H := fun a u e => by
    by_cases z : a ∈ [p, q]
    · rw [cutH_in z] at e; cases e
    · rw [cutH_out z] at e; exact e
  refine ⟨cutH H [p, q], F, [p, q], .bo p (.lst l1) :: .bo q (.lst l2) :: ds.map .im, [p] :: [q] :: ds.map (fun _ => []), _, ⟨eBH, Ex.refl _, Rs.eH, fun _ _ => Or.inl rfl, fun _ h => h, .cons ⟨rfl, rfl, xs, a3, a4⟩ (.cons ⟨rfl, rfl, ys, b3, b4⟩ (sls_im hd)), fun m n fm fn b c1 c2 c3 c4 => ?_, fun f hf b hb => ?_⟩, hR p q, fun d env' v F' H' fps' hP R' hv => ?_⟩
  · have z : ∀ {m : Nat} {fm : List Addr}, ([p] :: [q] :: ds.map (fun _ => ([] : List Addr)))[m]? = some fm → b ∈ fm → (m = 0 ∧ b = p) ∨ (m = 1 ∧ b = q) := fun {m fm} g hb => by
      cases m with
      | zero =>
        have g : [p] = fm := Option.some.inj g
        subst g
        exact Or.inl ⟨rfl, by simpa using hb⟩
      | succ m =>
        cases m with
        | zero =>
          have g : [q] = fm := Option.some.inj g
          subst g
          exact Or.inr ⟨rfl, by simpa using hb⟩
        | succ m =>
          have g : (ds.map (fun _ => ([] : List Addr)))[m]? = some fm := by simpa using g
          obtain ⟨_, _, q⟩ := List.mem_map.mp (List.mem_of_getElem? g)
          rw [← q] at hb; simp at hb
    rcases z c1 c3 with ⟨m0, e1⟩ | ⟨m0, e1⟩ <;> rcases z c2 c4 with ⟨n0, e2⟩ | ⟨n0, e2⟩
    · rw [m0, n0]
    · exact absurd (e1.symm.trans e2) npq
    · exact absurd (e2.symm.trans e1) npq
    · rw [m0, n0]
  · rcases List.mem_cons.mp hf with rfl | hf
    · simp only [List.mem_singleton] at hb; subst hb
      exact ⟨fp1.1, cutH_in (by simp), Or.inl (by simp)⟩
    · rcases List.mem_cons.mp hf with rfl | hf
      · simp only [List.mem_singleton] at hb; subst hb
        exact ⟨fq1.1, cutH_in (by simp), Or.inl (by simp)⟩
      · obtain ⟨_, _, q⟩ := List.mem_map.mp hf
        rw [← q] at hb; simp at hb
  · obtain ⟨m1, m2, rr, rfl, hP⟩ := hP
    have hsl := R'.sl
    have hff := R'.ff
    revert hff
    cases hsl with
    | @cons _ _ fp2 _ _ fps2 w1 w2 =>
      cases w2 with
      | @cons _ _ fp3 _ _ fps3 w2 w3 =>
        intro hff
        obtain ⟨_, rfl, xs', u3, u4⟩ := w1
        obtain ⟨_, rfl, ys', v3, v4⟩ := w2
        have ffp := hff [p] (by simp) p (by simp)
        have ffq := hff [q] (by simp) q (by simp)
        have out : ∀ b, H b ≠ none → b ≠ p → b ≠ q → H' b = H b := fun b hb n1 n2 => by
          cases z : H b with
          | none => exact absurd z hb
          | some u => exact R'.eB b u (by show cutH H [p, q] b = _; rw [cutH_out (by simp [n1, n2])]; exact z)
        have keep : ∀ {m : Nat} {fm : List Addr} {b : Addr}, m ≠ i → m ≠ j → fps[m]? = some fm → b ∈ fm → b ≠ p ∧ b ≠ q ∧ H b ≠ none := fun {m fm b} n1 n2 e hb => by
          obtain ⟨_, _, _, _, q3⟩ := Rs.sl.getF e
          exact ⟨fun z => n1 (Rs.dj m i fm [p] b e a2 hb (by simp [z])), fun z => n2 (Rs.dj m j fm [q] b e b2 hb (by simp [z])), q3.some b hb⟩
        refine k v d F' H' fps _ ⟨fun b u hb => ?_, Rs.eF.trans R'.eF, R'.eH, fun b hb => (Rs.nw b hb).trans (R'.nw b (Rs.dm b hb)) R'.eF, fun b hb => R'.dm b (Rs.dm b hb), ?_, Rs.dj, ?_⟩ R'.eF hv hP
        · rw [out b (Rs.eB.some (by rw [hb]; exact fun z => nomatch z)) (fun z => by rw [z, fp1.2.1] at hb; cases hb) (fun z => by rw [z, fq1.2.1] at hb; cases hb)]
          exact Rs.eB b u hb
        · refine Sls.mk (by rw [List.length_set, List.length_set]; exact Rs.sl.len.1) (by rw [List.length_set, List.length_set]; exact Rs.sl.len.2) fun m v' s' f' c1 c2 c3 => ?_
          rw [List.getElem?_set] at c2
          split at c2
          · rename_i ej
            subst ej
            rw [if_pos (by rw [List.length_set]; exact (List.getElem?_eq_some_iff.mp h2).1)] at c2
            rw [hq] at c1; rw [b2] at c3
            cases c1; cases c2; cases c3
            obtain ⟨v0, f0, k1, k2, k3⟩ := Rs.sl.get h2
            rw [hq] at k1; rw [b2] at k2; cases k1; cases k2
            cases s2 with
            | no => cases g2
            | im d => cases g2
            | ow o => obtain ⟨pp, k4, k5, k6⟩ := k3; exact ⟨q, rfl, ⟨rfl, ys', v3, v4⟩, k6⟩
            | bo pp o => obtain ⟨k4, k5⟩ := k3; exact ⟨k4, by cases k4; exact ⟨rfl, ys', v3, v4⟩⟩
          · rename_i ej
            rw [List.getElem?_set] at c2
            split at c2
            · rename_i ei
              subst ei
              rw [if_pos (List.getElem?_eq_some_iff.mp h1).1] at c2
              rw [hp] at c1; rw [a2] at c3
              cases c1; cases c2; cases c3
              obtain ⟨v0, f0, k1, k2, k3⟩ := Rs.sl.get h1
              rw [hp] at k1; rw [a2] at k2; cases k1; cases k2
              cases s1 with
              | no => cases g1
              | im d => cases g1
              | ow o => obtain ⟨pp, k4, k5, k6⟩ := k3; exact ⟨p, rfl, ⟨rfl, xs', u3, u4⟩, k6⟩
              | bo pp o => obtain ⟨k4, k5⟩ := k3; exact ⟨k4, by cases k4; exact ⟨rfl, xs', u3, u4⟩⟩
            · rename_i ei
              obtain ⟨v2, f2, d1, d2, d3⟩ := Rs.sl.get c2
              rw [c1] at d1; cases d1
              rw [c3] at d2; cases d2
              refine d3.stay R'.eF fun b hb => ?_
              obtain ⟨n1, n2, n3⟩ := keep (fun z => ei z.symm) (fun z => ej z.symm) c3 hb
              exact out b n3 n1 n2
        · intro f hf b hb
          obtain ⟨m, hm⟩ := List.mem_iff_getElem?.mp hf
          have old := Rs.ff f hf b hb
          by_cases ei : m = i
          · subst ei
            rw [a2] at hm; cases hm
            simp only [List.mem_singleton] at hb; subst hb
            exact ⟨ffp.1, old.2⟩
          · by_cases ej : m = j
            · subst ej
              rw [b2] at hm; cases hm
              simp only [List.mem_singleton] at hb; subst hb
              exact ⟨ffq.1, old.2⟩
            · obtain ⟨n1, n2, n3⟩ := keep ei ej hm hb
              obtain ⟨v2, s2', _, _, b3'⟩ := Rs.sl.getF hm
              refine ⟨(R'.nw b n3).none R'.eH (fun ys0 z => ?_) old.1, old.2⟩
              rw [out b n3 n1 n2] at z
              exact b3'.nt b hb ys0 z
theorem re_call2 {R : List Sl → (PyData → List Sl → Prop) → Prop} {i j : Nat} {s1 s2 : Sl} {C : Addr} (hC : C = c.C) (h1 : env[i]? = some s1) (g1 : (ownL s1).isSome = true) (h2 : env[j]? = some s2) (g2 : (ownL s2).isSome = true) (hij : i ≠ j)
    (ha : EvA c t env ds) (hR : ∀ l1 l2, ownL s1 = some l1 → ownL s2 = some l2 → ∀ p q, R (.bo p (.lst l1) :: .bo q (.lst l2) :: ds.map .im) (fun d e' => ∃ m1 m2 r, e' = .bo p (.lst m1) :: .bo q (.lst m2) :: r ∧ P d ((env.set i (reO s1 (.lst m1))).set j (reO s2 (.lst m2))))) :
    RE c (tCall (PO C R) [] E (tCons (tVar i) (tCons (tVar j) t))) env P := fun σ F H fps Rs Q q => by
  subst hC
  obtain ⟨l1, g1⟩ := Option.isSome_iff_exists.mp g1
  obtain ⟨l2, g2⟩ := Option.isSome_iff_exists.mp g2
  obtain ⟨p, xs, a1, a2, a3, a4⟩ := Rs.ownL h1 g1
  obtain ⟨p', ys, b1, b2, b3, b4⟩ := Rs.ownL h2 g2
  refine ⟨_, a1, _, b1, ha σ F H fps Rs _ fun ws F1 H1 st hd => ?_⟩
  show PO c.C R ((.ref p :: .ref p' :: ws) ++ []) H1 Q E
  rw [List.append_nil]
  exact call_own2 (Rs.ext st) h1 g1 h2 g2 hij a1 b1 hd (hR l1 l2 g1 g2) fun v d F' H' fps' env' R' x2 => q v d F' H' fps' env' R' (st.f.trans x2)
end
end Nr
set_option Elab.async false
set_option linter.all false
set_option maxRecDepth 100000
set_option maxHeartbeats 4000000
namespace Nr
open PySem PySem.Spec PyProof.Rows L2
abbrev Rows (H : Hp) : List Addr → List (List Int) → Prop := Paired fun r z => H r = some (.lst (z.map V.int))
theorem Rows.stay {H H' : Hp} {rs : List Addr} {ns : List (List Int)} (h : Rows H rs ns) (k : ∀ b ∈ rs, H' b = H b) : Rows H' rs ns := by
  induction h with
  | nil => exact .nil
  | cons r t ih => exact .cons (by show H' _ = _; rw [k _ List.mem_cons_self]; exact r) (ih fun b hb => k b (List.mem_cons_of_mem _ hb))
theorem Rows.get {H : Hp} {rs : List Addr} {ns : List (List Int)} (h : Rows H rs ns) : ∀ {i : Nat} {z : List Int}, ns[i]? = some z → ∃ r, rs[i]? = some r ∧ H r = some (.lst (z.map V.int)) := by
  induction h with
  | nil => intro i z e; simp at e
  | @cons r z rs ns h1 t ih =>
    intro i z' e
    cases i with
    | zero =>
      have e : z = z' := by simpa using e
      subst e
      exact ⟨r, rfl, h1⟩
    | succ i => simpa using ih (i := i) (z := z') (by simpa using e)
theorem Rows.set {H : Hp} {rs : List Addr} {ns : List (List Int)} {q : Addr} {z : List Int} (h : Rows H rs ns) : rs.Nodup → ∀ {i : Nat}, rs[i]? = some q → Rows (upd H q (.lst (z.map V.int))) rs (ns.set i z) := by
  induction h with
  | nil => intro _ i e; simp at e
  | @cons r z0 rs ns h1 t ih =>
    intro nd i e
    have nd := List.nodup_cons.mp nd
    cases i with
    | zero =>
      have e : r = q := by simpa using e
      subst e
      exact .cons upd_same (Rows.stay t fun b hb => upd_ne fun z => nd.1 (by rw [← z]; exact hb))
    | succ i =>
      have e : rs[i]? = some q := by simpa using e
      refine .cons ?_ (ih nd.2 e)
      show upd H q _ r = _
      rw [upd_ne fun z => nd.1 (by rw [z]; exact List.mem_of_getElem? e)]
      exact h1
theorem Rows.len {H : Hp} {rs : List Addr} {ns : List (List Int)} (h : Rows H rs ns) : rs.length = ns.length := Paired.length h
section
variable {c : Ct} {env env' env2 : List Sl} {ta tb tc te ti : TE} {t : TA} {x y z d e : PyData} {K : PySem.W.Frag} {ds : List PyData} {D : De} {F H : Hp} {σ : List (Option V)} {fps : List (List Addr)} {i : Nat} {s : Sl} {ms : List Str} {ns : List (List Int)}
/-- what stands at a plan -/
structure PlAt (C : Addr) (H : Hp) (p : Addr) (fp : List Addr) (ms : List Str) (ns : List (List Int)) (dx m n : Addr) (rs : List Addr) : Prop where
  ffp : fp = [p, dx, m, n] ++ rs
  fnd : fp.Nodup
  fp0 : H p = some (.ins C dx [("marks", .ref m), ("nexts", .ref n)])
  fx : H dx = some (.own p)
  fm : H m = some (.lst (ms.map .str))
  fn : H n = some (.lst (rs.map .ref))
  fr : Rows H rs ns
theorem Rl.pl (R : Rl c σ F H env fps) (h : env[i]? = some s) (ho : Nr.conO s = some (Ow.pl ms ns)) : ∃ p fp dx m n rs, σ[i]? = some (some (.ref p)) ∧ fps[i]? = some fp ∧ PlAt c.C H p fp ms ns dx m n rs ∧
    (∀ F' H' o' fp', OwAt c.C F' H' p fp' o' → (∀ b ∈ fp', b ∈ fp ∨ c.H_0 b = none) → SlAt c F' H' (some (.ref p)) (reO s o') fp') := by
  obtain ⟨p, fp, h1, h2, h3, h4⟩ := R.conO h ho
  obtain ⟨dx, m, n, rs, a1, a2, a3, a4, a5, a6, a7⟩ := h3
  exact ⟨p, fp, dx, m, n, rs, h1, h2, ⟨a1, a2, a3, a4, a5, a6, a7⟩, h4⟩
section
variable {C p dx m n : Addr} {fp rs : List Addr}
theorem PlAt.ow (h : PlAt C H p fp ms ns dx m n rs) : OwAt C F H p fp (.pl ms ns) := ⟨dx, m, n, rs, h.ffp, h.fnd, h.fp0, h.fx, h.fm, h.fn, h.fr⟩
theorem PlAt.ne (h : PlAt C H p fp ms ns dx m n rs) : p ≠ dx ∧ p ≠ m ∧ p ≠ n ∧ dx ≠ m ∧ dx ≠ n ∧ m ≠ n ∧ (p ∉ rs ∧ dx ∉ rs ∧ m ∉ rs ∧ n ∉ rs) ∧ rs.Nodup := by
  have nd := h.fnd
  rw [h.ffp] at nd
  simp only [List.cons_append, List.nil_append, List.nodup_cons, List.mem_cons, not_or] at nd
  obtain ⟨⟨a1, a2, a3, a4⟩, ⟨b1, b2, b3⟩, ⟨c1, c2⟩, d1, e1⟩ := nd
  exact ⟨a1, a2, a3, b1, b2, c1, ⟨a4, b3, c2, d1⟩, e1⟩
theorem PlAt.ext {H' : Hp} (h : PlAt C H p fp ms ns dx m n rs) (e : Ex H H') : PlAt C H' p fp ms ns dx m n rs :=
  ⟨h.ffp, h.fnd, e _ _ h.fp0, e _ _ h.fx, e _ _ h.fm, e _ _ h.fn, Paired.mapP h.fr fun _ _ q => e _ _ q⟩
theorem lookM : List.lookup ("marks" : Str) [(("marks" : Str), V.ref m), (("nexts" : Str), V.ref n)] = some (.ref m) := by rfl
theorem lookN : List.lookup ("nexts" : Str) [(("marks" : Str), V.ref m), (("nexts" : Str), V.ref n)] = some (.ref n) := by
  have e : (("nexts" : Str) == ("marks" : Str)) = false := by decide
  rw [List.lookup, e]
  rfl
end
/-- the plan's state after a write at b, and new things -/
theorem Rl.putP {H' : Hp} {p dx m n : Addr} {fp rs fp' rs' : List Addr} {ms' : List Str} {ns' : List (List Int)} (R : Rl c σ F H env fps) (h : env[i]? = some s) (h1 : σ[i]? = some (some (.ref p))) (h2 : fps[i]? = some fp) (h3 : PlAt c.C H p fp ms ns dx m n rs)
    (h4 : ∀ F' H' o' fp', OwAt c.C F' H' p fp' o' → (∀ b ∈ fp', b ∈ fp ∨ c.H_0 b = none) → SlAt c F' H' (some (.ref p)) (reO s o') fp')
    (h5 : PlAt c.C H' p fp' ms' ns' dx m n rs') (hs : ∀ b ∈ fp', b ∈ fp ∨ H b = none) (hk : ∀ b, b ∉ fp → H b ≠ none → H' b = H b) (hd : ∀ b, H b ≠ none → H' b ≠ none) : Rl c σ F H' (env.set i (reO s (.pl ms' ns'))) (fps.set i fp') :=
  R.mutG h h2 hk hs hd fun v q _ => by
    rw [h1] at q; cases q
    refine h4 F H' _ fp' h5.ow fun b hb => (hs b hb).elim Or.inl fun z => Or.inr ?_
    cases q : c.H_0 b with
    | none => rfl
    | some u => exact absurd z (R.dm b (by rw [q]; exact fun z => nomatch z))
/-- self.marks.append(text) -/
theorem rs_layM {z : Str} (cl : Cls K c.C) (na : NoAttr K c.C "marks") (h : env[i]? = some s) (ho : conO s = some (.pl ms ns)) (hv : EvE c te env (.str z)) (hl : ms.length < 1000) (k : D.nx (env.set i (reO s (.pl (ms ++ [z]) ns)))) :
    RS c (tDrop (tBM K "list" rAppend (tFld K (tVar i) "marks") (tCons te tNil))) D env := fun σ F H fps R E a => by
  obtain ⟨p, fp, dx, m, n, rs, h1, h2, h3, h4⟩ := R.pl h ho
  refine ⟨_, h1, p, c.C, dx, _, .ref m, rfl, h3.fp0, cl, na, lookM, Or.inl ⟨rfl, _, SqL.of h3.fm⟩, hv σ F H fps R _ fun v F1 H1 s1 g1 => ?_⟩
  have g1 : v = .str z := g1
  subst g1
  have h5 := h3.ext s1.e
  obtain ⟨n1, n2, n3, n4, n5, n6, ⟨n7, n8, n9, n10⟩, n11⟩ := h5.ne
  refine ⟨m, ms.map .str, .str z, rfl, rfl, h5.fm, sz_lt (by rw [List.length_map]; omega), a.nx _ F1 _ _ _ ((R.ext s1).putP h h1 h2 h5 h4 (fp' := fp) (rs' := rs) (ms' := ms ++ [z]) (ns' := ns)
    ⟨h5.ffp, h5.fnd, by rw [upd_ne n2]; exact h5.fp0, by rw [upd_ne n4]; exact h5.fx, by rw [upd_same, List.map_append]; rfl, by rw [upd_ne n6.symm]; exact h5.fn, h5.fr.stay fun b hb => upd_ne fun q => n9 (by rw [← q]; exact hb)⟩
    (fun b hb => Or.inl hb) (fun b hb _ => upd_ne fun q => hb (by rw [q, h5.ffp]; simp)) fun b hb => ?_) s1.f k⟩
  by_cases q : b = m
  · rw [q, upd_same]; exact fun z => nomatch z
  · rw [upd_ne q]; exact hb
/-- self.nexts.append([]) -/
theorem rs_layN (cl : Cls K c.C) (na : NoAttr K c.C "nexts") (h : env[i]? = some s) (ho : conO s = some (.pl ms ns)) (hl : ns.length < 1000) (k : D.nx (env.set i (reO s (.pl ms (ns ++ [[]]))))) :
    RS c (tDrop (tBM K "list" rAppend (tFld K (tVar i) "nexts") (tCons (tLst tNil) tNil))) D env := fun σ F H fps R E a => by
  obtain ⟨p, fp, dx, m, n, rs, h1, h2, h3, h4⟩ := R.pl h ho
  obtain ⟨n1, n2, n3, n4, n5, n6, ⟨n7, n8, n9, n10⟩, n11⟩ := h3.ne
  refine ⟨_, h1, p, c.C, dx, _, .ref n, rfl, h3.fp0, cl, na, lookN, Or.inl ⟨rfl, _, SqL.of h3.fn⟩, Nat.zero_le _, fun q hq => ?_⟩
  have nq : ∀ {b : Addr} {u : HO}, H b = some u → b ≠ q := fun e z => by rw [z, hq] at e; cases e
  have nrs : q ∉ rs := fun hm => by
    obtain ⟨j, hj⟩ := List.mem_iff_getElem?.mp hm
    have := h3.fr.len
    have hj2 := (List.getElem?_eq_some_iff.mp hj).1
    obtain ⟨r, e1, e2⟩ := h3.fr.get (List.getElem?_eq_getElem (l := ns) (i := j) (by omega))
    rw [hj] at e1; cases e1
    rw [hq] at e2; cases e2
  refine ⟨n, rs.map .ref, .ref q, rfl, rfl, by rw [upd_ne (nq h3.fn)]; exact h3.fn, sz_lt (by rw [List.length_map, h3.fr.len]; omega), a.nx _ F _ _ _ (R.putP h h1 h2 h3 h4 (fp' := fp ++ [q]) (rs' := rs ++ [q]) (ms' := ms) (ns' := ns ++ [[]])
    ⟨by rw [h3.ffp, List.append_assoc], ?_, by rw [upd_ne n3, upd_ne (nq h3.fp0)]; exact h3.fp0, by rw [upd_ne n5, upd_ne (nq h3.fx)]; exact h3.fx, by rw [upd_ne n6, upd_ne (nq h3.fm)]; exact h3.fm, by rw [upd_same, List.map_append]; rfl, ?_⟩
    (fun b hb => ?_) (fun b hb hn => ?_) fun b hb => ?_) (Ex.refl _) k⟩
  · rw [List.nodup_append]
    refine ⟨h3.fnd, by simp, fun a ha b hb => ?_⟩
    simp only [List.mem_singleton] at hb
    subst hb
    intro z
    subst z
    rw [h3.ffp] at ha
    simp only [List.cons_append, List.nil_append, List.mem_cons] at ha
    rcases ha with z | z | z | z | z
    · exact nq h3.fp0 z.symm
    · exact nq h3.fx z.symm
    · exact nq h3.fm z.symm
    · exact nq h3.fn z.symm
    · exact nrs z
  · have e1 : Rows (upd (upd H q (.lst [])) n (.lst (rs.map V.ref ++ [.ref q]))) rs ns := h3.fr.stay fun b hb => by
      rw [upd_ne fun z => n10 (by rw [← z]; exact hb), upd_ne fun z => nrs (by rw [← z]; exact hb)]
    exact Paired.snoc e1 (by show upd _ _ _ _ = _; rw [upd_ne (nq h3.fn).symm, upd_same]; rfl)
  · rcases List.mem_append.mp hb with hb | hb
    · exact Or.inl hb
    · simp only [List.mem_singleton] at hb; subst hb; exact Or.inr hq
  · rw [upd_ne fun q => hb (by rw [q, h3.ffp]; simp), upd_ne fun z => hn (by rw [z]; exact hq)]
  · by_cases q1 : b = n
    · rw [q1, upd_same]; exact fun z => nomatch z
    · rw [upd_ne q1]
      by_cases q2 : b = q
      · rw [q2, upd_same]; exact fun z => nomatch z
      · rw [upd_ne q2]; exact hb
/-- len(self.marks) -/
theorem ev_lenM (cl : Cls K c.C) (na : NoAttr K c.C "marks") (h : env[i]? = some s) (ho : conO s = some (.pl ms ns)) : EvE c (tCB (fun xs H Q => ∃ p ys, xs = [.ref p] ∧ (SqL K H p ys ∨ SqT K H p ys) ∧ Q (.int ys.length) H) (tCons (tFld K (tVar i) "marks") tNil)) env (.int ms.length) := fun σ F H fps R Q q => by
  obtain ⟨p, fp, dx, m, n, rs, h1, h2, h3, h4⟩ := R.pl h ho
  exact ⟨_, h1, p, c.C, dx, _, .ref m, rfl, h3.fp0, cl, na, lookM, m, _, rfl, Or.inl (SqL.of h3.fm), q _ F H (Stp.refl R.eH) (by rw [List.length_map]; rfl)⟩
/-- other not in self.nexts[place] -/
theorem ev_notinP {o : Int} {k : Int} {j : Nat} {row : List Int} (cl : Cls K c.C) (na : NoAttr K c.C "nexts") (h : env[i]? = some s) (ho : conO s = some (.pl ms ns)) (hv : EvE c te env (.int o)) (hi : EvE c ti env (.int k)) (ek : k = (j : Int)) (hr : ns[j]? = some row) :
    EvE c (tOp (rIn K true) te (tOp (rIxL K) (tFld K (tVar i) "nexts") ti)) env (.bool (!decide (o ∈ row))) := fun σ F H fps R Q q => by
  refine hv σ F H fps R _ fun v F1 H1 s1 g1 => ?_
  have g1 : v = .int o := g1
  subst g1
  have R1 := R.ext s1
  obtain ⟨p, fp, dx, m, n, rs, h1, h2, h3, h4⟩ := R1.pl h ho
  refine ⟨_, h1, p, c.C, dx, _, .ref n, rfl, h3.fp0, cl, na, lookN, hi σ F1 H1 fps R1 _ fun w F2 H2 s2 g2 => ?_⟩
  have g2 : w = .int k := g2
  subst g2
  obtain ⟨r, e1, e2⟩ := h3.fr.get hr
  refine ⟨n, rs.map .ref, k, .ref r, rfl, rfl, SqL.of (s2.e _ _ h3.fn), ix_of ek (by rw [List.getElem?_map, e1]; rfl), r, row.map .int, rfl, Or.inl (SqL.of (s2.e _ _ e2)), rfl, flat_ints row, ?_⟩
  show Q (.bl (!inV (.int o) (row.map .int))) H2
  rw [inV_ints]
  exact q _ F2 H2 (s1.trans s2) rfl
/-- self.nexts[place].append(other) -/
theorem rs_linkP {o : Int} {k : Int} {j : Nat} {row : List Int} (cl : Cls K c.C) (na : NoAttr K c.C "nexts") (h : env[i]? = some s) (ho : conO s = some (.pl ms ns)) (hi : EvE c ti env (.int k)) (hv : EvE c te env (.int o)) (ek : k = (j : Int)) (hr : ns[j]? = some row) (hl : row.length < 1000) (q : D.nx (env.set i (reO s (.pl ms (ns.set j (row ++ [o])))))) :
    RS c (tDrop (tBM K "list" rAppend (tOp (rIxL K) (tFld K (tVar i) "nexts") ti) (tCons te tNil))) D env := fun σ F H fps R E a => by
  obtain ⟨p, fp, dx, m, n, rs, h1, h2, h3, h4⟩ := R.pl h ho
  refine ⟨_, h1, p, c.C, dx, _, .ref n, rfl, h3.fp0, cl, na, lookN, hi σ F H fps R _ fun w F1 H1 s1 g1 => ?_⟩
  have g1 : w = .int k := g1
  subst g1
  obtain ⟨r, e1, e2⟩ := h3.fr.get hr
  refine ⟨n, rs.map .ref, k, .ref r, rfl, rfl, SqL.of (s1.e _ _ h3.fn), ix_of ek (by rw [List.getElem?_map, e1]; rfl), Or.inl ⟨rfl, _, SqL.of (s1.e _ _ e2)⟩, hv σ F1 H1 fps (R.ext s1) _ fun w F2 H2 s2 g2 => ?_⟩
  have g2 : w = .int o := g2
  subst g2
  have h5 := (h3.ext s1.e).ext s2.e
  obtain ⟨n1, n2, n3, n4, n5, n6, ⟨n7, n8, n9, n10⟩, n11⟩ := h5.ne
  have hm := List.mem_of_getElem? e1
  have nr : ∀ {b : Addr}, b ∉ rs → b ≠ r := fun hb z => hb (by rw [z]; exact hm)
  have e3 : row.map V.int ++ [.int o] = (row ++ [o]).map V.int := by rw [List.map_append]; rfl
  refine ⟨r, row.map .int, .int o, rfl, rfl, s2.e _ _ (s1.e _ _ e2), sz_lt (by rw [List.length_map]; omega), ?_⟩
  rw [e3]
  have key := ((R.ext s1).ext s2).putP h h1 h2 h5 h4 (H' := upd H2 r (.lst ((row ++ [o]).map V.int))) (fp' := fp) (rs' := rs) (ms' := ms) (ns' := ns.set j (row ++ [o]))
    ⟨h5.ffp, h5.fnd, by rw [upd_ne (nr n7)]; exact h5.fp0, by rw [upd_ne (nr n8)]; exact h5.fx, by rw [upd_ne (nr n9)]; exact h5.fm, by rw [upd_ne (nr n10)]; exact h5.fn, h5.fr.set n11 e1⟩
    (fun b hb => Or.inl hb) (fun b hb _ => upd_ne fun q => hb (by rw [q, h5.ffp]; simp [hm])) (fun b hb => by
      by_cases q : b = r
      · rw [q, upd_same]; exact fun z => nomatch z
      · rw [upd_ne q]; exact hb)
  rw [set_self h2] at key
  exact a.nx _ F2 _ _ _ key (s1.f.trans s2.f) q
end
end Nr
set_option Elab.async false
set_option linter.all false
set_option maxRecDepth 100000
set_option maxHeartbeats 4000000
namespace Nr
open PySem PySem.Spec PyProof.Rows L2
section
variable {c : Ct} {env env' env2 : List Sl} {ta tb tc te ti : TE} {t : TA} {ts : TS} {x y z d e : PyData} {K : PySem.W.Frag} {ds : List PyData} {D : De} {F H : Hp} {σ : List (Option V)} {fps : List (List Addr)} {i : Nat} {s : Sl} {ms : List Str} {ns : List (List Int)}
/-- a slot takes a thing of new addresses -/
theorem Rl.putW {H' : Hp} {i : Nat} {o : Ow} {p : Addr} {fp : List Addr} (r : Rl c σ F H env fps) (hn : ∀ b ∈ fp, H b = Option.none) (hk : ∀ b, b ∉ fp → H' b = H b) (ha : OwAt c.C F H' p fp o) : Rl c (σ.set i (Option.some (.ref p))) F H' (env.set i (.ow o)) (fps.set i fp) := by
  have nf : ∀ {j : Nat} {fj : List Addr} {b : Addr}, fps[j]? = Option.some fj → b ∈ fj → b ∉ fp := fun {j fj b} e hb hm => by
    obtain ⟨_, _, _, _, q3⟩ := r.sl.getF e
    exact q3.some b hb (hn b hm)
  have keep : ∀ b, H b ≠ Option.none → H' b = H b := fun b hb => hk b fun z => hb (hn b z)
  have eHH : Ex H H' := fun a u e => by rw [keep a (by rw [e]; exact fun z => nomatch z)]; exact e
  have h0 : ∀ b ∈ fp, c.H_0 b = Option.none := fun b hb => by
    cases q : c.H_0 b with
    | none => rfl
    | some u => exact absurd (hn b hb) (r.dm b (by rw [q]; exact fun z => nomatch z))
  refine ⟨r.eB.trans eHH, r.eF, r.eH.trans eHH, r.nw, fun b hb => eHH.some (r.dm b hb), ?_, fun j k fj fk b h1 h2 h3 h4 => ?_, fun f hf b hb => ?_⟩
  · exact r.sl.put (Ex.refl F) i (show SlAt c F H' (Option.some (.ref p)) (.ow o) fp from ⟨p, rfl, ha, h0⟩) fun j fj hj e1 b hm => by
      obtain ⟨_, _, _, _, q3⟩ := r.sl.getF e1
      exact keep b (q3.some b hm)
  · rw [List.getElem?_set] at h1 h2
    split at h1
    · split at h1
      · cases h1
        split at h2
        · omega
        · exact absurd h3 (nf h2 h4)
      · cases h1
    · split at h2
      · split at h2
        · cases h2
          exact absurd h4 (nf h1 h3)
        · cases h2
      · exact r.dj j k fj fk b h1 h2 h3 h4
  · rcases mem_set hf with rfl | hf
    · exact ⟨r.eH.free (hn b hb), r.eB.free (hn b hb), Or.inr (h0 b hb)⟩
    · exact r.ff f hf b hb
/-- Plan.__init__ -/
def PI0 (C : Addr) : Sp := fun vs H Q _ => ∃ x dx H0, vs = [.ref x] ∧ H0 x = none ∧ H0 dx = none ∧ dx ≠ x ∧ H = upd (upd H0 dx (.own x)) x (.ins C dx []) ∧
  ∀ (H' : Hp) (m n r : Addr), [x, dx, m, n, r].Nodup → H0 m = none → H0 n = none → H0 r = none → H' x = some (.ins C dx [("marks", .ref m), ("nexts", .ref n)]) → H' dx = some (.own x) → H' m = some (.lst [.str ""]) → H' n = some (.lst [.ref r]) → H' r = some (.lst []) →
    (∀ b, b ∉ [x, dx, m, n, r] → H' b = H0 b) → Q .non H'
theorem rs_asgPlan {C : Addr} (hC : C = c.C) (k : D.nx (env.set i (.ow (.pl [""] [[]])))) : RS c (tAsg (tMake C (PI0 C) [] E0 tNil) (gName i)) D env := fun σ F H fps R E a => by
  subst hC
  intro x dx hx hdx hne
  refine ⟨x, dx, H, rfl, hx, hdx, hne, rfl, fun H' m n r nd hm hn hr e1 e2 e3 e4 e5 hk => ⟨rfl, ?_⟩⟩
  refine a.nx _ F H' _ _ (R.putW (i := i) (o := .pl [""] [[]]) (p := x) (fp := [x, dx, m, n, r]) (fun b hb => ?_) hk ⟨dx, m, n, [r], rfl, nd, e1, e2, e3, e4, .cons e5 .nil⟩) (Ex.refl _) k
  simp only [List.mem_cons, List.not_mem_nil, or_false] at hb
  rcases hb with rfl | rfl | rfl | rfl | rfl <;> assumption
/-- the plan is done: its lists are data from here on -/
theorem rows_dts {F' : Hp} : ∀ {rs : List Addr} {ns : List (List Int)}, Rows F' rs ns → Dts F' (ns.map fun z => .list (z.map .int)) (rs.map .ref)
  | _, _, .nil => rfl
  | _, _, .cons h t => Dts.cons ⟨_, _, rfl, h, Dts.ints _⟩ (rows_dts t)
theorem rs_frzP (h : env[i]? = some (.ow (.pl ms ns))) (k : RS c ts D (env.set i (.ow (.pf ms ns)))) : RS c ts D env := fun σ F H fps R E a => by
  obtain ⟨p, fp, dx, m, n, rs, h1, h2, h3, h4⟩ := R.pl h rfl
  obtain ⟨n1, n2, n3, n4, n5, n6, ⟨n7, n8, n9, n10⟩, n11⟩ := h3.ne
  obtain ⟨v, fp0, g1, g2, p', g3, g4, g5⟩ := R.sl.get h
  rw [h1] at g1; cases g1; cases g3
  rw [h2] at g2; cases g2
  have ff0 := R.ff fp (List.mem_of_getElem? h2)
  have sub : ∀ b, (b = m ∨ b = n ∨ b ∈ rs) → b ∈ fp := fun b hb => by
    rw [h3.ffp]
    simp only [List.cons_append, List.nil_append, List.mem_cons]
    rcases hb with hb | hb | hb
    · exact Or.inr (Or.inr (Or.inl hb))
    · exact Or.inr (Or.inr (Or.inr (Or.inl hb)))
    · exact Or.inr (Or.inr (Or.inr (Or.inr hb)))
  have spec : ∃ F' : Hp, (∀ b, (b = m ∨ b = n ∨ b ∈ rs) → F' b = H b) ∧ ∀ b, ¬(b = m ∨ b = n ∨ b ∈ rs) → F' b = F b := by
    classical
    exact ⟨fun b => if (b = m ∨ b = n ∨ b ∈ rs) then H b else F b, fun b hb => if_pos hb, fun b hb => if_neg hb⟩
  obtain ⟨F', i1, i2⟩ := spec
  have eF : Ex F F' := fun b u e => by
    by_cases q : b = m ∨ b = n ∨ b ∈ rs
    · rw [(ff0 b (sub b q)).1] at e; cases e
    · rw [i2 b q]; exact e
  have eH : Ex F' H := fun b u e => by
    by_cases q : b = m ∨ b = n ∨ b ∈ rs
    · rw [i1 b q] at e; exact e
    · rw [i2 b q] at e; exact R.eH _ _ e
  have np : ¬(p = m ∨ p = n ∨ p ∈ rs) := by rintro (q | q | q); exact n2 q; exact n3 q; exact n7 q
  have nx : ¬(dx = m ∨ dx = n ∨ dx ∈ rs) := by rintro (q | q | q); exact n4 q; exact n5 q; exact n8 q
  have hrow : Rows F' rs ns := h3.fr.stay fun b hb => i1 b (Or.inr (Or.inr hb))
  have pin : p ∈ fp := by rw [h3.ffp]; simp
  have xin : dx ∈ fp := by rw [h3.ffp]; simp
  refine k σ F' H (fps.set i [p, dx]) ⟨R.eB, R.eF.trans eF, eH, fun b hb => ?_, R.dm, ?_, fun j k fj fk b q1 q2 q3 q4 => ?_, fun f hf b hb => ?_⟩ E (a.mono eF)
  · have q : ¬(b = m ∨ b = n ∨ b ∈ rs) := fun q => hb (g5 b (sub b q))
    show Nb _ _ _
    unfold Nb
    rw [i2 b q]
    exact R.nw b hb
  · have key := R.sl.put (H' := H) eF i (show SlAt c F' H (some (.ref p)) (.ow (.pf ms ns)) [p, dx] from ⟨p, rfl, ⟨dx, m, n, rfl, h3.fp0, h3.fx, ⟨m, _, rfl, by rw [i1 m (Or.inl rfl)]; exact h3.fm, Dts.strs _⟩, ⟨n, _, rfl, by rw [i1 n (Or.inr (Or.inl rfl))]; exact h3.fn, rows_dts hrow⟩⟩, fun b hb => ?_⟩) (fun _ _ _ _ _ _ => rfl)
    · rw [set_self h1] at key; exact key
    · simp only [List.mem_cons, List.not_mem_nil, or_false] at hb
      rcases hb with rfl | rfl
      · exact g5 _ pin
      · exact g5 _ xin
  · have lift : ∀ {j : Nat} {fj : List Addr}, (fps.set i [p, dx])[j]? = some fj → b ∈ fj → ∃ f, fps[j]? = some f ∧ b ∈ f := fun {j fj} e hb => by
      rw [List.getElem?_set] at e
      split at e
      · rename_i q; subst q
        split at e
        · cases e
          simp only [List.mem_cons, List.not_mem_nil, or_false] at hb
          exact ⟨fp, h2, by rcases hb with rfl | rfl; exact pin; exact xin⟩
        · cases e
      · exact ⟨fj, e, hb⟩
    obtain ⟨f1, a1, a2⟩ := lift q1 q3
    obtain ⟨f2, b1, b2⟩ := lift q2 q4
    exact R.dj j k f1 f2 b a1 b1 a2 b2
  · obtain ⟨j, hj⟩ := List.mem_iff_getElem?.mp hf
    rw [List.getElem?_set] at hj
    split at hj
    · split at hj
      · cases hj
        simp only [List.mem_cons, List.not_mem_nil, or_false] at hb
        rcases hb with rfl | rfl
        · exact ⟨by rw [i2 _ np]; exact (ff0 _ pin).1, (ff0 _ pin).2⟩
        · exact ⟨by rw [i2 _ nx]; exact (ff0 _ xin).1, (ff0 _ xin).2⟩
      · cases hj
    · rename_i q
      have old := R.ff f (List.mem_of_getElem? hj) b hb
      refine ⟨?_, old.2⟩
      rw [i2 b fun z => q (R.dj i j fp f b h2 hj (sub b z) hb)]
      exact old.1
theorem ev_fldM (cl : Cls K c.C) (na : NoAttr K c.C "marks") (h : env[i]? = some (.ow (.pf ms ns))) : EvE c (tFld K (tVar i) "marks") env (.list (ms.map .str)) := fun σ F H fps R Q q => by
  obtain ⟨v, fp, h1, h2, p, rfl, ⟨dx, m, n, rfl, a1, a2, a3, a4⟩, _⟩ := R.sl.get h
  exact ⟨_, h1, p, c.C, dx, _, .ref m, rfl, a1, cl, na, lookM, q _ F H (Stp.refl R.eH) a3⟩
theorem ev_fldN (cl : Cls K c.C) (na : NoAttr K c.C "nexts") (h : env[i]? = some (.ow (.pf ms ns))) : EvE c (tFld K (tVar i) "nexts") env (.list (ns.map fun z => .list (z.map .int))) := fun σ F H fps R Q q => by
  obtain ⟨v, fp, h1, h2, p, rfl, ⟨dx, m, n, rfl, a1, a2, a3, a4⟩, _⟩ := R.sl.get h
  exact ⟨_, h1, p, c.C, dx, _, .ref n, rfl, a1, cl, na, lookN, q _ F H (Stp.refl R.eH) a4⟩
end
section
variable {P : Program} {w : World} {K : PySem.W.Frag} {mg : Str → Option Value} {base : Heap} {C T : Addr}
theorem mk_plan (t : Tx K mg C T) : Mkc P w K mg base 1 C (PI0 C) := by
  obtain ⟨f, fd, M, F⟩ := t.mkP
  have sc : FnScope ["self"] ["self"] (defScope s_P_init) := ⟨rfl, rfl, rfl, by decide +kernel, rfl, by decide +kernel, by decide +kernel⟩
  refine ⟨f, fd, ["self"], M, ?_, t.gP, F.binds (fun _ _ _ _ _ _ us hl => match us, hl with | [_], _ => rfl)⟩
  refine F.ok sc (fun vs H Q E h => ?_) fun cdv A outer s H vs Q E hr h => ⟨_,
    (pss_cons (ps_fld (pv 0) (pe_lst (pa_cons pe_str pa_nil)) rfl) (pss_one (ps_fld (pv 0) (pe_lst (pa_cons (pe_lst pa_nil) pa_nil)) rfl))), ?_⟩
  · obtain ⟨x, dx, H0, rfl, _⟩ := h; rfl
  · obtain ⟨x, dx, H0, rfl, hx, hdx, hne, rfl, q⟩ := h
    have e1 : ∀ {G : Hp} {a b : Addr} {u : HO}, (upd G a u) b = none → b ≠ a ∧ G b = none := fun {G a b u} h => by
      have z : b ≠ a := fun z => by rw [z, upd_same] at h; cases h
      rw [upd_ne z] at h
      exact ⟨z, h⟩
    refine ⟨by decide, fun m hm => ?_⟩
    obtain ⟨m1, hm⟩ := e1 hm
    obtain ⟨m2, hm⟩ := e1 hm
    refine ⟨_, rfl, x, C, dx, [], rfl, by rw [upd_ne (Ne.symm m1), upd_same], t.cl, t.nM, by decide, by decide, fun r hr => ⟨by show 1 ≤ sizeLine; decide, fun n hn => ?_⟩⟩
    obtain ⟨r1, hr⟩ := e1 hr
    obtain ⟨r2, hr⟩ := e1 hr
    obtain ⟨_, hr⟩ := e1 hr
    obtain ⟨r3, hr⟩ := e1 hr
    obtain ⟨n1, hn⟩ := e1 hn
    obtain ⟨n2, hn⟩ := e1 hn
    obtain ⟨n3, hn⟩ := e1 hn
    obtain ⟨_, hn⟩ := e1 hn
    obtain ⟨n4, hn⟩ := e1 hn
    have e2 : putF "marks" (V.ref m) ([] : List (Str × V)) = [(("marks" : Str), V.ref m)] := rfl
    have e3 : putF "nexts" (V.ref n) [(("marks" : Str), V.ref m)] = [(("marks" : Str), V.ref m), (("nexts" : Str), V.ref n)] := by
      show (if ("marks" : Str) = "nexts" then _ else _) = _
      rw [if_neg (by decide)]
      rfl
    refine ⟨_, rfl, x, C, dx, [(("marks" : Str), V.ref m)], rfl, by rw [upd_ne (Ne.symm n2), upd_ne (Ne.symm r1), upd_same, e2], t.cl, t.nN, by show 1 < 1000; decide, ?_⟩
    rw [e3]
    refine q _ m n r (by simp only [List.nodup_cons, List.mem_cons, List.not_mem_nil, or_false, not_or, not_false_iff, List.nodup_nil, and_true]; exact ⟨⟨Ne.symm hne, Ne.symm m1, Ne.symm n2, Ne.symm r1⟩, ⟨Ne.symm m2, Ne.symm n4, Ne.symm r3⟩, ⟨Ne.symm n3, Ne.symm r2⟩, n1⟩) hm hn hr upd_same ?_ ?_ ?_ ?_ fun b hb => ?_
    · rw [upd_ne hne, upd_ne (Ne.symm n4), upd_ne (Ne.symm r3), upd_ne hne, upd_ne (Ne.symm m2), upd_ne hne, upd_same]
    · rw [upd_ne m1, upd_ne (Ne.symm n3), upd_ne (Ne.symm r2), upd_ne m1, upd_same]
    · rw [upd_ne n2, upd_same]
    · rw [upd_ne r1, upd_ne (Ne.symm n1), upd_same]
    · simp only [List.mem_cons, List.not_mem_nil, or_false, not_or] at hb
      obtain ⟨b1, b2, b3, b4, b5⟩ := hb
      rw [upd_ne b1, upd_ne b4, upd_ne b5, upd_ne b1, upd_ne b3, upd_ne b1, upd_ne b2]
end
end Nr
set_option Elab.async false
set_option linter.all false
set_option maxRecDepth 100000
set_option maxHeartbeats 4000000
namespace Nr
open PySem PySem.Spec PyProof.Rows L2
theorem hu_of {k : Nat} {A : Around} (h : Room k A) : A.units + 1 < cLine := by
  have := h.units
  omega
theorem pt_truthK {X : Cx} {K : PySem.W.Frag} {a : Expr} {ta : TE} (hK : X.K = K) (ha : PE X a ta) (he : ∀ whole, isTrue a X.env whole = (do let v ← whole; standAt a.pos; holding [v] (truthy v))) : PT X a (fun σ H Q => ta σ H fun x H' => ∃ k, TruV K x H' k ∧ Q k H') := by
  subst hK
  exact pt_truth ha he
section
variable {c : Ct} {env env' env2 : List Sl} {ta tb te : TE} {tt : TT} {x y z d e : PyData} {K : PySem.W.Frag}
theorem ev_compF {α : Type} {l : List α} {g0 : α → PyData} {wi : TI} {g : TG} {js vs : List Nat} (hi : EvI c wi env (l.map g0)) (f : α → Bool) (v : α → PyData) (hl : l.length ≤ 50000) (hj : ∀ j ∈ js, j ∈ vs)
    (hs : ∀ d ∈ l, ∃ env', EvG c g js (g0 d) (wipeE env vs) env' ∧ EvB c tt env' (f d) ∧ (f d = true → EvE c te env' (v d))) : EvE c (tLc wi g tt te vs) env (.list ((l.filter f).map v)) := fun σ F H fps R Q q =>
  hi σ F H fps R _ fun J F1 H1 s1 w1 D hD => by
    have R1 := R.ext s1
    have hF1 : F1 D = none := s1.h.free hD
    refine ⟨fun i m H' => m = l.length - i ∧ i ≤ l.length ∧ ∃ F' acc, Ex F1 F' ∧ Ex F' H' ∧ Ex H1 H' ∧ (∀ b, H1 b ≠ none → Nb F1 F' b) ∧ F' D = none ∧ H' D = some (.lst acc) ∧ Dts F' (((l.take i).filter f).map v) acc,
      ⟨l.length, by omega, by omega, F1, [], Ex.refl _, s1.h.mut hF1, Ex.new hD, fun _ _ => Or.inl rfl, hF1, upd_same, by simp [Dts]⟩, ?_⟩
    rintro i m H' ⟨rfl, hile, F', acc, e1, e2, e3, e4, e5, e6, e7⟩
    have Rx : ∀ F'' H'', Ex F1 F'' → Ex F'' H'' → Ex H1 H'' → (∀ b, H1 b ≠ none → Nb F1 F'' b) → Rl c σ F'' H'' env fps := fun F'' H'' a1 a2 a3 a4 => R1.ext ⟨a1, a2, a3, a4⟩
    obtain ⟨hgo, hstop⟩ := w1 i H' F' e1 e2
    by_cases hlt : i < l.length
    · refine Or.inr ?_
      have hd : l[i]? = some l[i] := List.getElem?_eq_getElem hlt
      obtain ⟨g1, g2⟩ := hgo (g0 l[i]) (by rw [List.getElem?_map, hd]; rfl)
      have hnn : H' D ≠ none := by rw [e6]; exact fun z => nomatch z
      refine ⟨g1, fun H'' => ∃ F'' acc, Ex F1 F'' ∧ Ex F'' H'' ∧ Ex H1 H'' ∧ (∀ b, H1 b ≠ none → Nb F1 F'' b) ∧ F'' D = none ∧ H'' D = some (.lst acc) ∧ Dts F'' (((l.take (i + 1)).filter f).map v) acc, fun H'' hN => ⟨l.length - (i + 1), by omega, rfl, by omega, hN⟩, fun x H2 hy => ?_⟩
      obtain ⟨F2, s2, hx⟩ := g2 x H2 hy
      have c1 : Ex F1 F2 := e1.trans s2.f
      have c3 : Ex H1 H2 := e3.trans s2.e
      have c4 : ∀ b, H1 b ≠ none → Nb F1 F2 b := fun b hb => (e4 b hb).trans (s2.n b (e3.some hb)) s2.f
      have c6 : H2 D = some (.lst acc) := s2.e _ _ e6
      have c5 : F2 D = none := (s2.n D hnn).none s2.h (fun xs q => by rw [c6] at q; cases q) e5
      obtain ⟨fw, Rw⟩ := (Rx F2 H2 c1 s2.h c3 c4).wipe vs
      obtain ⟨env', hg, ht, he⟩ := hs _ (List.getElem_mem hlt)
      refine hg _ F2 H2 fw x Rw hx _ fun σ2 fps2 R2 hw => ⟨?_, ?_⟩
      · rw [hw vs hj]
        apply List.ext_getElem?
        intro k
        by_cases hk : k < σ.length
        · by_cases m : k ∈ vs
          · rw [wipe_get m (by rw [wipe_length]; exact hk), wipe_get m hk]
          · rw [wipe_out m]
        · rw [List.getElem?_eq_none (by rw [wipe_length, wipe_length]; omega), List.getElem?_eq_none (by rw [wipe_length]; omega)]
      · refine ht σ2 F2 H2 fps2 R2 _ fun F3 H3 s3 => ?_
        have hnn2 : H2 D ≠ none := by rw [c6]; exact fun z => nomatch z
        cases hf : f l[i] with
        | false =>
          refine ⟨F3, acc, c1.trans s3.f, s3.h, c3.trans s3.e, fun b hb => (c4 b hb).trans (s3.n b (c3.some hb)) s3.f, (s3.n D hnn2).none s3.h (fun xs q => by rw [s3.e _ _ c6] at q; cases q) c5, s3.e _ _ c6, ?_⟩
          rw [List.take_add_one, hd]
          simp only [Option.toList_some, List.filter_append, List.filter_cons, hf, Bool.false_eq_true, ↓reduceIte, List.filter_nil, List.append_nil]
          exact e7.mono (s2.f.trans s3.f)
        | true =>
          refine he hf σ2 F3 H3 fps2 (R2.ext s3) _ fun y F4 H4 s4 hy4 => ?_
          have s34 := s3.trans s4
          have c7 : H4 D = some (.lst acc) := s34.e _ _ c6
          have c8 : F4 D = none := (s34.n D hnn2).none s34.h (fun xs q => by rw [c7] at q; cases q) c5
          have e8 : Dts F4 (((l.take i).filter f).map v) acc := e7.mono (s2.f.trans s34.f)
          have hla : acc.length ≤ l.length := by
            rw [e8.length, List.length_map]
            refine Nat.le_trans (List.length_filter_le _ _) ?_
            rw [List.length_take]; omega
          refine ⟨acc, c7, sz_lt (by omega), F4, acc ++ [y], c1.trans s34.f, s34.h.mut c8, (c3.trans s34.e).mut hD, fun b hb => (c4 b hb).trans (s34.n b (c3.some hb)) s34.f, c8, upd_same, ?_⟩
          rw [List.take_add_one, hd]
          simp only [Option.toList_some, List.filter_append, List.filter_cons, hf, ↓reduceIte, List.filter_nil, List.map_append, List.map_cons, List.map_nil]
          exact e8.snoc hy4
    · refine Or.inl ⟨hstop (by rw [List.length_map]; omega), ?_⟩
      have ei : i = l.length := by omega
      subst ei
      rw [List.take_length] at e7
      have eF : Ex F' (upd F' D (.lst acc)) := Ex.new e5
      refine q (.ref D) (upd F' D (.lst acc)) H' (s1.trans ⟨e1.trans eF, fun a o ha => ?_, e3, fun b hb => ?_⟩) ⟨D, acc, rfl, upd_same, e7.mono eF⟩
      · by_cases z : a = D
        · rw [z, upd_same] at ha; rw [z]; cases ha; exact e6
        · rw [upd_ne z] at ha; exact e2 _ _ ha
      · have e : upd F' D (.lst acc) b = F' b := upd_ne (fun z => hb (by rw [z]; exact hD))
        show Nb _ _ _
        unfold Nb
        rw [e]; exact e4 b hb
/-- .. without a test -/
theorem ev_compG {α : Type} {l : List α} {g0 : α → PyData} {wi : TI} {g : TG} {js vs : List Nat} (hi : EvI c wi env (l.map g0)) (v : α → PyData) (hl : l.length ≤ 50000) (hj : ∀ j ∈ js, j ∈ vs)
    (hs : ∀ d ∈ l, ∃ env', EvG c g js (g0 d) (wipeE env vs) env' ∧ EvE c te env' (v d)) : EvE c (tLc wi g tYes te vs) env (.list (l.map v)) := by
  have h := ev_compF (te := te) (tt := tYes) (js := js) (vs := vs) (g := g) hi (fun _ => true) v hl hj (fun d hd => by
    obtain ⟨env', h1, h2⟩ := hs d hd
    exact ⟨env', h1, eb_yes, fun _ => h2⟩)
  rw [List.filter_eq_self.mpr (fun _ _ => rfl)] at h
  exact h
theorem rngD_nat (n : Nat) : rngD 0 n = nsD (List.range n) := by
  unfold rngD nsD
  refine List.map_congr_left fun i _ => ?_
  show PyData.int _ = PyData.int _
  rw [Int.zero_add]
theorem enD_map {α : Type} (l : List α) (g0 : α → PyData) : enD (l.map g0) = l.zipIdx.map fun p => .tuple [nD p.2, g0 p.1] := by
  unfold enD
  rw [List.zipIdx_map, List.map_map]
  rfl
theorem get_map' {α β : Type} {f : α → β} {l : List α} {i : Nat} {x : α} (h : l[i]? = some x) : (l.map f)[i]? = some (f x) := by rw [List.getElem?_map, h]; rfl
theorem zip_mem {α : Type} {l : List α} {p : α × Nat} (h : p ∈ l.zipIdx) : l[p.2]? = some p.1 := by
  obtain ⟨x, i⟩ := p
  rw [List.mk_mem_zipIdx_iff_getElem?] at h
  exact h
theorem ev_bits {n : Nat} (h : EvE c te env (nD n)) : EvE c (tBits te) env (nD (Builtin.Int.intBits (n : Int))) := fun σ F H fps R Q q => h σ F H fps R _ fun v F1 H1 s1 h1 => ⟨(n : Int), h1, q _ F1 H1 s1 rfl⟩
theorem passX0 {X : Cx} : Passes (L2.CX X.prog X.w) X E0 := fun _ _ _ _ _ _ _ ⟨_, _, _, _, _, _, _, _, _, _, _, _, h⟩ => h.elim
end
end Nr
set_option Elab.async false
set_option linter.all false
set_option maxRecDepth 100000
set_option maxHeartbeats 4000000
namespace Nr
open PySem PySem.Spec PyProof.Rows L2
section
variable {P : Program} {w : World} {K : PySem.W.Frag} {mg : Str → Option Value} {base : Heap} {C T : Addr}
def orBits (ps : List Nat) : Nat := ps.foldl (fun t p => t ||| 2 ^ p) 0
theorem orBits_snoc (l : List Nat) (p : Nat) : orBits (l ++ [p]) = orBits l ||| 2 ^ p := by unfold orBits; rw [List.foldl_append]; rfl
def R_bits (ds : List PyData) (Post : PyData → Prop) : Prop := ∃ ps : List Nat, (ds = [.list (nsD ps)] ∨ ds = [.tuple (nsD ps)]) ∧ (∀ p ∈ ps, p ≤ 1000) ∧ Post (nD (orBits ps))
theorem cl_bits_of (t : Tx K mg C T) : Cl P w K mg base 1 "bits_of" (PF R_bits) := by
  have sc : FnScope ["places", "told", "place"] ["places"] (defScope s_bits_of) := ⟨rfl, rfl, rfl, by decide +kernel, rfl, by decide +kernel, by decide +kernel⟩
  refine cl_pure (C := C) t.d_bits_of sc (fun _ _ _ _ _ _ us hl => match us, hl with | [_], _ => rfl) (fun ds Post h => ?_) fun f cdv A outer s H E hr => ⟨_,
    (pss_cons (ps_set (i := 1) sc.nd rfl (Or.inl rfl) pe_int)
  (pss_cons (ps_for PassesOwn.never rfl (pi_seq (pv 0)) (pg_name (i := 2) sc.nd rfl (Or.inl rfl))
  (pss_one (ps_set (i := 1) sc.nd rfl (Or.inl rfl) (pe_op op_or (pv 1) (pe_op op_oneShl pe_int (pv 2))))))
  (pss_one (ps_ret (pv 1))))), fun c ds Post hC h => ?_⟩
  · obtain ⟨ps, rfl | rfl, _⟩ := h <;> rfl
  · obtain ⟨ps, hd, hp, k⟩ := h
    refine rs_seq (rs_asg ev_int (rs_seq (rs_for (ds := nsD ps) ?_ (fun i env => ∃ d x, env = [.im d, .im (nD (orBits (ps.take i))), x]) ?_ ?_ ?_)))
    · rcases hd with rfl | rfl
      · exact ei_seqL (ev_var rfl)
      · exact ei_seqT (ev_var rfl)
    · rcases hd with rfl | rfl <;> exact ⟨_, _, rfl⟩
    · rintro i d _ hi ⟨d0, x, rfl⟩
      obtain ⟨p, hp1, rfl⟩ := get_map hi
      refine ⟨_, _, eg_name, ?_⟩
      refine rs_asg (ev_op (ev_var rfl) (ev_op ev_int (ev_var rfl) (rv_oneShl (by have := hp p (List.mem_of_getElem? hp1); omega))) rv_or) ?_
      refine ⟨d0, .im (nD p), ?_⟩
      rw [take_one hp1, orBits_snoc]
      rfl
    · rintro _ ⟨d0, x, rfl⟩
      refine rs_ret (ev_var rfl) ?_
      rw [List.length_map, List.take_length]
      exact k
end
end Nr
set_option Elab.async false
set_option linter.all false
set_option maxRecDepth 100000
set_option maxHeartbeats 4000000
namespace Nr
open PySem PySem.Spec PyProof.Rows L2
section
variable {P : Program} {w : World} {K : PySem.W.Frag} {mg : Str → Option Value} {base : Heap} {C T : Addr}
theorem nsD_app (a b : List Nat) : nsD (a ++ b) = nsD a ++ nsD b := List.map_append
/-- signs as a text -/
abbrev sD (τ : List Nat) : PyData := .str ⟨τ.toArray⟩
abbrev ibits (n : Nat) : Nat := Builtin.Int.intBits (n : Int)
def bitAt (c p : Nat) : Bool := decide (((c >>> p &&& 1 : Nat) : Int) = 1)
def plc (c : Nat) : List Nat := (List.range (ibits c)).filter (bitAt c)
def R_places (ds : List PyData) (Post : PyData → Prop) : Prop := ∃ c : Nat, ds = [nD c] ∧ ibits c ≤ 1000 ∧ Post (.tuple (nsD (plc c)))
theorem cl_places_of (t : Tx K mg C T) : Cl P w K mg base 1 "places_of" (PF R_places) := by
  have sc : FnScope ["crowd", "place"] ["crowd"] (defScope s_places_of) := ⟨rfl, rfl, rfl, by decide +kernel, rfl, by decide +kernel, by decide +kernel⟩
  refine cl_pure (C := C) t.d_places_of sc (fun _ _ _ _ _ _ us hl => match us, hl with | [_], _ => rfl) (fun ds Post h => ?_) fun f cdv A outer s H E hr => ⟨_,
    (pss_one (ps_ret (pe_callTy call_tuple_of (by rfl) t.n_tuple bt_tuple (pa_cons (pe_lc (own := [("place", 1)]) (g := gName 1) rfl sc.nd (pi_range1 rfl t.n_range (pa_cons (pe_bits (pv 0)) pa_nil)) (blkOk_by (N := ["crowd", "place"]) (sc := (defScope s_places_of)) (own := [("place", 1)]) (by decide +kernel)) (fun _ _ _ _ _ => (pg_name (i := 1) sc.nd rfl (Or.inl rfl))) (fun _ _ _ _ _ => (pts_one (pt_cmpR op_eq (pe_op op_and (pe_op op_shrN (pv 0) (pv 1)) pe_int) pe_int (nomark _)))) (fun _ _ _ _ _ => (pv 1))) pa_nil)))), fun c ds Post hC h => ?_⟩
  · obtain ⟨c, rfl, _⟩ := h; rfl
  · obtain ⟨n, rfl, hb, k⟩ := h
    refine rs_ret (ev_cb (ea_1 (ev_compF (l := List.range (ibits n)) (g0 := nD) (js := [1]) ?_ (bitAt n) nD (by rw [List.length_range]; omega) (by decide) fun p hp => ?_)) rc_tup) ?_
    · rw [show (List.range (ibits n)).map nD = rngD 0 ((ibits n : Nat) : Int).toNat by rw [Int.toNat_natCast, rngD_nat]]
      exact ei_range1 (ev_bits (ev_var rfl)) (by omega) (by omega)
    · exact ⟨_, eg_name, eb_test (ev_op (ev_op (ev_op (ev_var rfl) (ev_var rfl) rv_shrN) ev_int (rv_and (b := 1))) ev_int rv_eqI), fun _ => ev_var rfl⟩
    · exact k
def bearM (signs : List (List Nat)) (k : Nat) : Nat := orBits ((signs.zipIdx.filter (fun p => decide (k ∈ p.1))).map (·.2))
def R_bear (ds : List PyData) (Post : PyData → Prop) : Prop := ∃ (signs : List (List Nat)) (k : Nat), ds = [.tuple (signs.map sD), .str ⟨#[k]⟩] ∧ signs.length ≤ 1000 ∧ Post (nD (bearM signs k))
theorem cl_bearers (t : Tx K mg C T) : Cl P w K mg base 2 "bearers" (PF R_bear) := by
  have sc : FnScope ["signs", "sign", "place", "some"] ["signs", "sign"] (defScope s_bearers) := ⟨rfl, rfl, rfl, by decide +kernel, rfl, by decide +kernel, by decide +kernel⟩
  have c_bits_of := cl_bits_of (P := P) (w := w) (base := base) t
  refine cl_pure (C := C) t.d_bearers sc (fun _ _ _ _ _ _ us hl => match us, hl with | [_, _], _ => rfl) (fun ds Post h => ?_) fun f cdv A outer s H E hr => ⟨_,
    (pss_one (ps_ret (pe_cl c_bits_of hr (by decide) (by rfl) (pa_cons (pe_lc (own := [("place", 2), ("some", 3)]) (g := gTup K 2 (gCons (gName 2) (gCons (gName 3) gNil))) rfl sc.nd (pi_enumT (by rfl) t.n_enumerate (pa_cons (pv 0) pa_nil)) (blkOk_by (N := ["signs", "sign", "place", "some"]) (sc := (defScope s_bearers)) (own := [("place", 2), ("some", 3)]) (by decide +kernel)) (fun _ _ _ _ _ => (pg_tup rfl (pgs_cons (pg_name (i := 2) sc.nd rfl (Or.inl rfl)) (pgs_cons (pg_name (i := 3) sc.nd rfl (Or.inl rfl)) pgs_nil)))) (fun _ _ _ _ _ => (pts_one (pt_cmpR op_in_sign (pv 1) (pv 3) (by with_unfolding_all rfl)))) (fun _ _ _ _ _ => (pv 2))) pa_nil)))), fun c ds Post hC h => ?_⟩
  · obtain ⟨c, _, rfl, _⟩ := h; rfl
  · obtain ⟨signs, k0, rfl, hl, k⟩ := h
    refine rs_ret (ev_call (ea_1 (ev_compF (l := signs.zipIdx) (g0 := fun p => .tuple [nD p.2, sD p.1]) (js := [2, 3]) ?_ (fun p => decide (k0 ∈ p.1)) (fun p => nD p.2) (by rw [List.length_zipIdx]; omega) (by decide) fun p hp => ?_)) ?_) k
    · rw [← enD_map signs sD]
      exact ei_enumT (ev_var rfl)
    · exact ⟨_, eg_tup (egs_cons eg_name (egs_cons eg_name egs_nil)) rfl, eb_test (ev_op (ev_var rfl) (ev_var rfl) rv_inC), fun _ => ev_var rfl⟩
    · refine ⟨(signs.zipIdx.filter (fun p => decide (k0 ∈ p.1))).map (·.2), Or.inl (by rw [nsD, List.map_map]; rfl), fun p hp => ?_, rfl⟩
      obtain ⟨q, hq, rfl⟩ := List.mem_map.mp hp
      have := (List.getElem?_eq_some_iff.mp (zip_mem (List.mem_filter.mp hq).1)).1
      omega
def behM (nb : List Nat) (c : Nat) : Nat := (plc c).foldl (fun t p => t ||| nb.getD p 0) 0
def R_beh (ds : List PyData) (Post : PyData → Prop) : Prop := ∃ (nb : List Nat) (c : Nat), ds = [.list (nsD nb), nD c] ∧ ibits c ≤ 1000 ∧ (∀ p ∈ plc c, p < nb.length) ∧ Post (nD (behM nb c))
theorem cl_behind_all (t : Tx K mg C T) : Cl P w K mg base 2 "behind_all" (PF R_beh) := by
  have sc : FnScope ["nexts", "crowd", "told", "place"] ["nexts", "crowd"] (defScope s_behind_all) := ⟨rfl, rfl, rfl, by decide +kernel, rfl, by decide +kernel, by decide +kernel⟩
  have c_places_of := cl_places_of (P := P) (w := w) (base := base) t
  refine cl_pure (C := C) t.d_behind_all sc (fun _ _ _ _ _ _ us hl => match us, hl with | [_, _], _ => rfl) (fun ds Post h => ?_) fun f cdv A outer s H E hr => ⟨_,
    (pss_cons (ps_set (i := 2) sc.nd rfl (Or.inl rfl) pe_int)
  (pss_cons (ps_for PassesOwn.never rfl (pi_tup (pe_cl c_places_of hr (by decide) (by rfl) (pa_cons (pv 1) pa_nil))) (pg_name (i := 3) sc.nd rfl (Or.inl rfl))
  (pss_one (ps_set (i := 2) sc.nd rfl (Or.inl rfl) (pe_op op_or (pv 2) (pe_ix ix_list (pv 0) (pv 3) (fun _ _ => rfl))))))
  (pss_one (ps_ret (pv 2))))), fun c ds Post hC h => ?_⟩
  · obtain ⟨_, c, rfl, _⟩ := h; rfl
  · obtain ⟨nb, n, rfl, hb, hp, k⟩ := h
    refine rs_seq (rs_asg ev_int (rs_seq (rs_for (ds := nsD (plc n)) (ei_tup (ev_call (ea_1 (ev_var rfl)) ⟨n, rfl, hb, rfl⟩)) (fun i env => ∃ x, env = [.im (.list (nsD nb)), .im (nD n), .im (nD (((plc n).take i).foldl (fun t p => t ||| nb.getD p 0) 0)), x]) ⟨_, rfl⟩ ?_ ?_)))
    · rintro i d _ hi ⟨x, rfl⟩
      obtain ⟨p, hp1, rfl⟩ := get_map hi
      have hlt := hp p (List.mem_of_getElem? hp1)
      refine ⟨_, _, eg_name, rs_asg (ev_op (ev_var rfl) (ev_op (ev_var rfl) (ev_var rfl) (rv_ixL (ix_of rfl (get_map' (List.getElem?_eq_getElem hlt))))) rv_or) ⟨.im (nD p), ?_⟩⟩
      rw [take_one hp1, List.foldl_append]
      simp only [List.foldl_cons, List.foldl_nil]
      rw [List.getD_eq_getElem?_getD, List.getElem?_eq_getElem hlt]
      rfl
    · rintro _ ⟨x, rfl⟩
      refine rs_ret (ev_var rfl) ?_
      rw [List.length_map, List.take_length]
      exact k
def ownEnds (owners : List Int) (lasts : List Nat) (m : Nat) : List Nat := (List.range m).map fun r => orBits (lasts.filter fun p => decide (owners.getD p 0 = ((r : Nat) : Int)))
def R_ends (ds : List PyData) (Post : PyData → Prop) : Prop := ∃ (a b : PyData) (owners : List Int) (lasts : List Nat) (m : Nat), ds = [.tuple [a, .tuple (owners.map .int), b, .tuple (nsD lasts)]] ∧ ((m : Int) - 1) ∈ owners ∧ (∀ y ∈ owners, y ≤ (m : Int) - 1) ∧ m ≤ 1000 ∧ (∀ p ∈ lasts, p < owners.length ∧ p ≤ 1000) ∧ lasts.length ≤ 1000 ∧ Post (.list (nsD (ownEnds owners lasts m)))
theorem cl_owned_ends (t : Tx K mg C T) : Cl P w K mg base 2 "owned_ends" (PF R_ends) := by
  have sc : FnScope ["spread", "owners", "lasts", "told", "rule", "place"] ["spread"] (defScope s_owned_ends) := ⟨rfl, rfl, rfl, by decide +kernel, rfl, by decide +kernel, by decide +kernel⟩
  have c_bits_of := cl_bits_of (P := P) (w := w) (base := base) t
  refine cl_pure (C := C) t.d_owned_ends sc (fun _ _ _ _ _ _ us hl => match us, hl with | [_], _ => rfl) (fun ds Post h => ?_) fun f cdv A outer s H E hr => ⟨_,
    (pss_cons (ps_asg (pe_tup (pa_cons (pe_ix ix_tup (pv 0) pe_int (fun _ _ => rfl)) (pa_cons (pe_ix ix_tup (pv 0) pe_int (fun _ _ => rfl)) pa_nil))) (pg_tup rfl (pgs_cons (pg_name (i := 1) sc.nd rfl (Or.inr rfl)) (pgs_cons (pg_name (i := 2) sc.nd rfl (Or.inl rfl)) pgs_nil))))
  (pss_cons (ps_set (i := 3) sc.nd rfl (Or.inl rfl) (pe_lst pa_nil))
  (pss_cons (ps_for PassesOwn.never rfl (pi_range1 rfl t.n_range (pa_cons (pe_op op_add (pe_callB (cr_maxT rfl hr) (by rfl) t.n_max bt_max (pa_cons (pv 1) pa_nil)) pe_int) pa_nil)) (pg_name (i := 4) sc.nd rfl (Or.inr rfl))
  (pss_one (ps_expr (pe_bm PySem.F.plainAttrs_list PySem.F.slot_list_append PySem.F.type_list_append mt_append (pv 3) (pa_cons (pe_cl c_bits_of hr (by decide) (by rfl) (pa_cons (pe_lc (own := [("place", 5)]) (g := gName 5) rfl sc.nd (pi_tup (pv 2)) (blkOk_by (N := ["spread", "owners", "lasts", "told", "rule", "place"]) (sc := (defScope s_owned_ends)) (own := [("place", 5)]) (by decide +kernel)) (fun _ _ _ _ _ => (pg_name (i := 5) sc.nd rfl (Or.inl rfl))) (fun _ _ _ _ _ => (pts_one (pt_cmpR op_eq (pe_ix (r := rIxT K) ix_tup (pv 1) (pv 5) (fun _ _ => rfl)) (pv 4) (nomark _)))) (fun _ _ _ _ _ => (pv 5))) pa_nil)) pa_nil)))))
  (pss_one (ps_ret (pv 3)))))), fun c ds Post hC h => ?_⟩
  · obtain ⟨a, b, o, l, m, rfl, _⟩ := h; rfl
  · obtain ⟨a, b, owners, lasts, m, rfl, hm, hmax, hm2, hlt, hl, k⟩ := h
    refine rs_seq (rs_asgG (ev_tup (ea_2 (ev_op (ev_var rfl) ev_int (rv_ixT (ix_of (j := 1) rfl rfl))) (ev_op (ev_var rfl) ev_int (rv_ixT (ix_of (j := 3) rfl rfl)))) (by show 2 ≤ 100000; decide)) (eg_tup (egs_cons eg_name (egs_cons eg_name egs_nil)) rfl) ?_)
    refine rs_seq (rs_asgO ea_nil (by decide) (rs_seq (rs_for (ds := nsD (List.range m)) ?_ (fun i env => ∃ d0 x y, env = [d0, .im (.tuple (owners.map .int)), .im (.tuple (nsD lasts)), .ow (.lst (nsD ((List.range i).map fun r => orBits (lasts.filter fun p => decide (owners.getD p 0 = ((r : Nat) : Int)))))), x, y] ∧ (y = .no ∨ ∃ d, y = .im d)) ⟨_, _, _, rfl, Or.inl rfl⟩ ?_ ?_)))
    · have e : nsD (List.range m) = rngD 0 (((m : Int) - 1) + 1).toNat := by
        rw [show ((m : Int) - 1) + 1 = (m : Nat) by omega, Int.toNat_natCast, rngD_nat]
      rw [e]
      exact ei_range1 (ev_op (ev_cb (ea_1 (ev_var rfl)) (rc_maxT hm hmax)) ev_int rv_add) (by omega) (by omega)
    · rintro i d _ hi ⟨d0, x, y, rfl, hy⟩
      obtain ⟨r, hr1, rfl⟩ := get_map hi
      have er : r = i := by
        rw [List.getElem?_range (by have := (List.getElem?_eq_some_iff.mp hr1).1; simpa using this)] at hr1
        exact (Option.some.inj hr1).symm
      subst er
      have hrm : r < m := by have := (List.getElem?_eq_some_iff.mp hr1).1; simpa using this
      refine ⟨_, _, eg_name, rs_app rfl rfl (ev_call (ea_1 (ev_compF (l := lasts) (js := [5]) (ei_tup (ev_var rfl)) (fun p => decide (owners.getD p 0 = ((r : Nat) : Int))) nD (by omega) (by decide) fun p hp => ?_)) ⟨_, Or.inl rfl, fun p hp => (hlt p (List.mem_filter.mp hp).1).2, rfl⟩) (by rw [List.length_map, List.length_map, List.length_range]; omega) ⟨d0, .im (nD r), y, ?_, hy⟩⟩
      · have hpl := (hlt p hp).1
        refine ⟨_, eg_name, ?_, fun _ => ev_var rfl⟩
        have e : owners.getD p 0 = owners[p] := by rw [List.getD_eq_getElem?_getD, List.getElem?_eq_getElem hpl]; rfl
        rw [e]
        exact eb_test (ev_op (ev_op (ev_var rfl) (ev_var rfl) (rv_ixT (ix_of rfl (get_map' (List.getElem?_eq_getElem hpl))))) (ev_var rfl) rv_eqI)
      · rw [List.range_succ, List.map_append, nsD_app]
        rfl
    · rintro _ ⟨d0, x, y, rfl, _⟩
      refine rs_frz (i := 3) rfl (rs_ret (ev_var rfl) ?_)
      rw [List.length_map, List.length_range]
      exact k
def ownOf (ends : List Nat) (c : Nat) : Int := match ends.findIdx? (fun b => decide (c &&& b ≠ 0)) with
  | some i => (i : Int)
  | none => -1
def R_owner (ds : List PyData) (Post : PyData → Prop) : Prop := ∃ (ends : List Nat) (c : Nat), ds = [.list (nsD ends), nD c] ∧ Post (.int (ownOf ends c))
theorem cl_owner_of (t : Tx K mg C T) : Cl P w K mg base 1 "owner_of" (PF R_owner) := by
  have sc : FnScope ["ends", "crowd", "rule", "bits"] ["ends", "crowd"] (defScope s_owner_of) := ⟨rfl, rfl, rfl, by decide +kernel, rfl, by decide +kernel, by decide +kernel⟩
  refine cl_pure (C := C) t.d_owner_of sc (fun _ _ _ _ _ _ us hl => match us, hl with | [_, _], _ => rfl) (fun ds Post h => ?_) fun f cdv A outer s H E hr => ⟨_,
    (pss_cons (ps_for PassesOwn.never rfl (pi_enum (by rfl) t.n_enumerate (pa_cons (pv 0) pa_nil)) (pg_tup rfl (pgs_cons (pg_name (i := 2) sc.nd rfl (Or.inl rfl)) (pgs_cons (pg_name (i := 3) sc.nd rfl (Or.inl rfl)) pgs_nil)))
  (pss_one (ps_if (pt_cmpR op_ne (pe_op op_and (pv 1) (pv 3)) pe_int (nomark _))
  (pss_one (ps_ret (pv 2)))
  pss_nil)))
  (pss_one (ps_ret (pe_un un_neg pe_int)))), fun c ds Post hC h => ?_⟩
  · obtain ⟨a, b, rfl, _⟩ := h; rfl
  · obtain ⟨ends, n, rfl, k⟩ := h
    refine rs_seq (rs_for (ei_enum (ev_var rfl)) (fun i env => ∃ x y, env = [.im (.list (nsD ends)), .im (nD n), x, y] ∧ ∀ (j : Nat) b, j < i → ends[j]? = some b → (n &&& b) = 0) ⟨_, _, rfl, fun j b h => by omega⟩ ?_ ?_)
    · rintro i d _ hi ⟨x, y, rfl, hno⟩
      obtain ⟨q, hq, rfl⟩ := enD_get hi
      obtain ⟨b, hb, rfl⟩ := get_map hq
      refine ⟨_, _, eg_tup (egs_cons eg_name (egs_cons eg_name egs_nil)) rfl, rs_if (eb_test (ev_op (ev_op (ev_var rfl) (ev_var rfl) rv_and) ev_int rv_neI)) (fun h => rs_ret (ev_var rfl) ?_) (fun h => rs_next ⟨_, _, rfl, fun j b' hj hb' => ?_⟩)⟩
      · have e : ends.findIdx? (fun b => decide (n &&& b ≠ 0)) = some i := by
          rw [List.findIdx?_eq_some_iff_getElem]
          obtain ⟨hlt, e2⟩ := List.getElem?_eq_some_iff.mp hb
          refine ⟨hlt, ?_, fun j hj => ?_⟩
          · rw [e2]; simp at h ⊢; omega
          · have := hno j _ hj (List.getElem?_eq_getElem (by omega))
            simp [this]
        have e3 : ownOf ends n = (i : Int) := by unfold ownOf; rw [e]
        have k2 := k
        rw [e3] at k2; exact k2
      · by_cases e : j = i
        · subst e
          rw [hb] at hb'; cases hb'
          simp at h; omega
        · exact hno j b' (by omega) hb'
    · rintro _ ⟨x, y, rfl, hno⟩
      refine rs_ret (ev_un ev_int ru_neg) ?_
      have e : ends.findIdx? (fun b => decide (n &&& b ≠ 0)) = none := by
        rw [List.findIdx?_eq_none_iff]
        intro b hb
        obtain ⟨j, hj⟩ := List.mem_iff_getElem?.mp hb
        have hjl := (List.getElem?_eq_some_iff.mp hj).1
        have := hno j b (by rw [enD_len, List.length_map]; exact hjl) hj
        simp [this]
      have e3 : ownOf ends n = -1 := by unfold ownOf; rw [e]
      rw [e3] at k; exact k
end
end Nr
set_option Elab.async false
set_option linter.all false
set_option maxRecDepth 100000
set_option maxHeartbeats 4000000
set_option pp.maxSteps 700
namespace Nr
open PySem PySem.Spec PyProof.Rows L2
theorem nodup_le : ∀ (n : Nat) (l : List Nat), l.Nodup → (∀ x ∈ l, x < n) → l.length ≤ n
  | 0, l, _, h => by
    cases l with
    | nil => exact Nat.le_refl 0
    | cons a t => exact absurd (h a List.mem_cons_self) (Nat.not_lt_zero a)
  | n + 1, l, nd, h => by
    have h2 := nodup_le n (l.erase n) (nd.erase n) fun x hx => by
      have h3 := (List.Nodup.mem_erase_iff nd).mp hx
      have := h x h3.2
      omega
    have h4 := List.length_erase (a := n) (l := l)
    split at h4 <;> omega
/-- a crowd gets a number -/
def addC (cs : List Nat) (c : Nat) : List Nat := if c ∈ cs then cs else cs ++ [c]
theorem addC_mem (cs : List Nat) (c x : Nat) : x ∈ addC cs c ↔ x ∈ cs ∨ x = c := by
  unfold addC
  split
  · constructor
    · exact Or.inl
    · rintro (h | rfl) <;> assumption
  · simp
theorem addC_nodup {cs : List Nat} (h : cs.Nodup) (c : Nat) : (addC cs c).Nodup := by
  unfold addC
  split
  · exact h
  · rename_i q
    rw [List.nodup_append]
    exact ⟨h, by simp, fun a ha b hb => by simp at hb; subst hb; exact fun z => q (by rw [← z]; exact ha)⟩
theorem addC_idx {cs : List Nat} {c x : Nat} (h : x ∈ cs) : (addC cs c).idxOf x = cs.idxOf x := by
  unfold addC
  split
  · rfl
  · rw [List.idxOf_append, if_pos h]
theorem addC_pre (cs : List Nat) (c : Nat) : ∃ t, addC cs c = cs ++ t := by
  unfold addC
  split
  · exact ⟨[], by simp⟩
  · exact ⟨[c], rfl⟩
abbrev dkOf (cs : List Nat) (k : Nat) : List (L2.Key × PyData) := (cs.zipIdx k).map fun p => ((.inl (p.1 : Int) : L2.Key), nD p.2)
theorem dkOf_val : ∀ (cs : List Nat) (k c : Nat), valD (dkOf cs k) (.inl (c : Int)) = if c ∈ cs then some (nD (k + cs.idxOf c)) else none
  | [], k, c => by simp [valD]
  | a :: cs, k, c => by
    have ih := dkOf_val cs (k + 1) c
    unfold valD at ih ⊢
    show Option.map (fun x => x.snd) (List.find? (fun kv => decide (kv.fst = (Sum.inl (c : Int) : L2.Key))) (((.inl (a : Int) : L2.Key), nD k) :: dkOf cs (k + 1))) = _
    rw [List.find?_cons]
    by_cases e : a = c
    · subst e
      simp
    · have e1 : decide ((Sum.inl (a : Int) : L2.Key) = .inl (c : Int)) = false := by
        refine decide_eq_false fun z => e ?_
        have := Sum.inl.inj z
        omega
      simp only [e1]
      rw [ih, List.idxOf_cons]
      have e2 : (a == c) = false := by simpa using e
      have e3 : c ≠ a := fun z => e z.symm
      simp only [List.mem_cons, e3, false_or, e2, cond_false]
      split
      · congr 2; omega
      · rfl
theorem dkOf_put {cs : List Nat} {c : Nat} (h : c ∉ cs) : putD (dkOf cs 0) (.inl (c : Int)) (nD cs.length) = dkOf (cs ++ [c]) 0 := by
  unfold putD
  have e : ((dkOf cs 0).any fun kv => decide (kv.1 = (.inl (c : Int) : L2.Key))) = false := by
    rw [List.any_eq_false]
    intro p hp
    obtain ⟨q, hq, rfl⟩ := List.mem_map.mp hp
    simp only [decide_eq_true_eq]
    intro z
    have z2 := Sum.inl.inj z
    have := List.mem_of_getElem? (zip_mem hq)
    exact h (by rw [show c = q.1 by omega]; exact this)
  rw [e]
  unfold dkOf
  rw [List.zipIdx_append, List.map_append]
  simp
theorem dkOf_len (cs : List Nat) (k : Nat) : (dkOf cs k).length = cs.length := by simp
/-! ### the rooms -/
structure Spr where
  signs : List (List Nat)
  owners : List Int
  nexts : List (List Nat)
  lasts : List Nat
abbrev rwD (r : List Nat) : PyData := .tuple (nsD r)
abbrev lwD (r : List Nat) : PyData := .list (nsD r)
abbrev isD (r : List Int) : List PyData := r.map .int
def Spr.D (s : Spr) : PyData := .tuple [.tuple (s.signs.map sD), .tuple (isD s.owners), .tuple (s.nexts.map rwD), .tuple (nsD s.lasts)]
structure Spr.Ok (s : Spr) (m : Nat) : Prop where
  n : s.signs.length ≤ 11
  o : s.owners.length = s.signs.length
  x : s.nexts.length = s.signs.length
  r : ∀ row ∈ s.nexts, ∀ p ∈ row, p < s.signs.length
  l : ∀ p ∈ s.lasts, p < s.signs.length
  ll : s.lasts.length ≤ 1000
  mi : ((m : Int) - 1) ∈ s.owners
  mx : ∀ y ∈ s.owners, y ≤ (m : Int) - 1
  mm : m ≤ 1000
  pos : 1 ≤ s.signs.length
def Spr.nb (s : Spr) : List Nat := s.nexts.map orBits
def Spr.be (s : Spr) (τ : List Nat) : List Nat := τ.map (bearM s.signs)
def tgts (nb be : List Nat) (c : Nat) : List Nat := be.map fun b => behM nb c &&& b
def roomStep (nb be : List Nat) (s : List Nat × List (List Nat)) : List Nat × List (List Nat) :=
  ((tgts nb be (s.1.getD s.2.length 0)).foldl addC s.1, s.2 ++ [(tgts nb be (s.1.getD s.2.length 0)).map ((tgts nb be (s.1.getD s.2.length 0)).foldl addC s.1).idxOf])
def roomsFix (nb be : List Nat) : Nat → List Nat × List (List Nat) → List Nat × List (List Nat)
  | 0, s => s
  | n + 1, s => if s.2.length < s.1.length then roomsFix nb be n (roomStep nb be s) else s
def Spr.rooms (s : Spr) (τ : List Nat) : List Nat × List (List Nat) := roomsFix s.nb (s.be τ) 2100 ([1], [])
def Spr.kinds (s : Spr) (τ : List Nat) (m : Nat) : List Int := (s.rooms τ).1.map fun c => ownOf (ownEnds s.owners s.lasts m) c
theorem orBits_lt (n : Nat) (ps : List Nat) (h : ∀ p ∈ ps, p < n) : orBits ps < 2 ^ n := by
  unfold orBits
  suffices ∀ (ps : List Nat) (a : Nat), a < 2 ^ n → (∀ p ∈ ps, p < n) → ps.foldl (fun t p => t ||| 2 ^ p) a < 2 ^ n from this ps 0 (Nat.two_pow_pos n) h
  intro ps
  induction ps with
  | nil => intro a ha _; exact ha
  | cons p ps ih =>
    intro a ha h
    refine ih _ (Nat.or_lt_two_pow ha ?_) fun q hq => h q (List.mem_cons_of_mem _ hq)
    exact Nat.pow_lt_pow_right (by decide) (h p List.mem_cons_self)
theorem bearM_lt (signs : List (List Nat)) (k : Nat) : bearM signs k < 2 ^ signs.length := by
  refine orBits_lt _ _ fun p hp => ?_
  obtain ⟨q, hq, rfl⟩ := List.mem_map.mp hp
  exact (List.getElem?_eq_some_iff.mp (zip_mem (List.mem_filter.mp hq).1)).1
theorem ibits_le {c n : Nat} (h : c < 2 ^ n) : ibits c ≤ n := PyProof.Rows.intBits_le (by simpa using h)
theorem foldC_pre : ∀ (ts cs : List Nat), ∃ t, ts.foldl addC cs = cs ++ t
  | [], cs => ⟨[], by simp⟩
  | x :: ts, cs => by
    obtain ⟨t, e⟩ := addC_pre cs x
    obtain ⟨u, e2⟩ := foldC_pre ts (addC cs x)
    exact ⟨t ++ u, by show ts.foldl addC (addC cs x) = _; rw [e2, e, List.append_assoc]⟩
theorem foldC_nodup : ∀ (ts : List Nat) {cs : List Nat}, cs.Nodup → (ts.foldl addC cs).Nodup
  | [], _, h => h
  | x :: ts, _, h => foldC_nodup ts (addC_nodup h x)
theorem foldC_mem : ∀ (ts cs : List Nat) (y : Nat), y ∈ ts.foldl addC cs ↔ y ∈ cs ∨ y ∈ ts
  | [], cs, y => by simp
  | x :: ts, cs, y => by
    show y ∈ ts.foldl addC (addC cs x) ↔ _
    rw [foldC_mem ts, addC_mem, List.mem_cons, or_assoc]
def RoomsOk (n : Nat) (cs : List Nat) : Prop := cs.Nodup ∧ ∀ c ∈ cs, c < 2 ^ n
theorem RoomsOk.len {n : Nat} {cs : List Nat} (h : RoomsOk n cs) (hn : n ≤ 11) : cs.length ≤ 2048 :=
  Nat.le_trans (nodup_le (2 ^ n) cs h.1 h.2) (by have := Nat.pow_le_pow_right (n := 2) (by decide) hn; simpa using this)
theorem RoomsOk.fold {n : Nat} {cs ts : List Nat} (h : RoomsOk n cs) (ht : ∀ c ∈ ts, c < 2 ^ n) : RoomsOk n (ts.foldl addC cs) := ⟨foldC_nodup ts h.1, fun c hc => ((foldC_mem ts cs c).mp hc).elim (h.2 c) (ht c)⟩
theorem tgts_lt (s : Spr) (τ : List Nat) (c : Nat) : ∀ x ∈ tgts s.nb (s.be τ) c, x < 2 ^ s.signs.length := fun x hx => by
  obtain ⟨b, hb, rfl⟩ := List.mem_map.mp hx
  obtain ⟨k, _, rfl⟩ := List.mem_map.mp hb
  exact Nat.lt_of_le_of_lt Nat.and_le_right (bearM_lt _ _)
def R_rooms (ds : List PyData) (Post : PyData → Prop) : Prop := ∃ (s : Spr) (m : Nat) (τ : List Nat), ds = [sD τ, s.D] ∧ s.Ok m ∧ τ.length ≤ 1000 ∧ Post (.tuple [.list (nsD (s.rooms τ).1), .list ((s.rooms τ).2.map lwD), .list (isD (s.kinds τ m))])
section
variable {P : Program} {w : World} {K : PySem.W.Frag} {mg : Str → Option Value} {base : Heap} {C T : Addr}
theorem cl_crowd_rooms (t : Tx K mg C T) : Cl P w K mg base 3 "crowd_rooms" (PF R_rooms) := by
  have sc : FnScope ["tongue", "spread", "row", "nexts", "bearing", "numbers", "crowds", "goes", "reached", "bits", "crowd", "ends", "sign"] ["tongue", "spread"] (defScope s_crowd_rooms) := ⟨rfl, rfl, rfl, by decide +kernel, rfl, by decide +kernel, by decide +kernel⟩
  have c_bits_of := cl_bits_of (P := P) (w := w) (base := base) t
  have c_bearers := cl_bearers (P := P) (w := w) (base := base) t
  have c_behind_all := cl_behind_all (P := P) (w := w) (base := base) t
  have c_owned_ends := cl_owned_ends (P := P) (w := w) (base := base) t
  have c_owner_of := cl_owner_of (P := P) (w := w) (base := base) t
  refine cl_pure (C := C) t.d_crowd_rooms sc (fun _ _ _ _ _ _ us hl => match us, hl with | [_, _], _ => rfl) (fun ds Post h => ?_) fun f cdv A outer s H E hr => ⟨_,
    (pss_cons (ps_setLc (i := 3) (own := [("row", 2)]) (g := gName 2) rfl sc.nd rfl rfl (sw_true rfl rfl rfl (by decide +kernel)) (pi_tup (pe_ix ix_tup (pv 1) pe_int (fun _ _ => rfl))) (blkOk_by (N := ["tongue", "spread", "row", "nexts", "bearing", "numbers", "crowds", "goes", "reached", "bits", "crowd", "ends", "sign"]) (sc := (defScope s_crowd_rooms)) (own := [("row", 2)]) (by decide +kernel)) (fun _ _ _ _ _ => (pg_name (i := 2) sc.nd rfl (Or.inl rfl))) (fun _ _ _ _ _ => pts_nil) (fun _ _ _ _ _ => (pe_cl c_bits_of hr (by decide) (by rfl) (pa_cons (pv 2) pa_nil))))
  (pss_cons (ps_setLc (i := 4) (own := [("sign", 12)]) (g := gName 12) rfl sc.nd rfl rfl (sw_true rfl rfl rfl (by decide +kernel)) (pi_str (pv 0)) (blkOk_by (N := ["tongue", "spread", "row", "nexts", "bearing", "numbers", "crowds", "goes", "reached", "bits", "crowd", "ends", "sign"]) (sc := (defScope s_crowd_rooms)) (own := [("sign", 12)]) (by decide +kernel)) (fun _ _ _ _ _ => (pg_name (i := 12) sc.nd rfl (Or.inl rfl))) (fun _ _ _ _ _ => pts_nil) (fun _ _ _ _ _ => (pe_cl c_bearers hr (by decide) (by rfl) (pa_cons (pe_ix (r := rIxT K) ix_tup (pv 1) pe_int (fun _ _ => rfl)) (pa_cons (pv 12) pa_nil)))))
  (pss_cons (ps_set (i := 5) sc.nd rfl (Or.inl rfl) (pe_disp (pps_cons pe_int pe_int pps_nil) (by rfl) (by rfl) (fun z => by cases z) (by decide)))
  (pss_cons (ps_set (i := 6) sc.nd rfl (Or.inl rfl) (pe_lst (pa_cons pe_int pa_nil)))
  (pss_cons (ps_set (i := 7) sc.nd rfl (Or.inl rfl) (pe_lst pa_nil))
  (pss_cons (ps_while PassesOwn.never (pt_cmpR op_lt (pe_callB call_len_seq (by rfl) t.n_len bt_len (pa_cons (pv 7) pa_nil)) (pe_callB call_len_seq (by rfl) t.n_len bt_len (pa_cons (pv 6) pa_nil)) (nomark _))
  (pss_cons (ps_set (i := 8) sc.nd rfl (Or.inl rfl) (pe_cl c_behind_all hr (by decide) (by rfl) (pa_cons (pv 3) (pa_cons (pe_ix ix_list (pv 6) (pe_callB call_len_seq (by rfl) t.n_len bt_len (pa_cons (pv 7) pa_nil)) (fun _ _ => rfl)) pa_nil))))
  (pss_cons (ps_set (i := 2) sc.nd rfl (Or.inl rfl) (pe_lst pa_nil))
  (pss_cons (ps_for PassesOwn.never rfl (pi_list (pv 4)) (pg_name (i := 9) sc.nd rfl (Or.inl rfl))
  (pss_cons (ps_set (i := 10) sc.nd rfl (Or.inl rfl) (pe_op op_and (pv 8) (pv 9)))
  (pss_cons (ps_if (pt_cmp (pc_dnotin (hu_of hr) (pv 10) (pv 5)))
  (pss_cons (ps_dput (hu_of hr) (pv 5) (pv 10) (pe_callB call_len_seq (by rfl) t.n_len bt_len (pa_cons (pv 6) pa_nil)) rfl)
  (pss_one (ps_expr (pe_bm PySem.F.plainAttrs_list PySem.F.slot_list_append PySem.F.type_list_append mt_append (pv 6) (pa_cons (pv 10) pa_nil)))))
  pss_nil)
  (pss_one (ps_expr (pe_bm PySem.F.plainAttrs_list PySem.F.slot_list_append PySem.F.type_list_append mt_append (pv 2) (pa_cons (pe_dget (hu_of hr) (pv 5) (pv 10) (fun _ _ => rfl)) pa_nil)))))))
  (pss_one (ps_expr (pe_bm PySem.F.plainAttrs_list PySem.F.slot_list_append PySem.F.type_list_append mt_append (pv 7) (pa_cons (pv 2) pa_nil))))))))
  (pss_cons (ps_set (i := 11) sc.nd rfl (Or.inr rfl) (pe_cl c_owned_ends hr (by decide) (by rfl) (pa_cons (pv 1) pa_nil)))
  (pss_one (ps_ret (pe_tup (pa_cons (pv 6) (pa_cons (pv 7) (pa_cons (pe_lc (own := [("crowd", 10)]) (g := gName 10) rfl sc.nd (pi_list (pv 6)) (blkOk_by (N := ["tongue", "spread", "row", "nexts", "bearing", "numbers", "crowds", "goes", "reached", "bits", "crowd", "ends", "sign"]) (sc := (defScope s_crowd_rooms)) (own := [("crowd", 10)]) (by decide +kernel)) (fun _ _ _ _ _ => (pg_name (i := 10) sc.nd rfl (Or.inl rfl))) (fun _ _ _ _ _ => pts_nil) (fun _ _ _ _ _ => (pe_cl c_owner_of hr (by decide) (by rfl) (pa_cons (pv 11) (pa_cons (pv 10) pa_nil))))) pa_nil))))))))))))), fun c ds Post hC h => ?_⟩
  · obtain ⟨a, b, c, rfl, _⟩ := h; rfl
  · obtain ⟨sp, m, τ, rfl, ok, hτ, k⟩ := h
    have hn := ok.n
    refine rs_seq (rs_asg (ev_compG (l := sp.nexts) (g0 := rwD) (js := [2]) (ei_tup (ev_op (ev_var rfl) ev_int (rv_ixT (ix_of (j := 2) rfl rfl)))) (fun r => nD (orBits r)) (by have := ok.x; omega) (by decide) fun r hr => ?_) ?_)
    · exact ⟨_, eg_name, ev_call (ea_1 (ev_var rfl)) ⟨r, Or.inr rfl, fun p hp => by have := ok.r r hr p hp; omega, rfl⟩⟩
    refine rs_seq (rs_asg (ev_compG (l := τ) (g0 := fun k => .str ⟨#[k]⟩) (js := [12]) (by exact ei_str (s := ⟨τ.toArray⟩) (ev_var rfl)) (fun k => nD (bearM sp.signs k)) (by omega) (by decide) fun r hr => ?_) ?_)
    · exact ⟨_, eg_name, ev_call (ea_2 (ev_op (ev_var rfl) ev_int (rv_ixT (ix_of (j := 0) rfl rfl))) (ev_var rfl)) ⟨sp.signs, r, rfl, by omega, rfl⟩⟩
    have e1 : sp.nexts.map (fun r => nD (orBits r)) = nsD sp.nb := by rw [Spr.nb, nsD, List.map_map]; rfl
    have e2 : τ.map (fun k => nD (bearM sp.signs k)) = nsD (sp.be τ) := by rw [Spr.be, nsD, List.map_map]; rfl
    rw [e1, e2]
    refine rs_seq (rs_disp1K (k := .inl 1) ev_int ev_int (rs_seq (rs_asgO (ea_1 ev_int) (by decide) (rs_seq (rs_asgO ea_nil (by decide) (rs_seq (rs_while (m0 := 2100) (fun m env => ∃ cs gs x2 x8 x9 x10, env = [.im (sD τ), .im sp.D, x2, .im (.list (nsD sp.nb)), .im (.list (nsD (sp.be τ))), .ow (.dk (dkOf cs 0)), .ow (.lst (nsD cs)), .ow (.lst (gs.map lwD)), x8, x9, x10, .no, .no] ∧
        RoomsOk sp.signs.length cs ∧ roomsFix sp.nb (sp.be τ) m (cs, gs) = sp.rooms τ ∧ 2100 ≤ m + gs.length ∧ gs.length ≤ cs.length ∧ (x10 = .no ∨ ∃ d, x10 = .im d)) ⟨[1], [], _, _, _, _, rfl, ⟨by simp, fun c hc => by
          simp only [List.mem_singleton] at hc; subst hc
          exact Nat.one_lt_two_pow (by have := ok.pos; omega)⟩, rfl, by simp, by simp, Or.inl rfl⟩ ?_)))))))
    rintro fu _ ⟨cs, gs, x2, x8, x9, x10, rfl, hok, hfix, hm, hle, h10⟩
    have hcl := hok.len hn
    refine rt_eb (eb_test (ev_op (ev_lenO rfl rfl) (ev_lenO rfl rfl) rv_I0b)) ⟨fun hb => ?_, fun hb => ?_⟩
    · have hlt : gs.length < cs.length := by
        have := of_decide_eq_true hb
        simp only [List.length_map] at this
        omega
      obtain ⟨fu, rfl⟩ : ∃ n, fu = n + 1 := ⟨fu - 1, by omega⟩
      have hc0 : cs[gs.length]? = some (cs.getD gs.length 0) := by rw [List.getD_eq_getElem?_getD, List.getElem?_eq_getElem hlt]; rfl
      generalize hcc : cs.getD gs.length 0 = c0 at hc0
      have hc0l := hok.2 c0 (List.mem_of_getElem? hc0)
      refine rs_seq (rs_asg (ev_call (ea_2 (ev_var rfl) (ev_ixO rfl rfl (ev_lenO rfl rfl) (ix_of (j := gs.length) (by rw [List.length_map]) (get_map' hc0)))) ⟨sp.nb, c0, rfl, by have := ibits_le hc0l; omega, fun p hp => ?_, rfl⟩) ?_)
      · have h1 := List.mem_range.mp (List.mem_filter.mp hp).1
        have h2 := ibits_le hc0l
        have h3 : sp.nb.length = sp.signs.length := by unfold Spr.nb; rw [List.length_map, ok.x]
        omega
      refine rs_seq (rs_asgO ea_nil (by decide) (rs_seq (rs_for (ei_list (ev_var rfl)) (fun i env => ∃ cs' x9 x10, env = [.im (sD τ), .im sp.D, .ow (.lst (nsD (((tgts sp.nb (sp.be τ) c0).take i).map cs'.idxOf))), .im (.list (nsD sp.nb)), .im (.list (nsD (sp.be τ))), .ow (.dk (dkOf cs' 0)), .ow (.lst (nsD cs')), .ow (.lst (gs.map lwD)), .im (nD (behM sp.nb c0)), x9, x10, .no, .no] ∧
        cs' = ((tgts sp.nb (sp.be τ) c0).take i).foldl addC cs ∧ (x10 = .no ∨ ∃ d, x10 = .im d)) ⟨cs, _, _, rfl, rfl, h10⟩ ?hs ?hd)))
      case hs =>
        rintro i d _ hi ⟨cs', y9, y10, rfl, hcs, hy10⟩
        obtain ⟨b, hb1, rfl⟩ := get_map hi
        have hlt2 := (List.getElem?_eq_some_iff.mp hb1).1
        have ht : (tgts sp.nb (sp.be τ) c0)[i]? = some (behM sp.nb c0 &&& b) := get_map' hb1
        have hok' : RoomsOk sp.signs.length cs' := by
          rw [hcs]
          exact hok.fold fun x hx => tgts_lt sp τ c0 x (List.mem_of_mem_take hx)
        have hcl' := hok'.len hn
        have hbl : (sp.be τ).length ≤ 1000 := by unfold Spr.be; rw [List.length_map]; exact hτ
        have hsub : ∀ x ∈ (tgts sp.nb (sp.be τ) c0).take i, x ∈ cs' := fun x hx => by rw [hcs, foldC_mem]; exact Or.inr hx
        have etake : (tgts sp.nb (sp.be τ) c0).take (i + 1) = (tgts sp.nb (sp.be τ) c0).take i ++ [behM sp.nb c0 &&& b] := take_one ht
        have enew : ((tgts sp.nb (sp.be τ) c0).take (i + 1)).foldl addC cs = addC cs' (behM sp.nb c0 &&& b) := by rw [etake, List.foldl_append, ← hcs]; rfl
        have erow : ((tgts sp.nb (sp.be τ) c0).take (i + 1)).map (addC cs' (behM sp.nb c0 &&& b)).idxOf = ((tgts sp.nb (sp.be τ) c0).take i).map cs'.idxOf ++ [(addC cs' (behM sp.nb c0 &&& b)).idxOf (behM sp.nb c0 &&& b)] := by
          rw [etake, List.map_append]
          congr 1
          exact List.map_congr_left fun x hx => addC_idx (hsub x hx)
        refine ⟨_, _, eg_name, rs_seq (rs_asg (ev_op (ev_var rfl) (ev_var rfl) rv_and) (rs_seq (rs_if (eb_B (ev_dnotinK rfl rfl (k := .inl ((behM sp.nb c0 &&& b : Nat) : Int)) (ev_var rfl))) (fun h => ?_) (fun h => ?_))))⟩
        · rw [dkOf_val] at h
          have hnin : (behM sp.nb c0 &&& b) ∉ cs' := fun z => by rw [if_pos z] at h; simp at h
          have eadd : addC cs' (behM sp.nb c0 &&& b) = cs' ++ [behM sp.nb c0 &&& b] := if_neg hnin
          have eix : (cs' ++ [behM sp.nb c0 &&& b]).idxOf (behM sp.nb c0 &&& b) = cs'.length := by
            rw [List.idxOf_append, if_neg hnin]; simp
          refine rs_seq (rs_dputK rfl rfl (ev_lenO rfl rfl) (k := .inl ((behM sp.nb c0 &&& b : Nat) : Int)) (ev_var rfl) (by rw [dkOf_len]; omega) (rs_app rfl rfl (ev_var rfl) (by rw [List.length_map]; omega) ?_))
          refine rs_app (d := nD cs'.length) (ds := nsD (((tgts sp.nb (sp.be τ) c0).take i).map cs'.idxOf)) rfl rfl (ev_dgetK rfl rfl (k := .inl ((behM sp.nb c0 &&& b : Nat) : Int)) (ev_var rfl) ?_) (by rw [List.length_map, List.length_map, List.length_take]; omega) ⟨cs' ++ [behM sp.nb c0 &&& b], .im (nD b), .im (nD (behM sp.nb c0 &&& b)), ?_, by rw [enew, eadd], Or.inr ⟨_, rfl⟩⟩
          · show valD (putD (dkOf cs' 0) _ (.int (nsD cs').length)) _ = _
            rw [List.length_map]
            show valD (putD (dkOf cs' 0) _ (nD cs'.length)) _ = _
            rw [dkOf_put hnin, dkOf_val, if_pos (by simp), eix, Nat.zero_add]
          · rw [← eadd, erow, eadd, eix, nsD_app]
            show [_, _, _, _, _, Sl.ow (.dk (putD (dkOf cs' 0) _ (.int (nsD cs').length))), _, _, _, _, _, _, _] = _
            rw [List.length_map]
            show [_, _, _, _, _, Sl.ow (.dk (putD (dkOf cs' 0) _ (nD cs'.length))), _, _, _, _, _, _, _] = _
            rw [dkOf_put hnin, nsD_app]
            rfl
        · rw [dkOf_val] at h
          have hin : (behM sp.nb c0 &&& b) ∈ cs' := Decidable.byContradiction fun z => by rw [if_neg z] at h; simp at h
          have eadd : addC cs' (behM sp.nb c0 &&& b) = cs' := if_pos hin
          refine rs_next (rs_app (d := nD (cs'.idxOf (behM sp.nb c0 &&& b))) (ds := nsD (((tgts sp.nb (sp.be τ) c0).take i).map cs'.idxOf)) rfl rfl (ev_dgetK rfl rfl (k := .inl ((behM sp.nb c0 &&& b : Nat) : Int)) (ev_var rfl) ?_) (by rw [List.length_map, List.length_map, List.length_take]; omega) ⟨cs', .im (nD b), .im (nD (behM sp.nb c0 &&& b)), ?_, by rw [enew, eadd], Or.inr ⟨_, rfl⟩⟩)
          · rw [dkOf_val, if_pos hin, Nat.zero_add]
          · rw [eadd] at erow
            rw [erow, nsD_app]
            rfl
      case hd =>
        rintro _ ⟨cs', y9, y10, rfl, hcs, hy10⟩
        have ebl : (nsD (sp.be τ)).length = (tgts sp.nb (sp.be τ) c0).length := by rw [tgts, List.length_map, List.length_map]
        rw [ebl, List.take_length] at hcs
        rw [ebl, List.take_length]
        have hok' : RoomsOk sp.signs.length cs' := by
          rw [hcs]
          exact hok.fold fun x hx => tgts_lt sp τ c0 x hx
        have hlen : cs.length ≤ cs'.length := by
          obtain ⟨u, e⟩ := foldC_pre (tgts sp.nb (sp.be τ) c0) cs
          rw [hcs, e, List.length_append]; omega
        refine rs_frz (i := 2) rfl (rs_app (d := lwD ((tgts sp.nb (sp.be τ) c0).map cs'.idxOf)) (ds := gs.map lwD) rfl rfl (ev_var rfl) (by rw [List.length_map]; omega) ⟨fu, by omega, cs', gs ++ [(tgts sp.nb (sp.be τ) c0).map cs'.idxOf], .im (lwD ((tgts sp.nb (sp.be τ) c0).map cs'.idxOf)), .im (nD (behM sp.nb c0)), y9, y10, ?_, hok', ?_, by rw [List.length_append]; simp; omega, by rw [List.length_append]; simp; omega, hy10⟩)
        · rw [List.map_append]; rfl
        · rw [← hfix]
          show _ = if gs.length < cs.length then _ else _
          rw [if_pos hlt]
          unfold roomStep
          simp only [hcc]
          rw [← hcs]
    · have hge : ¬ gs.length < cs.length := by
        have := of_decide_eq_false hb
        simp only [List.length_map] at this
        omega
      have efix : (cs, gs) = sp.rooms τ := by
        rw [← hfix]
        cases fu with
        | zero => rfl
        | succ n => show _ = if gs.length < cs.length then _ else _; rw [if_neg hge]
      refine rs_seq (rs_asg (ev_call (ea_1 (ev_var rfl)) ⟨_, _, sp.owners, sp.lasts, m, rfl, ok.mi, ok.mx, ok.mm, fun p hp => ?_, ok.ll, rfl⟩) ?_)
      · have := ok.l p hp
        have := ok.o
        omega
      refine rs_frz (i := 6) rfl (rs_frz (i := 7) rfl (rs_ret (ev_tup (ea_cons (ev_var rfl) (ea_cons (ev_var rfl) (ea_1 (ev_compG (l := cs) (g0 := nD) (js := [10]) (ei_list (ev_var rfl)) (fun x => .int (ownOf (ownEnds sp.owners sp.lasts m) x)) (by omega) (by decide) fun x hx => ⟨_, eg_name, ev_call (ea_2 (ev_var rfl) (ev_var rfl)) ⟨_, _, rfl, rfl⟩⟩)))) (by show 3 ≤ 100000; decide)) ?_))
      have e3 : cs = (sp.rooms τ).1 := by rw [← efix]
      have e4 : gs = (sp.rooms τ).2 := by rw [← efix]
      have e5 : isD (sp.kinds τ m) = cs.map fun x => .int (ownOf (ownEnds sp.owners sp.lasts m) x) := by
        rw [Spr.kinds, isD, List.map_map, ← e3]; rfl
      rw [e5, ← e3, ← e4] at k
      exact k
end
end Nr
set_option Elab.async false
set_option linter.all false
set_option maxRecDepth 100000
set_option maxHeartbeats 4000000
set_option pp.maxSteps 700
namespace Nr
open PySem PySem.Spec PyProof.Rows L2
/-! ### numbering by first meeting -/
section
variable {α : Type} [DecidableEq α] {κ : Type} [DecidableEq κ]
def addG (us : List α) (k : α) : List α := if k ∈ us then us else us ++ [k]
def ixG (us : List α) (k : α) : Nat := us.idxOf k
def numM (ks : List α) : List Nat := ks.map (ixG (ks.foldl addG []))
theorem addG_mem (cs : List α) (c x : α) : x ∈ addG cs c ↔ x ∈ cs ∨ x = c := by
  unfold addG
  split
  · constructor
    · exact Or.inl
    · rintro (h | rfl) <;> assumption
  · simp
theorem addG_nodup {cs : List α} (h : cs.Nodup) (c : α) : (addG cs c).Nodup := by
  unfold addG
  split
  · exact h
  · rename_i q
    rw [List.nodup_append]
    exact ⟨h, by simp, fun a ha b hb => by simp at hb; subst hb; exact fun z => q (by rw [← z]; exact ha)⟩
theorem addG_idx {cs : List α} {c x : α} (h : x ∈ cs) : ixG (addG cs c) x = ixG cs x := by
  unfold addG ixG
  split
  · rfl
  · rw [List.idxOf_append, if_pos h]
theorem ixG_new {us : List α} {k : α} (h : k ∉ us) : ixG (us ++ [k]) k = us.length := by
  unfold ixG
  rw [List.idxOf_append, if_neg h]
  simp
theorem foldG_mem : ∀ (ts cs : List α) (y : α), y ∈ ts.foldl addG cs ↔ y ∈ cs ∨ y ∈ ts
  | [], cs, y => by simp
  | x :: ts, cs, y => by
    show y ∈ ts.foldl addG (addG cs x) ↔ _
    rw [foldG_mem ts, addG_mem, List.mem_cons, or_assoc]
theorem foldG_nodup : ∀ (ts : List α) {cs : List α}, cs.Nodup → (ts.foldl addG cs).Nodup
  | [], _, h => h
  | x :: ts, _, h => foldG_nodup ts (addG_nodup h x)
theorem foldG_len : ∀ (ts cs : List α), (ts.foldl addG cs).length ≤ cs.length + ts.length
  | [], cs => by simp
  | x :: ts, cs => by
    have h := foldG_len ts (addG cs x)
    have h2 : (addG cs x).length ≤ cs.length + 1 := by unfold addG; split <;> simp
    show (ts.foldl addG (addG cs x)).length ≤ _
    rw [List.length_cons]; omega
abbrev dG (e : α → κ) (us : List α) (k : Nat) : List (κ × PyData) := (us.zipIdx k).map fun p => (e p.1, nD p.2)
theorem dG_val {e : α → κ} (inj : ∀ a b, e a = e b → a = b) : ∀ (us : List α) (k : Nat) (c : α), valD (dG e us k) (e c) = if c ∈ us then some (nD (k + ixG us c)) else none
  | [], k, c => by simp [valD]
  | a :: us, k, c => by
    have ih := dG_val inj us (k + 1) c
    unfold valD at ih ⊢
    show Option.map (fun x => x.snd) (List.find? (fun kv => decide (kv.fst = e c)) ((e a, nD k) :: dG e us (k + 1))) = _
    rw [List.find?_cons]
    by_cases q : a = c
    · subst q
      simp [ixG]
    · have e1 : decide (e a = e c) = false := decide_eq_false fun z => q (inj a c z)
      simp only [e1]
      unfold ixG at ih ⊢
      rw [ih, List.idxOf_cons]
      have e2 : (a == c) = false := by simpa using q
      have e3 : c ≠ a := fun z => q z.symm
      simp only [List.mem_cons, e3, false_or, e2, cond_false]
      split
      · congr 2; omega
      · rfl
theorem dG_put {e : α → κ} (inj : ∀ a b, e a = e b → a = b) {us : List α} {c : α} (h : c ∉ us) : putD (dG e us 0) (e c) (nD us.length) = dG e (us ++ [c]) 0 := by
  unfold putD
  have q : ((dG e us 0).any fun kv => decide (kv.1 = e c)) = false := by
    rw [List.any_eq_false]
    intro p hp
    obtain ⟨q, hq, rfl⟩ := List.mem_map.mp hp
    simp only [decide_eq_true_eq]
    intro z
    exact h (by rw [← inj _ _ z]; exact List.mem_of_getElem? (zip_mem hq))
  rw [q]
  unfold dG
  rw [List.zipIdx_append, List.map_append]
  simp
theorem dG_len (e : α → κ) (us : List α) (k : Nat) : (dG e us k).length = us.length := by simp
end
abbrev kN (l : List Nat) : List L2.Key := l.map fun n : Nat => (Sum.inl ((n : Nat) : Int) : L2.Key)
theorem tInj : ∀ a b : List Nat, kN a = kN b → a = b
  | [], [], _ => rfl
  | [], _ :: _, h => by simp [kN] at h
  | _ :: _, [], h => by simp [kN] at h
  | x :: a, y :: b, h => by
    have h : (Sum.inl ((x : Nat) : Int) : L2.Key) :: kN a = Sum.inl ((y : Nat) : Int) :: kN b := h
    injection h with h1 h2
    rw [tInj a b h2]
    have := Sum.inl.inj h1
    rw [show x = y by omega]
def R_numI (ds : List PyData) (Post : PyData → Prop) : Prop := ∃ ks : List Int, ds = [.list (isD ks)] ∧ ks.length ≤ 5000 ∧ Post (.list (nsD (numM ks)))
def R_numT (ds : List PyData) (Post : PyData → Prop) : Prop := ∃ ks : List (List Nat), ds = [.list (ks.map rwD)] ∧ ks.length ≤ 5000 ∧ Post (.list (nsD (numM ks)))
section
variable {P : Program} {w : World} {K : PySem.W.Frag} {mg : Str → Option Value} {base : Heap} {C T : Addr}
theorem cl_numI (t : Tx K mg C T) : Cl P w K mg base 1 "numbered" (PF R_numI) := by
  have sc : FnScope ["keys", "numbers", "told", "key"] ["keys"] (defScope s_numbered) := ⟨rfl, rfl, rfl, by decide +kernel, rfl, by decide +kernel, by decide +kernel⟩
  refine cl_pure (C := C) t.d_numbered sc (fun _ _ _ _ _ _ us hl => match us, hl with | [_], _ => rfl) (fun ds Post h => ?_) fun f cdv A outer s H E hr => ⟨_,
    (pss_cons (ps_set (i := 1) sc.nd rfl (Or.inl rfl) pe_dnewK)
  (pss_cons (ps_set (i := 2) sc.nd rfl (Or.inl rfl) (pe_lst pa_nil))
  (pss_cons (ps_for PassesOwn.never rfl (pi_list (pv 0)) (pg_name (i := 3) sc.nd rfl (Or.inl rfl))
  (pss_cons (ps_if (pt_cmp (pc_dnotin (hu_of hr) (pv 3) (pv 1)))
  (pss_one (ps_dput (hu_of hr) (pv 1) (pv 3) (pe_callB call_lenD (by rfl) t.n_len bt_len (pa_cons (pv 1) pa_nil)) rfl))
  pss_nil)
  (pss_one (ps_expr (pe_bm PySem.F.plainAttrs_list PySem.F.slot_list_append PySem.F.type_list_append mt_append (pv 2) (pa_cons (pe_dget (hu_of hr) (pv 1) (pv 3) (fun _ _ => rfl)) pa_nil))))))
  (pss_one (ps_ret (pv 2)))))), fun c ds Post hC h => ?_⟩
  · obtain ⟨c, rfl, _⟩ := h; rfl
  · obtain ⟨ks, rfl, hl, k⟩ := h
    have inj : ∀ a b : Int, (Sum.inl a : L2.Key) = .inl b → a = b := fun a b z => Sum.inl.inj z
    refine rs_seq (rs_newK (rs_seq (rs_asgO ea_nil (by decide) (rs_seq (rs_for (ei_list (ev_var rfl)) (fun i env => ∃ us x, env = [.im (.list (isD ks)), .ow (.dk (dG (Sum.inl : Int → L2.Key) us 0)), .ow (.lst (nsD ((ks.take i).map (ixG us)))), x] ∧ us = (ks.take i).foldl addG []) ⟨[], _, rfl, rfl⟩ ?hs ?hd)))))
    case hs =>
      rintro i d _ hi ⟨us, x, rfl, hus⟩
      obtain ⟨q, hq, rfl⟩ := get_map hi
      have hul : us.length ≤ 5000 := by
        rw [hus]
        refine Nat.le_trans (foldG_len _ _) ?_
        rw [List.length_nil, List.length_take]; omega
      have hsub : ∀ x ∈ ks.take i, x ∈ us := fun x hx => by rw [hus, foldG_mem]; exact Or.inr hx
      have enew : (ks.take (i + 1)).foldl addG [] = addG us q := by rw [take_one hq, List.foldl_append, ← hus]; rfl
      have erow : (ks.take (i + 1)).map (ixG (addG us q)) = (ks.take i).map (ixG us) ++ [ixG (addG us q) q] := by
        rw [take_one hq, List.map_append]
        congr 1
        exact List.map_congr_left fun x hx => addG_idx (hsub x hx)
      have hap : (nsD ((ks.take i).map (ixG us))).length < 100000 := by rw [List.length_map, List.length_map, List.length_take]; omega
      refine ⟨_, _, eg_name, rs_seq (rs_if (eb_B (ev_dnotinK rfl rfl (k := .inl q) (ev_var rfl))) (fun h => ?_) (fun h => ?_))⟩
      · rw [dG_val inj] at h
        have hnin : q ∉ us := fun z => by rw [if_pos z] at h; simp at h
        have eadd : addG us q = us ++ [q] := if_neg hnin
        have eix : ixG (us ++ [q]) q = us.length := ixG_new hnin
        refine rs_dputK rfl rfl (ev_lenK rfl rfl) (k := .inl q) (ev_var rfl) (by rw [dG_len]; omega) ?_
        rw [dG_len]
        refine rs_app (d := nD us.length) (ds := nsD ((ks.take i).map (ixG us))) rfl rfl (ev_dgetK rfl rfl (k := .inl q) (ev_var rfl) ?_) hap ⟨us ++ [q], .im (.int q), ?_, by rw [enew, eadd]⟩
        · show valD (putD (dG _ us 0) _ (nD us.length)) _ = _
          rw [dG_put inj hnin, dG_val inj, if_pos (by simp), eix, Nat.zero_add]
        · rw [← eadd, erow, eadd, eix, nsD_app]
          show [_, Sl.ow (.dk (putD (dG _ us 0) _ (nD us.length))), _, _] = _
          rw [dG_put inj hnin]
          rfl
      · rw [dG_val inj] at h
        have hin : q ∈ us := Decidable.byContradiction fun z => by rw [if_neg z] at h; simp at h
        have eadd : addG us q = us := if_pos hin
        refine rs_next (rs_app (d := nD (ixG us q)) (ds := nsD ((ks.take i).map (ixG us))) rfl rfl (ev_dgetK rfl rfl (k := .inl q) (ev_var rfl) ?_) hap ⟨us, .im (.int q), ?_, by rw [enew, eadd]⟩)
        · rw [dG_val inj, if_pos hin, Nat.zero_add]
        · rw [eadd] at erow
          rw [erow, nsD_app]
          rfl
    case hd =>
      rintro _ ⟨us, x, rfl, hus⟩
      rw [List.length_map, List.take_length] at hus
      rw [List.length_map, List.take_length]
      refine rs_frz (i := 2) rfl (rs_ret (ev_var rfl) ?_)
      rw [hus]
      exact k
theorem cl_numT (t : Tx K mg C T) : Cl P w K mg base 1 "numbered" (PF R_numT) := by
  have sc : FnScope ["keys", "numbers", "told", "key"] ["keys"] (defScope s_numbered) := ⟨rfl, rfl, rfl, by decide +kernel, rfl, by decide +kernel, by decide +kernel⟩
  refine cl_pure (C := C) t.d_numbered sc (fun _ _ _ _ _ _ us hl => match us, hl with | [_], _ => rfl) (fun ds Post h => ?_) fun f cdv A outer s H E hr => ⟨_,
    (pss_cons (ps_set (i := 1) sc.nd rfl (Or.inl rfl) pe_dnewT)
  (pss_cons (ps_set (i := 2) sc.nd rfl (Or.inl rfl) (pe_lst pa_nil))
  (pss_cons (ps_for PassesOwn.never rfl (pi_list (pv 0)) (pg_name (i := 3) sc.nd rfl (Or.inl rfl))
  (pss_cons (ps_if (pt_cmp (pc_dnotin (hu_of hr) (pv 3) (pv 1)))
  (pss_one (ps_dput (hu_of hr) (pv 1) (pv 3) (pe_callB call_len_dT (by rfl) t.n_len bt_len (pa_cons (pv 1) pa_nil)) rfl))
  pss_nil)
  (pss_one (ps_expr (pe_bm PySem.F.plainAttrs_list PySem.F.slot_list_append PySem.F.type_list_append mt_append (pv 2) (pa_cons (pe_dget (hu_of hr) (pv 1) (pv 3) (fun _ _ => rfl)) pa_nil))))))
  (pss_one (ps_ret (pv 2)))))), fun c ds Post hC h => ?_⟩
  · obtain ⟨c, rfl, _⟩ := h; rfl
  · obtain ⟨ks, rfl, hl, k⟩ := h
    refine rs_seq (rs_newT (rs_seq (rs_asgO ea_nil (by decide) (rs_seq (rs_for (ei_list (ev_var rfl)) (fun i env => ∃ us x, env = [.im (.list (ks.map rwD)), .ow (.dt (dG kN us 0)), .ow (.lst (nsD ((ks.take i).map (ixG us)))), x] ∧ us = (ks.take i).foldl addG []) ⟨[], _, rfl, rfl⟩ ?hs ?hd)))))
    case hs =>
      rintro i d _ hi ⟨us, x, rfl, hus⟩
      obtain ⟨q, hq, rfl⟩ := get_map hi
      have hul : us.length ≤ 5000 := by
        rw [hus]
        refine Nat.le_trans (foldG_len _ _) ?_
        rw [List.length_nil, List.length_take]; omega
      have hsub : ∀ x ∈ ks.take i, x ∈ us := fun x hx => by rw [hus, foldG_mem]; exact Or.inr hx
      have enew : (ks.take (i + 1)).foldl addG [] = addG us q := by rw [take_one hq, List.foldl_append, ← hus]; rfl
      have erow : (ks.take (i + 1)).map (ixG (addG us q)) = (ks.take i).map (ixG us) ++ [ixG (addG us q) q] := by
        rw [take_one hq, List.map_append]
        congr 1
        exact List.map_congr_left fun x hx => addG_idx (hsub x hx)
      have hap : (nsD ((ks.take i).map (ixG us))).length < 100000 := by rw [List.length_map, List.length_map, List.length_take]; omega
      have ek : ∀ {c : Ct} {env : List Sl} {j : Nat}, env[j]? = some (.im (rwD q)) → EvE c (tVar j) env (.tuple ((kN q).map kD)) := fun h => by
        rw [kN, List.map_map]
        exact ev_var h
      refine ⟨_, _, eg_name, rs_seq (rs_if (eb_B (ev_dnotinT rfl rfl (k := kN q) (ek rfl))) (fun h => ?_) (fun h => ?_))⟩
      · rw [dG_val tInj (c := q)] at h
        have hnin : q ∉ us := fun z => by rw [if_pos z] at h; simp at h
        have eadd : addG us q = us ++ [q] := if_neg hnin
        have eix : ixG (us ++ [q]) q = us.length := ixG_new hnin
        refine rs_dputT rfl rfl (ev_lenT rfl rfl) (k := kN q) (ek rfl) (by rw [dG_len]; omega) ?_
        rw [dG_len]
        refine rs_app (d := nD us.length) (ds := nsD ((ks.take i).map (ixG us))) rfl rfl (ev_dgetT rfl rfl (k := kN q) (ek rfl) ?_) hap ⟨us ++ [q], .im (rwD q), ?_, by rw [enew, eadd]⟩
        · show valD (putD (dG _ us 0) _ (nD us.length)) _ = _
          rw [dG_put tInj (c := q) hnin, dG_val tInj (c := q), if_pos (by simp), eix, Nat.zero_add]
        · rw [← eadd, erow, eadd, eix, nsD_app]
          show [_, Sl.ow (.dt (putD (dG _ us 0) _ (nD us.length))), _, _] = _
          rw [dG_put tInj (c := q) hnin]
          rfl
      · rw [dG_val tInj (c := q)] at h
        have hin : q ∈ us := Decidable.byContradiction fun z => by rw [if_neg z] at h; simp at h
        have eadd : addG us q = us := if_pos hin
        refine rs_next (rs_app (d := nD (ixG us q)) (ds := nsD ((ks.take i).map (ixG us))) rfl rfl (ev_dgetT rfl rfl (k := kN q) (ek rfl) ?_) hap ⟨us, .im (rwD q), ?_, by rw [enew, eadd]⟩)
        · rw [dG_val tInj (c := q), if_pos hin, Nat.zero_add]
        · rw [eadd] at erow
          rw [erow, nsD_app]
          rfl
    case hd =>
      rintro _ ⟨us, x, rfl, hus⟩
      rw [List.length_map, List.take_length] at hus
      rw [List.length_map, List.take_length]
      refine rs_frz (i := 2) rfl (rs_ret (ev_var rfl) ?_)
      rw [hus]
      exact k
def finM (goes : List (List Nat)) (marks : List Nat) : List Nat := numM (goes.zipIdx.map fun p => marks.getD p.2 0 :: p.1.map fun x => marks.getD x 0)
def R_finer (ds : List PyData) (Post : PyData → Prop) : Prop := ∃ (goes : List (List Nat)) (marks : List Nat), ds = [.list (goes.map lwD), .list (nsD marks)] ∧ goes.length = marks.length ∧ goes.length ≤ 5000 ∧ (∀ r ∈ goes, r.length ≤ 1000 ∧ ∀ x ∈ r, x < marks.length) ∧ Post (.list (nsD (finM goes marks)))
theorem nd_get {l : List Nat} {j : Nat} (h : j < l.length) : (nsD l)[j]? = some (nD (l.getD j 0)) := by
  rw [List.getElem?_map, List.getElem?_eq_getElem h, List.getD_eq_getElem?_getD, List.getElem?_eq_getElem h]; rfl
theorem cl_finer (t : Tx K mg C T) : Cl P w K mg base 2 "finer" (PF R_finer) := by
  have sc : FnScope ["goes", "marks", "keys", "room", "row", "to"] ["goes", "marks"] (defScope s_finer) := ⟨rfl, rfl, rfl, by decide +kernel, rfl, by decide +kernel, by decide +kernel⟩
  have c_numbered := cl_numT (P := P) (w := w) (base := base) t
  refine cl_pure (C := C) t.d_finer sc (fun _ _ _ _ _ _ us hl => match us, hl with | [_, _], _ => rfl) (fun ds Post h => ?_) fun f cdv A outer s H E hr => ⟨_,
    (pss_cons (ps_set (i := 2) sc.nd rfl (Or.inl rfl) (pe_lst pa_nil))
  (pss_cons (ps_for PassesOwn.never rfl (pi_enum (by rfl) t.n_enumerate (pa_cons (pv 0) pa_nil)) (pg_tup rfl (pgs_cons (pg_name (i := 3) sc.nd rfl (Or.inl rfl)) (pgs_cons (pg_name (i := 4) sc.nd rfl (Or.inl rfl)) pgs_nil)))
  (pss_one (ps_expr (pe_bm PySem.F.plainAttrs_list PySem.F.slot_list_append PySem.F.type_list_append mt_append (pv 2) (pa_cons (pe_callTy call_tuple_of (by rfl) t.n_tuple bt_tuple (pa_cons (pe_op op_cat (pe_lst (pa_cons (pe_ix ix_list (pv 1) (pv 3) (fun _ _ => rfl)) pa_nil)) (pe_lc (own := [("to", 5)]) (g := gName 5) rfl sc.nd (pi_list (pv 4)) (blkOk_by (N := ["goes", "marks", "keys", "room", "row", "to"]) (sc := (defScope s_finer)) (own := [("to", 5)]) (by decide +kernel)) (fun _ _ _ _ _ => (pg_name (i := 5) sc.nd rfl (Or.inl rfl))) (fun _ _ _ _ _ => pts_nil) (fun _ _ _ _ _ => (pe_ix (r := rIxL K) ix_list (pv 1) (pv 5) (fun _ _ => rfl))))) pa_nil)) pa_nil)))))
  (pss_one (ps_ret (pe_cl c_numbered hr (by decide) (by rfl) (pa_cons (pv 2) pa_nil)))))), fun c ds Post hC h => ?_⟩
  · obtain ⟨_, c, rfl, _⟩ := h; rfl
  · obtain ⟨goes, marks, rfl, hgm, hl, hr2, k⟩ := h
    refine rs_seq (rs_asgO ea_nil (by decide) (rs_seq (rs_for (ei_enum (ev_var rfl)) (fun i env => ∃ x y z, env = [.im (.list (goes.map lwD)), .im (.list (nsD marks)), .ow (.lst (((goes.zipIdx.take i).map fun p => marks.getD p.2 0 :: p.1.map fun x => marks.getD x 0).map rwD)), x, y, z] ∧ (z = .no ∨ ∃ d, z = .im d)) ⟨_, _, _, rfl, Or.inl rfl⟩ ?hs ?hd)))
    case hs =>
      rintro i d _ hi ⟨x, y, z, rfl, hz⟩
      obtain ⟨q, hq, rfl⟩ := enD_get hi
      obtain ⟨row, hrow, rfl⟩ := get_map hq
      have hil := (List.getElem?_eq_some_iff.mp hrow).1
      obtain ⟨hr3, hr4⟩ := hr2 row (List.mem_of_getElem? hrow)
      have hz2 : goes.zipIdx[i]? = some (row, i) := by rw [List.getElem?_zipIdx, hrow]; simp
      refine ⟨_, _, eg_tup (egs_cons eg_name (egs_cons eg_name egs_nil)) rfl, rs_app (d := rwD (marks.getD i 0 :: row.map fun x => marks.getD x 0)) rfl rfl ?_ ?_ ⟨.im (nD i), .im (lwD row), z, ?_, hz⟩⟩
      · refine ev_cb (ea_1 (ev_is (ev_op (ev_lst (ea_1 (ev_op (ev_var rfl) (ev_var rfl) (rv_ixL (ix_of rfl (nd_get (l := marks) (j := i) (by omega)))))) (by show 1 ≤ 100000; decide)) (ev_compG (l := row) (g0 := nD) (js := [5]) (ei_list (ev_var rfl)) (fun x => nD (marks.getD x 0)) (by omega) (by decide) fun x hx => ⟨_, eg_name, ev_op (ev_var rfl) (ev_var rfl) (rv_ixL (ix_of rfl (nd_get (hr4 x hx))))⟩) (rv_cat (by rw [List.length_map]; show 1 + _ ≤ _; omega))) ?_)) rc_tup
        show PyData.list (nD (marks.getD i 0) :: row.map fun x => nD (marks.getD x 0)) = PyData.list (nD (marks.getD i 0) :: (row.map fun x => marks.getD x 0).map nD)
        rw [List.map_map]
        rfl
      · rw [List.length_map, List.length_map, List.length_take]; omega
      · rw [take_one hz2, List.map_append, List.map_append]
        rfl
    case hd =>
      rintro _ ⟨x, y, z, rfl, hz⟩
      have e : (enD (goes.map lwD)).length = goes.zipIdx.length := by rw [enD_len, List.length_map, List.length_zipIdx]
      rw [e, List.take_length]
      exact rs_frz (i := 2) rfl (rs_ret (ev_call (ea_1 (ev_var rfl)) ⟨_, rfl, by rw [List.length_map, List.length_zipIdx]; exact hl, rfl⟩) k)
/-- the greatest -/
def maxL (l : List Nat) : Nat := l.foldl max 0
theorem maxL_ge : ∀ (l : List Nat) (a : Nat), a ≤ l.foldl max a ∧ ∀ x ∈ l, x ≤ l.foldl max a
  | [], a => by simp
  | y :: l, a => by
    obtain ⟨h1, h2⟩ := maxL_ge l (max a y)
    show a ≤ l.foldl max (max a y) ∧ ∀ x ∈ y :: l, x ≤ l.foldl max (max a y)
    refine ⟨by omega, fun x hx => ?_⟩
    rcases List.mem_cons.mp hx with rfl | hx
    · omega
    · exact h2 x hx
theorem maxL_in : ∀ (l : List Nat) (a : Nat), l.foldl max a = a ∨ l.foldl max a ∈ l
  | [], a => by simp
  | y :: l, a => by
    show l.foldl max (max a y) = a ∨ l.foldl max (max a y) ∈ y :: l
    rcases maxL_in l (max a y) with h | h
    · rw [h]
      rcases Nat.le_total a y with q | q
      · rw [Nat.max_eq_right q]; exact Or.inr List.mem_cons_self
      · rw [Nat.max_eq_left q]; exact Or.inl rfl
    · exact Or.inr (List.mem_cons_of_mem _ h)
theorem maxL_mem {l : List Nat} (h : l ≠ []) : maxL l ∈ l := by
  rcases maxL_in l 0 with q | q
  · cases l with
    | nil => exact absurd rfl h
    | cons y l =>
      have := (maxL_ge (y :: l) 0).2 y List.mem_cons_self
      have e : y = 0 := by omega
      show (y :: l).foldl max 0 ∈ _
      rw [q, e]; exact List.mem_cons_self
  · exact q
theorem maxL_le {l : List Nat} {x : Nat} (h : x ∈ l) : x ≤ maxL l := (maxL_ge l 0).2 x h
theorem rc_maxN {l : List Nat} (h : l ≠ []) : Rc (rMax K) [.list (nsD l)] (nD (maxL l)) := by
  have e : nsD l = (l.map fun n : Nat => (n : Int)).map .int := by rw [List.map_map]; rfl
  rw [e]
  refine rc_max (List.mem_map.mpr ⟨_, maxL_mem h, rfl⟩) fun y hy => ?_
  obtain ⟨x, hx, rfl⟩ := List.mem_map.mp hy
  have := maxL_le hx
  omega
def clsFix (goes : List (List Nat)) : Nat → Nat → List Nat → List Nat
  | 0, _, marks => marks
  | n + 1, many, marks => if many < maxL marks + 1 ∧ maxL marks + 1 ≤ 32 then clsFix goes n (maxL marks + 1) (finM goes marks) else marks
def clsM (goes : List (List Nat)) (kinds : List Int) : List Nat := clsFix goes 40 0 (numM kinds)
def GoesOk (goes : List (List Nat)) : Prop := goes ≠ [] ∧ goes.length ≤ 5000 ∧ ∀ r ∈ goes, r.length ≤ 1000 ∧ ∀ x ∈ r, x < goes.length
theorem finM_len (goes : List (List Nat)) (marks : List Nat) : (finM goes marks).length = goes.length := by unfold finM numM; rw [List.length_map, List.length_map, List.length_zipIdx]
def R_classes (ds : List PyData) (Post : PyData → Prop) : Prop := ∃ (goes : List (List Nat)) (kinds : List Int), ds = [.list (goes.map lwD), .list (isD kinds), nD 32] ∧ kinds.length = goes.length ∧ GoesOk goes ∧ Post (if maxL (clsM goes kinds) + 1 > 32 then .none else .list (nsD (clsM goes kinds)))
theorem cl_classes_of (t : Tx K mg C T) : Cl P w K mg base 3 "classes_of" (PF R_classes) := by
  have sc : FnScope ["goes", "kinds", "most", "marks", "many"] ["goes", "kinds", "most"] (defScope s_classes_of) := ⟨rfl, rfl, rfl, by decide +kernel, rfl, by decide +kernel, by decide +kernel⟩
  have c_numbered := cl_numI (P := P) (w := w) (base := base) t
  have c_finer := cl_finer (P := P) (w := w) (base := base) t
  refine cl_pure (C := C) t.d_classes_of sc (fun _ _ _ _ _ _ us hl => match us, hl with | [_, _, _], _ => rfl) (fun ds Post h => ?_) fun f cdv A outer s H E hr => ⟨_,
    (pss_cons (ps_set (i := 3) sc.nd rfl (Or.inl rfl) (pe_cl c_numbered hr (by decide) (by rfl) (pa_cons (pv 1) pa_nil)))
  (pss_cons (ps_set (i := 4) sc.nd rfl (Or.inl rfl) pe_int)
  (pss_cons (ps_while PassesOwn.never (pt_chain op_lt op_le (pv 4) (pe_op op_add (pe_callB (cr_max rfl) (by rfl) t.n_max bt_max (pa_cons (pv 3) pa_nil)) pe_int) (pv 2))
  (pss_cons (ps_set (i := 4) sc.nd rfl (Or.inl rfl) (pe_op op_add (pe_callB (cr_max rfl) (by rfl) t.n_max bt_max (pa_cons (pv 3) pa_nil)) pe_int))
  (pss_one (ps_set (i := 3) sc.nd rfl (Or.inl rfl) (pe_cl c_finer hr (by decide) (by rfl) (pa_cons (pv 0) (pa_cons (pv 3) pa_nil)))))))
  (pss_cons (ps_if (pt_cmpR op_gt (pe_op op_add (pe_callB (cr_max rfl) (by rfl) t.n_max bt_max (pa_cons (pv 3) pa_nil)) pe_int) (pv 2) (nomark _))
  (pss_one (ps_ret pe_non))
  pss_nil)
  (pss_one (ps_ret (pv 3))))))), fun c ds Post hC h => ?_⟩
  · obtain ⟨_, c, rfl, _⟩ := h; rfl
  · obtain ⟨goes, kinds, rfl, hk, ⟨hg0, hg1, hg2⟩, k⟩ := h
    have ne : ∀ {marks : List Nat}, marks.length = goes.length → marks ≠ [] := fun e z => by
      rw [z] at e
      exact hg0 (List.eq_nil_of_length_eq_zero e.symm)
    refine rs_seq (rs_asg (ev_call (ea_1 (ev_var rfl)) ⟨kinds, rfl, by omega, rfl⟩) (rs_seq (rs_asg ev_int (rs_seq (rs_while (m0 := 40) (fun m env => ∃ many marks, env = [.im (.list (goes.map lwD)), .im (.list (isD kinds)), .im (nD 32), .im (.list (nsD marks)), .im (nD many)] ∧ marks.length = goes.length ∧
      clsFix goes m many marks = clsM goes kinds ∧ 40 ≤ m + many) ⟨0, _, rfl, by unfold numM; rw [List.length_map]; exact hk, rfl, by omega⟩ ?_)))))
    rintro fu _ ⟨many, marks, rfl, hml, hfix, hm⟩
    have hne := ne hml
    refine rt_eb (eb_test (ev_chain (k' := decide (((maxL marks : Nat) : Int) + 1 ≤ ((32 : Nat) : Int))) (ev_var rfl) (ev_op (ev_cb (ea_1 (ev_var rfl)) (rc_maxN hne)) ev_int rv_add) rv_I0b (fun _ => ev_var rfl) (fun _ => rv_I0b))) ⟨fun hb => ?_, fun hb => ?_⟩
    · simp only [Bool.and_eq_true, decide_eq_true_eq] at hb
      have hc : many < maxL marks + 1 ∧ maxL marks + 1 ≤ 32 := by omega
      obtain ⟨fu, rfl⟩ : ∃ n, fu = n + 1 := ⟨fu - 1, by omega⟩
      refine rs_seq (rs_asg (ev_op (ev_cb (ea_1 (ev_var rfl)) (rc_maxN hne)) ev_int rv_add) (rs_asg (ev_call (ea_2 (ev_var rfl) (ev_var rfl)) ⟨goes, marks, rfl, hml.symm, hg1, fun r hr => ⟨(hg2 r hr).1, by rw [hml]; exact (hg2 r hr).2⟩, rfl⟩) ⟨fu, by omega, maxL marks + 1, finM goes marks, rfl, finM_len _ _, ?_, by omega⟩))
      rw [← hfix]
      show _ = if _ then _ else _
      rw [if_pos hc]
    · have hc : ¬(many < maxL marks + 1 ∧ maxL marks + 1 ≤ 32) := fun z => by
        simp only [Bool.and_eq_false_iff, decide_eq_false_iff_not] at hb
        omega
      have efix : marks = clsM goes kinds := by
        rw [← hfix]
        cases fu with
        | zero => rfl
        | succ n => show _ = if _ then _ else _; rw [if_neg hc]
      rw [← efix] at k
      refine rs_seq (rs_if (eb_test (ev_op (ev_op (ev_cb (ea_1 (ev_var rfl)) (rc_maxN hne)) ev_int rv_add) (ev_var rfl) rv_I0b)) (fun h => rs_ret ev_non ?_) (fun h => rs_next (rs_ret (ev_var rfl) ?_)))
      · have h := of_decide_eq_true h
        rw [if_pos (by omega)] at k
        exact k
      · have h := of_decide_eq_false h
        rw [if_neg (by omega)] at k
        exact k
/-- the first room of each class -/
def frsM (marks : List Nat) : List Nat := marks.zipIdx.foldl (fun fs p => if p.1 = fs.length then fs ++ [p.2] else fs) []
theorem frsM_lt (marks : List Nat) : ∀ x ∈ frsM marks, x < marks.length := by
  unfold frsM
  suffices ∀ (l : List (Nat × Nat)) (fs : List Nat), (∀ p ∈ l, p.2 < marks.length) → (∀ x ∈ fs, x < marks.length) → ∀ x ∈ l.foldl (fun fs p => if p.1 = fs.length then fs ++ [p.2] else fs) fs, x < marks.length from
    this _ _ (fun p hp => (List.getElem?_eq_some_iff.mp (zip_mem hp)).1) (fun x hx => by simp at hx)
  intro l
  induction l with
  | nil => intro fs _ h x hx; exact h x hx
  | cons p l ih =>
    intro fs h1 h2
    refine ih _ (fun q hq => h1 q (List.mem_cons_of_mem _ hq)) fun x hx => ?_
    dsimp only at hx
    split at hx
    · rcases List.mem_append.mp hx with hx | hx
      · exact h2 x hx
      · simp only [List.mem_singleton] at hx; subst hx; exact h1 p List.mem_cons_self
    · exact h2 x hx
theorem frs_len (l : List (Nat × Nat)) : (l.foldl (fun (fs : List Nat) p => if p.1 = fs.length then fs ++ [p.2] else fs) []).length ≤ l.length := by
  suffices ∀ (l : List (Nat × Nat)) (fs : List Nat), (l.foldl (fun (fs : List Nat) p => if p.1 = fs.length then fs ++ [p.2] else fs) fs).length ≤ fs.length + l.length by simpa using this l []
  intro l
  induction l with
  | nil => intro fs; simp
  | cons p l ih =>
    intro fs
    refine Nat.le_trans (ih _) ?_
    rw [List.length_cons]
    dsimp only
    split <;> simp <;> omega
/-- the table of the classes -/
structure Tbl where
  goes : List (List Nat)
  kinds : List Int
def joinM (goes : List (List Nat)) (kinds : List Int) (marks : List Nat) : Tbl := ⟨(frsM marks).map fun r => (goes.getD r []).map fun x => marks.getD x 0, (frsM marks).map fun r => kinds.getD r 0⟩
def tblD (τ : List Nat) (b : Tbl) : PyData := .tuple [sD τ, .tuple (b.goes.map rwD), .tuple (isD b.kinds)]
def R_joined (ds : List PyData) (Post : PyData → Prop) : Prop := ∃ (τ : List Nat) (goes : List (List Nat)) (kinds : List Int) (marks : List Nat), ds = [sD τ, .list (goes.map lwD), .list (isD kinds), .list (nsD marks)] ∧ kinds.length = goes.length ∧ marks.length = goes.length ∧ GoesOk goes ∧ Post (tblD τ (joinM goes kinds marks))
theorem cl_joined (t : Tx K mg C T) : Cl P w K mg base 1 "joined" (PF R_joined) := by
  have sc : FnScope ["tongue", "goes", "kinds", "marks", "firsts", "room", "mark", "rows", "to"] ["tongue", "goes", "kinds", "marks"] (defScope s_joined) := ⟨rfl, rfl, rfl, by decide +kernel, rfl, by decide +kernel, by decide +kernel⟩
  refine cl_pure (C := C) t.d_joined sc (fun _ _ _ _ _ _ us hl => match us, hl with | [_, _, _, _], _ => rfl) (fun ds Post h => ?_) fun f cdv A outer s H E hr => ⟨_,
    (pss_cons (ps_set (i := 4) sc.nd rfl (Or.inl rfl) (pe_lst pa_nil))
  (pss_cons (ps_for PassesOwn.never rfl (pi_enum (by rfl) t.n_enumerate (pa_cons (pv 3) pa_nil)) (pg_tup rfl (pgs_cons (pg_name (i := 5) sc.nd rfl (Or.inl rfl)) (pgs_cons (pg_name (i := 6) sc.nd rfl (Or.inl rfl)) pgs_nil)))
  (pss_one (ps_if (pt_cmpR op_eq (pv 6) (pe_callB call_len_seq (by rfl) t.n_len bt_len (pa_cons (pv 4) pa_nil)) (nomark _))
  (pss_one (ps_expr (pe_bm PySem.F.plainAttrs_list PySem.F.slot_list_append PySem.F.type_list_append mt_append (pv 4) (pa_cons (pv 5) pa_nil))))
  pss_nil)))
  (pss_cons (ps_set (i := 7) sc.nd rfl (Or.inl rfl) (pe_lst pa_nil))
  (pss_cons (ps_for PassesOwn.never rfl (pi_list (pv 4)) (pg_name (i := 5) sc.nd rfl (Or.inl rfl))
  (pss_one (ps_expr (pe_bm PySem.F.plainAttrs_list PySem.F.slot_list_append PySem.F.type_list_append mt_append (pv 7) (pa_cons (pe_callTy call_tuple_of (by rfl) t.n_tuple bt_tuple (pa_cons (pe_lc (own := [("to", 8)]) (g := gName 8) rfl sc.nd (pi_list (pe_ix ix_list (pv 1) (pv 5) (fun _ _ => rfl))) (blkOk_by (N := ["tongue", "goes", "kinds", "marks", "firsts", "room", "mark", "rows", "to"]) (sc := (defScope s_joined)) (own := [("to", 8)]) (by decide +kernel)) (fun _ _ _ _ _ => (pg_name (i := 8) sc.nd rfl (Or.inl rfl))) (fun _ _ _ _ _ => pts_nil) (fun _ _ _ _ _ => (pe_ix (r := rIxL K) ix_list (pv 3) (pv 8) (fun _ _ => rfl)))) pa_nil)) pa_nil)))))
  (pss_one (ps_ret (pe_tup (pa_cons (pv 0) (pa_cons (pe_callTy call_tuple_of (by rfl) t.n_tuple bt_tuple (pa_cons (pv 7) pa_nil)) (pa_cons (pe_callTy call_tuple_of (by rfl) t.n_tuple bt_tuple (pa_cons (pe_lc (own := [("room", 5)]) (g := gName 5) rfl sc.nd (pi_list (pv 4)) (blkOk_by (N := ["tongue", "goes", "kinds", "marks", "firsts", "room", "mark", "rows", "to"]) (sc := (defScope s_joined)) (own := [("room", 5)]) (by decide +kernel)) (fun _ _ _ _ _ => (pg_name (i := 5) sc.nd rfl (Or.inl rfl))) (fun _ _ _ _ _ => pts_nil) (fun _ _ _ _ _ => (pe_ix (r := rIxL K) ix_list (pv 2) (pv 5) (fun _ _ => rfl)))) pa_nil)) pa_nil)))))))))), fun c ds Post hC h => ?_⟩
  · obtain ⟨_, _, _, _, rfl, _⟩ := h; rfl
  · obtain ⟨τ, goes, kinds, marks, rfl, hk, hml, ⟨hg0, hg1, hg2⟩, k⟩ := h
    have hfl : (frsM marks).length ≤ 5000 := by
      have := frs_len marks.zipIdx
      rw [List.length_zipIdx] at this
      unfold frsM; omega
    refine rs_seq (rs_asgO ea_nil (by decide) (rs_seq (rs_for (ei_enum (ev_var rfl)) (fun i env => ∃ x y, env = [.im (sD τ), .im (.list (goes.map lwD)), .im (.list (isD kinds)), .im (.list (nsD marks)), .ow (.lst (nsD ((marks.zipIdx.take i).foldl (fun fs p => if p.1 = fs.length then fs ++ [p.2] else fs) []))), x, y, .no, .no] ∧ (x = .no ∨ ∃ d, x = .im d)) ⟨_, _, rfl, Or.inl rfl⟩ ?hs ?hd)))
    case hs =>
      rintro i d _ hi ⟨x, y, rfl, hx⟩
      obtain ⟨q, hq, rfl⟩ := enD_get hi
      obtain ⟨mk, hmk, rfl⟩ := get_map hq
      have hz : marks.zipIdx[i]? = some (mk, i) := by rw [List.getElem?_zipIdx, hmk]; simp
      have hlt := (List.getElem?_eq_some_iff.mp hmk).1
      have hfl2 := frs_len (marks.zipIdx.take i)
      rw [List.length_take, List.length_zipIdx] at hfl2
      refine ⟨_, _, eg_tup (egs_cons eg_name (egs_cons eg_name egs_nil)) rfl, rs_if (eb_test (ev_op (ev_var rfl) (ev_lenO rfl rfl) rv_eqI)) (fun h => rs_app rfl rfl (ev_var rfl) (by rw [List.length_map]; omega) ⟨.im (nD i), .im (nD mk), ?_, Or.inr ⟨_, rfl⟩⟩) (fun h => rs_next ⟨.im (nD i), .im (nD mk), ?_, Or.inr ⟨_, rfl⟩⟩)⟩
      · have h := of_decide_eq_true h
        rw [List.length_map] at h
        rw [take_one hz, List.foldl_append]
        simp only [List.foldl_cons, List.foldl_nil]
        rw [if_pos (by omega), nsD_app]
        rfl
      · have h := of_decide_eq_false h
        rw [List.length_map] at h
        rw [take_one hz, List.foldl_append]
        simp only [List.foldl_cons, List.foldl_nil]
        rw [if_neg (by omega)]
        rfl
    case hd =>
      rintro _ ⟨x, y, rfl, hx⟩
      have e : (enD (nsD marks)).length = marks.zipIdx.length := by rw [enD_len, List.length_map, List.length_zipIdx]
      rw [e, List.take_length]
      refine rs_frz (i := 4) rfl (rs_seq (rs_asgO ea_nil (by decide) (rs_seq (rs_for (ds := nsD (frsM marks)) (ei_list (ev_var rfl)) (fun i env => ∃ x y, env = [.im (sD τ), .im (.list (goes.map lwD)), .im (.list (isD kinds)), .im (.list (nsD marks)), .im (.list (nsD (frsM marks))), x, y, .ow (.lst ((((frsM marks).take i).map fun r => (goes.getD r []).map fun x => marks.getD x 0).map rwD)), .no] ∧ (x = .no ∨ ∃ d, x = .im d)) ⟨x, y, rfl, hx⟩ ?hs2 ?hd2))))
      case hs2 =>
        rintro i d _ hi ⟨x, y, rfl, hx⟩
        obtain ⟨r, hr1, rfl⟩ := get_map hi
        have hr1 : (frsM marks)[i]? = some r := hr1
        have hrl := frsM_lt marks r (List.mem_of_getElem? hr1)
        have hrg : goes[r]? = some (goes.getD r []) := by rw [List.getD_eq_getElem?_getD, List.getElem?_eq_getElem (by omega)]; rfl
        obtain ⟨g1, g2⟩ := hg2 _ (List.mem_of_getElem? hrg)
        refine ⟨_, _, eg_name, rs_app (d := rwD ((goes.getD r []).map fun x => marks.getD x 0)) rfl rfl ?_ ?_ ⟨.im (nD r), y, ?_, Or.inr ⟨_, rfl⟩⟩⟩
        · refine ev_cb (ea_1 (ev_is (ev_compG (l := goes.getD r []) (g0 := nD) (js := [8]) (ei_list (ev_op (ev_var rfl) (ev_var rfl) (rv_ixL (ix_of rfl (get_map' (f := lwD) hrg))))) (fun x => nD (marks.getD x 0)) (by omega) (by decide) fun x hx => ⟨_, eg_name, ev_op (ev_var rfl) (ev_var rfl) (rv_ixL (ix_of rfl (nd_get (by rw [hml]; exact g2 x hx))))⟩) ?_)) rc_tup
          rw [nsD, List.map_map]
          rfl
        · rw [List.length_map, List.length_map, List.length_take]; omega
        · rw [take_one hr1, List.map_append, List.map_append]
          rfl
      case hd2 =>
        rintro _ ⟨x, y, rfl, hx⟩
        rw [List.length_map, List.take_length]
        refine rs_frz (i := 7) rfl (rs_ret (ev_is (ev_tup (ea_cons (ev_var rfl) (ea_cons (ev_cb (ea_1 (ev_var rfl)) rc_tup) (ea_1 (ev_cb (ea_1 (ev_compG (l := frsM marks) (g0 := nD) (js := [5]) (ei_list (ev_var rfl)) (fun r => .int (kinds.getD r 0)) (by omega) (by decide) fun r hr => ⟨_, eg_name, ev_op (ev_var rfl) (ev_var rfl) (rv_ixL (ix_of rfl (get_map' ?_)))⟩)) rc_tup)))) (by show 3 ≤ 100000; decide)) ?_) k)
        · have hrl := frsM_lt marks r hr
          rw [List.getD_eq_getElem?_getD, List.getElem?_eq_getElem (by omega)]
          rfl
        · show _ = PyData.tuple [sD τ, .tuple (((frsM marks).map fun r => (goes.getD r []).map fun x => marks.getD x 0).map rwD), .tuple (((frsM marks).map fun r => kinds.getD r 0).map .int)]
          rw [List.map_map (l := frsM marks) (g := PyData.int), List.map_map (l := frsM marks) (g := rwD)]
          rfl
end
end Nr
set_option Elab.async false
set_option linter.all false
set_option maxRecDepth 100000
set_option maxHeartbeats 4000000
set_option pp.maxSteps 700
namespace Nr
open PySem PySem.Spec PyProof.Rows L2
open PySem.StrLaws PySem.Builtin.Str
/-! ### a sign in a text of distinct signs -/
def hitAt (x : Str) (c i : Nat) : Bool := decide (x.cps.toList[i]? = some c)
theorem occ_run (x : Str) (c lim : Nat) : ∀ (l : List Nat) (st : Array Nat × Nat), (l.filter (hitAt x c)).length ≤ 1 → st.1.size + (l.filter (hitAt x c)).length ≤ lim → (∀ i ∈ l.filter (hitAt x c), st.2 ≤ i) →
    (forIn l st (occBody x ⟨#[c]⟩ x.length lim)).run.fst.toList = st.1.toList ++ l.filter (hitAt x c)
  | [], st, _, _, _ => by simp
  | a :: l, st, h1, h2, h3 => by
    rw [List.forIn_cons]
    unfold occBody
    by_cases q : hitAt x c a = true
    · have e : (a :: l).filter (hitAt x c) = a :: l.filter (hitAt x c) := by rw [List.filter_cons, if_pos q]
      rw [e] at h1 h2 h3 ⊢
      rw [List.length_cons] at h1 h2
      have e0 : l.filter (hitAt x c) = [] := List.eq_nil_of_length_eq_zero (by omega)
      obtain ⟨q1, q2⟩ := (subAt_one x c a).mpr (of_decide_eq_true q)
      rw [if_pos ⟨⟨⟨by omega, h3 a List.mem_cons_self⟩, q1⟩, q2⟩]
      refine (occ_run x c lim l _ (by rw [e0]; simp) (by rw [e0]; simp; omega) (by rw [e0]; simp)).trans ?_
      rw [e0]
      simp
    · have e : (a :: l).filter (hitAt x c) = l.filter (hitAt x c) := by rw [List.filter_cons, if_neg q]
      rw [e] at h1 h2 h3 ⊢
      rw [if_neg fun z => q (decide_eq_true ((subAt_one x c a).mp ⟨z.1.2, z.2⟩))]
      exact occ_run x c lim l st h1 h2 h3
theorem same_list {k : Nat} : ∀ {l : List Nat}, l.Nodup → (∀ x ∈ l, x = k) → l = [] ∨ l = [k]
  | [], _, _ => Or.inl rfl
  | [a], _, h => Or.inr (by rw [h a List.mem_cons_self])
  | a :: b :: l, nd, h => by
    have e1 := h a List.mem_cons_self
    have e2 := h b (List.mem_cons_of_mem _ List.mem_cons_self)
    rw [List.nodup_cons] at nd
    exact absurd (by rw [e1, ← e2]; exact List.mem_cons_self) nd.1
theorem occ_one {τ : List Nat} (nd : τ.Nodup) (c lim : Nat) (hl : 1 ≤ lim) : occurrences ⟨τ.toArray⟩ ⟨#[c]⟩ 0 (⟨τ.toArray⟩ : Str).length lim = if c ∈ τ then [τ.idxOf c] else [] := by
  have hit : ∀ i, hitAt ⟨τ.toArray⟩ c i = true → i = τ.idxOf c := fun i h => by
    have h : τ[i]? = some c := of_decide_eq_true h
    obtain ⟨h1, h2⟩ := List.getElem?_eq_some_iff.mp h
    rw [← h2]
    exact (List.Nodup.idxOf_getElem nd i h1).symm
  have hmem : c ∈ τ → hitAt ⟨τ.toArray⟩ c (τ.idxOf c) = true := fun h => decide_eq_true (by
    show τ[τ.idxOf c]? = some c
    rw [List.getElem?_eq_getElem (List.idxOf_lt_length_of_mem h)]
    simp)
  have hlen : (⟨τ.toArray⟩ : Str).length = τ.length := by simp [Str.length]
  have key : (List.range' 0 ((⟨τ.toArray⟩ : Str).length + 1 - 0)).filter (hitAt ⟨τ.toArray⟩ c) = if c ∈ τ then [τ.idxOf c] else [] := by
    have nd2 : ((List.range' 0 ((⟨τ.toArray⟩ : Str).length + 1 - 0)).filter (hitAt ⟨τ.toArray⟩ c)).Nodup := List.Pairwise.filter _ List.nodup_range'
    rcases same_list nd2 (fun i hi => hit i (List.mem_filter.mp hi).2) with h | h
    · rw [h]
      split
      · rename_i hc
        have : τ.idxOf c ∈ (List.range' 0 ((⟨τ.toArray⟩ : Str).length + 1 - 0)).filter (hitAt ⟨τ.toArray⟩ c) := List.mem_filter.mpr ⟨by
          have := List.idxOf_lt_length_of_mem hc
          rw [List.mem_range'_1, hlen]; omega, hmem hc⟩
        rw [h] at this; simp at this
      · rfl
    · rw [h, if_pos]
      have : τ.idxOf c ∈ (List.range' 0 ((⟨τ.toArray⟩ : Str).length + 1 - 0)).filter (hitAt ⟨τ.toArray⟩ c) := by rw [h]; simp
      have h2 : τ[τ.idxOf c]? = some c := of_decide_eq_true (List.mem_filter.mp this).2
      exact List.mem_of_getElem? h2
  rw [occ_eq]
  refine (occ_run _ c lim _ _ ?_ ?_ ?_).trans ?_
  · rw [key]; split <;> simp
  · rw [key]; split <;> simp; omega
  · intro i _; exact Nat.zero_le i
  · rw [key]; simp
theorem find_one {τ : List Nat} (nd : τ.Nodup) {c : Nat} (h : c ∈ τ) : Txt.find ⟨τ.toArray⟩ ⟨#[c]⟩ = (τ.idxOf c : Int) := by
  unfold Txt.find
  rw [occ_one nd c 1 (Nat.le_refl 1), if_pos h]
theorem count_one {τ : List Nat} (nd : τ.Nodup) (c : Nat) : Txt.count ⟨τ.toArray⟩ ⟨#[c]⟩ ≤ 1 := by
  unfold Txt.count
  rw [occ_one nd c _ (by omega)]
  split <;> simp
end Nr
set_option Elab.async false
set_option linter.all false
set_option maxRecDepth 100000
set_option maxHeartbeats 4000000
set_option pp.maxSteps 700
namespace Nr
open PySem PySem.Spec PyProof.Rows L2
/-! ### cuts -/
structure Tbl.Ok (b : Tbl) (n : Nat) (nr : Nat) : Prop where
  l : b.kinds.length = b.goes.length
  p : 0 < b.goes.length
  m : b.goes.length ≤ 32
  r : ∀ r ∈ b.goes, r.length = n ∧ ∀ x ∈ r, x < b.goes.length
  k : ∀ k ∈ b.kinds, -1 ≤ k ∧ k < (nr : Int)
def Tbl.go (b : Tbl) (τ : List Nat) (room k : Nat) : Nat := (b.goes.getD room []).getD (τ.idxOf k) 0
def Tbl.kd (b : Tbl) (room : Nat) : Int := b.kinds.getD room 0
def lngStep (b : Tbl) (τ w : List Nat) (s : Nat × Option (Int × Nat)) (p : Nat) : Nat × Option (Int × Nat) :=
  (b.go τ s.1 (w.getD p 0), if b.kd (b.go τ s.1 (w.getD p 0)) ≥ 0 then some (b.kd (b.go τ s.1 (w.getD p 0)), p + 1) else s.2)
def lngM (b : Tbl) (τ w : List Nat) (a : Nat) : Option (Int × Nat) := ((List.range (w.length - a)).foldl (fun s i => lngStep b τ w s (a + i)) (0, none)).2
def optD : Option (Int × Nat) → PyData
  | none => .none
  | some p => .tuple [.int p.1, nD p.2]
theorem Tbl.Ok.go {b : Tbl} {τ : List Nat} {nr : Nat} (ok : b.Ok τ.length nr) {room k : Nat} (h : room < b.goes.length) (hk : k ∈ τ) : b.go τ room k < b.goes.length ∧ b.goes[room]? = some (b.goes.getD room []) ∧ (b.goes.getD room [])[τ.idxOf k]? = some (b.go τ room k) := by
  have e1 : b.goes[room]? = some (b.goes.getD room []) := by rw [List.getD_eq_getElem?_getD, List.getElem?_eq_getElem h]; rfl
  obtain ⟨r1, r2⟩ := ok.r _ (List.mem_of_getElem? e1)
  have hi := List.idxOf_lt_length_of_mem hk
  have e2 : (b.goes.getD room [])[τ.idxOf k]? = some (b.go τ room k) := by
    unfold Tbl.go
    rw [List.getD_eq_getElem?_getD (l := b.goes.getD room []), List.getElem?_eq_getElem (by omega)]; rfl
  exact ⟨r2 _ (List.mem_of_getElem? e2), e1, e2⟩
theorem Tbl.Ok.kd {b : Tbl} {n nr : Nat} (ok : b.Ok n nr) {room : Nat} (h : room < b.goes.length) : b.kinds[room]? = some (b.kd room) := by
  unfold Tbl.kd
  rw [List.getD_eq_getElem?_getD, List.getElem?_eq_getElem (by rw [ok.l]; exact h)]; rfl
theorem getD_some {l : List Nat} {p : Nat} (h : p < l.length) : l[p]? = some (l.getD p 0) := by rw [List.getD_eq_getElem?_getD, List.getElem?_eq_getElem h]; rfl
theorem getD_mem {l : List Nat} {p : Nat} (h : p < l.length) : l.getD p 0 ∈ l := List.mem_of_getElem? (getD_some h)
structure Wrd (τ w : List Nat) : Prop where
  nd : τ.Nodup
  s : ∀ k ∈ w, k ∈ τ
  l : w.length ≤ 5000
theorem lngM_inv {b : Tbl} {τ w : List Nat} {nr : Nat} (ok : b.Ok τ.length nr) (hw : Wrd τ w) (a n : Nat) (hn : a + n ≤ w.length) :
    ((List.range n).foldl (fun s i => lngStep b τ w s (a + i)) (0, none)).1 < b.goes.length ∧ ∀ k e, ((List.range n).foldl (fun s i => lngStep b τ w s (a + i)) (0, none)).2 = some (k, e) → a < e ∧ e ≤ a + n ∧ 0 ≤ k ∧ k < (nr : Int) := by
  induction n with
  | zero => exact ⟨ok.p, fun k e h => by cases h⟩
  | succ n ih =>
    obtain ⟨h1, h2⟩ := ih (by omega)
    rw [List.range_succ, List.foldl_append]
    simp only [List.foldl_cons, List.foldl_nil]
    obtain ⟨g1, _, _⟩ := ok.go h1 (hw.s _ (getD_mem (l := w) (p := a + n) (by omega)))
    refine ⟨g1, fun k e h => ?_⟩
    unfold lngStep at h
    dsimp only at h
    split at h
    · rename_i hk
      cases h
      have := ok.k _ (List.mem_of_getElem? (ok.kd g1))
      exact ⟨by omega, by omega, hk, this.2⟩
    · obtain ⟨a1, a2, a3⟩ := h2 k e h
      exact ⟨a1, by omega, a3⟩
def R_isText (ds : List PyData) (Post : PyData → Prop) : Prop := ∃ τ w, ds = [sD τ, sD w] ∧ Wrd τ w ∧ Post (.bool true)
def R_long (ds : List PyData) (Post : PyData → Prop) : Prop := ∃ τ w b nr a, ds = [tblD τ b, sD w, nD a] ∧ Tbl.Ok b τ.length nr ∧ Wrd τ w ∧ a ≤ w.length ∧ Post (optD (lngM b τ w a))
def cutFix (b : Tbl) (τ w : List Nat) : Nat → Nat → List (Int × Nat × Nat) → List (Int × Nat × Nat) × Nat
  | 0, a, ps => (ps, a)
  | n + 1, a, ps => if a < w.length then match lngM b τ w a with
    | none => (ps, a)
    | some p => cutFix b τ w n p.2 (ps ++ [(p.1, a, p.2)]) else (ps, a)
def cutM (b : Tbl) (τ w : List Nat) : List (Int × Nat × Nat) × Nat := cutFix b τ w (w.length + 1) 0 []
def pcD (p : Int × Nat × Nat) : PyData := .tuple [.int p.1, nD p.2.1, nD p.2.2]
def cutRD (c : List (Int × Nat × Nat) × Nat) : PyData := .tuple [.list (c.1.map pcD), nD c.2]
def R_cut (ds : List PyData) (Post : PyData → Prop) : Prop := ∃ τ w b nr, ds = [tblD τ b, sD w] ∧ Tbl.Ok b τ.length nr ∧ Wrd τ w ∧ Post (cutRD (cutM b τ w))
theorem cutFix_ok {b : Tbl} {τ w : List Nat} {nr : Nat} (ok : b.Ok τ.length nr) (hw : Wrd τ w) : ∀ (n a : Nat) (ps : List (Int × Nat × Nat)), a ≤ w.length → ps.length ≤ a → (∀ p ∈ ps, 0 ≤ p.1 ∧ p.1 < (nr : Int)) →
    (cutFix b τ w n a ps).1.length ≤ w.length ∧ ∀ p ∈ (cutFix b τ w n a ps).1, 0 ≤ p.1 ∧ p.1 < (nr : Int) := by
  intro n
  induction n with
  | zero => intro a ps h1 h2 h3; exact ⟨by show ps.length ≤ _; omega, h3⟩
  | succ n ih =>
    intro a ps h1 h2 h3
    unfold cutFix
    split
    · cases q : lngM b τ w a with
      | none => exact ⟨by show ps.length ≤ _; omega, h3⟩
      | some p =>
        obtain ⟨k, e⟩ := p
        obtain ⟨a1, a2, a3, a4⟩ := (lngM_inv ok hw a (w.length - a) (by omega)).2 k e q
        refine ih e _ (by omega) (by rw [List.length_append]; simp; omega) fun p hp => ?_
        rcases List.mem_append.mp hp with hp | hp
        · exact h3 p hp
        · simp only [List.mem_singleton] at hp; subst hp; exact ⟨a3, a4⟩
    · exact ⟨by show ps.length ≤ _; omega, h3⟩
section
variable {P : Program} {w : World} {K : PySem.W.Frag} {mg : Str → Option Value} {base : Heap} {C T : Addr}
theorem all_true {l : List Bool} (h : ∀ x ∈ l, x = true) : l.all id = true := by
  rw [List.all_eq_true]; exact h
theorem cl_is_text (t : Tx K mg C T) : Cl P w K mg base 1 "is_text" (PF R_isText) := by
  have sc : FnScope ["tongue", "thing", "sign"] ["tongue", "thing"] (defScope s_is_text) := ⟨rfl, rfl, rfl, by decide +kernel, rfl, by decide +kernel, by decide +kernel⟩
  refine cl_pure (C := C) t.d_is_text sc (fun _ _ _ _ _ _ us hl => match us, hl with | [_, _], _ => rfl) (fun ds Post h => ?_) fun f cdv A outer s H E hr => ⟨_,
    (pss_one (ps_ret (pe_and (pe_callB call_isi (by rfl) t.n_isinstance bt_isinstance (pa_cons (pv 1) (pa_cons (pe_bltn (v := .ty "str") (by rfl) t.n_str bt_str rfl) pa_nil))) (pe_one (pe_callB (cr_all rfl) (by rfl) t.n_all bt_all (pa_cons (pe_lc (own := [("sign", 2)]) (g := gName 2) rfl sc.nd (pi_str (pv 1)) (blkOk_by (N := ["tongue", "thing", "sign"]) (sc := (defScope s_is_text)) (own := [("sign", 2)]) (by decide +kernel)) (fun _ _ _ _ _ => (pg_name (i := 2) sc.nd rfl (Or.inl rfl))) (fun _ _ _ _ _ => pts_nil) (fun _ _ _ _ _ => (pe_cmpR op_in_sign (pv 2) (pv 0) (by with_unfolding_all rfl)))) pa_nil)))))), fun c ds Post hC h => ?_⟩
  · obtain ⟨_, _, rfl, _⟩ := h; rfl
  · obtain ⟨τ, w, rfl, hw, k⟩ := h
    refine rs_ret (ev_is (ev_andV (ev_isi (b := true) (ev_var rfl) (by rfl)) fun _ => ev_cb (ea_1 (ev_is (ev_compG (l := w) (g0 := fun k => .str ⟨#[k]⟩) (js := [2]) (by exact ei_str (s := ⟨w.toArray⟩) (ev_var rfl)) (fun k => .bool (decide (k ∈ τ))) (by have := hw.l; omega) (by decide) fun k hk => ⟨_, eg_name, ev_op (ev_var rfl) (ev_var rfl) rv_inC⟩) (show PyData.list _ = .list ((w.map fun k => decide (k ∈ τ)).map .bool) by rw [List.map_map]; rfl))) rc_all) ?_) k
    rw [all_true fun x hx => ?_]
    · rfl
    · obtain ⟨k0, hk, rfl⟩ := List.mem_map.mp hx
      exact decide_eq_true (hw.s k0 hk)
theorem cl_longest (t : Tx K mg C T) : Cl P w K mg base 1 "longest" (PF R_long) := by
  have sc : FnScope ["table", "text", "at", "tongue", "goes", "kinds", "room", "found", "place"] ["table", "text", "at"] (defScope s_longest) := ⟨rfl, rfl, rfl, by decide +kernel, rfl, by decide +kernel, by decide +kernel⟩
  refine cl_pure (C := C) t.d_longest sc (fun _ _ _ _ _ _ us hl => match us, hl with | [_, _, _], _ => rfl) (fun ds Post h => ?_) fun f cdv A outer s H E hr => ⟨_,
    (pss_cons (ps_asg (pv 0) (pg_tup rfl (pgs_cons (pg_name (i := 3) sc.nd rfl (Or.inl rfl)) (pgs_cons (pg_name (i := 4) sc.nd rfl (Or.inl rfl)) (pgs_cons (pg_name (i := 5) sc.nd rfl (Or.inl rfl)) pgs_nil)))))
  (pss_cons (ps_set (i := 6) sc.nd rfl (Or.inl rfl) pe_int)
  (pss_cons (ps_set (i := 7) sc.nd rfl (Or.inl rfl) pe_non)
  (pss_cons (ps_for PassesOwn.never rfl (pi_range2 rfl t.n_range (pa_cons (pv 2) (pa_cons (pe_callB call_len_str (by rfl) t.n_len bt_len (pa_cons (pv 1) pa_nil)) pa_nil))) (pg_name (i := 8) sc.nd rfl (Or.inl rfl))
  (pss_cons (ps_set (i := 6) sc.nd rfl (Or.inl rfl) (pe_ix ix_tup (pe_ix ix_tup (pv 4) (pv 6) (fun _ _ => rfl)) (pe_bm PySem.F.plainAttrs_str PySem.F.slot_str_find PySem.F.type_str_find mt_find (pv 3) (pa_cons (pe_ix ix_str (pv 1) (pv 8) (fun _ _ => rfl)) pa_nil)) (fun _ _ => rfl)))
  (pss_one (ps_if (pt_cmpR op_ge (pe_ix ix_tup (pv 5) (pv 6) (fun _ _ => rfl)) pe_int (nomark _))
  (pss_one (ps_set (i := 7) sc.nd rfl (Or.inl rfl) (pe_tup (pa_cons (pe_ix ix_tup (pv 5) (pv 6) (fun _ _ => rfl)) (pa_cons (pe_op op_add (pv 8) pe_int) pa_nil)))))
  pss_nil))))
  (pss_one (ps_ret (pv 7))))))), fun c ds Post hC h => ?_⟩
  · obtain ⟨_, _, _, _, _, rfl, _⟩ := h; rfl
  · obtain ⟨τ, w, b, nr, a, rfl, ok, hw, ha, k⟩ := h
    have hwl := hw.l
    have ewl : (⟨w.toArray⟩ : Str).length = w.length := by simp [Str.length]
    refine rs_seq (rs_asgG (ev_var rfl) (eg_tup (egs_cons eg_name (egs_cons eg_name (egs_cons eg_name egs_nil))) rfl) (rs_seq (rs_asg ev_int (rs_seq (rs_asg ev_non (rs_seq (rs_for (ds := (List.range (w.length - a)).map fun i : Nat => PyData.int ((a : Int) + (i : Nat))) ?hi (fun i env => ∃ x, env = [.im (tblD τ b), .im (sD w), .im (nD a), .im (sD τ), .im (.tuple (b.goes.map rwD)), .im (.tuple (isD b.kinds)), .im (nD ((List.range i).foldl (fun s i => lngStep b τ w s (a + i)) (0, none)).1), .im (optD ((List.range i).foldl (fun s i => lngStep b τ w s (a + i)) (0, none)).2), x]) ⟨_, rfl⟩ ?hs ?hd)))))))
    case hi =>
      have e := ei_range2 (c := c) (env := ((((([Sl.im (tblD τ b), .im (sD w), .im (nD a), .no, .no, .no, .no, .no, .no].set 3 (.im (sD τ))).set 4 (.im (.tuple (b.goes.map rwD)))).set 5 (.im (.tuple (isD b.kinds)))).set 6 (.im (.int 0))).set 7 (.im .none))) (m := (a : Int)) (n := ((⟨w.toArray⟩ : Str).length : Int)) (ta := tVar 2) (ev_var rfl) (ev_cb (ea_1 (ev_var (i := 1) rfl)) (rc_lenS (by rw [ewl]; omega))) (by omega) (by rw [ewl]; omega) (by omega) (by omega)
      rw [ewl] at e
      have e2 : ((w.length : Int) - (a : Int)).toNat = w.length - a := by omega
      rw [e2] at e
      exact e
    case hs =>
      rintro i d _ hi ⟨x, rfl⟩
      obtain ⟨j, hj, rfl⟩ := get_map hi
      have hjl := (List.getElem?_eq_some_iff.mp hj).1
      rw [List.length_range] at hjl
      rw [List.getElem?_range hjl] at hj
      cases hj
      obtain ⟨h1, _⟩ := lngM_inv ok hw a i (by omega)
      generalize hst : (List.range i).foldl (fun s i => lngStep b τ w s (a + i)) (0, none) = st at h1
      have hk := hw.s _ (getD_mem (l := w) (p := a + i) (by omega))
      obtain ⟨g1, g2, g3⟩ := ok.go h1 hk
      have enext : (List.range (i + 1)).foldl (fun s i => lngStep b τ w s (a + i)) (0, none) = lngStep b τ w st (a + i) := by
        rw [List.range_succ, List.foldl_append, hst]; rfl
      have epl : ((a : Int) + (i : Nat)) = ((a + i : Nat) : Int) := by omega
      refine ⟨_, _, eg_name, rs_seq (rs_asg (ev_op (ev_op (ev_var rfl) (ev_var rfl) (rv_ixT (ix_of rfl (get_map' (f := rwD) g2)))) (ev_bmS (ev_var rfl) (ea_1 (ev_op (ev_var rfl) (ev_var rfl) (rv_ixS (k := w.getD (a + i) 0) (by rw [ewl]; omega) (ix_of epl (getD_some (l := w) (by omega)))))) rm_find rfl) (rv_ixT (d := nD (b.go τ st.1 (w.getD (a + i) 0))) (ix_of (j := τ.idxOf (w.getD (a + i) 0)) (find_one hw.nd hk) (get_map' (f := nD) g3)))) (rs_if (eb_test (ev_op (ev_op (ev_var rfl) (ev_var rfl) (rv_ixT (ix_of rfl (get_map' (f := PyData.int) (ok.kd g1))))) ev_int rv_I0b)) (fun h => rs_asg (ev_tup (ea_2 (ev_op (ev_var rfl) (ev_var rfl) (rv_ixT (ix_of rfl (get_map' (f := PyData.int) (ok.kd g1))))) (ev_op (ev_var rfl) ev_int rv_add)) (by show 2 ≤ 100000; decide)) ⟨.im (nD (a + i)), ?_⟩) (fun h => rs_next ⟨.im (nD (a + i)), ?_⟩)))⟩
      · have h := of_decide_eq_true h
        rw [enext]
        have e3 : (lngStep b τ w st (a + i)).2 = some (b.kd (b.go τ st.1 (w.getD (a + i) 0)), a + i + 1) := if_pos h
        rw [e3]
        show [_, _, _, _, _, _, _, Sl.im (PyData.tuple [.int (b.kd (b.go τ st.1 (w.getD (a + i) 0))), .int ((a : Int) + (i : Nat) + 1)]), Sl.im (PyData.int ((a : Int) + (i : Nat)))] = _
        rw [epl]
        rfl
      · have h := of_decide_eq_false h
        rw [enext]
        have e3 : (lngStep b τ w st (a + i)).2 = st.2 := if_neg h
        rw [e3]
        show [_, _, _, _, _, _, _, _, Sl.im (PyData.int ((a : Int) + (i : Nat)))] = _
        rw [epl]
        rfl
    case hd =>
      rintro _ ⟨x, rfl⟩
      refine rs_ret (ev_var rfl) ?_
      rw [List.length_map, List.length_range]
      exact k
theorem cl_cut (t : Tx K mg C T) : Cl P w K mg base 2 "cut" (PF R_cut) := by
  have sc : FnScope ["table", "text", "pieces", "place", "found"] ["table", "text"] (defScope s_cut) := ⟨rfl, rfl, rfl, by decide +kernel, rfl, by decide +kernel, by decide +kernel⟩
  have c_is_text := cl_is_text (P := P) (w := w) (base := base) t
  have c_longest := cl_longest (P := P) (w := w) (base := base) t
  refine cl_pure (C := C) t.d_cut sc (fun _ _ _ _ _ _ us hl => match us, hl with | [_, _], _ => rfl) (fun ds Post h => ?_) fun f cdv A outer s H E hr => ⟨_,
    (pss_cons (ps_if (pt_not (pt_truth (pe_cl c_is_text hr (by decide) (by rfl) (pa_cons (pe_ix ix_tup (pv 0) pe_int (fun _ _ => rfl)) (pa_cons (pv 1) pa_nil))) (fun _ => rfl)))
  (pss_one ps_never)
  pss_nil)
  (pss_cons (ps_set (i := 2) sc.nd rfl (Or.inl rfl) (pe_lst pa_nil))
  (pss_cons (ps_set (i := 3) sc.nd rfl (Or.inl rfl) pe_int)
  (pss_cons (ps_while PassesOwn.never (pt_cmpR op_lt (pv 3) (pe_callB call_len_str (by rfl) t.n_len bt_len (pa_cons (pv 1) pa_nil)) (nomark _))
  (pss_cons (ps_set (i := 4) sc.nd rfl (Or.inl rfl) (pe_cl c_longest hr (by decide) (by rfl) (pa_cons (pv 0) (pa_cons (pv 1) (pa_cons (pv 3) pa_nil)))))
  (pss_cons (ps_if (pt_cmp (pc_isN (pv 4)))
  (pss_one (ps_ret (pe_tup (pa_cons (pv 2) (pa_cons (pv 3) pa_nil)))))
  pss_nil)
  (pss_cons (ps_expr (pe_bm PySem.F.plainAttrs_list PySem.F.slot_list_append PySem.F.type_list_append mt_append (pv 2) (pa_cons (pe_tup (pa_cons (pe_ix ix_tup (pv 4) pe_int (fun _ _ => rfl)) (pa_cons (pv 3) (pa_cons (pe_ix ix_tup (pv 4) pe_int (fun _ _ => rfl)) pa_nil)))) pa_nil)))
  (pss_one (ps_set (i := 3) sc.nd rfl (Or.inl rfl) (pe_ix ix_tup (pv 4) pe_int (fun _ _ => rfl))))))))
  (pss_one (ps_ret (pe_tup (pa_cons (pv 2) (pa_cons (pv 3) pa_nil))))))))), fun c ds Post hC h => ?_⟩
  · obtain ⟨_, _, _, _, rfl, _⟩ := h; rfl
  · obtain ⟨τ, w, b, nr, rfl, ok, hw, k⟩ := h
    have hwl := hw.l
    have ewl : (⟨w.toArray⟩ : Str).length = w.length := by simp [Str.length]
    refine rs_seq (rs_ifF (eb_not (a := true) (eb_tru (ev_call (ea_2 (ev_op (ev_var rfl) ev_int (rv_ixT (ix_of (j := 0) rfl rfl))) (ev_var rfl)) ⟨τ, w, rfl, hw, rfl⟩))) (rs_next ?_))
    refine rs_seq (rs_asgO ea_nil (by decide) (rs_seq (rs_asg ev_int (rs_seq (rs_while (m0 := w.length + 1) (fun m env => ∃ ps a x, env = [.im (tblD τ b), .im (sD w), .ow (.lst (ps.map pcD)), .im (nD a), x] ∧ a ≤ w.length ∧ ps.length ≤ a ∧ cutFix b τ w m a ps = cutM b τ w ∧ w.length + 1 ≤ m + a) ⟨[], 0, _, rfl, by omega, by simp, rfl, by omega⟩ ?_)))))
    rintro fu _ ⟨ps, a, x, rfl, ha, hps, hfix, hm⟩
    refine rt_eb (eb_test (ev_op (ev_var rfl) (ev_cb (ea_1 (ev_var rfl)) (rc_lenS (by rw [ewl]; omega))) rv_I0b)) ⟨fun hb => ?_, fun hb => ?_⟩
    · have hb := of_decide_eq_true hb
      rw [ewl] at hb
      obtain ⟨fu, rfl⟩ : ∃ n, fu = n + 1 := ⟨fu - 1, by omega⟩
      unfold cutFix at hfix
      rw [if_pos (by omega)] at hfix
      refine rs_seq (rs_asg (ev_call (ea_cons (ev_var rfl) (ea_2 (ev_var rfl) (ev_var rfl))) ⟨τ, w, b, nr, a, rfl, ok, hw, ha, rfl⟩) ?_)
      have hinv := (lngM_inv ok hw a (w.length - a) (by omega)).2
      cases q : lngM b τ w a with
      | none =>
        rw [q] at hfix
        refine rs_seq (rs_ifT (eb_B (ev_isN (d := .none) (ev_var rfl))) (rs_frz (i := 2) rfl (rs_ret (ev_tup (ea_2 (ev_var rfl) (ev_var rfl)) (by show 2 ≤ 100000; decide)) ?_)))
        rw [← hfix] at k
        exact k
      | some p =>
        obtain ⟨k0, e⟩ := p
        rw [q] at hfix
        obtain ⟨a1, a2, a3, a4⟩ := hinv k0 e q
        refine rs_seq (rs_ifF (eb_B (ev_isN (d := optD (some (k0, e))) (ev_var rfl))) (rs_next ?_))
        refine rs_seq (rs_app (d := pcD (k0, a, e)) rfl rfl (ev_tup (ea_cons (ev_op (ev_var rfl) ev_int (rv_ixT (ix_of (j := 0) rfl rfl))) (ea_2 (ev_var rfl) (ev_op (ev_var rfl) ev_int (rv_ixT (ix_of (j := 1) rfl rfl))))) (by show 3 ≤ 100000; decide)) (by rw [List.length_map]; omega) ?_)
        refine rs_asg (ev_op (ev_var rfl) ev_int (rv_ixT (d := nD e) (ix_of (j := 1) rfl rfl))) ⟨fu, by omega, ps ++ [(k0, a, e)], e, .im (optD (some (k0, e))), ?_, by omega, by rw [List.length_append]; simp; omega, hfix, by omega⟩
        rw [List.map_append]
        rfl
    · have hb := of_decide_eq_false hb
      rw [ewl] at hb
      have e : (ps, a) = cutM b τ w := by
        rw [← hfix]
        cases fu with
        | zero => rfl
        | succ n => unfold cutFix; rw [if_neg (by omega)]
      rw [← e] at k
      exact rs_frz (i := 2) rfl (rs_ret (ev_tup (ea_2 (ev_var rfl) (ev_var rfl)) (by show 2 ≤ 100000; decide)) k)
end
end Nr
set_option Elab.async false
set_option linter.all false
set_option maxRecDepth 100000
set_option maxHeartbeats 4000000
set_option pp.maxSteps 700
namespace Nr
open PySem PySem.Spec PyProof.Rows L2
/-! ### names -/
def rlD (r : Str × PyData) : PyData := .tuple [.str r.1, r.2]
def bkD (τ : List Nat) (rs : List (Str × PyData)) : PyData := .tuple [sD τ, .tuple (rs.map rlD)]
def nmO (rs : List (Str × PyData)) (k : Int) : Str := (rs.getD k.toNat ("", .none)).1
def npD (rs : List (Str × PyData)) (p : Int × Nat × Nat) : PyData := .tuple [.str (nmO rs p.1), nD p.2.1, nD p.2.2]
def ncD (rs : List (Str × PyData)) (c : List (Int × Nat × Nat) × Nat) : PyData := .tuple [.list (c.1.map (npD rs)), nD c.2]
def nkD (rs : List (Str × PyData)) (k : Int) : PyData := if k < 0 then .none else .str (nmO rs k)
theorem rs_at {rs : List (Str × PyData)} {k : Int} (h0 : 0 ≤ k) (h1 : k < rs.length) : k = ((k.toNat : Nat) : Int) ∧ (rs.map rlD)[k.toNat]? = some (.tuple [.str (nmO rs k), (rs.getD k.toNat ("", .none)).2]) := by
  refine ⟨by omega, ?_⟩
  rw [List.getElem?_map, List.getElem?_eq_getElem (by omega)]
  unfold nmO
  rw [List.getD_eq_getElem?_getD, List.getElem?_eq_getElem (by omega)]
  rfl
def R_byNames (ds : List PyData) (Post : PyData → Prop) : Prop := ∃ τ w b rs, ds = [bkD τ rs, tblD τ b, sD w] ∧ Tbl.Ok b τ.length rs.length ∧ Wrd τ w ∧ Post (ncD rs (cutM b τ w))
def R_nkinds (ds : List PyData) (Post : PyData → Prop) : Prop := ∃ τ b rs, ds = [bkD τ rs, tblD τ b] ∧ Tbl.Ok b τ.length rs.length ∧ Post (.list (b.kinds.map (nkD rs)))
def R_alike (ds : List PyData) (Post : PyData → Prop) : Prop := ∃ τ rs rs', ds = [bkD τ rs, bkD τ rs'] ∧ Post .none
/-! ### two tables side by side -/
abbrev Meet := (Nat × Nat) × List Nat
def meetE (ms : List Meet) (m : Meet) : List Meet := if m.1 ∈ ms.map (·.1) then ms else ms ++ [m]
def meetN (a b : Tbl) (τ : List Nat) (m : Meet) : List Meet := τ.zipIdx.map fun s => (((a.goes.getD m.1.1 []).getD s.2 0, (b.goes.getD m.1.2 []).getD s.2 0), m.2 ++ [s.1])
def togFix (a b : Tbl) (τ : List Nat) : Nat → Nat → List Meet → List Meet
  | 0, _, ms => ms
  | n + 1, i, ms => match ms[i]? with
    | none => ms
    | some m => togFix a b τ n (i + 1) ((meetN a b τ m).foldl meetE ms)
def togM (a b : Tbl) (τ : List Nat) : List Meet := togFix a b τ 1100 0 [((0, 0), [])]
abbrev mkK (p : Nat × Nat) : List L2.Key := [.inl (p.1 : Int), .inl (p.2 : Int)]
abbrev prT (p : Nat × Nat) : PyData := .tuple [nD p.1, nD p.2]
abbrev dM (ms : List Meet) : List (List L2.Key × PyData) := ms.map fun m => (mkK m.1, sD m.2)
theorem mkK_inj {p q : Nat × Nat} (h : mkK p = mkK q) : p = q := by
  obtain ⟨a, b⟩ := p
  obtain ⟨c, d⟩ := q
  simp only [mkK, List.cons.injEq, Sum.inl.injEq, and_true] at h
  rw [show a = c by omega, show b = d by omega]
theorem dM_val : ∀ (ms : List Meet) (p : Nat × Nat), (valD (dM ms) (mkK p)).isSome = decide (p ∈ ms.map (·.1))
  | [], p => by simp [valD]
  | m :: ms, p => by
    have ih := dM_val ms p
    unfold valD at ih ⊢
    show (Option.map (fun x => x.snd) (List.find? (fun kv => decide (kv.fst = mkK p)) ((mkK m.1, sD m.2) :: dM ms))).isSome = _
    rw [List.find?_cons]
    by_cases q : m.1 = p
    · subst q; simp
    · have e1 : decide (mkK m.1 = mkK p) = false := decide_eq_false fun z => q (mkK_inj z)
      simp only [e1]
      rw [ih]
      have q2 : p ≠ m.1 := fun z => q z.symm
      simp [q2]
theorem dM_at : ∀ {ms : List Meet}, (ms.map (·.1)).Nodup → ∀ {m : Meet}, m ∈ ms → valD (dM ms) (mkK m.1) = some (sD m.2)
  | m0 :: ms, nd, m, h => by
    unfold valD
    show Option.map (fun x => x.snd) (List.find? (fun kv => decide (kv.fst = mkK m.1)) ((mkK m0.1, sD m0.2) :: dM ms)) = _
    rw [List.find?_cons]
    rw [List.map_cons, List.nodup_cons] at nd
    rcases List.mem_cons.mp h with rfl | h
    · simp
    · have q : m0.1 ≠ m.1 := fun z => nd.1 (by rw [z]; exact List.mem_map.mpr ⟨m, h, rfl⟩)
      have e1 : decide (mkK m0.1 = mkK m.1) = false := decide_eq_false fun z => q (mkK_inj z)
      simp only [e1]
      exact dM_at nd.2 h
theorem dM_put {ms : List Meet} {m : Meet} (h : m.1 ∉ ms.map (·.1)) : putD (dM ms) (mkK m.1) (sD m.2) = dM (ms ++ [m]) := by
  unfold putD
  have q : ((dM ms).any fun kv => decide (kv.1 = mkK m.1)) = false := by
    rw [List.any_eq_false]
    intro x hx
    obtain ⟨y, hy, rfl⟩ := List.mem_map.mp hx
    simp only [decide_eq_true_eq]
    intro z
    exact h (by rw [← mkK_inj z]; exact List.mem_map.mpr ⟨y, hy, rfl⟩)
  rw [q, dM, dM, List.map_append]
  rfl
structure MeetOk (a b : Tbl) (τ : List Nat) (ms : List Meet) : Prop where
  nd : (ms.map (·.1)).Nodup
  p : ∀ m ∈ ms, m.1.1 < a.goes.length ∧ m.1.2 < b.goes.length
  l : ∀ m ∈ ms, m.2.length ≤ ms.length
  s : ∀ m ∈ ms, ∀ k ∈ m.2, k ∈ τ
theorem pair_len {na nb : Nat} (ha : na ≤ 32) (hb : nb ≤ 32) {l : List (Nat × Nat)} (nd : l.Nodup) (h : ∀ p ∈ l, p.1 < na ∧ p.2 < nb) : l.length ≤ 1024 := by
  have h1 := nodup_le 1024 (l.map fun p => p.1 * 32 + p.2) (by
    rw [List.Nodup, List.pairwise_map]
    refine List.Pairwise.imp_of_mem (fun {p q} hp hq hne z => hne ?_) nd
    have := h p hp
    have := h q hq
    obtain ⟨a, b⟩ := p
    obtain ⟨c, d⟩ := q
    dsimp only at *
    rw [show a = c by omega, show b = d by omega]) (fun x hx => by
    obtain ⟨p, hp, rfl⟩ := List.mem_map.mp hx
    have := h p hp
    omega)
  rw [List.length_map] at h1
  exact h1
section
variable {P : Program} {w : World} {K : PySem.W.Frag} {mg : Str → Option Value} {base : Heap} {C T : Addr}
theorem cl_by_names (t : Tx K mg C T) : Cl P w K mg base 3 "by_names" (PF R_byNames) := by
  have sc : FnScope ["book", "table", "text", "pieces", "place", "kind", "start", "end"] ["book", "table", "text"] (defScope s_by_names) := ⟨rfl, rfl, rfl, by decide +kernel, rfl, by decide +kernel, by decide +kernel⟩
  have c_cut := cl_cut (P := P) (w := w) (base := base) t
  refine cl_pure (C := C) t.d_by_names sc (fun _ _ _ _ _ _ us hl => match us, hl with | [_, _, _], _ => rfl) (fun ds Post h => ?_) fun f cdv A outer s H E hr => ⟨_,
    (pss_cons (ps_asg (pe_cl c_cut hr (by decide) (by rfl) (pa_cons (pv 1) (pa_cons (pv 2) pa_nil))) (pg_tup rfl (pgs_cons (pg_name (i := 3) sc.nd rfl (Or.inl rfl)) (pgs_cons (pg_name (i := 4) sc.nd rfl (Or.inl rfl)) pgs_nil))))
  (pss_one (ps_ret (pe_tup (pa_cons (pe_lc (own := [("kind", 5), ("start", 6), ("end", 7)]) (g := gTup K 3 (gCons (gName 5) (gCons (gName 6) (gCons (gName 7) gNil)))) rfl sc.nd (pi_list (pv 3)) (blkOk_by (N := ["book", "table", "text", "pieces", "place", "kind", "start", "end"]) (sc := (defScope s_by_names)) (own := [("kind", 5), ("start", 6), ("end", 7)]) (by decide +kernel)) (fun _ _ _ _ _ => (pg_tup rfl (pgs_cons (pg_name (i := 5) sc.nd rfl (Or.inl rfl)) (pgs_cons (pg_name (i := 6) sc.nd rfl (Or.inl rfl)) (pgs_cons (pg_name (i := 7) sc.nd rfl (Or.inl rfl)) pgs_nil))))) (fun _ _ _ _ _ => pts_nil) (fun _ _ _ _ _ => (pe_tup (pa_cons (pe_ix (r := rIxT K) ix_tup (pe_ix (r := rIxT K) ix_tup (pe_ix (r := rIxT K) ix_tup (pv 0) pe_int (fun _ _ => rfl)) (pv 5) (fun _ _ => rfl)) pe_int (fun _ _ => rfl)) (pa_cons (pv 6) (pa_cons (pv 7) pa_nil)))))) (pa_cons (pv 4) pa_nil)))))), fun c ds Post hC h => ?_⟩
  · obtain ⟨_, _, _, _, rfl, _⟩ := h; rfl
  · obtain ⟨τ, w, b, rs, rfl, ok, hw, k⟩ := h
    obtain ⟨c1, c2⟩ := cutFix_ok ok hw (w.length + 1) 0 [] (by omega) (by simp) (fun p hp => by simp at hp)
    have hwl := hw.l
    refine rs_seq (rs_asgG (ev_call (ea_2 (ev_var rfl) (ev_var rfl)) ⟨τ, w, b, rs.length, rfl, ok, hw, rfl⟩) (eg_tup (egs_cons eg_name (egs_cons eg_name egs_nil)) rfl) ?_)
    refine rs_ret (ev_tup (ea_2 (ev_compG (l := (cutM b τ w).1) (g0 := pcD) (js := [5, 6, 7]) (ei_list (ev_var rfl)) (npD rs) (by show (cutFix b τ w (w.length + 1) 0 []).1.length ≤ _; omega) (by decide) fun p hp => ⟨_, eg_tup (egs_cons eg_name (egs_cons eg_name (egs_cons eg_name egs_nil))) rfl, ?_⟩) (ev_var rfl)) (by show 2 ≤ 100000; decide)) k
    obtain ⟨h0, h1⟩ := c2 p hp
    obtain ⟨e1, e2⟩ := rs_at (rs := rs) h0 h1
    exact ev_tup (ea_cons (ev_op (ev_op (ev_op (ev_var rfl) ev_int (rv_ixT (ix_of (j := 1) rfl rfl))) (ev_var rfl) (rv_ixT (ix_of e1 e2))) ev_int (rv_ixT (ix_of (j := 0) rfl rfl))) (ea_2 (ev_var rfl) (ev_var rfl))) (by show 3 ≤ 100000; decide)
theorem cl_named_kinds (t : Tx K mg C T) : Cl P w K mg base 1 "named_kinds" (PF R_nkinds) := by
  have sc : FnScope ["book", "table", "found", "kind"] ["book", "table"] (defScope s_named_kinds) := ⟨rfl, rfl, rfl, by decide +kernel, rfl, by decide +kernel, by decide +kernel⟩
  refine cl_pure (C := C) t.d_named_kinds sc (fun _ _ _ _ _ _ us hl => match us, hl with | [_, _], _ => rfl) (fun ds Post h => ?_) fun f cdv A outer s H E hr => ⟨_,
    (pss_cons (ps_set (i := 2) sc.nd rfl (Or.inl rfl) (pe_lst pa_nil))
  (pss_cons (ps_for PassesOwn.never rfl (pi_tup (pe_ix ix_tup (pv 1) pe_int (fun _ _ => rfl))) (pg_name (i := 3) sc.nd rfl (Or.inl rfl))
  (pss_one (ps_if (pt_cmpR op_lt (pv 3) pe_int (nomark _))
  (pss_one (ps_expr (pe_bm PySem.F.plainAttrs_list PySem.F.slot_list_append PySem.F.type_list_append mt_append (pv 2) (pa_cons pe_non pa_nil))))
  (pss_one (ps_expr (pe_bm PySem.F.plainAttrs_list PySem.F.slot_list_append PySem.F.type_list_append mt_append (pv 2) (pa_cons (pe_ix ix_tup (pe_ix ix_tup (pe_ix ix_tup (pv 0) pe_int (fun _ _ => rfl)) (pv 3) (fun _ _ => rfl)) pe_int (fun _ _ => rfl)) pa_nil)))))))
  (pss_one (ps_ret (pv 2))))), fun c ds Post hC h => ?_⟩
  · obtain ⟨_, _, _, rfl, _⟩ := h; rfl
  · obtain ⟨τ, b, rs, rfl, ok, k⟩ := h
    have hkl := ok.l
    have hm := ok.m
    refine rs_seq (rs_asgO ea_nil (by decide) (rs_seq (rs_for (ds := isD b.kinds) (ei_tup (ev_op (ev_var rfl) ev_int (rv_ixT (ix_of (j := 2) rfl rfl)))) (fun i env => ∃ x, env = [.im (bkD τ rs), .im (tblD τ b), .ow (.lst ((b.kinds.take i).map (nkD rs))), x]) ⟨_, rfl⟩ ?hs ?hd)))
    case hs =>
      rintro i d _ hi ⟨x, rfl⟩
      obtain ⟨q, hq, rfl⟩ := get_map hi
      have hlt := (List.getElem?_eq_some_iff.mp hq).1
      have hk := ok.k q (List.mem_of_getElem? hq)
      have hap : ((b.kinds.take i).map (nkD rs)).length < 100000 := by rw [List.length_map, List.length_take]; omega
      refine ⟨_, _, eg_name, rs_if (eb_test (ev_op (ev_var rfl) ev_int rv_I0b)) (fun h => rs_app rfl rfl ev_non hap ⟨.im (.int q), ?_⟩) (fun h => ?_)⟩
      · have h := of_decide_eq_true h
        rw [take_one hq, List.map_append]
        show _ = [_, _, Sl.ow (.lst (_ ++ [nkD rs q])), _]
        rw [show nkD rs q = .none from if_pos h]
        rfl
      · have h := of_decide_eq_false h
        obtain ⟨e1, e2⟩ := rs_at (rs := rs) (k := q) (by omega) hk.2
        refine rs_app rfl rfl (ev_op (ev_op (ev_op (ev_var rfl) ev_int (rv_ixT (ix_of (j := 1) rfl rfl))) (ev_var rfl) (rv_ixT (ix_of e1 e2))) ev_int (rv_ixT (ix_of (j := 0) rfl rfl))) hap ⟨.im (.int q), ?_⟩
        rw [take_one hq, List.map_append]
        show _ = [_, _, Sl.ow (.lst (_ ++ [nkD rs q])), _]
        rw [show nkD rs q = .str (nmO rs q) from if_neg h]
        rfl
    case hd =>
      rintro _ ⟨x, rfl⟩
      rw [List.length_map, List.take_length]
      exact rs_frz (i := 2) rfl (rs_ret (ev_var rfl) k)
theorem cl_asked_alike (t : Tx K mg C T) : Cl P w K mg base 1 "asked_alike" (PF R_alike) := by
  have sc : FnScope ["one", "other"] ["one", "other"] (defScope s_asked_alike) := ⟨rfl, rfl, rfl, by decide +kernel, rfl, by decide +kernel, by decide +kernel⟩
  refine cl_pure (C := C) t.d_asked_alike sc (fun _ _ _ _ _ _ us hl => match us, hl with | [_, _], _ => rfl) (fun ds Post h => ?_) fun f cdv A outer s H E hr => ⟨_,
    (pss_one (ps_if (pt_cmpR op_ne (pe_ix ix_tup (pv 0) pe_int (fun _ _ => rfl)) (pe_ix ix_tup (pv 1) pe_int (fun _ _ => rfl)) (nomark _))
  (pss_one ps_never)
  pss_nil)), fun c ds Post hC h => ?_⟩
  · obtain ⟨_, _, _, rfl, _⟩ := h; rfl
  · obtain ⟨τ, rs, rs', rfl, k⟩ := h
    exact rs_ifF (eb_test (ev_is (ev_op (ev_op (ev_var rfl) ev_int (rv_ixT (ix_of (j := 0) rfl rfl))) (ev_op (ev_var rfl) ev_int (rv_ixT (ix_of (j := 0) rfl rfl))) rv_neS) (by simp))) (rs_next k)
end
end Nr
set_option Elab.async false
set_option linter.all false
set_option maxRecDepth 100000
set_option maxHeartbeats 4000000
set_option pp.maxSteps 700
namespace Nr
open PySem PySem.Spec PyProof.Rows L2
theorem str_snoc (w : List Nat) (k : Nat) : (⟨w.toArray⟩ : Str) ++ (⟨#[k]⟩ : Str) = ⟨(w ++ [k]).toArray⟩ := by
  show (⟨w.toArray ++ #[k]⟩ : Str) = _
  simp
theorem meetE_mem (ms : List Meet) (m : Meet) : ∃ t, meetE ms m = ms ++ t := by
  unfold meetE
  split
  · exact ⟨[], by simp⟩
  · exact ⟨[m], rfl⟩
theorem meetF_pre : ∀ (l ms : List Meet), ∃ t, l.foldl meetE ms = ms ++ t
  | [], ms => ⟨[], by simp⟩
  | m :: l, ms => by
    obtain ⟨t, e⟩ := meetE_mem ms m
    obtain ⟨u, e2⟩ := meetF_pre l (meetE ms m)
    exact ⟨t ++ u, by show l.foldl meetE (meetE ms m) = _; rw [e2, e, List.append_assoc]⟩
theorem MeetOk.add {a b : Tbl} {τ : List Nat} {ms : List Meet} (ok : MeetOk a b τ ms) {m : Meet} (hp : m.1.1 < a.goes.length ∧ m.1.2 < b.goes.length) (hl : m.2.length ≤ ms.length + 1) (hs : ∀ k ∈ m.2, k ∈ τ) : MeetOk a b τ (meetE ms m) := by
  unfold meetE
  split
  · exact ok
  · rename_i q
    refine ⟨?_, fun x hx => ?_, fun x hx => ?_, fun x hx => ?_⟩
    · rw [List.map_append, List.nodup_append]
      exact ⟨ok.nd, by simp, fun x hx y hy => by
        simp only [List.map_cons, List.map_nil, List.mem_singleton] at hy
        subst hy
        exact fun z => q (by rw [← z]; exact hx)⟩
    · rcases List.mem_append.mp hx with h | h
      · exact ok.p x h
      · simp only [List.mem_singleton] at h; subst h; exact hp
    · rw [List.length_append]
      rcases List.mem_append.mp hx with h | h
      · have := ok.l x h; omega
      · simp only [List.mem_singleton] at h; subst h; exact hl
    · rcases List.mem_append.mp hx with h | h
      · exact ok.s x h
      · simp only [List.mem_singleton] at h; subst h; exact hs
theorem MeetOk.fold {a b : Tbl} {τ : List Nat} : ∀ {l ms : List Meet} {n : Nat}, MeetOk a b τ ms → n ≤ ms.length → (∀ m ∈ l, (m.1.1 < a.goes.length ∧ m.1.2 < b.goes.length) ∧ m.2.length ≤ n + 1 ∧ ∀ k ∈ m.2, k ∈ τ) → MeetOk a b τ (l.foldl meetE ms)
  | [], _, _, ok, _, _ => ok
  | m :: l, ms, n, ok, hn, h => by
    obtain ⟨h1, h2, h3⟩ := h m List.mem_cons_self
    refine MeetOk.fold (l := l) (n := n) (ok.add h1 (by omega) h3) ?_ fun x hx => h x (List.mem_cons_of_mem _ hx)
    obtain ⟨t, e⟩ := meetE_mem ms m
    rw [e, List.length_append]; omega
theorem MeetOk.len {a b : Tbl} {τ : List Nat} {ms : List Meet} (ok : MeetOk a b τ ms) (ha : a.goes.length ≤ 32) (hb : b.goes.length ≤ 32) : ms.length ≤ 1024 := by
  have h := pair_len ha hb ok.nd fun p hp => by
    obtain ⟨m, hm, rfl⟩ := List.mem_map.mp hp
    exact ok.p m hm
  rw [List.length_map] at h
  exact h
theorem meetN_ok {a b : Tbl} {τ : List Nat} {na nb : Nat} (oa : a.Ok τ.length na) (ob : b.Ok τ.length nb) {ms : List Meet} (ok : MeetOk a b τ ms) {m : Meet} (hm : m ∈ ms) : ∀ x ∈ meetN a b τ m, (x.1.1 < a.goes.length ∧ x.1.2 < b.goes.length) ∧ x.2.length ≤ ms.length + 1 ∧ ∀ k ∈ x.2, k ∈ τ := fun x hx => by
  obtain ⟨s, hs, rfl⟩ := List.mem_map.mp hx
  have hs := zip_mem hs
  have hsl := (List.getElem?_eq_some_iff.mp hs).1
  obtain ⟨p1, p2⟩ := ok.p m hm
  have cell : ∀ {t : Tbl} {n r : Nat}, t.Ok τ.length n → r < t.goes.length → (t.goes.getD r []).getD s.2 0 < t.goes.length := fun {t n r} ot hr => by
    have e1 : t.goes[r]? = some (t.goes.getD r []) := by rw [List.getD_eq_getElem?_getD, List.getElem?_eq_getElem hr]; rfl
    obtain ⟨r1, r2⟩ := ot.r _ (List.mem_of_getElem? e1)
    exact r2 _ (getD_mem (by omega))
  refine ⟨⟨cell oa p1, cell ob p2⟩, ?_, fun k hk => ?_⟩
  · have := ok.l m hm
    rw [List.length_append]; simp; omega
  · rcases List.mem_append.mp hk with h | h
    · exact ok.s m hm k h
    · simp only [List.mem_singleton] at h; subst h; exact List.mem_of_getElem? hs
def R_tog (ds : List PyData) (Post : List (List L2.Key × PyData) → Prop) : Prop := ∃ τ a b na nb, ds = [tblD τ a, tblD τ b] ∧ Tbl.Ok a τ.length na ∧ Tbl.Ok b τ.length nb ∧ τ.length ≤ 1000 ∧ Post (dM (togM a b τ))
section
variable {P : Program} {w : World} {K : PySem.W.Frag} {mg : Str → Option Value} {base : Heap} {C T : Addr}
theorem cl_dict {C : Addr} {x : Str} {st : Stmt} {N ps : List Str} {k : Nat} {R : List PyData → (List (List L2.Key × PyData) → Prop) → Prop} (D : Dn K mg x st) (S : FnScope N ps (defScope st)) (hb : BindsTo1 x x st ps) (len : ∀ ds Post, R ds Post → ds.length = ps.length)
    (hbody : ∀ (f : Addr) (cdv : Value) (A : Around) (outer : List Env) (s : Shared) (H : Hp) (E : XK), Room k (A.deeper (envOfC x (defScope st) s.heap.objs.size f cdv)) →
      ∃ t, PSs (cxOf CX0 P w K mg base N x (defScope st) f cdv A outer s H E).nox (defBody st) t ∧ ∀ c ds Post, c.C = C → R ds Post → RS c t { nx := fun _ => False, rt := fun _ _ => False, ro := fun i e => ∃ kvs, e[i]? = some (.ow (.dt kvs)) ∧ Post kvs } (ds.map .im ++ List.replicate (N.length - ps.length) .no)) : Cl P w K mg base (k + 1) x (PD R) := by
  obtain ⟨f, fd, F, hm⟩ := D.ex
  exact ⟨f, fd, ps, fn_dict (C := C) F S len (hbody f), hm, F.kp, F.binds hb⟩
theorem cl_together (t : Tx K mg C T) : Cl P w K mg base 1 "together" (PD R_tog) := by
  have sc : FnScope ["one", "other", "words", "met", "at", "first", "second", "k", "sign", "there"] ["one", "other"] (defScope s_together) := ⟨rfl, rfl, rfl, by decide +kernel, rfl, by decide +kernel, by decide +kernel⟩
  refine cl_dict (C := C) t.d_together sc (fun _ _ _ _ _ _ us hl => match us, hl with | [_, _], _ => rfl) (fun ds Post h => ?_) fun f cdv A outer s H E hr => ⟨_,
    (pss_cons (ps_set (i := 2) sc.nd rfl (Or.inl rfl) (pe_disp1T (hu_of hr) (pe_tup (pa_cons pe_int (pa_cons pe_int pa_nil))) pe_str))
  (pss_cons (ps_set (i := 3) sc.nd rfl (Or.inl rfl) (pe_lst (pa_cons (pe_tup (pa_cons pe_int (pa_cons pe_int pa_nil))) pa_nil)))
  (pss_cons (ps_set (i := 4) sc.nd rfl (Or.inl rfl) pe_int)
  (pss_cons (ps_while PassesOwn.never (pt_cmpR op_lt (pv 4) (pe_callB call_len_seq (by rfl) t.n_len bt_len (pa_cons (pv 3) pa_nil)) (nomark _))
  (pss_cons (ps_asg (pe_ix ix_list (pv 3) (pv 4) (fun _ _ => rfl)) (pg_tup rfl (pgs_cons (pg_name (i := 5) sc.nd rfl (Or.inl rfl)) (pgs_cons (pg_name (i := 6) sc.nd rfl (Or.inl rfl)) pgs_nil))))
  (pss_cons (ps_for PassesOwn.never rfl (pi_enumS (by rfl) t.n_enumerate (pa_cons (pe_ix ix_tup (pv 0) pe_int (fun _ _ => rfl)) pa_nil)) (pg_tup rfl (pgs_cons (pg_name (i := 7) sc.nd rfl (Or.inl rfl)) (pgs_cons (pg_name (i := 8) sc.nd rfl (Or.inl rfl)) pgs_nil)))
  (pss_cons (ps_set (i := 9) sc.nd rfl (Or.inl rfl) (pe_tup (pa_cons (pe_ix ix_tup (pe_ix ix_tup (pe_ix ix_tup (pv 0) pe_int (fun _ _ => rfl)) (pv 5) (fun _ _ => rfl)) (pv 7) (fun _ _ => rfl)) (pa_cons (pe_ix ix_tup (pe_ix ix_tup (pe_ix ix_tup (pv 1) pe_int (fun _ _ => rfl)) (pv 6) (fun _ _ => rfl)) (pv 7) (fun _ _ => rfl)) pa_nil))))
  (pss_one (ps_if (pt_cmp (pc_dnotin (hu_of hr) (pv 9) (pv 2)))
  (pss_cons (ps_dput (hu_of hr) (pv 2) (pv 9) (pe_op op_add_str (pe_dget (hu_of hr) (pv 2) (pe_ix ix_list (pv 3) (pv 4) (fun _ _ => rfl)) (fun _ _ => rfl)) (pv 8)) rfl)
  (pss_one (ps_expr (pe_bm PySem.F.plainAttrs_list PySem.F.slot_list_append PySem.F.type_list_append mt_append (pv 3) (pa_cons (pv 9) pa_nil)))))
  pss_nil))))
  (pss_one (ps_set (i := 4) sc.nd rfl (Or.inl rfl) (pe_op op_add (pv 4) pe_int))))))
  (pss_one (ps_ret (pv 2))))))), fun c ds Post hC h => ?_⟩
  · obtain ⟨_, _, _, _, _, rfl, _⟩ := h; rfl
  · obtain ⟨τ, a, b, na, nb, rfl, oa, ob, hτ, k⟩ := h
    have ok0 : MeetOk a b τ [((0, 0), [])] := ⟨by simp, fun m hm => by simp only [List.mem_singleton] at hm; subst hm; exact ⟨oa.p, ob.p⟩, fun m hm => by simp only [List.mem_singleton] at hm; subst hm; exact Nat.zero_le _, fun m hm => by simp only [List.mem_singleton] at hm; subst hm; simp⟩
    refine rs_seq (rs_disp1T (k := mkK (0, 0)) (ev_tup (ea_2 ev_int ev_int) (by show 2 ≤ 100000; decide)) ev_str (rs_seq (rs_asgO (ea_1 (ev_tup (ea_2 ev_int ev_int) (by show 2 ≤ 100000; decide))) (by show 1 ≤ 100000; decide) (rs_seq (rs_asg ev_int (rs_seq (rs_while (m0 := 1100) (fun m env => ∃ ms i x5 x6 x7 x8 x9, env = [.im (tblD τ a), .im (tblD τ b), .ow (.dt (dM ms)), .ow (.lst (ms.map fun m => prT m.1)), .im (nD i), x5, x6, x7, x8, x9] ∧ MeetOk a b τ ms ∧ i ≤ ms.length ∧
      togFix a b τ m i ms = togM a b τ ∧ 1100 ≤ m + i) ⟨[((0, 0), [])], 0, _, _, _, _, _, rfl, ok0, by omega, rfl, by omega⟩ ?_)))))))
    rintro fu _ ⟨ms, i, x5, x6, x7, x8, x9, rfl, ok, hi, hfix, hm⟩
    have hlen := ok.len oa.m ob.m
    refine rt_eb (eb_test (ev_op (ev_var rfl) (ev_lenO rfl rfl) rv_I0b)) ⟨fun hb => ?_, fun hb => ?_⟩
    · have hb := of_decide_eq_true hb
      rw [List.length_map] at hb
      have hil : i < ms.length := by omega
      obtain ⟨fu, rfl⟩ : ∃ n, fu = n + 1 := ⟨fu - 1, by omega⟩
      obtain ⟨m, hmi⟩ : ∃ m, ms[i]? = some m := ⟨ms[i], List.getElem?_eq_getElem hil⟩
      have hmm := List.mem_of_getElem? hmi
      obtain ⟨p1, p2⟩ := ok.p m hmm
      unfold togFix at hfix
      rw [hmi] at hfix
      dsimp only at hfix
      have hN := meetN_ok oa ob ok hmm
      refine rs_seq (rs_asgG (ev_ixO (d := prT m.1) rfl rfl (ev_var rfl) (ix_of rfl (get_map' hmi))) (eg_tup (egs_cons eg_name (egs_cons eg_name egs_nil)) rfl) ?_)
      refine rs_seq (rs_for (ds := enD (strD ⟨τ.toArray⟩)) (ei_enumS (ev_op (ev_var rfl) ev_int (rv_ixT (ix_of (j := 0) rfl rfl)))) (fun j env => ∃ ms' x7 x8 x9, env = [.im (tblD τ a), .im (tblD τ b), .ow (.dt (dM ms')), .ow (.lst (ms'.map fun m => prT m.1)), .im (nD i), .im (nD m.1.1), .im (nD m.1.2), x7, x8, x9] ∧ ms' = ((meetN a b τ m).take j).foldl meetE ms) ⟨ms, _, _, _, rfl, rfl⟩ ?hs ?hd)
      case hs =>
        rintro j d _ hj ⟨ms', y7, y8, y9, rfl, hms⟩
        obtain ⟨q, hq, rfl⟩ := enD_get hj
        obtain ⟨sg, hsg, rfl⟩ := get_map hq
        have hsg : τ[j]? = some sg := hsg
        have hjl := (List.getElem?_eq_some_iff.mp hsg).1
        have hz : τ.zipIdx[j]? = some (sg, j) := by rw [List.getElem?_zipIdx, hsg]; simp
        have hx : (meetN a b τ m)[j]? = some (((a.goes.getD m.1.1 []).getD j 0, (b.goes.getD m.1.2 []).getD j 0), m.2 ++ [sg]) := by
          unfold meetN
          rw [List.getElem?_map, hz]; rfl
        have ok' : MeetOk a b τ ms' := by
          rw [hms]
          exact ok.fold (n := ms.length) (Nat.le_refl _) fun x hx => hN x (List.mem_of_mem_take hx)
        have hlen' := ok'.len oa.m ob.m
        obtain ⟨u, eu⟩ := meetF_pre ((meetN a b τ m).take j) ms
        rw [← hms] at eu
        have hmi' : ms'[i]? = some m := by rw [eu, List.getElem?_append_left hil]; exact hmi
        have cell : ∀ {t : Tbl} {n r : Nat}, t.Ok τ.length n → r < t.goes.length → t.goes[r]? = some (t.goes.getD r []) ∧ (t.goes.getD r [])[j]? = some ((t.goes.getD r []).getD j 0) := fun {t n r} ot hr => by
          have e1 : t.goes[r]? = some (t.goes.getD r []) := by rw [List.getD_eq_getElem?_getD, List.getElem?_eq_getElem hr]; rfl
          obtain ⟨r1, r2⟩ := ot.r _ (List.mem_of_getElem? e1)
          exact ⟨e1, getD_some (by omega)⟩
        obtain ⟨a1, a2⟩ := cell oa p1
        obtain ⟨b1, b2⟩ := cell ob p2
        have enext : ((meetN a b τ m).take (j + 1)).foldl meetE ms = meetE ms' (((a.goes.getD m.1.1 []).getD j 0, (b.goes.getD m.1.2 []).getD j 0), m.2 ++ [sg]) := by
          rw [take_one hx, List.foldl_append, ← hms]; rfl
        refine ⟨_, _, eg_tup (egs_cons eg_name (egs_cons eg_name egs_nil)) rfl, rs_seq (rs_asg (d := prT ((a.goes.getD m.1.1 []).getD j 0, (b.goes.getD m.1.2 []).getD j 0)) (ev_tup (ea_2 (ev_op (ev_op (ev_op (ev_var rfl) ev_int (rv_ixT (ix_of (j := 1) rfl rfl))) (ev_var rfl) (rv_ixT (ix_of rfl (get_map' (f := rwD) a1)))) (ev_var rfl) (rv_ixT (ix_of rfl (get_map' (f := nD) a2)))) (ev_op (ev_op (ev_op (ev_var rfl) ev_int (rv_ixT (ix_of (j := 1) rfl rfl))) (ev_var rfl) (rv_ixT (ix_of rfl (get_map' (f := rwD) b1)))) (ev_var rfl) (rv_ixT (ix_of rfl (get_map' (f := nD) b2))))) (by show 2 ≤ 100000; decide)) ?_)⟩
        generalize hth : ((a.goes.getD m.1.1 []).getD j 0, (b.goes.getD m.1.2 []).getD j 0) = th at enext
        refine rs_if (eb_B (ev_dnotinT rfl rfl (k := mkK th) (ev_var rfl))) (fun h => ?_) (fun h => ?_)
        · rw [dM_val] at h
          have hnin : th ∉ ms'.map (·.1) := by simpa using h
          have eadd : meetE ms' (th, m.2 ++ [sg]) = ms' ++ [(th, m.2 ++ [sg])] := if_neg hnin
          have hl2 := ok'.l m (List.mem_of_getElem? hmi')
          refine rs_seq (rs_dputT (d := sD (m.2 ++ [sg])) rfl rfl (ev_is (ev_op (ev_dgetT rfl rfl (k := mkK m.1) (ev_ixO (d := prT m.1) rfl rfl (ev_var rfl) (ix_of rfl (get_map' hmi'))) (dM_at ok'.nd (List.mem_of_getElem? hmi'))) (ev_var rfl) (rv_addS ?_)) ?_) (k := mkK th) (ev_var rfl) (by rw [List.length_map]; omega) ?_)
          · show (⟨m.2.toArray⟩ : Str).length + (⟨#[sg]⟩ : Str).length ≤ 100000
            simp [Str.length]; omega
          · rw [str_snoc]
          · refine rs_app (d := prT th) rfl rfl (ev_var rfl) (by rw [List.length_map]; omega) ⟨ms' ++ [(th, m.2 ++ [sg])], .im (nD j), .im (.str ⟨#[sg]⟩), .im (prT th), ?_, by rw [enext, eadd]⟩
            show [_, _, Sl.ow (.dt (putD (dM ms') (mkK (th, m.2 ++ [sg]).1) (sD (th, m.2 ++ [sg]).2))), _, _, _, _, _, _, _] = _
            rw [dM_put hnin, List.map_append]
            rfl
        · rw [dM_val] at h
          have hin : th ∈ ms'.map (·.1) := by simpa using h
          have eadd : meetE ms' (th, m.2 ++ [sg]) = ms' := if_pos hin
          exact rs_next ⟨ms', .im (nD j), .im (.str ⟨#[sg]⟩), .im (prT th), rfl, by rw [enext, eadd]⟩
      case hd =>
        rintro _ ⟨ms', y7, y8, y9, rfl, hms⟩
        have e : (enD (strD ⟨τ.toArray⟩)).length = (meetN a b τ m).length := by
          rw [enD_len]; unfold meetN strD; rw [List.length_map, List.length_map, List.length_zipIdx]
        rw [e, List.take_length] at hms
        have ok' : MeetOk a b τ ms' := by
          rw [hms]
          exact ok.fold (n := ms.length) (Nat.le_refl _) hN
        obtain ⟨u, eu⟩ := meetF_pre (meetN a b τ m) ms
        rw [← hms] at eu hfix
        exact rs_asg (ev_op (ev_var rfl) ev_int rv_add) ⟨fu, by omega, ms', i + 1, _, _, _, _, _, rfl, ok', by rw [eu, List.length_append]; omega, hfix, by omega⟩
    · have hb := of_decide_eq_false hb
      rw [List.length_map] at hb
      have e : ms = togM a b τ := by
        rw [← hfix]
        cases fu with
        | zero => rfl
        | succ n => unfold togFix; rw [List.getElem?_eq_none (by omega)]
      rw [← e] at k
      exact rs_retO rfl rfl ⟨_, rfl, k⟩
def nkV (rs : List (Str × PyData)) (k : Int) : V := if k < 0 then .non else .str (nmO rs k)
def nkO (rs : List (Str × PyData)) (k : Int) : Option Str := if k < 0 then none else some (nmO rs k)
theorem nk_sc (rs : List (Str × PyData)) (k : Int) : scD (nkD rs k) = some (nkV rs k) := by
  unfold nkD nkV
  split <;> rfl
theorem nk_scal (rs rs' : List (Str × PyData)) (k k' : Int) : scal (nkV rs k) (nkV rs' k') = true := by
  unfold nkV
  split <;> split <;> rfl
theorem nk_ne (rs rs' : List (Str × PyData)) (k k' : Int) : decide (nkV rs k = nkV rs' k') = decide (nkO rs k = nkO rs' k') := by
  unfold nkV nkO
  split <;> split <;> simp
def fpM (a b : Tbl) (τ : List Nat) (rs rs' : List (Str × PyData)) : Option Meet := (togM a b τ).find? fun m => !decide (nkO rs (a.kd m.1.1) = nkO rs' (b.kd m.1.2))
def fpD : Option Meet → PyData
  | none => .none
  | some m => sD m.2
theorem togFix_ok {a b : Tbl} {τ : List Nat} {na nb : Nat} (oa : a.Ok τ.length na) (ob : b.Ok τ.length nb) : ∀ (n i : Nat) (ms : List Meet), MeetOk a b τ ms → MeetOk a b τ (togFix a b τ n i ms) := by
  intro n
  induction n with
  | zero => intro i ms ok; exact ok
  | succ n ih =>
    intro i ms ok
    unfold togFix
    split
    · exact ok
    · rename_i m hm
      exact ih _ _ (ok.fold (n := ms.length) (Nat.le_refl _) (meetN_ok oa ob ok (List.mem_of_getElem? hm)))
theorem togM_ok {a b : Tbl} {τ : List Nat} {na nb : Nat} (oa : a.Ok τ.length na) (ob : b.Ok τ.length nb) : MeetOk a b τ (togM a b τ) := togFix_ok oa ob _ _ _ ⟨by simp, fun m hm => by simp only [List.mem_singleton] at hm; subst hm; exact ⟨oa.p, ob.p⟩, fun m hm => by simp only [List.mem_singleton] at hm; subst hm; exact Nat.zero_le _, fun m hm => by simp only [List.mem_singleton] at hm; subst hm; simp⟩
def R_parted (ds : List PyData) (Post : PyData → Prop) : Prop := ∃ τ a b rs rs', ds = [tblD τ a, tblD τ b, .list (a.kinds.map (nkD rs)), .list (b.kinds.map (nkD rs'))] ∧ Tbl.Ok a τ.length rs.length ∧ Tbl.Ok b τ.length rs'.length ∧ τ.length ≤ 1000 ∧ Post (fpD (fpM a b τ rs rs'))
theorem cl_first_parted (t : Tx K mg C T) : Cl P w K mg base 2 "first_parted" (PF R_parted) := by
  have sc : FnScope ["one", "other", "marks", "others", "pair", "word"] ["one", "other", "marks", "others"] (defScope s_first_parted) := ⟨rfl, rfl, rfl, by decide +kernel, rfl, by decide +kernel, by decide +kernel⟩
  have c_together := cl_together (P := P) (w := w) (base := base) t
  refine cl_pure (C := C) t.d_first_parted sc (fun _ _ _ _ _ _ us hl => match us, hl with | [_, _, _, _], _ => rfl) (fun ds Post h => ?_) fun f cdv A outer s H E hr => ⟨_,
    (pss_cons (ps_for PassesOwn.never rfl (pi_itemsT (pe_cl c_together hr (by decide) (by rfl) (pa_cons (pv 0) (pa_cons (pv 1) pa_nil)))) (pg_tup rfl (pgs_cons (pg_name (i := 4) sc.nd rfl (Or.inl rfl)) (pgs_cons (pg_name (i := 5) sc.nd rfl (Or.inl rfl)) pgs_nil)))
  (pss_one (ps_if (pt_cmpR op_ne (pe_ix ix_list (pv 2) (pe_ix ix_tup (pv 4) pe_int (fun _ _ => rfl)) (fun _ _ => rfl)) (pe_ix ix_list (pv 3) (pe_ix ix_tup (pv 4) pe_int (fun _ _ => rfl)) (fun _ _ => rfl)) (nomark _))
  (pss_one (ps_ret (pv 5)))
  pss_nil)))
  (pss_one (ps_ret pe_non))), fun c ds Post hC h => ?_⟩
  · obtain ⟨_, _, _, _, _, rfl, _⟩ := h; rfl
  · obtain ⟨τ, a, b, rs, rs', rfl, oa, ob, hτ, k⟩ := h
    have ok := togM_ok oa ob
    refine rs_seq (rs_for (ds := prD (dM (togM a b τ))) (ei_itemsT (ea_2 (ev_var rfl) (ev_var rfl)) ⟨τ, a, b, _, _, rfl, oa, ob, hτ, rfl⟩) (fun i env => ∃ x y, env = [.im (tblD τ a), .im (tblD τ b), .im (.list (a.kinds.map (nkD rs))), .im (.list (b.kinds.map (nkD rs'))), x, y] ∧ ∀ (j : Nat) m, j < i → (togM a b τ)[j]? = some m → nkO rs (a.kd m.1.1) = nkO rs' (b.kd m.1.2)) ⟨_, _, rfl, fun j m h => by omega⟩ ?_ ?_)
    · rintro i d _ hi ⟨x, y, rfl, hno⟩
      obtain ⟨q, hq, rfl⟩ := get_map hi
      obtain ⟨m, hm, rfl⟩ := get_map hq
      obtain ⟨p1, p2⟩ := ok.p m (List.mem_of_getElem? hm)
      refine ⟨_, _, eg_tup (egs_cons eg_name (egs_cons eg_name egs_nil)) rfl, rs_if (eb_test (ev_op (ev_op (ev_var rfl) (ev_op (ev_var rfl) ev_int (rv_ixT (ix_of (j := 0) rfl rfl))) (rv_ixL (ix_of rfl (get_map' (f := nkD rs) (oa.kd p1))))) (ev_op (ev_var rfl) (ev_op (ev_var rfl) ev_int (rv_ixT (ix_of (j := 1) rfl rfl))) (rv_ixL (ix_of rfl (get_map' (f := nkD rs') (ob.kd p2))))) (rv_ne (nk_sc _ _) (nk_sc _ _) (nk_scal _ _ _ _)))) (fun h => rs_ret (ev_var rfl) ?_) (fun h => rs_next ⟨_, _, rfl, fun j m' hj hm' => ?_⟩)⟩
      · rw [nk_ne] at h
        have e : fpM a b τ rs rs' = some m := by
          unfold fpM
          rw [List.find?_eq_some_iff_getElem]
          obtain ⟨hlt, e2⟩ := List.getElem?_eq_some_iff.mp hm
          refine ⟨h, i, hlt, e2, fun j hj => ?_⟩
          have := hno j _ hj (List.getElem?_eq_getElem (by omega))
          simp [this]
        have k2 := k
        rw [e] at k2
        exact k2
      · rw [nk_ne] at h
        by_cases e : j = i
        · subst e
          rw [hm] at hm'; cases hm'
          simpa using h
        · exact hno j m' (by omega) hm'
    · rintro _ ⟨x, y, rfl, hno⟩
      refine rs_ret ev_non ?_
      have e : fpM a b τ rs rs' = none := by
        unfold fpM
        rw [List.find?_eq_none]
        intro m hm
        obtain ⟨j, hj⟩ := List.mem_iff_getElem?.mp hm
        have hjl := (List.getElem?_eq_some_iff.mp hj).1
        have := hno j m (by unfold prD; rw [List.length_map, List.length_map]; exact hjl) hj
        simp [this]
      rw [e] at k
      exact k
end
end Nr
set_option Elab.async false
set_option linter.all false
set_option maxRecDepth 100000
set_option maxHeartbeats 4000000
set_option pp.maxSteps 700
namespace Nr
open PySem PySem.Spec PyProof.Rows L2
inductive Sh where
  | one (τ : List Nat)
  | row (l : List Sh)
  | alt (l : List Sh)
  | many (x : Sh)
  | times (x : Sh) (lo hi : Nat)
mutual
def shD : Sh → PyData
  | .one τ => .tuple [.str "one", sD τ]
  | .row l => .tuple [.str "row", .tuple (shsD l)]
  | .alt l => .tuple [.str "either", .tuple (shsD l)]
  | .many x => .tuple [.str "many", shD x]
  | .times x lo hi => .tuple [.str "times", shD x, nD lo, nD hi]
def shsD : List Sh → List PyData
  | [] => []
  | x :: l => shD x :: shsD l
end
mutual
def Sh.dep : Sh → Nat
  | .one _ => 1
  | .row l => deps l + 1
  | .alt l => deps l + 1
  | .many x => x.dep + 1
  | .times x _ _ => x.dep + 1
def deps : List Sh → Nat
  | [] => 0
  | x :: l => max x.dep (deps l)
end
mutual
def Sh.wt : Sh → Nat
  | .one _ => 1
  | .row l => wts l
  | .alt l => wts l
  | .many x => x.wt
  | .times x _ hi => hi * x.wt
def wts : List Sh → Nat
  | [] => 0
  | x :: l => x.wt + wts l
end
theorem shsD_map : ∀ l : List Sh, shsD l = l.map shD
  | [] => rfl
  | x :: l => by show shD x :: shsD l = shD x :: l.map shD; rw [shsD_map l]
theorem wts_map : ∀ l : List Sh, wts l = (l.map Sh.wt).sum
  | [] => rfl
  | x :: l => by show x.wt + wts l = _; rw [wts_map l, List.map_cons, List.sum_cons]
theorem dep_pos : ∀ s : Sh, 1 ≤ s.dep
  | .one _ => Nat.le_refl 1
  | .row l => Nat.le_add_left 1 _
  | .alt l => Nat.le_add_left 1 _
  | .many x => Nat.le_add_left 1 _
  | .times x _ _ => Nat.le_add_left 1 _
theorem deps_le : ∀ {l : List Sh} {x : Sh}, x ∈ l → x.dep ≤ deps l
  | y :: l, x, h => by
    show x.dep ≤ max y.dep (deps l)
    rcases List.mem_cons.mp h with rfl | h
    · omega
    · have := deps_le h; omega
mutual
def Sh.fit : Sh → Prop
  | .one τ => τ.length ≤ 1000
  | .row l => l.length ≤ 1000 ∧ fits l
  | .alt l => l.length ≤ 1000 ∧ fits l
  | .many x => x.fit
  | .times x lo hi => x.fit ∧ lo ≤ 1000 ∧ hi ≤ 1000
def fits : List Sh → Prop
  | [] => True
  | x :: l => x.fit ∧ fits l
end
theorem fits_mem : ∀ {l : List Sh} {x : Sh}, fits l → x ∈ l → x.fit
  | y :: l, x, h, hx => by
    rcases List.mem_cons.mp hx with rfl | hx
    · exact h.1
    · exact fits_mem h.2 hx
def inn : Sh → List Sh
  | .one _ => []
  | .row l => l
  | .alt l => l
  | .many x => [x]
  | .times x _ _ => [x]
def R_inner (ds : List PyData) (Post : PyData → Prop) : Prop := ∃ s : Sh, ds = [shD s] ∧ Post (.tuple ((inn s).map shD))
def R_weight (n : Nat) (ds : List PyData) (Post : PyData → Prop) : Prop := ∃ s : Sh, ds = [shD s] ∧ s.dep ≤ n ∧ s.fit ∧ Post (nD s.wt)
section
variable {P : Program} {w : World} {K : PySem.W.Frag} {mg : Str → Option Value} {base : Heap} {C T : Addr}
theorem cl_vac {C : Addr} {x : Str} {st : Stmt} {N ps : List Str} {k : Nat} {R : List PyData → (PyData → Prop) → Prop} (D : Dn K mg x st) (S : FnScope N ps (defScope st)) (hb : BindsTo1 x x st ps) (hR : ∀ ds Post, ¬ R ds Post) : Cl P w K mg base (k + 1) x (PF R) := by
  obtain ⟨f, fd, F, hm⟩ := D.ex
  exact ⟨f, fd, ps, F.ok S (fun vs H Q E ⟨_, _, _, _, _, h, _⟩ => (hR _ _ h).elim) fun cdv A outer s H vs Q E hr ⟨_, _, _, _, _, h, _⟩ => (hR _ _ h).elim, hm, F.kp, F.binds hb⟩
theorem cl_vacO {C : Addr} {x : Str} {st : Stmt} {N ps : List Str} {k : Nat} {R : List Sl → (PyData → List Sl → Prop) → Prop} (D : Dn K mg x st) (S : FnScope N ps (defScope st)) (hb : BindsTo1 x x st ps) (hR : ∀ ds Post, ¬ R ds Post) : Cl P w K mg base (k + 1) x (PO C R) := by
  obtain ⟨f, fd, F, hm⟩ := D.ex
  exact ⟨f, fd, ps, F.ok S (fun vs H Q E ⟨_, _, _, _, _, _, _, h, _⟩ => (hR _ _ h).elim) fun cdv A outer s H vs Q E hr ⟨_, _, _, _, _, _, _, h, _⟩ => (hR _ _ h).elim, hm, F.kp, F.binds hb⟩
theorem mt_own {C : Addr} {x qual : Str} {st : Stmt} {N ps : List Str} {k : Nat} {R : List Sl → (PyData → List Sl → Prop) → Prop} (hc : Cls K C) (D : Md K C x qual st) (S : FnScope N ps (defScope st)) (hb : BindsTo1 x qual st ps) (len : ∀ env Post, R env Post → env.length = ps.length)
    (hbody : ∀ (f : Addr) (cdv : Value) (A : Around) (outer : List Env) (s : Shared) (H : Hp) (E : XK), Room k (A.deeper (envOfC qual (defScope st) s.heap.objs.size f cdv)) →
      ∃ t, PSs (cxOf CX0 P w K mg base N qual (defScope st) f cdv A outer s H E).nox (defBody st) t ∧ ∀ c env Post, c.C = C → R env Post → RS c t { nx := fun e => Post .none (Nr.proj ps.length e) ∧ sbo ps.length env e, rt := fun d e => Post d (Nr.proj ps.length e) ∧ sbo ps.length env e } (env ++ List.replicate (N.length - ps.length) .no)) : Mt P w K mg base (k + 1) C x (PO C R) := by
  obtain ⟨f, fd, M, F⟩ := D.ex
  exact ⟨f, fd, ps, hc, M, fn_own F S len (hbody f), F.binds hb⟩
theorem cl_inner (t : Tx K mg C T) : Cl P w K mg base 1 "inner" (PF R_inner) := by
  have sc : FnScope ["shape"] ["shape"] (defScope s_inner) := ⟨rfl, rfl, rfl, by decide +kernel, rfl, by decide +kernel, by decide +kernel⟩
  refine cl_pure (C := C) t.d_inner sc (fun _ _ _ _ _ _ us hl => match us, hl with | [_], _ => rfl) (fun ds Post h => ?_) fun f cdv A outer s H E hr => ⟨_,
    (pss_cons (ps_if (pt_cmpR op_eq (pe_ix ix_tup (pv 0) pe_int (fun _ _ => rfl)) pe_str (nomark _))
  (pss_one (ps_ret (pe_tup pa_nil)))
  pss_nil)
  (pss_cons (ps_if (pt_cmpR op_in_seq (pe_ix ix_tup (pv 0) pe_int (fun _ _ => rfl)) (pe_tup (pa_cons pe_str (pa_cons pe_str pa_nil))) (by with_unfolding_all rfl))
  (pss_one (ps_ret (pe_ix ix_tup (pv 0) pe_int (fun _ _ => rfl))))
  pss_nil)
  (pss_one (ps_ret (pe_tup (pa_cons (pe_ix ix_tup (pv 0) pe_int (fun _ _ => rfl)) pa_nil)))))), fun c ds Post hC h => ?_⟩
  · obtain ⟨_, rfl, _⟩ := h; rfl
  · obtain ⟨s, rfl, k⟩ := h
    cases s with
    | one τ => exact rs_seq (rs_ifT (eb_test (ev_is (ev_op (ev_op (ev_var rfl) ev_int (rv_ixT (ix_of (j := 0) rfl rfl))) ev_str rv_eqS) (by rfl))) (rs_ret (ev_tup ea_nil (by decide)) k))
    | row l =>
      have e : shsD l = (inn (.row l)).map shD := shsD_map l
      refine rs_seq (rs_ifF (eb_test (ev_is (ev_op (ev_op (ev_var rfl) ev_int (rv_ixT (ix_of (j := 0) rfl rfl))) ev_str rv_eqS) (by rfl))) (rs_next (rs_seq (rs_ifT (eb_test (ev_is (ev_op (ev_op (ev_var rfl) ev_int (rv_ixT (ix_of (j := 0) rfl rfl))) (ev_tup (ea_2 ev_str ev_str) (by show 2 ≤ 100000; decide)) (rv_inT (zs := ["row", "either"]))) (by rfl))) (rs_ret (ev_op (ev_var rfl) ev_int (rv_ixT (ix_of (j := 1) rfl rfl))) (by rw [e]; exact k))))))
    | alt l =>
      have e : shsD l = (inn (.alt l)).map shD := shsD_map l
      refine rs_seq (rs_ifF (eb_test (ev_is (ev_op (ev_op (ev_var rfl) ev_int (rv_ixT (ix_of (j := 0) rfl rfl))) ev_str rv_eqS) (by rfl))) (rs_next (rs_seq (rs_ifT (eb_test (ev_is (ev_op (ev_op (ev_var rfl) ev_int (rv_ixT (ix_of (j := 0) rfl rfl))) (ev_tup (ea_2 ev_str ev_str) (by show 2 ≤ 100000; decide)) (rv_inT (zs := ["row", "either"]))) (by rfl))) (rs_ret (ev_op (ev_var rfl) ev_int (rv_ixT (ix_of (j := 1) rfl rfl))) (by rw [e]; exact k))))))
    | many x => exact rs_seq (rs_ifF (eb_test (ev_is (ev_op (ev_op (ev_var rfl) ev_int (rv_ixT (ix_of (j := 0) rfl rfl))) ev_str rv_eqS) (by rfl))) (rs_next (rs_seq (rs_ifF (eb_test (ev_is (ev_op (ev_op (ev_var rfl) ev_int (rv_ixT (ix_of (j := 0) rfl rfl))) (ev_tup (ea_2 ev_str ev_str) (by show 2 ≤ 100000; decide)) (rv_inT (zs := ["row", "either"]))) (by rfl))) (rs_next (rs_ret (ev_tup (ea_1 (ev_op (ev_var rfl) ev_int (rv_ixT (ix_of (j := 1) rfl rfl)))) (by show 1 ≤ 100000; decide)) k))))))
    | times x lo hi => exact rs_seq (rs_ifF (eb_test (ev_is (ev_op (ev_op (ev_var rfl) ev_int (rv_ixT (ix_of (j := 0) rfl rfl))) ev_str rv_eqS) (by rfl))) (rs_next (rs_seq (rs_ifF (eb_test (ev_is (ev_op (ev_op (ev_var rfl) ev_int (rv_ixT (ix_of (j := 0) rfl rfl))) (ev_tup (ea_2 ev_str ev_str) (by show 2 ≤ 100000; decide)) (rv_inT (zs := ["row", "either"]))) (by rfl))) (rs_next (rs_ret (ev_tup (ea_1 (ev_op (ev_var rfl) ev_int (rv_ixT (ix_of (j := 1) rfl rfl)))) (by show 1 ≤ 100000; decide)) k))))))
theorem inn_fit {s : Sh} (h : s.fit) : (inn s).length ≤ 1000 ∧ ∀ x ∈ inn s, x.fit := by
  cases s with
  | one τ => exact ⟨by simp [inn], fun x hx => by simp [inn] at hx⟩
  | row l => exact ⟨h.1, fun x hx => fits_mem h.2 hx⟩
  | alt l => exact ⟨h.1, fun x hx => fits_mem h.2 hx⟩
  | many x => exact ⟨by simp [inn], fun y hy => by simp only [inn, List.mem_singleton] at hy; subst hy; exact h⟩
  | times x lo hi => exact ⟨by simp [inn], fun y hy => by simp only [inn, List.mem_singleton] at hy; subst hy; exact h.1⟩
theorem inn_dep {s : Sh} {n : Nat} (h : s.dep ≤ n + 1) : ∀ x ∈ inn s, x.dep ≤ n := by
  cases s with
  | one τ => exact fun x hx => by simp [inn] at hx
  | row l => exact fun x hx => by have := deps_le (show x ∈ l from hx); have h : deps l + 1 ≤ n + 1 := h; omega
  | alt l => exact fun x hx => by have := deps_le (show x ∈ l from hx); have h : deps l + 1 ≤ n + 1 := h; omega
  | many x => exact fun y hy => by simp only [inn, List.mem_singleton] at hy; subst hy; have h : y.dep + 1 ≤ n + 1 := h; omega
  | times x lo hi => exact fun y hy => by simp only [inn, List.mem_singleton] at hy; subst hy; have h : y.dep + 1 ≤ n + 1 := h; omega
theorem sum_nat : ∀ l : List Nat, (l.map fun n : Nat => (n : Int)).sum = ((l.sum : Nat) : Int)
  | [] => rfl
  | x :: l => by rw [List.map_cons, List.sum_cons, List.sum_cons, sum_nat l]; omega
theorem cl_weight (t : Tx K mg C T) : ∀ n, Cl P w K mg base (n + 1) "weight" (PF (R_weight n)) := by
  have sc : FnScope ["shape", "found", "part"] ["shape"] (defScope s_weight) := ⟨rfl, rfl, rfl, by decide +kernel, rfl, by decide +kernel, by decide +kernel⟩
  intro n
  induction n with
  | zero => exact cl_vac (C := C) t.d_weight sc (fun _ _ _ _ _ _ us hl => match us, hl with | [_], _ => rfl) fun ds Post ⟨s, _, h, _⟩ => by have := dep_pos s; omega
  | succ n ih =>
    have c_weight := ih
    have c_inner := cl_inner (P := P) (w := w) (base := base) t
    refine cl_pure (C := C) t.d_weight sc (fun _ _ _ _ _ _ us hl => match us, hl with | [_], _ => rfl) (fun ds Post h => ?_) fun f cdv A outer s H E hr => ⟨_,
      (pss_cons (ps_if (pt_cmpR op_eq (pe_ix ix_tup (pv 0) pe_int (fun _ _ => rfl)) pe_str (nomark _))
  (pss_one (ps_ret pe_int))
  pss_nil)
  (pss_cons (ps_set (i := 1) sc.nd rfl (Or.inl rfl) (pe_callB (cr_sum rfl) (by rfl) t.n_sum bt_sum (pa_cons (pe_lc (own := [("part", 2)]) (g := gName 2) rfl sc.nd (pi_tup (pe_cl c_inner hr (by omega) (by rfl) (pa_cons (pv 0) pa_nil))) (blkOk_by (N := ["shape", "found", "part"]) (sc := (defScope s_weight)) (own := [("part", 2)]) (by decide +kernel)) (fun _ _ _ _ _ => (pg_name (i := 2) sc.nd rfl (Or.inl rfl))) (fun _ _ _ _ _ => pts_nil) (fun _ _ _ _ _ => (pe_cl c_weight hr (by omega) (by rfl) (pa_cons (pv 2) pa_nil)))) pa_nil)))
  (pss_cons (ps_if (pt_cmpR op_eq (pe_ix ix_tup (pv 0) pe_int (fun _ _ => rfl)) pe_str (nomark _))
  (pss_one (ps_ret (pe_op op_mul (pe_ix ix_tup (pv 0) pe_int (fun _ _ => rfl)) (pv 1))))
  pss_nil)
  (pss_one (ps_ret (pv 1)))))), fun c ds Post hC h => ?_⟩
    · obtain ⟨_, rfl, _⟩ := h; rfl
    · obtain ⟨s, rfl, hd, hf, k⟩ := h
      have sumE : ∀ {c : Ct} {env : List Sl}, env[0]? = some (.im (shD s)) → (∀ e, env = e → env.length = 3) → EvE c (tCB (rSum K) (tCons (tLc (iTup K (tCall (PF R_inner) [] E0 (tCons (tVar 0) tNil))) (gName 2) tYes (tCall (PF (R_weight n)) [] E0 (tCons (tVar 2) tNil)) [2]) tNil)) env (nD (wts (inn s))) := fun {c env} h0 hl => by
        have hl := hl _ rfl
        refine ev_is (ev_cb (ea_1 (ev_is (ev_compG (l := inn s) (g0 := shD) (js := [2]) (ei_tup (ev_call (ea_1 (ev_var h0)) ⟨s, rfl, rfl⟩)) (fun x => nD x.wt) (by have := (inn_fit hf).1; omega) (by decide) fun x hx => ⟨_, eg_name, ev_call (ea_1 (ev_var ?_)) ⟨x, rfl, inn_dep hd x hx, (inn_fit hf).2 x hx, rfl⟩⟩) ?_)) (rc_sum (ns := ((inn s).map Sh.wt).map fun n : Nat => (n : Int)))) ?_
        · show (((env.set 2 Sl.no)).set 2 _)[2]? = _
          rw [List.getElem?_set_self (by rw [List.length_set]; omega)]
        · rw [List.map_map, List.map_map]; rfl
        · rw [sum_nat, ← wts_map]
      cases s with
      | one τ => exact rs_seq (rs_ifT (eb_test (ev_is (ev_op (ev_op (ev_var rfl) ev_int (rv_ixT (ix_of (j := 0) rfl rfl))) ev_str rv_eqS) (by rfl))) (rs_ret ev_int k))
      | row l => exact rs_seq (rs_ifF (eb_test (ev_is (ev_op (ev_op (ev_var rfl) ev_int (rv_ixT (ix_of (j := 0) rfl rfl))) ev_str rv_eqS) (by rfl))) (rs_next (rs_seq (rs_asg (sumE rfl fun _ _ => rfl) (rs_seq (rs_ifF (eb_test (ev_is (ev_op (ev_op (ev_var rfl) ev_int (rv_ixT (ix_of (j := 0) rfl rfl))) ev_str rv_eqS) (by rfl))) (rs_next (rs_ret (ev_var rfl) k))))))))
      | alt l => exact rs_seq (rs_ifF (eb_test (ev_is (ev_op (ev_op (ev_var rfl) ev_int (rv_ixT (ix_of (j := 0) rfl rfl))) ev_str rv_eqS) (by rfl))) (rs_next (rs_seq (rs_asg (sumE rfl fun _ _ => rfl) (rs_seq (rs_ifF (eb_test (ev_is (ev_op (ev_op (ev_var rfl) ev_int (rv_ixT (ix_of (j := 0) rfl rfl))) ev_str rv_eqS) (by rfl))) (rs_next (rs_ret (ev_var rfl) k))))))))
      | many x =>
        refine rs_seq (rs_ifF (eb_test (ev_is (ev_op (ev_op (ev_var rfl) ev_int (rv_ixT (ix_of (j := 0) rfl rfl))) ev_str rv_eqS) (by rfl))) (rs_next (rs_seq (rs_asg (sumE rfl fun _ _ => rfl) (rs_seq (rs_ifF (eb_test (ev_is (ev_op (ev_op (ev_var rfl) ev_int (rv_ixT (ix_of (j := 0) rfl rfl))) ev_str rv_eqS) (by rfl))) (rs_next (rs_ret (ev_var rfl) ?_))))))))
        have e : wts (inn (.many x)) = (Sh.many x).wt := by show x.wt + 0 = x.wt; omega
        rw [← e] at k; exact k
      | times x lo hi =>
        refine rs_seq (rs_ifF (eb_test (ev_is (ev_op (ev_op (ev_var rfl) ev_int (rv_ixT (ix_of (j := 0) rfl rfl))) ev_str rv_eqS) (by rfl))) (rs_next (rs_seq (rs_asg (sumE rfl fun _ _ => rfl) (rs_seq (rs_ifT (eb_test (ev_is (ev_op (ev_op (ev_var rfl) ev_int (rv_ixT (ix_of (j := 0) rfl rfl))) ev_str rv_eqS) (by rfl))) (rs_ret (ev_op (ev_op (ev_var rfl) ev_int (rv_ixT (d := nD hi) (ix_of (j := 3) rfl rfl))) (ev_var rfl) (rv_Ii (C := CMul) (g := fun i j => i * j) (Or.inl (by have := hf.2.2; constructor <;> omega)))) ?_)))))))
        have e : (((hi : Int)) * ((wts (inn (.times x lo hi)) : Nat) : Int)) = (((Sh.times x lo hi).wt : Nat) : Int) := by
          show ((hi : Int)) * (((x.wt + 0 : Nat)) : Int) = ((hi * x.wt : Nat) : Int)
          rw [Nat.add_zero]; exact (Int.natCast_mul hi x.wt).symm
        show Post (.int _)
        rw [e]; exact k
end
end Nr
set_option Elab.async false
set_option linter.all false
set_option maxRecDepth 100000
set_option maxHeartbeats 4000000
set_option pp.maxSteps 700
namespace Nr
open PySem PySem.Spec PyProof.Rows L2
/-! ### plans -/
structure Pln where
  m : List (List Nat)
  n : List (List Nat)
abbrev inR (r : List Nat) : List Int := r.map fun x : Nat => (x : Int)
abbrev plO (p : Pln) : Ow := .pl (p.m.map fun τ => (⟨τ.toArray⟩ : Str)) (p.n.map inR)
def layP (p : Pln) (τ : List Nat) : Pln := ⟨p.m ++ [τ], p.n ++ [[]]⟩
def lnk1 (n : List (List Nat)) (p o : Nat) : List (List Nat) := if o ∈ n.getD p [] then n else n.set p (n.getD p [] ++ [o])
def lnkO (n : List (List Nat)) (p : Nat) (os : List Nat) : List (List Nat) := os.foldl (fun n o => lnk1 n p o) n
def lnkM (n : List (List Nat)) (ps os : List Nat) : List (List Nat) := ps.foldl (fun n p => lnkO n p os) n
structure RowsOk (k : Nat) (n : List (List Nat)) : Prop where
  len : n.length = k
  r : ∀ r ∈ n, r.Nodup ∧ ∀ x ∈ r, 1 ≤ x ∧ x < k
structure Pln.Ok (p : Pln) : Prop where
  pos : 1 ≤ p.m.length
  le : p.m.length ≤ 100
  ok : RowsOk p.m.length p.n
theorem RowsOk.get {k : Nat} {n : List (List Nat)} (ok : RowsOk k n) {p : Nat} (hp : p < k) : n[p]? = some (n.getD p []) ∧ (n.getD p []).Nodup ∧ (∀ x ∈ n.getD p [], 1 ≤ x ∧ x < k) ∧ (n.getD p []).length ≤ k := by
  have e : n[p]? = some (n.getD p []) := by rw [List.getD_eq_getElem?_getD, List.getElem?_eq_getElem (by rw [ok.len]; exact hp)]; rfl
  obtain ⟨h1, h2⟩ := ok.r _ (List.mem_of_getElem? e)
  exact ⟨e, h1, h2, nodup_le k _ h1 fun x hx => (h2 x hx).2⟩
theorem RowsOk.lnk1 {k : Nat} {n : List (List Nat)} (ok : RowsOk k n) {p o : Nat} (hp : p < k) (ho : 1 ≤ o ∧ o < k) : RowsOk k (lnk1 n p o) := by
  unfold Nr.lnk1
  split
  · exact ok
  · rename_i q
    obtain ⟨e, h1, h2, _⟩ := ok.get hp
    refine ⟨by rw [List.length_set]; exact ok.len, fun r hr => ?_⟩
    rcases mem_set hr with rfl | hr
    · refine ⟨?_, fun x hx => ?_⟩
      · rw [List.nodup_append]
        exact ⟨h1, by simp, fun a ha b hb => by simp at hb; subst hb; exact fun z => q (by rw [← z]; exact ha)⟩
      · rcases List.mem_append.mp hx with hx | hx
        · exact h2 x hx
        · simp only [List.mem_singleton] at hx; subst hx; exact ho
    · exact ok.r r hr
theorem RowsOk.lnkO {k p : Nat} (hp : p < k) : ∀ {os : List Nat} {n : List (List Nat)}, RowsOk k n → (∀ o ∈ os, 1 ≤ o ∧ o < k) → RowsOk k (lnkO n p os)
  | [], _, ok, _ => ok
  | o :: os, _, ok, h => RowsOk.lnkO hp (os := os) (ok.lnk1 hp (h o List.mem_cons_self)) fun x hx => h x (List.mem_cons_of_mem _ hx)
theorem RowsOk.lnkM {k : Nat} {os : List Nat} (ho : ∀ o ∈ os, 1 ≤ o ∧ o < k) : ∀ {ps : List Nat} {n : List (List Nat)}, RowsOk k n → (∀ p ∈ ps, p < k) → RowsOk k (lnkM n ps os)
  | [], _, ok, _ => ok
  | p :: ps, _, ok, h => RowsOk.lnkM ho (ps := ps) (RowsOk.lnkO (h p List.mem_cons_self) ok ho) fun x hx => h x (List.mem_cons_of_mem _ hx)
structure Tri where
  f : List Nat
  l : List Nat
  e : Bool
def triD (t : Tri) : PyData := .tuple [lwD t.f, lwD t.l, .bool t.e]
def turnT (a b : Tri) : Tri := ⟨if a.e then a.f ++ b.f else a.f, if b.e then a.l ++ b.l else b.l, a.e && b.e⟩
def R_lay (env : List Sl) (Post : PyData → List Sl → Prop) : Prop := ∃ p P τ, env = [.bo p (plO P), .im (sD τ)] ∧ P.m.length ≤ 500 ∧ P.n.length ≤ 500 ∧ Post (nD P.m.length) [.bo p (plO (layP P τ)), .no]
def R_link (env : List Sl) (Post : PyData → List Sl → Prop) : Prop := ∃ p P ps os, env = [.bo p (plO P), .im (lwD ps), .im (lwD os)] ∧ Pln.Ok P ∧ (∀ x ∈ ps, x < P.m.length) ∧ (∀ x ∈ os, 1 ≤ x ∧ x < P.m.length) ∧ Post .none [.bo p (plO ⟨P.m, lnkM P.n ps os⟩), .no, .no]
def R_turn (env : List Sl) (Post : PyData → List Sl → Prop) : Prop := ∃ p P a b, env = [.bo p (plO P), .im (triD a), .im (triD b)] ∧ Pln.Ok P ∧ (∀ x ∈ a.l, x < P.m.length) ∧ (∀ x ∈ b.f, 1 ≤ x ∧ x < P.m.length) ∧ a.f.length ≤ 9000 ∧ a.l.length ≤ 9000 ∧ b.f.length ≤ 9000 ∧ b.l.length ≤ 9000 ∧ Post (triD (turnT a b)) [.bo p (plO ⟨P.m, lnkM P.n a.l b.f⟩), .no, .no]
section
variable {P : Program} {w : World} {K : PySem.W.Frag} {mg : Str → Option Value} {base : Heap} {C T : Addr}
theorem m_lay (t : Tx K mg C T) : Mt P w K mg base 1 C "lay" (PO C R_lay) := by
  have sc : FnScope ["self", "signs"] ["self", "signs"] (defScope s_P_lay) := ⟨rfl, rfl, rfl, by decide +kernel, rfl, by decide +kernel, by decide +kernel⟩
  refine mt_own t.cl t.d_lay sc (fun _ _ _ _ _ _ us hl => match us, hl with | [_, _], _ => rfl) (fun env Post h => ?_) fun f cdv A outer s H E hr => ⟨_,
    (pss_cons (ps_expr (pe_bm PySem.F.plainAttrs_list PySem.F.slot_list_append PySem.F.type_list_append mt_append (pe_fld (pv 0) rfl) (pa_cons (pv 1) pa_nil)))
  (pss_cons (ps_expr (pe_bm PySem.F.plainAttrs_list PySem.F.slot_list_append PySem.F.type_list_append mt_append (pe_fld (pv 0) rfl) (pa_cons (pe_lst pa_nil) pa_nil)))
  (pss_one (ps_ret (pe_op op_sub (pe_callB call_len_seq (by rfl) t.n_len bt_len (pa_cons (pe_fld (pv 0) rfl) pa_nil)) pe_int))))), fun c env Post hC h => ?_⟩
  · obtain ⟨_, _, _, rfl, _⟩ := h; rfl
  · obtain ⟨p, P, τ, rfl, h1, h2, k⟩ := h
    have cl : Cls K c.C := hC ▸ t.cl
    have nM : NoAttr K c.C "marks" := hC ▸ t.nM
    have nN : NoAttr K c.C "nexts" := hC ▸ t.nN
    refine rs_seq (rs_layM cl nM rfl rfl (ev_var rfl) (by rw [List.length_map]; omega) (rs_seq (rs_layN cl nN rfl rfl (by rw [List.length_map]; omega) (rs_ret (d := nD P.m.length) (ev_is (ev_op (ev_lenM cl nM rfl rfl) ev_int rv_sub) ?_) ?_))))
    · rw [List.length_append, List.length_map]
      show PyData.int _ = PyData.int _
      congr 1
      simp
    · refine ⟨?_, ⟨_, rfl⟩, trivial⟩
      have e : plO (layP P τ) = .pl ((P.m.map fun τ => (⟨τ.toArray⟩ : Str)) ++ [⟨τ.toArray⟩]) ((P.n.map inR) ++ [[]]) := by
        unfold layP plO
        rw [List.map_append, List.map_append]
        rfl
      rw [e] at k
      exact k
theorem m_link (t : Tx K mg C T) : Mt P w K mg base 1 C "link" (PO C R_link) := by
  have sc : FnScope ["self", "places", "others", "place", "other"] ["self", "places", "others"] (defScope s_P_link) := ⟨rfl, rfl, rfl, by decide +kernel, rfl, by decide +kernel, by decide +kernel⟩
  refine mt_own t.cl t.d_link sc (fun _ _ _ _ _ _ us hl => match us, hl with | [_, _, _], _ => rfl) (fun env Post h => ?_) fun f cdv A outer s H E hr => ⟨_,
    (pss_one (ps_for PassesOwn.never rfl (pi_list (pv 1)) (pg_name (i := 3) sc.nd rfl (Or.inl rfl))
  (pss_one (ps_for PassesOwn.never rfl (pi_list (pv 2)) (pg_name (i := 4) sc.nd rfl (Or.inl rfl))
  (pss_one (ps_if (pt_cmpR op_notIn_seq (pv 4) (pe_ix ix_list (pe_fld (pv 0) rfl) (pv 3) (fun _ _ => rfl)) (by with_unfolding_all rfl))
  (pss_one (ps_expr (pe_bm PySem.F.plainAttrs_list PySem.F.slot_list_append PySem.F.type_list_append mt_append (pe_ix ix_list (pe_fld (pv 0) rfl) (pv 3) (fun _ _ => rfl)) (pa_cons (pv 4) pa_nil))))
  pss_nil)))))), fun c env Post hC h => ?_⟩
  · obtain ⟨_, _, _, _, rfl, _⟩ := h; rfl
  · obtain ⟨p, P, ps, os, rfl, ok, hps, hos, k⟩ := h
    have cl : Cls K c.C := hC ▸ t.cl
    have nN : NoAttr K c.C "nexts" := hC ▸ t.nN
    have hle := ok.le
    refine rs_for (ds := nsD ps) (ei_list (ev_var rfl)) (fun i env => ∃ n x y, env = [.bo p (plO ⟨P.m, n⟩), .im (lwD ps), .im (lwD os), x, y] ∧ n = (ps.take i).foldl (fun n p => lnkO n p os) P.n ∧ RowsOk P.m.length n) ⟨P.n, _, _, rfl, rfl, ok.ok⟩ ?hs ?hd
    case hs =>
      rintro i d _ hi ⟨n, x, y, rfl, hn, okn⟩
      obtain ⟨pl, hpl, rfl⟩ := get_map hi
      have hpk := hps pl (List.mem_of_getElem? hpl)
      refine ⟨_, _, eg_name, rs_for (ds := nsD os) (ei_list (ev_var rfl)) (fun j env => ∃ n' y, env = [.bo p (plO ⟨P.m, n'⟩), .im (lwD ps), .im (lwD os), .im (nD pl), y] ∧ n' = (os.take j).foldl (fun n o => lnk1 n pl o) n ∧ RowsOk P.m.length n') ⟨n, _, rfl, rfl, okn⟩ ?hs2 ?hd2⟩
      case hs2 =>
        rintro j d _ hj ⟨n', y, rfl, hn', okn'⟩
        obtain ⟨o, ho, rfl⟩ := get_map hj
        have hok := hos o (List.mem_of_getElem? ho)
        obtain ⟨e1, e2, e3, e4⟩ := okn'.get hpk
        have erow : (n'.map inR)[pl]? = some (inR (n'.getD pl [])) := by rw [List.getElem?_map, e1]; rfl
        have enext : (os.take (j + 1)).foldl (fun n o => lnk1 n pl o) n = lnk1 n' pl o := by rw [take_one ho, List.foldl_append, ← hn']; rfl
        have emem : decide (((o : Nat) : Int) ∈ inR (n'.getD pl [])) = decide (o ∈ n'.getD pl []) := by
          congr 1
          rw [List.mem_map]
          refine propext ⟨?_, fun h => ⟨o, h, rfl⟩⟩
          rintro ⟨z, hz, e⟩
          rw [← show z = o by omega]; exact hz
        refine ⟨_, _, eg_name, rs_if (eb_test (ev_notinP cl nN (i := 0) rfl rfl (ev_var rfl) (ev_var rfl) rfl erow)) (fun h => ?_) (fun h => ?_)⟩
        · rw [emem] at h
          have hnin : o ∉ n'.getD pl [] := by simpa using h
          refine rs_linkP cl nN (i := 0) rfl rfl (ev_var rfl) (ev_var rfl) rfl erow (by rw [List.length_map]; omega) ⟨n'.set pl (n'.getD pl [] ++ [o]), .im (nD o), ?_, ?_, ?_⟩
          · show [Sl.bo p (.pl _ ((n'.map inR).set pl (inR (n'.getD pl []) ++ [((o : Nat) : Int)]))), _, _, _, _] = [Sl.bo p (.pl _ ((n'.set pl (n'.getD pl [] ++ [o])).map inR)), _, _, _, _]
            rw [List.map_set, show inR (n'.getD pl [] ++ [o]) = inR (n'.getD pl []) ++ [((o : Nat) : Int)] from List.map_append]
          · rw [enext]; exact (if_neg hnin).symm
          · have := okn'.lnk1 hpk hok
            unfold lnk1 at this
            rw [if_neg hnin] at this
            exact this
        · rw [emem] at h
          have hin : o ∈ n'.getD pl [] := by simpa using h
          exact rs_next ⟨n', .im (nD o), rfl, by rw [enext]; exact (if_pos hin).symm, okn'⟩
      case hd2 =>
        rintro _ ⟨n', y, rfl, hn', okn'⟩
        rw [List.length_map, List.take_length] at hn'
        refine ⟨n', .im (nD pl), y, rfl, ?_, okn'⟩
        rw [take_one hpl, List.foldl_append, ← hn]
        exact hn'
    case hd =>
      rintro _ ⟨n, x, y, rfl, hn, okn⟩
      rw [List.length_map, List.take_length] at hn
      refine ⟨?_, ⟨_, rfl⟩, trivial⟩
      have e : n = lnkM P.n ps os := hn
      rw [e]
      exact k
theorem cl_in_turn (t : Tx K mg C T) : Cl P w K mg base 2 "in_turn" (PO C R_turn) := by
  have sc : FnScope ["plan", "ends", "more", "firsts", "lasts", "empty", "later", "closing", "vacant"] ["plan", "ends", "more"] (defScope s_in_turn) := ⟨rfl, rfl, rfl, by decide +kernel, rfl, by decide +kernel, by decide +kernel⟩
  have m_link := m_link (P := P) (w := w) (base := base) t
  refine cl_own t.d_in_turn sc (fun _ _ _ _ _ _ us hl => match us, hl with | [_, _, _], _ => rfl) (fun env Post h => ?_) fun f cdv A outer s H E hr => ⟨_,
    (pss_cons (ps_asg (pv 1) (pg_tup rfl (pgs_cons (pg_name (i := 3) sc.nd rfl (Or.inl rfl)) (pgs_cons (pg_name (i := 4) sc.nd rfl (Or.inl rfl)) (pgs_cons (pg_name (i := 5) sc.nd rfl (Or.inl rfl)) pgs_nil)))))
  (pss_cons (ps_asg (pv 2) (pg_tup rfl (pgs_cons (pg_name (i := 6) sc.nd rfl (Or.inl rfl)) (pgs_cons (pg_name (i := 7) sc.nd rfl (Or.inl rfl)) (pgs_cons (pg_name (i := 8) sc.nd rfl (Or.inl rfl)) pgs_nil)))))
  (pss_cons (ps_expr (pe_mtC m_link hr (by omega) (pv 0) (pa_cons (pv 4) (pa_cons (pv 6) pa_nil))))
  (pss_cons (ps_if (pt_truth (pv 5) (fun _ => rfl))
  (pss_one (ps_set (i := 3) sc.nd rfl (Or.inl rfl) (pe_op op_cat (pv 3) (pv 6))))
  pss_nil)
  (pss_cons (ps_if (pt_truth (pv 8) (fun _ => rfl))
  (pss_one (ps_set (i := 7) sc.nd rfl (Or.inl rfl) (pe_op op_cat (pv 4) (pv 7))))
  pss_nil)
  (pss_one (ps_ret (pe_tup (pa_cons (pv 3) (pa_cons (pv 7) (pa_cons (pe_and (pv 5) (pe_one (pv 8))) pa_nil))))))))))), fun c env Post hC h => ?_⟩
  · obtain ⟨_, _, _, _, rfl, _⟩ := h; rfl
  · obtain ⟨p, P, a, b, rfl, ok, ha, hb, l1, l2, l3, l4, k⟩ := h
    refine rs_seq (rs_asgG (ev_var rfl) (eg_tup (egs_cons eg_name (egs_cons eg_name (egs_cons eg_name egs_nil))) rfl) (rs_seq (rs_asgG (ev_var rfl) (eg_tup (egs_cons eg_name (egs_cons eg_name (egs_cons eg_name egs_nil))) rfl) (rs_seq (rs_dropR (re_meth1 hC.symm (by decide) rfl rfl (ra_ev (ea_2 (ev_var (d := lwD a.l) rfl) (ev_var (d := lwD b.f) rfl)) ⟨_, _, rfl, rfl, fun q => ⟨q, P, a.l, b.f, rfl, ok, ha, hb, _, _, rfl, ?_⟩⟩)))))))
    have fin : ∀ f l : List Nat, f = (turnT a b).f → l = (turnT a b).l → RS c (tRet (tTup (tCons (tVar 3) (tCons (tVar 7) (tCons (tAndV (tVar 5) (tVar 8)) tNil))))) { nx := fun e => Post .none (Nr.proj 3 e) ∧ sbo 3 [.bo p (plO P), .im (triD a), .im (triD b)] e, rt := fun d e => Post d (Nr.proj 3 e) ∧ sbo 3 [.bo p (plO P), .im (triD a), .im (triD b)] e } [.bo p (plO ⟨P.m, lnkM P.n a.l b.f⟩), .im (triD a), .im (triD b), .im (lwD f), .im (lwD a.l), .im (.bool a.e), .im (lwD b.f), .im (lwD l), .im (.bool b.e)] := fun f l ef el => by
      subst ef el
      exact rs_ret (ev_tup (ea_cons (ev_var rfl) (ea_2 (ev_var rfl) (ev_andV (ev_var rfl) fun _ => ev_var rfl))) (by show 3 ≤ 100000; decide)) ⟨k, ⟨_, rfl⟩, trivial⟩
    have mid : ∀ f : List Nat, f = (turnT a b).f → RS c (tSeq (tIfS (fun σ H Q => tVar 8 σ H fun x H' => ∃ k, TruV K x H' k ∧ Q k H') (tAsg (tOp rCat (tVar 4) (tVar 7)) (gName 7)) tNext) (tRet (tTup (tCons (tVar 3) (tCons (tVar 7) (tCons (tAndV (tVar 5) (tVar 8)) tNil)))))) { nx := fun e => Post .none (Nr.proj 3 e) ∧ sbo 3 [.bo p (plO P), .im (triD a), .im (triD b)] e, rt := fun d e => Post d (Nr.proj 3 e) ∧ sbo 3 [.bo p (plO P), .im (triD a), .im (triD b)] e } [.bo p (plO ⟨P.m, lnkM P.n a.l b.f⟩), .im (triD a), .im (triD b), .im (lwD f), .im (lwD a.l), .im (.bool a.e), .im (lwD b.f), .im (lwD b.l), .im (.bool b.e)] := fun f ef => by
      refine rs_seq (rs_if (eb_tru (ev_var rfl)) (fun h => rs_asg (ev_op (ev_var rfl) (ev_var rfl) (rv_cat (by rw [List.length_map, List.length_map]; omega))) ?_) (fun h => rs_next ?_))
      · have e := fin f (a.l ++ b.l) ef (by unfold turnT; rw [h]; rfl)
        rw [show lwD (a.l ++ b.l) = .list (nsD a.l ++ nsD b.l) from congrArg PyData.list (nsD_app _ _)] at e
        exact e
      · exact fin f b.l ef (by unfold turnT; rw [h]; rfl)
    refine rs_seq (rs_if (eb_tru (ev_var rfl)) (fun h => rs_asg (ev_op (ev_var rfl) (ev_var rfl) (rv_cat (by rw [List.length_map, List.length_map]; omega))) ?_) (fun h => rs_next ?_))
    · have e := mid (a.f ++ b.f) (by unfold turnT; rw [h]; rfl)
      rw [show lwD (a.f ++ b.f) = .list (nsD a.f ++ nsD b.f) from congrArg PyData.list (nsD_app _ _)] at e
      exact e
    · exact mid a.f (by unfold turnT; rw [h]; rfl)
end
end Nr
set_option Elab.async false
set_option linter.all false
set_option maxRecDepth 100000
set_option maxHeartbeats 4000000
set_option pp.maxSteps 700
namespace Nr
open PySem PySem.Spec PyProof.Rows L2
/-! ### laid -/
def rowStep (s r : Tri × Pln) : Tri × Pln := (turnT s.1 r.1, ⟨r.2.m, lnkM r.2.n s.1.l r.1.f⟩)
def altStep (s r : Tri × Pln) : Tri × Pln := (⟨s.1.f ++ r.1.f, s.1.l ++ r.1.l, s.1.e || r.1.e⟩, r.2)
structure TSt where
  s : Tri × Pln
  c : List Nat
  e : Bool
def timesStep (lo : Nat) (st : TSt) (count : Nat) (r : Tri × Pln) : TSt :=
  if lo ≤ count then ⟨rowStep st.s r, st.c ++ (rowStep st.s r).1.l, st.e || (rowStep st.s r).1.e⟩ else ⟨rowStep st.s r, st.c, st.e⟩
def timesM (f : Pln → Tri × Pln) (lo : Nat) (P : Pln) : Nat → TSt
  | 0 => ⟨(⟨[], [], true⟩, P), [], decide (lo = 0)⟩
  | k + 1 => timesStep lo (timesM f lo P k) (k + 1) (f (timesM f lo P k).s.2)
def timesR (st : TSt) : Tri × Pln := (⟨st.s.1.f, st.c, st.e⟩, st.s.2)
def manyR (r : Tri × Pln) : Tri × Pln := (⟨r.1.f, r.1.l, true⟩, ⟨r.2.m, lnkM r.2.n r.1.l r.1.f⟩)
mutual
def laidM : Sh → Pln → Tri × Pln
  | .one τ, P => (⟨[P.m.length], [P.m.length], false⟩, layP P τ)
  | .row l, P => rowM l (⟨[], [], true⟩, P)
  | .alt l, P => altM l (⟨[], [], false⟩, P)
  | .many x, P => manyR (laidM x P)
  | .times x lo hi, P => timesR (timesM (fun Q => laidM x Q) lo P hi)
def rowM : List Sh → Tri × Pln → Tri × Pln
  | [], s => s
  | x :: l, s => rowM l (rowStep s (laidM x s.2))
def altM : List Sh → Tri × Pln → Tri × Pln
  | [], s => s
  | x :: l, s => altM l (altStep s (laidM x s.2))
end
theorem rowM_snoc : ∀ (l : List Sh) (x : Sh) (s : Tri × Pln), rowM (l ++ [x]) s = rowStep (rowM l s) (laidM x (rowM l s).2)
  | [], x, s => by simp only [List.nil_append, rowM]
  | y :: l, x, s => by simp only [List.cons_append, rowM]; exact rowM_snoc l x _
theorem altM_snoc : ∀ (l : List Sh) (x : Sh) (s : Tri × Pln), altM (l ++ [x]) s = altStep (altM l s) (laidM x (altM l s).2)
  | [], x, s => by simp only [List.nil_append, altM]
  | y :: l, x, s => by simp only [List.cons_append, altM]; exact altM_snoc l x _
structure LaidOk (P : Pln) (w : Nat) (r : Tri × Pln) : Prop where
  ok : r.2.Ok
  len : r.2.m.length = P.m.length + w
  f : ∀ v ∈ r.1.f, P.m.length ≤ v ∧ v < r.2.m.length
  l : ∀ v ∈ r.1.l, P.m.length ≤ v ∧ v < r.2.m.length
  fl : 2 * r.1.f.length ≤ w * (w + 1)
  ll : 2 * r.1.l.length ≤ w * (w + 1)
theorem sq_add (a b : Nat) : a * (a + 1) + b * (b + 1) ≤ (a + b) * (a + b + 1) := by
  have e : (a + b) * (a + b + 1) = a * (a + 1) + b * (b + 1) + (a * b + b * a) := by
    simp only [Nat.add_mul, Nat.mul_add, Nat.mul_one]; omega
  omega
theorem LaidOk.more {P : Pln} {w0 w1 : Nat} {s r : Tri × Pln} (hs : LaidOk P w0 s) (hr : LaidOk s.2 w1 r) : LaidOk P (w0 + w1) (rowStep s r) := by
  have l1 := hs.len
  have l2 := hr.len
  have pos := hs.ok.pos
  have sq := sq_add w0 w1
  have a1 := hs.fl
  have a2 := hs.ll
  have b1 := hr.fl
  have b2 := hr.ll
  refine ⟨⟨hr.ok.pos, hr.ok.le, RowsOk.lnkM (fun o ho => ?_) hr.ok.ok fun p hp => ?_⟩, by show r.2.m.length = _; omega, fun v hv => ?_, fun v hv => ?_, ?_, ?_⟩
  · have := hr.f o ho
    exact ⟨by omega, this.2⟩
  · show p < r.2.m.length
    have := hs.l p hp
    omega
  · show P.m.length ≤ v ∧ v < r.2.m.length
    have hv : v ∈ (if s.1.e then s.1.f ++ r.1.f else s.1.f) := hv
    split at hv
    · rcases List.mem_append.mp hv with h | h
      · have := hs.f v h; omega
      · have := hr.f v h; omega
    · have := hs.f v hv; omega
  · show P.m.length ≤ v ∧ v < r.2.m.length
    have hv : v ∈ (if r.1.e then s.1.l ++ r.1.l else r.1.l) := hv
    split at hv
    · rcases List.mem_append.mp hv with h | h
      · have := hs.l v h; omega
      · have := hr.l v h; omega
    · have := hr.l v hv; omega
  · show 2 * (if s.1.e then s.1.f ++ r.1.f else s.1.f).length ≤ _
    split
    · rw [List.length_append]; omega
    · omega
  · show 2 * (if r.1.e then s.1.l ++ r.1.l else r.1.l).length ≤ _
    split
    · rw [List.length_append]; omega
    · omega
theorem LaidOk.alt {P : Pln} {w0 w1 : Nat} {s r : Tri × Pln} (hs : LaidOk P w0 s) (hr : LaidOk s.2 w1 r) : LaidOk P (w0 + w1) (altStep s r) := by
  have l1 := hs.len
  have l2 := hr.len
  have sq := sq_add w0 w1
  have a1 := hs.fl
  have a2 := hs.ll
  have b1 := hr.fl
  have b2 := hr.ll
  refine ⟨hr.ok, by show r.2.m.length = _; omega, fun v hv => ?_, fun v hv => ?_, ?_, ?_⟩
  · show P.m.length ≤ v ∧ v < r.2.m.length
    rcases List.mem_append.mp hv with h | h
    · have := hs.f v h; omega
    · have := hr.f v h; omega
  · show P.m.length ≤ v ∧ v < r.2.m.length
    rcases List.mem_append.mp hv with h | h
    · have := hs.l v h; omega
    · have := hr.l v h; omega
  · show 2 * (s.1.f ++ r.1.f).length ≤ _
    rw [List.length_append]; omega
  · show 2 * (s.1.l ++ r.1.l).length ≤ _
    rw [List.length_append]; omega
theorem LaidOk.nil {P : Pln} (h : P.Ok) (e : Bool) : LaidOk P 0 (⟨[], [], e⟩, P) := ⟨h, by simp, fun v hv => by simp at hv, fun v hv => by simp at hv, by simp, by simp⟩
theorem Pln.Ok.lay {P : Pln} (h : P.Ok) (τ : List Nat) (hl : P.m.length + 1 ≤ 100) : (layP P τ).Ok := by
  refine ⟨by simp [layP], by simp [layP]; omega, by simp [layP, h.ok.len], fun r hr => ?_⟩
  rcases List.mem_append.mp hr with hr | hr
  · obtain ⟨h1, h2⟩ := h.ok.r r hr
    exact ⟨h1, fun x hx => by have := h2 x hx; simp [layP]; omega⟩
  · simp only [List.mem_singleton] at hr; subst hr; simp
theorem times_sq (h w : Nat) : h * (h + 1) * (w * (w + 1)) ≤ 2 * ((h * w) * (h * w + 1)) := by
  cases h with
  | zero => simp
  | succ h =>
    cases w with
    | zero => simp
    | succ w =>
      have e1 : (h + 1) * (h + 1 + 1) * ((w + 1) * (w + 1 + 1)) = ((h + 1) * (w + 1)) * ((h + 2) * (w + 2)) := by
        rw [Nat.mul_mul_mul_comm]
      have e2 : 2 * (((h + 1) * (w + 1)) * ((h + 1) * (w + 1) + 1)) = ((h + 1) * (w + 1)) * (2 * ((h + 1) * (w + 1) + 1)) := by
        rw [← Nat.mul_assoc, Nat.mul_comm 2, Nat.mul_assoc]
      rw [e1, e2]
      refine Nat.mul_le_mul_left _ ?_
      simp only [Nat.add_mul, Nat.mul_add]
      omega
structure TimesOk (P : Pln) (w k : Nat) (st : TSt) : Prop where
  ok : st.s.2.Ok
  len : st.s.2.m.length = P.m.length + k * w
  f : ∀ v ∈ st.s.1.f, P.m.length ≤ v ∧ v < st.s.2.m.length
  l : ∀ v ∈ st.s.1.l, P.m.length ≤ v ∧ v < st.s.2.m.length
  c : ∀ v ∈ st.c, P.m.length ≤ v ∧ v < st.s.2.m.length
  fl : 2 * st.s.1.f.length ≤ k * (w * (w + 1))
  ll : 2 * st.s.1.l.length ≤ k * (w * (w + 1))
  cl : 4 * st.c.length ≤ k * (k + 1) * (w * (w + 1))
theorem times_ok {f : Pln → Tri × Pln} {w lo : Nat} {P : Pln} (hf : ∀ Q : Pln, Q.Ok → Q.m.length + w ≤ 100 → LaidOk Q w (f Q)) (hP : P.Ok) : ∀ k, P.m.length + k * w ≤ 100 → TimesOk P w k (timesM f lo P k) := by
  intro k
  induction k with
  | zero => intro _; exact ⟨hP, by simp [timesM], fun v hv => by simp [timesM] at hv, fun v hv => by simp [timesM] at hv, fun v hv => by simp [timesM] at hv, by simp [timesM], by simp [timesM], by simp [timesM]⟩
  | succ k ih =>
    intro hl
    rw [Nat.succ_mul] at hl
    have h := ih (by omega)
    have hr := hf (timesM f lo P k).s.2 h.ok (by rw [h.len]; omega)
    generalize hst : timesM f lo P k = st at h hr
    have e : timesM f lo P (k + 1) = timesStep lo st (k + 1) (f st.s.2) := by rw [← hst]; rfl
    rw [e]
    generalize f st.s.2 = r at hr
    have l1 := h.len
    have l2 := hr.len
    have pos := h.ok.pos
    have okR : (rowStep st.s r).2.Ok := by
      refine ⟨hr.ok.pos, hr.ok.le, RowsOk.lnkM (fun o ho => ?_) hr.ok.ok fun p hp => ?_⟩
      · have := hr.f o ho
        exact ⟨by omega, this.2⟩
      · show p < r.2.m.length
        have := h.l p hp
        omega
    have lenR : (rowStep st.s r).2.m.length = P.m.length + (k + 1) * w := by
      show r.2.m.length = _
      rw [Nat.succ_mul]; omega
    have fR : ∀ v ∈ (rowStep st.s r).1.f, P.m.length ≤ v ∧ v < r.2.m.length := fun v hv => by
      have hv : v ∈ (if st.s.1.e then st.s.1.f ++ r.1.f else st.s.1.f) := hv
      split at hv
      · rcases List.mem_append.mp hv with q | q
        · have := h.f v q; omega
        · have := hr.f v q; omega
      · have := h.f v hv; omega
    have lR : ∀ v ∈ (rowStep st.s r).1.l, P.m.length ≤ v ∧ v < r.2.m.length := fun v hv => by
      have hv : v ∈ (if r.1.e then st.s.1.l ++ r.1.l else r.1.l) := hv
      split at hv
      · rcases List.mem_append.mp hv with q | q
        · have := h.l v q; omega
        · have := hr.l v q; omega
      · have := hr.l v hv; omega
    have cR : ∀ v ∈ st.c, P.m.length ≤ v ∧ v < r.2.m.length := fun v hv => by have := h.c v hv; omega
    have a1 := h.fl
    have a2 := h.ll
    have a3 := h.cl
    have b1 := hr.fl
    have b2 := hr.ll
    have m1 : (k + 1) * (w * (w + 1)) = k * (w * (w + 1)) + w * (w + 1) := Nat.succ_mul _ _
    have m2 : (k + 1) * (k + 1 + 1) * (w * (w + 1)) = k * (k + 1) * (w * (w + 1)) + 2 * ((k + 1) * (w * (w + 1))) := by
      rw [← Nat.mul_assoc 2, ← Nat.add_mul]
      congr 1
      simp only [Nat.add_mul, Nat.mul_add]; omega
    have flR : 2 * (rowStep st.s r).1.f.length ≤ (k + 1) * (w * (w + 1)) := by
      show 2 * (if st.s.1.e then st.s.1.f ++ r.1.f else st.s.1.f).length ≤ _
      rw [m1]
      split
      · rw [List.length_append]; omega
      · omega
    have llR : 2 * (rowStep st.s r).1.l.length ≤ (k + 1) * (w * (w + 1)) := by
      show 2 * (if r.1.e then st.s.1.l ++ r.1.l else r.1.l).length ≤ _
      rw [m1]
      split
      · rw [List.length_append]; omega
      · omega
    unfold timesStep
    split
    · refine ⟨okR, lenR, fR, lR, fun v hv => ?_, flR, llR, ?_⟩
      · rcases List.mem_append.mp hv with q | q
        · exact cR v q
        · exact lR v q
      · show 4 * (st.c ++ (rowStep st.s r).1.l).length ≤ _
        rw [List.length_append, m2]; omega
    · exact ⟨okR, lenR, fR, lR, cR, flR, llR, by show 4 * st.c.length ≤ _; rw [m2]; omega⟩
theorem times_laid {P : Pln} {w k : Nat} {st : TSt} (h : TimesOk P w k st) : LaidOk P (k * w) (timesR st) := by
  have sq := times_sq k w
  refine ⟨h.ok, h.len, h.f, h.c, ?_, ?_⟩
  · show 2 * st.s.1.f.length ≤ _
    have := h.fl
    refine Nat.le_trans this ?_
    have e : (k * w) * (k * w + 1) = k * (w * (k * w + 1)) := Nat.mul_assoc _ _ _
    rw [e]
    cases k with
    | zero => simp
    | succ k =>
      refine Nat.mul_le_mul_left _ (Nat.mul_le_mul_left _ ?_)
      have : w ≤ (k + 1) * w := Nat.le_mul_of_pos_left w (by omega)
      omega
  · show 2 * st.c.length ≤ _
    have := h.cl
    omega
mutual
theorem laid_ok : ∀ (s : Sh) (P : Pln), P.Ok → P.m.length + s.wt ≤ 100 → LaidOk P s.wt (laidM s P)
  | .one τ, P, h, hl => by
    have hl : P.m.length + 1 ≤ 100 := hl
    simp only [laidM]
    refine ⟨h.lay τ hl, by simp [layP, Sh.wt], fun v hv => ?_, fun v hv => ?_, by simp [Sh.wt], by simp [Sh.wt]⟩ <;>
    · simp only [List.mem_singleton] at hv; subst hv; simp [layP]
  | .row l, P, h, hl => by
    simp only [laidM]
    have := rows_ok l 0 P _ (LaidOk.nil h true) (by have hl : P.m.length + wts l ≤ 100 := hl; omega)
    rw [Nat.zero_add] at this
    exact this
  | .alt l, P, h, hl => by
    simp only [laidM]
    have := alts_ok l 0 P _ (LaidOk.nil h false) (by have hl : P.m.length + wts l ≤ 100 := hl; omega)
    rw [Nat.zero_add] at this
    exact this
  | .many x, P, h, hl => by
    simp only [laidM]
    have hr := laid_ok x P h hl
    have pos := h.pos
    refine ⟨⟨hr.ok.pos, hr.ok.le, RowsOk.lnkM (fun o ho => ?_) hr.ok.ok fun p hp => (hr.l p hp).2⟩, hr.len, hr.f, hr.l, hr.fl, hr.ll⟩
    have := hr.f o ho
    exact ⟨by omega, this.2⟩
  | .times x lo hi, P, h, hl => by
    simp only [laidM]
    exact times_laid (times_ok (fun Q hQ hw => laid_ok x Q hQ hw) h hi hl)
theorem rows_ok : ∀ (l : List Sh) (w0 : Nat) (P : Pln) (s : Tri × Pln), LaidOk P w0 s → P.m.length + (w0 + wts l) ≤ 100 → LaidOk P (w0 + wts l) (rowM l s)
  | [], w0, P, s, hs, _ => by simp only [rowM]; exact hs
  | x :: l, w0, P, s, hs, hl => by
    have hl : P.m.length + (w0 + (x.wt + wts l)) ≤ 100 := hl
    have hlen := hs.len
    simp only [rowM]
    have hr := laid_ok x s.2 hs.ok (by omega)
    have := rows_ok l (w0 + x.wt) P _ (hs.more hr) (by omega)
    rw [Nat.add_assoc] at this
    exact this
theorem alts_ok : ∀ (l : List Sh) (w0 : Nat) (P : Pln) (s : Tri × Pln), LaidOk P w0 s → P.m.length + (w0 + wts l) ≤ 100 → LaidOk P (w0 + wts l) (altM l s)
  | [], w0, P, s, hs, _ => by simp only [altM]; exact hs
  | x :: l, w0, P, s, hs, hl => by
    have hl : P.m.length + (w0 + (x.wt + wts l)) ≤ 100 := hl
    have hlen := hs.len
    simp only [altM]
    have hr := laid_ok x s.2 hs.ok (by omega)
    have := alts_ok l (w0 + x.wt) P _ (hs.alt hr) (by omega)
    rw [Nat.add_assoc] at this
    exact this
end
theorem wts_take : ∀ (l : List Sh) (i : Nat), wts (l.take i) ≤ wts l
  | [], i => by simp
  | x :: l, 0 => Nat.zero_le _
  | x :: l, i + 1 => by
    have := wts_take l i
    show x.wt + wts (l.take i) ≤ x.wt + wts l
    omega
theorem wts_snoc : ∀ (l : List Sh) (x : Sh), wts (l ++ [x]) = wts l + x.wt
  | [], x => by show x.wt + 0 = 0 + x.wt; omega
  | y :: l, x => by show y.wt + wts (l ++ [x]) = y.wt + wts l + x.wt; rw [wts_snoc l x]; omega
end Nr
set_option Elab.async false
set_option linter.all false
set_option maxRecDepth 100000
set_option maxHeartbeats 4000000
set_option pp.maxSteps 700
namespace Nr
open PySem PySem.Spec PyProof.Rows L2
def R_laid (n : Nat) (env : List Sl) (Post : PyData → List Sl → Prop) : Prop := ∃ p P s, env = [.bo p (plO P), .im (shD s)] ∧ s.dep ≤ n ∧ s.fit ∧ P.Ok ∧ P.m.length + s.wt ≤ 60 ∧ Post (triD (laidM s P).1) [.bo p (plO (laidM s P).2), .no]
def R_lrow (n : Nat) (env : List Sl) (Post : PyData → List Sl → Prop) : Prop := ∃ p P l, env = [.bo p (plO P), .im (.tuple (shsD l))] ∧ deps l ≤ n ∧ fits l ∧ l.length ≤ 1000 ∧ P.Ok ∧ P.m.length + wts l ≤ 60 ∧ Post (triD (rowM l (⟨[], [], true⟩, P)).1) [.bo p (plO (rowM l (⟨[], [], true⟩, P)).2), .no]
def R_lalt (n : Nat) (env : List Sl) (Post : PyData → List Sl → Prop) : Prop := ∃ p P l, env = [.bo p (plO P), .im (.tuple (shsD l))] ∧ deps l ≤ n ∧ fits l ∧ l.length ≤ 1000 ∧ P.Ok ∧ P.m.length + wts l ≤ 60 ∧ Post (triD (altM l (⟨[], [], false⟩, P)).1) [.bo p (plO (altM l (⟨[], [], false⟩, P)).2), .no]
def R_lmany (n : Nat) (env : List Sl) (Post : PyData → List Sl → Prop) : Prop := ∃ p P s, env = [.bo p (plO P), .im (shD s)] ∧ s.dep ≤ n ∧ s.fit ∧ P.Ok ∧ P.m.length + s.wt ≤ 60 ∧ Post (triD (manyR (laidM s P)).1) [.bo p (plO (manyR (laidM s P)).2), .no]
def R_ltimes (n : Nat) (env : List Sl) (Post : PyData → List Sl → Prop) : Prop := ∃ p P s lo hi, env = [.bo p (plO P), .im (shD s), .im (nD lo), .im (nD hi)] ∧ s.dep ≤ n ∧ s.fit ∧ hi ≤ 1000 ∧ P.Ok ∧ P.m.length + hi * s.wt ≤ 60 ∧ Post (triD (timesR (timesM (fun Q => laidM s Q) lo P hi)).1) [.bo p (plO (timesR (timesM (fun Q => laidM s Q) lo P hi)).2), .no, .no, .no]
theorem LaidOk.small {P : Pln} {w : Nat} {r : Tri × Pln} (h : LaidOk P w r) (hw : w ≤ 60) : r.1.f.length ≤ 1900 ∧ r.1.l.length ≤ 1900 := by
  have a := h.fl
  have b := h.ll
  have c : w * (w + 1) ≤ 60 * 61 := Nat.mul_le_mul hw (by omega)
  omega
section
variable {P : Program} {w : World} {K : PySem.W.Frag} {mg : Str → Option Value} {base : Heap} {C T : Addr}
theorem cl_laid_row (t : Tx K mg C T) {n : Nat} (c_laid : Cl P w K mg base (2 * n + 2) "laid" (PO C (R_laid n))) : Cl P w K mg base (2 * n + 3) "laid_row" (PO C (R_lrow n)) := by
  have sc : FnScope ["plan", "parts", "ends", "part"] ["plan", "parts"] (defScope s_laid_row) := ⟨rfl, rfl, rfl, by decide +kernel, rfl, by decide +kernel, by decide +kernel⟩
  have c_in_turn := cl_in_turn (P := P) (w := w) (base := base) t
  refine cl_own t.d_laid_row sc (fun _ _ _ _ _ _ us hl => match us, hl with | [_, _], _ => rfl) (fun env Post h => ?_) fun f cdv A outer s H E hr => ⟨_,
    (pss_cons (ps_set (i := 2) sc.nd rfl (Or.inl rfl) (pe_tup (pa_cons (pe_lst pa_nil) (pa_cons (pe_lst pa_nil) (pa_cons pe_bl pa_nil)))))
  (pss_cons (ps_for PassesOwn.never rfl (pi_tup (pv 1)) (pg_name (i := 3) sc.nd rfl (Or.inl rfl))
  (pss_one (ps_set (i := 2) sc.nd rfl (Or.inl rfl) (pe_cl c_in_turn hr (by omega) (by rfl) (pa_cons (pv 0) (pa_cons (pv 2) (pa_cons (pe_cl c_laid hr (by omega) (by rfl) (pa_cons (pv 0) (pa_cons (pv 3) pa_nil))) pa_nil)))))))
  (pss_one (ps_ret (pv 2))))), fun c env Post hC h => ?_⟩
  · obtain ⟨_, _, _, rfl, _⟩ := h; rfl
  · obtain ⟨p, P, l, rfl, hd, hf, hl, ok, hw, k⟩ := h
    have init := LaidOk.nil ok true
    have part : ∀ i, LaidOk P (wts (l.take i)) (rowM (l.take i) (⟨[], [], true⟩, P)) := fun i => by
      have := rows_ok (l.take i) 0 P _ init (by have := wts_take l i; omega)
      rw [Nat.zero_add] at this; exact this
    refine rs_seq (rs_asg (d := triD ⟨[], [], true⟩) (ev_tup (ea_cons (ev_lst ea_nil (by decide)) (ea_2 (ev_lst ea_nil (by decide)) ev_bl)) (by show 3 ≤ 100000; decide)) (rs_seq (rs_for (ds := shsD l) (ei_tup (ev_var rfl)) (fun i env => ∃ x, env = [.bo p (plO (rowM (l.take i) (⟨[], [], true⟩, P)).2), .im (.tuple (shsD l)), .im (triD (rowM (l.take i) (⟨[], [], true⟩, P)).1), x]) ⟨_, rfl⟩ ?hs ?hd)))
    case hs =>
      rintro i d _ hi ⟨x, rfl⟩
      rw [shsD_map] at hi
      obtain ⟨s, hs, rfl⟩ := get_map hi
      have hm := List.mem_of_getElem? hs
      have pk := part i
      have pn := part (i + 1)
      have ek : l.take (i + 1) = l.take i ++ [s] := take_one hs
      have wk : wts (l.take i) + s.wt ≤ wts l := by rw [← wts_snoc, ← ek]; exact wts_take l (i + 1)
      rw [ek, rowM_snoc]
      generalize hst : rowM (l.take i) (⟨[], [], true⟩, P) = st at pk
      have l1 := pk.len
      have rk := laid_ok s st.2 pk.ok (by omega)
      have l2 := rk.len
      have pos := ok.pos
      obtain ⟨s1, s2⟩ := pk.small (by omega)
      obtain ⟨s3, s4⟩ := rk.small (by omega)
      refine ⟨_, _, eg_name, rs_asgR (re_call1 hC.symm rfl rfl (ra_cons (re_ev (ev_var (d := triD st.1) rfl) (ra_cons (re_call1 hC.symm rfl rfl (ra_ev (ea_1 (ev_var (d := shD s) rfl)) ⟨_, plO st.2, rfl, rfl, fun q => ⟨q, st.2, s, rfl, Nat.le_trans (deps_le hm) hd, fits_mem hf hm, pk.ok, by omega, _, _, rfl, ra_nil ⟨_, plO (laidM s st.2).2, rfl, rfl, fun q => ⟨q, (laidM s st.2).2, st.1, (laidM s st.2).1, rfl, rk.ok, fun v hv => ?_, fun v hv => ?_, by omega, by omega, by omega, by omega, _, _, rfl, ⟨.im (shD s), rfl⟩⟩⟩⟩⟩))))))⟩
      · have := pk.l v hv; omega
      · have := rk.f v hv; omega
    case hd =>
      rintro _ ⟨x, rfl⟩
      have e : (shsD l).length = l.length := by rw [shsD_map, List.length_map]
      rw [e, List.take_length]
      exact rs_ret (ev_var rfl) ⟨k, ⟨_, rfl⟩, trivial⟩
theorem cl_laid_either (t : Tx K mg C T) {n : Nat} (c_laid : Cl P w K mg base (2 * n + 2) "laid" (PO C (R_laid n))) : Cl P w K mg base (2 * n + 3) "laid_either" (PO C (R_lalt n)) := by
  have sc : FnScope ["plan", "parts", "firsts", "lasts", "empty", "part", "begins", "closes", "vacant"] ["plan", "parts"] (defScope s_laid_either) := ⟨rfl, rfl, rfl, by decide +kernel, rfl, by decide +kernel, by decide +kernel⟩
  refine cl_own t.d_laid_either sc (fun _ _ _ _ _ _ us hl => match us, hl with | [_, _], _ => rfl) (fun env Post h => ?_) fun f cdv A outer s H E hr => ⟨_,
    (pss_cons (ps_set (i := 2) sc.nd rfl (Or.inl rfl) (pe_lst pa_nil))
  (pss_cons (ps_set (i := 3) sc.nd rfl (Or.inl rfl) (pe_lst pa_nil))
  (pss_cons (ps_set (i := 4) sc.nd rfl (Or.inl rfl) pe_bl)
  (pss_cons (ps_for PassesOwn.never rfl (pi_tup (pv 1)) (pg_name (i := 5) sc.nd rfl (Or.inl rfl))
  (pss_cons (ps_asg (pe_cl c_laid hr (by omega) (by rfl) (pa_cons (pv 0) (pa_cons (pv 5) pa_nil))) (pg_tup rfl (pgs_cons (pg_name (i := 6) sc.nd rfl (Or.inl rfl)) (pgs_cons (pg_name (i := 7) sc.nd rfl (Or.inl rfl)) (pgs_cons (pg_name (i := 8) sc.nd rfl (Or.inl rfl)) pgs_nil)))))
  (pss_cons (ps_aug (i := 2) sc.nd rfl (Or.inl rfl) (pv 6) iop_ext)
  (pss_cons (ps_aug (i := 3) sc.nd rfl (Or.inl rfl) (pv 7) iop_ext)
  (pss_one (ps_set (i := 4) sc.nd rfl (Or.inl rfl) (pe_or (pv 4) (pe_one (pv 8)))))))))
  (pss_one (ps_ret (pe_tup (pa_cons (pv 2) (pa_cons (pv 3) (pa_cons (pv 4) pa_nil)))))))))), fun c env Post hC h => ?_⟩
  · obtain ⟨_, _, _, rfl, _⟩ := h; rfl
  · obtain ⟨p, P, l, rfl, hd, hf, hl, ok, hw, k⟩ := h
    have init := LaidOk.nil ok false
    have part : ∀ i, LaidOk P (wts (l.take i)) (altM (l.take i) (⟨[], [], false⟩, P)) := fun i => by
      have := alts_ok (l.take i) 0 P _ init (by have := wts_take l i; omega)
      rw [Nat.zero_add] at this; exact this
    refine rs_seq (rs_asgO ea_nil (by decide) (rs_seq (rs_asgO ea_nil (by decide) (rs_seq (rs_asg ev_bl (rs_seq (rs_for (ds := shsD l) (ei_tup (ev_var rfl)) (fun i env => ∃ x y z v, env = [.bo p (plO (altM (l.take i) (⟨[], [], false⟩, P)).2), .im (.tuple (shsD l)), .ow (.lst (nsD (altM (l.take i) (⟨[], [], false⟩, P)).1.f)), .ow (.lst (nsD (altM (l.take i) (⟨[], [], false⟩, P)).1.l)), .im (.bool (altM (l.take i) (⟨[], [], false⟩, P)).1.e), x, y, z, v]) ⟨_, _, _, _, rfl⟩ ?hs ?hd)))))))
    case hs =>
      rintro i d _ hi ⟨x, y, z, v, rfl⟩
      rw [shsD_map] at hi
      obtain ⟨s, hs, rfl⟩ := get_map hi
      have hm := List.mem_of_getElem? hs
      have pk := part i
      have ek : l.take (i + 1) = l.take i ++ [s] := take_one hs
      have wk : wts (l.take i) + s.wt ≤ wts l := by rw [← wts_snoc, ← ek]; exact wts_take l (i + 1)
      rw [ek, altM_snoc]
      generalize hst : altM (l.take i) (⟨[], [], false⟩, P) = st at pk
      have l1 := pk.len
      have rk := laid_ok s st.2 pk.ok (by omega)
      obtain ⟨s1, s2⟩ := pk.small (by omega)
      obtain ⟨s3, s4⟩ := rk.small (by omega)
      refine ⟨_, _, eg_name, rs_seq (rs_asgRG (re_call1 hC.symm rfl rfl (ra_ev (ea_1 (ev_var (d := shD s) rfl)) ⟨_, plO st.2, rfl, rfl, fun q => ⟨q, st.2, s, rfl, Nat.le_trans (deps_le hm) hd, fits_mem hf hm, pk.ok, by omega, _, _, rfl, _, _, eg_tup (egs_cons eg_name (egs_cons eg_name (egs_cons eg_name egs_nil))) rfl, ?_⟩⟩)))⟩
      refine rs_seq (rs_ext (es := nsD (laidM s st.2).1.f) rfl rfl (ev_var rfl) (by rw [List.length_map, List.length_map]; omega) (rs_seq (rs_ext (es := nsD (laidM s st.2).1.l) rfl rfl (ev_var rfl) (by rw [List.length_map, List.length_map]; omega) (rs_asg (ev_orV (ev_var rfl) fun _ => ev_var rfl) ⟨.im (shD s), .im (lwD (laidM s st.2).1.f), .im (lwD (laidM s st.2).1.l), .im (.bool (laidM s st.2).1.e), ?_⟩))))
      show _ = [_, _, Sl.ow (.lst (nsD (st.1.f ++ (laidM s st.2).1.f))), Sl.ow (.lst (nsD (st.1.l ++ (laidM s st.2).1.l))), _, _, _, _, _]
      rw [nsD_app, nsD_app]
      rfl
    case hd =>
      rintro _ ⟨x, y, z, v, rfl⟩
      have e : (shsD l).length = l.length := by rw [shsD_map, List.length_map]
      rw [e, List.take_length]
      exact rs_frz (i := 2) rfl (rs_frz (i := 3) rfl (rs_ret (ev_tup (ea_cons (ev_var rfl) (ea_2 (ev_var rfl) (ev_var rfl))) (by show 3 ≤ 100000; decide)) ⟨k, ⟨_, rfl⟩, trivial⟩))
theorem cl_laid_many (t : Tx K mg C T) {n : Nat} (c_laid : Cl P w K mg base (2 * n + 2) "laid" (PO C (R_laid n))) : Cl P w K mg base (2 * n + 3) "laid_many" (PO C (R_lmany n)) := by
  have sc : FnScope ["plan", "part", "firsts", "lasts", "empty"] ["plan", "part"] (defScope s_laid_many) := ⟨rfl, rfl, rfl, by decide +kernel, rfl, by decide +kernel, by decide +kernel⟩
  have m_link := m_link (P := P) (w := w) (base := base) t
  refine cl_own t.d_laid_many sc (fun _ _ _ _ _ _ us hl => match us, hl with | [_, _], _ => rfl) (fun env Post h => ?_) fun f cdv A outer s H E hr => ⟨_,
    (pss_cons (ps_asg (pe_cl c_laid hr (by omega) (by rfl) (pa_cons (pv 0) (pa_cons (pv 1) pa_nil))) (pg_tup rfl (pgs_cons (pg_name (i := 2) sc.nd rfl (Or.inl rfl)) (pgs_cons (pg_name (i := 3) sc.nd rfl (Or.inl rfl)) (pgs_cons (pg_name (i := 4) sc.nd rfl (Or.inl rfl)) pgs_nil)))))
  (pss_cons (ps_expr (pe_mtC m_link hr (by omega) (pv 0) (pa_cons (pv 3) (pa_cons (pv 2) pa_nil))))
  (pss_one (ps_ret (pe_tup (pa_cons (pv 2) (pa_cons (pv 3) (pa_cons pe_bl pa_nil)))))))), fun c env Post hC h => ?_⟩
  · obtain ⟨_, _, _, rfl, _⟩ := h; rfl
  · obtain ⟨p, P, s, rfl, hd, hf, ok, hw, k⟩ := h
    have rk := laid_ok s P ok (by omega)
    have pos := ok.pos
    refine rs_seq (rs_asgRG (re_call1 hC.symm rfl rfl (ra_ev (ea_1 (ev_var (d := shD s) rfl)) ⟨_, plO P, rfl, rfl, fun q => ⟨q, P, s, rfl, hd, hf, ok, hw, _, _, rfl, _, _, eg_tup (egs_cons eg_name (egs_cons eg_name (egs_cons eg_name egs_nil))) rfl, ?_⟩⟩)))
    refine rs_seq (rs_dropR (re_meth1 (ms := (laidM s P).2.m.map fun τ => (⟨τ.toArray⟩ : Str)) (ns := (laidM s P).2.n.map inR) hC.symm (by decide) rfl rfl (ra_ev (ea_2 (ev_var (d := lwD (laidM s P).1.l) rfl) (ev_var (d := lwD (laidM s P).1.f) rfl)) ⟨_, plO (laidM s P).2, rfl, rfl, fun q => ⟨q, (laidM s P).2, (laidM s P).1.l, (laidM s P).1.f, rfl, rk.ok, fun v hv => (rk.l v hv).2, fun v hv => ?_, _, _, rfl, ?_⟩⟩)))
    · have := rk.f v hv; omega
    · exact rs_ret (ev_tup (ea_cons (ev_var rfl) (ea_2 (ev_var rfl) ev_bl)) (by show 3 ≤ 100000; decide)) ⟨k, ⟨_, rfl⟩, trivial⟩
theorem cl_laid_times (t : Tx K mg C T) {n : Nat} (c_laid : Cl P w K mg base (2 * n + 2) "laid" (PO C (R_laid n))) : Cl P w K mg base (2 * n + 3) "laid_times" (PO C (R_ltimes n)) := by
  have sc : FnScope ["plan", "part", "low", "high", "ends", "closing", "empty", "count"] ["plan", "part", "low", "high"] (defScope s_laid_times) := ⟨rfl, rfl, rfl, by decide +kernel, rfl, by decide +kernel, by decide +kernel⟩
  have c_in_turn := cl_in_turn (P := P) (w := w) (base := base) t
  refine cl_own t.d_laid_times sc (fun _ _ _ _ _ _ us hl => match us, hl with | [_, _, _, _], _ => rfl) (fun env Post h => ?_) fun f cdv A outer s H E hr => ⟨_,
    (pss_cons (ps_set (i := 4) sc.nd rfl (Or.inl rfl) (pe_tup (pa_cons (pe_lst pa_nil) (pa_cons (pe_lst pa_nil) (pa_cons pe_bl pa_nil)))))
  (pss_cons (ps_set (i := 5) sc.nd rfl (Or.inl rfl) (pe_lst pa_nil))
  (pss_cons (ps_set (i := 6) sc.nd rfl (Or.inl rfl) (pe_cmpR op_eq (pv 2) pe_int (nomark _)))
  (pss_cons (ps_for PassesOwn.never rfl (pi_range2 rfl t.n_range (pa_cons pe_int (pa_cons (pe_op op_add (pv 3) pe_int) pa_nil))) (pg_name (i := 7) sc.nd rfl (Or.inl rfl))
  (pss_cons (ps_set (i := 4) sc.nd rfl (Or.inl rfl) (pe_cl c_in_turn hr (by omega) (by rfl) (pa_cons (pv 0) (pa_cons (pv 4) (pa_cons (pe_cl c_laid hr (by omega) (by rfl) (pa_cons (pv 0) (pa_cons (pv 1) pa_nil))) pa_nil)))))
  (pss_one (ps_if (pt_cmpR op_ge (pv 7) (pv 2) (nomark _))
  (pss_cons (ps_aug (i := 5) sc.nd rfl (Or.inl rfl) (pe_ix ix_tup (pv 4) pe_int (fun _ _ => rfl)) iop_ext)
  (pss_one (ps_set (i := 6) sc.nd rfl (Or.inl rfl) (pe_or (pv 6) (pe_one (pe_ix ix_tup (pv 4) pe_int (fun _ _ => rfl)))))))
  pss_nil))))
  (pss_one (ps_ret (pe_tup (pa_cons (pe_ix ix_tup (pv 4) pe_int (fun _ _ => rfl)) (pa_cons (pv 5) (pa_cons (pv 6) pa_nil)))))))))), fun c env Post hC h => ?_⟩
  · obtain ⟨_, _, _, _, _, rfl, _⟩ := h; rfl
  · obtain ⟨p, P, s, lo, hi, rfl, hd, hf, hh, ok, hw, k⟩ := h
    have lf : ∀ Q : Pln, Q.Ok → Q.m.length + s.wt ≤ 100 → LaidOk Q s.wt (laidM s Q) := fun Q h1 h2 => laid_ok s Q h1 h2
    refine rs_seq (rs_asg (d := triD ⟨[], [], true⟩) (ev_tup (ea_cons (ev_lst ea_nil (by decide)) (ea_2 (ev_lst ea_nil (by decide)) ev_bl)) (by show 3 ≤ 100000; decide)) (rs_seq (rs_asgO ea_nil (by decide) (rs_seq (rs_asg (d := .bool (decide (lo = 0))) (ev_is (ev_op (ev_var rfl) ev_int rv_eqI) (by congr 1; exact decide_eq_decide.mpr (by omega))) (rs_seq (rs_for (ds := rngD 1 hi) ?hi (fun i env => ∃ x, env = [.bo p (plO (timesM (fun Q => laidM s Q) lo P i).s.2), .im (shD s), .im (nD lo), .im (nD hi), .im (triD (timesM (fun Q => laidM s Q) lo P i).s.1), .ow (.lst (nsD (timesM (fun Q => laidM s Q) lo P i).c)), .im (.bool (timesM (fun Q => laidM s Q) lo P i).e), x]) ⟨_, rfl⟩ ?hs ?hd)))))))
    case hi =>
      have e : rngD 1 ((hi : Int) + 1 - 1).toNat = rngD 1 hi := by congr 1; omega
      exact Eq.mp (congrArg (EvI c _ _) e) (ei_range2 ev_int (ev_op (ev_var rfl) ev_int rv_add) (by omega) (by omega) (by omega) (by omega))
    case hs =>
      rintro i d _ hi2 ⟨x, rfl⟩
      obtain ⟨hil, rfl⟩ := rngD_get hi2
      have hki : i * s.wt + s.wt ≤ hi * s.wt := by rw [← Nat.succ_mul]; exact Nat.mul_le_mul_right _ hil
      have tk := times_ok (lo := lo) lf ok i (by omega)
      have tl := times_laid tk
      have tn := times_ok (lo := lo) lf ok (i + 1) (by rw [Nat.succ_mul]; omega)
      obtain ⟨z1, z2⟩ := (times_laid tn).small (by rw [Nat.succ_mul]; omega)
      have enext : timesM (fun Q => laidM s Q) lo P (i + 1) = timesStep lo (timesM (fun Q => laidM s Q) lo P i) (i + 1) (laidM s (timesM (fun Q => laidM s Q) lo P i).s.2) := rfl
      rw [enext] at tn z1 z2 ⊢
      generalize hst : timesM (fun Q => laidM s Q) lo P i = st at tk tl tn z1 z2
      have l1 := tk.len
      have pos := ok.pos
      have rk := laid_ok s st.s.2 tk.ok (by omega)
      have l2 := rk.len
      have kw : i * (s.wt * (s.wt + 1)) ≤ 60 * 61 := by
        rw [← Nat.mul_assoc]; exact Nat.mul_le_mul (by omega) (by omega)
      have s1 := tk.fl
      have s2 := tk.ll
      obtain ⟨s3, s4⟩ := rk.small (by omega)
      obtain ⟨s5, s6⟩ := tl.small (by omega)
      have s6 : st.c.length ≤ 1900 := s6
      have ep : (1 : Int) + (i : Nat) = ((i + 1 : Nat) : Int) := by omega
      refine ⟨_, _, eg_name, rs_seq (rs_asgR (re_call1 hC.symm rfl rfl (ra_cons (re_ev (ev_var (d := triD st.s.1) rfl) (ra_cons (re_call1 hC.symm rfl rfl (ra_ev (ea_1 (ev_var (d := shD s) rfl)) ⟨_, plO st.s.2, rfl, rfl, fun q => ⟨q, st.s.2, s, rfl, hd, hf, tk.ok, by omega, _, _, rfl, ra_nil ⟨_, plO (laidM s st.s.2).2, rfl, rfl, fun q => ⟨q, (laidM s st.s.2).2, st.s.1, (laidM s st.s.2).1, rfl, rk.ok, fun v hv => ?_, fun v hv => ?_, by omega, by omega, by omega, by omega, _, _, rfl, ?_⟩⟩⟩⟩)))))))⟩
      · have := tk.l v hv; omega
      · have := rk.f v hv; omega
      · have e1 : timesStep lo st (i + 1) (laidM s st.s.2) = if lo ≤ i + 1 then ⟨rowStep st.s (laidM s st.s.2), st.c ++ (rowStep st.s (laidM s st.s.2)).1.l, st.e || (rowStep st.s (laidM s st.s.2)).1.e⟩ else ⟨rowStep st.s (laidM s st.s.2), st.c, st.e⟩ := rfl
        have l5 : (rowStep st.s (laidM s st.s.2)).1.l.length ≤ 5000 := by
          show (if (laidM s st.s.2).1.e then st.s.1.l ++ (laidM s st.s.2).1.l else (laidM s st.s.2).1.l).length ≤ _
          split
          · rw [List.length_append]; omega
          · omega
        refine rs_if (eb_test (ev_op (ev_var rfl) (ev_var rfl) rv_I0b)) (fun h => ?_) (fun h => rs_next ⟨.im (nD (i + 1)), ?_⟩)
        · have h := of_decide_eq_true h
          rw [e1, if_pos (by omega)]
          refine rs_seq (rs_ext (es := nsD (rowStep st.s (laidM s st.s.2)).1.l) rfl rfl (ev_op (ev_var rfl) ev_int (rv_ixT (ix_of (j := 1) rfl rfl))) (by rw [List.length_map, List.length_map]; omega) (rs_asg (ev_orV (ev_var rfl) fun _ => ev_op (ev_var rfl) ev_int (rv_ixT (ix_of (j := 2) rfl rfl))) ⟨.im (nD (i + 1)), ?_⟩))
          show [_, _, _, _, _, Sl.ow (.lst (nsD st.c ++ nsD (rowStep st.s (laidM s st.s.2)).1.l)), _, Sl.im (PyData.int (1 + (i : Nat)))] = _
          rw [ep, ← nsD_app]
          rfl
        · have h := of_decide_eq_false h
          rw [e1, if_neg (by omega)]
          show [_, _, _, _, _, _, _, Sl.im (PyData.int (1 + (i : Nat)))] = _
          rw [ep]
          rfl
    case hd =>
      rintro _ ⟨x, rfl⟩
      rw [rngD_len]
      exact rs_frz (i := 5) rfl (rs_ret (ev_tup (ea_cons (ev_op (ev_var rfl) ev_int (rv_ixT (ix_of (j := 0) rfl rfl))) (ea_2 (ev_var rfl) (ev_var rfl))) (by show 3 ≤ 100000; decide)) ⟨k, ⟨_, rfl⟩, trivial⟩)
theorem cl_laid (t : Tx K mg C T) : ∀ n, Cl P w K mg base (2 * n + 2) "laid" (PO C (R_laid n)) := by
  have sc : FnScope ["plan", "shape", "at"] ["plan", "shape"] (defScope s_laid) := ⟨rfl, rfl, rfl, by decide +kernel, rfl, by decide +kernel, by decide +kernel⟩
  have m_lay := m_lay (P := P) (w := w) (base := base) t
  intro n
  induction n with
  | zero => exact cl_vacO t.d_laid sc (fun _ _ _ _ _ _ us hl => match us, hl with | [_, _], _ => rfl) fun env Post ⟨_, _, s, _, h, _⟩ => by have := dep_pos s; omega
  | succ n ih =>
    have c_laid_row := cl_laid_row t ih
    have c_laid_either := cl_laid_either t ih
    have c_laid_many := cl_laid_many t ih
    have c_laid_times := cl_laid_times t ih
    refine cl_own (k := 2 * n + 3) t.d_laid sc (fun _ _ _ _ _ _ us hl => match us, hl with | [_, _], _ => rfl) (fun env Post h => ?_) fun f cdv A outer s H E hr => ⟨_,
      (pss_cons (ps_if (pt_cmpR op_eq (pe_ix ix_tup (pv 1) pe_int (fun _ _ => rfl)) pe_str (nomark _))
  (pss_cons (ps_set (i := 2) sc.nd rfl (Or.inl rfl) (pe_mtC m_lay hr (by omega) (pv 0) (pa_cons (pe_ix ix_tup (pv 1) pe_int (fun _ _ => rfl)) pa_nil)))
  (pss_one (ps_ret (pe_tup (pa_cons (pe_lst (pa_cons (pv 2) pa_nil)) (pa_cons (pe_lst (pa_cons (pv 2) pa_nil)) (pa_cons pe_bl pa_nil)))))))
  pss_nil)
  (pss_cons (ps_if (pt_cmpR op_eq (pe_ix ix_tup (pv 1) pe_int (fun _ _ => rfl)) pe_str (nomark _))
  (pss_one (ps_ret (pe_cl c_laid_row hr (by omega) (by rfl) (pa_cons (pv 0) (pa_cons (pe_ix ix_tup (pv 1) pe_int (fun _ _ => rfl)) pa_nil)))))
  pss_nil)
  (pss_cons (ps_if (pt_cmpR op_eq (pe_ix ix_tup (pv 1) pe_int (fun _ _ => rfl)) pe_str (nomark _))
  (pss_one (ps_ret (pe_cl c_laid_either hr (by omega) (by rfl) (pa_cons (pv 0) (pa_cons (pe_ix ix_tup (pv 1) pe_int (fun _ _ => rfl)) pa_nil)))))
  pss_nil)
  (pss_cons (ps_if (pt_cmpR op_eq (pe_ix ix_tup (pv 1) pe_int (fun _ _ => rfl)) pe_str (nomark _))
  (pss_one (ps_ret (pe_cl c_laid_many hr (by omega) (by rfl) (pa_cons (pv 0) (pa_cons (pe_ix ix_tup (pv 1) pe_int (fun _ _ => rfl)) pa_nil)))))
  pss_nil)
  (pss_one (ps_ret (pe_cl c_laid_times hr (by omega) (by rfl) (pa_cons (pv 0) (pa_cons (pe_ix ix_tup (pv 1) pe_int (fun _ _ => rfl)) (pa_cons (pe_ix ix_tup (pv 1) pe_int (fun _ _ => rfl)) (pa_cons (pe_ix ix_tup (pv 1) pe_int (fun _ _ => rfl)) pa_nil))))))))))), fun c env Post hC h => ?_⟩
    · obtain ⟨_, _, _, rfl, _⟩ := h; rfl
    · obtain ⟨p, P, s, rfl, hd, hf, ok, hw, k⟩ := h
      cases s with
      | one τ =>
        have hl : P.m.length + 1 ≤ 60 := hw
        have hnl := ok.ok.len
        refine rs_seq (rs_ifT (eb_test (ev_is (ev_op (ev_op (ev_var rfl) ev_int (rv_ixT (ix_of (j := 0) rfl rfl))) ev_str rv_eqS) (by rfl))) (rs_seq (rs_asgR (re_meth1 (ms := P.m.map fun τ => (⟨τ.toArray⟩ : Str)) (ns := P.n.map inR) hC.symm (by decide) rfl rfl (ra_ev (ea_1 (ev_op (ev_var rfl) ev_int (rv_ixT (ix_of (j := 1) rfl rfl)))) ⟨_, plO P, rfl, rfl, fun q => ⟨q, P, τ, rfl, by omega, by omega, _, _, rfl, ?_⟩⟩)))))
        refine rs_ret (ev_tup (ea_cons (ev_lst (ea_1 (ev_var rfl)) (by show 1 ≤ 100000; decide)) (ea_2 (ev_lst (ea_1 (ev_var rfl)) (by show 1 ≤ 100000; decide)) ev_bl)) (by show 3 ≤ 100000; decide)) ⟨?_, ⟨_, rfl⟩, trivial⟩
        simp only [laidM] at k
        exact k
      | row l =>
        simp only [laidM] at k
        refine rs_seq (rs_ifF (eb_test (ev_is (ev_op (ev_op (ev_var rfl) ev_int (rv_ixT (ix_of (j := 0) rfl rfl))) ev_str rv_eqS) (by rfl))) (rs_next (rs_seq (rs_ifT (eb_test (ev_is (ev_op (ev_op (ev_var rfl) ev_int (rv_ixT (ix_of (j := 0) rfl rfl))) ev_str rv_eqS) (by rfl))) ?_))))
        exact rs_retR (re_call1 hC.symm rfl rfl (ra_ev (ea_1 (ev_op (ev_var rfl) ev_int (rv_ixT (ix_of (j := 1) rfl rfl)))) ⟨_, plO P, rfl, rfl, fun q => ⟨q, P, l, rfl, by have h : deps l + 1 ≤ n + 1 := hd; omega, hf.2, hf.1, ok, hw, _, _, rfl, k, ⟨_, rfl⟩, trivial⟩⟩))
      | alt l =>
        simp only [laidM] at k
        refine rs_seq (rs_ifF (eb_test (ev_is (ev_op (ev_op (ev_var rfl) ev_int (rv_ixT (ix_of (j := 0) rfl rfl))) ev_str rv_eqS) (by rfl))) (rs_next (rs_seq (rs_ifF (eb_test (ev_is (ev_op (ev_op (ev_var rfl) ev_int (rv_ixT (ix_of (j := 0) rfl rfl))) ev_str rv_eqS) (by rfl))) (rs_next (rs_seq (rs_ifT (eb_test (ev_is (ev_op (ev_op (ev_var rfl) ev_int (rv_ixT (ix_of (j := 0) rfl rfl))) ev_str rv_eqS) (by rfl))) ?_)))))))
        exact rs_retR (re_call1 hC.symm rfl rfl (ra_ev (ea_1 (ev_op (ev_var rfl) ev_int (rv_ixT (ix_of (j := 1) rfl rfl)))) ⟨_, plO P, rfl, rfl, fun q => ⟨q, P, l, rfl, by have h : deps l + 1 ≤ n + 1 := hd; omega, hf.2, hf.1, ok, hw, _, _, rfl, k, ⟨_, rfl⟩, trivial⟩⟩))
      | many x =>
        simp only [laidM] at k
        refine rs_seq (rs_ifF (eb_test (ev_is (ev_op (ev_op (ev_var rfl) ev_int (rv_ixT (ix_of (j := 0) rfl rfl))) ev_str rv_eqS) (by rfl))) (rs_next (rs_seq (rs_ifF (eb_test (ev_is (ev_op (ev_op (ev_var rfl) ev_int (rv_ixT (ix_of (j := 0) rfl rfl))) ev_str rv_eqS) (by rfl))) (rs_next (rs_seq (rs_ifF (eb_test (ev_is (ev_op (ev_op (ev_var rfl) ev_int (rv_ixT (ix_of (j := 0) rfl rfl))) ev_str rv_eqS) (by rfl))) (rs_next (rs_seq (rs_ifT (eb_test (ev_is (ev_op (ev_op (ev_var rfl) ev_int (rv_ixT (ix_of (j := 0) rfl rfl))) ev_str rv_eqS) (by rfl))) ?_))))))))))
        exact rs_retR (re_call1 hC.symm rfl rfl (ra_ev (ea_1 (ev_op (ev_var rfl) ev_int (rv_ixT (ix_of (j := 1) rfl rfl)))) ⟨_, plO P, rfl, rfl, fun q => ⟨q, P, x, rfl, by have h : x.dep + 1 ≤ n + 1 := hd; omega, hf, ok, hw, _, _, rfl, k, ⟨_, rfl⟩, trivial⟩⟩))
      | times x lo hi =>
        simp only [laidM] at k
        refine rs_seq (rs_ifF (eb_test (ev_is (ev_op (ev_op (ev_var rfl) ev_int (rv_ixT (ix_of (j := 0) rfl rfl))) ev_str rv_eqS) (by rfl))) (rs_next (rs_seq (rs_ifF (eb_test (ev_is (ev_op (ev_op (ev_var rfl) ev_int (rv_ixT (ix_of (j := 0) rfl rfl))) ev_str rv_eqS) (by rfl))) (rs_next (rs_seq (rs_ifF (eb_test (ev_is (ev_op (ev_op (ev_var rfl) ev_int (rv_ixT (ix_of (j := 0) rfl rfl))) ev_str rv_eqS) (by rfl))) (rs_next (rs_seq (rs_ifF (eb_test (ev_is (ev_op (ev_op (ev_var rfl) ev_int (rv_ixT (ix_of (j := 0) rfl rfl))) ev_str rv_eqS) (by rfl))) (rs_next ?_))))))))))) 
        exact rs_retR (re_call1 hC.symm rfl rfl (ra_ev (ea_cons (ev_op (ev_var rfl) ev_int (rv_ixT (ix_of (j := 1) rfl rfl))) (ea_2 (ev_op (ev_var rfl) ev_int (rv_ixT (ix_of (j := 2) rfl rfl))) (ev_op (ev_var rfl) ev_int (rv_ixT (ix_of (j := 3) rfl rfl))))) ⟨_, plO P, rfl, rfl, fun q => ⟨q, P, x, lo, hi, rfl, by have h : x.dep + 1 ≤ n + 1 := hd; omega, hf.1, hf.2.2, ok, hw, _, _, rfl, k, ⟨_, rfl⟩, trivial⟩⟩))
end
end Nr
set_option Elab.async false
set_option linter.all false
set_option maxRecDepth 100000
set_option maxHeartbeats 4000000
set_option pp.maxSteps 700
namespace Nr
open PySem PySem.Spec PyProof.Rows L2
/-! ### spreads -/
def srtN (l : List Nat) : List Nat := (srtI (inR l)).map Int.toNat
def upN (l : List Nat) : List Nat := (upI (inR l)).map Int.toNat
theorem nonneg_back {is : List Int} (h : ∀ x ∈ is, 0 ≤ x) : is.map PyData.int = nsD (is.map Int.toNat) := by
  rw [nsD, List.map_map]
  refine List.map_congr_left fun x hx => ?_
  have := h x hx
  show PyData.int x = PyData.int ((x.toNat : Nat) : Int)
  rw [Int.toNat_of_nonneg this]
theorem inR_nonneg {l : List Nat} : ∀ x ∈ inR l, 0 ≤ x := fun x hx => by
  obtain ⟨y, _, rfl⟩ := List.mem_map.mp hx
  omega
theorem srt_back (l : List Nat) : (srtI (inR l)).map PyData.int = nsD (srtN l) := nonneg_back fun x hx => inR_nonneg x ((srtI_perm (inR l)).mem_iff.mp hx)
theorem up_back (l : List Nat) : (upI (inR l)).map PyData.int = nsD (upN l) := nonneg_back fun x hx => inR_nonneg x (upI_mem.mp hx)
theorem srtN_mem {l : List Nat} {x : Nat} : x ∈ srtN l ↔ x ∈ l := by
  unfold srtN
  rw [List.mem_map]
  constructor
  · rintro ⟨y, hy, rfl⟩
    obtain ⟨z, hz, rfl⟩ := List.mem_map.mp ((srtI_perm (inR l)).mem_iff.mp hy)
    exact hz
  · intro h
    exact ⟨(x : Int), (srtI_perm (inR l)).mem_iff.mpr (List.mem_map.mpr ⟨x, h, rfl⟩), rfl⟩
theorem upN_mem {l : List Nat} {x : Nat} : x ∈ upN l ↔ x ∈ l := by
  unfold upN
  rw [List.mem_map]
  constructor
  · rintro ⟨y, hy, rfl⟩
    obtain ⟨z, hz, rfl⟩ := List.mem_map.mp (upI_mem.mp hy)
    exact hz
  · intro h
    exact ⟨(x : Int), upI_mem.mpr (List.mem_map.mpr ⟨x, h, rfl⟩), rfl⟩
theorem upN_nodup (l : List Nat) : (upN l).Nodup := by
  unfold upN
  rw [List.Nodup, List.pairwise_map]
  refine List.Pairwise.imp_of_mem (fun {a b} ha hb h => ?_) (upI_up (inR l))
  have h1 := inR_nonneg a (upI_mem.mp ha)
  have h2 := inR_nonneg b (upI_mem.mp hb)
  omega
theorem srtN_len (l : List Nat) : (srtN l).length = l.length := by
  unfold srtN
  rw [List.length_map, (srtI_perm (inR l)).length_eq, List.length_map]
structure Spd where
  marks : List (List Nat)
  nexts : List (List Nat)
  lasts : List Nat
def Spd.D (d : Spd) : PyData := .tuple [.tuple (d.marks.map sD), .tuple (d.nexts.map rwD), .tuple (nsD d.lasts)]
abbrev plan0 : Pln := ⟨[[]], [[]]⟩
theorem plan0_ok : plan0.Ok := ⟨Nat.le_refl 1, by decide, rfl, fun r hr => by simp only [List.mem_singleton] at hr; subst hr; simp⟩
def spM (s : Sh) : Spd := ⟨(laidM s plan0).2.m, (lnkM (laidM s plan0).2.n [0] (laidM s plan0).1.f).map srtN, upN (if (laidM s plan0).1.e then 0 :: (laidM s plan0).1.l else (laidM s plan0).1.l)⟩
structure Spd.Ok (d : Spd) (w : Nat) : Prop where
  m : d.marks.length = w + 1
  n : d.nexts.length = w + 1
  r : ∀ r ∈ d.nexts, r.length ≤ w + 1 ∧ ∀ x ∈ r, 1 ≤ x ∧ x < w + 1
  l : ∀ x ∈ d.lasts, x < w + 1
  ln : d.lasts.length ≤ w + 1
theorem spM_ok {s : Sh} (h : s.wt ≤ 60) : (spM s).Ok s.wt := by
  have rk := laid_ok s plan0 plan0_ok (by show 1 + s.wt ≤ 100; omega)
  have len : (laidM s plan0).2.m.length = s.wt + 1 := by rw [rk.len]; show 1 + s.wt = _; omega
  have okn : RowsOk (laidM s plan0).2.m.length (lnkM (laidM s plan0).2.n [0] (laidM s plan0).1.f) := RowsOk.lnkM (fun o ho => by
    have := rk.f o ho
    exact ⟨this.1, this.2⟩) rk.ok.ok fun p hp => by simp only [List.mem_singleton] at hp; subst hp; omega
  rw [len] at okn
  have hl : ∀ x ∈ (spM s).lasts, x < s.wt + 1 := fun x hx => by
    have hx := upN_mem.mp (show x ∈ upN _ from hx)
    split at hx
    · rcases List.mem_cons.mp hx with rfl | hx
      · omega
      · have := rk.l x hx; omega
    · have := rk.l x hx; omega
  refine ⟨len, by show (List.map _ _).length = _; rw [List.length_map]; exact okn.len, fun r hr => ?_, hl, nodup_le _ _ (upN_nodup _) hl⟩
  obtain ⟨z, hz, rfl⟩ := List.mem_map.mp (show r ∈ List.map srtN _ from hr)
  obtain ⟨h1, h2⟩ := okn.r z hz
  refine ⟨by rw [srtN_len]; exact nodup_le _ _ h1 fun x hx => (h2 x hx).2, fun x hx => h2 x (srtN_mem.mp hx)⟩
def R_spread (ds : List PyData) (Post : PyData → Prop) : Prop := ∃ s : Sh, ds = [shD s] ∧ s.dep ≤ 5 ∧ s.fit ∧ s.wt ≤ 10 ∧ Post (spM s).D
theorem inR_cons (l : List Nat) : ([nD 0] ++ nsD l) = nsD (0 :: l) := rfl
theorem nsD_inR (l : List Nat) : nsD l = (inR l).map .int := by rw [List.map_map]; rfl
section
variable {P : Program} {w : World} {K : PySem.W.Frag} {mg : Str → Option Value} {base : Heap} {C T : Addr}
theorem cl_spread (t : Tx K mg C T) : Cl P w K mg base 13 "spread" (PF R_spread) := by
  have sc : FnScope ["shape", "plan", "firsts", "lasts", "empty", "nexts", "row"] ["shape"] (defScope s_spread) := ⟨rfl, rfl, rfl, by decide +kernel, rfl, by decide +kernel, by decide +kernel⟩
  have c_weight := cl_weight (P := P) (w := w) (base := base) t 5
  have c_laid := cl_laid (P := P) (w := w) (base := base) t 5
  have m_link := m_link (P := P) (w := w) (base := base) t
  have mk_Plan := mk_plan (P := P) (w := w) (base := base) t
  refine cl_pure (k := 12) (C := C) t.d_spread sc (fun _ _ _ _ _ _ us hl => match us, hl with | [_], _ => rfl) (fun ds Post h => ?_) fun f cdv A outer s H E hr => ⟨_,
    (pss_cons (ps_if (pt_cmpR op_gt (pe_cl c_weight hr (by omega) (by rfl) (pa_cons (pv 0) pa_nil)) (C8.pe_gc (by rfl) t.c_MOST_WEIGHT) (nomark _))
  (pss_one ps_never)
  pss_nil)
  (pss_cons (ps_set (i := 1) sc.nd rfl (Or.inl rfl) (pe_mk0 mk_Plan hr (by omega) (by rfl)))
  (pss_cons (ps_asg (pe_cl c_laid hr (by omega) (by rfl) (pa_cons (pv 1) (pa_cons (pv 0) pa_nil))) (pg_tup rfl (pgs_cons (pg_name (i := 2) sc.nd rfl (Or.inl rfl)) (pgs_cons (pg_name (i := 3) sc.nd rfl (Or.inl rfl)) (pgs_cons (pg_name (i := 4) sc.nd rfl (Or.inl rfl)) pgs_nil)))))
  (pss_cons (ps_expr (pe_mtC m_link hr (by omega) (pv 1) (pa_cons (pe_lst (pa_cons pe_int pa_nil)) (pa_cons (pv 2) pa_nil))))
  (pss_cons (ps_if (pt_truth (pv 4) (fun _ => rfl))
  (pss_one (ps_set (i := 3) sc.nd rfl (Or.inl rfl) (pe_op op_cat (pe_lst (pa_cons pe_int pa_nil)) (pv 3))))
  pss_nil)
  (pss_cons (ps_set (i := 5) sc.nd rfl (Or.inl rfl) (pe_callTy call_tuple_of (by rfl) t.n_tuple bt_tuple (pa_cons (pe_lc (own := [("row", 6)]) (g := gName 6) rfl sc.nd (pi_list (pe_fld (pv 1) rfl)) (blkOk_by (N := ["shape", "plan", "firsts", "lasts", "empty", "nexts", "row"]) (sc := (defScope s_spread)) (own := [("row", 6)]) (by decide +kernel)) (fun _ _ _ _ _ => (pg_name (i := 6) sc.nd rfl (Or.inl rfl))) (fun _ _ _ _ _ => pts_nil) (fun _ _ _ _ _ => (pe_callTy (r := fun xs H Q => ∃ p ys, xs = [V.ref p] ∧ ((SqL K H p ys ∧ ∀ l, H l = none → Q (.ref l) (upd H l (.tup ys))) ∨ (SqT K H p ys ∧ Q (.ref p) H))) call_tuple_of (by rfl) t.n_tuple bt_tuple (pa_cons (pe_callB (r := rSortedI K) cr_sortedI (by rfl) t.n_sorted bt_sorted (pa_cons (pv 6) pa_nil)) pa_nil)))) pa_nil)))
  (pss_one (ps_ret (pe_tup (pa_cons (pe_callTy call_tuple_of (by rfl) t.n_tuple bt_tuple (pa_cons (pe_fld (pv 1) rfl) pa_nil)) (pa_cons (pv 5) (pa_cons (pe_callTy call_tuple_of (by rfl) t.n_tuple bt_tuple (pa_cons (pe_callB (cr_sortedSet rfl) (by rfl) t.n_sorted bt_sorted (pa_cons (pe_callTy (cr_setL rfl) (by rfl) t.n_set bt_set (pa_cons (pv 3) pa_nil)) pa_nil)) pa_nil)) pa_nil)))))))))))), fun c ds Post hC h => ?_⟩
  · obtain ⟨_, rfl, _⟩ := h; rfl
  · obtain ⟨s, rfl, hd, hf, hw, k⟩ := h
    have cl : Cls K c.C := hC ▸ t.cl
    have nM : NoAttr K c.C "marks" := hC ▸ t.nM
    have nN : NoAttr K c.C "nexts" := hC ▸ t.nN
    have rk := laid_ok s plan0 plan0_ok (by show 1 + s.wt ≤ 100; omega)
    have pos := rk.ok.pos
    obtain ⟨s1, s2⟩ := rk.small (by omega)
    have sok := spM_ok (s := s) (by omega)
    have okn : RowsOk (laidM s plan0).2.m.length (lnkM (laidM s plan0).2.n [0] (laidM s plan0).1.f) := RowsOk.lnkM (fun o ho => by
      have := rk.f o ho
      exact ⟨this.1, this.2⟩) rk.ok.ok fun p hp => by simp only [List.mem_singleton] at hp; subst hp; omega
    refine rs_seq (rs_ifF (eb_test (ev_is (ev_op (ev_call (ea_1 (ev_var rfl)) ⟨s, rfl, hd, hf, rfl⟩) ev_int rv_I0b) (by congr 1; exact decide_eq_false (by omega)))) (rs_next (rs_seq (rs_asgPlan hC.symm ?_))))
    refine rs_seq (rs_asgRG (re_call1 hC.symm rfl rfl (ra_ev (ea_1 (ev_var (d := shD s) rfl)) ⟨_, plO plan0, rfl, rfl, fun q => ⟨q, plan0, s, rfl, hd, hf, plan0_ok, by show 1 + s.wt ≤ 60; omega, _, _, rfl, _, _, eg_tup (egs_cons eg_name (egs_cons eg_name (egs_cons eg_name egs_nil))) rfl, ?_⟩⟩)))
    refine rs_seq (rs_dropR (re_meth1 (ms := (laidM s plan0).2.m.map fun τ => (⟨τ.toArray⟩ : Str)) (ns := (laidM s plan0).2.n.map inR) hC.symm (by decide) rfl rfl (ra_ev (ea_2 (d := lwD [0]) (ev_lst (ea_1 ev_int) (by show 1 ≤ 100000; decide)) (ev_var (d := lwD (laidM s plan0).1.f) rfl)) ⟨_, plO (laidM s plan0).2, rfl, rfl, fun q => ⟨q, (laidM s plan0).2, [0], (laidM s plan0).1.f, rfl, rk.ok, fun v hv => by simp only [List.mem_singleton] at hv; subst hv; omega, fun v hv => ?_, _, _, rfl, ?_⟩⟩)))
    · have := rk.f v hv
      exact ⟨this.1, this.2⟩
    · have s3 := rk.ll
      have s4 : s.wt * (s.wt + 1) ≤ 10 * 11 := Nat.mul_le_mul hw (by omega)
      have dat1 : ∀ n : List (List Nat), ((n.map inR).map fun z => PyData.list (z.map .int)) = n.map lwD := fun n => by
        rw [List.map_map]
        refine List.map_congr_left fun r _ => ?_
        show PyData.list ((inR r).map .int) = _
        rw [← nsD_inR]
      refine rs_seq (rs_if (eb_tru (ev_var rfl)) (fun h => rs_asg (ev_op (ev_lst (ea_1 ev_int) (by show 1 ≤ 100000; decide)) (ev_var rfl) (rv_cat (by rw [List.length_map]; show 1 + _ ≤ _; omega))) ?_) (fun h => rs_next ?_))
      · refine rs_frzP (i := 1) (ms := (laidM s plan0).2.m.map fun τ => (⟨τ.toArray⟩ : Str)) (ns := (lnkM (laidM s plan0).2.n [0] (laidM s plan0).1.f).map inR) rfl (rs_seq (rs_asg (d := .tuple ((spM s).nexts.map rwD)) (ev_cb (ea_1 (ev_is (ev_compG (l := (lnkM (laidM s plan0).2.n [0] (laidM s plan0).1.f)) (g0 := lwD) (js := [6]) (ei_list (ev_is (ev_fldN cl nN rfl) (congrArg PyData.list (dat1 _)))) (fun r => rwD (srtN r)) (by rw [okn.len]; have := rk.ok.le; omega) (by decide) fun r hr => ⟨_, eg_name, ev_cb (ea_1 (ev_is (ev_cb (ea_1 (ev_is (ev_var rfl) (congrArg PyData.list (nsD_inR r)))) rc_sortI) (congrArg PyData.list (srt_back r)))) rc_tup⟩) (by rw [spM, List.map_map]; rfl))) rc_tup) (rs_ret (ev_tup (ea_cons (ev_cb (ea_1 (ev_fldM cl nM rfl)) rc_tup) (ea_2 (ev_var rfl) (ev_cb (ea_1 (ev_is (ev_sortedSet (ns := inR (0 :: (laidM s plan0).1.l)) (ev_is (ev_var rfl) (congrArg PyData.list (nsD_inR (0 :: (laidM s plan0).1.l)))) (by rw [List.length_map]; rw [List.length_cons]; omega)) (congrArg PyData.list (up_back _)))) rc_tup))) (by show 3 ≤ 100000; decide)) ?_)))
        have e : (spM s).D = .tuple [.tuple (((laidM s plan0).2.m.map fun τ => (⟨τ.toArray⟩ : Str)).map .str), .tuple ((spM s).nexts.map rwD), .tuple (nsD (upN (0 :: (laidM s plan0).1.l)))] := by
          have e1 : ((laidM s plan0).2.m.map fun τ => (⟨τ.toArray⟩ : Str)).map PyData.str = (laidM s plan0).2.m.map sD := by rw [List.map_map]; rfl
          have e2 : (spM s).lasts = upN (0 :: (laidM s plan0).1.l) := by
            show upN (if (laidM s plan0).1.e then 0 :: (laidM s plan0).1.l else (laidM s plan0).1.l) = _
            rw [h]; rfl
          unfold Spd.D
          rw [e1, e2]
          rfl
        rw [e] at k
        exact k
      · refine rs_frzP (i := 1) (ms := (laidM s plan0).2.m.map fun τ => (⟨τ.toArray⟩ : Str)) (ns := (lnkM (laidM s plan0).2.n [0] (laidM s plan0).1.f).map inR) rfl (rs_seq (rs_asg (d := .tuple ((spM s).nexts.map rwD)) (ev_cb (ea_1 (ev_is (ev_compG (l := (lnkM (laidM s plan0).2.n [0] (laidM s plan0).1.f)) (g0 := lwD) (js := [6]) (ei_list (ev_is (ev_fldN cl nN rfl) (congrArg PyData.list (dat1 _)))) (fun r => rwD (srtN r)) (by rw [okn.len]; have := rk.ok.le; omega) (by decide) fun r hr => ⟨_, eg_name, ev_cb (ea_1 (ev_is (ev_cb (ea_1 (ev_is (ev_var rfl) (congrArg PyData.list (nsD_inR r)))) rc_sortI) (congrArg PyData.list (srt_back r)))) rc_tup⟩) (by rw [spM, List.map_map]; rfl))) rc_tup) (rs_ret (ev_tup (ea_cons (ev_cb (ea_1 (ev_fldM cl nM rfl)) rc_tup) (ea_2 (ev_var rfl) (ev_cb (ea_1 (ev_is (ev_sortedSet (ns := inR ((laidM s plan0).1.l)) (ev_is (ev_var rfl) (congrArg PyData.list (nsD_inR (laidM s plan0).1.l))) (by rw [List.length_map]; omega)) (congrArg PyData.list (up_back _)))) rc_tup))) (by show 3 ≤ 100000; decide)) ?_)))
        have e : (spM s).D = .tuple [.tuple (((laidM s plan0).2.m.map fun τ => (⟨τ.toArray⟩ : Str)).map .str), .tuple ((spM s).nexts.map rwD), .tuple (nsD (upN ((laidM s plan0).1.l)))] := by
          have e1 : ((laidM s plan0).2.m.map fun τ => (⟨τ.toArray⟩ : Str)).map PyData.str = (laidM s plan0).2.m.map sD := by rw [List.map_map]; rfl
          have e2 : (spM s).lasts = upN ((laidM s plan0).1.l) := by
            show upN (if (laidM s plan0).1.e then 0 :: (laidM s plan0).1.l else (laidM s plan0).1.l) = _
            rw [h]; rfl
          unfold Spd.D
          rw [e1, e2]
          rfl
        rw [e] at k
        exact k
end
end Nr
set_option Elab.async false
set_option linter.all false
set_option maxRecDepth 100000
set_option maxHeartbeats 4000000
set_option pp.maxSteps 700
namespace Nr
open PySem PySem.Spec PyProof.Rows L2
/-! ### the spread of a book -/
def bsStep (b : Spr) (num : Nat) (d : Spd) : Spr :=
  ⟨b.signs ++ d.marks.drop 1, b.owners ++ (d.marks.drop 1).map (fun _ => (num : Int)),
   (b.nexts.set 0 (b.nexts.getD 0 [] ++ (d.nexts.getD 0 []).map fun x => b.signs.length - 1 + x)) ++ (d.nexts.drop 1).map (fun r => r.map fun x => b.signs.length - 1 + x),
   b.lasts ++ d.lasts.map fun p => if 0 < p then b.signs.length - 1 + p else 0⟩
def bsFold : Nat → List Sh → Spr → Spr
  | _, [], b => b
  | k, s :: l, b => bsFold (k + 1) l (bsStep b k (spM s))
def bs0 : Spr := ⟨[[]], [-1], [[]], []⟩
def bookM (l : List Sh) : Spr := ⟨(bsFold 0 l bs0).signs, (bsFold 0 l bs0).owners, (bsFold 0 l bs0).nexts, upN (bsFold 0 l bs0).lasts⟩
theorem bsFold_snoc : ∀ (l : List Sh) (k : Nat) (s : Sh) (b : Spr), bsFold k (l ++ [s]) b = bsStep (bsFold k l b) (k + l.length) (spM s)
  | [], k, s, b => rfl
  | x :: l, k, s, b => by
    show bsFold (k + 1) (l ++ [s]) _ = bsStep (bsFold (k + 1) l _) _ _
    rw [bsFold_snoc l (k + 1) s _, List.length_cons]
    congr 1; omega
structure BsOk (b : Spr) (w k : Nat) : Prop where
  s : b.signs.length = w + 1
  o : b.owners.length = w + 1
  n : b.nexts.length = w + 1
  r : ∀ r ∈ b.nexts, r.length ≤ 200 * (k + 1) ∧ ∀ x ∈ r, x < w + 1
  l : ∀ x ∈ b.lasts, x < w + 1
  ll : b.lasts.length ≤ w + k
  ow : ∀ x ∈ b.owners, -1 ≤ x ∧ x < (k : Int)
theorem bs0_ok : BsOk bs0 0 0 := ⟨rfl, rfl, rfl, fun r hr => by simp only [bs0, List.mem_singleton] at hr; subst hr; simp, fun x hx => by simp [bs0] at hx, by simp [bs0], fun x hx => by simp only [bs0, List.mem_singleton] at hx; subst hx; omega⟩
theorem bsStep_ok {b : Spr} {w k : Nat} {d : Spd} {v : Nat} (hb : BsOk b w k) (hd : d.Ok v) (hv : v ≤ 60) : BsOk (bsStep b k d) (w + v) (k + 1) := by
  have e1 := hb.s
  have e2 := hb.n
  have e3 := hb.o
  have e4 := hb.ll
  have d1 := hd.m
  have d2 := hd.n
  have d3 := hd.ln
  refine ⟨?_, ?_, ?_, fun r hr => ?_, fun x hx => ?_, ?_, fun x hx => ?_⟩
  · show (b.signs ++ d.marks.drop 1).length = _
    rw [List.length_append, List.length_drop]; omega
  · show (b.owners ++ (d.marks.drop 1).map _).length = _
    rw [List.length_append, List.length_map, List.length_drop]; omega
  · show ((b.nexts.set 0 _) ++ (d.nexts.drop 1).map _).length = _
    rw [List.length_append, List.length_map, List.length_drop, List.length_set]; omega
  · have e0 : b.nexts[0]? = some (b.nexts.getD 0 []) := by rw [List.getD_eq_getElem?_getD, List.getElem?_eq_getElem (by omega)]; rfl
    have f0 : d.nexts[0]? = some (d.nexts.getD 0 []) := by rw [List.getD_eq_getElem?_getD, List.getElem?_eq_getElem (by omega)]; rfl
    rcases List.mem_append.mp (show r ∈ (b.nexts.set 0 _) ++ (d.nexts.drop 1).map _ from hr) with hr | hr
    · rcases mem_set hr with rfl | hr
      · obtain ⟨h1, h2⟩ := hb.r _ (List.mem_of_getElem? e0)
        obtain ⟨h3, h4⟩ := hd.r _ (List.mem_of_getElem? f0)
        refine ⟨by rw [List.length_append, List.length_map]; omega, fun x hx => ?_⟩
        rcases List.mem_append.mp hx with hx | hx
        · have := h2 x hx; omega
        · obtain ⟨y, hy, rfl⟩ := List.mem_map.mp hx
          have := h4 y hy; omega
      · obtain ⟨h1, h2⟩ := hb.r r hr
        exact ⟨by omega, fun x hx => by have := h2 x hx; omega⟩
    · obtain ⟨z, hz, rfl⟩ := List.mem_map.mp hr
      obtain ⟨h3, h4⟩ := hd.r z (List.mem_of_mem_drop hz)
      refine ⟨by rw [List.length_map]; omega, fun x hx => ?_⟩
      obtain ⟨y, hy, rfl⟩ := List.mem_map.mp hx
      have := h4 y hy; omega
  · rcases List.mem_append.mp (show x ∈ b.lasts ++ d.lasts.map _ from hx) with hx | hx
    · have := hb.l x hx; omega
    · obtain ⟨y, hy, rfl⟩ := List.mem_map.mp hx
      have := hd.l y hy
      split <;> omega
  · show (b.lasts ++ d.lasts.map _).length ≤ _
    rw [List.length_append, List.length_map]; omega
  · rcases List.mem_append.mp (show x ∈ b.owners ++ (d.marks.drop 1).map _ from hx) with hx | hx
    · have := hb.ow x hx; omega
    · obtain ⟨y, hy, rfl⟩ := List.mem_map.mp hx
      omega
theorem bsFold_ok : ∀ (l : List Sh) (k w : Nat) (b : Spr), BsOk b w k → wts l ≤ 60 → BsOk (bsFold k l b) (w + wts l) (k + l.length)
  | [], k, w, b, h, _ => h
  | s :: l, k, w, b, h, hl => by
    have hl : s.wt + wts l ≤ 60 := hl
    have h1 := bsStep_ok h (spM_ok (s := s) (by omega)) (by omega)
    have h2 := bsFold_ok l (k + 1) (w + s.wt) _ h1 (by omega)
    have e : w + s.wt + wts l = w + wts (s :: l) := by show _ = w + (s.wt + wts l); omega
    have e2 : k + 1 + l.length = k + (s :: l).length := by rw [List.length_cons]; omega
    rw [e, e2] at h2
    exact h2
theorem max_in : ∀ (l : List Int), l ≠ [] → ∃ m ∈ l, ∀ x ∈ l, x ≤ m
  | [], h => absurd rfl h
  | [a], _ => ⟨a, by simp, fun x hx => by simp only [List.mem_singleton] at hx; omega⟩
  | a :: b :: l, _ => by
    obtain ⟨m, h1, h2⟩ := max_in (b :: l) (by simp)
    by_cases q : a ≤ m
    · exact ⟨m, List.mem_cons_of_mem _ h1, fun x hx => by
        rcases List.mem_cons.mp hx with rfl | hx
        · exact q
        · exact h2 x hx⟩
    · exact ⟨a, List.mem_cons_self, fun x hx => by
        rcases List.mem_cons.mp hx with rfl | hx
        · omega
        · have := h2 x hx; omega⟩
theorem bookM_ok {l : List Sh} (hw : wts l ≤ 10) (hl : l.length ≤ 6) : ∃ m, (bookM l).Ok m ∧ m ≤ l.length := by
  have h := bsFold_ok l 0 0 bs0 bs0_ok (by omega)
  rw [Nat.zero_add, Nat.zero_add] at h
  have e1 := h.s
  have e2 := h.o
  obtain ⟨m, h1, h2⟩ := max_in (bsFold 0 l bs0).owners (fun z => by rw [z] at e2; simp at e2)
  have h3 := h.ow m h1
  refine ⟨(m + 1).toNat, ⟨by show (bsFold 0 l bs0).signs.length ≤ 11; omega, by show (bsFold 0 l bs0).owners.length = (bsFold 0 l bs0).signs.length; omega, by show (bsFold 0 l bs0).nexts.length = (bsFold 0 l bs0).signs.length; rw [h.n, e1], fun r hr x hx => ?_, fun x hx => ?_, ?_, ?_, fun y hy => ?_, by omega, by show 1 ≤ (bsFold 0 l bs0).signs.length; omega⟩, by omega⟩
  · show x < (bsFold 0 l bs0).signs.length
    rw [e1]; exact (h.r r hr).2 x hx
  · show x < (bsFold 0 l bs0).signs.length
    rw [e1]; exact h.l x (upN_mem.mp hx)
  · refine Nat.le_trans (nodup_le (wts l + 1) _ (upN_nodup _) fun x hx => h.l x (upN_mem.mp hx)) (by omega)
  · have e : (((m + 1).toNat : Nat) : Int) - 1 = m := by omega
    rw [e]; exact h1
  · have := h2 y hy; omega
def R_bspread (ds : List PyData) (Post : PyData → Prop) : Prop := ∃ (τ : List Nat) (rs : List (Str × Sh)), ds = [bkD τ (rs.map fun r => (r.1, shD r.2))] ∧ (∀ r ∈ rs, r.2.dep ≤ 5 ∧ r.2.fit) ∧ wts (rs.map (·.2)) ≤ 10 ∧ rs.length ≤ 6 ∧ Post (bookM (rs.map (·.2))).D
theorem ixN0 {n : Nat} (h : 0 < n) : ixN n 0 = some 0 := by
  unfold ixN
  rw [if_pos (by omega), if_pos (by omega)]
  rfl
theorem cut1 {α : Type} (l : List α) (n : Nat) (h : n = l.length) : (l.drop (HT.sIx n 0 (some 1))).take (HT.sIx n n none - HT.sIx n 0 (some 1)) = l.drop 1 := by
  have e1 : HT.sIx n 0 (some 1) = min 1 n := HT.sIx_nat n 0 1
  have e2 : HT.sIx n n none = n := rfl
  rw [e1, e2]
  cases l with
  | nil => simp
  | cons a l =>
    rw [List.length_cons] at h
    have e3 : min 1 n = 1 := by omega
    rw [e3]
    show l.take (n - 1) = l
    exact List.take_of_length_le (by omega)
theorem cutD_1 (ds : List PyData) : cutD ds (some 1) none = ds.drop 1 := cut1 ds ds.length rfl
section
variable {P : Program} {w : World} {K : PySem.W.Frag} {mg : Str → Option Value} {base : Heap} {C T : Addr}
theorem cl_book_spread (t : Tx K mg C T) : Cl P w K mg base 14 "book_spread" (PF R_bspread) := by
  have sc : FnScope ["book", "signs", "owners", "nexts", "lasts", "number", "rule", "base", "marks", "rows", "ends", "mark", "row", "place", "to"] ["book"] (defScope s_book_spread) := ⟨rfl, rfl, rfl, by decide +kernel, rfl, by decide +kernel, by decide +kernel⟩
  have c_spread := cl_spread (P := P) (w := w) (base := base) t
  refine cl_pure (C := C) t.d_book_spread sc (fun _ _ _ _ _ _ us hl => match us, hl with | [_], _ => rfl) (fun ds Post h => ?_) fun f cdv A outer s H E hr => ⟨_,
    (pss_cons (ps_set (i := 1) sc.nd rfl (Or.inl rfl) (pe_lst (pa_cons pe_str pa_nil)))
  (pss_cons (ps_set (i := 2) sc.nd rfl (Or.inl rfl) (pe_lst (pa_cons (pe_un un_neg pe_int) pa_nil)))
  (pss_cons (ps_set (i := 3) sc.nd rfl (Or.inl rfl) (pe_lst (pa_cons (pe_tup pa_nil) pa_nil)))
  (pss_cons (ps_set (i := 4) sc.nd rfl (Or.inl rfl) (pe_lst pa_nil))
  (pss_cons (ps_for PassesOwn.never rfl (pi_enumT (by rfl) t.n_enumerate (pa_cons (pe_ix ix_tup (pv 0) pe_int (fun _ _ => rfl)) pa_nil)) (pg_tup rfl (pgs_cons (pg_name (i := 5) sc.nd rfl (Or.inr rfl)) (pgs_cons (pg_name (i := 6) sc.nd rfl (Or.inl rfl)) pgs_nil)))
  (pss_cons (ps_set (i := 7) sc.nd rfl (Or.inr rfl) (pe_op op_sub (pe_callB call_len_seq (by rfl) t.n_len bt_len (pa_cons (pv 1) pa_nil)) pe_int))
  (pss_cons (ps_asg (pe_cl c_spread hr (by omega) (by rfl) (pa_cons (pe_ix ix_tup (pv 6) pe_int (fun _ _ => rfl)) pa_nil)) (pg_tup rfl (pgs_cons (pg_name (i := 8) sc.nd rfl (Or.inl rfl)) (pgs_cons (pg_name (i := 9) sc.nd rfl (Or.inl rfl)) (pgs_cons (pg_name (i := 10) sc.nd rfl (Or.inl rfl)) pgs_nil)))))
  (pss_cons (ps_asg (pe_op op_catA (pe_ix ix_list (pv 3) pe_int (fun _ _ => rfl)) (pe_callTy call_tuple_of (by rfl) t.n_tuple bt_tuple (pa_cons (pe_lc (own := [("to", 14)]) (g := gName 14) rfl sc.nd (pi_tup (pe_ix ix_tup (pv 9) pe_int (fun _ _ => rfl))) (blkOk_by (N := ["book", "signs", "owners", "nexts", "lasts", "number", "rule", "base", "marks", "rows", "ends", "mark", "row", "place", "to"]) (sc := (defScope s_book_spread)) (own := [("to", 14)]) (by decide +kernel)) (fun _ _ _ _ _ => (pg_name (i := 14) sc.nd rfl (Or.inl rfl))) (fun _ _ _ _ _ => pts_nil) (fun _ _ _ _ _ => (pe_op op_add (pv 7) (pv 14)))) pa_nil))) (pg_sub (pv 3) pe_int set_list))
  (pss_cons (ps_aug (i := 1) sc.nd rfl (Or.inl rfl) (pe_slice sl_tupA (pv 8) (po_some pe_int) po_none) iop_extT)
  (pss_cons (ps_aug (i := 2) sc.nd rfl (Or.inl rfl) (pe_lc (own := [("mark", 11)]) (g := gName 11) rfl sc.nd (pi_tup (pe_slice sl_tupA (pv 8) (po_some pe_int) po_none)) (blkOk_by (N := ["book", "signs", "owners", "nexts", "lasts", "number", "rule", "base", "marks", "rows", "ends", "mark", "row", "place", "to"]) (sc := (defScope s_book_spread)) (own := [("mark", 11)]) (by decide +kernel)) (fun _ _ _ _ _ => (pg_name (i := 11) sc.nd rfl (Or.inl rfl))) (fun _ _ _ _ _ => pts_nil) (fun _ _ _ _ _ => (pv 5))) iop_ext)
  (pss_cons (ps_aug (i := 3) sc.nd rfl (Or.inl rfl) (pe_lc (own := [("row", 12)]) (g := gName 12) rfl sc.nd (pi_tup (pe_slice sl_tupA (pv 9) (po_some pe_int) po_none)) (blkOk_by (N := ["book", "signs", "owners", "nexts", "lasts", "number", "rule", "base", "marks", "rows", "ends", "mark", "row", "place", "to"]) (sc := (defScope s_book_spread)) (own := [("row", 12)]) (by decide +kernel)) (fun _ _ _ _ _ => (pg_name (i := 12) sc.nd rfl (Or.inl rfl))) (fun _ _ _ _ _ => pts_nil) (fun _ _ _ _ _ => (pe_callTy (r := fun xs H Q => ∃ p ys, xs = [V.ref p] ∧ ((SqL K H p ys ∧ ∀ l, H l = none → Q (.ref l) (upd H l (.tup ys))) ∨ (SqT K H p ys ∧ Q (.ref p) H))) call_tuple_of (by rfl) t.n_tuple bt_tuple (pa_cons (pe_lc (wi := iTup K _) (own := [("to", 14)]) (g := gName 14) rfl sc.nd (pi_tup (pv 12)) (blkOk_by (N := ["book", "signs", "owners", "nexts", "lasts", "number", "rule", "base", "marks", "rows", "ends", "mark", "row", "place", "to"]) (sc := { kind := .function, names := [(".0", .local), ("row", .local), ("tuple", .globalImplicit), ("base", .cell)], isGenerator := false, isCoroutine := false }) (own := [("to", 14)]) (by decide +kernel)) (fun _ _ _ _ _ => (pg_name (i := 14) sc.nd rfl (Or.inl rfl))) (fun _ _ _ _ _ => pts_nil) (fun _ _ _ _ _ => (pe_op op_add (pv 7) (pv 14)))) pa_nil)))) iop_ext)
  (pss_one (ps_aug (i := 4) sc.nd rfl (Or.inl rfl) (pe_lc (own := [("place", 13)]) (g := gName 13) rfl sc.nd (pi_tup (pv 10)) (blkOk_by (N := ["book", "signs", "owners", "nexts", "lasts", "number", "rule", "base", "marks", "rows", "ends", "mark", "row", "place", "to"]) (sc := (defScope s_book_spread)) (own := [("place", 13)]) (by decide +kernel)) (fun _ _ _ _ _ => (pg_name (i := 13) sc.nd rfl (Or.inl rfl))) (fun _ _ _ _ _ => pts_nil) (fun _ _ _ _ _ => (pe_ifExp (pt_cmpR op_gt (pv 13) pe_int (nomark _)) (pe_op op_add (pv 7) (pv 13)) pe_int))) iop_ext)))))))))
  (pss_one (ps_ret (pe_tup (pa_cons (pe_callTy call_tuple_of (by rfl) t.n_tuple bt_tuple (pa_cons (pv 1) pa_nil)) (pa_cons (pe_callTy call_tuple_of (by rfl) t.n_tuple bt_tuple (pa_cons (pv 2) pa_nil)) (pa_cons (pe_callTy call_tuple_of (by rfl) t.n_tuple bt_tuple (pa_cons (pv 3) pa_nil)) (pa_cons (pe_callTy call_tuple_of (by rfl) t.n_tuple bt_tuple (pa_cons (pe_callB (cr_sortedSet rfl) (by rfl) t.n_sorted bt_sorted (pa_cons (pe_callTy (cr_setL rfl) (by rfl) t.n_set bt_set (pa_cons (pv 4) pa_nil)) pa_nil)) pa_nil)) pa_nil)))))))))))), fun c ds Post hC h => ?_⟩
  · obtain ⟨_, _, rfl, _⟩ := h; rfl
  · obtain ⟨τ, rs, rfl, hsh, hw, hl, k⟩ := h
    have hwt : ∀ i, wts ((rs.map (·.2)).take i) ≤ 10 := fun i => Nat.le_trans (wts_take _ i) hw
    have part : ∀ i, BsOk (bsFold 0 ((rs.map (·.2)).take i) bs0) (wts ((rs.map (·.2)).take i)) ((rs.map (·.2)).take i).length := fun i => by
      have := bsFold_ok ((rs.map (·.2)).take i) 0 0 bs0 bs0_ok (by have := hwt i; omega)
      rw [Nat.zero_add, Nat.zero_add] at this; exact this
    refine rs_seq (rs_asgO (ds := [sD []]) (ea_1 (ev_is ev_str rfl)) (by show 1 ≤ 100000; decide) (rs_seq (rs_asgO (ds := [.int (-1)]) (ea_1 (ev_un ev_int ru_neg)) (by show 1 ≤ 100000; decide) (rs_seq (rs_asgO (ds := [rwD []]) (ea_1 (ev_tup ea_nil (by decide))) (by show 1 ≤ 100000; decide) (rs_seq (rs_asgO ea_nil (by decide) (rs_seq (rs_for (ds := enD ((rs.map fun r => (r.1, shD r.2)).map rlD)) (ei_enumT (ev_op (ev_var rfl) ev_int (rv_ixT (ix_of (j := 1) rfl rfl)))) (fun i env => ∃ x5 x6 x7 x8 x9 x10 x11 x12 x13 x14, env = [.im (bkD τ (rs.map fun r => (r.1, shD r.2))), .ow (.lst ((bsFold 0 ((rs.map (·.2)).take i) bs0).signs.map sD)), .ow (.lst (isD (bsFold 0 ((rs.map (·.2)).take i) bs0).owners)), .ow (.lst ((bsFold 0 ((rs.map (·.2)).take i) bs0).nexts.map rwD)), .ow (.lst (nsD (bsFold 0 ((rs.map (·.2)).take i) bs0).lasts)), x5, x6, x7, x8, x9, x10, x11, x12, x13, x14]) ⟨_, _, _, _, _, _, _, _, _, _, rfl⟩ ?hs ?hd)))))))))
    case hs =>
      rintro i d _ hi ⟨x5, x6, x7, x8, x9, x10, x11, x12, x13, x14, rfl⟩
      obtain ⟨q, hq, rfl⟩ := enD_get hi
      obtain ⟨r0, hr0, rfl⟩ := get_map hq
      obtain ⟨⟨nm, s⟩, hr, rfl⟩ := get_map hr0
      have hil := (List.getElem?_eq_some_iff.mp hr).1
      obtain ⟨hd, hf⟩ := hsh _ (List.mem_of_getElem? hr)
      have hsi : (rs.map (·.2))[i]? = some s := get_map' hr
      have ek : (rs.map (·.2)).take (i + 1) = (rs.map (·.2)).take i ++ [s] := take_one hsi
      have wk := hwt (i + 1)
      rw [ek, wts_snoc] at wk
      have pk := part i
      have len : ((rs.map (·.2)).take i).length = i := by rw [List.length_take, List.length_map]; omega
      rw [ek, bsFold_snoc, len, Nat.zero_add]
      rw [len] at pk
      generalize hst : bsFold 0 ((rs.map (·.2)).take i) bs0 = b at pk
      generalize hwk : wts ((rs.map (·.2)).take i) = wk0 at pk wk
      have e1 := pk.s
      have e2 := pk.n
      have e3 := pk.o
      have e4 := pk.ll
      have dk := spM_ok (s := s) (by omega)
      generalize hdd : spM s = dd at dk
      have d1 := dk.m
      have d2 := dk.n
      have d3 := dk.ln
      have e0 : b.nexts[0]? = some (b.nexts.getD 0 []) := by rw [List.getD_eq_getElem?_getD, List.getElem?_eq_getElem (by omega)]; rfl
      have f0 : dd.nexts[0]? = some (dd.nexts.getD 0 []) := by rw [List.getD_eq_getElem?_getD, List.getElem?_eq_getElem (by omega)]; rfl
      obtain ⟨h1, h2⟩ := pk.r _ (List.mem_of_getElem? e0)
      obtain ⟨h3, h4⟩ := dk.r _ (List.mem_of_getElem? f0)
      have hrow : ∀ r ∈ dd.nexts, r.length ≤ 100 := fun r hr => by have := (dk.r r hr).1; omega
      have mcut : cutD (dd.marks.map sD) (some 1) none = (dd.marks.drop 1).map sD := by rw [cutD_1, List.map_drop]
      have ncut : cutD (dd.nexts.map rwD) (some 1) none = (dd.nexts.drop 1).map rwD := by rw [cutD_1, List.map_drop]
      have md : (dd.marks.drop 1).length = s.wt := by rw [List.length_drop]; omega
      have nd : (dd.nexts.drop 1).length = s.wt := by rw [List.length_drop]; omega
      have ebase : ((b.signs.map sD).length : Int) - 1 = ((b.signs.length - 1 : Nat) : Int) := by rw [List.length_map]; omega
      have addE : ∀ (x : Nat), PyData.int (((b.signs.length - 1 : Nat) : Int) + (x : Int)) = nD (b.signs.length - 1 + x) := fun x => by
        show PyData.int _ = PyData.int _
        congr 1
      refine ⟨_, _, eg_tup (egs_cons eg_name (egs_cons eg_name egs_nil)) rfl, rs_seq (rs_asg (d := nD (b.signs.length - 1)) (ev_is (ev_op (ev_lenO rfl rfl) ev_int rv_sub) (congrArg PyData.int ebase)) ?_)⟩
      refine rs_seq (rs_asgG (d := dd.D) (ev_call (ea_1 (ev_op (ev_var rfl) ev_int (rv_ixT (ix_of (j := 1) rfl rfl)))) ⟨s, rfl, hd, hf, by omega, by rw [hdd]⟩) (eg_tup (egs_cons eg_name (egs_cons eg_name (egs_cons eg_name egs_nil))) rfl) ?_)
      refine rs_seq (rs_set (k := 0) (n := 0) (d := rwD (b.nexts.getD 0 [] ++ (dd.nexts.getD 0 []).map fun x => b.signs.length - 1 + x)) rfl rfl ?_ ev_int (ixN0 (by rw [List.length_map]; omega)) ?_)
      · refine ev_is (ev_op (ev_ixO (d := rwD (b.nexts.getD 0 [])) rfl rfl ev_int (ix_of (j := 0) rfl (get_map' (f := rwD) e0))) (ev_cb (ea_1 (ev_compG (l := dd.nexts.getD 0 []) (g0 := nD) (js := [14]) (ei_tup (ev_op (ev_var rfl) ev_int (rv_ixT (d := rwD (dd.nexts.getD 0 [])) (ix_of (j := 0) rfl (get_map' (f := rwD) f0))))) (fun x => nD (b.signs.length - 1 + x)) (by omega) (by decide) fun x hx => ⟨_, eg_name, ev_is (ev_op (ev_var rfl) (ev_var rfl) rv_add) (addE x)⟩)) rc_tup) (rv_catA (by rw [List.length_map, List.length_map]; omega))) ?_
        show PyData.tuple (nsD _ ++ _) = PyData.tuple (nsD _)
        rw [nsD_app]
        congr 2
        rw [nsD, List.map_map]
        rfl
      refine rs_seq (rs_extT (es := (dd.marks.drop 1).map sD) rfl rfl (ev_is (ev_slT (ev_var (d := .tuple (dd.marks.map sD)) rfl) (eo_some ev_int) eo_none) (congrArg PyData.tuple mcut)) (by rw [List.length_map, List.length_map]; omega) ?_)
      refine rs_seq (rs_ext (es := (dd.marks.drop 1).map fun _ => nD i) rfl rfl (ev_compG (l := dd.marks.drop 1) (g0 := sD) (js := [11]) (ei_tup (ev_is (ev_slT (ev_var (d := .tuple (dd.marks.map sD)) rfl) (eo_some ev_int) eo_none) (congrArg PyData.tuple mcut))) (fun _ => nD i) (by omega) (by decide) fun x hx => ⟨_, eg_name, ev_var rfl⟩) (by rw [List.length_map, List.length_map]; omega) ?_)
      refine rs_seq (rs_ext (es := (dd.nexts.drop 1).map fun r => rwD (r.map fun x => b.signs.length - 1 + x)) rfl rfl (ev_compG (l := dd.nexts.drop 1) (g0 := rwD) (js := [12]) (ei_tup (ev_is (ev_slT (ev_var (d := .tuple (dd.nexts.map rwD)) rfl) (eo_some ev_int) eo_none) (congrArg PyData.tuple ncut))) (fun r => rwD (r.map fun x => b.signs.length - 1 + x)) (by omega) (by decide) fun r hr => ⟨_, eg_name, ev_cb (ea_1 (ev_is (ev_compG (l := r) (g0 := nD) (js := [14]) (ei_tup (ev_var rfl)) (fun x => nD (b.signs.length - 1 + x)) (by have := hrow r (List.mem_of_mem_drop hr); omega) (by decide) fun x hx => ⟨_, eg_name, ev_is (ev_op (ev_var rfl) (ev_var rfl) rv_add) (addE x)⟩) (by rw [nsD, List.map_map]; rfl))) rc_tup⟩) (by rw [List.length_set, List.length_map, List.length_map]; omega) ?_)
      refine rs_ext (es := dd.lasts.map fun p => nD (if 0 < p then b.signs.length - 1 + p else 0)) rfl rfl (ev_compG (l := dd.lasts) (g0 := nD) (js := [13]) (ei_tup (ev_var rfl)) (fun p => nD (if 0 < p then b.signs.length - 1 + p else 0)) (by omega) (by decide) fun p hp => ⟨_, eg_name, ev_if (eb_test (ev_op (ev_var rfl) ev_int rv_I0b)) (fun h => ?_) (fun h => ?_)⟩) (by rw [List.length_map, List.length_map]; omega) ⟨.im (nD i), .im (rlD (nm, shD s)), .im (nD (b.signs.length - 1)), .im (.tuple (dd.marks.map sD)), .im (.tuple (dd.nexts.map rwD)), .im (.tuple (nsD dd.lasts)), x11, x12, x13, x14, ?_⟩
      · have h := of_decide_eq_true h
        rw [if_pos (by omega), ← addE]
        exact ev_op (ev_var rfl) (ev_var rfl) rv_add
      · have h := of_decide_eq_false h
        rw [if_neg (by omega)]
        exact ev_int
      · have g1 : (bsStep b i dd).signs.map sD = b.signs.map sD ++ (dd.marks.drop 1).map sD := List.map_append
        have g2 : isD (bsStep b i dd).owners = isD b.owners ++ (dd.marks.drop 1).map fun _ => nD i := by
          show List.map _ (b.owners ++ (dd.marks.drop 1).map _) = _
          rw [List.map_append, List.map_map]; rfl
        have g3 : (bsStep b i dd).nexts.map rwD = ((b.nexts.map rwD).set 0 (rwD (b.nexts.getD 0 [] ++ (dd.nexts.getD 0 []).map fun x => b.signs.length - 1 + x))) ++ (dd.nexts.drop 1).map fun r => rwD (r.map fun x => b.signs.length - 1 + x) := by
          show List.map rwD ((b.nexts.set 0 _) ++ (dd.nexts.drop 1).map _) = _
          rw [List.map_append, List.map_map, List.map_set]; rfl
        have g4 : nsD (bsStep b i dd).lasts = nsD b.lasts ++ dd.lasts.map fun p => nD (if 0 < p then b.signs.length - 1 + p else 0) := by
          show List.map nD (b.lasts ++ dd.lasts.map _) = _
          rw [List.map_append, List.map_map]; rfl
        rw [g1, g2, g3, g4]
        rfl
    case hd =>
      rintro _ ⟨x5, x6, x7, x8, x9, x10, x11, x12, x13, x14, rfl⟩
      have e : (enD ((rs.map fun r => (r.1, shD r.2)).map rlD)).length = (rs.map (·.2)).length := by rw [enD_len, List.length_map, List.length_map, List.length_map]
      rw [e, List.take_length]
      have pk := part (rs.map (·.2)).length
      rw [List.take_length] at pk
      have e4 := pk.ll
      rw [List.length_map] at e4
      refine rs_frz (i := 1) rfl (rs_frz (i := 2) rfl (rs_frz (i := 3) rfl (rs_frz (i := 4) rfl (rs_ret (ev_tup (ea_cons (ev_cb (ea_1 (ev_var rfl)) rc_tup) (ea_cons (ev_cb (ea_1 (ev_var rfl)) rc_tup) (ea_2 (ev_cb (ea_1 (ev_var rfl)) rc_tup) (ev_cb (ea_1 (ev_is (ev_sortedSet (ns := inR (bsFold 0 (rs.map fun r : Str × Sh => r.2) bs0).lasts) (ev_is (ev_var rfl) (congrArg PyData.list (nsD_inR _))) (by rw [List.length_map]; omega)) (congrArg PyData.list (up_back _)))) rc_tup)))) (by show 4 ≤ 100000; decide)) k))))
end
end Nr
set_option Elab.async false
set_option linter.all false
set_option maxRecDepth 100000
set_option maxHeartbeats 4000000
set_option pp.maxSteps 700
namespace Nr
open PySem PySem.Spec PyProof.Rows L2
/-! ### what is a book -/
mutual
def Sh.cnt : Sh → Nat
  | .one _ => 1
  | .row l => cnts l + 1
  | .alt l => cnts l + 1
  | .many x => x.cnt + 1
  | .times x _ _ => x.cnt + 1
def cnts : List Sh → Nat
  | [] => 0
  | x :: l => x.cnt + cnts l
end
structure Tng (σ : List Nat) : Prop where
  l : 1 ≤ σ.length
  m : σ.length ≤ 6
  nd : σ.Nodup
  s : ∀ k ∈ σ, k ∈ str_SIGNS.cps.toList
mutual
def Sh.ok (τ : List Nat) : Sh → Prop
  | .one σ => Tng σ ∧ ∀ k ∈ σ, k ∈ τ
  | .row l => l.length ≤ 6 ∧ oks τ l
  | .alt l => (1 ≤ l.length ∧ l.length ≤ 6) ∧ oks τ l
  | .many x => x.ok τ
  | .times x lo hi => (lo ≤ hi ∧ hi ≤ 4) ∧ x.ok τ
def oks (τ : List Nat) : List Sh → Prop
  | [] => True
  | x :: l => x.ok τ ∧ oks τ l
end
theorem oks_mem {τ : List Nat} : ∀ {l : List Sh} {x : Sh}, oks τ l → x ∈ l → x.ok τ
  | y :: l, x, h, hx => by
    rcases List.mem_cons.mp hx with rfl | hx
    · exact h.1
    · exact oks_mem h.2 hx
theorem inn_ok {τ : List Nat} {s : Sh} (h : s.ok τ) : ∀ x ∈ inn s, x.ok τ := by
  cases s with
  | one σ => exact fun x hx => by simp [inn] at hx
  | row l => exact fun x hx => oks_mem h.2 hx
  | alt l => exact fun x hx => oks_mem h.2 hx
  | many x => exact fun y hy => by simp only [inn, List.mem_singleton] at hy; subst hy; exact h
  | times x lo hi => exact fun y hy => by simp only [inn, List.mem_singleton] at hy; subst hy; exact h.2
mutual
theorem ok_fit {τ : List Nat} : ∀ {s : Sh}, s.ok τ → s.fit
  | .one σ, h => by have := h.1.m; show σ.length ≤ 1000; omega
  | .row l, h => ⟨by have := h.1; omega, oks_fit h.2⟩
  | .alt l, h => ⟨by have := h.1.2; omega, oks_fit h.2⟩
  | .many x, h => ok_fit (s := x) h
  | .times x lo hi, h => ⟨ok_fit h.2, by have := h.1; omega, by have := h.1; omega⟩
theorem oks_fit {τ : List Nat} : ∀ {l : List Sh}, oks τ l → fits l
  | [], _ => trivial
  | x :: l, h => ⟨ok_fit h.1, oks_fit h.2⟩
end
theorem cnt_pos : ∀ s : Sh, 1 ≤ s.cnt
  | .one _ => Nat.le_refl 1
  | .row l => Nat.le_add_left 1 _
  | .alt l => Nat.le_add_left 1 _
  | .many x => Nat.le_add_left 1 _
  | .times x _ _ => Nat.le_add_left 1 _
theorem cnts_snoc : ∀ (l : List Sh) (x : Sh), cnts (l ++ [x]) = cnts l + x.cnt
  | [], x => by show x.cnt + 0 = 0 + x.cnt; omega
  | y :: l, x => by show y.cnt + cnts (l ++ [x]) = y.cnt + cnts l + x.cnt; rw [cnts_snoc l x]; omega
theorem cnt_inn (s : Sh) : s.cnt = 1 + cnts (inn s) := by
  cases s with
  | one σ => rfl
  | row l => exact Nat.add_comm _ _
  | alt l => exact Nat.add_comm _ _
  | many x => show x.cnt + 1 = 1 + (x.cnt + 0); omega
  | times x lo hi => show x.cnt + 1 = 1 + (x.cnt + 0); omega
structure NmOk (n : Str) : Prop where
  l : 1 ≤ n.length
  m : n.length ≤ 8
  s : ∀ k ∈ n.cps.toList, k ∈ str_LETTERS.cps.toList
structure RuleOk (τ : List Nat) (r : Str × Sh) : Prop where
  n : NmOk r.1
  d : r.2.dep ≤ 5
  c : r.2.cnt ≤ 24
  o : r.2.ok τ
abbrev shR (rs : List (Str × Sh)) : List (Str × PyData) := rs.map fun r => (r.1, shD r.2)
structure BookOk (τ : List Nat) (rs : List (Str × Sh)) : Prop where
  t : Tng τ
  l : rs.length ≤ 6
  nd : (rs.map (·.1)).Nodup
  r : ∀ r ∈ rs, RuleOk τ r
  w : wts (rs.map (·.2)) ≤ 10
def R_num (ds : List PyData) (Post : PyData → Prop) : Prop := ∃ i : Int, ds = [.int i] ∧ Post (.bool true)
def R_tng (ds : List PyData) (Post : PyData → Prop) : Prop := ∃ σ, ds = [sD σ] ∧ Tng σ ∧ Post (.bool true)
def R_some (ds : List PyData) (Post : PyData → Prop) : Prop := ∃ (l : List PyData) (n : Nat), ds = [.tuple l, nD n] ∧ n ≤ l.length ∧ l.length ≤ 6 ∧ Post (.bool true)
def R_times (ds : List PyData) (Post : PyData → Prop) : Prop := ∃ lo hi : Nat, ds = [nD lo, nD hi] ∧ lo ≤ hi ∧ hi ≤ 4 ∧ Post (.bool true)
def R_form (ds : List PyData) (Post : PyData → Prop) : Prop := ∃ s τ, ds = [shD s] ∧ s.ok τ ∧ Post (.bool true)
def R_count (n : Nat) (ds : List PyData) (Post : PyData → Prop) : Prop := ∃ s τ, ds = [shD s, nD n] ∧ s.dep ≤ n ∧ s.ok τ ∧ Post (nD s.cnt)
def R_shape (ds : List PyData) (Post : PyData → Prop) : Prop := ∃ s τ, ds = [shD s] ∧ s.dep ≤ 5 ∧ s.cnt ≤ 24 ∧ s.ok τ ∧ Post (.bool true)
def R_name (ds : List PyData) (Post : PyData → Prop) : Prop := ∃ n, ds = [.str n] ∧ NmOk n ∧ Post (.bool true)
def R_of (n : Nat) (ds : List PyData) (Post : PyData → Prop) : Prop := ∃ s τ, ds = [shD s, sD τ] ∧ s.dep ≤ n ∧ s.ok τ ∧ Post (.bool true)
def R_rule (ds : List PyData) (Post : PyData → Prop) : Prop := ∃ r τ, ds = [rlD (r.1, shD r.2), sD τ] ∧ RuleOk τ r ∧ Post (.bool true)
def R_book (ds : List PyData) (Post : PyData → Prop) : Prop := ∃ τ rs, ds = [bkD τ (shR rs)] ∧ BookOk τ rs ∧ Post (.bool true)
def R_looked (ds : List PyData) (Post : PyData → Prop) : Prop := ∃ τ rs, ds = [bkD τ (shR rs)] ∧ BookOk τ rs ∧ Post (bkD τ (shR rs))
def R_asked (ds : List PyData) (Post : PyData → Prop) : Prop := ∃ a b : Nat, ds = [nD a, nD b] ∧ a < b ∧ Post .none
def R_with (ds : List PyData) (Post : PyData → Prop) : Prop := ∃ (τ : List Nat) (rs : List (Str × Sh)) (a : Nat) (r : Str × Sh), ds = [bkD τ (shR rs), nD a, rlD (r.1, shD r.2)] ∧ a ≤ rs.length ∧ BookOk τ (rs.take a ++ [r] ++ rs.drop a) ∧ Post (bkD τ (shR (rs.take a ++ [r] ++ rs.drop a)))
section
variable {P : Program} {w : World} {K : PySem.W.Frag} {mg : Str → Option Value} {base : Heap} {C T : Addr}
theorem cl_is_number (t : Tx K mg C T) : Cl P w K mg base 1 "is_number" (PF R_num) := by
  have sc : FnScope ["thing"] ["thing"] (defScope s_is_number) := ⟨rfl, rfl, rfl, by decide +kernel, rfl, by decide +kernel, by decide +kernel⟩
  refine cl_pure (C := C) t.d_is_number sc (fun _ _ _ _ _ _ us hl => match us, hl with | [_], _ => rfl) (fun ds Post h => ?_) fun f cdv A outer s H E hr => ⟨_,
    (pss_one (ps_ret (pe_and (pe_callB call_isi (by rfl) t.n_isinstance bt_isinstance (pa_cons (pv 0) (pa_cons (pe_bltn (v := .ty "int") (by rfl) t.n_int bt_int rfl) pa_nil))) (pe_one (pe_not (pe_callB call_isi (by rfl) t.n_isinstance bt_isinstance (pa_cons (pv 0) (pa_cons (pe_bltn (v := .ty "bool") (by rfl) t.n_bool bt_bool rfl) pa_nil)))))))), fun c ds Post hC h => ?_⟩
  · obtain ⟨_, rfl, _⟩ := h; rfl
  · obtain ⟨i, rfl, k⟩ := h
    exact rs_ret (ev_andV (ev_isi (b := true) (ev_var rfl) (by rfl)) fun _ => ev_notV (ev_isi (b := false) (ev_var rfl) (by rfl))) k
theorem cl_is_tongue (t : Tx K mg C T) : Cl P w K mg base 1 "is_tongue" (PF R_tng) := by
  have sc : FnScope ["thing", "sign"] ["thing"] (defScope s_is_tongue) := ⟨rfl, rfl, rfl, by decide +kernel, rfl, by decide +kernel, by decide +kernel⟩
  refine cl_pure (C := C) t.d_is_tongue sc (fun _ _ _ _ _ _ us hl => match us, hl with | [_], _ => rfl) (fun ds Post h => ?_) fun f cdv A outer s H E hr => ⟨_,
    (pss_cons (ps_if (PW.pt (pw_or (pt_not (pt_truth (pe_callB call_isi (by rfl) t.n_isinstance bt_isinstance (pa_cons (pv 0) (pa_cons (pe_bltn (v := .ty "str") (by rfl) t.n_str bt_str rfl) pa_nil))) (fun _ => rfl))) (pw_or1 (pt_not (pt_chain op_le op_le pe_int (pe_callB call_len_str (by rfl) t.n_len bt_len (pa_cons (pv 0) pa_nil)) (C8.pe_gc (by rfl) t.c_MOST_SIGNS))))))
  (pss_one (ps_ret pe_bl))
  pss_nil)
  (pss_cons (ps_for PassesOwn.never rfl (pi_str (pv 0)) (pg_name (i := 1) sc.nd rfl (Or.inl rfl))
  (pss_one (ps_if (PW.pt (pw_or (pt_cmpR op_notIn_sign (pv 1) (C8.pe_gc (by rfl) t.c_SIGNS) (by with_unfolding_all rfl)) (pw_or1 (pt_cmpR op_gt (pe_bm PySem.F.plainAttrs_str PySem.F.slot_str_count PySem.F.type_str_count mt_count (pv 0) (pa_cons (pv 1) pa_nil)) pe_int (nomark _)))))
  (pss_one (ps_ret pe_bl))
  pss_nil)))
  (pss_one (ps_ret pe_bl)))), fun c ds Post hC h => ?_⟩
  · obtain ⟨_, rfl, _⟩ := h; rfl
  · obtain ⟨σ, rfl, hσ, k⟩ := h
    have el : (⟨σ.toArray⟩ : Str).length = σ.length := by simp [Str.length]
    have h1 := hσ.l
    have h2 := hσ.m
    refine rs_seq (rs_ifF (eb_is (eb_or (eb_not (eb_tru (ev_isi (b := true) (ev_var rfl) (by rfl)))) fun _ => eb_not (eb_test (ev_chain ev_int (ev_cb (ea_1 (ev_var rfl)) (rc_lenS (by rw [el]; omega))) rv_I0b (fun _ => ev_int) (fun _ => rv_I0b)))) ?_) (rs_next ?_))
    · rw [el]; simp; omega
    refine rs_seq (rs_for (ds := strD ⟨σ.toArray⟩) (ei_str (ev_var rfl)) (fun i env => ∃ x, env = [.im (sD σ), x]) ⟨_, rfl⟩ ?_ ?_)
    · rintro i d _ hi ⟨x, rfl⟩
      obtain ⟨q, hq, rfl⟩ := get_map hi
      have hq : σ[i]? = some q := hq
      have hm := List.mem_of_getElem? hq
      refine ⟨_, _, eg_name, rs_ifF (eb_is (eb_or (eb_test (ev_op (ev_var rfl) ev_str rv_ninC)) fun _ => eb_test (ev_op (ev_bmS (ev_var rfl) (ea_1 (ev_var rfl)) rm_count rfl) ev_int rv_I0b)) ?_) (rs_next ⟨_, rfl⟩)⟩
      have e1 := hσ.s q hm
      have e2 := count_one hσ.nd q
      simp [e1]; omega
    · rintro _ ⟨x, rfl⟩
      exact rs_ret ev_bl k
theorem cl_are_some (t : Tx K mg C T) : Cl P w K mg base 1 "are_some" (PF R_some) := by
  have sc : FnScope ["thing", "least"] ["thing", "least"] (defScope s_are_some) := ⟨rfl, rfl, rfl, by decide +kernel, rfl, by decide +kernel, by decide +kernel⟩
  refine cl_pure (C := C) t.d_are_some sc (fun _ _ _ _ _ _ us hl => match us, hl with | [_, _], _ => rfl) (fun ds Post h => ?_) fun f cdv A outer s H E hr => ⟨_,
    (pss_one (ps_ret (pe_and (pe_callB call_isi (by rfl) t.n_isinstance bt_isinstance (pa_cons (pv 0) (pa_cons (pe_bltn (v := .ty "tuple") (by rfl) t.n_tuple bt_tuple rfl) pa_nil))) (pe_one (pe_chain op_le op_le (pv 1) (pe_callB call_len_seq (by rfl) t.n_len bt_len (pa_cons (pv 0) pa_nil)) (C8.pe_gc (by rfl) t.c_MOST_IN)))))), fun c ds Post hC h => ?_⟩
  · obtain ⟨_, _, rfl, _⟩ := h; rfl
  · obtain ⟨l, n, rfl, h1, h2, k⟩ := h
    refine rs_ret (ev_is (ev_andV (ev_isi (b := true) (ev_var rfl) (by rfl)) fun _ => ev_chain (ev_var rfl) (ev_cb (ea_1 (ev_var rfl)) rc_lenT) rv_I0b (fun _ => ev_int) (fun _ => rv_I0b)) ?_) k
    congr 1
    simp; omega
theorem cl_are_times (t : Tx K mg C T) : Cl P w K mg base 2 "are_times" (PF R_times) := by
  have sc : FnScope ["low", "high"] ["low", "high"] (defScope s_are_times) := ⟨rfl, rfl, rfl, by decide +kernel, rfl, by decide +kernel, by decide +kernel⟩
  have c_is_number := cl_is_number (P := P) (w := w) (base := base) t
  refine cl_pure (C := C) t.d_are_times sc (fun _ _ _ _ _ _ us hl => match us, hl with | [_, _], _ => rfl) (fun ds Post h => ?_) fun f cdv A outer s H E hr => ⟨_,
    (pss_one (ps_ret (pe_and (pe_cl c_is_number hr (by omega) (by rfl) (pa_cons (pv 0) pa_nil)) (pe_and (pe_cl c_is_number hr (by omega) (by rfl) (pa_cons (pv 1) pa_nil)) (pe_one (pe_chain3 op_le op_le op_le pe_int (pv 0) (pv 1) (C8.pe_gc (by rfl) t.c_MOST_TIMES))))))), fun c ds Post hC h => ?_⟩
  · obtain ⟨_, _, rfl, _⟩ := h; rfl
  · obtain ⟨lo, hi, rfl, h1, h2, k⟩ := h
    refine rs_ret (ev_is (ev_andV (a := true) (ev_call (ea_1 (ev_var rfl)) ⟨_, rfl, rfl⟩) fun _ => ev_andV (a := true) (ev_call (ea_1 (ev_var rfl)) ⟨_, rfl, rfl⟩) fun _ => ev_chain3 ev_int (ev_var rfl) rv_I0b (fun _ => ev_var rfl) (fun _ => rv_I0b) (fun _ _ => ev_int) (fun _ _ => rv_I0b)) ?_) k
    congr 1
    simp; omega
theorem cl_is_form (t : Tx K mg C T) : Cl P w K mg base 3 "is_form" (PF R_form) := by
  have sc : FnScope ["thing"] ["thing"] (defScope s_is_form) := ⟨rfl, rfl, rfl, by decide +kernel, rfl, by decide +kernel, by decide +kernel⟩
  have c_are_times := cl_are_times (P := P) (w := w) (base := base) t
  have c_are_some := cl_are_some (P := P) (w := w) (base := base) t
  have c_is_tongue := cl_is_tongue (P := P) (w := w) (base := base) t
  refine cl_pure (C := C) t.d_is_form sc (fun _ _ _ _ _ _ us hl => match us, hl with | [_], _ => rfl) (fun ds Post h => ?_) fun f cdv A outer s H E hr => ⟨_,
    (pss_cons (ps_if (PW.pt (pw_or (pt_not (pt_truth (pe_callB call_isi (by rfl) t.n_isinstance bt_isinstance (pa_cons (pv 0) (pa_cons (pe_bltn (v := .ty "tuple") (by rfl) t.n_tuple bt_tuple rfl) pa_nil))) (fun _ => rfl))) (pw_or (pt_cmpR op_lt (pe_callB call_len_seq (by rfl) t.n_len bt_len (pa_cons (pv 0) pa_nil)) pe_int (nomark _)) (pw_or1 (pt_not (pt_truth (pe_callB call_isi (by rfl) t.n_isinstance bt_isinstance (pa_cons (pe_ix ix_tup (pv 0) pe_int (fun _ _ => rfl)) (pa_cons (pe_bltn (v := .ty "str") (by rfl) t.n_str bt_str rfl) pa_nil))) (fun _ => rfl)))))))
  (pss_one (ps_ret pe_bl))
  pss_nil)
  (pss_cons (ps_if (pt_cmpR op_eq (pe_ix ix_tup (pv 0) pe_int (fun _ _ => rfl)) pe_str (nomark _))
  (pss_one (ps_ret (pe_and (pe_cmpR op_eq (pe_callB call_len_seq (by rfl) t.n_len bt_len (pa_cons (pv 0) pa_nil)) pe_int (nomark _)) (pe_one (pe_cl c_are_times hr (by omega) (by rfl) (pa_cons (pe_ix ix_tup (pv 0) pe_int (fun _ _ => rfl)) (pa_cons (pe_ix ix_tup (pv 0) pe_int (fun _ _ => rfl)) pa_nil)))))))
  pss_nil)
  (pss_cons (ps_if (pt_cmpR op_ne (pe_callB call_len_seq (by rfl) t.n_len bt_len (pa_cons (pv 0) pa_nil)) pe_int (nomark _))
  (pss_one (ps_ret pe_bl))
  pss_nil)
  (pss_cons (ps_if (pt_cmpR op_eq (pe_ix ix_tup (pv 0) pe_int (fun _ _ => rfl)) pe_str (nomark _))
  (pss_one (ps_ret (pe_cl c_is_tongue hr (by omega) (by rfl) (pa_cons (pe_ix ix_tup (pv 0) pe_int (fun _ _ => rfl)) pa_nil))))
  pss_nil)
  (pss_cons (ps_if (pt_cmpR op_eq (pe_ix ix_tup (pv 0) pe_int (fun _ _ => rfl)) pe_str (nomark _))
  (pss_one (ps_ret (pe_cl c_are_some hr (by omega) (by rfl) (pa_cons (pe_ix ix_tup (pv 0) pe_int (fun _ _ => rfl)) (pa_cons pe_int pa_nil)))))
  pss_nil)
  (pss_cons (ps_if (pt_cmpR op_eq (pe_ix ix_tup (pv 0) pe_int (fun _ _ => rfl)) pe_str (nomark _))
  (pss_one (ps_ret (pe_cl c_are_some hr (by omega) (by rfl) (pa_cons (pe_ix ix_tup (pv 0) pe_int (fun _ _ => rfl)) (pa_cons pe_int pa_nil)))))
  pss_nil)
  (pss_one (ps_ret (pe_cmpR op_eq (pe_ix ix_tup (pv 0) pe_int (fun _ _ => rfl)) pe_str (nomark _)))))))))), fun c ds Post hC h => ?_⟩
  · obtain ⟨_, _, rfl, _⟩ := h; rfl
  · obtain ⟨s, τ, rfl, hs, k⟩ := h
    cases s with
    | one σ =>
      refine rs_seq (rs_ifF (eb_is (eb_or (eb_not (eb_tru (ev_isi (b := true) (ev_var rfl) (by rfl)))) fun _ => eb_or (eb_test (ev_op (ev_cb (ea_1 (ev_var rfl)) rc_lenT) ev_int rv_I0b)) fun _ => eb_not (eb_tru (ev_isi (b := true) (ev_op (ev_var rfl) ev_int (rv_ixT (ix_of (j := 0) rfl rfl))) (by rfl)))) (by rfl)) (rs_next ?_))
      refine rs_seq (rs_ifF (eb_test (ev_is (ev_op (ev_op (ev_var rfl) ev_int (rv_ixT (ix_of (j := 0) rfl rfl))) ev_str rv_eqS) (by rfl))) (rs_next (rs_seq (rs_ifF (eb_test (ev_is (ev_op (ev_cb (ea_1 (ev_var rfl)) rc_lenT) ev_int rv_neI) (by rfl))) (rs_next (rs_seq (rs_ifT (eb_test (ev_is (ev_op (ev_op (ev_var rfl) ev_int (rv_ixT (ix_of (j := 0) rfl rfl))) ev_str rv_eqS) (by rfl))) ?_)))))))
      exact rs_ret (ev_call (ea_1 (ev_op (ev_var rfl) ev_int (rv_ixT (ix_of (j := 1) rfl rfl)))) ⟨σ, rfl, hs.1, rfl⟩) k
    | row l =>
      refine rs_seq (rs_ifF (eb_is (eb_or (eb_not (eb_tru (ev_isi (b := true) (ev_var rfl) (by rfl)))) fun _ => eb_or (eb_test (ev_op (ev_cb (ea_1 (ev_var rfl)) rc_lenT) ev_int rv_I0b)) fun _ => eb_not (eb_tru (ev_isi (b := true) (ev_op (ev_var rfl) ev_int (rv_ixT (ix_of (j := 0) rfl rfl))) (by rfl)))) (by rfl)) (rs_next ?_))
      refine rs_seq (rs_ifF (eb_test (ev_is (ev_op (ev_op (ev_var rfl) ev_int (rv_ixT (ix_of (j := 0) rfl rfl))) ev_str rv_eqS) (by rfl))) (rs_next (rs_seq (rs_ifF (eb_test (ev_is (ev_op (ev_cb (ea_1 (ev_var rfl)) rc_lenT) ev_int rv_neI) (by rfl))) (rs_next (rs_seq (rs_ifF (eb_test (ev_is (ev_op (ev_op (ev_var rfl) ev_int (rv_ixT (ix_of (j := 0) rfl rfl))) ev_str rv_eqS) (by rfl))) (rs_next (rs_seq (rs_ifT (eb_test (ev_is (ev_op (ev_op (ev_var rfl) ev_int (rv_ixT (ix_of (j := 0) rfl rfl))) ev_str rv_eqS) (by rfl))) ?_))))))))))
      exact rs_ret (ev_call (ea_2 (ev_op (ev_var rfl) ev_int (rv_ixT (ix_of (j := 1) rfl rfl))) ev_int) ⟨shsD l, 0, rfl, Nat.zero_le _, by rw [shsD_map, List.length_map]; exact hs.1, rfl⟩) k
    | alt l =>
      refine rs_seq (rs_ifF (eb_is (eb_or (eb_not (eb_tru (ev_isi (b := true) (ev_var rfl) (by rfl)))) fun _ => eb_or (eb_test (ev_op (ev_cb (ea_1 (ev_var rfl)) rc_lenT) ev_int rv_I0b)) fun _ => eb_not (eb_tru (ev_isi (b := true) (ev_op (ev_var rfl) ev_int (rv_ixT (ix_of (j := 0) rfl rfl))) (by rfl)))) (by rfl)) (rs_next ?_))
      refine rs_seq (rs_ifF (eb_test (ev_is (ev_op (ev_op (ev_var rfl) ev_int (rv_ixT (ix_of (j := 0) rfl rfl))) ev_str rv_eqS) (by rfl))) (rs_next (rs_seq (rs_ifF (eb_test (ev_is (ev_op (ev_cb (ea_1 (ev_var rfl)) rc_lenT) ev_int rv_neI) (by rfl))) (rs_next (rs_seq (rs_ifF (eb_test (ev_is (ev_op (ev_op (ev_var rfl) ev_int (rv_ixT (ix_of (j := 0) rfl rfl))) ev_str rv_eqS) (by rfl))) (rs_next (rs_seq (rs_ifF (eb_test (ev_is (ev_op (ev_op (ev_var rfl) ev_int (rv_ixT (ix_of (j := 0) rfl rfl))) ev_str rv_eqS) (by rfl))) (rs_next (rs_seq (rs_ifT (eb_test (ev_is (ev_op (ev_op (ev_var rfl) ev_int (rv_ixT (ix_of (j := 0) rfl rfl))) ev_str rv_eqS) (by rfl))) ?_)))))))))))))
      exact rs_ret (ev_call (ea_2 (ev_op (ev_var rfl) ev_int (rv_ixT (ix_of (j := 1) rfl rfl))) ev_int) ⟨shsD l, 1, rfl, by rw [shsD_map, List.length_map]; exact hs.1.1, by rw [shsD_map, List.length_map]; exact hs.1.2, rfl⟩) k
    | many x =>
      refine rs_seq (rs_ifF (eb_is (eb_or (eb_not (eb_tru (ev_isi (b := true) (ev_var rfl) (by rfl)))) fun _ => eb_or (eb_test (ev_op (ev_cb (ea_1 (ev_var rfl)) rc_lenT) ev_int rv_I0b)) fun _ => eb_not (eb_tru (ev_isi (b := true) (ev_op (ev_var rfl) ev_int (rv_ixT (ix_of (j := 0) rfl rfl))) (by rfl)))) (by rfl)) (rs_next ?_))
      refine rs_seq (rs_ifF (eb_test (ev_is (ev_op (ev_op (ev_var rfl) ev_int (rv_ixT (ix_of (j := 0) rfl rfl))) ev_str rv_eqS) (by rfl))) (rs_next (rs_seq (rs_ifF (eb_test (ev_is (ev_op (ev_cb (ea_1 (ev_var rfl)) rc_lenT) ev_int rv_neI) (by rfl))) (rs_next (rs_seq (rs_ifF (eb_test (ev_is (ev_op (ev_op (ev_var rfl) ev_int (rv_ixT (ix_of (j := 0) rfl rfl))) ev_str rv_eqS) (by rfl))) (rs_next (rs_seq (rs_ifF (eb_test (ev_is (ev_op (ev_op (ev_var rfl) ev_int (rv_ixT (ix_of (j := 0) rfl rfl))) ev_str rv_eqS) (by rfl))) (rs_next (rs_seq (rs_ifF (eb_test (ev_is (ev_op (ev_op (ev_var rfl) ev_int (rv_ixT (ix_of (j := 0) rfl rfl))) ev_str rv_eqS) (by rfl))) (rs_next ?_))))))))))))))
      exact rs_ret (ev_is (ev_op (ev_op (ev_var rfl) ev_int (rv_ixT (ix_of (j := 0) rfl rfl))) ev_str rv_eqS) (by rfl)) k
    | times x lo hi =>
      refine rs_seq (rs_ifF (eb_is (eb_or (eb_not (eb_tru (ev_isi (b := true) (ev_var rfl) (by rfl)))) fun _ => eb_or (eb_test (ev_op (ev_cb (ea_1 (ev_var rfl)) rc_lenT) ev_int rv_I0b)) fun _ => eb_not (eb_tru (ev_isi (b := true) (ev_op (ev_var rfl) ev_int (rv_ixT (ix_of (j := 0) rfl rfl))) (by rfl)))) (by rfl)) (rs_next ?_))
      refine rs_seq (rs_ifT (eb_test (ev_is (ev_op (ev_op (ev_var rfl) ev_int (rv_ixT (ix_of (j := 0) rfl rfl))) ev_str rv_eqS) (by rfl))) ?_)
      exact rs_ret (ev_andV (a := true) (b := true) (ev_is (ev_op (ev_cb (ea_1 (ev_var rfl)) rc_lenT) ev_int rv_eqI) (by rfl)) fun _ => ev_call (ea_2 (ev_op (ev_var rfl) ev_int (rv_ixT (d := nD lo) (ix_of (j := 2) rfl rfl))) (ev_op (ev_var rfl) ev_int (rv_ixT (d := nD hi) (ix_of (j := 3) rfl rfl)))) ⟨lo, hi, rfl, hs.1.1, hs.1.2, rfl⟩) k
end
end Nr
set_option Elab.async false
set_option linter.all false
set_option maxRecDepth 100000
set_option maxHeartbeats 4000000
set_option pp.maxSteps 700
namespace Nr
open PySem PySem.Spec PyProof.Rows L2
section
variable {P : Program} {w : World} {K : PySem.W.Frag} {mg : Str → Option Value} {base : Heap} {C T : Addr}
theorem cl_counted (t : Tx K mg C T) : ∀ n, Cl P w K mg base (n + 4) "counted" (PF (R_count n)) := by
  have sc : FnScope ["thing", "deep", "found", "part", "below"] ["thing", "deep"] (defScope s_counted) := ⟨rfl, rfl, rfl, by decide +kernel, rfl, by decide +kernel, by decide +kernel⟩
  have c_is_form := cl_is_form (P := P) (w := w) (base := base) t
  have c_inner := cl_inner (P := P) (w := w) (base := base) t
  intro n
  induction n with
  | zero => exact cl_vac (C := C) t.d_counted sc (fun _ _ _ _ _ _ us hl => match us, hl with | [_, _], _ => rfl) fun ds Post ⟨s, _, _, h, _⟩ => by have := dep_pos s; omega
  | succ n ih =>
    have c_counted := ih
    refine cl_pure (k := n + 4) (C := C) t.d_counted sc (fun _ _ _ _ _ _ us hl => match us, hl with | [_, _], _ => rfl) (fun ds Post h => ?_) fun f cdv A outer s H E hr => ⟨_,
      (pss_cons (ps_if (PW.pt (pw_or (pt_cmpR op_eq (pv 1) pe_int (nomark _)) (pw_or1 (pt_not (pt_truth (pe_cl c_is_form hr (by omega) (by rfl) (pa_cons (pv 0) pa_nil)) (fun _ => rfl))))))
  (pss_one (ps_ret pe_int))
  pss_nil)
  (pss_cons (ps_set (i := 2) sc.nd rfl (Or.inl rfl) pe_int)
  (pss_cons (ps_for PassesOwn.never rfl (pi_tup (pe_cl c_inner hr (by omega) (by rfl) (pa_cons (pv 0) pa_nil))) (pg_name (i := 3) sc.nd rfl (Or.inl rfl))
  (pss_cons (ps_set (i := 4) sc.nd rfl (Or.inl rfl) (pe_cl c_counted hr (by omega) (by rfl) (pa_cons (pv 3) (pa_cons (pe_op op_sub (pv 1) pe_int) pa_nil))))
  (pss_cons (ps_if (pt_cmpR op_eq (pv 4) pe_int (nomark _))
  (pss_one (ps_ret pe_int))
  pss_nil)
  (pss_one (ps_set (i := 2) sc.nd rfl (Or.inl rfl) (pe_op op_add (pv 2) (pv 4)))))))
  (pss_one (ps_ret (pv 2)))))), fun c ds Post hC h => ?_⟩
    · obtain ⟨_, _, rfl, _⟩ := h; rfl
    · obtain ⟨s, τ, rfl, hd, hs, k⟩ := h
      have hfit := (inn_fit (ok_fit hs)).1
      refine rs_seq (rs_ifF (eb_is (eb_or (eb_test (ev_op (ev_var rfl) ev_int rv_eqI)) fun _ => eb_not (eb_tru (b := true) (ev_call (ea_1 (ev_var rfl)) ⟨s, τ, rfl, hs, rfl⟩))) (by simp; omega)) (rs_next (rs_seq (rs_asg (d := nD 1) ev_int (rs_seq (rs_for (ds := (inn s).map shD) (ei_tup (ev_call (ea_1 (ev_var rfl)) ⟨s, rfl, rfl⟩)) (fun i env => ∃ x y, env = [.im (shD s), .im (nD (n + 1)), .im (nD (1 + cnts ((inn s).take i))), x, y]) ⟨_, _, rfl⟩ ?hs ?hd))))))
      case hs =>
        rintro i d _ hi ⟨x, y, rfl⟩
        obtain ⟨p, hp, rfl⟩ := get_map hi
        have hm := List.mem_of_getElem? hp
        have e : (inn s).take (i + 1) = (inn s).take i ++ [p] := take_one hp
        have pos := cnt_pos p
        refine ⟨_, _, eg_name, rs_seq (rs_asg (d := nD p.cnt) (ev_call (ea_2 (ev_var rfl) (ev_is (e := nD n) (ev_op (ev_var rfl) ev_int rv_sub) (by show PyData.int _ = PyData.int _; congr 1; omega))) ⟨p, τ, rfl, inn_dep hd p hm, inn_ok hs p hm, rfl⟩) (rs_seq (rs_ifF (eb_test (ev_is (ev_op (ev_var rfl) ev_int rv_eqI) (by congr 1; exact decide_eq_false (by omega)))) (rs_next (rs_asg (ev_op (ev_var rfl) (ev_var rfl) rv_add) ⟨.im (shD p), .im (nD p.cnt), ?_⟩)))))⟩
        rw [e, cnts_snoc]
        show [_, _, Sl.im (PyData.int (((1 + cnts ((inn s).take i) : Nat) : Int) + (p.cnt : Nat))), _, _] = [_, _, Sl.im (PyData.int ((1 + (cnts ((inn s).take i) + p.cnt) : Nat) : Int)), _, _]
        rw [show (((1 + cnts ((inn s).take i) : Nat) : Int) + (p.cnt : Nat)) = ((1 + (cnts ((inn s).take i) + p.cnt) : Nat) : Int) by omega]
      case hd =>
        rintro _ ⟨x, y, rfl⟩
        rw [List.length_map, List.take_length]
        refine rs_ret (ev_var rfl) ?_
        rw [← cnt_inn]
        exact k
theorem cl_is_shape (t : Tx K mg C T) : Cl P w K mg base 10 "is_shape" (PF R_shape) := by
  have sc : FnScope ["thing"] ["thing"] (defScope s_is_shape) := ⟨rfl, rfl, rfl, by decide +kernel, rfl, by decide +kernel, by decide +kernel⟩
  have c_counted := cl_counted (P := P) (w := w) (base := base) t 5
  refine cl_pure (k := 9) (C := C) t.d_is_shape sc (fun _ _ _ _ _ _ us hl => match us, hl with | [_], _ => rfl) (fun ds Post h => ?_) fun f cdv A outer s H E hr => ⟨_,
    (pss_one (ps_ret (pe_chain op_le op_le pe_int (pe_cl c_counted hr (by omega) (by rfl) (pa_cons (pv 0) (pa_cons (C8.pe_gc (by rfl) t.c_DEEPEST) pa_nil))) (C8.pe_gc (by rfl) t.c_MOST_PARTS)))), fun c ds Post hC h => ?_⟩
  · obtain ⟨_, _, rfl, _⟩ := h; rfl
  · obtain ⟨s, τ, rfl, hd, hc, hs, k⟩ := h
    have pos := cnt_pos s
    refine rs_ret (ev_is (ev_chain ev_int (ev_call (ea_2 (ev_var rfl) (ev_is (e := nD 5) ev_int rfl)) ⟨s, τ, rfl, hd, hs, rfl⟩) rv_I0b (fun _ => ev_int) (fun _ => rv_I0b)) ?_) k
    congr 1
    simp; omega
theorem cl_is_name (t : Tx K mg C T) : Cl P w K mg base 1 "is_name" (PF R_name) := by
  have sc : FnScope ["thing", "letter"] ["thing"] (defScope s_is_name) := ⟨rfl, rfl, rfl, by decide +kernel, rfl, by decide +kernel, by decide +kernel⟩
  refine cl_pure (C := C) t.d_is_name sc (fun _ _ _ _ _ _ us hl => match us, hl with | [_], _ => rfl) (fun ds Post h => ?_) fun f cdv A outer s H E hr => ⟨_,
    (pss_cons (ps_if (PW.pt (pw_or (pt_not (pt_truth (pe_callB call_isi (by rfl) t.n_isinstance bt_isinstance (pa_cons (pv 0) (pa_cons (pe_bltn (v := .ty "str") (by rfl) t.n_str bt_str rfl) pa_nil))) (fun _ => rfl))) (pw_or1 (pt_not (pt_chain op_le op_le pe_int (pe_callB call_len_str (by rfl) t.n_len bt_len (pa_cons (pv 0) pa_nil)) (C8.pe_gc (by rfl) t.c_MOST_LETTERS))))))
  (pss_one (ps_ret pe_bl))
  pss_nil)
  (pss_cons (ps_for PassesOwn.never rfl (pi_str (pv 0)) (pg_name (i := 1) sc.nd rfl (Or.inl rfl))
  (pss_one (ps_if (pt_cmpR op_notIn_sign (pv 1) (C8.pe_gc (by rfl) t.c_LETTERS) (by with_unfolding_all rfl))
  (pss_one (ps_ret pe_bl))
  pss_nil)))
  (pss_one (ps_ret pe_bl)))), fun c ds Post hC h => ?_⟩
  · obtain ⟨_, rfl, _⟩ := h; rfl
  · obtain ⟨n, rfl, hn, k⟩ := h
    have h1 := hn.l
    have h2 := hn.m
    refine rs_seq (rs_ifF (eb_is (eb_or (eb_not (eb_tru (ev_isi (b := true) (ev_var rfl) (by rfl)))) fun _ => eb_not (eb_test (ev_chain ev_int (ev_cb (ea_1 (ev_var rfl)) (rc_lenS (by omega))) rv_I0b (fun _ => ev_int) (fun _ => rv_I0b)))) ?_) (rs_next ?_))
    · simp; omega
    refine rs_seq (rs_for (ds := strD n) (ei_str (ev_var rfl)) (fun i env => ∃ x, env = [.im (.str n), x]) ⟨_, rfl⟩ ?_ ?_)
    · rintro i d _ hi ⟨x, rfl⟩
      obtain ⟨q, hq, rfl⟩ := get_map hi
      have e1 := hn.s q (List.mem_of_getElem? hq)
      exact ⟨_, _, eg_name, rs_ifF (eb_is (eb_test (ev_op (ev_var rfl) ev_str rv_ninC)) (by simp [e1])) (rs_next ⟨_, rfl⟩)⟩
    · rintro _ ⟨x, rfl⟩
      exact rs_ret ev_bl k
theorem eqv_nil : PyData.eqv (.list []) (.list []) = true := by simp [PyData.eqv, PyData.eqvAll]
theorem shaped_nil : SeqAt.shaped (.list []) = true := by rfl
theorem cl_is_of (t : Tx K mg C T) : ∀ n, Cl P w K mg base (n + 1) "is_of" (PF (R_of n)) := by
  have sc : FnScope ["shape", "tongue", "sign", "part"] ["shape", "tongue"] (defScope s_is_of) := ⟨rfl, rfl, rfl, by decide +kernel, rfl, by decide +kernel, by decide +kernel⟩
  intro n
  induction n with
  | zero => exact cl_vac (C := C) t.d_is_of sc (fun _ _ _ _ _ _ us hl => match us, hl with | [_, _], _ => rfl) fun ds Post ⟨s, _, _, h, _⟩ => by have := dep_pos s; omega
  | succ n ih =>
    have c_is_of := ih
    refine cl_pure (k := n + 1) (C := C) t.d_is_of sc (fun _ _ _ _ _ _ us hl => match us, hl with | [_, _], _ => rfl) (fun ds Post h => ?_) fun f cdv A outer s H E hr => ⟨_,
      (pss_cons (ps_if (pt_cmpR op_eq (pe_ix ix_tup (pv 0) pe_int (fun _ _ => rfl)) pe_str (nomark _))
  (pss_one (ps_ret (pe_cmpR (op_eqD hr.units) (pe_lc (own := [("sign", 2)]) (g := gName 2) rfl sc.nd (pi_str (pe_ix ix_tup (pv 0) pe_int (fun _ _ => rfl))) (blkOk_by (N := ["shape", "tongue", "sign", "part"]) (sc := (defScope s_is_of)) (own := [("sign", 2)]) (by decide +kernel)) (fun _ _ _ _ _ => (pg_name (i := 2) sc.nd rfl (Or.inl rfl))) (fun _ _ _ _ _ => (pts_one (pt_cmpR op_notIn_sign (pv 2) (pv 1) (by with_unfolding_all rfl)))) (fun _ _ _ _ _ => (pv 2))) (pe_lst pa_nil) (nomark _))))
  pss_nil)
  (pss_cons (ps_if (pt_cmpR op_in_seq (pe_ix ix_tup (pv 0) pe_int (fun _ _ => rfl)) (pe_tup (pa_cons pe_str (pa_cons pe_str pa_nil))) (by with_unfolding_all rfl))
  (pss_one (ps_ret (pe_cmpR (op_eqD hr.units) (pe_lc (own := [("part", 3)]) (g := gName 3) rfl sc.nd (pi_tup (pe_ix ix_tup (pv 0) pe_int (fun _ _ => rfl))) (blkOk_by (N := ["shape", "tongue", "sign", "part"]) (sc := (defScope s_is_of)) (own := [("part", 3)]) (by decide +kernel)) (fun _ _ _ _ _ => (pg_name (i := 3) sc.nd rfl (Or.inl rfl))) (fun _ _ _ _ _ => (pts_one (pt_not (pt_truthK (K := K) rfl (pe_cl c_is_of hr (by omega) (by rfl) (pa_cons (pv 3) (pa_cons (pv 1) pa_nil))) (fun _ => rfl))))) (fun _ _ _ _ _ => (pv 3))) (pe_lst pa_nil) (nomark _))))
  pss_nil)
  (pss_one (ps_ret (pe_cl c_is_of hr (by omega) (by rfl) (pa_cons (pe_ix ix_tup (pv 0) pe_int (fun _ _ => rfl)) (pa_cons (pv 1) pa_nil))))))), fun c ds Post hC h => ?_⟩
    · obtain ⟨_, _, rfl, _⟩ := h; rfl
    · obtain ⟨s, τ, rfl, hd, hs, k⟩ := h
      have hdn := inn_dep hd
      have hok := inn_ok hs
      have hfit := (inn_fit (ok_fit hs)).1
      have lst : ∀ (l : List Sh), l.length ≤ 1000 → (∀ x ∈ l, x.dep ≤ n ∧ x.ok τ) → ∀ {c : Ct} {te : TE} {env : List Sl}, EvE c te env (.tuple (l.map shD)) → env.length = 4 → env[1]? = some (.im (sD τ)) → EvE c (tOp (rEqD K) (tLc (iTup K te) (gName 3) (tNot fun σ H Q => tCall (PF (R_of n)) [] E0 (tCons (tVar 3) (tCons (tVar 1) tNil)) σ H fun x H' => ∃ k, TruV K x H' k ∧ Q k H') (tVar 3) [3]) (tLst tNil)) env (.bool true) := fun l hl hx {c te env} he hlen h1 => by
        refine ev_is (ev_op (ev_is (ev_compF (l := l) (g0 := shD) (js := [3]) (ei_tup he) (fun _ => false) shD (by omega) (by decide) fun x hx2 => ⟨_, eg_name, eb_not (a := true) (eb_tru (ev_call (ea_2 (ev_var ?_) (ev_var ?_)) ⟨x, τ, rfl, (hx x hx2).1, (hx x hx2).2, rfl⟩)), fun q => by cases q⟩) (show PyData.list _ = .list [] by rw [List.filter_eq_nil_iff.mpr fun x hx => by simp]; rfl)) (ev_lst ea_nil (by decide)) (rv_eqD shaped_nil shaped_nil)) (by rw [eqv_nil])
        · show ((env.set 3 Sl.no).set 3 _)[3]? = _
          rw [List.getElem?_set_self (by rw [List.length_set]; omega)]
        · show ((env.set 3 Sl.no).set 3 _)[1]? = _
          rw [List.getElem?_set_ne (by omega), List.getElem?_set_ne (by omega)]
          exact h1
      cases s with
      | one σ =>
        refine rs_seq (rs_ifT (eb_test (ev_is (ev_op (ev_op (ev_var rfl) ev_int (rv_ixT (ix_of (j := 0) rfl rfl))) ev_str rv_eqS) (by rfl))) ?_)
        have hl := hs.1.m
        refine rs_ret (ev_is (ev_op (ev_is (ev_compF (l := σ) (g0 := fun k => .str ⟨#[k]⟩) (js := [2]) (by exact ei_str (s := ⟨σ.toArray⟩) (ev_op (ev_var rfl) ev_int (rv_ixT (ix_of (j := 1) rfl rfl)))) (fun k => !decide (k ∈ τ)) (fun k => .str ⟨#[k]⟩) (by omega) (by decide) fun x hx => ⟨_, eg_name, eb_test (ev_op (ev_var rfl) (ev_var rfl) rv_ninC), fun _ => ev_var rfl⟩) (show PyData.list _ = .list [] by
          rw [List.filter_eq_nil_iff.mpr fun x hx => by simp [hs.2 x hx]]; rfl)) (ev_lst ea_nil (by decide)) (rv_eqD shaped_nil shaped_nil)) (by rw [eqv_nil])) k
      | row l =>
        refine rs_seq (rs_ifF (eb_test (ev_is (ev_op (ev_op (ev_var rfl) ev_int (rv_ixT (ix_of (j := 0) rfl rfl))) ev_str rv_eqS) (by rfl))) (rs_next (rs_seq (rs_ifT (eb_test (ev_is (ev_op (ev_op (ev_var rfl) ev_int (rv_ixT (ix_of (j := 0) rfl rfl))) (ev_tup (ea_2 ev_str ev_str) (by show 2 ≤ 100000; decide)) (rv_inT (zs := ["row", "either"]))) (by rfl))) ?_))))
        exact rs_ret (lst l hfit (fun x hx => ⟨hdn x hx, hok x hx⟩) (ev_op (ev_var rfl) ev_int (rv_ixT (d := .tuple (l.map shD)) (ix_of (j := 1) rfl (by rw [← shsD_map]; rfl)))) rfl rfl) k
      | alt l =>
        refine rs_seq (rs_ifF (eb_test (ev_is (ev_op (ev_op (ev_var rfl) ev_int (rv_ixT (ix_of (j := 0) rfl rfl))) ev_str rv_eqS) (by rfl))) (rs_next (rs_seq (rs_ifT (eb_test (ev_is (ev_op (ev_op (ev_var rfl) ev_int (rv_ixT (ix_of (j := 0) rfl rfl))) (ev_tup (ea_2 ev_str ev_str) (by show 2 ≤ 100000; decide)) (rv_inT (zs := ["row", "either"]))) (by rfl))) ?_))))
        exact rs_ret (lst l hfit (fun x hx => ⟨hdn x hx, hok x hx⟩) (ev_op (ev_var rfl) ev_int (rv_ixT (d := .tuple (l.map shD)) (ix_of (j := 1) rfl (by rw [← shsD_map]; rfl)))) rfl rfl) k
      | many x =>
        refine rs_seq (rs_ifF (eb_test (ev_is (ev_op (ev_op (ev_var rfl) ev_int (rv_ixT (ix_of (j := 0) rfl rfl))) ev_str rv_eqS) (by rfl))) (rs_next (rs_seq (rs_ifF (eb_test (ev_is (ev_op (ev_op (ev_var rfl) ev_int (rv_ixT (ix_of (j := 0) rfl rfl))) (ev_tup (ea_2 ev_str ev_str) (by show 2 ≤ 100000; decide)) (rv_inT (zs := ["row", "either"]))) (by rfl))) (rs_next ?_)))))
        exact rs_ret (ev_call (ea_2 (ev_op (ev_var rfl) ev_int (rv_ixT (ix_of (j := 1) rfl rfl))) (ev_var rfl)) ⟨x, τ, rfl, hdn x (List.mem_singleton.mpr rfl), hs, rfl⟩) k
      | times x lo hi =>
        refine rs_seq (rs_ifF (eb_test (ev_is (ev_op (ev_op (ev_var rfl) ev_int (rv_ixT (ix_of (j := 0) rfl rfl))) ev_str rv_eqS) (by rfl))) (rs_next (rs_seq (rs_ifF (eb_test (ev_is (ev_op (ev_op (ev_var rfl) ev_int (rv_ixT (ix_of (j := 0) rfl rfl))) (ev_tup (ea_2 ev_str ev_str) (by show 2 ≤ 100000; decide)) (rv_inT (zs := ["row", "either"]))) (by rfl))) (rs_next ?_)))))
        exact rs_ret (ev_call (ea_2 (ev_op (ev_var rfl) ev_int (rv_ixT (ix_of (j := 1) rfl rfl))) (ev_var rfl)) ⟨x, τ, rfl, hdn x (List.mem_singleton.mpr rfl), hs.2, rfl⟩) k
theorem cl_is_rule (t : Tx K mg C T) : Cl P w K mg base 11 "is_rule" (PF R_rule) := by
  have sc : FnScope ["thing", "tongue"] ["thing", "tongue"] (defScope s_is_rule) := ⟨rfl, rfl, rfl, by decide +kernel, rfl, by decide +kernel, by decide +kernel⟩
  have c_is_name := cl_is_name (P := P) (w := w) (base := base) t
  have c_is_shape := cl_is_shape (P := P) (w := w) (base := base) t
  have c_is_of := cl_is_of (P := P) (w := w) (base := base) t 5
  refine cl_pure (k := 10) (C := C) t.d_is_rule sc (fun _ _ _ _ _ _ us hl => match us, hl with | [_, _], _ => rfl) (fun ds Post h => ?_) fun f cdv A outer s H E hr => ⟨_,
    (pss_cons (ps_if (PW.pt (pw_or (pt_not (pt_truth (pe_callB call_isi (by rfl) t.n_isinstance bt_isinstance (pa_cons (pv 0) (pa_cons (pe_bltn (v := .ty "tuple") (by rfl) t.n_tuple bt_tuple rfl) pa_nil))) (fun _ => rfl))) (pw_or1 (pt_cmpR op_ne (pe_callB call_len_seq (by rfl) t.n_len bt_len (pa_cons (pv 0) pa_nil)) pe_int (nomark _)))))
  (pss_one (ps_ret pe_bl))
  pss_nil)
  (pss_one (ps_ret (pe_and (pe_cl c_is_name hr (by omega) (by rfl) (pa_cons (pe_ix ix_tup (pv 0) pe_int (fun _ _ => rfl)) pa_nil)) (pe_and (pe_cl c_is_shape hr (by omega) (by rfl) (pa_cons (pe_ix ix_tup (pv 0) pe_int (fun _ _ => rfl)) pa_nil)) (pe_one (pe_cl c_is_of hr (by omega) (by rfl) (pa_cons (pe_ix ix_tup (pv 0) pe_int (fun _ _ => rfl)) (pa_cons (pv 1) pa_nil))))))))), fun c ds Post hC h => ?_⟩
  · obtain ⟨_, _, rfl, _⟩ := h; rfl
  · obtain ⟨r, τ, rfl, hr2, k⟩ := h
    refine rs_seq (rs_ifF (eb_is (eb_or (eb_not (eb_tru (ev_isi (b := true) (ev_var rfl) (by rfl)))) fun _ => eb_test (ev_op (ev_cb (ea_1 (ev_var rfl)) rc_lenT) ev_int rv_neI)) (by rfl)) (rs_next ?_))
    exact rs_ret (ev_andV (a := true) (ev_call (ea_1 (ev_op (ev_var rfl) ev_int (rv_ixT (ix_of (j := 0) rfl rfl)))) ⟨r.1, rfl, hr2.n, rfl⟩) fun _ => ev_andV (a := true) (ev_call (ea_1 (ev_op (ev_var rfl) ev_int (rv_ixT (ix_of (j := 1) rfl rfl)))) ⟨r.2, τ, rfl, hr2.d, hr2.c, hr2.o, rfl⟩) fun _ => ev_call (ea_2 (ev_op (ev_var rfl) ev_int (rv_ixT (ix_of (j := 1) rfl rfl))) (ev_var rfl)) ⟨r.2, τ, rfl, hr2.d, hr2.o, rfl⟩) k
theorem cl_is_book (t : Tx K mg C T) : Cl P w K mg base 12 "is_book" (PF R_book) := by
  have sc : FnScope ["thing", "rules", "names", "rule"] ["thing"] (defScope s_is_book) := ⟨rfl, rfl, rfl, by decide +kernel, rfl, by decide +kernel, by decide +kernel⟩
  have c_is_tongue := cl_is_tongue (P := P) (w := w) (base := base) t
  have c_is_rule := cl_is_rule (P := P) (w := w) (base := base) t
  refine cl_pure (k := 11) (C := C) t.d_is_book sc (fun _ _ _ _ _ _ us hl => match us, hl with | [_], _ => rfl) (fun ds Post h => ?_) fun f cdv A outer s H E hr => ⟨_,
    (pss_cons (ps_if (PW.pt (pw_or (pt_not (pt_truth (pe_callB call_isi (by rfl) t.n_isinstance bt_isinstance (pa_cons (pv 0) (pa_cons (pe_bltn (v := .ty "tuple") (by rfl) t.n_tuple bt_tuple rfl) pa_nil))) (fun _ => rfl))) (pw_or (pt_cmpR op_ne (pe_callB call_len_seq (by rfl) t.n_len bt_len (pa_cons (pv 0) pa_nil)) pe_int (nomark _)) (pw_or1 (pt_not (pt_truth (pe_cl c_is_tongue hr (by omega) (by rfl) (pa_cons (pe_ix ix_tup (pv 0) pe_int (fun _ _ => rfl)) pa_nil)) (fun _ => rfl)))))))
  (pss_one (ps_ret pe_bl))
  pss_nil)
  (pss_cons (ps_set (i := 1) sc.nd rfl (Or.inl rfl) (pe_ix ix_tup (pv 0) pe_int (fun _ _ => rfl)))
  (pss_cons (ps_if (PW.pt (pw_or (pt_not (pt_truth (pe_callB call_isi (by rfl) t.n_isinstance bt_isinstance (pa_cons (pv 1) (pa_cons (pe_bltn (v := .ty "tuple") (by rfl) t.n_tuple bt_tuple rfl) pa_nil))) (fun _ => rfl))) (pw_or1 (pt_cmpR op_gt (pe_callB call_len_seq (by rfl) t.n_len bt_len (pa_cons (pv 1) pa_nil)) (C8.pe_gc (by rfl) t.c_MOST_RULES) (nomark _)))))
  (pss_one (ps_ret pe_bl))
  pss_nil)
  (pss_cons (ps_set (i := 2) sc.nd rfl (Or.inl rfl) (pe_lst pa_nil))
  (pss_cons (ps_for PassesOwn.never rfl (pi_tup (pv 1)) (pg_name (i := 3) sc.nd rfl (Or.inl rfl))
  (pss_cons (ps_if (PW.pt (pw_or (pt_not (pt_truth (pe_cl c_is_rule hr (by omega) (by rfl) (pa_cons (pv 3) (pa_cons (pe_ix ix_tup (pv 0) pe_int (fun _ _ => rfl)) pa_nil))) (fun _ => rfl))) (pw_or1 (pt_cmpR op_in_seq (pe_ix ix_tup (pv 3) pe_int (fun _ _ => rfl)) (pv 2) (by with_unfolding_all rfl)))))
  (pss_one (ps_ret pe_bl))
  pss_nil)
  (pss_one (ps_expr (pe_bm PySem.F.plainAttrs_list PySem.F.slot_list_append PySem.F.type_list_append mt_append (pv 2) (pa_cons (pe_ix ix_tup (pv 3) pe_int (fun _ _ => rfl)) pa_nil))))))
  (pss_one (ps_ret pe_bl))))))), fun c ds Post hC h => ?_⟩
  · obtain ⟨_, _, rfl, _⟩ := h; rfl
  · obtain ⟨τ, rs, rfl, hb, k⟩ := h
    have hl := hb.l
    refine rs_seq (rs_ifF (eb_is (eb_or (eb_not (eb_tru (ev_isi (b := true) (ev_var rfl) (by rfl)))) fun _ => eb_or (eb_test (ev_op (ev_cb (ea_1 (ev_var rfl)) rc_lenT) ev_int rv_neI)) fun _ => eb_not (eb_tru (b := true) (ev_call (ea_1 (ev_op (ev_var rfl) ev_int (rv_ixT (ix_of (j := 0) rfl rfl)))) ⟨τ, rfl, hb.t, rfl⟩))) (by rfl)) (rs_next ?_))
    refine rs_seq (rs_asg (ev_op (ev_var rfl) ev_int (rv_ixT (d := .tuple ((shR rs).map rlD)) (ix_of (j := 1) rfl rfl))) (rs_seq (rs_ifF (eb_is (eb_or (eb_not (eb_tru (ev_isi (b := true) (ev_var rfl) (by rfl)))) fun _ => eb_test (ev_op (ev_cb (ea_1 (ev_var rfl)) rc_lenT) ev_int rv_I0b)) ?_) (rs_next ?_))))
    · rw [List.length_map, List.length_map]; simp; omega
    refine rs_seq (rs_asgO ea_nil (by decide) (rs_seq (rs_for (ds := (shR rs).map rlD) (ei_tup (ev_var rfl)) (fun i env => ∃ x, env = [.im (bkD τ (shR rs)), .im (.tuple ((shR rs).map rlD)), .ow (.lst (((rs.take i).map (·.1)).map .str)), x]) ⟨_, rfl⟩ ?hs ?hd)))
    case hs =>
      rintro i d _ hi ⟨x, rfl⟩
      obtain ⟨q, hq, rfl⟩ := get_map hi
      obtain ⟨r, hr1, rfl⟩ := get_map hq
      have hm := List.mem_of_getElem? hr1
      have hil := (List.getElem?_eq_some_iff.mp hr1).1
      have hnin : r.1 ∉ (rs.take i).map (·.1) := fun z => by
        have nd := hb.nd
        have e : rs = rs.take i ++ rs.drop i := (List.take_append_drop i rs).symm
        rw [e, List.map_append, List.nodup_append] at nd
        refine nd.2.2 r.1 z r.1 ?_ rfl
        rw [List.drop_eq_getElem_cons hil, List.map_cons]
        rw [List.getElem?_eq_getElem hil] at hr1
        rw [Option.some.inj hr1]
        exact List.mem_cons_self
      refine ⟨_, _, eg_name, rs_seq (rs_ifF (eb_is (eb_or (eb_not (eb_tru (b := true) (ev_call (ea_2 (ev_var rfl) (ev_op (ev_var rfl) ev_int (rv_ixT (ix_of (j := 0) rfl rfl)))) ⟨r, τ, rfl, hb.r r hm, rfl⟩))) fun _ => eb_test (rv_inO rfl rfl (ev_op (ev_var rfl) ev_int (rv_ixT (ix_of (j := 0) rfl rfl))))) ?_) (rs_next (rs_app rfl rfl (ev_op (ev_var rfl) ev_int (rv_ixT (ix_of (j := 0) rfl rfl))) ?_ ⟨.im (rlD (r.1, shD r.2)), ?_⟩)))⟩
      · rw [decide_eq_false hnin]; rfl
      · rw [List.length_map, List.length_map, List.length_take]; omega
      · rw [take_one hr1, List.map_append, List.map_append]
        rfl
    case hd =>
      rintro _ ⟨x, rfl⟩
      exact rs_ret ev_bl k
theorem cl_looked_book (t : Tx K mg C T) : Cl P w K mg base 13 "looked_book" (PF R_looked) := by
  have sc : FnScope ["thing", "name", "shape"] ["thing"] (defScope s_looked_book) := ⟨rfl, rfl, rfl, by decide +kernel, rfl, by decide +kernel, by decide +kernel⟩
  have c_is_book := cl_is_book (P := P) (w := w) (base := base) t
  have c_weight := cl_weight (P := P) (w := w) (base := base) t 5
  refine cl_pure (k := 12) (C := C) t.d_looked_book sc (fun _ _ _ _ _ _ us hl => match us, hl with | [_], _ => rfl) (fun ds Post h => ?_) fun f cdv A outer s H E hr => ⟨_,
    (pss_cons (ps_if (pt_not (pt_truth (pe_cl c_is_book hr (by omega) (by rfl) (pa_cons (pv 0) pa_nil)) (fun _ => rfl)))
  (pss_one ps_never)
  pss_nil)
  (pss_cons (ps_if (pt_cmpR op_gt (pe_callB (cr_sum rfl) (by rfl) t.n_sum bt_sum (pa_cons (pe_lc (own := [("name", 1), ("shape", 2)]) (g := gTup K 2 (gCons (gName 1) (gCons (gName 2) gNil))) rfl sc.nd (pi_tup (pe_ix ix_tup (pv 0) pe_int (fun _ _ => rfl))) (blkOk_by (N := ["thing", "name", "shape"]) (sc := (defScope s_looked_book)) (own := [("name", 1), ("shape", 2)]) (by decide +kernel)) (fun _ _ _ _ _ => (pg_tup rfl (pgs_cons (pg_name (i := 1) sc.nd rfl (Or.inl rfl)) (pgs_cons (pg_name (i := 2) sc.nd rfl (Or.inl rfl)) pgs_nil)))) (fun _ _ _ _ _ => pts_nil) (fun _ _ _ _ _ => (pe_cl c_weight hr (by omega) (by rfl) (pa_cons (pv 2) pa_nil)))) pa_nil)) (C8.pe_gc (by rfl) t.c_MOST_WEIGHT) (nomark _))
  (pss_one ps_never)
  pss_nil)
  (pss_one (ps_ret (pv 0))))), fun c ds Post hC h => ?_⟩
  · obtain ⟨_, _, rfl, _⟩ := h; rfl
  · obtain ⟨τ, rs, rfl, hb, k⟩ := h
    have hl := hb.l
    have hw := hb.w
    refine rs_seq (rs_ifF (eb_not (a := true) (eb_tru (ev_call (ea_1 (ev_var rfl)) ⟨τ, rs, rfl, hb, rfl⟩))) (rs_next (rs_seq (rs_ifF (eb_test (ev_is (ev_op (ev_is (e := nD (wts (rs.map (·.2)))) (ev_cb (ea_1 (ev_is (ev_compG (l := rs) (g0 := fun r => rlD (r.1, shD r.2)) (js := [1, 2]) (ei_tup (ev_is (ev_op (ev_var rfl) ev_int (rv_ixT (d := .tuple ((shR rs).map rlD)) (ix_of (j := 1) rfl rfl))) (congrArg PyData.tuple (by rw [List.map_map]; rfl)))) (fun r => nD r.2.wt) (by omega) (by decide) fun r hr2 => ⟨_, eg_tup (egs_cons eg_name (egs_cons eg_name egs_nil)) rfl, ev_call (ea_1 (ev_var rfl)) ⟨r.2, rfl, (hb.r r hr2).d, ok_fit (hb.r r hr2).o, rfl⟩⟩) (by rw [List.map_map, List.map_map]; rfl))) (rc_sum (ns := (rs.map fun r => r.2.wt).map fun n : Nat => (n : Int)))) ?_) ev_int rv_I0b) ?_)) (rs_next (rs_ret (ev_var rfl) k))))))
    · rw [sum_nat, wts_map, List.map_map]; rfl
    · congr 1; exact decide_eq_false (by omega)
theorem cl_asked_place (t : Tx K mg C T) : Cl P w K mg base 2 "asked_place" (PF R_asked) := by
  have sc : FnScope ["at", "below"] ["at", "below"] (defScope s_asked_place) := ⟨rfl, rfl, rfl, by decide +kernel, rfl, by decide +kernel, by decide +kernel⟩
  have c_is_number := cl_is_number (P := P) (w := w) (base := base) t
  refine cl_pure (C := C) t.d_asked_place sc (fun _ _ _ _ _ _ us hl => match us, hl with | [_, _], _ => rfl) (fun ds Post h => ?_) fun f cdv A outer s H E hr => ⟨_,
    (pss_one (ps_if (PW.pt (pw_or (pt_not (pt_truth (pe_cl c_is_number hr (by omega) (by rfl) (pa_cons (pv 0) pa_nil)) (fun _ => rfl))) (pw_or1 (pt_not (pt_chain op_le op_lt pe_int (pv 0) (pv 1))))))
  (pss_one ps_never)
  pss_nil)), fun c ds Post hC h => ?_⟩
  · obtain ⟨_, _, rfl, _⟩ := h; rfl
  · obtain ⟨a, b, rfl, hab, k⟩ := h
    refine rs_ifF (eb_is (eb_or (eb_not (eb_tru (b := true) (ev_call (ea_1 (ev_var rfl)) ⟨_, rfl, rfl⟩))) fun _ => eb_not (eb_test (ev_chain ev_int (ev_var rfl) rv_I0b (fun _ => ev_var rfl) (fun _ => rv_I0b)))) ?_) (rs_next k)
    simp; omega
theorem cutD_lo (ds : List PyData) {a : Nat} (h : a ≤ ds.length) : cutD ds none (some (a : Int)) = ds.take a := by
  show (ds.drop 0).take (HT.sIx ds.length ds.length (some (a : Int)) - 0) = _
  rw [HT.sIx_nat, Nat.min_eq_left h]
  rfl
theorem cutD_hi (ds : List PyData) {a : Nat} (h : a ≤ ds.length) : cutD ds (some (a : Int)) none = ds.drop a := by
  show (ds.drop (HT.sIx ds.length 0 (some (a : Int)))).take (ds.length - HT.sIx ds.length 0 (some (a : Int))) = _
  rw [HT.sIx_nat, Nat.min_eq_left h]
  exact List.take_of_length_le (by rw [List.length_drop]; omega)
theorem cl_with_rule (t : Tx K mg C T) : Cl P w K mg base 14 "with_rule" (PF R_with) := by
  have sc : FnScope ["book", "at", "rule", "tongue", "rules"] ["book", "at", "rule"] (defScope s_with_rule) := ⟨rfl, rfl, rfl, by decide +kernel, rfl, by decide +kernel, by decide +kernel⟩
  have c_asked_place := cl_asked_place (P := P) (w := w) (base := base) t
  have c_looked_book := cl_looked_book (P := P) (w := w) (base := base) t
  refine cl_pure (k := 13) (C := C) t.d_with_rule sc (fun _ _ _ _ _ _ us hl => match us, hl with | [_, _, _], _ => rfl) (fun ds Post h => ?_) fun f cdv A outer s H E hr => ⟨_,
    (pss_cons (ps_asg (pv 0) (pg_tup rfl (pgs_cons (pg_name (i := 3) sc.nd rfl (Or.inl rfl)) (pgs_cons (pg_name (i := 4) sc.nd rfl (Or.inl rfl)) pgs_nil))))
  (pss_cons (ps_expr (pe_cl c_asked_place hr (by omega) (by rfl) (pa_cons (pv 1) (pa_cons (pe_op op_add (pe_callB call_len_seq (by rfl) t.n_len bt_len (pa_cons (pv 4) pa_nil)) pe_int) pa_nil))))
  (pss_one (ps_ret (pe_cl c_looked_book hr (by omega) (by rfl) (pa_cons (pe_tup (pa_cons (pv 3) (pa_cons (pe_op op_catA (pe_op op_catA (pe_slice sl_tupA (pv 4) po_none (po_some (pv 1))) (pe_tup (pa_cons (pv 2) pa_nil))) (pe_slice sl_tupA (pv 4) (po_some (pv 1)) po_none)) pa_nil))) pa_nil)))))), fun c ds Post hC h => ?_⟩
  · obtain ⟨_, _, _, _, rfl, _⟩ := h; rfl
  · obtain ⟨τ, rs, a, r, rfl, ha, hb, k⟩ := h
    have hl := hb.l
    rw [List.length_append, List.length_append, List.length_take, List.length_drop] at hl
    have e1 : ((shR rs).map rlD).length = rs.length := by rw [List.length_map, List.length_map]
    refine rs_seq (rs_asgG (ev_var rfl) (eg_tup (egs_cons eg_name (egs_cons eg_name egs_nil)) rfl) (rs_seq (rs_drop (d := .none) (ev_call (ea_2 (ev_var rfl) (ev_is (e := nD (rs.length + 1)) (ev_op (ev_cb (ea_1 (ev_var rfl)) rc_lenT) ev_int rv_add) (by rw [e1]; rfl))) ⟨a, rs.length + 1, rfl, by omega, rfl⟩) ?_)))
    refine rs_ret (ev_call (ea_1 (ev_is (e := bkD τ (shR (rs.take a ++ [r] ++ rs.drop a))) (ev_tup (ea_2 (ev_var rfl) (ev_op (ev_op (ev_slT (ev_var rfl) eo_none (eo_some (ev_var rfl))) (ev_tup (ea_1 (ev_var rfl)) (by show 1 ≤ 100000; decide)) (rv_catA ?_)) (ev_slT (ev_var rfl) (eo_some (ev_var rfl)) eo_none) (rv_catA ?_))) (by show 2 ≤ 100000; decide)) ?_)) ⟨τ, _, rfl, hb, rfl⟩) k
    · rw [cutD_lo _ (by rw [e1]; exact ha), List.length_take, e1]; simp; omega
    · rw [cutD_lo _ (by rw [e1]; exact ha), cutD_hi _ (by rw [e1]; exact ha), List.length_append, List.length_take, List.length_drop, e1]; simp; omega
    · rw [cutD_lo _ (by rw [e1]; exact ha), cutD_hi _ (by rw [e1]; exact ha)]
      unfold bkD shR
      rw [List.map_append, List.map_append, List.map_append, List.map_append, List.map_take, List.map_take, List.map_drop, List.map_drop]
      rfl
end
end Nr
set_option Elab.async false
set_option linter.all false
set_option maxRecDepth 100000
set_option maxHeartbeats 4000000
set_option pp.maxSteps 700
namespace Nr
open PySem PySem.Spec PyProof.Rows L2
/-! ### numbers by first meeting, in plain -/
section
variable {α : Type} [DecidableEq α]
theorem ixG_lt {us : List α} {k : α} (h : k ∈ us) : ixG us k < us.length := List.idxOf_lt_length_of_mem h
theorem ixG_get {us : List α} {k : α} (h : k ∈ us) : us[ixG us k]? = some k := by
  unfold ixG
  rw [List.getElem?_eq_getElem (List.idxOf_lt_length_of_mem h)]
  simp
theorem ixG_app {us t : List α} {k : α} (h : k ∈ us) : ixG (us ++ t) k = ixG us k := by
  unfold ixG
  rw [List.idxOf_append, if_pos h]
theorem addG_pre (us : List α) (k : α) : ∃ t, addG us k = us ++ t := by
  unfold addG
  split
  · exact ⟨[], by simp⟩
  · exact ⟨[k], rfl⟩
theorem foldG_pre : ∀ (ts us : List α), ∃ t, ts.foldl addG us = us ++ t
  | [], us => ⟨[], by simp⟩
  | x :: ts, us => by
    obtain ⟨t, e⟩ := addG_pre us x
    obtain ⟨u, e2⟩ := foldG_pre ts (addG us x)
    exact ⟨t ++ u, by show ts.foldl addG (addG us x) = _; rw [e2, e, List.append_assoc]⟩
/-- the keys met, in order -/
def metG (ks : List α) : List α := ks.foldl addG []
theorem metG_mem {ks : List α} {k : α} : k ∈ metG ks ↔ k ∈ ks := by
  unfold metG
  rw [foldG_mem]
  simp
theorem numM_len (ks : List α) : (numM ks).length = ks.length := by unfold numM; rw [List.length_map]
theorem numM_get {ks : List α} {i : Nat} {k : α} (h : ks[i]? = some k) : (numM ks)[i]? = some (ixG (metG ks) k) := get_map' h
theorem numM_eq {ks : List α} {i j : Nat} (hi : i < ks.length) (hj : j < ks.length) : (numM ks).getD i 0 = (numM ks).getD j 0 ↔ ks[i]? = ks[j]? := by
  have ei := numM_get (List.getElem?_eq_getElem hi)
  have ej := numM_get (List.getElem?_eq_getElem hj)
  rw [List.getD_eq_getElem?_getD, List.getD_eq_getElem?_getD, ei, ej, List.getElem?_eq_getElem hi, List.getElem?_eq_getElem hj]
  show ixG _ _ = ixG _ _ ↔ _
  constructor
  · intro h
    have a := ixG_get (us := metG ks) (metG_mem.mpr (List.getElem_mem hi))
    have b := ixG_get (us := metG ks) (metG_mem.mpr (List.getElem_mem hj))
    rw [h, b] at a
    exact a.symm
  · intro h
    rw [Option.some.inj h]
theorem numM_lt {ks : List α} : ∀ x ∈ numM ks, x < (metG ks).length := fun x hx => by
  obtain ⟨k, hk, rfl⟩ := List.mem_map.mp (show x ∈ ks.map _ from hx)
  exact ixG_lt (metG_mem.mpr hk)
def frF (fs : List Nat) (p : Nat × Nat) : List Nat := if p.1 = fs.length then fs ++ [p.2] else fs
theorem frs_inv (ks : List α) : ∀ i, i ≤ ks.length → (((numM ks).zipIdx.take i).foldl frF []).length = (metG (ks.take i)).length ∧ ∀ c r : Nat, (((numM ks).zipIdx.take i).foldl frF [])[c]? = some r → r < i ∧ ks[r]? = (metG (ks.take i))[c]? := by
  intro i
  induction i with
  | zero => intro _; exact ⟨rfl, fun c r h => by simp at h⟩
  | succ i ih =>
    intro hi
    obtain ⟨h1, h2⟩ := ih (by omega)
    have hk : ks[i]? = some ks[i] := List.getElem?_eq_getElem (by omega)
    generalize ks[i] = k at hk
    have hz : (numM ks).zipIdx[i]? = some (ixG (metG ks) k, i) := by rw [List.getElem?_zipIdx, numM_get hk]; simp
    have em : metG (ks.take (i + 1)) = addG (metG (ks.take i)) k := by
      unfold metG
      rw [take_one hk, List.foldl_append]; rfl
    obtain ⟨t, et⟩ : ∃ t, metG ks = metG (ks.take (i + 1)) ++ t := by
      have e : ks = ks.take (i + 1) ++ ks.drop (i + 1) := (List.take_append_drop _ _).symm
      obtain ⟨t, et⟩ := foldG_pre (ks.drop (i + 1)) (metG (ks.take (i + 1)))
      refine ⟨t, ?_⟩
      rw [← et]
      unfold metG
      rw [← List.foldl_append, ← e]
    rw [take_one hz, List.foldl_append]
    show (frF _ _).length = _ ∧ ∀ c r : Nat, (frF _ _)[c]? = some r → _
    rw [em]
    by_cases q : k ∈ metG (ks.take i)
    · have e1 : addG (metG (ks.take i)) k = metG (ks.take i) := if_pos q
      have e2 : ixG (metG ks) k = ixG (metG (ks.take i)) k := by rw [et, em, e1, ixG_app q]
      have lt := ixG_lt q
      have e3 : frF (((numM ks).zipIdx.take i).foldl frF []) (ixG (metG ks) k, i) = ((numM ks).zipIdx.take i).foldl frF [] := if_neg (by rw [e2, h1]; dsimp only; omega)
      rw [e3, e1]
      exact ⟨h1, fun c r h => by have := h2 c r h; exact ⟨by omega, this.2⟩⟩
    · have e1 : addG (metG (ks.take i)) k = metG (ks.take i) ++ [k] := if_neg q
      have e2 : ixG (metG ks) k = (metG (ks.take i)).length := by
        rw [et, em, e1, ixG_app (by simp), ixG_new q]
      have e3 : frF (((numM ks).zipIdx.take i).foldl frF []) (ixG (metG ks) k, i) = ((numM ks).zipIdx.take i).foldl frF [] ++ [i] := if_pos (by rw [e2, h1])
      rw [e3, e1]
      refine ⟨by rw [List.length_append, List.length_append, h1]; rfl, fun c r h => ?_⟩
      by_cases hc : c < (((numM ks).zipIdx.take i).foldl frF []).length
      · rw [List.getElem?_append_left hc] at h
        have := h2 c r h
        exact ⟨by omega, by rw [List.getElem?_append_left (by omega)]; exact this.2⟩
      · have hc2 : c = (((numM ks).zipIdx.take i).foldl frF []).length := by
          have := (List.getElem?_eq_some_iff.mp h).1
          rw [List.length_append, List.length_singleton] at this
          omega
        rw [hc2, List.getElem?_append_right (Nat.le_refl _), Nat.sub_self] at h
        have h : i = r := Option.some.inj h
        subst h
        refine ⟨by omega, ?_⟩
        rw [hc2, h1, List.getElem?_append_right (Nat.le_refl _), Nat.sub_self]
        exact hk
theorem frsM_eq (marks : List Nat) : frsM marks = marks.zipIdx.foldl frF [] := rfl
theorem frs_num (ks : List α) : (frsM (numM ks)).length = (metG ks).length ∧ ∀ c r : Nat, (frsM (numM ks))[c]? = some r → r < ks.length ∧ (numM ks).getD r 0 = c := by
  have h := frs_inv ks ks.length (Nat.le_refl _)
  have e : (numM ks).zipIdx.take ks.length = (numM ks).zipIdx := List.take_of_length_le (by rw [List.length_zipIdx, numM_len]; exact Nat.le_refl _)
  rw [e, List.take_length] at h
  refine ⟨h.1, fun c r hr => ?_⟩
  obtain ⟨h1, h2⟩ := h.2 c r hr
  refine ⟨h1, ?_⟩
  have hc := (List.getElem?_eq_some_iff.mp hr).1
  have hcl : c < (metG ks).length := by have := h.1; rw [frsM_eq] at hc; omega
  have hk : ks[r]? = some (metG ks)[c] := by rw [h2]; exact List.getElem?_eq_getElem hcl
  rw [List.getD_eq_getElem?_getD, numM_get hk]
  show ixG (metG ks) _ = c
  unfold ixG
  exact List.Nodup.idxOf_getElem (foldG_nodup ks List.nodup_nil) c hcl
theorem max_num {ks : List α} (h : ks ≠ []) : maxL (numM ks) + 1 = (metG ks).length := by
  have h1 := numM_lt (ks := ks) _ (maxL_mem (l := numM ks) (fun z => h (List.eq_nil_of_length_eq_zero (by rw [← numM_len, z]; rfl))))
  obtain ⟨h2, h3⟩ := frs_num ks
  have hl : (metG ks).length - 1 < (frsM (numM ks)).length := by omega
  obtain ⟨h4, h5⟩ := h3 _ _ (List.getElem?_eq_getElem hl)
  have h6 : (numM ks).getD (frsM (numM ks))[(metG ks).length - 1] 0 ∈ numM ks := getD_mem (by rw [numM_len]; exact h4)
  have := maxL_le h6
  omega
end
theorem surj_le : ∀ (n : Nat) (L : List Nat), (∀ p, p < n → p ∈ L) → n ≤ L.length
  | 0, L, _ => Nat.zero_le _
  | n + 1, L, h => by
    have h1 := surj_le n (L.erase n) fun p hp => (List.mem_erase_of_ne (by omega)).mpr (h p (by omega))
    have h2 := List.length_erase_of_mem (h n (by omega))
    have h3 := List.length_pos_of_mem (h n (by omega))
    omega
theorem surj_nodup : ∀ (n : Nat) (L : List Nat), (∀ p, p < n → p ∈ L) → L.length ≤ n → L.Nodup
  | 0, L, _, hl => by
    have : L = [] := List.eq_nil_of_length_eq_zero (by omega)
    rw [this]; exact List.nodup_nil
  | n + 1, L, h, hl => by
    have hn := h n (by omega)
    have h2 := List.length_erase_of_mem hn
    have h3 := List.length_pos_of_mem hn
    have h4 : ∀ p, p < n → p ∈ L.erase n := fun p hp => (List.mem_erase_of_ne (by omega)).mpr (h p (by omega))
    have nd := surj_nodup n (L.erase n) h4 (by omega)
    have nin : n ∉ L.erase n := fun z => by
      have h5 := surj_le n ((L.erase n).erase n) fun p hp => (List.mem_erase_of_ne (by omega)).mpr (h4 p hp)
      have h6 := List.length_erase_of_mem z
      have h7 := List.length_pos_of_mem z
      omega
    exact (List.perm_cons_erase hn).nodup_iff.mpr (List.nodup_cons.mpr ⟨nin, nd⟩)
/-! ### the classes are stable -/
def finK (goes : List (List Nat)) (marks : List Nat) : List (List Nat) := goes.zipIdx.map fun p => marks.getD p.2 0 :: p.1.map fun x => marks.getD x 0
theorem finK_get {goes : List (List Nat)} {marks : List Nat} {i : Nat} (h : i < goes.length) : (finK goes marks)[i]? = some (marks.getD i 0 :: (goes.getD i []).map fun x => marks.getD x 0) := by
  unfold finK
  have e : goes[i]? = some (goes.getD i []) := by rw [List.getD_eq_getElem?_getD, List.getElem?_eq_getElem h]; rfl
  rw [List.getElem?_map, List.getElem?_zipIdx, e]
  simp
theorem finK_len (goes : List (List Nat)) (marks : List Nat) : (finK goes marks).length = goes.length := by simp [finK]
theorem finM_eq {goes : List (List Nat)} {marks : List Nat} {i j : Nat} (hi : i < goes.length) (hj : j < goes.length) : (finM goes marks).getD i 0 = (finM goes marks).getD j 0 ↔ marks.getD i 0 = marks.getD j 0 ∧ (goes.getD i []).map (fun x => marks.getD x 0) = (goes.getD j []).map (fun x => marks.getD x 0) := by
  have h := numM_eq (ks := finK goes marks) (i := i) (j := j) (by rw [finK_len]; exact hi) (by rw [finK_len]; exact hj)
  rw [finK_get hi, finK_get hj] at h
  have e : finM goes marks = numM (finK goes marks) := rfl
  rw [e, h, Option.some.injEq, List.cons.injEq]
/-- a numbering of n things -/
def Nmb (marks : List Nat) (n : Nat) : Prop := marks.length = n ∧ (frsM marks).length = maxL marks + 1 ∧ ∀ c r : Nat, (frsM marks)[c]? = some r → r < n ∧ marks.getD r 0 = c
theorem nmb_num {α : Type} [DecidableEq α] {ks : List α} (h : ks ≠ []) : Nmb (numM ks) ks.length := by
  obtain ⟨h1, h2⟩ := frs_num ks
  exact ⟨numM_len ks, by rw [h1, max_num h], h2⟩
theorem Nmb.first {marks : List Nat} {n : Nat} (h : Nmb marks n) {c : Nat} (hc : c ≤ maxL marks) : ∃ r, (frsM marks)[c]? = some r ∧ r < n ∧ marks.getD r 0 = c := by
  have hl : c < (frsM marks).length := by rw [h.2.1]; omega
  exact ⟨_, List.getElem?_eq_getElem hl, h.2.2 c _ (List.getElem?_eq_getElem hl)⟩
theorem same_parts {prev marks : List Nat} {n : Nat} (hp : Nmb prev n) (hm : Nmb marks n) (hr : ∀ i j, i < n → j < n → marks.getD i 0 = marks.getD j 0 → prev.getD i 0 = prev.getD j 0) (hc : maxL marks ≤ maxL prev) : ∀ i j, i < n → j < n → prev.getD i 0 = prev.getD j 0 → marks.getD i 0 = marks.getD j 0 := by
  intro i j hi hj h
  have ml : ∀ {k : Nat}, k < n → marks.getD k 0 ≤ maxL marks := fun hk => maxL_le (getD_mem (by rw [hm.1]; exact hk))
  have nd : ((frsM marks).map fun r => prev.getD r 0).Nodup := by
    refine surj_nodup (maxL prev + 1) _ (fun p hp2 => ?_) (by rw [List.length_map, hm.2.1]; omega)
    obtain ⟨r, _, h2, h3⟩ := hp.first (c := p) (by omega)
    obtain ⟨r', h4, h5, h6⟩ := hm.first (ml h2)
    have := hr r' r h5 h2 h6
    exact List.mem_map.mpr ⟨r', List.mem_of_getElem? h4, by rw [this, h3]⟩
  obtain ⟨ri, a1, a2, a3⟩ := hm.first (ml hi)
  obtain ⟨rj, b1, b2, b3⟩ := hm.first (ml hj)
  have e1 := hr ri i a2 hi a3
  have e2 := hr rj j b2 hj b3
  have g1 : ((frsM marks).map fun r => prev.getD r 0)[marks.getD i 0]? = some (prev.getD ri 0) := get_map' a1
  have g2 : ((frsM marks).map fun r => prev.getD r 0)[marks.getD j 0]? = some (prev.getD rj 0) := get_map' b1
  rw [e1, h, ← e2] at g1
  obtain ⟨l1, v1⟩ := List.getElem?_eq_some_iff.mp g1
  obtain ⟨l2, v2⟩ := List.getElem?_eq_some_iff.mp g2
  have i1 := List.Nodup.idxOf_getElem nd _ l1
  have i2 := List.Nodup.idxOf_getElem nd _ l2
  rw [v1] at i1
  rw [v2] at i2
  exact i1.symm.trans i2
structure ClsInv (goes : List (List Nat)) (kinds : List Int) (many : Nat) (marks : List Nat) : Prop where
  nb : Nmb marks goes.length
  k : ∀ i j, i < goes.length → j < goes.length → marks.getD i 0 = marks.getD j 0 → kinds.getD i 0 = kinds.getD j 0
  st : many = 0 ∨ ∃ prev, many = maxL prev + 1 ∧ Nmb prev goes.length ∧ marks = finM goes prev
theorem clsFix_inv {goes : List (List Nat)} {kinds : List Int} (hg : goes ≠ []) : ∀ (n many : Nat) (marks : List Nat), ClsInv goes kinds many marks → 40 ≤ n + many → ∃ many', ClsInv goes kinds many' (clsFix goes n many marks) ∧ (maxL (clsFix goes n many marks) + 1 ≤ 32 → maxL (clsFix goes n many marks) + 1 ≤ many') := by
  intro n
  induction n with
  | zero => intro many marks h hn; exact ⟨many, h, fun q => by show maxL marks + 1 ≤ many; have q : maxL marks + 1 ≤ 32 := q; omega⟩
  | succ n ih =>
    intro many marks h hn
    unfold clsFix
    split
    · rename_i q
      refine ih (maxL marks + 1) (finM goes marks) ⟨?_, fun i j hi hj e => h.k i j hi hj ((finM_eq hi hj).mp e).1, Or.inr ⟨marks, rfl, h.nb, rfl⟩⟩ (by omega)
      have e := nmb_num (ks := finK goes marks) (fun z => hg (List.eq_nil_of_length_eq_zero (by rw [← finK_len goes marks, z]; rfl)))
      rw [finK_len] at e
      exact e
    · rename_i q
      exact ⟨many, h, fun q2 => by omega⟩
structure ClsOk (goes : List (List Nat)) (kinds : List Int) (marks : List Nat) : Prop where
  nb : Nmb marks goes.length
  k : ∀ i j, i < goes.length → j < goes.length → marks.getD i 0 = marks.getD j 0 → kinds.getD i 0 = kinds.getD j 0
  st : ∀ i j, i < goes.length → j < goes.length → marks.getD i 0 = marks.getD j 0 → (goes.getD i []).map (fun x => marks.getD x 0) = (goes.getD j []).map (fun x => marks.getD x 0)
theorem clsM_ok {goes : List (List Nat)} {kinds : List Int} (hg : GoesOk goes) (hk : kinds.length = goes.length) (hb : ¬ maxL (clsM goes kinds) + 1 > 32) : ClsOk goes kinds (clsM goes kinds) := by
  have hne : kinds ≠ [] := fun z => hg.1 (List.eq_nil_of_length_eq_zero (by rw [← hk, z]; rfl))
  have n0 := nmb_num (ks := kinds) hne
  rw [hk] at n0
  obtain ⟨many, inv, hst⟩ := clsFix_inv (kinds := kinds) hg.1 40 0 (numM kinds) ⟨n0, fun i j hi hj e => by
    have h := (numM_eq (ks := kinds) (i := i) (j := j) (by omega) (by omega)).mp e
    rw [List.getD_eq_getElem?_getD, List.getD_eq_getElem?_getD, h], Or.inl rfl⟩ (by omega)
  have hst := hst (show maxL (clsM goes kinds) + 1 ≤ 32 by omega)
  have inv : ClsInv goes kinds many (clsM goes kinds) := inv
  refine ⟨inv.nb, inv.k, fun i j hi hj e => ?_⟩
  rcases inv.st with z | ⟨prev, h1, h2, h3⟩
  · rw [z] at hst
    exact absurd hst (by omega)
  · have hr : ∀ i j, i < goes.length → j < goes.length → (clsM goes kinds).getD i 0 = (clsM goes kinds).getD j 0 → prev.getD i 0 = prev.getD j 0 := fun i j hi hj e => by
      rw [h3] at e
      exact ((finM_eq hi hj).mp e).1
    have same := same_parts h2 inv.nb hr (by
      have hst : maxL (clsM goes kinds) + 1 ≤ many := hst
      omega)
    have e2 := e
    rw [h3] at e2
    have e3 := ((finM_eq hi hj).mp e2).2
    have gl : ∀ {k : Nat}, k < goes.length → ∀ x ∈ goes.getD k [], x < goes.length := fun {k} hk2 x hx => by
      have : goes[k]? = some (goes.getD k []) := by rw [List.getD_eq_getElem?_getD, List.getElem?_eq_getElem hk2]; rfl
      exact (hg.2.2 _ (List.mem_of_getElem? this)).2 x hx
    have lift : ∀ (a b : List Nat), (∀ x ∈ a, x < goes.length) → (∀ x ∈ b, x < goes.length) → a.map (fun x => prev.getD x 0) = b.map (fun x => prev.getD x 0) → a.map (fun x => (clsM goes kinds).getD x 0) = b.map (fun x => (clsM goes kinds).getD x 0) := by
      intro a
      induction a with
      | nil =>
        intro b _ _ h
        cases b with
        | nil => rfl
        | cons y b => simp at h
      | cons x a ih =>
        intro b ha hb h
        cases b with
        | nil => simp at h
        | cons y b =>
          rw [List.map_cons, List.map_cons, List.cons.injEq] at h
          rw [List.map_cons, List.map_cons, same x y (ha x List.mem_cons_self) (hb y List.mem_cons_self) h.1, ih b (fun z hz => ha z (List.mem_cons_of_mem _ hz)) (fun z hz => hb z (List.mem_cons_of_mem _ hz)) h.2]
    exact lift _ _ (gl hi) (gl hj) e3
end Nr
set_option Elab.async false
set_option linter.all false
set_option maxRecDepth 100000
set_option maxHeartbeats 4000000
set_option pp.maxSteps 700
namespace Nr
open PySem PySem.Spec PyProof.Rows L2
/-! ### the rooms, in plain -/
structure RmInv (nb be : List Nat) (n : Nat) (s : List Nat × List (List Nat)) : Prop where
  ok : RoomsOk n s.1
  le : s.2.length ≤ s.1.length
  z : s.1[0]? = some 1
  g : ∀ (i : Nat) r, s.2[i]? = some r → ∃ c, s.1[i]? = some c ∧ r = (tgts nb be c).map s.1.idxOf ∧ ∀ t ∈ tgts nb be c, t ∈ s.1
theorem idx_app {cs t : List Nat} {x : Nat} (h : x ∈ cs) : (cs ++ t).idxOf x = cs.idxOf x := by rw [List.idxOf_append, if_pos h]
theorem rm_step {sp : Spr} {τ : List Nat} {s : List Nat × List (List Nat)} (h : RmInv sp.nb (sp.be τ) sp.signs.length s) (hlt : s.2.length < s.1.length) : RmInv sp.nb (sp.be τ) sp.signs.length (roomStep sp.nb (sp.be τ) s) := by
  have hc : s.1[s.2.length]? = some (s.1.getD s.2.length 0) := getD_some hlt
  unfold roomStep
  generalize s.1.getD s.2.length 0 = c at hc
  obtain ⟨u, eu⟩ := foldC_pre (tgts sp.nb (sp.be τ) c) s.1
  have hok := h.ok.fold (ts := tgts sp.nb (sp.be τ) c) fun x hx => tgts_lt sp τ c x hx
  have hle := h.le
  have hmem : ∀ t ∈ tgts sp.nb (sp.be τ) c, t ∈ (tgts sp.nb (sp.be τ) c).foldl addC s.1 := fun t ht => (foldC_mem _ _ _).mpr (Or.inr ht)
  rw [eu] at hok hmem ⊢
  refine ⟨hok, ?_, ?_, fun i r hr => ?_⟩
  · show (s.2 ++ [_]).length ≤ (s.1 ++ u).length
    rw [List.length_append, List.length_append, List.length_singleton]; omega
  · show (s.1 ++ u)[0]? = some 1
    rw [List.getElem?_append_left (by omega)]; exact h.z
  · have hr : (s.2 ++ [(tgts sp.nb (sp.be τ) c).map (s.1 ++ u).idxOf])[i]? = some r := hr
    by_cases hi : i < s.2.length
    · rw [List.getElem?_append_left hi] at hr
      obtain ⟨c', h1, h2, h3⟩ := h.g i r hr
      refine ⟨c', by show (s.1 ++ u)[i]? = _; rw [List.getElem?_append_left (by omega)]; exact h1, ?_, fun t ht => List.mem_append_left u (h3 t ht)⟩
      rw [h2]
      exact List.map_congr_left fun x hx => (idx_app (h3 x hx)).symm
    · have hil : i = s.2.length := by
        have := (List.getElem?_eq_some_iff.mp hr).1
        rw [List.length_append, List.length_singleton] at this
        omega
      rw [hil, List.getElem?_append_right (Nat.le_refl _), Nat.sub_self] at hr
      have hr := Option.some.inj hr
      refine ⟨c, ?_, hr.symm, hmem⟩
      show (s.1 ++ u)[i]? = _
      rw [hil, List.getElem?_append_left hlt]
      exact hc
theorem rooms_fix {sp : Spr} {τ : List Nat} (hn : sp.signs.length ≤ 11) : ∀ (n : Nat) (s : List Nat × List (List Nat)), RmInv sp.nb (sp.be τ) sp.signs.length s → 2100 ≤ n + s.2.length → RmInv sp.nb (sp.be τ) sp.signs.length (roomsFix sp.nb (sp.be τ) n s) ∧ (roomsFix sp.nb (sp.be τ) n s).2.length = (roomsFix sp.nb (sp.be τ) n s).1.length := by
  intro n
  induction n with
  | zero =>
    intro s h hl
    have := h.ok.len hn
    have := h.le
    omega
  | succ n ih =>
    intro s h hl
    unfold roomsFix
    split
    · rename_i q
      refine ih _ (rm_step h q) ?_
      show 2100 ≤ n + (s.2 ++ [_]).length
      rw [List.length_append, List.length_singleton]; omega
    · have := h.le
      exact ⟨h, by omega⟩
theorem rooms_ok {sp : Spr} {m : Nat} (ok : sp.Ok m) (τ : List Nat) : RmInv sp.nb (sp.be τ) sp.signs.length (sp.rooms τ) ∧ (sp.rooms τ).2.length = (sp.rooms τ).1.length := by
  have pos := ok.pos
  refine rooms_fix ok.n 2100 ([1], []) ⟨⟨by simp, fun c hc => ?_⟩, by simp, rfl, fun i r h => by simp at h⟩ (by simp)
  simp only [List.mem_singleton] at hc; subst hc
  exact Nat.one_lt_two_pow (by omega)
def stepC (s : Spr) (c k : Nat) : Nat := behM s.nb c &&& bearM s.signs k
def crowdC (s : Spr) (w : List Nat) : Nat := w.foldl (stepC s) 1
theorem rooms_goes {sp : Spr} {m : Nat} (ok : sp.Ok m) {τ : List Nat} (hτ : τ.length ≤ 1000) : GoesOk (sp.rooms τ).2 := by
  obtain ⟨h, hl⟩ := rooms_ok ok τ
  have hlen := h.ok.len ok.n
  have h0 := (List.getElem?_eq_some_iff.mp h.z).1
  refine ⟨fun z => by rw [z] at hl; simp at hl; omega, by omega, fun r hr => ?_⟩
  obtain ⟨i, hi⟩ := List.mem_iff_getElem?.mp hr
  obtain ⟨c, h1, h2, h3⟩ := h.g i r hi
  subst h2
  refine ⟨by rw [List.length_map, tgts, List.length_map, Spr.be, List.length_map]; exact hτ, fun x hx => ?_⟩
  obtain ⟨t, ht, rfl⟩ := List.mem_map.mp hx
  rw [hl]
  exact List.idxOf_lt_length_of_mem (h3 t ht)
/-- from room i, crowd c, sign j: the room of the next crowd -/
theorem rooms_next {sp : Spr} {m : Nat} (ok : sp.Ok m) {τ : List Nat} {i j c k : Nat} (hc : (sp.rooms τ).1[i]? = some c) (hk : τ[j]? = some k) : ∃ x, ((sp.rooms τ).2.getD i [])[j]? = some x ∧ (sp.rooms τ).1[x]? = some (stepC sp c k) := by
  obtain ⟨h, hl⟩ := rooms_ok ok τ
  have hi := (List.getElem?_eq_some_iff.mp hc).1
  have hg : (sp.rooms τ).2[i]? = some ((sp.rooms τ).2.getD i []) := by rw [List.getD_eq_getElem?_getD, List.getElem?_eq_getElem (by omega)]; rfl
  obtain ⟨c', h1, h2, h3⟩ := h.g i _ hg
  rw [hc] at h1; cases h1
  have ht : (tgts sp.nb (sp.be τ) c)[j]? = some (stepC sp c k) := get_map' (get_map' hk)
  refine ⟨(sp.rooms τ).1.idxOf (stepC sp c k), by rw [h2]; exact get_map' ht, ?_⟩
  have hm := h3 _ (List.mem_of_getElem? ht)
  rw [List.getElem?_eq_getElem (List.idxOf_lt_length_of_mem hm)]
  simp
noncomputable def mOf (s : Spr) : Nat := by
  classical
  exact if h : ∃ m, s.Ok m then h.choose else 0
theorem mOf_ok {s : Spr} (h : ∃ m, s.Ok m) : s.Ok (mOf s) := by
  unfold mOf
  rw [dif_pos h]
  exact h.choose_spec
theorem Ok_uniq {s : Spr} {m m' : Nat} (h : s.Ok m) (h' : s.Ok m') : m = m' := by
  have a := h.mx _ h'.mi
  have b := h'.mx _ h.mi
  omega
/-- the table of a book -/
noncomputable def knB (τ : List Nat) (l : List Sh) : List Int := (bookM l).kinds τ (mOf (bookM l))
def gsB (τ : List Nat) (l : List Sh) : List (List Nat) := ((bookM l).rooms τ).2
noncomputable def mkB (τ : List Nat) (l : List Sh) : List Nat := clsM (gsB τ l) (knB τ l)
noncomputable def tabB (τ : List Nat) (l : List Sh) : Tbl := joinM (gsB τ l) (knB τ l) (mkB τ l)
def Big (τ : List Nat) (l : List Sh) : Prop := maxL (mkB τ l) + 1 > 32
/-- the kind of a word -/
noncomputable def kindW (l : List Sh) (w : List Nat) : Int := ownOf (ownEnds (bookM l).owners (bookM l).lasts (mOf (bookM l))) (crowdC (bookM l) w)
def runT (b : Tbl) (τ w : List Nat) : Nat := w.foldl (fun r k => b.go τ r k) 0
section
variable {l : List Sh} {τ : List Nat}
theorem book_m (hw : wts l ≤ 10) (hl : l.length ≤ 6) : (bookM l).Ok (mOf (bookM l)) ∧ mOf (bookM l) ≤ l.length := by
  obtain ⟨m, h1, h2⟩ := bookM_ok hw hl
  have h3 := mOf_ok ⟨m, h1⟩
  exact ⟨h3, by rw [Ok_uniq h3 h1]; exact h2⟩
theorem ownOf_bd (ends : List Nat) (c : Nat) : -1 ≤ ownOf ends c ∧ ownOf ends c < (ends.length : Int) := by
  unfold ownOf
  cases h : ends.findIdx? (fun b => decide (c &&& b ≠ 0)) with
  | none => exact ⟨by show (-1:Int) ≤ -1; omega, by show (-1:Int) < _; omega⟩
  | some i =>
    have := (List.findIdx?_eq_some_iff_getElem.mp h).1
    exact ⟨by show -1 ≤ (i : Int); omega, by show (i : Int) < _; omega⟩
theorem kn_len : (knB τ l).length = ((bookM l).rooms τ).1.length := by unfold knB Spr.kinds; rw [List.length_map]
theorem kn_get {i c : Nat} (h : ((bookM l).rooms τ).1[i]? = some c) : (knB τ l)[i]? = some (ownOf (ownEnds (bookM l).owners (bookM l).lasts (mOf (bookM l))) c) := get_map' h
theorem tab_cls (hw : wts l ≤ 10) (hl : l.length ≤ 6) (hτ : τ.length ≤ 1000) (hb : ¬ Big τ l) : ClsOk (gsB τ l) (knB τ l) (mkB τ l) ∧ GoesOk (gsB τ l) ∧ (knB τ l).length = (gsB τ l).length := by
  obtain ⟨ok, _⟩ := book_m hw hl
  have hg := rooms_goes ok hτ
  obtain ⟨_, e⟩ := rooms_ok ok τ
  have hk : (knB τ l).length = (gsB τ l).length := by rw [kn_len]; exact e.symm
  exact ⟨clsM_ok hg hk hb, hg, hk⟩
theorem tab_ok (hw : wts l ≤ 10) (hl : l.length ≤ 6) (hτ : τ.length ≤ 1000) (hb : ¬ Big τ l) : (tabB τ l).Ok τ.length l.length := by
  obtain ⟨ok, hm⟩ := book_m hw hl
  obtain ⟨hc, hg, hk⟩ := tab_cls hw hl hτ hb
  have nb := hc.nb
  have hb : ¬ maxL (mkB τ l) + 1 > 32 := hb
  have e1 : (tabB τ l).goes.length = maxL (mkB τ l) + 1 := by
    show ((frsM (mkB τ l)).map _).length = _
    rw [List.length_map, nb.2.1]
  have row : ∀ r, r < (gsB τ l).length → (gsB τ l)[r]? = some ((gsB τ l).getD r []) := fun r hr => by rw [List.getD_eq_getElem?_getD, List.getElem?_eq_getElem hr]; rfl
  refine ⟨?_, by omega, by omega, fun r hr => ?_, fun k hk2 => ?_⟩
  · show ((frsM (mkB τ l)).map _).length = ((frsM (mkB τ l)).map _).length
    rw [List.length_map, List.length_map]
  · obtain ⟨x, hx, rfl⟩ := List.mem_map.mp (show r ∈ (frsM (mkB τ l)).map _ from hr)
    obtain ⟨c, hcx⟩ := List.mem_iff_getElem?.mp hx
    have hxl := (nb.2.2 c x hcx).1
    obtain ⟨i1, i2⟩ := rooms_ok ok τ
    obtain ⟨c', _, h2, _⟩ := i1.g x _ (row x hxl)
    refine ⟨?_, fun y hy => ?_⟩
    · show (((gsB τ l).getD x []).map _).length = τ.length
      rw [List.length_map]
      rw [h2, List.length_map, tgts, List.length_map, Spr.be, List.length_map]
    · obtain ⟨z, hz, rfl⟩ := List.mem_map.mp hy
      have hzl := (hg.2.2 _ (List.mem_of_getElem? (row x hxl))).2 z hz
      rw [e1]
      have : (mkB τ l).getD z 0 ≤ maxL (mkB τ l) := maxL_le (getD_mem (by rw [nb.1]; exact hzl))
      omega
  · obtain ⟨x, hx, rfl⟩ := List.mem_map.mp (show k ∈ (frsM (mkB τ l)).map _ from hk2)
    obtain ⟨c, hcx⟩ := List.mem_iff_getElem?.mp hx
    have hxl := (nb.2.2 c x hcx).1
    have hg2 : ((bookM l).rooms τ).1[x]? = some (((bookM l).rooms τ).1.getD x 0) := getD_some (by rw [← kn_len, hk]; exact hxl)
    have e2 := kn_get hg2
    rw [List.getD_eq_getElem?_getD, e2]
    have := ownOf_bd (ownEnds (bookM l).owners (bookM l).lasts (mOf (bookM l))) (((bookM l).rooms τ).1.getD x 0)
    have e3 : (ownEnds (bookM l).owners (bookM l).lasts (mOf (bookM l))).length = mOf (bookM l) := by unfold ownEnds; rw [List.length_map, List.length_range]
    rw [e3] at this
    exact ⟨this.1, by show ownOf _ _ < _; omega⟩
theorem clsFix_zero (goes : List (List Nat)) : ∀ (n many : Nat) (marks : List Nat), marks.getD 0 0 = 0 → (clsFix goes n many marks).getD 0 0 = 0 := by
  intro n
  induction n with
  | zero => intro many marks h; exact h
  | succ n ih =>
    intro many marks h
    unfold clsFix
    split
    · refine ih _ _ ?_
      show (numM (finK goes marks)).getD 0 0 = 0
      exact num_zero _
    · exact h
  where num_zero {α : Type} [DecidableEq α] : ∀ ks : List α, (numM ks).getD 0 0 = 0
    | [] => rfl
    | k :: ks => by
      have e : (numM (k :: ks))[0]? = some (ixG (metG (k :: ks)) k) := numM_get rfl
      rw [List.getD_eq_getElem?_getD, e]
      obtain ⟨t, et⟩ := foldG_pre ks [k]
      have e2 : metG (k :: ks) = [k] ++ t := by
        unfold metG
        show ks.foldl addG (addG [] k) = _
        rw [show addG [] k = [k] from if_neg (by simp)]
        exact et
      show ixG (metG (k :: ks)) k = 0
      rw [e2]
      unfold ixG
      simp
theorem mk_zero : (mkB τ l).getD 0 0 = 0 := clsFix_zero _ _ _ _ (clsFix_zero.num_zero _)
/-- the table runs as the crowds do -/
theorem run_tab (hw : wts l ≤ 10) (hl : l.length ≤ 6) (hτ : τ.length ≤ 1000) (hb : ¬ Big τ l) : ∀ (w : List Nat), (∀ k ∈ w, k ∈ τ) → ∃ i, ((bookM l).rooms τ).1[i]? = some (crowdC (bookM l) w) ∧ i < (gsB τ l).length ∧ runT (tabB τ l) τ w = (mkB τ l).getD i 0 := by
  obtain ⟨ok, _⟩ := book_m hw hl
  obtain ⟨hc, hg, hk⟩ := tab_cls hw hl hτ hb
  obtain ⟨h, he⟩ := rooms_ok ok τ
  have main : ∀ (w : List Nat) (i c r : Nat), (∀ k ∈ w, k ∈ τ) → ((bookM l).rooms τ).1[i]? = some c → r = (mkB τ l).getD i 0 → ∃ i', ((bookM l).rooms τ).1[i']? = some (w.foldl (stepC (bookM l)) c) ∧ i' < (gsB τ l).length ∧ w.foldl (fun r k => (tabB τ l).go τ r k) r = (mkB τ l).getD i' 0 := by
    intro w
    induction w with
    | nil =>
      intro i c r _ hi hr
      exact ⟨i, hi, by have := (List.getElem?_eq_some_iff.mp hi).1; show i < ((bookM l).rooms τ).2.length; omega, hr⟩
    | cons k w ih =>
      intro i c r hs hi hr
      have hkτ := hs k List.mem_cons_self
      have hj : τ[τ.idxOf k]? = some k := by
        rw [List.getElem?_eq_getElem (List.idxOf_lt_length_of_mem hkτ)]; simp
      obtain ⟨x, h1, h2⟩ := rooms_next ok hi hj
      refine ih x (stepC (bookM l) c k) _ (fun z hz => hs z (List.mem_cons_of_mem _ hz)) h2 ?_
      have hil : i < (gsB τ l).length := by have := (List.getElem?_eq_some_iff.mp hi).1; show i < ((bookM l).rooms τ).2.length; omega
      have hmx : r ≤ maxL (mkB τ l) := by rw [hr]; exact maxL_le (getD_mem (by rw [hc.nb.1]; exact hil))
      obtain ⟨r0, f1, f2, f3⟩ := hc.nb.first hmx
      have st := hc.st r0 i f2 hil (by rw [f3, hr])
      have e1 : (tabB τ l).goes[r]? = some (((gsB τ l).getD r0 []).map fun x => (mkB τ l).getD x 0) := get_map' f1
      show (tabB τ l).go τ r k = _
      unfold Tbl.go
      rw [List.getD_eq_getElem?_getD (l := (tabB τ l).goes), e1]
      show (((gsB τ l).getD r0 []).map fun x => (mkB τ l).getD x 0).getD (τ.idxOf k) 0 = _
      rw [st, List.getD_eq_getElem?_getD, List.getElem?_map]
      have h1 : ((gsB τ l).getD i [])[τ.idxOf k]? = some x := h1
      rw [h1]
      rfl
  intro w hs
  exact main w 0 1 0 hs h.z mk_zero.symm
theorem kd_tab (hw : wts l ≤ 10) (hl : l.length ≤ 6) (hτ : τ.length ≤ 1000) (hb : ¬ Big τ l) {w : List Nat} (hs : ∀ k ∈ w, k ∈ τ) : (tabB τ l).kd (runT (tabB τ l) τ w) = kindW l w ∧ runT (tabB τ l) τ w < (tabB τ l).goes.length := by
  obtain ⟨hc, hg, hk⟩ := tab_cls hw hl hτ hb
  obtain ⟨i, h1, h2, h3⟩ := run_tab hw hl hτ hb w hs
  have hmx : runT (tabB τ l) τ w ≤ maxL (mkB τ l) := by rw [h3]; exact maxL_le (getD_mem (by rw [hc.nb.1]; exact h2))
  obtain ⟨r0, f1, f2, f3⟩ := hc.nb.first hmx
  have e0 := hc.k r0 i f2 h2 (by rw [f3, h3])
  have e1 : (tabB τ l).kinds[runT (tabB τ l) τ w]? = some ((knB τ l).getD r0 0) := get_map' f1
  refine ⟨?_, ?_⟩
  · unfold Tbl.kd
    rw [List.getD_eq_getElem?_getD, e1]
    show (knB τ l).getD r0 0 = _
    rw [e0, List.getD_eq_getElem?_getD, kn_get h1]
    rfl
  · show _ < ((frsM (mkB τ l)).map _).length
    rw [List.length_map]
    exact (List.getElem?_eq_some_iff.mp f1).1
end
end Nr
set_option Elab.async false
set_option linter.all false
set_option maxRecDepth 100000
set_option maxHeartbeats 4000000
set_option pp.maxSteps 700
namespace Nr
open PySem PySem.Spec PyProof.Rows L2
abbrev shX (rs : List (Str × Sh)) : List Sh := rs.map (·.2)
section
variable {c : Ct} {env : List Sl} {ta tb tc td : TE} {d1 d2 d3 d4 : PyData} {ds : List PyData} {t : TA} {E : XK}
theorem ea_3 (h : EvE c ta env d1) (h' : EvE c tb env d2) (h'' : EvE c tc env d3) : EvA c (tCons ta (tCons tb (tCons tc tNil))) env [d1, d2, d3] := ea_cons h (ea_2 h' h'')
theorem ea_4 (h : EvE c ta env d1) (h' : EvE c tb env d2) (h'' : EvE c tc env d3) (h4 : EvE c td env d4) : EvA c (tCons ta (tCons tb (tCons tc (tCons td tNil)))) env [d1, d2, d3, d4] := ea_cons h (ea_3 h' h'' h4)
theorem en_call2 {R : List PyData → (PyData → Prop) → Prop} {tr : TA} (h : EvE c ta env d1) (h' : EvN c tb env) : EvN c (tCall (PF R) [] E (tCons ta (tCons tb tr))) env := fun σ F H fps Rs Q =>
  h σ F H fps Rs _ fun v F1 H1 s1 _ => h' σ F1 H1 fps (Rs.ext s1) _
end
theorem rs_raise {c : Ct} {D : De} {env : List Sl} {T : Addr} {E : XK} (hE : ∀ F' H', Stp c.H_0 c.F_0 H' F' → E (.ref T) none H') (hB : c.B = c.H_0) : RS c (fun _ _ H => E (.ref T) none H) D env :=
  fun σ F H fps R E' a => hE F H ⟨R.eF, R.eH, by rw [← hB]; exact R.eB, R.nw⟩
def clsD (τ : List Nat) (l : List Sh) (kn : List Int) (mk : List Nat) : PyData := .tuple [.list (nsD ((bookM l).rooms τ).1), .list ((gsB τ l).map lwD), .list (isD kn), .list (nsD mk)]
def R_classed (ds : List PyData) (Post : PyData → Prop) (X : Prop) : Prop := ∃ τ rs, ds = [bkD τ (shR rs)] ∧ BookOk τ rs ∧ (Big τ (shX rs) → X) ∧ (¬ Big τ (shX rs) → Post (clsD τ (shX rs) (knB τ (shX rs)) (mkB τ (shX rs))))
def R_table (ds : List PyData) (Post : PyData → Prop) (X : Prop) : Prop := ∃ τ rs, ds = [bkD τ (shR rs)] ∧ BookOk τ rs ∧ (Big τ (shX rs) → X) ∧ (¬ Big τ (shX rs) → Post (tblD τ (tabB τ (shX rs))))
def R_ncut (ds : List PyData) (Post : PyData → Prop) (X : Prop) : Prop := ∃ τ rs w, ds = [bkD τ (shR rs), sD w] ∧ BookOk τ rs ∧ Wrd τ w ∧ (Big τ (shX rs) → X) ∧ (¬ Big τ (shX rs) → Post (ncD (shR rs) (cutM (tabB τ (shX rs)) τ w)))
noncomputable def altD (τ : List Nat) (rs rs' : List (Str × Sh)) : PyData :=
  match fpM (tabB τ (shX rs)) (tabB τ (shX rs')) τ (shR rs) (shR rs') with
  | none => .none
  | some m => .tuple [sD m.2, ncD (shR rs) (cutM (tabB τ (shX rs)) τ m.2), ncD (shR rs') (cutM (tabB τ (shX rs')) τ m.2)]
def R_altered (ds : List PyData) (Post : PyData → Prop) (X : Prop) : Prop := ∃ τ rs rs', ds = [bkD τ (shR rs), bkD τ (shR rs')] ∧ BookOk τ rs ∧ BookOk τ rs' ∧ ((Big τ (shX rs) ∨ Big τ (shX rs')) → X) ∧ (¬ Big τ (shX rs) → ¬ Big τ (shX rs') → Post (altD τ rs rs'))
theorem bk_tab {τ : List Nat} {rs : List (Str × Sh)} (hb : BookOk τ rs) : wts (shX rs) ≤ 10 ∧ (shX rs).length ≤ 6 ∧ τ.length ≤ 1000 := by
  have := hb.t.m
  have := hb.l
  exact ⟨hb.w, by rw [List.length_map]; exact hb.l, by omega⟩
theorem bk_tok {τ : List Nat} {rs : List (Str × Sh)} (hb : BookOk τ rs) (h : ¬ Big τ (shX rs)) : (tabB τ (shX rs)).Ok τ.length (shR rs).length := by
  obtain ⟨h1, h2, h3⟩ := bk_tab hb
  have := tab_ok h1 h2 h3 h
  rw [show (shX rs).length = rs.length from List.length_map _] at this
  rw [List.length_map]
  exact this
section
variable {P : Program} {w : World} {K : PySem.W.Frag} {mg : Str → Option Value} {base : Heap} {C T : Addr}
theorem cl_classed (t : Tx K mg C T) : ClX P w K mg base 15 "classed" (PX T R_classed) := by
  have sc : FnScope ["book", "crowds", "goes", "kinds", "marks"] ["book"] (defScope s_classed) := ⟨rfl, rfl, rfl, by decide +kernel, rfl, by decide +kernel, by decide +kernel⟩
  have c_crowd_rooms := cl_crowd_rooms (P := P) (w := w) (base := base) t
  have c_book_spread := cl_book_spread (P := P) (w := w) (base := base) t
  have c_classes_of := cl_classes_of (P := P) (w := w) (base := base) t
  refine cl_rais (k := 14) (C := C) t.d_classed sc (fun _ _ _ _ _ _ us hl => match us, hl with | [_], _ => rfl) (fun ds Post X h => ?_) fun f cdv A outer s H E hr => ⟨_,
    (pss_cons (ps_asg (pe_cl c_crowd_rooms hr (by omega) (by rfl) (pa_cons (pe_ix ix_tup (pv 0) pe_int (fun _ _ => rfl)) (pa_cons (pe_cl c_book_spread hr (by omega) (by rfl) (pa_cons (pv 0) pa_nil)) pa_nil))) (pg_tup rfl (pgs_cons (pg_name (i := 1) sc.nd rfl (Or.inl rfl)) (pgs_cons (pg_name (i := 2) sc.nd rfl (Or.inl rfl)) (pgs_cons (pg_name (i := 3) sc.nd rfl (Or.inl rfl)) pgs_nil)))))
  (pss_cons (ps_set (i := 4) sc.nd rfl (Or.inl rfl) (pe_cl c_classes_of hr (by omega) (by rfl) (pa_cons (pv 2) (pa_cons (pv 3) (pa_cons pe_int pa_nil)))))
  (pss_cons (ps_if (pt_cmp (pc_isN (pv 4)))
  (pss_one (ps_raise rfl (takes_of (E := E) rfl rfl rfl rfl) (pmk_own PySem.F.excBase_ValueError t.xT t.gT t.kT (raises_own t.bT t.tT) (by exact rfl))))
  pss_nil)
  (pss_one (ps_ret (pe_tup (pa_cons (pv 1) (pa_cons (pv 2) (pa_cons (pv 3) (pa_cons (pv 4) pa_nil)))))))))), fun c ds Post X hC hB hH h hE => ?_⟩
  · obtain ⟨_, _, rfl, _⟩ := h; rfl
  · obtain ⟨τ, rs, rfl, hb, kx, k⟩ := h
    obtain ⟨hw, hl, hτ⟩ := bk_tab hb
    obtain ⟨ok, _⟩ := book_m hw hl
    have hg := rooms_goes ok hτ
    obtain ⟨_, e⟩ := rooms_ok ok τ
    have hk : (knB τ (shX rs)).length = (gsB τ (shX rs)).length := by rw [kn_len]; exact e.symm
    refine rs_seq (rs_asgG (d := .tuple [.list (nsD ((bookM (shX rs)).rooms τ).1), .list ((gsB τ (shX rs)).map lwD), .list (isD (knB τ (shX rs)))]) (ev_call (ea_2 (ev_op (ev_var rfl) ev_int (rv_ixT (d := sD τ) (ix_of (j := 0) rfl rfl))) (ev_call (ea_1 (ev_var rfl)) ⟨τ, rs, rfl, fun r hr2 => ⟨(hb.r r hr2).d, ok_fit (hb.r r hr2).o⟩, hw, hb.l, rfl⟩)) ⟨bookM (shX rs), mOf (bookM (shX rs)), τ, rfl, ok, hτ, rfl⟩) (eg_tup (egs_cons eg_name (egs_cons eg_name (egs_cons eg_name egs_nil))) rfl) ?_)
    by_cases hbig : Big τ (shX rs)
    · refine rs_seq (rs_asg (d := .none) (ev_call (ea_3 (ev_var rfl) (ev_var rfl) ev_int) ⟨gsB τ (shX rs), knB τ (shX rs), rfl, hk, hg, (if_pos hbig)⟩) (rs_seq (rs_ifT (eb_B (ev_isN (d := .none) (ev_var rfl))) (rs_raise (fun F' H' st => hE F' H' (kx hbig) (by rw [hH] at st; exact st)) (hB.trans hH.symm)))))
    · refine rs_seq (rs_asg (d := .list (nsD (mkB τ (shX rs)))) (ev_call (ea_3 (ev_var rfl) (ev_var rfl) ev_int) ⟨gsB τ (shX rs), knB τ (shX rs), rfl, hk, hg, (if_neg hbig)⟩) (rs_seq (rs_ifF (eb_B (ev_isN (d := .list (nsD (mkB τ (shX rs)))) (ev_var rfl))) (rs_next (rs_ret (ev_tup (ea_4 (ev_var rfl) (ev_var rfl) (ev_var rfl) (ev_var rfl)) (by show 4 ≤ 100000; decide)) (k hbig))))))
theorem cl_table_of (t : Tx K mg C T) : ClX P w K mg base 16 "table_of" (PX T R_table) := by
  have sc : FnScope ["book", "looked", "crowds", "goes", "kinds", "marks"] ["book"] (defScope s_table_of) := ⟨rfl, rfl, rfl, by decide +kernel, rfl, by decide +kernel, by decide +kernel⟩
  have c_looked_book := cl_looked_book (P := P) (w := w) (base := base) t
  have c_classed := cl_classed (P := P) (w := w) (base := base) t
  have c_joined := cl_joined (P := P) (w := w) (base := base) t
  refine cl_rais (k := 15) (C := C) t.d_table_of sc (fun _ _ _ _ _ _ us hl => match us, hl with | [_], _ => rfl) (fun ds Post X h => ?_) fun f cdv A outer s H E hr => ⟨_,
    (pss_cons (ps_set (i := 1) sc.nd rfl (Or.inl rfl) (pe_cl c_looked_book hr (by omega) (by rfl) (pa_cons (pv 0) pa_nil)))
  (pss_cons (ps_asg (pe_clX c_classed hr (by omega) (by rfl) (passes_call (E := E) (takes_of rfl rfl rfl rfl) (fun _ _ _ _ h => h)) (pa_cons (pv 1) pa_nil)) (pg_tup rfl (pgs_cons (pg_name (i := 2) sc.nd rfl (Or.inl rfl)) (pgs_cons (pg_name (i := 3) sc.nd rfl (Or.inl rfl)) (pgs_cons (pg_name (i := 4) sc.nd rfl (Or.inl rfl)) (pgs_cons (pg_name (i := 5) sc.nd rfl (Or.inl rfl)) pgs_nil))))))
  (pss_one (ps_ret (pe_cl c_joined hr (by omega) (by rfl) (pa_cons (pe_ix ix_tup (pv 1) pe_int (fun _ _ => rfl)) (pa_cons (pv 3) (pa_cons (pv 4) (pa_cons (pv 5) pa_nil))))))))), fun c ds Post X hC hB hH h hE => ?_⟩
  · obtain ⟨_, _, rfl, _⟩ := h; rfl
  · obtain ⟨τ, rs, rfl, hb, kx, k⟩ := h
    obtain ⟨hw, hl, hτ⟩ := bk_tab hb
    have hE' : X → ∀ F' H', Stp c.H_0 c.F_0 H' F' → E (.ref T) none H' := fun x F' H' st => hE F' H' x (by rw [hH] at st; exact st)
    refine rs_seq (rs_asg (d := bkD τ (shR rs)) (ev_call (ea_1 (ev_var rfl)) ⟨τ, rs, rfl, hb, rfl⟩) ?_)
    by_cases hbig : Big τ (shX rs)
    · exact rs_seq (rs_asgN (en_callX (ea_1 (ev_var rfl)) ⟨τ, rs, rfl, hb, fun _ => trivial, fun z => (z hbig).elim⟩ (hE' (kx hbig)) (hB.trans hH.symm)))
    · obtain ⟨hc, hg, hk⟩ := tab_cls hw hl hτ hbig
      refine rs_seq (rs_asgG (d := clsD τ (shX rs) (knB τ (shX rs)) (mkB τ (shX rs))) (ev_callX (ea_1 (ev_var rfl)) ⟨τ, rs, rfl, hb, fun z => hbig z, fun _ => rfl⟩) (eg_tup (egs_cons eg_name (egs_cons eg_name (egs_cons eg_name (egs_cons eg_name egs_nil)))) rfl) ?_)
      exact rs_ret (d := tblD τ (tabB τ (shX rs))) (ev_call (ea_4 (ev_op (ev_var rfl) ev_int (rv_ixT (d := sD τ) (ix_of (j := 0) rfl rfl))) (ev_var rfl) (ev_var rfl) (ev_var rfl)) ⟨τ, gsB τ (shX rs), knB τ (shX rs), mkB τ (shX rs), rfl, hk, hc.nb.1, hg, rfl⟩) (k hbig)
theorem cl_named_cut (t : Tx K mg C T) : ClX P w K mg base 17 "named_cut" (PX T R_ncut) := by
  have sc : FnScope ["book", "text"] ["book", "text"] (defScope s_named_cut) := ⟨rfl, rfl, rfl, by decide +kernel, rfl, by decide +kernel, by decide +kernel⟩
  have c_table_of := cl_table_of (P := P) (w := w) (base := base) t
  have c_by_names := cl_by_names (P := P) (w := w) (base := base) t
  refine cl_rais (k := 16) (C := C) t.d_named_cut sc (fun _ _ _ _ _ _ us hl => match us, hl with | [_, _], _ => rfl) (fun ds Post X h => ?_) fun f cdv A outer s H E hr => ⟨_,
    (pss_one (ps_ret (pe_cl c_by_names hr (by omega) (by rfl) (pa_cons (pv 0) (pa_cons (pe_clX c_table_of hr (by omega) (by rfl) (passes_call (E := E) (takes_of rfl rfl rfl rfl) (fun _ _ _ _ h => h)) (pa_cons (pv 0) pa_nil)) (pa_cons (pv 1) pa_nil)))))), fun c ds Post X hC hB hH h hE => ?_⟩
  · obtain ⟨_, _, _, rfl, _⟩ := h; rfl
  · obtain ⟨τ, rs, w, rfl, hb, hw2, kx, k⟩ := h
    have hE' : X → ∀ F' H', Stp c.H_0 c.F_0 H' F' → E (.ref T) none H' := fun x F' H' st => hE F' H' x (by rw [hH] at st; exact st)
    by_cases hbig : Big τ (shX rs)
    · exact rs_retN (en_call2 (ev_var rfl) (en_callX (ea_1 (ev_var rfl)) ⟨τ, rs, rfl, hb, fun _ => trivial, fun z => (z hbig).elim⟩ (hE' (kx hbig)) (hB.trans hH.symm)))
    · exact rs_ret (d := ncD (shR rs) (cutM (tabB τ (shX rs)) τ w)) (ev_call (ea_3 (ev_var rfl) (ev_callX (d := tblD τ (tabB τ (shX rs))) (ea_1 (ev_var rfl)) ⟨τ, rs, rfl, hb, fun z => hbig z, fun _ => rfl⟩) (ev_var rfl)) ⟨τ, w, tabB τ (shX rs), shR rs, rfl, bk_tok hb hbig, hw2, rfl⟩) (k hbig)
theorem cl_altered (t : Tx K mg C T) : ClX P w K mg base 17 "altered" (PX T R_altered) := by
  have sc : FnScope ["book", "other", "one", "two", "text"] ["book", "other"] (defScope s_altered) := ⟨rfl, rfl, rfl, by decide +kernel, rfl, by decide +kernel, by decide +kernel⟩
  have c_asked_alike := cl_asked_alike (P := P) (w := w) (base := base) t
  have c_table_of := cl_table_of (P := P) (w := w) (base := base) t
  have c_first_parted := cl_first_parted (P := P) (w := w) (base := base) t
  have c_named_kinds := cl_named_kinds (P := P) (w := w) (base := base) t
  have c_by_names := cl_by_names (P := P) (w := w) (base := base) t
  refine cl_rais (k := 16) (C := C) t.d_altered sc (fun _ _ _ _ _ _ us hl => match us, hl with | [_, _], _ => rfl) (fun ds Post X h => ?_) fun f cdv A outer s H E hr => ⟨_,
    (pss_cons (ps_expr (pe_cl c_asked_alike hr (by omega) (by rfl) (pa_cons (pv 0) (pa_cons (pv 1) pa_nil))))
  (pss_cons (ps_set (i := 2) sc.nd rfl (Or.inl rfl) (pe_clX c_table_of hr (by omega) (by rfl) (passes_call (E := E) (takes_of rfl rfl rfl rfl) (fun _ _ _ _ h => h)) (pa_cons (pv 0) pa_nil)))
  (pss_cons (ps_set (i := 3) sc.nd rfl (Or.inl rfl) (pe_clX c_table_of hr (by omega) (by rfl) (passes_call (E := E) (takes_of rfl rfl rfl rfl) (fun _ _ _ _ h => h)) (pa_cons (pv 1) pa_nil)))
  (pss_cons (ps_set (i := 4) sc.nd rfl (Or.inl rfl) (pe_cl c_first_parted hr (by omega) (by rfl) (pa_cons (pv 2) (pa_cons (pv 3) (pa_cons (pe_cl c_named_kinds hr (by omega) (by rfl) (pa_cons (pv 0) (pa_cons (pv 2) pa_nil))) (pa_cons (pe_cl c_named_kinds hr (by omega) (by rfl) (pa_cons (pv 1) (pa_cons (pv 3) pa_nil))) pa_nil))))))
  (pss_cons (ps_if (pt_cmp (pc_isN (pv 4)))
  (pss_one (ps_ret pe_non))
  pss_nil)
  (pss_one (ps_ret (pe_tup (pa_cons (pv 4) (pa_cons (pe_cl c_by_names hr (by omega) (by rfl) (pa_cons (pv 0) (pa_cons (pv 2) (pa_cons (pv 4) pa_nil)))) (pa_cons (pe_cl c_by_names hr (by omega) (by rfl) (pa_cons (pv 1) (pa_cons (pv 3) (pa_cons (pv 4) pa_nil)))) pa_nil))))))))))), fun c ds Post X hC hB hH h hE => ?_⟩
  · obtain ⟨_, _, _, rfl, _⟩ := h; rfl
  · obtain ⟨τ, rs, rs', rfl, hb, hb', kx, k⟩ := h
    have hE' : X → ∀ F' H', Stp c.H_0 c.F_0 H' F' → E (.ref T) none H' := fun x F' H' st => hE F' H' x (by rw [hH] at st; exact st)
    have hτ := (bk_tab hb).2.2
    refine rs_seq (rs_drop (d := .none) (ev_call (ea_2 (ev_var rfl) (ev_var rfl)) ⟨τ, shR rs, shR rs', rfl, rfl⟩) ?_)
    by_cases hbig : Big τ (shX rs)
    · exact rs_seq (rs_asgN (en_callX (ea_1 (ev_var rfl)) ⟨τ, rs, rfl, hb, fun _ => trivial, fun z => (z hbig).elim⟩ (hE' (kx (Or.inl hbig))) (hB.trans hH.symm)))
    refine rs_seq (rs_asg (d := tblD τ (tabB τ (shX rs))) (ev_callX (ea_1 (ev_var rfl)) ⟨τ, rs, rfl, hb, fun z => hbig z, fun _ => rfl⟩) ?_)
    by_cases hbig' : Big τ (shX rs')
    · exact rs_seq (rs_asgN (en_callX (ea_1 (ev_var rfl)) ⟨τ, rs', rfl, hb', fun _ => trivial, fun z => (z hbig').elim⟩ (hE' (kx (Or.inr hbig'))) (hB.trans hH.symm)))
    refine rs_seq (rs_asg (d := tblD τ (tabB τ (shX rs'))) (ev_callX (ea_1 (ev_var rfl)) ⟨τ, rs', rfl, hb', fun z => hbig' z, fun _ => rfl⟩) ?_)
    have o1 := bk_tok hb hbig
    have o2 := bk_tok hb' hbig'
    have k := k hbig hbig'
    unfold altD at k
    refine rs_seq (rs_asg (d := fpD (fpM (tabB τ (shX rs)) (tabB τ (shX rs')) τ (shR rs) (shR rs'))) (ev_call (ea_4 (ev_var rfl) (ev_var rfl) (ev_call (ea_2 (ev_var rfl) (ev_var rfl)) ⟨τ, _, shR rs, rfl, o1, rfl⟩) (ev_call (ea_2 (ev_var rfl) (ev_var rfl)) ⟨τ, _, shR rs', rfl, o2, rfl⟩)) ⟨τ, _, _, shR rs, shR rs', rfl, o1, o2, hτ, rfl⟩) ?_)
    cases hm : fpM (tabB τ (shX rs)) (tabB τ (shX rs')) τ (shR rs) (shR rs') with
    | none =>
      rw [hm] at k
      exact rs_seq (rs_ifT (eb_B (ev_isN (d := .none) (ev_var rfl))) (rs_ret ev_non k))
    | some m =>
      rw [hm] at k
      have hmm := List.mem_of_find?_eq_some hm
      have mok := togM_ok o1 o2
      have hl2 := mok.len o1.m o2.m
      have hw2 : Wrd τ m.2 := ⟨hb.t.nd, mok.s m hmm, by have := mok.l m hmm; omega⟩
      refine rs_seq (rs_ifF (eb_B (ev_isN (d := sD m.2) (ev_var rfl))) (rs_next (rs_ret (ev_tup (ea_3 (ev_var rfl) (ev_call (ea_3 (ev_var rfl) (ev_var rfl) (ev_var rfl)) ⟨τ, m.2, _, shR rs, rfl, o1, hw2, rfl⟩) (ev_call (ea_3 (ev_var rfl) (ev_var rfl) (ev_var rfl)) ⟨τ, m.2, _, shR rs', rfl, o2, hw2, rfl⟩)) (by show 3 ≤ 100000; decide)) k)))
end
end Nr
set_option Elab.async false
set_option linter.all false
set_option maxRecDepth 100000
set_option maxHeartbeats 4000000
set_option pp.maxSteps 700
namespace Nr
open PySem PySem.Spec PyProof.Rows L2
/-! ### a def that makes a list for its caller -/
def PL (R : List PyData → (List PyData → Prop) → Prop) : Sp := fun vs H Q _ => ∃ F ds Post, Ex F H ∧ Dts F ds vs ∧ R ds Post ∧ ∀ es ws F' H' p, Post es → Stp H F H' F' → Dts F' es ws → H' p = none → Q (.ref p) (upd H' p (.lst ws))
section
variable {c : Ct} {env : List Sl} {D : De} {ts us : TS} {t : TA} {ds : List PyData} {E : XK}
theorem rs_asgL {R : List PyData → (List PyData → Prop) → Prop} {i : Nat} (ha : EvA c t env ds) (hR : R ds (fun es => D.nx (env.set i (.ow (.lst es))))) : RS c (tAsg (tCall (PL R) [] E t) (gName i)) D env := fun σ F H fps Rs E' a =>
  ha σ F H fps Rs _ fun vs F1 H1 s1 h1 => ⟨F1, ds, _, s1.h, by rw [List.append_nil]; exact h1, hR, fun es ws F2 H2 p pe s2 h2 hp => a.nx _ F2 _ _ _ ((Rs.ext (s1.trans s2)).putO i (o := .lst es) hp fun F' H' e1 e2 => ⟨rfl, ws, e2, h2.mono e1⟩) (s1.trans s2).f pe⟩
theorem rs_seqK {I : List Sl → Prop} (h : RS c ts { D with nx := I } env) (k : ∀ e, I e → RS c us D e) : RS c (tSeq ts us) D env :=
  rs_seq fun σ F H fps R E a => h σ F H fps R E ⟨fun σ' F' H' e' f' R' x i => a.nx σ' F' H' e' f' R' x (k e' i), a.rt, a.bk, a.ct, a.ro⟩
end
section
variable {P : Program} {w : World} {K : PySem.W.Frag} {mg : Str → Option Value} {base : Heap} {C T : Addr}
theorem cl_list {C : Addr} {x : Str} {st : Stmt} {N ps : List Str} {k : Nat} {R : List PyData → (List PyData → Prop) → Prop} (D : Dn K mg x st) (S : FnScope N ps (defScope st)) (hb : BindsTo1 x x st ps) (len : ∀ ds Post, R ds Post → ds.length = ps.length)
    (hbody : ∀ (f : Addr) (cdv : Value) (A : Around) (outer : List Env) (s : Shared) (H : Hp) (E : XK), Room k (A.deeper (envOfC x (defScope st) s.heap.objs.size f cdv)) →
      ∃ ta, PSs (cxOf CX0 P w K mg base N x (defScope st) f cdv A outer s H E).nox (defBody st) (tRet (tLst ta)) ∧ ∀ c ds Post, c.C = C → R ds Post → ∃ es, EvA c ta (ds.map .im ++ List.replicate (N.length - ps.length) .no) es ∧ es.length ≤ 100000 ∧ Post es) : Cl P w K mg base (k + 1) x (PL R) := by
  obtain ⟨f, fd, F, hm⟩ := D.ex
  refine ⟨f, fd, ps, F.ok S (fun vs H Q E h => ?_) fun cdv A outer s H vs Q E hr h => ?_, hm, F.kp, F.binds hb⟩
  · obtain ⟨F0, ds, Post, _, h1, h2, _⟩ := h
    rw [h1.length]; exact len ds Post h2
  · obtain ⟨F0, ds, Post, e, h1, h2, q⟩ := h
    obtain ⟨ta, ht, hb⟩ := hbody f cdv A outer s H E hr
    refine ⟨_, ht, ?_⟩
    have hl : vs.length = ps.length := by rw [h1.length]; exact len ds Post h2
    have R0 := rl_im (C := C) e h1 (N.length - ps.length)
    rw [start_eq, hl]
    obtain ⟨es, hes, hle, hp⟩ := hb ⟨C, H, H, F0, []⟩ ds Post rfl h2
    exact hes _ F0 H _ R0 _ fun vs F1 H1 s1 h1 => ⟨by rw [h1.length]; exact sz_le hle, fun p hp2 => q es vs F1 H1 p hp s1 h1 hp2⟩
theorem cutD_lo' (ds : List PyData) (a : Nat) : cutD ds none (some (a : Int)) = ds.take a := by
  show (ds.drop 0).take (HT.sIx ds.length ds.length (some (a : Int)) - 0) = _
  rw [HT.sIx_nat, List.drop_zero, Nat.sub_zero]
  by_cases h : a ≤ ds.length
  · rw [Nat.min_eq_left h]
  · rw [Nat.min_eq_right (by omega), List.take_of_length_le (Nat.le_refl _), List.take_of_length_le (by omega)]
def pnL (cells : List Int) (at_ rest : Int) : List PyData := [.list (isD cells), .int at_, .int rest]
def R_pen (ds : List PyData) (Post : List PyData → Prop) : Prop := ∃ cells : List Int, ds = [.list (isD cells)] ∧ Post (pnL (cells.take 63) 0 0)
theorem cl_law_pen (t : Tx K mg C T) : Cl P w K mg base 1 "_law_pen" (PL R_pen) := by
  have sc : FnScope ["_law_script"] ["_law_script"] (defScope s_law_pen) := ⟨rfl, rfl, rfl, by decide +kernel, rfl, by decide +kernel, by decide +kernel⟩
  refine cl_list (C := C) t.d_law_pen sc (fun _ _ _ _ _ _ us hl => match us, hl with | [_], _ => rfl) (fun ds Post h => ?_) fun f cdv A outer s H E hr => ⟨_,
    (pss_one (ps_ret (pe_lst (pa_cons (pe_slice sl_list (pv 0) po_none (po_some pe_int)) (pa_cons pe_int (pa_cons pe_int pa_nil)))))), fun c ds Post hC h => ?_⟩
  · obtain ⟨_, rfl, _⟩ := h; rfl
  · obtain ⟨cells, rfl, k⟩ := h
    refine ⟨_, ea_3 (d1 := .list (isD (cells.take 63))) (ev_is (ev_slL (ev_var rfl) eo_none (eo_some ev_int)) ?_) ev_int ev_int, by show 3 ≤ 100000; decide, k⟩
    rw [show (63 : Int) = ((63 : Nat) : Int) from rfl, cutD_lo']
    unfold isD
    rw [List.map_take]
def R_take (env : List Sl) (Post : PyData → List Sl → Prop) : Prop := ∃ p cells at_ rest many, env = [.bo p (.lst (pnL cells at_ rest)), .im (.int many)] ∧ 1 ≤ many ∧ many ≤ 100000 ∧ 0 ≤ at_ ∧ at_ ≤ 1000000000 ∧
  ∀ r at' rest', 0 ≤ r → r < many → at_ ≤ at' → at' ≤ at_ + 1 → Post (.int r) [.bo p (.lst (pnL cells at' rest')), .no]
theorem cl_law_take (t : Tx K mg C T) : Cl P w K mg base 1 "_law_take" (PO C R_take) := by
  have sc : FnScope ["_law_pen_here", "_law_many", "_law_found", "_law_at", "_law_cell", "_law_great", "_law_number"] ["_law_pen_here", "_law_many"] (defScope s_law_take) := ⟨rfl, rfl, rfl, by decide +kernel, rfl, by decide +kernel, by decide +kernel⟩
  refine cl_own t.d_law_take sc (fun _ _ _ _ _ _ us hl => match us, hl with | [_, _], _ => rfl) (fun env Post h => ?_) fun f cdv A outer s H E hr => ⟨_,
    (pss_cons (ps_if (pt_cmpR op_gt (pe_ix ix_list (pv 0) pe_int (fun _ _ => rfl)) pe_int (nomark _))
  (pss_cons (ps_set (i := 2) sc.nd rfl (Or.inl rfl) (pe_op op_mod (pe_ix ix_list (pv 0) pe_int (fun _ _ => rfl)) (pv 1)))
  (pss_cons (ps_asg (pe_op op_fdiv (pe_ix ix_list (pv 0) pe_int (fun _ _ => rfl)) (pv 1)) (pg_sub (pv 0) pe_int set_list))
  (pss_one (ps_ret (pv 2)))))
  pss_nil)
  (pss_cons (ps_set (i := 3) sc.nd rfl (Or.inl rfl) (pe_ix ix_list (pv 0) pe_int (fun _ _ => rfl)))
  (pss_cons (ps_asg (pe_op op_add (pv 3) pe_int) (pg_sub (pv 0) pe_int set_list))
  (pss_cons (ps_set (i := 4) sc.nd rfl (Or.inl rfl) pe_int)
  (pss_cons (ps_if (pt_cmpR op_gt (pe_callB call_len_seq (by rfl) t.n_len bt_len (pa_cons (pe_ix ix_list (pv 0) pe_int (fun _ _ => rfl)) pa_nil)) pe_int (nomark _))
  (pss_one (ps_set (i := 4) sc.nd rfl (Or.inl rfl) (pe_ix ix_list (pe_ix ix_list (pv 0) pe_int (fun _ _ => rfl)) (pe_op op_mod (pv 3) (pe_callB call_len_seq (by rfl) t.n_len bt_len (pa_cons (pe_ix ix_list (pv 0) pe_int (fun _ _ => rfl)) pa_nil))) (fun _ _ => rfl))))
  pss_nil)
  (pss_cons (ps_if (PW.pt (pw_and (pt_cmpR op_lt (pv 3) (pe_callB call_len_seq (by rfl) t.n_len bt_len (pa_cons (pe_ix ix_list (pv 0) pe_int (fun _ _ => rfl)) pa_nil)) (nomark _)) (pw_and1 (pt_cmpR op_ge (pe_callB call_abs (by rfl) t.n_abs bt_abs (pa_cons (pv 4) pa_nil)) (pe_op op_pow pe_int pe_int) (nomark _)))))
  (pss_cons (ps_set (i := 5) sc.nd rfl (Or.inl rfl) (pe_op op_add (pe_op op_mul pe_int (pe_callB call_abs (by rfl) t.n_abs bt_abs (pa_cons (pv 4) pa_nil))) (pe_callTy call_int1 (by rfl) t.n_int bt_int (pa_cons (pe_cmpR op_lt (pv 4) pe_int (nomark _)) pa_nil))))
  (pss_cons (ps_asg (pe_op op_fdiv (pv 5) (pv 1)) (pg_sub (pv 0) pe_int set_list))
  (pss_one (ps_ret (pe_op op_mod (pv 5) (pv 1))))))
  pss_nil)
  (pss_cons (ps_set (i := 6) sc.nd rfl (Or.inl rfl) (pe_op op_mod (pe_op op_pow (pe_op op_add (pe_op op_add (pe_op op_mod (pv 4) pe_int) (pe_op op_mul pe_int (pv 3))) pe_int) pe_int) pe_int))
  (pss_cons (ps_set (i := 6) sc.nd rfl (Or.inl rfl) (pe_op op_mod (pe_op op_add (pe_op op_add (pe_op op_mul (pv 6) (pv 6)) (pe_op op_mul pe_int (pv 6))) (pv 3)) pe_int))
  (pss_one (ps_ret (pe_op op_mod (pe_op op_fdiv (pv 6) pe_int) (pv 1)))))))))))), fun c env Post hC h => ?_⟩
  · obtain ⟨_, _, _, _, _, rfl, _⟩ := h; rfl
  · obtain ⟨p, cells, a, rest, many, rfl, m1, m2, a1, a2, k⟩ := h
    have hm0 : many ≠ 0 := by omega
    refine rs_seq (rs_if (eb_test (ev_op (ev_ixO rfl rfl ev_int (ix_of (j := 2) rfl rfl)) ev_int rv_I0b)) (fun h => ?_) (fun h => rs_next ?_))
    · refine rs_seq (rs_asg (ev_op (ev_ixO (d := .int rest) rfl rfl ev_int (ix_of (j := 2) rfl rfl)) (ev_var rfl) (rv_Ii (C := fun _ j => 0 < j) (g := fun i j => i % j) (by omega))) (rs_seq (rs_set (n := 2) rfl rfl (ev_op (ev_ixO (d := .int rest) rfl rfl ev_int (ix_of (j := 2) rfl rfl)) (ev_var rfl) (rv_Ii (C := CDiv) (g := fun i j => i / j) ⟨by omega, by omega⟩)) ev_int rfl (rs_ret (ev_var rfl) ⟨k (rest % many) a (rest / many) (Int.emod_nonneg _ hm0) (Int.emod_lt_of_pos _ (by omega)) (by omega) (by omega), ⟨_, rfl⟩, trivial⟩))))
    · refine rs_seq (rs_asg (ev_ixO (d := .int a) rfl rfl ev_int (ix_of (j := 1) rfl rfl)) (rs_seq (rs_set (n := 1) rfl rfl (ev_op (ev_var rfl) ev_int rv_add) ev_int rfl (rs_seq (rs_asg ev_int (rs_seqK (I := fun e => ∃ cell : Int, e = [.bo p (.lst (pnL cells (a + 1) rest)), .im (.int many), .no, .im (.int a), .im (.int cell), .no, .no]) (rs_if (eb_test (ev_op (ev_cb (ea_1 (ev_ixO (d := .list (isD cells)) rfl rfl ev_int (ix_of (j := 0) rfl rfl))) rc_lenL) ev_int rv_I0b)) (fun h => ?_) (fun h => rs_next ⟨_, rfl⟩)) ?_))))))
      · have h := of_decide_eq_true h
        have hl : 0 < (isD cells).length := by omega
        have hn : 0 ≤ a % ((isD cells).length : Int) := Int.emod_nonneg _ (by omega)
        have hlt : a % ((isD cells).length : Int) < (isD cells).length := Int.emod_lt_of_pos _ (by omega)
        obtain ⟨j, hj⟩ : ∃ j : Nat, a % ((isD cells).length : Int) = (j : Int) := ⟨_, (Int.toNat_of_nonneg hn).symm⟩
        have hjl : j < cells.length := by rw [isD, List.length_map] at hlt hj; omega
        refine rs_asg (d := .int cells[j]) (ev_op (ev_ixO (d := .list (isD cells)) rfl rfl ev_int (ix_of (j := 0) rfl rfl)) (ev_is (ev_op (ev_var rfl) (ev_cb (ea_1 (ev_ixO (d := .list (isD cells)) rfl rfl ev_int (ix_of (j := 0) rfl rfl))) rc_lenL) (rv_Ii (C := fun _ j => 0 < j) (g := fun i j => i % j) (by omega))) (congrArg PyData.int hj)) (rv_ixL (ix_of rfl (get_map' (List.getElem?_eq_getElem hjl))))) ⟨_, rfl⟩
      · rintro _ ⟨cell, rfl⟩
        refine rs_seq (rs_if (eb_and (eb_test (ev_op (ev_var rfl) (ev_cb (ea_1 (ev_ixO (d := .list (isD cells)) rfl rfl ev_int (ix_of (j := 0) rfl rfl))) rc_lenL) rv_I0b)) fun _ => eb_test (ev_op (ev_cb (ea_1 (ev_var rfl)) rc_abs) (ev_op ev_int ev_int (rv_Ii (C := CPow) (g := fun i j => i ^ j.toNat) ⟨by decide, by decide, by decide⟩)) rv_I0b)) (fun h => ?_) (fun h => rs_next ?_))
        · refine rs_seq (rs_asg (ev_op (ev_op ev_int (ev_cb (ea_1 (ev_var rfl)) rc_abs) (rv_Ii (C := CMul) (g := fun i j => i * j) (Or.inl ⟨by decide, by decide⟩))) (ev_cb (ea_1 (ev_op (ev_var rfl) ev_int rv_I0b)) rc_intB) rv_add) ?_)
          generalize (2 * (if cell < 0 then -cell else cell) + _ : Int) = g
          exact rs_seq (rs_set (n := 2) rfl rfl (ev_op (ev_var rfl) (ev_var rfl) (rv_Ii (C := CDiv) (g := fun i j => i / j) ⟨by omega, by omega⟩)) ev_int rfl (rs_ret (ev_op (ev_var rfl) (ev_var rfl) (rv_Ii (C := fun _ j => 0 < j) (g := fun i j => i % j) (by omega))) ⟨k (g % many) (a + 1) (g / many) (Int.emod_nonneg _ hm0) (Int.emod_lt_of_pos _ (by omega)) (by omega) (by omega), ⟨_, rfl⟩, trivial⟩))
        · have e1 : 0 ≤ cell % 2147483587 := Int.emod_nonneg _ (by decide)
          have e2 : cell % 2147483587 < 2147483587 := Int.emod_lt_of_pos _ (by decide)
          refine rs_seq (rs_asg (ev_op (ev_op (ev_op (ev_op (ev_op (ev_var rfl) ev_int (rv_Ii (C := fun _ j => 0 < j) (g := fun i j => i % j) (by decide))) (ev_op ev_int (ev_var rfl) (rv_Ii (C := CMul) (g := fun i j => i * j) (Or.inl ⟨by decide, by decide⟩))) rv_add) ev_int rv_add) ev_int (rv_Ii (C := CPow) (g := fun i j => i ^ j.toNat) ⟨by decide, by decide, ?_⟩)) ev_int (rv_Ii (C := fun _ j => 0 < j) (g := fun i j => i % j) (by decide))) ?_)
          · show (cell % 2147483587 + 40709 * a + 31).natAbs < 2 ^ 64
            omega
          have f1 : 0 ≤ (cell % 2147483587 + 40709 * a + 31) ^ (3 : Int).toNat % 2147483647 := Int.emod_nonneg _ (by decide)
          have f2 : (cell % 2147483587 + 40709 * a + 31) ^ (3 : Int).toNat % 2147483647 < 2147483647 := Int.emod_lt_of_pos _ (by decide)
          generalize (cell % 2147483587 + 40709 * a + 31) ^ (3 : Int).toNat % 2147483647 = n at f1 f2
          refine rs_seq (rs_asg (ev_op (ev_op (ev_op (ev_op (ev_var rfl) (ev_var rfl) (rv_Ii (C := CMul) (g := fun i j => i * j) (Or.inl ⟨?_, ?_⟩))) (ev_op ev_int (ev_var rfl) (rv_Ii (C := CMul) (g := fun i j => i * j) (Or.inl ⟨by decide, by decide⟩))) rv_add) (ev_var rfl) rv_add) ev_int (rv_Ii (C := fun _ j => 0 < j) (g := fun i j => i % j) (by decide))) ?_)
          · show -(2 ^ 64 : Int) < n
            omega
          · show n < (2 ^ 64 : Int)
            omega
          generalize (n * n + 48271 * n + a) % 2147483629 = n2
          exact rs_ret (ev_op (ev_op (ev_var rfl) ev_int (rv_Ii (C := CDiv) (g := fun i j => i / j) ⟨by decide, by decide⟩)) (ev_var rfl) (rv_Ii (C := fun _ j => 0 < j) (g := fun i j => i % j) (by omega))) ⟨k (n2 / 64 % many) (a + 1) rest (Int.emod_nonneg _ hm0) (Int.emod_lt_of_pos _ (by omega)) (by omega) (by omega), ⟨_, rfl⟩, trivial⟩
def sg_all : Str := (" !\"#$&'()*+,-./0123456789:;<=>?@ABCDEFGHIJKLMNOPQRSTUVWXYZ[\\]^_`" : Str) ++ ("abcdefghijklmnopqrstuvwxyz{|}~\n" : Str)
def R_signs (ds : List PyData) (Post : PyData → Prop) : Prop := ds = [] ∧ Post (.str sg_all)
theorem cl_law_signs (t : Tx K mg C T) : Cl P w K mg base 1 "_law_signs" (PF R_signs) := by
  have sc : FnScope ["_law_some_here"] [] (defScope s_law_signs) := ⟨rfl, rfl, rfl, by decide +kernel, rfl, by decide +kernel, by decide +kernel⟩
  refine cl_pure (C := C) t.d_law_signs sc (fun _ _ _ _ _ _ us hl => match us, hl with | [], _ => rfl) (fun ds Post h => ?_) fun f cdv A outer s H E hr => ⟨_,
    (pss_cons (ps_set (i := 0) sc.nd rfl (Or.inl rfl) pe_str)
  (pss_one (ps_ret (pe_op op_add_str (pv 0) pe_str)))), fun c ds Post hC h => ?_⟩
  · obtain ⟨rfl, _⟩ := h; rfl
  · obtain ⟨rfl, k⟩ := h
    exact rs_seq (rs_asg ev_str (rs_ret (ev_op (ev_var rfl) ev_str (rv_addS (by decide))) k))
end
end Nr
set_option Elab.async false
set_option linter.all false
set_option maxRecDepth 100000
set_option maxHeartbeats 4000000
set_option pp.maxSteps 700
namespace Nr
open PySem PySem.Spec PyProof.Rows L2
theorem str_cat (u v : List Nat) : (⟨u.toArray⟩ : Str) ++ (⟨v.toArray⟩ : Str) = ⟨(u ++ v).toArray⟩ := by
  show (⟨u.toArray ++ v.toArray⟩ : Str) = _
  simp
theorem cutS_lo (l : List Nat) (a : Nat) : L2.cutS ⟨l.toArray⟩ none (some (a : Int)) = ⟨(l.take a).toArray⟩ := by
  unfold L2.cutS
  have e : (⟨l.toArray⟩ : Str).length = l.length := by simp [Str.length]
  rw [e, HT.sIx_nat, HT.sIx_none, List.drop_zero, Nat.sub_zero]
  show (⟨(l.take (min a l.length)).toArray⟩ : Str) = _
  by_cases h : a ≤ l.length
  · rw [Nat.min_eq_left h]
  · rw [Nat.min_eq_right (by omega), List.take_of_length_le (Nat.le_refl _), List.take_of_length_le (by omega)]
theorem cutS_hi (l : List Nat) (a : Nat) : L2.cutS ⟨l.toArray⟩ (some (a : Int)) none = ⟨(l.drop a).toArray⟩ := by
  unfold L2.cutS
  have e : (⟨l.toArray⟩ : Str).length = l.length := by simp [Str.length]
  rw [e, HT.sIx_nat, HT.sIx_none]
  show (⟨((l.drop (min a l.length)).take (l.length - min a l.length)).toArray⟩ : Str) = _
  rw [List.take_of_length_le (by rw [List.length_drop]; omega)]
  by_cases h : a ≤ l.length
  · rw [Nat.min_eq_left h]
  · rw [Nat.min_eq_right (by omega), List.drop_of_length_le (Nat.le_refl _), List.drop_of_length_le (by omega)]
theorem wl (w : List Nat) : (⟨w.toArray⟩ : Str).length = w.length := by simp [Str.length]
theorem perm_step {φ ρ L : List Nat} {j : Nat} (h : (φ ++ ρ).Perm L) (hj : j < ρ.length) : ((φ ++ [ρ[j]]) ++ (ρ.take j ++ ρ.drop (j + 1))).Perm L := by
  refine List.Perm.trans ?_ h
  have e : ρ = ρ.take j ++ ρ[j] :: ρ.drop (j + 1) := by rw [← List.drop_eq_getElem_cons hj, List.take_append_drop]
  rw [List.append_assoc]
  refine List.Perm.append_left φ ?_
  show (ρ[j] :: (ρ.take j ++ ρ.drop (j + 1))).Perm ρ
  refine List.perm_middle.symm.trans ?_
  exact List.Perm.of_eq e.symm
section
variable {P : Program} {w : World} {K : PySem.W.Frag} {mg : Str → Option Value} {base : Heap} {C T : Addr}
def R_lsome (env : List Sl) (Post : PyData → List Sl → Prop) : Prop := ∃ p cells at_ rest L most, env = [.bo p (.lst (pnL cells at_ rest)), .im (sD L), .im (nD most)] ∧ L.Nodup ∧ 1 ≤ most ∧ most ≤ L.length ∧ L.length ≤ 1000 ∧ 0 ≤ at_ ∧ at_ ≤ 900000000 ∧
  ∀ σ at' rest', 1 ≤ σ.length → σ.length ≤ most → σ.Nodup → (∀ k ∈ σ, k ∈ L) → at_ ≤ at' → at' ≤ at_ + 1 + most → Post (sD σ) [.bo p (.lst (pnL cells at' rest')), .no, .no]
theorem cl_law_some (t : Tx K mg C T) : Cl P w K mg base 2 "_law_some" (PO C R_lsome) := by
  have sc : FnScope ["_law_pen_here", "_law_rest", "_law_most", "_law_found", "_law_k", "_law_at"] ["_law_pen_here", "_law_rest", "_law_most"] (defScope s_law_some) := ⟨rfl, rfl, rfl, by decide +kernel, rfl, by decide +kernel, by decide +kernel⟩
  have c_law_take := cl_law_take (P := P) (w := w) (base := base) t
  refine cl_own t.d_law_some sc (fun _ _ _ _ _ _ us hl => match us, hl with | [_, _, _], _ => rfl) (fun env Post h => ?_) fun f cdv A outer s H E hr => ⟨_,
    (pss_cons (ps_set (i := 3) sc.nd rfl (Or.inl rfl) pe_str)
  (pss_cons (ps_for PassesOwn.never rfl (pi_range1 rfl t.n_range (pa_cons (pe_op op_add pe_int (pe_cl c_law_take hr (by omega) (by rfl) (pa_cons (pv 0) (pa_cons (pv 2) pa_nil)))) pa_nil)) (pg_name (i := 4) sc.nd rfl (Or.inl rfl))
  (pss_cons (ps_set (i := 5) sc.nd rfl (Or.inl rfl) (pe_cl c_law_take hr (by omega) (by rfl) (pa_cons (pv 0) (pa_cons (pe_callB call_len_str (by rfl) t.n_len bt_len (pa_cons (pv 1) pa_nil)) pa_nil))))
  (pss_cons (ps_set (i := 3) sc.nd rfl (Or.inl rfl) (pe_op op_add_str (pv 3) (pe_ix ix_str (pv 1) (pv 5) (fun _ _ => rfl))))
  (pss_one (ps_set (i := 1) sc.nd rfl (Or.inl rfl) (pe_op op_add_str (pe_slice sl_str (pv 1) po_none (po_some (pv 5))) (pe_slice sl_str (pv 1) (po_some (pe_op op_add (pv 5) pe_int)) po_none)))))))
  (pss_one (ps_ret (pv 3))))), fun c env Post hC h => ?_⟩
  · obtain ⟨_, _, _, _, _, _, rfl, _⟩ := h; rfl
  · obtain ⟨p, cells, a, rest, L, most, rfl, nd, m1, m2, hL, a1, a2, k⟩ := h
    refine rs_seq (rs_asg (d := sD []) (ev_is ev_str rfl) (rs_seq (rs_forR (ri_range1 (re_op (re_ev ev_int (re_call1 hC.symm rfl rfl (ra_ev (ea_1 (ev_var rfl)) ⟨_, .lst (pnL cells a rest), rfl, rfl, fun q => ⟨q, cells, a, rest, (most : Int), rfl, by omega, by omega, by omega, by omega, fun r b rest1 r0 r1 x0 x1 => ⟨_, _, rfl, _, rv_add, 1 + r, rfl, by omega, by omega,
      (fun i env => ∃ φ ρ ai ri x y, env = [.bo p (.lst (pnL cells ai ri)), .im (sD ρ), .im (nD most), .im (sD φ), x, y] ∧ (φ ++ ρ).Perm L ∧ φ.length = i ∧ a ≤ ai ∧ ai ≤ a + 1 + i), ⟨[], L, b, rest1, _, _, rfl, List.Perm.refl _, rfl, x0, by omega⟩, ?_, ?_⟩⟩⟩))))))))
    · rintro i d _ hi ⟨φ, ρ, ai, ri, x, y, rfl, hp, hφ, b1, b2⟩
      obtain ⟨hin, rfl⟩ := rngD_get hi
      have hlen := hp.length_eq
      rw [List.length_append] at hlen
      have hρ : 0 < ρ.length := by omega
      refine ⟨_, _, eg_name, rs_seq (rs_asgR (re_call1 hC.symm rfl rfl (ra_ev (ea_1 (ev_is (e := nD ρ.length) (ev_cb (ea_1 (ev_var rfl)) (rc_lenS (by rw [wl]; omega))) (by rw [wl]))) ⟨_, .lst (pnL cells ai ri), rfl, rfl, fun q => ⟨q, cells, ai, ri, (ρ.length : Int), rfl, by omega, by omega, by omega, by omega, fun r b rest1 r0 r1 x0 x1 => ⟨_, _, rfl, ?_⟩⟩⟩)))⟩
      obtain ⟨j, rfl⟩ := Int.eq_ofNat_of_zero_le r0
      have hj : j < ρ.length := by omega
      refine rs_seq (rs_asg (d := sD (φ ++ [ρ[j]])) (ev_is (ev_op (ev_var rfl) (ev_op (ev_var rfl) (ev_var (d := nD j) rfl) (rv_ixS (k := ρ[j]) (by rw [wl]; omega) (ix_of rfl (List.getElem?_eq_getElem hj)))) (rv_addS (by rw [wl]; show _ + 1 ≤ _; omega))) (by rw [str_snoc])) ?_)
      refine rs_asg (d := sD (ρ.take j ++ ρ.drop (j + 1))) (ev_is (ev_op (ev_slS (ev_var rfl) eo_none (eo_some (ev_var (d := nD j) rfl)) (by rw [wl]; omega)) (ev_slS (ev_var rfl) (eo_some (ev_is (e := nD (j + 1)) (ev_op (ev_var (d := nD j) rfl) ev_int rv_add) rfl)) eo_none (by rw [wl]; omega)) (rv_addS ?_)) ?_) ?_
      · rw [cutS_lo, cutS_hi, wl, wl, List.length_take, List.length_drop]; omega
      · rw [cutS_lo, cutS_hi, str_cat]
      · exact ⟨φ ++ [ρ[j]], ρ.take j ++ ρ.drop (j + 1), b, rest1, _, _, rfl, perm_step hp hj, by rw [List.length_append, hφ]; rfl, by omega, by omega⟩
    · rintro _ ⟨φ, ρ, ai, ri, x, y, rfl, hp, hφ, b1, b2⟩
      rw [rngD_len] at hφ b2
      have nd2 := hp.nodup_iff.mpr nd
      rw [List.nodup_append] at nd2
      refine rs_ret (ev_var rfl) ⟨k φ ai ri (by omega) (by omega) nd2.1 (fun z hz => hp.mem_iff.mp (List.mem_append_left _ hz)) b1 (by omega), ⟨_, rfl⟩, trivial⟩
end
end Nr
set_option Elab.async false
set_option linter.all false
set_option maxRecDepth 100000
set_option maxHeartbeats 4000000
set_option pp.maxSteps 700
namespace Nr
open PySem PySem.Spec PyProof.Rows L2
def lgB : Nat → Int
  | 0 => 4
  | n + 1 => 4 * lgB n
theorem lgB_ge : ∀ n, 4 ≤ lgB n
  | 0 => Int.le_refl 4
  | n + 1 => by have := lgB_ge n; show 4 ≤ 4 * lgB n; omega
theorem deps_snoc : ∀ (l : List Sh) (x : Sh), deps (l ++ [x]) = max (deps l) x.dep
  | [], x => by show max x.dep 0 = max 0 x.dep; omega
  | y :: l, x => by show max y.dep (deps (l ++ [x])) = max (max y.dep (deps l)) x.dep; rw [deps_snoc l x]; omega
theorem oks_snoc {τ : List Nat} : ∀ (l : List Sh) (x : Sh), oks τ l → x.ok τ → oks τ (l ++ [x])
  | [], _, _, h => ⟨h, trivial⟩
  | _ :: l, x, h, h' => ⟨h.1, oks_snoc l x h.2 h'⟩
def puL (a b : Nat) : List PyData := [nD a, nD b]
section
variable {P : Program} {w : World} {K : PySem.W.Frag} {mg : Str → Option Value} {base : Heap} {C T : Addr}
def R_light (n : Nat) (env : List Sl) (Post : PyData → List Sl → Prop) : Prop := ∃ p q cells at_ rest p0 p1 τ, env = [.bo p (.lst (pnL cells at_ rest)), .bo q (.lst (puL p0 p1)), .im (nD n), .im (sD τ)] ∧ 1 ≤ n ∧ Tng τ ∧ p0 ≤ 1000 ∧ p1 ≤ 1000 ∧ 0 ≤ at_ ∧ at_ + lgB n ≤ 800000000 ∧
  ∀ s at' rest' p0' p1', s.dep ≤ n → s.ok τ → s.cnt + p0' ≤ p0 + 1 → s.wt + p1' ≤ p1 → at_ ≤ at' → at' ≤ at_ + lgB n → Post (shD s) [.bo p (.lst (pnL cells at' rest')), .bo q (.lst (puL p0' p1')), .no, .no]
theorem cl_law_light (t : Tx K mg C T) : ∀ n, Cl P w K mg base (n + 3) "_law_light" (PO C (R_light n)) := by
  have sc : FnScope ["_law_pen_here", "_law_purse", "_law_deep", "_law_tongue", "_law_road", "_law_low", "_law_high", "_law_few", "_law_had", "_law_part", "_law_size", "_law_parts", "_law_k"] ["_law_pen_here", "_law_purse", "_law_deep", "_law_tongue"] (defScope s_law_light) := ⟨rfl, rfl, rfl, by decide +kernel, rfl, by decide +kernel, by decide +kernel⟩
  have c_law_take := cl_law_take (P := P) (w := w) (base := base) t
  have c_law_some := cl_law_some (P := P) (w := w) (base := base) t
  intro n
  induction n with
  | zero => exact cl_vacO t.d_law_light sc (fun _ _ _ _ _ _ us hl => match us, hl with | [_, _, _, _], _ => rfl) fun env Post ⟨_, _, _, _, _, _, _, _, _, h, _⟩ => by omega
  | succ n ih =>
    have c_law_light := ih
    refine cl_own (k := n + 3) t.d_law_light sc (fun _ _ _ _ _ _ us hl => match us, hl with | [_, _, _, _], _ => rfl) (fun env Post h => ?_) fun f cdv A outer s H E hr => ⟨_,
      (pss_cons (ps_set (i := 4) sc.nd rfl (Or.inl rfl) (pe_cl c_law_take hr (by omega) (by rfl) (pa_cons (pv 0) (pa_cons pe_int pa_nil))))
  (pss_cons (ps_if (pt_cmpR op_lt (pe_ix ix_list (pv 1) pe_int (fun _ _ => rfl)) pe_int (nomark _))
  (pss_one (ps_ret (pe_tup (pa_cons pe_str (pa_cons (pe_tup pa_nil) pa_nil)))))
  pss_nil)
  (pss_cons (ps_if (PW.pt (pw_or (pt_cmpR op_eq (pv 2) pe_int (nomark _)) (pw_or (pt_cmpR op_lt (pe_ix ix_list (pv 1) pe_int (fun _ _ => rfl)) pe_int (nomark _)) (pw_or1 (pt_cmpR op_lt (pv 4) pe_int (nomark _))))))
  (pss_cons (ps_asg (pe_op op_sub (pe_ix ix_list (pv 1) pe_int (fun _ _ => rfl)) pe_int) (pg_sub (pv 1) pe_int set_list))
  (pss_one (ps_ret (pe_tup (pa_cons pe_str (pa_cons (pe_cl c_law_some hr (by omega) (by rfl) (pa_cons (pv 0) (pa_cons (pv 3) (pa_cons (pe_callB (call_min2 rfl) (by rfl) t.n_min bt_min (pa_cons pe_int (pa_cons (pe_callB call_len_str (by rfl) t.n_len bt_len (pa_cons (pv 3) pa_nil)) pa_nil))) pa_nil)))) pa_nil))))))
  pss_nil)
  (pss_cons (ps_if (pt_cmpR op_lt (pv 4) pe_int (nomark _))
  (pss_cons (ps_asg (pe_op op_sub (pe_ix ix_list (pv 1) pe_int (fun _ _ => rfl)) pe_int) (pg_sub (pv 1) pe_int set_list))
  (pss_one (ps_ret (pe_tup (pa_cons pe_str (pa_cons (pe_cl c_law_light hr (by omega) (by rfl) (pa_cons (pv 0) (pa_cons (pv 1) (pa_cons (pe_op op_sub (pv 2) pe_int) (pa_cons (pv 3) pa_nil))))) pa_nil))))))
  pss_nil)
  (pss_cons (ps_if (pt_cmpR op_eq (pv 4) pe_int (nomark _))
  (pss_cons (ps_set (i := 5) sc.nd rfl (Or.inl rfl) (pe_cl c_law_take hr (by omega) (by rfl) (pa_cons (pv 0) (pa_cons pe_int pa_nil))))
  (pss_cons (ps_set (i := 6) sc.nd rfl (Or.inl rfl) (pe_op op_add (pv 5) (pe_cl c_law_take hr (by omega) (by rfl) (pa_cons (pv 0) (pa_cons (pe_op op_sub pe_int (pv 5)) pa_nil)))))
  (pss_cons (ps_set (i := 7) sc.nd rfl (Or.inl rfl) (pe_lst (pa_cons (pe_op op_sub (pe_ix ix_list (pv 1) pe_int (fun _ _ => rfl)) pe_int) (pa_cons (pe_op op_fdiv (pe_ix ix_list (pv 1) pe_int (fun _ _ => rfl)) (pe_callB (call_max2 rfl) (by rfl) t.n_max bt_max (pa_cons pe_int (pa_cons (pv 6) pa_nil)))) pa_nil))))
  (pss_cons (ps_set (i := 8) sc.nd rfl (Or.inl rfl) (pe_ix ix_list (pv 7) pe_int (fun _ _ => rfl)))
  (pss_cons (ps_set (i := 9) sc.nd rfl (Or.inl rfl) (pe_cl c_law_light hr (by omega) (by rfl) (pa_cons (pv 0) (pa_cons (pv 7) (pa_cons (pe_op op_sub (pv 2) pe_int) (pa_cons (pv 3) pa_nil))))))
  (pss_cons (ps_asg (pe_ix ix_list (pv 7) pe_int (fun _ _ => rfl)) (pg_sub (pv 1) pe_int set_list))
  (pss_cons (ps_asg (pe_op op_sub (pe_ix ix_list (pv 1) pe_int (fun _ _ => rfl)) (pe_op op_mul (pv 6) (pe_op op_sub (pv 8) (pe_ix ix_list (pv 7) pe_int (fun _ _ => rfl))))) (pg_sub (pv 1) pe_int set_list))
  (pss_one (ps_ret (pe_tup (pa_cons pe_str (pa_cons (pv 9) (pa_cons (pv 5) (pa_cons (pv 6) pa_nil))))))))))))))
  pss_nil)
  (pss_cons (ps_set (i := 10) sc.nd rfl (Or.inl rfl) (pe_callB (call_min2 rfl) (by rfl) t.n_min bt_min (pa_cons (pe_ix ix_list (pv 1) pe_int (fun _ _ => rfl)) (pa_cons (pe_op op_add pe_int (pe_cl c_law_take hr (by omega) (by rfl) (pa_cons (pv 0) (pa_cons pe_int pa_nil)))) pa_nil))))
  (pss_cons (ps_asg (pe_op op_sub (pe_ix ix_list (pv 1) pe_int (fun _ _ => rfl)) (pv 10)) (pg_sub (pv 1) pe_int set_list))
  (pss_cons (ps_set (i := 11) sc.nd rfl (Or.inl rfl) (pe_callTy call_tuple_of (by rfl) t.n_tuple bt_tuple (pa_cons (pe_lc (own := [("_law_k", 12)]) (g := gName 12) rfl sc.nd (pi_range1 rfl t.n_range (pa_cons (pv 10) pa_nil)) (blkOk_by (N := ["_law_pen_here", "_law_purse", "_law_deep", "_law_tongue", "_law_road", "_law_low", "_law_high", "_law_few", "_law_had", "_law_part", "_law_size", "_law_parts", "_law_k"]) (sc := (defScope s_law_light)) (own := [("_law_k", 12)]) (by decide +kernel)) (fun _ _ _ _ _ => (pg_name (i := 12) sc.nd rfl (Or.inl rfl))) (fun _ _ _ _ _ => pts_nil) (fun _ _ _ _ _ => (pe_cl c_law_light hr (by omega) (by rfl) (pa_cons (pv 0) (pa_cons (pv 1) (pa_cons (pe_op op_sub (pv 2) pe_int) (pa_cons (pv 3) pa_nil))))))) pa_nil)))
  (pss_one (ps_ret (pe_tup (pa_cons (pe_ix ix_list (pe_lst (pa_cons pe_str (pa_cons pe_str pa_nil))) (pe_op op_fdiv (pv 4) pe_int) (fun _ _ => rfl)) (pa_cons (pv 11) pa_nil))))))))))))), fun c env Post hC h => ?_⟩
    · obtain ⟨_, _, _, _, _, _, _, _, rfl, _⟩ := h; rfl
    · obtain ⟨p, q, cells, a, rest, p0, p1, τ, rfl, _, ht, hp0, hp1, a1, a2, k⟩ := h
      have hB := lgB_ge n
      have eB : lgB (n + 1) = 4 * lgB n := rfl
      rw [eB] at a2 k
      have tl := ht.l
      have tm := ht.m
      refine rs_seq (rs_asgR (re_call1 hC.symm rfl rfl (ra_ev (ea_1 ev_int) ⟨_, .lst (pnL cells a rest), rfl, rfl, fun q' => ⟨q', cells, a, rest, 10, rfl, by omega, by omega, by omega, by omega, fun road b r1 r0 r10 x0 x1 => ⟨_, _, rfl, ?_⟩⟩⟩)))
      refine rs_seq (rs_if (eb_test (ev_op (ev_ixO (d := nD p1) rfl rfl ev_int (ix_of (j := 1) rfl rfl)) ev_int rv_I0b)) (fun h => ?_) (fun h => rs_next ?_))
      · exact rs_ret (d := shD (.row [])) (ev_tup (ea_2 ev_str (ev_tup ea_nil (by show 0 ≤ 100000; decide))) (by show 2 ≤ 100000; decide)) ⟨k (.row []) b r1 p0 p1 (by show 0 + 1 ≤ n + 1; omega) ⟨by show 0 ≤ 6; omega, trivial⟩ (by show 0 + 1 + p0 ≤ p0 + 1; omega) (by show 0 + p1 ≤ p1; omega) x0 (by omega), ⟨_, rfl⟩, ⟨_, rfl⟩, trivial⟩
      have h := of_decide_eq_false h
      have hp1' : 1 ≤ p1 := by omega
      refine rs_seq (rs_if (eb_or (eb_test (ev_op (ev_var rfl) ev_int rv_eqI)) fun _ => eb_or (eb_test (ev_op (ev_ixO (d := nD p0) rfl rfl ev_int (ix_of (j := 0) rfl rfl)) ev_int rv_I0b)) fun _ => eb_test (ev_op (ev_var rfl) ev_int rv_I0b)) (fun h => ?_) (fun h => rs_next ?_))
      · refine rs_seq (rs_set (d := nD (p1 - 1)) (n := 1) rfl rfl (ev_is (ev_op (ev_ixO (d := nD p1) rfl rfl ev_int (ix_of (j := 1) rfl rfl)) ev_int rv_sub) (congrArg PyData.int (by omega))) ev_int rfl ?_)
        refine rs_retR (re_tup (ra_cons (re_ev ev_str (ra_cons (re_call1 hC.symm rfl rfl (ra_ev (ea_2 (ev_var rfl) (ev_is (e := nD (if τ.length < 2 then τ.length else 2)) (ev_cb (ea_2 ev_int (ev_is (e := nD τ.length) (ev_cb (ea_1 (ev_var rfl)) (rc_lenS (by rw [wl]; omega))) (by rw [wl]))) rc_min2) ?_)) ⟨_, .lst (pnL cells b r1), rfl, rfl, fun q' => ⟨q', cells, b, r1, τ, (if τ.length < 2 then τ.length else 2), rfl, ht.nd, ?_, ?_, by omega, by omega, by omega, fun σ a' r' s1 s2 s3 s4 x2 x3 => ⟨_, _, rfl, ra_nil ⟨by show 2 ≤ 100000; decide, k (.one σ) a' r' p0 (p1 - 1) ?_ ⟨⟨s1, ?_, s3, fun z hz => ht.s z (s4 z hz)⟩, s4⟩ ?_ ?_ ?_ ?_, ⟨_, rfl⟩, ⟨_, rfl⟩, trivial⟩⟩⟩⟩))))))
        · refine congrArg PyData.int ?_
          split <;> split <;> omega
        · split <;> omega
        · split <;> omega
        · show 1 ≤ n + 1
          omega
        · split at s2 <;> omega
        · show 1 + p0 ≤ p0 + 1
          omega
        · show 1 + (p1 - 1) ≤ p1
          omega
        · omega
        · split at x3 <;> omega
      have hn : 1 ≤ n := by
        rcases Nat.eq_zero_or_pos n with z | z
        · subst z; simp at h
        · exact z
      have hp0' : 1 ≤ p0 := by
        rcases Nat.eq_zero_or_pos p0 with z | z
        · subst z; simp at h
        · exact z
      refine rs_seq (rs_if (eb_test (ev_op (ev_var rfl) ev_int rv_I0b)) (fun h => ?_) (fun h => rs_next ?_))
      · refine rs_seq (rs_set (d := nD (p0 - 1)) (n := 0) rfl rfl (ev_is (ev_op (ev_ixO (d := nD p0) rfl rfl ev_int (ix_of (j := 0) rfl rfl)) ev_int rv_sub) (congrArg PyData.int (by omega))) ev_int rfl ?_)
        refine rs_retR (re_tup (ra_cons (re_ev ev_str (ra_cons (re_call2 hC.symm rfl rfl rfl rfl (by decide) (ea_2 (ev_is (e := nD n) (ev_op (ev_var rfl) ev_int rv_sub) (congrArg PyData.int (by omega))) (ev_var rfl)) (fun l1 l2 e1 e2 p' q' => by
          cases (show some (pnL cells b r1) = some l1 from e1)
          cases (show some (puL (p0 - 1) p1) = some l2 from e2)
          exact ⟨p', q', cells, b, r1, p0 - 1, p1, τ, rfl, hn, ht, by omega, hp1, by omega, by omega, fun s a' r' p0' p1' s1 s2 s3 s4 x2 x3 => ⟨_, _, _, rfl, ra_nil ⟨by show 2 ≤ 100000; decide, k (.many s) a' r' p0' p1' (by show s.dep + 1 ≤ n + 1; omega) s2 (by show s.cnt + 1 + p0' ≤ p0 + 1; omega) s4 (by omega) (by omega), ⟨_, rfl⟩, ⟨_, rfl⟩, trivial⟩⟩⟩))))))
      have h3 := of_decide_eq_false h
      refine rs_seq (rs_if (eb_test (ev_op (ev_var rfl) ev_int rv_eqI)) (fun h => ?_) (fun h => rs_next ?_))
      · refine rs_seq (rs_asgR (re_call1 hC.symm rfl rfl (ra_ev (ea_1 ev_int) ⟨_, .lst (pnL cells b r1), rfl, rfl, fun q' => ⟨q', cells, b, r1, 5, rfl, by omega, by omega, by omega, by omega, fun lo b2 r2 l0 l5 x2 x3 => ⟨_, _, rfl, ?_⟩⟩⟩)))
        obtain ⟨lo, rfl⟩ := Int.eq_ofNat_of_zero_le l0
        refine rs_seq (rs_asgR (re_op (re_ev (ev_var (d := nD lo) rfl) (re_call1 hC.symm rfl rfl (ra_ev (ea_1 (ev_op ev_int (ev_var (d := nD lo) rfl) rv_sub)) ⟨_, .lst (pnL cells b2 r2), rfl, rfl, fun q' => ⟨q', cells, b2, r2, 5 - lo, rfl, by omega, by omega, by omega, by omega, fun df b3 r3 d0 d5 x4 x5 => ⟨_, _, rfl, _, rv_add, ?_⟩⟩⟩)))))
        obtain ⟨df, rfl⟩ := Int.eq_ofNat_of_zero_le d0
        have hmul : (lo + df) * (p1 / max 1 (lo + df)) ≤ p1 := by
          rcases Nat.eq_zero_or_pos (lo + df) with z | z
          · rw [z, Nat.zero_mul]; omega
          · rw [Nat.max_eq_right z]; exact Nat.mul_div_le _ _
        refine rs_seq (rs_asgO (ds := puL (p0 - 1) (p1 / max 1 (lo + df))) (ea_2 (ev_is (ev_op (ev_ixO (d := nD p0) rfl rfl ev_int (ix_of (j := 0) rfl rfl)) ev_int rv_sub) (congrArg PyData.int (by omega))) (ev_is (ev_op (ev_ixO (d := nD p1) rfl rfl ev_int (ix_of (j := 1) rfl rfl)) (ev_is (e := nD (max 1 (lo + df))) (ev_cb (ea_2 ev_int (ev_var (d := nD (lo + df)) rfl)) rc_max2) ?_) (rv_Ii (C := CDiv) (g := fun i j => i / j) ⟨by omega, by omega⟩)) rfl)) (by show 2 ≤ 100000; decide) ?_)
        · refine congrArg PyData.int ?_
          split <;> omega
        refine rs_seq (rs_asg (d := nD (p1 / max 1 (lo + df))) (ev_ixO rfl rfl ev_int (ix_of (j := 1) rfl rfl)) ?_)
        generalize hh : p1 / max 1 (lo + df) = had at hmul
        have hle : had ≤ p1 := by rw [← hh]; exact Nat.div_le_self _ _
        refine rs_seq (rs_asgR (re_call2 (i := 0) (j := 7) hC.symm rfl rfl rfl rfl (by decide) (ea_2 (ev_is (e := nD n) (ev_op (ev_var rfl) ev_int rv_sub) (congrArg PyData.int (by omega))) (ev_var rfl)) (fun l1 l2 e1 e2 p' q' => ?_)))
        cases (show some (pnL cells b3 r3) = some l1 from e1)
        cases (show some (puL (p0 - 1) had) = some l2 from e2)
        refine ⟨p', q', cells, b3, r3, p0 - 1, had, τ, rfl, hn, ht, by omega, by omega, by omega, by omega, fun s a' r' p0' p1' s1 s2 s3 s4 x6 x7 => ⟨_, _, _, rfl, ?_⟩⟩
        have m2 : (lo + df) * (had - p1') ≤ p1 := Nat.le_trans (Nat.mul_le_mul_left _ (Nat.sub_le _ _)) hmul
        have m3 : (lo + df) * s.wt ≤ (lo + df) * (had - p1') := Nat.mul_le_mul_left _ (by omega)
        refine rs_seq (rs_set (i := 1) (d := nD p0') (n := 0) rfl rfl (ev_ixO (d := nD p0') rfl rfl ev_int (ix_of (j := 0) rfl rfl)) ev_int rfl ?_)
        refine rs_seq (rs_set (i := 1) (d := nD (p1 - (lo + df) * (had - p1'))) (n := 1) rfl rfl (ev_is (ev_op (ev_ixO (d := nD p1) rfl rfl ev_int (ix_of (j := 1) rfl rfl)) (ev_is (e := nD ((lo + df) * (had - p1'))) (ev_op (ev_var (d := nD (lo + df)) rfl) (ev_is (e := nD (had - p1')) (ev_op (ev_var (d := nD had) rfl) (ev_ixO (d := nD p1') rfl rfl ev_int (ix_of (j := 1) rfl rfl)) rv_sub) (congrArg PyData.int (by omega))) (rv_Ii (C := CMul) (g := fun i j => i * j) (Or.inl ⟨by omega, by omega⟩))) (congrArg PyData.int (Int.natCast_mul _ _).symm)) rv_sub) (congrArg PyData.int (by omega))) ev_int rfl ?_)
        exact rs_ret (d := shD (.times s lo (lo + df))) (ev_tup (ea_4 ev_str (ev_var rfl) (ev_var rfl) (ev_var rfl)) (by show 4 ≤ 100000; decide)) ⟨k (.times s lo (lo + df)) a' r' p0' (p1 - (lo + df) * (had - p1')) (by show s.dep + 1 ≤ n + 1; omega) ⟨⟨by omega, by omega⟩, s2⟩ (by show s.cnt + 1 + p0' ≤ p0 + 1; omega) (by show (lo + df) * s.wt + _ ≤ p1; omega) (by omega) (by omega), ⟨_, rfl⟩, ⟨_, rfl⟩, trivial⟩
      have h5 := of_decide_eq_false h
      refine rs_seq (rs_asgR (re_cb (ra_cons (re_ev (ev_ixO (d := nD p0) rfl rfl ev_int (ix_of (j := 0) rfl rfl)) (ra_cons (re_op (re_ev ev_int (re_call1 hC.symm rfl rfl (ra_ev (ea_1 ev_int) ⟨_, .lst (pnL cells b r1), rfl, rfl, fun q' => ⟨q', cells, b, r1, 3, rfl, by omega, by omega, by omega, by omega, fun sz b2 r2 l0 l3 x2 x3 => ⟨_, _, rfl, _, rv_add, ra_nil ⟨_, rc_min2, ?_⟩⟩⟩⟩)))))))))
      obtain ⟨size, hsz, z1, z2, z3⟩ : ∃ size : Nat, (if 1 + sz < (p0 : Int) then 1 + sz else (p0 : Int)) = (size : Int) ∧ 1 ≤ size ∧ size ≤ 3 ∧ size ≤ p0 := by
        refine ⟨(if 1 + sz < (p0 : Int) then 1 + sz else (p0 : Int)).toNat, ?_, ?_, ?_, ?_⟩ <;> split <;> omega
      rw [hsz]
      refine rs_seq (rs_set (d := nD (p0 - size)) (n := 0) rfl rfl (ev_is (ev_op (ev_ixO (d := nD p0) rfl rfl ev_int (ix_of (j := 0) rfl rfl)) (ev_var (d := nD size) rfl) rv_sub) (congrArg PyData.int (by omega))) ev_int rfl ?_)
      refine rs_seq (rs_asgR (re_cb (ra_cons (re_comp (js := [12]) (ri_ev (ei_range1 (ev_var (d := nD size) rfl) (by omega) (by omega)) ⟨by rw [rngD_len]; omega,
        (fun i acc e => ∃ l a' r' p0' p1', e = [.bo p (.lst (pnL cells a' r')), .bo q (.lst (puL p0' p1')), .im (nD (n + 1)), .im (sD τ), .im (.int road), .no, .no, .no, .no, .no, .im (nD size), .no, .no] ∧ acc = l.map shD ∧ l.length = i ∧ deps l ≤ n ∧ oks τ l ∧ cnts l + p0' ≤ (p0 - size) + i ∧ wts l + p1' ≤ p1 ∧ b2 ≤ a' ∧ a' ≤ b2 + (i : Int) * lgB n), ⟨[], b2, r2, p0 - size, p1, rfl, rfl, rfl, Nat.zero_le _, trivial, by show 0 + _ ≤ _; omega, by show 0 + _ ≤ _; omega, by omega, by omega⟩, ?_, ?_⟩) (by decide)))))
      · rintro i d acc _ hi hacc ⟨l, a', r', p0', p1', rfl, rfl, hl, hd, ho, hc, hw, y0, y1⟩
        obtain ⟨hin, rfl⟩ := rngD_get hi
        have y2 : (i : Int) * lgB n ≤ 2 * lgB n := Int.mul_le_mul_of_nonneg_right (by omega) (by omega)
        refine ⟨_, fun c' hc' => ⟨eg_name, re_call2 (hC.symm.trans hc'.symm) rfl rfl rfl rfl (by decide) (ea_2 (ev_is (e := nD n) (ev_op (ev_var rfl) ev_int rv_sub) (congrArg PyData.int (by omega))) (ev_var rfl)) (fun l1 l2 e1 e2 p' q' => by
          cases (show some (pnL cells a' r') = some l1 from e1)
          cases (show some (puL p0' p1') = some l2 from e2)
          exact ⟨p', q', cells, a', r', p0', p1', τ, rfl, hn, ht, by omega, by omega, by omega, by omega, fun s a3 r3 p03 p13 s1 s2 s3 s4 x6 x7 => ⟨_, _, _, rfl, l ++ [s], a3, r3, p03, p13, rfl, by rw [List.map_append]; rfl, by rw [List.length_append, hl]; rfl, by rw [deps_snoc]; omega, oks_snoc l s ho s2, by rw [cnts_snoc]; omega, by rw [wts_snoc]; omega, by omega, by
            rw [Int.natCast_add, Int.add_mul]; omega⟩⟩)⟩⟩
      · rintro acc _ hacc ⟨l, a', r', p0', p1', rfl, rfl, hl, hd, ho, hc, hw, y0, y1⟩
        rw [rngD_len] at hl hc y1
        have hsz2 : ((nD size : PyData) = nD size) := rfl
        refine ra_nil ⟨_, rc_tup, ?_⟩
        have y3 : ((size : Int).toNat : Int) * lgB n ≤ 3 * lgB n := Int.mul_le_mul_of_nonneg_right (by omega) (by omega)
        have hr6 : road / 8 = 0 ∨ road / 8 = 1 := by omega
        rcases hr6 with hr6 | hr6
        · exact rs_ret (d := shD (.row l)) (ev_tup (ea_2 (ev_op (ev_lst (ea_2 ev_str ev_str) (by show 2 ≤ 100000; decide)) (ev_is (ev_op (ev_var rfl) ev_int (rv_Ii (C := CDiv) (g := fun i j => i / j) ⟨by decide, by decide⟩)) (congrArg PyData.int hr6)) (rv_ixL (ix_of (j := 0) rfl rfl))) (ev_is (ev_var (d := .tuple (l.map shD)) rfl) (by rw [shsD_map]))) (by show 2 ≤ 100000; decide)) ⟨k (.row l) a' r' p0' p1' (by show deps l + 1 ≤ n + 1; omega) ⟨by omega, ho⟩ (by show cnts l + 1 + p0' ≤ p0 + 1; omega) hw (by omega) (by omega), ⟨_, rfl⟩, ⟨_, rfl⟩, trivial⟩
        · exact rs_ret (d := shD (.alt l)) (ev_tup (ea_2 (ev_op (ev_lst (ea_2 ev_str ev_str) (by show 2 ≤ 100000; decide)) (ev_is (ev_op (ev_var rfl) ev_int (rv_Ii (C := CDiv) (g := fun i j => i / j) ⟨by decide, by decide⟩)) (congrArg PyData.int hr6)) (rv_ixL (ix_of (j := 1) rfl rfl))) (ev_is (ev_var (d := .tuple (l.map shD)) rfl) (by rw [shsD_map]))) (by show 2 ≤ 100000; decide)) ⟨k (.alt l) a' r' p0' p1' (by show deps l + 1 ≤ n + 1; omega) ⟨⟨by omega, by omega⟩, ho⟩ (by show cnts l + 1 + p0' ≤ p0 + 1; omega) hw (by omega) (by omega), ⟨_, rfl⟩, ⟨_, rfl⟩, trivial⟩
end
end Nr
set_option Elab.async false
set_option linter.all false
set_option maxRecDepth 100000
set_option maxHeartbeats 4000000
set_option pp.maxSteps 700
namespace Nr
open PySem PySem.Spec PyProof.Rows L2
theorem app_emp (s : Str) : s ++ ("" : Str) = s := by
  show (⟨s.cps ++ #[]⟩ : Str) = s
  simp
theorem join_signs (l : List Nat) : Txt.join ("" : Str) (l.map fun k => (⟨#[k]⟩ : Str)) = ⟨l.toArray⟩ := by
  rw [TL.join_eq]
  exact go l
where go : ∀ l : List Nat, Str.join ("" : Str) (l.map fun k => (⟨#[k]⟩ : Str)) = ⟨l.toArray⟩
  | [] => rfl
  | [k] => rfl
  | k :: m :: r => by
    show (⟨#[k]⟩ : Str) ++ ("" : Str) ++ Str.join ("" : Str) ((m :: r).map fun k => (⟨#[k]⟩ : Str)) = _
    rw [go (m :: r), app_emp]
    show (⟨#[k] ++ (m :: r).toArray⟩ : Str) = _
    simp
theorem sum_signs : ∀ l : List Nat, ((l.map fun k => (⟨#[k]⟩ : Str)).map (·.length)).sum = l.length
  | [] => rfl
  | k :: r => by
    show 1 + ((r.map fun k => (⟨#[k]⟩ : Str)).map (·.length)).sum = r.length + 1
    rw [sum_signs r]; omega
section
variable {c : Ct} {env : List Sl} {ta : TE} {P : PyData → List Sl → Prop}
theorem re_m1S {to : TE} {r : V → List V → Hp → VK → Prop} {s : Str} (h : EvE c to env (.str s)) (ha : RE c ta env fun x e1 => ∃ z, Rm r (.str s) [x] z ∧ P z e1) : RE c (tM1 r to ta) env P := fun σ F H fps R Q q =>
  h σ F H fps R _ fun v F1 H1 s1 h1 => by
    have h1 : v = .str s := h1
    subst h1
    refine ⟨⟨s, rfl⟩, ?_⟩
    exact ha σ F1 H1 fps (R.ext s1) _ fun w x F2 H2 f2 e2 R2 x2 h2 p2 => by
      obtain ⟨z, hr, p⟩ := p2
      exact hr F2 H2 _ [w] R2.eH rfl (Dts.cons h2 Dts.nil) Q fun u F3 H3 s3 h3 => q u z F3 H3 f2 e2 (R2.ext s3) (s1.f.trans (x2.trans s3.f)) h3 p
theorem rm_joinS {K : PySem.W.Frag} {l : List Nat} (hl : l.length ≤ 5000) : Rm (fun x xs H Q => ∃ a p, ∃ ys : List Str, x = .str a ∧ xs = [.ref p] ∧ (SqL K H p (ys.map V.str) ∨ SqT K H p (ys.map V.str)) ∧ (ys.map (·.length)).sum + ys.length * a.length ≤ 16777216 ∧ Q (.str (Txt.join a ys)) H)
    (.str ("" : Str)) [.list ((l.map fun k => (⟨#[k]⟩ : Str)).map .str)] (sD l) := by
  have h := rm_join (K := K) (s := ("" : Str)) (ys := l.map fun k => (⟨#[k]⟩ : Str)) (by
    rw [sum_signs, List.length_map]
    show l.length + l.length * 0 ≤ _
    omega)
  rw [join_signs] at h
  exact h
end
section
variable {P : Program} {w : World} {K : PySem.W.Frag} {mg : Str → Option Value} {base : Heap} {C T : Addr}
def R_ltext (env : List Sl) (Post : PyData → List Sl → Prop) : Prop := ∃ p cells at_ rest τ, env = [.bo p (.lst (pnL cells at_ rest)), .im (sD τ)] ∧ 1 ≤ τ.length ∧ τ.length ≤ 1000 ∧ 0 ≤ at_ ∧ at_ ≤ 800000000 ∧
  ∀ w at' rest', w.length ≤ 241 → (∀ k ∈ w, k ∈ τ) → at_ ≤ at' → at' ≤ at_ + 300 → Post (sD w) [.bo p (.lst (pnL cells at' rest')), .no]
theorem cl_law_text (t : Tx K mg C T) : Cl P w K mg base 2 "_law_text" (PO C R_ltext) := by
  have sc : FnScope ["_law_pen_here", "_law_tongue", "_law_size", "_law_k"] ["_law_pen_here", "_law_tongue"] (defScope s_law_text) := ⟨rfl, rfl, rfl, by decide +kernel, rfl, by decide +kernel, by decide +kernel⟩
  have c_law_take := cl_law_take (P := P) (w := w) (base := base) t
  refine cl_own t.d_law_text sc (fun _ _ _ _ _ _ us hl => match us, hl with | [_, _], _ => rfl) (fun env Post h => ?_) fun f cdv A outer s H E hr => ⟨_,
    (pss_cons (ps_set (i := 2) sc.nd rfl (Or.inl rfl) (pe_cl c_law_take hr (by omega) (by rfl) (pa_cons (pv 0) (pa_cons (pe_ix ix_list (pe_lst (pa_cons pe_int (pa_cons pe_int (pa_cons pe_int (pa_cons pe_int (pa_cons pe_int (pa_cons pe_int pa_nil))))))) (pe_cl c_law_take hr (by omega) (by rfl) (pa_cons (pv 0) (pa_cons pe_int pa_nil))) (fun _ _ => rfl)) pa_nil))))
  (pss_one (ps_ret (pe_join pe_str (pe_lc (own := [("_law_k", 3)]) (g := gName 3) rfl sc.nd (pi_range1 rfl t.n_range (pa_cons (pv 2) pa_nil)) (blkOk_by (N := ["_law_pen_here", "_law_tongue", "_law_size", "_law_k"]) (sc := (defScope s_law_text)) (own := [("_law_k", 3)]) (by decide +kernel)) (fun _ _ _ _ _ => (pg_name (i := 3) sc.nd rfl (Or.inl rfl))) (fun _ _ _ _ _ => pts_nil) (fun _ _ _ _ _ => (pe_ix ix_str (pv 1) (pe_cl c_law_take hr (by omega) (by rfl) (pa_cons (pv 0) (pa_cons (pe_callB call_len_str (by rfl) t.n_len bt_len (pa_cons (pv 1) pa_nil)) pa_nil))) (fun _ _ => rfl)))))))), fun c env Post hC h => ?_⟩
  · obtain ⟨_, _, _, _, _, rfl, _⟩ := h; rfl
  · obtain ⟨p, cells, a, rest, τ, rfl, t1, t2, a1, a2, k⟩ := h
    refine rs_seq (rs_asgR (re_call1 hC.symm rfl rfl (ra_cons (re_op (re_ev (ev_lst (ea_cons ev_int (ea_cons ev_int (ea_4 ev_int ev_int ev_int ev_int))) (by show 6 ≤ 100000; decide)) (re_call1 hC.symm rfl rfl (ra_ev (ea_1 ev_int) ⟨_, .lst (pnL cells a rest), rfl, rfl, fun q' => ⟨q', cells, a, rest, 6, rfl, by omega, by omega, by omega, by omega, fun r b r1 r0 r10 x0 x1 => ⟨_, _, rfl, ?_⟩⟩⟩)))))))
    obtain ⟨v, v1, v2, hix⟩ : ∃ v : Int, 1 ≤ v ∧ v ≤ 241 ∧ atI [PyData.int 13, PyData.int 13, PyData.int 13, PyData.int 13, PyData.int 13, PyData.int 241] r = some (.int v) := by
      rcases (by omega : r = 0 ∨ r = 1 ∨ r = 2 ∨ r = 3 ∨ r = 4 ∨ r = 5) with rfl | rfl | rfl | rfl | rfl | rfl
      · exact ⟨13, by decide, by decide, rfl⟩
      · exact ⟨13, by decide, by decide, rfl⟩
      · exact ⟨13, by decide, by decide, rfl⟩
      · exact ⟨13, by decide, by decide, rfl⟩
      · exact ⟨13, by decide, by decide, rfl⟩
      · exact ⟨241, by decide, by decide, rfl⟩
    refine ⟨_, rv_ixL hix, ra_nil ⟨_, .lst (pnL cells b r1), rfl, rfl, fun q' => ⟨q', cells, b, r1, v, rfl, by omega, by omega, by omega, by omega, fun sz b2 r2 s0 s1 x2 x3 => ⟨_, _, rfl, ?_⟩⟩⟩⟩
    obtain ⟨sz, rfl⟩ := Int.eq_ofNat_of_zero_le s0
    refine rs_retR (re_m1S ev_str (re_comp (js := [3]) (ri_ev (ei_range1 (ev_var (d := nD sz) rfl) (by omega) (by omega)) ⟨by rw [rngD_len]; omega,
      (fun i acc e => ∃ l a' r', e = [.bo p (.lst (pnL cells a' r')), .im (sD τ), .im (nD sz), .no] ∧ acc = (l.map fun k => (⟨#[k]⟩ : Str)).map .str ∧ l.length = i ∧ (∀ k ∈ l, k ∈ τ) ∧ b2 ≤ a' ∧ a' ≤ b2 + i), ⟨[], b2, r2, rfl, rfl, rfl, by simp, by omega, by omega⟩, ?_, ?_⟩) (by decide)))
    · rintro i d acc _ hi hacc ⟨l, a', r', rfl, rfl, hl, hs, y0, y1⟩
      obtain ⟨hin, rfl⟩ := rngD_get hi
      refine ⟨_, fun c' hc' => ⟨eg_name, re_op (re_ev (ev_var rfl) (re_call1 (hC.symm.trans hc'.symm) rfl rfl (ra_ev (ea_1 (ev_is (e := nD τ.length) (ev_cb (ea_1 (ev_var rfl)) (rc_lenS (by rw [wl]; omega))) (by rw [wl]))) ⟨_, .lst (pnL cells a' r'), rfl, rfl, fun q' => ⟨q', cells, a', r', τ.length, rfl, by omega, by omega, by omega, by omega, fun r b3 r3 r0 r10 x4 x5 => ?_⟩⟩)))⟩⟩
      obtain ⟨j, rfl⟩ := Int.eq_ofNat_of_zero_le r0
      have hj : j < τ.length := by omega
      refine ⟨_, _, rfl, .str ⟨#[τ[j]]⟩, rv_ixS (by rw [wl]; omega) (ix_of rfl (List.getElem?_eq_getElem hj)), l ++ [τ[j]], b3, r3, rfl, by rw [List.map_append, List.map_append]; rfl, by rw [List.length_append, hl]; rfl, fun z hz => ?_, by omega, by omega⟩
      rcases List.mem_append.mp hz with h | h
      · exact hs z h
      · simp only [List.mem_singleton] at h; subst h; exact List.getElem_mem hj
    · rintro acc _ hacc ⟨l, a', r', rfl, rfl, hl, hs, y0, y1⟩
      rw [rngD_len] at hl y1
      exact ⟨sD l, rm_joinS (by omega), k l a' r' (by omega) hs (by omega) (by omega), ⟨_, rfl⟩, trivial⟩
def ltA (j : Nat) : Nat := str_LETTERS.cps.toList.getD j 0
def nmF (β : List Nat) (a u k : Nat) : Str := ⟨(β.take a ++ [ltA ((u + 5 * k) % 26)] ++ β.drop a).toArray⟩
theorem lt_get {j : Nat} (h : j < 26) : str_LETTERS.cps.toList[j]? = some (ltA j) := by
  have hl : str_LETTERS.cps.toList.length = 26 := by decide +kernel
  unfold ltA
  rw [List.getD_eq_getElem?_getD, List.getElem?_eq_getElem (by omega)]
  rfl
theorem lt_mem {j : Nat} (h : j < 26) : ltA j ∈ str_LETTERS.cps.toList := List.mem_of_getElem? (lt_get h)
theorem lt_inj {i j : Nat} (hi : i < 26) (hj : j < 26) (h : ltA i = ltA j) : i = j := by
  have nd : str_LETTERS.cps.toList.Nodup := by decide +kernel
  have hl : str_LETTERS.cps.toList.length = 26 := by decide +kernel
  have a := lt_get hi
  have b := lt_get hj
  rw [h, ← b] at a
  exact (List.getElem?_inj (by omega) nd).mp a
theorem nm_ok {β : List Nat} {a u : Nat} (hb : β.length ≤ 7) (ha : a ≤ β.length) (hs : ∀ k ∈ β, k ∈ str_LETTERS.cps.toList) (k : Nat) : NmOk (nmF β a u k) := by
  have e : (nmF β a u k).length = β.length + 1 := by
    unfold nmF
    rw [wl, List.length_append, List.length_append, List.length_take, List.length_drop, List.length_singleton]; omega
  refine ⟨by omega, by omega, fun z hz => ?_⟩
  have hz : z ∈ β.take a ++ [ltA ((u + 5 * k) % 26)] ++ β.drop a := by
    have e : (nmF β a u k).cps.toList = β.take a ++ [ltA ((u + 5 * k) % 26)] ++ β.drop a := by simp [nmF]
    rw [e] at hz; exact hz
  rcases List.mem_append.mp hz with h | h
  · rcases List.mem_append.mp h with h | h
    · exact hs z (List.mem_of_mem_take h)
    · simp only [List.mem_singleton] at h; subst h; exact lt_mem (by omega)
  · exact hs z (List.mem_of_mem_drop h)
theorem nm_inj {β : List Nat} {a u i j : Nat} (hi : i < 7) (hj : j < 7) (h : nmF β a u i = nmF β a u j) : i = j := by
  have h : (nmF β a u i).cps.toList = (nmF β a u j).cps.toList := by rw [h]
  have e : ∀ k, (nmF β a u k).cps.toList = β.take a ++ [ltA ((u + 5 * k) % 26)] ++ β.drop a := fun k => by simp [nmF]
  rw [e, e, List.append_assoc, List.append_assoc] at h
  have h := List.append_cancel_left h
  have h := (List.cons.inj h).1
  have := lt_inj (by omega) (by omega) h
  omega
theorem nm_nd (β : List Nat) (a u : Nat) : ((List.range 7).map (nmF β a u)).Nodup := by
  rw [List.nodup_iff_pairwise_ne, List.pairwise_map]
  refine List.Pairwise.imp_of_mem ?_ (List.nodup_iff_pairwise_ne.mp List.nodup_range)
  intro i j hi hj hne h
  exact hne (nm_inj (List.mem_range.mp hi) (List.mem_range.mp hj) h)
def R_lnames (env : List Sl) (Post : PyData → List Sl → Prop) : Prop := ∃ p cells at_ rest, env = [.bo p (.lst (pnL cells at_ rest))] ∧ 0 ≤ at_ ∧ at_ ≤ 800000000 ∧
  ∀ (ns : List Str) at' rest', ns.length = 7 → ns.Nodup → (∀ n ∈ ns, NmOk n) → at_ ≤ at' → at' ≤ at_ + 20 → Post (.list (ns.map .str)) [.bo p (.lst (pnL cells at' rest'))]
theorem cl_law_names (t : Tx K mg C T) : Cl P w K mg base 2 "_law_names" (PO C R_lnames) := by
  have sc : FnScope ["_law_pen_here", "_law_letters", "_law_base", "_law_at", "_law_turn", "_law_k"] ["_law_pen_here"] (defScope s_law_names) := ⟨rfl, rfl, rfl, by decide +kernel, rfl, by decide +kernel, by decide +kernel⟩
  have c_law_take := cl_law_take (P := P) (w := w) (base := base) t
  refine cl_own t.d_law_names sc (fun _ _ _ _ _ _ us hl => match us, hl with | [_], _ => rfl) (fun env Post h => ?_) fun f cdv A outer s H E hr => ⟨_,
    (pss_cons (ps_set (i := 1) sc.nd rfl (Or.inr rfl) pe_str)
  (pss_cons (ps_set (i := 2) sc.nd rfl (Or.inr rfl) (pe_join pe_str (pe_lc (own := [("_law_k", 5)]) (g := gName 5) rfl sc.nd (pi_range1 rfl t.n_range (pa_cons (pe_cl c_law_take hr (by omega) (by rfl) (pa_cons (pv 0) (pa_cons pe_int pa_nil))) pa_nil)) (blkOk_by (N := ["_law_pen_here", "_law_letters", "_law_base", "_law_at", "_law_turn", "_law_k"]) (sc := (defScope s_law_names)) (own := [("_law_k", 5)]) (by decide +kernel)) (fun _ _ _ _ _ => (pg_name (i := 5) sc.nd rfl (Or.inl rfl))) (fun _ _ _ _ _ => pts_nil) (fun _ _ _ _ _ => (pe_ix ix_str (pv 1) (pe_cl c_law_take hr (by omega) (by rfl) (pa_cons (pv 0) (pa_cons pe_int pa_nil))) (fun _ _ => rfl))))))
  (pss_cons (ps_set (i := 3) sc.nd rfl (Or.inr rfl) (pe_cl c_law_take hr (by omega) (by rfl) (pa_cons (pv 0) (pa_cons (pe_op op_add (pe_callB call_len_str (by rfl) t.n_len bt_len (pa_cons (pv 2) pa_nil)) pe_int) pa_nil))))
  (pss_cons (ps_set (i := 4) sc.nd rfl (Or.inr rfl) (pe_cl c_law_take hr (by omega) (by rfl) (pa_cons (pv 0) (pa_cons pe_int pa_nil))))
  (pss_one (ps_ret (pe_lc (own := [("_law_k", 5)]) (g := gName 5) rfl sc.nd (pi_range1 rfl t.n_range (pa_cons pe_int pa_nil)) (blkOk_by (N := ["_law_pen_here", "_law_letters", "_law_base", "_law_at", "_law_turn", "_law_k"]) (sc := (defScope s_law_names)) (own := [("_law_k", 5)]) (by decide +kernel)) (fun _ _ _ _ _ => (pg_name (i := 5) sc.nd rfl (Or.inl rfl))) (fun _ _ _ _ _ => pts_nil) (fun _ _ _ _ _ => (pe_op op_add_str (pe_op op_add_str (pe_slice sl_str (pv 2) po_none (po_some (pv 3))) (pe_ix ix_str (pv 1) (pe_op op_mod (pe_op op_add (pv 4) (pe_op op_mul pe_int (pv 5))) pe_int) (fun _ _ => rfl))) (pe_slice sl_str (pv 2) (po_some (pv 3)) po_none)))))))))), fun c env Post hC h => ?_⟩
  · obtain ⟨_, _, _, _, rfl, _⟩ := h; rfl
  · obtain ⟨p, cells, a, rest, rfl, a1, a2, k⟩ := h
    refine rs_seq (rs_asg (d := .str str_LETTERS) ev_str (rs_seq (rs_asgR (re_m1S ev_str (re_comp (js := [5]) (ri_range1 (re_call1 hC.symm rfl rfl (ra_ev (ea_1 ev_int) ⟨_, .lst (pnL cells a rest), rfl, rfl, fun q' => ⟨q', cells, a, rest, 8, rfl, by omega, by omega, by omega, by omega, fun n b r1 n0 n8 x0 x1 => ⟨_, _, rfl, n, rfl, by omega, by omega, by rw [rngD_len]; omega,
      (fun i acc e => ∃ l a' r', e = [.bo p (.lst (pnL cells a' r')), .im (.str str_LETTERS), .no, .no, .no, .no] ∧ acc = (l.map fun k => (⟨#[k]⟩ : Str)).map .str ∧ l.length = i ∧ (∀ k ∈ l, k ∈ str_LETTERS.cps.toList) ∧ b ≤ a' ∧ a' ≤ b + i), ⟨[], b, r1, rfl, rfl, rfl, by simp, by omega, by omega⟩, ?_, ?_⟩⟩⟩))) (by decide))))))
    · rintro i d acc _ hi hacc ⟨l, a', r', rfl, rfl, hl, hs, y0, y1⟩
      obtain ⟨hin, rfl⟩ := rngD_get hi
      refine ⟨_, fun c' hc' => ⟨eg_name, re_op (re_ev (ev_var rfl) (re_call1 (hC.symm.trans hc'.symm) rfl rfl (ra_ev (ea_1 ev_int) ⟨_, .lst (pnL cells a' r'), rfl, rfl, fun q' => ⟨q', cells, a', r', 26, rfl, by omega, by omega, by omega, by omega, fun r b3 r3 r0 r10 x4 x5 => ?_⟩⟩)))⟩⟩
      obtain ⟨j, rfl⟩ := Int.eq_ofNat_of_zero_le r0
      have hj : j < 26 := by omega
      refine ⟨_, _, rfl, .str ⟨#[ltA j]⟩, rv_ixS (by decide +kernel) (ix_of rfl (lt_get hj)), l ++ [ltA j], b3, r3, rfl, by rw [List.map_append, List.map_append]; rfl, by rw [List.length_append, hl]; rfl, fun z hz => ?_, by omega, by omega⟩
      rcases List.mem_append.mp hz with h | h
      · exact hs z h
      · simp only [List.mem_singleton] at h; subst h; exact lt_mem hj
    · rintro acc _ hacc ⟨β, a', r', rfl, rfl, hl, hs, y0, y1⟩
      rw [rngD_len] at hl y1
      refine ⟨sD β, rm_joinS (by omega), ?_⟩
      refine rs_seq (rs_asgR (re_call1 hC.symm rfl rfl (ra_ev (ea_1 (ev_is (e := nD (β.length + 1)) (ev_op (ev_cb (ea_1 (ev_var rfl)) (rc_lenS (by rw [wl]; omega))) ev_int rv_add) (by rw [wl]; rfl))) ⟨_, .lst (pnL cells a' r'), rfl, rfl, fun q' => ⟨q', cells, a', r', ((β.length + 1 : Nat) : Int), rfl, by omega, by omega, by omega, by omega, fun g b2 r2 g0 g1 x2 x3 => ⟨_, _, rfl, ?_⟩⟩⟩)))
      obtain ⟨g, rfl⟩ := Int.eq_ofNat_of_zero_le g0
      refine rs_seq (rs_asgR (re_call1 hC.symm rfl rfl (ra_ev (ea_1 ev_int) ⟨_, .lst (pnL cells b2 r2), rfl, rfl, fun q' => ⟨q', cells, b2, r2, 26, rfl, by omega, by omega, by omega, by omega, fun u b3 r3 u0 u1 x4 x5 => ⟨_, _, rfl, ?_⟩⟩⟩)))
      obtain ⟨u, rfl⟩ := Int.eq_ofNat_of_zero_le u0
      refine rs_ret (d := .list (((List.range 7).map (nmF β g u)).map .str)) (ev_is (ev_compG (l := List.range 7) (g0 := fun n : Nat => nD n) (js := [5]) ?hi (fun i => .str (nmF β g u i)) (by decide) (by decide) fun i hi => ⟨_, eg_name, ?he⟩) (by rw [List.map_map]; rfl)) ⟨k _ b3 r3 (by rw [List.length_map, List.length_range]) (nm_nd β g u) (fun n hn => by obtain ⟨i, _, rfl⟩ := List.mem_map.mp hn; exact nm_ok (by omega) (by omega) hs i) (by omega) (by omega), ⟨_, rfl⟩, trivial⟩
      case hi =>
        have e := ei_range1 (c := c) (te := tC (.int 7)) (n := 7) (env := [.bo p (.lst (pnL cells b3 r3)), .im (.str str_LETTERS), .im (sD β), .im (nD g), .im (nD u), .no]) ev_int (by decide) (by decide)
        rw [show (7 : Int).toNat = 7 from rfl, rngD_nat] at e
        exact e
      case he =>
        refine ev_is (ev_op (ev_op (ev_slS (ev_var (d := sD β) rfl) eo_none (eo_some (ev_var (d := nD g) rfl)) (by rw [wl]; omega)) (ev_op (ev_var rfl) (ev_is (e := nD ((u + 5 * i) % 26)) (ev_op (ev_op (ev_var (d := nD u) rfl) (ev_op ev_int (ev_var (d := nD i) rfl) (rv_Ii (C := CMul) (g := fun i j => i * j) (Or.inl ⟨by decide, by decide⟩))) rv_add) ev_int (rv_Ii (C := fun _ j => 0 < j) (g := fun i j => i % j) (by decide))) (congrArg PyData.int (by omega))) (rv_ixS (k := ltA ((u + 5 * i) % 26)) (by decide +kernel) (ix_of rfl (lt_get (by omega))))) (rv_addS ?_)) (ev_slS (ev_var (d := sD β) rfl) (eo_some (ev_var (d := nD g) rfl)) eo_none (by rw [wl]; omega)) (rv_addS ?_)) ?_
        · rw [cutS_lo, wl, List.length_take]; show _ + 1 ≤ _; omega
        · rw [cutS_lo, cutS_hi, str_snoc, wl, wl, List.length_append, List.length_take, List.length_drop]; show _ + 1 + _ ≤ _; omega
        · rw [cutS_lo, cutS_hi, str_snoc, str_cat]; rfl
end
end Nr
set_option Elab.async false
set_option linter.all false
set_option maxRecDepth 100000
set_option maxHeartbeats 400000
set_option pp.maxSteps 700
namespace Nr
open PySem PySem.Spec PyProof.Rows L2
section
variable {P : Program} {w : World} {K : PySem.W.Frag} {mg : Str → Option Value} {base : Heap} {C T : Addr}
def R_lrules (env : List Sl) (Post : PyData → List Sl → Prop) : Prop := ∃ p cells at_ rest τ ns heavy, env = [.bo p (.lst (pnL cells at_ rest)), .im (sD τ), .im (.list (ns.map .str)), .im (nD heavy)] ∧ Tng τ ∧ ns.length ≤ 6 ∧ heavy ≤ 10 ∧ 0 ≤ at_ ∧ at_ ≤ 700000000 ∧
  ∀ (rs : List (Str × Sh)) at' rest', rs.map (·.1) = ns → (∀ r ∈ rs, r.2.dep ≤ 5 ∧ r.2.cnt ≤ 24 ∧ r.2.ok τ) → wts (shX rs) ≤ heavy → at_ ≤ at' → at' ≤ at_ + 30000 → Post (.tuple ((shR rs).map rlD)) [.bo p (.lst (pnL cells at' rest')), .no, .no, .no]
theorem cl_law_rules (t : Tx K mg C T) : Cl P w K mg base 9 "_law_rules" (PO C R_lrules) := by
  have sc : FnScope ["_law_pen_here", "_law_tongue", "_law_names_here", "_law_heavy", "_law_rules_here", "_law_purse", "_law_name"] ["_law_pen_here", "_law_tongue", "_law_names_here", "_law_heavy"] (defScope s_law_rules) := ⟨rfl, rfl, rfl, by decide +kernel, rfl, by decide +kernel, by decide +kernel⟩
  have c_law_light := cl_law_light (P := P) (w := w) (base := base) t 5
  refine cl_own (k := 8) t.d_law_rules sc (fun _ _ _ _ _ _ us hl => match us, hl with | [_, _, _, _], _ => rfl) (fun env Post h => ?_) fun f cdv A outer s H E hr => ⟨_,
    (pss_cons (ps_set (i := 4) sc.nd rfl (Or.inl rfl) (pe_lst pa_nil))
  (pss_cons (ps_set (i := 5) sc.nd rfl (Or.inl rfl) (pe_lst (pa_cons pe_int (pa_cons (pv 3) pa_nil))))
  (pss_cons (ps_for PassesOwn.never rfl (pi_list (pv 2)) (pg_name (i := 6) sc.nd rfl (Or.inl rfl))
  (pss_cons (ps_asg pe_int (pg_sub (pv 5) pe_int set_list))
  (pss_one (ps_expr (pe_bm PySem.F.plainAttrs_list PySem.F.slot_list_append PySem.F.type_list_append mt_append (pv 4) (pa_cons (pe_tup (pa_cons (pv 6) (pa_cons (pe_cl c_law_light hr (by omega) (by rfl) (pa_cons (pv 0) (pa_cons (pv 5) (pa_cons pe_int (pa_cons (pv 1) pa_nil))))) pa_nil))) pa_nil))))))
  (pss_one (ps_ret (pe_callTy call_tuple_of (by rfl) t.n_tuple bt_tuple (pa_cons (pv 4) pa_nil))))))), fun c env Post hC h => ?_⟩
  · obtain ⟨_, _, _, _, _, _, _, rfl, _⟩ := h; rfl
  · obtain ⟨p, cells, a, rest, τ, ns, heavy, rfl, ht, hn, hh, a1, a2, k⟩ := h
    have e5 : lgB 5 = 4096 := by decide
    refine rs_seq (rs_asgO ea_nil (by decide) (rs_seq (rs_asgO (ds := puL 0 heavy) (ea_2 ev_int (ev_var (d := nD heavy) rfl)) (by show 2 ≤ 100000; decide) (rs_seq (rs_for (ds := ns.map .str) (ei_list (ev_var rfl)) (fun i e => ∃ (rs : List (Str × Sh)) (a' r' : Int) (p0 p1 : Nat) (x : Sl), e = [.bo p (.lst (pnL cells a' r')), .im (sD τ), .im (.list (ns.map .str)), .im (nD heavy), .ow (.lst ((shR rs).map rlD)), .ow (.lst (puL p0 p1)), x] ∧
      rs.map (·.1) = ns.take i ∧ (∀ r ∈ rs, r.2.dep ≤ 5 ∧ r.2.cnt ≤ 24 ∧ r.2.ok τ) ∧ wts (shX rs) + p1 ≤ heavy ∧ a ≤ a' ∧ a' ≤ a + 4096 * (i : Int)) ⟨[], a, rest, 0, heavy, _, rfl, rfl, by simp, by show 0 + heavy ≤ heavy; omega, by omega, by omega⟩ ?hs ?hd)))))
    case hs =>
      rintro i d _ hi ⟨rs, a', r', p0, p1, x, rfl, e1, e2, e3, y0, y1⟩
      obtain ⟨n, hn2, rfl⟩ := get_map hi
      have hil := (List.getElem?_eq_some_iff.mp hn2).1
      have hrl : rs.length = i := by
        have := congrArg List.length e1
        rw [List.length_map, List.length_take] at this
        omega
      refine ⟨_, _, eg_name, rs_seq (rs_set (d := nD 20) (n := 0) rfl rfl ev_int ev_int rfl (rs_appR rfl rfl (re_tup (ra_cons (re_ev (ev_var (d := .str n) rfl) (ra_cons (re_call2 (i := 0) (j := 5) hC.symm rfl rfl rfl rfl (by decide) (ea_2 ev_int (ev_var rfl)) (fun l1 l2 g1 g2 p' q' => ?_))))))))⟩
      cases (show some (pnL cells a' r') = some l1 from g1)
      cases (show some (puL 20 p1) = some l2 from g2)
      refine ⟨p', q', cells, a', r', 20, p1, τ, rfl, by omega, ht, by omega, by omega, by omega, by omega, fun s a3 r3 p0' p1' s1 s2 s3 s4 x6 x7 => ⟨_, _, _, rfl, ra_nil ⟨by show 2 ≤ 100000; decide, _, _, rfl, rfl, ?_, rs ++ [(n, s)], a3, r3, p0', p1', .im (.str n), ?_, ?_, ?_, ?_, by omega, by rw [e5] at x7; omega⟩⟩⟩
      · rw [List.length_map, List.length_map]; omega
      · rw [show shR (rs ++ [(n, s)]) = shR rs ++ [(n, shD s)] from List.map_append, List.map_append]
        rfl
      · rw [List.map_append, e1, take_one hn2]; rfl
      · intro r hr2
        rcases List.mem_append.mp hr2 with h | h
        · exact e2 r h
        · simp only [List.mem_singleton] at h; subst h; exact ⟨s1, by show s.cnt ≤ 24; omega, s2⟩
      · rw [show shX (rs ++ [(n, s)]) = shX rs ++ [s] from List.map_append, wts_snoc]; omega
    case hd =>
      rintro _ ⟨rs, a', r', p0, p1, x, rfl, e1, e2, e3, y0, y1⟩
      rw [List.length_map] at e1 y1
      rw [List.take_length] at e1
      refine rs_frz (i := 4) rfl (rs_ret (ev_cb (ea_1 (ev_var (d := .list ((shR rs).map rlD)) rfl)) rc_tup) ⟨k rs a' r' e1 e2 (by omega) y0 (by omega), ⟨_, rfl⟩, trivial⟩)
end
end Nr
set_option Elab.async false
set_option linter.all false
set_option maxRecDepth 100000
set_option maxHeartbeats 4000000
set_option pp.maxSteps 700
namespace Nr
open PySem PySem.Spec PyProof.Rows L2
/-! ### cuts by names -/
abbrev Pc := Str × Nat × Nat
def qcD (x : Pc) : PyData := .tuple [.str x.1, nD x.2.1, nD x.2.2]
def ctD (c : List Pc × Nat) : PyData := .tuple [.list (c.1.map qcD), nD c.2]
def nmC (rs : List (Str × PyData)) (c : List (Int × Nat × Nat) × Nat) : List Pc × Nat := (c.1.map fun p => (nmO rs p.1, p.2), c.2)
theorem nc_ct (rs : List (Str × PyData)) (c : List (Int × Nat × Nat) × Nat) : ncD rs c = ctD (nmC rs c) := by
  unfold ncD ctD nmC
  rw [List.map_map]
  rfl
theorem eqv_qc (x y : Pc) : PyData.eqv (qcD x) (qcD y) = decide (x = y) := by
  obtain ⟨a, b, c⟩ := x
  obtain ⟨a', b', c'⟩ := y
  have e : PyData.eqv (qcD (a, b, c)) (qcD (a', b', c')) = ((a == a') && (((b : Int) == (b' : Int)) && (((c : Int) == (c' : Int)) && true))) := by simp only [qcD, nD, PyData.eqv, PyData.eqvAll]
  rw [e]
  by_cases h : ((a, b, c) : Pc) = (a', b', c')
  · cases h
    simp
  · rw [decide_eq_false h]
    by_cases h1 : a = a'
    · by_cases h2 : b = b'
      · have h3 : c ≠ c' := fun z => h (by rw [h1, h2, z])
        have : ¬ ((c : Int) = (c' : Int)) := by omega
        simp [this]
      · have : ¬ ((b : Int) = (b' : Int)) := by omega
        simp [this]
    · simp [h1]
theorem eqv_qcs : ∀ l l' : List Pc, PyData.eqvAll (l.map qcD) (l'.map qcD) = decide (l = l')
  | [], [] => by simp [PyData.eqvAll]
  | [], _ :: _ => by simp [PyData.eqvAll]
  | _ :: _, [] => by simp [PyData.eqvAll]
  | x :: l, y :: l' => by
    have e : PyData.eqvAll ((x :: l).map qcD) ((y :: l').map qcD) = (PyData.eqv (qcD x) (qcD y) && PyData.eqvAll (l.map qcD) (l'.map qcD)) := by simp only [List.map_cons, PyData.eqvAll]
    rw [e, eqv_qc, eqv_qcs l l']
    by_cases h1 : x = y <;> by_cases h2 : l = l' <;> simp [h1, h2]
theorem eqv_ct (x y : List Pc × Nat) : PyData.eqv (ctD x) (ctD y) = decide (x = y) := by
  obtain ⟨a, b⟩ := x
  obtain ⟨a', b'⟩ := y
  have e : PyData.eqv (ctD (a, b)) (ctD (a', b')) = (PyData.eqvAll (a.map qcD) (a'.map qcD) && (((b : Int) == (b' : Int)) && true)) := by simp only [ctD, nD, PyData.eqv, PyData.eqvAll]
  rw [e, eqv_qcs]
  by_cases h1 : a = a' <;> by_cases h2 : b = b'
  · simp [h1, h2]
  · have : ¬ ((b : Int) = (b' : Int)) := by omega
    simp [h1, h2, this]
  · simp [h1, h2]
  · simp [h1, h2]
def PcOk (x : Pc) : Prop := PyData.strOk x.1 = true
theorem qc_lay {x : Pc} (h : PcOk x) : (qcD x).canLay0 = true := by
  have h : PyData.strOk x.1 = true := h
  simp [qcD, nD, PyData.canLay0, PyData.canLayAll0, h]
theorem qc_dep (x : Pc) : (qcD x).depth = 1 := by simp [qcD, nD, PyData.depth, PyData.depthAll]
theorem qcs_lay : ∀ {l : List Pc}, (∀ x ∈ l, PcOk x) → PyData.canLayAll0 (l.map qcD) = true
  | [], _ => by simp [PyData.canLayAll0]
  | x :: l, h => by
    have h1 := qc_lay (h x List.mem_cons_self)
    have h2 := qcs_lay (l := l) fun y hy => h y (List.mem_cons_of_mem _ hy)
    simp [PyData.canLayAll0, h1, h2]
theorem qcs_dep : ∀ l : List Pc, PyData.depthAll (l.map qcD) ≤ 1
  | [] => by simp [PyData.depthAll]
  | x :: l => by
    have h1 := qcs_dep l
    have h2 := qc_dep x
    simp only [List.map_cons, PyData.depthAll]
    omega
theorem qc_shaped {x : Pc} (h : PcOk x) : SeqAt.shaped (qcD x) = true := by
  have h2 := qc_dep x
  show ((qcD x).canLay0 && decide ((qcD x).depth ≤ 64)) = true
  rw [Bool.and_eq_true]
  exact ⟨qc_lay h, decide_eq_true (by omega)⟩
theorem ct_lay {c : List Pc × Nat} (h : ∀ x ∈ c.1, PcOk x) : (ctD c).canLay0 = true := by
  have h1 := qcs_lay h
  simp [ctD, nD, PyData.canLay0, PyData.canLayAll0, h1]
theorem ct_dep (c : List Pc × Nat) : (ctD c).depth ≤ 3 := by
  have h1 := qcs_dep c.1
  simp only [ctD, nD, PyData.depth, PyData.depthAll]
  omega
theorem ct_shaped {c : List Pc × Nat} (h : ∀ x ∈ c.1, PcOk x) : SeqAt.shaped (ctD c) = true := by
  have h2 := ct_dep c
  show ((ctD c).canLay0 && decide ((ctD c).depth ≤ 64)) = true
  rw [Bool.and_eq_true]
  exact ⟨ct_lay h, decide_eq_true (by omega)⟩
/-- parts so -/
def psM (nm : Str) : List Pc → List Pc → Nat → Nat → Bool
  | [], [], po, pn => decide (po = pn)
  | _ :: _, [], _, _ => false
  | [], y :: _, po, _ => decide (y.1 = nm) && decide (y.2.1 = po)
  | x :: o, y :: n, po, pn => if x = y then psM nm o n po pn else decide (y.1 = nm) && (decide (y.2.1 = x.2.1) && decide (y.2.2 ≥ x.2.2))
section
variable {P : Program} {w : World} {K : PySem.W.Frag} {mg : Str → Option Value} {base : Heap} {C T : Addr}
def R_lparts (ds : List PyData) (Post : PyData → Prop) : Prop := ∃ nm o n, ds = [.str nm, ctD o, ctD n] ∧ (∀ x ∈ o.1, PcOk x) ∧ (∀ x ∈ n.1, PcOk x) ∧ Post (.bool (psM nm o.1 n.1 o.2 n.2))
theorem cl_law_parts_so (t : Tx K mg C T) : Cl P w K mg base 1 "_law_parts_so" (PF R_lparts) := by
  have sc : FnScope ["_law_name", "_law_old", "_law_new", "_law_at"] ["_law_name", "_law_old", "_law_new"] (defScope s_law_parts_so) := ⟨rfl, rfl, rfl, by decide +kernel, rfl, by decide +kernel, by decide +kernel⟩
  refine cl_pure (C := C) t.d_law_parts_so sc (fun _ _ _ _ _ _ us hl => match us, hl with | [_, _, _], _ => rfl) (fun ds Post h => ?_) fun f cdv A outer s H E hr => ⟨_,
    (pss_cons (ps_set (i := 3) sc.nd rfl (Or.inl rfl) pe_int)
  (pss_cons (ps_while PassesOwn.never (PW.pt (pw_and (pt_cmpR op_lt (pv 3) (pe_callB call_len_seq (by rfl) t.n_len bt_len (pa_cons (pe_ix ix_tup (pv 1) pe_int (fun _ _ => rfl)) pa_nil)) (nomark _)) (pw_and (pt_cmpR op_lt (pv 3) (pe_callB call_len_seq (by rfl) t.n_len bt_len (pa_cons (pe_ix ix_tup (pv 2) pe_int (fun _ _ => rfl)) pa_nil)) (nomark _)) (pw_and1 (pt_cmpR (op_eqD hr.units) (pe_ix ix_list (pe_ix ix_tup (pv 1) pe_int (fun _ _ => rfl)) (pv 3) (fun _ _ => rfl)) (pe_ix ix_list (pe_ix ix_tup (pv 2) pe_int (fun _ _ => rfl)) (pv 3) (fun _ _ => rfl)) (nomark _))))))
  (pss_one (ps_set (i := 3) sc.nd rfl (Or.inl rfl) (pe_op op_add (pv 3) pe_int))))
  (pss_cons (ps_if (PW.pt (pw_and (pt_cmpR op_eq (pv 3) (pe_callB call_len_seq (by rfl) t.n_len bt_len (pa_cons (pe_ix ix_tup (pv 1) pe_int (fun _ _ => rfl)) pa_nil)) (nomark _)) (pw_and1 (pt_cmpR op_eq (pv 3) (pe_callB call_len_seq (by rfl) t.n_len bt_len (pa_cons (pe_ix ix_tup (pv 2) pe_int (fun _ _ => rfl)) pa_nil)) (nomark _)))))
  (pss_one (ps_ret (pe_cmpR op_eq (pe_ix ix_tup (pv 1) pe_int (fun _ _ => rfl)) (pe_ix ix_tup (pv 2) pe_int (fun _ _ => rfl)) (nomark _))))
  pss_nil)
  (pss_cons (ps_if (PW.pt (pw_or (pt_cmpR op_eq (pv 3) (pe_callB call_len_seq (by rfl) t.n_len bt_len (pa_cons (pe_ix ix_tup (pv 2) pe_int (fun _ _ => rfl)) pa_nil)) (nomark _)) (pw_or1 (pt_cmpR op_ne (pe_ix ix_tup (pe_ix ix_list (pe_ix ix_tup (pv 2) pe_int (fun _ _ => rfl)) (pv 3) (fun _ _ => rfl)) pe_int (fun _ _ => rfl)) (pv 0) (nomark _)))))
  (pss_one (ps_ret pe_bl))
  pss_nil)
  (pss_cons (ps_if (pt_cmpR op_eq (pv 3) (pe_callB call_len_seq (by rfl) t.n_len bt_len (pa_cons (pe_ix ix_tup (pv 1) pe_int (fun _ _ => rfl)) pa_nil)) (nomark _))
  (pss_one (ps_ret (pe_cmpR op_eq (pe_ix ix_tup (pe_ix ix_list (pe_ix ix_tup (pv 2) pe_int (fun _ _ => rfl)) (pv 3) (fun _ _ => rfl)) pe_int (fun _ _ => rfl)) (pe_ix ix_tup (pv 1) pe_int (fun _ _ => rfl)) (nomark _))))
  pss_nil)
  (pss_one (ps_ret (pe_and (pe_cmpR op_eq (pe_ix ix_tup (pe_ix ix_list (pe_ix ix_tup (pv 2) pe_int (fun _ _ => rfl)) (pv 3) (fun _ _ => rfl)) pe_int (fun _ _ => rfl)) (pe_ix ix_tup (pe_ix ix_list (pe_ix ix_tup (pv 1) pe_int (fun _ _ => rfl)) (pv 3) (fun _ _ => rfl)) pe_int (fun _ _ => rfl)) (nomark _)) (pe_one (pe_cmpR op_ge (pe_ix ix_tup (pe_ix ix_list (pe_ix ix_tup (pv 2) pe_int (fun _ _ => rfl)) (pv 3) (fun _ _ => rfl)) pe_int (fun _ _ => rfl)) (pe_ix ix_tup (pe_ix ix_list (pe_ix ix_tup (pv 1) pe_int (fun _ _ => rfl)) (pv 3) (fun _ _ => rfl)) pe_int (fun _ _ => rfl)) (nomark _))))))))))), fun c ds Post hC h => ?_⟩
  · obtain ⟨_, _, _, rfl, _⟩ := h; rfl
  · obtain ⟨nm, ⟨o, po⟩, ⟨n, pn⟩, rfl, ho, hn, k⟩ := h
    have ho : ∀ x ∈ o, PcOk x := ho
    have hn : ∀ x ∈ n, PcOk x := hn
    have k : Post (.bool (psM nm o n po pn)) := k
    refine rs_seq (rs_asg (d := nD 0) ev_int (rs_seq (rs_while (m0 := o.length) (fun m env => ∃ i, env = [.im (.str nm), .im (ctD (o, po)), .im (ctD (n, pn)), .im (nD i)] ∧ i ≤ o.length ∧ i ≤ n.length ∧ psM nm (o.drop i) (n.drop i) po pn = psM nm o n po pn ∧ m + i = o.length) ⟨0, rfl, Nat.zero_le _, Nat.zero_le _, rfl, rfl⟩ ?_)))
    rintro m _ ⟨i, rfl, io, iN, hps, hm⟩
    generalize hEnv : ([.im (.str nm), .im (ctD (o, po)), .im (ctD (n, pn)), .im (nD i)] : List Sl) = env
    have v0 : env[0]? = some (.im (.str nm)) := by rw [← hEnv]; rfl
    have v1 : env[1]? = some (.im (ctD (o, po))) := by rw [← hEnv]; rfl
    have v2 : env[2]? = some (.im (ctD (n, pn))) := by rw [← hEnv]; rfl
    have v3 : env[3]? = some (.im (nD i)) := by rw [← hEnv]; rfl
    have lo : EvE c (tCB (fun xs H Q => ∃ p ys, xs = [.ref p] ∧ (SqL K H p ys ∨ SqT K H p ys) ∧ Q (.int ys.length) H) (tCons (tOp (rIxT K) (tVar 1) (tC (.int 0))) tNil)) env (nD o.length) := ev_is (ev_cb (ea_1 (ev_op (ev_var v1) ev_int (rv_ixT (d := .list (o.map qcD)) (ix_of (j := 0) rfl rfl)))) rc_lenL) (by rw [List.length_map])
    have ln : EvE c (tCB (fun xs H Q => ∃ p ys, xs = [.ref p] ∧ (SqL K H p ys ∨ SqT K H p ys) ∧ Q (.int ys.length) H) (tCons (tOp (rIxT K) (tVar 2) (tC (.int 0))) tNil)) env (nD n.length) := ev_is (ev_cb (ea_1 (ev_op (ev_var v2) ev_int (rv_ixT (d := .list (n.map qcD)) (ix_of (j := 0) rfl rfl)))) rc_lenL) (by rw [List.length_map])
    have at_o : ∀ h : i < o.length, EvE c (tOp (rIxL K) (tOp (rIxT K) (tVar 1) (tC (.int 0))) (tVar 3)) env (qcD o[i]) := fun h => ev_op (ev_op (ev_var v1) ev_int (rv_ixT (d := .list (o.map qcD)) (ix_of (j := 0) rfl rfl))) (ev_var v3) (rv_ixL (ix_of rfl (get_map' (List.getElem?_eq_getElem h))))
    have at_n : ∀ h : i < n.length, EvE c (tOp (rIxL K) (tOp (rIxT K) (tVar 2) (tC (.int 0))) (tVar 3)) env (qcD n[i]) := fun h => ev_op (ev_op (ev_var v2) ev_int (rv_ixT (d := .list (n.map qcD)) (ix_of (j := 0) rfl rfl))) (ev_var v3) (rv_ixL (ix_of rfl (get_map' (List.getElem?_eq_getElem h))))
    have eo : EvE c (tOp (rIxT K) (tVar 1) (tC (.int 1))) env (nD po) := ev_op (ev_var v1) ev_int (rv_ixT (ix_of (j := 1) rfl rfl))
    have en : EvE c (tOp (rIxT K) (tVar 2) (tC (.int 1))) env (nD pn) := ev_op (ev_var v2) ev_int (rv_ixT (ix_of (j := 1) rfl rfl))
    rcases Nat.lt_or_ge i o.length with h1 | h1
    · rcases Nat.lt_or_ge i n.length with h2 | h2
      · have mo := ho _ (List.getElem_mem h1)
        have mn := hn _ (List.getElem_mem h2)
        have d1 : o.drop i = o[i] :: o.drop (i + 1) := List.drop_eq_getElem_cons h1
        have d2 : n.drop i = n[i] :: n.drop (i + 1) := List.drop_eq_getElem_cons h2
        refine rt_eb (b := decide (o[i] = n[i])) (eb_is (eb_and (a := true) (eb_is (eb_test (ev_op (ev_var v3) lo rv_I0b)) (decide_eq_true (by omega))) fun _ => eb_and (a := true) (eb_is (eb_test (ev_op (ev_var v3) ln rv_I0b)) (decide_eq_true (by omega))) fun _ => eb_is (eb_test (ev_op (at_o h1) (at_n h2) (rv_eqD (qc_shaped mo) (qc_shaped mn)))) (eqv_qc _ _)) (by rw [Bool.true_and, Bool.true_and])) ⟨fun hxy => ?_, fun hxy => ?_⟩
        · have hxy := of_decide_eq_true hxy
          refine rs_asg (d := nD (i + 1)) (ev_op (ev_var v3) ev_int rv_add) ⟨m - 1, by omega, i + 1, by rw [← hEnv]; rfl, by omega, by omega, ?_, by omega⟩
          rw [← hps, d1, d2]
          show _ = if o[i] = n[i] then _ else _
          rw [if_pos hxy]
        · have hxy := of_decide_eq_false hxy
          rw [← hps, d1, d2] at k
          have k : Post (.bool (if o[i] = n[i] then _ else decide (n[i].1 = nm) && (decide (n[i].2.1 = o[i].2.1) && decide (n[i].2.2 ≥ o[i].2.2)))) := k
          rw [if_neg hxy] at k
          refine rs_seq (rs_ifF (eb_and (a := false) (b := false) (eb_is (eb_test (ev_op (ev_var v3) lo rv_eqI)) (decide_eq_false (by omega))) fun h => nomatch h) (rs_next ?_))
          have tst2 : EvB c _ env (false || !decide (n[i].1 = nm)) := eb_or (eb_is (eb_test (ev_op (ev_var v3) ln rv_eqI)) (decide_eq_false (by omega))) fun _ => eb_test (ev_op (ev_op (at_n h2) ev_int (rv_ixT (K := K) (i := 0) (d := .str n[i].1) (ix_of (j := 0) rfl rfl))) (ev_var v0) rv_neS)
          by_cases hnm : n[i].1 = nm
          · refine rs_seq (rs_ifF (eb_is tst2 (by simp [hnm])) (rs_next (rs_seq (rs_ifF (eb_is (eb_test (ev_op (ev_var v3) lo rv_eqI)) (decide_eq_false (by omega))) (rs_next ?_)))))
            rw [decide_eq_true hnm] at k
            refine rs_ret (ev_is (ev_andV (ev_op (ev_op (at_n h2) ev_int (rv_ixT (d := nD n[i].2.1) (ix_of (j := 1) rfl rfl))) (ev_op (at_o h1) ev_int (rv_ixT (d := nD o[i].2.1) (ix_of (j := 1) rfl rfl))) rv_eqI) fun _ => ev_op (ev_op (at_n h2) ev_int (rv_ixT (d := nD n[i].2.2) (ix_of (j := 2) rfl rfl))) (ev_op (at_o h1) ev_int (rv_ixT (d := nD o[i].2.2) (ix_of (j := 2) rfl rfl))) rv_I0b) (congrArg PyData.bool ?_)) k
            rw [Bool.true_and]
            congr 1
            · exact decide_eq_decide.mpr (by omega)
            · exact decide_eq_decide.mpr (by omega)
          · rw [decide_eq_false hnm] at k
            exact rs_seq (rs_ifT (eb_is tst2 (by simp [hnm])) (rs_ret ev_bl k))
      · refine rt_eb (b := false) (eb_and (a := true) (eb_is (eb_test (ev_op (ev_var v3) lo rv_I0b)) (decide_eq_true (by omega))) fun _ => eb_and (a := false) (b := false) (eb_is (eb_test (ev_op (ev_var v3) ln rv_I0b)) (decide_eq_false (by omega))) fun h => nomatch h) ⟨fun h => (nomatch h), fun _ => ?_⟩
        have d1 : o.drop i = o[i] :: o.drop (i + 1) := List.drop_eq_getElem_cons h1
        rw [← hps, d1, List.drop_of_length_le h2] at k
        refine rs_seq (rs_ifF (eb_and (a := false) (b := false) (eb_is (eb_test (ev_op (ev_var v3) lo rv_eqI)) (decide_eq_false (by omega))) fun h => nomatch h) (rs_next ?_))
        exact rs_seq (rs_ifT (eb_or (a := true) (b := true) (eb_is (eb_test (ev_op (ev_var v3) ln rv_eqI)) (decide_eq_true (by omega))) fun h => nomatch h) (rs_ret ev_bl k))
    · refine rt_eb (b := false) (eb_and (a := false) (b := false) (eb_is (eb_test (ev_op (ev_var v3) lo rv_I0b)) (decide_eq_false (by omega))) fun h => nomatch h) ⟨fun h => (nomatch h), fun _ => ?_⟩
      rw [← hps, List.drop_of_length_le h1] at k
      rcases Nat.lt_or_ge i n.length with h2 | h2
      · have d2 : n.drop i = n[i] :: n.drop (i + 1) := List.drop_eq_getElem_cons h2
        rw [d2] at k
        have k : Post (.bool (decide (n[i].1 = nm) && decide (n[i].2.1 = po))) := k
        refine rs_seq (rs_ifF (eb_and (a := true) (b := false) (eb_is (eb_test (ev_op (ev_var v3) lo rv_eqI)) (decide_eq_true (by omega))) fun _ => eb_is (eb_test (ev_op (ev_var v3) ln rv_eqI)) (decide_eq_false (by omega))) (rs_next ?_))
        have tst2 : EvB c _ env (false || !decide (n[i].1 = nm)) := eb_or (eb_is (eb_test (ev_op (ev_var v3) ln rv_eqI)) (decide_eq_false (by omega))) fun _ => eb_test (ev_op (ev_op (at_n h2) ev_int (rv_ixT (K := K) (i := 0) (d := .str n[i].1) (ix_of (j := 0) rfl rfl))) (ev_var v0) rv_neS)
        by_cases hnm : n[i].1 = nm
        · rw [decide_eq_true hnm] at k
          refine rs_seq (rs_ifF (eb_is tst2 (by simp [hnm])) (rs_next (rs_seq (rs_ifT (eb_is (eb_test (ev_op (ev_var v3) lo rv_eqI)) (decide_eq_true (by omega))) ?_))))
          refine rs_ret (ev_is (ev_op (ev_op (at_n h2) ev_int (rv_ixT (d := nD n[i].2.1) (ix_of (j := 1) rfl rfl))) eo rv_eqI) (congrArg PyData.bool ?_)) k
          rw [Bool.true_and]
          exact decide_eq_decide.mpr (by omega)
        · rw [decide_eq_false hnm] at k
          exact rs_seq (rs_ifT (eb_is tst2 (by simp [hnm])) (rs_ret ev_bl k))
      · rw [List.drop_of_length_le h2] at k
        have k : Post (.bool (decide (po = pn))) := k
        refine rs_seq (rs_ifT (eb_and (a := true) (b := true) (eb_is (eb_test (ev_op (ev_var v3) lo rv_eqI)) (decide_eq_true (by omega))) fun _ => eb_is (eb_test (ev_op (ev_var v3) ln rv_eqI)) (decide_eq_true (by omega))) ?_)
        refine rs_ret (ev_is (ev_op eo en rv_eqI) (congrArg PyData.bool ?_)) k
        exact decide_eq_decide.mpr (by omega)
end
end Nr
set_option Elab.async false
set_option linter.all false
set_option maxRecDepth 100000
set_option maxHeartbeats 4000000
set_option pp.maxSteps 700
namespace Nr
open PySem PySem.Spec PyProof.Rows L2
section
variable {X : Cx} {k j : Nat} {x : Str} {sp : Sp} {p pos : Pos} {e : Expr} {es : List Expr} {t : TA}
theorem pe_clS {E : L2.St → XK} (c : ClX X.prog X.w X.K X.mg X.base k x sp) (hr : Room j X.A) (hk : k ≤ j) (hg : Gl X x) (hx : ∀ σ, PassesAt (L2.CX X.prog X.w) X σ (E σ)) (ha : PA X (e :: es) t) (hdb : (x == ("__debug__" : Str)) = false := by decide) (he : starEach (e :: es) X.env = (false, eval e X.env) :: starEach es X.env := by rfl) (hpl : (backTo pos (starEach es X.env)).any (·.1) = false := by rfl) :
    PE X (.Call (.Name x p) (e :: es) [] pos) (tCallS sp E t) := by
  obtain ⟨f, fd, ps, F, hm, kp, b⟩ := c.ex
  exact pe_callS F (hr.mono hk) hg hm kp b hx ha hdb he hpl
end
section
variable {c : Ct} {env : List Sl} {D : De} {t : TA} {ds : List PyData} {K : PySem.W.Frag} {T : Addr}
/-- try: x = f(..) / except T: x = () -/
theorem rs_tryA {R : List PyData → (PyData → Prop) → Prop → Prop} {i : Nat} {Wout : WX} (eT : PySem.W.exmOne K (.ref T) (.ref T) = some true) (ha : EvA c t env ds) (hR : R ds (fun d => D.nx (env.set i (.im d))) (D.nx (env.set i (.im (.tuple []))))) :
    RS c (fun E σ H => tAsg (tCallS (PX T R) (WE (wOnly K (.ref T) (fun _ _ _ => tAsg (tTup tNil) (gName i)) Wout E)) t) (gName i) E σ H) D env := fun σ F H fps Rs E a =>
  ha σ F H fps Rs _ fun vs F1 H1 s1 h1 => ⟨F1, ds, _, _, s1.h, h1, hR, fun d v F' H' pd s2 h2 => a.nx _ F' _ _ _ ((Rs.ext (s1.trans s2)).putD i h2) (s1.trans s2).f pd, fun F' H' hx s2 => ⟨true, eT, fun _ _ _ => rs_asg (te := tTup tNil) (i := i) (ev_tup ea_nil (by decide)) hx σ F' H' fps (Rs.ext (s1.trans s2)) E (a.mono (s1.trans s2).f), fun q => nomatch q⟩⟩
end
section
variable {P : Program} {w : World} {K : PySem.W.Frag} {mg : Str → Option Value} {base : Heap} {C T : Addr}
def R_told (ds : List PyData) (Post : PyData → Prop) : Prop := ∃ τ rs rs', ds = [bkD τ (shR rs), bkD τ (shR rs')] ∧ BookOk τ rs ∧ BookOk τ rs' ∧ ((Big τ (shX rs) ∨ Big τ (shX rs')) → Post (.tuple [])) ∧ (¬ Big τ (shX rs) → ¬ Big τ (shX rs') → Post (altD τ rs rs'))
theorem cl_law_told (t : Tx K mg C T) : Cl P w K mg base 18 "_law_told" (PF R_told) := by
  have sc : FnScope ["_law_book", "_law_other", "_law_found"] ["_law_book", "_law_other"] (defScope s_law_told) := ⟨rfl, rfl, rfl, by decide +kernel, rfl, by decide +kernel, by decide +kernel⟩
  have c_altered := cl_altered (P := P) (w := w) (base := base) t
  refine cl_pure (k := 17) (C := C) t.d_law_told sc (fun _ _ _ _ _ _ us hl => match us, hl with | [_, _], _ => rfl) (fun ds Post h => ?_) fun f cdv A outer s H E hr => ⟨_,
    pss_cons (ps_set (i := 2) sc.nd rfl (Or.inl rfl) (pe_tup pa_nil)) (pss_cons (ps_try_only (tb := fun W => tAsg (tCallS (PX T R_altered) (WE W) (tCons (tVar 0) (tCons (tVar 1) tNil))) (gName 2)) (ts := fun _ _ _ => tAsg (tTup tNil) (gName 2)) (Wout := fun _ _ _ _ => False) rfl rfl ⟨rfl, by decide, Or.inl t.gT⟩ takes0
      (fun W pn xe tk _ => pss_one (ps_set (i := 2) sc.nd rfl (Or.inl rfl) (pe_clS c_altered hr (by omega) (by rfl) (fun σ => passAt tk σ) (by exact (pa_cons (pv 0) (pa_cons (pv 1) pa_nil))))))
      (fun _ _ _ _ _ _ _ => pss_one (ps_set (i := 2) sc.nd rfl (Or.inl rfl) (pe_tup pa_nil)))) (pss_one (ps_ret (pv 2)))), fun c ds Post hC h => ?_⟩
  · obtain ⟨_, _, _, rfl, _⟩ := h; rfl
  · obtain ⟨τ, rs, rs', rfl, hb, hb', k1, k2⟩ := h
    refine rs_seq (rs_asg (ev_tup ea_nil (by decide)) (rs_seq (rs_tryA t.eT (ea_2 (ev_var rfl) (ev_var rfl)) ⟨τ, rs, rs', rfl, hb, hb', fun h => rs_ret (ev_var rfl) (k1 h), fun h1 h2 => rs_ret (ev_var rfl) (k2 h1 h2)⟩)))
end
end Nr
set_option Elab.async false
set_option linter.all false
set_option maxRecDepth 100000
set_option maxHeartbeats 400000
set_option pp.maxSteps 700
namespace Nr
open PySem PySem.Spec PyProof.Rows L2
/-! ### what the last check asks of the plain law -/
noncomputable def cutN (τ : List Nat) (rs : List (Str × Sh)) (w : List Nat) : List Pc × Nat := nmC (shR rs) (cutM (tabB τ (shX rs)) τ w)
structure Law3 (τ : List Nat) (rs rs' : List (Str × Sh)) (nm : Str) : Prop where
  a : ∀ w, Wrd τ w → psM nm (cutN τ rs w).1 (cutN τ rs' w).1 (cutN τ rs w).2 (cutN τ rs' w).2 = true
  b : fpM (tabB τ (shX rs)) (tabB τ (shX rs')) τ (shR rs) (shR rs') = none → ∀ w, Wrd τ w → cutN τ rs w = cutN τ rs' w
  c : ∀ m, fpM (tabB τ (shX rs)) (tabB τ (shX rs')) τ (shR rs) (shR rs') = some m → cutN τ rs m.2 ≠ cutN τ rs' m.2
theorem ps_ne {nm : Str} : ∀ (o n : List Pc) (po pn : Nat), psM nm o n po pn = true → ¬ (o = n ∧ po = pn) → ∃ x ∈ n, x.1 = nm
  | [], [], po, pn, h, hne => absurd ⟨rfl, of_decide_eq_true h⟩ hne
  | _ :: _, [], _, _, h, _ => by cases h
  | [], y :: n, po, pn, h, _ => by
    have h : (decide (y.1 = nm) && decide (y.2.1 = po)) = true := h
    rw [Bool.and_eq_true] at h
    exact ⟨y, List.mem_cons_self, of_decide_eq_true h.1⟩
  | x :: o, y :: n, po, pn, h, hne => by
    have h2 : (if x = y then psM nm o n po pn else decide (y.1 = nm) && (decide (y.2.1 = x.2.1) && decide (y.2.2 ≥ x.2.2))) = true := h
    by_cases e : x = y
    · rw [if_pos e] at h2
      obtain ⟨z, hz, h3⟩ := ps_ne o n po pn h2 fun q => hne ⟨by rw [q.1, e], q.2⟩
      exact ⟨z, List.mem_cons_of_mem _ hz, h3⟩
    · rw [if_neg e, Bool.and_eq_true] at h2
      exact ⟨y, List.mem_cons_self, of_decide_eq_true h2.1⟩
theorem str_ok {s : Str} (h : ∀ k ∈ s.cps.toList, k < 0x110000) : PyData.strOk s = true := by
  unfold PyData.strOk
  rw [Array.all_eq_true]
  intro i hi
  exact decide_eq_true (h _ (by rw [Array.mem_toList_iff]; exact Array.getElem_mem hi))
theorem nm_str {n : Str} (h : NmOk n) : PyData.strOk n = true := by
  refine str_ok fun k hk => ?_
  have e : ∀ k ∈ str_LETTERS.cps.toList, k < 0x110000 := by decide +kernel
  exact e k (h.s k hk)
theorem wrd_str {τ w : List Nat} (ht : Tng τ) (h : Wrd τ w) : PyData.strOk ⟨w.toArray⟩ = true := by
  refine str_ok fun k hk => ?_
  have e : ∀ k ∈ str_SIGNS.cps.toList, k < 0x110000 := by decide +kernel
  exact e k (ht.s k (h.s k (by simpa using hk)))
theorem cutN_ok {τ : List Nat} {rs : List (Str × Sh)} (hb : BookOk τ rs) (hB : ¬ Big τ (shX rs)) {w : List Nat} (hw : Wrd τ w) : ∀ x ∈ (cutN τ rs w).1, PcOk x := by
  intro x hx
  obtain ⟨p, hp, rfl⟩ := List.mem_map.mp (show x ∈ (cutM (tabB τ (shX rs)) τ w).1.map _ from hx)
  obtain ⟨_, h2⟩ := cutFix_ok (bk_tok hb hB) hw (w.length + 1) 0 [] (Nat.zero_le _) (Nat.le_refl _) (by simp)
  obtain ⟨h3, h4⟩ := h2 p hp
  rw [List.length_map] at h4
  have hlt : p.1.toNat < rs.length := by omega
  show PyData.strOk (nmO (shR rs) p.1) = true
  unfold nmO
  rw [List.getD_eq_getElem?_getD, List.getElem?_map, List.getElem?_eq_getElem hlt]
  exact nm_str (hb.r _ (List.getElem_mem hlt)).n
theorem cutS_neg (l : List Nat) : L2.cutS ⟨l.toArray⟩ none (some (-1)) = ⟨(l.take (l.length - 1)).toArray⟩ := by
  unfold L2.cutS
  have e : (⟨l.toArray⟩ : Str).length = l.length := by simp [Str.length]
  have e2 : HT.sIx l.length l.length (some (-1)) = l.length - 1 := by
    show (if (-1 : Int) < 0 then ((-1 : Int) + (l.length : Int)).toNat else min (-1 : Int).toNat l.length) = _
    rw [if_pos (by decide)]
    omega
  rw [e, HT.sIx_none, e2]
  show (⟨((l.drop 0).take (l.length - 1 - 0)).toArray⟩ : Str) = _
  rw [List.drop_zero, Nat.sub_zero]
theorem one_lay : ∀ l : List Pc, PyData.canLayAll0 (l.map fun _ => PyData.int 1) = true
  | [] => by simp [PyData.canLayAll0]
  | _ :: l => by
    have := one_lay l
    simp [PyData.canLayAll0, PyData.canLay0, this]
theorem one_dep : ∀ l : List Pc, PyData.depthAll (l.map fun _ => PyData.int 1) = 0
  | [] => by simp [PyData.depthAll]
  | _ :: l => by
    have := one_dep l
    simp [PyData.depthAll, PyData.depth, this]
theorem one_shaped (l : List Pc) : SeqAt.shaped (.list (l.map fun _ => PyData.int 1)) = true := by
  show (PyData.canLay0 (.list (l.map fun _ => PyData.int 1)) && decide (PyData.depth (.list (l.map fun _ => PyData.int 1)) ≤ 64)) = true
  rw [Bool.and_eq_true]
  exact ⟨by simp only [PyData.canLay0]; exact one_lay l, by simp only [PyData.depth, one_dep]; decide⟩
theorem fd_shaped {s : Str} {a b : List Pc × Nat} (hs : PyData.strOk s = true) (ha : ∀ x ∈ a.1, PcOk x) (hb : ∀ x ∈ b.1, PcOk x) : SeqAt.shaped (.tuple [.str s, ctD a, ctD b]) = true := by
  show (PyData.canLay0 (.tuple [.str s, ctD a, ctD b]) && decide (PyData.depth (.tuple [.str s, ctD a, ctD b]) ≤ 64)) = true
  have h1 := ct_lay ha
  have h2 := ct_lay hb
  have h3 := ct_dep a
  have h4 := ct_dep b
  rw [Bool.and_eq_true]
  refine ⟨by simp [PyData.canLay0, PyData.canLayAll0, hs, h1, h2], decide_eq_true ?_⟩
  simp only [PyData.depth, PyData.depthAll]
  omega
theorem shapedT : SeqAt.shaped (.tuple []) = true := by rfl
theorem shapedN : SeqAt.shaped .none = true := by rfl
end Nr
set_option Elab.async false
set_option linter.all false
set_option maxRecDepth 100000
set_option maxHeartbeats 4000000
set_option pp.maxSteps 700
namespace Nr
open PySem PySem.Spec PyProof.Rows L2
theorem cutN_len {τ : List Nat} {rs : List (Str × Sh)} (hb : BookOk τ rs) (hB : ¬ Big τ (shX rs)) {w : List Nat} (hw : Wrd τ w) : (cutN τ rs w).1.length ≤ 5000 := by
  obtain ⟨h1, _⟩ := cutFix_ok (bk_tok hb hB) hw (w.length + 1) 0 [] (Nat.zero_le _) (Nat.le_refl _) (by simp)
  have := hw.l
  show ((cutM (tabB τ (shX rs)) τ w).1.map _).length ≤ 5000
  rw [List.length_map]
  have h1 : (cutM (tabB τ (shX rs)) τ w).1.length ≤ w.length := h1
  omega
section
variable {P : Program} {w : World} {K : PySem.W.Frag} {mg : Str → Option Value} {base : Heap} {C T : Addr}
def R_right (ds : List PyData) (Post : PyData → Prop) : Prop := ∃ (τ : List Nat) (rs rs' : List (Str × Sh)) (nm : Str) (W : List (List Nat)), ds = [bkD τ (shR rs), bkD τ (shR rs'), .str nm, .list (W.map sD)] ∧ BookOk τ rs ∧ BookOk τ rs' ∧ (∀ w ∈ W, Wrd τ w) ∧ W.length ≤ 1000 ∧ (¬ Big τ (shX rs) → ¬ Big τ (shX rs') → Law3 τ rs rs' nm) ∧ Post (.bool true)
theorem cl_law_right (t : Tx K mg C T) : Cl P w K mg base 19 "_law_right" (PF R_right) := by
  have sc : FnScope ["_law_book", "_law_other", "_law_name", "_law_texts", "_law_found", "_law_some_here", "_law_text_here", "_law_old", "_law_new", "_law_word", "_law_start", "_law_end"] ["_law_book", "_law_other", "_law_name", "_law_texts"] (defScope s_law_right) := ⟨rfl, rfl, rfl, by decide +kernel, rfl, by decide +kernel, by decide +kernel⟩
  have c_law_told := cl_law_told (P := P) (w := w) (base := base) t
  have c_named_cut := cl_named_cut (P := P) (w := w) (base := base) t
  have c_law_parts_so := cl_law_parts_so (P := P) (w := w) (base := base) t
  refine cl_pure (k := 18) (C := C) t.d_law_right sc (fun _ _ _ _ _ _ us hl => match us, hl with | [_, _, _, _], _ => rfl) (fun ds Post h => ?_) fun f cdv A outer s H E hr => ⟨_,
    (pss_cons (ps_set (i := 4) sc.nd rfl (Or.inl rfl) (pe_cl c_law_told hr (by omega) (by rfl) (pa_cons (pv 0) (pa_cons (pv 1) pa_nil))))
  (pss_cons (ps_if (pt_cmpR (op_eqD hr.units) (pv 4) (pe_tup pa_nil) (nomark _))
  (pss_one (ps_ret pe_bl))
  pss_nil)
  (pss_cons (ps_set (i := 5) sc.nd rfl (Or.inl rfl) (pe_callTy call_list_of (by rfl) t.n_list bt_list (pa_cons (pv 3) pa_nil)))
  (pss_cons (ps_if (pt_cmp (pc_notN (pv 4)))
  (pss_cons (ps_set (i := 5) sc.nd rfl (Or.inl rfl) (pe_op op_cat (pv 5) (pe_lst (pa_cons (pe_slice sl_str (pe_ix ix_tup (pv 4) pe_int (fun _ _ => rfl)) po_none (po_some (pe_un un_neg pe_int))) pa_nil))))
  (pss_cons (ps_if (PW.pt (pw_or (pt_cmpR (op_eqD hr.units) (pe_ix ix_tup (pv 4) pe_int (fun _ _ => rfl)) (pe_ix ix_tup (pv 4) pe_int (fun _ _ => rfl)) (nomark _)) (pw_or1 (pt_not (pt_truth (pe_cl c_law_parts_so hr (by omega) (by rfl) (pa_cons (pv 2) (pa_cons (pe_ix ix_tup (pv 4) pe_int (fun _ _ => rfl)) (pa_cons (pe_ix ix_tup (pv 4) pe_int (fun _ _ => rfl)) pa_nil)))) (fun _ => rfl))))))
  (pss_one (ps_ret pe_bl))
  pss_nil)
  (pss_one (ps_if (PW.pt (pw_or (pt_cmpR (op_neD hr.units) (pe_clX c_named_cut hr (by omega) (by rfl) passX0 (pa_cons (pv 0) (pa_cons (pe_ix ix_tup (pv 4) pe_int (fun _ _ => rfl)) pa_nil))) (pe_ix ix_tup (pv 4) pe_int (fun _ _ => rfl)) (nomark _)) (pw_or1 (pt_cmpR (op_neD hr.units) (pe_clX c_named_cut hr (by omega) (by rfl) passX0 (pa_cons (pv 1) (pa_cons (pe_ix ix_tup (pv 4) pe_int (fun _ _ => rfl)) pa_nil))) (pe_ix ix_tup (pv 4) pe_int (fun _ _ => rfl)) (nomark _)))))
  (pss_one (ps_ret pe_bl))
  pss_nil))))
  pss_nil)
  (pss_cons (ps_for PassesOwn.never rfl (pi_list (pv 5)) (pg_name (i := 6) sc.nd rfl (Or.inl rfl))
  (pss_cons (ps_set (i := 7) sc.nd rfl (Or.inl rfl) (pe_clX c_named_cut hr (by omega) (by rfl) passX0 (pa_cons (pv 0) (pa_cons (pv 6) pa_nil))))
  (pss_cons (ps_set (i := 8) sc.nd rfl (Or.inl rfl) (pe_clX c_named_cut hr (by omega) (by rfl) passX0 (pa_cons (pv 1) (pa_cons (pv 6) pa_nil))))
  (pss_cons (ps_if (PW.pt (pw_or (pt_not (pt_truth (pe_cl c_law_parts_so hr (by omega) (by rfl) (pa_cons (pv 2) (pa_cons (pv 7) (pa_cons (pv 8) pa_nil)))) (fun _ => rfl))) (pw_or1 (PW.pt (pw_and (pt_cmpR (op_neD hr.units) (pv 7) (pv 8) (nomark _)) (pw_and1 (pt_cmp (pc_isN (pv 4)))))))))
  (pss_one (ps_ret pe_bl))
  pss_nil)
  (pss_one (ps_if (PW.pt (pw_and (pt_cmpR (op_neD hr.units) (pv 7) (pv 8) (nomark _)) (pw_and1 (pt_cmpR (op_eqD hr.units) (pe_lc (own := [("_law_word", 9), ("_law_start", 10), ("_law_end", 11)]) (g := gTup K 3 (gCons (gName 9) (gCons (gName 10) (gCons (gName 11) gNil)))) rfl sc.nd (pi_list (pe_ix ix_tup (pv 8) pe_int (fun _ _ => rfl))) (blkOk_by (N := ["_law_book", "_law_other", "_law_name", "_law_texts", "_law_found", "_law_some_here", "_law_text_here", "_law_old", "_law_new", "_law_word", "_law_start", "_law_end"]) (sc := (defScope s_law_right)) (own := [("_law_word", 9), ("_law_start", 10), ("_law_end", 11)]) (by decide +kernel)) (fun _ _ _ _ _ => (pg_tup rfl (pgs_cons (pg_name (i := 9) sc.nd rfl (Or.inl rfl)) (pgs_cons (pg_name (i := 10) sc.nd rfl (Or.inl rfl)) (pgs_cons (pg_name (i := 11) sc.nd rfl (Or.inl rfl)) pgs_nil))))) (fun _ _ _ _ _ => (pts_one (pt_cmpR op_eq (pv 9) (pv 2) (nomark _)))) (fun _ _ _ _ _ => pe_int)) (pe_lst pa_nil) (nomark _)))))
  (pss_one (ps_ret pe_bl))
  pss_nil))))))
  (pss_one (ps_ret pe_bl))))))), fun c ds Post hC h => ?_⟩
  · obtain ⟨_, _, _, _, _, rfl, _⟩ := h; rfl
  · obtain ⟨τ, rs, rs', nm, W, rfl, hb, hb', hW, hWl, hL, k⟩ := h
    by_cases hBig : Big τ (shX rs) ∨ Big τ (shX rs')
    · refine rs_seq (rs_asg (d := .tuple []) (ev_call (ea_2 (ev_var rfl) (ev_var rfl)) ⟨τ, rs, rs', rfl, hb, hb', fun _ => rfl, fun h1 h2 => (hBig.elim h1 h2).elim⟩) ?_)
      exact rs_seq (rs_ifT (eb_is (eb_test (ev_op (ev_var rfl) (ev_tup ea_nil (by decide)) (rv_eqD shapedT shapedT))) (by simp [PyData.eqv, PyData.eqvAll])) (rs_ret ev_bl k))
    have hB : ¬ Big τ (shX rs) := fun h => hBig (Or.inl h)
    have hB' : ¬ Big τ (shX rs') := fun h => hBig (Or.inr h)
    have L := hL hB hB'
    have o1 := bk_tok hb hB
    have o2 := bk_tok hb' hB'
    refine rs_seq (rs_asg (d := altD τ rs rs') (ev_call (ea_2 (ev_var rfl) (ev_var rfl)) ⟨τ, rs, rs', rfl, hb, hb', fun h => (hBig h).elim, fun _ _ => rfl⟩) ?_)
    have hfd : (fpM (tabB τ (shX rs)) (tabB τ (shX rs')) τ (shR rs) (shR rs') = none ∧ altD τ rs rs' = .none) ∨ ∃ m, fpM (tabB τ (shX rs)) (tabB τ (shX rs')) τ (shR rs) (shR rs') = some m ∧ altD τ rs rs' = .tuple [sD m.2, ctD (cutN τ rs m.2), ctD (cutN τ rs' m.2)] := by
      cases hm : fpM (tabB τ (shX rs)) (tabB τ (shX rs')) τ (shR rs) (shR rs') with
      | none => exact Or.inl ⟨rfl, by unfold altD; rw [hm]⟩
      | some m => exact Or.inr ⟨m, rfl, by unfold altD; rw [hm]; show PyData.tuple [sD m.2, ncD _ _, ncD _ _] = _; rw [nc_ct, nc_ct]; rfl⟩
    have hsame : isN (altD τ rs rs') = true → ∀ w, Wrd τ w → cutN τ rs w = cutN τ rs' w := fun h => by
      rcases hfd with ⟨h1, _⟩ | ⟨m, _, h2⟩
      · exact L.b h1
      · rw [h2] at h; cases h
    have hW5 : ∀ m, fpM (tabB τ (shX rs)) (tabB τ (shX rs')) τ (shR rs) (shR rs') = some m → Wrd τ m.2 := fun m hm => by
      have hmm := List.mem_of_find?_eq_some hm
      have mok := togM_ok o1 o2
      have hl2 := mok.len o1.m o2.m
      exact ⟨hb.t.nd, mok.s m hmm, by have := mok.l m hmm; omega⟩
    generalize altD τ rs rs' = fd at hfd hsame
    have hne : SeqAt.shaped fd = true ∧ PyData.eqv fd (.tuple []) = false := by
      rcases hfd with ⟨_, rfl⟩ | ⟨m, hm, rfl⟩
      · exact ⟨shapedN, by simp [PyData.eqv]⟩
      · exact ⟨fd_shaped (wrd_str hb.t (hW5 m hm)) (cutN_ok hb hB (hW5 m hm)) (cutN_ok hb' hB' (hW5 m hm)), by simp [PyData.eqv, PyData.eqvAll]⟩
    refine rs_seq (rs_ifF (eb_is (eb_test (ev_op (ev_var rfl) (ev_tup ea_nil (by decide)) (rv_eqD hne.1 shapedT))) hne.2) (rs_next ?_))
    refine rs_seq (rs_asg (ev_cb (ea_1 (ev_var rfl)) rc_list) (rs_seqK (I := fun e => ∃ (V : List (List Nat)) (x6 x7 x8 x9 x10 x11 : Sl), e = [.im (bkD τ (shR rs)), .im (bkD τ (shR rs')), .im (.str nm), .im (.list (W.map sD)), .im fd, .im (.list (V.map sD)), x6, x7, x8, x9, x10, x11] ∧ ∀ w ∈ V, Wrd τ w) ?_ ?_))
    · refine rs_if (eb_B (ev_notN (ev_var rfl))) (fun h => ?_) (fun h => rs_next ⟨W, _, _, _, _, _, _, rfl, hW⟩)
      rcases hfd with ⟨_, rfl⟩ | ⟨m, hm, rfl⟩
      · cases h
      have hw := hW5 m hm
      have p1 := cutN_ok hb hB hw
      have p2 := cutN_ok hb' hB' hw
      have hps := L.a m.2 hw
      have hc := L.c m hm
      have hwl := hw.l
      refine rs_seq (rs_asg (d := .list ((W ++ [m.2.take (m.2.length - 1)]).map sD)) (ev_is (ev_op (ev_var rfl) (ev_lst (ea_1 (ev_slS (ev_op (ev_var rfl) ev_int (rv_ixT (d := sD m.2) (ix_of (j := 0) rfl rfl))) eo_none (eo_some (ev_un ev_int ru_neg)) (by rw [wl]; omega))) (by show 1 ≤ 100000; decide)) (rv_cat (by rw [List.length_map]; show _ + 1 ≤ _; omega))) (by rw [List.map_append]; show PyData.list (_ ++ [PyData.str (L2.cutS ⟨m.2.toArray⟩ none (some (-1)))]) = _; rw [cutS_neg]; rfl)) ?_)
      have f1 : ∀ {env : List Sl}, env[4]? = some (.im (.tuple [sD m.2, ctD (cutN τ rs m.2), ctD (cutN τ rs' m.2)])) → EvE c (tOp (rIxT K) (tVar 4) (tC (.int 0))) env (sD m.2) := fun h => ev_op (ev_var h) ev_int (rv_ixT (ix_of (j := 0) rfl rfl))
      have f2 : ∀ {env : List Sl}, env[4]? = some (.im (.tuple [sD m.2, ctD (cutN τ rs m.2), ctD (cutN τ rs' m.2)])) → EvE c (tOp (rIxT K) (tVar 4) (tC (.int 1))) env (ctD (cutN τ rs m.2)) := fun h => ev_op (ev_var h) ev_int (rv_ixT (ix_of (j := 1) rfl rfl))
      have f3 : ∀ {env : List Sl}, env[4]? = some (.im (.tuple [sD m.2, ctD (cutN τ rs m.2), ctD (cutN τ rs' m.2)])) → EvE c (tOp (rIxT K) (tVar 4) (tC (.int 2))) env (ctD (cutN τ rs' m.2)) := fun h => ev_op (ev_var h) ev_int (rv_ixT (ix_of (j := 2) rfl rfl))
      refine rs_seq (rs_ifF (eb_is (eb_or (eb_test (ev_op (f2 rfl) (f3 rfl) (rv_eqD (ct_shaped p1) (ct_shaped p2)))) fun _ => eb_not (eb_tru (b := true) (ev_call (ea_3 (ev_var rfl) (f2 rfl) (f3 rfl)) ⟨nm, _, _, rfl, p1, p2, by rw [hps]⟩))) ?_) (rs_next ?_))
      · rw [eqv_ct, decide_eq_false hc]; rfl
      refine rs_ifF (eb_is (eb_or (eb_test (ev_op (ev_callX (d := ctD (cutN τ rs m.2)) (ea_2 (ev_var rfl) (f1 rfl)) ⟨τ, rs, m.2, rfl, hb, hw, fun z => hB z, fun _ => nc_ct _ _⟩) (f2 rfl) (rv_neD (ct_shaped p1) (ct_shaped p1)))) fun _ => eb_test (ev_op (ev_callX (d := ctD (cutN τ rs' m.2)) (ea_2 (ev_var rfl) (f1 rfl)) ⟨τ, rs', m.2, rfl, hb', hw, fun z => hB' z, fun _ => nc_ct _ _⟩) (f3 rfl) (rv_neD (ct_shaped p2) (ct_shaped p2)))) ?_) (rs_next ⟨_, _, _, _, _, _, _, rfl, ?_⟩)
      · rw [eqv_ct, eqv_ct, decide_eq_true rfl, decide_eq_true rfl]; rfl
      · intro w2 hw2
        rcases List.mem_append.mp hw2 with h | h
        · exact hW w2 h
        · simp only [List.mem_singleton] at h
          subst h
          exact ⟨hw.nd, fun k hk => hw.s k (List.mem_of_mem_take hk), by rw [List.length_take]; omega⟩
    · rintro _ ⟨V, x6, x7, x8, x9, x10, x11, rfl, hV⟩
      refine rs_seq (rs_for (ds := V.map sD) (ei_list (ev_var rfl)) (fun i e => ∃ (x6 x7 x8 x9 x10 x11 : Sl), e = [.im (bkD τ (shR rs)), .im (bkD τ (shR rs')), .im (.str nm), .im (.list (W.map sD)), .im fd, .im (.list (V.map sD)), x6, x7, x8, x9, x10, x11]) ⟨_, _, _, _, _, _, rfl⟩ ?hs ?hd)
      case hs =>
        rintro i d _ hi ⟨y6, y7, y8, y9, y10, y11, rfl⟩
        obtain ⟨v, hv, rfl⟩ := get_map hi
        have hw := hV v (List.mem_of_getElem? hv)
        have p1 := cutN_ok hb hB hw
        have p2 := cutN_ok hb' hB' hw
        have hps := L.a v hw
        have hsm : isN fd = true → cutN τ rs v = cutN τ rs' v := fun h => hsame h v hw
        refine ⟨_, _, eg_name, rs_seq (rs_asg (d := ctD (cutN τ rs v)) (ev_callX (ea_2 (ev_var rfl) (ev_var rfl)) ⟨τ, rs, v, rfl, hb, hw, fun z => hB z, fun _ => nc_ct _ _⟩) (rs_seq (rs_asg (d := ctD (cutN τ rs' v)) (ev_callX (ea_2 (ev_var rfl) (ev_var rfl)) ⟨τ, rs', v, rfl, hb', hw, fun z => hB' z, fun _ => nc_ct _ _⟩) ?_)))⟩
        have p3 := cutN_len hb' hB' hw
        generalize cutN τ rs v = c1 at p1 hps hsm
        generalize cutN τ rs' v = c2 at p2 p3 hps hsm
        refine rs_seq (rs_ifF (eb_is (eb_or (eb_not (eb_tru (b := true) (ev_call (ea_3 (ev_var rfl) (ev_var rfl) (ev_var rfl)) ⟨nm, c1, c2, rfl, p1, p2, by rw [hps]⟩))) fun _ => eb_and (eb_test (ev_op (ev_var rfl) (ev_var rfl) (rv_neD (ct_shaped p1) (ct_shaped p2)))) fun _ => eb_B (ev_isN (ev_var rfl))) ?_) (rs_next ?_))
        · rw [eqv_ct]
          by_cases e : c1 = c2
          · rw [decide_eq_true e]; rfl
          · cases hN : isN fd with
            | true => exact absurd (hsm hN) e
            | false => rw [decide_eq_false e]; rfl
        refine rs_ifF (eb_is (eb_and (eb_test (ev_op (ev_var rfl) (ev_var rfl) (rv_neD (ct_shaped p1) (ct_shaped p2)))) fun _ => eb_test (ev_op (ev_compF (l := c2.1) (g0 := qcD) (js := [9, 10, 11]) (ei_list (ev_op (ev_var rfl) ev_int (rv_ixT (d := .list (c2.1.map qcD)) (ix_of (j := 0) rfl rfl)))) (fun x => decide (x.1 = nm)) (fun _ => .int 1) ?_ (by decide) fun x hx => ⟨_, eg_tup (egs_cons eg_name (egs_cons eg_name (egs_cons eg_name egs_nil))) rfl, eb_test (ev_op (ev_var rfl) (ev_var rfl) rv_eqS), fun _ => ev_int⟩) (ev_lst ea_nil (by decide)) (rv_eqD (one_shaped _) shaped_nil))) ?_) (rs_next ⟨_, _, _, _, _, _, rfl⟩)
        · omega
        · rw [eqv_ct]
          by_cases e : c1 = c2
          · rw [decide_eq_true e]; rfl
          · obtain ⟨x, hx, hx2⟩ := ps_ne _ _ _ _ hps fun q => e (Prod.ext q.1 q.2)
            have hm : x ∈ c2.1.filter fun x => decide (x.1 = nm) := List.mem_filter.mpr ⟨hx, decide_eq_true hx2⟩
            cases hf : c2.1.filter fun x => decide (x.1 = nm) with
            | nil => rw [hf] at hm; cases hm
            | cons y l => simp [PyData.eqv, PyData.eqvAll]
      case hd =>
        rintro _ ⟨y6, y7, y8, y9, y10, y11, rfl⟩
        exact rs_ret ev_bl k
end
end Nr
set_option Elab.async false
set_option linter.all false
set_option maxRecDepth 100000
set_option maxHeartbeats 4000000
set_option pp.maxSteps 700
namespace Nr
open PySem PySem.Spec PyProof.Rows L2
def sgL : List Nat := sg_all.cps.toList
theorem sgL_eq : sD sgL = .str sg_all := by unfold sgL; simp
theorem sgL_nd : sgL.Nodup := by decide +kernel
theorem sgL_len : 3 ≤ sgL.length ∧ sgL.length ≤ 1000 := by decide +kernel
theorem sgL_mem : ∀ k ∈ sgL, k ∈ str_SIGNS.cps.toList := by decide +kernel
def insR (rs : List (Str × Sh)) (a : Nat) (r : Str × Sh) : List (Str × Sh) := rs.take a ++ [r] ++ rs.drop a
theorem ins_perm (rs : List (Str × Sh)) (a : Nat) (r : Str × Sh) : (insR rs a r).Perm (r :: rs) := by
  unfold insR
  rw [List.append_assoc]
  refine List.perm_middle.trans ?_
  show (List.cons r (rs.take a ++ rs.drop a)).Perm _
  rw [List.take_append_drop]
theorem wts_perm {l l' : List Sh} (h : l.Perm l') : wts l = wts l' := by
  rw [wts_map, wts_map]
  exact (h.map Sh.wt).sum_nat
theorem ins_ok {τ : List Nat} {rs : List (Str × Sh)} {r : Str × Sh} (hb : BookOk τ rs) (hr : RuleOk τ r) (hl : rs.length ≤ 5) (hn : r.1 ∉ rs.map (·.1)) (hw : wts (shX rs) + r.2.wt ≤ 10) (a : Nat) : BookOk τ (insR rs a r) := by
  have p := ins_perm rs a r
  refine ⟨hb.t, ?_, ?_, fun x hx => ?_, ?_⟩
  · rw [p.length_eq, List.length_cons]; omega
  · refine (p.map (·.1)).nodup_iff.mpr ?_
    exact List.nodup_cons.mpr ⟨hn, hb.nd⟩
  · rcases List.mem_cons.mp (p.mem_iff.mp hx) with rfl | h
    · exact hr
    · exact hb.r x h
  · rw [wts_perm (p.map (·.2))]
    show r.2.wt + wts (shX rs) ≤ 10
    omega
end Nr
set_option Elab.async false
set_option linter.all false
set_option maxRecDepth 100000
set_option maxHeartbeats 4000000
set_option pp.maxSteps 700
namespace Nr
open PySem PySem.Spec PyProof.Rows L2
/-! ### bits -/
theorem gd_mem {α : Type} {l : List α} {d : α} {p : Nat} (h : p < l.length) : l.getD p d ∈ l := by
  rw [List.getD_eq_getElem?_getD, List.getElem?_eq_getElem h]; exact List.getElem_mem h
theorem bitAt_tb (c p : Nat) : bitAt c p = c.testBit p := by
  unfold bitAt
  rw [Nat.testBit_eq_decide_div_mod_eq, Nat.shiftRight_eq_div_pow, Nat.and_one_is_mod]
  refine decide_eq_decide.mpr ?_
  omega
theorem tb_lt {c p : Nat} (h : c.testBit p = true) : p < ibits c := by
  have hne : c ≠ 0 := fun z => by subst z; simp at h
  have h1 : ibits c = c.log2 + 1 := by
    show (if ((c : Int) == 0) = true then 0 else (c : Int).natAbs.log2 + 1) = _
    rw [if_neg (by simpa using hne), Int.natAbs_natCast]
  rw [h1]
  have h2 : 2 ^ p ≤ c := Nat.ge_two_pow_of_testBit h
  have := (Nat.le_log2 hne).mpr h2
  omega
theorem plc_mem {c p : Nat} : p ∈ plc c ↔ c.testBit p = true := by
  unfold plc
  rw [List.mem_filter, List.mem_range, bitAt_tb]
  exact ⟨fun h => h.2, fun h => ⟨tb_lt h, h⟩⟩
theorem orBits_tb (p : Nat) : ∀ (ps : List Nat) (a : Nat), (ps.foldl (fun t p => t ||| 2 ^ p) a).testBit p = true ↔ a.testBit p = true ∨ p ∈ ps
  | [], a => by simp
  | q :: ps, a => by
    rw [List.foldl_cons, orBits_tb p ps, Nat.testBit_or, Bool.or_eq_true, Nat.testBit_two_pow, List.mem_cons, decide_eq_true_eq, or_assoc]
    constructor
    · rintro (h | h | h)
      · exact Or.inl h
      · exact Or.inr (Or.inl h.symm)
      · exact Or.inr (Or.inr h)
    · rintro (h | h | h)
      · exact Or.inl h
      · exact Or.inr (Or.inl h.symm)
      · exact Or.inr (Or.inr h)
theorem orB {ps : List Nat} {p : Nat} : (orBits ps).testBit p = true ↔ p ∈ ps := by
  unfold orBits
  rw [orBits_tb]
  simp
theorem beh_tb (nb : List Nat) (p : Nat) : ∀ (qs : List Nat) (a : Nat), (qs.foldl (fun t p => t ||| nb.getD p 0) a).testBit p = true ↔ a.testBit p = true ∨ ∃ q ∈ qs, (nb.getD q 0).testBit p = true
  | [], a => by simp
  | q :: ps, a => by
    rw [List.foldl_cons, beh_tb nb p ps, Nat.testBit_or, Bool.or_eq_true, or_assoc]
    simp
theorem nb_get (nexts : List (List Nat)) (q : Nat) : (nexts.map orBits).getD q 0 = orBits (nexts.getD q []) := by
  rw [List.getD_eq_getElem?_getD, List.getD_eq_getElem?_getD, List.getElem?_map]
  cases nexts[q]? <;> rfl
theorem behM_tb {nexts : List (List Nat)} {c p : Nat} : (behM (nexts.map orBits) c).testBit p = true ↔ ∃ q, c.testBit q = true ∧ p ∈ nexts.getD q [] := by
  unfold behM
  rw [beh_tb]
  constructor
  · rintro (h | ⟨q, h1, h2⟩)
    · simp at h
    · rw [nb_get, orB] at h2
      exact ⟨q, plc_mem.mp h1, h2⟩
  · rintro ⟨q, h1, h2⟩
    refine Or.inr ⟨q, plc_mem.mpr h1, ?_⟩
    rw [nb_get, orB]; exact h2
theorem bearM_tb {signs : List (List Nat)} {k p : Nat} : (bearM signs k).testBit p = true ↔ k ∈ signs.getD p [] := by
  unfold bearM
  rw [orB, List.mem_map]
  constructor
  · rintro ⟨⟨s, i⟩, h, rfl⟩
    obtain ⟨h1, h2⟩ := List.mem_filter.mp h
    have h3 := List.mem_zipIdx_iff_getElem?.mp h1
    rw [List.getD_eq_getElem?_getD, h3]
    exact of_decide_eq_true h2
  · intro h
    rw [List.getD_eq_getElem?_getD] at h
    cases h2 : signs[p]? with
    | none => rw [h2] at h; simp at h
    | some s =>
      rw [h2] at h
      exact ⟨(s, p), List.mem_filter.mpr ⟨List.mem_zipIdx_iff_getElem?.mpr h2, decide_eq_true h⟩, rfl⟩
/-- what a word reaches -/
def stepS (signs nexts : List (List Nat)) (S : Nat → Prop) (k : Nat) : Nat → Prop := fun p => (∃ q, S q ∧ p ∈ nexts.getD q []) ∧ k ∈ signs.getD p []
def Rch (signs nexts : List (List Nat)) (w : List Nat) : Nat → Prop := w.foldl (stepS signs nexts) fun p => p = 0
theorem rch_snoc (signs nexts : List (List Nat)) (w : List Nat) (k : Nat) : Rch signs nexts (w ++ [k]) = stepS signs nexts (Rch signs nexts w) k := by
  unfold Rch
  rw [List.foldl_append]
  rfl
theorem snoc_ind {C : List Nat → Prop} (h0 : C []) (h1 : ∀ w k, C w → C (w ++ [k])) (w : List Nat) : C w := by
  rw [← List.reverse_reverse w]
  induction w.reverse with
  | nil => exact h0
  | cons k u ih => rw [List.reverse_cons]; exact h1 _ _ ih
theorem crowd_tb (s : Spr) (w : List Nat) : ∀ p, (crowdC s w).testBit p = true ↔ Rch s.signs s.nexts w p := by
  refine snoc_ind (C := fun w => ∀ p, (crowdC s w).testBit p = true ↔ Rch s.signs s.nexts w p) ?_ ?_ w
  · intro p
    show (1 : Nat).testBit p = true ↔ p = 0
    rw [show (1 : Nat) = 2 ^ 0 from rfl, Nat.testBit_two_pow, decide_eq_true_eq]
    exact ⟨fun h => h.symm, fun h => h.symm⟩
  · intro w k ih p
    have e : crowdC s (w ++ [k]) = behM (s.nexts.map orBits) (crowdC s w) &&& bearM s.signs k := by
      unfold crowdC
      rw [List.foldl_append]
      rfl
    rw [e, rch_snoc, Nat.testBit_and, Bool.and_eq_true, behM_tb, bearM_tb]
    show _ ↔ (∃ q, Rch s.signs s.nexts w q ∧ p ∈ s.nexts.getD q []) ∧ k ∈ s.signs.getD p []
    refine and_congr ?_ Iff.rfl
    exact exists_congr fun q => and_congr (ih q) Iff.rfl
theorem and_ne {a b : Nat} : a &&& b ≠ 0 ↔ ∃ p, a.testBit p = true ∧ b.testBit p = true := by
  constructor
  · intro h
    obtain ⟨p, hp⟩ := Nat.exists_testBit_of_ne_zero h
    rw [Nat.testBit_and, Bool.and_eq_true] at hp
    exact ⟨p, hp⟩
  · rintro ⟨p, h1, h2⟩ z
    have : (a &&& b).testBit p = true := by rw [Nat.testBit_and, h1, h2]; rfl
    rw [z] at this
    simp at this
/-- a word is taken by the owner i -/
def AccB (s : Spr) (i : Nat) (w : List Nat) : Prop := ∃ p, Rch s.signs s.nexts w p ∧ p ∈ s.lasts ∧ s.owners.getD p 0 = (i : Int)
theorem own_kind {s : Spr} {m : Nat} (ok : s.Ok m) (w : List Nat) : (∀ i : Nat, ownOf (ownEnds s.owners s.lasts m) (crowdC s w) = (i : Int) ↔ AccB s i w ∧ ∀ j, j < i → ¬ AccB s j w) ∧ (ownOf (ownEnds s.owners s.lasts m) (crowdC s w) = -1 ↔ ∀ i, ¬ AccB s i w) := by
  have hacc : ∀ i, AccB s i w → i < m := fun i ⟨p, _, h2, h3⟩ => by
    have hp := ok.l p h2
    have ho := ok.o
    have := ok.mx (i : Int) (by rw [← h3]; exact gd_mem (by omega))
    omega
  have hbit : ∀ i, i < m → (crowdC s w &&& (ownEnds s.owners s.lasts m).getD i 0 ≠ 0 ↔ AccB s i w) := fun i hi => by
    have e : (ownEnds s.owners s.lasts m).getD i 0 = orBits (s.lasts.filter fun p => decide (s.owners.getD p 0 = ((i : Nat) : Int))) := by
      unfold ownEnds
      rw [List.getD_eq_getElem?_getD, List.getElem?_map, List.getElem?_range hi]
      rfl
    rw [e, and_ne]
    constructor
    · rintro ⟨p, h1, h2⟩
      rw [orB, List.mem_filter] at h2
      exact ⟨p, (crowd_tb s w p).mp h1, h2.1, of_decide_eq_true h2.2⟩
    · rintro ⟨p, h1, h2, h3⟩
      exact ⟨p, (crowd_tb s w p).mpr h1, by rw [orB, List.mem_filter]; exact ⟨h2, decide_eq_true h3⟩⟩
  have hlen : (ownEnds s.owners s.lasts m).length = m := by unfold ownEnds; rw [List.length_map, List.length_range]
  have get : ∀ i (hi : i < (ownEnds s.owners s.lasts m).length), (ownEnds s.owners s.lasts m)[i] = (ownEnds s.owners s.lasts m).getD i 0 := fun i hi => by
    rw [List.getD_eq_getElem?_getD, List.getElem?_eq_getElem hi]; rfl
  unfold ownOf
  cases h : (ownEnds s.owners s.lasts m).findIdx? (fun b => decide (crowdC s w &&& b ≠ 0)) with
  | none =>
    have hn : ∀ i, ¬ AccB s i w := fun i ha => by
      have hi := hacc i ha
      have := List.findIdx?_eq_none_iff.mp h _ (List.getElem_mem (by omega : i < (ownEnds s.owners s.lasts m).length))
      rw [get] at this
      exact absurd ((hbit i hi).mpr ha) (of_decide_eq_false this)
    refine ⟨fun i => ⟨fun z => ?_, fun z => (hn i z.1).elim⟩, ⟨fun _ => hn, fun _ => rfl⟩⟩
    have z : (-1 : Int) = (i : Int) := z
    omega
  | some r =>
    obtain ⟨h1, h2, h3⟩ := List.findIdx?_eq_some_iff_getElem.mp h
    rw [get] at h2
    have hr : r < m := by omega
    have ar : AccB s r w := (hbit r hr).mp (of_decide_eq_true h2)
    have lo : ∀ j, j < r → ¬ AccB s j w := fun j hj ha => by
      have := h3 j hj
      rw [get] at this
      exact absurd ((hbit j (by omega)).mpr ha) (by simpa using this)
    refine ⟨fun i => ⟨fun z => ?_, fun z => ?_⟩, ⟨fun z => ?_, fun z => (z r ar).elim⟩⟩
    · have z : (r : Int) = (i : Int) := z
      have : r = i := by omega
      subst this
      exact ⟨ar, lo⟩
    · show (r : Int) = (i : Int)
      rcases Nat.lt_trichotomy r i with q | q | q
      · exact (z.2 r q ar).elim
      · omega
      · exact (lo i q z.1).elim
    · have z : (r : Int) = -1 := z
      omega
end Nr
set_option Elab.async false
set_option linter.all false
set_option maxRecDepth 100000
set_option maxHeartbeats 4000000
set_option pp.maxSteps 700
namespace Nr
open PySem PySem.Spec PyProof.Rows L2
/-! ### a book is its rules side by side -/
def AccD (d : Spd) (w : List Nat) : Prop := ∃ q, 1 ≤ q ∧ Rch d.marks d.nexts w q ∧ q ∈ d.lasts
theorem rch_sn (signs nexts : List (List Nat)) (w : List Nat) (k p : Nat) : Rch signs nexts (w ++ [k]) p ↔ (∃ q, Rch signs nexts w q ∧ p ∈ nexts.getD q []) ∧ k ∈ signs.getD p [] := by rw [rch_snoc]; rfl
theorem gd_l {α : Type} {l t : List α} {d : α} {p : Nat} (h : p < l.length) : (l ++ t).getD p d = l.getD p d := by
  rw [List.getD_eq_getElem?_getD, List.getElem?_append_left h, List.getD_eq_getElem?_getD]
theorem gd_r {α : Type} {l t : List α} {d : α} {W q : Nat} (hl : l.length = W + 1) (hq : 1 ≤ q) : (l ++ t.drop 1).getD (W + q) d = t.getD q d := by
  rw [List.getD_eq_getElem?_getD, List.getElem?_append_right (by omega), List.getElem?_drop, List.getD_eq_getElem?_getD]
  congr 2
  omega
theorem gd_map {α β : Type} {f : α → β} {l : List α} {d : α} {p : Nat} : (l.map f).getD p (f d) = f (l.getD p d) := by
  rw [List.getD_eq_getElem?_getD, List.getD_eq_getElem?_getD, List.getElem?_map]
  cases l[p]? <;> rfl
theorem gd_out {α : Type} {l : List α} {d : α} {p : Nat} (h : l.length ≤ p) : l.getD p d = d := by
  rw [List.getD_eq_getElem?_getD, List.getElem?_eq_none h]; rfl
theorem gd_row {l : List (List Nat)} {p x : Nat} (h : x ∈ l.getD p []) : l.getD p [] ∈ l := by
  by_cases q : p < l.length
  · rw [List.getD_eq_getElem?_getD, List.getElem?_eq_getElem q]
    exact List.getElem_mem q
  · rw [gd_out (by omega)] at h
    cases h
section
variable {b : Spr} {W k v : Nat} {d : Spd}
theorem bs_e0 (hb : BsOk b W k) : (bsStep b k d).nexts.getD 0 [] = b.nexts.getD 0 [] ++ (d.nexts.getD 0 []).map fun x => W + x := by
  have e1 := hb.n
  have e2 := hb.s
  show ((b.nexts.set 0 _) ++ _).getD 0 [] = _
  rw [gd_l (by rw [List.length_set]; omega), List.getD_eq_getElem?_getD, List.getElem?_set_self (by omega), e2]
  rfl
theorem bs_e1 (hb : BsOk b W k) {q : Nat} (h1 : 1 ≤ q) (h2 : q ≤ W) : (bsStep b k d).nexts.getD q [] = b.nexts.getD q [] := by
  have e1 := hb.n
  show ((b.nexts.set 0 _) ++ _).getD q [] = _
  rw [gd_l (by rw [List.length_set]; omega), List.getD_eq_getElem?_getD, List.getElem?_set_ne (by omega), List.getD_eq_getElem?_getD]
theorem bs_e2 (hb : BsOk b W k) {q : Nat} (h1 : 1 ≤ q) : (bsStep b k d).nexts.getD (W + q) [] = (d.nexts.getD q []).map fun x => W + x := by
  have e1 := hb.n
  have e2 := hb.s
  show ((b.nexts.set 0 _) ++ (d.nexts.drop 1).map _).getD (W + q) [] = _
  rw [← List.map_drop.symm, gd_r (by rw [List.length_set]; omega) h1, e2]
  exact gd_map (f := fun r : List Nat => r.map fun x => W + x) (d := [])
theorem bs_rch (hb : BsOk b W k) (hd : d.Ok v) (h0 : b.signs.getD 0 [] = []) (w : List Nat) : (∀ p, p ≤ W → (Rch (bsStep b k d).signs (bsStep b k d).nexts w p ↔ Rch b.signs b.nexts w p)) ∧ (∀ q, 1 ≤ q → (Rch (bsStep b k d).signs (bsStep b k d).nexts w (W + q) ↔ Rch d.marks d.nexts w q)) ∧ (Rch b.signs b.nexts w 0 ↔ w = []) ∧ (Rch d.marks d.nexts w 0 ↔ w = []) := by
  have e1 := hb.n
  have e2 := hb.s
  have bn : ∀ q x, x ∈ b.nexts.getD q [] → x ≤ W := fun q x hx => by
    have := (hb.r _ (gd_row hx)).2 x hx
    omega
  have dn : ∀ q x, x ∈ d.nexts.getD q [] → 1 ≤ x := fun q x hx => ((hd.r _ (gd_row hx)).2 x hx).1
  refine snoc_ind (C := fun w => (∀ p, p ≤ W → (Rch (bsStep b k d).signs (bsStep b k d).nexts w p ↔ Rch b.signs b.nexts w p)) ∧ (∀ q, 1 ≤ q → (Rch (bsStep b k d).signs (bsStep b k d).nexts w (W + q) ↔ Rch d.marks d.nexts w q)) ∧ (Rch b.signs b.nexts w 0 ↔ w = []) ∧ (Rch d.marks d.nexts w 0 ↔ w = [])) ?_ ?_ w
  · refine ⟨fun p _ => Iff.rfl, fun q hq => ?_, ⟨fun _ => rfl, fun _ => rfl⟩, ⟨fun _ => rfl, fun _ => rfl⟩⟩
    show W + q = 0 ↔ q = 0
    omega
  · rintro w s ⟨i1, i2, i3, i4⟩
    have ne : w ++ [s] ≠ [] := by simp
    refine ⟨fun p hp => ?_, fun q hq => ?_, ⟨fun h => ?_, fun h => absurd h ne⟩, ⟨fun h => ?_, fun h => absurd h ne⟩⟩
    · rw [rch_sn, rch_sn]
      have es : (bsStep b k d).signs.getD p [] = b.signs.getD p [] := gd_l (by omega)
      rw [es]
      refine and_congr ⟨?_, ?_⟩ Iff.rfl
      · rintro ⟨q, h1, h2⟩
        by_cases hq : q ≤ W
        · refine ⟨q, (i1 q hq).mp h1, ?_⟩
          by_cases z : q = 0
          · subst z
            rw [bs_e0 hb] at h2
            rcases List.mem_append.mp h2 with h2 | h2
            · exact h2
            · obtain ⟨x, hx, hx2⟩ := List.mem_map.mp h2
              have := dn 0 x hx
              omega
          · rw [bs_e1 hb (by omega) hq] at h2
            exact h2
        · obtain ⟨q', rfl⟩ : ∃ q', q = W + q' := ⟨q - W, by omega⟩
          rw [bs_e2 hb (by omega)] at h2
          obtain ⟨x, hx, hx2⟩ := List.mem_map.mp h2
          have := dn q' x hx
          omega
      · rintro ⟨q, h1, h2⟩
        by_cases hq : q ≤ W
        · refine ⟨q, (i1 q hq).mpr h1, ?_⟩
          by_cases z : q = 0
          · subst z
            rw [bs_e0 hb]
            exact List.mem_append_left _ h2
          · rw [bs_e1 hb (by omega) hq]
            exact h2
        · rw [gd_out (by omega)] at h2
          cases h2
    · rw [rch_sn, rch_sn]
      have es : (bsStep b k d).signs.getD (W + q) [] = d.marks.getD q [] := gd_r e2 hq
      rw [es]
      refine and_congr ⟨?_, ?_⟩ Iff.rfl
      · rintro ⟨r, h1, h2⟩
        by_cases hr : r ≤ W
        · by_cases z : r = 0
          · subst z
            refine ⟨0, i4.mpr (i3.mp ((i1 0 hr).mp h1)), ?_⟩
            rw [bs_e0 hb] at h2
            rcases List.mem_append.mp h2 with h2 | h2
            · have := bn 0 _ h2
              omega
            · obtain ⟨x, hx, hx2⟩ := List.mem_map.mp h2
              have e : x = q := by omega
              rw [← e]; exact hx
          · rw [bs_e1 hb (by omega) hr] at h2
            have := bn r _ h2
            omega
        · obtain ⟨r', rfl⟩ : ∃ r', r = W + r' := ⟨r - W, by omega⟩
          rw [bs_e2 hb (by omega)] at h2
          obtain ⟨x, hx, hx2⟩ := List.mem_map.mp h2
          have e : x = q := by omega
          exact ⟨r', (i2 r' (by omega)).mp h1, by rw [← e]; exact hx⟩
      · rintro ⟨r, h1, h2⟩
        by_cases z : r = 0
        · subst z
          refine ⟨0, (i1 0 (by omega)).mpr (i3.mpr (i4.mp h1)), ?_⟩
          rw [bs_e0 hb]
          exact List.mem_append_right _ (List.mem_map.mpr ⟨q, h2, rfl⟩)
        · refine ⟨W + r, (i2 r (by omega)).mpr h1, ?_⟩
          rw [bs_e2 hb (by omega)]
          exact List.mem_map.mpr ⟨q, h2, rfl⟩
    · have := ((rch_sn _ _ _ _ _).mp h).2
      rw [h0] at this
      cases this
    · obtain ⟨⟨q, _, h2⟩, _⟩ := (rch_sn _ _ _ _ _).mp h
      have := dn q 0 h2
      omega
structure Bs0 (b : Spr) : Prop where
  s : b.signs.getD 0 [] = []
  o : b.owners.getD 0 0 = -1
theorem bs_z (hb : BsOk b W k) (z : Bs0 b) : Bs0 (bsStep b k d) := by
  have e2 := hb.s
  have e3 := hb.o
  refine ⟨?_, ?_⟩
  · show (b.signs ++ _).getD 0 [] = []
    rw [gd_l (by omega)]; exact z.s
  · show (b.owners ++ _).getD 0 0 = -1
    rw [gd_l (by omega)]; exact z.o
theorem bs_acc (hb : BsOk b W k) (hd : d.Ok v) (z : Bs0 b) (i : Nat) (w : List Nat) : AccB (bsStep b k d) i w ↔ AccB b i w ∨ (i = k ∧ AccD d w) := by
  have e2 := hb.s
  have e3 := hb.o
  have dm := hd.m
  obtain ⟨r1, r2, _, _⟩ := bs_rch hb hd z.s w
  have o1 : ∀ p, p ≤ W → (bsStep b k d).owners.getD p 0 = b.owners.getD p 0 := fun p hp => gd_l (by omega)
  have o2 : ∀ q, 1 ≤ q → q ≤ v → (bsStep b k d).owners.getD (W + q) 0 = (k : Int) := fun q hq hv => by
    show (b.owners ++ (d.marks.drop 1).map _).getD (W + q) 0 = _
    rw [List.getD_eq_getElem?_getD, List.getElem?_append_right (by omega), List.getElem?_map, List.getElem?_drop, List.getElem?_eq_getElem (by omega)]
    rfl
  constructor
  · rintro ⟨p, h1, h2, h3⟩
    rcases List.mem_append.mp (show p ∈ b.lasts ++ d.lasts.map _ from h2) with h2 | h2
    · have := hb.l p h2
      exact Or.inl ⟨p, (r1 p (by omega)).mp h1, h2, by rw [← o1 p (by omega)]; exact h3⟩
    · obtain ⟨q, hq, rfl⟩ := List.mem_map.mp h2
      have hq2 := hd.l q hq
      by_cases hz : 0 < q
      · rw [if_pos hz, e2] at h1 h3
        have e : W + 1 - 1 + q = W + q := by omega
        rw [e] at h1 h3
        rw [o2 q hz (by omega)] at h3
        exact Or.inr ⟨by omega, q, hz, (r2 q hz).mp h1, hq⟩
      · rw [if_neg hz, o1 0 (by omega), z.o] at h3
        omega
  · rintro (⟨p, h1, h2, h3⟩ | ⟨rfl, q, h1, h2, h3⟩)
    · have := hb.l p h2
      exact ⟨p, (r1 p (by omega)).mpr h1, List.mem_append_left _ h2, by rw [o1 p (by omega)]; exact h3⟩
    · have := hd.l q h3
      refine ⟨W + q, (r2 q h1).mpr h2, List.mem_append_right _ (List.mem_map.mpr ⟨q, h3, ?_⟩), o2 q h1 (by omega)⟩
      rw [if_pos (by omega), e2]
      omega
end
theorem fold_acc : ∀ (l : List Sh) (k W : Nat) (b : Spr), BsOk b W k → Bs0 b → wts l ≤ 60 → ∀ (i : Nat) (w : List Nat), AccB (bsFold k l b) i w ↔ AccB b i w ∨ ∃ j s, i = k + j ∧ l[j]? = some s ∧ AccD (spM s) w
  | [], k, W, b, hb, z, hw, i, w => by
    show AccB b i w ↔ _
    simp
  | s :: l, k, W, b, hb, z, hw, i, w => by
    have hw : s.wt + wts l ≤ 60 := hw
    have hd := spM_ok (s := s) (by omega)
    show AccB (bsFold (k + 1) l (bsStep b k (spM s))) i w ↔ _
    rw [fold_acc l (k + 1) (W + s.wt) _ (bsStep_ok hb hd (by omega)) (bs_z hb z) (by omega) i w, bs_acc hb hd z, or_assoc]
    refine or_congr Iff.rfl ⟨?_, ?_⟩
    · rintro (⟨rfl, h⟩ | ⟨j, t, rfl, h2, h3⟩)
      · exact ⟨0, s, rfl, rfl, h⟩
      · exact ⟨j + 1, t, by omega, h2, h3⟩
    · rintro ⟨j, t, rfl, h2, h3⟩
      cases j with
      | zero =>
        have h2 : some s = some t := h2
        cases h2
        exact Or.inl ⟨rfl, h3⟩
      | succ j => exact Or.inr ⟨j, t, by omega, h2, h3⟩
theorem book_acc {l : List Sh} (hw : wts l ≤ 60) (i : Nat) (w : List Nat) : AccB (bookM l) i w ↔ ∃ s, l[i]? = some s ∧ AccD (spM s) w := by
  have e : AccB (bookM l) i w ↔ AccB (bsFold 0 l bs0) i w := by
    refine exists_congr fun p => and_congr Iff.rfl (and_congr ?_ Iff.rfl)
    exact upN_mem
  rw [e, fold_acc l 0 0 bs0 bs0_ok ⟨rfl, rfl⟩ hw i w]
  constructor
  · rintro (⟨p, _, h, _⟩ | ⟨j, s, rfl, h2, h3⟩)
    · cases h
    · exact ⟨s, by rw [Nat.zero_add]; exact h2, h3⟩
  · rintro ⟨s, h2, h3⟩
    exact Or.inr ⟨i, s, by omega, h2, h3⟩
/-! ### the name of a word -/
open Classical in
noncomputable def accP (w : List Nat) (r : Str × Sh) : Bool := decide (AccD (spM r.2) w)
open Classical in
theorem accP_iff {w : List Nat} {r : Str × Sh} : accP w r = true ↔ AccD (spM r.2) w := by
  unfold accP
  exact decide_eq_true_iff
noncomputable def knW (rs : List (Str × Sh)) (w : List Nat) : Option Str := (rs.find? (accP w)).map (·.1)
theorem kn_eq {τ : List Nat} {rs : List (Str × Sh)} (hb : BookOk τ rs) (w : List Nat) : nkO (shR rs) (kindW (shX rs) w) = knW rs w := by
  obtain ⟨hw, hl, _⟩ := bk_tab hb
  obtain ⟨ok, _⟩ := book_m hw hl
  obtain ⟨o1, o2⟩ := own_kind ok w
  have acc : ∀ i, AccB (bookM (shX rs)) i w ↔ ∃ r, rs[i]? = some r ∧ accP w r = true := fun i => by
    rw [book_acc (by omega)]
    constructor
    · rintro ⟨s, h1, h2⟩
      obtain ⟨r, h3, rfl⟩ := get_map h1
      exact ⟨r, h3, accP_iff.mpr h2⟩
    · rintro ⟨r, h1, h2⟩
      exact ⟨r.2, get_map' h1, accP_iff.mp h2⟩
  unfold knW
  cases h : rs.find? (accP w) with
  | none =>
    have hn := List.find?_eq_none.mp h
    have e : kindW (shX rs) w = -1 := o2.mpr fun i hi => by
      obtain ⟨r, h1, h2⟩ := (acc i).mp hi
      exact hn r (List.mem_of_getElem? h1) h2
    rw [e]; rfl
  | some r =>
    obtain ⟨hp, i, hi, e1, e2⟩ := List.find?_eq_some_iff_getElem.mp h
    have hr : rs[i]? = some r := by rw [List.getElem?_eq_getElem hi, e1]
    have e : kindW (shX rs) w = (i : Int) := (o1 i).mpr ⟨(acc i).mpr ⟨r, hr, hp⟩, fun j hj ha => by
      obtain ⟨t, h1, h2⟩ := (acc j).mp ha
      have h3 := e2 j hj
      rw [List.getElem?_eq_getElem (by omega)] at h1
      cases h1
      rw [h2] at h3
      cases h3⟩
    rw [e]
    unfold nkO
    rw [if_neg (by omega)]
    unfold nmO
    show some ((shR rs).getD i _).1 = _
    rw [List.getD_eq_getElem?_getD, get_map' hr]
    rfl
theorem kn_mem {rs : List (Str × Sh)} {w : List Nat} {n : Str} (h : knW rs w = some n) : n ∈ rs.map (·.1) := by
  unfold knW at h
  cases e : rs.find? (accP w) with
  | none => rw [e] at h; cases h
  | some r =>
    rw [e] at h
    cases h
    exact List.mem_map.mpr ⟨r, List.mem_of_find?_eq_some e, rfl⟩
theorem kn_ins (rs : List (Str × Sh)) (a : Nat) (r : Str × Sh) (w : List Nat) : knW (insR rs a r) w = knW rs w ∨ knW (insR rs a r) w = some r.1 := by
  have e : knW rs w = knW (rs.take a ++ rs.drop a) w := by rw [List.take_append_drop]
  rw [e]
  unfold knW insR
  rw [List.find?_append, List.find?_append, List.find?_append]
  cases (rs.take a).find? (accP w) with
  | some x => exact Or.inl rfl
  | none =>
    cases q : accP w r with
    | true =>
      refine Or.inr ?_
      have : [r].find? (accP w) = some r := by rw [List.find?_cons, q]
      rw [this]; rfl
    | false =>
      refine Or.inl ?_
      have : [r].find? (accP w) = none := by rw [List.find?_cons, q]; rfl
      rw [this]; rfl
end Nr
set_option Elab.async false
set_option linter.all false
set_option maxRecDepth 100000
set_option maxHeartbeats 4000000
set_option pp.maxSteps 700
namespace Nr
open PySem PySem.Spec PyProof.Rows L2
/-! ### cuts by names, in plain -/
def lngF (f : List Nat → Option Str) (w : List Nat) (a : Nat) : Nat → Option (Str × Nat)
  | 0 => none
  | n + 1 => match f ((w.drop a).take (n + 1)) with
    | some x => some (x, a + n + 1)
    | none => lngF f w a n
def cutF (f : List Nat → Option Str) (w : List Nat) : Nat → Nat → List Pc × Nat
  | 0, a => ([], a)
  | n + 1, a => if a < w.length then match lngF f w a (w.length - a) with
    | none => ([], a)
    | some p => ((p.1, a, p.2) :: (cutF f w n p.2).1, (cutF f w n p.2).2) else ([], a)
theorem cutF_s (f : List Nat → Option Str) (w : List Nat) (n a : Nat) : cutF f w (n + 1) a = if a < w.length then match lngF f w a (w.length - a) with
    | none => ([], a)
    | some p => ((p.1, a, p.2) :: (cutF f w n p.2).1, (cutF f w n p.2).2) else ([], a) := rfl
theorem runT_snoc (b : Tbl) (τ w : List Nat) (k : Nat) : runT b τ (w ++ [k]) = b.go τ (runT b τ w) k := by
  unfold runT
  rw [List.foldl_append]; rfl
section
variable {b : Tbl} {τ w : List Nat} {R : List (Str × PyData)} {f : List Nat → Option Str}
theorem lng_run (hf : ∀ u, (∀ k ∈ u, k ∈ τ) → nkO R (b.kd (runT b τ u)) = f u) (hs : ∀ k ∈ w, k ∈ τ) (a : Nat) : ∀ n, a + n ≤ w.length →
    ((List.range n).foldl (fun s i => lngStep b τ w s (a + i)) (0, none)).1 = runT b τ ((w.drop a).take n) ∧ ((List.range n).foldl (fun s i => lngStep b τ w s (a + i)) (0, none)).2.map (fun p => (nmO R p.1, p.2)) = lngF f w a n := by
  intro n
  induction n with
  | zero => intro _; exact ⟨rfl, rfl⟩
  | succ n ih =>
    intro hn
    obtain ⟨h1, h2⟩ := ih (by omega)
    rw [List.range_succ, List.foldl_append]
    generalize (List.range n).foldl (fun s i => lngStep b τ w s (a + i)) (0, none) = st at h1 h2
    have hg : (w.drop a)[n]? = some (w.getD (a + n) 0) := by
      rw [List.getElem?_drop]; exact getD_some (by omega)
    have et : (w.drop a).take (n + 1) = (w.drop a).take n ++ [w.getD (a + n) 0] := take_one hg
    have er : b.go τ st.1 (w.getD (a + n) 0) = runT b τ ((w.drop a).take (n + 1)) := by
      rw [et, runT_snoc, h1]
    have hk := hf ((w.drop a).take (n + 1)) fun k hk => hs k (List.mem_of_mem_drop (List.mem_of_mem_take hk))
    show (lngStep b τ w st (a + n)).1 = _ ∧ (lngStep b τ w st (a + n)).2.map _ = _
    refine ⟨er, ?_⟩
    unfold lngStep
    rw [er]
    dsimp only
    show _ = lngF f w a (n + 1)
    unfold lngF
    rw [← hk]
    unfold nkO
    by_cases q : b.kd (runT b τ ((w.drop a).take (n + 1))) < 0
    · rw [if_pos q, if_neg (by omega)]
      exact h2
    · rw [if_neg q, if_pos (by omega)]
      rfl
theorem lngF_le {a : Nat} : ∀ {n : Nat} {p : Str × Nat}, lngF f w a n = some p → p.2 ≤ a + n := by
  intro n
  induction n with
  | zero => intro p h; cases h
  | succ n ih =>
    intro p h
    unfold lngF at h
    split at h
    · cases h
      show a + n + 1 ≤ a + (n + 1)
      omega
    · have := ih h
      omega
theorem lngF_nm {a : Nat} : ∀ {n : Nat} {p : Str × Nat}, lngF f w a n = some p → ∃ u, f u = some p.1 := by
  intro n
  induction n with
  | zero => intro p h; cases h
  | succ n ih =>
    intro p h
    unfold lngF at h
    split at h
    · rename_i x hx
      cases h
      exact ⟨_, hx⟩
    · exact ih h
theorem cut_run (hf : ∀ u, (∀ k ∈ u, k ∈ τ) → nkO R (b.kd (runT b τ u)) = f u) (hs : ∀ k ∈ w, k ∈ τ) : ∀ (n a : Nat) (ps : List (Int × Nat × Nat)), nmC R (cutFix b τ w n a ps) = (ps.map (fun p => (nmO R p.1, p.2)) ++ (cutF f w n a).1, (cutF f w n a).2) := by
  intro n
  induction n with
  | zero => intro a ps; show (ps.map _, a) = (ps.map _ ++ [], a); rw [List.append_nil]
  | succ n ih =>
    intro a ps
    unfold cutFix cutF
    by_cases q : a < w.length
    · rw [if_pos q, if_pos q]
      have h := (lng_run hf hs a (w.length - a) (by omega)).2
      have h : (lngM b τ w a).map (fun p => (nmO R p.1, p.2)) = lngF f w a (w.length - a) := h
      rw [← h]
      cases lngM b τ w a with
      | none => show (ps.map _, a) = (ps.map _ ++ [], a); rw [List.append_nil]
      | some p =>
        show nmC R (cutFix b τ w n p.2 (ps ++ [(p.1, a, p.2)])) = (ps.map _ ++ ((nmO R p.1, a, p.2) :: (cutF f w n p.2).1), (cutF f w n p.2).2)
        rw [ih, List.map_append, List.append_assoc]
        rfl
    · rw [if_neg q, if_neg q]
      show (ps.map _, a) = (ps.map _ ++ [], a); rw [List.append_nil]
end
section
variable {τ w : List Nat} {f f' : List Nat → Option Str} {nm : Str}
theorem lng_same (h : ∀ u, (∀ k ∈ u, k ∈ τ) → f u = f' u) (hs : ∀ k ∈ w, k ∈ τ) (a : Nat) : ∀ n, lngF f w a n = lngF f' w a n := by
  intro n
  induction n with
  | zero => rfl
  | succ n ih =>
    unfold lngF
    rw [h _ fun k hk => hs k (List.mem_of_mem_drop (List.mem_of_mem_take hk)), ih]
theorem cut_same (h : ∀ u, (∀ k ∈ u, k ∈ τ) → f u = f' u) (hs : ∀ k ∈ w, k ∈ τ) : ∀ n a, cutF f w n a = cutF f' w n a := by
  intro n
  induction n with
  | zero => intro a; rfl
  | succ n ih =>
    intro a
    unfold cutF
    rw [lng_same h hs]
    split
    · cases lngF f' w a (w.length - a) with
      | none => rfl
      | some p => show (_ :: (cutF f w n p.2).1, (cutF f w n p.2).2) = _; rw [ih]
    · rfl
theorem lng_rel (h : ∀ u, f' u = f u ∨ f' u = some nm) (a : Nat) : ∀ n, (∀ p, lngF f w a n = some p → ∃ p', lngF f' w a n = some p' ∧ (p' = p ∨ (p'.1 = nm ∧ p.2 ≤ p'.2))) ∧ (∀ p', lngF f w a n = none → lngF f' w a n = some p' → p'.1 = nm) := by
  intro n
  induction n with
  | zero => exact ⟨fun p z => (by cases z), fun p _ z => (by cases z)⟩
  | succ n ih =>
    obtain ⟨i1, i2⟩ := ih
    rcases h ((w.drop a).take (n + 1)) with e | e
    · unfold lngF
      rw [e]
      cases f ((w.drop a).take (n + 1)) with
      | none => exact ⟨i1, i2⟩
      | some x => exact ⟨fun p z => ⟨p, z, Or.inl rfl⟩, fun p z => (by cases z)⟩
    · have e2 : lngF f' w a (n + 1) = some (nm, a + n + 1) := by
        unfold lngF
        rw [e]
      rw [e2]
      exact ⟨fun p z => ⟨_, rfl, Or.inr ⟨rfl, by have := lngF_le z; show p.2 ≤ a + n + 1; omega⟩⟩, fun p _ z => by cases z; rfl⟩
theorem ps_rel (h : ∀ u, f' u = f u ∨ f' u = some nm) : ∀ n a, psM nm (cutF f w n a).1 (cutF f' w n a).1 (cutF f w n a).2 (cutF f' w n a).2 = true := by
  intro n
  induction n with
  | zero => intro a; exact decide_eq_true rfl
  | succ n ih =>
    intro a
    unfold cutF
    by_cases q : a < w.length
    · rw [if_pos q, if_pos q]
      obtain ⟨r1, r2⟩ := lng_rel (w := w) h a (w.length - a)
      cases e : lngF f w a (w.length - a) with
      | none =>
        cases e' : lngF f' w a (w.length - a) with
        | none => exact decide_eq_true rfl
        | some p' =>
          have := r2 p' e e'
          show (decide (p'.1 = nm) && decide (a = a)) = true
          rw [decide_eq_true this, decide_eq_true rfl]; rfl
      | some p =>
        obtain ⟨p', e', hp⟩ := r1 p e
        rw [e']
        show (if (p.1, a, p.2) = (p'.1, a, p'.2) then psM nm (cutF f w n p.2).1 (cutF f' w n p'.2).1 (cutF f w n p.2).2 (cutF f' w n p'.2).2 else (decide (p'.1 = nm) && (decide (a = a) && decide (p'.2 ≥ p.2)))) = true
        rcases hp with rfl | ⟨h1, h2⟩
        · rw [if_pos rfl]
          exact ih _
        · split
          · rename_i z
            simp only [Prod.mk.injEq] at z
            rw [z.2.2]
            exact ih _
          · rw [decide_eq_true h1, decide_eq_true rfl, decide_eq_true h2]; rfl
    · rw [if_neg q, if_neg q]
      exact decide_eq_true rfl
end
/-! ### the pairs of rooms -/
section
variable {a b : Tbl} {τ : List Nat}
theorem meetE_in (ms : List Meet) (m : Meet) : m.1 ∈ (meetE ms m).map (·.1) := by
  unfold meetE
  split
  · assumption
  · rw [List.map_append]
    exact List.mem_append_right _ (List.mem_singleton.mpr rfl)
theorem meetE_keep {ms : List Meet} {p : Nat × Nat} (m : Meet) (h : p ∈ ms.map (·.1)) : p ∈ (meetE ms m).map (·.1) := by
  obtain ⟨t, e⟩ := meetE_mem ms m
  rw [e, List.map_append]
  exact List.mem_append_left _ h
theorem meetF_keep {p : Nat × Nat} (l ms : List Meet) (h : p ∈ ms.map (·.1)) : p ∈ (l.foldl meetE ms).map (·.1) := by
  obtain ⟨t, e⟩ := meetF_pre l ms
  rw [e, List.map_append]
  exact List.mem_append_left _ h
theorem meetF_in : ∀ (l ms : List Meet), ∀ x ∈ l, x.1 ∈ (l.foldl meetE ms).map (·.1)
  | [], _, _, h => by cases h
  | y :: l, ms, x, h => by
    show x.1 ∈ (l.foldl meetE (meetE ms y)).map (·.1)
    rcases List.mem_cons.mp h with rfl | h
    · exact meetF_keep l _ (meetE_in ms x)
    · exact meetF_in l _ x h
theorem meetF_from : ∀ (l ms : List Meet), ∀ x ∈ l.foldl meetE ms, x ∈ ms ∨ x ∈ l
  | [], _, _, h => Or.inl h
  | y :: l, ms, x, h => by
    rcases meetF_from l (meetE ms y) x h with h | h
    · unfold meetE at h
      split at h
      · exact Or.inl h
      · rcases List.mem_append.mp h with h | h
        · exact Or.inl h
        · exact Or.inr (List.mem_cons.mpr (Or.inl (List.mem_singleton.mp h)))
    · exact Or.inr (List.mem_cons_of_mem _ h)
theorem tog_fix {na nb : Nat} (oa : a.Ok τ.length na) (ob : b.Ok τ.length nb) : ∀ (n i : Nat) (ms : List Meet), MeetOk a b τ ms → i ≤ ms.length → (∀ (j : Nat) m, j < i → ms[j]? = some m → ∀ x ∈ meetN a b τ m, x.1 ∈ ms.map (·.1)) → 1024 < n + i →
    (∃ t, togFix a b τ n i ms = ms ++ t) ∧ ∀ m ∈ togFix a b τ n i ms, ∀ x ∈ meetN a b τ m, x.1 ∈ (togFix a b τ n i ms).map (·.1) := by
  intro n
  induction n with
  | zero =>
    intro i ms ok hi _ hn
    have := ok.len oa.m ob.m
    omega
  | succ n ih =>
    intro i ms ok hi hc hn
    unfold togFix
    cases hm : ms[i]? with
    | none =>
      have hl := List.getElem?_eq_none_iff.mp hm
      refine ⟨⟨[], by show ms = ms ++ []; rw [List.append_nil]⟩, fun m hmm => ?_⟩
      have hmm : m ∈ ms := hmm
      obtain ⟨j, hj⟩ := List.mem_iff_getElem?.mp hmm
      have := (List.getElem?_eq_some_iff.mp hj).1
      exact hc j m (by omega) hj
    | some m =>
      have hil := (List.getElem?_eq_some_iff.mp hm).1
      have hN := meetN_ok oa ob ok (List.mem_of_getElem? hm)
      obtain ⟨u, eu⟩ := meetF_pre (meetN a b τ m) ms
      obtain ⟨⟨t, et⟩, h2⟩ := ih (i + 1) ((meetN a b τ m).foldl meetE ms) (ok.fold (n := ms.length) (Nat.le_refl _) hN) (by rw [eu, List.length_append]; omega) (fun j m' hj hm' x hx => by
        rw [eu, List.getElem?_append_left (by omega)] at hm'
        by_cases q : j < i
        · exact meetF_keep _ _ (hc j m' q hm' x hx)
        · have e : j = i := by omega
          rw [e, hm] at hm'
          cases hm'
          exact meetF_in _ _ x hx) (by omega)
      exact ⟨⟨u ++ t, by show togFix a b τ n (i + 1) _ = _; rw [et, eu, List.append_assoc]⟩, h2⟩
theorem tog_all {na nb : Nat} (oa : a.Ok τ.length na) (ob : b.Ok τ.length nb) (nd : τ.Nodup) (u : List Nat) : (∀ k ∈ u, k ∈ τ) → (runT a τ u, runT b τ u) ∈ (togM a b τ).map (·.1) := by
  obtain ⟨⟨t, et⟩, hc⟩ := tog_fix oa ob 1100 0 [((0, 0), [])] ⟨by simp, fun m hm => by simp only [List.mem_singleton] at hm; subst hm; exact ⟨oa.p, ob.p⟩, fun m hm => by simp only [List.mem_singleton] at hm; subst hm; exact Nat.zero_le _, fun m hm => by simp only [List.mem_singleton] at hm; subst hm; simp⟩ (Nat.zero_le _) (fun j m h => by omega) (by omega)
  refine snoc_ind (C := fun u => (∀ k ∈ u, k ∈ τ) → (runT a τ u, runT b τ u) ∈ (togM a b τ).map (·.1)) ?_ ?_ u
  · intro _
    show (0, 0) ∈ (togFix a b τ 1100 0 [((0, 0), [])]).map (·.1)
    rw [et]
    exact List.mem_cons_self
  · intro w k ih hs
    obtain ⟨m, hm, e⟩ := List.mem_map.mp (ih fun x hx => hs x (List.mem_append_left _ hx))
    have hk := hs k (List.mem_append_right _ (List.mem_singleton.mpr rfl))
    have hz : (k, τ.idxOf k) ∈ τ.zipIdx := by
      rw [List.mk_mem_zipIdx_iff_getElem?, List.getElem?_eq_getElem (List.idxOf_lt_length_of_mem hk)]
      simp
    have hx := hc m hm _ (List.mem_map.mpr ⟨_, hz, rfl⟩)
    rw [runT_snoc, runT_snoc]
    have e1 : m.1.1 = runT a τ w := congrArg Prod.fst e
    have e2 : m.1.2 = runT b τ w := congrArg Prod.snd e
    rw [← e1, ← e2]
    exact hx
theorem tog_said (nd : τ.Nodup) : ∀ (n i : Nat) (ms : List Meet), (∀ m ∈ ms, m.1 = (runT a τ m.2, runT b τ m.2)) → ∀ m ∈ togFix a b τ n i ms, m.1 = (runT a τ m.2, runT b τ m.2) := by
  intro n
  induction n with
  | zero => intro i ms h; exact h
  | succ n ih =>
    intro i ms h
    unfold togFix
    cases hm : ms[i]? with
    | none => exact h
    | some m =>
      refine ih (i + 1) _ fun x hx => ?_
      rcases meetF_from _ _ x hx with hx | hx
      · exact h x hx
      · obtain ⟨s, hs, rfl⟩ := List.mem_map.mp hx
        have hs := zip_mem hs
        have hl := (List.getElem?_eq_some_iff.mp hs)
        have e : τ.idxOf s.1 = s.2 := by
          obtain ⟨h1, h2⟩ := hl
          rw [← h2]
          exact List.Nodup.idxOf_getElem nd _ h1
        have e0 := h m (List.mem_of_getElem? hm)
        have e1 : m.1.1 = runT a τ m.2 := congrArg Prod.fst e0
        have e2 : m.1.2 = runT b τ m.2 := congrArg Prod.snd e0
        show (_, _) = (runT a τ (m.2 ++ [s.1]), runT b τ (m.2 ++ [s.1]))
        rw [runT_snoc, runT_snoc, ← e1, ← e2]
        unfold Tbl.go
        rw [e]
end
/-! ### the plain law -/
theorem plainL (τ : List Nat) (rs : List (Str × Sh)) (a : Nat) (r : Str × Sh) (hb : BookOk τ rs) (ha : a ≤ rs.length) (hb' : BookOk τ (insR rs a r)) (hB : ¬ Big τ (shX rs)) (hB' : ¬ Big τ (shX (insR rs a r))) : Law3 τ rs (insR rs a r) r.1 := by
  have kd : ∀ {rs : List (Str × Sh)}, BookOk τ rs → ¬ Big τ (shX rs) → ∀ u, (∀ k ∈ u, k ∈ τ) → nkO (shR rs) ((tabB τ (shX rs)).kd (runT (tabB τ (shX rs)) τ u)) = knW rs u := fun {rs} hb hB u hu => by
    obtain ⟨h1, h2, h3⟩ := bk_tab hb
    rw [(kd_tab h1 h2 h3 hB hu).1]
    exact kn_eq hb u
  have k1 := kd hb hB
  have k2 := kd hb' hB'
  have ct : ∀ {rs : List (Str × Sh)}, BookOk τ rs → ¬ Big τ (shX rs) → ∀ w, Wrd τ w → cutN τ rs w = cutF (knW rs) w (w.length + 1) 0 := fun {rs} hb hB w hw => by
    show nmC (shR rs) (cutFix (tabB τ (shX rs)) τ w (w.length + 1) 0 []) = _
    rw [cut_run (kd hb hB) hw.s]
    rfl
  have o1 := bk_tok hb hB
  have o2 := bk_tok hb' hB'
  have nin : r.1 ∉ rs.map (·.1) := by
    have := ((ins_perm rs a r).map (·.1)).nodup_iff.mp hb'.nd
    exact (List.nodup_cons.mp this).1
  have ins := kn_ins rs a r
  refine ⟨fun w hw => ?_, fun h w hw => ?_, fun m hm => ?_⟩
  · rw [ct hb hB w hw, ct hb' hB' w hw]
    exact ps_rel ins _ _
  · rw [ct hb hB w hw, ct hb' hB' w hw]
    refine cut_same (τ := τ) (fun u hu => ?_) hw.s _ _
    obtain ⟨m, hm, e⟩ := List.mem_map.mp (tog_all o1 o2 hb.t.nd u hu)
    have h2 := List.find?_eq_none.mp h m hm
    have e1 : m.1.1 = runT (tabB τ (shX rs)) τ u := congrArg Prod.fst e
    have e2 : m.1.2 = runT (tabB τ (shX (insR rs a r))) τ u := congrArg Prod.snd e
    rw [e1, e2, k1 u hu, k2 u hu] at h2
    simpa using h2
  · have hmm := List.mem_of_find?_eq_some hm
    have hd := List.find?_some hm
    have mok := togM_ok o1 o2
    have hl2 := mok.len o1.m o2.m
    have hw : Wrd τ m.2 := ⟨hb.t.nd, mok.s m hmm, by have := mok.l m hmm; omega⟩
    have e0 := tog_said (a := tabB τ (shX rs)) (b := tabB τ (shX (insR rs a r))) hb.t.nd 1100 0 [((0, 0), [])] (fun m hm => by simp only [List.mem_singleton] at hm; subst hm; rfl) m hmm
    have e1 : m.1.1 = runT (tabB τ (shX rs)) τ m.2 := congrArg Prod.fst e0
    have e2 : m.1.2 = runT (tabB τ (shX (insR rs a r))) τ m.2 := congrArg Prod.snd e0
    rw [e1, e2, k1 _ hw.s, k2 _ hw.s] at hd
    have hne : knW rs m.2 ≠ knW (insR rs a r) m.2 := by simpa using hd
    have hnew : knW (insR rs a r) m.2 = some r.1 := (ins m.2).resolve_left fun z => hne z.symm
    rw [ct hb hB _ hw, ct hb' hB' _ hw]
    obtain ⟨n, hn⟩ : ∃ n, m.2.length = n + 1 := by
      cases hmw : m.2 with
      | cons x l => exact ⟨l.length, rfl⟩
      | nil =>
        exfalso
        rw [hmw] at hnew
        unfold knW at hnew
        cases hfd : (insR rs a r).find? (accP []) with
        | none => rw [hfd] at hnew; cases hnew
        | some x =>
          have hx := List.find?_some hfd
          obtain ⟨q, h1, h2, _⟩ := accP_iff.mp hx
          have h2 : q = 0 := h2
          omega
    intro z
    have c2 : cutF (knW (insR rs a r)) m.2 (m.2.length + 1) 0 = ((r.1, 0, m.2.length) :: (cutF (knW (insR rs a r)) m.2 m.2.length m.2.length).1, (cutF (knW (insR rs a r)) m.2 m.2.length m.2.length).2) := by
      have l1 : lngF (knW (insR rs a r)) m.2 0 (m.2.length - 0) = some (r.1, m.2.length) := by
        rw [Nat.sub_zero, hn]
        unfold lngF
        rw [List.drop_zero, ← hn, List.take_length, hnew, hn]
        show some (r.1, 0 + n + 1) = _
        rw [Nat.zero_add]
      rw [cutF_s, if_pos (by omega), l1]
    rw [c2] at z
    have hlt : 0 < m.2.length := by omega
    rw [cutF_s, if_pos hlt] at z
    cases e : lngF (knW rs) m.2 0 (m.2.length - 0) with
    | none =>
      rw [e] at z
      have z := congrArg Prod.fst z
      cases z
    | some p =>
      rw [e] at z
      have z := (List.cons.inj (congrArg Prod.fst z)).1
      have z : p.1 = r.1 := congrArg Prod.fst z
      obtain ⟨u, hu⟩ := lngF_nm e
      rw [z] at hu
      exact nin (kn_mem hu)
end Nr
set_option Elab.async false
set_option linter.all false
set_option maxRecDepth 100000
set_option maxHeartbeats 4000000
set_option pp.maxSteps 700
namespace Nr
open PySem PySem.Spec PyProof.Rows L2
/-! ### the script, as the caller laid it -/
def PP (K : PySem.W.Frag) : Sp := fun vs H Q _ => ∃ (a : Addr) (cells : List Int), vs = [.ref a] ∧ SqL K H a (cells.map V.int) ∧ ∀ ws F' H' p, Stp H (fun _ => none) H' F' → Dts F' (pnL (cells.take 63) 0 0) ws → H' p = none → Q (.ref p) (upd H' p (.lst ws))
/-- .. the law's promise -/
def PL0 (K : PySem.W.Frag) : Sp := fun vs H Q _ => ∃ (a : Addr) (cells : List Int), vs = [.ref a] ∧ SqL K H a (cells.map V.int) ∧ ∀ H', Q (.bl true) H'
theorem sq_ex {K : PySem.W.Frag} {H H' : Hp} {a : Addr} {xs : List V} (e : Ex H H') (h : SqL K H a xs) : SqL K H' a xs := by
  rcases h with (h | ⟨o, h⟩) | h
  · exact Or.inl (Or.inl (e _ _ h))
  · exact Or.inl (Or.inr ⟨o, e _ _ h⟩)
  · exact Or.inr h
theorem dts_ints (F : Hp) : ∀ cells : List Int, Dts F (isD cells) (cells.map V.int)
  | [] => rfl
  | _ :: l => ⟨_, _, rfl, rfl, dts_ints F l⟩
theorem sls_any {c : Ct} {F H : Hp} : ∀ σ : List (Option V), Sls c F H σ (List.replicate σ.length .no) (List.replicate σ.length [])
  | [] => .nil
  | _ :: σ => .cons rfl (sls_any σ)
theorem rl_any {C : Addr} {H : Hp} (σ : List (Option V)) : Rl ⟨C, H, H, fun _ => none, []⟩ σ (fun _ => none) H (List.replicate σ.length .no) (List.replicate σ.length []) :=
  ⟨Ex.refl _, Ex.refl _, fun _ _ z => (nomatch z), fun _ _ => Or.inl rfl, fun _ h => h, sls_any σ, fun i j fi fj b h1 h2 h3 _ => by
    rw [(List.mem_replicate.mp (List.mem_of_getElem? h1)).2] at h3
    exact absurd h3 (by simp), fun fp hf b hb => by
    rw [(List.mem_replicate.mp hf).2] at hb
    exact absurd hb (by simp)⟩
theorem rs_run {c : Ct} {σ : List (Option V)} {F H : Hp} {env : List Sl} {fps : List (List Addr)} {D : De} {E : Ends} {ts : TS} (R : Rl c σ F H env fps) (h : RS c ts D env) (a : Acc c F D E) : ts E σ H := h σ F H fps R E a
theorem rs_first {c : Ct} {K : PySem.W.Frag} {σ : List (Option V)} {H : Hp} {env : List Sl} {fps : List (List Addr)} {D : De} {E : Ends} {u : TS} {a : Addr} {cells : List Int} (R : Rl c σ (fun _ => none) H env fps) (ha : σ[0]? = some (some (.ref a))) (hS : SqL K H a (cells.map V.int))
    (h : RS c u D (env.set 1 (.ow (.lst (pnL (cells.take 63) 0 0))))) (acc : Acc c (fun _ => none) D E) : tSeq (tAsg (tCall (PP K) [] E0 (tCons (tVar 0) tNil)) (gName 1)) u E σ H :=
  ⟨.ref a, ha, a, cells, rfl, hS, fun ws F1 H1 p s1 h1 hp => h _ F1 _ _ ((R.ext s1).putO 1 (o := .lst (pnL (cells.take 63) 0 0)) hp fun F' H' e1 e2 => ⟨rfl, ws, e2, h1.mono e1⟩) E (acc.mono s1.f)⟩
section
variable {P : Program} {w : World} {K : PySem.W.Frag} {mg : Str → Option Value} {base : Heap} {C T : Addr}
theorem cl_law_penS (t : Tx K mg C T) : Cl P w K mg base 1 "_law_pen" (PP K) := by
  have sc : FnScope ["_law_script"] ["_law_script"] (defScope s_law_pen) := ⟨rfl, rfl, rfl, by decide +kernel, rfl, by decide +kernel, by decide +kernel⟩
  obtain ⟨f, fd, F, hm⟩ := t.d_law_pen.ex
  refine ⟨f, fd, _, F.ok sc (fun vs H Q E h => ?_) fun cdv A outer s H vs Q E hr h => ?_, hm, F.kp, F.binds (fun _ _ _ _ _ _ us hl => match us, hl with | [_], _ => rfl)⟩
  · obtain ⟨a, cells, rfl, _⟩ := h; rfl
  · obtain ⟨a, cells, rfl, hS, q⟩ := h
    refine ⟨_, (pss_one (ps_ret (pe_lst (pa_cons (pe_slice sl_list (pv 0) po_none (po_some pe_int)) (pa_cons pe_int (pa_cons pe_int pa_nil)))))), ?_⟩
    have R0 := rl_any (C := C) (H := H) (start ["_law_script"] [.ref a])
    refine ⟨.ref a, rfl, eo_none _ _ H _ R0 _ fun F2 H2 s2 => eo_some (i := 63) ev_int _ F2 H2 _ (R0.ext s2) _ fun F3 H3 s3 => ⟨a, cells.map V.int, rfl, sq_ex (s2.e.trans s3.e) hS, fun p hp => ?_⟩⟩
    have st := (s2.trans s3).trans (Stp.new (o := .lst (cutV (cells.map V.int) none (some 63))) s3.h hp)
    refine (ea_2 ev_int ev_int) _ _ _ _ (R0.ext st) _ fun vs F4 H4 s4 h4 => ⟨?_, fun p2 hp2 => q _ F4 H4 p2 (st.trans s4) ⟨_, vs, rfl, ?_, h4⟩ hp2⟩
    · rw [List.length_cons, h4.length]
      exact sz_le (by show 2 + 1 ≤ 100000; decide)
    · have e : isD (cells.take 63) = cutD (isD cells) none (some 63) := by
        rw [show (63 : Int) = ((63 : Nat) : Int) from rfl, cutD_lo']
        unfold isD
        rw [List.map_take]
      exact ⟨p, _, rfl, s4.f _ _ upd_same, by rw [e]; exact (dts_ints F4 cells).cut none (some 63)⟩
theorem law_ok (t : Tx K mg C T) {f : Addr} {fd : FuncData} (F : Fun K "law" "law" s_law f fd) : FnOk P w K mg base CX0 20 f fd ["_law_script"] (PL0 K) := by
  have sc : FnScope ["_law_script", "_law_pen_here", "_law_tongue", "_law_names_here", "_law_many", "_law_book", "_law_rule", "_law_texts", "_law_at", "_law_k"] ["_law_script"] (defScope s_law) := ⟨rfl, rfl, rfl, by decide +kernel, rfl, by decide +kernel, by decide +kernel⟩
  have c_law_pen := cl_law_penS (P := P) (w := w) (base := base) t
  have c_law_some := cl_law_some (P := P) (w := w) (base := base) t
  have c_law_signs := cl_law_signs (P := P) (w := w) (base := base) t
  have c_law_names := cl_law_names (P := P) (w := w) (base := base) t
  have c_law_take := cl_law_take (P := P) (w := w) (base := base) t
  have c_law_rules := cl_law_rules (P := P) (w := w) (base := base) t
  have c_law_text := cl_law_text (P := P) (w := w) (base := base) t
  have c_law_right := cl_law_right (P := P) (w := w) (base := base) t
  have c_with_rule := cl_with_rule (P := P) (w := w) (base := base) t
  refine F.ok (k := 19) sc (fun vs H Q E h => ?_) fun cdv A outer s H vs Q E hr h => ?_
  · obtain ⟨a, cells, rfl, _⟩ := h; rfl
  · obtain ⟨a, cells0, rfl, hS, q⟩ := h
    refine ⟨_, (pss_cons (ps_set (i := 1) sc.nd rfl (Or.inr rfl) (pe_cl c_law_pen hr (by omega) (by rfl) (pa_cons (pv 0) pa_nil)))
  (pss_cons (ps_set (i := 2) sc.nd rfl (Or.inr rfl) (pe_cl c_law_some hr (by omega) (by rfl) (pa_cons (pv 1) (pa_cons (pe_cl0 c_law_signs hr (by omega) (by rfl)) (pa_cons pe_int pa_nil)))))
  (pss_cons (ps_set (i := 3) sc.nd rfl (Or.inl rfl) (pe_cl c_law_names hr (by omega) (by rfl) (pa_cons (pv 1) pa_nil)))
  (pss_cons (ps_set (i := 4) sc.nd rfl (Or.inl rfl) (pe_cl c_law_take hr (by omega) (by rfl) (pa_cons (pv 1) (pa_cons pe_int pa_nil))))
  (pss_cons (ps_set (i := 5) sc.nd rfl (Or.inl rfl) (pe_tup (pa_cons (pv 2) (pa_cons (pe_cl c_law_rules hr (by omega) (by rfl) (pa_cons (pv 1) (pa_cons (pv 2) (pa_cons (pe_slice sl_list (pv 3) po_none (po_some (pv 4))) (pa_cons pe_int pa_nil))))) pa_nil))))
  (pss_cons (ps_set (i := 6) sc.nd rfl (Or.inl rfl) (pe_ix ix_tup (pe_cl c_law_rules hr (by omega) (by rfl) (pa_cons (pv 1) (pa_cons (pv 2) (pa_cons (pe_slice sl_list (pv 3) (po_some pe_int) (po_some pe_int)) (pa_cons pe_int pa_nil))))) pe_int (fun _ _ => rfl)))
  (pss_cons (ps_setLc (i := 7) (own := [("_law_k", 9)]) (g := gName 9) rfl sc.nd rfl rfl (sw_true rfl rfl rfl (by decide +kernel)) (pi_range1 rfl t.n_range (pa_cons pe_int pa_nil)) (blkOk_by (N := ["_law_script", "_law_pen_here", "_law_tongue", "_law_names_here", "_law_many", "_law_book", "_law_rule", "_law_texts", "_law_at", "_law_k"]) (sc := (defScope s_law)) (own := [("_law_k", 9)]) (by decide +kernel)) (fun _ _ _ _ _ => (pg_name (i := 9) sc.nd rfl (Or.inl rfl))) (fun _ _ _ _ _ => pts_nil) (fun _ _ _ _ _ => (pe_cl c_law_text hr (by omega) (by rfl) (pa_cons (pv 1) (pa_cons (pv 2) pa_nil)))))
  (pss_cons (ps_set (i := 8) sc.nd rfl (Or.inl rfl) (pe_cl c_law_take hr (by omega) (by rfl) (pa_cons (pv 1) (pa_cons (pe_op op_add (pv 4) pe_int) pa_nil))))
  (pss_cons (ps_if (pt_not (pt_truth (pe_cl c_law_right hr (by omega) (by rfl) (pa_cons (pv 5) (pa_cons (pe_cl c_with_rule hr (by omega) (by rfl) (pa_cons (pv 5) (pa_cons (pv 8) (pa_cons (pv 6) pa_nil)))) (pa_cons (pe_ix ix_tup (pv 6) pe_int (fun _ _ => rfl)) (pa_cons (pv 7) pa_nil))))) (fun _ => rfl)))
  (pss_one (ps_ret pe_bl))
  pss_nil)
  (pss_one (ps_ret (pe_cl c_law_right hr (by omega) (by rfl) (pa_cons (pv 5) (pa_cons (pe_cl c_with_rule hr (by omega) (by rfl) (pa_cons (pv 5) (pa_cons (pe_op op_sub (pv 4) (pv 8)) (pa_cons (pv 6) pa_nil)))) (pa_cons (pe_ix ix_tup (pv 6) pe_int (fun _ _ => rfl)) (pa_cons (pv 7) pa_nil)))))))))))))))), ?_⟩
    have R0 := rl_any (C := C) (H := H) (start ["_law_script", "_law_pen_here", "_law_tongue", "_law_names_here", "_law_many", "_law_book", "_law_rule", "_law_texts", "_law_at", "_law_k"] [.ref a])
    refine rs_first R0 rfl hS (D := { nx := fun _ => False, rt := fun d _ => d = .bool true }) (E := { nx := fun _ H' => Q .non H', rt := Q }) ?_ ⟨fun _ _ _ _ _ _ _ z => z.elim, fun σ F' H' env fps d v R' _ hd k => by
      subst k
      have hd : v = .bl true := hd
      subst hd
      exact q H', fun _ _ _ _ _ _ _ z => z.elim, fun _ _ _ _ _ _ _ z => z.elim, fun _ _ _ _ _ _ _ _ _ _ z => z.elim⟩
    have hC : (⟨C, H, H, fun _ => none, []⟩ : Ct).C = C := rfl
    generalize cells0.take 63 = cells
    clear R0
    refine rs_seq (rs_asgR (re_call1 hC.symm rfl rfl (ra_ev (ea_2 (ev_is (e := sD sgL) (ev_call ea_nil ⟨rfl, rfl⟩) sgL_eq.symm) ev_int) ⟨_, .lst (pnL cells 0 0), rfl, rfl, fun q' => ⟨q', cells, 0, 0, sgL, 3, rfl, sgL_nd, by omega, sgL_len.1, sgL_len.2, by omega, by omega, fun τ a1 r1 s1 s2 s3 s4 x0 x1 => ⟨_, _, rfl, ?_⟩⟩⟩)))
    have ht : Tng τ := ⟨s1, by omega, s3, fun z hz => sgL_mem z (s4 z hz)⟩
    refine rs_seq (rs_asgR (re_call1 hC.symm rfl rfl (ra_ev ea_nil ⟨_, .lst (pnL cells a1 r1), rfl, rfl, fun q' => ⟨q', cells, a1, r1, rfl, by omega, by omega, fun ns a2 r2 n1 n2 n3 x2 x3 => ⟨_, _, rfl, ?_⟩⟩⟩)))
    refine rs_seq (rs_asgR (re_call1 hC.symm rfl rfl (ra_ev (ea_1 ev_int) ⟨_, .lst (pnL cells a2 r2), rfl, rfl, fun q' => ⟨q', cells, a2, r2, 5, rfl, by omega, by omega, by omega, by omega, fun many a3 r3 m0 m5 x4 x5 => ⟨_, _, rfl, ?_⟩⟩⟩)))
    obtain ⟨many, rfl⟩ := Int.eq_ofNat_of_zero_le m0
    have hm : many ≤ 4 := by omega
    refine rs_seq (rs_asgR (re_tup (ra_cons (re_ev (ev_var (d := sD τ) rfl) (ra_cons (re_call1 hC.symm rfl rfl (ra_ev (ea_3 (ev_var (d := sD τ) rfl) (ev_is (e := .list ((ns.take many).map .str)) (ev_slL (ev_var (d := .list (ns.map .str)) rfl) eo_none (eo_some (ev_var (d := nD many) rfl))) (by rw [cutD_lo', List.map_take])) ev_int) ⟨_, .lst (pnL cells a3 r3), rfl, rfl, fun q' => ⟨q', cells, a3, r3, τ, ns.take many, 6, rfl, ht, by rw [List.length_take]; omega, by omega, by omega, by omega, fun rs a4 r4 e1 e2 e3 x6 x7 => ⟨_, _, rfl, ra_nil ⟨by show 2 ≤ 100000; decide, ?_⟩⟩⟩⟩)))))))
    obtain ⟨n5, h5, e56⟩ : ∃ n5, ns[5]? = some n5 ∧ cutD (ns.map PyData.str) (some 5) (some 6) = [n5].map PyData.str := by
      match ns, n1 with
      | [_, _, _, _, _, f, _], _ => exact ⟨f, rfl, rfl⟩
    refine rs_seq (rs_asgR (re_op (re_call1 hC.symm rfl rfl (ra_ev (ea_3 (ev_var (d := sD τ) rfl) (ev_is (e := .list ([n5].map .str)) (ev_slL (ev_var (d := .list (ns.map .str)) rfl) (eo_some ev_int) (eo_some ev_int)) (congrArg PyData.list e56)) ev_int) ⟨_, .lst (pnL cells a4 r4), rfl, rfl, fun q' => ⟨q', cells, a4, r4, τ, [n5], 4, rfl, ht, by show 1 ≤ 6; decide, by omega, by omega, by omega, fun rr a5 r5 g1 g2 g3 x8 x9 => ⟨_, _, rfl, ?_⟩⟩⟩))))
    obtain ⟨r, rfl⟩ : ∃ r, rr = [r] := by
      have hl := congrArg List.length g1
      rw [List.length_map] at hl
      match rr, hl with
      | [r], _ => exact ⟨r, rfl⟩
    have gn : r.1 = n5 := (List.cons.inj g1).1
    have gr := g2 r List.mem_cons_self
    have gw : r.2.wt ≤ 4 := by
      have g3 : r.2.wt + 0 ≤ 4 := g3
      omega
    refine re_ev ev_int ⟨rlD (r.1, shD r.2), rv_ixT (ix_of (j := 0) rfl rfl), ?_⟩
    have hb : BookOk τ rs := by
      refine ⟨ht, ?_, ?_, fun x hx => ?_, Nat.le_trans e3 (by omega)⟩
      · have := congrArg List.length e1
        rw [List.length_map, List.length_take] at this
        omega
      · rw [e1]; exact (List.take_sublist _ _).nodup n2
      · obtain ⟨h1, h2, h3⟩ := e2 x hx
        have hmem : x.1 ∈ ns := List.mem_of_mem_take (by rw [← e1]; exact List.mem_map_of_mem hx)
        exact ⟨n3 _ hmem, h1, h2, h3⟩
    have hrl : rs.length = many := by
      have := congrArg List.length e1
      rw [List.length_map, List.length_take] at this
      omega
    have hr2 : RuleOk τ r := ⟨by rw [gn]; exact n3 _ (List.mem_of_getElem? h5), gr.1, gr.2.1, gr.2.2⟩
    have hnm : r.1 ∉ rs.map (·.1) := by
      rw [e1, gn]
      intro hmem
      obtain ⟨i, hi⟩ := List.mem_iff_getElem?.mp hmem
      have hil := (List.getElem?_eq_some_iff.mp hi).1
      rw [List.length_take] at hil
      rw [List.getElem?_take] at hi
      split at hi
      · rw [← h5] at hi
        have := (List.getElem?_inj (by omega) n2).mp hi
        omega
      · cases hi
    have hbi : ∀ a, BookOk τ (insR rs a r) := ins_ok hb hr2 (by omega) hnm (by omega)
    refine rs_seq (rs_asgR (re_comp (js := [9]) (ri_ev (ei_range1 ev_int (by decide) (by decide)) ⟨by rw [rngD_len]; decide,
      (fun i acc e => ∃ (W : List (List Nat)) (a' r' : Int), e = [.no, .ow (.lst (pnL cells a' r')), .im (sD τ), .im (.list (ns.map .str)), .im (nD many), .im (bkD τ (shR rs)), .im (rlD (r.1, shD r.2)), .no, .no, .no] ∧ acc = W.map sD ∧ W.length = i ∧ (∀ v ∈ W, Wrd τ v) ∧ a5 ≤ a' ∧ a' ≤ a5 + 300 * (i : Int)), ⟨[], a5, r5, rfl, rfl, rfl, by simp, by omega, by omega⟩, ?hs, ?hd⟩) (by decide)))
    case hs =>
      rintro i d acc _ hi hacc ⟨W, a', r', rfl, rfl, hl, hW, y0, y1⟩
      obtain ⟨hin, rfl⟩ := rngD_get hi
      have hin : i < 2 := hin
      refine ⟨_, fun c' hc' => ⟨eg_name, re_call1 (hC.symm.trans hc'.symm) rfl rfl (ra_ev (ea_1 (ev_var (d := sD τ) rfl)) ⟨_, .lst (pnL cells a' r'), rfl, rfl, fun q' => ⟨q', cells, a', r', τ, rfl, s1, by omega, by omega, by omega, fun v b3 r3 w1 w2 x10 x11 => ⟨_, _, rfl, W ++ [v], b3, r3, rfl, by rw [List.map_append]; rfl, by rw [List.length_append, hl]; rfl, fun z hz => ?_, by omega, by omega⟩⟩⟩)⟩⟩
      rcases List.mem_append.mp hz with h | h
      · exact hW z h
      · simp only [List.mem_singleton] at h
        subst h
        exact ⟨s3, w2, by omega⟩
    case hd =>
      rintro acc _ hacc ⟨W, a', r', rfl, rfl, hl, hW, y0, y1⟩
      have hl : W.length = 2 := hl
      have y1 : a' ≤ a5 + 300 * ((2 : Nat) : Int) := y1
      refine rs_seq (rs_asgR (re_call1 hC.symm rfl rfl (ra_ev (ea_1 (ev_op (ev_var (d := nD many) rfl) ev_int rv_add)) ⟨_, .lst (pnL cells a' r'), rfl, rfl, fun q' => ⟨q', cells, a', r', (many : Int) + 1, rfl, by omega, by omega, by omega, by omega, fun g b3 r3 g0 g1 x10 x11 => ⟨_, _, rfl, ?_⟩⟩⟩)))
      obtain ⟨g, rfl⟩ := Int.eq_ofNat_of_zero_le g0
      refine rs_seq (rs_ifF (eb_not (a := true) (eb_tru (ev_call (ea_4 (ev_var (d := bkD τ (shR rs)) rfl) (ev_call (d := bkD τ (shR (insR rs g r))) (ea_3 (ev_var (d := bkD τ (shR rs)) rfl) (ev_var (d := nD g) rfl) (ev_var (d := rlD (r.1, shD r.2)) rfl)) ⟨τ, rs, g, r, rfl, by omega, hbi g, rfl⟩) (ev_op (ev_var (d := rlD (r.1, shD r.2)) rfl) ev_int (rv_ixT (d := .str r.1) (ix_of (j := 0) rfl rfl))) (ev_var (d := .list (W.map sD)) rfl)) ⟨τ, rs, insR rs g r, r.1, W, rfl, hb, hbi g, hW, by omega, plainL τ rs g r hb (by omega) (hbi g), rfl⟩))) (rs_next ?_))
      exact rs_ret (ev_call (ea_4 (ev_var (d := bkD τ (shR rs)) rfl) (ev_call (d := bkD τ (shR (insR rs (many - g) r))) (ea_3 (ev_var (d := bkD τ (shR rs)) rfl) (ev_is (e := nD (many - g)) (ev_op (ev_var (d := nD many) rfl) (ev_var (d := nD g) rfl) rv_sub) (congrArg PyData.int (by omega))) (ev_var (d := rlD (r.1, shD r.2)) rfl)) ⟨τ, rs, many - g, r, rfl, by omega, hbi (many - g), rfl⟩) (ev_op (ev_var (d := rlD (r.1, shD r.2)) rfl) ev_int (rv_ixT (d := .str r.1) (ix_of (j := 0) rfl rfl))) (ev_var (d := .list (W.map sD)) rfl)) ⟨τ, rs, insR rs (many - g) r, r.1, W, rfl, hb, hbi (many - g), hW, by omega, plainL τ rs (many - g) r hb (by omega) (hbi (many - g)), rfl⟩) rfl
end
end Nr
set_option Elab.async false
set_option linter.all false
set_option maxRecDepth 100000
set_option maxHeartbeats 0
namespace Nr
open PySem PySem.Spec PyProof.Rows L2
/-! ### the defs by names -/
def d_is_number : He.DefD := ⟨("is_number", none), "is_number", "is_number", defArgs s_is_number, defBody s_is_number, defScope s_is_number, [], []⟩
def d_is_tongue : He.DefD := ⟨("is_tongue", none), "is_tongue", "is_tongue", defArgs s_is_tongue, defBody s_is_tongue, defScope s_is_tongue, [], []⟩
def d_is_text : He.DefD := ⟨("is_text", none), "is_text", "is_text", defArgs s_is_text, defBody s_is_text, defScope s_is_text, [], []⟩
def d_are_some : He.DefD := ⟨("are_some", none), "are_some", "are_some", defArgs s_are_some, defBody s_are_some, defScope s_are_some, [], []⟩
def d_are_times : He.DefD := ⟨("are_times", none), "are_times", "are_times", defArgs s_are_times, defBody s_are_times, defScope s_are_times, [], []⟩
def d_is_form : He.DefD := ⟨("is_form", none), "is_form", "is_form", defArgs s_is_form, defBody s_is_form, defScope s_is_form, [], []⟩
def d_inner : He.DefD := ⟨("inner", none), "inner", "inner", defArgs s_inner, defBody s_inner, defScope s_inner, [], []⟩
def d_counted : He.DefD := ⟨("counted", none), "counted", "counted", defArgs s_counted, defBody s_counted, defScope s_counted, [], []⟩
def d_is_shape : He.DefD := ⟨("is_shape", none), "is_shape", "is_shape", defArgs s_is_shape, defBody s_is_shape, defScope s_is_shape, [], []⟩
def d_weight : He.DefD := ⟨("weight", none), "weight", "weight", defArgs s_weight, defBody s_weight, defScope s_weight, [], []⟩
def d_in_turn : He.DefD := ⟨("in_turn", none), "in_turn", "in_turn", defArgs s_in_turn, defBody s_in_turn, defScope s_in_turn, [], []⟩
def d_laid_row : He.DefD := ⟨("laid_row", none), "laid_row", "laid_row", defArgs s_laid_row, defBody s_laid_row, defScope s_laid_row, [], []⟩
def d_laid_either : He.DefD := ⟨("laid_either", none), "laid_either", "laid_either", defArgs s_laid_either, defBody s_laid_either, defScope s_laid_either, [], []⟩
def d_laid_many : He.DefD := ⟨("laid_many", none), "laid_many", "laid_many", defArgs s_laid_many, defBody s_laid_many, defScope s_laid_many, [], []⟩
def d_laid_times : He.DefD := ⟨("laid_times", none), "laid_times", "laid_times", defArgs s_laid_times, defBody s_laid_times, defScope s_laid_times, [], []⟩
def d_laid : He.DefD := ⟨("laid", none), "laid", "laid", defArgs s_laid, defBody s_laid, defScope s_laid, [], []⟩
def d_spread : He.DefD := ⟨("spread", none), "spread", "spread", defArgs s_spread, defBody s_spread, defScope s_spread, [], []⟩
def d_is_name : He.DefD := ⟨("is_name", none), "is_name", "is_name", defArgs s_is_name, defBody s_is_name, defScope s_is_name, [], []⟩
def d_is_of : He.DefD := ⟨("is_of", none), "is_of", "is_of", defArgs s_is_of, defBody s_is_of, defScope s_is_of, [], []⟩
def d_is_rule : He.DefD := ⟨("is_rule", none), "is_rule", "is_rule", defArgs s_is_rule, defBody s_is_rule, defScope s_is_rule, [], []⟩
def d_is_book : He.DefD := ⟨("is_book", none), "is_book", "is_book", defArgs s_is_book, defBody s_is_book, defScope s_is_book, [], []⟩
def d_looked_book : He.DefD := ⟨("looked_book", none), "looked_book", "looked_book", defArgs s_looked_book, defBody s_looked_book, defScope s_looked_book, [], []⟩
def d_book_spread : He.DefD := ⟨("book_spread", none), "book_spread", "book_spread", defArgs s_book_spread, defBody s_book_spread, defScope s_book_spread, [], []⟩
def d_asked_place : He.DefD := ⟨("asked_place", none), "asked_place", "asked_place", defArgs s_asked_place, defBody s_asked_place, defScope s_asked_place, [], []⟩
def d_with_rule : He.DefD := ⟨("with_rule", none), "with_rule", "with_rule", defArgs s_with_rule, defBody s_with_rule, defScope s_with_rule, [], []⟩
def d_asked_alike : He.DefD := ⟨("asked_alike", none), "asked_alike", "asked_alike", defArgs s_asked_alike, defBody s_asked_alike, defScope s_asked_alike, [], []⟩
def d_together : He.DefD := ⟨("together", none), "together", "together", defArgs s_together, defBody s_together, defScope s_together, [], []⟩
def d_first_parted : He.DefD := ⟨("first_parted", none), "first_parted", "first_parted", defArgs s_first_parted, defBody s_first_parted, defScope s_first_parted, [], []⟩
def d_bits_of : He.DefD := ⟨("bits_of", none), "bits_of", "bits_of", defArgs s_bits_of, defBody s_bits_of, defScope s_bits_of, [], []⟩
def d_places_of : He.DefD := ⟨("places_of", none), "places_of", "places_of", defArgs s_places_of, defBody s_places_of, defScope s_places_of, [], []⟩
def d_bearers : He.DefD := ⟨("bearers", none), "bearers", "bearers", defArgs s_bearers, defBody s_bearers, defScope s_bearers, [], []⟩
def d_behind_all : He.DefD := ⟨("behind_all", none), "behind_all", "behind_all", defArgs s_behind_all, defBody s_behind_all, defScope s_behind_all, [], []⟩
def d_owned_ends : He.DefD := ⟨("owned_ends", none), "owned_ends", "owned_ends", defArgs s_owned_ends, defBody s_owned_ends, defScope s_owned_ends, [], []⟩
def d_owner_of : He.DefD := ⟨("owner_of", none), "owner_of", "owner_of", defArgs s_owner_of, defBody s_owner_of, defScope s_owner_of, [], []⟩
def d_crowd_rooms : He.DefD := ⟨("crowd_rooms", none), "crowd_rooms", "crowd_rooms", defArgs s_crowd_rooms, defBody s_crowd_rooms, defScope s_crowd_rooms, [], []⟩
def d_longest : He.DefD := ⟨("longest", none), "longest", "longest", defArgs s_longest, defBody s_longest, defScope s_longest, [], []⟩
def d_cut : He.DefD := ⟨("cut", none), "cut", "cut", defArgs s_cut, defBody s_cut, defScope s_cut, [], []⟩
def d_numbered : He.DefD := ⟨("numbered", none), "numbered", "numbered", defArgs s_numbered, defBody s_numbered, defScope s_numbered, [], []⟩
def d_finer : He.DefD := ⟨("finer", none), "finer", "finer", defArgs s_finer, defBody s_finer, defScope s_finer, [], []⟩
def d_classes_of : He.DefD := ⟨("classes_of", none), "classes_of", "classes_of", defArgs s_classes_of, defBody s_classes_of, defScope s_classes_of, [], []⟩
def d_joined : He.DefD := ⟨("joined", none), "joined", "joined", defArgs s_joined, defBody s_joined, defScope s_joined, [], []⟩
def d_classed : He.DefD := ⟨("classed", none), "classed", "classed", defArgs s_classed, defBody s_classed, defScope s_classed, [], []⟩
def d_table_of : He.DefD := ⟨("table_of", none), "table_of", "table_of", defArgs s_table_of, defBody s_table_of, defScope s_table_of, [], []⟩
def d_by_names : He.DefD := ⟨("by_names", none), "by_names", "by_names", defArgs s_by_names, defBody s_by_names, defScope s_by_names, [], []⟩
def d_named_cut : He.DefD := ⟨("named_cut", none), "named_cut", "named_cut", defArgs s_named_cut, defBody s_named_cut, defScope s_named_cut, [], []⟩
def d_named_kinds : He.DefD := ⟨("named_kinds", none), "named_kinds", "named_kinds", defArgs s_named_kinds, defBody s_named_kinds, defScope s_named_kinds, [], []⟩
def d_altered : He.DefD := ⟨("altered", none), "altered", "altered", defArgs s_altered, defBody s_altered, defScope s_altered, [], []⟩
def d_law_pen : He.DefD := ⟨("_law_pen", none), "_law_pen", "_law_pen", defArgs s_law_pen, defBody s_law_pen, defScope s_law_pen, [], []⟩
def d_law_take : He.DefD := ⟨("_law_take", none), "_law_take", "_law_take", defArgs s_law_take, defBody s_law_take, defScope s_law_take, [], []⟩
def d_law_signs : He.DefD := ⟨("_law_signs", none), "_law_signs", "_law_signs", defArgs s_law_signs, defBody s_law_signs, defScope s_law_signs, [], []⟩
def d_law_some : He.DefD := ⟨("_law_some", none), "_law_some", "_law_some", defArgs s_law_some, defBody s_law_some, defScope s_law_some, [], []⟩
def d_law_light : He.DefD := ⟨("_law_light", none), "_law_light", "_law_light", defArgs s_law_light, defBody s_law_light, defScope s_law_light, [], []⟩
def d_law_names : He.DefD := ⟨("_law_names", none), "_law_names", "_law_names", defArgs s_law_names, defBody s_law_names, defScope s_law_names, [], []⟩
def d_law_rules : He.DefD := ⟨("_law_rules", none), "_law_rules", "_law_rules", defArgs s_law_rules, defBody s_law_rules, defScope s_law_rules, [], []⟩
def d_law_text : He.DefD := ⟨("_law_text", none), "_law_text", "_law_text", defArgs s_law_text, defBody s_law_text, defScope s_law_text, [], []⟩
def d_law_parts_so : He.DefD := ⟨("_law_parts_so", none), "_law_parts_so", "_law_parts_so", defArgs s_law_parts_so, defBody s_law_parts_so, defScope s_law_parts_so, [], []⟩
def d_law_told : He.DefD := ⟨("_law_told", none), "_law_told", "_law_told", defArgs s_law_told, defBody s_law_told, defScope s_law_told, [], []⟩
def d_law_right : He.DefD := ⟨("_law_right", none), "_law_right", "_law_right", defArgs s_law_right, defBody s_law_right, defScope s_law_right, [], []⟩
def d_law : He.DefD := ⟨("law", none), "law", "law", defArgs s_law, defBody s_law, defScope s_law, [], []⟩
def d_P_init : He.DefD := ⟨("Plan", some "__init__"), "__init__", "Plan.__init__", defArgs s_P_init, defBody s_P_init, defScope s_P_init, [], []⟩
def d_P_lay : He.DefD := ⟨("Plan", some "lay"), "lay", "Plan.lay", defArgs s_P_lay, defBody s_P_lay, defScope s_P_lay, [], []⟩
def d_P_link : He.DefD := ⟨("Plan", some "link"), "link", "Plan.link", defArgs s_P_link, defBody s_P_link, defScope s_P_link, [], []⟩
def fn0 : List He.DefD := [d_is_number, d_is_tongue, d_is_text, d_are_some, d_are_times, d_is_form, d_inner, d_counted, d_is_shape, d_weight, d_in_turn, d_laid_row, d_laid_either, d_laid_many, d_laid_times, d_laid, d_spread, d_is_name, d_is_of, d_is_rule, d_is_book, d_looked_book, d_book_spread, d_asked_place, d_with_rule, d_asked_alike, d_together, d_first_parted, d_bits_of, d_places_of]
def fn1 : List He.DefD := [d_bearers, d_behind_all, d_owned_ends, d_owner_of, d_crowd_rooms, d_longest, d_cut, d_numbered, d_finer, d_classes_of, d_joined, d_classed, d_table_of, d_by_names, d_named_cut, d_named_kinds, d_altered, d_law_pen, d_law_take, d_law_signs, d_law_some, d_law_light, d_law_names, d_law_rules, d_law_text, d_law_parts_so, d_law_told, d_law_right, d_law, d_P_init]
def fn2 : List He.DefD := [d_P_lay, d_P_link]
def fn : List He.DefD := fn0 ++ fn1 ++ fn2
def fa0 : List He.Fa := [.glo "is_number", .glo "is_tongue", .glo "is_text", .glo "are_some", .glo "are_times", .glo "is_form", .glo "inner", .glo "counted", .glo "is_shape", .glo "weight", .glo "in_turn", .glo "laid_row", .glo "laid_either", .glo "laid_many", .glo "laid_times", .glo "laid", .glo "spread", .glo "is_name", .glo "is_of", .glo "is_rule", .glo "is_book", .glo "looked_book", .glo "book_spread", .glo "asked_place", .glo "with_rule", .glo "asked_alike", .glo "together", .glo "first_parted", .glo "bits_of", .glo "places_of"]
def fa1 : List He.Fa := [.glo "bearers", .glo "behind_all", .glo "owned_ends", .glo "owner_of", .glo "crowd_rooms", .glo "longest", .glo "cut", .glo "numbered", .glo "finer", .glo "classes_of", .glo "joined", .glo "classed", .glo "table_of", .glo "by_names", .glo "named_cut", .glo "named_kinds", .glo "altered", .glo "_law_pen", .glo "_law_take", .glo "_law_signs", .glo "_law_some", .glo "_law_light", .glo "_law_names", .glo "_law_rules", .glo "_law_text", .glo "_law_parts_so", .glo "_law_told", .glo "_law_right", .glo "law", .glo "ReachError"]
def fa2 : List He.Fa := [.glo "NoBook", .glo "TooHeavy", .glo "NoPlace", .glo "NoText", .glo "TooMany", .glo "Unlike", .glo "Plan", .free "abs", .free "all", .free "bool", .free "enumerate", .free "int", .free "isinstance", .free "len", .free "list", .free "max", .free "min", .free "range", .free "set", .free "sorted", .free "str", .free "sum", .free "tuple", .str "SIGNS" str_SIGNS, .int "MOST_SIGNS" 6, .int "DEEPEST" 5, .int "MOST_PARTS" 24, .int "MOST_IN" 6, .int "MOST_TIMES" 4, .int "MOST_WEIGHT" 10]
def fa3 : List He.Fa := [.str "LETTERS" str_LETTERS, .int "MOST_RULES" 6, .int "MOST_LETTERS" 8, .cls "Plan", .noat "Plan" "marks", .noat "Plan" "nexts", .meth "Plan" "lay", .meth "Plan" "link", .mkr "Plan", .exc "TooMany", .exm "TooMany" "TooMany" true]
def fa : List He.Fa := fa0 ++ fa1 ++ fa2 ++ fa3
def nm0 : List PySem.Str := ["is_number", "ReachError", "NoBook", "TooHeavy", "NoPlace", "NoText", "TooMany", "Unlike", "SIGNS", "MOST_SIGNS", "is_tongue", "is_text", "DEEPEST", "MOST_PARTS", "MOST_IN", "MOST_TIMES", "are_some", "are_times", "is_form", "inner", "counted", "is_shape", "weight", "MOST_WEIGHT", "Plan", "in_turn", "laid_row", "laid_either", "laid_many", "laid_times"]
def nm1 : List PySem.Str := ["laid", "spread", "LETTERS", "MOST_RULES", "MOST_LETTERS", "is_name", "is_of", "is_rule", "is_book", "looked_book", "book_spread", "asked_place", "with_rule", "asked_alike", "together", "first_parted", "bits_of", "places_of", "bearers", "behind_all", "owned_ends", "owner_of", "crowd_rooms", "longest", "cut", "numbered", "finer", "classes_of", "joined", "classed"]
def nm2 : List PySem.Str := ["table_of", "by_names", "named_cut", "named_kinds", "altered", "_law_pen", "_law_take", "_law_signs", "_law_some", "_law_light", "_law_names", "_law_rules", "_law_text", "_law_parts_so", "_law_told", "_law_right"]
def nms : List PySem.Str := nm0 ++ nm1 ++ nm2
abbrev Ro : PySem.W.OpenRow := PySem.W.OpenLaw.row PySem.Challenge.rw_nearreach_k63_whole_a_rule_more
abbrev hk : PySem.W.Hook := He.hookD 4 fa fn
def ob (s : PySem.W.SharedT) : He.AlD := He.obsDG 4 fa fn (HandSHeadRun.getT s)
theorem ob_eq (s : PySem.W.SharedT) : ob s = hk.obs s.abs := He.obsDG_eq (HandSHeadRun.getT_eq s)
theorem run (w : World) : HandSHeadRun.RunEq Ro (PySem.W.view Ro.prog [89]) hk ob 4000 nms w := by
  intro os
  kernel_rfl
/-! ### what the top has written -/
theorem dn_of {K : PySem.W.Frag} {h : Heap} {mg : Str → Option Value} (X : K.In h) (G : h.Ns mainGlobals mg) {x : Str} {st : Stmt} (c : (He.Fa.glo x).ok K = true) (F : ∃ fd, FunD K x x (defArgs st) (defBody st) (defScope st) [] [] (He.ga K x) fd) : Dn K mg x st := by
  obtain ⟨fd, F⟩ := F
  exact ⟨_, fd, He5.fun_of F, He.glo_ok X G c⟩
theorem md_of {K : PySem.W.Frag} {x m qual : Str} {st : Stmt} (c : (He.Fa.meth x m).ok K = true) (F : ∃ fd, FunD K m qual (defArgs st) (defBody st) (defScope st) [] [] (He.ma K (He.ga K x) m) fd) : Md K (He.ga K x) m qual st := by
  obtain ⟨fd, F⟩ := F
  exact ⟨_, fd, He.meth_ok c, He5.fun_of F⟩
theorem mk_of {K : PySem.W.Frag} {x : Str} {qual : Str} {st : Stmt} (c : (He.Fa.mkr x).ok K = true) (F : ∃ fd, FunD K "__init__" qual (defArgs st) (defBody st) (defScope st) [] [] (He.ma K (He.ga K x) "__init__") fd) : ∃ f fd, Mk K (He.ga K x) f ∧ Fun K "__init__" qual st f fd := by
  obtain ⟨fd, F⟩ := F
  exact ⟨_, fd, He.mkr_ok c, He5.fun_of F⟩
theorem in_of {K : PySem.W.Frag} {h : Heap} {mg : Str → Option Value} (X : K.In h) (G : h.Ns mainGlobals mg) {x : Str} {i : Int} (c : (He.Fa.int x i).ok K = true) : ∃ u, mg x = some u ∧ RelV (.int i) u := by
  obtain ⟨t, e⟩ := He.int_ok X G c
  exact ⟨_, e, ⟨t, rfl⟩⟩
theorem st_of {K : PySem.W.Frag} {h : Heap} {mg : Str → Option Value} (X : K.In h) (G : h.Ns mainGlobals mg) {x z : Str} (c : (He.Fa.str x z).ok K = true) : ∃ u, mg x = some u ∧ RelV (.str z) u := by
  obtain ⟨t, e⟩ := He.str_ok X G c
  exact ⟨_, e, ⟨t, rfl⟩⟩
theorem tx_of {K : PySem.W.Frag} {h : Heap} {mg : Str → Option Value} (X : K.In h) (G : h.Ns mainGlobals mg) (c : He.SaysD fa fn K) : Tx K mg (He.ga K "Plan") (He.ga K "TooMany") where
  d_is_number := dn_of X G (c.fact 0 (f := .glo "is_number") rfl) (c.def_ 0 (d := d_is_number) rfl)
  d_is_tongue := dn_of X G (c.fact 1 (f := .glo "is_tongue") rfl) (c.def_ 1 (d := d_is_tongue) rfl)
  d_is_text := dn_of X G (c.fact 2 (f := .glo "is_text") rfl) (c.def_ 2 (d := d_is_text) rfl)
  d_are_some := dn_of X G (c.fact 3 (f := .glo "are_some") rfl) (c.def_ 3 (d := d_are_some) rfl)
  d_are_times := dn_of X G (c.fact 4 (f := .glo "are_times") rfl) (c.def_ 4 (d := d_are_times) rfl)
  d_is_form := dn_of X G (c.fact 5 (f := .glo "is_form") rfl) (c.def_ 5 (d := d_is_form) rfl)
  d_inner := dn_of X G (c.fact 6 (f := .glo "inner") rfl) (c.def_ 6 (d := d_inner) rfl)
  d_counted := dn_of X G (c.fact 7 (f := .glo "counted") rfl) (c.def_ 7 (d := d_counted) rfl)
  d_is_shape := dn_of X G (c.fact 8 (f := .glo "is_shape") rfl) (c.def_ 8 (d := d_is_shape) rfl)
  d_weight := dn_of X G (c.fact 9 (f := .glo "weight") rfl) (c.def_ 9 (d := d_weight) rfl)
  d_in_turn := dn_of X G (c.fact 10 (f := .glo "in_turn") rfl) (c.def_ 10 (d := d_in_turn) rfl)
  d_laid_row := dn_of X G (c.fact 11 (f := .glo "laid_row") rfl) (c.def_ 11 (d := d_laid_row) rfl)
  d_laid_either := dn_of X G (c.fact 12 (f := .glo "laid_either") rfl) (c.def_ 12 (d := d_laid_either) rfl)
  d_laid_many := dn_of X G (c.fact 13 (f := .glo "laid_many") rfl) (c.def_ 13 (d := d_laid_many) rfl)
  d_laid_times := dn_of X G (c.fact 14 (f := .glo "laid_times") rfl) (c.def_ 14 (d := d_laid_times) rfl)
  d_laid := dn_of X G (c.fact 15 (f := .glo "laid") rfl) (c.def_ 15 (d := d_laid) rfl)
  d_spread := dn_of X G (c.fact 16 (f := .glo "spread") rfl) (c.def_ 16 (d := d_spread) rfl)
  d_is_name := dn_of X G (c.fact 17 (f := .glo "is_name") rfl) (c.def_ 17 (d := d_is_name) rfl)
  d_is_of := dn_of X G (c.fact 18 (f := .glo "is_of") rfl) (c.def_ 18 (d := d_is_of) rfl)
  d_is_rule := dn_of X G (c.fact 19 (f := .glo "is_rule") rfl) (c.def_ 19 (d := d_is_rule) rfl)
  d_is_book := dn_of X G (c.fact 20 (f := .glo "is_book") rfl) (c.def_ 20 (d := d_is_book) rfl)
  d_looked_book := dn_of X G (c.fact 21 (f := .glo "looked_book") rfl) (c.def_ 21 (d := d_looked_book) rfl)
  d_book_spread := dn_of X G (c.fact 22 (f := .glo "book_spread") rfl) (c.def_ 22 (d := d_book_spread) rfl)
  d_asked_place := dn_of X G (c.fact 23 (f := .glo "asked_place") rfl) (c.def_ 23 (d := d_asked_place) rfl)
  d_with_rule := dn_of X G (c.fact 24 (f := .glo "with_rule") rfl) (c.def_ 24 (d := d_with_rule) rfl)
  d_asked_alike := dn_of X G (c.fact 25 (f := .glo "asked_alike") rfl) (c.def_ 25 (d := d_asked_alike) rfl)
  d_together := dn_of X G (c.fact 26 (f := .glo "together") rfl) (c.def_ 26 (d := d_together) rfl)
  d_first_parted := dn_of X G (c.fact 27 (f := .glo "first_parted") rfl) (c.def_ 27 (d := d_first_parted) rfl)
  d_bits_of := dn_of X G (c.fact 28 (f := .glo "bits_of") rfl) (c.def_ 28 (d := d_bits_of) rfl)
  d_places_of := dn_of X G (c.fact 29 (f := .glo "places_of") rfl) (c.def_ 29 (d := d_places_of) rfl)
  d_bearers := dn_of X G (c.fact 30 (f := .glo "bearers") rfl) (c.def_ 30 (d := d_bearers) rfl)
  d_behind_all := dn_of X G (c.fact 31 (f := .glo "behind_all") rfl) (c.def_ 31 (d := d_behind_all) rfl)
  d_owned_ends := dn_of X G (c.fact 32 (f := .glo "owned_ends") rfl) (c.def_ 32 (d := d_owned_ends) rfl)
  d_owner_of := dn_of X G (c.fact 33 (f := .glo "owner_of") rfl) (c.def_ 33 (d := d_owner_of) rfl)
  d_crowd_rooms := dn_of X G (c.fact 34 (f := .glo "crowd_rooms") rfl) (c.def_ 34 (d := d_crowd_rooms) rfl)
  d_longest := dn_of X G (c.fact 35 (f := .glo "longest") rfl) (c.def_ 35 (d := d_longest) rfl)
  d_cut := dn_of X G (c.fact 36 (f := .glo "cut") rfl) (c.def_ 36 (d := d_cut) rfl)
  d_numbered := dn_of X G (c.fact 37 (f := .glo "numbered") rfl) (c.def_ 37 (d := d_numbered) rfl)
  d_finer := dn_of X G (c.fact 38 (f := .glo "finer") rfl) (c.def_ 38 (d := d_finer) rfl)
  d_classes_of := dn_of X G (c.fact 39 (f := .glo "classes_of") rfl) (c.def_ 39 (d := d_classes_of) rfl)
  d_joined := dn_of X G (c.fact 40 (f := .glo "joined") rfl) (c.def_ 40 (d := d_joined) rfl)
  d_classed := dn_of X G (c.fact 41 (f := .glo "classed") rfl) (c.def_ 41 (d := d_classed) rfl)
  d_table_of := dn_of X G (c.fact 42 (f := .glo "table_of") rfl) (c.def_ 42 (d := d_table_of) rfl)
  d_by_names := dn_of X G (c.fact 43 (f := .glo "by_names") rfl) (c.def_ 43 (d := d_by_names) rfl)
  d_named_cut := dn_of X G (c.fact 44 (f := .glo "named_cut") rfl) (c.def_ 44 (d := d_named_cut) rfl)
  d_named_kinds := dn_of X G (c.fact 45 (f := .glo "named_kinds") rfl) (c.def_ 45 (d := d_named_kinds) rfl)
  d_altered := dn_of X G (c.fact 46 (f := .glo "altered") rfl) (c.def_ 46 (d := d_altered) rfl)
  d_law_pen := dn_of X G (c.fact 47 (f := .glo "_law_pen") rfl) (c.def_ 47 (d := d_law_pen) rfl)
  d_law_take := dn_of X G (c.fact 48 (f := .glo "_law_take") rfl) (c.def_ 48 (d := d_law_take) rfl)
  d_law_signs := dn_of X G (c.fact 49 (f := .glo "_law_signs") rfl) (c.def_ 49 (d := d_law_signs) rfl)
  d_law_some := dn_of X G (c.fact 50 (f := .glo "_law_some") rfl) (c.def_ 50 (d := d_law_some) rfl)
  d_law_light := dn_of X G (c.fact 51 (f := .glo "_law_light") rfl) (c.def_ 51 (d := d_law_light) rfl)
  d_law_names := dn_of X G (c.fact 52 (f := .glo "_law_names") rfl) (c.def_ 52 (d := d_law_names) rfl)
  d_law_rules := dn_of X G (c.fact 53 (f := .glo "_law_rules") rfl) (c.def_ 53 (d := d_law_rules) rfl)
  d_law_text := dn_of X G (c.fact 54 (f := .glo "_law_text") rfl) (c.def_ 54 (d := d_law_text) rfl)
  d_law_parts_so := dn_of X G (c.fact 55 (f := .glo "_law_parts_so") rfl) (c.def_ 55 (d := d_law_parts_so) rfl)
  d_law_told := dn_of X G (c.fact 56 (f := .glo "_law_told") rfl) (c.def_ 56 (d := d_law_told) rfl)
  d_law_right := dn_of X G (c.fact 57 (f := .glo "_law_right") rfl) (c.def_ 57 (d := d_law_right) rfl)
  d_law := dn_of X G (c.fact 58 (f := .glo "law") rfl) (c.def_ 58 (d := d_law) rfl)
  n_abs := He.free_ok X G (c.fact 67 (f := .free "abs") rfl)
  n_all := He.free_ok X G (c.fact 68 (f := .free "all") rfl)
  n_bool := He.free_ok X G (c.fact 69 (f := .free "bool") rfl)
  n_enumerate := He.free_ok X G (c.fact 70 (f := .free "enumerate") rfl)
  n_int := He.free_ok X G (c.fact 71 (f := .free "int") rfl)
  n_isinstance := He.free_ok X G (c.fact 72 (f := .free "isinstance") rfl)
  n_len := He.free_ok X G (c.fact 73 (f := .free "len") rfl)
  n_list := He.free_ok X G (c.fact 74 (f := .free "list") rfl)
  n_max := He.free_ok X G (c.fact 75 (f := .free "max") rfl)
  n_min := He.free_ok X G (c.fact 76 (f := .free "min") rfl)
  n_range := He.free_ok X G (c.fact 77 (f := .free "range") rfl)
  n_set := He.free_ok X G (c.fact 78 (f := .free "set") rfl)
  n_sorted := He.free_ok X G (c.fact 79 (f := .free "sorted") rfl)
  n_str := He.free_ok X G (c.fact 80 (f := .free "str") rfl)
  n_sum := He.free_ok X G (c.fact 81 (f := .free "sum") rfl)
  n_tuple := He.free_ok X G (c.fact 82 (f := .free "tuple") rfl)
  c_MOST_SIGNS := in_of X G (c.fact 84 (f := .int "MOST_SIGNS" 6) rfl)
  c_DEEPEST := in_of X G (c.fact 85 (f := .int "DEEPEST" 5) rfl)
  c_MOST_PARTS := in_of X G (c.fact 86 (f := .int "MOST_PARTS" 24) rfl)
  c_MOST_IN := in_of X G (c.fact 87 (f := .int "MOST_IN" 6) rfl)
  c_MOST_TIMES := in_of X G (c.fact 88 (f := .int "MOST_TIMES" 4) rfl)
  c_MOST_WEIGHT := in_of X G (c.fact 89 (f := .int "MOST_WEIGHT" 10) rfl)
  c_MOST_RULES := in_of X G (c.fact 91 (f := .int "MOST_RULES" 6) rfl)
  c_MOST_LETTERS := in_of X G (c.fact 92 (f := .int "MOST_LETTERS" 8) rfl)
  c_SIGNS := st_of X G (c.fact 83 (f := .str "SIGNS" str_SIGNS) rfl)
  c_LETTERS := st_of X G (c.fact 90 (f := .str "LETTERS" str_LETTERS) rfl)
  cl := He.cls_ok (c.fact 93 (f := .cls "Plan") rfl)
  nM := He.noat_ok (c.fact 94 (f := .noat "Plan" "marks") rfl)
  nN := He.noat_ok (c.fact 95 (f := .noat "Plan" "nexts") rfl)
  gP := He.glo_ok X G (c.fact 66 (f := .glo "Plan") rfl)
  mkP := mk_of (c.fact 98 (f := .mkr "Plan") rfl) (c.def_ 59 (d := d_P_init) rfl)
  d_lay := md_of (c.fact 96 (f := .meth "Plan" "lay") rfl) (c.def_ 60 (d := d_P_lay) rfl)
  d_link := md_of (c.fact 97 (f := .meth "Plan" "link") rfl) (c.def_ 61 (d := d_P_link) rfl)
  gT := He.glo_ok X G (c.fact 64 (f := .glo "TooMany") rfl)
  xT := (He.exc_ok (c.fact 99 (f := .exc "TooMany") rfl)).1
  kT := (He.exc_ok (c.fact 99 (f := .exc "TooMany") rfl)).2.1
  bT := (He.exc_ok (c.fact 99 (f := .exc "TooMany") rfl)).2.2.1
  tT := (He.exc_ok (c.fact 99 (f := .exc "TooMany") rfl)).2.2.2
  eT := He.exm_ok (c.fact 100 (f := .exm "TooMany" "TooMany" true) rfl)
end Nr
open PySem PySem.W PySem.Calls PyProof.Rows
theorem PySem.Challenge.cw_nearreach_k63_whole_a_rule_more_holds : PySem.Challenge.rw_nearreach_k63_whole_a_rule_more.Holds := by
  w_on; o_law
  refine HandSHeadRun.head_any (r := OpenLaw.row PySem.Challenge.rw_nearreach_k63_whole_a_rule_more) (q := view (OpenLaw.row PySem.Challenge.rw_nearreach_k63_whole_a_rule_more).prog [89]) (H := Nr.hk) (ob := Nr.ob) (M := 4000) (loose := Nr.nms) (d := HandSHeadRun.topDef (OpenLaw.row PySem.Challenge.rw_nearreach_k63_whole_a_rule_more).prog 89) (kwd := []) Nr.ob_eq
    (by kernel_rfl) (fun s => by kernel_rfl) Nr.run (by kernel_rfl) (by kernel_rfl) (by kernel_rfl) (by rfl) (by first | assumption | decide +kernel) (by decide +kernel) ⟨rfl, rfl, rfl, rfl, rfl, by decide +kernel⟩ ?hw ?hc
  case hw => w_witness2
  case hc =>
    refine L2.walk_ofE (l := PySem.Challenge.rw_nearreach_k63_whole_a_rule_more) (n := 63) (k := 20) (x := "_law_script") (CX := L2.CX0) rfl (by decide) (by kernel_rfl) ⟨rfl, by decide, by decide⟩ ?F (fun _ _ _ _ z => z)
    intro w mg fa h Y G hmg0
    obtain ⟨K, KX, c⟩ := Y
    have hmg : mg ("law" : PySem.Str) = some (.ref fa) := by
      have e : (HandSHeadRun.topDef (OpenLaw.row PySem.Challenge.rw_nearreach_k63_whole_a_rule_more).prog 89).name = ("law" : PySem.Str) := by kernel_rfl
      rw [← e]
      exact hmg0
    have t := Nr.tx_of KX G c
    obtain ⟨fd, FD⟩ := c.def_ 58 (d := Nr.d_law) rfl
    have e := hmg.symm.trans (He.glo_ok KX G (c.fact 58 (f := .glo "law") rfl))
    cases e
    have b := L2.FunD.bindsA (ps := ["_law_script"]) FD fun _ _ _ _ _ _ us hl => match us, hl with | [_], _ => rfl
    exact ⟨K, fd, Nr.PL0 K, KX, fun s v => b s [v] rfl, fun H a ns hl _ hS => ⟨a, ns, rfl, hS, fun _ => rfl⟩, fun base _ _ => Nr.law_ok t (He5.fun_of FD)⟩
