import PyProof.Rows.All
import HandS.ForMost
import HandS.Deep
import HandS.TupAny
import HandS.Defaults
import HandS.Wide
import HandS.WideBits
import HandS.TupMul
import HandS.IsInst
import HandS.Flow
import PyProof.Rows.InDataRows
import HandS.Zip
import HandS.Rev
import HandS.RevRange
import KE.GoesEnum
import HandS.Style
import HandS.HeadEnd
import HandS.HeadHook1
import HandS.HeadHook2
import HandS.Conv
import KE.SortData
import HandS.DictComp
import KE.DataMinMax
import HandS.SortKw
import KE.DatumOrd
import HandS.SetFor
import HandS.Strs
import HandS.Head0
import HandS.Head1
import HandS.Head2
import PySem.Challenge.RW_dockheld_k25_whole_rounds_courses
set_option Elab.async false
set_option linter.all false
set_option maxRecDepth 100000
set_option maxHeartbeats 0
set_option exponentiation.threshold 3000
/-! Pm: plain data for the values, a simulation of the layer's readings by plain functions over slots. -/
namespace Pm
open PySem PySem.Spec PyProof.Rows L2

abbrev D := PyData
abbrev PEnv := List (Option D)
abbrev Xp := PEnv → Option D

/-- a list of the written part -/
def KL (K : PySem.W.Frag) (a : Addr) (xs : List V) : Prop :=
  ∃ (o : Obj) (its : Array Value) (n : Nat), K.lookup a = some o ∧ o.cls = .type "list" ∧ o.dict = none ∧ o.data = .seq its n ∧ its.size ≤ sizeLine ∧ Vals xs its.toList

def keyD : Key → D
  | .inl i => .int i
  | .inr s => .str s

/-- the script itself -/
def scr (ds : List D) : D := .dict [(.none, .list ds)]

mutual
/-- v stands for d in H; the cells on the way keep off A -/
inductive Rp (K : PySem.W.Frag) (A : Addr → Prop) (H : Hp) : V → D → Prop
  | non : Rp K A H .non .none
  | bl (b : Bool) : Rp K A H (.bl b) (.bool b)
  | int (i : Int) : Rp K A H (.int i) (.int i)
  | str (x : Str) : Rp K A H (.str x) (.str x)
  | lst {a : Addr} {xs : List V} {ds : List D} : H a = some (.lst xs) → ¬ A a → RpL K A H xs ds → Rp K A H (.ref a) (.list ds)
  | scr {a : Addr} {xs : List V} {ds : List D} : Rd H a (.lst xs) → ¬ A a → RpL K A H xs ds → Rp K A H (.ref a) (.dict [(.none, .list ds)])
  | kl {a : Addr} {xs : List V} {ds : List D} : KL K a xs → RpL K A H xs ds → Rp K A H (.ref a) (.dict [(.none, .list ds)])
  | tup {a : Addr} {xs : List V} {ds : List D} : H a = some (.tup xs) → ¬ A a → RpL K A H xs ds → Rp K A H (.ref a) (.tuple ds)
  | dic {a : Addr} {ks : List (Key × V)} {ds : List D} {kd : List (D × D)} : H a = some (.dK ks) → ¬ A a → RpL K A H (ks.map (·.2)) ds → kd = (ks.map fun p => keyD p.1).zip ds → Rp K A H (.ref a) (.dict kd)
inductive RpL (K : PySem.W.Frag) (A : Addr → Prop) (H : Hp) : List V → List D → Prop
  | nil : RpL K A H [] []
  | cons {v : V} {vs : List V} {d : D} {ds : List D} : Rp K A H v d → RpL K A H vs ds → RpL K A H (v :: vs) (d :: ds)
end

/-- the cell at a is d, whatever is said of a itself -/
inductive Tp (K : PySem.W.Frag) (A : Addr → Prop) (H : Hp) : Addr → D → Prop
  | lst {a : Addr} {xs : List V} {ds : List D} : H a = some (.lst xs) → RpL K A H xs ds → Tp K A H a (.list ds)
  | dic {a : Addr} {ks : List (Key × V)} {ds : List D} {kd : List (D × D)} : H a = some (.dK ks) → RpL K A H (ks.map (·.2)) ds → kd = (ks.map fun p => keyD p.1).zip ds → Tp K A H a (.dict kd)

def isMut : D → Bool
  | .list _ => true
  | .dict _ => true
  | _ => false

section
variable {K : PySem.W.Frag} {A A' : Addr → Prop} {H H' : Hp} {v : V} {d : D} {vs : List V} {ds : List D} {a : Addr}

theorem rd_some {xs : HO} (h : Rd H a xs) : ∃ o, H a = some o := by
  rcases h with h | ⟨o, h⟩
  · exact ⟨_, h⟩
  · exact ⟨_, h⟩

mutual
theorem Rp.step (hk : ∀ a o, H a = some o → ¬ A a → H' a = some o) (ha : ∀ a, A' a → A a ∨ H a = none) : ∀ {v : V} {d : D}, Rp K A H v d → Rp K A' H' v d
  | _, _, .non => .non
  | _, _, .bl b => .bl b
  | _, _, .int i => .int i
  | _, _, .str x => .str x
  | _, _, .lst h n r => by
    refine .lst (hk _ _ h n) (fun z => ?_) (RpL.step hk ha r)
    rcases ha _ z with q | q
    · exact n q
    · rw [q] at h; cases h
  | _, _, .scr h n r => by
    refine .scr ?_ (fun z => ?_) (RpL.step hk ha r)
    · rcases h with h | ⟨o, h⟩
      · exact .inl (hk _ _ h n)
      · exact .inr ⟨o, hk _ _ h n⟩
    · obtain ⟨o, e⟩ := rd_some h
      rcases ha _ z with q | q
      · exact n q
      · rw [q] at e; cases e
  | _, _, .kl h r => .kl h (RpL.step hk ha r)
  | _, _, .tup h n r => by
    refine .tup (hk _ _ h n) (fun z => ?_) (RpL.step hk ha r)
    rcases ha _ z with q | q
    · exact n q
    · rw [q] at h; cases h
  | _, _, .dic h n r e => by
    refine .dic (hk _ _ h n) (fun z => ?_) (RpL.step hk ha r) e
    rcases ha _ z with q | q
    · exact n q
    · rw [q] at h; cases h
theorem RpL.step (hk : ∀ a o, H a = some o → ¬ A a → H' a = some o) (ha : ∀ a, A' a → A a ∨ H a = none) : ∀ {vs : List V} {ds : List D}, RpL K A H vs ds → RpL K A' H' vs ds
  | _, _, .nil => .nil
  | _, _, .cons h r => .cons (Rp.step hk ha h) (RpL.step hk ha r)
end
theorem Rp.mono (s : Same H H') (h : Rp K A H v d) : Rp K A H' v d := h.step (fun a o e _ => s a o e) fun _ z => .inl z
theorem RpL.mono (s : Same H H') (h : RpL K A H vs ds) : RpL K A H' vs ds := h.step (fun a o e _ => s a o e) fun _ z => .inl z
theorem Rp.anti (h : Rp K A H v d) (ha : ∀ a, A' a → A a) : Rp K A' H v d := h.step (fun _ _ e _ => e) fun a z => .inl (ha a z)
theorem RpL.anti (h : RpL K A H vs ds) (ha : ∀ a, A' a → A a) : RpL K A' H vs ds := h.step (fun _ _ e _ => e) fun a z => .inl (ha a z)
theorem Tp.step (h : Tp K A H a d) (hk : ∀ a o, H a = some o → ¬ A a → H' a = some o) (ha : ∀ a, A' a → A a ∨ H a = none) (h0 : ∀ o, H a = some o → H' a = some o) : Tp K A' H' a d := by
  cases h with
  | lst e r => exact .lst (h0 _ e) (r.step hk ha)
  | dic e r z => exact .dic (h0 _ e) (r.step hk ha) z
theorem Tp.mono (s : Same H H') (h : Tp K A H a d) : Tp K A H' a d := h.step (fun a o e _ => s a o e) (fun _ z => .inl z) fun o e => s _ o e
theorem Tp.rp (h : Tp K A H a d) (n : ¬ A a) : Rp K A H (.ref a) d := by
  cases h with
  | lst e r => exact .lst e n r
  | dic e r z => exact .dic e n r z
theorem Tp.some (h : Tp K A H a d) : ∃ o, H a = Option.some o ∧ ∀ xs, o ≠ .tup xs := by
  cases h with
  | lst e r => exact ⟨_, e, fun _ h => nomatch h⟩
  | dic e r z => exact ⟨_, e, fun _ h => nomatch h⟩
theorem RpL.length (h : RpL K A H vs ds) : vs.length = ds.length := by
  induction ds generalizing vs with
  | nil => cases h; rfl
  | cons d ds ih => cases h with | cons _ r => simp [ih r]
theorem RpL.app {vs' : List V} {ds' : List D} (h' : RpL K A H vs' ds') : ∀ {vs : List V} {ds : List D}, RpL K A H vs ds → RpL K A H (vs ++ vs') (ds ++ ds')
  | _, _, .nil => h'
  | _, _, .cons h r => .cons h (RpL.app h' r)
theorem RpL.one (h : Rp K A H v d) : RpL K A H [v] [d] := .cons h .nil
theorem RpL.get : ∀ {vs : List V} {ds : List D} {i : Nat} {d : D}, RpL K A H vs ds → ds[i]? = some d → ∃ v, vs[i]? = some v ∧ Rp K A H v d
  | _, _, _, _, .nil, e => by simp at e
  | _, _, 0, _, .cons h r, e => by simp at e; subst e; exact ⟨_, rfl, h⟩
  | _, _, i + 1, _, .cons h r, e => by
    obtain ⟨v, e', q⟩ := RpL.get (i := i) r (by simpa using e)
    exact ⟨v, by simpa using e', q⟩
theorem RpL.getV : ∀ {vs : List V} {ds : List D} {i : Nat} {v : V}, RpL K A H vs ds → vs[i]? = some v → ∃ d, ds[i]? = some d ∧ Rp K A H v d
  | _, _, _, _, .nil, e => by simp at e
  | _, _, 0, _, .cons h r, e => by simp at e; subst e; exact ⟨_, rfl, h⟩
  | _, _, i + 1, _, .cons h r, e => by
    obtain ⟨v, e', q⟩ := RpL.getV (i := i) r (by simpa using e)
    exact ⟨v, by simpa using e', q⟩
theorem RpL.set {v : V} {d : D} (h : Rp K A H v d) : ∀ {vs : List V} {ds : List D} (i : Nat), RpL K A H vs ds → RpL K A H (vs.set i v) (ds.set i d)
  | _, _, _, .nil => .nil
  | _, _, 0, .cons _ r => .cons h r
  | _, _, i + 1, .cons q r => .cons q (RpL.set h i r)
theorem RpL.take : ∀ {vs : List V} {ds : List D} (n : Nat), RpL K A H vs ds → RpL K A H (vs.take n) (ds.take n)
  | _, _, 0, _ => by simpa using RpL.nil
  | _, _, _ + 1, .nil => .nil
  | _, _, n + 1, .cons h r => .cons h (RpL.take n r)
theorem RpL.drop : ∀ {vs : List V} {ds : List D} (n : Nat), RpL K A H vs ds → RpL K A H (vs.drop n) (ds.drop n)
  | _, _, 0, r => r
  | _, _, _ + 1, .nil => .nil
  | _, _, n + 1, .cons _ r => RpL.drop n r
theorem RpL.eraseIdx : ∀ {vs : List V} {ds : List D} (n : Nat), RpL K A H vs ds → RpL K A H (vs.eraseIdx n) (ds.eraseIdx n)
  | _, _, _, .nil => .nil
  | _, _, 0, .cons _ r => r
  | _, _, n + 1, .cons h r => .cons h (RpL.eraseIdx n r)
theorem RpL.reverse : ∀ {vs : List V} {ds : List D}, RpL K A H vs ds → RpL K A H vs.reverse ds.reverse
  | _, _, .nil => .nil
  | _, _, .cons h r => by rw [List.reverse_cons, List.reverse_cons]; exact RpL.app (.one h) (RpL.reverse r)
theorem RpL.rep (h : RpL K A H vs ds) : ∀ n : Nat, RpL K A H (List.replicate n vs).flatten (List.replicate n ds).flatten
  | 0 => .nil
  | n + 1 => by rw [List.replicate_succ, List.replicate_succ]; exact RpL.app (RpL.rep h n) h
end

/-- no tuple -/
def NT (o : HO) : Prop := ∀ xs, o ≠ .tup xs
theorem NT.lst {xs : List V} : NT (.lst xs) := fun _ h => nomatch h
theorem NT.dK {xs : List (Key × V)} : NT (.dK xs) := fun _ h => nomatch h
/-! ### slots -/
def Av (A0 : Addr → Prop) (B : Nat → Option Addr) (a : Addr) : Prop := A0 a ∨ ∃ i, B i = some a

structure Sim (K : PySem.W.Frag) (H0 : Hp) (A0 : Addr → Prop) (G : List (V × D)) (O : List Nat) (σ : L2.St) (H : Hp) (ρ : PEnv) (B : Nat → Option Addr) : Prop where
  same : Same H0 H
  a0 : ∀ a, A0 a → ∃ o, H a = some o ∧ NT o
  len : ρ.length = σ.length
  bo : ∀ i a, B i = some a → i ∈ O
  inj : ∀ i j a, B i = some a → B j = some a → i = j
  fr : ∀ i a, B i = some a → H0 a = none ∧ ¬ A0 a ∧ ∃ o, H a = some o ∧ NT o
  ob : ∀ i d, i ∈ O → ρ[i]? = some (some d) → isMut d = true → ∃ a, B i = some a ∧ σ[i]? = some (some (.ref a)) ∧ Tp K (Av A0 B) H a d
  slot : ∀ i d, ρ[i]? = some (some d) → (∃ a, B i = some a ∧ σ[i]? = some (some (.ref a)) ∧ Tp K (Av A0 B) H a d) ∨ (B i = none ∧ ∃ v, σ[i]? = some (some v) ∧ Rp K (Av A0 B) H v d)
  gs : ∀ p ∈ G, Rp K (Av A0 B) H p.1 p.2

section
variable {K : PySem.W.Frag} {A0 A : Addr → Prop} {H0 H H' : Hp} {G : List (V × D)} {O O' : List Nat} {σ : L2.St} {ρ : PEnv} {B : Nat → Option Addr} {v : V} {d : D}
theorem Sim.tr (S : Sim K H0 A0 G O σ H ρ B) : ∀ a, Av A0 B a → ∃ o, H a = some o ∧ NT o := fun a h => by
  rcases h with h | ⟨i, h⟩
  · exact S.a0 a h
  · exact (S.fr i a h).2.2
theorem Sim.mono (S : Sim K H0 A0 G O σ H ρ B) (s : Same H H') : Sim K H0 A0 G O σ H' ρ B where
  same := S.same.trans s
  a0 := fun a h => let ⟨o, e, n⟩ := S.a0 a h; ⟨o, s _ _ e, n⟩
  len := S.len
  bo := S.bo
  inj := S.inj
  fr := fun i a h => let ⟨h1, h2, o, e, n⟩ := S.fr i a h; ⟨h1, h2, o, s _ _ e, n⟩
  ob := fun i d hi h m => let ⟨a, h1, h2, h3⟩ := S.ob i d hi h m; ⟨a, h1, h2, h3.mono s⟩
  slot := fun i d h => by
    rcases S.slot i d h with ⟨a, h1, h2, h3⟩ | ⟨h1, v, h2, h3⟩
    · exact .inl ⟨a, h1, h2, h3.mono s⟩
    · exact .inr ⟨h1, v, h2, h3.mono s⟩
  gs := fun p hp => (S.gs p hp).mono s
/-- a is not one of the tracked cells of A -/
theorem Sim.new (S : Sim K H0 A0 G O σ H ρ B) {a : Addr} (h : H a = none) : ¬ Av A0 B a := fun z => by
  obtain ⟨o, e, _⟩ := S.tr a z
  rw [h] at e; cases e
/-- fewer own slots -/
theorem Sim.weak (S : Sim K H0 A0 G O σ H ρ B) (h : ∀ i ∈ O', i ∈ O) : ∃ B', Sim K H0 A0 G O' σ H ρ B' := by
  let B' : Nat → Option Addr := fun i => if i ∈ O' then B i else none
  have sub : ∀ i a, B' i = some a → B i = some a ∧ i ∈ O' := fun i a e => by
    by_cases hi : i ∈ O'
    · exact ⟨by simpa [B', hi] using e, hi⟩
    · simp [B', hi] at e
  have an : ∀ a, Av A0 B' a → Av A0 B a := fun a z => by
    rcases z with z | ⟨i, z⟩
    · exact .inl z
    · exact .inr ⟨i, (sub i a z).1⟩
  have ans : ∀ a, Av A0 B' a → Av A0 B a ∨ H a = none := fun a z => .inl (an a z)
  refine ⟨B', ⟨S.same, S.a0, S.len, fun i a e => (sub i a e).2, fun i j a e e' => S.inj i j a (sub i a e).1 (sub j a e').1, fun i a e => S.fr i a (sub i a e).1, fun i d hi e m => ?_, fun i d e => ?_, fun p hp => (S.gs p hp).anti an⟩⟩
  · obtain ⟨a, h1, h2, h3⟩ := S.ob i d (h i hi) e m
    exact ⟨a, by simp [B', hi, h1], h2, h3.step (fun _ _ q _ => q) ans fun _ q => q⟩
  · rcases S.slot i d e with ⟨a, h1, h2, h3⟩ | ⟨h1, v, h2, h3⟩
    · by_cases hi : i ∈ O'
      · exact .inl ⟨a, by simp [B', hi, h1], h2, h3.step (fun _ _ q _ => q) ans fun _ q => q⟩
      · refine .inr ⟨by simp [B', hi], _, h2, (h3.step (fun _ _ q _ => q) ans fun _ q => q).rp fun z => ?_⟩
        rcases z with z | ⟨j, z⟩
        · exact (S.fr i a h1).2.1 z
        · obtain ⟨z1, z2⟩ := sub j a z
          have := S.inj i j a h1 z1
          subst this
          exact hi z2
    · refine .inr ⟨?_, v, h2, h3.anti an⟩
      by_cases hi : i ∈ O' <;> simp [B', hi, h1]
/-- the slots ts are nobody's own -/
def restr (ts : List Nat) (B : Nat → Option Addr) : Nat → Option Addr := fun j => if ts.contains j then none else B j
theorem restr_one (i j : Nat) (B : Nat → Option Addr) : restr [i] B j = if j = i then none else B j := by
  by_cases h : j = i
  · simp [restr, h]
  · have : ([i].contains j) = false := by simp [h]
    simp [restr, this, h]
theorem restr_sub {ts : List Nat} {B : Nat → Option Addr} {j : Nat} {a : Addr} (h : restr ts B j = some a) : B j = some a := by
  unfold restr at h
  split at h
  · cases h
  · exact h
theorem restr_av {ts : List Nat} {B : Nat → Option Addr} {A0 : Addr → Prop} {a : Addr} (h : Av A0 (restr ts B) a) : Av A0 B a := by
  rcases h with h | ⟨i, h⟩
  · exact .inl h
  · exact .inr ⟨i, restr_sub h⟩
theorem restr_app (ts us : List Nat) (B : Nat → Option Addr) : restr us (restr ts B) = restr (ts ++ us) B := by
  funext j
  unfold restr
  by_cases h1 : us.contains j <;> by_cases h2 : ts.contains j <;> simp_all
theorem restr_nil (B : Nat → Option Addr) : restr [] B = B := by
  funext j
  simp [restr]
/-- a slot takes a value that is not one's own -/
theorem Sim.setS (S : Sim K H0 A0 G O σ H ρ B) {i : Nat} (r : Rp K (Av A0 B) H v d) (hi : i < ρ.length) : Sim K H0 A0 G (O.filter (· != i)) (σ.set i (some v)) H (ρ.set i (some d)) (restr [i] B) := by
  have sub : ∀ j a, restr [i] B j = some a → B j = some a ∧ j ≠ i := fun j a e => by
    rw [restr_one] at e
    by_cases hj : j = i
    · simp [hj] at e
    · exact ⟨by simpa [hj] using e, hj⟩
  have an : ∀ a, Av A0 (restr [i] B) a → Av A0 B a := fun a z => restr_av z
  have ans : ∀ a, Av A0 (restr [i] B) a → Av A0 B a ∨ H a = none := fun a z => .inl (an a z)
  have hiσ : i < σ.length := by rw [← S.len]; exact hi
  refine ⟨S.same, S.a0, by simp [S.len], fun j a e => ?_, fun j k a e e' => S.inj j k a (sub j a e).1 (sub k a e').1, fun j a e => S.fr j a (sub j a e).1, fun j d' hj e m => ?_, fun j d' e => ?_, fun p hp => (S.gs p hp).anti an⟩
  · exact List.mem_filter.mpr ⟨S.bo j a (sub j a e).1, by simp [(sub j a e).2]⟩
  · obtain ⟨hj1, hj2⟩ := List.mem_filter.mp hj
    have hne : j ≠ i := by simpa using hj2
    rw [List.getElem?_set_ne (Ne.symm hne)] at e
    obtain ⟨a, h1, h2, h3⟩ := S.ob j d' hj1 e m
    exact ⟨a, by rw [restr_one, if_neg hne, h1], by rw [List.getElem?_set_ne (Ne.symm hne)]; exact h2, h3.step (fun _ _ q _ => q) ans fun _ q => q⟩
  · by_cases hne : j = i
    · subst hne
      rw [List.getElem?_set_self hi] at e
      cases e
      exact .inr ⟨by rw [restr_one, if_pos rfl], v, by rw [List.getElem?_set_self hiσ], r.anti an⟩
    · rw [List.getElem?_set_ne (Ne.symm hne)] at e
      rw [List.getElem?_set_ne (Ne.symm hne)]
      rcases S.slot j d' e with ⟨a, h1, h2, h3⟩ | ⟨h1, v, h2, h3⟩
      · exact .inl ⟨a, by rw [restr_one, if_neg hne, h1], h2, h3.step (fun _ _ q _ => q) ans fun _ q => q⟩
      · exact .inr ⟨by rw [restr_one, if_neg hne, h1], v, h2, h3.anti an⟩
/-- a slot takes a new cell as its own -/
theorem Sim.setF (S : Sim K H0 A0 G O σ H ρ B) (s : Same H H') {i : Nat} {a : Addr} (hn : H a = none) (r : Tp K (fun b => Av A0 B b ∨ b = a) H' a d) (hi : i < ρ.length) : ∃ B', Sim K H0 A0 G (i :: O) (σ.set i (some (.ref a))) H' (ρ.set i (some d)) B' := by
  let B' : Nat → Option Addr := fun j => if j = i then some a else B j
  have sub : ∀ j b, B' j = some b → (j = i ∧ b = a) ∨ (j ≠ i ∧ B j = some b) := fun j b e => by
    by_cases hj : j = i
    · simp [B', hj] at e; exact .inl ⟨hj, e.symm⟩
    · exact .inr ⟨hj, by simpa [B', hj] using e⟩
  have an : ∀ b, Av A0 B' b → Av A0 B b ∨ b = a := fun b z => by
    rcases z with z | ⟨j, z⟩
    · exact .inl (.inl z)
    · rcases sub j b z with ⟨_, q⟩ | ⟨_, q⟩
      · exact .inr q
      · exact .inl (.inr ⟨j, q⟩)
  have ans : ∀ b, Av A0 B' b → Av A0 B b ∨ H b = none := fun b z => by
    rcases an b z with z | z
    · exact .inl z
    · exact .inr (by rw [z]; exact hn)
  have kp : ∀ b o, H b = some o → ¬ Av A0 B b → H' b = some o := fun b o e _ => s b o e
  have hiσ : i < σ.length := by rw [← S.len]; exact hi
  have na : ¬ A0 a := fun z => by
    obtain ⟨o, e, _⟩ := S.a0 a z
    rw [hn] at e; cases e
  have nb : ∀ j, B j ≠ some a := fun j z => by
    obtain ⟨_, _, o, e, _⟩ := S.fr j a z
    rw [hn] at e; cases e
  refine ⟨B', ⟨S.same.trans s, fun b z => let ⟨o, e, n⟩ := S.a0 b z; ⟨o, s _ _ e, n⟩, by simp [S.len], fun j b e => ?_, fun j k b e e' => ?_, fun j b e => ?_, fun j d' hj e m => ?_, fun j d' e => ?_, fun p hp => (S.gs p hp).step kp ans⟩⟩
  · rcases sub j b e with ⟨q, _⟩ | ⟨_, q⟩
    · rw [q]; exact List.mem_cons_self
    · exact List.mem_cons_of_mem _ (S.bo j b q)
  · rcases sub j b e with ⟨q, q'⟩ | ⟨q, q'⟩
    · rcases sub k b e' with ⟨p, p'⟩ | ⟨p, p'⟩
      · rw [q, p]
      · rw [q'] at p'; exact absurd p' (nb k)
    · rcases sub k b e' with ⟨p, p'⟩ | ⟨p, p'⟩
      · rw [p'] at q'; exact absurd q' (nb j)
      · exact S.inj j k b q' p'
  · rcases sub j b e with ⟨q, q'⟩ | ⟨q, q'⟩
    · rw [q']
      refine ⟨?_, na, r.some⟩
      exact S.same.free hn
    · obtain ⟨h1, h2, o, h3, h4⟩ := S.fr j b q'
      exact ⟨h1, h2, o, s _ _ h3, h4⟩
  · by_cases hne : j = i
    · subst hne
      rw [List.getElem?_set_self hi] at e
      cases e
      exact ⟨a, by simp [B'], by rw [List.getElem?_set_self hiσ], r.step (fun _ _ q _ => q) (fun b z => .inl (an b z)) fun _ q => q⟩
    · rw [List.getElem?_set_ne (Ne.symm hne)] at e
      rw [List.getElem?_set_ne (Ne.symm hne)]
      rcases List.mem_cons.mp hj with hj | hj
      · exact absurd hj hne
      obtain ⟨b, h1, h2, h3⟩ := S.ob j d' hj e m
      exact ⟨b, by simp [B', hne, h1], h2, h3.step kp ans fun o q => s _ _ q⟩
  · by_cases hne : j = i
    · subst hne
      rw [List.getElem?_set_self hi] at e
      cases e
      exact .inl ⟨a, by simp [B'], by rw [List.getElem?_set_self hiσ], r.step (fun _ _ q _ => q) (fun b z => .inl (an b z)) fun _ q => q⟩
    · rw [List.getElem?_set_ne (Ne.symm hne)] at e
      rw [List.getElem?_set_ne (Ne.symm hne)]
      rcases S.slot j d' e with ⟨b, h1, h2, h3⟩ | ⟨h1, v, h2, h3⟩
      · exact .inl ⟨b, by simp [B', hne, h1], h2, h3.step kp ans fun o q => s _ _ q⟩
      · exact .inr ⟨by simp [B', hne, h1], v, h2, h3.step kp ans⟩
/-- an own cell is written -/
theorem Sim.write (S : Sim K H0 A0 G O σ H ρ B) {i : Nat} {a : Addr} {o : HO} (hb : B i = some a) (hs : σ[i]? = some (some (.ref a))) (r : Tp K (Av A0 B) (upd H a o) a d) (hi : i < ρ.length) : Sim K H0 A0 G O σ (upd H a o) (ρ.set i (some d)) B := by
  obtain ⟨f0, f1, o1, f2, f3⟩ := S.fr i a hb
  have nt : NT o := by
    obtain ⟨o', e, n⟩ := r.some
    rw [upd_same] at e
    cases e
    exact n
  have av : Av A0 B a := .inr ⟨i, hb⟩
  have kp : ∀ b q, H b = some q → ¬ Av A0 B b → upd H a o b = some q := fun b q e n => by
    rw [upd_ne (fun z => n (by rw [z]; exact av))]; exact e
  have kn : ∀ b q, H b = some q → b ≠ a → upd H a o b = some q := fun b q e n => by
    rw [upd_ne n]; exact e
  have ans : ∀ b, Av A0 B b → Av A0 B b ∨ H b = none := fun b z => .inl z
  have there : ∀ b, (∃ q, H b = some q ∧ NT q) → ∃ q, upd H a o b = some q ∧ NT q := fun b ⟨q, e, n⟩ => by
    by_cases hb : b = a
    · subst hb; exact ⟨o, upd_same, nt⟩
    · exact ⟨q, kn b q e hb, n⟩
  refine ⟨fun b q e => ?_, fun b z => there b (S.a0 b z), by simp [S.len], S.bo, S.inj, fun j b e => ?_, fun j d' hj e m => ?_, fun j d' e => ?_, fun p hp => (S.gs p hp).step kp ans⟩
  · exact kn b q (S.same b q e) (fun z => by rw [z, f0] at e; cases e)
  · obtain ⟨h1, h2, h3⟩ := S.fr j b e
    exact ⟨h1, h2, there b h3⟩
  · by_cases hne : j = i
    · subst hne
      rw [List.getElem?_set_self hi] at e
      cases e
      exact ⟨a, hb, hs, r⟩
    · rw [List.getElem?_set_ne (Ne.symm hne)] at e
      obtain ⟨b, h1, h2, h3⟩ := S.ob j d' hj e m
      refine ⟨b, h1, h2, h3.step kp ans fun q z => kn b q z fun w => hne ?_⟩
      rw [w] at h1
      exact S.inj j i a h1 hb
  · by_cases hne : j = i
    · subst hne
      rw [List.getElem?_set_self hi] at e
      cases e
      exact .inl ⟨a, hb, hs, r⟩
    · rw [List.getElem?_set_ne (Ne.symm hne)] at e
      rcases S.slot j d' e with ⟨b, h1, h2, h3⟩ | ⟨h1, v, h2, h3⟩
      · refine .inl ⟨b, h1, h2, h3.step kp ans fun q z => kn b q z fun w => hne ?_⟩
        rw [w] at h1
        exact S.inj j i a h1 hb
      · exact .inr ⟨h1, v, h2, h3.step kp ans⟩
/-- one more cell that is kept off (a comprehension's list) -/
theorem Sim.guard (S : Sim K H0 A0 G O σ H ρ B) {a : Addr} (hn : H a = none) (s : Same H H') (ht : ∃ o, H' a = some o ∧ NT o) : Sim K H0 (fun b => A0 b ∨ b = a) G O σ H' ρ B := by
  have kp : ∀ b o, H b = some o → ¬ Av A0 B b → H' b = some o := fun b o e _ => s b o e
  have ans : ∀ b, Av (fun b => A0 b ∨ b = a) B b → Av A0 B b ∨ H b = none := fun b z => by
    rcases z with (z | z) | z
    · exact .inl (.inl z)
    · exact .inr (by rw [z]; exact hn)
    · exact .inl (.inr z)
  refine ⟨S.same.trans s, fun b z => ?_, S.len, S.bo, S.inj, fun i b e => ?_, fun i d hi e m => ?_, fun i d e => ?_, fun p hp => (S.gs p hp).step kp ans⟩
  · rcases z with z | z
    · obtain ⟨o, e, n⟩ := S.a0 b z
      exact ⟨o, s _ _ e, n⟩
    · rw [z]; exact ht
  · obtain ⟨h1, h2, o, h3, h4⟩ := S.fr i b e
    refine ⟨h1, fun z => ?_, o, s _ _ h3, h4⟩
    rcases z with z | z
    · exact h2 z
    · rw [z, hn] at h3; cases h3
  · obtain ⟨b, h1, h2, h3⟩ := S.ob i d hi e m
    exact ⟨b, h1, h2, h3.step kp ans fun o q => s _ _ q⟩
  · rcases S.slot i d e with ⟨b, h1, h2, h3⟩ | ⟨h1, v, h2, h3⟩
    · exact .inl ⟨b, h1, h2, h3.step kp ans fun o q => s _ _ q⟩
    · exact .inr ⟨h1, v, h2, h3.step kp ans⟩
/-- one more ghost -/
theorem Sim.ghost (S : Sim K H0 A0 G O σ H ρ B) {G' : List (V × D)} (h : ∀ p ∈ G', Rp K (Av A0 B) H p.1 p.2) : Sim K H0 A0 (G' ++ G) O σ H ρ B :=
  ⟨S.same, S.a0, S.len, S.bo, S.inj, S.fr, S.ob, S.slot, fun p hp => (List.mem_append.mp hp).elim (h p) (S.gs p)⟩
theorem Sim.unghost {G' : List (V × D)} (S : Sim K H0 A0 (G' ++ G) O σ H ρ B) : Sim K H0 A0 G O σ H ρ B :=
  ⟨S.same, S.a0, S.len, S.bo, S.inj, S.fr, S.ob, S.slot, fun p hp => S.gs p (List.mem_append_right _ hp)⟩
/-- a slot is forgotten -/
theorem Sim.drop (S : Sim K H0 A0 G O σ H ρ B) (i : Nat) (hO : i ∉ O) : Sim K H0 A0 G O (σ.set i none) H (ρ.set i none) B := by
  have nb : ∀ j a, B j = some a → j ≠ i := fun j a e z => hO (z ▸ S.bo j a e)
  have ne : ∀ j d, (ρ.set i none)[j]? = some (some d) → j ≠ i ∧ ρ[j]? = some (some d) := fun j d e => by
    by_cases hj : j = i
    · subst hj
      by_cases hl : j < ρ.length
      · rw [List.getElem?_set_self hl] at e; cases e
      · rw [List.getElem?_eq_none (by simpa using hl)] at e; cases e
    · rw [List.getElem?_set_ne (Ne.symm hj)] at e
      exact ⟨hj, e⟩
  refine ⟨S.same, S.a0, by simp [S.len], S.bo, S.inj, S.fr, fun j d hj e m => ?_, fun j d e => ?_, S.gs⟩
  · obtain ⟨h, e⟩ := ne j d e
    rw [List.getElem?_set_ne (Ne.symm h)]
    exact S.ob j d hj e m
  · obtain ⟨h, e⟩ := ne j d e
    rw [List.getElem?_set_ne (Ne.symm h)]
    exact S.slot j d e
end
end Pm

namespace Pm
open PySem PySem.Spec PyProof.Rows L2

/-- weak, strong, fresh -/
inductive Md where | w | s | f
  deriving DecidableEq

def WRp (K : PySem.W.Frag) (A : Addr → Prop) (H : Hp) (v : V) (d : D) : Prop := Rp K A H v d ∨ ∃ a, v = V.ref a ∧ Tp K A H a d
def Res (K : PySem.W.Frag) (A : Addr → Prop) (He H' : Hp) : Md → V → D → Prop
  | .w, v, d => WRp K A H' v d
  | .s, v, d => Rp K A H' v d
  | .f, v, d => (∃ a, v = V.ref a ∧ He a = none ∧ Tp K (fun b => A b ∨ b = a) H' a d) ∨ (Rp K A H' v d ∧ isMut d = false)
/-- all that is kept off is tracked -/
def Tr (A : Addr → Prop) (H : Hp) : Prop := ∀ a, A a → ∃ o, H a = some o ∧ NT o

section
variable {K : PySem.W.Frag} {A A' : Addr → Prop} {H He H' H'' : Hp} {v : V} {d : D} {m : Md}
theorem Tr.mono (t : Tr A H) (s : Same H H') : Tr A H' := fun a h => let ⟨o, e, n⟩ := t a h; ⟨o, s _ _ e, n⟩
theorem Tr.no (t : Tr A H) {a : Addr} (h : H a = none) : ¬ A a := fun z => by
  obtain ⟨o, e, _⟩ := t a z
  rw [h] at e; cases e
theorem WRp.mono (s : Same H H') (h : WRp K A H v d) : WRp K A H' v d := by
  rcases h with h | ⟨a, e, h⟩
  · exact .inl (h.mono s)
  · exact .inr ⟨a, e, h.mono s⟩
theorem Res.mono (s : Same H' H'') (h : Res K A He H' m v d) : Res K A He H'' m v d := by
  cases m with
  | w => exact WRp.mono s h
  | s => exact Rp.mono s h
  | f =>
    rcases h with ⟨a, e, n, h⟩ | ⟨h, n⟩
    · exact .inl ⟨a, e, n, h.mono s⟩
    · exact .inr ⟨h.mono s, n⟩
theorem Res.back (s : Same He H) (h : Res K A H H' m v d) : Res K A He H' m v d := by
  cases m with
  | w => exact h
  | s => exact h
  | f =>
    rcases h with ⟨a, e, n, h⟩ | h
    · exact .inl ⟨a, e, s.free n, h⟩
    · exact .inr h
theorem Res.toW (h : Res K A He H' m v d) : WRp K A H' v d := by
  cases m with
  | w => exact h
  | s => exact .inl h
  | f =>
    rcases h with ⟨a, e, n, h⟩ | h
    · exact .inr ⟨a, e, h.step (fun _ _ q _ => q) (fun _ z => .inl (.inl z)) fun _ q => q⟩
    · exact .inl h.1
theorem Res.toS (t : Tr A He) (hm : m ≠ .w) (h : Res K A He H' m v d) : Rp K A H' v d := by
  cases m with
  | w => exact absurd rfl hm
  | s => exact h
  | f =>
    rcases h with ⟨a, e, n, h⟩ | h
    · subst e
      exact (h.step (fun _ _ q _ => q) (fun _ z => .inl (.inl z)) fun _ q => q : Tp K A H' a d).rp (t.no n)
    · exact h.1
/-- a value without a cell of its own to be written -/
theorem Res.flat (h : Rp K A H' v d) (n : isMut d = false) : Res K A He H' m v d := by
  cases m with
  | w => exact .inl h
  | s => exact h
  | f => exact .inr ⟨h, n⟩
theorem Res.int {i : Int} : Res K A He H' m (.int i) (.int i) := Res.flat (.int i) rfl
theorem Res.bl {b : Bool} : Res K A He H' m (.bl b) (.bool b) := Res.flat (.bl b) rfl
theorem Res.non : Res K A He H' m .non .none := Res.flat .non rfl
theorem Res.str {b : Str} : Res K A He H' m (.str b) (.str b) := Res.flat (.str b) rfl
/-- a new list, a new tuple -/
theorem Res.newL {p : Addr} {vs : List V} {ds : List D} (t : Tr A H) (hn : H p = none) (r : RpL K A H vs ds) (s : Same He H) : Res K A He (upd H p (.lst vs)) .f (.ref p) (.list ds) := by
  refine .inl ⟨p, rfl, s.free hn, .lst upd_same ?_⟩
  refine r.step (fun a o e _ => ?_) fun a z => ?_
  · rw [upd_ne (ne_of_none e hn)]; exact e
  · rcases z with z | z
    · exact .inl z
    · exact .inr (by rw [z]; exact hn)
theorem same_upd {p : Addr} {o : HO} (h : H p = none) : Same H (upd H p o) := fun b x e => by
  rw [upd_ne (ne_of_none e h)]; exact e
theorem Rp.newT {p : Addr} {vs : List V} {ds : List D} (t : Tr A H) (hn : H p = none) (r : RpL K A H vs ds) : Rp K A (upd H p (.tup vs)) (.ref p) (.tuple ds) :=
  .tup upd_same (t.no hn) (r.mono (same_upd hn))
theorem WRp.int {i : Int} (h : WRp K A H v (.int i)) : v = .int i := by
  rcases h with h | ⟨a, e, h⟩
  · cases h; rfl
  · cases h
theorem WRp.bl {i : Bool} (h : WRp K A H v (.bool i)) : v = .bl i := by
  rcases h with h | ⟨a, e, h⟩
  · cases h; rfl
  · cases h
theorem WRp.non (h : WRp K A H v .none) : v = .non := by
  rcases h with h | ⟨a, e, h⟩
  · cases h; rfl
  · cases h
theorem WRp.str {i : Str} (h : WRp K A H v (.str i)) : v = .str i := by
  rcases h with h | ⟨a, e, h⟩
  · cases h; rfl
  · cases h
theorem WRp.lst {ds : List D} (h : WRp K A H v (.list ds)) : ∃ a xs, v = .ref a ∧ H a = some (.lst xs) ∧ RpL K A H xs ds := by
  rcases h with h | ⟨a, e, h⟩
  · cases h with
    | lst h n r => exact ⟨_, _, rfl, h, r⟩
  · cases h with
    | lst h r => exact ⟨_, _, e, h, r⟩
theorem WRp.tup {ds : List D} (h : WRp K A H v (.tuple ds)) : ∃ a xs, v = .ref a ∧ H a = some (.tup xs) ∧ ¬ A a ∧ RpL K A H xs ds := by
  rcases h with h | ⟨a, e, h⟩
  · cases h with
    | tup h n r => exact ⟨_, _, rfl, h, n, r⟩
  · cases h
theorem WRp.scr {ds : List D} (h : WRp K A H v (.dict [(.none, .list ds)])) : ∃ a xs, v = .ref a ∧ SqL K H a xs ∧ RpL K A H xs ds := by
  rcases h with h | ⟨a, e, h⟩
  · cases h with
    | scr h n r => exact ⟨_, _, rfl, .inl h, r⟩
    | kl h r => exact ⟨_, _, rfl, .inr h, r⟩
    | dic h n r e =>
      rename_i ks ds'
      cases ks with
      | nil => simp at e
      | cons p ks =>
        cases ds' with
        | nil => simp at e
        | cons d' ds' =>
          simp only [List.map_cons, List.zip_cons_cons, List.cons.injEq, Prod.mk.injEq] at e
          obtain ⟨⟨e, _⟩, _⟩ := e
          obtain ⟨k, _⟩ := p
          cases k <;> cases e
  · cases h with
    | dic h r e =>
      rename_i ks ds'
      cases ks with
      | nil => simp at e
      | cons p ks =>
        cases ds' with
        | nil => simp at e
        | cons d' ds' =>
          simp only [List.map_cons, List.zip_cons_cons, List.cons.injEq, Prod.mk.injEq] at e
          obtain ⟨⟨e, _⟩, _⟩ := e
          obtain ⟨k, _⟩ := p
          cases k <;> cases e
end

/-! ### judgements -/
def simT (K : PySem.W.Frag) (O : List Nat) (m : Md) (f : Xp) : TE := fun σ H Q => ∃ H0 A0 G ρ B d, Sim K H0 A0 G O σ H ρ B ∧ f ρ = some d ∧ ∀ v H', Same H H' → Res K (Av A0 B) H H' m v d → Q v H'
structure SE (X : Cx) (O : List Nat) (m : Md) (e : Expr) (f : Xp) : Prop where
  pe : PE X e (simT X.K O m f)
def simTT (K : PySem.W.Frag) (O : List Nat) (f : PEnv → Option Bool) : TT := fun σ H Q => ∃ H0 A0 G ρ B b, Sim K H0 A0 G O σ H ρ B ∧ f ρ = some b ∧ ∀ H', Same H H' → Q b H'
structure ST (X : Cx) (O : List Nat) (e : Expr) (f : PEnv → Option Bool) : Prop where
  pt : PT X e (simTT X.K O f)
def ResL (K : PySem.W.Frag) (A : Addr → Prop) (H : Hp) (strong : Bool) (vs : List V) (ds : List D) : Prop := if strong then RpL K A H vs ds else Paired (WRp K A H) vs ds
def simA (K : PySem.W.Frag) (O : List Nat) (strong : Bool) (f : PEnv → Option (List D)) : TA := fun σ H Q => ∃ H0 A0 G ρ B ds, Sim K H0 A0 G O σ H ρ B ∧ f ρ = some ds ∧ ∀ vs H', Same H H' → ResL K (Av A0 B) H' strong vs ds → Q vs H'
structure SA (X : Cx) (O : List Nat) (strong : Bool) (es : List Expr) (f : PEnv → Option (List D)) : Prop where
  pa : PA X es (simA X.K O strong f)

theorem pe_imp {X : Cx} {e : Expr} {t t' : TE} (h : PE X e t) (hi : ∀ σ H Q, t' σ H Q → t σ H Q) : PE X e t' := ⟨fun pins s σ H Q I q => h.run pins s σ H Q I (hi _ _ _ q)⟩
theorem pt_imp {X : Cx} {e : Expr} {t t' : TT} (h : PT X e t) (hi : ∀ σ H Q, t' σ H Q → t σ H Q) : PT X e t' := ⟨fun pins s σ H Q I q => h.run pins s σ H Q I (hi _ _ _ q)⟩
theorem pa_imp {X : Cx} {e : List Expr} {t t' : TA} (h : PA X e t) (hi : ∀ σ H Q, t' σ H Q → t σ H Q) : PA X e t' := ⟨fun pos pins s σ H Q I q => h.run pos pins s σ H Q I (hi _ _ _ q)⟩
theorem ps_imp {X : Cx} {e : Stmt} {t t' : TS} (h : PS X e t) (hi : ∀ D σ H, t' D σ H → t D σ H) : PS X e t' := ⟨fun pins s σ H Q I q => h.run pins s σ H Q I (hi _ _ _ q)⟩
theorem pss_imp {X : Cx} {e : List Stmt} {t t' : TS} (h : PSs X e t) (hi : ∀ D σ H, t' D σ H → t D σ H) : PSs X e t' := ⟨fun pins s σ H Q I q => h.run pins s σ H Q I (hi _ _ _ q)⟩

/-! ### names, constants -/
def xVar (i : Nat) : Xp := fun ρ => ρ.getD i none
def xC (d : D) : Xp := fun _ => some d
theorem getD_some {ρ : PEnv} {i : Nat} {d : D} (h : ρ.getD i none = some d) : ρ[i]? = some (some d) := by
  rw [List.getD_eq_getElem?_getD] at h
  cases e : ρ[i]? with
  | none => rw [e] at h; cases h
  | some x => rw [e] at h; exact congrArg some h
section
variable {X : Cx} {O : List Nat} {m ma mb : Md} {a b c e : Expr} {es : List Expr} {fa fb fc f : Xp} {pos : Pos}
theorem se_var (i : Nat) {x : Str} (hN : X.N[i]? = some x := by rfl) (hv : Vis X.env.scope x := by first | exact Or.inl rfl | exact Or.inr (Or.inl rfl) | exact Or.inr (Or.inr rfl)) (ho : O.contains i = false := by rfl)
    (hd : (x == ("__debug__" : Str)) = false := by decide) (hcd : (x == ("__classdict__" : Str)) = false := by decide) : SE X O .s (.Name x pos) (xVar i) := by
  refine ⟨pe_imp (pe_var hN hv hd hcd) fun σ H Q h => ?_⟩
  obtain ⟨H0, A0, G, ρ, B, d, S, e, k⟩ := h
  rcases S.slot i d (getD_some e) with ⟨a, h1, _, _⟩ | ⟨_, v, h2, h3⟩
  · have := S.bo i a h1
    simp at ho
    exact absurd this ho
  · exact ⟨v, h2, k v H (Same.refl H) h3⟩
theorem se_varW (i : Nat) {x : Str} (hN : X.N[i]? = some x := by rfl) (hv : Vis X.env.scope x := by first | exact Or.inl rfl | exact Or.inr (Or.inl rfl) | exact Or.inr (Or.inr rfl))
    (hd : (x == ("__debug__" : Str)) = false := by decide) (hcd : (x == ("__classdict__" : Str)) = false := by decide) : SE X O .w (.Name x pos) (xVar i) := by
  refine ⟨pe_imp (pe_var hN hv hd hcd) fun σ H Q h => ?_⟩
  obtain ⟨H0, A0, G, ρ, B, d, S, e, k⟩ := h
  rcases S.slot i d (getD_some e) with ⟨a, h1, h2, h3⟩ | ⟨_, v, h2, h3⟩
  · exact ⟨_, h2, k _ H (Same.refl H) (.inr ⟨a, rfl, h3⟩)⟩
  · exact ⟨v, h2, k v H (Same.refl H) (.inl h3)⟩
theorem se_int {i j} : SE X O .f (.Constant (.int i) j pos) (xC (.int i)) :=
  ⟨pe_imp pe_int fun σ H Q ⟨H0, A0, G, ρ, B, d, S, e, k⟩ => by cases e; exact k _ H (Same.refl H) Res.int⟩
theorem se_bl {i j} : SE X O .f (.Constant (.bool i) j pos) (xC (.bool i)) :=
  ⟨pe_imp pe_bl fun σ H Q ⟨H0, A0, G, ρ, B, d, S, e, k⟩ => by cases e; exact k _ H (Same.refl H) Res.bl⟩
theorem se_non {j} : SE X O .f (.Constant .none j pos) (xC .none) :=
  ⟨pe_imp pe_non fun σ H Q ⟨H0, A0, G, ρ, B, d, S, e, k⟩ => by cases e; exact k _ H (Same.refl H) Res.non⟩
theorem se_str {i j} : SE X O .f (.Constant (.str i) j pos) (xC (.str i)) :=
  ⟨pe_imp pe_str fun σ H Q ⟨H0, A0, G, ρ, B, d, S, e, k⟩ => by cases e; exact k _ H (Same.refl H) Res.str⟩

/-! ### operators by values -/
def xBin (g : D → D → Option D) (fa fb : Xp) : Xp := fun ρ => (fa ρ).bind fun x => (fb ρ).bind fun y => g x y
def xUn (g : D → Option D) (fa : Xp) : Xp := fun ρ => (fa ρ).bind g
def rD (K : PySem.W.Frag) (m : Md) (g : D → D → Option D) : R2 := fun x y H Q => ∃ A dx dy d, Tr A H ∧ WRp K A H x dx ∧ WRp K A H y dy ∧ g dx dy = some d ∧ ∀ v H', Same H H' → Res K A H H' m v d → Q v H'
def rD1 (K : PySem.W.Frag) (m : Md) (g : D → Option D) : V → Hp → VK → Prop := fun x H Q => ∃ A dx d, Tr A H ∧ WRp K A H x dx ∧ g dx = some d ∧ ∀ v H', Same H H' → Res K A H H' m v d → Q v H'
theorem bind2 {α β : Type} {a : Option α} {b : α → Option β} {c : β} (h : a.bind b = some c) : ∃ x, a = some x ∧ b x = some c := Option.bind_eq_some_iff.mp h
theorem tOp_of {g : D → D → Option D} (σ : L2.St) (H : Hp) (Q : VK) (h : simT X.K O m (xBin g fa fb) σ H Q) : tOp (rD X.K m g) (simT X.K O ma fa) (simT X.K O mb fb) σ H Q := by
  obtain ⟨H0, A0, G, ρ, B, d, S, e, k⟩ := h
  obtain ⟨x, ex, e⟩ := bind2 e
  obtain ⟨y, ey, e⟩ := bind2 e
  refine ⟨H0, A0, G, ρ, B, x, S, ex, fun v H1 s1 r1 => ⟨H0, A0, G, ρ, B, y, S.mono s1, ey, fun u H2 s2 r2 => ?_⟩⟩
  exact ⟨Av A0 B, x, y, d, (S.mono (s1.trans s2)).tr, r1.toW.mono s2, r2.toW, e, fun z H3 s3 r3 => k z H3 ((s1.trans s2).trans s3) (r3.back (s1.trans s2))⟩
theorem se_op {op : Operator} {g : D → D → Option D} (ho : OpR X (binaryOp op) (rD X.K m g)) (ha : SE X O ma a fa) (hb : SE X O mb b fb) : SE X O m (.BinOp a op b pos) (xBin g fa fb) :=
  ⟨pe_imp (pe_op ho ha.pe hb.pe) tOp_of⟩
theorem se_cmp {op : CmpOp} {g : D → D → Option D} (ho : OpR X (compareOp op) (rD X.K m g)) (ha : SE X O ma a fa) (hb : SE X O mb b fb) (hm : behindInMarks op b = false := by first | exact nomark _ | rfl) : SE X O m (.Compare a [op] [b] pos) (xBin g fa fb) :=
  ⟨pe_imp (pe_cmpR ho ha.pe hb.pe hm) tOp_of⟩
/-- a comparison's answer as a test -/
def tB2 (g : D → D → Option D) (fa fb : Xp) : PEnv → Option Bool := fun ρ => (fa ρ).bind fun x => (fb ρ).bind fun y => (g x y).bind fun z => match z with | .bool b => some b | _ => none
def dB (d : D) : Option Bool := match d with | .bool b => some b | _ => none
theorem dB_some {d : D} {b : Bool} (h : dB d = some b) : d = .bool b := by
  cases d <;> simp_all [dB]
def tOf (f : Xp) : PEnv → Option Bool := fun ρ => (f ρ).bind dB
theorem st_cmp {op : CmpOp} {g : D → D → Option D} (ho : OpR X (compareOp op) (rD X.K .f g)) (ha : SE X O ma a fa) (hb : SE X O mb b fb) (hm : behindInMarks op b = false := by first | exact nomark _ | rfl) : ST X O (.Compare a [op] [b] pos) (tOf (xBin g fa fb)) := by
  refine ⟨pt_imp (pt_cmpR ho ha.pe hb.pe hm) fun σ H Q h => ?_⟩
  obtain ⟨H0, A0, G, ρ, B, b, S, e, k⟩ := h
  obtain ⟨d, ed, e⟩ := bind2 e
  have := dB_some e
  subst this
  refine tOp_of (m := .f) σ H _ ⟨H0, A0, G, ρ, B, _, S, ed, fun v H' s r => ?_⟩
  exact ⟨b, r.toW.bl, k H' s⟩
theorem se_un {op : UnaryOp} {g : D → Option D} (ho : UnR X (unaryOp op) (rD1 X.K m g)) (ha : SE X O ma a fa) : SE X O m (.UnaryOp op a pos) (xUn g fa) := by
  refine ⟨pe_imp (pe_un ho ha.pe) fun σ H Q h => ?_⟩
  obtain ⟨H0, A0, G, ρ, B, d, S, e, k⟩ := h
  obtain ⟨x, ex, e⟩ := bind2 e
  exact ⟨H0, A0, G, ρ, B, x, S, ex, fun v H1 s1 r1 => ⟨Av A0 B, x, d, (S.mono s1).tr, r1.toW, e, fun z H3 s3 r3 => k z H3 (s1.trans s3) (r3.back s1)⟩⟩

/-! ### tests -/
def tNotP (f : PEnv → Option Bool) : PEnv → Option Bool := fun ρ => (f ρ).map (!·)
def tAndP (f g : PEnv → Option Bool) : PEnv → Option Bool := fun ρ => (f ρ).bind fun b => if b then g ρ else some false
def tOrP (f g : PEnv → Option Bool) : PEnv → Option Bool := fun ρ => (f ρ).bind fun b => if b then some true else g ρ
theorem st_not {f : PEnv → Option Bool} (h : ST X O a f) : ST X O (.UnaryOp .Not a pos) (tNotP f) := by
  refine ⟨pt_imp (pt_not h.pt) fun σ H Q q => ?_⟩
  obtain ⟨H0, A0, G, ρ, B, b, S, e, k⟩ := q
  obtain ⟨x, ex, e⟩ := Option.map_eq_some_iff.mp e
  subst e
  exact ⟨H0, A0, G, ρ, B, x, S, ex, fun H' s => k H' s⟩
/-- and, or of tests -/
structure SW (X : Cx) (O : List Nat) (e : Expr) (f : PEnv → Option Bool) : Prop where
  pw : PW X e (simTT X.K O f)
theorem SW.st {f : PEnv → Option Bool} (h : SW X O a f) : ST X O a f := ⟨h.pw.pt⟩
theorem sw_and1 {f : PEnv → Option Bool} (h : ST X O a f) : SW X O (.BoolOp .And [a] pos) f := ⟨pw_and1 h.pt⟩
theorem sw_or1 {f : PEnv → Option Bool} (h : ST X O a f) : SW X O (.BoolOp .Or [a] pos) f := ⟨pw_or1 h.pt⟩
theorem pw_imp {e : Expr} {t t' : TT} (h : PW X e t) (hi : ∀ σ H Q, t' σ H Q → t σ H Q) : PW X e t' := ⟨fun w pins s σ H Q I q => h.run w pins s σ H Q I (hi _ _ _ q)⟩
theorem sw_and {f g : PEnv → Option Bool} (h : ST X O a f) (h' : SW X O (.BoolOp .And (b :: es) pos) g) : SW X O (.BoolOp .And (a :: b :: es) pos) (tAndP f g) := by
  refine ⟨pw_imp (pw_and h.pt h'.pw) fun σ H Q q => ?_⟩
  obtain ⟨H0, A0, G, ρ, B, b, S, e, k⟩ := q
  obtain ⟨x, ex, e⟩ := bind2 e
  refine ⟨H0, A0, G, ρ, B, x, S, ex, fun H1 s1 => ?_⟩
  cases x with
  | true => exact ⟨H0, A0, G, ρ, B, b, S.mono s1, e, fun H' s => k H' (s1.trans s)⟩
  | false => cases e; exact k H1 s1
theorem sw_or {f g : PEnv → Option Bool} (h : ST X O a f) (h' : SW X O (.BoolOp .Or (b :: es) pos) g) : SW X O (.BoolOp .Or (a :: b :: es) pos) (tOrP f g) := by
  refine ⟨pw_imp (pw_or h.pt h'.pw) fun σ H Q q => ?_⟩
  obtain ⟨H0, A0, G, ρ, B, b, S, e, k⟩ := q
  obtain ⟨x, ex, e⟩ := bind2 e
  refine ⟨H0, A0, G, ρ, B, x, S, ex, fun H1 s1 => ?_⟩
  cases x with
  | true => cases e; exact k H1 s1
  | false => exact ⟨H0, A0, G, ρ, B, b, S.mono s1, e, fun H' s => k H' (s1.trans s)⟩
/-- a value's truth -/
def oTru : D → Option Bool
  | .none => some false
  | .bool b => some b
  | .int i => some (i != 0)
  | .list xs => some (!xs.isEmpty)
  | .tuple xs => some (!xs.isEmpty)
  | .dict [] => some false
  | .dict ((.int _, _) :: _) => some true
  | .dict ((.str _, _) :: _) => some true
  | _ => none
theorem empty_of {K : PySem.W.Frag} {A : Addr → Prop} {H : Hp} {vs : List V} {ds : List D} (r : RpL K A H vs ds) : (!vs.isEmpty) = !ds.isEmpty := by
  cases r <;> rfl
theorem tru_of {K : PySem.W.Frag} {A : Addr → Prop} {H : Hp} {v : V} {d : D} {b : Bool} (h : WRp K A H v d) (e : oTru d = some b) : TruV K v H b := by
  have dict : ∀ {a : Addr} {ks : List (Key × V)} {ds : List D} {kd : List (D × D)}, H a = some (.dK ks) → RpL K A H (ks.map (·.2)) ds → kd = (ks.map fun p => keyD p.1).zip ds → oTru (.dict kd) = some b → TruV K (.ref a) H b := fun {a ks ds kd} h1 h2 h3 h4 => by
    refine .inr (.inr ⟨ks, h1, ?_⟩)
    subst h3
    cases ks with
    | nil => simp [oTru] at h4; simp [← h4]
    | cons p ks =>
      cases h2 with
      | cons h2 h2' =>
        obtain ⟨k, v⟩ := p
        cases k <;> simp [oTru, keyD] at h4 <;> simp [← h4]
  rcases h with h | ⟨a, z, h⟩
  · cases h with
    | non => cases e; exact rfl
    | bl c => cases e; exact rfl
    | int i => cases e; exact rfl
    | str x => cases e
    | lst h n r => cases e; exact .inl ⟨_, .inl (.inl h), (empty_of r).symm⟩
    | tup h n r => cases e; exact .inr (.inl ⟨_, .inl (.inl h), (empty_of r).symm⟩)
    | scr h n r => simp [oTru] at e
    | kl h r => simp [oTru] at e
    | dic h n r q => exact dict h r q e
  · subst z
    cases h with
    | lst h r => cases e; exact .inl ⟨_, .inl (.inl h), (empty_of r).symm⟩
    | dic h r q => exact dict h r q e
def tTru (f : Xp) : PEnv → Option Bool := fun ρ => (f ρ).bind oTru
theorem st_val (h : SE X O m a fa) (he : ∀ whole, isTrue a X.env whole = (do let v ← whole; standAt a.pos; holding [v] (truthy v)) := by intro _; rfl) : ST X O a (tTru fa) := by
  refine ⟨pt_imp (pt_truth h.pe he) fun σ H Q q => ?_⟩
  obtain ⟨H0, A0, G, ρ, B, b, S, e, k⟩ := q
  obtain ⟨x, ex, e⟩ := bind2 e
  exact ⟨H0, A0, G, ρ, B, x, S, ex, fun v H1 s1 r1 => ⟨b, tru_of r1.toW e, k H1 s1⟩⟩
/-- not as a value -/
def oNot (d : D) : Option D := (oTru d).map fun b => .bool (!b)
end
end Pm

namespace Pm
open PySem PySem.Spec PyProof.Rows L2

def shp (d : D) : Bool := SeqAt.shaped d
/-! ### what the operators do -/
def oAdd : D → D → Option D
  | .int a, .int b => some (.int (a + b))
  | .list a, .list b => if a.length + b.length ≤ 16777216 then some (.list (a ++ b)) else none
  | .tuple a, .tuple b => if a.length + b.length ≤ 16777216 then some (.tuple (a ++ b)) else none
  | .int a, .bool b => some (.int (a + (if b then 1 else 0)))
  | _, _ => none
def oSub : D → D → Option D
  | .int a, .int b => some (.int (a - b))
  | _, _ => none
def mulOk (a b : Int) : Bool := decide (a.natAbs < 2 ^ 63) || decide (b.natAbs < 2 ^ 63) || decide (a.natAbs.log2 + b.natAbs.log2 < 1000000)
def oMul : D → D → Option D
  | .int a, .int b => if mulOk a b then some (.int (a * b)) else none
  | .list a, .int k => if -(2 ^ 62) ≤ k ∧ k < 2 ^ 62 ∧ a.length * k.toNat ≤ 16777216 then some (.list (List.replicate k.toNat a).flatten) else none
  | .tuple a, .int k => if a ≠ [] ∧ 2 ≤ k ∧ k ≤ 1000 ∧ a.length ≤ 1000 then some (.tuple (List.replicate k.toNat a).flatten) else none
  | _, _ => none
def divOk (b : Int) : Bool := decide (b ≠ 0) && decide (b.natAbs.log2 < 9000)
def oFdiv : D → D → Option D
  | .int a, .int b => if divOk b then some (.int (a.fdiv b)) else none
  | _, _ => none
def oMod : D → D → Option D
  | .int a, .int b => if b ≠ 0 then some (.int (a.fmod b)) else none
  | _, _ => none
def oPow : D → D → Option D
  | .int a, .int b => if 0 ≤ b ∧ b ≤ 1000000 ∧ a.natAbs < 2 ^ 64 then some (.int (a ^ b.toNat)) else none
  | _, _ => none
def oShl : D → D → Option D
  | .int a, .int b => if 0 ≤ b ∧ b ≤ 1000000 ∧ a.natAbs < 2 ^ 64 then some (.int (a * 2 ^ b.toNat)) else none
  | _, _ => none
def oEq (x y : D) : Option D := if shp x && shp y then some (.bool (PyData.eqv x y)) else none
def oNe (x y : D) : Option D := if shp x && shp y then some (.bool (!PyData.eqv x y)) else none
def oLt : D → D → Option D
  | .int a, .int b => some (.bool (decide (a < b)))
  | _, _ => none
def oLe : D → D → Option D
  | .int a, .int b => some (.bool (decide (a ≤ b)))
  | _, _ => none
def oGt : D → D → Option D
  | .int a, .int b => some (.bool (decide (b < a)))
  | _, _ => none
def oGe : D → D → Option D
  | .int a, .int b => some (.bool (decide (b ≤ a)))
  | _, _ => none
def isNone : D → Bool
  | .none => true
  | _ => false
def oIs : D → D → Option D
  | x, .none => some (.bool (isNone x))
  | _, _ => none
def oIsNot : D → D → Option D
  | x, .none => some (.bool (!isNone x))
  | _, _ => none
def oIn : D → D → Option D
  | x, .list ys => if shp x && PyData.canLayAll0 ys then some (.bool (ys.any fun z => PyData.eqv z x)) else none
  | x, .tuple ys => if shp x && PyData.canLayAll0 ys then some (.bool (ys.any fun z => PyData.eqv z x)) else none
  | _, _ => none
def oNotIn : D → D → Option D
  | x, .list ys => if shp x && PyData.canLayAll0 ys then some (.bool (!ys.any fun z => PyData.eqv z x)) else none
  | x, .tuple ys => if shp x && PyData.canLayAll0 ys then some (.bool (!ys.any fun z => PyData.eqv z x)) else none
  | _, _ => none
def ixD (xs : List D) (i : Int) : Option D := atI xs i
def oIx : D → D → Option D
  | .list xs, .int i => atI xs i
  | .tuple xs, .int i => atI xs i
  | .dict [(.none, .list xs)], .int i => atI xs i
  | _, _ => none
def oNeg : D → Option D
  | .int i => some (.int (-i))
  | _ => none

section
variable {K : PySem.W.Frag} {A : Addr → Prop} {H H' : Hp} {v : V} {d : D} {vs : List V} {ds : List D}
mutual
theorem Rp.dp : ∀ {v : V} {d : D}, Rp K A H v d → d.canLay0 = true → Dp K H v d
  | _, _, .non, _ => .non
  | _, _, .bl b, _ => .bl b
  | _, _, .int i, _ => .int i
  | _, _, .str x, _ => .str x
  | _, _, .lst h n r, c => .lst (.inl (.inl h)) (RpL.dp r (by simpa [PyData.canLay0] using c))
  | _, _, .tup h n r, c => .tup (.inl (.inl h)) (RpL.dp r (by simpa [PyData.canLay0] using c))
  | _, _, .scr h n r, c => by simp [PyData.canLay0] at c
  | _, _, .kl h r, c => by simp [PyData.canLay0] at c
  | _, _, .dic h n r e, c => by simp [PyData.canLay0] at c
theorem RpL.dp : ∀ {vs : List V} {ds : List D}, RpL K A H vs ds → PyData.canLayAll0 ds = true → DpAll K H vs ds
  | _, _, .nil, _ => .nil
  | _, _, .cons h r, c => by
    simp only [PyData.canLayAll0, Bool.and_eq_true] at c
    exact .cons (Rp.dp h c.1) (RpL.dp r c.2)
end
theorem WRp.dpc (h : WRp K A H v d) (c : d.canLay0 = true) : Dp K H v d := by
  rcases h with h | ⟨a, e, h⟩
  · exact h.dp c
  · subst e
    cases h with
    | lst h r => exact .lst (.inl (.inl h)) (r.dp (by simpa [PyData.canLay0] using c))
    | dic h r e => simp [PyData.canLay0] at c
theorem WRp.dp (h : WRp K A H v d) (c : shp d = true) : Dp K H v d := h.dpc (SeqAt.canLay_of_shaped c)
theorem RpL.atI {i : Int} (r : RpL K A H vs ds) (h : L2.atI ds i = some d) : ∃ v, L2.atI vs i = some v ∧ Rp K A H v d := by
  unfold L2.atI at h ⊢
  rw [r.length]
  obtain ⟨j, e1, e2⟩ := Option.bind_eq_some_iff.mp h
  obtain ⟨v, e3, e4⟩ := r.get e2
  exact ⟨v, by rw [e1]; exact e3, e4⟩
theorem non_dec : Rp K A H v d → decide (v = V.non) = isNone d := by
  intro h
  cases h <;> rfl
theorem WRp.none_dec (h : WRp K A H v d) : decide (v = V.non) = isNone d := by
  rcases h with h | ⟨a, e, h⟩
  · exact non_dec h
  · subst e
    cases h <;> rfl
end
section
variable {X : Cx} {k : Nat}
theorem op_addD : OpR X (binaryOp .Add) (rD X.K .f oAdd) := by
  intro pins s σ H x y v u Q I rx ry ⟨A, dx, dy, d, tr, wx, wy, e, q⟩
  unfold oAdd at e
  split at e
  · cases e
    exact op_add pins s σ H x y v u Q I rx ry ⟨_, _, wx.int, wy.int, q _ H (Same.refl H) Res.int⟩
  · split at e
    · rename_i hz
      cases e
      obtain ⟨a, xs, rfl, ha, ra⟩ := wx.lst
      obtain ⟨b, ys, rfl, hb, rb⟩ := wy.lst
      refine op_cat pins s σ H _ _ v u Q I rx ry ⟨a, b, xs, ys, rfl, rfl, ha, hb, by rw [ra.length, rb.length]; exact hz, fun p hp => q _ _ (same_upd hp) (Res.newL tr hp (rb.app ra) (Same.refl H))⟩
    · cases e
  · split at e
    · rename_i hz
      cases e
      obtain ⟨a, xs, rfl, ha, na, ra⟩ := wx.tup
      obtain ⟨b, ys, rfl, hb, nb, rb⟩ := wy.tup
      refine op_catA pins s σ H _ _ v u Q I rx ry ⟨a, b, xs, ys, rfl, rfl, .of ha, .of hb, by rw [ra.length, rb.length]; exact hz, fun z => ?_, fun _ z => ?_, fun _ _ p hp => q _ _ (same_upd hp) (Res.flat (Rp.newT tr hp (rb.app ra)) rfl)⟩
      · subst z
        cases ra
        exact q _ H (Same.refl H) (Res.flat (.tup hb nb rb) rfl)
      · subst z
        cases rb
        exact q _ H (Same.refl H) (Res.flat (.tup ha na (by simpa using ra)) rfl)
    · cases e
  · cases e
    exact op_add_ib pins s σ H x y v u Q I rx ry ⟨_, _, wx.int, wy.bl, q _ H (Same.refl H) (by
      rename_i b
      cases b <;> exact Res.int)⟩
  · cases e
theorem op_subD : OpR X (binaryOp .Sub) (rD X.K .f oSub) := by
  intro pins s σ H x y v u Q I rx ry ⟨A, dx, dy, d, tr, wx, wy, e, q⟩
  unfold oSub at e
  split at e
  · cases e
    exact op_sub pins s σ H x y v u Q I rx ry ⟨_, _, wx.int, wy.int, q _ H (Same.refl H) Res.int⟩
  · cases e
theorem mul_case {a b : Int} (h : mulOk a b = true) : CMul a b ∨ CMulW a b := by
  unfold mulOk at h
  rw [Bool.or_eq_true, Bool.or_eq_true] at h
  rcases h with (h | h) | h
  · exact .inl (.inl (by have := of_decide_eq_true h; omega))
  · exact .inl (.inr (by have := of_decide_eq_true h; omega))
  · exact .inr (show a.natAbs.log2 + b.natAbs.log2 < 1000000 from of_decide_eq_true h)
theorem op_mulD : OpR X (binaryOp .Mult) (rD X.K .f oMul) := by
  intro pins s σ H x y v u Q I rx ry ⟨A, dx, dy, d, tr, wx, wy, e, q⟩
  unfold oMul at e
  split at e
  · split at e
    · rename_i hm
      cases e
      rcases mul_case hm with h | h
      · exact op_mul pins s σ H x y v u Q I rx ry ⟨_, _, wx.int, wy.int, h, q _ H (Same.refl H) Res.int⟩
      · exact op_mulW pins s σ H x y v u Q I rx ry ⟨_, _, wx.int, wy.int, h, q _ H (Same.refl H) Res.int⟩
    · cases e
  · split at e
    · rename_i hz
      cases e
      obtain ⟨a, xs, rfl, ha, ra⟩ := wx.lst
      refine op_rep pins s σ H _ _ v u Q I rx ry ⟨a, _, xs, rfl, wy.int, ha, by omega, by omega, by rw [ra.length]; exact hz.2.2, fun p hp => q _ _ (same_upd hp) (Res.newL tr hp (ra.rep _) (Same.refl H))⟩
    · cases e
  · split at e
    · rename_i hz
      cases e
      obtain ⟨a, xs, rfl, ha, na, ra⟩ := wx.tup
      refine op_repT pins s σ H _ _ v u Q I rx ry ⟨a, _, xs, rfl, wy.int, .of ha, fun z => ?_, hz.2.1, hz.2.2.1, by rw [ra.length]; exact hz.2.2.2, fun p hp => q _ _ (same_upd hp) (Res.flat (Rp.newT tr hp (ra.rep _)) rfl)⟩
      subst z
      cases ra
      exact hz.1 rfl
    · cases e
  · cases e
theorem op_fdivD : OpR X (binaryOp .FloorDiv) (rD X.K .f oFdiv) := by
  intro pins s σ H x y v u Q I rx ry ⟨A, dx, dy, d, tr, wx, wy, e, q⟩
  unfold oFdiv at e
  split at e
  · split at e
    · rename_i hz
      cases e
      unfold divOk at hz
      rw [Bool.and_eq_true] at hz
      have h1 := of_decide_eq_true hz.1
      have h2 := of_decide_eq_true hz.2
      exact (opI (C := fun i j => j ≠ 0 ∧ j.natAbs.log2 < 9000) fun i j _ _ _ _ _ hc q => floordiv_int hc.1 q (.inl (PyProof.noPylong_of_log2 hc.2))) pins s σ H x y v u Q I rx ry ⟨_, _, wx.int, wy.int, ⟨h1, h2⟩, q _ H (Same.refl H) Res.int⟩
    · cases e
  · cases e
theorem op_modD : OpR X (binaryOp .Mod) (rD X.K .f oMod) := by
  intro pins s σ H x y v u Q I rx ry ⟨A, dx, dy, d, tr, wx, wy, e, q⟩
  unfold oMod at e
  split at e
  · split at e
    · rename_i hz
      cases e
      exact op_modN pins s σ H x y v u Q I rx ry ⟨_, _, wx.int, wy.int, hz, q _ H (Same.refl H) Res.int⟩
    · cases e
  · cases e
theorem op_powD : OpR X (binaryOp .Pow) (rD X.K .f oPow) := by
  intro pins s σ H x y v u Q I rx ry ⟨A, dx, dy, d, tr, wx, wy, e, q⟩
  unfold oPow at e
  split at e
  · split at e
    · rename_i hz
      cases e
      exact op_pow pins s σ H x y v u Q I rx ry ⟨_, _, wx.int, wy.int, hz, q _ H (Same.refl H) Res.int⟩
    · cases e
  · cases e
theorem op_shlD : OpR X (binaryOp .LShift) (rD X.K .f oShl) := by
  intro pins s σ H x y v u Q I rx ry ⟨A, dx, dy, d, tr, wx, wy, e, q⟩
  unfold oShl at e
  split at e
  · split at e
    · rename_i hz
      cases e
      exact op_shl pins s σ H x y v u Q I rx ry ⟨_, _, wx.int, wy.int, hz, q _ H (Same.refl H) Res.int⟩
    · cases e
  · cases e
theorem op_eqP (hr : Room k X.A) : OpR X (compareOp .Eq) (rD X.K .f oEq) := by
  intro pins s σ H x y v u Q I rx ry ⟨A, dx, dy, d, tr, wx, wy, e, q⟩
  unfold oEq at e
  split at e
  · rename_i hz
    cases e
    rw [Bool.and_eq_true] at hz
    exact op_eqD hr.units pins s σ H x y v u Q I rx ry ⟨dx, dy, wx.dp hz.1, wy.dp hz.2, hz.1, hz.2, q _ H (Same.refl H) Res.bl⟩
  · cases e
theorem op_neP (hr : Room k X.A) : OpR X (compareOp .NotEq) (rD X.K .f oNe) := by
  intro pins s σ H x y v u Q I rx ry ⟨A, dx, dy, d, tr, wx, wy, e, q⟩
  unfold oNe at e
  split at e
  · rename_i hz
    cases e
    rw [Bool.and_eq_true] at hz
    exact op_neD hr.units pins s σ H x y v u Q I rx ry ⟨dx, dy, wx.dp hz.1, wy.dp hz.2, hz.1, hz.2, q _ H (Same.refl H) Res.bl⟩
  · cases e
theorem op_ltD : OpR X (compareOp .Lt) (rD X.K .f oLt) := by
  intro pins s σ H x y v u Q I rx ry ⟨A, dx, dy, d, tr, wx, wy, e, q⟩
  unfold oLt at e
  split at e
  · cases e
    exact op_lt pins s σ H x y v u Q I rx ry ⟨_, _, wx.int, wy.int, q _ H (Same.refl H) Res.bl⟩
  · cases e
theorem op_leD : OpR X (compareOp .LtE) (rD X.K .f oLe) := by
  intro pins s σ H x y v u Q I rx ry ⟨A, dx, dy, d, tr, wx, wy, e, q⟩
  unfold oLe at e
  split at e
  · cases e
    exact op_le pins s σ H x y v u Q I rx ry ⟨_, _, wx.int, wy.int, q _ H (Same.refl H) Res.bl⟩
  · cases e
theorem op_gtD : OpR X (compareOp .Gt) (rD X.K .f oGt) := by
  intro pins s σ H x y v u Q I rx ry ⟨A, dx, dy, d, tr, wx, wy, e, q⟩
  unfold oGt at e
  split at e
  · cases e
    exact op_gt pins s σ H x y v u Q I rx ry ⟨_, _, wx.int, wy.int, q _ H (Same.refl H) Res.bl⟩
  · cases e
theorem op_geD : OpR X (compareOp .GtE) (rD X.K .f oGe) := by
  intro pins s σ H x y v u Q I rx ry ⟨A, dx, dy, d, tr, wx, wy, e, q⟩
  unfold oGe at e
  split at e
  · cases e
    exact op_ge pins s σ H x y v u Q I rx ry ⟨_, _, wx.int, wy.int, q _ H (Same.refl H) Res.bl⟩
  · cases e
theorem op_isD : OpR X (compareOp .Is) (rD X.K .f oIs) := by
  intro pins s σ H x y v u Q I rx ry ⟨A, dx, dy, d, tr, wx, wy, e, q⟩
  unfold oIs at e
  split at e
  · cases e
    exact op_isN pins s σ H x y v u Q I rx ry ⟨wy.non, by rw [wx.none_dec]; exact q _ H (Same.refl H) Res.bl⟩
  · cases e
theorem op_isNotD : OpR X (compareOp .IsNot) (rD X.K .f oIsNot) := by
  intro pins s σ H x y v u Q I rx ry ⟨A, dx, dy, d, tr, wx, wy, e, q⟩
  unfold oIsNot at e
  split at e
  · cases e
    exact op_notN pins s σ H x y v u Q I rx ry ⟨wy.non, by rw [wx.none_dec]; exact q _ H (Same.refl H) Res.bl⟩
  · cases e
theorem hu65 {A : Around} (hr : Room k A) : A.units + 65 < cLine := by have := hr.un; omega
theorem op_inP (hr : Room k X.A) : OpR X (compareOp .In) (rD X.K .f oIn) := by
  intro pins s σ H x y v u Q I rx ry ⟨A, dx, dy, d, tr, wx, wy, e, q⟩
  unfold oIn at e
  split at e
  · split at e
    · rename_i hz
      cases e
      rw [Bool.and_eq_true] at hz
      obtain ⟨as, r1⟩ := Dp.reads I _ x v (wx.dp hz.1) rx
      obtain ⟨bs, r2⟩ := Dp.reads I _ y u (wy.dpc (by simpa [PyData.canLay0] using hz.2)) ry
      exact SeqAt.in_list_reads r2 r1 hz.2 (SeqAt.canLay_of_shaped hz.1) (room_in_shaped hz.1 (hu65 hr)) ⟨.bl _, H, I, rfl, q _ H (Same.refl H) Res.bl⟩
    · cases e
  · split at e
    · rename_i hz
      cases e
      rw [Bool.and_eq_true] at hz
      obtain ⟨as, r1⟩ := Dp.reads I _ x v (wx.dp hz.1) rx
      obtain ⟨bs, r2⟩ := Dp.reads I _ y u (wy.dpc (by simpa [PyData.canLay0] using hz.2)) ry
      exact SeqAt.in_tuple_reads r2 r1 hz.2 (SeqAt.canLay_of_shaped hz.1) (room_in_shaped hz.1 (hu65 hr)) ⟨.bl _, H, I, rfl, q _ H (Same.refl H) Res.bl⟩
    · cases e
  · cases e
theorem op_notInP (hr : Room k X.A) : OpR X (compareOp .NotIn) (rD X.K .f oNotIn) := by
  intro pins s σ H x y v u Q I rx ry ⟨A, dx, dy, d, tr, wx, wy, e, q⟩
  unfold oNotIn at e
  split at e
  · split at e
    · rename_i hz
      cases e
      rw [Bool.and_eq_true] at hz
      obtain ⟨as, r1⟩ := Dp.reads I _ x v (wx.dp hz.1) rx
      obtain ⟨bs, r2⟩ := Dp.reads I _ y u (wy.dpc (by simpa [PyData.canLay0] using hz.2)) ry
      exact SeqAt.notIn_list_reads r2 r1 hz.2 (SeqAt.canLay_of_shaped hz.1) (room_in_shaped hz.1 (hu65 hr)) ⟨.bl _, H, I, rfl, q _ H (Same.refl H) Res.bl⟩
    · cases e
  · split at e
    · rename_i hz
      cases e
      rw [Bool.and_eq_true] at hz
      obtain ⟨as, r1⟩ := Dp.reads I _ x v (wx.dp hz.1) rx
      obtain ⟨bs, r2⟩ := Dp.reads I _ y u (wy.dpc (by simpa [PyData.canLay0] using hz.2)) ry
      exact SeqAt.notIn_tuple_reads r2 r1 hz.2 (SeqAt.canLay_of_shaped hz.1) (room_in_shaped hz.1 (hu65 hr)) ⟨.bl _, H, I, rfl, q _ H (Same.refl H) Res.bl⟩
    · cases e
  · cases e
theorem un_negD : UnR X (unaryOp .USub) (rD1 X.K .f oNeg) := by
  intro pins s σ H x v Q I rx ⟨A, dx, d, tr, wx, e, q⟩
  unfold oNeg at e
  split at e
  · cases e
    exact un_neg pins s σ H x v Q I rx ⟨_, wx.int, q _ H (Same.refl H) Res.int⟩
  · cases e
end
end Pm

namespace Pm
open PySem PySem.Spec PyProof.Rows L2

/-! ### argument lists -/
abbrev XL := PEnv → Option (List D)
def xNil : XL := fun _ => some []
def xCons (f : Xp) (fs : XL) : XL := fun ρ => (f ρ).bind fun x => (fs ρ).bind fun xs => some (x :: xs)
section
variable {X : Cx} {O : List Nat} {m ma mb : Md} {st : Bool} {a b c e : Expr} {es : List Expr} {fa fb fc f : Xp} {fs : XL} {pos : Pos}
theorem sa_nil : SA X O st [] xNil := by
  refine ⟨pa_imp pa_nil fun σ H Q h => ?_⟩
  obtain ⟨H0, A0, G, ρ, B, ds, S, e, k⟩ := h
  cases e
  refine k [] H (Same.refl H) ?_
  cases st <;> exact .nil
theorem ResL.monoR {K : PySem.W.Frag} {A : Addr → Prop} {H H' : Hp} {vs : List V} {ds : List D} (s : Same H H') (h : ResL K A H st vs ds) : ResL K A H' st vs ds := by
  cases st with
  | true => exact RpL.mono s h
  | false => exact Paired.mapP h fun _ _ r => WRp.mono s r
theorem sa_cons (ha : SE X O m e f) (hr : SA X O st es fs) (hm : (st = true → m ≠ .w) := by first | exact fun _ => Md.noConfusion | exact fun h => Bool.noConfusion h) (hs : starEach (e :: es) X.env = (false, eval e X.env) :: starEach es X.env := by rfl) : SA X O st (e :: es) (xCons f fs) := by
  refine ⟨pa_imp (pa_cons ha.pe hr.pa hs) fun σ H Q h => ?_⟩
  obtain ⟨H0, A0, G, ρ, B, ds, S, e, k⟩ := h
  obtain ⟨x, ex, e⟩ := bind2 e
  obtain ⟨xs, exs, e⟩ := bind2 e
  cases e
  refine ⟨H0, A0, G, ρ, B, x, S, ex, fun v H1 s1 r1 => ⟨H0, A0, G, ρ, B, xs, S.mono s1, exs, fun vs H2 s2 r2 => k _ H2 (s1.trans s2) ?_⟩⟩
  cases st with
  | true => exact .cons ((r1.toS S.tr (hm rfl)).mono s2) r2
  | false => exact .cons (r1.toW.mono s2) r2
/-- their number is the written one -/
theorem SE.toS (h : SE X O .f e f) : SE X O .s e f := ⟨pe_imp h.pe fun σ H Q ⟨H0, A0, G, ρ, B, d, S, e, k⟩ => ⟨H0, A0, G, ρ, B, d, S, e, fun v H' s r => k v H' s (r.toS S.tr (by decide))⟩⟩
theorem SE.toW (h : SE X O m e f) : SE X O .w e f := ⟨pe_imp h.pe fun σ H Q ⟨H0, A0, G, ρ, B, d, S, e, k⟩ => ⟨H0, A0, G, ρ, B, d, S, e, fun v H' s r => k v H' s r.toW⟩⟩

/-! ### displays -/
def xTup (fs : XL) : Xp := fun ρ => (fs ρ).bind fun ds => if ds.length ≤ 1000 then some (.tuple ds) else none
def xLst (fs : XL) : Xp := fun ρ => (fs ρ).bind fun ds => if ds.length ≤ 1000 then some (.list ds) else none
theorem line1000 {n : Nat} (h : n ≤ 1000) : n ≤ sizeLine := Nat.le_of_lt (small1000 h)
theorem se_tup {x1} (h : SA X O true es fs) : SE X O .f (.Tuple es x1 pos) (xTup fs) := by
  refine ⟨pe_imp (pe_tup h.pa) fun σ H Q q => ?_⟩
  obtain ⟨H0, A0, G, ρ, B, d, S, e, k⟩ := q
  obtain ⟨x, ex, e⟩ := bind2 e
  split at e
  · rename_i hz
    cases e
    refine ⟨H0, A0, G, ρ, B, x, S, ex, fun vs H1 s1 (r1 : RpL _ _ _ _ _) => ⟨by rw [r1.length]; exact line1000 hz, fun p hp => ?_⟩⟩
    exact k _ _ (s1.trans (same_upd hp)) (Res.flat (Rp.newT (S.mono s1).tr hp r1) rfl)
  · cases e
theorem se_lst (h : SA X O true es fs) : SE X O .f (.List es pos) (xLst fs) := by
  refine ⟨pe_imp (pe_lst h.pa) fun σ H Q q => ?_⟩
  obtain ⟨H0, A0, G, ρ, B, d, S, e, k⟩ := q
  obtain ⟨x, ex, e⟩ := bind2 e
  split at e
  · rename_i hz
    cases e
    refine ⟨H0, A0, G, ρ, B, x, S, ex, fun vs H1 s1 (r1 : RpL _ _ _ _ _) => ⟨by rw [r1.length]; exact line1000 hz, fun p hp => ?_⟩⟩
    exact k _ _ (s1.trans (same_upd hp)) (Res.newL (S.mono s1).tr hp r1 s1)
  · cases e

/-! ### and, or, if, not as values -/
def xAnd (fa fb : Xp) : Xp := fun ρ => (fa ρ).bind fun x => (dB x).bind fun b => if b then fb ρ else some (.bool false)
def xOr (fa fb : Xp) : Xp := fun ρ => (fa ρ).bind fun x => (dB x).bind fun b => if b then some (.bool true) else fb ρ
def xIf (c : PEnv → Option Bool) (fa fb : Xp) : Xp := fun ρ => (c ρ).bind fun b => if b then fa ρ else fb ρ
theorem se_bone {op} (h : SE X O m a f) : SE X O m (.BoolOp op [a] pos) f := ⟨pe_one h.pe⟩
theorem se_and (ha : SE X O ma a fa) (hb : SE X O m (.BoolOp .And (b :: es) pos) fb) : SE X O m (.BoolOp .And (a :: b :: es) pos) (xAnd fa fb) := by
  refine ⟨pe_imp (pe_and ha.pe hb.pe) fun σ H Q q => ?_⟩
  obtain ⟨H0, A0, G, ρ, B, d, S, e, k⟩ := q
  obtain ⟨x, ex, e⟩ := bind2 e
  obtain ⟨c, ec, e⟩ := bind2 e
  have := dB_some ec
  subst this
  refine ⟨H0, A0, G, ρ, B, _, S, ex, fun v H1 s1 r1 => ⟨c, r1.toW.bl, ?_⟩⟩
  cases c with
  | true => exact ⟨H0, A0, G, ρ, B, d, S.mono s1, e, fun v H' s r => k v H' (s1.trans s) (r.back s1)⟩
  | false => cases e; exact k _ H1 s1 Res.bl
theorem se_or (ha : SE X O ma a fa) (hb : SE X O m (.BoolOp .Or (b :: es) pos) fb) : SE X O m (.BoolOp .Or (a :: b :: es) pos) (xOr fa fb) := by
  refine ⟨pe_imp (pe_or ha.pe hb.pe) fun σ H Q q => ?_⟩
  obtain ⟨H0, A0, G, ρ, B, d, S, e, k⟩ := q
  obtain ⟨x, ex, e⟩ := bind2 e
  obtain ⟨c, ec, e⟩ := bind2 e
  have := dB_some ec
  subst this
  refine ⟨H0, A0, G, ρ, B, _, S, ex, fun v H1 s1 r1 => ⟨c, r1.toW.bl, ?_⟩⟩
  cases c with
  | false => exact ⟨H0, A0, G, ρ, B, d, S.mono s1, e, fun v H' s r => k v H' (s1.trans s) (r.back s1)⟩
  | true => cases e; exact k _ H1 s1 Res.bl
theorem se_if {tc : PEnv → Option Bool} (hc : ST X O c tc) (ha : SE X O m a fa) (hb : SE X O m b fb) : SE X O m (.IfExp c a b pos) (xIf tc fa fb) := by
  refine ⟨pe_imp (pe_ifExp hc.pt ha.pe hb.pe) fun σ H Q q => ?_⟩
  obtain ⟨H0, A0, G, ρ, B, d, S, e, k⟩ := q
  obtain ⟨x, ex, e⟩ := bind2 e
  refine ⟨H0, A0, G, ρ, B, x, S, ex, fun H1 s1 => ?_⟩
  cases x with
  | true => exact ⟨H0, A0, G, ρ, B, d, S.mono s1, e, fun v H' s r => k v H' (s1.trans s) (r.back s1)⟩
  | false => exact ⟨H0, A0, G, ρ, B, d, S.mono s1, e, fun v H' s r => k v H' (s1.trans s) (r.back s1)⟩
theorem se_not (h : SE X O ma a fa) : SE X O m (.UnaryOp .Not a pos) (xUn oNot fa) := by
  refine ⟨pe_imp (pe_notT h.pe) fun σ H Q q => ?_⟩
  obtain ⟨H0, A0, G, ρ, B, d, S, e, k⟩ := q
  obtain ⟨x, ex, e⟩ := bind2 e
  obtain ⟨c, ec, e⟩ := Option.map_eq_some_iff.mp e
  subst e
  exact ⟨H0, A0, G, ρ, B, x, S, ex, fun v H1 s1 r1 => ⟨c, tru_of r1.toW ec, k _ H1 s1 Res.bl⟩⟩
/-- a op b op c -/
def xChain (g g' : D → D → Option D) (fa fb fc : Xp) : Xp := fun ρ => (fa ρ).bind fun x => (fb ρ).bind fun y => (g x y).bind fun z => (dB z).bind fun k => if k then (fc ρ).bind fun w => g' y w else some (.bool false)
variable {mc : Md}
theorem tChain_of {op op' : CmpOp} {g g' : D → D → Option D} (σ : L2.St) (H : Hp) (Q : VK) (h : simT X.K O .f (xChain g g' fa fb fc) σ H Q) :
    tChain (rD X.K .f g) (rD X.K .f g') (simT X.K O ma fa) (simT X.K O mb fb) (simT X.K O mc fc) σ H Q := by
  obtain ⟨H0, A0, G, ρ, B, d, S, e, k⟩ := h
  obtain ⟨x, ex, e⟩ := bind2 e
  obtain ⟨y, ey, e⟩ := bind2 e
  obtain ⟨z, ez, e⟩ := bind2 e
  obtain ⟨c, ec, e⟩ := bind2 e
  have := dB_some ec
  subst this
  refine ⟨H0, A0, G, ρ, B, x, S, ex, fun v H1 s1 r1 => ⟨H0, A0, G, ρ, B, y, S.mono s1, ey, fun u H2 s2 r2 => ⟨Av A0 B, x, y, _, (S.mono (s1.trans s2)).tr, r1.toW.mono s2, r2.toW, ez, fun z H3 s3 r3 => ⟨c, r3.toW.bl, ?_⟩⟩⟩⟩
  have s13 := (s1.trans s2).trans s3
  cases c with
  | false => cases e; exact k _ H3 s13 Res.bl
  | true =>
    replace e : ((fc ρ).bind fun w => g' y w) = some d := e
    obtain ⟨w, ew, e⟩ := bind2 e
    exact ⟨H0, A0, G, ρ, B, w, S.mono s13, ew, fun v' H4 s4 r4 => ⟨Av A0 B, y, w, d, (S.mono (s13.trans s4)).tr, r2.toW.mono (s3.trans s4), r4.toW, e, fun z H5 s5 r5 => k z H5 ((s13.trans s4).trans s5) (r5.back (s13.trans s4))⟩⟩
theorem se_chain {op op' : CmpOp} {g g' : D → D → Option D} (ho : OpR X (compareOp op) (rD X.K .f g)) (ho' : OpR X (compareOp op') (rD X.K .f g')) (ha : SE X O ma a fa) (hb : SE X O mb b fb) (hc : SE X O mc c fc)
    (hm : lastMarks [op, op'] [b, c] = false := by with_unfolding_all rfl) : SE X O .f (.Compare a [op, op'] [b, c] pos) (xChain g g' fa fb fc) :=
  ⟨pe_imp (pe_chain ho ho' ha.pe hb.pe hc.pe hm) (tChain_of (op := op) (op' := op'))⟩
theorem st_chain {op op' : CmpOp} {g g' : D → D → Option D} (ho : OpR X (compareOp op) (rD X.K .f g)) (ho' : OpR X (compareOp op') (rD X.K .f g')) (ha : SE X O ma a fa) (hb : SE X O mb b fb) (hc : SE X O mc c fc)
    (hm : lastMarks [op, op'] [b, c] = false := by with_unfolding_all rfl) : ST X O (.Compare a [op, op'] [b, c] pos) (tOf (xChain g g' fa fb fc)) := by
  refine ⟨pt_imp (pt_chain ho ho' ha.pe hb.pe hc.pe hm) fun σ H Q h => ?_⟩
  obtain ⟨H0, A0, G, ρ, B, b, S, e, k⟩ := h
  obtain ⟨d, ed, e⟩ := bind2 e
  have := dB_some e
  subst this
  exact tChain_of (op := op) (op' := op') σ H _ ⟨H0, A0, G, ρ, B, _, S, ed, fun v H' s r => ⟨b, r.toW.bl, k H' s⟩⟩

/-! ### subscripts -/
theorem ix_D : IxR X (rD X.K .s oIx) := by
  intro value slice pins s σ H x y v u Q I rx ry ⟨A, dx, dy, d, tr, wx, wy, e, q⟩ hs
  unfold oIx at e
  split at e
  · obtain ⟨p, xs, rfl, hp, r⟩ := wx.lst
    obtain ⟨z, ez, rz⟩ := r.atI e
    exact ix_list value slice pins s σ H _ y v u Q I rx ry ⟨p, xs, _, z, rfl, wy.int, .of hp, ez, q z H (Same.refl H) rz⟩ hs
  · obtain ⟨p, xs, rfl, hp, n, r⟩ := wx.tup
    obtain ⟨z, ez, rz⟩ := r.atI e
    exact ix_tup value slice pins s σ H _ y v u Q I rx ry ⟨p, xs, _, z, rfl, wy.int, .of hp, ez, q z H (Same.refl H) rz⟩ hs
  · obtain ⟨p, xs, rfl, hp, r⟩ := wx.scr
    obtain ⟨z, ez, rz⟩ := r.atI e
    exact ix_list value slice pins s σ H _ y v u Q I rx ry ⟨p, xs, _, z, rfl, wy.int, hp, ez, q z H (Same.refl H) rz⟩ hs
  · cases e
theorem se_ix (ha : SE X O ma a fa) (hb : SE X O mb b fb) (hs : PlainIx b := by exact fun _ _ => rfl) : SE X O .s (.Subscript a b pos) (xBin oIx fa fb) := ⟨pe_imp (pe_ix ix_D ha.pe hb.pe hs) tOp_of⟩
/-- slices -/
def cutD (xs : List D) (lo hi : Option Int) : List D := (xs.drop (HT.sIx xs.length 0 lo)).take (HT.sIx xs.length xs.length hi - HT.sIx xs.length 0 lo)
theorem RpL.cut {K : PySem.W.Frag} {A : Addr → Prop} {H : Hp} {vs : List V} {ds : List D} (r : RpL K A H vs ds) (lo hi : Option Int) : RpL K A H (cutV vs lo hi) (cutD ds lo hi) := by
  unfold cutV cutD
  rw [r.length]
  exact (r.drop _).take _
abbrev XO := PEnv → Option (Option Int)
def simO (K : PySem.W.Frag) (O : List Nat) (f : XO) : TO := fun σ H Q => ∃ H0 A0 G ρ B i, Sim K H0 A0 G O σ H ρ B ∧ f ρ = some i ∧ ∀ H', Same H H' → Q i H'
structure SO (X : Cx) (O : List Nat) (e : Option Expr) (f : XO) : Prop where
  po : PO X e (simO X.K O f)
def oNo : XO := fun _ => some none
def oAt (f : Xp) : XO := fun ρ => (f ρ).bind fun d => match d with | .int i => some (some i) | _ => none
theorem po_imp {e : Option Expr} {t t' : TO} (h : PO X e t) (hi : ∀ σ H Q, t' σ H Q → t σ H Q) : PO X e t' := ⟨fun pins s σ H Q I q => h.run pins s σ H Q I (hi _ _ _ q)⟩
theorem so_none : SO X O none oNo := ⟨po_imp po_none fun σ H Q ⟨H0, A0, G, ρ, B, i, S, e, k⟩ => by cases e; exact k H (Same.refl H)⟩
theorem so_some (h : SE X O m e f) : SO X O (some e) (oAt f) := by
  refine ⟨po_imp (po_some h.pe) fun σ H Q ⟨H0, A0, G, ρ, B, i, S, e, k⟩ => ?_⟩
  obtain ⟨x, ex, e⟩ := bind2 e
  split at e
  · cases e
    exact ⟨H0, A0, G, ρ, B, _, S, ex, fun v H1 s1 r1 => ⟨_, r1.toW.int, k H1 s1⟩⟩
  · cases e
def oSl : D → Option Int → Option Int → Option D
  | .list xs, lo, hi => some (.list (cutD xs lo hi))
  | .tuple xs, lo, hi => some (.tuple (cutD xs lo hi))
  | _, _, _ => none
def xSl (f : Xp) (lo hi : XO) : Xp := fun ρ => (f ρ).bind fun x => (lo ρ).bind fun i => (hi ρ).bind fun j => oSl x i j
theorem se_sl {lo hi : Option Expr} {flo fhi : XO} {p2 : Pos} (he : SE X O m e f) (hl : SO X O lo flo) (hh : SO X O hi fhi) : SE X O .f (.Subscript e (.Slice lo hi none p2) pos) (xSl f flo fhi) := by
  refine ⟨pe_imp (pe_slice (SlR.or sl_list sl_tupA) he.pe hl.po hh.po) fun σ H Q q => ?_⟩
  obtain ⟨H0, A0, G, ρ, B, d, S, e, k⟩ := q
  obtain ⟨x, ex, e⟩ := bind2 e
  obtain ⟨i, ei, e⟩ := bind2 e
  obtain ⟨j, ej, e⟩ := bind2 e
  refine ⟨H0, A0, G, ρ, B, x, S, ex, fun v H1 s1 r1 => ⟨H0, A0, G, ρ, B, i, S.mono s1, ei, fun H2 s2 => ⟨H0, A0, G, ρ, B, j, S.mono (s1.trans s2), ej, fun H3 s3 => ?_⟩⟩⟩
  have s13 := (s1.trans s2).trans s3
  have w := r1.toW.mono (s2.trans s3)
  unfold oSl at e
  split at e
  · cases e
    obtain ⟨p, xs, rfl, hp, r⟩ := w.lst
    exact .inl ⟨p, xs, rfl, .of hp, fun p hp => k _ _ (s13.trans (same_upd hp)) (Res.newL (S.mono s13).tr hp (r.cut _ _) s13)⟩
  · cases e
    obtain ⟨p, xs, rfl, hp, n, r⟩ := w.tup
    refine .inr ⟨p, xs, rfl, .of hp, fun z => ?_, fun z p hp => k _ _ (s13.trans (same_upd hp)) (Res.flat (Rp.newT (S.mono s13).tr hp (r.cut _ _)) rfl)⟩
    refine k _ _ s13 (Res.flat (.tup hp n ?_) rfl)
    have c := r.cut i j
    have hx : cutV xs i j = xs := by
      unfold cutV
      rw [z.1, z.2]
      simp
    rw [hx] at c
    exact c
  · cases e

/-! ### calls of built-ins by values -/
def rC (K : PySem.W.Frag) (m : Md) (g : List D → Option D) : List V → Hp → VK → Prop := fun vs H Q => ∃ A ds d, Tr A H ∧ Paired (WRp K A H) vs ds ∧ g ds = some d ∧ ∀ v H', Same H H' → Res K A H H' m v d → Q v H'
def xCall (g : List D → Option D) (fs : XL) : Xp := fun ρ => (fs ρ).bind g
theorem RpL.weak {K : PySem.W.Frag} {A : Addr → Prop} {H : Hp} {vs : List V} {ds : List D} (r : RpL K A H vs ds) : Paired (WRp K A H) vs ds := by
  induction ds generalizing vs with
  | nil => cases r; exact .nil
  | cons d ds ih => cases r with | cons h r => exact .cons (.inl h) (ih r)
theorem ResL.weak {K : PySem.W.Frag} {A : Addr → Prop} {H : Hp} {vs : List V} {ds : List D} (r : ResL K A H st vs ds) : Paired (WRp K A H) vs ds := by
  cases st with
  | true => exact RpL.weak r
  | false => exact r
theorem tCB_of {g : List D → Option D} (σ : L2.St) (H : Hp) (Q : VK) (q : simT X.K O m (xCall g fs) σ H Q) : tCB (rC X.K m g) (simA X.K O st fs) σ H Q := by
  obtain ⟨H0, A0, G, ρ, B, d, S, e, k⟩ := q
  obtain ⟨x, ex, e⟩ := bind2 e
  exact ⟨H0, A0, G, ρ, B, x, S, ex, fun vs H1 s1 r1 => ⟨Av A0 B, x, d, (S.mono s1).tr, r1.weak, e, fun v H' s r => k v H' (s1.trans s) (r.back s1)⟩⟩
theorem se_callB {x : Str} {p : Pos} {id : String} {g : List D → Option D} (hc : CallR X (.builtin id) (rC X.K m g)) (hm : X.mg x = none) (ha : SA X O st (e :: es) fs) (hg : Gl X x := by rfl) (hv : bootBuiltins x = some (.builtin id) := by rfl) (hn : x ≠ "__name__" := by decide) (hdb : (x == ("__debug__" : Str)) = false := by decide)
    (he : starEach (e :: es) X.env = (false, eval e X.env) :: starEach es X.env := by rfl) (hpl : (backTo pos (starEach es X.env)).any (·.1) = false := by rfl) : SE X O m (.Call (.Name x p) (e :: es) [] pos) (xCall g fs) :=
  ⟨pe_imp (pe_callB hc hg hm hv ha.pa hn hdb he hpl) tCB_of⟩
theorem se_callT {x : Str} {p : Pos} {id : String} {g : List D → Option D} (hc : CallR X (.type id) (rC X.K m g)) (hm : X.mg x = none) (ha : SA X O st (e :: es) fs) (hg : Gl X x := by rfl) (hv : bootBuiltins x = some (.type id) := by rfl) (hn : x ≠ "__name__" := by decide) (hdb : (x == ("__debug__" : Str)) = false := by decide)
    (he : starEach (e :: es) X.env = (false, eval e X.env) :: starEach es X.env := by rfl) (hpl : (backTo pos (starEach es X.env)).any (·.1) = false := by rfl) : SE X O m (.Call (.Name x p) (e :: es) [] pos) (xCall g fs) :=
  ⟨pe_imp (pe_callTy hc hg hm hv ha.pa hn hdb he hpl) tCB_of⟩

/-! ### calls of defs -/
mutual
def flat : D → Bool
  | .list _ => false
  | .dict _ => false
  | .tuple xs => flatL xs
  | .none => true
  | .bool _ => true
  | .int _ => true
  | .str _ => true
def flatL : List D → Bool
  | [] => true
  | x :: xs => flat x && flatL xs
end
mutual
theorem Rp.flatA {K : PySem.W.Frag} {A A' : Addr → Prop} {H : Hp} (t : Tr A' H) : ∀ {v : V} {d : D}, Rp K A H v d → flat d = true → Rp K A' H v d
  | _, _, .non, _ => .non
  | _, _, .bl b, _ => .bl b
  | _, _, .int i, _ => .int i
  | _, _, .str x, _ => .str x
  | _, _, .lst h n r, c => by simp [flat] at c
  | _, _, .tup h n r, c => .tup h (fun z => by
      obtain ⟨o, e, nt⟩ := t _ z
      rw [h] at e
      cases e
      exact nt _ rfl) (RpL.flatA t r (by simpa [flat] using c))
  | _, _, .scr h n r, c => by simp [flat] at c
  | _, _, .kl h r, c => by simp [flat] at c
  | _, _, .dic h n r e, c => by simp [flat] at c
theorem RpL.flatA {K : PySem.W.Frag} {A A' : Addr → Prop} {H : Hp} (t : Tr A' H) : ∀ {vs : List V} {ds : List D}, RpL K A H vs ds → flatL ds = true → RpL K A' H vs ds
  | _, _, .nil, _ => .nil
  | _, _, .cons h r, c => by
    simp only [flatL, Bool.and_eq_true] at c
    exact .cons (Rp.flatA t h c.1) (RpL.flatA t r c.2)
end
theorem flat_mut {d : D} (h : flat d = true) : isMut d = false := by
  cases d <;> simp_all [flat, isMut]
def spD (K : PySem.W.Frag) (n : Nat) (F : List D → Option D) : Sp := fun vs H Q _ => ∃ A ds d, Tr A H ∧ vs.length = n ∧ RpL K A H vs ds ∧ F ds = some d ∧ ∀ v H', Same H H' → Rp K A H' v d → Q v H'
/-- a def of the text, with its function -/
structure Def (P : Program) (w : World) (K : PySem.W.Frag) (mg : Str → Option Value) (base : Heap) (k : Nat) (x : Str) (ps : List Str) (F : List D → Option D) : Prop where
  ex : ∃ f fd, FnOk P w K mg base CX0 k f fd ps (spD K ps.length F) ∧ mg x = some (.ref f) ∧ PySem.W.keepIn K (.ref f) = true ∧ Binds K fd ps []
theorem Def.mono {P : Program} {w : World} {K : PySem.W.Frag} {mg : Str → Option Value} {base : Heap} {k k' : Nat} {x : Str} {ps : List Str} {F : List D → Option D} (h : Def P w K mg base k x ps F) (hk : k ≤ k') : Def P w K mg base k' x ps F :=
  let ⟨f, fd, h1, h2⟩ := h.ex; ⟨f, fd, h1.mono hk, h2⟩
variable {k j : Nat} {x : Str} {ps : List Str} {F : List D → Option D} {p : Pos}
theorem se_call (hd : Def X.prog X.w X.K X.mg X.base k x ps F) (hr : Room j X.A) (ha : SA X O true (e :: es) fs) (hk : k ≤ j := by decide) (hl : (e :: es).length = ps.length := by rfl) (hg : Gl X x := by rfl) (hdb : (x == ("__debug__" : Str)) = false := by decide)
    (he : starEach (e :: es) X.env = (false, eval e X.env) :: starEach es X.env := by rfl) (hpl : (backTo pos (starEach es X.env)).any (·.1) = false := by rfl) : SE X O .s (.Call (.Name x p) (e :: es) [] pos) (xCall (fun ds => if ds.length = ps.length then F ds else none) fs) := by
  obtain ⟨f, fd, hF, hm, kp, hb⟩ := hd.ex
  refine ⟨pe_imp (pe_call hF (hr.mono hk) hg hm kp hb .nil pass0 ha.pa hdb he hpl) fun σ H Q q => ?_⟩
  obtain ⟨H0, A0, G, ρ, B, d, S, e, k⟩ := q
  obtain ⟨ds, ex, e⟩ := bind2 e
  split at e
  · rename_i hz
    refine ⟨H0, A0, G, ρ, B, ds, S, ex, fun vs H1 s1 (r1 : RpL _ _ _ _ _) => ⟨Av A0 B, ds, d, (S.mono s1).tr, ?_, ?_, e, fun v H' s r => k v H' (s1.trans s) r⟩⟩
    · rw [List.append_nil, r1.length, hz]
    · rw [List.append_nil]; exact r1
  · cases e
theorem WRp.rp0 {K : PySem.W.Frag} {A : Addr → Prop} {H : Hp} {v : V} {d : D} (h : WRp K A H v d) : Rp K (fun _ => False) H v d := by
  rcases h with h | ⟨a, e, h⟩
  · exact h.anti fun _ z => z.elim
  · subst e
    exact (h.step (fun _ _ q _ => q) (fun _ z => z.elim) fun _ q => q : Tp K (fun _ => False) H a d).rp fun z => z
theorem weak_rp0 {K : PySem.W.Frag} {A : Addr → Prop} {H : Hp} : ∀ {vs : List V} {ds : List D}, Paired (WRp K A H) vs ds → RpL K (fun _ => False) H vs ds
  | _, _, .nil => .nil
  | _, _, .cons h r => .cons h.rp0 (weak_rp0 r)
/-- a call to which one's own lists go: what comes back holds no list -/
theorem se_callW (hd : Def X.prog X.w X.K X.mg X.base k x ps F) (hr : Room j X.A) (ha : SA X O false (e :: es) fs) (hk : k ≤ j := by decide) (hg : Gl X x := by rfl) (hdb : (x == ("__debug__" : Str)) = false := by decide)
    (he : starEach (e :: es) X.env = (false, eval e X.env) :: starEach es X.env := by rfl) (hpl : (backTo pos (starEach es X.env)).any (·.1) = false := by rfl) : SE X O .f (.Call (.Name x p) (e :: es) [] pos) (xCall (fun ds => if ds.length = ps.length then (F ds).bind fun d => if flat d then some d else none else none) fs) := by
  obtain ⟨f, fd, hF, hm, kp, hb⟩ := hd.ex
  refine ⟨pe_imp (pe_call hF (hr.mono hk) hg hm kp hb .nil pass0 ha.pa hdb he hpl) fun σ H Q q => ?_⟩
  obtain ⟨H0, A0, G, ρ, B, d, S, e, k⟩ := q
  obtain ⟨ds, ex, e⟩ := bind2 e
  split at e
  · rename_i hz
    obtain ⟨d', e', e⟩ := bind2 e
    split at e
    · rename_i hf
      cases e
      refine ⟨H0, A0, G, ρ, B, ds, S, ex, fun vs H1 s1 r1 => ⟨fun _ => False, ds, d, fun _ z => z.elim, ?_, ?_, e', fun v H' s r => k v H' (s1.trans s) (Res.flat (r.flatA (S.mono (s1.trans s)).tr hf) (flat_mut hf))⟩⟩
      · rw [List.append_nil, (weak_rp0 r1).length, hz]
      · rw [List.append_nil]; exact weak_rp0 r1
    · cases e
  · cases e
end
end Pm

namespace Pm
open PySem PySem.Spec PyProof.Rows L2

/-! ### what the built-ins do -/
def seqD : D → Option (List D)
  | .list xs => some xs
  | .tuple xs => some xs
  | _ => none
def asInts : List D → Option (List Int)
  | [] => some []
  | .int i :: r => (asInts r).map (i :: ·)
  | _ => none
def asBools : List D → Option (List Bool)
  | [] => some []
  | .bool i :: r => (asBools r).map (i :: ·)
  | _ => none
def bLen : List D → Option D
  | [.list xs] => some (.int xs.length)
  | [.tuple xs] => some (.int xs.length)
  | [.dict [(.none, .list xs)]] => some (.int xs.length)
  | _ => none
def bAbs : List D → Option D
  | [.int i] => some (.int (if i < 0 then -i else i))
  | _ => none
def bInt : List D → Option D
  | [.int i] => some (.int i)
  | [.bool b] => some (.int (if b then 1 else 0))
  | _ => none
def bMax2 : List D → Option D
  | [.int i, .int j] => some (.int (if j > i then j else i))
  | _ => none
def bMin2 : List D → Option D
  | [.int i, .int j] => some (.int (if j < i then j else i))
  | _ => none
def bSum : List D → Option D
  | [x] => (seqD x).bind fun xs => (asInts xs).map fun ns => .int ns.sum
  | _ => none
def bAll : List D → Option D
  | [x] => (seqD x).bind fun xs => (asBools xs).map fun ns => .bool (ns.all id)
  | _ => none
def bAny : List D → Option D
  | [x] => (seqD x).bind fun xs => (asBools xs).map fun ns => .bool (ns.any id)
  | _ => none
def bTuple : List D → Option D
  | [x] => (seqD x).map .tuple
  | _ => none
def bList : List D → Option D
  | [x] => (seqD x).map .list
  | _ => none

section
variable {K : PySem.W.Frag} {A : Addr → Prop} {H H' : Hp} {v : V} {d : D} {vs : List V} {ds : List D}
theorem p1 {F : V → D → Prop} {x : D} (h : Paired F vs [x]) : ∃ v, vs = [v] ∧ F v x := by
  cases h with
  | cons a r => cases r; exact ⟨_, rfl, a⟩
theorem p2 {F : V → D → Prop} {x y : D} (h : Paired F vs [x, y]) : ∃ v u, vs = [v, u] ∧ F v x ∧ F u y := by
  cases h with
  | cons a r =>
    cases r with
    | cons b r => cases r; exact ⟨_, _, rfl, a, b⟩
theorem WRp.seq {xs : List D} (h : WRp K A H v d) (e : seqD d = some xs) : ∃ a vs, v = .ref a ∧ (H a = some (.lst vs) ∨ H a = some (.tup vs)) ∧ RpL K A H vs xs := by
  unfold seqD at e
  split at e
  · cases e
    obtain ⟨a, vs, e1, e2, e3⟩ := h.lst
    exact ⟨a, vs, e1, .inl e2, e3⟩
  · cases e
    obtain ⟨a, vs, e1, e2, _, e3⟩ := h.tup
    exact ⟨a, vs, e1, .inr e2, e3⟩
  · cases e
theorem RpL.ints : ∀ {vs : List V} {ds : List D} {ns : List Int}, RpL K A H vs ds → asInts ds = some ns → vs = ns.map V.int
  | _, _, _, .nil, e => by cases e; rfl
  | _, _, ns, .cons h r, e => by
    cases h with
    | int i =>
      simp only [asInts] at e
      obtain ⟨ms, e1, e2⟩ := Option.map_eq_some_iff.mp e
      subst e2
      rw [RpL.ints r e1]
      rfl
    | _ => simp [asInts] at e
theorem RpL.bools : ∀ {vs : List V} {ds : List D} {ns : List Bool}, RpL K A H vs ds → asBools ds = some ns → vs = ns.map V.bl
  | _, _, _, .nil, e => by cases e; rfl
  | _, _, ns, .cons h r, e => by
    cases h with
    | bl i =>
      simp only [asBools] at e
      obtain ⟨ms, e1, e2⟩ := Option.map_eq_some_iff.mp e
      subst e2
      rw [RpL.bools r e1]
      rfl
    | _ => simp [asBools] at e
end

/-! ### a list or a tuple, walked -/
section
variable {X : Cx} {pins : List (Addr × Obj)} {σ : L2.St} {H : Hp} {s : Shared}
/-- the iterator of a list or a tuple -/
theorem sq_iter {A : Around} {E : Value → Shared → Prop} {a : Addr} {xs : List V} {Q : Value → Shared → Prop} (hh : A.handled = none) (I : Inv X pins σ H s) (h : H a = some (.lst xs) ∨ H a = some (.tup xs))
    (k : ∀ (its : List Value) (J : Addr) (fp wr : List Addr) (St : Nat → Heap → Prop) (h₂ : Heap), Vals xs its → Walks X.prog X.w A J fp wr its.length (fun i v => its[i]? = some v) St → St 0 h₂ → (∀ b ∈ fp, b < h₂.objs.size) →
      (∀ h' : Heap, (∀ b o, b ∉ wr → h₂.get? b = some o → h'.get? b = some o) → ∀ b o, s.heap.get? b = some o → h'.get? b = some o) → Q (.ref J) { s with heap := h₂ }) :
    wpAny (model X.prog X.w) A (pyIter (.ref a)) Q E s := by
  have fin : ∀ (o : Obj) (h' : Heap), (∀ b q, b ∉ [s.heap.objs.size] → (s.heap.push o).get? b = some q → h'.get? b = some q) → ∀ b q, s.heap.get? b = some q → h'.get? b = some q := fun o h' hk b q e =>
    hk b q (fun z => by
      have z' : b = s.heap.objs.size := by simpa using z
      exact absurd (z' ▸ Heap.lt_size e) (Nat.lt_irrefl _)) (Heap.get?_push_of_some _ e)
  have small : ∀ (o : Obj) (l : Addr), l < s.heap.objs.size → ∀ b ∈ [s.heap.objs.size, l], b < (s.heap.push o).objs.size := fun o l hl b hb => by
    rw [Heap.size_push]
    have z : b = s.heap.objs.size ∨ b = l := by simpa using hb
    rcases z with z | z
    · rw [z]; exact Nat.lt_succ_self _
    · rw [z]; exact Nat.lt_succ_of_lt hl
  rcases h with h | h
  · obtain ⟨its, rv, p, hz⟩ := I.list (.of h)
    have hlt : a < s.heap.objs.size := p.lt
    refine wpAny_pyIter_list p.isList ?_
    have W := Walks.list (prog := X.prog) (w := X.w) hh s.heap.objs.size a (Nat.ne_of_lt hlt) its.toArray
    refine k its _ [s.heap.objs.size, a] [s.heap.objs.size] (fun i h => h.IsListIter s.heap.objs.size a i ∧ h.IsList a its.toArray) _ rv (by simpa using W) ⟨⟨_, Heap.get?_push_size _ rfl, rfl, rfl⟩, p.isList.push _⟩ (small _ _ hlt) (fin _)
  · obtain ⟨its, rv, p, hz⟩ := I.tuple (.of h)
    have hlt : a < s.heap.objs.size := p.lt
    refine wpAny_pyIter_tuple (show s.heap.IsTuple a its.toArray from p) ?_
    have W := Walks.tuple (prog := X.prog) (w := X.w) hh s.heap.objs.size a (Nat.ne_of_lt hlt) its.toArray
    obtain ⟨o, ho, r⟩ := id p
    refine k its _ [s.heap.objs.size, a] [s.heap.objs.size] (fun i h => h.IsTupleIter s.heap.objs.size a i ∧ h.IsTuple a its.toArray) _ rv (by simpa using W) ⟨⟨_, Heap.get?_push_size _ rfl, rfl, rfl⟩, ⟨o, Heap.get?_push_of_some _ ho, r⟩⟩ (small _ _ hlt) (fin _)
end

section
variable {X : Cx} {k : Nat}
theorem ref1 {a : Addr} {us : List Value} (r : Vals [V.ref a] us) : us = [Value.ref a] := Vals.ref1 r
theorem cb_len : CallR X (.builtin "len") (rC X.K .f bLen) := by
  intro pins s σ H vs us Q I r ⟨A, ds, d, tr, w, e, q⟩
  unfold bLen at e
  split at e
  · cases e
    obtain ⟨v, rfl, w1⟩ := p1 w
    obtain ⟨a, xs, rfl, ha, ra⟩ := w1.lst
    exact call_len_seq pins s σ H _ us Q I r ⟨a, xs, rfl, .inl (.of ha), by rw [ra.length]; exact q _ H (Same.refl H) Res.int⟩
  · cases e
    obtain ⟨v, rfl, w1⟩ := p1 w
    obtain ⟨a, xs, rfl, ha, _, ra⟩ := w1.tup
    exact call_len_seq pins s σ H _ us Q I r ⟨a, xs, rfl, .inr (.of ha), by rw [ra.length]; exact q _ H (Same.refl H) Res.int⟩
  · cases e
    obtain ⟨v, rfl, w1⟩ := p1 w
    obtain ⟨a, xs, rfl, ha, ra⟩ := w1.scr
    exact call_len_seq pins s σ H _ us Q I r ⟨a, xs, rfl, .inl ha, by rw [ra.length]; exact q _ H (Same.refl H) Res.int⟩
  · cases e
theorem cb_abs : CallR X (.builtin "abs") (rC X.K .f bAbs) := by
  intro pins s σ H vs us Q I r ⟨A, ds, d, tr, w, e, q⟩
  unfold bAbs at e
  split at e
  · cases e
    obtain ⟨v, rfl, w1⟩ := p1 w
    exact call_abs pins s σ H _ us Q I r ⟨_, by rw [w1.int], q _ H (Same.refl H) Res.int⟩
  · cases e
theorem cb_int : CallR X (.type "int") (rC X.K .f bInt) := by
  intro pins s σ H vs us Q I r ⟨A, ds, d, tr, w, e, q⟩
  unfold bInt at e
  split at e
  · cases e
    obtain ⟨v, rfl, w1⟩ := p1 w
    exact call_int1 pins s σ H _ us Q I r (.inl ⟨_, by rw [w1.int], q _ H (Same.refl H) Res.int⟩)
  · cases e
    obtain ⟨v, rfl, w1⟩ := p1 w
    exact call_int1 pins s σ H _ us Q I r (.inr ⟨_, by rw [w1.bl], q _ H (Same.refl H) Res.int⟩)
  · cases e
theorem cb_max2 (hc : X.calm = true := by rfl) : CallR X (.builtin "max") (rC X.K .f bMax2) := by
  intro pins s σ H vs us Q I r ⟨A, ds, d, tr, w, e, q⟩
  unfold bMax2 at e
  split at e
  · cases e
    obtain ⟨v, u, rfl, w1, w2⟩ := p2 w
    exact call_max2 hc pins s σ H _ us Q I r ⟨_, _, by rw [w1.int, w2.int], q _ H (Same.refl H) Res.int⟩
  · cases e
theorem cb_min2 (hc : X.calm = true := by rfl) : CallR X (.builtin "min") (rC X.K .f bMin2) := by
  intro pins s σ H vs us Q I r ⟨A, ds, d, tr, w, e, q⟩
  unfold bMin2 at e
  split at e
  · cases e
    obtain ⟨v, u, rfl, w1, w2⟩ := p2 w
    exact call_min2 hc pins s σ H _ us Q I r ⟨_, _, by rw [w1.int, w2.int], q _ H (Same.refl H) Res.int⟩
  · cases e
theorem intsAt {its : List Value} {ns : List Int} (r : Vals (ns.map V.int) its) (i : Nat) (v : Value) (h : its[i]? = some v) : ∃ t, v = .int (ns.getD i 0) t := by
  have hi := r.length
  rw [List.length_map] at hi
  have hlt : i < ns.length := by rw [hi]; exact (List.getElem?_eq_some_iff.mp h).1
  obtain ⟨u, e, q⟩ := r.get (i := i) (x := .int ns[i]) (by simp [hlt])
  rw [h] at e
  cases e
  obtain ⟨t, rfl⟩ := q
  exact ⟨t, by simp [hlt]⟩
theorem preSum_all (ns : List Int) : preSum (fun i => ns.getD i 0) ns.length = ns.sum := by
  have h : ∀ k, k ≤ ns.length → preSum (fun i => ns.getD i 0) k = (ns.take k).sum := by
    intro k
    induction k with
    | zero => intro _; rfl
    | succ k ih =>
      intro hk
      show preSum (fun i => ns.getD i 0) k + ns.getD k 0 = _
      rw [ih (by omega), List.take_succ, List.sum_append, List.getElem?_eq_getElem (by omega)]
      simp [List.getD_eq_getElem?_getD, List.getElem?_eq_getElem (show k < ns.length by omega)]
  rw [h _ (Nat.le_refl _), List.take_length]
theorem cb_sum (hc : X.calm = true := by rfl) : CallR X (.builtin "sum") (rC X.K .f bSum) := by
  intro pins s σ H vs us Q I r ⟨A, ds, d, tr, w, e, q⟩
  unfold bSum at e
  split at e
  · obtain ⟨v, rfl, w1⟩ := p1 w
    obtain ⟨xs, e1, e⟩ := bind2 e
    obtain ⟨ns, e2, e⟩ := Option.map_eq_some_iff.mp e
    subst e
    obtain ⟨a, vs, rfl, ha, ra⟩ := w1.seq e1
    rw [ref1 r]
    have hv := ra.ints e2
    subst hv
    refine call_sum_walkG (sq_iter (show X.A.in1.handled = none from I.ok.hd hc) I ha fun its J fp wr St h₂ rv W st hfp kp => ?_)
    have hl := rv.length
    rw [List.length_map] at hl
    refine ⟨_, _, _, _, _, _, fun i => ns.getD i 0, rfl, W, st, hfp, fun i v h => intsAt rv i v h, fun h' tk t' hk => ?_⟩
    rw [← hl, preSum_all]
    exact ⟨.int _, H, I.kept (kp h' hk), ⟨_, rfl⟩, q _ H (Same.refl H) Res.int⟩
  · cases e
theorem truths {prog : Program} {w : World} {A : Around} {bs : List Bool} {its : List Value} (e : its = bs.map Value.bool) : TruthOf prog w A (fun i v => its[i]? = some v) (fun i => bs.getD i false) := by
  have := truth_bools (prog := prog) (w := w) (A := A) e
  simpa using this
theorem cb_all (hc : X.calm = true := by rfl) : CallR X (.builtin "all") (rC X.K .f bAll) := by
  intro pins s σ H vs us Q I r ⟨A, ds, d, tr, w, e, q⟩
  unfold bAll at e
  split at e
  · obtain ⟨v, rfl, w1⟩ := p1 w
    obtain ⟨xs, e1, e⟩ := bind2 e
    obtain ⟨ns, e2, e⟩ := Option.map_eq_some_iff.mp e
    subst e
    obtain ⟨a, vs, rfl, ha, ra⟩ := w1.seq e1
    rw [ref1 r]
    have hv := ra.bools e2
    subst hv
    refine call_all_walk (sq_iter (show X.A.in1.handled = none from I.ok.hd hc) I ha fun its J fp wr St h₂ rv W st hfp kp => ?_)
    have hl := rv.length
    rw [List.length_map] at hl
    refine ⟨_, _, _, _, _, _, _, rfl, W, st, truths rv.bls, fun h' tk hk => ?_⟩
    rw [← hl, L2.all_range]
    exact ⟨.bl _, H, I.kept (kp h' hk), rfl, q _ H (Same.refl H) Res.bl⟩
  · cases e
theorem cb_any (hc : X.calm = true := by rfl) : CallR X (.builtin "any") (rC X.K .f bAny) := by
  intro pins s σ H vs us Q I r ⟨A, ds, d, tr, w, e, q⟩
  unfold bAny at e
  split at e
  · obtain ⟨v, rfl, w1⟩ := p1 w
    obtain ⟨xs, e1, e⟩ := bind2 e
    obtain ⟨ns, e2, e⟩ := Option.map_eq_some_iff.mp e
    subst e
    obtain ⟨a, vs, rfl, ha, ra⟩ := w1.seq e1
    rw [ref1 r]
    have hv := ra.bools e2
    subst hv
    refine call_any_walk (sq_iter (show X.A.in1.handled = none from I.ok.hd hc) I ha fun its J fp wr St h₂ rv W st hfp kp => ?_)
    have hl := rv.length
    rw [List.length_map] at hl
    refine ⟨_, _, _, _, _, _, _, rfl, W, st, truths rv.bls, fun h' tk hk => ?_⟩
    rw [← hl, L2.any_range]
    exact ⟨.bl _, H, I.kept (kp h' hk), rfl, q _ H (Same.refl H) Res.bl⟩
  · cases e
theorem cb_tuple : CallR X (.type "tuple") (rC X.K .f bTuple) := by
  intro pins s σ H vs us Q I r ⟨A, ds, d, tr, w, e, q⟩
  unfold bTuple at e
  split at e
  · obtain ⟨v, rfl, w1⟩ := p1 w
    obtain ⟨xs, e1, e⟩ := Option.map_eq_some_iff.mp e
    subst e
    unfold seqD at e1
    split at e1
    · cases e1
      obtain ⟨a, ys, rfl, ha, ra⟩ := w1.lst
      exact call_tuple_of pins s σ H _ us Q I r ⟨a, ys, rfl, .inl ⟨.of ha, fun l hl => q _ _ (same_upd hl) (Res.flat (Rp.newT tr hl ra) rfl)⟩⟩
    · cases e1
      obtain ⟨a, ys, rfl, ha, na, ra⟩ := w1.tup
      exact call_tuple_of pins s σ H _ us Q I r ⟨a, ys, rfl, .inr ⟨.of ha, q _ H (Same.refl H) (Res.flat (.tup ha na ra) rfl)⟩⟩
    · cases e1
  · cases e
theorem cb_list : CallR X (.type "list") (rC X.K .f bList) := by
  intro pins s σ H vs us Q I r ⟨A, ds, d, tr, w, e, q⟩
  unfold bList at e
  split at e
  · obtain ⟨v, rfl, w1⟩ := p1 w
    obtain ⟨xs, e1, e⟩ := Option.map_eq_some_iff.mp e
    subst e
    obtain ⟨a, ys, rfl, ha, ra⟩ := w1.seq e1
    refine call_list_of pins s σ H _ us Q I r ⟨a, ys, rfl, ha.elim (fun h => .inl (.of h)) (fun h => .inr (.of h)), fun l hl => q _ _ (same_upd hl) (Res.newL tr hl ra (Same.refl H))⟩
  · cases e

/-! ### isinstance of a written built-in type -/
def tyName : D → String
  | .none => "NoneType"
  | .bool _ => "bool"
  | .int _ => "int"
  | .str _ => "str"
  | .list _ => "list"
  | .tuple _ => "tuple"
  | .dict _ => "dict"
def oIsi (T : String) (d : D) : Option D := match d with
  | .dict _ => none
  | _ => (kitB (tyName d) T).map .bool
theorem WRp.ty {K : PySem.W.Frag} {A : Addr → Prop} {H : Hp} {v : V} {d : D} (w : WRp K A H v d) (h : ∀ kvs, d ≠ .dict kvs) : TyX K H v (.type (tyName d)) := by
  rcases w with w | ⟨a, e, w⟩
  · cases w with
    | non => exact .base .non
    | bl b => exact .base (.bl b)
    | int i => exact .base (.int i)
    | str x => exact .base (.str x)
    | lst e n r => exact .base (.lst e)
    | tup e n r => exact .base (.tup e)
    | scr e n r => exact absurd rfl (h _)
    | kl e r => exact absurd rfl (h _)
    | dic e n r q => exact absurd rfl (h _)
  · subst e
    cases w with
    | lst e r => exact .base (.lst e)
    | dic e r q => exact absurd rfl (h _)
section
variable {O : List Nat} {m : Md} {a : Expr} {fa : Xp} {p pos pt : Pos} {x T' : Str} {T : String}
theorem se_isi (T : String) (ha : SE X O m a fa) (hm : X.mg "isinstance" = none) (hmT : X.mg T' = none) (hg : Gl X "isinstance" := by rfl) (hgT : Gl X T' := by rfl) (hvT : bootBuiltins T' = some (.type T) := by rfl) (hnT : T' ≠ "__name__" := by decide) (hdT : (T' == ("__debug__" : Str)) = false := by decide)
    (hs : starEach (a :: [Expr.Name T' pt]) X.env = (false, eval a X.env) :: starEach [Expr.Name T' pt] X.env := by rfl) (hs2 : starEach [Expr.Name T' pt] X.env = (false, eval (.Name T' pt) X.env) :: starEach [] X.env := by rfl)
    (hpl : (backTo pos (starEach [Expr.Name T' pt] X.env)).any (·.1) = false := by rfl) : SE X O .f (.Call (.Name "isinstance" p) [a, .Name T' pt] [] pos) (xUn (oIsi T) fa) := by
  have hT : PE X (.Name T' pt) (tC (.ty T)) := pe_bltn hgT hmT hvT rfl hnT hdT
  refine ⟨pe_imp (pe_callB call_isi hg hm (by decide +kernel) (pa_cons ha.pe (pa_cons hT pa_nil hs2) hs) (by decide) (by decide) hs hpl) fun σ H Q q => ?_⟩
  obtain ⟨H0, A0, G, ρ, B, d, S, e, k⟩ := q
  obtain ⟨y, ey, e⟩ := bind2 e
  unfold oIsi at e
  split at e
  · cases e
  · rename_i hnd
    obtain ⟨b, eb, e⟩ := Option.map_eq_some_iff.mp e
    subst e
    refine ⟨H0, A0, G, ρ, B, y, S, ey, fun v H1 s1 r1 => ?_⟩
    exact ⟨v, .ty T, .type (tyName y), .type T, b, rfl, .ty T, r1.toW.ty hnd, kit_ty eb, k _ H1 s1 Res.bl⟩
end
end
end Pm

namespace Pm
open PySem PySem.Spec PyProof.Rows L2

/-! ### what is walked -/
structure Yl (K : PySem.W.Frag) (J : It) (gs : List (V × D)) (ds : List D) : Prop where
  go : ∀ A H i d, Tr A H → (∀ p ∈ gs, WRp K A H p.1 p.2) → ds[i]? = some d → J.go i H ∧ ∀ x H', J.yld i H x H' → Same H H' ∧ Rp K A H' x d
  stop : ∀ A H, Tr A H → (∀ p ∈ gs, WRp K A H p.1 p.2) → J.stop ds.length H
def strongR (K : PySem.W.Frag) (A : Addr → Prop) (H : Hp) (st : Bool) (v : V) (d : D) : Prop := if st then Rp K A H v d else WRp K A H v d
def simI (K : PySem.W.Frag) (O : List Nat) (st : Bool) (f : XL) : TI := fun σ H R => ∃ H0 A0 G ρ B ds, Sim K H0 A0 G O σ H ρ B ∧ f ρ = some ds ∧
  ∀ J H' gs, Same H H' → Yl K J gs ds → (∀ p ∈ gs, strongR K (Av A0 B) H' st p.1 p.2) → ds.length ≤ 16777216 → R J H'
structure SI (X : Cx) (O : List Nat) (st : Bool) (tg iter : Expr) (f : XL) : Prop where
  pi : PI X tg iter (simI X.K O st f)
theorem pi_imp {X : Cx} {tg e : Expr} {t t' : TI} (h : PI X tg e t) (hi : ∀ σ H Q, t' σ H Q → t σ H Q) : PI X tg e t' := ⟨fun pins s σ H Q I q => h.run pins s σ H Q I (hi _ _ _ q)⟩
theorem pi_or {X : Cx} {tg e : Expr} {t t' : TI} (h : PI X tg e t) (h' : PI X tg e t') : PI X tg e (fun σ H R => t σ H R ∨ t' σ H R) :=
  ⟨fun pins s σ H Q I q => q.elim (h.run pins s σ H Q I) (h'.run pins s σ H Q I)⟩
/-- lists and tuples are no longer than the line -/
def HpOk (H : Hp) : Prop := ∀ a xs, (H a = some (.lst xs) ∨ H a = some (.tup xs)) → xs.length ≤ 16777216
theorem hpok {X : Cx} {pins : List (Addr × Obj)} {σ : L2.St} {H : Hp} {s : Shared} (I : Inv X pins σ H s) : HpOk H := fun a xs h => by
  rcases h with h | h
  · have z : xs.length ≤ sizeLine := (I.hok a _ h).1
    exact z
  · have z : xs.length ≤ sizeLine := (I.hok a _ h).1
    exact z
theorem pe_ok {X : Cx} {e : Expr} {t : TE} (h : PE X e t) : PE X e (fun σ H Q => t σ H fun v H' => HpOk H' → Q v H') :=
  ⟨fun pins s σ H Q I q => thn (h.run pins s σ H _ I q) fun u s' ⟨v, H', I', r, q'⟩ => ⟨v, H', I', r, q' (hpok I')⟩⟩
theorem pa_ok {X : Cx} {e : List Expr} {t : TA} (h : PA X e t) : PA X e (fun σ H Q => t σ H fun v H' => HpOk H' → Q v H') :=
  ⟨fun pos pins s σ H Q I q => thn (h.run pos pins s σ H _ I q) fun u s' ⟨v, H', I', r, q'⟩ => ⟨v, H', I', r, q' (hpok I')⟩⟩
section
variable {X : Cx} {O : List Nat} {m ma mb mc : Md} {st : Bool} {a b c e tg : Expr} {es : List Expr} {fa fb fc f : Xp} {fs : XL} {pos p : Pos}
def xSeq (f : Xp) : XL := fun ρ => (f ρ).bind seqD
def mdS : Md → Bool
  | .w => false
  | _ => true
theorem Res.sR {K : PySem.W.Frag} {A : Addr → Prop} {He H' : Hp} {v : V} {d : D} (t : Tr A He) (h : Res K A He H' m v d) : strongR K A H' (mdS m) v d := by
  cases m with
  | w => exact h
  | s => exact h
  | f => exact h.toS t (by decide)
theorem strongR.w {K : PySem.W.Frag} {A : Addr → Prop} {H' : Hp} {v : V} {d : D} (h : strongR K A H' st v d) : WRp K A H' v d := by
  cases st with
  | true => exact .inl h
  | false => exact h
/-- a tracked list has one content -/
theorem sql_one {K : PySem.W.Frag} {H : Hp} {a : Addr} {xs ys : List V} (h : H a = some (.lst xs)) (h' : Rd H a (.lst ys)) : ys = xs := by
  rcases h' with h' | ⟨o, h'⟩
  · rw [h] at h'; cases h'; rfl
  · rw [h] at h'; cases h'
theorem si_seq (h : SE X O m e f) : SI X O (mdS m) tg e (xSeq f) := by
  refine ⟨pi_imp (pi_or (pi_list (pe_ok h.pe)) (pi_tup (pe_ok h.pe))) fun σ H R q => ?_⟩
  obtain ⟨H0, A0, G, ρ, B, ds, S, e, k⟩ := q
  obtain ⟨d, ed, e⟩ := bind2 e
  unfold seqD at e
  split at e
  · cases e
    refine .inl ⟨H0, A0, G, ρ, B, _, S, ed, fun v H1 s1 r1 ok => ?_⟩
    obtain ⟨a, xs, rfl, ha, ra⟩ := r1.toW.lst
    refine ⟨a, rfl, ⟨xs, .of ha⟩, k _ H1 [(.ref a, .list ds)] s1 ⟨fun A H i d t g e => ?_, fun A H t g => ?_⟩ (fun p hp => ?_) (by rw [← ra.length]; exact ok a xs (.inl ha))⟩
    · obtain ⟨b, ys, eb, hb, rb⟩ := (g _ (List.mem_singleton.mpr rfl)).lst
      cases eb
      obtain ⟨y, ey, ry⟩ := rb.get e
      refine ⟨⟨ys, y, .of hb, ey⟩, fun x H' hy => ?_⟩
      obtain ⟨rfl, hy⟩ := hy
      have := hy ys (.of hb)
      rw [ey] at this
      cases this
      exact ⟨Same.refl _, ry⟩
    · obtain ⟨b, ys, eb, hb, rb⟩ := (g _ (List.mem_singleton.mpr rfl)).lst
      cases eb
      exact ⟨ys, .of hb, by rw [rb.length]; exact Nat.le_refl _⟩
    · rw [List.mem_singleton.mp hp]
      exact r1.sR S.tr
  · cases e
    refine .inr ⟨H0, A0, G, ρ, B, _, S, ed, fun v H1 s1 r1 ok => ?_⟩
    obtain ⟨a, xs, rfl, ha, na, ra⟩ := r1.toW.tup
    refine ⟨a, rfl, ⟨xs, .of ha⟩, k _ H1 [(.ref a, .tuple ds)] s1 ⟨fun A H i d t g e => ?_, fun A H t g => ?_⟩ (fun p hp => ?_) (by rw [← ra.length]; exact ok a xs (.inr ha))⟩
    · obtain ⟨b, ys, eb, hb, nb, rb⟩ := (g _ (List.mem_singleton.mpr rfl)).tup
      cases eb
      obtain ⟨y, ey, ry⟩ := rb.get e
      refine ⟨⟨ys, y, .of hb, ey⟩, fun x H' hy => ?_⟩
      obtain ⟨rfl, hy⟩ := hy
      have := hy ys (.of hb)
      rw [ey] at this
      cases this
      exact ⟨Same.refl _, ry⟩
    · obtain ⟨b, ys, eb, hb, nb, rb⟩ := (g _ (List.mem_singleton.mpr rfl)).tup
      cases eb
      exact ⟨ys, .of hb, by rw [rb.length]; exact Nat.le_refl _⟩
    · rw [List.mem_singleton.mp hp]
      exact r1.sR S.tr
  · cases e
/-- lo, lo + c, .. -/
def rangeD (lo c : Int) (n : Nat) : List D := (List.range n).map fun i => .int (lo + (i : Nat) * c)
theorem rangeD_len (lo c : Int) (n : Nat) : (rangeD lo c n).length = n := by simp [rangeD]
theorem rangeD_get {lo c : Int} {n i : Nat} {d : D} (h : (rangeD lo c n)[i]? = some d) : i < n ∧ d = .int (lo + (i : Nat) * c) := by
  have hl : i < n := by
    have := (List.getElem?_eq_some_iff.mp h).1
    rwa [rangeD_len] at this
  refine ⟨hl, ?_⟩
  unfold rangeD at h
  rw [List.getElem?_map, List.getElem?_range hl] at h
  cases h
  rfl
def oR1 : List D → Option (List D)
  | [.int j] => if j ≤ 16777216 ∧ -(2 ^ 62) ≤ j then some (rangeD 0 1 j.toNat) else none
  | _ => none
def oR2 : List D → Option (List D)
  | [.int i, .int j] => if -(2 ^ 60) ≤ i ∧ i < 2 ^ 60 ∧ -(2 ^ 60) ≤ j ∧ j < 2 ^ 60 ∧ j - i ≤ 16777216 then some (rangeD i 1 (j - i).toNat) else none
  | _ => none
def oR3 : List D → Option (List D)
  | [.int i, .int j, .int (-1)] => if -(2 ^ 60) ≤ i ∧ i < 2 ^ 60 ∧ -(2 ^ 60) ≤ j ∧ j < 2 ^ 60 ∧ i - j ≤ 16777216 then some (rangeD i (-1) (i - j).toNat) else none
  | [.int i, .int j, .int c] => if RgOk i j c then some (rangeD i c (rgN i j c)) else none
  | _ => none
where
  rgN (i j c : Int) : Nat := (Builtin.Range.rangeSize i j c).toNat
  RgOk (i j c : Int) : Bool := decide (c ≠ 0) && decide (c.natAbs < 1073741824) && Builtin.Range.small i j c && decide (0 ≤ Builtin.Range.rangeSize i j c) && decide (Builtin.Range.rangeSize i j c ≤ 16777216)
def xIt (g : List D → Option (List D)) (fs : XL) : XL := fun ρ => (fs ρ).bind g
theorem yl_r {K : PySem.W.Frag} (lo : Int) (n : Nat) : Yl K (Itr lo n) [] (rangeD lo 1 n) where
  go := fun A H i d t g e => by
    obtain ⟨h1, h2⟩ := rangeD_get e
    subst h2
    refine ⟨h1, fun x H' hy => ?_⟩
    obtain ⟨rfl, rfl⟩ := hy
    refine ⟨Same.refl _, ?_⟩
    rw [Int.mul_one]
    exact .int _
  stop := fun A H t g => by
    rw [rangeD_len]
    exact Nat.le_refl _
theorem yl_c {K : PySem.W.Frag} (lo c : Int) (n : Nat) : Yl K (Itc lo c n) [] (rangeD lo c n) where
  go := fun A H i d t g e => by
    obtain ⟨h1, h2⟩ := rangeD_get e
    subst h2
    refine ⟨h1, fun x H' hy => ?_⟩
    obtain ⟨rfl, rfl⟩ := hy
    exact ⟨Same.refl _, .int _⟩
  stop := fun A H t g => by
    rw [rangeD_len]
    exact Nat.le_refl _
theorem p3 {F : V → D → Prop} {vs : List V} {x y z : D} (h : Paired F vs [x, y, z]) : ∃ v u w, vs = [v, u, w] ∧ F v x ∧ F u y ∧ F w z := by
  cases h with
  | cons a r =>
    obtain ⟨u, w, rfl, h1, h2⟩ := p2 r
    exact ⟨_, _, _, rfl, a, h1, h2⟩
theorem si_r1 (hm : X.mg "range" = none) (ha : SA X O st [a] fs) (hg : Gl X "range" := by rfl) (hs : starEach [a] X.env = [(false, eval a X.env)] := by rfl) : SI X O true tg (.Call (.Name "range" p) [a] [] pos) (xIt oR1 fs) := by
  refine ⟨pi_imp (pi_range1 hg hm ha.pa hs) fun σ H R q => ?_⟩
  obtain ⟨H0, A0, G, ρ, B, ds, S, e, k⟩ := q
  obtain ⟨d, ed, e⟩ := bind2 e
  unfold oR1 at e
  split at e
  · split at e
    · rename_i hz
      cases e
      refine ⟨H0, A0, G, ρ, B, _, S, ed, fun vs H1 s1 r1 => ?_⟩
      obtain ⟨v, rfl, w⟩ := p1 r1.weak
      exact ⟨_, by rw [w.int], hz.2, by omega, k _ H1 [] s1 (yl_r _ _) (fun p hp => nomatch hp) (by rw [rangeD_len]; omega)⟩
    · cases e
  · cases e
theorem si_r2 (hm : X.mg "range" = none) (ha : SA X O st [a, b] fs) (hg : Gl X "range" := by rfl) (hs : starEach [a, b] X.env = [(false, eval a X.env), (false, eval b X.env)] := by rfl) (hs2 : starEach [b] X.env = [(false, eval b X.env)] := by rfl) : SI X O true tg (.Call (.Name "range" p) [a, b] [] pos) (xIt oR2 fs) := by
  refine ⟨pi_imp (pi_range2 hg hm ha.pa hs hs2) fun σ H R q => ?_⟩
  obtain ⟨H0, A0, G, ρ, B, ds, S, e, k⟩ := q
  obtain ⟨d, ed, e⟩ := bind2 e
  unfold oR2 at e
  split at e
  · split at e
    · rename_i hz
      cases e
      refine ⟨H0, A0, G, ρ, B, _, S, ed, fun vs H1 s1 r1 => ?_⟩
      obtain ⟨v, u, rfl, w, w'⟩ := p2 r1.weak
      exact ⟨_, _, by rw [w.int, w'.int], ⟨by omega, by omega, by omega, by omega⟩, k _ H1 [] s1 (yl_r _ _) (fun p hp => nomatch hp) (by rw [rangeD_len]; omega)⟩
    · cases e
  · cases e
theorem si_r3 (hm : X.mg "range" = none) (ha : SA X O st [a, b, c] fs) (hg : Gl X "range" := by rfl) (hs : starEach [a, b, c] X.env = (false, eval a X.env) :: starEach [b, c] X.env := by rfl) (hpl : (backTo pos (starEach [b, c] X.env)).any (·.1) = false := by rfl) : SI X O true tg (.Call (.Name "range" p) [a, b, c] [] pos) (xIt oR3 fs) := by
  refine ⟨pi_imp (pi_range3 hg hm ha.pa hs hpl) fun σ H R q => ?_⟩
  obtain ⟨H0, A0, G, ρ, B, ds, S, e, k⟩ := q
  obtain ⟨d, ed, e⟩ := bind2 e
  unfold oR3 at e
  split at e
  · split at e
    · rename_i hz
      cases e
      refine ⟨H0, A0, G, ρ, B, _, S, ed, fun vs H1 s1 r1 => ?_⟩
      obtain ⟨v, u, w, rfl, w1, w2, w3⟩ := p3 r1.weak
      exact ⟨_, _, _, _, by rw [w1.int, w2.int, w3.int], RgC.neg (by omega) (by omega) (by omega) (by omega), k _ H1 [] s1 (yl_c _ _ _) (fun p hp => nomatch hp) (by rw [rangeD_len]; omega)⟩
    · cases e
  · split at e
    · rename_i hz
      cases e
      refine ⟨H0, A0, G, ρ, B, _, S, ed, fun vs H1 s1 r1 => ?_⟩
      obtain ⟨v, u, w, rfl, w1, w2, w3⟩ := p3 r1.weak
      unfold oR3.RgOk at hz
      simp only [Bool.and_eq_true, decide_eq_true_eq] at hz
      obtain ⟨⟨⟨⟨z1, z2⟩, z3⟩, z4⟩, z5⟩ := hz
      refine ⟨_, _, _, oR3.rgN _ _ _, by rw [w1.int, w2.int, w3.int], ⟨z1, z2, z3, ?_⟩, k _ H1 [] s1 (yl_c _ _ _) (fun p hp => nomatch hp) ?_⟩
      · unfold oR3.rgN
        omega
      · rw [rangeD_len]
        unfold oR3.rgN
        omega
    · cases e
  · cases e
/-- enumerate of a list -/
def enumD (xs : List D) : List D := (List.range xs.length).zipWith (fun i x => .tuple [.int (i : Nat), x]) xs
theorem enumD_len (xs : List D) : (enumD xs).length = xs.length := by simp [enumD]
theorem enumD_get {xs : List D} {i : Nat} {d : D} (h : (enumD xs)[i]? = some d) : ∃ x, xs[i]? = some x ∧ d = .tuple [.int (i : Nat), x] := by
  have hl : i < xs.length := by
    have := (List.getElem?_eq_some_iff.mp h).1
    rwa [enumD_len] at this
  refine ⟨xs[i], List.getElem?_eq_getElem hl, ?_⟩
  unfold enumD at h
  rw [List.getElem?_zipWith, List.getElem?_range hl, List.getElem?_eq_getElem hl] at h
  cases h
  rfl
theorem sqOne {K : PySem.W.Frag} {H : Hp} {a : Addr} {xs : List V} (h : H a = some (.lst xs)) {P : List V → Prop} (p : ∀ ys, SqL K H a ys → P ys) : P xs := p xs (.of h)
end
end Pm

/-! enumerate of a tuple, as a Turn -/
namespace Pm
open PySem PySem.Spec PyProof.Rows L2
set_option maxHeartbeats 1000000 in
theorem meets_enum1 {v : Value} {ob : Obj} {Hy : Heap → Prop} (Bg : Begins v ob Hy) :
    Meets (Builtin.«enumerate.__new__» ⟨[.type "enumerate", v], []⟩) (fun _ R s => Hy s.heap ∧
      R (.ok (.ret (.ref (s.heap.push ob).objs.size))) { s with heap := (s.heap.push ob).push { cls := .type "enumerate", data := .fields #[.none, .bool false, .ref s.heap.objs.size, rawInt 0, .none, .none] } }) :=
  .of_wp fun prog w A R s z => by
    obtain ⟨hp, gs, dr, tks, ost⟩ := s; obtain ⟨z1, z⟩ := z
    have hsub := sub_enumerate
    have run : ∀ {A' : Around} {E : Value → Shared → Prop} {Q : Value → Shared → Prop}, Q (.ref hp.objs.size) ⟨hp.push ob, gs, dr, tks, ost⟩ → wpAny (model prog w) A' (pyIter v) Q E ⟨hp, gs, dr, tks, ost⟩ :=
      fun q => Bg.iter prog w _ _ ⟨hp, gs, dr, tks, ost⟩ _ z1 q
    wp_walk using run
    refine wpAny_stack_any fun stk => wpAny_pure ?_
    split
    · rename_i cc _ _ _ _ _
      cases (cc == Value.type "enumerate") <;> (wp_walk using run) <;> exact ⟨_, rfl, z⟩
    · wp_walk using run
      exact ⟨_, rfl, z⟩
section
variable {prog : Program} {w : World} {A : Around} {E : Value → Shared → Prop} {s : Shared}
theorem enum_one {v : Value} {ob : Obj} {Hy : Heap → Prop} {Q : Value → Shared → Prop} (Bg : Begins v ob Hy) (z1 : Hy s.heap)
    (k : ∀ hh, IsEnum hh (s.heap.objs.size + 1) s.heap.objs.size 0 .none → hh.get? s.heap.objs.size = some ob → (∀ b o, s.heap.get? b = some o → hh.get? b = some o) → Q (.ref (s.heap.objs.size + 1)) { s with heap := hh }) :
    wpAny (model prog w) A (call (.type "enumerate") [v]) Q E s := by
  refine callType_new F.called_enumerate (by decide) (F.typeCall_enumerate_1 _) (F.newCall_enumerate_1 _) (fun obj => F.args_object_init_2 obj _) F.entry_enumerate_new (meets_enum1 Bg) ⟨z1, ?_⟩
  have sz : (s.heap.push ob).objs.size = s.heap.objs.size + 1 := Heap.size_push ..
  have ie : IsEnum ((s.heap.push ob).push { cls := .type "enumerate", data := .fields #[.none, .bool false, .ref s.heap.objs.size, rawInt 0, .none, .none] }) (s.heap.objs.size + 1) s.heap.objs.size 0 .none := by
    rw [← sz]
    exact Heap.get?_push_size _ rfl
  show _ ∧ _
  rw [sz]
  exact ⟨⟨_, ie, rfl⟩, k _ ie (Heap.get?_push_of_some _ (Heap.get?_push_size _ Bg.free)) fun b o x => Heap.get?_push_of_some _ (Heap.get?_push_of_some _ x)⟩
end
/-- the tuple at a, each item in a new pair -/
def ItE (K : PySem.W.Frag) (a : Addr) : It where
  go := fun i H => ∃ (xs : List V) (x : V), SqT K H a xs ∧ xs[i]? = some x
  yld := fun i H v H' => ∃ T x, v = .ref T ∧ H T = none ∧ H' = upd H T (.tup [.int (i : Nat), x]) ∧ ∀ xs, SqT K H a xs → xs[i]? = some x
  stop := fun i H => ∃ xs : List V, SqT K H a xs ∧ xs.length ≤ i
theorem turn_enumTup {P : Program} {w : World} {K : PySem.W.Frag} {elts : List Expr} {kk : Nat} {tpos : Pos} (a e it : Addr) :
    Turn P w K (.Tuple elts kk tpos) (ItE K a) [e, it] e (fun i h => (∃ old, IsEnum h e it ((0 : Int) + ((i : Nat) : Int)) old) ∧ h.IsTupleIter it a i ∧ e ≠ it ∧ a ≠ it) where
  mem := List.mem_cons_self
  obj := by
    intro i h ⟨⟨old, he⟩, ⟨o, ho, hc, hd⟩, _⟩ b hb
    have hb' : b = e ∨ b = it := by simpa using hb
    rcases hb' with rfl | rfl
    · exact ⟨_, he, fun v q => nomatch q⟩
    · exact ⟨o, ho, fun v q => by rw [hd] at q; cases q⟩
  keep := by
    intro i h h' ⟨⟨old, he⟩, hi, hne⟩ k
    exact ⟨⟨old, k e (by simp) _ he⟩, hi.at fun o q => k it (by simp) o q, hne⟩
  item := by
    intro X hP hw hK hc i pins s σ H E I hf st hg
    subst hP hw hK
    obtain ⟨⟨old, he⟩, hit, hne, hat⟩ := st
    obtain ⟨xs, x, hq, hx⟩ := hg
    obtain ⟨its, rv, p, hz⟩ := I.tuple hq
    obtain ⟨u, hu, ru⟩ := rv.get hx
    have hi : i < its.length := (List.getElem?_eq_some_iff.mp hu).1
    have el : e < s.heap.objs.size := Heap.lt_size he
    have il : it < s.heap.objs.size := by
      obtain ⟨_, q, _⟩ := hit
      exact Heap.lt_size q
    have nef : e ∉ [it, a] := fun z => by
      have z' : e = it ∨ e = a := by simpa using z
      rcases z' with z' | z'
      · exact hne z'
      · obtain ⟨o, ho, hcl, _⟩ := p
        rw [← z'] at ho
        have := he.symm.trans ho
        cases this
        exact absurd (Value.type.inj hcl) (by decide)
    have Dr := Draws.tuple (prog := X.prog) (w := X.w) (A := X.A.in1) (I.ok.hd hc) it a hat its.toArray
    refine wpAny_pyNext_enum_itemC Dr he ⟨hit, p⟩ (by simpa using hi) hne nef fun y h' tk hy ho st' hT hsz hk => ?_
    have ey : y = u := by
      have hy' : its[i]? = some y := by simpa using hy
      rw [hu] at hy'
      exact (Option.some.inj hy').symm
    subst ey
    refine ⟨_, rfl, wpAny_letOwnedTupleGo_enum (s := { s with heap := h', toks := tk + 1 }) ho fun h'' he' sb => ?_⟩
    have hT2 : h''.get? s.heap.objs.size = some { cls := .type "tuple", data := .seq #[.int ((0 : Int) + ((i : Nat) : Int)) tk, y] } := (sb.2 _ (Nat.ne_of_gt el)).trans hT
    have ob : ObjOk X.prog X.w (upd H s.heap.objs.size (.tup [.int (i : Nat), x])) h'' s.heap.objs.size (.tup [.int (i : Nat), x]) :=
      ⟨by show 2 ≤ sizeLine; decide, [.int ((0 : Int) + ((i : Nat) : Int)) tk, y], .cons ⟨tk, by rw [Int.zero_add]⟩ (.cons ru .nil), ⟨_, hT2, rfl, _, rfl⟩⟩
    have J : Inv X pins σ (upd H s.heap.objs.size (.tup [.int (i : Nat), x])) { s with heap := h'', toks := tk + 1 } :=
      I.turnedNew (ch := [e, it]) (fun b q hb e1 => (sb.2 b (fun z => hb (by simp [z]))).trans (hk b q (fun z => hb (by simp [z])) (fun z => hb (by simp [z])) e1)) hf (Nat.le_refl _) ob
    refine ⟨.ref s.heap.objs.size, _, J, rfl, ⟨_, x, rfl, I.hok.fresh (Nat.le_refl _), rfl, fun ys hy => by rw [I.tuple_inj hy hq]; exact hx⟩, ⟨⟨y, ?_⟩, st'.1.at fun o q => (sb.2 it (Ne.symm hne)).trans q, hne, hat⟩, fun b hb => ?_⟩
    · have e1 : (0 : Int) + ((i + 1 : Nat) : Int) = (0 : Int) + (i : Int) + 1 := by omega
      rw [e1]
      exact he'
    · have lb : b < s.heap.objs.size := by
        have z : b = e ∨ b = it := by simpa using hb
        rcases z with rfl | rfl
        · exact el
        · exact il
      rw [upd_ne (Nat.ne_of_lt lb)]
      exact (hf b hb).1
  done := by
    intro X hP hw hK hc i pins s σ H E I hf st hg
    subst hP hw hK
    obtain ⟨⟨old, he⟩, hit, hne, hat⟩ := st
    obtain ⟨xs, hq, hx⟩ := hg
    obtain ⟨its, rv, p, hz⟩ := I.tuple hq
    obtain ⟨f0, f1, f2, f3, f4, f5⟩ := hf it (by simp)
    have hl := rv.length
    have hh : X.A.in1.in1.handled = none := I.ok.hd hc
    refine wpAny_pyNext_enum_endD (n := i) (St := fun j h => j = i ∧ h.IsTupleIter it a i ∧ h.IsTuple a its.toArray) (P := fun _ _ => True) (fp := [it, a]) ?_ he ⟨rfl, hit, p⟩ fun h' eb => ⟨rfl, I.turned (t' := s.toks) (fun b o hb q => eb b o hb q) f0 f1 f3 f4 f5⟩
    refine ⟨fun _ _ st => let ⟨o, ho, _⟩ := st.2.1; ⟨o, ho⟩, fun _ _ _ st hk => ⟨st.1, st.2.1.at fun o e => hk it (by simp) o e, st.2.2.at fun o e => hk a (by simp) o e⟩, ?_, ?_⟩
    · intro j s' Q E' hj st' hQ
      exact absurd st'.1 (Nat.ne_of_lt hj)
    · intro s' Q E' st' hE
      exact wpAny_nextOf_tuple_end hh st'.2.1 st'.2.2 (by simp; omega) hE
  self := fun A i s Q E st h => let ⟨⟨_, he⟩, _⟩ := st; wpAny_pyIter_enum he h
end Pm

namespace Pm
open PySem PySem.Spec PyProof.Rows L2
section
variable {X : Cx} {O : List Nat} {m ma mb mc : Md} {st : Bool} {a b c e tg : Expr} {es : List Expr} {fa fb fc f : Xp} {fs : XL} {pos p : Pos}
def iEnumT (K : PySem.W.Frag) (ta : TA) : TI := fun σ H R => ta σ H fun vs H1 => ∃ a xs, vs = [.ref a] ∧ SqT K H1 a xs ∧ R (ItE K a) H1
theorem pi_enumT {ta : TA} {tpos : Pos} {elts : List Expr} {kk : Nat} (hg : Gl X "enumerate") (hm : X.mg "enumerate" = none) (ha : PA X [e] ta) (hs : starEach [e] X.env = [(false, eval e X.env)] := by rfl) : PI X (.Tuple elts kk tpos) (.Call (.Name "enumerate" p) [e] [] pos) (iEnumT X.K ta) := by
  refine ⟨fun pins s σ H R I h => ?_⟩
  refine Call_ (ld_blt I hg hm boot_enumerate (callWith_type1 (thn (ha.run pos pins s σ H _ I h) fun us s1 q1 => ?_) hs rfl))
  obtain ⟨vs, H1, I1, r1, t, xs, ex, hq, q⟩ := q1
  subst ex
  rw [Vals.ref1 r1]
  obtain ⟨its, rv, pt, hz⟩ := I1.tuple hq
  refine enum_one (begins_tuple t its.toArray) pt fun h' he hit hk => wpAny_pyIter_enum he ?_
  have I2 : Inv X pins σ H1 { s1 with heap := h' } := I1.kept (t' := s1.toks) hk
  refine ⟨s1.heap.objs.size + 1, [s1.heap.objs.size + 1, s1.heap.objs.size], _, _, H1, rfl, I2, turn_enumTup t (s1.heap.objs.size + 1) s1.heap.objs.size, ⟨⟨.none, ?_⟩, ⟨_, hit, rfl, rfl⟩, Nat.succ_ne_self _, Nat.ne_of_lt pt.lt⟩, fun b hb => ?_, q⟩
  · exact he
  · have le : s1.heap.objs.size ≤ b := by
      have z : b = s1.heap.objs.size + 1 ∨ b = s1.heap.objs.size := by simpa using hb
      rcases z with rfl | rfl
      · exact Nat.le_succ _
      · exact Nat.le_refl _
    exact I1.fpOk le (I1.hok.fresh le)
def oEnum : List D → Option (List D)
  | [x] => (seqD x).map enumD
  | _ => none
theorem rp_pair {K : PySem.W.Frag} {A : Addr → Prop} {H : Hp} {T : Addr} {v u : V} {d d' : D} (t : Tr A H) (hT : H T = none) (r : Rp K A H v d) (r' : Rp K A H u d') : Rp K A (upd H T (.tup [v, u])) (.ref T) (.tuple [d, d']) :=
  Rp.newT t hT (.cons r (.cons r' .nil))
theorem rsL {K : PySem.W.Frag} {A : Addr → Prop} {H : Hp} {vs : List V} {x : D} (h : ResL K A H st vs [x]) : ∃ v, vs = [v] ∧ strongR K A H st v x := by
  cases st with
  | true =>
    cases h with
    | cons a r => cases r; exact ⟨_, rfl, a⟩
  | false =>
    cases h with
    | cons a r => cases r; exact ⟨_, rfl, a⟩
theorem rsL2 {K : PySem.W.Frag} {A : Addr → Prop} {H : Hp} {vs : List V} {x y : D} (h : ResL K A H st vs [x, y]) : ∃ v u, vs = [v, u] ∧ strongR K A H st v x ∧ strongR K A H st u y := by
  cases st with
  | true =>
    cases h with
    | cons a r =>
      cases r with
      | cons b r => cases r; exact ⟨_, _, rfl, a, b⟩
  | false =>
    cases h with
    | cons a r =>
      cases r with
      | cons b r => cases r; exact ⟨_, _, rfl, a, b⟩
theorem si_enum {tpos : Pos} {elts : List Expr} {kk : Nat} (hm : X.mg "enumerate" = none) (ha : SA X O st [a] fs) (hg : Gl X "enumerate" := by rfl) (hs : starEach [a] X.env = [(false, eval a X.env)] := by rfl) : SI X O st (.Tuple elts kk tpos) (.Call (.Name "enumerate" p) [a] [] pos) (xIt oEnum fs) := by
  refine ⟨pi_imp (pi_or (pi_enum hg hm (pa_ok ha.pa) hs) (pi_enumT hg hm (pa_ok ha.pa) hs)) fun σ H R q => ?_⟩
  obtain ⟨H0, A0, G, ρ, B, ds, S, e, k⟩ := q
  obtain ⟨d, ed, e⟩ := bind2 e
  unfold oEnum at e
  split at e
  · rename_i x
    obtain ⟨xs, ex, e⟩ := Option.map_eq_some_iff.mp e
    subst e
    unfold seqD at ex
    split at ex
    · cases ex
      refine .inl ⟨H0, A0, G, ρ, B, _, S, ed, fun vs H1 s1 r1 ok => ?_⟩
      obtain ⟨v, rfl, sr⟩ := rsL r1
      obtain ⟨t, ys, rfl, ht, rt⟩ := sr.w.lst
      refine ⟨t, ys, rfl, .of ht, k _ H1 [(.ref t, .list xs)] s1 ⟨fun A H i d tr g e => ?_, fun A H tr g => ?_⟩ (fun p hp => by rw [List.mem_singleton.mp hp]; exact sr) (by rw [enumD_len, ← rt.length]; exact ok t ys (.inl ht))⟩
      · obtain ⟨z, ez, rfl⟩ := enumD_get e
        obtain ⟨b, ys, eb, hb, rb⟩ := (g _ (List.mem_singleton.mpr rfl)).lst
        cases eb
        obtain ⟨y, ey, ry⟩ := rb.get ez
        refine ⟨⟨ys, y, .of hb, ey⟩, fun x H' hy => ?_⟩
        obtain ⟨T, u, rfl, hT, rfl, hu⟩ := hy
        have := hu ys (.of hb)
        rw [ey] at this
        cases this
        exact ⟨same_upd hT, rp_pair tr hT (.int _) ry⟩
      · obtain ⟨b, ys, eb, hb, rb⟩ := (g _ (List.mem_singleton.mpr rfl)).lst
        cases eb
        exact ⟨ys, .of hb, by rw [enumD_len, rb.length]; exact Nat.le_refl _⟩
    · cases ex
      refine .inr ⟨H0, A0, G, ρ, B, _, S, ed, fun vs H1 s1 r1 ok => ?_⟩
      obtain ⟨v, rfl, sr⟩ := rsL r1
      obtain ⟨t, ys, rfl, ht, nt, rt⟩ := sr.w.tup
      refine ⟨t, ys, rfl, .of ht, k _ H1 [(.ref t, .tuple xs)] s1 ⟨fun A H i d tr g e => ?_, fun A H tr g => ?_⟩ (fun p hp => by rw [List.mem_singleton.mp hp]; exact sr) (by rw [enumD_len, ← rt.length]; exact ok t ys (.inr ht))⟩
      · obtain ⟨z, ez, rfl⟩ := enumD_get e
        obtain ⟨b, ys, eb, hb, nb, rb⟩ := (g _ (List.mem_singleton.mpr rfl)).tup
        cases eb
        obtain ⟨y, ey, ry⟩ := rb.get ez
        refine ⟨⟨ys, y, .of hb, ey⟩, fun x H' hy => ?_⟩
        obtain ⟨T, u, rfl, hT, rfl, hu⟩ := hy
        have := hu ys (.of hb)
        rw [ey] at this
        cases this
        exact ⟨same_upd hT, rp_pair tr hT (.int _) ry⟩
      · obtain ⟨b, ys, eb, hb, nb, rb⟩ := (g _ (List.mem_singleton.mpr rfl)).tup
        cases eb
        exact ⟨ys, .of hb, by rw [enumD_len, rb.length]; exact Nat.le_refl _⟩
    · cases ex
  · cases e
/-- zip of two lists, of two tuples -/
def zipD (xs ys : List D) : List D := xs.zipWith (fun x y => .tuple [x, y]) ys
theorem zipD_get {xs ys : List D} {i : Nat} {d : D} (h : (zipD xs ys)[i]? = some d) : ∃ x y, xs[i]? = some x ∧ ys[i]? = some y ∧ d = .tuple [x, y] := by
  unfold zipD at h
  rw [List.getElem?_zipWith] at h
  cases e : xs[i]? with
  | none => rw [e] at h; cases ys[i]? <;> cases h
  | some x =>
    cases e' : ys[i]? with
    | none => rw [e, e'] at h; cases h
    | some y => rw [e, e'] at h; cases h; exact ⟨x, y, rfl, rfl, rfl⟩
theorem zipD_len (xs ys : List D) : (zipD xs ys).length = min xs.length ys.length := by simp [zipD]
def oZip : List D → Option (List D)
  | [.list xs, .list ys] => some (zipD xs ys)
  | [.tuple xs, .tuple ys] => some (zipD xs ys)
  | _ => none
theorem si_zip {tpos : Pos} {elts : List Expr} {kk : Nat} (hm : X.mg "zip" = none) (ha : SA X O st [a, b] fs) (hg : Gl X "zip" := by rfl)
    (hs : starEach [a, b] X.env = (false, eval a X.env) :: starEach [b] X.env := by rfl) (hpl : (backTo pos (starEach [b] X.env)).any (·.1) = false := by rfl) : SI X O st (.Tuple elts kk tpos) (.Call (.Name "zip" p) [a, b] [] pos) (xIt oZip fs) := by
  refine ⟨pi_imp (RZ.pi_zipA hg hm (pa_ok ha.pa) hs hpl) fun σ H R q => ?_⟩
  obtain ⟨H0, A0, G, ρ, B, ds, S, e, k⟩ := q
  obtain ⟨d, ed, e⟩ := bind2 e
  refine ⟨H0, A0, G, ρ, B, _, S, ed, fun vs H1 s1 r1 ok => ?_⟩
  unfold oZip at e
  split at e
  · cases e
    rename_i xs ys
    obtain ⟨v, u, rfl, sr, sr'⟩ := rsL2 r1
    obtain ⟨t, vs, rfl, ht, rt⟩ := sr.w.lst
    obtain ⟨t', vs', rfl, ht', rt'⟩ := sr'.w.lst
    refine ⟨t, t', vs, vs', rfl, .inl ⟨.of ht, .of ht', k _ H1 [(.ref t, .list xs), (.ref t', .list ys)] s1 ⟨fun A H i d tr g e => ?_, fun A H tr g => ?_⟩ (fun p hp => ?_) ?_⟩⟩
    · obtain ⟨x, y, ex, ey, rfl⟩ := zipD_get e
      obtain ⟨b, zs, eb, hb, rb⟩ := (g _ (List.mem_cons_self)).lst
      obtain ⟨b', zs', eb', hb', rb'⟩ := (g _ (List.mem_cons_of_mem _ List.mem_cons_self)).lst
      cases eb
      cases eb'
      obtain ⟨x1, ex1, rx1⟩ := rb.get ex
      obtain ⟨y1, ey1, ry1⟩ := rb'.get ey
      refine ⟨⟨zs, zs', x1, y1, .of hb, .of hb', ex1, ey1⟩, fun z H' hy => ?_⟩
      obtain ⟨T, u, w, rfl, hT, rfl, hu, hw⟩ := hy
      have e1 := hu zs (.of hb)
      have e2 := hw zs' (.of hb')
      rw [ex1] at e1
      rw [ey1] at e2
      cases e1
      cases e2
      exact ⟨same_upd hT, rp_pair tr hT rx1 ry1⟩
    · obtain ⟨b, zs, eb, hb, rb⟩ := (g _ (List.mem_cons_self)).lst
      obtain ⟨b', zs', eb', hb', rb'⟩ := (g _ (List.mem_cons_of_mem _ List.mem_cons_self)).lst
      cases eb
      cases eb'
      refine ⟨zs, zs', .of hb, .of hb', ?_⟩
      rw [zipD_len, rb.length, rb'.length]
      omega
    · have z : p = (.ref t, .list xs) ∨ p = (.ref t', .list ys) := by simpa using hp
      rcases z with rfl | rfl
      · exact sr
      · exact sr'
    · rw [zipD_len, ← rt.length]
      have := ok t vs (.inl ht)
      omega
  · cases e
    rename_i xs ys
    obtain ⟨v, u, rfl, sr, sr'⟩ := rsL2 r1
    obtain ⟨t, vs, rfl, ht, nt, rt⟩ := sr.w.tup
    obtain ⟨t', vs', rfl, ht', nt', rt'⟩ := sr'.w.tup
    refine ⟨t, t', vs, vs', rfl, .inr ⟨.of ht, .of ht', k _ H1 [(.ref t, .tuple xs), (.ref t', .tuple ys)] s1 ⟨fun A H i d tr g e => ?_, fun A H tr g => ?_⟩ (fun p hp => ?_) ?_⟩⟩
    · obtain ⟨x, y, ex, ey, rfl⟩ := zipD_get e
      obtain ⟨b, zs, eb, hb, nb, rb⟩ := (g _ (List.mem_cons_self)).tup
      obtain ⟨b', zs', eb', hb', nb', rb'⟩ := (g _ (List.mem_cons_of_mem _ List.mem_cons_self)).tup
      cases eb
      cases eb'
      obtain ⟨x1, ex1, rx1⟩ := rb.get ex
      obtain ⟨y1, ey1, ry1⟩ := rb'.get ey
      refine ⟨⟨zs, zs', x1, y1, .of hb, .of hb', ex1, ey1⟩, fun z H' hy => ?_⟩
      obtain ⟨T, u, w, rfl, hT, rfl, hu, hw⟩ := hy
      have e1 := hu zs (.of hb)
      have e2 := hw zs' (.of hb')
      rw [ex1] at e1
      rw [ey1] at e2
      cases e1
      cases e2
      exact ⟨same_upd hT, rp_pair tr hT rx1 ry1⟩
    · obtain ⟨b, zs, eb, hb, nb, rb⟩ := (g _ (List.mem_cons_self)).tup
      obtain ⟨b', zs', eb', hb', nb', rb'⟩ := (g _ (List.mem_cons_of_mem _ List.mem_cons_self)).tup
      cases eb
      cases eb'
      refine ⟨zs, zs', .of hb, .of hb', ?_⟩
      rw [zipD_len, rb.length, rb'.length]
      omega
    · have z : p = (.ref t, .tuple xs) ∨ p = (.ref t', .tuple ys) := by simpa using hp
      rcases z with rfl | rfl
      · exact sr
      · exact sr'
    · rw [zipD_len, ← rt.length]
      have := ok t vs (.inr ht)
      omega
  · cases e
end

end Pm

namespace Pm
open PySem PySem.Spec PyProof.Rows L2

/-! ### targets -/
abbrev XG := D → PEnv → Option PEnv
/-- the slots out of ts stand -/
def Ch (ts : List Nat) (σ σ' : L2.St) : Prop := σ'.length = σ.length ∧ ∀ i, ts.contains i = false → σ'[i]? = σ[i]?
def simG (K : PySem.W.Frag) (O O' ts : List Nat) (g : XG) : TG := fun v σ H Q => ∃ H0 A0 G ρ B d ρ', Sim K H0 A0 G O σ H ρ B ∧ Rp K (Av A0 B) H v d ∧ g d ρ = some ρ' ∧
  ∀ σ', Ch ts σ σ' → Sim K H0 A0 G O' σ' H ρ' (restr ts B) → Q σ' H
structure SG (X : Cx) (O O' ts : List Nat) (tg : Expr) (g : XG) : Prop where
  pg : PG X tg (simG X.K O O' ts g)
def simGs (K : PySem.W.Frag) (O O' ts : List Nat) (g : List D → PEnv → Option PEnv) : TGs := fun vs σ H Q => ∃ H0 A0 G ρ B ds ρ', Sim K H0 A0 G O σ H ρ B ∧ RpL K (Av A0 B) H vs ds ∧ g ds ρ = some ρ' ∧
  ∀ σ', Ch ts σ σ' → Sim K H0 A0 G O' σ' H ρ' (restr ts B) → Q σ' H
structure SGs (X : Cx) (O O' ts : List Nat) (tgs : List Expr) (g : List D → PEnv → Option PEnv) : Prop where
  pgs : PGs X tgs (simGs X.K O O' ts g)
theorem pg_imp {X : Cx} {e : Expr} {t t' : TG} (h : PG X e t) (hi : ∀ v σ H Q, t' v σ H Q → t v σ H Q) : PG X e t' := ⟨fun pins s σ H v u Q I r q => h.run pins s σ H v u Q I r (hi _ _ _ _ q)⟩
theorem pgs_imp {X : Cx} {e : List Expr} {t t' : TGs} (h : PGs X e t) (hi : ∀ v σ H Q, t' v σ H Q → t v σ H Q) : PGs X e t' := ⟨fun pins s σ H v u Q I r q => h.run pins s σ H v u Q I r (hi _ _ _ _ q)⟩
def gSet (i : Nat) : XG := fun d ρ => if i < ρ.length then some (ρ.set i (some d)) else none
def gTupD (n : Nat) (g : List D → PEnv → Option PEnv) : XG := fun d ρ => match d with
  | .tuple ds => if ds.length = n then g ds ρ else none
  | _ => none
def gsNil : List D → PEnv → Option PEnv := fun ds ρ => match ds with
  | [] => some ρ
  | _ => none
def gsCons (g : XG) (gs : List D → PEnv → Option PEnv) : List D → PEnv → Option PEnv := fun ds ρ => match ds with
  | d :: ds => (g d ρ).bind fun ρ' => gs ds ρ'
  | _ => none
theorem Ch.refl (ts : List Nat) (σ : L2.St) : Ch ts σ σ := ⟨rfl, fun _ _ => rfl⟩
theorem Ch.trans {ts us : List Nat} {σ σ' σ'' : L2.St} (h : Ch ts σ σ') (h' : Ch us σ' σ'') : Ch (ts ++ us) σ σ'' := by
  refine ⟨h'.1.trans h.1, fun i z => ?_⟩
  have e : ts.contains i = false ∧ us.contains i = false := by
    simpa [List.contains_eq_mem, not_or] using z
  exact (h'.2 i e.2).trans (h.2 i e.1)
theorem Ch.set (i : Nat) (x : Option V) (σ : L2.St) : Ch [i] σ (σ.set i x) := by
  refine ⟨List.length_set, fun j z => ?_⟩
  have e : j ≠ i := by simpa using z
  exact List.getElem?_set_ne (Ne.symm e)
section
variable {X : Cx} {O O' O'' ts us : List Nat} {tg : Expr} {tgs : List Expr} {g : XG} {gs : List D → PEnv → Option PEnv} {pos : Pos}
theorem sg_name (i : Nat) {x : Str} (hN : X.N.Nodup) (hi : X.N[i]? = some x := by rfl) (hx : Loc X.env.scope x := by first | exact Or.inl rfl | exact Or.inr rfl) (hf : X.fn x = true ∨ X.env.scope.names.lookup x = some .local := by first | exact .inl rfl | exact .inr rfl) (hO : O.filter (· != i) = O' := by rfl) : SG X O O' [i] (.Name x pos) (gSet i) := by
  refine ⟨pg_imp (pg_name hN hi hx hf) fun v σ H Q h => ?_⟩
  obtain ⟨H0, A0, G, ρ, B, d, ρ', S, r, e, k⟩ := h
  unfold gSet at e
  split at e
  · rename_i hl
    cases e
    have S' := S.setS r hl
    rw [hO] at S'
    exact k _ (Ch.set i _ σ) S'
  · cases e
theorem sgs_nil : SGs X O O [] [] gsNil := by
  refine ⟨pgs_imp pgs_nil fun v σ H Q h => ?_⟩
  obtain ⟨H0, A0, G, ρ, B, ds, ρ', S, r, e, k⟩ := h
  unfold gsNil at e
  split at e
  · cases e
    cases r
    exact ⟨rfl, k σ (Ch.refl _ _) (by rw [restr_nil]; exact S)⟩
  · cases e
theorem sgs_cons (h : SG X O O' ts tg g) (h' : SGs X O' O'' us tgs gs) (hs : (assignEach (tg :: tgs) X.env).map (·.2) = assign tg X.env :: (assignEach tgs X.env).map (·.2) := by rfl) : SGs X O O'' (ts ++ us) (tg :: tgs) (gsCons g gs) := by
  refine ⟨pgs_imp (pgs_cons h.pg h'.pgs hs) fun v σ H Q q => ?_⟩
  obtain ⟨H0, A0, G, ρ, B, ds, ρ', S, r, e, k⟩ := q
  unfold gsCons at e
  split at e
  · obtain ⟨ρ1, e1, e⟩ := bind2 e
    cases r with
    | cons r1 r2 =>
      refine ⟨_, _, rfl, H0, A0, G, ρ, B, _, ρ1, S, r1, e1, fun σ1 c1 S1 => ?_⟩
      refine ⟨H0, A0, G, ρ1, _, _, ρ', S1, r2.anti fun a z => restr_av z, e, fun σ2 c2 S2 => k σ2 (c1.trans c2) ?_⟩
      rw [restr_app] at S2
      exact S2
  · cases e
theorem sg_tup {k n : Nat} (hc : X.calm = true) (h : SGs X O O' ts tgs gs) (hn : (assignEach tgs X.env).length = n := by rfl) (hst : (assignEach tgs X.env).findIdx? (·.1) = none := by rfl) : SG X O O' ts (.Tuple tgs k pos) (gTupD n gs) := by
  refine ⟨pg_imp (pg_tup hc h.pgs hn hst) fun v σ H Q q => ?_⟩
  obtain ⟨H0, A0, G, ρ, B, d, ρ', S, r, e, k⟩ := q
  unfold gTupD at e
  split at e
  · split at e
    · rename_i hz
      cases r with
      | tup ht nt rt => exact ⟨_, _, rfl, .of ht, by rw [rt.length, hz], H0, A0, G, ρ, B, _, ρ', S, rt, e, k⟩
    · cases e
  · cases e
end

/-! ### comprehensions -/
def wipeP (ρ : PEnv) : List Nat → PEnv
  | [] => ρ
  | v :: vs => (wipeP ρ vs).set v none
theorem wipe_get (σ : L2.St) (i : Nat) : ∀ vs : List Nat, (wipe σ vs)[i]? = if vs.contains i then (if i < σ.length then some none else none) else σ[i]?
  | [] => by simp [wipe]
  | v :: vs => by
    unfold wipe
    by_cases h : v = i
    · subst h
      have hc : (v :: vs).contains v = true := by simp
      rw [hc, if_pos rfl]
      by_cases hl : v < σ.length
      · rw [List.getElem?_set_self (by rw [wipe_length]; exact hl), if_pos hl]
      · rw [if_neg hl, List.getElem?_eq_none (by rw [List.length_set, wipe_length]; omega)]
    · rw [List.getElem?_set_ne h, wipe_get σ i vs]
      have : (v :: vs).contains i = vs.contains i := by
        have h' : ¬ i = v := fun z => h z.symm
        simp [List.contains_cons, h']
      rw [this]
theorem wipe_eq {ts vs : List Nat} {σ σ2 : L2.St} (c : Ch ts (wipe σ vs) σ2) (h : ∀ i, ts.contains i = true → vs.contains i = true) : wipe σ2 vs = wipe σ vs := by
  apply List.ext_getElem?
  intro i
  have hl : σ2.length = σ.length := by rw [c.1, wipe_length]
  rw [wipe_get, wipe_get, hl]
  by_cases hv : vs.contains i = true
  · rw [if_pos hv, if_pos hv]
  · rw [if_neg hv, if_neg hv]
    have ht : ts.contains i = false := by
      cases e : ts.contains i with
      | false => rfl
      | true => exact absurd (h i e) hv
    rw [c.2 i ht, wipe_get, if_neg hv]
theorem Sim.wipe {K : PySem.W.Frag} {H0 H : Hp} {A0 : Addr → Prop} {G : List (V × D)} {O : List Nat} {σ : L2.St} {ρ : PEnv} {B : Nat → Option Addr} (S : Sim K H0 A0 G O σ H ρ B) : ∀ vs : List Nat, (∀ i ∈ vs, i ∉ O) → Sim K H0 A0 G O (wipe σ vs) H (wipeP ρ vs) B
  | [], _ => S
  | v :: vs, h => (S.wipe vs fun i hi => h i (List.mem_cons_of_mem _ hi)).drop v (h v List.mem_cons_self)
theorem restr_same {K : PySem.W.Frag} {H0 H : Hp} {A0 : Addr → Prop} {G : List (V × D)} {O : List Nat} {σ : L2.St} {ρ : PEnv} {B : Nat → Option Addr} (S : Sim K H0 A0 G O σ H ρ B) {ts : List Nat} (h : ∀ i, ts.contains i = true → i ∉ O) : restr ts B = B := by
  funext j
  unfold restr
  split
  · rename_i hj
    cases e : B j with
    | none => rfl
    | some a => exact absurd (S.bo j a e) (h j hj)
  · rfl
/-- the items made from one source -/
def lcL (g : XG) (t : PEnv → Option Bool) (f : Xp) (ρ : PEnv) : List D → Option (List D)
  | [] => some []
  | d :: ds => (g d ρ).bind fun ρ1 => (t ρ1).bind fun b => if b then (f ρ1).bind fun y => (lcL g t f ρ ds).bind fun ys => some (y :: ys) else lcL g t f ρ ds
def xLc (it : XL) (g : XG) (t : PEnv → Option Bool) (f : Xp) (own : List Nat) : Xp := fun ρ => (it ρ).bind fun ds => (lcL g t f (wipeP ρ own) ds).map .list
structure STs (X : Cx) (O : List Nat) (ifs : List Expr) (f : PEnv → Option Bool) : Prop where
  pts : PTs X ifs (simTT X.K O f)
def tYesP : PEnv → Option Bool := fun _ => some true
theorem pts_imp {X : Cx} {e : List Expr} {t t' : TT} (h : PTs X e t) (hi : ∀ σ H Q, t' σ H Q → t σ H Q) : PTs X e t' := ⟨fun pins s σ H Q I q => h.run pins s σ H Q I (hi _ _ _ q)⟩
theorem sts_nil {X : Cx} {O : List Nat} : STs X O [] tYesP := ⟨pts_imp pts_nil fun σ H Q ⟨H0, A0, G, ρ, B, b, S, e, k⟩ => by cases e; exact k H (Same.refl H)⟩
theorem sts_one {X : Cx} {O : List Nat} {c : Expr} {f : PEnv → Option Bool} (h : ST X O c f) : STs X O [c] f := ⟨pts_one h.pt⟩
theorem WRp.step {K : PySem.W.Frag} {A A' : Addr → Prop} {H H' : Hp} {v : V} {d : D} (h : WRp K A H v d) (s : Same H H') (ha : ∀ a, A' a → A a ∨ H a = none) : WRp K A' H' v d := by
  rcases h with h | ⟨a, e, h⟩
  · exact .inl (h.step (fun a o e _ => s a o e) ha)
  · exact .inr ⟨a, e, h.step (fun a o e _ => s a o e) ha fun o e => s _ o e⟩
abbrev Gd (A0 : Addr → Prop) (a : Addr) : Addr → Prop := fun b => A0 b ∨ b = a
theorem gd_av {A0 : Addr → Prop} {B : Nat → Option Addr} {a b : Addr} (h : Av (Gd A0 a) B b) : Av A0 B b ∨ b = a := by
  rcases h with (h | h) | h
  · exact .inl (.inl h)
  · exact .inr h
  · exact .inl (.inr h)
section
variable {X : Cx} {O ts : List Nat} {st : Bool} {m : Md} {tg iter elt : Expr} {ifs : List Expr} {scope : Scope} {own : List (Str × Nat)} {it : XL} {g : XG} {t : PEnv → Option Bool} {f : Xp} {pos : Pos}
theorem lc_of (hm : m ≠ .w) (hts : ∀ i, ts.contains i = true → (own.map (·.2)).contains i = true) (hO : ∀ i ∈ own.map (·.2), i ∉ O) (σ : L2.St) (H : Hp) (Q : VK) (q : simT X.K O .f (xLc it g t f (own.map (·.2))) σ H Q) :
    tLc (simI X.K O st it) (simG X.K O O ts g) (simTT X.K O t) (simT X.K O m f) (own.map (·.2)) σ H Q := by
  obtain ⟨H0, A0, G, ρ, B, d, S, e, k⟩ := q
  obtain ⟨ds, eds, e⟩ := bind2 e
  obtain ⟨ys, eys, e⟩ := Option.map_eq_some_iff.mp e
  subst e
  refine ⟨H0, A0, G, ρ, B, ds, S, eds, fun J H1 gs s1 yl gr hz Dn hD => ?_⟩
  have hts' : ∀ i, ts.contains i = true → i ∉ O := fun i hi => hO i (by simpa using hts i hi)
  -- what stands between two turns
  refine ⟨fun i n Hc => n = ds.length - i ∧ i ≤ ds.length ∧ Same H1 Hc ∧ ∃ vs pre post, Hc Dn = some (.lst vs) ∧ RpL X.K (Av (Gd A0 Dn) B) Hc vs pre ∧ pre.length ≤ i ∧ lcL g t f (wipeP ρ (own.map (·.2))) (ds.drop i) = some post ∧ ys = pre ++ post,
    ⟨ds.length, rfl, Nat.zero_le _, same_upd hD, [], [], ys, upd_same, .nil, Nat.le_refl _, eys, rfl⟩, ?_⟩
  rintro i n Hc ⟨rfl, hi, sc, vs, pre, post, hDc, rpre, hpl, epost, rfl⟩
  have Sg : Sim X.K H0 (Gd A0 Dn) G O σ Hc ρ B := (S.mono s1).guard hD sc ⟨_, hDc, NT.lst⟩
  have gw : ∀ p ∈ gs, WRp X.K (Av (Gd A0 Dn) B) Hc p.1 p.2 := fun p hp => (gr p hp).w.step sc fun a z => by
    rcases gd_av z with z | z
    · exact .inl z
    · exact .inr (by rw [z]; exact hD)
  by_cases hlt : i < ds.length
  · have ed : ds[i]? = some ds[i] := List.getElem?_eq_getElem hlt
    rw [List.drop_eq_getElem_cons hlt] at epost
    obtain ⟨hgo, hy⟩ := yl.go _ Hc i _ Sg.tr gw ed
    simp only [lcL] at epost
    obtain ⟨ρ1, eρ1, epost⟩ := bind2 epost
    obtain ⟨b, eb, epost⟩ := bind2 epost
    refine .inr ⟨hgo, fun H' => i + 1 ≤ ds.length ∧ Same H1 H' ∧ ∃ vs pre' post', H' Dn = some (.lst vs) ∧ RpL X.K (Av (Gd A0 Dn) B) H' vs pre' ∧ pre'.length ≤ i + 1 ∧ lcL g t f (wipeP ρ (own.map (·.2))) (ds.drop (i + 1)) = some post' ∧ pre ++ post = pre' ++ post', fun H' hN => ?_, fun x H' hx => ?_⟩
    · obtain ⟨h1, h2, h3⟩ := hN
      exact ⟨ds.length - (i + 1), by omega, rfl, h1, h2, h3⟩
    · obtain ⟨s2, rx⟩ := hy x H' hx
      refine ⟨H0, Gd A0 Dn, G, wipeP ρ (own.map (·.2)), B, _, ρ1, (Sg.mono s2).wipe _ hO, rx, eρ1, fun σ2 c2 S2 => ?_⟩
      rw [restr_same Sg hts'] at S2
      refine ⟨wipe_eq c2 hts, H0, Gd A0 Dn, G, ρ1, B, b, S2, eb, fun H3 s3 => ?_⟩
      cases b with
      | true =>
        rw [if_pos rfl]
        rw [if_pos rfl] at epost
        obtain ⟨y, ey, epost⟩ := bind2 epost
        obtain ⟨zs, ezs, epost⟩ := bind2 epost
        cases epost
        refine ⟨H0, Gd A0 Dn, G, ρ1, B, y, S2.mono s3, ey, fun v H4 s4 r4 => ?_⟩
        have r4' := r4.toS (S2.mono s3).tr hm
        have s24 := (s2.trans s3).trans s4
        have avD : Av (Gd A0 Dn) B Dn := .inl (.inr rfl)
        have kp : ∀ a o, H4 a = some o → ¬ Av (Gd A0 Dn) B a → upd H4 Dn (.lst (vs ++ [v])) a = some o := fun a o e n => by
          rw [upd_ne (fun z => n (by rw [z]; exact avD))]
          exact e
        refine ⟨vs, s24 _ _ hDc, ?_, by omega, fun a o e => ?_, vs ++ [v], pre ++ [y], zs, upd_same, ?_, by simp; omega, ezs, by simp⟩
        · rw [rpre.length]
          have : (16777216 : Nat) = sizeLine := rfl
          omega
        · have hne : a ≠ Dn := fun z => by rw [z, hD] at e; cases e
          rw [upd_ne hne]
          exact s24 _ _ (sc _ _ e)
        · exact RpL.app (.one (r4'.step kp fun _ z => .inl z)) ((rpre.mono s24).step kp fun _ z => .inl z)
      | false =>
        rw [if_neg Bool.false_ne_true]
        rw [if_neg Bool.false_ne_true] at epost
        have s23 := s2.trans s3
        exact ⟨by omega, sc.trans s23, vs, pre, post, s23 _ _ hDc, rpre.mono s23, by omega, epost, rfl⟩
  · have e : i = ds.length := by omega
    subst e
    refine .inl ⟨yl.stop _ Hc Sg.tr gw, ?_⟩
    rw [List.drop_length] at epost
    cases epost
    rw [List.append_nil] at k
    have hHD : H Dn = none := s1.free hD
    refine k _ Hc (s1.trans sc) (.inl ⟨Dn, rfl, hHD, .lst hDc (rpre.anti fun a z => ?_)⟩)
    rcases z with z | z
    · rcases z with z | z
      · exact .inl (.inl z)
      · exact .inr z
    · exact .inl (.inr z)
abbrev InBlk (X : Cx) (scope : Scope) (P : Cx → Prop) : Prop := ∀ (s : Shared) (H : Hp) (C : Addr) (cl : List (Str × Addr)) (fp : List Addr), P (X.blk s H scope (compEnvC scope cl C X.env) fp)
theorem se_lc (hN : X.N.Nodup) (hi : SI X O st tg iter it) (ok : BlkOk X.N X.env.scope scope own) (hg : InBlk X scope fun Y => SG Y O O ts tg g) (ht : InBlk X scope fun Y => STs Y O ifs t) (he : InBlk X scope fun Y => SE Y O m elt f)
    (hm : m ≠ .w := by decide) (hts : ts.all (fun i => (own.map (·.2)).contains i) = true := by rfl) (hO : (own.map (·.2)).all (fun i => !O.contains i) = true := by rfl) (hc : X.calm = true := by rfl) (hs : ∀ x, foldedSetIterable iter X.env x = pure x := by intro _; rfl) :
    SE X O .f (.ListComp elt [⟨tg, iter, ifs, 0⟩] scope pos) (xLc it g t f (own.map (·.2))) :=
  ⟨pe_imp (pe_lc hc hN hi.pi ok (fun s H C cl fp => (hg s H C cl fp).pg) (fun s H C cl fp => (ht s H C cl fp).pts) (fun s H C cl fp => (he s H C cl fp).pe) hs)
    (lc_of hm (fun i hi => by simpa using List.all_eq_true.mp hts i (by simpa using hi)) (fun i hi => by simpa using List.all_eq_true.mp hO i hi))⟩
end
end Pm

namespace Pm
open PySem PySem.Spec PyProof.Rows L2

/-! ### statements -/
inductive Out where
  | nx (ρ : PEnv) | rt (d : D) | bk (ρ : PEnv) | ct (ρ : PEnv)
abbrev XS := PEnv → Option Out
def PostS (K : PySem.W.Frag) (H0 : Hp) (A0 : Addr → Prop) (G : List (V × D)) (Ob Oc O' : List Nat) (D : Ends) : Out → Prop
  | .nx ρ => ∀ σ H B, Sim K H0 A0 G O' σ H ρ B → D.nx σ H
  | .rt d => ∀ v H, Same H0 H → Rp K A0 H v d → D.rt v H
  | .bk ρ => ∀ σ H B, Sim K H0 A0 G Ob σ H ρ B → D.bk σ H
  | .ct ρ => ∀ σ H B, Sim K H0 A0 G Oc σ H ρ B → D.ct σ H
def simS (K : PySem.W.Frag) (O Ob Oc O' : List Nat) (g : XS) : TS := fun D σ H => ∃ H0 A0 G ρ B o, Sim K H0 A0 G O σ H ρ B ∧ g ρ = some o ∧ PostS K H0 A0 G Ob Oc O' D o
structure SS (X : Cx) (O Ob Oc O' : List Nat) (st : Stmt) (g : XS) : Prop where
  ps : PS X st (simS X.K O Ob Oc O' g)
structure SSs (X : Cx) (O Ob Oc O' : List Nat) (st : List Stmt) (g : XS) : Prop where
  pss : PSs X st (simS X.K O Ob Oc O' g)
def sNop : XS := fun ρ => some (.nx ρ)
def sSeq (g h : XS) : XS := fun ρ => (g ρ).bind fun o => match o with
  | .nx ρ' => h ρ'
  | o => some o
section
variable {X : Cx} {O O1 O2 Ob Oc O' : List Nat} {m ma mb : Md} {st : Stmt} {sts : List Stmt} {g h : XS} {e a b c : Expr} {f fa fb : Xp} {pos pos' : Pos}
theorem sub_of (h : O1.all (fun i => O.contains i) = true) : ∀ i ∈ O1, i ∈ O := fun i hi => by simpa using List.all_eq_true.mp h i hi
theorem SS.weak (s : SS X O1 Ob Oc O' st g) (h : O1.all (fun i => O.contains i) = true := by rfl) : SS X O Ob Oc O' st g := by
  refine ⟨ps_imp s.ps fun D σ H q => ?_⟩
  obtain ⟨H0, A0, G, ρ, B, o, S, e, k⟩ := q
  obtain ⟨B', S'⟩ := S.weak (sub_of h)
  exact ⟨H0, A0, G, ρ, B', o, S', e, k⟩
theorem SSs.weak (s : SSs X O1 Ob Oc O' sts g) (h : O1.all (fun i => O.contains i) = true := by rfl) : SSs X O Ob Oc O' sts g := by
  refine ⟨pss_imp s.pss fun D σ H q => ?_⟩
  obtain ⟨H0, A0, G, ρ, B, o, S, e, k⟩ := q
  obtain ⟨B', S'⟩ := S.weak (sub_of h)
  exact ⟨H0, A0, G, ρ, B', o, S', e, k⟩
/-- an empty block; the own slots may be fewer behind it -/
theorem ss_nil (h : O'.all (fun i => O.contains i) = true := by rfl) : SSs X O Ob Oc O' [] sNop := by
  refine ⟨pss_imp pss_nil fun D σ H q => ?_⟩
  obtain ⟨H0, A0, G, ρ, B, o, S, e, k⟩ := q
  cases e
  obtain ⟨B', S'⟩ := S.weak (sub_of h)
  exact k σ H B' S'
theorem ss_cons (h1 : SS X O Ob Oc O1 st g) (h2 : SSs X O1 Ob Oc O' sts h) : SSs X O Ob Oc O' (st :: sts) (sSeq g h) := by
  refine ⟨pss_imp (pss_cons h1.ps h2.pss) fun D σ H q => ?_⟩
  obtain ⟨H0, A0, G, ρ, B, o, S, e, k⟩ := q
  obtain ⟨o1, e1, e⟩ := bind2 e
  refine ⟨H0, A0, G, ρ, B, o1, S, e1, ?_⟩
  cases o1 with
  | nx ρ1 => exact fun σ1 H1 B1 S1 => ⟨H0, A0, G, ρ1, B1, o, S1, e, k⟩
  | rt d => cases e; exact k
  | bk ρ1 => cases e; exact k
  | ct ρ1 => cases e; exact k
theorem ss_last (h1 : SS X O Ob Oc O' st g) : SSs X O Ob Oc O' [st] g := ⟨pss_one h1.ps⟩
def sBrk : XS := fun ρ => some (.bk ρ)
def sCnt : XS := fun ρ => some (.ct ρ)
theorem ss_pass (h : O'.all (fun i => O.contains i) = true := by rfl) : SS X O Ob Oc O' (.Pass pos) sNop := by
  refine ⟨ps_imp ps_pass fun D σ H q => ?_⟩
  obtain ⟨H0, A0, G, ρ, B, o, S, e, k⟩ := q
  cases e
  obtain ⟨B', S'⟩ := S.weak (sub_of h)
  exact k σ H B' S'
theorem ss_break (h : Ob.all (fun i => O.contains i) = true := by rfl) : SS X O Ob Oc O' (.Break pos) sBrk := by
  refine ⟨ps_imp ps_break fun D σ H q => ?_⟩
  obtain ⟨H0, A0, G, ρ, B, o, S, e, k⟩ := q
  cases e
  obtain ⟨B', S'⟩ := S.weak (sub_of h)
  exact k σ H B' S'
theorem ss_cont (h : Oc.all (fun i => O.contains i) = true := by rfl) : SS X O Ob Oc O' (.Continue pos) sCnt := by
  refine ⟨ps_imp ps_continue fun D σ H q => ?_⟩
  obtain ⟨H0, A0, G, ρ, B, o, S, e, k⟩ := q
  cases e
  obtain ⟨B', S'⟩ := S.weak (sub_of h)
  exact k σ H B' S'
def sRet (f : Xp) : XS := fun ρ => (f ρ).map .rt
theorem ss_ret (he : SE X O m e f) (hm : m ≠ .w := by decide) : SS X O Ob Oc O' (.Return (some e) pos) (sRet f) := by
  refine ⟨ps_imp (ps_ret he.pe) fun D σ H q => ?_⟩
  obtain ⟨H0, A0, G, ρ, B, o, S, e, k⟩ := q
  obtain ⟨d, ed, e⟩ := Option.map_eq_some_iff.mp e
  subst e
  exact ⟨H0, A0, G, ρ, B, d, S, ed, fun v H' s r => k v H' (S.same.trans s) ((r.toS S.tr hm).anti fun a z => .inl z)⟩
theorem ss_retN : SS X O Ob Oc O' (.Return none pos) (sRet (xC .none)) := by
  refine ⟨ps_imp ps_retN fun D σ H q => ?_⟩
  obtain ⟨H0, A0, G, ρ, B, o, S, e, k⟩ := q
  cases e
  exact k .non H S.same .non
def sIf (c : PEnv → Option Bool) (g h : XS) : XS := fun ρ => (c ρ).bind fun b => if b then g ρ else h ρ
theorem ss_if {c : Expr} {tc : PEnv → Option Bool} {p q : List Stmt} (hc : ST X O c tc) (hp : SSs X O Ob Oc O' p g) (hq : SSs X O Ob Oc O' q h) : SS X O Ob Oc O' (.If c p q pos) (sIf tc g h) := by
  refine ⟨ps_imp (ps_if hc.pt hp.pss hq.pss) fun D σ H q => ?_⟩
  obtain ⟨H0, A0, G, ρ, B, o, S, e, k⟩ := q
  obtain ⟨b, eb, e⟩ := bind2 e
  refine ⟨H0, A0, G, ρ, B, b, S, eb, fun H1 s1 => ?_⟩
  cases b with
  | true => exact ⟨H0, A0, G, ρ, B, o, S.mono s1, e, k⟩
  | false => exact ⟨H0, A0, G, ρ, B, o, S.mono s1, e, k⟩

/-! ### a name takes a value -/
def sSet (i : Nat) (f : Xp) : XS := fun ρ => (f ρ).bind fun d => if i < ρ.length then some (.nx (ρ.set i (some d))) else none
theorem Sim.grow {K : PySem.W.Frag} {H0 H : Hp} {A0 : Addr → Prop} {G : List (V × D)} {σ : L2.St} {ρ : PEnv} {B : Nat → Option Addr} {i : Nat} (S : Sim K H0 A0 G (O.filter (· != i)) σ H ρ B) (h : ∀ d, ρ[i]? = some (some d) → isMut d = false) : Sim K H0 A0 G (i :: O) σ H ρ B := by
  refine ⟨S.same, S.a0, S.len, fun j a e => List.mem_cons_of_mem _ (List.mem_filter.mp (S.bo j a e)).1, S.inj, S.fr, fun j d hj e m => ?_, S.slot, S.gs⟩
  by_cases hji : j = i
  · subst hji
    rw [h d e] at m
    cases m
  · rcases List.mem_cons.mp hj with hj | hj
    · exact absurd hj hji
    · exact S.ob j d (List.mem_filter.mpr ⟨hj, by simpa using hji⟩) e m
theorem setf_of {D : Ends} {i : Nat} (σ : L2.St) (H : Hp) (q : simS X.K O Ob Oc (i :: O) (sSet i f) D σ H) : tAsg (simT X.K O .f f) (gName i) D σ H := by
  obtain ⟨H0, A0, G, ρ, B, o, S, e, k⟩ := q
  obtain ⟨d, ed, e⟩ := bind2 e
  split at e
  · rename_i hl
    cases e
    refine ⟨H0, A0, G, ρ, B, d, S, ed, fun v H1 s1 r1 => ?_⟩
    rcases r1 with ⟨a, rfl, hn, r1⟩ | ⟨r1, nm⟩
    · obtain ⟨B', S'⟩ := S.setF s1 hn r1 hl
      exact k _ H1 B' S'
    · have S' := (S.mono s1).setS r1 hl
      refine k _ H1 _ (S'.grow fun d' e' => ?_)
      rw [List.getElem?_set_self hl] at e'
      cases e'
      exact nm
  · cases e
theorem ss_setF (i : Nat) {x : Str} {O' : List Nat} (hN : X.N.Nodup) (he : SE X O .f e f) (hi : X.N[i]? = some x := by rfl) (hx : Loc X.env.scope x := by first | exact Or.inl rfl | exact Or.inr rfl) (hs : swapsWith e (some (.Name x pos')) pos.line X.env = pure false := by rfl) (hf : X.fn x = true ∨ X.env.scope.names.lookup x = some .local := by first | exact .inl rfl | exact .inr rfl)
    (hO : i :: O = O' := by rfl) : SS X O Ob Oc O' (.Assign [.Name x pos'] e pos) (sSet i f) := by
  subst hO
  exact ⟨ps_imp (ps_set hN hi hx he.pe hs hf) fun D σ H q => setf_of σ H q⟩
theorem ss_setS (i : Nat) {x : Str} (hN : X.N.Nodup) (he : SE X O m e f) (hm : m ≠ .w := by decide) (hi : X.N[i]? = some x := by rfl) (hx : Loc X.env.scope x := by first | exact Or.inl rfl | exact Or.inr rfl) (hs : swapsWith e (some (.Name x pos')) pos.line X.env = pure false := by rfl) (hf : X.fn x = true ∨ X.env.scope.names.lookup x = some .local := by first | exact .inl rfl | exact .inr rfl)
    (hO : O.filter (· != i) = O' := by rfl) : SS X O Ob Oc O' (.Assign [.Name x pos'] e pos) (sSet i f) := by
  refine ⟨ps_imp (ps_set hN hi hx he.pe hs hf) fun D σ H q => ?_⟩
  obtain ⟨H0, A0, G, ρ, B, o, S, e, k⟩ := q
  obtain ⟨d, ed, e⟩ := bind2 e
  split at e
  · rename_i hl
    cases e
    refine ⟨H0, A0, G, ρ, B, d, S, ed, fun v H1 s1 r1 => ?_⟩
    have S' := (S.mono s1).setS ((r1.toS S.tr hm)) hl
    rw [hO] at S'
    exact k _ H1 _ S'
  · cases e
/-- x = [..] -/
theorem ss_setLc (i : Nat) {y : Str} {py : Pos} {ts : List Nat} {sf : Bool} {tg iter elt : Expr} {ifs : List Expr} {scope : Scope} {own : List (Str × Nat)} {it : XL} {gg : D → PEnv → Option PEnv} {t : PEnv → Option Bool} {spos : Pos} {O' : List Nat}
    (hN : X.N.Nodup) (hi : SI X O sf tg iter it) (ok : BlkOk X.N X.env.scope scope own) (hg : InBlk X scope fun Y => SG Y O O ts tg gg) (ht : InBlk X scope fun Y => STs Y O ifs t) (he : InBlk X scope fun Y => SE Y O m elt f)
    (hm : m ≠ .w := by decide) (hy : X.N[i]? = some y := by rfl) (hyl : X.env.scope.names.lookup y = some .local := by rfl) (hsw : swapsWith (.ListComp elt [⟨tg, iter, ifs, 0⟩] scope pos) (some (.Name y py)) spos.line X.env = pure true := by exact sw_true rfl rfl rfl (by decide +kernel))
    (hts : ts.all (fun i => (own.map (·.2)).contains i) = true := by rfl) (hO : (own.map (·.2)).all (fun i => !O.contains i) = true := by rfl) (hc : X.calm = true := by rfl) (hs : ∀ x, foldedSetIterable iter X.env x = pure x := by intro _; rfl) (hO' : i :: O = O' := by rfl) :
    SS X O Ob Oc O' (.Assign [.Name y py] (.ListComp elt [⟨tg, iter, ifs, 0⟩] scope pos) spos) (sSet i (xLc it gg t f (own.map (·.2)))) := by
  subst hO'
  refine ⟨ps_imp (ps_setLc (wi := simI X.K O sf it) (g := simG X.K O O ts gg) (tt := simTT X.K O t) (te := simT X.K O m f) hc hN hy hyl hsw hi.pi ok (fun s H C cl fp => (hg s H C cl fp).pg) (fun s H C cl fp => (ht s H C cl fp).pts) (fun s H C cl fp => (he s H C cl fp).pe) hs) fun D σ H q => ?_⟩
  exact lc_of hm (fun i hi => by simpa using List.all_eq_true.mp hts i (by simpa using hi)) (fun i hi => by simpa using List.all_eq_true.mp hO i hi) σ H _ (setf_of σ H q)
/-- a, b = e -/
def sTgt (g : D → PEnv → Option PEnv) (f : Xp) : XS := fun ρ => (f ρ).bind fun d => (g d ρ).map .nx
theorem ss_tgt {tg : Expr} {ts : List Nat} {gg : D → PEnv → Option PEnv} (he : SE X O m e f) (hg : SG X O O' ts tg gg) (hm : m ≠ .w := by decide) (hs : swapsWithSole [tg] e pos.line X.env = pure false := by rfl) (hw : swappedStores [tg] e X.env = pure none := by rfl)
    (h1 : (assignEach [tg] X.env).map (·.2) = [assign tg X.env] := by rfl) : SS X O Ob Oc O' (.Assign [tg] e pos) (sTgt gg f) := by
  refine ⟨ps_imp (ps_asg he.pe hg.pg hs hw h1) fun D σ H q => ?_⟩
  obtain ⟨H0, A0, G, ρ, B, o, S, e, k⟩ := q
  obtain ⟨d, ed, e⟩ := bind2 e
  obtain ⟨ρ', eρ, e⟩ := Option.map_eq_some_iff.mp e
  subst e
  refine ⟨H0, A0, G, ρ, B, d, S, ed, fun v H1 s1 r1 => ?_⟩
  exact ⟨H0, A0, G, ρ, B, d, ρ', S.mono s1, (r1.toS S.tr hm), eρ, fun σ' _ S' => k σ' H1 _ S'⟩
/-- x op= e -/
def sAug (i : Nat) (g : D → D → Option D) (f : Xp) : XS := fun ρ => (xVar i ρ).bind fun x => (f ρ).bind fun y => (g x y).bind fun z => if i < ρ.length then some (.nx (ρ.set i (some z))) else none
theorem ss_aug (i : Nat) {x : Str} {op : Operator} {g : D → D → Option D} (hN : X.N.Nodup) (ho : OpR X (inplaceOp op) (rD X.K .f g)) (he : SE X O m e f) (hni : O.contains i = false := by rfl) (hi : X.N[i]? = some x := by rfl) (hx : Loc X.env.scope x := by first | exact Or.inl rfl | exact Or.inr rfl) (hf : X.fn x = true ∨ X.env.scope.names.lookup x = some .local := by first | exact .inl rfl | exact .inr rfl) :
    SS X O Ob Oc (O.filter (· != i)) (.AugAssign (.Name x pos') op e pos) (sAug i g f) := by
  refine ⟨ps_imp (ps_aug hN hi hx he.pe (ti := rD X.K .f g) ho hf) fun D σ H q => ?_⟩
  obtain ⟨H0, A0, G, ρ, B, o, S, e, k⟩ := q
  obtain ⟨d, ed, e⟩ := bind2 e
  obtain ⟨y, ey, e⟩ := bind2 e
  obtain ⟨z, ez, e⟩ := bind2 e
  split at e
  · rename_i hl
    cases e
    rcases S.slot i d (getD_some ed) with ⟨a, h1, _, _⟩ | ⟨_, v, h2, h3⟩
    · have := S.bo i a h1
      simp at hni
      exact absurd this hni
    refine ⟨v, h2, H0, A0, G, ρ, B, y, S, ey, fun u H1 s1 r1 => ⟨Av A0 B, d, y, z, (S.mono s1).tr, .inl (h3.mono s1), r1.toW, ez, fun w H2 s2 r2 => ?_⟩⟩
    have S2 := S.mono (s1.trans s2)
    exact k _ H2 _ (S2.setS (r2.toS (S.mono s1).tr (by decide)) hl)
  · cases e

/-! ### an own list changes -/
def sApp (i : Nat) (f : Xp) : XS := fun ρ => (xVar i ρ).bind fun x => (f ρ).bind fun y => match x with
  | .list xs => if xs.length < 16777216 ∧ i < ρ.length then some (.nx (ρ.set i (some (.list (xs ++ [y]))))) else none
  | _ => none
theorem own_of {K : PySem.W.Frag} {H0 H : Hp} {A0 : Addr → Prop} {G : List (V × D)} {σ : L2.St} {ρ : PEnv} {B : Nat → Option Addr} {i : Nat} {xs : List D} (S : Sim K H0 A0 G O σ H ρ B) (hi : O.contains i = true) (e : xVar i ρ = some (.list xs)) : ∃ a vs, B i = some a ∧ σ[i]? = some (some (.ref a)) ∧ H a = some (.lst vs) ∧ RpL K (Av A0 B) H vs xs := by
  obtain ⟨a, h1, h2, h3⟩ := S.ob i _ (by simpa using hi) (getD_some e) rfl
  cases h3 with
  | lst h r => exact ⟨a, _, h1, h2, h, r⟩
theorem upd_lst {K : PySem.W.Frag} {H : Hp} {A : Addr → Prop} {a : Addr} {vs : List V} {ds : List D} (ha : A a) (r : RpL K A H vs ds) : Tp K A (upd H a (.lst vs)) a (.list ds) := by
  refine .lst upd_same (r.step (fun b o e n => ?_) fun _ z => .inl z)
  rw [upd_ne (fun z => n (by rw [z]; exact ha))]
  exact e
theorem ss_app (i : Nat) {x : Str} {apos p1 cpos : Pos} (he : SE X O m e f) (hm : m ≠ .w := by decide) (hO : O.contains i = true := by rfl) (hN : X.N[i]? = some x := by rfl) (hv : Vis X.env.scope x := by first | exact Or.inl rfl | exact Or.inr (Or.inl rfl) | exact Or.inr (Or.inr rfl))
    (hd : (x == ("__debug__" : Str)) = false := by decide) (hcd : (x == ("__classdict__" : Str)) = false := by decide) (hbase : attributeBase (.Name x p1) "append" X.env (eval (.Name x p1) X.env) = eval (.Name x p1) X.env := by rfl)
    (hfew : ((backTo cpos (starEach (e :: []) X.env)).all (fun x => !x.1) && (backToKw cpos (keywordEach [] X.env)).all (fun x => x.1.isSome) && decide ((e :: ([] : List Expr)).length + ([] : List Keyword).length + (if ([] : List Keyword).isEmpty then 0 else 1) < 30)) = true := by rfl)
    (hline : (apos.endLine == cpos.line) = true := by rfl) (hs : starEach (e :: []) X.env = (false, eval e X.env) :: starEach [] X.env := by rfl) (hplain : (backTo cpos (starEach [] X.env)).any (·.1) = false := by rfl)
    (hsw : swapsWith (.Call (.Attribute (.Name x p1) "append" apos) [e] [] cpos) none pos.line X.env = pure false := by rfl) : SS X O Ob Oc O (.Expr (.Call (.Attribute (.Name x p1) "append" apos) [e] [] cpos) pos) (sApp i f) := by
  refine ⟨ps_imp (ps_expr (pe_bm PySem.F.plainAttrs_list PySem.F.slot_list_append PySem.F.type_list_append mt_append (pe_var hN hv hd hcd) (pa_cons he.pe pa_nil hs) hbase hfew hline hs hplain) hsw) fun D σ H q => ?_⟩
  obtain ⟨H0, A0, G, ρ, B, o, S, e, k⟩ := q
  obtain ⟨d, ed, e⟩ := bind2 e
  obtain ⟨y, ey, e⟩ := bind2 e
  split at e
  · split at e
    · rename_i hz
      cases e
      obtain ⟨a, vs, hB, hσ, ha, ra⟩ := own_of S hO ed
      refine ⟨.ref a, hσ, .inl ⟨rfl, _, .of ha⟩, H0, A0, G, ρ, B, y, S, ey, fun v H1 s1 r1 => ?_⟩
      have S1 := S.mono s1
      refine ⟨a, vs, v, rfl, rfl, s1 _ _ ha, by rw [ra.length]; exact hz.1, ?_⟩
      have av : Av A0 B a := .inr ⟨i, hB⟩
      exact k _ _ B (S1.write hB hσ (upd_lst av (RpL.app (.one (r1.toS S.tr hm)) (ra.mono s1))) hz.2)
    · cases e
  · cases e
def sExt (i : Nat) (f : Xp) : XS := fun ρ => (xVar i ρ).bind fun x => (f ρ).bind fun y => match x, y with
  | .list xs, .list ys => if xs.length + ys.length ≤ 16777216 ∧ i < ρ.length then some (.nx (ρ.set i (some (.list (xs ++ ys))))) else none
  | _, _ => none
theorem ss_ext (i : Nat) {x : Str} {apos p1 cpos : Pos} (he : SE X O m e f) (hO : O.contains i = true := by rfl) (hN : X.N[i]? = some x := by rfl) (hv : Vis X.env.scope x := by first | exact Or.inl rfl | exact Or.inr (Or.inl rfl) | exact Or.inr (Or.inr rfl))
    (hd : (x == ("__debug__" : Str)) = false := by decide) (hcd : (x == ("__classdict__" : Str)) = false := by decide) (hbase : attributeBase (.Name x p1) "extend" X.env (eval (.Name x p1) X.env) = eval (.Name x p1) X.env := by rfl)
    (hfew : ((backTo cpos (starEach (e :: []) X.env)).all (fun x => !x.1) && (backToKw cpos (keywordEach [] X.env)).all (fun x => x.1.isSome) && decide ((e :: ([] : List Expr)).length + ([] : List Keyword).length + (if ([] : List Keyword).isEmpty then 0 else 1) < 30)) = true := by rfl)
    (hline : (apos.endLine == cpos.line) = true := by rfl) (hs : starEach (e :: []) X.env = (false, eval e X.env) :: starEach [] X.env := by rfl) (hplain : (backTo cpos (starEach [] X.env)).any (·.1) = false := by rfl)
    (hsw : swapsWith (.Call (.Attribute (.Name x p1) "extend" apos) [e] [] cpos) none pos.line X.env = pure false := by rfl) : SS X O Ob Oc O (.Expr (.Call (.Attribute (.Name x p1) "extend" apos) [e] [] cpos) pos) (sExt i f) := by
  refine ⟨ps_imp (ps_expr (pe_bm PySem.F.plainAttrs_list PySem.F.slot_list_extend PySem.F.type_list_extend mt_extend (pe_var hN hv hd hcd) (pa_cons he.pe pa_nil hs) hbase hfew hline hs hplain) hsw) fun D σ H q => ?_⟩
  obtain ⟨H0, A0, G, ρ, B, o, S, e, k⟩ := q
  obtain ⟨d, ed, e⟩ := bind2 e
  obtain ⟨y, ey, e⟩ := bind2 e
  split at e
  · split at e
    · rename_i hz
      cases e
      obtain ⟨a, vs, hB, hσ, ha, ra⟩ := own_of S hO ed
      refine ⟨.ref a, hσ, .inl ⟨rfl, _, .of ha⟩, H0, A0, G, ρ, B, _, S, ey, fun v H1 s1 r1 => ?_⟩
      have S1 := S.mono s1
      obtain ⟨b, zs, rfl, hb, rb⟩ := r1.toW.lst
      refine ⟨a, b, vs, zs, rfl, rfl, s1 _ _ ha, hb, by rw [ra.length, rb.length]; exact hz.1, ?_⟩
      have av : Av A0 B a := .inr ⟨i, hB⟩
      exact k _ _ B (S1.write hB hσ (upd_lst av (RpL.app rb (ra.mono s1))) hz.2)
    · cases e
  · cases e
/-- x[j] = e -/
def sPut (i : Nat) (fj f : Xp) : XS := fun ρ => (f ρ).bind fun y => (xVar i ρ).bind fun x => (fj ρ).bind fun j => match x, j with
  | .list xs, .int j => (ixN xs.length j).bind fun n => if i < ρ.length then some (.nx (ρ.set i (some (.list (xs.set n y))))) else none
  | _, _ => none
theorem ss_put (i : Nat) {x : Str} {p1 p2 : Pos} {j : Expr} {fj : Xp} (he : SE X O m e f) (hj : SE X O mb j fj) (hm : m ≠ .w := by decide) (hO : O.contains i = true := by rfl) (hN : X.N[i]? = some x := by rfl) (hv : Vis X.env.scope x := by first | exact Or.inl rfl | exact Or.inr (Or.inl rfl) | exact Or.inr (Or.inr rfl))
    (hd : (x == ("__debug__" : Str)) = false := by decide) (hcd : (x == ("__classdict__" : Str)) = false := by decide)
    (ha : ∀ v, assign (.Subscript (.Name x p1) j p2) X.env v = (do
      let ov ← holding [v] (eval (.Name x p1) X.env)
      let iv ← holding [v, ov] (eval j X.env)
      standAt p2
      holding [v, ov, iv] (setItem ov iv v)
      release [v, ov, iv] []) := by intro _; rfl)
    (hs : swapsWithSole [.Subscript (.Name x p1) j p2] e pos.line X.env = pure false := by rfl) (hw : swappedStores [.Subscript (.Name x p1) j p2] e X.env = pure none := by rfl)
    (h1 : (assignEach [.Subscript (.Name x p1) j p2] X.env).map (·.2) = [assign (.Subscript (.Name x p1) j p2) X.env] := by rfl) : SS X O Ob Oc O (.Assign [.Subscript (.Name x p1) j p2] e pos) (sPut i fj f) := by
  refine ⟨ps_imp (ps_asg he.pe (pg_sub (pe_var hN hv hd hcd) hj.pe set_list ha) hs hw h1) fun D σ H q => ?_⟩
  obtain ⟨H0, A0, G, ρ, B, o, S, e, k⟩ := q
  obtain ⟨y, ey, e⟩ := bind2 e
  obtain ⟨d, ed, e⟩ := bind2 e
  obtain ⟨z, ez, e⟩ := bind2 e
  split at e
  · obtain ⟨n, en, e⟩ := bind2 e
    split at e
    · rename_i hz
      cases e
      obtain ⟨a, vs, hB, hσ, ha, ra⟩ := own_of S hO ed
      refine ⟨H0, A0, G, ρ, B, y, S, ey, fun v H1 s1 r1 => ⟨.ref a, hσ, H0, A0, G, ρ, B, _, S.mono s1, ez, fun u H2 s2 r2 => ?_⟩⟩
      have s12 := s1.trans s2
      have S1 := S.mono s12
      refine ⟨a, vs, _, n, rfl, r2.toW.int, s12 _ _ ha, by rw [ra.length]; exact en, ?_⟩
      have av : Av A0 B a := .inr ⟨i, hB⟩
      exact k _ _ B (S1.write hB hσ (upd_lst av (RpL.set ((r1.toS S.tr hm).mono s2) n (ra.mono s12))) hz)
    · cases e
  · cases e

/-! ### loops -/
def forL (g : D → PEnv → Option PEnv) (b : XS) : List D → XS
  | [], ρ => some (.nx ρ)
  | d :: ds, ρ => (g d ρ).bind fun ρ1 => (b ρ1).bind fun o => match o with
    | .nx ρ2 => forL g b ds ρ2
    | .ct ρ2 => forL g b ds ρ2
    | .bk ρ2 => some (.nx ρ2)
    | .rt d => some (.rt d)
def sFor (it : XL) (g : D → PEnv → Option PEnv) (b : XS) : XS := fun ρ => (it ρ).bind fun ds => forL g b ds ρ
theorem ss_for {tg iter : Expr} {body : List Stmt} {ts : List Nat} {it : XL} {gg : D → PEnv → Option PEnv} (hi : SI X O true tg iter it) (hg : SG X O O1 ts tg gg) (hb : SSs X O1 O' O O body g)
    (hsub : O'.all (fun i => O.contains i) = true := by rfl) (hp : PassesOwn (model X.prog X.w) X.A X.env X.xe := by exact PassesOwn.never) (hc : X.calm = true := by rfl) (hs : ∀ x, foldedSetIterable iter X.env x = pure x := by intro _; rfl) : SS X O Ob Oc O' (.For tg iter body [] pos) (sFor it gg g) := by
  refine ⟨ps_imp (ps_for hp hc hi.pi hg.pg hb.pss hs) fun D σ H q => ?_⟩
  obtain ⟨H0, A0, G, ρ, B, o, S, e, k⟩ := q
  obtain ⟨ds, eds, e⟩ := bind2 e
  refine ⟨H0, A0, G, ρ, B, ds, S, eds, fun J H1 gs s1 yl gr hz => ?_⟩
  have Sg := (S.mono s1).ghost (G' := gs) fun p hp => gr p hp
  refine ⟨fun i n σi Hi => n = ds.length - i ∧ i ≤ ds.length ∧ ∃ ρi Bi, Sim X.K H0 A0 (gs ++ G) O σi Hi ρi Bi ∧ forL gg g (ds.drop i) ρi = some o, ⟨ds.length, rfl, Nat.zero_le _, ρ, B, Sg, e⟩, ?_⟩
  rintro i n σi Hi ⟨rfl, hi, ρi, Bi, Si, ei⟩
  have gw : ∀ p ∈ gs, WRp X.K (Av A0 Bi) Hi p.1 p.2 := fun p hp => .inl (Si.gs p (List.mem_append_left _ hp))
  by_cases hlt : i < ds.length
  · have ed : ds[i]? = some ds[i] := List.getElem?_eq_getElem hlt
    rw [List.drop_eq_getElem_cons hlt] at ei
    simp only [forL] at ei
    obtain ⟨ρ1, eρ1, ei⟩ := bind2 ei
    obtain ⟨o1, eo1, ei⟩ := bind2 ei
    obtain ⟨hgo, hy⟩ := yl.go _ Hi i _ Si.tr gw ed
    refine .inr ⟨hgo, fun σ' H' => i + 1 ≤ ds.length ∧ ∃ ρ' B', Sim X.K H0 A0 (gs ++ G) O σ' H' ρ' B' ∧ forL gg g (ds.drop (i + 1)) ρ' = some o, fun σ' H' hN => ⟨ds.length - (i + 1), by omega, rfl, hN.1, hN.2⟩, fun x H' hx => ?_⟩
    obtain ⟨s2, rx⟩ := hy x H' hx
    refine ⟨H0, A0, gs ++ G, ρi, Bi, _, ρ1, Si.mono s2, rx, eρ1, fun σ2 _ S2 => ⟨H0, A0, gs ++ G, ρ1, _, o1, S2, eo1, ?_⟩⟩
    cases o1 with
    | nx ρ2 => exact fun σ3 H3 B3 S3 => ⟨by omega, ρ2, B3, S3, ei⟩
    | ct ρ2 => exact fun σ3 H3 B3 S3 => ⟨by omega, ρ2, B3, S3, ei⟩
    | bk ρ2 => cases ei; exact fun σ3 H3 B3 S3 => k σ3 H3 B3 S3.unghost
    | rt d => cases ei; exact k
  · have e' : i = ds.length := by omega
    subst e'
    rw [List.drop_length] at ei
    cases ei
    obtain ⟨B', S'⟩ := Si.unghost.weak (sub_of hsub)
    exact .inl ⟨yl.stop _ Hi Si.tr gw, k σi Hi B' S'⟩
def whileF (c : PEnv → Option Bool) (b : XS) : Nat → XS
  | 0, _ => none
  | n + 1, ρ => (c ρ).bind fun t => if t then (b ρ).bind fun o => match o with
      | .nx ρ2 => whileF c b n ρ2
      | .ct ρ2 => whileF c b n ρ2
      | .bk ρ2 => some (.nx ρ2)
      | .rt d => some (.rt d)
    else some (.nx ρ)
/-- at most so many turns -/
def fuelN : Nat := 2 ^ 2000
def sWhile (c : PEnv → Option Bool) (b : XS) : XS := whileF c b fuelN
theorem ss_while {c : Expr} {body : List Stmt} {tc : PEnv → Option Bool} (hc : ST X O c tc) (hb : SSs X O O' O O body g) (hsub : O'.all (fun i => O.contains i) = true := by rfl) (hp : PassesOwn (model X.prog X.w) X.A X.env X.xe := by exact PassesOwn.never) : SS X O Ob Oc O' (.While c body [] pos) (sWhile tc g) := by
  refine ⟨ps_imp (ps_while hp hc.pt hb.pss) fun D σ H q => ?_⟩
  obtain ⟨H0, A0, G, ρ, B, o, S, e, k⟩ := q
  refine ⟨fun n σi Hi => ∃ ρi Bi, Sim X.K H0 A0 G O σi Hi ρi Bi ∧ whileF tc g n ρi = some o, ⟨fuelN, ρ, B, S, e⟩, ?_⟩
  rintro n σi Hi ⟨ρi, Bi, Si, ei⟩
  cases n with
  | zero => cases ei
  | succ n =>
    simp only [whileF] at ei
    obtain ⟨t, et, ei⟩ := bind2 ei
    refine ⟨H0, A0, G, ρi, Bi, t, Si, et, fun H1 s1 => ?_⟩
    cases t with
    | true =>
      rw [if_pos rfl] at ei ⊢
      obtain ⟨o1, eo1, ei⟩ := bind2 ei
      refine ⟨fun σ' H' => ∃ ρ' B', Sim X.K H0 A0 G O σ' H' ρ' B' ∧ whileF tc g n ρ' = some o, fun σ' H' hN => ⟨n, Nat.lt_succ_self _, hN⟩, H0, A0, G, ρi, Bi, o1, Si.mono s1, eo1, ?_⟩
      cases o1 with
      | nx ρ2 => exact fun σ3 H3 B3 S3 => ⟨ρ2, B3, S3, ei⟩
      | ct ρ2 => exact fun σ3 H3 B3 S3 => ⟨ρ2, B3, S3, ei⟩
      | bk ρ2 => cases ei; exact k
      | rt d => cases ei; exact k
    | false =>
      rw [if_neg Bool.false_ne_true] at ei ⊢
      cases ei
      obtain ⟨B', S'⟩ := (Si.mono s1).weak (sub_of hsub)
      exact k σi H1 B' S'
end

/-! ### a def's body -/
def runD (n N : Nat) (g : XS) : List D → Option D := fun ds => (g (ds.map some ++ List.replicate (N - n) none)).bind fun o => match o with
  | .nx _ => some .none
  | .rt d => some d
  | _ => none
theorem sim_start {K : PySem.W.Frag} {A : Addr → Prop} {H : Hp} {vs : List V} {ds : List D} {N : List Str} {n : Nat} (t : Tr A H) (r : RpL K A H vs ds) (hn : vs.length = n) : Sim K H A [] [] (start N vs) H (ds.map some ++ List.replicate (N.length - n) none) (fun _ => none) := by
  refine ⟨Same.refl H, t, ?_, fun i a e => (nomatch e), fun i j a e => (nomatch e), fun i a e => (nomatch e), fun i d hi => (nomatch hi), fun i d e => ?_, fun p hp => (nomatch hp)⟩
  · unfold L2.start
    simp [r.length, hn.symm]
  · refine .inr ⟨rfl, ?_⟩
    by_cases hi : i < ds.length
    · rw [List.getElem?_append_left (by simpa using hi), List.getElem?_map] at e
      rw [List.getElem?_eq_getElem hi] at e
      cases e
      obtain ⟨v, ev, rv⟩ := r.get (List.getElem?_eq_getElem hi)
      refine ⟨v, ?_, rv.anti fun a z => ?_⟩
      · unfold L2.start
        rw [List.getElem?_append_left (by rw [List.length_map, r.length]; exact hi), List.getElem?_map, ev]
        rfl
      · rcases z with z | ⟨j, z⟩
        · exact z
        · cases z
    · rw [List.getElem?_append_right (by simpa using hi), List.getElem?_replicate] at e
      split at e <;> cases e
theorem fn_ok {P : Program} {w : World} {K : PySem.W.Frag} {mg : Str → Option Value} {base : Heap} {x qual : Str} {st : Stmt} {f : Addr} {fd : FuncData} {N ps : List Str} {k : Nat} {O' : List Nat} {g : XS} (F : Fun K x qual st f fd) (S : FnScope N ps (defScope st))
    (hb : ∀ (cdv : Value) (A : Around) (outer : List Env) (s : Shared) (H : Hp) (E : XK), Room k (A.deeper (envOfC qual (defScope st) s.heap.objs.size f cdv)) → SSs (cxOf CX0 P w K mg base N qual (defScope st) f cdv A outer s H E).nox [] [] [] O' (defBody st) g) :
    FnOk P w K mg base CX0 (k + 1) f fd ps (spD K ps.length (runD ps.length N.length g)) := by
  refine F.ok S (fun vs H Q E h => ?_) (fun cdv A outer s H vs Q E hr h => ?_)
  · obtain ⟨A, ds, d, t, hn, _⟩ := h
    exact hn
  · obtain ⟨A', ds, d, t, hn, r, e, q⟩ := h
    obtain ⟨o, eo, e⟩ := bind2 e
    refine ⟨_, (hb cdv A outer s H E hr).pss, H, A', [], _, fun _ => none, o, sim_start t r hn, eo, ?_⟩
    cases o with
    | nx ρ => cases e; exact fun σ' H' B' S' => q .non H' S'.same .non
    | rt d' => cases e; exact fun v H' s' r' => q v H' s' r'
    | bk ρ => cases e
    | ct ρ => cases e
theorem def_ok {P : Program} {w : World} {K : PySem.W.Frag} {mg : Str → Option Value} {base : Heap} {x : Str} {f : Addr} {fd : FuncData} {ps : List Str} {k : Nat} {F : List D → Option D} (h : FnOk P w K mg base CX0 k f fd ps (spD K ps.length F)) (hm : mg x = some (.ref f)) (kp : PySem.W.keepIn K (.ref f) = true) (hb : Binds K fd ps []) : Def P w K mg base k x ps F := ⟨⟨f, fd, h, hm, kp, hb⟩⟩
end Pm

namespace Pm
open PySem PySem.Spec PyProof.Rows L2

/-! ### several names at once -/
def oAdd' : D → D → Option D
  | .int a, .int b => some (.int (a + b))
  | _, _ => none
section
variable {K : PySem.W.Frag} {A0 A : Addr → Prop} {H0 H H' : Hp} {G : List (V × D)} {O : List Nat} {σ : L2.St} {ρ : PEnv} {B : Nat → Option Addr} {v : V} {d : D}
/-- a guarded cell becomes a slot's own -/
theorem Sim.adopt (S : Sim K H0 (Gd A0 a) G O σ H ρ B) {i : Nat} (na : ¬ A0 a) (h0 : H0 a = none) (r : Tp K (Av (Gd A0 a) B) H a d) (hi : i < ρ.length) :
    Sim K H0 A0 G (i :: O) (σ.set i (some (.ref a))) H (ρ.set i (some d)) (fun j => if j = i then some a else B j) := by
  have hiσ : i < σ.length := by rw [← S.len]; exact hi
  have nb : ∀ j, B j ≠ some a := fun j z => (S.fr j a z).2.1 (.inr rfl)
  have sub : ∀ j b, (if j = i then some a else B j) = some b → (j = i ∧ b = a) ∨ (j ≠ i ∧ B j = some b) := fun j b e => by
    by_cases hj : j = i
    · simp [hj] at e; exact .inl ⟨hj, e.symm⟩
    · exact .inr ⟨hj, by simpa [hj] using e⟩
  have an : ∀ b, Av A0 (fun j => if j = i then some a else B j) b → Av (Gd A0 a) B b := fun b z => by
    rcases z with z | ⟨j, z⟩
    · exact .inl (.inl z)
    · rcases sub j b z with ⟨_, q⟩ | ⟨_, q⟩
      · exact .inl (.inr q)
      · exact .inr ⟨j, q⟩
  have ans : ∀ b, Av A0 (fun j => if j = i then some a else B j) b → Av (Gd A0 a) B b ∨ H b = none := fun b z => .inl (an b z)
  refine ⟨S.same, fun b z => S.a0 b (.inl z), by simp [S.len], fun j b e => ?_, fun j k b e e' => ?_, fun j b e => ?_, fun j d' hj e m => ?_, fun j d' e => ?_, fun p hp => (S.gs p hp).anti an⟩
  · rcases sub j b e with ⟨q, _⟩ | ⟨_, q⟩
    · rw [q]; exact List.mem_cons_self
    · exact List.mem_cons_of_mem _ (S.bo j b q)
  · rcases sub j b e with ⟨q, q'⟩ | ⟨q, q'⟩
    · rcases sub k b e' with ⟨p, p'⟩ | ⟨p, p'⟩
      · rw [q, p]
      · rw [q'] at p'; exact absurd p' (nb k)
    · rcases sub k b e' with ⟨p, p'⟩ | ⟨p, p'⟩
      · rw [p'] at q'; exact absurd q' (nb j)
      · exact S.inj j k b q' p'
  · rcases sub j b e with ⟨q, q'⟩ | ⟨q, q'⟩
    · rw [q']
      exact ⟨h0, na, r.some⟩
    · obtain ⟨h1, h2, h3⟩ := S.fr j b q'
      exact ⟨h1, fun z => h2 (.inl z), h3⟩
  · by_cases hne : j = i
    · subst hne
      rw [List.getElem?_set_self hi] at e
      cases e
      exact ⟨a, by simp, by rw [List.getElem?_set_self hiσ], r.step (fun _ _ q _ => q) ans fun _ q => q⟩
    · rw [List.getElem?_set_ne (Ne.symm hne)] at e
      rw [List.getElem?_set_ne (Ne.symm hne)]
      rcases List.mem_cons.mp hj with hj | hj
      · exact absurd hj hne
      obtain ⟨b, h1, h2, h3⟩ := S.ob j d' hj e m
      exact ⟨b, by simp [hne, h1], h2, h3.step (fun _ _ q _ => q) ans fun _ q => q⟩
  · by_cases hne : j = i
    · subst hne
      rw [List.getElem?_set_self hi] at e
      cases e
      exact .inl ⟨a, by simp, by rw [List.getElem?_set_self hiσ], r.step (fun _ _ q _ => q) ans fun _ q => q⟩
    · rw [List.getElem?_set_ne (Ne.symm hne)] at e
      rw [List.getElem?_set_ne (Ne.symm hne)]
      rcases S.slot j d' e with ⟨b, h1, h2, h3⟩ | ⟨h1, v, h2, h3⟩
      · exact .inl ⟨b, by simp [hne, h1], h2, h3.step (fun _ _ q _ => q) ans fun _ q => q⟩
      · exact .inr ⟨by simp [hne, h1], v, h2, h3.anti an⟩
theorem Sim.unguard (S : Sim K H0 (Gd A0 a) G O σ H ρ B) : Sim K H0 A0 G O σ H ρ B := by
  have an : ∀ b, Av A0 B b → Av (Gd A0 a) B b := fun b z => by
    rcases z with z | z
    · exact .inl (.inl z)
    · exact .inr z
  have ans : ∀ b, Av A0 B b → Av (Gd A0 a) B b ∨ H b = none := fun b z => .inl (an b z)
  refine ⟨S.same, fun b z => S.a0 b (.inl z), S.len, S.bo, S.inj, fun j b e => let ⟨h1, h2, h3⟩ := S.fr j b e; ⟨h1, fun z => h2 (.inl z), h3⟩, fun j d' hj e m => ?_, fun j d' e => ?_, fun p hp => (S.gs p hp).anti an⟩
  · obtain ⟨b, h1, h2, h3⟩ := S.ob j d' hj e m
    exact ⟨b, h1, h2, h3.step (fun _ _ q _ => q) ans fun _ q => q⟩
  · rcases S.slot j d' e with ⟨b, h1, h2, h3⟩ | ⟨h1, v, h2, h3⟩
    · exact .inl ⟨b, h1, h2, h3.step (fun _ _ q _ => q) ans fun _ q => q⟩
    · exact .inr ⟨h1, v, h2, h3.anti an⟩
end
abbrev Gl (A0 : Addr → Prop) (L : List Addr) : Addr → Prop := fun b => A0 b ∨ b ∈ L
theorem gl_nil (A0 : Addr → Prop) : Gl A0 [] = A0 := by
  funext b
  simp [Gl]
theorem gl_cons (A0 : Addr → Prop) (a : Addr) (L : List Addr) : Gl (Gd A0 a) L = Gl A0 (a :: L) := by
  funext b
  simp [Gl, Gd, or_assoc]
theorem gl_swap (A0 : Addr → Prop) (a : Addr) (L : List Addr) : Gd (Gl A0 L) a = Gl A0 (a :: L) := by
  funext b
  simp only [Gl, Gd, List.mem_cons]
  exact propext ⟨fun h => h.elim (fun h => h.elim .inl fun h => .inr (.inr h)) fun h => .inr (.inl h), fun h => h.elim (fun h => .inl (.inl h)) fun h => h.elim .inr fun h => .inl (.inr h)⟩
/-- values in a row: the new ones stand at L -/
inductive Pn (K : PySem.W.Frag) (A : Addr → Prop) (H : Hp) : List Addr → List Md → List V → List D → Prop where
  | nil : Pn K A H [] [] [] []
  | own {a : Addr} {L : List Addr} {ms : List Md} {vs : List V} {d : D} {ds : List D} : Tp K A H a d → Pn K A H L ms vs ds → Pn K A H (a :: L) (.f :: ms) (.ref a :: vs) (d :: ds)
  | val {m : Md} {v : V} {L : List Addr} {ms : List Md} {vs : List V} {d : D} {ds : List D} : Rp K A H v d → (m = .f → isMut d = false) → Pn K A H L ms vs ds → Pn K A H L (m :: ms) (v :: vs) (d :: ds)
theorem Pn.anti {K : PySem.W.Frag} {A A' : Addr → Prop} {H : Hp} {L : List Addr} {ms : List Md} {vs : List V} {ds : List D} (h : Pn K A H L ms vs ds) (ha : ∀ a, A' a → A a) : Pn K A' H L ms vs ds := by
  induction h with
  | nil => exact .nil
  | own t _ ih => exact .own (t.step (fun _ _ q _ => q) (fun a z => .inl (ha a z)) fun _ q => q) ih
  | val r n _ ih => exact .val (r.anti ha) n ih
theorem Pn.mono {K : PySem.W.Frag} {A : Addr → Prop} {H H' : Hp} {L : List Addr} {ms : List Md} {vs : List V} {ds : List D} (h : Pn K A H L ms vs ds) (s : Same H H') : Pn K A H' L ms vs ds := by
  induction h with
  | nil => exact .nil
  | own t _ ih => exact .own (t.mono s) ih
  | val r n _ ih => exact .val (r.mono s) n ih
theorem Pn.len {K : PySem.W.Frag} {A : Addr → Prop} {H : Hp} {L : List Addr} {ms : List Md} {vs : List V} {ds : List D} (h : Pn K A H L ms vs ds) : vs.length = ms.length ∧ ds.length = ms.length := by
  induction h with
  | nil => exact ⟨rfl, rfl⟩
  | own _ _ ih => simp [ih.1, ih.2]
  | val _ _ _ ih => simp [ih.1, ih.2]
def simAM (K : PySem.W.Frag) (O : List Nat) (ms : List Md) (f : XL) : TA := fun σ H Q => ∃ H0 A0 G ρ B ds, Sim K H0 A0 G O σ H ρ B ∧ f ρ = some ds ∧
  ∀ vs H' L, Same H H' → Sim K H0 (Gl A0 L) G O σ H' ρ B → (∀ a ∈ L, H a = none ∧ ¬ A0 a) → L.Nodup → Pn K (Av (Gl A0 L) B) H' L ms vs ds → Q vs H'
structure SAM (X : Cx) (O : List Nat) (ms : List Md) (es : List Expr) (f : XL) : Prop where
  pa : PA X es (simAM X.K O ms f)
def ownL : List Nat → List Md → List Nat → List Nat
  | i :: is, m :: ms, O => ownL is ms (if m = .f then i :: O else O.filter (· != i))
  | _, _, O => O
def setAll {α : Type} : List Nat → List α → List (Option α) → List (Option α)
  | i :: is, v :: vs, σ => setAll is vs (σ.set i (some v))
  | _, _, σ => σ
theorem assign_all {K : PySem.W.Frag} {H0 H : Hp} {A0 : Addr → Prop} {G : List (V × D)} : ∀ (is : List Nat) {O : List Nat} {σ : L2.St} {ρ : PEnv} {B : Nat → Option Addr} {L : List Addr} {ms : List Md} {vs : List V} {ds : List D},
    Sim K H0 (Gl A0 L) G O σ H ρ B → Pn K (Av (Gl A0 L) B) H L ms vs ds → (∀ a ∈ L, H0 a = none ∧ ¬ A0 a) → L.Nodup → (∀ i ∈ is, i < ρ.length) → is.length = ms.length →
    ∃ B', Sim K H0 A0 G (ownL is ms O) (setAll is vs σ) H (setAll is ds ρ) B'
  | [], O, σ, ρ, B, L, ms, vs, ds, S, p, hL, nd, hi, hl => by
    cases p with
    | nil => rw [gl_nil] at S; exact ⟨B, S⟩
    | own _ _ => simp at hl
    | val _ _ _ => simp at hl
  | i :: is, O, σ, ρ, B, L, ms, vs, ds, S, p, hL, nd, hi, hl => by
    cases p with
    | nil => simp at hl
    | @own a L' ms' vs' d ds' t p' =>
      have hia := hi i List.mem_cons_self
      rw [← gl_swap] at S
      have hn := List.nodup_cons.mp nd
      obtain ⟨h0, n0⟩ := hL a List.mem_cons_self
      have t' : Tp K (Av (Gd (Gl A0 L') a) B) H a d := by rw [gl_swap]; exact t
      have S1 := S.adopt (i := i) (fun z => by
        rcases z with z | z
        · exact n0 z
        · exact hn.1 z) h0 t' hia
      have e : ownL (i :: is) (.f :: ms') O = ownL is ms' (i :: O) := by simp [ownL]
      rw [e]
      refine assign_all is S1 (p'.anti fun c z => ?_) (fun b hb => hL b (List.mem_cons_of_mem _ hb)) hn.2 (fun j hj => by rw [List.length_set]; exact hi j (List.mem_cons_of_mem _ hj)) (by simpa using hl)
      rcases z with (z | z) | ⟨l, z⟩
      · exact .inl (.inl z)
      · exact .inl (.inr (List.mem_cons_of_mem _ z))
      · by_cases hli : l = i
        · simp [hli] at z
          exact .inl (.inr (by rw [z]; exact List.mem_cons_self))
        · simp [hli] at z
          exact .inr ⟨l, z⟩
    | @val m v L' ms' vs' d ds' r n p' =>
      have hia := hi i List.mem_cons_self
      have S1 := S.setS r hia
      have p2 := p'.anti (A' := Av (Gl A0 L) (restr [i] B)) fun c z => restr_av z
      have hi' : ∀ j ∈ is, j < (ρ.set i (some d)).length := fun j hj => by rw [List.length_set]; exact hi j (List.mem_cons_of_mem _ hj)
      by_cases hm : m = .f
      · have S2 := S1.grow fun d' e' => by
          rw [List.getElem?_set_self hia] at e'
          cases e'
          exact n hm
        have e : ownL (i :: is) (m :: ms') O = ownL is ms' (i :: O) := by simp [ownL, hm]
        rw [e]
        exact assign_all is S2 p2 hL nd hi' (by simpa using hl)
      · have e : ownL (i :: is) (m :: ms') O = ownL is ms' (O.filter (· != i)) := by simp [ownL, hm]
        rw [e]
        exact assign_all is S1 p2 hL nd hi' (by simpa using hl)
def sPar (is : List Nat) (fs : XL) : XS := fun ρ => (fs ρ).bind fun ds => if is.all (fun i => decide (i < ρ.length)) && decide (ds.length = is.length) then some (.nx (setAll is ds ρ)) else none
section
variable {X : Cx} {O O1 O2 Ob Oc O' : List Nat} {m ma mb : Md} {ms : List Md} {st : Stmt} {sts : List Stmt} {g h : XS} {e a b c : Expr} {es : List Expr} {f fa fb : Xp} {fs : XL} {pos pos' : Pos}
theorem sam_nil : SAM X O [] [] xNil := by
  refine ⟨pa_imp pa_nil fun σ H Q h => ?_⟩
  obtain ⟨H0, A0, G, ρ, B, ds, S, e, k⟩ := h
  cases e
  exact k [] H [] (Same.refl H) (by rw [gl_nil]; exact S) (fun a h => (nomatch h)) .nil .nil
theorem sam_cons (ha : SE X O m e f) (hr : SAM X O ms es fs) (hm : m ≠ .w := by decide) (hs : starEach (e :: es) X.env = (false, eval e X.env) :: starEach es X.env := by rfl) : SAM X O (m :: ms) (e :: es) (xCons f fs) := by
  refine ⟨pa_imp (pa_cons ha.pe hr.pa hs) fun σ H Q h => ?_⟩
  obtain ⟨H0, A0, G, ρ, B, ds, S, e, k⟩ := h
  obtain ⟨x, ex, e⟩ := bind2 e
  obtain ⟨xs, exs, e⟩ := bind2 e
  cases e
  refine ⟨H0, A0, G, ρ, B, x, S, ex, fun v H1 s1 r1 => ?_⟩
  by_cases hfa : m = .f ∧ ∃ a, v = V.ref a ∧ H a = none ∧ Tp X.K (fun b => Av A0 B b ∨ b = a) H1 a x
  · obtain ⟨rfl, a, rfl, hn, ra⟩ := hfa
    have naA : ¬ Av A0 B a := S.new hn
    have Sg := S.guard hn s1 ra.some
    refine ⟨H0, Gd A0 a, G, ρ, B, xs, Sg, exs, fun vs H2 L s2 S2 hL nd p => k _ H2 (a :: L) (s1.trans s2) (by rw [← gl_cons]; exact S2) (fun b hb => ?_) (List.nodup_cons.mpr ⟨fun z => ?_, nd⟩) (.own ?_ (by rw [← gl_cons]; exact p))⟩
    · rcases List.mem_cons.mp hb with rfl | hb
      · exact ⟨hn, fun z => naA (.inl z)⟩
      · obtain ⟨h1, h2⟩ := hL b hb
        exact ⟨s1.free h1, fun z => h2 (.inl z)⟩
    · exact (hL a z).2 (.inr rfl)
    · refine ra.step (fun c o e _ => s2 c o e) (fun c z => ?_) fun o e => s2 _ o e
      rcases z with (z | z) | z
      · exact .inl (.inl (.inl z))
      · rcases List.mem_cons.mp z with z | z
        · exact .inl (.inr z)
        · exact .inr (hL c z).1
      · exact .inl (.inl (.inr z))
  · have rb : Rp X.K (Av A0 B) H1 v x ∧ (m = .f → isMut x = false) := by
      cases m with
      | w => exact absurd rfl hm
      | s => exact ⟨r1, fun z => nomatch z⟩
      | f =>
        rcases r1 with ⟨b, e1, e2, e3⟩ | ⟨e1, e2⟩
        · exact absurd ⟨rfl, b, e1, e2, e3⟩ hfa
        · exact ⟨e1, fun _ => e2⟩
    refine ⟨H0, A0, G, ρ, B, xs, S.mono s1, exs, fun vs H2 L s2 S2 hL nd p => k _ H2 L (s1.trans s2) S2 (fun b hb => ⟨s1.free (hL b hb).1, (hL b hb).2⟩) nd (.val (rb.1.step (fun c o e _ => s2 c o e) fun c z => ?_) rb.2 p)⟩
    rcases z with (z | z) | z
    · exact .inl (.inl z)
    · exact .inr (hL c z).1
    · exact .inl (.inr z)
/-- behind the values: the names are set -/
theorem par_end {is : List Nat} {o : Out} {D : Ends} {K : PySem.W.Frag} {H0 H H1 : Hp} {A0 : Addr → Prop} {G : List (V × Pm.D)} {σ : L2.St} {ρ : PEnv} {B : Nat → Option Addr} {ds : List Pm.D} {vs : List V} {L : List Addr} (S0 : Same H0 H) (hO : ownL is ms O = O') (hl : is.length = ms.length)
    (e : (if is.all (fun i => decide (i < ρ.length)) && decide (ds.length = is.length) then some (Out.nx (setAll is ds ρ)) else none) = some o) (k : PostS K H0 A0 G Ob Oc O' D o)
    (S : Sim K H0 (Gl A0 L) G O σ H1 ρ B) (hL : ∀ a ∈ L, H a = none ∧ ¬ A0 a) (nd : L.Nodup) (p : Pn K (Av (Gl A0 L) B) H1 L ms vs ds) : D.nx (setAll is vs σ) H1 := by
  split at e
  · rename_i hz
    cases e
    simp only [Bool.and_eq_true, decide_eq_true_eq, List.all_eq_true] at hz
    obtain ⟨B', S'⟩ := assign_all is S p (fun a ha => ⟨S0.free (hL a ha).1, (hL a ha).2⟩) nd (fun i hi => hz.1 i hi) hl
    rw [hO] at S'
    exact k _ H1 B' S'
  · cases e
theorem ss_par (i j : Nat) {x y : Str} {px py pt : Pos} {kt k2 : Nat} {pt2 : Pos} (hN : X.N.Nodup) (ha : SAM X O [ma, mb] [a, b] fs) (hij : i ≠ j := by decide) (hi : X.N[i]? = some x := by rfl) (hj : X.N[j]? = some y := by rfl) (hx : X.env.scope.names.lookup x = some .local := by rfl) (hy : X.env.scope.names.lookup y = some .local := by rfl)
    (hw : swappedStores [.Tuple [.Name x px, .Name y py] kt pt] (.Tuple [a, b] k2 pt2) X.env = pure (some [x, y]) := by rfl) (hs : swapsWithSole [.Tuple [.Name x px, .Name y py] kt pt] (.Tuple [a, b] k2 pt2) pos.line X.env = pure false := by rfl) (hc : X.calm = true := by rfl) (hO : ownL [i, j] [ma, mb] O = O' := by rfl) :
    SS X O Ob Oc O' (.Assign [.Tuple [.Name x px, .Name y py] kt pt] (.Tuple [a, b] k2 pt2) pos) (sPar [i, j] fs) := by
  refine ⟨ps_imp (L2.ps_par hc hN hi hj hij hx hy ha.pa hw hs) fun D σ H q => ?_⟩
  obtain ⟨H0, A0, G, ρ, B, o, S, e, k⟩ := q
  obtain ⟨ds, eds, e⟩ := bind2 e
  refine ⟨H0, A0, G, ρ, B, ds, S, eds, fun vs H1 L s1 S1 hL nd p => ?_⟩
  have hl := p.len.1
  match vs, hl with
  | [v, w], _ => exact ⟨v, w, rfl, par_end (is := [i, j]) S.same hO rfl e k S1 hL nd p⟩
theorem ss_par3 (i j l : Nat) {mc : Md} {x y z : Str} {px py pz pt : Pos} {kt k2 : Nat} {pt2 : Pos} (hN : X.N.Nodup) (ha : SAM X O [ma, mb, mc] [a, b, c] fs) (hij : i ≠ j := by decide) (hil : i ≠ l := by decide) (hjl : j ≠ l := by decide) (hi : X.N[i]? = some x := by rfl) (hj : X.N[j]? = some y := by rfl) (hlz : X.N[l]? = some z := by rfl)
    (hx : X.env.scope.names.lookup x = some .local := by rfl) (hy : X.env.scope.names.lookup y = some .local := by rfl) (hz : X.env.scope.names.lookup z = some .local := by rfl)
    (hw : swappedStores [.Tuple [.Name x px, .Name y py, .Name z pz] kt pt] (.Tuple [a, b, c] k2 pt2) X.env = pure (some [x, y, z]) := by rfl) (hs : swapsWithSole [.Tuple [.Name x px, .Name y py, .Name z pz] kt pt] (.Tuple [a, b, c] k2 pt2) pos.line X.env = pure false := by rfl) (hc : X.calm = true := by rfl) (hO : ownL [i, j, l] [ma, mb, mc] O = O' := by rfl) :
    SS X O Ob Oc O' (.Assign [.Tuple [.Name x px, .Name y py, .Name z pz] kt pt] (.Tuple [a, b, c] k2 pt2) pos) (sPar [i, j, l] fs) := by
  refine ⟨ps_imp (ps_par3 hc hN hi hj hlz hij hil hjl hx hy hz ha.pa hw hs) fun D σ H q => ?_⟩
  obtain ⟨H0, A0, G, ρ, B, o, S, e, k⟩ := q
  obtain ⟨ds, eds, e⟩ := bind2 e
  refine ⟨H0, A0, G, ρ, B, ds, S, eds, fun vs H1 L s1 S1 hL nd p => ?_⟩
  have hl := p.len.1
  match vs, hl with
  | [u, v, w], _ => exact ⟨u, v, w, rfl, par_end (is := [i, j, l]) S.same hO rfl e k S1 hL nd p⟩
/-- any number of names, by a tuple that is taken apart -/
def gNames : List Nat → TGs
  | [] => gNil
  | i :: is => gCons (gName i) (gNames is)
theorem gNames_of {is : List Nat} {vs : List V} {σ : L2.St} {H : Hp} {Q : L2.St → Hp → Prop} (hl : vs.length = is.length) (h : Q (setAll is vs σ) H) : gNames is vs σ H Q := by
  induction is generalizing vs σ with
  | nil =>
    cases vs with
    | nil => exact ⟨rfl, h⟩
    | cons v vs => simp at hl
  | cons i is ih =>
    cases vs with
    | nil => simp at hl
    | cons v vs => exact ⟨v, vs, rfl, ih (by simpa using hl) h⟩
theorem ss_parT (is : List Nat) {tgs : List Expr} {kt k2 : Nat} {pt pt2 : Pos} (ha : SAM X O ms es fs) (hg : PGs X tgs (gNames is)) (hl : is.length = ms.length := by rfl) (hn : (assignEach tgs X.env).length = is.length := by rfl) (hst : (assignEach tgs X.env).findIdx? (·.1) = none := by rfl) (hsz : ms.length ≤ 1000 := by decide)
    (hw : swappedStores [.Tuple tgs kt pt] (.Tuple es k2 pt2) X.env = pure none := by rfl) (hs : swapsWithSole [.Tuple tgs kt pt] (.Tuple es k2 pt2) pos.line X.env = pure false := by rfl) (hc : X.calm = true := by rfl) (hO : ownL is ms O = O' := by rfl)
    (h1 : (assignEach [.Tuple tgs kt pt] X.env).map (·.2) = [assign (.Tuple tgs kt pt) X.env] := by rfl) : SS X O Ob Oc O' (.Assign [.Tuple tgs kt pt] (.Tuple es k2 pt2) pos) (sPar is fs) := by
  refine ⟨ps_imp (ps_asg (pe_tup ha.pa) (pg_tup hc hg hn hst) hs hw h1) fun D σ H q => ?_⟩
  obtain ⟨H0, A0, G, ρ, B, o, S, e, k⟩ := q
  obtain ⟨ds, eds, e⟩ := bind2 e
  refine ⟨H0, A0, G, ρ, B, ds, S, eds, fun vs H1 L s1 S1 hL nd p => ⟨by rw [p.len.1]; exact line1000 hsz, fun t ht => ?_⟩⟩
  have st := same_upd (o := .tup vs) ht
  refine ⟨t, vs, rfl, .of upd_same, by rw [p.len.1, hl], gNames_of (by rw [p.len.1, hl]) (par_end (is := is) S.same hO hl e k (S1.mono st) hL nd (p.mono st))⟩

/-! ### more operators in place -/
theorem iop_addD : OpR X (inplaceOp .Add) (rD X.K .f oAdd') := by
  intro pins s σ H x y v u Q I rx ry ⟨A, dx, dy, d, tr, wx, wy, e, q⟩
  unfold oAdd' at e
  split at e
  · cases e
    exact iop_add pins s σ H x y v u Q I rx ry ⟨_, _, wx.int, wy.int, q _ H (Same.refl H) Res.int⟩
  · cases e
theorem iop_subD : OpR X (inplaceOp .Sub) (rD X.K .f oSub) := by
  intro pins s σ H x y v u Q I rx ry ⟨A, dx, dy, d, tr, wx, wy, e, q⟩
  unfold oSub at e
  split at e
  · cases e
    exact iop_sub pins s σ H x y v u Q I rx ry ⟨_, _, wx.int, wy.int, q _ H (Same.refl H) Res.int⟩
  · cases e
end
end Pm

namespace Pm
open PySem PySem.Spec PyProof.Rows L2

/-! ### a comprehension over two sources -/
def lc2L (g : D → PEnv → Option PEnv) (t : PEnv → Option Bool) (it1 : XL) (g1 : D → PEnv → Option PEnv) (t1 : PEnv → Option Bool) (f : Xp) (vs1 : List Nat) (ρ : PEnv) : List D → Option (List D)
  | [] => some []
  | d :: ds => (g d ρ).bind fun ρ1 => (t ρ1).bind fun b => if b then (it1 ρ1).bind fun es => (lcL g1 t1 f (wipeP ρ1 vs1) es).bind fun ys => (lc2L g t it1 g1 t1 f vs1 ρ ds).bind fun zs => some (ys ++ zs) else lc2L g t it1 g1 t1 f vs1 ρ ds
def xLc2 (it : XL) (g : D → PEnv → Option PEnv) (t : PEnv → Option Bool) (it1 : XL) (g1 : D → PEnv → Option PEnv) (t1 : PEnv → Option Bool) (f : Xp) (own vs1 : List Nat) : Xp := fun ρ => (it ρ).bind fun ds => (lc2L g t it1 g1 t1 f vs1 (wipeP ρ own) ds).bind fun ys => if ys.length ≤ 16777216 then some (.list ys) else none
/-- the guarded cells alone may change -/
theorem Sim.monoG {K : PySem.W.Frag} {H0 H H' : Hp} {A0 : Addr → Prop} {G : List (V × D)} {O : List Nat} {σ : L2.St} {ρ : PEnv} {B : Nat → Option Addr} (S : Sim K H0 A0 G O σ H ρ B) (hk : ∀ a o, H a = some o → ¬ A0 a → H' a = some o) (ht : ∀ a, A0 a → ∃ o, H' a = some o ∧ NT o) (h0 : Same H0 H') : Sim K H0 A0 G O σ H' ρ B := by
  have st : ∀ a o, H a = some o → ¬ Av A0 B a → H' a = some o := fun a o e n => hk a o e fun z => n (.inl z)
  have bA : ∀ i a, B i = some a → ¬ A0 a := fun i a e => (S.fr i a e).2.1
  have kp : ∀ {a : Addr} {d : D} {i : Nat}, B i = some a → Tp K (Av A0 B) H a d → Tp K (Av A0 B) H' a d := fun {a d i} hb h => h.step st (fun _ z => .inl z) fun o e => hk a o e (bA i a hb)
  refine ⟨h0, ht, S.len, S.bo, S.inj, fun i a e => ?_, fun i d hi e mm => ?_, fun i d e => ?_, fun p hp => (S.gs p hp).step st fun _ z => .inl z⟩
  · obtain ⟨h1, h2, o, h3, h4⟩ := S.fr i a e
    exact ⟨h1, h2, o, hk a o h3 h2, h4⟩
  · obtain ⟨a, h1, h2, h3⟩ := S.ob i d hi e mm
    exact ⟨a, h1, h2, kp h1 h3⟩
  · rcases S.slot i d e with ⟨a, h1, h2, h3⟩ | ⟨h1, v, h2, h3⟩
    · exact .inl ⟨a, h1, h2, kp h1 h3⟩
    · exact .inr ⟨h1, v, h2, h3.step st fun _ z => .inl z⟩
section
variable {X : Cx} {O ts us : List Nat} {st : Bool} {m : Md} {tg iter elt tg1 iter1 : Expr} {ifs ifs1 : List Expr} {scope : Scope} {own : List (Str × Nat)} {vs1 : List Nat} {it it1 : XL} {g g1 : D → PEnv → Option PEnv} {t t1 : PEnv → Option Bool} {f : Xp} {pos : Pos}
theorem lc2_of (hm : m ≠ .w) (hts : ∀ i, ts.contains i = true → (own.map (·.2)).contains i = true) (hus : ∀ i, us.contains i = true → vs1.contains i = true) (hO : ∀ i ∈ own.map (·.2), i ∉ O) (hO1 : ∀ i ∈ vs1, i ∉ O) (σ : L2.St) (H : Hp) (Q : VK)
    (q : simT X.K O .f (xLc2 it g t it1 g1 t1 f (own.map (·.2)) vs1) σ H Q) :
    tLc2 (simI X.K O st it) (simG X.K O O ts g) (simTT X.K O t) (simI X.K O true it1) (simG X.K O O us g1) (simTT X.K O t1) (simT X.K O m f) (own.map (·.2)) vs1 σ H Q := by
  obtain ⟨H0, A0, G, ρ, B, d, S, e, k⟩ := q
  obtain ⟨ds, eds, e⟩ := bind2 e
  obtain ⟨ys, eys, e⟩ := bind2 e
  split at e
  rotate_left
  · cases e
  rename_i hys
  cases e
  refine ⟨H0, A0, G, ρ, B, ds, S, eds, fun J H1 gs s1 yl gr hz Dn hD => ?_⟩
  have hts' : ∀ i, ts.contains i = true → i ∉ O := fun i hi => hO i (by simpa using hts i hi)
  have hus' : ∀ i, us.contains i = true → i ∉ O := fun i hi => hO1 i (by simpa using hus i hi)
  have avD : Av (Gd A0 Dn) B Dn := .inl (.inr rfl)
  refine ⟨fun i n Hc => n = ds.length - i ∧ i ≤ ds.length ∧ Same H1 Hc ∧ ∃ vs pre post, Hc Dn = some (.lst vs) ∧ RpL X.K (Av (Gd A0 Dn) B) Hc vs pre ∧ lc2L g t it1 g1 t1 f vs1 (wipeP ρ (own.map (·.2))) (ds.drop i) = some post ∧ ys = pre ++ post,
    ⟨ds.length, rfl, Nat.zero_le _, same_upd hD, [], [], ys, upd_same, .nil, eys, rfl⟩, ?_⟩
  rintro i n Hc ⟨rfl, hi, sc, vs, pre, post, hDc, rpre, epost, eyp⟩
  have Sg : Sim X.K H0 (Gd A0 Dn) G O σ Hc ρ B := (S.mono s1).guard hD sc ⟨_, hDc, NT.lst⟩
  have gw : ∀ p ∈ gs, WRp X.K (Av (Gd A0 Dn) B) Hc p.1 p.2 := fun p hp => (gr p hp).w.step sc fun a z => by
    rcases gd_av z with z | z
    · exact .inl z
    · exact .inr (by rw [z]; exact hD)
  by_cases hlt : i < ds.length
  · have ed : ds[i]? = some ds[i] := List.getElem?_eq_getElem hlt
    rw [List.drop_eq_getElem_cons hlt] at epost
    obtain ⟨hgo, hy⟩ := yl.go _ Hc i _ Sg.tr gw ed
    simp only [lc2L] at epost
    obtain ⟨ρ1, eρ1, epost⟩ := bind2 epost
    obtain ⟨b, eb, epost⟩ := bind2 epost
    refine .inr ⟨hgo, fun H' => i + 1 ≤ ds.length ∧ Same H1 H' ∧ ∃ vs pre' post', H' Dn = some (.lst vs) ∧ RpL X.K (Av (Gd A0 Dn) B) H' vs pre' ∧ lc2L g t it1 g1 t1 f vs1 (wipeP ρ (own.map (·.2))) (ds.drop (i + 1)) = some post' ∧ ys = pre' ++ post', fun H' hN => ?_, fun x H' hx => ?_⟩
    · obtain ⟨h1, h2, h3⟩ := hN
      exact ⟨ds.length - (i + 1), by omega, rfl, h1, h2, h3⟩
    · obtain ⟨s2, rx⟩ := hy x H' hx
      refine ⟨H0, Gd A0 Dn, G, wipeP ρ (own.map (·.2)), B, _, ρ1, (Sg.mono s2).wipe _ hO, rx, eρ1, fun σ2 c2 S2 => ?_⟩
      rw [restr_same Sg hts'] at S2
      refine ⟨wipe_eq c2 hts, H0, Gd A0 Dn, G, ρ1, B, b, S2, eb, fun H3 s3 => ?_⟩
      cases b with
      | true =>
        rw [if_pos rfl]
        rw [if_pos rfl] at epost
        obtain ⟨es, ees, epost⟩ := bind2 epost
        obtain ⟨zs, ezs, epost⟩ := bind2 epost
        obtain ⟨ws, ews, epost⟩ := bind2 epost
        cases epost
        refine ⟨H0, Gd A0 Dn, G, ρ1, B, es, S2.mono s3, ees, fun J1 H4 gs1 s4 yl1 gr1 hz1 => ?_⟩
        have s24 := (s2.trans s3).trans s4
        have hD4 : H4 Dn = some (.lst vs) := s24 _ _ hDc
        have S4 := (S2.mono s3).mono s4
        have hdn : H Dn = none := s1.free hD
        -- the inner loop: the new list is written between its turns
        refine ⟨fun j n Hj => n = es.length - j ∧ j ≤ es.length ∧ (∀ a o, H4 a = some o → ¬ Gd A0 Dn a → Hj a = some o) ∧ Same H1 Hj ∧ ∃ us pre1 post1, Hj Dn = some (.lst us) ∧ RpL X.K (Av (Gd A0 Dn) B) Hj us pre1 ∧ lcL g1 t1 f (wipeP ρ1 vs1) (es.drop j) = some post1 ∧ ys = pre1 ++ (post1 ++ ws) ∧ (∀ a, A0 a → ∃ o, Hj a = some o ∧ NT o),
          ⟨es.length, rfl, Nat.zero_le _, fun a o e _ => e, sc.trans s24, vs, pre, zs, hD4, rpre.mono s24, ezs, eyp, fun a z => S4.a0 a (.inl z)⟩, ?_⟩
        rintro j n Hj ⟨rfl, hj, sj, s1j, us', pre1, post1, hDj, rp1, ep1, ey1, a0j⟩
        have stepj : ∀ a o, H4 a = some o → ¬ Av (Gd A0 Dn) B a → Hj a = some o := fun a o e n => sj a o e fun z => n (.inl z)
        have thr : ∀ a, Gd A0 Dn a → ∃ o, Hj a = some o ∧ NT o := fun a z => by
          rcases z with z | z
          · exact a0j a z
          · rw [z]; exact ⟨_, hDj, NT.lst⟩
        have Sj : Sim X.K H0 (Gd A0 Dn) G O σ2 Hj ρ1 B := S4.monoG sj thr fun a o e => s1j a o (s1 a o (S.same a o e))
        have gw1 : ∀ p ∈ gs1, WRp X.K (Av (Gd A0 Dn) B) Hj p.1 p.2 := fun p hp => .inl ((gr1 p hp : Rp _ _ _ _ _).step stepj fun _ z => .inl z)
        have hysl : ys.length ≤ 16777216 := hys
        by_cases hltj : j < es.length
        · have edj : es[j]? = some es[j] := List.getElem?_eq_getElem hltj
          rw [List.drop_eq_getElem_cons hltj] at ep1
          obtain ⟨hgo1, hy1⟩ := yl1.go _ Hj j _ Sj.tr gw1 edj
          simp only [lcL] at ep1
          obtain ⟨ρ2, eρ2, ep1⟩ := bind2 ep1
          obtain ⟨b1, eb1, ep1⟩ := bind2 ep1
          refine .inr ⟨hgo1, fun H' => j + 1 ≤ es.length ∧ (∀ a o, H4 a = some o → ¬ Gd A0 Dn a → H' a = some o) ∧ Same H1 H' ∧ ∃ us pre1 post1, H' Dn = some (.lst us) ∧ RpL X.K (Av (Gd A0 Dn) B) H' us pre1 ∧ lcL g1 t1 f (wipeP ρ1 vs1) (es.drop (j + 1)) = some post1 ∧ ys = pre1 ++ (post1 ++ ws) ∧ (∀ a, A0 a → ∃ o, H' a = some o ∧ NT o), fun H' hN => ?_, fun x1 H5 hx1 => ?_⟩
          · obtain ⟨h1, h2⟩ := hN
            exact ⟨es.length - (j + 1), by omega, rfl, h1, h2⟩
          · obtain ⟨s5, rx1⟩ := hy1 x1 H5 hx1
            refine ⟨H0, Gd A0 Dn, G, wipeP ρ1 vs1, B, _, ρ2, (Sj.mono s5).wipe _ hO1, rx1, eρ2, fun σ3 c3 S5 => ?_⟩
            rw [restr_same Sj hus'] at S5
            refine ⟨wipe_eq c3 hus, H0, Gd A0 Dn, G, ρ2, B, b1, S5, eb1, fun H6 s6 => ?_⟩
            cases b1 with
            | true =>
              rw [if_pos rfl]
              rw [if_pos rfl] at ep1
              obtain ⟨y, ey, ep1⟩ := bind2 ep1
              obtain ⟨p2, ep2, ep1⟩ := bind2 ep1
              cases ep1
              refine ⟨H0, Gd A0 Dn, G, ρ2, B, y, S5.mono s6, ey, fun v H7 s7 r7 => ?_⟩
              have r7' := r7.toS (S5.mono s6).tr hm
              have s57 := (s5.trans s6).trans s7
              have kp : ∀ a o, H7 a = some o → ¬ Av (Gd A0 Dn) B a → upd H7 Dn (.lst (us' ++ [v])) a = some o := fun a o e n => by
                rw [upd_ne (fun z => n (by rw [z]; exact avD))]
                exact e
              have hne : ∀ a, ¬ Gd A0 Dn a → a ≠ Dn := fun a n z => n (.inr z)
              have hpl : pre1.length < ys.length := by
                rw [ey1]
                simp only [List.length_append, List.length_cons]
                omega
              refine ⟨us', s57 _ _ hDj, ?_, by omega, fun a o e n => ?_, fun a o e => ?_, us' ++ [v], pre1 ++ [y], p2, upd_same, ?_, ep2, by simp [ey1], fun a z => ?_⟩
              · rw [rp1.length]
                have : (16777216 : Nat) = sizeLine := rfl
                omega
              · rw [upd_ne (hne a n)]
                exact s57 _ _ (sj a o e n)
              · have hne : a ≠ Dn := fun z => by rw [z, hD] at e; cases e
                rw [upd_ne hne]
                exact s57 _ _ (s1j _ _ e)
              · exact RpL.app (.one (r7'.step kp fun _ z => .inl z)) ((rp1.mono s57).step kp fun _ z => .inl z)
              · obtain ⟨o, e, nt⟩ := a0j a z
                by_cases ha : a = Dn
                · rw [ha]; exact ⟨_, upd_same, NT.lst⟩
                · exact ⟨o, by rw [upd_ne ha]; exact s57 _ _ e, nt⟩
            | false =>
              rw [if_neg Bool.false_ne_true]
              rw [if_neg Bool.false_ne_true] at ep1
              have s56 := s5.trans s6
              exact ⟨by omega, fun a o e n => s56 _ _ (sj a o e n), s1j.trans s56, us', pre1, post1, s56 _ _ hDj, rp1.mono s56, ep1, ey1, fun a z => let ⟨o, e, nt⟩ := a0j a z; ⟨o, s56 _ _ e, nt⟩⟩
        · have e : j = es.length := by omega
          subst e
          rw [List.drop_length] at ep1
          cases ep1
          exact .inl ⟨yl1.stop _ Hj Sj.tr gw1, by omega, s1j, us', pre1, ws, hDj, rp1, ews, by simpa using ey1⟩
      | false =>
        rw [if_neg Bool.false_ne_true]
        rw [if_neg Bool.false_ne_true] at epost
        have s23 := s2.trans s3
        exact ⟨by omega, sc.trans s23, vs, pre, post, s23 _ _ hDc, rpre.mono s23, epost, eyp⟩
  · have e : i = ds.length := by omega
    subst e
    refine .inl ⟨yl.stop _ Hc Sg.tr gw, ?_⟩
    rw [List.drop_length] at epost
    cases epost
    rw [List.append_nil] at eyp
    subst eyp
    have hHD : H Dn = none := s1.free hD
    refine k _ Hc (s1.trans sc) (.inl ⟨Dn, rfl, hHD, .lst hDc (rpre.anti fun a z => ?_)⟩)
    rcases z with z | z
    · rcases z with z | z
      · exact .inl (.inl z)
      · exact .inr z
    · exact .inl (.inr z)
theorem se_lc2 (hN : X.N.Nodup) (hi : SI X O st tg iter it) (ok : BlkOk X.N X.env.scope scope own) (hg : InBlk X scope fun Y => SG Y O O ts tg g) (ht : InBlk X scope fun Y => STs Y O ifs t) (hi1 : InBlk X scope fun Y => SI Y O true tg1 iter1 it1) (hg1 : InBlk X scope fun Y => SG Y O O us tg1 g1) (ht1 : InBlk X scope fun Y => STs Y O ifs1 t1) (he : InBlk X scope fun Y => SE Y O m elt f)
    (hm : m ≠ .w := by decide) (hv : vs1.all (fun i => (own.map (·.2)).contains i) = true := by rfl) (hts : ts.all (fun i => (own.map (·.2)).contains i) = true := by rfl) (hus : us.all (fun i => vs1.contains i) = true := by rfl) (hO : (own.map (·.2)).all (fun i => !O.contains i) = true := by rfl) (hc : X.calm = true := by rfl) (hs : ∀ x, foldedSetIterable iter X.env x = pure x := by intro _; rfl) (hs1 : ∀ env x, foldedSetIterable iter1 env x = pure x := by intro _ _; rfl) :
    SE X O .f (.ListComp elt [⟨tg, iter, ifs, 0⟩, ⟨tg1, iter1, ifs1, 0⟩] scope pos) (xLc2 it g t it1 g1 t1 f (own.map (·.2)) vs1) := by
  have hv' : ∀ i ∈ vs1, i ∈ own.map (·.2) := fun i hi => by simpa using List.all_eq_true.mp hv i hi
  have hO' : ∀ i ∈ own.map (·.2), i ∉ O := fun i hi => by simpa using List.all_eq_true.mp hO i hi
  exact ⟨pe_imp (pe_lc2 (wi := simI X.K O st it) (g := simG X.K O O ts g) (tt := simTT X.K O t) (wi1 := simI X.K O true it1) (g1 := simG X.K O O us g1) (tt1 := simTT X.K O t1) (te := simT X.K O m f) hc hN hi.pi ok hv' (fun s H C cl fp => (hg s H C cl fp).pg) (fun s H C cl fp => (ht s H C cl fp).pts) (fun s H C cl fp => (hi1 s H C cl fp).pi) (fun s H C cl fp => (hg1 s H C cl fp).pg) (fun s H C cl fp => (ht1 s H C cl fp).pts) (fun s H C cl fp => (he s H C cl fp).pe) hs hs1)
    (lc2_of hm (fun i hi => by simpa using List.all_eq_true.mp hts i (by simpa using hi)) (fun i hi => by simpa using List.all_eq_true.mp hus i (by simpa using hi)) hO' fun i hi => hO' i (hv' i hi))⟩
theorem ss_setLc2 (i : Nat) {y : Str} {py : Pos} {Ob Oc O' : List Nat} {spos : Pos} (hN : X.N.Nodup) (hi : SI X O st tg iter it) (ok : BlkOk X.N X.env.scope scope own) (hg : InBlk X scope fun Y => SG Y O O ts tg g) (ht : InBlk X scope fun Y => STs Y O ifs t) (hi1 : InBlk X scope fun Y => SI Y O true tg1 iter1 it1) (hg1 : InBlk X scope fun Y => SG Y O O us tg1 g1) (ht1 : InBlk X scope fun Y => STs Y O ifs1 t1) (he : InBlk X scope fun Y => SE Y O m elt f)
    (hm : m ≠ .w := by decide) (hy : X.N[i]? = some y := by rfl) (hyl : X.env.scope.names.lookup y = some .local := by rfl) (hsw : swapsWith (.ListComp elt [⟨tg, iter, ifs, 0⟩, ⟨tg1, iter1, ifs1, 0⟩] scope pos) (some (.Name y py)) spos.line X.env = pure true := by exact sw_true rfl rfl rfl (by decide +kernel))
    (hv : vs1.all (fun i => (own.map (·.2)).contains i) = true := by rfl) (hts : ts.all (fun i => (own.map (·.2)).contains i) = true := by rfl) (hus : us.all (fun i => vs1.contains i) = true := by rfl) (hO : (own.map (·.2)).all (fun i => !O.contains i) = true := by rfl) (hc : X.calm = true := by rfl) (hs : ∀ x, foldedSetIterable iter X.env x = pure x := by intro _; rfl) (hs1 : ∀ env x, foldedSetIterable iter1 env x = pure x := by intro _ _; rfl) (hO2 : i :: O = O' := by rfl) :
    SS X O Ob Oc O' (.Assign [.Name y py] (.ListComp elt [⟨tg, iter, ifs, 0⟩, ⟨tg1, iter1, ifs1, 0⟩] scope pos) spos) (sSet i (xLc2 it g t it1 g1 t1 f (own.map (·.2)) vs1)) := by
  subst hO2
  have hv' : ∀ i ∈ vs1, i ∈ own.map (·.2) := fun i hi => by simpa using List.all_eq_true.mp hv i hi
  have hO' : ∀ i ∈ own.map (·.2), i ∉ O := fun i hi => by simpa using List.all_eq_true.mp hO i hi
  refine ⟨ps_imp (ps_setLc2 (wi := simI X.K O st it) (g := simG X.K O O ts g) (tt := simTT X.K O t) (wi1 := simI X.K O true it1) (g1 := simG X.K O O us g1) (tt1 := simTT X.K O t1) (te := simT X.K O m f) hc hN hy hyl hsw hi.pi ok hv' (fun s H C cl fp => (hg s H C cl fp).pg) (fun s H C cl fp => (ht s H C cl fp).pts) (fun s H C cl fp => (hi1 s H C cl fp).pi) (fun s H C cl fp => (hg1 s H C cl fp).pg) (fun s H C cl fp => (ht1 s H C cl fp).pts) (fun s H C cl fp => (he s H C cl fp).pe) hs hs1) fun D σ H q => ?_⟩
  exact lc2_of hm (fun i hi => by simpa using List.all_eq_true.mp hts i (by simpa using hi)) (fun i hi => by simpa using List.all_eq_true.mp hus i (by simpa using hi)) hO' (fun i hi => hO' i (hv' i hi)) σ H _ (setf_of σ H q)
end
end Pm

namespace Pm
open PySem PySem.Spec PyProof.Rows L2

/-! ### dicts whose keys are ints -/
def isKeyI (i : Int) : D → Bool
  | .int j => j == i
  | _ => false
def dGetD (kd : List (D × D)) (i : Int) : Option D := (kd.find? fun p => isKeyI i p.1).map (·.2)
def dHasD (kd : List (D × D)) (i : Int) : Bool := kd.any fun p => isKeyI i p.1
def dPutD (kd : List (D × D)) (i : Int) (v : D) : List (D × D) := if dHasD kd i then kd.map (fun p => if isKeyI i p.1 then (p.1, v) else p) else kd ++ [(.int i, v)]
theorem keyD_is (k : Key) (i : Int) : isKeyI i (keyD k) = decide (k = Sum.inl i) := by
  cases k with
  | inl j =>
    simp only [keyD, isKeyI]
    by_cases h : j = i <;> simp [h]
  | inr s => simp [keyD, isKeyI]
section
variable {K : PySem.W.Frag} {A : Addr → Prop} {H : Hp}
theorem dget_some {i : Int} {d : D} : ∀ {ks : List (Key × V)} {ds : List D}, RpL K A H (ks.map (·.2)) ds → dGetD ((ks.map fun p => keyD p.1).zip ds) i = some d → ∃ v, valV ks (Sum.inl i) = some v ∧ Rp K A H v d
  | [], ds, r, e => by simp [dGetD] at e
  | (k, v) :: ks, ds, r, e => by
    cases r with
    | cons h r =>
      simp only [dGetD, List.map_cons, List.zip_cons_cons, List.find?_cons, keyD_is] at e
      by_cases hk : k = Sum.inl i
      · rw [decide_eq_true hk] at e
        cases e
        exact ⟨v, valV_pos hk, h⟩
      · rw [decide_eq_false hk] at e
        obtain ⟨w, e1, e2⟩ := dget_some r e
        exact ⟨w, by rw [valV_neg hk]; exact e1, e2⟩
theorem dhas_eq {i : Int} : ∀ {ks : List (Key × V)} {ds : List D}, RpL K A H (ks.map (·.2)) ds → dHasD ((ks.map fun p => keyD p.1).zip ds) i = (valV ks (Sum.inl i)).isSome
  | [], ds, r => by cases r; rfl
  | (k, v) :: ks, ds, r => by
    cases r with
    | cons h r =>
      simp only [dHasD, List.map_cons, List.zip_cons_cons, List.any_cons, keyD_is]
      by_cases hk : k = Sum.inl i
      · rw [decide_eq_true hk, valV_pos hk]
        rfl
      · rw [decide_eq_false hk, valV_neg hk, Bool.false_or]
        exact dhas_eq r
theorem dput_map {i : Int} {v : V} {d : D} (hv : Rp K A H v d) : ∀ {ks : List (Key × V)} {ds : List D}, RpL K A H (ks.map (·.2)) ds → ∃ ds', RpL K A H ((ks.map fun kv => if kv.1 = Sum.inl i then (kv.1, v) else kv).map (·.2)) ds' ∧
    ((ks.map fun p => keyD p.1).zip ds).map (fun p => if isKeyI i p.1 then (p.1, d) else p) = ((ks.map fun kv => if kv.1 = Sum.inl i then (kv.1, v) else kv).map fun p => keyD p.1).zip ds'
  | [], ds, r => by cases r; exact ⟨[], .nil, rfl⟩
  | (k, w) :: ks, ds, r => by
    cases r with
    | @cons _ _ d0 ds0 h r =>
      obtain ⟨ds', r', e⟩ := dput_map hv r
      simp only [List.map_cons, List.zip_cons_cons, keyD_is]
      by_cases hk : k = Sum.inl i
      · refine ⟨d :: ds', ?_, ?_⟩
        · rw [if_pos hk]; exact .cons hv r'
        · rw [if_pos hk, decide_eq_true hk, if_pos rfl, e]; rfl
      · refine ⟨d0 :: ds', ?_, ?_⟩
        · rw [if_neg hk]; exact .cons h r'
        · rw [if_neg hk, decide_eq_false hk, if_neg Bool.false_ne_true, e]; rfl
theorem dput_ok {i : Int} {v : V} {d : D} (hv : Rp K A H v d) {ks : List (Key × V)} {ds : List D} (r : RpL K A H (ks.map (·.2)) ds) : ∃ ds', RpL K A H ((putK ks (Sum.inl i) v).map (·.2)) ds' ∧
    dPutD ((ks.map fun p => keyD p.1).zip ds) i d = ((putK ks (Sum.inl i) v).map fun p => keyD p.1).zip ds' := by
  unfold dPutD putK
  rw [dhas_eq r, valV_any]
  by_cases hh : (valV ks (Sum.inl i)).isSome = true
  · rw [if_pos hh, if_pos hh]
    exact dput_map hv r
  · rw [if_neg hh, if_neg hh]
    refine ⟨ds ++ [d], ?_, ?_⟩
    · rw [List.map_append]
      exact RpL.app (.one hv) r
    · rw [List.map_append]
      have hl : (ks.map fun p => keyD p.1).length = ds.length := by
        have := r.length
        simpa using this
      rw [List.zip_append hl]
      rfl
/-- a value that stands for a dict -/
theorem WRp.dict {v : V} {kd : List (D × D)} (h : WRp K A H v (.dict kd)) (hs : ∀ xs, kd ≠ [(.none, .list xs)]) : ∃ a ks ds, v = .ref a ∧ H a = some (.dK ks) ∧ RpL K A H (ks.map (·.2)) ds ∧ kd = (ks.map fun p => keyD p.1).zip ds := by
  rcases h with h | ⟨a, e, h⟩
  · cases h with
    | scr h n r => exact absurd rfl (hs _)
    | kl h r => exact absurd rfl (hs _)
    | dic h n r e => exact ⟨_, _, _, rfl, h, r, e⟩
  · cases h with
    | dic h r z => exact ⟨_, _, _, e, h, r, z⟩
end
def oIxK : D → D → Option D
  | .dict kd, .int i => if (kd.any fun p => isNone p.1) then none else dGetD kd i
  | _, _ => none
def oInK : D → D → Option D
  | .int i, .dict kd => if (kd.any fun p => isNone p.1) then none else some (.bool (dHasD kd i))
  | _, _ => none
def oNotInK : D → D → Option D
  | .int i, .dict kd => if (kd.any fun p => isNone p.1) then none else some (.bool (!dHasD kd i))
  | _, _ => none
theorem no_scr {kd : List (D × D)} (h : ¬ (kd.any fun p => isNone p.1) = true) : ∀ xs, kd ≠ [(.none, .list xs)] := fun xs e => by
  subst e
  exact h rfl
section
variable {X : Cx} {O Ob Oc : List Nat} {m ma mb : Md} {k : Nat} {a b e : Expr} {fa fb f : Xp} {pos p1 p2 : Pos}
theorem hu1 {A : Around} (hr : Room k A) : A.units + 1 < cLine := by have := hr.un; omega
theorem se_new : SE X O .f (.Dict [] [] pos) (xC (.dict [])) := by
  refine ⟨pe_imp pe_dnewK fun σ H Q q => ?_⟩
  obtain ⟨H0, A0, G, ρ, B, d, S, e, k⟩ := q
  cases e
  exact fun p hp => k _ _ (same_upd hp) (.inl ⟨p, rfl, hp, .dic (ks := []) (ds := []) upd_same .nil rfl⟩)
theorem se_dget (hr : Room k X.A) (ha : SE X O ma a fa) (hb : SE X O mb b fb) (hs : NoSl b := by exact fun _ _ => rfl) : SE X O .s (.Subscript a b pos) (xBin oIxK fa fb) := by
  refine ⟨pe_imp (pe_dget (hu1 hr) ha.pe hb.pe hs) fun σ H Q q => ?_⟩
  obtain ⟨H0, A0, G, ρ, B, d, S, e, k⟩ := q
  obtain ⟨x, ex, e⟩ := bind2 e
  obtain ⟨y, ey, e⟩ := bind2 e
  refine ⟨H0, A0, G, ρ, B, x, S, ex, fun v H1 s1 r1 => ⟨H0, A0, G, ρ, B, y, S.mono s1, ey, fun u H2 s2 r2 => ?_⟩⟩
  unfold oIxK at e
  split at e
  · split at e
    · cases e
    · rename_i hn
      obtain ⟨t, ks, ds, rfl, ht, rt, ek⟩ := (r1.toW.mono s2).dict (no_scr hn)
      rw [ek] at e
      obtain ⟨w, ew, rw'⟩ := dget_some rt e
      exact ⟨t, w, rfl, by rw [← ew, r2.toW.int]; exact DGet.k (k := Sum.inl _) ht, k _ H2 (s1.trans s2) rw'⟩
  · cases e
theorem se_dset_dummy : True := trivial
theorem tIn_of {g : D → D → Option D} (σ : L2.St) (H : Hp) (Q : VK) (hg : ∀ x y z, g x y = some z → ∃ i kd, x = .int i ∧ y = .dict kd ∧ ¬ (kd.any fun p => isNone p.1) = true ∧ z = .bool (dHasD kd i)) (q : simT X.K O .f (xBin g fa fb) σ H Q) : tDIn (simT X.K O ma fa) (simT X.K O mb fb) σ H Q := by
  obtain ⟨H0, A0, G, ρ, B, d, S, e, k⟩ := q
  obtain ⟨x, ex, e⟩ := bind2 e
  obtain ⟨y, ey, e⟩ := bind2 e
  obtain ⟨i, kd, rfl, rfl, hn, rfl⟩ := hg _ _ _ e
  refine ⟨H0, A0, G, ρ, B, _, S, ex, fun v H1 s1 r1 => ⟨H0, A0, G, ρ, B, _, S.mono s1, ey, fun u H2 s2 r2 => ?_⟩⟩
  obtain ⟨t, ks, ds, rfl, ht, rt, ek⟩ := r2.toW.dict (no_scr hn)
  refine ⟨t, valV ks (Sum.inl i), rfl, by rw [r1.toW.int]; exact DGet.k (k := Sum.inl _) ht, k _ H2 (s1.trans s2) ?_⟩
  rw [ek, dhas_eq rt]
  exact Res.bl
theorem tNotIn_of {g : D → D → Option D} (σ : L2.St) (H : Hp) (Q : VK) (hg : ∀ x y z, g x y = some z → ∃ i kd, x = .int i ∧ y = .dict kd ∧ ¬ (kd.any fun p => isNone p.1) = true ∧ z = .bool (!dHasD kd i)) (q : simT X.K O .f (xBin g fa fb) σ H Q) : tDNotIn (simT X.K O ma fa) (simT X.K O mb fb) σ H Q := by
  obtain ⟨H0, A0, G, ρ, B, d, S, e, k⟩ := q
  obtain ⟨x, ex, e⟩ := bind2 e
  obtain ⟨y, ey, e⟩ := bind2 e
  obtain ⟨i, kd, rfl, rfl, hn, rfl⟩ := hg _ _ _ e
  refine ⟨H0, A0, G, ρ, B, _, S, ex, fun v H1 s1 r1 => ⟨H0, A0, G, ρ, B, _, S.mono s1, ey, fun u H2 s2 r2 => ?_⟩⟩
  obtain ⟨t, ks, ds, rfl, ht, rt, ek⟩ := r2.toW.dict (no_scr hn)
  refine ⟨t, valV ks (Sum.inl i), rfl, by rw [r1.toW.int]; exact DGet.k (k := Sum.inl _) ht, k _ H2 (s1.trans s2) ?_⟩
  rw [ek, dhas_eq rt]
  exact Res.bl
theorem inK_shape {x y z : D} (h : oInK x y = some z) : ∃ i kd, x = .int i ∧ y = .dict kd ∧ ¬ (kd.any fun p => isNone p.1) = true ∧ z = .bool (dHasD kd i) := by
  unfold oInK at h
  split at h
  · split at h
    · cases h
    · rename_i hn
      cases h
      exact ⟨_, _, rfl, rfl, hn, rfl⟩
  · cases h
theorem notInK_shape {x y z : D} (h : oNotInK x y = some z) : ∃ i kd, x = .int i ∧ y = .dict kd ∧ ¬ (kd.any fun p => isNone p.1) = true ∧ z = .bool (!dHasD kd i) := by
  unfold oNotInK at h
  split at h
  · split at h
    · cases h
    · rename_i hn
      cases h
      exact ⟨_, _, rfl, rfl, hn, rfl⟩
  · cases h
theorem se_din (hr : Room k X.A) (ha : SE X O ma a fa) (hb : SE X O mb b fb) (hm : behindInMarks .In b = false := by rfl) : SE X O .f (.Compare a [.In] [b] pos) (xBin oInK fa fb) := ⟨pe_imp (pe_cmp (pc_din (hu1 hr) ha.pe hb.pe) hm) fun σ H Q q => tIn_of σ H Q (fun _ _ _ => inK_shape) q⟩
theorem se_dnotin (hr : Room k X.A) (ha : SE X O ma a fa) (hb : SE X O mb b fb) (hm : behindInMarks .NotIn b = false := by rfl) : SE X O .f (.Compare a [.NotIn] [b] pos) (xBin oNotInK fa fb) := ⟨pe_imp (pe_cmp (pc_dnotin (hu1 hr) ha.pe hb.pe) hm) fun σ H Q q => tNotIn_of σ H Q (fun _ _ _ => notInK_shape) q⟩
theorem tB_of {g : D → D → Option D} {t : TE} (σ : L2.St) (H : Hp) (Q : Bool → Hp → Prop) (ht : ∀ Q, simT X.K O .f (xBin g fa fb) σ H Q → t σ H Q) (q : simTT X.K O (tOf (xBin g fa fb)) σ H Q) : tB t σ H Q := by
  obtain ⟨H0, A0, G, ρ, B, b, S, e, k⟩ := q
  obtain ⟨d, ed, e⟩ := bind2 e
  have := dB_some e
  subst this
  exact ht _ ⟨H0, A0, G, ρ, B, _, S, ed, fun v H' s r => ⟨b, r.toW.bl, k H' s⟩⟩
theorem st_din (hr : Room k X.A) (ha : SE X O ma a fa) (hb : SE X O mb b fb) (hm : behindInMarks .In b = false := by rfl) : ST X O (.Compare a [.In] [b] pos) (tOf (xBin oInK fa fb)) := ⟨pt_imp (pt_cmp (pc_din (hu1 hr) ha.pe hb.pe) hm) fun σ H Q q => tB_of σ H Q (fun Q q => tIn_of σ H Q (fun _ _ _ => inK_shape) q) q⟩
theorem st_dnotin (hr : Room k X.A) (ha : SE X O ma a fa) (hb : SE X O mb b fb) (hm : behindInMarks .NotIn b = false := by rfl) : ST X O (.Compare a [.NotIn] [b] pos) (tOf (xBin oNotInK fa fb)) := ⟨pt_imp (pt_cmp (pc_dnotin (hu1 hr) ha.pe hb.pe) hm) fun σ H Q q => tB_of σ H Q (fun Q q => tNotIn_of σ H Q (fun _ _ _ => notInK_shape) q) q⟩
/-- x[j] = e, a dict -/
def sPutK (i : Nat) (fj f : Xp) : XS := fun ρ => (f ρ).bind fun y => (xVar i ρ).bind fun x => (fj ρ).bind fun j => match x, j with
  | .dict kd, .int j => if kd.length < 16777216 ∧ i < ρ.length then some (.nx (ρ.set i (some (.dict (dPutD kd j y))))) else none
  | _, _ => none
theorem ownK_of {K : PySem.W.Frag} {H0 H : Hp} {A0 : Addr → Prop} {G : List (V × D)} {σ : L2.St} {ρ : PEnv} {B : Nat → Option Addr} {i : Nat} {kd : List (D × D)} (S : Sim K H0 A0 G O σ H ρ B) (hi : O.contains i = true) (e : xVar i ρ = some (.dict kd)) : ∃ a ks ds, B i = some a ∧ σ[i]? = some (some (.ref a)) ∧ H a = some (.dK ks) ∧ RpL K (Av A0 B) H (ks.map (·.2)) ds ∧ kd = (ks.map fun p => keyD p.1).zip ds := by
  obtain ⟨a, h1, h2, h3⟩ := S.ob i _ (by simpa using hi) (getD_some e) rfl
  cases h3 with
  | dic h r z => exact ⟨a, _, _, h1, h2, h, r, z⟩
theorem ss_putK (i : Nat) {x : Str} {j : Expr} {fj : Xp} (hr : Room k X.A) (he : SE X O m e f) (hj : SE X O mb j fj) (hm : m ≠ .w := by decide) (hO : O.contains i = true := by rfl) (hN : X.N[i]? = some x := by rfl) (hv : Vis X.env.scope x := by first | exact Or.inl rfl | exact Or.inr (Or.inl rfl) | exact Or.inr (Or.inr rfl))
    (hd : (x == ("__debug__" : Str)) = false := by decide) (hcd : (x == ("__classdict__" : Str)) = false := by decide) (hs : swapsWith e (some (.Subscript (.Name x p1) j p2)) pos.line X.env = pure false := by rfl) : SS X O Ob Oc O (.Assign [.Subscript (.Name x p1) j p2] e pos) (sPutK i fj f) := by
  refine ⟨ps_imp (ps_dput (hu1 hr) (pe_var hN hv hd hcd) hj.pe he.pe hs) fun D σ H q => ?_⟩
  obtain ⟨H0, A0, G, ρ, B, o, S, e, k⟩ := q
  obtain ⟨y, ey, e⟩ := bind2 e
  obtain ⟨d, ed, e⟩ := bind2 e
  obtain ⟨z, ez, e⟩ := bind2 e
  split at e
  · split at e
    · rename_i hz
      cases e
      obtain ⟨a, ks, ds, hB, hσ, ha, ra, ek⟩ := ownK_of S hO ed
      refine ⟨H0, A0, G, ρ, B, y, S, ey, fun v H1 s1 r1 => ⟨.ref a, hσ, H0, A0, G, ρ, B, _, S.mono s1, ez, fun u H2 s2 r2 => ?_⟩⟩
      have s12 := s1.trans s2
      have S1 := S.mono s12
      have av : Av A0 B a := .inr ⟨i, hB⟩
      have hlen : ks.length < sizeLine := by
        have e1 : ks.length = ds.length := by simpa using ra.length
        have e2 := hz.1
        rw [ek, List.length_zip, List.length_map, e1, Nat.min_self] at e2
        rw [e1]
        exact e2
      obtain ⟨ds', r', e'⟩ := dput_ok (i := _) ((r1.toS S.tr hm).mono s2) (ra.mono s12)
      refine ⟨a, _, rfl, by rw [r2.toW.int]; exact DPut.k (k := Sum.inl _) (s12 _ _ ha) hlen, ?_⟩
      rw [ek] at k
      refine k _ _ B (S1.write hB hσ (.dic upd_same (r'.step (fun b o e n => ?_) fun _ z => .inl z) e') hz.2)
      rw [upd_ne (fun z => n (by rw [z]; exact av))]
      exact e
    · cases e
  · cases e

/-! ### the least and the greatest of ints -/
def bMinI : List D → Option D
  | [x] => (seqD x).bind fun xs => (asInts xs).bind fun ns => ns.min?.map .int
  | _ => none
def bMaxI : List D → Option D
  | [x] => (seqD x).bind fun xs => (asInts xs).bind fun ns => ns.max?.map .int
  | _ => none
theorem cb_minI (hc : X.calm = true := by rfl) : CallR X (.builtin "min") (rC X.K .f bMinI) := by
  intro pins s σ H vs us Q I r ⟨A, ds, d, tr, w, e, q⟩
  unfold bMinI at e
  split at e
  · obtain ⟨v, rfl, w1⟩ := p1 w
    obtain ⟨xs, e1, e⟩ := bind2 e
    obtain ⟨ns, e2, e⟩ := bind2 e
    obtain ⟨mn, e3, e⟩ := Option.map_eq_some_iff.mp e
    subst e
    obtain ⟨a, vs, rfl, ha, ra⟩ := w1.seq e1
    rw [ref1 r]
    have hv := ra.ints e2
    subst hv
    refine call_min_walk (sq_iter (show X.A.in1.handled = none from I.ok.hd hc) I ha fun its J fp wr St h₂ rv W st hfp kp => ?_)
    have hl := rv.length
    rw [List.length_map] at hl
    have hne : 0 < ns.length := by
      cases ns with
      | nil => simp at e3
      | cons _ _ => simp
    refine ⟨_, _, _, _, _, _, _, rfl, W, st, hfp, by omega, CmpOf.ints_lt (fun i => ns.getD i 0) (fun i v h => intsAt rv i v h), fun v h' tk hv hk => ?_⟩
    obtain ⟨t, rfl⟩ := intsAt rv _ _ hv
    obtain ⟨b1, b2⟩ := argBest_lt (fun i => ns.getD i 0) (its.length - 1)
    refine ⟨.int mn, H, I.kept (kp h' hk), ⟨t, ?_⟩, q _ H (Same.refl H) Res.int⟩
    congr 1
    rw [List.min?_eq_some_iff] at e3
    refine Int.le_antisymm ?_ ?_
    · obtain ⟨i, hi, e4⟩ := List.mem_iff_getElem.mp e3.1
      have := b2 i (by omega)
      simp only [List.getD_eq_getElem?_getD, List.getElem?_eq_getElem hi, Option.getD_some] at this
      rw [e4] at this
      simpa [List.getD_eq_getElem?_getD] using this
    · have hb : argBest (fun i j => decide (ns.getD i 0 < ns.getD j 0)) (its.length - 1) < ns.length := by
        have h1 : argBest (fun i j => decide (ns.getD i 0 < ns.getD j 0)) (its.length - 1) ≤ its.length - 1 := b1
        omega
      exact e3.2 _ (by rw [List.getD_eq_getElem?_getD, List.getElem?_eq_getElem hb]; exact List.getElem_mem hb)
  · cases e
end
end Pm

namespace Pm
open PySem PySem.Spec PyProof.Rows L2
/-! ### a def behind the top -/
abbrev FnP (K : PySem.W.Frag) (x : Str) (st : Stmt) (f : Addr) (fd : FuncData) : Prop := FunD K x x (defArgs st) (defBody st) (defScope st) [] [] f fd
theorem fnp_ok {P : Program} {w : World} {K : PySem.W.Frag} {mg : Str → Option Value} {base : Heap} {x : Str} {st : Stmt} {f : Addr} {fd : FuncData} {N ps : List Str} {k : Nat} {O' : List Nat} {g : XS} (F : FnP K x st f fd) (S : FnScope N ps (defScope st))
    (hb : ∀ (cdv : Value) (A : Around) (outer : List Env) (s : Shared) (H : Hp) (E : XK), Room k (A.deeper (envOfC x (defScope st) s.heap.objs.size f cdv)) → SSs (cxOf CX0 P w K mg base N x (defScope st) f cdv A outer s H E).nox [] [] [] O' (defBody st) g) :
    FnOk P w K mg base CX0 (k + 1) f fd ps (spD K ps.length (runD ps.length N.length g)) := by
  refine F.ok S (fun vs H Q E h => ?_) (fun cdv A outer s H vs Q E hr h => ?_)
  · obtain ⟨A, ds, d, t, hn, _⟩ := h
    exact hn
  · obtain ⟨A', ds, d, t, hn, r, e, q⟩ := h
    obtain ⟨o, eo, e⟩ := bind2 e
    refine ⟨_, PSs.nox (hb cdv A outer s H E hr).pss, H, A', [], _, fun _ => none, o, sim_start t r hn, eo, ?_⟩
    cases o with
    | nx ρ => cases e; exact fun σ' H' B' S' => q .non H' S'.same .non
    | rt d' => cases e; exact fun v H' s' r' => q v H' s' r'
    | bk ρ => cases e
    | ct ρ => cases e
/-- a def that is never called keeps every promise -/
theorem fn_none {P : Program} {w : World} {K : PySem.W.Frag} {mg : Str → Option Value} {base : Heap} {x : Str} {st : Stmt} {f : Addr} {fd : FuncData} {N ps : List Str} {k : Nat} (F : FnP K x st f fd) (S : FnScope N ps (defScope st)) : FnOk P w K mg base CX0 (k + 1) f fd ps (spD K ps.length fun _ => none) := by
  refine F.ok S (fun vs H Q E h => ?_) (fun cdv A outer s H vs Q E hr h => ?_)
  · obtain ⟨A, ds, d, t, hn, _⟩ := h
    exact hn
  · obtain ⟨A', ds, d, t, hn, r, e, q⟩ := h
    cases e
theorem rpl_ints {K : PySem.W.Frag} {A : Addr → Prop} {H : Hp} : ∀ ns : List Int, RpL K A H (ns.map V.int) (ns.map PyData.int)
  | [] => .nil
  | n :: ns => .cons (.int n) (rpl_ints ns)
/-- what the end asks of the law's def -/
theorem sp_law {K : PySem.W.Frag} {F : List D → Option D} {n : Nat} (hF : ∀ ns : List Int, ns.length ≤ n → F [scr (ns.map PyData.int)] = some (.bool true)) (H : Hp) (a : Addr) (ns : List Int) (hl : ns.length ≤ n) (_ : Only H) (hS : SqL K H a (ns.map V.int)) :
    spD K 1 F [.ref a] H (fun v _ => v = .bl true) fun _ _ _ => False := by
  refine ⟨fun _ => False, [scr (ns.map PyData.int)], .bool true, fun _ z => z.elim, rfl, .cons ?_ .nil, hF ns hl, fun v H' s r => ?_⟩
  · rcases hS with h | h
    · exact .scr h id (rpl_ints ns)
    · exact .kl h (rpl_ints ns)
  · cases r
    rfl
end Pm

/-! Pm: ranges laid out at once. -/
namespace Pm
open PySem PySem.Spec PyProof.Rows L2
def oRgT (lo hi : Int) : Option (List D) := if -(2 ^ 62) ≤ lo ∧ lo < 2 ^ 62 ∧ -(2 ^ 62) ≤ hi ∧ hi < 2 ^ 62 ∧ (hi - lo).toNat ≤ 2 ^ 24 then some (rangeD lo 1 (hi - lo).toNat) else none
def oTupR1 : D → Option D
  | .int n => (oRgT 0 n).map .tuple
  | _ => none
def oLstR1 : D → Option D
  | .int n => (oRgT 0 n).map .list
  | _ => none
def oTupR2 : D → D → Option D
  | .int a, .int n => (oRgT a n).map .tuple
  | _, _ => none
def oLstR2 : D → D → Option D
  | .int a, .int n => (oRgT a n).map .list
  | _, _ => none
theorem rpl_rg {K : PySem.W.Frag} {A : Addr → Prop} {H : Hp} (a b : Int) : RpL K A H (rgV a b) (rangeD a 1 (b - a).toNat) := by
  unfold rgV rangeD
  induction List.range (b - a).toNat with
  | nil => exact .nil
  | cons i r ih =>
    refine .cons ?_ ih
    have e : a + (i : Nat) * 1 = a + (i : Nat) := by rw [Int.mul_one]
    show Rp K A H (V.int (a + (i : Nat))) (PyData.int (a + (i : Nat) * 1))
    rw [e]
    exact .int _
section
variable {X : Cx} {O : List Nat} {m m' : Md} {a b : Expr} {fa fb : Xp} {p p2 pos pos2 : Pos}
theorem se_tupR1 (h1 : X.mg "tuple" = none) (h2 : X.mg "range" = none) (ha : SE X O m a fa) (hc : X.calm = true := by rfl) (hg : L2.Gl X "tuple" := by rfl) (hg2 : L2.Gl X "range" := by rfl) (na : starEach [a] X.env = (false, eval a X.env) :: starEach [] X.env := by rfl)
    (na2 : starEach [Expr.Call (.Name "range" p) [a] [] pos] X.env = (false, eval (Expr.Call (.Name "range" p) [a] [] pos) X.env) :: starEach [] X.env := by rfl) : SE X O .f (.Call (.Name "tuple" p2) [.Call (.Name "range" p) [a] [] pos] [] pos2) (xUn oTupR1 fa) := by
  refine ⟨pe_imp (pe_tupRg hc hg h1 (prg_1 hg2 h2 ha.pe na) na2) fun σ H Q q => ?_⟩
  obtain ⟨H0, A0, G, ρ, B, d, S, e, k⟩ := q
  obtain ⟨y, ey, e⟩ := bind2 e
  refine ⟨H0, A0, G, ρ, B, y, S, ey, fun v H1 s1 r1 => ?_⟩
  unfold oTupR1 at e
  split at e
  · obtain ⟨ds, e1, e⟩ := Option.map_eq_some_iff.mp e
    subst e
    unfold oRgT at e1
    split at e1
    · rename_i hz
      cases e1
      exact ⟨_, r1.toW.int, ⟨hz.1, hz.2.1, hz.2.2.1, hz.2.2.2.1, hz.2.2.2.2⟩, fun q hq => k _ _ (s1.trans (same_upd hq)) (Res.flat (Rp.newT (S.mono s1).tr hq (rpl_rg _ _)) rfl)⟩
    · cases e1
  · cases e
theorem se_lstR1 (h1 : X.mg "list" = none) (h2 : X.mg "range" = none) (ha : SE X O m a fa) (hc : X.calm = true := by rfl) (hg : L2.Gl X "list" := by rfl) (hg2 : L2.Gl X "range" := by rfl) (na : starEach [a] X.env = (false, eval a X.env) :: starEach [] X.env := by rfl)
    (na2 : starEach [Expr.Call (.Name "range" p) [a] [] pos] X.env = (false, eval (Expr.Call (.Name "range" p) [a] [] pos) X.env) :: starEach [] X.env := by rfl) : SE X O .f (.Call (.Name "list" p2) [.Call (.Name "range" p) [a] [] pos] [] pos2) (xUn oLstR1 fa) := by
  refine ⟨pe_imp (pe_listRg hc hg h1 (prg_1 hg2 h2 ha.pe na) na2) fun σ H Q q => ?_⟩
  obtain ⟨H0, A0, G, ρ, B, d, S, e, k⟩ := q
  obtain ⟨y, ey, e⟩ := bind2 e
  refine ⟨H0, A0, G, ρ, B, y, S, ey, fun v H1 s1 r1 => ?_⟩
  unfold oLstR1 at e
  split at e
  · obtain ⟨ds, e1, e⟩ := Option.map_eq_some_iff.mp e
    subst e
    unfold oRgT at e1
    split at e1
    · rename_i hz
      cases e1
      exact ⟨_, r1.toW.int, ⟨hz.1, hz.2.1, hz.2.2.1, hz.2.2.2.1, hz.2.2.2.2⟩, fun q hq => k _ _ (s1.trans (same_upd hq)) (Res.newL (S.mono s1).tr hq (rpl_rg _ _) s1)⟩
    · cases e1
  · cases e
end
section
variable {X : Cx} {O : List Nat} {e : Expr} {es : List Expr} {fs : XL} {pos p : Pos} {k j : Nat} {x : Str} {ps : List Str} {F : List D → Option D} {P : Program} {w : World} {K : PySem.W.Frag} {mg : Str → Option Value} {base : Heap} {A : Around}
/-- a call of a def of the text, the context's parts by name -/
theorem se_callD (hd : Def P w K mg base k x ps F) (hr : Room j A) (ha : SA X O true (e :: es) fs) (hk : k ≤ j := by decide) (hX : X.prog = P ∧ X.w = w ∧ X.K = K ∧ X.mg = mg ∧ X.base = base ∧ X.A = A := by exact ⟨rfl, rfl, rfl, rfl, rfl, rfl⟩) (hl : (e :: es).length = ps.length := by rfl) (hg : L2.Gl X x := by rfl) (hdb : (x == ("__debug__" : Str)) = false := by decide)
    (he : starEach (e :: es) X.env = (false, eval e X.env) :: starEach es X.env := by rfl) (hpl : (backTo pos (starEach es X.env)).any (·.1) = false := by rfl) : SE X O .s (.Call (.Name x p) (e :: es) [] pos) (xCall (fun ds => if ds.length = ps.length then F ds else none) fs) := by
  obtain ⟨rfl, rfl, rfl, rfl, rfl, rfl⟩ := hX
  exact se_call hd hr ha hk hl hg hdb he hpl
theorem se_callWD (hd : Def P w K mg base k x ps F) (hr : Room j A) (ha : SA X O false (e :: es) fs) (hk : k ≤ j := by decide) (hX : X.prog = P ∧ X.w = w ∧ X.K = K ∧ X.mg = mg ∧ X.base = base ∧ X.A = A := by exact ⟨rfl, rfl, rfl, rfl, rfl, rfl⟩) (hg : L2.Gl X x := by rfl) (hdb : (x == ("__debug__" : Str)) = false := by decide)
    (he : starEach (e :: es) X.env = (false, eval e X.env) :: starEach es X.env := by rfl) (hpl : (backTo pos (starEach es X.env)).any (·.1) = false := by rfl) : SE X O .f (.Call (.Name x p) (e :: es) [] pos) (xCall (fun ds => if ds.length = ps.length then (F ds).bind fun d => if flat d then some d else none else none) fs) := by
  obtain ⟨rfl, rfl, rfl, rfl, rfl, rfl⟩ := hX
  exact se_callW hd hr ha hk hg hdb he hpl
end
end Pm

/-! Pm: a tuple taken once. -/
namespace Pm
open PySem PySem.Spec PyProof.Rows L2
theorem tuple_mul1 (l : Addr) (items : Array Value) (n : Nat) (dd : Option Addr) (sl : Array (Option Value)) (x : Int) (u : Tok) (c0 : (decide (x < -(2 ^ 63)) || decide (x ≥ 2 ^ 63)) = false) (c1 : (items.isEmpty || x == 1) = true) :
    Meets (Builtin.«tuple.__mul__» ⟨[.ref l, .int x u], []⟩) (fun _ R s => s.heap.get? l = some { cls := .type "tuple", dict := dd, data := .seq items n, slots := sl } ∧
      R (.ok (.ret (Value.ref l))) s) :=
  .of_wp fun prog w A R s h => by
    obtain ⟨hp, g, d, tk, os⟩ := s
    obtain ⟨hl, h⟩ := h
    have f1 := AutoSeq1.idx_int
    wp_walk using wpAny_loadPart' hl
    repeat (first
      | (refine wpAny_ite_false (decide_eq_false (by rw [c0]; exact Bool.false_ne_true)) ?_; wp_walk using wpAny_loadPart' hl)
      | (refine wpAny_ite_true (decide_eq_true c1) ?_; wp_walk using wpAny_loadPart' hl))
    exact ⟨_, rfl, h⟩
theorem tuple_mul0 (l : Addr) (items : Array Value) (n : Nat) (dd : Option Addr) (sl : Array (Option Value)) (x : Int) (u : Tok) (c0 : (decide (x < -(2 ^ 63)) || decide (x ≥ 2 ^ 63)) = false) (c1 : (items.isEmpty || x == 1) = false) (c2 : (decide (x ≤ 0) || items.isEmpty) = true) :
    Meets (Builtin.«tuple.__mul__» ⟨[.ref l, .int x u], []⟩) (fun _ R s => s.heap.get? l = some { cls := .type "tuple", dict := dd, data := .seq items n, slots := sl } ∧
      R (.ok (.ret (Value.ref s.heap.objs.size))) { s with heap := s.heap.push { cls := Value.type "tuple", data := Data.seq #[] }, toks := s.toks }) :=
  .of_wp fun prog w A R s h => by
    obtain ⟨hp, g, d, tk, os⟩ := s
    obtain ⟨hl, h⟩ := h
    have f1 := AutoSeq1.idx_int
    wp_walk using wpAny_loadPart' hl
    repeat (first
      | (refine wpAny_ite_false (decide_eq_false (by rw [c0]; exact Bool.false_ne_true)) ?_; wp_walk using wpAny_loadPart' hl)
      | (refine wpAny_ite_false (decide_eq_false (by rw [c1]; exact Bool.false_ne_true)) ?_; wp_walk using wpAny_loadPart' hl)
      | (refine wpAny_ite_true (decide_eq_true c2) ?_; wp_walk using wpAny_loadPart' hl))
    exact ⟨_, rfl, h⟩
def rRepS (K : PySem.W.Frag) : R2 := fun x y H Q => ∃ l k xs, x = .ref l ∧ y = .int k ∧ SqT K H l xs ∧ -(2 ^ 62) ≤ k ∧ k ≤ 1000 ∧ (xs = [] ∨ k = 1) ∧ Q (.ref l) H
def rRep0 (K : PySem.W.Frag) : R2 := fun x y H Q => ∃ l k xs, x = .ref l ∧ y = .int k ∧ SqT K H l xs ∧ -(2 ^ 62) ≤ k ∧ k ≤ 0 ∧ xs ≠ [] ∧ ∀ p, H p = none → Q (.ref p) (upd H p (.tup []))
section
variable {X : Cx}
theorem op_repS : OpR X (binaryOp .Mult) (rRepS X.K) := by
  intro pins s σ H x y v u Q I rx ry h
  obtain ⟨l, k, xs, rfl, rfl, hT, h1, h2, hz, q⟩ := h
  cases rx
  obtain ⟨t, rfl⟩ := ry
  obtain ⟨its, r, ⟨⟨cls, dd, data, sl⟩, ho, hc, n, hd⟩, hs⟩ := I.tuple hT
  simp only at hc hd
  subst hc hd
  have c0 : (decide (k < -(2 ^ 63)) || decide (k ≥ 2 ^ 63)) = false := by
    rw [decide_eq_false (by omega), decide_eq_false (by omega)] <;> rfl
  have c1 : (its.toArray.isEmpty || k == 1) = true := by
    rcases hz with hz | hz
    · subst hz
      cases r
      rfl
    · rw [hz, Bool.or_eq_true]
      exact .inr rfl
  exact wpAny_binaryOp_repeat_ref (T := "tuple") (U := "int") (by decide) ⟨_, ho, rfl⟩ (fun s' => typeIs_int s' k t) noFill_tuple_mul F.fills_int_mul F.slot_int_rmul repeat_tuple F.slot_int_index.lookup
    (call_meets F.slot_int_rmul (typeIs_int s k t) F.entry_int_rmul (F.args_int_rmul_2 _ _) (int_rmul_tuple k t l its.toArray n dd sl)
      ⟨ho, rfl, ⟨_, ho, rfl⟩, call_meets F.slot_tuple_mul ⟨_, ho, rfl⟩ F.entry_tuple_mul (F.args_tuple_mul_2 _ _) (tuple_mul1 l its.toArray n dd sl k t c0 c1) ⟨ho, ⟨.ref l, H, I, rfl, q⟩⟩⟩)
theorem op_rep0 : OpR X (binaryOp .Mult) (rRep0 X.K) := by
  intro pins s σ H x y v u Q I rx ry h
  obtain ⟨l, k, xs, rfl, rfl, hT, h1, h2, hz, q⟩ := h
  cases rx
  obtain ⟨t, rfl⟩ := ry
  obtain ⟨its, r, ⟨⟨cls, dd, data, sl⟩, ho, hc, n, hd⟩, hs⟩ := I.tuple hT
  simp only at hc hd
  subst hc hd
  have c0 : (decide (k < -(2 ^ 63)) || decide (k ≥ 2 ^ 63)) = false := by
    rw [decide_eq_false (by omega), decide_eq_false (by omega)] <;> rfl
  have hi : its.toArray.isEmpty = false := by
    cases r with
    | nil => exact absurd rfl hz
    | cons => rfl
  have c1 : (its.toArray.isEmpty || k == 1) = false := by
    rw [hi, Bool.false_or]
    exact beq_eq_false_iff_ne.mpr (by omega)
  have c2 : (decide (k ≤ 0) || its.toArray.isEmpty) = true := by
    rw [decide_eq_true h2, Bool.true_or]
  refine wpAny_binaryOp_repeat_ref (T := "tuple") (U := "int") (by decide) ⟨_, ho, rfl⟩ (fun s' => typeIs_int s' k t) noFill_tuple_mul F.fills_int_mul F.slot_int_rmul repeat_tuple F.slot_int_index.lookup
    (call_meets F.slot_int_rmul (typeIs_int s k t) F.entry_int_rmul (F.args_int_rmul_2 _ _) (int_rmul_tuple k t l its.toArray n dd sl)
      ⟨ho, rfl, ⟨_, ho, rfl⟩, call_meets F.slot_tuple_mul ⟨_, ho, rfl⟩ F.entry_tuple_mul (F.args_tuple_mul_2 _ _) (tuple_mul0 l its.toArray n dd sl k t c0 c1 c2) ⟨ho, ?_⟩⟩)
  refine ⟨.ref s.heap.objs.size, _, I.laid (t' := s.toks) (o := .tup []) (fun b ob q => Heap.get?_push_of_some _ q) (Nat.le_refl _) ?_, rfl, q _ (I.hok.fresh (Nat.le_refl _))⟩
  exact ⟨Nat.zero_le _, [], .nil, IsTup.new _ _⟩
end
/-- the product, tuples any number of times -/
def oMul' : D → D → Option D
  | .tuple a, .int k => if -(2 ^ 62) ≤ k ∧ k ≤ 1000 ∧ a.length ≤ 1000 then some (.tuple (List.replicate k.toNat a).flatten) else none
  | x, y => oMul x y
theorem op_mulD' {X : Cx} : OpR X (binaryOp .Mult) (rD X.K .f oMul') := by
  intro pins s σ H x y v u Q I rx ry h
  obtain ⟨A, dx, dy, d, tr, wx, wy, e, q⟩ := id h
  unfold oMul' at e
  split at e
  · rename_i a k
    split at e
    · rename_i hz
      cases e
      obtain ⟨l, xs, rfl, ha, na, ra⟩ := wx.tup
      by_cases h1 : xs = [] ∨ k = 1
      · refine op_repS pins s σ H _ _ v u Q I rx ry ⟨l, k, xs, rfl, wy.int, .of ha, hz.1, hz.2.1, h1, ?_⟩
        have e : (List.replicate k.toNat a).flatten = a := by
          rcases h1 with h1 | h1
          · subst h1
            cases ra
            simp
          · subst h1
            simp
        rw [e] at q
        exact q _ H (Same.refl H) (Res.flat (.tup ha na ra) rfl)
      · have h2 : xs ≠ [] := fun z => h1 (.inl z)
        by_cases h3 : k ≤ 0
        · refine op_rep0 pins s σ H _ _ v u Q I rx ry ⟨l, k, xs, rfl, wy.int, .of ha, hz.1, h3, h2, fun p hp => ?_⟩
          have e : (List.replicate k.toNat a).flatten = [] := by
            rw [Int.toNat_of_nonpos h3]
            rfl
          rw [e] at q
          exact q _ _ (same_upd hp) (Res.flat (Rp.newT tr hp .nil) rfl)
        · have h4 : k ≠ 1 := fun z => h1 (.inr z)
          exact op_repT pins s σ H _ _ v u Q I rx ry ⟨l, k, xs, rfl, wy.int, .of ha, h2, by omega, hz.2.1, by rw [ra.length]; exact hz.2.2, fun p hp => q _ _ (same_upd hp) (Res.flat (Rp.newT tr hp (ra.rep _)) rfl)⟩
    · cases e
  · exact op_mulD pins s σ H x y v u Q I rx ry ⟨A, dx, dy, d, tr, wx, wy, e, q⟩
end Pm

/-! Pm: plain facts for reading the printed functions. -/
namespace Pm
open PySem PySem.Spec PyProof.Rows L2
/-! ### loops -/
theorem whileF_succ (c : PEnv → Option Bool) (b : XS) (n : Nat) (ρ : PEnv) : whileF c b (n + 1) ρ = (c ρ).bind fun t => if t then (b ρ).bind fun o => match o with
      | .nx ρ2 => whileF c b n ρ2
      | .ct ρ2 => whileF c b n ρ2
      | .bk ρ2 => some (.nx ρ2)
      | .rt d => some (.rt d)
    else some (.nx ρ) := rfl
/-- a loop that goes on n turns and ends -/
theorem whileF_run {c : PEnv → Option Bool} {b : XS} {f : Nat → PEnv} {n N : Nat} (hN : n < N) (ht : ∀ i, i < n → c (f i) = some true) (hb : ∀ i, i < n → b (f i) = some (.nx (f (i + 1)))) (he : c (f n) = some false) : whileF c b N (f 0) = some (.nx (f n)) := by
  suffices h : ∀ k i, i + k = n → ∀ N, k < N → whileF c b N (f i) = some (.nx (f n)) from h n 0 (by omega) N hN
  intro k
  induction k with
  | zero =>
    intro i hi N hN
    obtain ⟨N, rfl⟩ : ∃ M, N = M + 1 := ⟨N - 1, by omega⟩
    have : i = n := by omega
    subst this
    simp [whileF_succ, he]
  | succ k ih =>
    intro i hi N hN
    obtain ⟨N, rfl⟩ : ∃ M, N = M + 1 := ⟨N - 1, by omega⟩
    simp [whileF_succ, ht i (by omega), hb i (by omega)]
    exact ih (i + 1) (by omega) N (by omega)
theorem forL_nil (g : D → PEnv → Option PEnv) (b : XS) (ρ : PEnv) : forL g b [] ρ = some (.nx ρ) := rfl
/-- a loop whose turns fold -/
theorem forL_fold {α : Type} {g : D → PEnv → Option PEnv} {b : XS} (f : α → PEnv) (st : α → D → α) (P : α → List D → Prop) (hb : ∀ a d ds, P a (d :: ds) → (g d (f a)).bind b = some (.nx (f (st a d))) ∧ P (st a d) ds) :
    ∀ (ds : List D) (a : α), P a ds → forL g b ds (f a) = some (.nx (f (ds.foldl st a)))
  | [], a, _ => rfl
  | d :: ds, a, h => by
    obtain ⟨h1, h2⟩ := hb a d ds h
    obtain ⟨ρ1, e1, e2⟩ := bind2 h1
    simp only [forL, e1, e2, Option.bind_some, List.foldl_cons]
    exact forL_fold f st P hb ds _ h2
/-- a loop by an invariant over what is done and what is left -/
theorem forL_inv {β : Type} {g : D → PEnv → Option PEnv} {b : XS} (enc : β → D) (I : List β → List β → PEnv → Prop)
    (hb : ∀ pre x rest ρ, I pre (x :: rest) ρ → ∃ ρ1 ρ2, g (enc x) ρ = some ρ1 ∧ (b ρ1 = some (.nx ρ2) ∨ b ρ1 = some (.ct ρ2)) ∧ I (pre ++ [x]) rest ρ2) :
    ∀ (xs pre : List β) (ρ : PEnv), I pre xs ρ → ∃ ρ', forL g b (xs.map enc) ρ = some (.nx ρ') ∧ I (pre ++ xs) [] ρ'
  | [], pre, ρ, h => ⟨ρ, rfl, by rwa [List.append_nil]⟩
  | x :: xs, pre, ρ, h => by
    obtain ⟨ρ1, ρ2, e1, e2, h2⟩ := hb pre x xs ρ h
    obtain ⟨ρ', e3, h3⟩ := forL_inv enc I hb xs (pre ++ [x]) ρ2 h2
    refine ⟨ρ', ?_, by rwa [List.append_assoc] at h3⟩
    rcases e2 with e2 | e2
    · simp only [List.map_cons, forL, e1, e2, Option.bind_some, e3]
    · simp only [List.map_cons, forL, e1, e2, Option.bind_some, e3]
/-- the same where a turn may end the def -/
theorem forL_inv' {β : Type} {g : D → PEnv → Option PEnv} {b : XS} (enc : β → D) (I : List β → List β → PEnv → Prop) (R : D → Prop)
    (hb : ∀ pre x rest ρ, I pre (x :: rest) ρ → ∃ ρ1, g (enc x) ρ = some ρ1 ∧ ((∃ ρ2, (b ρ1 = some (.nx ρ2) ∨ b ρ1 = some (.ct ρ2)) ∧ I (pre ++ [x]) rest ρ2) ∨ ∃ d, b ρ1 = some (.rt d) ∧ R d)) :
    ∀ (xs pre : List β) (ρ : PEnv), I pre xs ρ → (∃ ρ', forL g b (xs.map enc) ρ = some (.nx ρ') ∧ I (pre ++ xs) [] ρ') ∨ ∃ d, forL g b (xs.map enc) ρ = some (.rt d) ∧ R d
  | [], pre, ρ, h => .inl ⟨ρ, rfl, by rwa [List.append_nil]⟩
  | x :: xs, pre, ρ, h => by
    obtain ⟨ρ1, e1, h | ⟨d, e2, h2⟩⟩ := hb pre x xs ρ h
    · obtain ⟨ρ2, e2, h2⟩ := h
      rcases forL_inv' enc I R hb xs (pre ++ [x]) ρ2 h2 with ⟨ρ', e3, h3⟩ | ⟨d, e3, h3⟩
      · refine .inl ⟨ρ', ?_, by rwa [List.append_assoc] at h3⟩
        rcases e2 with e2 | e2
        · simp only [List.map_cons, forL, e1, e2, Option.bind_some, e3]
        · simp only [List.map_cons, forL, e1, e2, Option.bind_some, e3]
      · refine .inr ⟨d, ?_, h3⟩
        rcases e2 with e2 | e2
        · simp only [List.map_cons, forL, e1, e2, Option.bind_some, e3]
        · simp only [List.map_cons, forL, e1, e2, Option.bind_some, e3]
    · exact .inr ⟨d, by simp only [List.map_cons, forL, e1, e2, Option.bind_some], h2⟩
/-! ### comprehensions -/
theorem lcL_map {α : Type} {g : XG} {f : Xp} {ρ : PEnv} (enc h : α → D) : ∀ (xs : List α), (∀ x ∈ xs, (g (enc x) ρ).bind f = some (h x)) → lcL g tYesP f ρ (xs.map enc) = some (xs.map h)
  | [], _ => rfl
  | x :: xs, hx => by
    obtain ⟨ρ1, e1, e2⟩ := bind2 (hx x (List.mem_cons_self ..))
    have := lcL_map (g := g) (f := f) (ρ := ρ) enc h xs fun y hy => hx y (List.mem_cons_of_mem _ hy)
    simp only [List.map_cons, lcL, e1, e2, tYesP, Option.bind_some, if_true, this]
theorem lcL_filter {α : Type} {g : XG} {t : PEnv → Option Bool} {f : Xp} {ρ : PEnv} (enc h : α → D) (p : α → Bool) : ∀ (xs : List α), (∀ x ∈ xs, ∃ ρ1, g (enc x) ρ = some ρ1 ∧ t ρ1 = some (p x) ∧ (p x = true → f ρ1 = some (h x))) → lcL g t f ρ (xs.map enc) = some ((xs.filter p).map h)
  | [], _ => rfl
  | x :: xs, hx => by
    obtain ⟨ρ1, e1, e2, e3⟩ := hx x (List.mem_cons_self ..)
    have := lcL_filter (g := g) (t := t) (f := f) (ρ := ρ) enc h p xs fun y hy => hx y (List.mem_cons_of_mem _ hy)
    by_cases hp : p x = true
    · simp only [List.map_cons, lcL, e1, e2, hp, e3 hp, Option.bind_some, if_true, this, List.filter_cons_of_pos]
    · simp only [List.map_cons, lcL, e1, e2, hp, Option.bind_some, if_false, this, List.filter_cons_of_neg, Bool.false_eq_true, not_false_eq_true]
/-! ### places, ranges -/
theorem atI_nat {α : Type} (xs : List α) (i : Nat) (h : i < xs.length) : atI xs (i : Int) = some xs[i] := by
  unfold atI ixN
  simp [h]
theorem cut_init (xs : List D) : cutD xs none (some (-1)) = xs.dropLast := by
  unfold cutD
  rw [HT.sIx_none, List.drop_zero, Nat.sub_zero, List.dropLast_eq_take]
  congr 1
  unfold HT.sIx
  simp
  omega
theorem asInts_map (xs : List Int) : asInts (xs.map PyData.int) = some xs := by
  induction xs with
  | nil => rfl
  | cons x xs ih => simp [asInts, ih]
theorem asBools_map (xs : List Bool) : asBools (xs.map PyData.bool) = some xs := by
  induction xs with
  | nil => rfl
  | cons x xs ih => simp [asBools, ih]
theorem oR1_nat (n : Nat) (h : n ≤ 16777216) : oR1 [.int n] = some ((List.range n).map fun i => PyData.int (i : Nat)) := by
  show (if (n : Int) ≤ 16777216 ∧ -(2 ^ 62) ≤ (n : Int) then some (rangeD 0 1 (n : Int).toNat) else none) = _
  rw [if_pos (by constructor <;> omega)]
  unfold rangeD
  simp
/-! ### sizes -/
theorem log2_lt_of {n k : Nat} (hk : 0 < k) (h : n < 2 ^ k) : n.log2 < k := by
  by_cases h0 : n = 0
  · subst h0
    simpa using hk
  · exact (Nat.log2_lt h0).mpr h
/-- small enough for every product and quotient -/
def Sm (k : Nat) (a : Int) : Prop := a.natAbs ≤ 2 ^ k
theorem Sm.mul {j k : Nat} {a b : Int} (h1 : Sm j a) (h2 : Sm k b) : Sm (j + k) (a * b) := by
  unfold Sm at *
  rw [Int.natAbs_mul, Nat.pow_add]
  exact Nat.mul_le_mul h1 h2
theorem Sm.mono {j k : Nat} {a : Int} (h : Sm j a) (hk : j ≤ k) : Sm k a := Nat.le_trans h (Nat.pow_le_pow_right (by decide) hk)
theorem Sm.add {k : Nat} {a b : Int} (h1 : Sm k a) (h2 : Sm k b) : Sm (k + 1) (a + b) := by
  unfold Sm at *
  have := Int.natAbs_add_le a b
  rw [Nat.pow_succ]
  omega
theorem Sm.le {k : Nat} {a b : Int} (h : Sm k a) (hb : b.natAbs ≤ a.natAbs) : Sm k b := Nat.le_trans hb h
theorem Sm.lit {k : Nat} {a : Int} (h : a.natAbs ≤ 1024 := by decide) (hk : 10 ≤ k := by omega) : Sm k a := Nat.le_trans h (Nat.pow_le_pow_right (n := 2) (by decide) hk)
theorem Sm.zero {k : Nat} : Sm k 0 := Nat.zero_le _
theorem Sm.neg {k : Nat} {a : Int} (h : Sm k a) : Sm k (-a) := by
  unfold Sm at *
  rwa [Int.natAbs_neg]
theorem Sm.sub {k : Nat} {a b : Int} (h1 : Sm k a) (h2 : Sm k b) : Sm (k + 1) (a - b) := h1.add h2.neg
theorem Sm.mulOk {j k : Nat} {a b : Int} (h1 : Sm j a) (h2 : Sm k b) (hj : j ≤ 4000) (hk : k ≤ 4000) : mulOk a b = true := by
  have l1 : a.natAbs.log2 < j + 1 := log2_lt_of (by omega) (Nat.lt_of_le_of_lt h1 (Nat.pow_lt_pow_right (by decide) (by omega)))
  have l2 : b.natAbs.log2 < k + 1 := log2_lt_of (by omega) (Nat.lt_of_le_of_lt h2 (Nat.pow_lt_pow_right (by decide) (by omega)))
  unfold Pm.mulOk
  rw [Bool.or_eq_true]
  exact .inr (decide_eq_true (by omega))
theorem Sm.divOk {k : Nat} {a : Int} (h : Sm k a) (h0 : a ≠ 0) (hk : k ≤ 8000) : divOk a = true := by
  have l1 : a.natAbs.log2 < k + 1 := log2_lt_of (by omega) (Nat.lt_of_le_of_lt h (Nat.pow_lt_pow_right (by decide) (by omega)))
  unfold Pm.divOk
  rw [Bool.and_eq_true]
  exact ⟨decide_eq_true h0, decide_eq_true (by omega)⟩
/-! ### fractions in lowest terms -/
/-- p / q in lowest terms, the lower part positive -/
def fr (p q : Int) : D := .tuple [.int (p / (Int.gcd p q : Int)), .int (q / (Int.gcd p q : Int))]
theorem gcd_pos_of {p q : Int} (hq : 0 < q) : 0 < Int.gcd p q := Int.gcd_pos_of_ne_zero_right p (by omega)
theorem fr_scale {p q c : Int} (hq : 0 < q) (hc : 0 < c) : fr (p * c) (q * c) = fr p q := by
  unfold fr
  have g : Int.gcd (p * c) (q * c) = Int.gcd p q * c.natAbs := Int.gcd_mul_right p c q
  have e : ((c.natAbs : Nat) : Int) = c := Int.natAbs_of_nonneg (by omega)
  rw [g, Int.natCast_mul, e, Int.mul_ediv_mul_of_pos_left _ _ hc, Int.mul_ediv_mul_of_pos_left _ _ hc]
/-- its parts: p = p' g, q = q' g -/
theorem fr_parts (p : Int) {q : Int} (hq : 0 < q) : ∃ p' q' g : Int, fr p q = .tuple [.int p', .int q'] ∧ p = p' * g ∧ q = q' * g ∧ 0 < g ∧ 0 < q' ∧ p'.natAbs ≤ p.natAbs ∧ q'.natAbs ≤ q.natAbs := by
  have hg := gcd_pos_of (p := p) hq
  have hg' : 0 < (Int.gcd p q : Int) := by omega
  have d1 : (Int.gcd p q : Int) ∣ p := Int.gcd_dvd_left p q
  have d2 : (Int.gcd p q : Int) ∣ q := Int.gcd_dvd_right p q
  have e1 := Int.ediv_mul_cancel d1
  have e2 := Int.ediv_mul_cancel d2
  have n1 : (p / (Int.gcd p q : Int)).natAbs ≤ p.natAbs := by
    have := congrArg Int.natAbs e1
    rw [Int.natAbs_mul] at this
    rw [← this]
    exact Nat.le_mul_of_pos_right _ (by simpa using hg)
  have n2 : (q / (Int.gcd p q : Int)).natAbs ≤ q.natAbs := by
    have := congrArg Int.natAbs e2
    rw [Int.natAbs_mul] at this
    rw [← this]
    exact Nat.le_mul_of_pos_right _ (by simpa using hg)
  refine ⟨_, _, _, rfl, e1.symm, e2.symm, hg', ?_, n1, n2⟩
  exact Int.ediv_pos_of_pos_of_dvd hq (by omega) d2
theorem fr_eq {p q r s : Int} (hq : 0 < q) (hs : 0 < s) (h : p * s = r * q) : fr p q = fr r s := by
  rw [← fr_scale (p := p) hq hs, ← fr_scale (p := r) hs hq, h, Int.mul_comm q s]
theorem fr_inj {p q r s : Int} (hq : 0 < q) (hs : 0 < s) (h : fr p q = fr r s) : p * s = r * q := by
  obtain ⟨p1, q1, g, e1, rfl, rfl, _⟩ := fr_parts p hq
  obtain ⟨r1, s1, k, e2, rfl, rfl, _⟩ := fr_parts r hs
  rw [e1, e2] at h
  injection h with h
  injection h with h1 h
  injection h with h2 h
  injection h1 with h1
  injection h2 with h2
  subst h1 h2
  grind
end Pm

/-! Pm: the printed functions, read one step at a time. -/
namespace Pm
open PySem PySem.Spec PyProof.Rows L2
section
variable (ρ : PEnv)
def b2 (g : D → D → Option D) : Option D → Option D → Option D
  | some x, some y => g x y
  | _, _ => none
def c2 : Option D → Option (List D) → Option (List D)
  | some x, some xs => some (x :: xs)
  | _, _ => none
def sqO : Option Out → XS → Option Out
  | some (.nx ρ), h => h ρ
  | x, _ => x
def ifO {α : Type} : Option Bool → (PEnv → Option α) → (PEnv → Option α) → PEnv → Option α
  | some true, g, _, ρ => g ρ
  | some false, _, h, ρ => h ρ
  | none, _, _, _ => none
def stO (i : Nat) : Option D → PEnv → Option Out
  | some d, ρ => if i < ρ.length then some (.nx (ρ.set i (some d))) else none
  | none, _ => none
def endO : Option Out → Option D
  | some (.nx _) => some .none
  | some (.rt d) => some d
  | _ => none
def andO : Option D → Xp → PEnv → Option D
  | some (.bool true), f, ρ => f ρ
  | some (.bool false), _, _ => some (.bool false)
  | _, _, _ => none
def orO : Option D → Xp → PEnv → Option D
  | some (.bool true), _, _ => some (.bool true)
  | some (.bool false), f, ρ => f ρ
  | _, _, _ => none
def tyes : PEnv → Option Bool := fun _ => some true
def tno : PEnv → Option Bool := fun _ => some false
def mkT (ds : List D) : Option D := if ds.length ≤ 1000 then some (.tuple ds) else none
def mkL (ds : List D) : Option D := if ds.length ≤ 1000 then some (.list ds) else none
def chP (g' : D → D → Option D) (y : D) (fc : Xp) (ρ : PEnv) : Option D → Option D
  | some (.bool true) => b2 g' (some y) (fc ρ)
  | some (.bool false) => some (.bool false)
  | _ => none
def chO (g g' : D → D → Option D) : Option D → Option D → Xp → PEnv → Option D
  | some x, some y, fc, ρ => chP g' y fc ρ (g x y)
  | _, _, _, _ => none
def slO : Option D → Option (Option Int) → Option (Option Int) → Option D
  | some x, some i, some j => oSl x i j
  | _, _, _ => none
def atO : Option D → Option (Option Int)
  | some (.int i) => some (some i)
  | _ => none
def lcO (g : XG) (t : PEnv → Option Bool) (f : Xp) (ρ : PEnv) : Option (List D) → Option D
  | some ds => (lcL g t f ρ ds).map .list
  | none => none
def forO (g : D → PEnv → Option PEnv) (b : XS) (ρ : PEnv) : Option (List D) → Option Out
  | some ds => forL g b ds ρ
  | none => none
def gsO (gs : List D → PEnv → Option PEnv) (ds : List D) : Option PEnv → Option PEnv
  | some ρ => gs ds ρ
  | none => none
def nxO : Option PEnv → Option Out
  | some ρ => some (.nx ρ)
  | none => none
def tgO (g : D → PEnv → Option PEnv) : Option D → PEnv → Option Out
  | some d, ρ => nxO (g d ρ)
  | none, _ => none
def paO (is : List Nat) : Option (List D) → PEnv → Option Out
  | some ds, ρ => if is.all (fun i => decide (i < ρ.length)) && decide (ds.length = is.length) then some (.nx (setAll is ds ρ)) else none
  | none, _ => none
def apO (i : Nat) : Option D → Option D → PEnv → Option Out
  | some (.list xs), some y, ρ => if xs.length < 16777216 ∧ i < ρ.length then some (.nx (ρ.set i (some (.list (xs ++ [y]))))) else none
  | _, _, _ => none
def exO (i : Nat) : Option D → Option D → PEnv → Option Out
  | some (.list xs), some (.list ys), ρ => if xs.length + ys.length ≤ 16777216 ∧ i < ρ.length then some (.nx (ρ.set i (some (.list (xs ++ ys))))) else none
  | _, _, _ => none
def plO (i : Nat) (xs : List D) (y : D) (ρ : PEnv) : Option Nat → Option Out
  | some n => if i < ρ.length then some (.nx (ρ.set i (some (.list (xs.set n y))))) else none
  | none => none
def ptO (i : Nat) : Option D → Option D → Option D → PEnv → Option Out
  | some y, some (.list xs), some (.int j), ρ => plO i xs y ρ (ixN xs.length j)
  | _, _, _, _ => none
def pkO (i : Nat) : Option D → Option D → Option D → PEnv → Option Out
  | some y, some (.dict kd), some (.int j), ρ => if kd.length < 16777216 ∧ i < ρ.length then some (.nx (ρ.set i (some (.dict (dPutD kd j y))))) else none
  | _, _, _, _ => none
theorem xVar_a (i : Nat) : xVar i ρ = ρ.getD i none := rfl
theorem xC_a (d : D) : xC d ρ = some d := rfl
theorem xBin_a (g : D → D → Option D) (fa fb : Xp) : xBin g fa fb ρ = b2 g (fa ρ) (fb ρ) := by
  unfold xBin
  cases fa ρ <;> cases fb ρ <;> rfl
theorem xUn_a (g : D → Option D) (fa : Xp) : xUn g fa ρ = (fa ρ).bind g := rfl
theorem tOf_a (f : Xp) : tOf f ρ = (f ρ).bind dB := rfl
theorem tTru_a (f : Xp) : tTru f ρ = (f ρ).bind oTru := rfl
theorem tNotP_a (f : PEnv → Option Bool) : tNotP f ρ = (f ρ).map (!·) := rfl
theorem tAndP_a (f g : PEnv → Option Bool) : tAndP f g ρ = ifO (f ρ) g tno ρ := by
  unfold tAndP
  cases f ρ with
  | none => rfl
  | some b => cases b <;> rfl
theorem tOrP_a (f g : PEnv → Option Bool) : tOrP f g ρ = ifO (f ρ) tyes g ρ := by
  unfold tOrP
  cases f ρ with
  | none => rfl
  | some b => cases b <;> rfl
theorem tyes_a : tyes ρ = some true := rfl
theorem tno_a : tno ρ = some false := rfl
theorem tYesP_a : tYesP ρ = some true := rfl
theorem xNil_a : xNil ρ = some [] := rfl
theorem xCons_a (f : Xp) (fs : XL) : xCons f fs ρ = c2 (f ρ) (fs ρ) := by
  unfold xCons
  cases f ρ <;> cases fs ρ <;> rfl
theorem xTup_a (fs : XL) : xTup fs ρ = (fs ρ).bind mkT := rfl
theorem xLst_a (fs : XL) : xLst fs ρ = (fs ρ).bind mkL := rfl
theorem xAnd_a (fa fb : Xp) : xAnd fa fb ρ = andO (fa ρ) fb ρ := by
  unfold xAnd
  cases fa ρ with
  | none => rfl
  | some d => cases d with
    | bool b => cases b <;> rfl
    | _ => rfl
theorem xOr_a (fa fb : Xp) : xOr fa fb ρ = orO (fa ρ) fb ρ := by
  unfold xOr
  cases fa ρ with
  | none => rfl
  | some d => cases d with
    | bool b => cases b <;> rfl
    | _ => rfl
theorem xIf_a (c : PEnv → Option Bool) (fa fb : Xp) : xIf c fa fb ρ = ifO (c ρ) fa fb ρ := by
  unfold xIf
  cases c ρ with
  | none => rfl
  | some b => cases b <;> rfl
theorem xChain_a (g g' : D → D → Option D) (fa fb fc : Xp) : xChain g g' fa fb fc ρ = chO g g' (fa ρ) (fb ρ) fc ρ := by
  unfold xChain
  cases fa ρ with
  | none => rfl
  | some x => cases fb ρ with
    | none => rfl
    | some y =>
      simp only [Option.bind_some, chO]
      cases g x y with
      | none => rfl
      | some z => cases z with
        | bool b => cases b <;> (simp only [Option.bind_some, dB, chP]; cases fc ρ <;> rfl)
        | _ => rfl
theorem oNo_a : oNo ρ = some none := rfl
theorem oAt_a (f : Xp) : oAt f ρ = atO (f ρ) := by
  unfold oAt
  cases f ρ with
  | none => rfl
  | some d => cases d <;> rfl
theorem xSl_a (f : Xp) (lo hi : XO) : xSl f lo hi ρ = slO (f ρ) (lo ρ) (hi ρ) := by
  unfold xSl
  cases f ρ <;> cases lo ρ <;> cases hi ρ <;> rfl
theorem xCall_a (g : List D → Option D) (fs : XL) : xCall g fs ρ = (fs ρ).bind g := rfl
theorem xSeq_a (f : Xp) : xSeq f ρ = (f ρ).bind seqD := rfl
theorem xIt_a (g : List D → Option (List D)) (fs : XL) : xIt g fs ρ = (fs ρ).bind g := rfl
theorem xLc_a (it : XL) (g : XG) (t : PEnv → Option Bool) (f : Xp) (own : List Nat) : xLc it g t f own ρ = lcO g t f (wipeP ρ own) (it ρ) := by
  unfold xLc
  cases it ρ <;> rfl
theorem gSet_a (i : Nat) (d : D) : gSet i d ρ = if i < ρ.length then some (ρ.set i (some d)) else none := rfl
theorem gTupD_a (n : Nat) (g : List D → PEnv → Option PEnv) (ds : List D) : gTupD n g (.tuple ds) ρ = if ds.length = n then g ds ρ else none := rfl
theorem gsNil_a : gsNil [] ρ = some ρ := rfl
theorem gsCons_a (g : XG) (gs : List D → PEnv → Option PEnv) (d : D) (ds : List D) : gsCons g gs (d :: ds) ρ = gsO gs ds (g d ρ) := by
  show (g d ρ).bind (fun ρ' => gs ds ρ') = _
  cases g d ρ <;> rfl
theorem sNop_a : sNop ρ = some (.nx ρ) := rfl
theorem sBrk_a : sBrk ρ = some (.bk ρ) := rfl
theorem sCnt_a : sCnt ρ = some (.ct ρ) := rfl
theorem sSeq_a (g h : XS) : sSeq g h ρ = sqO (g ρ) h := by
  unfold sSeq
  cases g ρ with
  | none => rfl
  | some o => cases o <;> rfl
theorem sRet_a (f : Xp) : sRet f ρ = (f ρ).map .rt := rfl
theorem sIf_a (c : PEnv → Option Bool) (g h : XS) : sIf c g h ρ = ifO (c ρ) g h ρ := by
  unfold sIf
  cases c ρ with
  | none => rfl
  | some b => cases b <;> rfl
theorem sSet_a (i : Nat) (f : Xp) : sSet i f ρ = stO i (f ρ) ρ := by
  unfold sSet
  cases f ρ <;> rfl
theorem sTgt_a (g : D → PEnv → Option PEnv) (f : Xp) : sTgt g f ρ = tgO g (f ρ) ρ := by
  unfold sTgt
  cases f ρ with
  | none => rfl
  | some d =>
    show (g d ρ).map .nx = nxO (g d ρ)
    cases g d ρ <;> rfl
theorem sAug_a (i : Nat) (g : D → D → Option D) (f : Xp) : sAug i g f ρ = stO i (b2 g (ρ.getD i none) (f ρ)) ρ := by
  unfold sAug
  rw [xVar_a]
  cases ρ.getD i none with
  | none => rfl
  | some x => cases f ρ with
    | none => rfl
    | some y =>
      simp only [Option.bind_some, b2]
      cases g x y <;> rfl
theorem sApp_a (i : Nat) (f : Xp) : sApp i f ρ = apO i (ρ.getD i none) (f ρ) ρ := by
  unfold sApp
  rw [xVar_a]
  cases ρ.getD i none with
  | none => rfl
  | some x => cases f ρ with
    | none => cases x <;> rfl
    | some y => cases x <;> rfl
theorem sExt_a (i : Nat) (f : Xp) : sExt i f ρ = exO i (ρ.getD i none) (f ρ) ρ := by
  unfold sExt
  rw [xVar_a]
  cases ρ.getD i none with
  | none => rfl
  | some x => cases f ρ with
    | none => cases x <;> rfl
    | some y => cases x <;> cases y <;> rfl
theorem sPut_a (i : Nat) (fj f : Xp) : sPut i fj f ρ = ptO i (f ρ) (ρ.getD i none) (fj ρ) ρ := by
  unfold sPut
  rw [xVar_a]
  cases f ρ with
  | none => rfl
  | some y => cases ρ.getD i none with
    | none => rfl
    | some x => cases fj ρ with
      | none => cases x <;> rfl
      | some j => cases x with
        | list xs => cases j with
          | int j =>
            show (ixN xs.length j).bind _ = plO i xs y ρ (ixN xs.length j)
            cases ixN xs.length j <;> rfl
          | _ => rfl
        | _ => rfl
theorem sPutK_a (i : Nat) (fj f : Xp) : sPutK i fj f ρ = pkO i (f ρ) (ρ.getD i none) (fj ρ) ρ := by
  unfold sPutK
  rw [xVar_a]
  cases f ρ with
  | none => rfl
  | some y => cases ρ.getD i none with
    | none => rfl
    | some x => cases fj ρ with
      | none => cases x <;> rfl
      | some j => cases x <;> cases j <;> rfl
theorem pkO_s (i : Nat) (kd : List (D × D)) (y : D) (j : Int) : pkO i (some y) (some (.dict kd)) (some (.int j)) ρ = if kd.length < 16777216 ∧ i < ρ.length then some (.nx (ρ.set i (some (.dict (dPutD kd j y))))) else none := rfl
theorem xLc2_a (it : XL) (g : XG) (t : PEnv → Option Bool) (it1 : XL) (g1 : XG) (t1 : PEnv → Option Bool) (f : Xp) (own vs1 : List Nat) (ds : List D) (h : it ρ = some ds) : xLc2 it g t it1 g1 t1 f own vs1 ρ = (lc2L g t it1 g1 t1 f vs1 (wipeP ρ own) ds).bind fun ys => if ys.length ≤ 16777216 then some (.list ys) else none := by
  unfold xLc2
  rw [h]
  rfl
theorem sFor_a (it : XL) (g : D → PEnv → Option PEnv) (b : XS) : sFor it g b ρ = forO g b ρ (it ρ) := by
  unfold sFor
  cases it ρ <;> rfl
theorem sWhile_a (c : PEnv → Option Bool) (b : XS) : sWhile c b ρ = whileF c b fuelN ρ := rfl
theorem sPar_a (is : List Nat) (fs : XL) : sPar is fs ρ = paO is (fs ρ) ρ := by
  unfold sPar
  cases fs ρ <;> rfl
theorem runD_a (n N : Nat) (g : XS) (ds : List D) : runD n N g ds = endO (g (ds.map some ++ List.replicate (N - n) none)) := by
  unfold runD
  cases g (ds.map some ++ List.replicate (N - n) none) with
  | none => rfl
  | some o => cases o <;> rfl
theorem b2_s (g : D → D → Option D) (x y : D) : b2 g (some x) (some y) = g x y := rfl
theorem c2_s (x : D) (xs : List D) : c2 (some x) (some xs) = some (x :: xs) := rfl
theorem sqO_nx (h : XS) : sqO (some (.nx ρ)) h = h ρ := rfl
theorem sqO_rt (d : D) (h : XS) : sqO (some (.rt d)) h = some (.rt d) := rfl
theorem sqO_bk (h : XS) : sqO (some (.bk ρ)) h = some (.bk ρ) := rfl
theorem sqO_ct (h : XS) : sqO (some (.ct ρ)) h = some (.ct ρ) := rfl
section
variable {α : Type}
theorem ifO_t (g h : PEnv → Option α) : ifO (some true) g h ρ = g ρ := rfl
theorem ifO_f (g h : PEnv → Option α) : ifO (some false) g h ρ = h ρ := rfl
end
theorem stO_s (i : Nat) (d : D) : stO i (some d) ρ = if i < ρ.length then some (.nx (ρ.set i (some d))) else none := rfl
theorem endO_nx  : endO (some (.nx ρ)) = some .none := rfl
theorem endO_rt (d : D) : endO (some (.rt d)) = some d := rfl
theorem andO_t (f : Xp) : andO (some (.bool true)) f ρ = f ρ := rfl
theorem andO_f (f : Xp) : andO (some (.bool false)) f ρ = some (.bool false) := rfl
theorem orO_t (f : Xp) : orO (some (.bool true)) f ρ = some (.bool true) := rfl
theorem orO_f (f : Xp) : orO (some (.bool false)) f ρ = f ρ := rfl
theorem chO_s (g g' : D → D → Option D) (x y : D) (f : Xp) : chO g g' (some x) (some y) f ρ = chP g' y f ρ (g x y) := rfl
theorem chP_t (g' : D → D → Option D) (y : D) (f : Xp) : chP g' y f ρ (some (.bool true)) = b2 g' (some y) (f ρ) := rfl
theorem chP_f (g' : D → D → Option D) (y : D) (f : Xp) : chP g' y f ρ (some (.bool false)) = some (.bool false) := rfl
theorem slO_s (x : D) (i j : Option Int) : slO (some x) (some i) (some j) = oSl x i j := rfl
theorem atO_i (i : Int) : atO (some (.int i)) = some (some i) := rfl
theorem lcO_s (g : XG) (t : PEnv → Option Bool) (f : Xp) (ds : List D) : lcO g t f ρ (some ds) = (lcL g t f ρ ds).map .list := rfl
theorem forO_s (g : XG) (b : XS) (ds : List D) : forO g b ρ (some ds) = forL g b ds ρ := rfl
theorem gsO_s (gs : List D → PEnv → Option PEnv) (ds : List D) : gsO gs ds (some ρ) = gs ds ρ := rfl
theorem nxO_s  : nxO (some ρ) = some (.nx ρ) := rfl
theorem tgO_s (g : XG) (d : D) : tgO g (some d) ρ = nxO (g d ρ) := rfl
theorem paO_s (is : List Nat) (ds : List D) : paO is (some ds) ρ = if is.all (fun i => decide (i < ρ.length)) && decide (ds.length = is.length) then some (.nx (setAll is ds ρ)) else none := rfl
theorem apO_s (i : Nat) (xs : List D) (y : D) : apO i (some (.list xs)) (some y) ρ = if xs.length < 16777216 ∧ i < ρ.length then some (.nx (ρ.set i (some (.list (xs ++ [y]))))) else none := rfl
theorem exO_s (i : Nat) (xs ys : List D) : exO i (some (.list xs)) (some (.list ys)) ρ = if xs.length + ys.length ≤ 16777216 ∧ i < ρ.length then some (.nx (ρ.set i (some (.list (xs ++ ys))))) else none := rfl
theorem plO_s (i : Nat) (xs : List D) (y : D) (n : Nat) : plO i xs y ρ (some n) = if i < ρ.length then some (.nx (ρ.set i (some (.list (xs.set n y))))) else none := rfl
theorem ptO_s (i : Nat) (xs : List D) (y : D) (j : Int) : ptO i (some y) (some (.list xs)) (some (.int j)) ρ = plO i xs y ρ (ixN xs.length j) := rfl
section
variable (a b : Int) (t : Bool) (xs ys : List D) (x y z : D)
theorem dB_b  : dB (.bool t) = some t := rfl
theorem tru_b  : oTru (.bool t) = some t := rfl
theorem tru_n  : oTru .none = some false := rfl
theorem tru_i  : oTru (.int a) = some (a != 0) := rfl
theorem tru_l  : oTru (.list xs) = some (!xs.isEmpty) := rfl
theorem tru_t  : oTru (.tuple xs) = some (!xs.isEmpty) := rfl
theorem is_n  : oIs x .none = some (.bool (isNone x)) := rfl
theorem isn_n  : oIsNot x .none = some (.bool (!isNone x)) := rfl
theorem nn_n  : isNone .none = true := rfl
theorem nn_i  : isNone (.int a) = false := rfl
theorem nn_b  : isNone (.bool t) = false := rfl
theorem nn_t  : isNone (.tuple xs) = false := rfl
theorem nn_l  : isNone (.list xs) = false := rfl
theorem add_ii  : oAdd (.int a) (.int b) = some (.int (a + b)) := rfl
theorem add'_ii  : oAdd' (.int a) (.int b) = some (.int (a + b)) := rfl
theorem sub_ii  : oSub (.int a) (.int b) = some (.int (a - b)) := rfl
theorem neg_i  : oNeg (.int a) = some (.int (-a)) := rfl
theorem lt_ii  : oLt (.int a) (.int b) = some (.bool (decide (a < b))) := rfl
theorem le_ii  : oLe (.int a) (.int b) = some (.bool (decide (a ≤ b))) := rfl
theorem gt_ii  : oGt (.int a) (.int b) = some (.bool (decide (b < a))) := rfl
theorem ge_ii  : oGe (.int a) (.int b) = some (.bool (decide (b ≤ a))) := rfl
theorem ix_l  : oIx (.list xs) (.int a) = atI xs a := rfl
theorem ix_t  : oIx (.tuple xs) (.int a) = atI xs a := rfl
theorem ix_s  : oIx (scr xs) (.int a) = atI xs a := rfl
theorem at0 : atI (x :: xs) 0 = some x := by
  unfold atI ixN
  simp
theorem at1 : atI (x :: y :: xs) 1 = some y := by
  unfold atI ixN
  rw [if_pos (by decide), if_pos (by simp only [List.length_cons]; omega)]
  rfl
theorem at2 : atI (x :: y :: z :: xs) 2 = some z := by
  unfold atI ixN
  rw [if_pos (by decide), if_pos (by simp only [List.length_cons]; omega)]
  rfl
theorem sl_l (lo hi : Option Int) : oSl (.list xs) lo hi = some (.list (cutD xs lo hi)) := rfl
theorem sl_t (lo hi : Option Int) : oSl (.tuple xs) lo hi = some (.tuple (cutD xs lo hi)) := rfl
theorem len_l  : bLen [.list xs] = some (.int xs.length) := rfl
theorem len_t  : bLen [.tuple xs] = some (.int xs.length) := rfl
theorem len_s  : bLen [scr xs] = some (.int xs.length) := rfl
theorem abs_i  : bAbs [.int a] = some (.int (if a < 0 then -a else a)) := rfl
theorem int_i  : bInt [.int a] = some (.int a) := rfl
theorem int_b  : bInt [.bool t] = some (.int (if t then 1 else 0)) := rfl
theorem max_ii  : bMax2 [.int a, .int b] = some (.int (if b > a then b else a)) := rfl
theorem min_ii  : bMin2 [.int a, .int b] = some (.int (if b < a then b else a)) := rfl
theorem tup_s  : bTuple [x] = (seqD x).map .tuple := rfl
theorem lst_s  : bList [x] = (seqD x).map .list := rfl
theorem seq_l  : seqD (.list xs) = some xs := rfl
theorem seq_t  : seqD (.tuple xs) = some xs := rfl
theorem sum_s  : bSum [x] = (seqD x).bind fun xs => (asInts xs).map fun ns => .int ns.sum := rfl
theorem wipe_n (ρ : PEnv) : wipeP ρ [] = ρ := rfl
theorem wipe_c (ρ : PEnv) (v : Nat) (vs : List Nat) : wipeP ρ (v :: vs) = (wipeP ρ vs).set v none := rfl
variable {a b : Int} {xs ys : List D}
theorem mul_ii (h : mulOk a b = true) : oMul' (.int a) (.int b) = some (.int (a * b)) := if_pos h
theorem fdiv_ii (h : divOk b = true) : oFdiv (.int a) (.int b) = some (.int (a.fdiv b)) := if_pos h
theorem mod_ii (h : b ≠ 0) : oMod (.int a) (.int b) = some (.int (a.fmod b)) := if_pos h
theorem add_ll (h : xs.length + ys.length ≤ 16777216) : oAdd (.list xs) (.list ys) = some (.list (xs ++ ys)) := if_pos h
theorem add_tt (h : xs.length + ys.length ≤ 16777216) : oAdd (.tuple xs) (.tuple ys) = some (.tuple (xs ++ ys)) := if_pos h
end
end
end Pm

/-! Pm: sorted of data, the greatest of ints, dict comprehensions. -/
namespace Pm
open PySem PySem.Spec PyProof.Rows L2
/-! ### the greatest of ints -/
section
variable {X : Cx}
theorem cb_maxI (hc : X.calm = true := by rfl) : CallR X (.builtin "max") (rC X.K .f bMaxI) := by
  intro pins s σ H vs us Q I r ⟨A, ds, d, tr, w, e, q⟩
  unfold bMaxI at e
  split at e
  · obtain ⟨v, rfl, w1⟩ := p1 w
    obtain ⟨xs, e1, e⟩ := bind2 e
    obtain ⟨ns, e2, e⟩ := bind2 e
    obtain ⟨mn, e3, e⟩ := Option.map_eq_some_iff.mp e
    subst e
    obtain ⟨a, vs, rfl, ha, ra⟩ := w1.seq e1
    rw [ref1 r]
    have hv := ra.ints e2
    subst hv
    refine call_max_walk (sq_iter (show X.A.in1.handled = none from I.ok.hd hc) I ha fun its J fp wr St h₂ rv W st hfp kp => ?_)
    have hl := rv.length
    rw [List.length_map] at hl
    have hne : 0 < ns.length := by
      cases ns with
      | nil => simp at e3
      | cons _ _ => simp
    refine ⟨_, _, _, _, _, _, _, rfl, W, st, hfp, by omega, CmpOf.ints_gt (fun i => ns.getD i 0) (fun i v h => intsAt rv i v h), fun v h' tk hv hk => ?_⟩
    obtain ⟨t, rfl⟩ := intsAt rv _ _ hv
    obtain ⟨b1, b2⟩ := argBest_gt (fun i => ns.getD i 0) (its.length - 1)
    refine ⟨.int mn, H, I.kept (kp h' hk), ⟨t, ?_⟩, q _ H (Same.refl H) Res.int⟩
    congr 1
    rw [List.max?_eq_some_iff] at e3
    refine Int.le_antisymm ?_ ?_
    · have hb : argBest (fun i j => decide (ns.getD i 0 > ns.getD j 0)) (its.length - 1) < ns.length := by
        have h1 : argBest (fun i j => decide (ns.getD i 0 > ns.getD j 0)) (its.length - 1) ≤ its.length - 1 := b1
        omega
      exact e3.2 _ (by rw [List.getD_eq_getElem?_getD, List.getElem?_eq_getElem hb]; exact List.getElem_mem hb)
    · obtain ⟨i, hi, e4⟩ := List.mem_iff_getElem.mp e3.1
      have := b2 i (by omega)
      simp only [List.getD_eq_getElem?_getD, List.getElem?_eq_getElem hi, Option.getD_some] at this
      rw [e4] at this
      simpa [List.getD_eq_getElem?_getD] using this
  · cases e
/-! ### sorted, of data -/
/-- data that sorted takes -/
def okSort (ds : List D) : Bool := (ds.all fun x => ds.all fun y => PySem.W.alike x y) && (ds.all fun x => shp x && decide (x.depth ≤ 20)) && decide (ds.length ≤ 16777216) &&
  ((ds.all fun x => match x with | .tuple (_ :: _) => true | _ => false) || ds.all fun x => match x with | .none => false | .tuple _ => false | _ => true)
def bSorted : List D → Option D
  | [x] => (seqD x).bind fun ds => if okSort ds then some (.list (ds.mergeSort (PySem.W.dataLe false id))) else none
  | _ => none
theorem okSort_facts {ds : List D} (h : okSort ds = true) : PySem.W.AllAlike ds ∧ (∀ x ∈ ds, shp x = true ∧ x.depth ≤ 20) ∧ ds.length ≤ 16777216 ∧ PySem.W.Sortable ds := by
  unfold okSort at h
  rw [Bool.and_eq_true, Bool.and_eq_true, Bool.and_eq_true] at h
  obtain ⟨⟨⟨h1, h2⟩, h3⟩, h4⟩ := h
  refine ⟨fun d hd d' hd' => ?_, fun x hx => ?_, of_decide_eq_true h3, ?_⟩
  · exact List.all_eq_true.mp (List.all_eq_true.mp h1 d hd) d' hd'
  · have := List.all_eq_true.mp h2 x hx
    rw [Bool.and_eq_true, decide_eq_true_eq] at this
    exact this
  · rw [Bool.or_eq_true] at h4
    rcases h4 with h4 | h4
    · refine .inl fun d hd => ?_
      have := List.all_eq_true.mp h4 d hd
      split at this
      · exact ⟨_, _, rfl⟩
      · cases this
    · refine .inr fun d hd => ?_
      have := List.all_eq_true.mp h4 d hd
      split at this
      · cases this
      · cases this
      · next h1 h2 => exact ⟨h1, h2⟩
theorem zip_each {K : PySem.W.Frag} {A : Addr → Prop} {H : Hp} : ∀ {vs : List V} {us : List Value} {ds : List D}, Vals vs us → RpL K A H vs ds → PySem.W.EachIs (fun u (p : V × D) => RelV p.1 u ∧ Rp K A H p.1 p.2) us (vs.zip ds)
  | _, _, _, .nil, .nil => .nil
  | _, _, _, .cons h r, .cons h' r' => .cons ⟨h, h'⟩ (zip_each r r')
theorem each_out {K : PySem.W.Frag} {A : Addr → Prop} {H : Hp} : ∀ {us : List Value} {ps : List (V × D)}, PySem.W.EachIs (fun u (p : V × D) => RelV p.1 u ∧ Rp K A H p.1 p.2) us ps → Vals (ps.map Prod.fst) us ∧ RpL K A H (ps.map Prod.fst) (ps.map Prod.snd)
  | _, _, .nil => ⟨.nil, .nil⟩
  | _, _, .cons h r => ⟨.cons h.1 (each_out r).1, .cons h.2 (each_out r).2⟩
theorem each_mono {α β : Type} {R S : α → β → Prop} (h : ∀ a b, R a b → S a b) : ∀ {as : List α} {bs : List β}, PySem.W.EachIs R as bs → PySem.W.EachIs S as bs
  | _, _, .nil => .nil
  | _, _, .cons a r => .cons (h _ _ a) (each_mono h r)
theorem each_mem {α β : Type} {R S : α → β → Prop} : ∀ {as : List α} {bs : List β}, PySem.W.EachIs R as bs → (∀ a b, b ∈ bs → R a b → S a b) → PySem.W.EachIs S as bs
  | _, _, .nil, _ => .nil
  | _, _, .cons a r, h => .cons (h _ _ (by simp) a) (each_mem r fun a b hb hr => h a b (List.mem_cons_of_mem _ hb) hr)
end
section
open PySem.W PySem.Calls
variable {prog : Program} {w : World} {A : Around} {E : Value → Shared → Prop} {s : Shared} {β : Type} {R : Value → β → Prop} {enc : β → D} {us : List Value} {bs : List β}
/-- the heap in which the items are told off -/
def tookH (h : Heap) (us : List Value) : Heap := (h.push (seqObj "list" #[] 0)).update h.objs.size (Obj.mapSeq fun z => z ++ us.toArray)
theorem tookH_size (h : Heap) (us : List Value) : (tookH h us).objs.size = h.objs.size + 1 := by
  unfold tookH
  rw [Heap.size_update, size_push']
theorem tookH_old {h : Heap} {us : List Value} {b : Addr} {u : Obj} (hb : h.get? b = some u) : (tookH h us).get? b = some u := by
  unfold tookH
  rw [Heap.get?_update_ne _ _ _ _ (Nat.ne_of_lt (Heap.lt_size hb))]
  exact Heap.get?_push_of_some _ hb
theorem took_seq {l : Addr} {T : String} {o : Obj} {n : Nat} {Q : List Value → Shared → Prop} (hT : T = "list" ∨ T = "tuple") (ho : s.heap.get? l = some o) (hc : o.cls = .type T) (hd : o.data = .seq us.toArray n) (hsz : us.length ≤ sizeLine)
    (hQ : Q us { s with heap := tookH s.heap us }) : wpAny (model prog w) A (collect (.ref l)) Q E s := by
  unfold collect
  apply wpAny_bind
  apply wpAny_runValue
  apply codeAny_builtin entry_proto_collect'
  show wpAny _ _ (do again (.builtin "list.__iadd__" ⟨[← newList [], .ref l], []⟩)) _ _ _
  apply wpAny_bind
  apply wpAny_newList
  · apply wpAny_pure
    refine ⟨Code.quiet_builtin _ (by decide +kernel), ?_⟩
    apply codeAny_builtin entry_list_iadd'
    show wpAny _ _ (Builtin.List.listExtendWith (.ref s.heap.objs.size) (.ref l) _) _ _ { s with heap := s.heap.push (seqObj "list" #[] 0) }
    unfold Builtin.List.listExtendWith
    have g1 := Heap.get?_push_of_some (seqObj "list" #[] 0) ho
    have g2 : (s.heap.push (seqObj "list" #[] 0)).get? s.heap.objs.size = some (seqObj "list" #[] 0) := Heap.get?_push_size _ rfl
    refine wpAny_bind (wpAny_typeOf (T := T) ⟨o, g1, hc⟩ ?_)
    have hb : (Builtin.List.listSameRef (.ref s.heap.objs.size) (.ref l) || Value.type T == Value.type "list" || Value.type T == Value.type "tuple") = true := by
      rcases hT with rfl | rfl
      · simp
      · simp
    rw [if_pos hb]
    apply wpAny_bind
    apply listItems_at g1 hd
    apply wpAny_bind
    apply listItems_at g2 rfl
    rw [if_neg (by simp)]
    apply wpAny_bind
    refine listUpdate_at (xs := #[]) (n := 0) g2 rfl ?_ (Nat.zero_le _) (by show ((#[] : Array Value) ++ us.toArray).size ≤ sizeLine + 1; simp only [Array.size_append, List.size_toArray, List.length_nil]; omega)
    apply wpAny_pure
    show wpAny (model prog w) A (do
      let o ← load s.heap.objs.size
      match o.data with
      | .seq zs _ => pure zs.toList
      | _ => unsupported "internal:collect") Q E { s with heap := tookH s.heap us }
    apply wpAny_bind
    refine wpAny_load (get?_update_seq g2 _) ?_
    show wpAny _ _ (pure ((#[] : Array Value) ++ us.toArray).toList) Q E _
    rw [show ((#[] : Array Value) ++ us.toArray).toList = us by simp]
    exact wpAny_pure hQ
  · exact Nat.zero_le _
/-- sorted(xs), xs a list or a tuple that reads as data -/
theorem sorted_seq {l : Addr} {T : String} {o : Obj} {n : Nat} {Q : Value → Shared → Prop} (hT : T = "list" ∨ T = "tuple") (ho : s.heap.get? l = some o) (hc : o.cls = .type T) (hd : o.data = .seq us.toArray n)
    (e : EachIs R us bs) (er : EachIs (fun v b => ∃ as, Reads s.heap v (enc b) as) us bs) (hal : AllAlike (bs.map enc)) (hk : Sortable (bs.map enc)) (hL : bs.length ≤ sizeLine) (hu : ∀ b, b ∈ bs → A.units + 2 + (enc b).depth < cLine)
    (hQ : ∀ (h' : Heap) (d : Addr) (out : List Value) (m : Nat), (∀ b u, s.heap.get? b = some u → h'.get? b = some u) → s.heap.objs.size ≤ d → h'.get? d = some (seqObj "list" out.toArray m) → EachIs R out (bs.mergeSort (dataLe false enc)) → Q (.ref d) { s with heap := h' }) :
    wpAny (model prog w) A (call (.builtin "sorted") [.ref l]) Q E s := by
  have hsz : us.length ≤ sizeLine := by rw [e.length]; exact hL
  refine Calls.call_function_entry kind_sorted plain_sorted entry_sorted (args_sorted1 _) ?_
  unfold Builtin.«sorted»
  apply wpAny_bind (m := checkCount "sorted" 1 1 _)
  apply wpAny_pure
  refine wpAny_bind (took_seq hT ho hc hd hsz ?_)
  refine wpAny_bind (wpAny_newList ?_ hsz)
  generalize hh1 : tookH s.heap us = h1
  have k1 : ∀ b u, s.heap.get? b = some u → h1.get? b = some u := fun b u hb => by rw [← hh1]; exact tookH_old hb
  have hge : s.heap.objs.size ≤ h1.objs.size := by rw [← hh1, tookH_size]; omega
  have hs2 : (h1.push (seqObj "list" us.toArray 0)).get? h1.objs.size = some (seqObj "list" us.toArray 0) := Heap.get?_push_size _ rfl
  have k2 : ∀ b u, s.heap.get? b = some u → (h1.push (seqObj "list" us.toArray 0)).get? b = some u := fun b u hb => Heap.get?_push_of_some _ (k1 b u hb)
  have hlt : ∀ b u, s.heap.get? b = some u → b < h1.objs.size := fun b u hb => Heap.lt_size (k1 b u hb)
  have er2 : EachIs (fun v b => ∃ as, Reads (sortingHeap (h1.push (seqObj "list" us.toArray 0)) h1.objs.size us) v (enc b) as) us bs := each_mono (fun v b ⟨as, r⟩ => ⟨as, PyProof.Rows.Reads.keeps (fun b u hb => sortingHeap_old (Nat.ne_of_lt (hlt b u hb)) (k2 b u hb)) r⟩) er
  have hS := SortsAt.data (prog := prog) (w := w) (A := A.in1.in1) (s := { s with heap := sortingHeap (h1.push (seqObj "list" us.toArray 0)) h1.objs.size us }) (each_map (R := fun v d => ∃ as, Reads (sortingHeap (h1.push (seqObj "list" us.toArray 0)) h1.objs.size us) v d as) enc er2) hal hk (bound_map fun b hb => hu b hb)
  refine wpAny_bind (wpAny_holding ?_)
  refine wpAny_call_entry slot_list_sort ⟨_, hs2, rfl⟩ entry_list_sort ?_ (args_list_sort _)
  refine list_sort_vals (s := { s with heap := h1.push (seqObj "list" us.toArray 0) }) hs2 hS hsz ⟨.none, rfl, ?_⟩
  apply wpAny_pure
  obtain ⟨m, hm⟩ := sortedHeap_at (vs := us) (out := (sortVals (dataKind (sortingHeap (h1.push (seqObj "list" us.toArray 0)) h1.objs.size us) (bs.map enc)) false us us).toArray) hs2
  refine ⟨_, rfl, hQ _ _ _ m (fun b u hb => ?_) hge hm (sortVals_data false e er2 hal)⟩
  have q := k2 b u hb
  rw [← q]
  exact sortedHeap_old (Nat.ne_of_lt (hlt b u hb)) (Heap.lt_size q)
end
section
variable {X : Cx}
theorem cb_sorted (hu : X.A.units + 65 < cLine) : CallR X (.builtin "sorted") (rC X.K .f bSorted) := by
  intro pins s σ H vs us Q I r ⟨A, ds, d, tr, w, e, q⟩
  unfold bSorted at e
  split at e
  · obtain ⟨v, rfl, w1⟩ := p1 w
    obtain ⟨xs, e1, e⟩ := bind2 e
    split at e
    · next hok =>
      cases e
      obtain ⟨hal, hsh, hlen, hsb⟩ := okSort_facts hok
      obtain ⟨a, ys, rfl, ha, ra⟩ := w1.seq e1
      rw [ref1 r]
      obtain ⟨its, T, o, n, rv, hT, ho, hc, hd, hz⟩ : ∃ (its : List Value) (T : String) (o : Obj) (n : Nat), Vals ys its ∧ (T = "list" ∨ T = "tuple") ∧ s.heap.get? a = some o ∧ o.cls = .type T ∧ o.data = .seq its.toArray n ∧ ys.length ≤ sizeLine := by
        rcases ha with ha | ha
        · obtain ⟨its, rv, hl, hz⟩ := I.list (.of ha)
          obtain ⟨o, ho, hc, n, hd⟩ := hl.isList
          exact ⟨its, "list", o, n, rv, .inl rfl, ho, hc, hd, hz⟩
        · obtain ⟨its, rv, hl, hz⟩ := I.tuple (.of ha)
          obtain ⟨o, ho, hc, n, hd⟩ := hl
          exact ⟨its, "tuple", o, n, rv, .inr rfl, ho, hc, hd, hz⟩
      have hyl := ra.length
      have hme : (ys.zip xs).map Prod.snd = xs := List.map_snd_zip (by omega)
      have hE := zip_each rv ra
      refine sorted_seq (β := V × D) (enc := Prod.snd) (bs := ys.zip xs) (R := fun u (p : V × D) => RelV p.1 u ∧ Rp X.K A H p.1 p.2) hT ho hc hd hE (each_mem hE fun u p hp hr => ?_) (by rw [hme]; exact hal) (by rw [hme]; exact hsb) (by rw [List.length_zip]; omega) (fun p hp => ?_) fun h' d out m hk hp he eo => ?_
      · have hm : p.2 ∈ xs := (List.of_mem_zip (a := p.1) (b := p.2) hp).2
        exact Dp.reads I _ p.1 u ((WRp.dp (.inl hr.2) (hsh _ hm).1)) hr.1
      · have hm : p.2 ∈ xs := (List.of_mem_zip (a := p.1) (b := p.2) hp).2
        have := (hsh _ hm).2
        omega
      · obtain ⟨v1, r1⟩ := each_out eo
        have hsm : ((ys.zip xs).mergeSort (PySem.W.dataLe false Prod.snd)).map Prod.snd = xs.mergeSort (PySem.W.dataLe false id) := by
          have := PySem.W.sort_maps (r := PySem.W.dataLe false Prod.snd) (s := PySem.W.dataLe false id) (Prod.snd : V × D → D) (l := ys.zip xs) (fun _ _ _ _ => rfl)
          rw [this, hme]
        rw [hsm] at r1
        have hlo : (((ys.zip xs).mergeSort (PySem.W.dataLe false Prod.snd)).map Prod.fst).length ≤ sizeLine := by
          rw [List.length_map, List.length_mergeSort, List.length_zip]
          omega
        have hp' : H d = none := I.hok.fresh hp
        exact ⟨.ref d, upd H d (.lst (((ys.zip xs).mergeSort (PySem.W.dataLe false Prod.snd)).map Prod.fst)), I.laid (t' := s.toks) hk hp ⟨hlo, out, m, v1, he⟩, rfl, q _ _ (same_upd hp') (Res.newL tr hp' r1 (Same.refl H))⟩
    · cases e
  · cases e
end
end Pm

/-! Pm: {k: v for ..} with ints for keys, d.get(k, x). -/
namespace Pm
open PySem PySem.Spec PyProof.Rows L2
def dcK (kd : List (D × D)) (v : D) : D → Option (List (D × D))
  | .int i => some (dPutD kd i v)
  | _ => none
def dcL (g : XG) (t : PEnv → Option Bool) (fk fv : Xp) (ρ : PEnv) : List D → List (D × D) → Option (List (D × D))
  | [], kd => some kd
  | x :: xs, kd => (g x ρ).bind fun ρ1 => (t ρ1).bind fun b => if b then (fk ρ1).bind fun k => (fv ρ1).bind fun v => (dcK kd v k).bind fun kd2 => dcL g t fk fv ρ xs kd2 else dcL g t fk fv ρ xs kd
def xDc (it : XL) (g : XG) (t : PEnv → Option Bool) (fk fv : Xp) (own : List Nat) : Xp := fun ρ => (it ρ).bind fun ds => (if ds.length ≤ 16777216 then dcL g t fk fv (wipeP ρ own) ds [] else none).map .dict
theorem dcK_some {kd kd2 : List (D × D)} {v k : D} (h : dcK kd v k = some kd2) : ∃ i, k = .int i ∧ kd2 = dPutD kd i v := by
  unfold dcK at h
  split at h
  · next i => cases h; exact ⟨i, rfl, rfl⟩
  · cases h
theorem dputD_len (kd : List (D × D)) (i : Int) (v : D) : (dPutD kd i v).length ≤ kd.length + 1 := by
  unfold dPutD
  split
  · rw [List.length_map]; omega
  · rw [List.length_append, List.length_singleton]; omega
section
variable {X : Cx} {O ts : List Nat} {st : Bool} {m mk : Md} {tg iter kx vx : Expr} {ifs : List Expr} {scope : Scope} {own : List (Str × Nat)} {it : XL} {g : XG} {t : PEnv → Option Bool} {fk fv : Xp} {pos : Pos}
theorem dc_of (hm : m ≠ .w) (hts : ∀ i, ts.contains i = true → (own.map (·.2)).contains i = true) (hO : ∀ i ∈ own.map (·.2), i ∉ O) (σ : L2.St) (H : Hp) (Q : VK) (q : simT X.K O .f (xDc it g t fk fv (own.map (·.2))) σ H Q) :
    tDc (simI X.K O st it) (simG X.K O O ts g) (simTT X.K O t) (simT X.K O mk fk) (simT X.K O m fv) (own.map (·.2)) σ H Q := by
  obtain ⟨H0, A0, G, ρ, B, d, S, e, k⟩ := q
  obtain ⟨ds, eds, e⟩ := bind2 e
  obtain ⟨ys, eys, e⟩ := Option.map_eq_some_iff.mp e
  subst e
  split at eys
  case isFalse => cases eys
  case isTrue hsz =>
  refine ⟨H0, A0, G, ρ, B, ds, S, eds, fun J H1 gs s1 yl gr hz Dn hD => ?_⟩
  have hts' : ∀ i, ts.contains i = true → i ∉ O := fun i hi => hO i (by simpa using hts i hi)
  refine ⟨fun i n Hc => n = ds.length - i ∧ i ≤ ds.length ∧ Same H1 Hc ∧ ∃ ks dv kd, Hc Dn = some (.dK ks) ∧ RpL X.K (Av (Gd A0 Dn) B) Hc (ks.map (·.2)) dv ∧ kd = (ks.map fun p => keyD p.1).zip dv ∧ ks.length ≤ i ∧ dcL g t fk fv (wipeP ρ (own.map (·.2))) (ds.drop i) kd = some ys,
    ⟨ds.length, rfl, Nat.zero_le _, same_upd hD, [], [], [], upd_same, .nil, rfl, Nat.le_refl _, eys⟩, ?_⟩
  rintro i n Hc ⟨rfl, hi, sc, ks, dv, kd, hDc, rdv, ekd, hkl, epost⟩
  have Sg : Sim X.K H0 (Gd A0 Dn) G O σ Hc ρ B := (S.mono s1).guard hD sc ⟨_, hDc, NT.dK⟩
  have gw : ∀ p ∈ gs, WRp X.K (Av (Gd A0 Dn) B) Hc p.1 p.2 := fun p hp => (gr p hp).w.step sc fun a z => by
    rcases gd_av z with z | z
    · exact .inl z
    · exact .inr (by rw [z]; exact hD)
  by_cases hlt : i < ds.length
  · have ed : ds[i]? = some ds[i] := List.getElem?_eq_getElem hlt
    rw [List.drop_eq_getElem_cons hlt] at epost
    obtain ⟨hgo, hy⟩ := yl.go _ Hc i _ Sg.tr gw ed
    simp only [dcL] at epost
    obtain ⟨ρ1, eρ1, epost⟩ := bind2 epost
    obtain ⟨b, eb, epost⟩ := bind2 epost
    refine .inr ⟨hgo, fun H' => i + 1 ≤ ds.length ∧ Same H1 H' ∧ ∃ ks dv kd, H' Dn = some (.dK ks) ∧ RpL X.K (Av (Gd A0 Dn) B) H' (ks.map (·.2)) dv ∧ kd = (ks.map fun p => keyD p.1).zip dv ∧ ks.length ≤ i + 1 ∧ dcL g t fk fv (wipeP ρ (own.map (·.2))) (ds.drop (i + 1)) kd = some ys, fun H' hN => ?_, fun x H' hx => ?_⟩
    · obtain ⟨h1, h2, h3⟩ := hN
      exact ⟨ds.length - (i + 1), by omega, rfl, h1, h2, h3⟩
    · obtain ⟨s2, rx⟩ := hy x H' hx
      refine ⟨H0, Gd A0 Dn, G, wipeP ρ (own.map (·.2)), B, _, ρ1, (Sg.mono s2).wipe _ hO, rx, eρ1, fun σ2 c2 S2 => ?_⟩
      rw [restr_same Sg hts'] at S2
      refine ⟨wipe_eq c2 hts, H0, Gd A0 Dn, G, ρ1, B, b, S2, eb, fun H3 s3 => ?_⟩
      cases b with
      | true =>
        rw [if_pos rfl]
        rw [if_pos rfl] at epost
        obtain ⟨kk, ek, epost⟩ := bind2 epost
        obtain ⟨y, ey, epost⟩ := bind2 epost
        obtain ⟨kd2, ekd2, epost⟩ := bind2 epost
        refine ⟨H0, Gd A0 Dn, G, ρ1, B, kk, S2.mono s3, ek, fun kv H4 s4 r4 => ⟨H0, Gd A0 Dn, G, ρ1, B, y, (S2.mono s3).mono s4, ey, fun v H5 s5 r5 => ?_⟩⟩
        obtain ⟨ki, rfl, rfl⟩ := dcK_some ekd2
        · have r5' := r5.toS ((S2.mono s3).mono s4).tr hm
          have s25 := ((s2.trans s3).trans s4).trans s5
          have avD : Av (Gd A0 Dn) B Dn := .inl (.inr rfl)
          obtain ⟨ds', rr', ee'⟩ := dput_ok (i := ki) r5' (rdv.mono s25)
          have hlen := length_putK ks (Sum.inl ki) v
          refine ⟨ks, Sum.inl ki, r4.toW.int, s25 _ _ hDc, ?_, by omega, fun a o e => ?_, putK ks (Sum.inl ki) v, ds', _, upd_same, rr'.step (fun a o e n => ?_) fun _ z => .inl z, ee', by omega, by rw [← ekd]; exact epost⟩
          · have : (16777216 : Nat) = sizeLine := rfl
            omega
          · have hne : a ≠ Dn := fun z => by rw [z, hD] at e; cases e
            rw [upd_ne hne]
            exact s25 _ _ (sc _ _ e)
          · rw [upd_ne (fun z => n (by rw [z]; exact avD))]
            exact e
      | false =>
        rw [if_neg Bool.false_ne_true]
        rw [if_neg Bool.false_ne_true] at epost
        have s23 := s2.trans s3
        exact ⟨by omega, sc.trans s23, ks, dv, kd, s23 _ _ hDc, rdv.mono s23, ekd, by omega, epost⟩
  · have e : i = ds.length := by omega
    subst e
    refine .inl ⟨yl.stop _ Hc Sg.tr gw, ?_⟩
    rw [List.drop_length] at epost
    cases epost
    have hHD : H Dn = none := s1.free hD
    refine k _ Hc (s1.trans sc) (.inl ⟨Dn, rfl, hHD, .dic hDc (rdv.anti fun a z => ?_) ekd⟩)
    rcases z with z | z
    · rcases z with z | z
      · exact .inl (.inl z)
      · exact .inr z
    · exact .inl (.inr z)
theorem se_dc (hN : X.N.Nodup) (hi : SI X O st tg iter it) (ok : BlkOk X.N X.env.scope scope own) (hg : InBlk X scope fun Y => SG Y O O ts tg g) (ht : InBlk X scope fun Y => STs Y O ifs t) (hk : InBlk X scope fun Y => SE Y O mk kx fk) (he : InBlk X scope fun Y => SE Y O m vx fv)
    (hm : m ≠ .w := by decide) (hts : ts.all (fun i => (own.map (·.2)).contains i) = true := by rfl) (hO : (own.map (·.2)).all (fun i => !O.contains i) = true := by rfl) (hc : X.calm = true := by rfl) (hs : ∀ x, foldedSetIterable iter X.env x = pure x := by intro _; rfl) :
    SE X O .f (.DictComp kx vx [⟨tg, iter, ifs, 0⟩] scope pos) (xDc it g t fk fv (own.map (·.2))) :=
  ⟨pe_imp (pe_dc hc hN hi.pi ok (fun s H C cl fp => (hg s H C cl fp).pg) (fun s H C cl fp => (ht s H C cl fp).pts) (fun s H C cl fp => (hk s H C cl fp).pe) (fun s H C cl fp => (he s H C cl fp).pe) hs)
    (dc_of hm (fun i hi => by simpa using List.all_eq_true.mp hts i (by simpa using hi)) (fun i hi => by simpa using List.all_eq_true.mp hO i hi))⟩
end
/-! ### d.get(k, x) -/
def oGet2 : D → D → D → Option D
  | .dict kd, .int i, d => if (kd.any fun p => isNone p.1) then none else some ((dGetD kd i).getD d)
  | _, _, _ => none
def xGet2 (fo fe ff : Xp) : Xp := fun ρ => (fo ρ).bind fun x => (fe ρ).bind fun y => (ff ρ).bind fun z => oGet2 x y z
theorem dget_none {K : PySem.W.Frag} {A : Addr → Prop} {H : Hp} {i : Int} {ks : List (Key × V)} {ds : List D} (r : RpL K A H (ks.map (·.2)) ds) (h : dGetD ((ks.map fun p => keyD p.1).zip ds) i = none) : valV ks (Sum.inl i) = none := by
  have e := dhas_eq (i := i) r
  unfold dGetD at h
  rw [Option.map_eq_none_iff, List.find?_eq_none] at h
  have : dHasD ((ks.map fun p => keyD p.1).zip ds) i = false := by
    unfold dHasD
    rw [List.any_eq_false]
    exact h
  rw [this] at e
  cases hv : valV ks (Sum.inl i) with
  | none => rfl
  | some w => rw [hv] at e; cases e
section
variable {X : Cx} {O : List Nat} {m ma mb : Md} {k : Nat} {o a b : Expr} {fo fa fb : Xp} {apos cpos : Pos}
theorem se_dget2 (hr : Room k X.A) (ho : SE X O m o fo) (ha : SE X O ma a fa) (hb : SE X O mb b fb) (M : M2 X o "get" apos a b cpos) (hmb : mb ≠ .w := by decide) : SE X O .s (.Call (.Attribute o "get" apos) [a, b] [] cpos) (xGet2 fo fa fb) := by
  refine ⟨pe_imp (pe_dget2 (hu1 hr) ho.pe ha.pe hb.pe M) fun σ H Q q => ?_⟩
  obtain ⟨H0, A0, G, ρ, B, d, S, e, k⟩ := q
  obtain ⟨x, ex, e⟩ := bind2 e
  obtain ⟨y, ey, e⟩ := bind2 e
  obtain ⟨z, ez, e⟩ := bind2 e
  unfold oGet2 at e
  split at e
  · split at e
    · cases e
    · rename_i hn
      cases e
      refine ⟨H0, A0, G, ρ, B, _, S, ex, fun v H1 s1 r1 => ?_⟩
      obtain ⟨t, ks, ds, rfl, ht, rt, ek⟩ := r1.toW.dict (no_scr hn)
      refine ⟨t, rfl, .inl ⟨ks, .inl ht⟩, H0, A0, G, ρ, B, _, S.mono s1, ey, fun u H2 s2 r2 => ⟨H0, A0, G, ρ, B, _, (S.mono s1).mono s2, ez, fun w H3 s3 r3 => ?_⟩⟩
      have ht3 := s3 _ _ (s2 _ _ ht)
      have rt3 := (rt.mono s2).mono s3
      refine ⟨valV ks (Sum.inl _), by rw [r2.toW.int]; exact DGet.k (k := Sum.inl _) ht3, ?_⟩
      rw [ek] at k
      cases hv : dGetD ((ks.map fun p => keyD p.1).zip ds) _ with
      | none =>
        rw [hv] at k
        rw [dget_none rt3 hv]
        exact k _ H3 ((s1.trans s2).trans s3) (r3.toS ((S.mono s1).mono s2).tr hmb)
      | some d' =>
        rw [hv] at k
        obtain ⟨w', ew, rw'⟩ := dget_some rt3 hv
        rw [ew]
        exact k _ H3 ((s1.trans s2).trans s3) rw'
  · cases e
end
end Pm

/-! Pm: zip of a list and a tuple, in any mix. -/
namespace Pm
open PySem PySem.Spec PyProof.Rows L2
/-- a list, or a tuple -/
def SqB (b : Bool) (K : PySem.W.Frag) (H : Hp) (l : Addr) (vs : List V) : Prop := if b = true then SqL K H l vs else SqT K H l vs
def ItB (b : Bool) (h : Heap) (it l : Addr) (n : Nat) : Prop := if b = true then h.IsListIter it l n else h.IsTupleIter it l n
def OfB (b : Bool) (h : Heap) (l : Addr) (us : Array Value) : Prop := if b = true then h.IsList l us else h.IsTuple l us
def itO (b : Bool) (l : Addr) : Obj := if b = true then { cls := .type "list_iterator", data := .fields #[.ref l, .int 0 0] } else { cls := .type "tuple_iterator", data := .fields #[.ref l, .int 0 0] }
theorem ItB.obj {b : Bool} {h : Heap} {it l : Addr} {n : Nat} (st : ItB b h it l n) : ∃ o, h.get? it = some o ∧ ∀ v, o.data ≠ .cell v := by
  cases b with
  | true =>
    obtain ⟨o, e1, _, d1⟩ := (st : h.IsListIter it l n)
    exact ⟨o, e1, fun v q => by rw [d1] at q; cases q⟩
  | false =>
    obtain ⟨o, e1, _, d1⟩ := (st : h.IsTupleIter it l n)
    exact ⟨o, e1, fun v q => by rw [d1] at q; cases q⟩
theorem ItB.keep {b : Bool} {h h' : Heap} {it l : Addr} {n : Nat} (st : ItB b h it l n) (k : ∀ o, h.get? it = some o → h'.get? it = some o) : ItB b h' it l n := by
  cases b with
  | true => exact Heap.IsListIter.at (h := h) st fun o q => k o q
  | false => exact Heap.IsTupleIter.at (h := h) st fun o q => k o q
theorem draws_b {prog : Program} {w : World} {A : Around} (b : Bool) (hh : A.handled = none) (it l : Addr) (hne : l ≠ it) (us : Array Value) : Draws prog w A it [it, l] us.size (fun i v => us[i]? = some v) (fun i h => ItB b h it l i ∧ OfB b h l us) := by
  cases b with
  | true => exact Draws.list hh it l hne us
  | false => exact Draws.tuple hh it l hne us
theorem begins_b (b : Bool) (l : Addr) (us : Array Value) : Begins (.ref l) (itO b l) fun h => OfB b h l us := by
  cases b with
  | true => exact begins_list l us
  | false => exact begins_tuple l us
theorem itO_at {b : Bool} {h : Heap} {it l : Addr} (e : h.get? it = some (itO b l)) : ItB b h it l 0 := by
  cases b with
  | true => exact ⟨_, e, rfl, rfl⟩
  | false => exact ⟨_, e, rfl, rfl⟩
section
variable {X : Cx} {pins : List (Addr × Obj)} {σ : L2.St} {H : Hp} {s : Shared} {l : Addr}
theorem inv_b (I : Inv X pins σ H s) {b : Bool} {vs : List V} (h : SqB b X.K H l vs) : ∃ its : List Value, Vals vs its ∧ OfB b s.heap l its.toArray ∧ l < s.heap.objs.size := by
  cases b with
  | true =>
    obtain ⟨its, rv, p, _⟩ := I.list (show SqL X.K H l vs from h)
    exact ⟨its, rv, p.isList, p.lt⟩
  | false =>
    obtain ⟨its, rv, p, _⟩ := I.tuple (show SqT X.K H l vs from h)
    obtain ⟨o, ho, _⟩ := id p
    exact ⟨its, rv, p, Heap.lt_size ho⟩
theorem inv_binj (I : Inv X pins σ H s) {b : Bool} {vs ws : List V} (h : SqB b X.K H l vs) (h' : SqB b X.K H l ws) : vs = ws := by
  cases b with
  | true => exact I.list_inj h h'
  | false => exact I.tuple_inj h h'
end
def ItzM (b1 b2 : Bool) (K : PySem.W.Frag) (p q : Addr) : It where
  go := fun i H => ∃ (vs ws : List V) (x y : V), SqB b1 K H p vs ∧ SqB b2 K H q ws ∧ vs[i]? = some x ∧ ws[i]? = some y
  yld := fun i H v H' => ∃ T x y, v = .ref T ∧ H T = none ∧ H' = upd H T (.tup [x, y]) ∧ (∀ vs, SqB b1 K H p vs → vs[i]? = some x) ∧ ∀ ws, SqB b2 K H q ws → ws[i]? = some y
  stop := fun i H => ∃ vs ws : List V, SqB b1 K H p vs ∧ SqB b2 K H q ws ∧ i ≤ vs.length ∧ i ≤ ws.length ∧ (i = vs.length ∨ i = ws.length)
theorem turn_zipM {P : Program} {w : World} {K : PySem.W.Frag} {es : List Expr} {kk : Nat} {tpos : Pos} {b1 b2 : Bool} {p q z TI TO j1 j2 : Addr} (S : ZipSep2 z TI TO j1 j2 [j1, p] [j2, q]) (n1 : p ≠ j1) (n2 : q ≠ j2) :
    Turn P w K (.Tuple es kk tpos) (ItzM b1 b2 K p q) [z, TI, TO, j1, j2] z (fun i h => IsZip h z TI TO .none ∧ IsTupOf2 h TI (.ref j1) (.ref j2) ∧ (∃ x y, IsTupOf2 h TO x y) ∧ ItB b1 h j1 p i ∧ ItB b2 h j2 q i) where
  mem := List.mem_cons_self
  obj := fun i h st c hc => by
    obtain ⟨hz, hI, ⟨x, y, hO⟩, st1, st2⟩ := st
    simp only [List.mem_cons, List.not_mem_nil, or_false] at hc
    rcases hc with rfl | rfl | rfl | rfl | rfl
    · exact ⟨_, hz, fun v e => nomatch e⟩
    · exact ⟨_, hI, fun v e => nomatch e⟩
    · exact ⟨_, hO, fun v e => nomatch e⟩
    · exact st1.obj
    · exact st2.obj
  keep := fun i h h' st k => by
    obtain ⟨hz, hI, ⟨x, y, hO⟩, st1, st2⟩ := st
    refine ⟨k z (by simp) _ hz, k TI (by simp) _ hI, ⟨x, y, k TO (by simp) _ hO⟩, ?_, ?_⟩
    · exact st1.keep fun o e => k j1 (by simp) o e
    · exact st2.keep fun o e => k j2 (by simp) o e
  item := by
    intro X hP hw hK hc i pins s σ H E I hf st hg
    subst hP hw hK
    obtain ⟨hz, hI, ⟨x0, y0, hO⟩, st1, st2⟩ := st
    obtain ⟨vs, ws, x, y, g1, g2, e1, e2⟩ := hg
    obtain ⟨us, rv, pl, _⟩ := inv_b I g1
    obtain ⟨us2, rv2, pl2, _⟩ := inv_b I g2
    obtain ⟨u, hu, ru⟩ := rv.get e1
    obtain ⟨u2, hu2, ru2⟩ := rv2.get e2
    have hzl : z < s.heap.objs.size := Heap.lt_size hz
    have hh : X.A.in1.handled = none := I.ok.hd hc
    have D1 := draws_b (prog := X.prog) (w := X.w) (A := X.A.in1) b1 hh j1 p n1 us.toArray
    have D2 := draws_b (prog := X.prog) (w := X.w) (A := X.A.in1) b2 hh j2 q n2 us2.toArray
    have l1 : i < us.toArray.size := by have := (List.getElem?_eq_some_iff.mp hu).1; simpa using this
    have l2 : i < us2.toArray.size := by have := (List.getElem?_eq_some_iff.mp hu2).1; simpa using this
    refine wpAny_pyNext_zipD2_item S D1 D2 hz hI hO ⟨st1, pl⟩ ⟨st2, pl2⟩ l1 l2 fun a1 a2 h' tk q1 q2 z' O' t1 t2 hT hsz hk => ?_
    have ea1 : a1 = u := by
      rw [List.getElem?_toArray, hu] at q1
      exact (Option.some.inj q1).symm
    have ea2 : a2 = u2 := by
      rw [List.getElem?_toArray, hu2] at q2
      exact (Option.some.inj q2).symm
    subst ea1 ea2
    refine ⟨_, rfl, wpAny_letOwnedTupleGo_zip (s := { s with heap := h', toks := tk }) z' fun h2 z2 sb => ?_⟩
    have hT2 : h2.get? s.heap.objs.size = some { cls := .type "tuple", data := .seq #[a1, a2] } := by
      rw [← hT]
      exact sb.2 _ (Nat.ne_of_gt hzl)
    have hnew : ObjOk X.prog X.w (upd H s.heap.objs.size (.tup [x, y])) h2 s.heap.objs.size (.tup [x, y]) := by
      refine ⟨?_, [a1, a2], .cons ru (.cons ru2 .nil), ⟨_, hT2, rfl, _, rfl⟩⟩
      show 2 ≤ sizeLine
      decide
    have I2 : Inv X pins σ (upd H s.heap.objs.size (.tup [x, y])) { s with heap := h2, toks := tk } := by
      refine I.turnedNew (t' := tk) (ch := [z, TI, TO, j1, j2]) (fun c o hb e => ?_) hf (Nat.le_refl _) hnew
      simp only [List.mem_cons, List.not_mem_nil, or_false, not_or] at hb
      rw [← hk c o hb.1 hb.2.2.1 hb.2.2.2.1 hb.2.2.2.2 e]
      exact sb.2 c hb.1
    have up : ∀ c o, c ≠ z → h'.get? c = some o → h2.get? c = some o := fun c o hcz e => by rw [← e]; exact sb.2 c hcz
    refine ⟨.ref s.heap.objs.size, _, I2, rfl, ⟨_, x, y, rfl, I.hok.fresh (Nat.le_refl _), rfl, fun ls hls => ?_, fun ls hls => ?_⟩, ⟨z2, ?_, ⟨a1, a2, up _ _ S.TOz O'⟩, ?_, ?_⟩, fun c hcm => ?_⟩
    · rw [inv_binj I hls g1]
      exact e1
    · rw [inv_binj I hls g2]
      exact e2
    · exact up _ _ S.TIz (hk _ _ S.TIz S.TITO S.TIi1 S.TIi2 hI)
    · exact t1.1.keep fun o e => up _ o S.zi1.symm e
    · exact t2.1.keep fun o e => up _ o S.zi2.symm e
    · have hlt : c < s.heap.objs.size := by
        simp only [List.mem_cons, List.not_mem_nil, or_false] at hcm
        rcases hcm with rfl | rfl | rfl | rfl | rfl
        · exact hzl
        · exact Heap.lt_size hI
        · exact Heap.lt_size hO
        · obtain ⟨o, e, _⟩ := st1.obj
          exact Heap.lt_size e
        · obtain ⟨o, e, _⟩ := st2.obj
          exact Heap.lt_size e
      rw [upd_ne (Nat.ne_of_lt hlt)]
      exact (hf c hcm).1
  done := by
    intro X hP hw hK hc i pins s σ H E I hf st hg
    subst hP hw hK
    obtain ⟨hz, hI, ⟨x0, y0, hO⟩, st1, st2⟩ := st
    obtain ⟨vs, ws, g1, g2, m1, m2, hend⟩ := hg
    obtain ⟨us, rv, pl, _⟩ := inv_b I g1
    obtain ⟨us2, rv2, pl2, _⟩ := inv_b I g2
    have hh : X.A.in1.handled = none := I.ok.hd hc
    have D1 := draws_b (prog := X.prog) (w := X.w) (A := X.A.in1) b1 hh j1 p n1 us.toArray
    have D2 := draws_b (prog := X.prog) (w := X.w) (A := X.A.in1) b2 hh j2 q n2 us2.toArray
    have k1 := rv.length
    have k2 := rv2.length
    refine wpAny_pyNext_zipD2_end S D1 D2 hz hI hO ⟨st1, pl⟩ ⟨st2, pl2⟩ (by simp; omega) (by simp; omega) (by simp; omega) fun h' tk hk => ⟨rfl, ?_⟩
    refine I.turnedL (t' := tk) (ch := [z, TI, TO, j1, j2]) (fun c o hb e => ?_) hf
    simp only [List.mem_cons, List.not_mem_nil, or_false, not_or] at hb
    exact hk c o hb.1 hb.2.2.1 hb.2.2.2.1 hb.2.2.2.2 e
  self := fun A i s Q E st h => wpAny_pyIter_zip st.1 h
def iZipM (K : PySem.W.Frag) (ta : TA) : TI := fun σ H R => ta σ H fun vs H1 => ∃ b1 b2 p q xs ys, vs = [.ref p, .ref q] ∧ SqB b1 K H1 p xs ∧ SqB b2 K H1 q ys ∧ R (ItzM b1 b2 K p q) H1
theorem pi_zipM {X : Cx} {e e2 : Expr} {ta : TA} {p pos tpos : Pos} {es : List Expr} {kk : Nat} (hg : L2.Gl X "zip") (hm : X.mg "zip" = none) (ha : PA X [e, e2] ta)
    (hs : starEach [e, e2] X.env = (false, eval e X.env) :: starEach [e2] X.env := by rfl) (hpl : (backTo pos (starEach [e2] X.env)).any (·.1) = false := by rfl) :
    PI X (.Tuple es kk tpos) (.Call (.Name "zip" p) [e, e2] [] pos) (iZipM X.K ta) := by
  refine ⟨fun pins s σ H R I h => ?_⟩
  refine Call_ (ld_blt I hg hm PyProof.Rows.boot_zip (PyProof.Rows.callWith_type1 (thn (ha.run pos pins s σ H _ I h) fun us s1 ⟨vs, H1, I1, r1, q1⟩ => ?_) hs hpl))
  obtain ⟨b1, b2, l, m, xs, ys, rfl, g1, g2, k⟩ := q1
  obtain ⟨u1, u2, rfl, r, r'⟩ := vals2 r1
  obtain rfl : u1 = Value.ref l := r
  obtain rfl : u2 = Value.ref m := r'
  obtain ⟨ws, rv, pl, lt1⟩ := inv_b I1 g1
  obtain ⟨ws2, rv2, pl2, lt2⟩ := inv_b I1 g2
  refine zip_begins2 (begins_b b1 l ws.toArray) (begins_b b2 m ws2.toArray) pl pl2 fun h' hz hTI hTO o1 o2 hsz hk => wpAny_pyIter_zip hz ?_
  have I2 : Inv X pins σ H1 { s1 with heap := h' } := I1.kept (t' := s1.toks) hk
  have sep := zip_sep2 (N := s1.heap.objs.size) (fp1 := [l]) (fp2 := [m]) (by simpa using lt1) (by simpa using lt2)
  refine ⟨s1.heap.objs.size + 4, [s1.heap.objs.size + 4, s1.heap.objs.size + 2, s1.heap.objs.size + 3, s1.heap.objs.size, s1.heap.objs.size + 1], _, _, H1, rfl, I2, turn_zipM sep (Nat.ne_of_lt lt1) (Nat.ne_of_lt (Nat.lt_succ_of_lt lt2)), ⟨hz, hTI, ⟨_, _, hTO⟩, itO_at o1, itO_at o2⟩, fun c hcm => ?_, k⟩
  have hle : s1.heap.objs.size ≤ c := by
    simp only [List.mem_cons, List.not_mem_nil, or_false] at hcm
    rcases hcm with rfl | rfl | rfl | rfl | rfl <;> first | exact Nat.le_refl _ | exact Nat.le_add_right _ _
  exact I1.fpOk hle (I1.hok.fresh hle)
/-! ### as a rule -/
def isL : D → Bool
  | .list _ => true
  | _ => false
theorem WRp.seqB {K : PySem.W.Frag} {A : Addr → Prop} {H : Hp} {v : V} {d : D} {xs : List D} (h : WRp K A H v d) (e : seqD d = some xs) : ∃ a vs, v = .ref a ∧ SqB (isL d) K H a vs ∧ RpL K A H vs xs ∧ (H a = some (.lst vs) ∨ H a = some (.tup vs)) := by
  unfold seqD at e
  split at e
  · cases e
    obtain ⟨a, ys, rfl, ha, ra⟩ := h.lst
    exact ⟨a, ys, rfl, (.of ha : SqL K H a ys), ra, .inl ha⟩
  · cases e
    obtain ⟨a, ys, rfl, ha, na, ra⟩ := h.tup
    exact ⟨a, ys, rfl, (.of ha : SqT K H a ys), ra, .inr ha⟩
  · cases e
def oZipM : List D → Option (List D)
  | [x, y] => (seqD x).bind fun xs => (seqD y).bind fun ys => some (zipD xs ys)
  | _ => none
section
variable {X : Cx} {O : List Nat} {st : Bool} {a b : Expr} {fs : XL} {p pos : Pos}
theorem si_zipM {tpos : Pos} {elts : List Expr} {kk : Nat} (hm : X.mg "zip" = none) (ha : SA X O st [a, b] fs) (hg : L2.Gl X "zip" := by rfl)
    (hs : starEach [a, b] X.env = (false, eval a X.env) :: starEach [b] X.env := by rfl) (hpl : (backTo pos (starEach [b] X.env)).any (·.1) = false := by rfl) : SI X O st (.Tuple elts kk tpos) (.Call (.Name "zip" p) [a, b] [] pos) (xIt oZipM fs) := by
  refine ⟨pi_imp (pi_zipM hg hm (pa_ok ha.pa) hs hpl) fun σ H R q => ?_⟩
  obtain ⟨H0, A0, G, ρ, B, ds, S, e, k⟩ := q
  obtain ⟨d, ed, e⟩ := bind2 e
  refine ⟨H0, A0, G, ρ, B, _, S, ed, fun vs H1 s1 r1 ok => ?_⟩
  unfold oZipM at e
  split at e
  · rename_i x y
    obtain ⟨xs, ex, e⟩ := bind2 e
    obtain ⟨ys, ey, e⟩ := bind2 e
    cases e
    obtain ⟨v, u, rfl, sr, sr'⟩ := rsL2 r1
    obtain ⟨t, ws, rfl, qt, rt, ht⟩ := sr.w.seqB ex
    obtain ⟨t', ws', rfl, qt', rt', ht'⟩ := sr'.w.seqB ey
    refine ⟨isL x, isL y, t, t', ws, ws', rfl, qt, qt', k _ H1 [(.ref t, x), (.ref t', y)] s1 ⟨fun A H i d tr g e => ?_, fun A H tr g => ?_⟩ (fun p hp => ?_) ?_⟩
    · obtain ⟨x1, y1, ex1, ey1, rfl⟩ := zipD_get e
      obtain ⟨b, zs, eb, hb, rb, _⟩ := (g _ (List.mem_cons_self)).seqB ex
      obtain ⟨b', zs', eb', hb', rb', _⟩ := (g _ (List.mem_cons_of_mem _ List.mem_cons_self)).seqB ey
      cases eb
      cases eb'
      obtain ⟨x2, ex2, rx2⟩ := rb.get ex1
      obtain ⟨y2, ey2, ry2⟩ := rb'.get ey1
      refine ⟨⟨zs, zs', x2, y2, hb, hb', ex2, ey2⟩, fun z H' hy => ?_⟩
      obtain ⟨T, u, w, rfl, hT, rfl, hu, hw⟩ := hy
      have e1 := hu zs hb
      have e2 := hw zs' hb'
      rw [ex2] at e1
      rw [ey2] at e2
      cases e1
      cases e2
      exact ⟨same_upd hT, rp_pair tr hT rx2 ry2⟩
    · obtain ⟨b, zs, eb, hb, rb, _⟩ := (g _ (List.mem_cons_self)).seqB ex
      obtain ⟨b', zs', eb', hb', rb', _⟩ := (g _ (List.mem_cons_of_mem _ List.mem_cons_self)).seqB ey
      cases eb
      cases eb'
      refine ⟨zs, zs', hb, hb', ?_⟩
      rw [zipD_len, rb.length, rb'.length]
      omega
    · have z : p = (.ref t, x) ∨ p = (.ref t', y) := by simpa using hp
      rcases z with rfl | rfl
      · exact sr
      · exact sr'
    · rw [zipD_len, ← rt.length]
      have := ok t ws ht
      omega
  · cases e
end
end Pm

/-! Pm: the least and the greatest of data, with default=. -/
namespace Pm
open PySem PySem.Spec PyProof.Rows L2
/-- data that can be compared with one another -/
def okCmp (ds : List D) : Bool := (ds.all fun x => ds.all fun y => PySem.W.alike x y) && ds.all fun x => shp x && decide (x.depth ≤ 20) && (match x with | .none => false | _ => true)
def pickD (f : D → List D → D) (o : Option D) : List D → Option D
  | [] => o
  | y :: ys => some (f y ys)
def bMinD : List D → Option D
  | [x] => (seqD x).bind fun ds => if okCmp ds then pickD PySem.W.minD none ds else none
  | _ => none
def bMaxD : List D → Option D
  | [x] => (seqD x).bind fun ds => if okCmp ds then pickD PySem.W.maxD none ds else none
  | _ => none
def bMinK (xs : List D) (o : D) : Option D :=
  match xs with
  | [x] => (seqD x).bind fun ds => if okCmp ds then pickD PySem.W.minD (some o) ds else none
  | _ => none
def bMaxK (xs : List D) (o : D) : Option D :=
  match xs with
  | [x] => (seqD x).bind fun ds => if okCmp ds then pickD PySem.W.maxD (some o) ds else none
  | _ => none
theorem okCmp_facts {ds : List D} (h : okCmp ds = true) : PySem.W.AlikeAll ds ∧ ∀ x ∈ ds, shp x = true ∧ x.depth ≤ 20 := by
  unfold okCmp at h
  rw [Bool.and_eq_true] at h
  obtain ⟨h1, h2⟩ := h
  have h2 := List.all_eq_true.mp h2
  refine ⟨⟨fun d hd d' hd' => List.all_eq_true.mp (List.all_eq_true.mp h1 d hd) d' hd', fun x hx e => ?_⟩, fun x hx => ?_⟩
  · have := h2 x hx
    subst e
    simp at this
  · have := h2 x hx
    rw [Bool.and_eq_true, Bool.and_eq_true, decide_eq_true_eq] at this
    exact this.1
theorem depth_all : ∀ {ds : List D}, (∀ x ∈ ds, x.depth ≤ 20) → PyData.depthAll ds ≤ 20
  | [], _ => Nat.zero_le _
  | x :: xs, h => by
    unfold PyData.depthAll
    exact Nat.max_le.mpr ⟨h x (by simp), depth_all fun y hy => h y (List.mem_cons_of_mem _ hy)⟩
theorem reads_all {X : Cx} {pins : List (Addr × Obj)} {s : Shared} {σ : L2.St} {A : Addr → Prop} {H : Hp} (I : Inv X pins σ H s) : ∀ {vs : List V} {us : List Value} {ds : List D}, Vals vs us → RpL X.K A H vs ds → (∀ x ∈ ds, shp x = true) → ∃ as, ReadsAll s.heap us ds as
  | _, _, _, .nil, .nil, _ => ⟨_, .nil⟩
  | _, _, _, .cons h r, .cons h' r', hs => by
    obtain ⟨as, e⟩ := reads_all I r r' fun x hx => hs x (List.mem_cons_of_mem _ hx)
    obtain ⟨bs, e'⟩ := Dp.reads I _ _ _ (WRp.dp (.inl h') (hs _ (by simp))) h
    exact ⟨_, .cons e' e⟩
/-- iter(l) of a list or a tuple -/
theorem iter_any {prog : Program} {w : World} {A : Around} {E : Value → Shared → Prop} {s : Shared} {l : Addr} {vs : Array Value} {Q : Value → Shared → Prop} (hh : A.handled = none) (hl : s.heap.IsList l vs ∨ s.heap.IsTuple l vs)
    (h : ∀ (fp : List Addr) (St : Nat → Shared → Prop) (s₂ : Shared) (o : Obj), s₂ = { s with heap := s.heap.push o } → WalksS prog w A s.heap.objs.size fp [s.heap.objs.size] (fun a b => b = a) vs.size (fun i v => vs[i]? = some v) St → St 0 s₂ → (∀ b ∈ fp, b < s₂.heap.objs.size) →
      (∀ b o, s.heap.get? b = some o → b ∉ [s.heap.objs.size]) → (∀ b o, s.heap.get? b = some o → s₂.heap.get? b = some o) → Q (.ref s.heap.objs.size) s₂) :
    wpAny (model prog w) A (pyIter (.ref l)) Q E s := by
  rcases hl with hl | hl
  · exact PySem.W.iter_listW hh hl fun s₂ e W st hfp hw hk => h _ _ s₂ _ e W st hfp hw hk
  · exact PySem.W.iter_tupleW hh hl fun s₂ e W st hfp hw hk => h _ _ s₂ _ e W st hfp hw hk
section
variable {prog : Program} {w : World} {A : Around} {E : Value → Shared → Prop} {s : Shared}
theorem min_pick {l : Addr} {vs : Array Value} {x : D} {xs : List D} {as : List Addr} {Q : Value → Shared → Prop} (hh : A.handled = none) (hl : s.heap.IsList l vs ∨ s.heap.IsTuple l vs) (hr : ReadsAll s.heap vs.toList (x :: xs) as) (ha : PySem.W.AlikeAll (x :: xs)) (hu : A.units + 1 + PyData.depthAll (x :: xs) < cLine)
    (h : ∀ (i : Nat) v h' tk, vs[i]? = some v → (x :: xs).getD i .none = PySem.W.minD x xs → (∀ b o, s.heap.get? b = some o → h'.get? b = some o) → Q v { s with heap := h', toks := tk }) :
    wpAny (model prog w) A (call (.builtin "min") [.ref l]) Q E s := by
  have hn : vs.size = xs.length + 1 := PySem.W.readsAll_len hr
  refine PySem.call_min_walkH (iter_any (A := A.in1) hh hl fun fp St s₂ o e W st hfp hw hk => ?_)
  refine ⟨_, _, _, _, _, _, _, s.heap, _, rfl, W, st, hfp, by omega, hw, hk, PySem.W.cmpIn_lt (A := A.in1) hr ha (by show A.units + 1 + _ < _; exact hu), fun v s' hP m => ?_⟩
  obtain ⟨h', tk, rfl, hk'⟩ := PySem.W.moved_old e rfl m
  have e1 : vs.size - 1 = xs.length := by omega
  have e2 := (PySem.W.argBest_fold PySem.W.dataLt PyData.none x xs xs.length (Nat.le_refl _)).2
  rw [List.take_length, ← e1] at e2
  exact h _ v h' tk hP e2 hk'
theorem max_pick {l : Addr} {vs : Array Value} {x : D} {xs : List D} {as : List Addr} {Q : Value → Shared → Prop} (hh : A.handled = none) (hl : s.heap.IsList l vs ∨ s.heap.IsTuple l vs) (hr : ReadsAll s.heap vs.toList (x :: xs) as) (ha : PySem.W.AlikeAll (x :: xs)) (hu : A.units + 1 + PyData.depthAll (x :: xs) < cLine)
    (h : ∀ (i : Nat) v h' tk, vs[i]? = some v → (x :: xs).getD i .none = PySem.W.maxD x xs → (∀ b o, s.heap.get? b = some o → h'.get? b = some o) → Q v { s with heap := h', toks := tk }) :
    wpAny (model prog w) A (call (.builtin "max") [.ref l]) Q E s := by
  have hn : vs.size = xs.length + 1 := PySem.W.readsAll_len hr
  refine PySem.call_max_walkH (iter_any (A := A.in1) hh hl fun fp St s₂ o e W st hfp hw hk => ?_)
  refine ⟨_, _, _, _, _, _, _, s.heap, _, rfl, W, st, hfp, by omega, hw, hk, PySem.W.cmpIn_gt (A := A.in1) hr ha (by show A.units + 1 + _ < _; exact hu), fun v s' hP m => ?_⟩
  obtain ⟨h', tk, rfl, hk'⟩ := PySem.W.moved_old e rfl m
  have e1 : vs.size - 1 = xs.length := by omega
  have e2 := (PySem.W.argBest_fold (fun a b => PySem.W.dataLt b a) PyData.none x xs xs.length (Nat.le_refl _)).2
  rw [List.take_length, ← e1] at e2
  exact h _ v h' tk hP e2 hk'
theorem min_pickD {l : Addr} {vs : Array Value} {xs : List D} {as : List Addr} {d : Value} {Q : Value → Shared → Prop} (hh : A.handled = none) (hl : s.heap.IsList l vs ∨ s.heap.IsTuple l vs) (hr : ReadsAll s.heap vs.toList xs as) (ha : PySem.W.AlikeAll xs) (hu : A.units + 1 + PyData.depthAll xs < cLine)
    (h0 : xs = [] → ∀ h' tk, (∀ b o, s.heap.get? b = some o → h'.get? b = some o) → Q d { s with heap := h', toks := tk })
    (h : ∀ (y : D) (ys : List D) (i : Nat) v h' tk, xs = y :: ys → vs[i]? = some v → (y :: ys).getD i .none = PySem.W.minD y ys → (∀ b o, s.heap.get? b = some o → h'.get? b = some o) → Q v { s with heap := h', toks := tk }) :
    wpAny (model prog w) A (call (.builtin "min") [.ref l] [(Str.ofString "default", d)]) Q E s := by
  have hn : vs.size = xs.length := PySem.W.readsAll_len hr
  refine PySem.call_min_walkD (iter_any (A := A.in1) hh hl fun fp St s₂ o e W st hfp hw hk => ?_)
  refine ⟨_, _, _, _, _, _, _, s.heap, (fun i j => PySem.W.dataLt (xs.getD i .none) (xs.getD j .none)), rfl, W, st, hfp, hw, hk, fun hz s' m => ?_, fun hp => ⟨PySem.W.cmpIn_lt (A := A.in1) hr ha (by show A.units + 1 + _ < _; exact hu), fun v s' hP m => ?_⟩⟩
  · obtain ⟨h', tk, rfl, hk'⟩ := PySem.W.moved_old e rfl m
    exact h0 (List.eq_nil_of_length_eq_zero (by omega)) h' tk hk'
  · obtain ⟨h', tk, rfl, hk'⟩ := PySem.W.moved_old e rfl m
    cases xs with
    | nil => exact absurd hp (by rw [hn]; exact Nat.lt_irrefl 0)
    | cons y ys =>
      have e1 : vs.size - 1 = ys.length := by rw [hn]; rfl
      have e2 := (PySem.W.argBest_fold PySem.W.dataLt PyData.none y ys ys.length (Nat.le_refl _)).2
      rw [List.take_length, ← e1] at e2
      exact h y ys _ v h' tk rfl hP e2 hk'
theorem max_pickD {l : Addr} {vs : Array Value} {xs : List D} {as : List Addr} {d : Value} {Q : Value → Shared → Prop} (hh : A.handled = none) (hl : s.heap.IsList l vs ∨ s.heap.IsTuple l vs) (hr : ReadsAll s.heap vs.toList xs as) (ha : PySem.W.AlikeAll xs) (hu : A.units + 1 + PyData.depthAll xs < cLine)
    (h0 : xs = [] → ∀ h' tk, (∀ b o, s.heap.get? b = some o → h'.get? b = some o) → Q d { s with heap := h', toks := tk })
    (h : ∀ (y : D) (ys : List D) (i : Nat) v h' tk, xs = y :: ys → vs[i]? = some v → (y :: ys).getD i .none = PySem.W.maxD y ys → (∀ b o, s.heap.get? b = some o → h'.get? b = some o) → Q v { s with heap := h', toks := tk }) :
    wpAny (model prog w) A (call (.builtin "max") [.ref l] [(Str.ofString "default", d)]) Q E s := by
  have hn : vs.size = xs.length := PySem.W.readsAll_len hr
  refine PySem.call_max_walkD (iter_any (A := A.in1) hh hl fun fp St s₂ o e W st hfp hw hk => ?_)
  refine ⟨_, _, _, _, _, _, _, s.heap, (fun i j => PySem.W.dataLt (xs.getD j .none) (xs.getD i .none)), rfl, W, st, hfp, hw, hk, fun hz s' m => ?_, fun hp => ⟨PySem.W.cmpIn_gt (A := A.in1) hr ha (by show A.units + 1 + _ < _; exact hu), fun v s' hP m => ?_⟩⟩
  · obtain ⟨h', tk, rfl, hk'⟩ := PySem.W.moved_old e rfl m
    exact h0 (List.eq_nil_of_length_eq_zero (by omega)) h' tk hk'
  · obtain ⟨h', tk, rfl, hk'⟩ := PySem.W.moved_old e rfl m
    cases xs with
    | nil => exact absurd hp (by rw [hn]; exact Nat.lt_irrefl 0)
    | cons y ys =>
      have e1 : vs.size - 1 = ys.length := by rw [hn]; rfl
      have e2 := (PySem.W.argBest_fold (fun a b => PySem.W.dataLt b a) PyData.none y ys ys.length (Nat.le_refl _)).2
      rw [List.take_length, ← e1] at e2
      exact h y ys _ v h' tk rfl hP e2 hk'
end
section
variable {X : Cx}
/-- the heap's list or tuple behind a walked name -/
theorem seq_its {pins : List (Addr × Obj)} {s : Shared} {σ : L2.St} {H : Hp} {a : Addr} {ys : List V} (I : Inv X pins σ H s) (ha : H a = some (.lst ys) ∨ H a = some (.tup ys)) : ∃ its : List Value, Vals ys its ∧ (s.heap.IsList a its.toArray ∨ s.heap.IsTuple a its.toArray) := by
  rcases ha with ha | ha
  · obtain ⟨its, rv, hl, hz⟩ := I.list (.of ha)
    exact ⟨its, rv, .inl hl.isList⟩
  · obtain ⟨its, rv, hl, hz⟩ := I.tuple (.of ha)
    exact ⟨its, rv, .inr hl⟩
theorem its_pick {A : Addr → Prop} {H : Hp} {ys : List V} {its : List Value} {ds : List D} {i : Nat} {v : Value} {d : D} (rv : Vals ys its) (ra : RpL X.K A H ys ds) (h : its.toArray[i]? = some v) (e : ds.getD i .none = d) : ∃ x, RelV x v ∧ Rp X.K A H x d := by
  have h' : its[i]? = some v := by simpa using h
  have hi : i < its.length := (List.getElem?_eq_some_iff.mp h').1
  have l1 := rv.length
  have l2 := ra.length
  have hd : ds[i]? = some d := by
    rw [List.getD_eq_getElem?_getD] at e
    rw [List.getElem?_eq_getElem (by omega), Option.getD_some] at e
    rw [List.getElem?_eq_getElem (by omega), e]
  obtain ⟨x, e1, e2⟩ := ra.get hd
  obtain ⟨u, e3, e4⟩ := rv.get e1
  rw [h'] at e3
  cases e3
  exact ⟨x, e4, e2⟩
theorem cb_minD (hu : X.A.units + 65 < cLine) (hc : X.calm = true := by rfl) : CallR X (.builtin "min") (rC X.K .s bMinD) := by
  intro pins s σ H vs us Q I r ⟨A, ds, d, tr, w, e, q⟩
  unfold bMinD at e
  split at e
  · obtain ⟨v, rfl, w1⟩ := p1 w
    obtain ⟨xs, e1, e⟩ := bind2 e
    split at e
    · next hok =>
      obtain ⟨hal, hsh⟩ := okCmp_facts hok
      obtain ⟨a, ys, rfl, ha, ra⟩ := w1.seq e1
      rw [ref1 r]
      obtain ⟨its, rv, hl⟩ := seq_its I ha
      obtain ⟨as, rd⟩ := reads_all I rv ra fun x hx => (hsh x hx).1
      cases xs with
      | nil => cases e
      | cons y zs =>
        cases e
        have hdp := depth_all fun x hx => (hsh x hx).2
        refine min_pick (I.ok.hd hc) hl rd hal (by omega) fun i v h' tk hv he hk => ?_
        obtain ⟨x, rx, px⟩ := its_pick rv ra hv he
        exact ⟨x, H, I.kept hk, rx, q _ H (Same.refl H) px⟩
    · cases e
  · cases e
theorem cb_maxD (hu : X.A.units + 65 < cLine) (hc : X.calm = true := by rfl) : CallR X (.builtin "max") (rC X.K .s bMaxD) := by
  intro pins s σ H vs us Q I r ⟨A, ds, d, tr, w, e, q⟩
  unfold bMaxD at e
  split at e
  · obtain ⟨v, rfl, w1⟩ := p1 w
    obtain ⟨xs, e1, e⟩ := bind2 e
    split at e
    · next hok =>
      obtain ⟨hal, hsh⟩ := okCmp_facts hok
      obtain ⟨a, ys, rfl, ha, ra⟩ := w1.seq e1
      rw [ref1 r]
      obtain ⟨its, rv, hl⟩ := seq_its I ha
      obtain ⟨as, rd⟩ := reads_all I rv ra fun x hx => (hsh x hx).1
      cases xs with
      | nil => cases e
      | cons y zs =>
        cases e
        have hdp := depth_all fun x hx => (hsh x hx).2
        refine max_pick (I.ok.hd hc) hl rd hal (by omega) fun i v h' tk hv he hk => ?_
        obtain ⟨x, rx, px⟩ := its_pick rv ra hv he
        exact ⟨x, H, I.kept hk, rx, q _ H (Same.refl H) px⟩
    · cases e
  · cases e
/-! ### default= -/
def rCK (K : PySem.W.Frag) (g : List D → D → Option D) : List V → List V → Hp → VK → Prop := fun vs zs H Q => ∃ A ds z x d, Tr A H ∧ Paired (WRp K A H) vs ds ∧ zs = [z] ∧ Rp K A H z x ∧ g ds x = some d ∧ ∀ v H', Same H H' → Res K A H H' .s v d → Q v H'
def xCallK (g : List D → D → Option D) (fs : XL) (fd : Xp) : Xp := fun ρ => (fs ρ).bind fun ds => (fd ρ).bind fun x => g ds x
theorem weak_mono {K : PySem.W.Frag} {A : Addr → Prop} {H H' : Hp} (s : Same H H') {vs : List V} {ds : List D} (w : Paired (WRp K A H) vs ds) : Paired (WRp K A H') vs ds := by
  induction w with
  | nil => exact .nil
  | cons h r ih => exact .cons (WRp.mono s h) ih
theorem vals_one {z : V} {ws : List Value} (h : Vals [z] ws) : ∃ w, ws = [w] ∧ RelV z w := by
  cases h with
  | cons h r => cases r with | nil => exact ⟨_, rfl, h⟩
theorem cb_minK (hu : X.A.units + 65 < cLine) (hc : X.calm = true := by rfl) : CallRK X (.builtin "min") [Str.ofString "default"] (rCK X.K bMinK) := by
  intro pins s σ H vs zs us ws Q I r rz ⟨A, ds, z, o, d, tr, w, ez, pz, e, q⟩
  subst ez
  obtain ⟨w0, rfl, rw0⟩ := vals_one rz
  unfold bMinK at e
  split at e
  · obtain ⟨v, rfl, w1⟩ := p1 w
    obtain ⟨xs, e1, e⟩ := bind2 e
    split at e
    · next hok =>
      obtain ⟨hal, hsh⟩ := okCmp_facts hok
      obtain ⟨a, ys, rfl, ha, ra⟩ := w1.seq e1
      rw [ref1 r]
      obtain ⟨its, rv, hl⟩ := seq_its I ha
      obtain ⟨as, rd⟩ := reads_all I rv ra fun x hx => (hsh x hx).1
      have hdp := depth_all fun x hx => (hsh x hx).2
      refine min_pickD (I.ok.hd hc) hl rd hal (by omega) (fun hz h' tk hk => ?_) fun y zs i v h' tk hxs hv he hk => ?_
      · subst hz
        cases e
        exact ⟨z, H, I.kept hk, rw0, q _ H (Same.refl H) pz⟩
      · subst hxs
        cases e
        obtain ⟨x, rx, px⟩ := its_pick rv ra hv he
        exact ⟨x, H, I.kept hk, rx, q _ H (Same.refl H) px⟩
    · cases e
  · cases e
theorem cb_maxK (hu : X.A.units + 65 < cLine) (hc : X.calm = true := by rfl) : CallRK X (.builtin "max") [Str.ofString "default"] (rCK X.K bMaxK) := by
  intro pins s σ H vs zs us ws Q I r rz ⟨A, ds, z, o, d, tr, w, ez, pz, e, q⟩
  subst ez
  obtain ⟨w0, rfl, rw0⟩ := vals_one rz
  unfold bMaxK at e
  split at e
  · obtain ⟨v, rfl, w1⟩ := p1 w
    obtain ⟨xs, e1, e⟩ := bind2 e
    split at e
    · next hok =>
      obtain ⟨hal, hsh⟩ := okCmp_facts hok
      obtain ⟨a, ys, rfl, ha, ra⟩ := w1.seq e1
      rw [ref1 r]
      obtain ⟨its, rv, hl⟩ := seq_its I ha
      obtain ⟨as, rd⟩ := reads_all I rv ra fun x hx => (hsh x hx).1
      have hdp := depth_all fun x hx => (hsh x hx).2
      refine max_pickD (I.ok.hd hc) hl rd hal (by omega) (fun hz h' tk hk => ?_) fun y zs i v h' tk hxs hv he hk => ?_
      · subst hz
        cases e
        exact ⟨z, H, I.kept hk, rw0, q _ H (Same.refl H) pz⟩
      · subst hxs
        cases e
        obtain ⟨x, rx, px⟩ := its_pick rv ra hv he
        exact ⟨x, H, I.kept hk, rx, q _ H (Same.refl H) px⟩
    · cases e
  · cases e
variable {O : List Nat} {st : Bool} {e eo : Expr} {es : List Expr} {fs : XL} {fo : Xp} {pos kpos : Pos} {m : Md}
theorem se_callK {x : Str} {p : Pos} {id : String} {ks : Str} {g : List D → D → Option D} (hc : CallRK X (.builtin id) [ks] (rCK X.K g)) (hm : X.mg x = none) (ha : SA X O st (e :: es) fs) (ho : SE X O m eo fo) (hmw : m ≠ .w := by decide) (hg : L2.Gl X x := by rfl) (hv : bootBuiltins x = some (.builtin id) := by rfl) (hn : x ≠ "__name__" := by decide) (hdb : (x == ("__debug__" : Str)) = false := by decide)
    (he : backTo pos (starEach (e :: es) X.env) = (false, eval e X.env) :: backTo pos (starEach es X.env) := by rfl) (hpl : (backTo pos (starEach (e :: es) X.env)).any (·.1) = false := by rfl)
    (hall : (backToKw pos (keywordEach [⟨some ks, eo, kpos⟩] X.env)).all (·.1.isSome) = true := by rfl) (hnone : (backToKw pos (keywordEach [⟨some ks, eo, kpos⟩] X.env)).any (·.1.isNone) = false := by rfl) (hks : (backToKw pos (keywordEach [⟨some ks, eo, kpos⟩] X.env)).filterMap (·.1) = [ks] := by rfl) :
    SE X O .s (.Call (.Name x p) (e :: es) [⟨some ks, eo, kpos⟩] pos) (xCallK g fs fo) := by
  refine ⟨pe_imp (pe_callBK hc hg hm hv ha.pa (pk_cons ho.pe pk_nil) hn hdb he hpl hall hnone hks) fun σ H Q q => ?_⟩
  obtain ⟨H0, A0, G, ρ, B, d, S, e, k⟩ := q
  obtain ⟨ds, ex, e⟩ := bind2 e
  obtain ⟨x, eo, e⟩ := bind2 e
  exact ⟨H0, A0, G, ρ, B, ds, S, ex, fun vs H1 s1 r1 => ⟨H0, A0, G, ρ, B, x, S.mono s1, eo, fun z H2 s2 r2 => ⟨Av A0 B, ds, z, x, d, (S.mono (s1.trans s2)).tr, (weak_mono s2 (ResL.weak r1)), rfl, r2.toS (S.mono s1).tr hmw, e, fun v H' s r => k v H' ((s1.trans s2).trans s) r⟩⟩⟩
end
end Pm

/-! Pm: the least of typed data, for the plain mathematics. -/
namespace Pm
open PySem PySem.Spec PySem.W PyProof.Rows L2
abbrev lt' {α : Type} [DecidableEq α] [DatumOrd α] (a b : α) : Bool := DatumOrd.lt a b
/-- a linear order of data that may be laid and compared -/
class LinD (α : Type) [DecidableEq α] [DatumOrd α] : Prop where
  tri : ∀ a b : α, lt' a b = false → lt' b a = false → a = b
  trans : ∀ a b c : α, lt' a b = false → lt' b c = false → lt' a c = false
  asym : ∀ a b : α, lt' a b = false ∨ lt' b a = false
  lay : ∀ a : α, (Datum.toD a).canLay0 = true
instance : LinD Int where
  tri a b h1 h2 := by
    have h1 := of_decide_eq_false h1
    have h2 := of_decide_eq_false h2
    omega
  trans a b c h1 h2 := by
    have h1 := of_decide_eq_false h1
    have h2 := of_decide_eq_false h2
    exact decide_eq_false (by omega)
  asym a b := by
    by_cases h : a < b
    · exact .inr (decide_eq_false (by omega))
    · exact .inl (decide_eq_false h)
  lay a := by show (PyData.int a).canLay0 = true; simp [PyData.canLay0]
section
variable {α β : Type} [DecidableEq α] [DatumOrd α] [LinD α] [DecidableEq β] [DatumOrd β] [LinD β]
theorem lt_irr (a : α) : lt' a a = false := (DatumOrd.lt_eq a a).symm.trans (dataLt_self _)
theorem lLt_cc (x y : α) (xs ys : List α) : listLt (x :: xs) (y :: ys) = if x = y then listLt xs ys else lt' x y := rfl
theorem lLt_tri : ∀ xs ys : List α, listLt xs ys = false → listLt ys xs = false → xs = ys
  | [], [], _, _ => rfl
  | [], _ :: _, h, _ => by cases h
  | _ :: _, [], _, h => by cases h
  | x :: xs, y :: ys, h1, h2 => by
    rw [lLt_cc] at h1 h2
    by_cases h : x = y
    · subst h
      rw [if_pos rfl] at h1 h2
      rw [lLt_tri xs ys h1 h2]
    · rw [if_neg h] at h1
      rw [if_neg (Ne.symm h)] at h2
      exact absurd (LinD.tri _ _ h1 h2) h
theorem lLt_trans : ∀ xs ys zs : List α, listLt xs ys = false → listLt ys zs = false → listLt xs zs = false
  | [], ys, zs, h1, h2 => by
    have : ys = [] := by
      cases ys with
      | nil => rfl
      | cons _ _ => cases h1
    subst this
    exact h2
  | x :: xs, [], zs, h1, h2 => by
    have : zs = [] := by
      cases zs with
      | nil => rfl
      | cons _ _ => cases h2
    subst this
    rfl
  | x :: xs, y :: ys, [], _, _ => rfl
  | x :: xs, y :: ys, z :: zs, h1, h2 => by
    rw [lLt_cc] at h1 h2 ⊢
    by_cases h : x = y
    · subst h
      rw [if_pos rfl] at h1
      by_cases h' : x = z
      · subst h'
        rw [if_pos rfl] at h2 ⊢
        exact lLt_trans xs ys zs h1 h2
      · rw [if_neg h'] at h2 ⊢
        exact h2
    · rw [if_neg h] at h1
      by_cases h' : y = z
      · subst h'
        rw [if_neg h]
        exact h1
      · rw [if_neg h'] at h2
        by_cases h'' : x = z
        · subst h''
          exact absurd (LinD.tri _ _ h1 h2) h
        · rw [if_neg h'']
          exact LinD.trans _ _ _ h1 h2
theorem lLt_asym : ∀ xs ys : List α, listLt xs ys = false ∨ listLt ys xs = false
  | [], ys => .inr (by cases ys <;> rfl)
  | _ :: _, [] => .inl rfl
  | x :: xs, y :: ys => by
    rw [lLt_cc, lLt_cc]
    by_cases h : x = y
    · subst h
      rw [if_pos rfl, if_pos rfl]
      exact lLt_asym xs ys
    · rw [if_neg h, if_neg (Ne.symm h)]
      exact LinD.asym x y
theorem layAll_map : ∀ xs : List α, PyData.canLayAll0 (xs.map Datum.toD) = true
  | [] => by simp [PyData.canLayAll0]
  | x :: xs => by
    rw [List.map_cons, PyData.canLayAll0, LinD.lay x, layAll_map xs]
    rfl
instance : LinD (Tup α) where
  tri a b h1 h2 := by
    cases a
    cases b
    exact congrArg Tup.mk (lLt_tri _ _ h1 h2)
  trans a b c h1 h2 := lLt_trans _ _ _ h1 h2
  asym a b := lLt_asym _ _
  lay a := by
    show (PyData.tuple (a.items.map Datum.toD)).canLay0 = true
    rw [PyData.canLay0]
    exact layAll_map _
theorem pLt (p q : α × β) : lt' p q = if p.1 = q.1 then lt' p.2 q.2 else lt' p.1 q.1 := rfl
instance : LinD (α × β) where
  tri p q h1 h2 := by
    rw [pLt] at h1 h2
    by_cases h : p.1 = q.1
    · rw [if_pos h] at h1
      rw [if_pos h.symm] at h2
      exact Prod.ext h (LinD.tri _ _ h1 h2)
    · rw [if_neg h] at h1
      rw [if_neg (Ne.symm h)] at h2
      exact absurd (LinD.tri _ _ h1 h2) h
  trans p q r h1 h2 := by
    rw [pLt] at h1 h2 ⊢
    by_cases h : p.1 = q.1
    · rw [if_pos h] at h1
      rw [h]
      by_cases h' : q.1 = r.1
      · rw [if_pos h'] at h2 ⊢
        exact LinD.trans _ _ _ h1 h2
      · rw [if_neg h'] at h2 ⊢
        exact h2
    · rw [if_neg h] at h1
      by_cases h' : q.1 = r.1
      · rw [← h', if_neg h]
        exact h1
      · rw [if_neg h'] at h2
        by_cases h'' : p.1 = r.1
        · rw [← h''] at h2
          exact absurd (LinD.tri _ _ h1 h2) h
        · rw [if_neg h'']
          exact LinD.trans _ _ _ h1 h2
  asym p q := by
    rw [pLt, pLt]
    by_cases h : p.1 = q.1
    · rw [if_pos h, if_pos h.symm]
      exact LinD.asym _ _
    · rw [if_neg h, if_neg (Ne.symm h)]
      exact LinD.asym _ _
  lay p := by
    show (PyData.tuple [Datum.toD p.1, Datum.toD p.2]).canLay0 = true
    rw [PyData.canLay0, PyData.canLayAll0, LinD.lay, PyData.canLayAll0, LinD.lay, PyData.canLayAll0]
    rfl
/-! ### the least -/
theorem minOf_spec : ∀ (xs : List α) (x : α), minOf x xs ∈ x :: xs ∧ ∀ y ∈ x :: xs, lt' y (minOf x xs) = false
  | [], x => ⟨by simp [minOf], fun y hy => by
      have : y = x := by simpa using hy
      subst this
      exact lt_irr _⟩
  | z :: zs, x => by
    have e : minOf x (z :: zs) = minOf (if lt' z x = true then z else x) zs := rfl
    rw [e]
    by_cases h : lt' z x = true
    · rw [if_pos h]
      obtain ⟨h1, h2⟩ := minOf_spec zs z
      refine ⟨List.mem_cons_of_mem _ h1, fun y hy => ?_⟩
      rcases List.mem_cons.mp hy with rfl | hy
      · refine LinD.trans _ z _ ?_ (h2 z (by simp))
        rcases LinD.asym z y with h' | h'
        · rw [h'] at h; cases h
        · exact h'
      · exact h2 y hy
    · rw [if_neg h]
      obtain ⟨h1, h2⟩ := minOf_spec zs x
      have h : lt' z x = false := by simpa using h
      refine ⟨?_, fun y hy => ?_⟩
      · rcases List.mem_cons.mp h1 with h1 | h1
        · rw [h1]; simp
        · exact List.mem_cons_of_mem _ (List.mem_cons_of_mem _ h1)
      · rcases List.mem_cons.mp hy with rfl | hy
        · exact h2 _ (by simp)
        · rcases List.mem_cons.mp hy with rfl | hy
          · exact LinD.trans _ x _ h (h2 x (by simp))
          · exact h2 y (List.mem_cons_of_mem _ hy)
theorem maxOf_spec : ∀ (xs : List α) (x : α), maxOf x xs ∈ x :: xs ∧ ∀ y ∈ x :: xs, lt' (maxOf x xs) y = false
  | [], x => ⟨by simp [maxOf], fun y hy => by
      have : y = x := by simpa using hy
      subst this
      exact lt_irr _⟩
  | z :: zs, x => by
    have e : maxOf x (z :: zs) = maxOf (if lt' x z = true then z else x) zs := rfl
    rw [e]
    by_cases h : lt' x z = true
    · rw [if_pos h]
      obtain ⟨h1, h2⟩ := maxOf_spec zs z
      refine ⟨List.mem_cons_of_mem _ h1, fun y hy => ?_⟩
      rcases List.mem_cons.mp hy with rfl | hy
      · refine LinD.trans _ z _ (h2 z (by simp)) ?_
        rcases LinD.asym y z with h' | h'
        · rw [h'] at h; cases h
        · exact h'
      · exact h2 y hy
    · rw [if_neg h]
      obtain ⟨h1, h2⟩ := maxOf_spec zs x
      have h : lt' x z = false := by simpa using h
      refine ⟨?_, fun y hy => ?_⟩
      · rcases List.mem_cons.mp h1 with h1 | h1
        · rw [h1]; simp
        · exact List.mem_cons_of_mem _ (List.mem_cons_of_mem _ h1)
      · rcases List.mem_cons.mp hy with rfl | hy
        · exact h2 _ (by simp)
        · rcases List.mem_cons.mp hy with rfl | hy
          · exact LinD.trans _ x _ (h2 x (by simp)) h
          · exact h2 y (List.mem_cons_of_mem _ hy)
def least : List α → Option α
  | [] => none
  | x :: xs => some (minOf x xs)
theorem least_iff {l : List α} {m : α} : least l = some m ↔ m ∈ l ∧ ∀ y ∈ l, lt' y m = false := by
  cases l with
  | nil => simp [least]
  | cons x xs =>
    obtain ⟨h1, h2⟩ := minOf_spec xs x
    constructor
    · intro h
      cases h
      exact ⟨h1, h2⟩
    · intro ⟨h3, h4⟩
      exact congrArg some (LinD.tri _ _ (h4 _ h1) (h2 _ h3))
theorem least_none {l : List α} : least l = none ↔ l = [] := by
  cases l <;> simp [least]
theorem least_mem {l l' : List α} (h : ∀ a, a ∈ l ↔ a ∈ l') : least l = least l' := by
  cases e : least l with
  | none =>
    rw [least_none] at e
    subst e
    symm
    rw [least_none]
    cases l' with
    | nil => rfl
    | cons x xs => exact absurd ((h x).mpr (by simp)) (by simp)
  | some m =>
    symm
    rw [least_iff] at e ⊢
    exact ⟨(h m).mp e.1, fun y hy => e.2 y ((h y).mpr hy)⟩
/-- data in a list or a tuple -/
theorem okCmp_map (hd : Datum.depth α ≤ 20) (l : List α) : okCmp (l.map Datum.toD) = true := by
  have hA := alikeAll_datum l
  unfold okCmp
  rw [Bool.and_eq_true, List.all_eq_true, List.all_eq_true]
  refine ⟨fun x hx => List.all_eq_true.mpr fun y hy => hA.1 x hx y hy, fun x hx => ?_⟩
  obtain ⟨a, _, rfl⟩ := List.mem_map.mp hx
  have h1 := Datum.depth_le a
  have h2 := DatumOrd.notNone a
  rw [Bool.and_eq_true, Bool.and_eq_true, decide_eq_true_eq]
  refine ⟨⟨?_, by omega⟩, ?_⟩
  · unfold shp SeqAt.shaped
    rw [LinD.lay a, Bool.true_and]
    exact decide_eq_true (by omega)
  · generalize Datum.toD a = d at h2
    cases d <;> first | rfl | exact absurd rfl h2
theorem minK_map (hd : Datum.depth α ≤ 20) {x : D} (l : List α) (o : D) (hx : seqD x = some (l.map Datum.toD)) : bMinK [x] o = some ((least l).elim o Datum.toD) := by
  show (seqD x).bind _ = _
  rw [hx, Option.bind_some, if_pos (okCmp_map hd l)]
  cases l with
  | nil => rfl
  | cons y ys =>
    show some (minD (Datum.toD y) (ys.map Datum.toD)) = _
    rw [minD_map]
    rfl
theorem minD_l (hd : Datum.depth α ≤ 20) {x : D} (l : List α) (hx : seqD x = some (l.map Datum.toD)) : bMinD [x] = (least l).map Datum.toD := by
  show (seqD x).bind _ = _
  rw [hx, Option.bind_some, if_pos (okCmp_map hd l)]
  cases l with
  | nil => rfl
  | cons y ys =>
    show some (minD (Datum.toD y) (ys.map Datum.toD)) = _
    rw [minD_map]
    rfl
def leB (a b : α) : Bool := !lt' b a
theorem dataLe_lt (a b : α) : dataLe false (Datum.toD : α → D) a b = leB a b := by
  show (!PyProof.Rows.lexLt itemOrd (keyToks (Datum.toD b)) (keyToks (Datum.toD a))) = !lt' b a
  rw [show PyProof.Rows.lexLt itemOrd (keyToks (Datum.toD b)) (keyToks (Datum.toD a)) = dataLt (Datum.toD b) (Datum.toD a) from rfl, DatumOrd.lt_eq]
theorem okSort_map (hd : Datum.depth α ≤ 20) (l : List α) (hl : l.length ≤ 16777216) (ht : (∀ a : α, ∃ y ys, Datum.toD a = PyData.tuple (y :: ys)) ∨ ∀ a : α, ∀ ys, Datum.toD a ≠ PyData.tuple ys) : okSort (l.map Datum.toD) = true := by
  have hA := alikeAll_datum l
  unfold okSort
  rw [Bool.and_eq_true, Bool.and_eq_true, Bool.and_eq_true]
  refine ⟨⟨⟨?_, ?_⟩, ?_⟩, ?_⟩
  · rw [List.all_eq_true]
    exact fun x hx => List.all_eq_true.mpr fun y hy => hA.1 x hx y hy
  · rw [List.all_eq_true]
    intro x hx
    obtain ⟨a, _, rfl⟩ := List.mem_map.mp hx
    have h1 := Datum.depth_le a
    rw [Bool.and_eq_true, decide_eq_true_eq]
    refine ⟨?_, by omega⟩
    unfold shp SeqAt.shaped
    rw [LinD.lay a, Bool.true_and]
    exact decide_eq_true (by omega)
  · rw [List.length_map]
    exact decide_eq_true hl
  · rw [Bool.or_eq_true]
    rcases ht with ht | ht
    · refine .inl ?_
      rw [List.all_map, List.all_eq_true]
      intro a _
      obtain ⟨y, ys, e⟩ := ht a
      rw [Function.comp, e]
    · refine .inr ?_
      rw [List.all_map, List.all_eq_true]
      intro a _
      have h1 := ht a
      have h2 := DatumOrd.notNone a
      rw [Function.comp]
      generalize Datum.toD a = d at h1 h2
      cases d <;> first | rfl | exact absurd rfl h2 | exact absurd rfl (h1 _)
theorem sorted_map (hd : Datum.depth α ≤ 20) {x : D} (l : List α) (hl : l.length ≤ 16777216) (ht : (∀ a : α, ∃ y ys, Datum.toD a = PyData.tuple (y :: ys)) ∨ ∀ a : α, ∀ ys, Datum.toD a ≠ PyData.tuple ys) (hx : seqD x = some (l.map Datum.toD)) :
    ∃ l' : List α, l'.Perm l ∧ l'.Pairwise (fun a b => lt' b a = false) ∧ l'.head? = least l ∧ bSorted [x] = some (.list (l'.map Datum.toD)) := by
  have hp : (l.mergeSort leB).Perm l := List.mergeSort_perm _ _
  have hs : (l.mergeSort leB).Pairwise (fun a b : α => leB a b = true) := List.pairwise_mergeSort (fun a b c h1 h2 => by
    unfold leB at *
    simp only [Bool.not_eq_true'] at *
    exact LinD.trans c b a h2 h1) (fun a b => by
    unfold leB
    rcases LinD.asym a b with h | h
    · rw [h]; simp
    · rw [h]; simp) l
  have hs' : (l.mergeSort leB).Pairwise (fun a b : α => lt' b a = false) := hs.imp fun h => by
    unfold leB at h
    simpa using h
  refine ⟨l.mergeSort leB, hp, hs', ?_, ?_⟩
  · cases e : l.mergeSort leB with
    | nil =>
      rw [e] at hp
      have : l = [] := List.Perm.eq_nil hp.symm
      subst this
      rfl
    | cons y ys =>
      rw [e] at hp hs'
      symm
      show least l = some y
      rw [least_iff]
      refine ⟨hp.mem_iff.mp (by simp), fun z hz => ?_⟩
      have hz := hp.mem_iff.mpr hz
      rcases List.mem_cons.mp hz with rfl | hz
      · exact lt_irr _
      · exact (List.pairwise_cons.mp hs').1 z hz
  · show (seqD x).bind _ = _
    rw [hx, Option.bind_some, if_pos (okSort_map hd l hl ht), PySem.W.sort_maps (r := leB) (s := PySem.W.dataLe false id) (Datum.toD : α → D) (fun a _ b _ => (dataLe_lt a b).symm)]
end
theorem xCallK_a {ρ : PEnv} (g : List D → D → Option D) (fs : XL) (fd : Xp) : xCallK g fs fd ρ = (fs ρ).bind fun ds => (fd ρ).bind fun x => g ds x := rfl
end Pm

/-! Pm: sorted(set(xs)), xs a tuple of ints. -/
namespace Pm
open PySem PySem.Spec PyProof.Rows L2
/-- the members once -/
def dd : List Int → List Int
  | [] => []
  | x :: xs => if x ∈ xs then dd xs else x :: dd xs
theorem mem_dd {a : Int} : ∀ {l : List Int}, a ∈ dd l ↔ a ∈ l
  | [] => Iff.rfl
  | x :: xs => by
    unfold dd
    split
    · next h =>
      rw [mem_dd, List.mem_cons]
      exact ⟨.inr, fun h' => h'.elim (fun e => e ▸ h) id⟩
    · rw [List.mem_cons, List.mem_cons, mem_dd]
theorem nodup_dd : ∀ l : List Int, (dd l).Nodup
  | [] => List.nodup_nil
  | x :: xs => by
    unfold dd
    split
    · exact nodup_dd xs
    · next h => exact List.nodup_cons.mpr ⟨fun h' => h (mem_dd.mp h'), nodup_dd xs⟩
/-- the members once, rising -/
def risen (ns : List Int) : List Int := (dd ns).mergeSort fun a b => decide (a ≤ b)
theorem risen_mem {ns : List Int} {k : Int} : k ∈ risen ns ↔ k ∈ ns := by
  unfold risen
  rw [(List.mergeSort_perm _ _).mem_iff, mem_dd]
theorem risen_lt (ns : List Int) : (risen ns).Pairwise (· < ·) := by
  unfold risen
  have h1 : ((dd ns).mergeSort fun a b => decide (a ≤ b)).Pairwise (fun a b : Int => decide (a ≤ b) = true) := List.pairwise_mergeSort (fun a b c h1 h2 => by
    rw [decide_eq_true_eq] at *
    omega) (fun a b => by
    rw [Bool.or_eq_true, decide_eq_true_eq, decide_eq_true_eq]
    omega) _
  have h2 : ((dd ns).mergeSort fun a b => decide (a ≤ b)).Nodup := (List.mergeSort_perm _ _).nodup_iff.mpr (nodup_dd _)
  refine lt_of_le_nodup _ (h1.imp fun h => by simpa using h) h2
theorem rising_eq : ∀ {a b : List Int}, a.Pairwise (· < ·) → b.Pairwise (· < ·) → (∀ k, k ∈ a ↔ k ∈ b) → a = b
  | [], [], _, _, _ => rfl
  | [], y :: ys, _, _, h => absurd ((h y).mpr (by simp)) (by simp)
  | x :: xs, [], _, _, h => absurd ((h x).mp (by simp)) (by simp)
  | x :: xs, y :: ys, ha, hb, h => by
    obtain ⟨a1, a2⟩ := List.pairwise_cons.mp ha
    obtain ⟨b1, b2⟩ := List.pairwise_cons.mp hb
    have hxy : x = y := by
      have h1 := (h x).mp (by simp)
      have h2 := (h y).mpr (by simp)
      rcases List.mem_cons.mp h1 with h1 | h1
      · exact h1
      · rcases List.mem_cons.mp h2 with h2 | h2
        · exact h2.symm
        · have := b1 x h1
          have := a1 y h2
          omega
    subst hxy
    refine congrArg (x :: ·) (rising_eq a2 b2 fun k => ?_)
    have hk := h k
    rw [List.mem_cons, List.mem_cons] at hk
    constructor
    · intro hm
      rcases hk.mp (.inr hm) with e | e
      · subst e
        exact absurd (a1 _ hm) (Int.lt_irrefl _)
      · exact e
    · intro hm
      rcases hk.mpr (.inr hm) with e | e
      · subst e
        exact absurd (b1 _ hm) (Int.lt_irrefl _)
      · exact e
def bSrtSet : List D → Option D
  | [.tuple ds] => (asInts ds).bind fun ns => if ns.length < 64 then some (.list ((risen ns).map PyData.int)) else none
  | _ => none
def rSetT (w : World) : List V → Hp → VK → Prop := fun xs H Q => ∃ (a : Addr) (ns : List Int), xs = [V.ref a] ∧ H a = some (.tup (ns.map V.int)) ∧ ns.length < 64 ∧
  ∀ (p : Addr) (c : Nat), H p = none → c ≤ ns.length → Q (.ref p) (upd H p (SetO w p (fun j => decide (j ∈ ns)) c))
section
variable {X : Cx}
theorem cr_setT (hc : X.calm = true) : CallR X (.type "set") (rSetT X.w) := by
  intro pins s σ H xs us Q I r ⟨a, ns, e1, ha, hl, q⟩
  subst e1
  rw [Vals.ref1 r]
  obtain ⟨its, rv, hl2, hz⟩ := I.tuple (.of ha)
  have hi := rv.ints
  refine call_set_tupI (items := its.toArray) ns (I.ok.hd hc) hl2 hi (by unfold scanBound; omega) fun h' tk c R hcn hk => ?_
  exact ⟨.ref _, upd H s.heap.objs.size (SetO X.w s.heap.objs.size (fun j => decide (j ∈ ns)) c), I.laid (t' := tk) hk (Nat.le_refl _) (setO_new R), rfl, q _ c (I.hok.fresh (Nat.le_refl _)) hcn⟩
theorem rp_ints {K : PySem.W.Frag} {A : Addr → Prop} {H : Hp} : ∀ ns : List Int, RpL K A H (ns.map V.int) (ns.map PyData.int)
  | [] => .nil
  | n :: ns => .cons (.int n) (rp_ints ns)
variable {O : List Nat} {st : Bool} {e : Expr} {fs : XL} {p p2 pos pos2 : Pos}
theorem se_sset (hm : X.mg "sorted" = none) (hm2 : X.mg "set" = none) (ha : SA X O st [e] fs) (hc : X.calm = true := by rfl) (hg : L2.Gl X "sorted" := by rfl) (hg2 : L2.Gl X "set" := by rfl)
    (he : starEach [e] X.env = (false, eval e X.env) :: starEach [] X.env := by rfl) (hpl : (backTo pos2 (starEach [] X.env)).any (·.1) = false := by rfl)
    (he' : starEach [.Call (.Name "set" p2) [e] [] pos2] X.env = (false, eval (.Call (.Name "set" p2) [e] [] pos2) X.env) :: starEach [] X.env := by rfl) (hpl' : (backTo pos (starEach [] X.env)).any (·.1) = false := by rfl) :
    SE X O .f (.Call (.Name "sorted" p) [.Call (.Name "set" p2) [e] [] pos2] [] pos) (xCall bSrtSet fs) := by
  refine ⟨pe_imp (pe_callB (cr_sortedSet hc) hg hm rfl (pa_cons (pe_callTy (cr_setT hc) hg2 hm2 rfl ha.pa (by decide) (by decide) he hpl) pa_nil he') (by decide) (by decide) he' hpl') fun σ H Q q => ?_⟩
  obtain ⟨H0, A0, G, ρ, B, d, S, e, k⟩ := q
  obtain ⟨ds, ex, e⟩ := bind2 e
  refine ⟨H0, A0, G, ρ, B, ds, S, ex, fun vs H1 s1 r1 => ?_⟩
  have w := r1.weak
  unfold bSrtSet at e
  split at e
  · next ds =>
    obtain ⟨ns, e1, e⟩ := bind2 e
    split at e
    · next h64 =>
      cases e
      obtain ⟨v, rfl, w1⟩ := p1 w
      obtain ⟨a, xs, rfl, hp, _, ra⟩ := w1.tup
      have hv := ra.ints e1
      subst hv
      refine ⟨a, ns, rfl, hp, h64, fun p' c hn hcn => ⟨p', _, c, rfl, upd_same, by omega, fun ns' p'' h1 h2 h3 hn2 => ?_⟩⟩
      have en : ns' = risen ns := rising_eq h1 (risen_lt ns) fun j => by
        rw [h2 j, risen_mem]
        simp
      subst en
      have sm := (s1.trans (same_upd (o := SetO X.w p' (fun j => decide (j ∈ ns)) c) hn))
      exact k _ _ (sm.trans (same_upd hn2)) (Res.newL (S.mono sm).tr hn2 (rp_ints _) sm)
    · cases e
  · cases e
end
end Pm

/-! Pm: sorted of tuples of which the first is empty. -/
namespace Pm
open PySem PySem.Spec PyProof.Rows L2
/-- all are tuples, and the first is empty -/
def SortableE (ds : List D) : Prop := ds.head? = some (.tuple []) ∧ ∀ d ∈ ds, ∃ xs, d = .tuple xs
def okSortE (ds : List D) : Bool := (ds.all fun x => ds.all fun y => PySem.W.alike x y) && (ds.all fun x => shp x && decide (x.depth ≤ 20)) && decide (ds.length ≤ 16777216) &&
  ((match ds.head? with | some (.tuple []) => true | _ => false) && ds.all fun x => match x with | .tuple _ => true | _ => false)
def bSortedE : List D → Option D
  | [x] => (seqD x).bind fun ds => if okSortE ds then some (.list (ds.mergeSort (PySem.W.dataLe false id))) else none
  | _ => none
theorem okSortE_facts {ds : List D} (h : okSortE ds = true) : PySem.W.AllAlike ds ∧ (∀ x ∈ ds, shp x = true ∧ x.depth ≤ 20) ∧ ds.length ≤ 16777216 ∧ SortableE ds := by
  unfold okSortE at h
  rw [Bool.and_eq_true, Bool.and_eq_true, Bool.and_eq_true, Bool.and_eq_true] at h
  obtain ⟨⟨⟨h1, h2⟩, h3⟩, h4, h5⟩ := h
  refine ⟨fun d hd d' hd' => ?_, fun x hx => ?_, of_decide_eq_true h3, ?_, fun d hd => ?_⟩
  · exact List.all_eq_true.mp (List.all_eq_true.mp h1 d hd) d' hd'
  · have := List.all_eq_true.mp h2 x hx
    rw [Bool.and_eq_true, decide_eq_true_eq] at this
    exact this
  · split at h4
    · assumption
    · cases h4
  · have := List.all_eq_true.mp h5 d hd
    split at this
    · exact ⟨_, rfl⟩
    · cases this
section
open PySem.W PySem.SeqAt
variable {prog : Program} {w : World} {A : Around} {E : Value → Shared → Prop} {s : Shared}
theorem call_tuple_ltE {Q : Value → Shared → Prop} {l b : Addr} {items items2 : Array Value} {e r : Nat → Bool} (hl : s.heap.IsTuple l items) (hb : s.heap.IsTuple b items2)
    (he : ∀ j (h1 : j < items.size) (h2 : j < items2.size), EqAt A.in1 s items[j] items2[j] (e j)) (hr : ∀ j (h1 : j < items.size) (h2 : j < items2.size), e j = false → RcLt A.in1 s items[j] items2[j] (r j))
    (h : Q (.bool (firstLt e r (decide (items.size < items2.size)) (List.range (min items.size items2.size)))) s) : wpAny (model prog w) A (call (.builtin "tuple.__lt__") [.ref l, .ref b]) Q E s := by
  obtain ⟨⟨cls, dd, data, sl⟩, ho, hc, n, hd⟩ := id hl
  obtain ⟨⟨cls2, dd2, data2, sl2⟩, ho2, hc2, n2, hd2⟩ := id hb
  simp only at hc hd hc2 hd2
  subst hc hd hc2 hd2
  exact call_meets F.slot_tuple_lt ⟨_, ho, rfl⟩ F.entry_tuple_lt (F.args_tuple_lt_2 _ _) (tuple_ltAt l b items items2 n n2 dd dd2 sl sl2 e r) ⟨ho, ho2, he, hr, h⟩
theorem oneLt_tup {xs ys : List D} {a b : Value} {as bs : List Addr} {Q : Bool → Shared → Prop} (ra : Reads s.heap a (.tuple xs) as) (rb : Reads s.heap b (.tuple ys) bs) (h : alike (.tuple xs) (.tuple ys) = true)
    (hu : A.units + min (PyData.tuple xs).depth (PyData.tuple ys).depth < cLine) (hq : Q (dataLt (.tuple xs) (.tuple ys)) s) : wpAny (model prog w) A (oneLt' true a b) Q E s := by
  have hal : alikeAll xs ys = true := by simpa [alike] using h
  cases ra with
  | @tuple l o vs n _ as₁ h1 h2 h3 h4 =>
    cases rb with
    | @tuple l' o' vs' n' _ bs₁ k1 k2 k3 k4 =>
      have n1 : vs.size = xs.length := by simpa using ReadsAll.length _ _ _ h4
      have n2 : vs'.size = ys.length := by simpa using ReadsAll.length _ _ _ k4
      rw [dataLt_tuple, ← firstLt_toks xs ys hal, ← n1, ← n2] at hq
      rw [oneLt'_eq]
      simp only [if_true]
      refine wpAny_bind (wpAny_cRoomFor (room_here hu) ?_)
      refine wpAny_bind (wpAny_callSpecialIfBound?_slot (T := "tuple") ⟨_, h1, h2⟩ F.slot_tuple_lt (call_tuple_ltE (e := pairEq xs ys) (r := fun j => dataLt (xs.getD j .none) (ys.getD j .none)) ⟨_, h1, h2, _, h3⟩ ⟨_, k1, k2, _, k3⟩ (fun j j1 j2 => ?_) (fun j j1 j2 hj => ?_) ?_))
      · have := eqAt_alikeAll xs ys A.in1 s vs.toList vs'.toList _ _ h4 k4 hal (room_in hu) j (by simpa using j1) (by simpa using j2)
        simpa using this
      · have := rcLt_alikeAll xs ys A.in1 s vs.toList vs'.toList _ _ h4 k4 hal (room_in hu) j (by simpa using j1) (by simpa using j2) hj
        simpa using this
      · exact wpAny_truthy_bool hq
/-- what each tuple begins with -/
theorem firstsE {M : Model} : ∀ {vs : List Value} {ds : List D} {Q : List (Option Value) → Shared → Prop}, EachIs (fun v d => ∃ as, Reads s.heap v d as) vs ds → (∀ d ∈ ds, ∃ xs, d = .tuple xs) →
    (∀ fs : List (Option Value), fs.length = vs.length → (ds.head? = some (.tuple []) → fs.head? = some none) → Q fs s) → wpAny M A (vs.mapM firstOfTuple') Q E s
  | _, _, Q, .nil, _, h => by rw [List.mapM_nil]; exact wpAny_pure (h [] rfl fun e => by cases e)
  | _, _, Q, .cons (a := v) (b := d) r rs, ht, h => by
    obtain ⟨xs, rfl⟩ := ht d (by simp)
    obtain ⟨as, r⟩ := r
    cases r with
    | @tuple l o vs' n _ as₁ h1 h2 h3 h4 =>
      rw [List.mapM_cons]
      refine wpAny_bind ?_
      rw [kas_first_eq]
      refine wpAny_bind (Looks.here (show Looks M s.heap (typeOf (.ref l)) o.cls from (Looks.ld h1).andThen .now) ?_)
      rw [h2, if_neg (by first | decide | simp)]
      refine wpAny_bind (PyProof.Rows.listItems_at h1 h3 (wpAny_pure ?_))
      refine wpAny_bind (firstsE rs (fun d hd => ht d (List.mem_cons_of_mem _ hd)) fun fs hl hh => wpAny_pure (h _ (by simp [hl]) fun e => ?_))
      have e' : xs = [] := by simpa using e
      subst e'
      have n1 : vs'.size = 0 := by simpa using SeqAt.ReadsAll.length _ _ _ h4
      have : vs'[0]? = none := by simp [n1]
      rw [List.head?_cons, this]
theorem tup_kindE {vs : List Value} {ds : List D} {Q : SortKind → Shared → Prop} (e : EachIs (fun v d => ∃ as, Reads s.heap v d as) vs ds) (hk : SortableE ds) (h : Q oneType' s) : wpAny (model prog w) A (keyKind' vs.toArray) Q E s := by
  rw [keyKind'_eq, List.mapM_toArray, map_eq_pure_bind]
  refine wpAny_bind (wpAny_bind (firstsE e hk.2 fun fs hl hh => wpAny_pure ?_))
  have hf := hh hk.1
  obtain ⟨fr, rfl⟩ : ∃ fr, fs = none :: fr := by
    cases fs with
    | nil => cases hf
    | cons f fr =>
      have : f = none := by simpa using hf
      subst this
      exact ⟨fr, rfl⟩
  rw [if_neg (by simp), if_neg (by simp)]
  rw [oneTypeOnly'_eq, List.mapM_toArray, map_eq_pure_bind]
  have hT : ∀ v ∈ vs, Looks (model prog w) s.heap (typeOf v) (Value.type "tuple") := fun v hv => by
    obtain ⟨d, hd, as, r⟩ := e.left v hv
    obtain ⟨xs, rfl⟩ := hk.2 d hd
    exact looks_reads r
  refine wpAny_bind (wpAny_bind (wpAny_bind (kas_mapM (r := Value.type "tuple") _ (fun v hv Q' hq => (hT v hv).here hq) (wpAny_pure ?_))))
  obtain ⟨v₁, rest, rfl⟩ : ∃ v₁ rest, vs = v₁ :: rest := by
    cases vs with
    | nil => simp at hl
    | cons v r => exact ⟨v, r, rfl⟩
  have hall : ((List.map (fun _ => Value.type "tuple") (v₁ :: rest)).toArray.all fun x => x == Value.type "tuple") = true := by
    simp only [List.all_toArray, List.all_map, List.all_eq_true]
    intro _ _
    exact beq_self_eq_true _
  have h0 : (List.map (fun _ => Value.type "tuple") (v₁ :: rest)).toArray[0]? = some (Value.type "tuple") := by simp
  rw [h0]
  simp only [hall, if_true]
  exact wpAny_pure (wpAny_pure h)
theorem dataE {vs : List Value} {ds : List D} (e : EachIs (fun v d => ∃ as, Reads s.heap v d as) vs ds) (hal : AllAlike ds) (hk : SortableE ds) (hu : ∀ d, d ∈ ds → A.units + d.depth < cLine) : SortsAt prog w A s (dataKind s.heap ds) vs := by
  have room : ∀ {d d' : PyData}, d ∈ ds → A.units + min d.depth d'.depth < cLine := fun {d d'} hd => Nat.lt_of_le_of_lt (Nat.add_le_add_left (Nat.min_le_left _ _) _) (hu d hd)
  refine ⟨fun v hv => ?_, oneType', ?_, fun h2 E Q hq => tup_kindE e hk hq⟩
  · obtain ⟨d, hd, as, r⟩ := e.left v hv
    exact ⟨_, dataKind_some hal hd r⟩
  · intro E x y a b Q ha hb hq
    obtain ⟨d, as, hd, ra, rfl⟩ := dataKind_inv ha
    obtain ⟨d', as', hd', rb, rfl⟩ := dataKind_inv hb
    rw [keyLt'_oneType]
    obtain ⟨xs, rfl⟩ := hk.2 d hd
    obtain ⟨ys, rfl⟩ := hk.2 d' hd'
    exact oneLt_tup ra rb (hal _ hd _ hd') (room hd) hq
end
section
open PySem.W PySem.Calls
variable {prog : Program} {w : World} {A : Around} {E : Value → Shared → Prop} {s : Shared} {β : Type} {R : Value → β → Prop} {enc : β → D} {us : List Value} {bs : List β}
/-- sorted(xs), xs a list or a tuple that reads as data -/
theorem sorted_seqE {l : Addr} {T : String} {o : Obj} {n : Nat} {Q : Value → Shared → Prop} (hT : T = "list" ∨ T = "tuple") (ho : s.heap.get? l = some o) (hc : o.cls = .type T) (hd : o.data = .seq us.toArray n)
    (e : EachIs R us bs) (er : EachIs (fun v b => ∃ as, Reads s.heap v (enc b) as) us bs) (hal : AllAlike (bs.map enc)) (hk : SortableE (bs.map enc)) (hL : bs.length ≤ sizeLine) (hu : ∀ b, b ∈ bs → A.units + 2 + (enc b).depth < cLine)
    (hQ : ∀ (h' : Heap) (d : Addr) (out : List Value) (m : Nat), (∀ b u, s.heap.get? b = some u → h'.get? b = some u) → s.heap.objs.size ≤ d → h'.get? d = some (seqObj "list" out.toArray m) → EachIs R out (bs.mergeSort (dataLe false enc)) → Q (.ref d) { s with heap := h' }) :
    wpAny (model prog w) A (call (.builtin "sorted") [.ref l]) Q E s := by
  have hsz : us.length ≤ sizeLine := by rw [e.length]; exact hL
  refine Calls.call_function_entry kind_sorted plain_sorted entry_sorted (args_sorted1 _) ?_
  unfold Builtin.«sorted»
  apply wpAny_bind (m := checkCount "sorted" 1 1 _)
  apply wpAny_pure
  refine wpAny_bind (took_seq hT ho hc hd hsz ?_)
  refine wpAny_bind (wpAny_newList ?_ hsz)
  generalize hh1 : tookH s.heap us = h1
  have k1 : ∀ b u, s.heap.get? b = some u → h1.get? b = some u := fun b u hb => by rw [← hh1]; exact tookH_old hb
  have hge : s.heap.objs.size ≤ h1.objs.size := by rw [← hh1, tookH_size]; omega
  have hs2 : (h1.push (seqObj "list" us.toArray 0)).get? h1.objs.size = some (seqObj "list" us.toArray 0) := Heap.get?_push_size _ rfl
  have k2 : ∀ b u, s.heap.get? b = some u → (h1.push (seqObj "list" us.toArray 0)).get? b = some u := fun b u hb => Heap.get?_push_of_some _ (k1 b u hb)
  have hlt : ∀ b u, s.heap.get? b = some u → b < h1.objs.size := fun b u hb => Heap.lt_size (k1 b u hb)
  have er2 : EachIs (fun v b => ∃ as, Reads (sortingHeap (h1.push (seqObj "list" us.toArray 0)) h1.objs.size us) v (enc b) as) us bs := each_mono (fun v b ⟨as, r⟩ => ⟨as, PyProof.Rows.Reads.keeps (fun b u hb => sortingHeap_old (Nat.ne_of_lt (hlt b u hb)) (k2 b u hb)) r⟩) er
  have hS := dataE (prog := prog) (w := w) (A := A.in1.in1) (s := { s with heap := sortingHeap (h1.push (seqObj "list" us.toArray 0)) h1.objs.size us }) (each_map (R := fun v d => ∃ as, Reads (sortingHeap (h1.push (seqObj "list" us.toArray 0)) h1.objs.size us) v d as) enc er2) hal hk (bound_map fun b hb => hu b hb)
  refine wpAny_bind (wpAny_holding ?_)
  refine wpAny_call_entry slot_list_sort ⟨_, hs2, rfl⟩ entry_list_sort ?_ (args_list_sort _)
  refine list_sort_vals (s := { s with heap := h1.push (seqObj "list" us.toArray 0) }) hs2 hS hsz ⟨.none, rfl, ?_⟩
  apply wpAny_pure
  obtain ⟨m, hm⟩ := sortedHeap_at (vs := us) (out := (sortVals (dataKind (sortingHeap (h1.push (seqObj "list" us.toArray 0)) h1.objs.size us) (bs.map enc)) false us us).toArray) hs2
  refine ⟨_, rfl, hQ _ _ _ m (fun b u hb => ?_) hge hm (sortVals_data false e er2 hal)⟩
  have q := k2 b u hb
  rw [← q]
  exact sortedHeap_old (Nat.ne_of_lt (hlt b u hb)) (Heap.lt_size q)
end
section
variable {X : Cx}
theorem cb_sortedE (hu : X.A.units + 65 < cLine) : CallR X (.builtin "sorted") (rC X.K .f bSortedE) := by
  intro pins s σ H vs us Q I r ⟨A, ds, d, tr, w, e, q⟩
  unfold bSortedE at e
  split at e
  · obtain ⟨v, rfl, w1⟩ := p1 w
    obtain ⟨xs, e1, e⟩ := bind2 e
    split at e
    · next hok =>
      cases e
      obtain ⟨hal, hsh, hlen, hsb⟩ := okSortE_facts hok
      obtain ⟨a, ys, rfl, ha, ra⟩ := w1.seq e1
      rw [ref1 r]
      obtain ⟨its, T, o, n, rv, hT, ho, hc, hd, hz⟩ : ∃ (its : List Value) (T : String) (o : Obj) (n : Nat), Vals ys its ∧ (T = "list" ∨ T = "tuple") ∧ s.heap.get? a = some o ∧ o.cls = .type T ∧ o.data = .seq its.toArray n ∧ ys.length ≤ sizeLine := by
        rcases ha with ha | ha
        · obtain ⟨its, rv, hl, hz⟩ := I.list (.of ha)
          obtain ⟨o, ho, hc, n, hd⟩ := hl.isList
          exact ⟨its, "list", o, n, rv, .inl rfl, ho, hc, hd, hz⟩
        · obtain ⟨its, rv, hl, hz⟩ := I.tuple (.of ha)
          obtain ⟨o, ho, hc, n, hd⟩ := hl
          exact ⟨its, "tuple", o, n, rv, .inr rfl, ho, hc, hd, hz⟩
      have hyl := ra.length
      have hme : (ys.zip xs).map Prod.snd = xs := List.map_snd_zip (by omega)
      have hE := zip_each rv ra
      refine sorted_seqE (β := V × D) (enc := Prod.snd) (bs := ys.zip xs) (R := fun u (p : V × D) => RelV p.1 u ∧ Rp X.K A H p.1 p.2) hT ho hc hd hE (each_mem hE fun u p hp hr => ?_) (by rw [hme]; exact hal) (by rw [hme]; exact hsb) (by rw [List.length_zip]; omega) (fun p hp => ?_) fun h' d out m hk hp he eo => ?_
      · have hm : p.2 ∈ xs := (List.of_mem_zip (a := p.1) (b := p.2) hp).2
        exact Dp.reads I _ p.1 u ((WRp.dp (.inl hr.2) (hsh _ hm).1)) hr.1
      · have hm : p.2 ∈ xs := (List.of_mem_zip (a := p.1) (b := p.2) hp).2
        have := (hsh _ hm).2
        omega
      · obtain ⟨v1, r1⟩ := each_out eo
        have hsm : ((ys.zip xs).mergeSort (PySem.W.dataLe false Prod.snd)).map Prod.snd = xs.mergeSort (PySem.W.dataLe false id) := by
          have := PySem.W.sort_maps (r := PySem.W.dataLe false Prod.snd) (s := PySem.W.dataLe false id) (Prod.snd : V × D → D) (l := ys.zip xs) (fun _ _ _ _ => rfl)
          rw [this, hme]
        rw [hsm] at r1
        have hlo : (((ys.zip xs).mergeSort (PySem.W.dataLe false Prod.snd)).map Prod.fst).length ≤ sizeLine := by
          rw [List.length_map, List.length_mergeSort, List.length_zip]
          omega
        have hp' : H d = none := I.hok.fresh hp
        exact ⟨.ref d, upd H d (.lst (((ys.zip xs).mergeSort (PySem.W.dataLe false Prod.snd)).map Prod.fst)), I.laid (t' := s.toks) hk hp ⟨hlo, out, m, v1, he⟩, rfl, q _ _ (same_upd hp') (Res.newL tr hp' r1 (Same.refl H))⟩
    · cases e
  · cases e
end
end Pm


/-! the walk of dockheld_k25_whole_rounds_courses, printed by gen.py -/
namespace K25
open PySem PySem.Spec PyProof.Rows L2 Pm
def topS (i : Nat) : Stmt := PySem.Challenge.pw_dockheld_k25_whole_rounds_courses.main.body.getD i (.Pass ⟨0, 0, 0, 0⟩)
section
variable {P : Program} {w : World} {K : PySem.W.Frag} {mg : Str → Option Value} {base : Heap}
/-! ### divisor -/
abbrev s_divisor : Stmt := topS 1
theorem sc_divisor : FnScope ["first", "second"] ["first", "second"] (defScope s_divisor) := ⟨rfl, rfl, rfl, by decide +kernel, rfl, by decide +kernel, by decide +kernel⟩
def l1_divisor : XS :=
  (sSeq (sPar [0, 1] (xCons (xVar 1) (xCons (xBin oMod (xVar 0) (xVar 1)) xNil)))
  sNop)
def g_divisor : XS :=
  (sSeq (sPar [0, 1] (xCons (xCall bAbs (xCons (xVar 0) xNil)) (xCons (xCall bAbs (xCons (xVar 1) xNil)) xNil)))
  (sSeq (sWhile (tOf (xBin oGt (xVar 1) (xC (.int 0)))) l1_divisor)
  (sRet (xVar 0))))
def d_divisor : List D → Option D := runD 2 2 g_divisor
theorem ok_divisor {f : Addr} {fd : FuncData} (F : FnP K "divisor" s_divisor f fd) (b_abs : mg "abs" = none) : FnOk P w K mg base CX0 1 f fd ["first", "second"] (spD K 2 d_divisor) := by
  have nd := sc_divisor.nd
  refine fnp_ok (k := 0) (O' := []) F sc_divisor fun cdv A outer s H E hr => ?_
  exact (by exact ss_cons (by exact ss_par 0 1 nd (by exact sam_cons (by exact se_callB (st := false) cb_abs b_abs (by exact sa_cons (by exact se_var 0) sa_nil)) (by exact sam_cons (by exact se_callB (st := false) cb_abs b_abs (by exact sa_cons (by exact se_var 1) sa_nil)) sam_nil))) (by exact ss_cons (by exact SS.weak (O1 := [1]) (by exact ss_while (O' := [1]) (by exact st_cmp op_gtD (by exact se_varW 1) se_int) (by exact ss_cons (by exact SS.weak (O1 := []) (by exact ss_par 0 1 nd (by exact sam_cons (by exact se_var 1) (by exact sam_cons (by exact se_op op_modD (by exact se_var 0) (by exact se_var 1)) sam_nil)))) ss_nil))) (by exact ss_last (by exact ss_ret (by exact se_var 0)))))
/-! ### lowest -/
abbrev s_lowest : Stmt := topS 2
theorem sc_lowest : FnScope ["a", "b", "common"] ["a", "b"] (defScope s_lowest) := ⟨rfl, rfl, rfl, by decide +kernel, rfl, by decide +kernel, by decide +kernel⟩
def g_lowest : XS :=
  (sSeq (sSet 2 (xIf (tOf (xBin oGt (xVar 1) (xC (.int 0)))) (xCall (fun ds => if ds.length = 2 then (d_divisor) ds else none) (xCons (xVar 0) (xCons (xVar 1) xNil))) (xUn oNeg (xCall (fun ds => if ds.length = 2 then (d_divisor) ds else none) (xCons (xVar 0) (xCons (xVar 1) xNil))))))
  (sRet (xTup (xCons (xBin oFdiv (xVar 0) (xVar 2)) (xCons (xBin oFdiv (xVar 1) (xVar 2)) xNil)))))
def d_lowest : List D → Option D := runD 2 3 g_lowest
theorem ok_lowest {f : Addr} {fd : FuncData} (F : FnP K "lowest" s_lowest f fd) (D_divisor : Def P w K mg base 1 "divisor" ["first", "second"] (d_divisor)) : FnOk P w K mg base CX0 2 f fd ["a", "b"] (spD K 2 d_lowest) := by
  have nd := sc_lowest.nd
  refine fnp_ok (k := 1) (O' := []) F sc_lowest fun cdv A outer s H E hr => ?_
  exact (by exact ss_cons (by exact ss_setS 2 nd (by exact se_if (by exact st_cmp op_gtD (by exact se_var 1) se_int) (by exact se_callD D_divisor hr (by exact sa_cons (by exact se_var 0) (by exact sa_cons (by exact se_var 1) sa_nil))) (by exact SE.toS (by exact se_un un_negD (by exact se_callD D_divisor hr (by exact sa_cons (by exact se_var 0) (by exact sa_cons (by exact se_var 1) sa_nil))))))) (by exact ss_last (by exact ss_ret (by exact se_tup (by exact sa_cons (by exact se_op op_fdivD (by exact se_var 0) (by exact se_var 2)) (by exact sa_cons (by exact se_op op_fdivD (by exact se_var 1) (by exact se_var 2)) sa_nil))))))
/-! ### plus -/
abbrev s_plus : Stmt := topS 3
theorem sc_plus : FnScope ["first", "second"] ["first", "second"] (defScope s_plus) := ⟨rfl, rfl, rfl, by decide +kernel, rfl, by decide +kernel, by decide +kernel⟩
def g_plus : XS :=
  (sRet (xCall (fun ds => if ds.length = 2 then (d_lowest) ds else none) (xCons (xBin oAdd (xBin oMul' (xBin oIx (xVar 0) (xC (.int 0))) (xBin oIx (xVar 1) (xC (.int 1)))) (xBin oMul' (xBin oIx (xVar 1) (xC (.int 0))) (xBin oIx (xVar 0) (xC (.int 1))))) (xCons (xBin oMul' (xBin oIx (xVar 0) (xC (.int 1))) (xBin oIx (xVar 1) (xC (.int 1)))) xNil))))
def d_plus : List D → Option D := runD 2 2 g_plus
theorem ok_plus {f : Addr} {fd : FuncData} (F : FnP K "plus" s_plus f fd) (D_lowest : Def P w K mg base 2 "lowest" ["a", "b"] (d_lowest)) : FnOk P w K mg base CX0 3 f fd ["first", "second"] (spD K 2 d_plus) := by
  have nd := sc_plus.nd
  refine fnp_ok (k := 2) (O' := []) F sc_plus fun cdv A outer s H E hr => ?_
  exact (by exact ss_last (by exact ss_ret (by exact se_callD D_lowest hr (by exact sa_cons (by exact se_op op_addD (by exact se_op op_mulD' (by exact se_ix (by exact se_var 0) se_int) (by exact se_ix (by exact se_var 1) se_int)) (by exact se_op op_mulD' (by exact se_ix (by exact se_var 1) se_int) (by exact se_ix (by exact se_var 0) se_int))) (by exact sa_cons (by exact se_op op_mulD' (by exact se_ix (by exact se_var 0) se_int) (by exact se_ix (by exact se_var 1) se_int)) sa_nil)))))
/-! ### minus -/
abbrev s_minus : Stmt := topS 4
theorem sc_minus : FnScope ["first", "second"] ["first", "second"] (defScope s_minus) := ⟨rfl, rfl, rfl, by decide +kernel, rfl, by decide +kernel, by decide +kernel⟩
def g_minus : XS :=
  (sRet (xCall (fun ds => if ds.length = 2 then (d_lowest) ds else none) (xCons (xBin oSub (xBin oMul' (xBin oIx (xVar 0) (xC (.int 0))) (xBin oIx (xVar 1) (xC (.int 1)))) (xBin oMul' (xBin oIx (xVar 1) (xC (.int 0))) (xBin oIx (xVar 0) (xC (.int 1))))) (xCons (xBin oMul' (xBin oIx (xVar 0) (xC (.int 1))) (xBin oIx (xVar 1) (xC (.int 1)))) xNil))))
def d_minus : List D → Option D := runD 2 2 g_minus
theorem ok_minus {f : Addr} {fd : FuncData} (F : FnP K "minus" s_minus f fd) (D_lowest : Def P w K mg base 2 "lowest" ["a", "b"] (d_lowest)) : FnOk P w K mg base CX0 3 f fd ["first", "second"] (spD K 2 d_minus) := by
  have nd := sc_minus.nd
  refine fnp_ok (k := 2) (O' := []) F sc_minus fun cdv A outer s H E hr => ?_
  exact (by exact ss_last (by exact ss_ret (by exact se_callD D_lowest hr (by exact sa_cons (by exact se_op op_subD (by exact se_op op_mulD' (by exact se_ix (by exact se_var 0) se_int) (by exact se_ix (by exact se_var 1) se_int)) (by exact se_op op_mulD' (by exact se_ix (by exact se_var 1) se_int) (by exact se_ix (by exact se_var 0) se_int))) (by exact sa_cons (by exact se_op op_mulD' (by exact se_ix (by exact se_var 0) se_int) (by exact se_ix (by exact se_var 1) se_int)) sa_nil)))))
/-! ### times -/
abbrev s_times : Stmt := topS 5
theorem sc_times : FnScope ["first", "second"] ["first", "second"] (defScope s_times) := ⟨rfl, rfl, rfl, by decide +kernel, rfl, by decide +kernel, by decide +kernel⟩
def g_times : XS :=
  (sRet (xCall (fun ds => if ds.length = 2 then (d_lowest) ds else none) (xCons (xBin oMul' (xBin oIx (xVar 0) (xC (.int 0))) (xBin oIx (xVar 1) (xC (.int 0)))) (xCons (xBin oMul' (xBin oIx (xVar 0) (xC (.int 1))) (xBin oIx (xVar 1) (xC (.int 1)))) xNil))))
def d_times : List D → Option D := runD 2 2 g_times
theorem ok_times {f : Addr} {fd : FuncData} (F : FnP K "times" s_times f fd) (D_lowest : Def P w K mg base 2 "lowest" ["a", "b"] (d_lowest)) : FnOk P w K mg base CX0 3 f fd ["first", "second"] (spD K 2 d_times) := by
  have nd := sc_times.nd
  refine fnp_ok (k := 2) (O' := []) F sc_times fun cdv A outer s H E hr => ?_
  exact (by exact ss_last (by exact ss_ret (by exact se_callD D_lowest hr (by exact sa_cons (by exact se_op op_mulD' (by exact se_ix (by exact se_var 0) se_int) (by exact se_ix (by exact se_var 1) se_int)) (by exact sa_cons (by exact se_op op_mulD' (by exact se_ix (by exact se_var 0) se_int) (by exact se_ix (by exact se_var 1) se_int)) sa_nil)))))
/-! ### is_less -/
abbrev s_is_less : Stmt := topS 6
theorem sc_is_less : FnScope ["first", "second"] ["first", "second"] (defScope s_is_less) := ⟨rfl, rfl, rfl, by decide +kernel, rfl, by decide +kernel, by decide +kernel⟩
def g_is_less : XS :=
  (sRet (xBin oLt (xBin oMul' (xBin oIx (xVar 0) (xC (.int 0))) (xBin oIx (xVar 1) (xC (.int 1)))) (xBin oMul' (xBin oIx (xVar 1) (xC (.int 0))) (xBin oIx (xVar 0) (xC (.int 1))))))
def d_is_less : List D → Option D := runD 2 2 g_is_less
theorem ok_is_less {f : Addr} {fd : FuncData} (F : FnP K "is_less" s_is_less f fd) : FnOk P w K mg base CX0 1 f fd ["first", "second"] (spD K 2 d_is_less) := by
  have nd := sc_is_less.nd
  refine fnp_ok (k := 0) (O' := []) F sc_is_less fun cdv A outer s H E hr => ?_
  exact (by exact ss_last (by exact ss_ret (by exact se_cmp op_ltD (by exact se_op op_mulD' (by exact se_ix (by exact se_var 0) se_int) (by exact se_ix (by exact se_var 1) se_int)) (by exact se_op op_mulD' (by exact se_ix (by exact se_var 1) se_int) (by exact se_ix (by exact se_var 0) se_int)))))
/-! ### all_sets -/
abbrev s_all_sets : Stmt := topS 7
theorem sc_all_sets : FnScope ["n", "found", "index", "row"] ["n"] (defScope s_all_sets) := ⟨rfl, rfl, rfl, by decide +kernel, rfl, by decide +kernel, by decide +kernel⟩
def l1_all_sets : XS :=
  (sSeq (sSet 1 (xBin oAdd (xBin oAdd (xLst (xCons (xTup xNil) xNil)) (xLc (xSeq (xVar 1)) (gSet 3) tYesP (xBin oAdd (xTup (xCons (xVar 2) xNil)) (xVar 3)) [3])) (xLc (xSeq (xVar 1)) (gSet 3) (tTru (xVar 3)) (xVar 3) [3])))
  sNop)
def g_all_sets : XS :=
  (sSeq (sSet 1 (xLst (xCons (xTup xNil) xNil)))
  (sSeq (sFor (xIt oR3 (xCons (xBin oSub (xVar 0) (xC (.int 1))) (xCons (xUn oNeg (xC (.int 1))) (xCons (xUn oNeg (xC (.int 1))) xNil)))) (gSet 2) l1_all_sets)
  (sRet (xVar 1))))
def d_all_sets : List D → Option D := runD 1 4 g_all_sets
theorem ok_all_sets {f : Addr} {fd : FuncData} (F : FnP K "all_sets" s_all_sets f fd) (b_range : mg "range" = none) : FnOk P w K mg base CX0 1 f fd ["n"] (spD K 1 d_all_sets) := by
  have nd := sc_all_sets.nd
  refine fnp_ok (k := 0) (O' := []) F sc_all_sets fun cdv A outer s H E hr => ?_
  exact (by exact ss_cons (by exact ss_setF 1 nd (by exact se_lst (by exact sa_cons (by exact se_tup sa_nil) sa_nil))) (by exact ss_cons (by exact ss_for (O' := [1]) (by exact si_r3 (st := false) b_range (by exact sa_cons (by exact se_op op_subD (by exact se_var 0) se_int) (by exact sa_cons (by exact se_un un_negD se_int) (by exact sa_cons (by exact se_un un_negD se_int) sa_nil)))) (by exact sg_name 2 nd) (by exact ss_cons (by exact ss_setF 1 nd (by exact se_op op_addD (by exact se_op op_addD (by exact se_lst (by exact sa_cons (by exact se_tup sa_nil) sa_nil)) (by exact se_lc nd (by exact si_seq (m := .w) (by exact se_varW 1)) (blkOk_by (own := [("row", 3)]) rfl) (fun _ _ _ _ _ => (by exact sg_name 3 nd)) (fun _ _ _ _ _ => sts_nil) (fun _ _ _ _ _ => (by exact se_op op_addD (by exact se_tup (by exact sa_cons (by exact se_var 2) sa_nil)) (by exact se_var 3))))) (by exact se_lc nd (by exact si_seq (m := .w) (by exact se_varW 1)) (blkOk_by (own := [("row", 3)]) rfl) (fun _ _ _ _ _ => (by exact sg_name 3 nd)) (fun _ _ _ _ _ => (by exact sts_one (by exact st_val (by exact se_var 3)))) (fun _ _ _ _ _ => (by exact se_var 3))))) ss_nil)) (by exact ss_last (by exact SS.weak (O1 := []) (by exact ss_ret (by exact se_var 1))))))
/-! ### whole -/
abbrev s_whole : Stmt := topS 9
theorem sc_whole : FnScope ["number"] ["number"] (defScope s_whole) := ⟨rfl, rfl, rfl, by decide +kernel, rfl, by decide +kernel, by decide +kernel⟩
def g_whole : XS :=
  (sRet (xTup (xCons (xVar 0) (xCons (xC (.int 1)) xNil))))
def d_whole : List D → Option D := runD 1 1 g_whole
theorem ok_whole {f : Addr} {fd : FuncData} (F : FnP K "whole" s_whole f fd) : FnOk P w K mg base CX0 1 f fd ["number"] (spD K 1 d_whole) := by
  have nd := sc_whole.nd
  refine fnp_ok (k := 0) (O' := []) F sc_whole fun cdv A outer s H E hr => ?_
  exact (by exact ss_last (by exact ss_ret (by exact se_tup (by exact sa_cons (by exact se_var 0) (by exact sa_cons se_int sa_nil)))))
/-! ### way_of -/
abbrev s_way_of : Stmt := topS 11
theorem sc_way_of : FnScope ["one", "other"] ["one", "other"] (defScope s_way_of) := ⟨rfl, rfl, rfl, by decide +kernel, rfl, by decide +kernel, by decide +kernel⟩
def g_way_of : XS :=
  (sRet (xBin oAdd (xCall bAbs (xCons (xBin oSub (xBin oIx (xVar 0) (xC (.int 0))) (xBin oIx (xVar 1) (xC (.int 0)))) xNil)) (xCall bAbs (xCons (xBin oSub (xBin oIx (xVar 0) (xC (.int 1))) (xBin oIx (xVar 1) (xC (.int 1)))) xNil))))
def d_way_of : List D → Option D := runD 2 2 g_way_of
theorem ok_way_of {f : Addr} {fd : FuncData} (F : FnP K "way_of" s_way_of f fd) (b_abs : mg "abs" = none) : FnOk P w K mg base CX0 1 f fd ["one", "other"] (spD K 2 d_way_of) := by
  have nd := sc_way_of.nd
  refine fnp_ok (k := 0) (O' := []) F sc_way_of fun cdv A outer s H E hr => ?_
  exact (by exact ss_last (by exact ss_ret (by exact se_op op_addD (by exact se_callB (st := false) cb_abs b_abs (by exact sa_cons (by exact se_op op_subD (by exact se_ix (by exact se_var 0) se_int) (by exact se_ix (by exact se_var 1) se_int)) sa_nil)) (by exact se_callB (st := false) cb_abs b_abs (by exact sa_cons (by exact se_op op_subD (by exact se_ix (by exact se_var 0) se_int) (by exact se_ix (by exact se_var 1) se_int)) sa_nil)))))
/-! ### hose_reach -/
abbrev s_hose_reach : Stmt := topS 12
theorem sc_hose_reach : FnScope ["places", "reach", "points", "point", "index", "place"] ["places", "reach", "points"] (defScope s_hose_reach) := ⟨rfl, rfl, rfl, by decide +kernel, rfl, by decide +kernel, by decide +kernel⟩
def g_hose_reach : XS :=
  (sRet (xCall bTuple (xCons (xLc (xSeq (xVar 2)) (gSet 3) tYesP (xCall bTuple (xCons (xLc (xIt oEnum (xCons (xVar 0) xNil)) (gTupD 2 (gsCons (gSet 4) (gsCons (gSet 5) gsNil))) (tOf (xBin oLe (xCall (fun ds => if ds.length = 2 then (d_way_of) ds else none) (xCons (xVar 5) (xCons (xVar 3) xNil))) (xVar 1))) (xVar 4) [4, 5]) xNil)) [3]) xNil)))
def d_hose_reach : List D → Option D := runD 3 6 g_hose_reach
theorem ok_hose_reach {f : Addr} {fd : FuncData} (F : FnP K "hose_reach" s_hose_reach f fd) (D_way_of : Def P w K mg base 1 "way_of" ["one", "other"] (d_way_of)) (b_enumerate : mg "enumerate" = none) (b_tuple : mg "tuple" = none) : FnOk P w K mg base CX0 2 f fd ["places", "reach", "points"] (spD K 3 d_hose_reach) := by
  have nd := sc_hose_reach.nd
  refine fnp_ok (k := 1) (O' := []) F sc_hose_reach fun cdv A outer s H E hr => ?_
  exact (by exact ss_last (by exact ss_ret (by exact se_callT (st := false) cb_tuple b_tuple (by exact sa_cons (by exact se_lc nd (by exact si_seq (m := .s) (by exact se_var 2)) (blkOk_by (own := [("point", 3)]) rfl) (fun _ _ _ _ _ => (by exact sg_name 3 nd)) (fun _ _ _ _ _ => sts_nil) (fun _ _ _ _ _ => (by exact se_callT (st := false) cb_tuple b_tuple (by exact sa_cons (by exact se_lc nd (by exact si_enum (st := false) b_enumerate (by exact sa_cons (by exact se_var 0) sa_nil)) (blkOk_by (own := [("index", 4), ("place", 5)]) rfl) (fun _ _ _ _ _ => (by exact sg_tup rfl (by exact sgs_cons (by exact sg_name 4 nd) (by exact sgs_cons (by exact sg_name 5 nd) sgs_nil)))) (fun _ _ _ _ _ => (by exact sts_one (by exact st_cmp op_leD (by exact se_callD D_way_of hr (by exact sa_cons (by exact se_var 5) (by exact sa_cons (by exact se_var 3) sa_nil))) (by exact se_var 1)))) (fun _ _ _ _ _ => (by exact se_var 4))) sa_nil)))) sa_nil))))
/-! ### reach_needed -/
abbrev s_reach_needed : Stmt := topS 13
theorem sc_reach_needed : FnScope ["places", "n", "points", "found", "chosen", "ways", "point", "index"] ["places", "n", "points"] (defScope s_reach_needed) := ⟨rfl, rfl, rfl, by decide +kernel, rfl, by decide +kernel, by decide +kernel⟩
def l1_reach_needed : XS :=
  (sSeq (sIf (tOf (xBin oEq (xCall bLen (xCons (xVar 4) xNil)) (xVar 1))) (sSeq (sSet 5 (xLc (xSeq (xVar 2)) (gSet 6) tYesP (xCallK bMinK (xCons (xLc (xSeq (xVar 4)) (gSet 7) tYesP (xCall (fun ds => if ds.length = 2 then (d_way_of) ds else none) (xCons (xBin oIx (xVar 0) (xVar 7)) (xCons (xVar 6) xNil))) [7]) xNil) (xC .none)) [6]))
  (sSeq (sIf (tOf (xBin oNotIn (xC .none) (xVar 5))) (sSeq (sApp 3 (xTup (xCons (xCallK bMaxK (xCons (xVar 5) xNil) (xC (.int 0))) (xCons (xVar 4) xNil))))
  sNop) sNop)
  sNop)) sNop)
  sNop)
def g_reach_needed : XS :=
  (sSeq (sSet 3 (xLst xNil))
  (sSeq (sFor (xSeq (xCall (fun ds => if ds.length = 1 then (d_all_sets) ds else none) (xCons (xCall bLen (xCons (xVar 0) xNil)) xNil))) (gSet 4) l1_reach_needed)
  (sRet (xCallK bMinK (xCons (xVar 3) xNil) (xC .none)))))
def d_reach_needed : List D → Option D := runD 3 8 g_reach_needed
theorem ok_reach_needed {f : Addr} {fd : FuncData} (F : FnP K "reach_needed" s_reach_needed f fd) (D_all_sets : Def P w K mg base 1 "all_sets" ["n"] (d_all_sets)) (D_way_of : Def P w K mg base 1 "way_of" ["one", "other"] (d_way_of)) (b_len : mg "len" = none) (b_max : mg "max" = none) (b_min : mg "min" = none) : FnOk P w K mg base CX0 2 f fd ["places", "n", "points"] (spD K 3 d_reach_needed) := by
  have nd := sc_reach_needed.nd
  refine fnp_ok (k := 1) (O' := []) F sc_reach_needed fun cdv A outer s H E hr => ?_
  exact (by exact ss_cons (by exact ss_setF 3 nd (by exact se_lst sa_nil)) (by exact ss_cons (by exact ss_for (O' := [3]) (by exact si_seq (m := .s) (by exact se_callD D_all_sets hr (by exact sa_cons (by exact se_callB (st := false) cb_len b_len (by exact sa_cons (by exact se_var 0) sa_nil)) sa_nil))) (by exact sg_name 4 nd) (by exact ss_cons (by exact ss_if (O' := [3]) (by exact st_cmp (op_eqP hr) (by exact se_callB (st := false) cb_len b_len (by exact sa_cons (by exact se_var 4) sa_nil)) (by exact se_var 1)) (by exact ss_cons (by exact ss_setLc 5 nd (by exact si_seq (m := .s) (by exact se_var 2)) (blkOk_by (own := [("point", 6)]) rfl) (fun _ _ _ _ _ => (by exact sg_name 6 nd)) (fun _ _ _ _ _ => sts_nil) (fun _ _ _ _ _ => (by exact se_callK (st := false) (cb_minK (hu65 hr)) b_min (by exact sa_cons (by exact se_lc nd (by exact si_seq (m := .s) (by exact se_var 4)) (blkOk_by (own := [("index", 7)]) rfl) (fun _ _ _ _ _ => (by exact sg_name 7 nd)) (fun _ _ _ _ _ => sts_nil) (fun _ _ _ _ _ => (by exact se_callD D_way_of hr (by exact sa_cons (by exact se_ix (by exact se_var 0) (by exact se_var 7)) (by exact sa_cons (by exact se_var 6) sa_nil))))) sa_nil) se_non))) (by exact ss_cons (by exact ss_if (O' := [5, 3]) (by exact st_cmp (op_notInP hr) se_non (by exact se_varW 5)) (by exact ss_cons (by exact ss_app 3 (by exact se_tup (by exact sa_cons (by exact se_callK (st := false) (cb_maxK (hu65 hr)) b_max (by exact sa_cons (by exact se_varW 5) sa_nil) se_int) (by exact sa_cons (by exact se_var 4) sa_nil)))) ss_nil) ss_nil) ss_nil)) ss_nil) ss_nil)) (by exact ss_last (by exact ss_ret (by exact se_callK (st := false) (cb_minK (hu65 hr)) b_min (by exact sa_cons (by exact se_varW 3) sa_nil) se_non)))))
/-! ### place_at -/
abbrev s_place_at : Stmt := topS 14
theorem sc_place_at : FnScope ["ship", "hour", "x", "y", "across", "up"] ["ship", "hour"] (defScope s_place_at) := ⟨rfl, rfl, rfl, by decide +kernel, rfl, by decide +kernel, by decide +kernel⟩
def g_place_at : XS :=
  (sSeq (sTgt (gTupD 2 (gsCons (gTupD 2 (gsCons (gSet 2) (gsCons (gSet 3) gsNil))) (gsCons (gTupD 2 (gsCons (gSet 4) (gsCons (gSet 5) gsNil))) gsNil))) (xVar 0))
  (sRet (xTup (xCons (xCall (fun ds => if ds.length = 2 then (d_plus) ds else none) (xCons (xCall (fun ds => if ds.length = 1 then (d_whole) ds else none) (xCons (xVar 2) xNil)) (xCons (xCall (fun ds => if ds.length = 2 then (d_times) ds else none) (xCons (xCall (fun ds => if ds.length = 1 then (d_whole) ds else none) (xCons (xVar 4) xNil)) (xCons (xVar 1) xNil))) xNil))) (xCons (xCall (fun ds => if ds.length = 2 then (d_plus) ds else none) (xCons (xCall (fun ds => if ds.length = 1 then (d_whole) ds else none) (xCons (xVar 3) xNil)) (xCons (xCall (fun ds => if ds.length = 2 then (d_times) ds else none) (xCons (xCall (fun ds => if ds.length = 1 then (d_whole) ds else none) (xCons (xVar 5) xNil)) (xCons (xVar 1) xNil))) xNil))) xNil)))))
def d_place_at : List D → Option D := runD 2 6 g_place_at
theorem ok_place_at {f : Addr} {fd : FuncData} (F : FnP K "place_at" s_place_at f fd) (D_plus : Def P w K mg base 3 "plus" ["first", "second"] (d_plus)) (D_times : Def P w K mg base 3 "times" ["first", "second"] (d_times)) (D_whole : Def P w K mg base 1 "whole" ["number"] (d_whole)) : FnOk P w K mg base CX0 4 f fd ["ship", "hour"] (spD K 2 d_place_at) := by
  have nd := sc_place_at.nd
  refine fnp_ok (k := 3) (O' := []) F sc_place_at fun cdv A outer s H E hr => ?_
  exact (by exact ss_cons (by exact ss_tgt (by exact se_var 0) (by exact sg_tup rfl (by exact sgs_cons (by exact sg_tup rfl (by exact sgs_cons (by exact sg_name 2 nd) (by exact sgs_cons (by exact sg_name 3 nd) sgs_nil))) (by exact sgs_cons (by exact sg_tup rfl (by exact sgs_cons (by exact sg_name 4 nd) (by exact sgs_cons (by exact sg_name 5 nd) sgs_nil))) sgs_nil)))) (by exact ss_last (by exact ss_ret (by exact se_tup (by exact sa_cons (by exact se_callD D_plus hr (by exact sa_cons (by exact se_callD D_whole hr (by exact sa_cons (by exact se_var 2) sa_nil)) (by exact sa_cons (by exact se_callD D_times hr (by exact sa_cons (by exact se_callD D_whole hr (by exact sa_cons (by exact se_var 4) sa_nil)) (by exact sa_cons (by exact se_var 1) sa_nil))) sa_nil))) (by exact sa_cons (by exact se_callD D_plus hr (by exact sa_cons (by exact se_callD D_whole hr (by exact sa_cons (by exact se_var 3) sa_nil)) (by exact sa_cons (by exact se_callD D_times hr (by exact sa_cons (by exact se_callD D_whole hr (by exact sa_cons (by exact se_var 5) sa_nil)) (by exact sa_cons (by exact se_var 1) sa_nil))) sa_nil))) sa_nil))))))
/-! ### apart_at -/
abbrev s_apart_at : Stmt := topS 15
theorem sc_apart_at : FnScope ["one", "other", "hour", "first", "second", "across", "up"] ["one", "other", "hour"] (defScope s_apart_at) := ⟨rfl, rfl, rfl, by decide +kernel, rfl, by decide +kernel, by decide +kernel⟩
def g_apart_at : XS :=
  (sSeq (sPar [3, 4] (xCons (xCall (fun ds => if ds.length = 2 then (d_place_at) ds else none) (xCons (xVar 0) (xCons (xVar 2) xNil))) (xCons (xCall (fun ds => if ds.length = 2 then (d_place_at) ds else none) (xCons (xVar 1) (xCons (xVar 2) xNil))) xNil)))
  (sSeq (sPar [5, 6] (xCons (xCall (fun ds => if ds.length = 2 then (d_minus) ds else none) (xCons (xBin oIx (xVar 3) (xC (.int 0))) (xCons (xBin oIx (xVar 4) (xC (.int 0))) xNil))) (xCons (xCall (fun ds => if ds.length = 2 then (d_minus) ds else none) (xCons (xBin oIx (xVar 3) (xC (.int 1))) (xCons (xBin oIx (xVar 4) (xC (.int 1))) xNil))) xNil)))
  (sRet (xCall (fun ds => if ds.length = 2 then (d_plus) ds else none) (xCons (xCall (fun ds => if ds.length = 2 then (d_times) ds else none) (xCons (xVar 5) (xCons (xVar 5) xNil))) (xCons (xCall (fun ds => if ds.length = 2 then (d_times) ds else none) (xCons (xVar 6) (xCons (xVar 6) xNil))) xNil))))))
def d_apart_at : List D → Option D := runD 3 7 g_apart_at
theorem ok_apart_at {f : Addr} {fd : FuncData} (F : FnP K "apart_at" s_apart_at f fd) (D_plus : Def P w K mg base 3 "plus" ["first", "second"] (d_plus)) (D_minus : Def P w K mg base 3 "minus" ["first", "second"] (d_minus)) (D_times : Def P w K mg base 3 "times" ["first", "second"] (d_times)) (D_place_at : Def P w K mg base 4 "place_at" ["ship", "hour"] (d_place_at)) : FnOk P w K mg base CX0 5 f fd ["one", "other", "hour"] (spD K 3 d_apart_at) := by
  have nd := sc_apart_at.nd
  refine fnp_ok (k := 4) (O' := []) F sc_apart_at fun cdv A outer s H E hr => ?_
  exact (by exact ss_cons (by exact ss_par 3 4 nd (by exact sam_cons (by exact se_callD D_place_at hr (by exact sa_cons (by exact se_var 0) (by exact sa_cons (by exact se_var 2) sa_nil))) (by exact sam_cons (by exact se_callD D_place_at hr (by exact sa_cons (by exact se_var 1) (by exact sa_cons (by exact se_var 2) sa_nil))) sam_nil))) (by exact ss_cons (by exact ss_par 5 6 nd (by exact sam_cons (by exact se_callD D_minus hr (by exact sa_cons (by exact se_ix (by exact se_var 3) se_int) (by exact sa_cons (by exact se_ix (by exact se_var 4) se_int) sa_nil))) (by exact sam_cons (by exact se_callD D_minus hr (by exact sa_cons (by exact se_ix (by exact se_var 3) se_int) (by exact sa_cons (by exact se_ix (by exact se_var 4) se_int) sa_nil))) sam_nil))) (by exact ss_last (by exact ss_ret (by exact se_callD D_plus hr (by exact sa_cons (by exact se_callD D_times hr (by exact sa_cons (by exact se_var 5) (by exact sa_cons (by exact se_var 5) sa_nil))) (by exact sa_cons (by exact se_callD D_times hr (by exact sa_cons (by exact se_var 6) (by exact sa_cons (by exact se_var 6) sa_nil))) sa_nil)))))))
/-! ### nearest_hour -/
abbrev s_nearest_hour : Stmt := topS 16
theorem sc_nearest_hour : FnScope ["one", "other", "speed", "x", "y", "across", "up"] ["one", "other"] (defScope s_nearest_hour) := ⟨rfl, rfl, rfl, by decide +kernel, rfl, by decide +kernel, by decide +kernel⟩
def g_nearest_hour : XS :=
  (sSeq (sPar [3, 4] (xCons (xBin oSub (xBin oIx (xBin oIx (xVar 0) (xC (.int 0))) (xC (.int 0))) (xBin oIx (xBin oIx (xVar 1) (xC (.int 0))) (xC (.int 0)))) (xCons (xBin oSub (xBin oIx (xBin oIx (xVar 0) (xC (.int 0))) (xC (.int 1))) (xBin oIx (xBin oIx (xVar 1) (xC (.int 0))) (xC (.int 1)))) xNil)))
  (sSeq (sPar [5, 6] (xCons (xBin oSub (xBin oIx (xBin oIx (xVar 0) (xC (.int 1))) (xC (.int 0))) (xBin oIx (xBin oIx (xVar 1) (xC (.int 1))) (xC (.int 0)))) (xCons (xBin oSub (xBin oIx (xBin oIx (xVar 0) (xC (.int 1))) (xC (.int 1))) (xBin oIx (xBin oIx (xVar 1) (xC (.int 1))) (xC (.int 1)))) xNil)))
  (sSeq (sSet 2 (xBin oAdd (xBin oMul' (xVar 5) (xVar 5)) (xBin oMul' (xVar 6) (xVar 6))))
  (sSeq (sIf (tOrP (tOf (xBin oEq (xVar 2) (xC (.int 0)))) (tOf (xBin oGe (xBin oAdd (xBin oMul' (xVar 3) (xVar 5)) (xBin oMul' (xVar 4) (xVar 6))) (xC (.int 0))))) (sRet (xCall (fun ds => if ds.length = 1 then (d_whole) ds else none) (xCons (xC (.int 0)) xNil))) sNop)
  (sRet (xCall (fun ds => if ds.length = 2 then ((d_lowest) ds).bind fun d => if flat d then some d else none else none) (xCons (xUn oNeg (xBin oAdd (xBin oMul' (xVar 3) (xVar 5)) (xBin oMul' (xVar 4) (xVar 6)))) (xCons (xVar 2) xNil))))))))
def d_nearest_hour : List D → Option D := runD 2 7 g_nearest_hour
theorem ok_nearest_hour {f : Addr} {fd : FuncData} (F : FnP K "nearest_hour" s_nearest_hour f fd) (D_lowest : Def P w K mg base 2 "lowest" ["a", "b"] (d_lowest)) (D_whole : Def P w K mg base 1 "whole" ["number"] (d_whole)) : FnOk P w K mg base CX0 3 f fd ["one", "other"] (spD K 2 d_nearest_hour) := by
  have nd := sc_nearest_hour.nd
  refine fnp_ok (k := 2) (O' := []) F sc_nearest_hour fun cdv A outer s H E hr => ?_
  exact (by exact ss_cons (by exact ss_par 3 4 nd (by exact sam_cons (by exact se_op op_subD (by exact se_ix (by exact se_ix (by exact se_var 0) se_int) se_int) (by exact se_ix (by exact se_ix (by exact se_var 1) se_int) se_int)) (by exact sam_cons (by exact se_op op_subD (by exact se_ix (by exact se_ix (by exact se_var 0) se_int) se_int) (by exact se_ix (by exact se_ix (by exact se_var 1) se_int) se_int)) sam_nil))) (by exact ss_cons (by exact ss_par 5 6 nd (by exact sam_cons (by exact se_op op_subD (by exact se_ix (by exact se_ix (by exact se_var 0) se_int) se_int) (by exact se_ix (by exact se_ix (by exact se_var 1) se_int) se_int)) (by exact sam_cons (by exact se_op op_subD (by exact se_ix (by exact se_ix (by exact se_var 0) se_int) se_int) (by exact se_ix (by exact se_ix (by exact se_var 1) se_int) se_int)) sam_nil))) (by exact ss_cons (by exact ss_setF 2 nd (by exact se_op op_addD (by exact se_op op_mulD' (by exact se_varW 5) (by exact se_varW 5)) (by exact se_op op_mulD' (by exact se_varW 6) (by exact se_varW 6)))) (by exact ss_cons (by exact ss_if (O' := [2, 6, 5, 4, 3]) (by exact SW.st (by exact sw_or (by exact st_cmp (op_eqP hr) (by exact se_varW 2) se_int) (by exact sw_or1 (by exact st_cmp op_geD (by exact se_op op_addD (by exact se_op op_mulD' (by exact se_varW 3) (by exact se_varW 5)) (by exact se_op op_mulD' (by exact se_varW 4) (by exact se_varW 6))) se_int)))) (by exact ss_last (by exact ss_ret (by exact se_callD D_whole hr (by exact sa_cons se_int sa_nil)))) ss_nil) (by exact ss_last (by exact ss_ret (by exact se_callWD D_lowest hr (by exact sa_cons (by exact se_un un_negD (by exact se_op op_addD (by exact se_op op_mulD' (by exact se_varW 3) (by exact se_varW 5)) (by exact se_op op_mulD' (by exact se_varW 4) (by exact se_varW 6)))) (by exact sa_cons (by exact se_varW 2) sa_nil)))))))))
/-! ### nearest_square -/
abbrev s_nearest_square : Stmt := topS 17
theorem sc_nearest_square : FnScope ["one", "other"] ["one", "other"] (defScope s_nearest_square) := ⟨rfl, rfl, rfl, by decide +kernel, rfl, by decide +kernel, by decide +kernel⟩
def g_nearest_square : XS :=
  (sRet (xCall (fun ds => if ds.length = 3 then (d_apart_at) ds else none) (xCons (xVar 0) (xCons (xVar 1) (xCons (xCall (fun ds => if ds.length = 2 then (d_nearest_hour) ds else none) (xCons (xVar 0) (xCons (xVar 1) xNil))) xNil)))))
def d_nearest_square : List D → Option D := runD 2 2 g_nearest_square
theorem ok_nearest_square {f : Addr} {fd : FuncData} (F : FnP K "nearest_square" s_nearest_square f fd) (D_apart_at : Def P w K mg base 5 "apart_at" ["one", "other", "hour"] (d_apart_at)) (D_nearest_hour : Def P w K mg base 3 "nearest_hour" ["one", "other"] (d_nearest_hour)) : FnOk P w K mg base CX0 6 f fd ["one", "other"] (spD K 2 d_nearest_square) := by
  have nd := sc_nearest_square.nd
  refine fnp_ok (k := 5) (O' := []) F sc_nearest_square fun cdv A outer s H E hr => ?_
  exact (by exact ss_last (by exact ss_ret (by exact se_callD D_apart_at hr (by exact sa_cons (by exact se_var 0) (by exact sa_cons (by exact se_var 1) (by exact sa_cons (by exact se_callD D_nearest_hour hr (by exact sa_cons (by exact se_var 0) (by exact sa_cons (by exact se_var 1) sa_nil))) sa_nil))))))
/-! ### they_meet -/
abbrev s_they_meet : Stmt := topS 18
theorem sc_they_meet : FnScope ["one", "other"] ["one", "other"] (defScope s_they_meet) := ⟨rfl, rfl, rfl, by decide +kernel, rfl, by decide +kernel, by decide +kernel⟩
def g_they_meet : XS :=
  (sRet (xBin oEq (xBin oIx (xCall (fun ds => if ds.length = 2 then (d_nearest_square) ds else none) (xCons (xVar 0) (xCons (xVar 1) xNil))) (xC (.int 0))) (xC (.int 0))))
def d_they_meet : List D → Option D := runD 2 2 g_they_meet
theorem ok_they_meet {f : Addr} {fd : FuncData} (F : FnP K "they_meet" s_they_meet f fd) (D_nearest_square : Def P w K mg base 6 "nearest_square" ["one", "other"] (d_nearest_square)) : FnOk P w K mg base CX0 7 f fd ["one", "other"] (spD K 2 d_they_meet) := by
  have nd := sc_they_meet.nd
  refine fnp_ok (k := 6) (O' := []) F sc_they_meet fun cdv A outer s H E hr => ?_
  exact (by exact ss_last (by exact ss_ret (by exact se_cmp (op_eqP hr) (by exact se_ix (by exact se_callD D_nearest_square hr (by exact sa_cons (by exact se_var 0) (by exact sa_cons (by exact se_var 1) sa_nil))) se_int) se_int)))
/-! ### first_within -/
abbrev s_first_within : Stmt := topS 19
theorem sc_first_within : FnScope ["one", "other", "far", "bound", "hour"] ["one", "other", "far", "bound"] (defScope s_first_within) := ⟨rfl, rfl, rfl, by decide +kernel, rfl, by decide +kernel, by decide +kernel⟩
def l1_first_within : XS :=
  (sSeq (sIf (tNotP (tTru (xCall (fun ds => if ds.length = 2 then (d_is_less) ds else none) (xCons (xCall (fun ds => if ds.length = 1 then (d_whole) ds else none) (xCons (xBin oMul' (xVar 2) (xVar 2)) xNil)) (xCons (xCall (fun ds => if ds.length = 3 then (d_apart_at) ds else none) (xCons (xVar 0) (xCons (xVar 1) (xCons (xCall (fun ds => if ds.length = 1 then (d_whole) ds else none) (xCons (xVar 4) xNil)) xNil)))) xNil))))) (sRet (xVar 4)) sNop)
  sNop)
def g_first_within : XS :=
  (sSeq (sFor (xIt oR1 (xCons (xBin oAdd (xVar 3) (xC (.int 1))) xNil)) (gSet 4) l1_first_within)
  (sRet (xC .none)))
def d_first_within : List D → Option D := runD 4 5 g_first_within
theorem ok_first_within {f : Addr} {fd : FuncData} (F : FnP K "first_within" s_first_within f fd) (D_is_less : Def P w K mg base 1 "is_less" ["first", "second"] (d_is_less)) (D_whole : Def P w K mg base 1 "whole" ["number"] (d_whole)) (D_apart_at : Def P w K mg base 5 "apart_at" ["one", "other", "hour"] (d_apart_at)) (b_range : mg "range" = none) : FnOk P w K mg base CX0 6 f fd ["one", "other", "far", "bound"] (spD K 4 d_first_within) := by
  have nd := sc_first_within.nd
  refine fnp_ok (k := 5) (O' := []) F sc_first_within fun cdv A outer s H E hr => ?_
  exact (by exact ss_cons (by exact ss_for (O' := []) (by exact si_r1 (st := false) b_range (by exact sa_cons (by exact se_op op_addD (by exact se_var 3) se_int) sa_nil)) (by exact sg_name 4 nd) (by exact ss_cons (by exact ss_if (O' := []) (by exact st_not (by exact st_val (by exact se_callD D_is_less hr (by exact sa_cons (by exact se_callD D_whole hr (by exact sa_cons (by exact se_op op_mulD' (by exact se_var 2) (by exact se_var 2)) sa_nil)) (by exact sa_cons (by exact se_callD D_apart_at hr (by exact sa_cons (by exact se_var 0) (by exact sa_cons (by exact se_var 1) (by exact sa_cons (by exact se_callD D_whole hr (by exact sa_cons (by exact se_var 4) sa_nil)) sa_nil)))) sa_nil))))) (by exact ss_last (by exact ss_ret (by exact se_var 4))) ss_nil) ss_nil)) (by exact ss_last (by exact ss_ret se_non)))
/-! ### pairs_near -/
abbrev s_pairs_near : Stmt := topS 20
theorem sc_pairs_near : FnScope ["ships", "far", "i", "j"] ["ships", "far"] (defScope s_pairs_near) := ⟨rfl, rfl, rfl, by decide +kernel, rfl, by decide +kernel, by decide +kernel⟩
def g_pairs_near : XS :=
  (sRet (xCall bTuple (xCons (xLc2 (xIt oR1 (xCons (xCall bLen (xCons (xVar 0) xNil)) xNil)) (gSet 2) tYesP (xIt oR2 (xCons (xBin oAdd (xVar 2) (xC (.int 1))) (xCons (xCall bLen (xCons (xVar 0) xNil)) xNil))) (gSet 3) (tTru (xCall (fun ds => if ds.length = 2 then (d_is_less) ds else none) (xCons (xCall (fun ds => if ds.length = 2 then (d_nearest_square) ds else none) (xCons (xBin oIx (xVar 0) (xVar 2)) (xCons (xBin oIx (xVar 0) (xVar 3)) xNil))) (xCons (xCall (fun ds => if ds.length = 1 then (d_whole) ds else none) (xCons (xBin oMul' (xVar 1) (xVar 1)) xNil)) xNil)))) (xTup (xCons (xVar 2) (xCons (xVar 3) xNil))) [2, 3] [3]) xNil)))
def d_pairs_near : List D → Option D := runD 2 4 g_pairs_near
theorem ok_pairs_near {f : Addr} {fd : FuncData} (F : FnP K "pairs_near" s_pairs_near f fd) (D_is_less : Def P w K mg base 1 "is_less" ["first", "second"] (d_is_less)) (D_whole : Def P w K mg base 1 "whole" ["number"] (d_whole)) (D_nearest_square : Def P w K mg base 6 "nearest_square" ["one", "other"] (d_nearest_square)) (b_len : mg "len" = none) (b_range : mg "range" = none) (b_tuple : mg "tuple" = none) : FnOk P w K mg base CX0 7 f fd ["ships", "far"] (spD K 2 d_pairs_near) := by
  have nd := sc_pairs_near.nd
  refine fnp_ok (k := 6) (O' := []) F sc_pairs_near fun cdv A outer s H E hr => ?_
  exact (by exact ss_last (by exact ss_ret (by exact se_callT (st := false) cb_tuple b_tuple (by exact sa_cons (by exact se_lc2 (vs1 := [3]) nd (by exact si_r1 (st := false) b_range (by exact sa_cons (by exact se_callB (st := false) cb_len b_len (by exact sa_cons (by exact se_var 0) sa_nil)) sa_nil)) (blkOk_by (own := [("i", 2), ("j", 3)]) rfl) (fun _ _ _ _ _ => (by exact sg_name 2 nd)) (fun _ _ _ _ _ => sts_nil) (fun _ _ _ _ _ => (by exact si_r2 (st := false) b_range (by exact sa_cons (by exact se_op op_addD (by exact se_var 2) se_int) (by exact sa_cons (by exact se_callB (st := false) cb_len b_len (by exact sa_cons (by exact se_var 0) sa_nil)) sa_nil)))) (fun _ _ _ _ _ => (by exact sg_name 3 nd)) (fun _ _ _ _ _ => (by exact sts_one (by exact st_val (by exact se_callD D_is_less hr (by exact sa_cons (by exact se_callD D_nearest_square hr (by exact sa_cons (by exact se_ix (by exact se_var 0) (by exact se_var 2)) (by exact sa_cons (by exact se_ix (by exact se_var 0) (by exact se_var 3)) sa_nil))) (by exact sa_cons (by exact se_callD D_whole hr (by exact sa_cons (by exact se_op op_mulD' (by exact se_var 1) (by exact se_var 1)) sa_nil)) sa_nil)))))) (fun _ _ _ _ _ => (by exact se_tup (by exact sa_cons (by exact se_var 2) (by exact sa_cons (by exact se_var 3) sa_nil))))) sa_nil))))
/-! ### course_to -/
abbrev s_course_to : Stmt := topS 21
theorem sc_course_to : FnScope ["place", "ship", "speed", "bound", "hour", "there"] ["place", "ship", "speed", "bound"] (defScope s_course_to) := ⟨rfl, rfl, rfl, by decide +kernel, rfl, by decide +kernel, by decide +kernel⟩
def l1_course_to : XS :=
  (sSeq (sSet 5 (xTup (xCons (xBin oAdd (xBin oIx (xBin oIx (xVar 1) (xC (.int 0))) (xC (.int 0))) (xBin oMul' (xVar 4) (xBin oIx (xBin oIx (xVar 1) (xC (.int 1))) (xC (.int 0))))) (xCons (xBin oAdd (xBin oIx (xBin oIx (xVar 1) (xC (.int 0))) (xC (.int 1))) (xBin oMul' (xVar 4) (xBin oIx (xBin oIx (xVar 1) (xC (.int 1))) (xC (.int 1))))) xNil))))
  (sSeq (sIf (tOf (xBin oLe (xCall (fun ds => if ds.length = 2 then ((d_way_of) ds).bind fun d => if flat d then some d else none else none) (xCons (xVar 0) (xCons (xVar 5) xNil))) (xBin oMul' (xVar 2) (xVar 4)))) (sRet (xTup (xCons (xVar 4) (xCons (xVar 5) xNil)))) sNop)
  sNop))
def g_course_to : XS :=
  (sSeq (sFor (xIt oR1 (xCons (xBin oAdd (xVar 3) (xC (.int 1))) xNil)) (gSet 4) l1_course_to)
  (sRet (xC .none)))
def d_course_to : List D → Option D := runD 4 6 g_course_to
theorem ok_course_to {f : Addr} {fd : FuncData} (F : FnP K "course_to" s_course_to f fd) (D_way_of : Def P w K mg base 1 "way_of" ["one", "other"] (d_way_of)) (b_range : mg "range" = none) : FnOk P w K mg base CX0 2 f fd ["place", "ship", "speed", "bound"] (spD K 4 d_course_to) := by
  have nd := sc_course_to.nd
  refine fnp_ok (k := 1) (O' := []) F sc_course_to fun cdv A outer s H E hr => ?_
  exact (by exact ss_cons (by exact ss_for (O' := []) (by exact si_r1 (st := false) b_range (by exact sa_cons (by exact se_op op_addD (by exact se_var 3) se_int) sa_nil)) (by exact sg_name 4 nd) (by exact ss_cons (by exact ss_setF 5 nd (by exact se_tup (by exact sa_cons (by exact se_op op_addD (by exact se_ix (by exact se_ix (by exact se_var 1) se_int) se_int) (by exact se_op op_mulD' (by exact se_var 4) (by exact se_ix (by exact se_ix (by exact se_var 1) se_int) se_int))) (by exact sa_cons (by exact se_op op_addD (by exact se_ix (by exact se_ix (by exact se_var 1) se_int) se_int) (by exact se_op op_mulD' (by exact se_var 4) (by exact se_ix (by exact se_ix (by exact se_var 1) se_int) se_int))) sa_nil)))) (by exact ss_cons (by exact ss_if (O' := [5]) (by exact st_cmp op_leD (by exact se_callWD D_way_of hr (by exact sa_cons (by exact se_var 0) (by exact sa_cons (by exact se_varW 5) sa_nil))) (by exact se_op op_mulD' (by exact se_var 2) (by exact se_var 4))) (by exact ss_last (by exact SS.weak (O1 := []) (by exact ss_ret (by exact se_tup (by exact sa_cons (by exact se_var 4) (by exact sa_cons (by exact se_var 5) sa_nil)))))) ss_nil) ss_nil))) (by exact ss_last (by exact ss_ret se_non)))
/-! ### swing_meets -/
abbrev s_swing_meets : Stmt := topS 23
theorem sc_swing_meets : FnScope ["one", "other", "across", "up", "both"] ["one", "other"] (defScope s_swing_meets) := ⟨rfl, rfl, rfl, by decide +kernel, rfl, by decide +kernel, by decide +kernel⟩
def g_swing_meets : XS :=
  (sSeq (sPar [2, 3, 4] (xCons (xBin oSub (xBin oIx (xVar 0) (xC (.int 0))) (xBin oIx (xVar 1) (xC (.int 0)))) (xCons (xBin oSub (xBin oIx (xVar 0) (xC (.int 1))) (xBin oIx (xVar 1) (xC (.int 1)))) (xCons (xBin oAdd (xBin oIx (xVar 0) (xC (.int 2))) (xBin oIx (xVar 1) (xC (.int 2)))) xNil))))
  (sRet (xBin oLe (xBin oAdd (xBin oMul' (xVar 2) (xVar 2)) (xBin oMul' (xVar 3) (xVar 3))) (xBin oMul' (xVar 4) (xVar 4)))))
def d_swing_meets : List D → Option D := runD 2 5 g_swing_meets
theorem ok_swing_meets {f : Addr} {fd : FuncData} (F : FnP K "swing_meets" s_swing_meets f fd) : FnOk P w K mg base CX0 1 f fd ["one", "other"] (spD K 2 d_swing_meets) := by
  have nd := sc_swing_meets.nd
  refine fnp_ok (k := 0) (O' := []) F sc_swing_meets fun cdv A outer s H E hr => ?_
  exact (by exact ss_cons (by exact ss_par3 2 3 4 nd (by exact sam_cons (by exact se_op op_subD (by exact se_ix (by exact se_var 0) se_int) (by exact se_ix (by exact se_var 1) se_int)) (by exact sam_cons (by exact se_op op_subD (by exact se_ix (by exact se_var 0) se_int) (by exact se_ix (by exact se_var 1) se_int)) (by exact sam_cons (by exact se_op op_addD (by exact se_ix (by exact se_var 0) se_int) (by exact se_ix (by exact se_var 1) se_int)) sam_nil)))) (by exact ss_last (by exact ss_ret (by exact se_cmp op_leD (by exact se_op op_addD (by exact se_op op_mulD' (by exact se_varW 2) (by exact se_varW 2)) (by exact se_op op_mulD' (by exact se_varW 3) (by exact se_varW 3))) (by exact se_op op_mulD' (by exact se_varW 4) (by exact se_varW 4))))))
/-! ### clear_all -/
abbrev s_clear_all : Stmt := topS 24
theorem sc_clear_all : FnScope ["rounds", "other", "place", "one"] ["rounds"] (defScope s_clear_all) := ⟨rfl, rfl, rfl, by decide +kernel, rfl, by decide +kernel, by decide +kernel⟩
def g_clear_all : XS :=
  (sRet (xUn oNot (xCall bAny (xCons (xLc2 (xIt oEnum (xCons (xVar 0) xNil)) (gTupD 2 (gsCons (gSet 2) (gsCons (gSet 3) gsNil))) tYesP (xSeq (xSl (xVar 0) oNo (oAt (xVar 2)))) (gSet 1) tYesP (xCall (fun ds => if ds.length = 2 then (d_swing_meets) ds else none) (xCons (xVar 3) (xCons (xVar 1) xNil))) [2, 3, 1] [1]) xNil))))
def d_clear_all : List D → Option D := runD 1 4 g_clear_all
theorem ok_clear_all {f : Addr} {fd : FuncData} (F : FnP K "clear_all" s_clear_all f fd) (D_swing_meets : Def P w K mg base 1 "swing_meets" ["one", "other"] (d_swing_meets)) (b_any : mg "any" = none) (b_enumerate : mg "enumerate" = none) : FnOk P w K mg base CX0 2 f fd ["rounds"] (spD K 1 d_clear_all) := by
  have nd := sc_clear_all.nd
  refine fnp_ok (k := 1) (O' := []) F sc_clear_all fun cdv A outer s H E hr => ?_
  exact (by exact ss_last (by exact ss_ret (by exact se_not (m := .f) (by exact se_callB (st := false) cb_any b_any (by exact sa_cons (by exact se_lc2 (vs1 := [1]) nd (by exact si_enum (st := false) b_enumerate (by exact sa_cons (by exact se_var 0) sa_nil)) (blkOk_by (own := [("place", 2), ("one", 3), ("other", 1)]) rfl) (fun _ _ _ _ _ => (by exact sg_tup rfl (by exact sgs_cons (by exact sg_name 2 nd) (by exact sgs_cons (by exact sg_name 3 nd) sgs_nil)))) (fun _ _ _ _ _ => sts_nil) (fun _ _ _ _ _ => (by exact si_seq (m := .f) (by exact se_sl (by exact se_var 0) so_none (by exact so_some (by exact se_var 2))))) (fun _ _ _ _ _ => (by exact sg_name 1 nd)) (fun _ _ _ _ _ => sts_nil) (fun _ _ _ _ _ => (by exact se_callD D_swing_meets hr (by exact sa_cons (by exact se_var 3) (by exact sa_cons (by exact se_var 1) sa_nil))))) sa_nil)))))
/-! ### anchors_least -/
abbrev s_anchors_least : Stmt := topS 25
theorem sc_anchors_least : FnScope ["places", "reaches", "rows", "reach", "grown", "row", "index", "rounds", "other", "size", "one"] ["places", "reaches"] (defScope s_anchors_least) := ⟨rfl, rfl, rfl, by decide +kernel, rfl, by decide +kernel, by decide +kernel⟩
def l1_anchors_least : XS :=
  (sSeq (sIf (tOf (xBin oNotIn (xVar 6) (xVar 5))) (sSeq (sSet 7 (xLc (xIt oZipM (xCons (xVar 5) (xCons (xVar 1) xNil))) (gTupD 2 (gsCons (gSet 8) (gsCons (gSet 9) gsNil))) tYesP (xBin oAdd (xBin oIx (xVar 0) (xVar 8)) (xTup (xCons (xVar 9) xNil))) [8, 9]))
  (sSeq (sIf (tNotP (tTru (xCall bAny (xCons (xLc (xSeq (xVar 7)) (gSet 10) tYesP (xCall (fun ds => if ds.length = 2 then (d_swing_meets) ds else none) (xCons (xBin oAdd (xBin oIx (xVar 0) (xVar 6)) (xTup (xCons (xVar 3) xNil))) (xCons (xVar 10) xNil))) [10]) xNil)))) (sSeq (sApp 4 (xBin oAdd (xVar 5) (xTup (xCons (xVar 6) xNil))))
  sNop) sNop)
  sNop)) sNop)
  sNop)
def l2_anchors_least : XS :=
  (sSeq (sFor (xIt oR1 (xCons (xCall bLen (xCons (xVar 0) xNil)) xNil)) (gSet 6) l1_anchors_least)
  sNop)
def l3_anchors_least : XS :=
  (sSeq (sSet 4 (xLst xNil))
  (sSeq (sFor (xSeq (xVar 2)) (gSet 5) l2_anchors_least)
  (sSeq (sSet 2 (xVar 4))
  sNop)))
def g_anchors_least : XS :=
  (sSeq (sSet 2 (xLst (xCons (xTup xNil) xNil)))
  (sSeq (sFor (xSeq (xVar 1)) (gSet 3) l3_anchors_least)
  (sRet (xCallK bMinK (xCons (xVar 2) xNil) (xC .none)))))
def d_anchors_least : List D → Option D := runD 2 11 g_anchors_least
theorem ok_anchors_least {f : Addr} {fd : FuncData} (F : FnP K "anchors_least" s_anchors_least f fd) (D_swing_meets : Def P w K mg base 1 "swing_meets" ["one", "other"] (d_swing_meets)) (b_any : mg "any" = none) (b_len : mg "len" = none) (b_min : mg "min" = none) (b_range : mg "range" = none) (b_zip : mg "zip" = none) : FnOk P w K mg base CX0 2 f fd ["places", "reaches"] (spD K 2 d_anchors_least) := by
  have nd := sc_anchors_least.nd
  refine fnp_ok (k := 1) (O' := []) F sc_anchors_least fun cdv A outer s H E hr => ?_
  exact (by exact ss_cons (by exact ss_setF 2 nd (by exact se_lst (by exact sa_cons (by exact se_tup sa_nil) sa_nil))) (by exact ss_cons (by exact SS.weak (O1 := []) (by exact ss_for (O' := []) (by exact si_seq (m := .s) (by exact se_var 1)) (by exact sg_name 3 nd) (by exact ss_cons (by exact ss_setF 4 nd (by exact se_lst sa_nil)) (by exact ss_cons (by exact ss_for (O' := [4]) (by exact si_seq (m := .s) (by exact se_var 2)) (by exact sg_name 5 nd) (by exact ss_cons (by exact ss_for (O' := [4]) (by exact si_r1 (st := false) b_range (by exact sa_cons (by exact se_callB (st := false) cb_len b_len (by exact sa_cons (by exact se_var 0) sa_nil)) sa_nil)) (by exact sg_name 6 nd) (by exact ss_cons (by exact ss_if (O' := [4]) (by exact st_cmp (op_notInP hr) (by exact se_var 6) (by exact se_var 5)) (by exact ss_cons (by exact ss_setLc 7 nd (by exact si_zipM (st := false) b_zip (by exact sa_cons (by exact se_var 5) (by exact sa_cons (by exact se_var 1) sa_nil))) (blkOk_by (own := [("other", 8), ("size", 9)]) rfl) (fun _ _ _ _ _ => (by exact sg_tup rfl (by exact sgs_cons (by exact sg_name 8 nd) (by exact sgs_cons (by exact sg_name 9 nd) sgs_nil)))) (fun _ _ _ _ _ => sts_nil) (fun _ _ _ _ _ => (by exact se_op op_addD (by exact se_ix (by exact se_var 0) (by exact se_var 8)) (by exact se_tup (by exact sa_cons (by exact se_var 9) sa_nil))))) (by exact ss_cons (by exact ss_if (O' := [7, 4]) (by exact st_not (by exact st_val (by exact se_callB (st := false) cb_any b_any (by exact sa_cons (by exact se_lc nd (by exact si_seq (m := .w) (by exact se_varW 7)) (blkOk_by (own := [("one", 10)]) rfl) (fun _ _ _ _ _ => (by exact sg_name 10 nd)) (fun _ _ _ _ _ => sts_nil) (fun _ _ _ _ _ => (by exact se_callD D_swing_meets hr (by exact sa_cons (by exact se_op op_addD (by exact se_ix (by exact se_var 0) (by exact se_var 6)) (by exact se_tup (by exact sa_cons (by exact se_var 3) sa_nil))) (by exact sa_cons (by exact se_var 10) sa_nil))))) sa_nil)))) (by exact ss_cons (by exact ss_app 4 (by exact se_op op_addD (by exact se_var 5) (by exact se_tup (by exact sa_cons (by exact se_var 6) sa_nil)))) ss_nil) ss_nil) ss_nil)) ss_nil) ss_nil)) ss_nil)) (by exact ss_cons (by exact SS.weak (O1 := []) (by exact ss_setS 2 nd (by exact se_var 4))) ss_nil))))) (by exact ss_last (by exact ss_ret (by exact se_callK (st := false) (cb_minK (hu65 hr)) b_min (by exact sa_cons (by exact se_var 2) sa_nil) se_non)))))
/-! ### most_anchored -/
abbrev s_most_anchored : Stmt := topS 26
theorem sc_most_anchored : FnScope ["places", "reaches", "found", "chosen", "ship"] ["places", "reaches"] (defScope s_most_anchored) := ⟨rfl, rfl, rfl, by decide +kernel, rfl, by decide +kernel, by decide +kernel⟩
def g_most_anchored : XS :=
  (sSeq (sSet 2 (xLc (xSeq (xCall (fun ds => if ds.length = 1 then (d_all_sets) ds else none) (xCons (xCall bLen (xCons (xVar 1) xNil)) xNil))) (gSet 3) (tOf (xBin oIsNot (xCall (fun ds => if ds.length = 2 then (d_anchors_least) ds else none) (xCons (xVar 0) (xCons (xLc (xSeq (xVar 3)) (gSet 4) tYesP (xBin oIx (xVar 1) (xVar 4)) [4]) xNil))) (xC .none))) (xTup (xCons (xUn oNeg (xCall bLen (xCons (xVar 3) xNil))) (xCons (xVar 3) xNil))) [3]))
  (sRet (xBin oIx (xCall bMinD (xCons (xVar 2) xNil)) (xC (.int 1)))))
def d_most_anchored : List D → Option D := runD 2 5 g_most_anchored
theorem ok_most_anchored {f : Addr} {fd : FuncData} (F : FnP K "most_anchored" s_most_anchored f fd) (D_all_sets : Def P w K mg base 1 "all_sets" ["n"] (d_all_sets)) (D_anchors_least : Def P w K mg base 2 "anchors_least" ["places", "reaches"] (d_anchors_least)) (b_len : mg "len" = none) (b_min : mg "min" = none) : FnOk P w K mg base CX0 3 f fd ["places", "reaches"] (spD K 2 d_most_anchored) := by
  have nd := sc_most_anchored.nd
  refine fnp_ok (k := 2) (O' := []) F sc_most_anchored fun cdv A outer s H E hr => ?_
  exact (by exact ss_cons (by exact ss_setLc 2 nd (by exact si_seq (m := .s) (by exact se_callD D_all_sets hr (by exact sa_cons (by exact se_callB (st := false) cb_len b_len (by exact sa_cons (by exact se_var 1) sa_nil)) sa_nil))) (blkOk_by (own := [("chosen", 3)]) rfl) (fun _ _ _ _ _ => (by exact sg_name 3 nd)) (fun _ _ _ _ _ => (by exact sts_one (by exact st_cmp op_isNotD (by exact se_callD D_anchors_least hr (by exact sa_cons (by exact se_var 0) (by exact sa_cons (by exact se_lc nd (by exact si_seq (m := .s) (by exact se_var 3)) (blkOk_by (own := [("ship", 4)]) rfl) (fun _ _ _ _ _ => (by exact sg_name 4 nd)) (fun _ _ _ _ _ => sts_nil) (fun _ _ _ _ _ => (by exact se_ix (by exact se_var 1) (by exact se_var 4)))) sa_nil))) se_non))) (fun _ _ _ _ _ => (by exact se_tup (by exact sa_cons (by exact se_un un_negD (by exact se_callB (st := false) cb_len b_len (by exact sa_cons (by exact se_var 3) sa_nil))) (by exact sa_cons (by exact se_var 3) sa_nil))))) (by exact ss_last (by exact ss_ret (by exact se_ix (by exact se_callB (st := false) (cb_minD (hu65 hr)) b_min (by exact sa_cons (by exact se_varW 2) sa_nil)) se_int))))
/-! ### in_channel -/
abbrev s_in_channel : Stmt := topS 27
theorem sc_in_channel : FnScope ["rounds", "low", "high", "index", "x", "y", "reach"] ["rounds", "low", "high"] (defScope s_in_channel) := ⟨rfl, rfl, rfl, by decide +kernel, rfl, by decide +kernel, by decide +kernel⟩
def g_in_channel : XS :=
  (sRet (xCall bTuple (xCons (xLc (xIt oEnum (xCons (xVar 0) xNil)) (gTupD 2 (gsCons (gSet 3) (gsCons (gTupD 3 (gsCons (gSet 4) (gsCons (gSet 5) (gsCons (gSet 6) gsNil)))) gsNil))) (tAndP (tOf (xBin oGe (xBin oAdd (xVar 5) (xVar 6)) (xVar 1))) (tOf (xBin oLe (xBin oSub (xVar 5) (xVar 6)) (xVar 2)))) (xVar 3) [3, 4, 5, 6]) xNil)))
def d_in_channel : List D → Option D := runD 3 7 g_in_channel
theorem ok_in_channel {f : Addr} {fd : FuncData} (F : FnP K "in_channel" s_in_channel f fd) (b_enumerate : mg "enumerate" = none) (b_tuple : mg "tuple" = none) : FnOk P w K mg base CX0 1 f fd ["rounds", "low", "high"] (spD K 3 d_in_channel) := by
  have nd := sc_in_channel.nd
  refine fnp_ok (k := 0) (O' := []) F sc_in_channel fun cdv A outer s H E hr => ?_
  exact (by exact ss_last (by exact ss_ret (by exact se_callT (st := false) cb_tuple b_tuple (by exact sa_cons (by exact se_lc nd (by exact si_enum (st := false) b_enumerate (by exact sa_cons (by exact se_var 0) sa_nil)) (blkOk_by (own := [("index", 3), ("x", 4), ("y", 5), ("reach", 6)]) rfl) (fun _ _ _ _ _ => (by exact sg_tup rfl (by exact sgs_cons (by exact sg_name 3 nd) (by exact sgs_cons (by exact sg_tup rfl (by exact sgs_cons (by exact sg_name 4 nd) (by exact sgs_cons (by exact sg_name 5 nd) (by exact sgs_cons (by exact sg_name 6 nd) sgs_nil)))) sgs_nil)))) (fun _ _ _ _ _ => (by exact sts_one (by exact SW.st (by exact sw_and (by exact st_cmp op_geD (by exact se_op op_addD (by exact se_var 5) (by exact se_var 6)) (by exact se_var 1)) (by exact sw_and1 (by exact st_cmp op_leD (by exact se_op op_subD (by exact se_var 5) (by exact se_var 6)) (by exact se_var 2))))))) (fun _ _ _ _ _ => (by exact se_var 3))) sa_nil))))
/-! ### _law_mixed -/
abbrev s__law_mixed : Stmt := topS 29
theorem sc__law_mixed : FnScope ["script", "k", "cell", "first", "second", "third"] ["script", "k"] (defScope s__law_mixed) := ⟨rfl, rfl, rfl, by decide +kernel, rfl, by decide +kernel, by decide +kernel⟩
def g__law_mixed : XS :=
  (sSeq (sSet 2 (xC (.int 0)))
  (sSeq (sIf (tOf (xBin oGt (xCall bLen (xCons (xVar 0) xNil)) (xC (.int 0)))) (sSeq (sSet 2 (xBin oIx (xVar 0) (xBin oMod (xVar 1) (xCall bLen (xCons (xVar 0) xNil)))))
  sNop) sNop)
  (sSeq (sSet 3 (xBin oMod (xCall bInt (xCons (xBin oAdd (xBin oAdd (xBin oMul' (xVar 2) (xC (.int 48271))) (xBin oMul' (xVar 1) (xC (.int 69621)))) (xC (.int 8191))) xNil)) (xC (.int 2147483647))))
  (sSeq (sSet 4 (xBin oMod (xCall bInt (xCons (xBin oAdd (xBin oAdd (xBin oMul' (xVar 3) (xVar 3)) (xBin oFdiv (xVar 3) (xC (.int 7)))) (xBin oMul' (xVar 1) (xC (.int 16807)))) xNil)) (xC (.int 2147483629))))
  (sSeq (sSet 5 (xBin oMod (xCall bInt (xCons (xBin oAdd (xBin oAdd (xBin oMul' (xVar 4) (xVar 4)) (xBin oFdiv (xVar 4) (xC (.int 11)))) (xC (.int 40692))) xNil)) (xC (.int 2147483563))))
  (sRet (xBin oMod (xBin oFdiv (xVar 5) (xC (.int 5))) (xC (.int 1000003)))))))))
def d__law_mixed : List D → Option D := runD 2 6 g__law_mixed
theorem ok__law_mixed {f : Addr} {fd : FuncData} (F : FnP K "_law_mixed" s__law_mixed f fd) (b_int : mg "int" = none) (b_len : mg "len" = none) : FnOk P w K mg base CX0 1 f fd ["script", "k"] (spD K 2 d__law_mixed) := by
  have nd := sc__law_mixed.nd
  refine fnp_ok (k := 0) (O' := []) F sc__law_mixed fun cdv A outer s H E hr => ?_
  exact (by exact ss_cons (by exact ss_setF 2 nd se_int) (by exact ss_cons (by exact ss_if (O' := []) (by exact st_cmp op_gtD (by exact se_callB (st := false) cb_len b_len (by exact sa_cons (by exact se_var 0) sa_nil)) se_int) (by exact ss_cons (by exact ss_setS 2 nd (by exact se_ix (by exact se_var 0) (by exact se_op op_modD (by exact se_var 1) (by exact se_callB (st := false) cb_len b_len (by exact sa_cons (by exact se_var 0) sa_nil))))) ss_nil) ss_nil) (by exact ss_cons (by exact ss_setF 3 nd (by exact se_op op_modD (by exact se_callT (st := false) cb_int b_int (by exact sa_cons (by exact se_op op_addD (by exact se_op op_addD (by exact se_op op_mulD' (by exact se_var 2) se_int) (by exact se_op op_mulD' (by exact se_var 1) se_int)) se_int) sa_nil)) se_int)) (by exact ss_cons (by exact ss_setF 4 nd (by exact se_op op_modD (by exact se_callT (st := false) cb_int b_int (by exact sa_cons (by exact se_op op_addD (by exact se_op op_addD (by exact se_op op_mulD' (by exact se_varW 3) (by exact se_varW 3)) (by exact se_op op_fdivD (by exact se_varW 3) se_int)) (by exact se_op op_mulD' (by exact se_var 1) se_int)) sa_nil)) se_int)) (by exact ss_cons (by exact ss_setF 5 nd (by exact se_op op_modD (by exact se_callT (st := false) cb_int b_int (by exact sa_cons (by exact se_op op_addD (by exact se_op op_addD (by exact se_op op_mulD' (by exact se_varW 4) (by exact se_varW 4)) (by exact se_op op_fdivD (by exact se_varW 4) se_int)) se_int) sa_nil)) se_int)) (by exact ss_last (by exact ss_ret (by exact se_op op_modD (by exact se_op op_fdivD (by exact se_varW 5) se_int) se_int))))))))
/-! ### _law_row -/
abbrev s__law_row : Stmt := topS 30
theorem sc__law_row : FnScope ["script", "many", "big", "row", "k"] ["script", "many"] (defScope s__law_row) := ⟨rfl, rfl, rfl, by decide +kernel, rfl, by decide +kernel, by decide +kernel⟩
def l1__law_row : XS :=
  (sSeq (sIf (tOf (xBin oGt (xVar 2) (xC (.int 0)))) (sSeq (sApp 3 (xBin oMod (xCall bInt (xCons (xVar 2) xNil)) (xC (.int 1000))))
  (sSeq (sSet 2 (xBin oFdiv (xVar 2) (xC (.int 1000))))
  sNop)) (sSeq (sApp 3 (xCall (fun ds => if ds.length = 2 then (d__law_mixed) ds else none) (xCons (xVar 0) (xCons (xVar 4) xNil))))
  sNop))
  sNop)
def g__law_row : XS :=
  (sSeq (sSet 2 (xC (.int 0)))
  (sSeq (sIf (tAndP (tOf (xBin oGt (xCall bLen (xCons (xVar 0) xNil)) (xC (.int 0)))) (tOf (xBin oGe (xBin oIx (xVar 0) (xC (.int 0))) (xBin oPow (xC (.int 10)) (xC (.int 18)))))) (sSeq (sSet 2 (xBin oIx (xVar 0) (xC (.int 0))))
  sNop) sNop)
  (sSeq (sSet 3 (xLst xNil))
  (sSeq (sFor (xIt oR1 (xCons (xVar 1) xNil)) (gSet 4) l1__law_row)
  (sRet (xVar 3))))))
def d__law_row : List D → Option D := runD 2 5 g__law_row
theorem ok__law_row {f : Addr} {fd : FuncData} (F : FnP K "_law_row" s__law_row f fd) (D__law_mixed : Def P w K mg base 1 "_law_mixed" ["script", "k"] (d__law_mixed)) (b_int : mg "int" = none) (b_len : mg "len" = none) (b_range : mg "range" = none) : FnOk P w K mg base CX0 2 f fd ["script", "many"] (spD K 2 d__law_row) := by
  have nd := sc__law_row.nd
  refine fnp_ok (k := 1) (O' := []) F sc__law_row fun cdv A outer s H E hr => ?_
  exact (by exact ss_cons (by exact ss_setF 2 nd se_int) (by exact ss_cons (by exact ss_if (O' := []) (by exact SW.st (by exact sw_and (by exact st_cmp op_gtD (by exact se_callB (st := false) cb_len b_len (by exact sa_cons (by exact se_var 0) sa_nil)) se_int) (by exact sw_and1 (by exact st_cmp op_geD (by exact se_ix (by exact se_var 0) se_int) (by exact se_op op_powD se_int se_int))))) (by exact ss_cons (by exact ss_setS 2 nd (by exact se_ix (by exact se_var 0) se_int)) ss_nil) ss_nil) (by exact ss_cons (by exact ss_setF 3 nd (by exact se_lst sa_nil)) (by exact ss_cons (by exact ss_for (O' := [3]) (by exact si_r1 (st := false) b_range (by exact sa_cons (by exact se_var 1) sa_nil)) (by exact sg_name 4 nd) (by exact ss_cons (by exact ss_if (O' := [3]) (by exact st_cmp op_gtD (by exact se_var 2) se_int) (by exact ss_cons (by exact ss_app 3 (by exact se_op op_modD (by exact se_callT (st := false) cb_int b_int (by exact sa_cons (by exact se_var 2) sa_nil)) se_int)) (by exact ss_cons (by exact ss_setF 2 nd (by exact se_op op_fdivD (by exact se_var 2) se_int)) ss_nil)) (by exact ss_cons (by exact ss_app 3 (by exact se_callD D__law_mixed hr (by exact sa_cons (by exact se_var 0) (by exact sa_cons (by exact se_var 4) sa_nil)))) ss_nil)) ss_nil)) (by exact ss_last (by exact SS.weak (O1 := []) (by exact ss_ret (by exact se_var 3))))))))
/-! ### _law_is_int -/
abbrev s__law_is_int : Stmt := topS 31
theorem sc__law_is_int : FnScope ["value"] ["value"] (defScope s__law_is_int) := ⟨rfl, rfl, rfl, by decide +kernel, rfl, by decide +kernel, by decide +kernel⟩
def g__law_is_int : XS :=
  (sRet (xAnd (xUn (oIsi "int") (xVar 0)) (xUn oNot (xUn (oIsi "bool") (xVar 0)))))
def d__law_is_int : List D → Option D := runD 1 1 g__law_is_int
theorem ok__law_is_int {f : Addr} {fd : FuncData} (F : FnP K "_law_is_int" s__law_is_int f fd) (b_bool : mg "bool" = none) (b_int : mg "int" = none) (b_isinstance : mg "isinstance" = none) : FnOk P w K mg base CX0 1 f fd ["value"] (spD K 1 d__law_is_int) := by
  have nd := sc__law_is_int.nd
  refine fnp_ok (k := 0) (O' := []) F sc__law_is_int fun cdv A outer s H E hr => ?_
  exact (by exact ss_last (by exact ss_ret (by exact se_and (by exact se_isi "int" (by exact se_var 0) b_isinstance b_int) (by exact se_bone (by exact se_not (m := .f) (by exact se_isi "bool" (by exact se_var 0) b_isinstance b_bool))))))
/-! ### _law_like -/
abbrev s__law_like : Stmt := topS 32
theorem sc__law_like : FnScope ["value", "due", "k"] ["value", "due"] (defScope s__law_like) := ⟨rfl, rfl, rfl, by decide +kernel, rfl, by decide +kernel, by decide +kernel⟩
def g__law_like (d__law_like : List D → Option D) : XS :=
  (sSeq (sIf (tOf (xBin oIs (xVar 1) (xC .none))) (sRet (xBin oIs (xVar 0) (xC .none))) sNop)
  (sSeq (sIf (tTru (xUn (oIsi "bool") (xVar 1))) (sRet (xAnd (xUn (oIsi "bool") (xVar 0)) (xBin oEq (xVar 0) (xVar 1)))) sNop)
  (sSeq (sIf (tTru (xUn (oIsi "tuple") (xVar 1))) (sSeq (sIf (tOrP (tNotP (tTru (xUn (oIsi "tuple") (xVar 0)))) (tOf (xBin oNe (xCall bLen (xCons (xVar 0) xNil)) (xCall bLen (xCons (xVar 1) xNil))))) (sRet (xC (.bool false))) sNop)
  (sRet (xCall bAll (xCons (xLc (xIt oR1 (xCons (xCall bLen (xCons (xVar 1) xNil)) xNil)) (gSet 2) tYesP (xCall (fun ds => if ds.length = 2 then d__law_like ds else none) (xCons (xBin oIx (xVar 0) (xVar 2)) (xCons (xBin oIx (xVar 1) (xVar 2)) xNil))) [2]) xNil)))) sNop)
  (sSeq (sIf (tTru (xUn (oIsi "str") (xVar 1))) (sRet (xAnd (xUn (oIsi "str") (xVar 0)) (xBin oEq (xVar 0) (xVar 1)))) sNop)
  (sRet (xAnd (xCall (fun ds => if ds.length = 1 then (d__law_is_int) ds else none) (xCons (xVar 0) xNil)) (xBin oEq (xVar 0) (xVar 1))))))))
def d__law_like : Nat → List D → Option D
  | 0 => fun _ => none
  | n + 1 => runD 2 3 (g__law_like (d__law_like n))
theorem ok__law_like {f : Addr} {fd : FuncData} (F : FnP K "_law_like" s__law_like f fd) (hm : mg "_law_like" = some (.ref f)) (kp : PySem.W.keepIn K (.ref f) = true) (hb : Binds K fd ["value", "due"] []) (D__law_is_int : Def P w K mg base 1 "_law_is_int" ["value"] (d__law_is_int)) (b_all : mg "all" = none) (b_bool : mg "bool" = none) (b_isinstance : mg "isinstance" = none) (b_len : mg "len" = none) (b_range : mg "range" = none) (b_str : mg "str" = none) (b_tuple : mg "tuple" = none) : ∀ n, FnOk P w K mg base CX0 (2 + n) f fd ["value", "due"] (spD K 2 (d__law_like n)) := by
  intro n
  induction n with
  | zero => exact fn_none F sc__law_like
  | succ n ih =>
    have nd := sc__law_like.nd
    have D__law_like : Def P w K mg base (2 + n) "_law_like" ["value", "due"] (d__law_like n) := def_ok ih hm kp hb
    refine fnp_ok (k := 2 + n) (O' := []) F sc__law_like fun cdv A outer s H E hr => ?_
    exact (by exact ss_cons (by exact ss_if (O' := []) (by exact st_cmp op_isD (by exact se_var 1) se_non) (by exact ss_last (by exact ss_ret (by exact se_cmp op_isD (by exact se_var 0) se_non))) ss_nil) (by exact ss_cons (by exact ss_if (O' := []) (by exact st_val (by exact se_isi "bool" (by exact se_var 1) b_isinstance b_bool)) (by exact ss_last (by exact ss_ret (by exact se_and (by exact se_isi "bool" (by exact se_var 0) b_isinstance b_bool) (by exact se_bone (by exact se_cmp (op_eqP hr) (by exact se_var 0) (by exact se_var 1)))))) ss_nil) (by exact ss_cons (by exact ss_if (O' := []) (by exact st_val (by exact se_isi "tuple" (by exact se_var 1) b_isinstance b_tuple)) (by exact ss_cons (by exact ss_if (O' := []) (by exact SW.st (by exact sw_or (by exact st_not (by exact st_val (by exact se_isi "tuple" (by exact se_var 0) b_isinstance b_tuple))) (by exact sw_or1 (by exact st_cmp (op_neP hr) (by exact se_callB (st := false) cb_len b_len (by exact sa_cons (by exact se_var 0) sa_nil)) (by exact se_callB (st := false) cb_len b_len (by exact sa_cons (by exact se_var 1) sa_nil)))))) (by exact ss_last (by exact ss_ret se_bl)) ss_nil) (by exact ss_last (by exact ss_ret (by exact se_callB (st := false) cb_all b_all (by exact sa_cons (by exact se_lc nd (by exact si_r1 (st := false) b_range (by exact sa_cons (by exact se_callB (st := false) cb_len b_len (by exact sa_cons (by exact se_var 1) sa_nil)) sa_nil)) (blkOk_by (own := [("k", 2)]) rfl) (fun _ _ _ _ _ => (by exact sg_name 2 nd)) (fun _ _ _ _ _ => sts_nil) (fun _ _ _ _ _ => (by exact se_callD (hk := by omega) D__law_like hr (by exact sa_cons (by exact se_ix (by exact se_var 0) (by exact se_var 2)) (by exact sa_cons (by exact se_ix (by exact se_var 1) (by exact se_var 2)) sa_nil))))) sa_nil))))) ss_nil) (by exact ss_cons (by exact ss_if (O' := []) (by exact st_val (by exact se_isi "str" (by exact se_var 1) b_isinstance b_str)) (by exact ss_last (by exact ss_ret (by exact se_and (by exact se_isi "str" (by exact se_var 0) b_isinstance b_str) (by exact se_bone (by exact se_cmp (op_eqP hr) (by exact se_var 0) (by exact se_var 1)))))) ss_nil) (by exact ss_last (by exact ss_ret (by exact se_and (by exact se_callD (hk := by omega) D__law_is_int hr (by exact sa_cons (by exact se_var 0) sa_nil)) (by exact se_bone (by exact se_cmp (op_eqP hr) (by exact se_var 0) (by exact se_var 1))))))))))
/-! ### _law_sets -/
abbrev s__law_sets : Stmt := topS 33
theorem sc__law_sets : FnScope ["n", "found", "thing", "one"] ["n"] (defScope s__law_sets) := ⟨rfl, rfl, rfl, by decide +kernel, rfl, by decide +kernel, by decide +kernel⟩
def l1__law_sets : XS :=
  (sSeq (sSet 1 (xBin oAdd (xVar 1) (xLc (xSeq (xVar 1)) (gSet 3) tYesP (xBin oAdd (xVar 3) (xTup (xCons (xVar 2) xNil))) [3])))
  sNop)
def g__law_sets : XS :=
  (sSeq (sSet 1 (xLst (xCons (xTup xNil) xNil)))
  (sSeq (sFor (xIt oR1 (xCons (xVar 0) xNil)) (gSet 2) l1__law_sets)
  (sRet (xCall bSortedE (xCons (xVar 1) xNil)))))
def d__law_sets : List D → Option D := runD 1 4 g__law_sets
theorem ok__law_sets {f : Addr} {fd : FuncData} (F : FnP K "_law_sets" s__law_sets f fd) (b_range : mg "range" = none) (b_sorted : mg "sorted" = none) : FnOk P w K mg base CX0 1 f fd ["n"] (spD K 1 d__law_sets) := by
  have nd := sc__law_sets.nd
  refine fnp_ok (k := 0) (O' := []) F sc__law_sets fun cdv A outer s H E hr => ?_
  exact (by exact ss_cons (by exact ss_setF 1 nd (by exact se_lst (by exact sa_cons (by exact se_tup sa_nil) sa_nil))) (by exact ss_cons (by exact ss_for (O' := [1]) (by exact si_r1 (st := false) b_range (by exact sa_cons (by exact se_var 0) sa_nil)) (by exact sg_name 2 nd) (by exact ss_cons (by exact ss_setF 1 nd (by exact se_op op_addD (by exact se_varW 1) (by exact se_lc nd (by exact si_seq (m := .w) (by exact se_varW 1)) (blkOk_by (own := [("one", 3)]) rfl) (fun _ _ _ _ _ => (by exact sg_name 3 nd)) (fun _ _ _ _ _ => sts_nil) (fun _ _ _ _ _ => (by exact se_op op_addD (by exact se_var 3) (by exact se_tup (by exact sa_cons (by exact se_var 2) sa_nil))))))) ss_nil)) (by exact ss_last (by exact ss_ret (by exact se_callB (st := false) (cb_sortedE (hu65 hr)) b_sorted (by exact sa_cons (by exact se_varW 1) sa_nil))))))
/-! ### _law_common -/
abbrev s__law_common : Stmt := topS 34
theorem sc__law_common : FnScope ["first", "second"] ["first", "second"] (defScope s__law_common) := ⟨rfl, rfl, rfl, by decide +kernel, rfl, by decide +kernel, by decide +kernel⟩
def l1__law_common : XS :=
  (sSeq (sPar [0, 1] (xCons (xVar 1) (xCons (xBin oMod (xCall bInt (xCons (xVar 0) xNil)) (xVar 1)) xNil)))
  sNop)
def g__law_common : XS :=
  (sSeq (sPar [0, 1] (xCons (xCall bAbs (xCons (xVar 0) xNil)) (xCons (xCall bAbs (xCons (xVar 1) xNil)) xNil)))
  (sSeq (sWhile (tOf (xBin oGt (xVar 1) (xC (.int 0)))) l1__law_common)
  (sRet (xVar 0))))
def d__law_common : List D → Option D := runD 2 2 g__law_common
theorem ok__law_common {f : Addr} {fd : FuncData} (F : FnP K "_law_common" s__law_common f fd) (b_abs : mg "abs" = none) (b_int : mg "int" = none) : FnOk P w K mg base CX0 1 f fd ["first", "second"] (spD K 2 d__law_common) := by
  have nd := sc__law_common.nd
  refine fnp_ok (k := 0) (O' := []) F sc__law_common fun cdv A outer s H E hr => ?_
  exact (by exact ss_cons (by exact ss_par 0 1 nd (by exact sam_cons (by exact se_callB (st := false) cb_abs b_abs (by exact sa_cons (by exact se_var 0) sa_nil)) (by exact sam_cons (by exact se_callB (st := false) cb_abs b_abs (by exact sa_cons (by exact se_var 1) sa_nil)) sam_nil))) (by exact ss_cons (by exact SS.weak (O1 := [1]) (by exact ss_while (O' := [1]) (by exact st_cmp op_gtD (by exact se_varW 1) se_int) (by exact ss_cons (by exact SS.weak (O1 := []) (by exact ss_par 0 1 nd (by exact sam_cons (by exact se_var 1) (by exact sam_cons (by exact se_op op_modD (by exact se_callT (st := false) cb_int b_int (by exact sa_cons (by exact se_var 0) sa_nil)) (by exact se_var 1)) sam_nil)))) ss_nil))) (by exact ss_last (by exact ss_ret (by exact se_var 0)))))
/-! ### _law_ratio -/
abbrev s__law_ratio : Stmt := topS 35
theorem sc__law_ratio : FnScope ["a", "b", "shared"] ["a", "b"] (defScope s__law_ratio) := ⟨rfl, rfl, rfl, by decide +kernel, rfl, by decide +kernel, by decide +kernel⟩
def g__law_ratio : XS :=
  (sSeq (sSet 2 (xCall (fun ds => if ds.length = 2 then (d__law_common) ds else none) (xCons (xVar 0) (xCons (xVar 1) xNil))))
  (sSeq (sIf (tOf (xBin oLt (xVar 1) (xC (.int 0)))) (sSeq (sSet 2 (xUn oNeg (xVar 2)))
  sNop) sNop)
  (sRet (xTup (xCons (xBin oFdiv (xVar 0) (xVar 2)) (xCons (xBin oFdiv (xVar 1) (xVar 2)) xNil))))))
def d__law_ratio : List D → Option D := runD 2 3 g__law_ratio
theorem ok__law_ratio {f : Addr} {fd : FuncData} (F : FnP K "_law_ratio" s__law_ratio f fd) (D__law_common : Def P w K mg base 1 "_law_common" ["first", "second"] (d__law_common)) : FnOk P w K mg base CX0 2 f fd ["a", "b"] (spD K 2 d__law_ratio) := by
  have nd := sc__law_ratio.nd
  refine fnp_ok (k := 1) (O' := []) F sc__law_ratio fun cdv A outer s H E hr => ?_
  exact (by exact ss_cons (by exact ss_setS 2 nd (by exact se_callD D__law_common hr (by exact sa_cons (by exact se_var 0) (by exact sa_cons (by exact se_var 1) sa_nil)))) (by exact ss_cons (by exact ss_if (O' := []) (by exact st_cmp op_ltD (by exact se_var 1) se_int) (by exact ss_cons (by exact ss_setF 2 nd (by exact se_un un_negD (by exact se_var 2))) ss_nil) ss_nil) (by exact ss_last (by exact ss_ret (by exact se_tup (by exact sa_cons (by exact se_op op_fdivD (by exact se_var 0) (by exact se_var 2)) (by exact sa_cons (by exact se_op op_fdivD (by exact se_var 1) (by exact se_var 2)) sa_nil)))))))
/-! ### _law_tuples -/
abbrev s__law_tuples : Stmt := topS 36
theorem sc__law_tuples : FnScope ["count", "most", "rows", "turn", "grown", "one", "k"] ["count", "most"] (defScope s__law_tuples) := ⟨rfl, rfl, rfl, by decide +kernel, rfl, by decide +kernel, by decide +kernel⟩
def l1__law_tuples : XS :=
  (sSeq (sExt 4 (xLc (xIt oR1 (xCons (xVar 1) xNil)) (gSet 6) tYesP (xBin oAdd (xVar 5) (xTup (xCons (xVar 6) xNil))) [6]))
  sNop)
def l2__law_tuples : XS :=
  (sSeq (sSet 4 (xLst xNil))
  (sSeq (sFor (xSeq (xVar 2)) (gSet 5) l1__law_tuples)
  (sSeq (sSet 2 (xVar 4))
  sNop)))
def g__law_tuples : XS :=
  (sSeq (sSet 2 (xLst (xCons (xTup xNil) xNil)))
  (sSeq (sFor (xIt oR1 (xCons (xVar 0) xNil)) (gSet 3) l2__law_tuples)
  (sRet (xVar 2))))
def d__law_tuples : List D → Option D := runD 2 7 g__law_tuples
theorem ok__law_tuples {f : Addr} {fd : FuncData} (F : FnP K "_law_tuples" s__law_tuples f fd) (b_range : mg "range" = none) : FnOk P w K mg base CX0 1 f fd ["count", "most"] (spD K 2 d__law_tuples) := by
  have nd := sc__law_tuples.nd
  refine fnp_ok (k := 0) (O' := []) F sc__law_tuples fun cdv A outer s H E hr => ?_
  exact (by exact ss_cons (by exact ss_setF 2 nd (by exact se_lst (by exact sa_cons (by exact se_tup sa_nil) sa_nil))) (by exact ss_cons (by exact SS.weak (O1 := []) (by exact ss_for (O' := []) (by exact si_r1 (st := false) b_range (by exact sa_cons (by exact se_var 0) sa_nil)) (by exact sg_name 3 nd) (by exact ss_cons (by exact ss_setF 4 nd (by exact se_lst sa_nil)) (by exact ss_cons (by exact ss_for (O' := [4]) (by exact si_seq (m := .s) (by exact se_var 2)) (by exact sg_name 5 nd) (by exact ss_cons (by exact ss_ext 4 (by exact se_lc nd (by exact si_r1 (st := false) b_range (by exact sa_cons (by exact se_var 1) sa_nil)) (blkOk_by (own := [("k", 6)]) rfl) (fun _ _ _ _ _ => (by exact sg_name 6 nd)) (fun _ _ _ _ _ => sts_nil) (fun _ _ _ _ _ => (by exact se_op op_addD (by exact se_var 5) (by exact se_tup (by exact sa_cons (by exact se_var 6) sa_nil)))))) ss_nil)) (by exact ss_cons (by exact SS.weak (O1 := []) (by exact ss_setS 2 nd (by exact se_var 4))) ss_nil))))) (by exact ss_last (by exact ss_ret (by exact se_var 2)))))
/-! ### _law_square -/
abbrev s__law_square : Stmt := topS 37
theorem sc__law_square : FnScope ["one", "other"] ["one", "other"] (defScope s__law_square) := ⟨rfl, rfl, rfl, by decide +kernel, rfl, by decide +kernel, by decide +kernel⟩
def g__law_square : XS :=
  (sRet (xBin oAdd (xBin oMul' (xBin oSub (xBin oIx (xVar 0) (xC (.int 0))) (xBin oIx (xVar 1) (xC (.int 0)))) (xBin oSub (xBin oIx (xVar 0) (xC (.int 0))) (xBin oIx (xVar 1) (xC (.int 0))))) (xBin oMul' (xBin oSub (xBin oIx (xVar 0) (xC (.int 1))) (xBin oIx (xVar 1) (xC (.int 1)))) (xBin oSub (xBin oIx (xVar 0) (xC (.int 1))) (xBin oIx (xVar 1) (xC (.int 1)))))))
def d__law_square : List D → Option D := runD 2 2 g__law_square
theorem ok__law_square {f : Addr} {fd : FuncData} (F : FnP K "_law_square" s__law_square f fd) : FnOk P w K mg base CX0 1 f fd ["one", "other"] (spD K 2 d__law_square) := by
  have nd := sc__law_square.nd
  refine fnp_ok (k := 0) (O' := []) F sc__law_square fun cdv A outer s H E hr => ?_
  exact (by exact ss_last (by exact ss_ret (by exact se_op op_addD (by exact se_op op_mulD' (by exact se_op op_subD (by exact se_ix (by exact se_var 0) se_int) (by exact se_ix (by exact se_var 1) se_int)) (by exact se_op op_subD (by exact se_ix (by exact se_var 0) se_int) (by exact se_ix (by exact se_var 1) se_int))) (by exact se_op op_mulD' (by exact se_op op_subD (by exact se_ix (by exact se_var 0) se_int) (by exact se_ix (by exact se_var 1) se_int)) (by exact se_op op_subD (by exact se_ix (by exact se_var 0) se_int) (by exact se_ix (by exact se_var 1) se_int))))))
/-! ### _law_off -/
abbrev s__law_off : Stmt := topS 38
theorem sc__law_off : FnScope ["one", "other", "x", "y", "across", "up"] ["one", "other"] (defScope s__law_off) := ⟨rfl, rfl, rfl, by decide +kernel, rfl, by decide +kernel, by decide +kernel⟩
def g__law_off : XS :=
  (sSeq (sPar [2, 3] (xCons (xBin oSub (xBin oIx (xBin oIx (xVar 0) (xC (.int 0))) (xC (.int 0))) (xBin oIx (xBin oIx (xVar 1) (xC (.int 0))) (xC (.int 0)))) (xCons (xBin oSub (xBin oIx (xBin oIx (xVar 0) (xC (.int 0))) (xC (.int 1))) (xBin oIx (xBin oIx (xVar 1) (xC (.int 0))) (xC (.int 1)))) xNil)))
  (sSeq (sPar [4, 5] (xCons (xBin oSub (xBin oIx (xBin oIx (xVar 0) (xC (.int 1))) (xC (.int 0))) (xBin oIx (xBin oIx (xVar 1) (xC (.int 1))) (xC (.int 0)))) (xCons (xBin oSub (xBin oIx (xBin oIx (xVar 0) (xC (.int 1))) (xC (.int 1))) (xBin oIx (xBin oIx (xVar 1) (xC (.int 1))) (xC (.int 1)))) xNil)))
  (sRet (xTup (xCons (xBin oAdd (xBin oMul' (xVar 2) (xVar 2)) (xBin oMul' (xVar 3) (xVar 3))) (xCons (xBin oAdd (xBin oMul' (xVar 2) (xVar 4)) (xBin oMul' (xVar 3) (xVar 5))) (xCons (xBin oAdd (xBin oMul' (xVar 4) (xVar 4)) (xBin oMul' (xVar 5) (xVar 5))) xNil)))))))
def d__law_off : List D → Option D := runD 2 6 g__law_off
theorem ok__law_off {f : Addr} {fd : FuncData} (F : FnP K "_law_off" s__law_off f fd) : FnOk P w K mg base CX0 1 f fd ["one", "other"] (spD K 2 d__law_off) := by
  have nd := sc__law_off.nd
  refine fnp_ok (k := 0) (O' := []) F sc__law_off fun cdv A outer s H E hr => ?_
  exact (by exact ss_cons (by exact ss_par 2 3 nd (by exact sam_cons (by exact se_op op_subD (by exact se_ix (by exact se_ix (by exact se_var 0) se_int) se_int) (by exact se_ix (by exact se_ix (by exact se_var 1) se_int) se_int)) (by exact sam_cons (by exact se_op op_subD (by exact se_ix (by exact se_ix (by exact se_var 0) se_int) se_int) (by exact se_ix (by exact se_ix (by exact se_var 1) se_int) se_int)) sam_nil))) (by exact ss_cons (by exact ss_par 4 5 nd (by exact sam_cons (by exact se_op op_subD (by exact se_ix (by exact se_ix (by exact se_var 0) se_int) se_int) (by exact se_ix (by exact se_ix (by exact se_var 1) se_int) se_int)) (by exact sam_cons (by exact se_op op_subD (by exact se_ix (by exact se_ix (by exact se_var 0) se_int) se_int) (by exact se_ix (by exact se_ix (by exact se_var 1) se_int) se_int)) sam_nil))) (by exact ss_last (by exact ss_ret (by exact se_tup (by exact sa_cons (by exact se_op op_addD (by exact se_op op_mulD' (by exact se_varW 2) (by exact se_varW 2)) (by exact se_op op_mulD' (by exact se_varW 3) (by exact se_varW 3))) (by exact sa_cons (by exact se_op op_addD (by exact se_op op_mulD' (by exact se_varW 2) (by exact se_varW 4)) (by exact se_op op_mulD' (by exact se_varW 3) (by exact se_varW 5))) (by exact sa_cons (by exact se_op op_addD (by exact se_op op_mulD' (by exact se_varW 4) (by exact se_varW 4)) (by exact se_op op_mulD' (by exact se_varW 5) (by exact se_varW 5))) sa_nil))))))))
/-! ### _law_nearest -/
abbrev s__law_nearest : Stmt := topS 39
theorem sc__law_nearest : FnScope ["one", "other", "far", "both", "speed"] ["one", "other"] (defScope s__law_nearest) := ⟨rfl, rfl, rfl, by decide +kernel, rfl, by decide +kernel, by decide +kernel⟩
def g__law_nearest : XS :=
  (sSeq (sTgt (gTupD 3 (gsCons (gSet 2) (gsCons (gSet 3) (gsCons (gSet 4) gsNil)))) (xCall (fun ds => if ds.length = 2 then (d__law_off) ds else none) (xCons (xVar 0) (xCons (xVar 1) xNil))))
  (sSeq (sIf (tOrP (tOf (xBin oEq (xVar 4) (xC (.int 0)))) (tOf (xBin oGe (xVar 3) (xC (.int 0))))) (sRet (xTup (xCons (xTup (xCons (xC (.int 0)) (xCons (xC (.int 1)) xNil))) (xCons (xTup (xCons (xVar 2) (xCons (xC (.int 1)) xNil))) xNil)))) sNop)
  (sRet (xTup (xCons (xCall (fun ds => if ds.length = 2 then (d__law_ratio) ds else none) (xCons (xUn oNeg (xVar 3)) (xCons (xVar 4) xNil))) (xCons (xCall (fun ds => if ds.length = 2 then (d__law_ratio) ds else none) (xCons (xBin oSub (xBin oMul' (xVar 2) (xVar 4)) (xBin oMul' (xVar 3) (xVar 3))) (xCons (xVar 4) xNil))) xNil))))))
def d__law_nearest : List D → Option D := runD 2 5 g__law_nearest
theorem ok__law_nearest {f : Addr} {fd : FuncData} (F : FnP K "_law_nearest" s__law_nearest f fd) (D__law_ratio : Def P w K mg base 2 "_law_ratio" ["a", "b"] (d__law_ratio)) (D__law_off : Def P w K mg base 1 "_law_off" ["one", "other"] (d__law_off)) : FnOk P w K mg base CX0 3 f fd ["one", "other"] (spD K 2 d__law_nearest) := by
  have nd := sc__law_nearest.nd
  refine fnp_ok (k := 2) (O' := []) F sc__law_nearest fun cdv A outer s H E hr => ?_
  exact (by exact ss_cons (by exact ss_tgt (by exact se_callD D__law_off hr (by exact sa_cons (by exact se_var 0) (by exact sa_cons (by exact se_var 1) sa_nil))) (by exact sg_tup rfl (by exact sgs_cons (by exact sg_name 2 nd) (by exact sgs_cons (by exact sg_name 3 nd) (by exact sgs_cons (by exact sg_name 4 nd) sgs_nil))))) (by exact ss_cons (by exact ss_if (O' := []) (by exact SW.st (by exact sw_or (by exact st_cmp (op_eqP hr) (by exact se_var 4) se_int) (by exact sw_or1 (by exact st_cmp op_geD (by exact se_var 3) se_int)))) (by exact ss_last (by exact ss_ret (by exact se_tup (by exact sa_cons (by exact se_tup (by exact sa_cons se_int (by exact sa_cons se_int sa_nil))) (by exact sa_cons (by exact se_tup (by exact sa_cons (by exact se_var 2) (by exact sa_cons se_int sa_nil))) sa_nil))))) ss_nil) (by exact ss_last (by exact ss_ret (by exact se_tup (by exact sa_cons (by exact se_callD D__law_ratio hr (by exact sa_cons (by exact se_un un_negD (by exact se_var 3)) (by exact sa_cons (by exact se_var 4) sa_nil))) (by exact sa_cons (by exact se_callD D__law_ratio hr (by exact sa_cons (by exact se_op op_subD (by exact se_op op_mulD' (by exact se_var 2) (by exact se_var 4)) (by exact se_op op_mulD' (by exact se_var 3) (by exact se_var 3))) (by exact sa_cons (by exact se_var 4) sa_nil))) sa_nil)))))))
/-! ### _law_rounds -/
abbrev s__law_rounds : Stmt := topS 40
theorem sc__law_rounds : FnScope ["places", "reaches", "row", "stand", "a", "low", "high", "due", "rounds", "n", "meet", "near", "b", "both", "square", "meets", "told", "k", "place", "turn"] ["places", "reaches", "row"] (defScope s__law_rounds) := ⟨rfl, rfl, rfl, by decide +kernel, rfl, by decide +kernel, by decide +kernel⟩
def l1__law_rounds : XS :=
  (sSeq (sSet 13 (xBin oAdd (xBin oIx (xVar 1) (xVar 4)) (xBin oIx (xVar 1) (xVar 12))))
  (sSeq (sSet 14 (xCall (fun ds => if ds.length = 2 then (d__law_square) ds else none) (xCons (xBin oIx (xVar 0) (xVar 4)) (xCons (xBin oIx (xVar 0) (xVar 12)) xNil))))
  (sSeq (sSet 15 (xBin oLe (xVar 14) (xBin oMul' (xVar 13) (xVar 13))))
  (sSeq (sIf (tNotP (tTru (xCall (fun ds => if ds.length = 2 then ((d__law_like 8) ds).bind fun d => if flat d then some d else none else none) (xCons (xCall (fun ds => if ds.length = 2 then (d_swing_meets) ds else none) (xCons (xBin oIx (xVar 8) (xVar 4)) (xCons (xBin oIx (xVar 8) (xVar 12)) xNil))) (xCons (xVar 15) xNil))))) (sRet (xC (.bool false))) sNop)
  (sSeq (sIf (tNotP (tTru (xCall (fun ds => if ds.length = 2 then ((d__law_like 8) ds).bind fun d => if flat d then some d else none else none) (xCons (xCall (fun ds => if ds.length = 2 then (d_swing_meets) ds else none) (xCons (xBin oIx (xVar 8) (xVar 12)) (xCons (xBin oIx (xVar 8) (xVar 4)) xNil))) (xCons (xVar 15) xNil))))) (sRet (xC (.bool false))) sNop)
  (sSeq (sSet 16 (xBin oIn (xTup (xCons (xVar 4) (xCons (xVar 12) xNil))) (xCall (fun ds => if ds.length = 2 then ((d_pairs_near) ds).bind fun d => if flat d then some d else none else none) (xCons (xVar 3) (xCons (xVar 13) xNil)))))
  (sSeq (sIf (tOrP (tOf (xBin oNe (xVar 16) (xBin oLt (xVar 14) (xBin oMul' (xVar 13) (xVar 13))))) (tAndP (tTru (xVar 16)) (tNotP (tTru (xVar 15))))) (sRet (xC (.bool false))) sNop)
  (sSeq (sExt 10 (xLc (xIt oR1 (xCons (xCall bInt (xCons (xVar 15) xNil)) xNil)) (gSet 19) tYesP (xTup (xCons (xVar 4) (xCons (xVar 12) xNil))) [19]))
  (sSeq (sExt 11 (xLc (xIt oR1 (xCons (xCall bInt (xCons (xBin oLt (xVar 14) (xC (.int 16))) xNil)) xNil)) (gSet 19) tYesP (xTup (xCons (xVar 4) (xCons (xVar 12) xNil))) [19]))
  sNop)))))))))
def l2__law_rounds : XS :=
  (sSeq (sFor (xIt oR2 (xCons (xBin oAdd (xVar 4) (xC (.int 1))) (xCons (xVar 9) xNil))) (gSet 12) l1__law_rounds)
  sNop)
def g__law_rounds : XS :=
  (sSeq (sPar [8, 9, 10, 11] (xCons (xLc (xIt oR1 (xCons (xCall bLen (xCons (xVar 0) xNil)) xNil)) (gSet 17) tYesP (xBin oAdd (xBin oIx (xVar 0) (xVar 17)) (xTup (xCons (xBin oIx (xVar 1) (xVar 17)) xNil))) [17]) (xCons (xCall bLen (xCons (xVar 0) xNil)) (xCons (xLst xNil) (xCons (xLst xNil) xNil)))))
  (sSeq (sSet 3 (xCall bTuple (xCons (xLc (xSeq (xVar 0)) (gSet 18) tYesP (xTup (xCons (xVar 18) (xCons (xTup (xCons (xC (.int 0)) (xCons (xC (.int 0)) xNil))) xNil))) [18]) xNil)))
  (sSeq (sFor (xIt oR1 (xCons (xVar 9) xNil)) (gSet 4) l2__law_rounds)
  (sSeq (sIf (tOrP (tNotP (tTru (xCall (fun ds => if ds.length = 2 then (d__law_like 8) ds else none) (xCons (xCall (fun ds => if ds.length = 1 then (d_clear_all) ds else none) (xCons (xCall bTuple (xCons (xVar 8) xNil)) xNil)) (xCons (xBin oEq (xCall bLen (xCons (xVar 10) xNil)) (xC (.int 0))) xNil))))) (tNotP (tTru (xCall (fun ds => if ds.length = 2 then (d__law_like 8) ds else none) (xCons (xCall (fun ds => if ds.length = 2 then ((d_pairs_near) ds).bind fun d => if flat d then some d else none else none) (xCons (xVar 3) (xCons (xC (.int 4)) xNil))) (xCons (xCall bTuple (xCons (xVar 11) xNil)) xNil)))))) (sRet (xC (.bool false))) sNop)
  (sSeq (sSet 5 (xBin oMod (xCall bInt (xCons (xBin oIx (xVar 2) (xC (.int 40))) xNil)) (xC (.int 10))))
  (sSeq (sSet 6 (xBin oAdd (xVar 5) (xBin oMod (xCall bInt (xCons (xBin oIx (xVar 2) (xC (.int 41))) xNil)) (xC (.int 4)))))
  (sSeq (sSet 7 (xCall bTuple (xCons (xLc (xIt oR1 (xCons (xVar 9) xNil)) (gSet 17) (tAndP (tOf (xBin oGe (xBin oAdd (xBin oIx (xBin oIx (xVar 0) (xVar 17)) (xC (.int 1))) (xBin oIx (xVar 1) (xVar 17))) (xVar 5))) (tOf (xBin oLe (xBin oSub (xBin oIx (xBin oIx (xVar 0) (xVar 17)) (xC (.int 1))) (xBin oIx (xVar 1) (xVar 17))) (xVar 6)))) (xVar 17) [17]) xNil)))
  (sRet (xCall (fun ds => if ds.length = 2 then ((d__law_like 8) ds).bind fun d => if flat d then some d else none else none) (xCons (xCall (fun ds => if ds.length = 3 then ((d_in_channel) ds).bind fun d => if flat d then some d else none else none) (xCons (xCall bTuple (xCons (xVar 8) xNil)) (xCons (xVar 5) (xCons (xVar 6) xNil)))) (xCons (xVar 7) xNil)))))))))))
def d__law_rounds : List D → Option D := runD 3 20 g__law_rounds
theorem ok__law_rounds {f : Addr} {fd : FuncData} (F : FnP K "_law_rounds" s__law_rounds f fd) (D_pairs_near : Def P w K mg base 7 "pairs_near" ["ships", "far"] (d_pairs_near)) (D_swing_meets : Def P w K mg base 1 "swing_meets" ["one", "other"] (d_swing_meets)) (D_clear_all : Def P w K mg base 2 "clear_all" ["rounds"] (d_clear_all)) (D_in_channel : Def P w K mg base 1 "in_channel" ["rounds", "low", "high"] (d_in_channel)) (D__law_like : Def P w K mg base 10 "_law_like" ["value", "due"] (d__law_like 8)) (D__law_square : Def P w K mg base 1 "_law_square" ["one", "other"] (d__law_square)) (b_int : mg "int" = none) (b_len : mg "len" = none) (b_range : mg "range" = none) (b_tuple : mg "tuple" = none) : FnOk P w K mg base CX0 11 f fd ["places", "reaches", "row"] (spD K 3 d__law_rounds) := by
  have nd := sc__law_rounds.nd
  refine fnp_ok (k := 10) (O' := []) F sc__law_rounds fun cdv A outer s H E hr => ?_
  exact (by exact ss_cons (by exact ss_parT [8, 9, 10, 11] (by exact sam_cons (by exact se_lc nd (by exact si_r1 (st := false) b_range (by exact sa_cons (by exact se_callB (st := false) cb_len b_len (by exact sa_cons (by exact se_var 0) sa_nil)) sa_nil)) (blkOk_by (own := [("k", 17)]) rfl) (fun _ _ _ _ _ => (by exact sg_name 17 nd)) (fun _ _ _ _ _ => sts_nil) (fun _ _ _ _ _ => (by exact se_op op_addD (by exact se_ix (by exact se_var 0) (by exact se_var 17)) (by exact se_tup (by exact sa_cons (by exact se_ix (by exact se_var 1) (by exact se_var 17)) sa_nil))))) (by exact sam_cons (by exact se_callB (st := false) cb_len b_len (by exact sa_cons (by exact se_var 0) sa_nil)) (by exact sam_cons (by exact se_lst sa_nil) (by exact sam_cons (by exact se_lst sa_nil) sam_nil)))) (pgs_cons (pg_name (i := 8) nd rfl (by first | exact .inl rfl | exact .inr rfl)) (pgs_cons (pg_name (i := 9) nd rfl (by first | exact .inl rfl | exact .inr rfl)) (pgs_cons (pg_name (i := 10) nd rfl (by first | exact .inl rfl | exact .inr rfl)) (pgs_cons (pg_name (i := 11) nd rfl (by first | exact .inl rfl | exact .inr rfl)) pgs_nil))))) (by exact ss_cons (by exact ss_setF 3 nd (by exact se_callT (st := false) cb_tuple b_tuple (by exact sa_cons (by exact se_lc nd (by exact si_seq (m := .s) (by exact se_var 0)) (blkOk_by (own := [("place", 18)]) rfl) (fun _ _ _ _ _ => (by exact sg_name 18 nd)) (fun _ _ _ _ _ => sts_nil) (fun _ _ _ _ _ => (by exact se_tup (by exact sa_cons (by exact se_var 18) (by exact sa_cons (by exact se_tup (by exact sa_cons se_int (by exact sa_cons se_int sa_nil))) sa_nil))))) sa_nil))) (by exact ss_cons (by exact ss_for (O' := [3, 11, 10, 9, 8]) (by exact si_r1 (st := false) b_range (by exact sa_cons (by exact se_varW 9) sa_nil)) (by exact sg_name 4 nd) (by exact ss_cons (by exact ss_for (O' := [3, 11, 10, 9, 8]) (by exact si_r2 (st := false) b_range (by exact sa_cons (by exact se_op op_addD (by exact se_var 4) se_int) (by exact sa_cons (by exact se_varW 9) sa_nil))) (by exact sg_name 12 nd) (by exact ss_cons (by exact ss_setF 13 nd (by exact se_op op_addD (by exact se_ix (by exact se_var 1) (by exact se_var 4)) (by exact se_ix (by exact se_var 1) (by exact se_var 12)))) (by exact ss_cons (by exact ss_setS 14 nd (by exact se_callD D__law_square hr (by exact sa_cons (by exact se_ix (by exact se_var 0) (by exact se_var 4)) (by exact sa_cons (by exact se_ix (by exact se_var 0) (by exact se_var 12)) sa_nil)))) (by exact ss_cons (by exact ss_setF 15 nd (by exact se_cmp op_leD (by exact se_var 14) (by exact se_op op_mulD' (by exact se_varW 13) (by exact se_varW 13)))) (by exact ss_cons (by exact ss_if (O' := [15, 13, 3, 11, 10, 9, 8]) (by exact st_not (by exact st_val (by exact se_callWD D__law_like hr (by exact sa_cons (by exact se_callD D_swing_meets hr (by exact sa_cons (by exact se_ix (by exact se_varW 8) (by exact se_var 4)) (by exact sa_cons (by exact se_ix (by exact se_varW 8) (by exact se_var 12)) sa_nil))) (by exact sa_cons (by exact se_varW 15) sa_nil))))) (by exact ss_last (by exact ss_ret se_bl)) ss_nil) (by exact ss_cons (by exact ss_if (O' := [15, 13, 3, 11, 10, 9, 8]) (by exact st_not (by exact st_val (by exact se_callWD D__law_like hr (by exact sa_cons (by exact se_callD D_swing_meets hr (by exact sa_cons (by exact se_ix (by exact se_varW 8) (by exact se_var 12)) (by exact sa_cons (by exact se_ix (by exact se_varW 8) (by exact se_var 4)) sa_nil))) (by exact sa_cons (by exact se_varW 15) sa_nil))))) (by exact ss_last (by exact ss_ret se_bl)) ss_nil) (by exact ss_cons (by exact ss_setF 16 nd (by exact se_cmp (op_inP hr) (by exact se_tup (by exact sa_cons (by exact se_var 4) (by exact sa_cons (by exact se_var 12) sa_nil))) (by exact se_callWD D_pairs_near hr (by exact sa_cons (by exact se_varW 3) (by exact sa_cons (by exact se_varW 13) sa_nil))))) (by exact ss_cons (by exact ss_if (O' := [16, 15, 13, 3, 11, 10, 9, 8]) (by exact SW.st (by exact sw_or (by exact st_cmp (op_neP hr) (by exact se_varW 16) (by exact se_cmp op_ltD (by exact se_var 14) (by exact se_op op_mulD' (by exact se_varW 13) (by exact se_varW 13)))) (by exact sw_or1 (by exact SW.st (by exact sw_and (by exact st_val (by exact se_varW 16)) (by exact sw_and1 (by exact st_not (by exact st_val (by exact se_varW 15))))))))) (by exact ss_last (by exact ss_ret se_bl)) ss_nil) (by exact ss_cons (by exact ss_ext 10 (by exact se_lc nd (by exact si_r1 (st := false) b_range (by exact sa_cons (by exact se_callT (st := false) cb_int b_int (by exact sa_cons (by exact se_varW 15) sa_nil)) sa_nil)) (blkOk_by (own := [("turn", 19)]) rfl) (fun _ _ _ _ _ => (by exact sg_name 19 nd)) (fun _ _ _ _ _ => sts_nil) (fun _ _ _ _ _ => (by exact se_tup (by exact sa_cons (by exact se_var 4) (by exact sa_cons (by exact se_var 12) sa_nil)))))) (by exact ss_cons (by exact ss_ext 11 (by exact se_lc nd (by exact si_r1 (st := false) b_range (by exact sa_cons (by exact se_callT (st := false) cb_int b_int (by exact sa_cons (by exact se_cmp op_ltD (by exact se_var 14) se_int) sa_nil)) sa_nil)) (blkOk_by (own := [("turn", 19)]) rfl) (fun _ _ _ _ _ => (by exact sg_name 19 nd)) (fun _ _ _ _ _ => sts_nil) (fun _ _ _ _ _ => (by exact se_tup (by exact sa_cons (by exact se_var 4) (by exact sa_cons (by exact se_var 12) sa_nil)))))) ss_nil)))))))))) ss_nil)) (by exact ss_cons (by exact ss_if (O' := [3, 11, 10, 9, 8]) (by exact SW.st (by exact sw_or (by exact st_not (by exact st_val (by exact se_callD D__law_like hr (by exact sa_cons (by exact se_callD D_clear_all hr (by exact sa_cons (by exact se_callT (st := false) cb_tuple b_tuple (by exact sa_cons (by exact se_varW 8) sa_nil)) sa_nil)) (by exact sa_cons (by exact se_cmp (op_eqP hr) (by exact se_callB (st := false) cb_len b_len (by exact sa_cons (by exact se_varW 10) sa_nil)) se_int) sa_nil))))) (by exact sw_or1 (by exact st_not (by exact st_val (by exact se_callD D__law_like hr (by exact sa_cons (by exact se_callWD D_pairs_near hr (by exact sa_cons (by exact se_varW 3) (by exact sa_cons se_int sa_nil))) (by exact sa_cons (by exact se_callT (st := false) cb_tuple b_tuple (by exact sa_cons (by exact se_varW 11) sa_nil)) sa_nil)))))))) (by exact ss_last (by exact ss_ret se_bl)) ss_nil) (by exact ss_cons (by exact ss_setF 5 nd (by exact se_op op_modD (by exact se_callT (st := false) cb_int b_int (by exact sa_cons (by exact se_ix (by exact se_var 2) se_int) sa_nil)) se_int)) (by exact ss_cons (by exact ss_setF 6 nd (by exact se_op op_addD (by exact se_varW 5) (by exact se_op op_modD (by exact se_callT (st := false) cb_int b_int (by exact sa_cons (by exact se_ix (by exact se_var 2) se_int) sa_nil)) se_int))) (by exact ss_cons (by exact ss_setF 7 nd (by exact se_callT (st := false) cb_tuple b_tuple (by exact sa_cons (by exact se_lc nd (by exact si_r1 (st := false) b_range (by exact sa_cons (by exact se_varW 9) sa_nil)) (blkOk_by (own := [("k", 17)]) rfl) (fun _ _ _ _ _ => (by exact sg_name 17 nd)) (fun _ _ _ _ _ => (by exact sts_one (by exact SW.st (by exact sw_and (by exact st_cmp op_geD (by exact se_op op_addD (by exact se_ix (by exact se_ix (by exact se_var 0) (by exact se_var 17)) se_int) (by exact se_ix (by exact se_var 1) (by exact se_var 17))) (by exact se_varW 5)) (by exact sw_and1 (by exact st_cmp op_leD (by exact se_op op_subD (by exact se_ix (by exact se_ix (by exact se_var 0) (by exact se_var 17)) se_int) (by exact se_ix (by exact se_var 1) (by exact se_var 17))) (by exact se_varW 6))))))) (fun _ _ _ _ _ => (by exact se_var 17))) sa_nil))) (by exact ss_last (by exact ss_ret (by exact se_callWD D__law_like hr (by exact sa_cons (by exact se_callWD D_in_channel hr (by exact sa_cons (by exact se_callT (st := false) cb_tuple b_tuple (by exact sa_cons (by exact se_varW 8) sa_nil)) (by exact sa_cons (by exact se_varW 5) (by exact sa_cons (by exact se_varW 6) sa_nil)))) (by exact sa_cons (by exact se_varW 7) sa_nil))))))))))))
/-! ### _law_anchored -/
abbrev s__law_anchored : Stmt := topS 41
theorem sc__law_anchored : FnScope ["places", "reaches", "chosen", "spots", "good", "a", "b", "both"] ["places", "reaches", "chosen"] (defScope s__law_anchored) := ⟨rfl, rfl, rfl, by decide +kernel, rfl, by decide +kernel, by decide +kernel⟩
def l1__law_anchored : XS :=
  (sSeq (sSet 7 (xBin oAdd (xBin oIx (xVar 1) (xBin oIx (xVar 2) (xVar 5))) (xBin oIx (xVar 1) (xBin oIx (xVar 2) (xVar 6)))))
  (sSeq (sSet 4 (xAnd (xVar 4) (xBin oGt (xCall (fun ds => if ds.length = 2 then (d__law_square) ds else none) (xCons (xBin oIx (xVar 0) (xBin oIx (xVar 3) (xVar 5))) (xCons (xBin oIx (xVar 0) (xBin oIx (xVar 3) (xVar 6))) xNil))) (xBin oMul' (xVar 7) (xVar 7)))))
  sNop))
def l2__law_anchored : XS :=
  (sSeq (sFor (xIt oR1 (xCons (xVar 5) xNil)) (gSet 6) l1__law_anchored)
  sNop)
def l3__law_anchored : XS :=
  (sSeq (sSet 4 (xBin oEq (xCall bLen (xCons (xCall bSrtSet (xCons (xVar 3) xNil)) xNil)) (xCall bLen (xCons (xVar 3) xNil))))
  (sSeq (sFor (xIt oR1 (xCons (xCall bLen (xCons (xVar 3) xNil)) xNil)) (gSet 5) l2__law_anchored)
  (sSeq (sIf (tTru (xVar 4)) (sRet (xVar 3)) sNop)
  sNop)))
def g__law_anchored : XS :=
  (sSeq (sFor (xSeq (xCall (fun ds => if ds.length = 2 then (d__law_tuples) ds else none) (xCons (xCall bLen (xCons (xVar 2) xNil)) (xCons (xCall bLen (xCons (xVar 0) xNil)) xNil)))) (gSet 3) l3__law_anchored)
  (sRet (xC .none)))
def d__law_anchored : List D → Option D := runD 3 8 g__law_anchored
theorem ok__law_anchored {f : Addr} {fd : FuncData} (F : FnP K "_law_anchored" s__law_anchored f fd) (D__law_tuples : Def P w K mg base 1 "_law_tuples" ["count", "most"] (d__law_tuples)) (D__law_square : Def P w K mg base 1 "_law_square" ["one", "other"] (d__law_square)) (b_len : mg "len" = none) (b_range : mg "range" = none) (b_set : mg "set" = none) (b_sorted : mg "sorted" = none) : FnOk P w K mg base CX0 2 f fd ["places", "reaches", "chosen"] (spD K 3 d__law_anchored) := by
  have nd := sc__law_anchored.nd
  refine fnp_ok (k := 1) (O' := []) F sc__law_anchored fun cdv A outer s H E hr => ?_
  exact (by exact ss_cons (by exact ss_for (O' := []) (by exact si_seq (m := .s) (by exact se_callD D__law_tuples hr (by exact sa_cons (by exact se_callB (st := false) cb_len b_len (by exact sa_cons (by exact se_var 2) sa_nil)) (by exact sa_cons (by exact se_callB (st := false) cb_len b_len (by exact sa_cons (by exact se_var 0) sa_nil)) sa_nil)))) (by exact sg_name 3 nd) (by exact ss_cons (by exact ss_setF 4 nd (by exact se_cmp (op_eqP hr) (by exact se_callB (st := false) cb_len b_len (by exact sa_cons (by exact se_sset (st := false) b_sorted b_set (by exact sa_cons (by exact se_var 3) sa_nil)) sa_nil)) (by exact se_callB (st := false) cb_len b_len (by exact sa_cons (by exact se_var 3) sa_nil)))) (by exact ss_cons (by exact ss_for (O' := [4]) (by exact si_r1 (st := false) b_range (by exact sa_cons (by exact se_callB (st := false) cb_len b_len (by exact sa_cons (by exact se_var 3) sa_nil)) sa_nil)) (by exact sg_name 5 nd) (by exact ss_cons (by exact ss_for (O' := [4]) (by exact si_r1 (st := false) b_range (by exact sa_cons (by exact se_var 5) sa_nil)) (by exact sg_name 6 nd) (by exact ss_cons (by exact ss_setF 7 nd (by exact se_op op_addD (by exact se_ix (by exact se_var 1) (by exact se_ix (by exact se_var 2) (by exact se_var 5))) (by exact se_ix (by exact se_var 1) (by exact se_ix (by exact se_var 2) (by exact se_var 6))))) (by exact ss_cons (by exact SS.weak (O1 := [7]) (by exact ss_setF 4 nd (by exact se_and (by exact se_var 4) (by exact se_bone (by exact se_cmp op_gtD (by exact se_callD D__law_square hr (by exact sa_cons (by exact se_ix (by exact se_var 0) (by exact se_ix (by exact se_var 3) (by exact se_var 5))) (by exact sa_cons (by exact se_ix (by exact se_var 0) (by exact se_ix (by exact se_var 3) (by exact se_var 6))) sa_nil))) (by exact se_op op_mulD' (by exact se_varW 7) (by exact se_varW 7))))))) ss_nil))) ss_nil)) (by exact ss_cons (by exact ss_if (O' := [4]) (by exact st_val (by exact se_varW 4)) (by exact ss_last (by exact ss_ret (by exact se_var 3))) ss_nil) ss_nil)))) (by exact ss_last (by exact ss_ret se_non)))
/-! ### _law_anchors -/
abbrev s__law_anchors : Stmt := topS 42
theorem sc__law_anchors : FnScope ["places", "reaches", "all_of", "one", "most", "every", "keys"] ["places", "reaches"] (defScope s__law_anchors) := ⟨rfl, rfl, rfl, by decide +kernel, rfl, by decide +kernel, by decide +kernel⟩
def l1__law_anchors : XS :=
  (sSeq (sIf (tOf (xBin oIsNot (xCall (fun ds => if ds.length = 3 then (d__law_anchored) ds else none) (xCons (xVar 0) (xCons (xVar 1) (xCons (xVar 3) xNil)))) (xC .none))) (sSeq (sApp 6 (xTup (xCons (xUn oNeg (xCall bLen (xCons (xVar 3) xNil))) (xCons (xVar 3) xNil))))
  sNop) sNop)
  sNop)
def g__law_anchors : XS :=
  (sSeq (sPar [5, 6] (xCons (xUn oTupR1 (xCall bLen (xCons (xVar 1) xNil))) (xCons (xLst xNil) xNil)))
  (sSeq (sSet 2 (xCall (fun ds => if ds.length = 3 then ((d__law_anchored) ds).bind fun d => if flat d then some d else none else none) (xCons (xVar 0) (xCons (xVar 1) (xCons (xVar 5) xNil)))))
  (sSeq (sIf (tNotP (tTru (xCall (fun ds => if ds.length = 2 then ((d__law_like 8) ds).bind fun d => if flat d then some d else none else none) (xCons (xCall (fun ds => if ds.length = 2 then (d_anchors_least) ds else none) (xCons (xVar 0) (xCons (xVar 1) xNil))) (xCons (xVar 2) xNil))))) (sRet (xC (.bool false))) sNop)
  (sSeq (sFor (xSeq (xCall (fun ds => if ds.length = 1 then (d__law_sets) ds else none) (xCons (xCall bLen (xCons (xVar 1) xNil)) xNil))) (gSet 3) l1__law_anchors)
  (sSeq (sSet 4 (xCall (fun ds => if ds.length = 2 then (d_most_anchored) ds else none) (xCons (xVar 0) (xCons (xVar 1) xNil))))
  (sRet (xAnd (xCall (fun ds => if ds.length = 2 then (d__law_like 8) ds else none) (xCons (xVar 4) (xCons (xBin oIx (xCall bMinD (xCons (xVar 6) xNil)) (xC (.int 1))) xNil))) (xBin oEq (xBin oEq (xBin oIx (xCall bMinD (xCons (xVar 6) xNil)) (xC (.int 1))) (xVar 5)) (xBin oIsNot (xVar 2) (xC .none))))))))))
def d__law_anchors : List D → Option D := runD 2 7 g__law_anchors
theorem ok__law_anchors {f : Addr} {fd : FuncData} (F : FnP K "_law_anchors" s__law_anchors f fd) (D_anchors_least : Def P w K mg base 2 "anchors_least" ["places", "reaches"] (d_anchors_least)) (D_most_anchored : Def P w K mg base 3 "most_anchored" ["places", "reaches"] (d_most_anchored)) (D__law_like : Def P w K mg base 10 "_law_like" ["value", "due"] (d__law_like 8)) (D__law_sets : Def P w K mg base 1 "_law_sets" ["n"] (d__law_sets)) (D__law_anchored : Def P w K mg base 2 "_law_anchored" ["places", "reaches", "chosen"] (d__law_anchored)) (b_len : mg "len" = none) (b_min : mg "min" = none) (b_range : mg "range" = none) (b_tuple : mg "tuple" = none) : FnOk P w K mg base CX0 11 f fd ["places", "reaches"] (spD K 2 d__law_anchors) := by
  have nd := sc__law_anchors.nd
  refine fnp_ok (k := 10) (O' := []) F sc__law_anchors fun cdv A outer s H E hr => ?_
  exact (by exact ss_cons (by exact ss_par 5 6 nd (by exact sam_cons (by exact se_tupR1 b_tuple b_range (by exact se_callB (st := false) cb_len b_len (by exact sa_cons (by exact se_var 1) sa_nil))) (by exact sam_cons (by exact se_lst sa_nil) sam_nil))) (by exact ss_cons (by exact ss_setF 2 nd (by exact se_callWD D__law_anchored hr (by exact sa_cons (by exact se_var 0) (by exact sa_cons (by exact se_var 1) (by exact sa_cons (by exact se_varW 5) sa_nil))))) (by exact ss_cons (by exact ss_if (O' := [2, 6, 5]) (by exact st_not (by exact st_val (by exact se_callWD D__law_like hr (by exact sa_cons (by exact se_callD D_anchors_least hr (by exact sa_cons (by exact se_var 0) (by exact sa_cons (by exact se_var 1) sa_nil))) (by exact sa_cons (by exact se_varW 2) sa_nil))))) (by exact ss_last (by exact ss_ret se_bl)) ss_nil) (by exact ss_cons (by exact ss_for (O' := [2, 6, 5]) (by exact si_seq (m := .s) (by exact se_callD D__law_sets hr (by exact sa_cons (by exact se_callB (st := false) cb_len b_len (by exact sa_cons (by exact se_var 1) sa_nil)) sa_nil))) (by exact sg_name 3 nd) (by exact ss_cons (by exact ss_if (O' := [2, 6, 5]) (by exact st_cmp op_isNotD (by exact se_callD D__law_anchored hr (by exact sa_cons (by exact se_var 0) (by exact sa_cons (by exact se_var 1) (by exact sa_cons (by exact se_var 3) sa_nil)))) se_non) (by exact ss_cons (by exact ss_app 6 (by exact se_tup (by exact sa_cons (by exact se_un un_negD (by exact se_callB (st := false) cb_len b_len (by exact sa_cons (by exact se_var 3) sa_nil))) (by exact sa_cons (by exact se_var 3) sa_nil)))) ss_nil) ss_nil) ss_nil)) (by exact ss_cons (by exact ss_setS 4 nd (by exact se_callD D_most_anchored hr (by exact sa_cons (by exact se_var 0) (by exact sa_cons (by exact se_var 1) sa_nil)))) (by exact ss_last (by exact ss_ret (by exact se_and (by exact se_callD D__law_like hr (by exact sa_cons (by exact se_var 4) (by exact sa_cons (by exact se_ix (by exact se_callB (st := false) (cb_minD (hu65 hr)) b_min (by exact sa_cons (by exact se_varW 6) sa_nil)) se_int) sa_nil))) (by exact se_bone (by exact se_cmp (op_eqP hr) (by exact se_cmp (op_eqP hr) (by exact se_ix (by exact se_callB (st := false) (cb_minD (hu65 hr)) b_min (by exact sa_cons (by exact se_varW 6) sa_nil)) se_int) (by exact se_varW 5)) (by exact se_cmp op_isNotD (by exact se_varW 2) se_non)))))))))))
/-! ### _law_courses -/
abbrev s__law_courses : Stmt := topS 43
theorem sc__law_courses : FnScope ["ships", "row", "a", "n", "far", "bound", "near", "hour", "due", "k", "b", "off", "hours", "when", "square", "one", "turn"] ["ships", "row"] (defScope s__law_courses) := ⟨rfl, rfl, rfl, by decide +kernel, rfl, by decide +kernel, by decide +kernel⟩
def l1__law_courses : XS :=
  (sSeq (sApp 8 (xCall (fun ds => if ds.length = 2 then (d__law_ratio) ds else none) (xCons (xBin oAdd (xBin oMul' (xBin oIx (xBin oIx (xBin oIx (xVar 0) (xVar 2)) (xC (.int 0))) (xVar 9)) (xBin oIx (xVar 7) (xC (.int 1)))) (xBin oMul' (xBin oIx (xBin oIx (xBin oIx (xVar 0) (xVar 2)) (xC (.int 1))) (xVar 9)) (xBin oIx (xVar 7) (xC (.int 0))))) (xCons (xBin oIx (xVar 7) (xC (.int 1))) xNil))))
  sNop)
def l2__law_courses : XS :=
  (sSeq (sTgt (gTupD 2 (gsCons (gSet 13) (gsCons (gSet 14) gsNil))) (xCall (fun ds => if ds.length = 2 then (d__law_nearest) ds else none) (xCons (xBin oIx (xVar 0) (xVar 2)) (xCons (xBin oIx (xVar 0) (xVar 10)) xNil))))
  (sSeq (sIf (tNotP (tTru (xCall (fun ds => if ds.length = 2 then (d__law_like 8) ds else none) (xCons (xCall (fun ds => if ds.length = 2 then (d_nearest_hour) ds else none) (xCons (xBin oIx (xVar 0) (xVar 2)) (xCons (xBin oIx (xVar 0) (xVar 10)) xNil))) (xCons (xVar 13) xNil))))) (sRet (xC (.bool false))) sNop)
  (sSeq (sIf (tNotP (tTru (xCall (fun ds => if ds.length = 2 then (d__law_like 8) ds else none) (xCons (xCall (fun ds => if ds.length = 2 then (d_nearest_square) ds else none) (xCons (xBin oIx (xVar 0) (xVar 10)) (xCons (xBin oIx (xVar 0) (xVar 2)) xNil))) (xCons (xVar 14) xNil))))) (sRet (xC (.bool false))) sNop)
  (sSeq (sIf (tNotP (tTru (xCall (fun ds => if ds.length = 2 then (d__law_like 8) ds else none) (xCons (xCall (fun ds => if ds.length = 2 then (d_they_meet) ds else none) (xCons (xBin oIx (xVar 0) (xVar 2)) (xCons (xBin oIx (xVar 0) (xVar 10)) xNil))) (xCons (xBin oEq (xBin oIx (xVar 14) (xC (.int 0))) (xC (.int 0))) xNil))))) (sRet (xC (.bool false))) sNop)
  (sSeq (sExt 6 (xLc (xIt oR1 (xCons (xCall bInt (xCons (xBin oLt (xBin oIx (xVar 14) (xC (.int 0))) (xBin oMul' (xBin oMul' (xVar 4) (xVar 4)) (xBin oIx (xVar 14) (xC (.int 1))))) xNil)) xNil)) (gSet 16) tYesP (xTup (xCons (xVar 2) (xCons (xVar 10) xNil))) [16]))
  (sSeq (sSet 11 (xCall (fun ds => if ds.length = 2 then (d__law_off) ds else none) (xCons (xBin oIx (xVar 0) (xVar 2)) (xCons (xBin oIx (xVar 0) (xVar 10)) xNil))))
  (sSeq (sSet 12 (xLc (xIt oR1 (xCons (xBin oAdd (xVar 5) (xC (.int 1))) xNil)) (gSet 15) (tOf (xBin oLe (xBin oAdd (xBin oAdd (xBin oIx (xVar 11) (xC (.int 0))) (xBin oMul' (xBin oMul' (xC (.int 2)) (xVar 15)) (xBin oIx (xVar 11) (xC (.int 1))))) (xBin oMul' (xBin oMul' (xVar 15) (xVar 15)) (xBin oIx (xVar 11) (xC (.int 2))))) (xBin oMul' (xVar 4) (xVar 4)))) (xVar 15) [15]))
  (sSeq (sIf (tNotP (tTru (xCall (fun ds => if ds.length = 2 then (d__law_like 8) ds else none) (xCons (xCall (fun ds => if ds.length = 4 then ((d_first_within) ds).bind fun d => if flat d then some d else none else none) (xCons (xBin oIx (xVar 0) (xVar 2)) (xCons (xBin oIx (xVar 0) (xVar 10)) (xCons (xVar 4) (xCons (xVar 5) xNil))))) (xCons (xBin oIx (xBin oAdd (xVar 12) (xLst (xCons (xC .none) xNil))) (xC (.int 0))) xNil))))) (sRet (xC (.bool false))) sNop)
  sNop))))))))
def l3__law_courses : XS :=
  (sSeq (sSet 7 (xTup (xCons (xBin oMod (xCall bInt (xCons (xBin oIx (xVar 1) (xC (.int 44))) xNil)) (xC (.int 9))) (xCons (xBin oAdd (xC (.int 1)) (xBin oMod (xCall bInt (xCons (xBin oIx (xVar 1) (xC (.int 45))) xNil)) (xC (.int 3)))) xNil))))
  (sSeq (sSet 8 (xLst xNil))
  (sSeq (sFor (xIt oR1 (xCons (xC (.int 2)) xNil)) (gSet 9) l1__law_courses)
  (sSeq (sIf (tNotP (tTru (xCall (fun ds => if ds.length = 2 then (d__law_like 8) ds else none) (xCons (xCall (fun ds => if ds.length = 2 then (d_place_at) ds else none) (xCons (xBin oIx (xVar 0) (xVar 2)) (xCons (xCall (fun ds => if ds.length = 2 then (d__law_ratio) ds else none) (xCons (xBin oIx (xVar 7) (xC (.int 0))) (xCons (xBin oIx (xVar 7) (xC (.int 1))) xNil))) xNil))) (xCons (xCall bTuple (xCons (xVar 8) xNil)) xNil))))) (sRet (xC (.bool false))) sNop)
  (sSeq (sFor (xIt oR2 (xCons (xBin oAdd (xVar 2) (xC (.int 1))) (xCons (xVar 3) xNil))) (gSet 10) l2__law_courses)
  sNop)))))
def g__law_courses : XS :=
  (sSeq (sPar [3, 4, 5, 6] (xCons (xCall bLen (xCons (xVar 0) xNil)) (xCons (xBin oAdd (xC (.int 1)) (xBin oMod (xCall bInt (xCons (xBin oIx (xVar 1) (xC (.int 42))) xNil)) (xC (.int 6)))) (xCons (xBin oMod (xCall bInt (xCons (xBin oIx (xVar 1) (xC (.int 43))) xNil)) (xC (.int 12))) (xCons (xLst xNil) xNil)))))
  (sSeq (sFor (xIt oR1 (xCons (xVar 3) xNil)) (gSet 2) l3__law_courses)
  (sRet (xCall (fun ds => if ds.length = 2 then (d__law_like 8) ds else none) (xCons (xCall (fun ds => if ds.length = 2 then ((d_pairs_near) ds).bind fun d => if flat d then some d else none else none) (xCons (xVar 0) (xCons (xVar 4) xNil))) (xCons (xCall bTuple (xCons (xVar 6) xNil)) xNil))))))
def d__law_courses : List D → Option D := runD 2 17 g__law_courses
theorem ok__law_courses {f : Addr} {fd : FuncData} (F : FnP K "_law_courses" s__law_courses f fd) (D_place_at : Def P w K mg base 4 "place_at" ["ship", "hour"] (d_place_at)) (D_nearest_hour : Def P w K mg base 3 "nearest_hour" ["one", "other"] (d_nearest_hour)) (D_nearest_square : Def P w K mg base 6 "nearest_square" ["one", "other"] (d_nearest_square)) (D_they_meet : Def P w K mg base 7 "they_meet" ["one", "other"] (d_they_meet)) (D_first_within : Def P w K mg base 6 "first_within" ["one", "other", "far", "bound"] (d_first_within)) (D_pairs_near : Def P w K mg base 7 "pairs_near" ["ships", "far"] (d_pairs_near)) (D__law_like : Def P w K mg base 10 "_law_like" ["value", "due"] (d__law_like 8)) (D__law_ratio : Def P w K mg base 2 "_law_ratio" ["a", "b"] (d__law_ratio)) (D__law_off : Def P w K mg base 1 "_law_off" ["one", "other"] (d__law_off)) (D__law_nearest : Def P w K mg base 3 "_law_nearest" ["one", "other"] (d__law_nearest)) (b_int : mg "int" = none) (b_len : mg "len" = none) (b_range : mg "range" = none) (b_tuple : mg "tuple" = none) : FnOk P w K mg base CX0 11 f fd ["ships", "row"] (spD K 2 d__law_courses) := by
  have nd := sc__law_courses.nd
  refine fnp_ok (k := 10) (O' := []) F sc__law_courses fun cdv A outer s H E hr => ?_
  exact (by exact ss_cons (by exact ss_parT [3, 4, 5, 6] (by exact sam_cons (by exact se_callB (st := false) cb_len b_len (by exact sa_cons (by exact se_var 0) sa_nil)) (by exact sam_cons (by exact se_op op_addD se_int (by exact se_op op_modD (by exact se_callT (st := false) cb_int b_int (by exact sa_cons (by exact se_ix (by exact se_var 1) se_int) sa_nil)) se_int)) (by exact sam_cons (by exact se_op op_modD (by exact se_callT (st := false) cb_int b_int (by exact sa_cons (by exact se_ix (by exact se_var 1) se_int) sa_nil)) se_int) (by exact sam_cons (by exact se_lst sa_nil) sam_nil)))) (pgs_cons (pg_name (i := 3) nd rfl (by first | exact .inl rfl | exact .inr rfl)) (pgs_cons (pg_name (i := 4) nd rfl (by first | exact .inl rfl | exact .inr rfl)) (pgs_cons (pg_name (i := 5) nd rfl (by first | exact .inl rfl | exact .inr rfl)) (pgs_cons (pg_name (i := 6) nd rfl (by first | exact .inl rfl | exact .inr rfl)) pgs_nil))))) (by exact ss_cons (by exact ss_for (O' := [6, 5, 4, 3]) (by exact si_r1 (st := false) b_range (by exact sa_cons (by exact se_varW 3) sa_nil)) (by exact sg_name 2 nd) (by exact ss_cons (by exact ss_setF 7 nd (by exact se_tup (by exact sa_cons (by exact se_op op_modD (by exact se_callT (st := false) cb_int b_int (by exact sa_cons (by exact se_ix (by exact se_var 1) se_int) sa_nil)) se_int) (by exact sa_cons (by exact se_op op_addD se_int (by exact se_op op_modD (by exact se_callT (st := false) cb_int b_int (by exact sa_cons (by exact se_ix (by exact se_var 1) se_int) sa_nil)) se_int)) sa_nil)))) (by exact ss_cons (by exact ss_setF 8 nd (by exact se_lst sa_nil)) (by exact ss_cons (by exact ss_for (O' := [8, 7, 6, 5, 4, 3]) (by exact si_r1 (st := false) b_range (by exact sa_cons se_int sa_nil)) (by exact sg_name 9 nd) (by exact ss_cons (by exact ss_app 8 (by exact se_callD D__law_ratio hr (by exact sa_cons (by exact se_op op_addD (by exact se_op op_mulD' (by exact se_ix (by exact se_ix (by exact se_ix (by exact se_var 0) (by exact se_var 2)) se_int) (by exact se_var 9)) (by exact se_ix (by exact se_varW 7) se_int)) (by exact se_op op_mulD' (by exact se_ix (by exact se_ix (by exact se_ix (by exact se_var 0) (by exact se_var 2)) se_int) (by exact se_var 9)) (by exact se_ix (by exact se_varW 7) se_int))) (by exact sa_cons (by exact se_ix (by exact se_varW 7) se_int) sa_nil)))) ss_nil)) (by exact ss_cons (by exact ss_if (O' := [8, 7, 6, 5, 4, 3]) (by exact st_not (by exact st_val (by exact se_callD D__law_like hr (by exact sa_cons (by exact se_callD D_place_at hr (by exact sa_cons (by exact se_ix (by exact se_var 0) (by exact se_var 2)) (by exact sa_cons (by exact se_callD D__law_ratio hr (by exact sa_cons (by exact se_ix (by exact se_varW 7) se_int) (by exact sa_cons (by exact se_ix (by exact se_varW 7) se_int) sa_nil))) sa_nil))) (by exact sa_cons (by exact se_callT (st := false) cb_tuple b_tuple (by exact sa_cons (by exact se_varW 8) sa_nil)) sa_nil))))) (by exact ss_last (by exact ss_ret se_bl)) ss_nil) (by exact ss_cons (by exact ss_for (O' := [8, 7, 6, 5, 4, 3]) (by exact si_r2 (st := false) b_range (by exact sa_cons (by exact se_op op_addD (by exact se_var 2) se_int) (by exact sa_cons (by exact se_varW 3) sa_nil))) (by exact sg_name 10 nd) (by exact ss_cons (by exact ss_tgt (by exact se_callD D__law_nearest hr (by exact sa_cons (by exact se_ix (by exact se_var 0) (by exact se_var 2)) (by exact sa_cons (by exact se_ix (by exact se_var 0) (by exact se_var 10)) sa_nil))) (by exact sg_tup rfl (by exact sgs_cons (by exact sg_name 13 nd) (by exact sgs_cons (by exact sg_name 14 nd) sgs_nil)))) (by exact ss_cons (by exact ss_if (O' := [8, 7, 6, 5, 4, 3]) (by exact st_not (by exact st_val (by exact se_callD D__law_like hr (by exact sa_cons (by exact se_callD D_nearest_hour hr (by exact sa_cons (by exact se_ix (by exact se_var 0) (by exact se_var 2)) (by exact sa_cons (by exact se_ix (by exact se_var 0) (by exact se_var 10)) sa_nil))) (by exact sa_cons (by exact se_var 13) sa_nil))))) (by exact ss_last (by exact ss_ret se_bl)) ss_nil) (by exact ss_cons (by exact ss_if (O' := [8, 7, 6, 5, 4, 3]) (by exact st_not (by exact st_val (by exact se_callD D__law_like hr (by exact sa_cons (by exact se_callD D_nearest_square hr (by exact sa_cons (by exact se_ix (by exact se_var 0) (by exact se_var 10)) (by exact sa_cons (by exact se_ix (by exact se_var 0) (by exact se_var 2)) sa_nil))) (by exact sa_cons (by exact se_var 14) sa_nil))))) (by exact ss_last (by exact ss_ret se_bl)) ss_nil) (by exact ss_cons (by exact ss_if (O' := [8, 7, 6, 5, 4, 3]) (by exact st_not (by exact st_val (by exact se_callD D__law_like hr (by exact sa_cons (by exact se_callD D_they_meet hr (by exact sa_cons (by exact se_ix (by exact se_var 0) (by exact se_var 2)) (by exact sa_cons (by exact se_ix (by exact se_var 0) (by exact se_var 10)) sa_nil))) (by exact sa_cons (by exact se_cmp (op_eqP hr) (by exact se_ix (by exact se_var 14) se_int) se_int) sa_nil))))) (by exact ss_last (by exact ss_ret se_bl)) ss_nil) (by exact ss_cons (by exact ss_ext 6 (by exact se_lc nd (by exact si_r1 (st := false) b_range (by exact sa_cons (by exact se_callT (st := false) cb_int b_int (by exact sa_cons (by exact se_cmp op_ltD (by exact se_ix (by exact se_var 14) se_int) (by exact se_op op_mulD' (by exact se_op op_mulD' (by exact se_varW 4) (by exact se_varW 4)) (by exact se_ix (by exact se_var 14) se_int))) sa_nil)) sa_nil)) (blkOk_by (own := [("turn", 16)]) rfl) (fun _ _ _ _ _ => (by exact sg_name 16 nd)) (fun _ _ _ _ _ => sts_nil) (fun _ _ _ _ _ => (by exact se_tup (by exact sa_cons (by exact se_var 2) (by exact sa_cons (by exact se_var 10) sa_nil)))))) (by exact ss_cons (by exact ss_setS 11 nd (by exact se_callD D__law_off hr (by exact sa_cons (by exact se_ix (by exact se_var 0) (by exact se_var 2)) (by exact sa_cons (by exact se_ix (by exact se_var 0) (by exact se_var 10)) sa_nil)))) (by exact ss_cons (by exact ss_setLc 12 nd (by exact si_r1 (st := false) b_range (by exact sa_cons (by exact se_op op_addD (by exact se_varW 5) se_int) sa_nil)) (blkOk_by (own := [("one", 15)]) rfl) (fun _ _ _ _ _ => (by exact sg_name 15 nd)) (fun _ _ _ _ _ => (by exact sts_one (by exact st_cmp op_leD (by exact se_op op_addD (by exact se_op op_addD (by exact se_ix (by exact se_var 11) se_int) (by exact se_op op_mulD' (by exact se_op op_mulD' se_int (by exact se_var 15)) (by exact se_ix (by exact se_var 11) se_int))) (by exact se_op op_mulD' (by exact se_op op_mulD' (by exact se_var 15) (by exact se_var 15)) (by exact se_ix (by exact se_var 11) se_int))) (by exact se_op op_mulD' (by exact se_varW 4) (by exact se_varW 4))))) (fun _ _ _ _ _ => (by exact se_var 15))) (by exact ss_cons (by exact ss_if (O' := [12, 8, 7, 6, 5, 4, 3]) (by exact st_not (by exact st_val (by exact se_callD D__law_like hr (by exact sa_cons (by exact se_callWD D_first_within hr (by exact sa_cons (by exact se_ix (by exact se_var 0) (by exact se_var 2)) (by exact sa_cons (by exact se_ix (by exact se_var 0) (by exact se_var 10)) (by exact sa_cons (by exact se_varW 4) (by exact sa_cons (by exact se_varW 5) sa_nil))))) (by exact sa_cons (by exact se_ix (by exact se_op op_addD (by exact se_varW 12) (by exact se_lst (by exact sa_cons se_non sa_nil))) se_int) sa_nil))))) (by exact ss_last (by exact ss_ret se_bl)) ss_nil) ss_nil))))))))) ss_nil)))))) (by exact ss_last (by exact ss_ret (by exact se_callD D__law_like hr (by exact sa_cons (by exact se_callWD D_pairs_near hr (by exact sa_cons (by exact se_var 0) (by exact sa_cons (by exact se_varW 4) sa_nil))) (by exact sa_cons (by exact se_callT (st := false) cb_tuple b_tuple (by exact sa_cons (by exact se_varW 6) sa_nil)) sa_nil)))))))
/-! ### _law_seen -/
abbrev s__law_seen : Stmt := topS 44
theorem sc__law_seen : FnScope ["ships", "row", "ship", "goal", "way", "wind", "moved", "due", "speed", "bound", "start", "hour", "there", "place", "going", "k"] ["ships", "row"] (defScope s__law_seen) := ⟨rfl, rfl, rfl, by decide +kernel, rfl, by decide +kernel, by decide +kernel⟩
def l1__law_seen : XS :=
  (sSeq (sSet 12 (xCall bTuple (xCons (xLc (xIt oR1 (xCons (xC (.int 2)) xNil)) (gSet 15) tYesP (xBin oAdd (xBin oIx (xBin oIx (xVar 2) (xC (.int 0))) (xVar 15)) (xBin oMul' (xVar 11) (xBin oIx (xBin oIx (xVar 2) (xC (.int 1))) (xVar 15)))) [15]) xNil)))
  (sSeq (sIf (tOf (xBin oLe (xBin oAdd (xCall bAbs (xCons (xBin oSub (xBin oIx (xVar 12) (xC (.int 0))) (xBin oIx (xVar 10) (xC (.int 0)))) xNil)) (xCall bAbs (xCons (xBin oSub (xBin oIx (xVar 12) (xC (.int 1))) (xBin oIx (xVar 10) (xC (.int 1)))) xNil))) (xBin oMul' (xVar 8) (xVar 11)))) (sSeq (sSet 7 (xTup (xCons (xVar 11) (xCons (xVar 12) xNil))))
  sBrk) sNop)
  sNop))
def l2__law_seen : XS :=
  (sSeq (sSet 7 (xC .none))
  (sSeq (sFor (xIt oR1 (xCons (xBin oAdd (xVar 9) (xC (.int 1))) xNil)) (gSet 11) l1__law_seen)
  (sSeq (sIf (tNotP (tTru (xCall (fun ds => if ds.length = 2 then ((d__law_like 8) ds).bind fun d => if flat d then some d else none else none) (xCons (xCall (fun ds => if ds.length = 4 then ((d_course_to) ds).bind fun d => if flat d then some d else none else none) (xCons (xVar 10) (xCons (xVar 2) (xCons (xVar 8) (xCons (xVar 9) xNil))))) (xCons (xVar 7) xNil))))) (sRet (xC (.bool false))) sNop)
  sNop)))
def g__law_seen : XS :=
  (sSeq (sPar [8, 9, 10] (xCons (xBin oAdd (xC (.int 1)) (xBin oMod (xCall bInt (xCons (xBin oIx (xVar 1) (xC (.int 46))) xNil)) (xC (.int 3)))) (xCons (xBin oMod (xCall bInt (xCons (xBin oIx (xVar 1) (xC (.int 47))) xNil)) (xC (.int 12))) (xCons (xTup (xCons (xBin oMod (xCall bInt (xCons (xBin oIx (xVar 1) (xC (.int 48))) xNil)) (xC (.int 9))) (xCons (xBin oMod (xCall bInt (xCons (xBin oIx (xVar 1) (xC (.int 49))) xNil)) (xC (.int 9))) xNil))) xNil))))
  (sSeq (sFor (xSeq (xTup (xCons (xBin oIx (xVar 0) (xC (.int 0))) (xCons (xTup (xCons (xBin oIx (xBin oIx (xVar 0) (xC (.int 1))) (xC (.int 0))) (xCons (xTup (xCons (xC (.int 0)) (xCons (xC (.int 0)) xNil))) xNil))) xNil)))) (gSet 2) l2__law_seen)
  (sSeq (sSet 3 (xBin oIx (xBin oIx (xVar 0) (xC (.int 1))) (xC (.int 0))))
  (sSeq (sSet 4 (xBin oAdd (xCall bAbs (xCons (xBin oSub (xBin oIx (xVar 3) (xC (.int 0))) (xBin oIx (xVar 10) (xC (.int 0)))) xNil)) (xCall bAbs (xCons (xBin oSub (xBin oIx (xVar 3) (xC (.int 1))) (xBin oIx (xVar 10) (xC (.int 1)))) xNil))))
  (sSeq (sIf (tNotP (tTru (xCall (fun ds => if ds.length = 2 then (d__law_like 8) ds else none) (xCons (xCall (fun ds => if ds.length = 4 then ((d_course_to) ds).bind fun d => if flat d then some d else none else none) (xCons (xVar 10) (xCons (xTup (xCons (xVar 3) (xCons (xTup (xCons (xC (.int 0)) (xCons (xC (.int 0)) xNil))) xNil))) (xCons (xBin oAdd (xVar 8) (xC (.int 1))) (xCons (xC (.int 99)) xNil))))) (xCons (xTup (xCons (xBin oFdiv (xBin oAdd (xVar 4) (xVar 8)) (xBin oAdd (xVar 8) (xC (.int 1)))) (xCons (xVar 3) xNil))) xNil))))) (sRet (xC (.bool false))) sNop)
  (sSeq (sIf (tNotP (tTru (xCall (fun ds => if ds.length = 2 then (d__law_like 8) ds else none) (xCons (xCall (fun ds => if ds.length = 3 then (d_reach_needed) ds else none) (xCons (xTup (xCons (xVar 10) xNil)) (xCons (xC (.int 1)) (xCons (xTup (xCons (xVar 3) xNil)) xNil)))) (xCons (xTup (xCons (xVar 4) (xCons (xTup (xCons (xC (.int 0)) xNil)) xNil))) xNil))))) (sRet (xC (.bool false))) sNop)
  (sSeq (sIf (tNotP (tTru (xCall (fun ds => if ds.length = 2 then (d__law_like 8) ds else none) (xCons (xCall (fun ds => if ds.length = 3 then (d_hose_reach) ds else none) (xCons (xTup (xCons (xVar 10) xNil)) (xCons (xVar 4) (xCons (xTup (xCons (xVar 3) xNil)) xNil)))) (xCons (xTup (xCons (xTup (xCons (xC (.int 0)) xNil)) xNil)) xNil))))) (sRet (xC (.bool false))) sNop)
  (sSeq (sIf (tAndP (tOf (xBin oGt (xVar 4) (xC (.int 0)))) (tNotP (tTru (xCall (fun ds => if ds.length = 2 then (d__law_like 8) ds else none) (xCons (xCall (fun ds => if ds.length = 3 then (d_hose_reach) ds else none) (xCons (xTup (xCons (xVar 10) xNil)) (xCons (xBin oSub (xVar 4) (xC (.int 1))) (xCons (xTup (xCons (xVar 3) xNil)) xNil)))) (xCons (xTup (xCons (xTup xNil) xNil)) xNil)))))) (sRet (xC (.bool false))) sNop)
  (sSeq (sSet 5 (xTup (xCons (xBin oSub (xBin oMod (xCall bInt (xCons (xBin oIx (xVar 1) (xC (.int 50))) xNil)) (xC (.int 5))) (xC (.int 2))) (xCons (xBin oSub (xBin oMod (xCall bInt (xCons (xBin oIx (xVar 1) (xC (.int 51))) xNil)) (xC (.int 5))) (xC (.int 2))) xNil))))
  (sSeq (sSet 6 (xLc (xSeq (xSl (xVar 0) oNo (oAt (xC (.int 2))))) (gTupD 2 (gsCons (gSet 13) (gsCons (gSet 14) gsNil))) tYesP (xTup (xCons (xVar 13) (xCons (xTup (xCons (xBin oAdd (xBin oIx (xVar 14) (xC (.int 0))) (xBin oIx (xVar 5) (xC (.int 0)))) (xCons (xBin oAdd (xBin oIx (xVar 14) (xC (.int 1))) (xBin oIx (xVar 5) (xC (.int 1)))) xNil))) xNil))) [13, 14]))
  (sSeq (sSet 7 (xBin oIx (xCall (fun ds => if ds.length = 2 then (d__law_nearest) ds else none) (xCons (xBin oIx (xVar 0) (xC (.int 0))) (xCons (xBin oIx (xVar 0) (xC (.int 1))) xNil))) (xC (.int 1))))
  (sRet (xCall (fun ds => if ds.length = 2 then (d__law_like 8) ds else none) (xCons (xCall (fun ds => if ds.length = 2 then (d_nearest_square) ds else none) (xCons (xBin oIx (xVar 6) (xC (.int 0))) (xCons (xBin oIx (xVar 6) (xC (.int 1))) xNil))) (xCons (xVar 7) xNil)))))))))))))))
def d__law_seen : List D → Option D := runD 2 16 g__law_seen
theorem ok__law_seen {f : Addr} {fd : FuncData} (F : FnP K "_law_seen" s__law_seen f fd) (D_hose_reach : Def P w K mg base 2 "hose_reach" ["places", "reach", "points"] (d_hose_reach)) (D_reach_needed : Def P w K mg base 2 "reach_needed" ["places", "n", "points"] (d_reach_needed)) (D_nearest_square : Def P w K mg base 6 "nearest_square" ["one", "other"] (d_nearest_square)) (D_course_to : Def P w K mg base 2 "course_to" ["place", "ship", "speed", "bound"] (d_course_to)) (D__law_like : Def P w K mg base 10 "_law_like" ["value", "due"] (d__law_like 8)) (D__law_nearest : Def P w K mg base 3 "_law_nearest" ["one", "other"] (d__law_nearest)) (b_abs : mg "abs" = none) (b_int : mg "int" = none) (b_range : mg "range" = none) (b_tuple : mg "tuple" = none) : FnOk P w K mg base CX0 11 f fd ["ships", "row"] (spD K 2 d__law_seen) := by
  have nd := sc__law_seen.nd
  refine fnp_ok (k := 10) (O' := []) F sc__law_seen fun cdv A outer s H E hr => ?_
  exact (by exact ss_cons (by exact ss_par3 8 9 10 nd (by exact sam_cons (by exact se_op op_addD se_int (by exact se_op op_modD (by exact se_callT (st := false) cb_int b_int (by exact sa_cons (by exact se_ix (by exact se_var 1) se_int) sa_nil)) se_int)) (by exact sam_cons (by exact se_op op_modD (by exact se_callT (st := false) cb_int b_int (by exact sa_cons (by exact se_ix (by exact se_var 1) se_int) sa_nil)) se_int) (by exact sam_cons (by exact se_tup (by exact sa_cons (by exact se_op op_modD (by exact se_callT (st := false) cb_int b_int (by exact sa_cons (by exact se_ix (by exact se_var 1) se_int) sa_nil)) se_int) (by exact sa_cons (by exact se_op op_modD (by exact se_callT (st := false) cb_int b_int (by exact sa_cons (by exact se_ix (by exact se_var 1) se_int) sa_nil)) se_int) sa_nil))) sam_nil)))) (by exact ss_cons (by exact ss_for (O' := [10, 9, 8]) (by exact si_seq (m := .f) (by exact se_tup (by exact sa_cons (by exact se_ix (by exact se_var 0) se_int) (by exact sa_cons (by exact se_tup (by exact sa_cons (by exact se_ix (by exact se_ix (by exact se_var 0) se_int) se_int) (by exact sa_cons (by exact se_tup (by exact sa_cons se_int (by exact sa_cons se_int sa_nil))) sa_nil))) sa_nil)))) (by exact sg_name 2 nd) (by exact ss_cons (by exact ss_setF 7 nd se_non) (by exact ss_cons (by exact ss_for (O' := [7, 10, 9, 8]) (by exact si_r1 (st := false) b_range (by exact sa_cons (by exact se_op op_addD (by exact se_varW 9) se_int) sa_nil)) (by exact sg_name 11 nd) (by exact ss_cons (by exact ss_setF 12 nd (by exact se_callT (st := false) cb_tuple b_tuple (by exact sa_cons (by exact se_lc nd (by exact si_r1 (st := false) b_range (by exact sa_cons se_int sa_nil)) (blkOk_by (own := [("k", 15)]) rfl) (fun _ _ _ _ _ => (by exact sg_name 15 nd)) (fun _ _ _ _ _ => sts_nil) (fun _ _ _ _ _ => (by exact se_op op_addD (by exact se_ix (by exact se_ix (by exact se_var 2) se_int) (by exact se_var 15)) (by exact se_op op_mulD' (by exact se_var 11) (by exact se_ix (by exact se_ix (by exact se_var 2) se_int) (by exact se_var 15)))))) sa_nil))) (by exact ss_cons (by exact ss_if (O' := [12, 7, 10, 9, 8]) (by exact st_cmp op_leD (by exact se_op op_addD (by exact se_callB (st := false) cb_abs b_abs (by exact sa_cons (by exact se_op op_subD (by exact se_ix (by exact se_varW 12) se_int) (by exact se_ix (by exact se_varW 10) se_int)) sa_nil)) (by exact se_callB (st := false) cb_abs b_abs (by exact sa_cons (by exact se_op op_subD (by exact se_ix (by exact se_varW 12) se_int) (by exact se_ix (by exact se_varW 10) se_int)) sa_nil))) (by exact se_op op_mulD' (by exact se_varW 8) (by exact se_var 11))) (by exact ss_cons (by exact SS.weak (O1 := [7, 10, 9, 8]) (by exact ss_setF 7 nd (by exact se_tup (by exact sa_cons (by exact se_var 11) (by exact sa_cons (by exact se_var 12) sa_nil))))) (by exact ss_last ss_break)) ss_nil) ss_nil))) (by exact ss_cons (by exact ss_if (O' := [7, 10, 9, 8]) (by exact st_not (by exact st_val (by exact se_callWD D__law_like hr (by exact sa_cons (by exact se_callWD D_course_to hr (by exact sa_cons (by exact se_varW 10) (by exact sa_cons (by exact se_var 2) (by exact sa_cons (by exact se_varW 8) (by exact sa_cons (by exact se_varW 9) sa_nil))))) (by exact sa_cons (by exact se_varW 7) sa_nil))))) (by exact ss_last (by exact ss_ret se_bl)) ss_nil) ss_nil)))) (by exact ss_cons (by exact ss_setS 3 nd (by exact se_ix (by exact se_ix (by exact se_var 0) se_int) se_int)) (by exact ss_cons (by exact ss_setF 4 nd (by exact se_op op_addD (by exact se_callB (st := false) cb_abs b_abs (by exact sa_cons (by exact se_op op_subD (by exact se_ix (by exact se_var 3) se_int) (by exact se_ix (by exact se_varW 10) se_int)) sa_nil)) (by exact se_callB (st := false) cb_abs b_abs (by exact sa_cons (by exact se_op op_subD (by exact se_ix (by exact se_var 3) se_int) (by exact se_ix (by exact se_varW 10) se_int)) sa_nil)))) (by exact ss_cons (by exact ss_if (O' := [4, 10, 9, 8]) (by exact st_not (by exact st_val (by exact se_callD D__law_like hr (by exact sa_cons (by exact se_callWD D_course_to hr (by exact sa_cons (by exact se_varW 10) (by exact sa_cons (by exact se_tup (by exact sa_cons (by exact se_var 3) (by exact sa_cons (by exact se_tup (by exact sa_cons se_int (by exact sa_cons se_int sa_nil))) sa_nil))) (by exact sa_cons (by exact se_op op_addD (by exact se_varW 8) se_int) (by exact sa_cons se_int sa_nil))))) (by exact sa_cons (by exact se_tup (by exact sa_cons (by exact se_op op_fdivD (by exact se_op op_addD (by exact se_varW 4) (by exact se_varW 8)) (by exact se_op op_addD (by exact se_varW 8) se_int)) (by exact sa_cons (by exact se_var 3) sa_nil))) sa_nil))))) (by exact ss_last (by exact ss_ret se_bl)) ss_nil) (by exact ss_cons (by exact SS.weak (O1 := [9, 8]) (by exact ss_if (O' := [9, 8]) (by exact st_not (by exact st_val (by exact se_callD D__law_like hr (by exact sa_cons (by exact se_callD D_reach_needed hr (by exact sa_cons (by exact se_tup (by exact sa_cons (by exact se_var 10) sa_nil)) (by exact sa_cons se_int (by exact sa_cons (by exact se_tup (by exact sa_cons (by exact se_var 3) sa_nil)) sa_nil)))) (by exact sa_cons (by exact se_tup (by exact sa_cons (by exact se_var 4) (by exact sa_cons (by exact se_tup (by exact sa_cons se_int sa_nil)) sa_nil))) sa_nil))))) (by exact ss_last (by exact ss_ret se_bl)) ss_nil)) (by exact ss_cons (by exact ss_if (O' := [9, 8]) (by exact st_not (by exact st_val (by exact se_callD D__law_like hr (by exact sa_cons (by exact se_callD D_hose_reach hr (by exact sa_cons (by exact se_tup (by exact sa_cons (by exact se_var 10) sa_nil)) (by exact sa_cons (by exact se_var 4) (by exact sa_cons (by exact se_tup (by exact sa_cons (by exact se_var 3) sa_nil)) sa_nil)))) (by exact sa_cons (by exact se_tup (by exact sa_cons (by exact se_tup (by exact sa_cons se_int sa_nil)) sa_nil)) sa_nil))))) (by exact ss_last (by exact ss_ret se_bl)) ss_nil) (by exact ss_cons (by exact ss_if (O' := [9, 8]) (by exact SW.st (by exact sw_and (by exact st_cmp op_gtD (by exact se_var 4) se_int) (by exact sw_and1 (by exact st_not (by exact st_val (by exact se_callD D__law_like hr (by exact sa_cons (by exact se_callD D_hose_reach hr (by exact sa_cons (by exact se_tup (by exact sa_cons (by exact se_var 10) sa_nil)) (by exact sa_cons (by exact se_op op_subD (by exact se_var 4) se_int) (by exact sa_cons (by exact se_tup (by exact sa_cons (by exact se_var 3) sa_nil)) sa_nil)))) (by exact sa_cons (by exact se_tup (by exact sa_cons (by exact se_tup sa_nil) sa_nil)) sa_nil)))))))) (by exact ss_last (by exact ss_ret se_bl)) ss_nil) (by exact ss_cons (by exact ss_setF 5 nd (by exact se_tup (by exact sa_cons (by exact se_op op_subD (by exact se_op op_modD (by exact se_callT (st := false) cb_int b_int (by exact sa_cons (by exact se_ix (by exact se_var 1) se_int) sa_nil)) se_int) se_int) (by exact sa_cons (by exact se_op op_subD (by exact se_op op_modD (by exact se_callT (st := false) cb_int b_int (by exact sa_cons (by exact se_ix (by exact se_var 1) se_int) sa_nil)) se_int) se_int) sa_nil)))) (by exact ss_cons (by exact ss_setLc 6 nd (by exact si_seq (m := .f) (by exact se_sl (by exact se_var 0) so_none (by exact so_some se_int))) (blkOk_by (own := [("place", 13), ("going", 14)]) rfl) (fun _ _ _ _ _ => (by exact sg_tup rfl (by exact sgs_cons (by exact sg_name 13 nd) (by exact sgs_cons (by exact sg_name 14 nd) sgs_nil)))) (fun _ _ _ _ _ => sts_nil) (fun _ _ _ _ _ => (by exact se_tup (by exact sa_cons (by exact se_var 13) (by exact sa_cons (by exact se_tup (by exact sa_cons (by exact se_op op_addD (by exact se_ix (by exact se_var 14) se_int) (by exact se_ix (by exact se_varW 5) se_int)) (by exact sa_cons (by exact se_op op_addD (by exact se_ix (by exact se_var 14) se_int) (by exact se_ix (by exact se_varW 5) se_int)) sa_nil))) sa_nil))))) (by exact ss_cons (by exact ss_setS 7 nd (by exact se_ix (by exact se_callD D__law_nearest hr (by exact sa_cons (by exact se_ix (by exact se_var 0) se_int) (by exact sa_cons (by exact se_ix (by exact se_var 0) se_int) sa_nil))) se_int)) (by exact ss_last (by exact ss_ret (by exact se_callD D__law_like hr (by exact sa_cons (by exact se_callD D_nearest_square hr (by exact sa_cons (by exact se_ix (by exact se_varW 6) se_int) (by exact sa_cons (by exact se_ix (by exact se_varW 6) se_int) sa_nil))) (by exact sa_cons (by exact se_var 7) sa_nil))))))))))))))))
/-! ### law -/
abbrev s_law : Stmt := topS 45
theorem sc_law : FnScope ["script", "row", "k", "reaches", "n", "ships", "place", "going", "hour", "goal", "places", "ship"] ["script"] (defScope s_law) := ⟨rfl, rfl, rfl, by decide +kernel, rfl, by decide +kernel, by decide +kernel⟩
def l1_law : XS :=
  (sSeq (sSet 6 (xTup (xCons (xBin oMod (xCall bInt (xCons (xBin oIx (xVar 1) (xBin oAdd (xC (.int 1)) (xVar 2))) xNil)) (xC (.int 9))) (xCons (xBin oMod (xCall bInt (xCons (xBin oIx (xVar 1) (xBin oAdd (xC (.int 5)) (xVar 2))) xNil)) (xC (.int 9))) xNil))))
  (sSeq (sSet 7 (xTup (xCons (xBin oSub (xBin oMod (xCall bInt (xCons (xBin oIx (xVar 1) (xBin oAdd (xC (.int 9)) (xVar 2))) xNil)) (xC (.int 5))) (xC (.int 2))) (xCons (xBin oSub (xBin oMod (xCall bInt (xCons (xBin oIx (xVar 1) (xBin oAdd (xC (.int 13)) (xVar 2))) xNil)) (xC (.int 5))) (xC (.int 2))) xNil))))
  (sSeq (sIf (tOf (xBin oEq (xBin oMod (xCall bInt (xCons (xBin oIx (xVar 1) (xBin oAdd (xC (.int 17)) (xVar 2))) xNil)) (xC (.int 6))) (xC (.int 0)))) (sSeq (sSet 7 (xTup (xCons (xC (.int 0)) (xCons (xC (.int 0)) xNil))))
  sNop) sNop)
  (sSeq (sApp 5 (xTup (xCons (xVar 6) (xCons (xVar 7) xNil))))
  sNop))))
def l2_law : XS :=
  (sSeq (sApp 10 (xTup (xCons (xBin oAdd (xBin oMul' (xC (.int 3)) (xBin oMod (xCall bInt (xCons (xBin oIx (xVar 1) (xBin oAdd (xC (.int 27)) (xVar 2))) xNil)) (xC (.int 4)))) (xVar 2)) (xCons (xBin oMul' (xC (.int 2)) (xBin oMod (xCall bInt (xCons (xBin oIx (xVar 1) (xBin oAdd (xC (.int 31)) (xVar 2))) xNil)) (xC (.int 5)))) xNil))))
  sNop)
def g_law : XS :=
  (sSeq (sSet 1 (xCall (fun ds => if ds.length = 2 then (d__law_row) ds else none) (xCons (xVar 0) (xCons (xC (.int 60)) xNil))))
  (sSeq (sPar [4, 5] (xCons (xBin oAdd (xC (.int 2)) (xBin oMod (xCall bInt (xCons (xBin oIx (xVar 1) (xC (.int 0))) xNil)) (xC (.int 3)))) (xCons (xLst xNil) xNil)))
  (sSeq (sFor (xIt oR1 (xCons (xVar 4) xNil)) (gSet 2) l1_law)
  (sSeq (sIf (tOf (xBin oEq (xBin oMod (xCall bInt (xCons (xBin oIx (xVar 1) (xC (.int 21))) xNil)) (xC (.int 3))) (xC (.int 0)))) (sSeq (sSet 8 (xBin oMod (xCall bInt (xCons (xBin oIx (xVar 1) (xC (.int 22))) xNil)) (xC (.int 5))))
  (sSeq (sSet 9 (xLc (xIt oR1 (xCons (xC (.int 2)) xNil)) (gSet 2) tYesP (xBin oAdd (xBin oIx (xBin oIx (xBin oIx (xVar 5) (xC (.int 0))) (xC (.int 0))) (xVar 2)) (xBin oMul' (xVar 8) (xBin oSub (xBin oIx (xBin oIx (xBin oIx (xVar 5) (xC (.int 0))) (xC (.int 1))) (xVar 2)) (xBin oIx (xBin oIx (xBin oIx (xVar 5) (xC (.int 1))) (xC (.int 1))) (xVar 2))))) [2]))
  (sSeq (sPut 5 (xC (.int 1)) (xTup (xCons (xCall bTuple (xCons (xVar 9) xNil)) (xCons (xBin oIx (xBin oIx (xVar 5) (xC (.int 1))) (xC (.int 1))) xNil))))
  sNop))) sNop)
  (sSeq (sPar [5, 10] (xCons (xCall bTuple (xCons (xVar 5) xNil)) (xCons (xLst xNil) xNil)))
  (sSeq (sSet 3 (xCall bTuple (xCons (xLc (xIt oR1 (xCons (xVar 4) xNil)) (gSet 2) tYesP (xBin oMod (xCall bInt (xCons (xBin oIx (xVar 1) (xBin oAdd (xC (.int 23)) (xVar 2))) xNil)) (xC (.int 5))) [2]) xNil)))
  (sSeq (sIf (tNotP (tTru (xCall (fun ds => if ds.length = 3 then ((d__law_rounds) ds).bind fun d => if flat d then some d else none else none) (xCons (xCall bTuple (xCons (xLc (xSeq (xVar 5)) (gSet 11) tYesP (xBin oIx (xVar 11) (xC (.int 0))) [11]) xNil)) (xCons (xVar 3) (xCons (xVar 1) xNil)))))) (sRet (xC (.bool false))) sNop)
  (sSeq (sFor (xIt oR1 (xCons (xC (.int 4)) xNil)) (gSet 2) l2_law)
  (sSeq (sIf (tNotP (tTru (xCall (fun ds => if ds.length = 2 then (d__law_anchors) ds else none) (xCons (xCall bTuple (xCons (xVar 10) xNil)) (xCons (xSl (xVar 3) oNo (oAt (xC (.int 3)))) xNil))))) (sRet (xC (.bool false))) sNop)
  (sRet (xAnd (xCall (fun ds => if ds.length = 2 then ((d__law_courses) ds).bind fun d => if flat d then some d else none else none) (xCons (xVar 5) (xCons (xVar 1) xNil))) (xCall (fun ds => if ds.length = 2 then ((d__law_seen) ds).bind fun d => if flat d then some d else none else none) (xCons (xVar 5) (xCons (xVar 1) xNil))))))))))))))
def d_law : List D → Option D := runD 1 12 g_law
theorem ok_law {f : Addr} {fd : FuncData} (F : FnP K "law" s_law f fd) (D__law_row : Def P w K mg base 2 "_law_row" ["script", "many"] (d__law_row)) (D__law_rounds : Def P w K mg base 11 "_law_rounds" ["places", "reaches", "row"] (d__law_rounds)) (D__law_anchors : Def P w K mg base 11 "_law_anchors" ["places", "reaches"] (d__law_anchors)) (D__law_courses : Def P w K mg base 11 "_law_courses" ["ships", "row"] (d__law_courses)) (D__law_seen : Def P w K mg base 11 "_law_seen" ["ships", "row"] (d__law_seen)) (b_int : mg "int" = none) (b_range : mg "range" = none) (b_tuple : mg "tuple" = none) : FnOk P w K mg base CX0 12 f fd ["script"] (spD K 1 d_law) := by
  have nd := sc_law.nd
  refine fnp_ok (k := 11) (O' := []) F sc_law fun cdv A outer s H E hr => ?_
  exact (by exact ss_cons (by exact ss_setS 1 nd (by exact se_callD D__law_row hr (by exact sa_cons (by exact se_var 0) (by exact sa_cons se_int sa_nil)))) (by exact ss_cons (by exact ss_parT [4, 5] (by exact sam_cons (by exact se_op op_addD se_int (by exact se_op op_modD (by exact se_callT (st := false) cb_int b_int (by exact sa_cons (by exact se_ix (by exact se_var 1) se_int) sa_nil)) se_int)) (by exact sam_cons (by exact se_lst sa_nil) sam_nil)) (pgs_cons (pg_name (i := 4) nd rfl (by first | exact .inl rfl | exact .inr rfl)) (pgs_cons (pg_name (i := 5) nd rfl (by first | exact .inl rfl | exact .inr rfl)) pgs_nil))) (by exact ss_cons (by exact ss_for (O' := [5, 4]) (by exact si_r1 (st := false) b_range (by exact sa_cons (by exact se_varW 4) sa_nil)) (by exact sg_name 2 nd) (by exact ss_cons (by exact ss_setF 6 nd (by exact se_tup (by exact sa_cons (by exact se_op op_modD (by exact se_callT (st := false) cb_int b_int (by exact sa_cons (by exact se_ix (by exact se_var 1) (by exact se_op op_addD se_int (by exact se_var 2))) sa_nil)) se_int) (by exact sa_cons (by exact se_op op_modD (by exact se_callT (st := false) cb_int b_int (by exact sa_cons (by exact se_ix (by exact se_var 1) (by exact se_op op_addD se_int (by exact se_var 2))) sa_nil)) se_int) sa_nil)))) (by exact ss_cons (by exact ss_setF 7 nd (by exact se_tup (by exact sa_cons (by exact se_op op_subD (by exact se_op op_modD (by exact se_callT (st := false) cb_int b_int (by exact sa_cons (by exact se_ix (by exact se_var 1) (by exact se_op op_addD se_int (by exact se_var 2))) sa_nil)) se_int) se_int) (by exact sa_cons (by exact se_op op_subD (by exact se_op op_modD (by exact se_callT (st := false) cb_int b_int (by exact sa_cons (by exact se_ix (by exact se_var 1) (by exact se_op op_addD se_int (by exact se_var 2))) sa_nil)) se_int) se_int) sa_nil)))) (by exact ss_cons (by exact ss_if (O' := [7, 7, 6, 5, 4]) (by exact st_cmp (op_eqP hr) (by exact se_op op_modD (by exact se_callT (st := false) cb_int b_int (by exact sa_cons (by exact se_ix (by exact se_var 1) (by exact se_op op_addD se_int (by exact se_var 2))) sa_nil)) se_int) se_int) (by exact ss_cons (by exact ss_setF 7 nd (by exact se_tup (by exact sa_cons se_int (by exact sa_cons se_int sa_nil)))) ss_nil) ss_nil) (by exact ss_cons (by exact SS.weak (O1 := [5, 4]) (by exact ss_app 5 (by exact se_tup (by exact sa_cons (by exact se_var 6) (by exact sa_cons (by exact se_var 7) sa_nil))))) ss_nil))))) (by exact ss_cons (by exact ss_if (O' := [5, 4]) (by exact st_cmp (op_eqP hr) (by exact se_op op_modD (by exact se_callT (st := false) cb_int b_int (by exact sa_cons (by exact se_ix (by exact se_var 1) se_int) sa_nil)) se_int) se_int) (by exact ss_cons (by exact ss_setF 8 nd (by exact se_op op_modD (by exact se_callT (st := false) cb_int b_int (by exact sa_cons (by exact se_ix (by exact se_var 1) se_int) sa_nil)) se_int)) (by exact ss_cons (by exact ss_setLc 9 nd (by exact si_r1 (st := false) b_range (by exact sa_cons se_int sa_nil)) (blkOk_by (own := [("k", 2)]) rfl) (fun _ _ _ _ _ => (by exact sg_name 2 nd)) (fun _ _ _ _ _ => sts_nil) (fun _ _ _ _ _ => (by exact se_op op_addD (by exact se_ix (by exact se_ix (by exact se_ix (by exact se_varW 5) se_int) se_int) (by exact se_var 2)) (by exact se_op op_mulD' (by exact se_varW 8) (by exact se_op op_subD (by exact se_ix (by exact se_ix (by exact se_ix (by exact se_varW 5) se_int) se_int) (by exact se_var 2)) (by exact se_ix (by exact se_ix (by exact se_ix (by exact se_varW 5) se_int) se_int) (by exact se_var 2))))))) (by exact ss_cons (by exact ss_put 5 (by exact se_tup (by exact sa_cons (by exact se_callT (st := false) cb_tuple b_tuple (by exact sa_cons (by exact se_varW 9) sa_nil)) (by exact sa_cons (by exact se_ix (by exact se_ix (by exact se_varW 5) se_int) se_int) sa_nil))) se_int) ss_nil))) ss_nil) (by exact ss_cons (by exact ss_parT [5, 10] (by exact sam_cons (by exact se_callT (st := false) cb_tuple b_tuple (by exact sa_cons (by exact se_varW 5) sa_nil)) (by exact sam_cons (by exact se_lst sa_nil) sam_nil)) (pgs_cons (pg_name (i := 5) nd rfl (by first | exact .inl rfl | exact .inr rfl)) (pgs_cons (pg_name (i := 10) nd rfl (by first | exact .inl rfl | exact .inr rfl)) pgs_nil))) (by exact ss_cons (by exact ss_setF 3 nd (by exact se_callT (st := false) cb_tuple b_tuple (by exact sa_cons (by exact se_lc nd (by exact si_r1 (st := false) b_range (by exact sa_cons (by exact se_varW 4) sa_nil)) (blkOk_by (own := [("k", 2)]) rfl) (fun _ _ _ _ _ => (by exact sg_name 2 nd)) (fun _ _ _ _ _ => sts_nil) (fun _ _ _ _ _ => (by exact se_op op_modD (by exact se_callT (st := false) cb_int b_int (by exact sa_cons (by exact se_ix (by exact se_var 1) (by exact se_op op_addD se_int (by exact se_var 2))) sa_nil)) se_int))) sa_nil))) (by exact ss_cons (by exact ss_if (O' := [3, 10, 5, 5, 4]) (by exact st_not (by exact st_val (by exact se_callWD D__law_rounds hr (by exact sa_cons (by exact se_callT (st := false) cb_tuple b_tuple (by exact sa_cons (by exact se_lc nd (by exact si_seq (m := .w) (by exact se_varW 5)) (blkOk_by (own := [("ship", 11)]) rfl) (fun _ _ _ _ _ => (by exact sg_name 11 nd)) (fun _ _ _ _ _ => sts_nil) (fun _ _ _ _ _ => (by exact se_ix (by exact se_var 11) se_int))) sa_nil)) (by exact sa_cons (by exact se_varW 3) (by exact sa_cons (by exact se_var 1) sa_nil)))))) (by exact ss_last (by exact ss_ret se_bl)) ss_nil) (by exact ss_cons (by exact ss_for (O' := [3, 10, 5, 5, 4]) (by exact si_r1 (st := false) b_range (by exact sa_cons se_int sa_nil)) (by exact sg_name 2 nd) (by exact ss_cons (by exact ss_app 10 (by exact se_tup (by exact sa_cons (by exact se_op op_addD (by exact se_op op_mulD' se_int (by exact se_op op_modD (by exact se_callT (st := false) cb_int b_int (by exact sa_cons (by exact se_ix (by exact se_var 1) (by exact se_op op_addD se_int (by exact se_var 2))) sa_nil)) se_int)) (by exact se_var 2)) (by exact sa_cons (by exact se_op op_mulD' se_int (by exact se_op op_modD (by exact se_callT (st := false) cb_int b_int (by exact sa_cons (by exact se_ix (by exact se_var 1) (by exact se_op op_addD se_int (by exact se_var 2))) sa_nil)) se_int)) sa_nil)))) ss_nil)) (by exact ss_cons (by exact ss_if (O' := [3, 10, 5, 5, 4]) (by exact st_not (by exact st_val (by exact se_callD D__law_anchors hr (by exact sa_cons (by exact se_callT (st := false) cb_tuple b_tuple (by exact sa_cons (by exact se_varW 10) sa_nil)) (by exact sa_cons (by exact se_sl (by exact se_varW 3) so_none (by exact so_some se_int)) sa_nil))))) (by exact ss_last (by exact ss_ret se_bl)) ss_nil) (by exact ss_last (by exact ss_ret (by exact se_and (by exact se_callWD D__law_courses hr (by exact sa_cons (by exact se_varW 5) (by exact sa_cons (by exact se_var 1) sa_nil))) (by exact se_bone (by exact se_callWD D__law_seen hr (by exact sa_cons (by exact se_varW 5) (by exact sa_cons (by exact se_var 1) sa_nil))))))))))))))))
end
/-! ### the head -/
def h_divisor : He.DefD := ⟨("divisor", none), "divisor", "divisor", defArgs s_divisor, defBody s_divisor, defScope s_divisor, [], []⟩
def h_lowest : He.DefD := ⟨("lowest", none), "lowest", "lowest", defArgs s_lowest, defBody s_lowest, defScope s_lowest, [], []⟩
def h_plus : He.DefD := ⟨("plus", none), "plus", "plus", defArgs s_plus, defBody s_plus, defScope s_plus, [], []⟩
def h_minus : He.DefD := ⟨("minus", none), "minus", "minus", defArgs s_minus, defBody s_minus, defScope s_minus, [], []⟩
def h_times : He.DefD := ⟨("times", none), "times", "times", defArgs s_times, defBody s_times, defScope s_times, [], []⟩
def h_is_less : He.DefD := ⟨("is_less", none), "is_less", "is_less", defArgs s_is_less, defBody s_is_less, defScope s_is_less, [], []⟩
def h_all_sets : He.DefD := ⟨("all_sets", none), "all_sets", "all_sets", defArgs s_all_sets, defBody s_all_sets, defScope s_all_sets, [], []⟩
def h_whole : He.DefD := ⟨("whole", none), "whole", "whole", defArgs s_whole, defBody s_whole, defScope s_whole, [], []⟩
def h_way_of : He.DefD := ⟨("way_of", none), "way_of", "way_of", defArgs s_way_of, defBody s_way_of, defScope s_way_of, [], []⟩
def h_hose_reach : He.DefD := ⟨("hose_reach", none), "hose_reach", "hose_reach", defArgs s_hose_reach, defBody s_hose_reach, defScope s_hose_reach, [], []⟩
def h_reach_needed : He.DefD := ⟨("reach_needed", none), "reach_needed", "reach_needed", defArgs s_reach_needed, defBody s_reach_needed, defScope s_reach_needed, [], []⟩
def h_place_at : He.DefD := ⟨("place_at", none), "place_at", "place_at", defArgs s_place_at, defBody s_place_at, defScope s_place_at, [], []⟩
def h_apart_at : He.DefD := ⟨("apart_at", none), "apart_at", "apart_at", defArgs s_apart_at, defBody s_apart_at, defScope s_apart_at, [], []⟩
def h_nearest_hour : He.DefD := ⟨("nearest_hour", none), "nearest_hour", "nearest_hour", defArgs s_nearest_hour, defBody s_nearest_hour, defScope s_nearest_hour, [], []⟩
def h_nearest_square : He.DefD := ⟨("nearest_square", none), "nearest_square", "nearest_square", defArgs s_nearest_square, defBody s_nearest_square, defScope s_nearest_square, [], []⟩
def h_they_meet : He.DefD := ⟨("they_meet", none), "they_meet", "they_meet", defArgs s_they_meet, defBody s_they_meet, defScope s_they_meet, [], []⟩
def h_first_within : He.DefD := ⟨("first_within", none), "first_within", "first_within", defArgs s_first_within, defBody s_first_within, defScope s_first_within, [], []⟩
def h_pairs_near : He.DefD := ⟨("pairs_near", none), "pairs_near", "pairs_near", defArgs s_pairs_near, defBody s_pairs_near, defScope s_pairs_near, [], []⟩
def h_course_to : He.DefD := ⟨("course_to", none), "course_to", "course_to", defArgs s_course_to, defBody s_course_to, defScope s_course_to, [], []⟩
def h_swing_meets : He.DefD := ⟨("swing_meets", none), "swing_meets", "swing_meets", defArgs s_swing_meets, defBody s_swing_meets, defScope s_swing_meets, [], []⟩
def h_clear_all : He.DefD := ⟨("clear_all", none), "clear_all", "clear_all", defArgs s_clear_all, defBody s_clear_all, defScope s_clear_all, [], []⟩
def h_anchors_least : He.DefD := ⟨("anchors_least", none), "anchors_least", "anchors_least", defArgs s_anchors_least, defBody s_anchors_least, defScope s_anchors_least, [], []⟩
def h_most_anchored : He.DefD := ⟨("most_anchored", none), "most_anchored", "most_anchored", defArgs s_most_anchored, defBody s_most_anchored, defScope s_most_anchored, [], []⟩
def h_in_channel : He.DefD := ⟨("in_channel", none), "in_channel", "in_channel", defArgs s_in_channel, defBody s_in_channel, defScope s_in_channel, [], []⟩
def h__law_mixed : He.DefD := ⟨("_law_mixed", none), "_law_mixed", "_law_mixed", defArgs s__law_mixed, defBody s__law_mixed, defScope s__law_mixed, [], []⟩
def h__law_row : He.DefD := ⟨("_law_row", none), "_law_row", "_law_row", defArgs s__law_row, defBody s__law_row, defScope s__law_row, [], []⟩
def h__law_is_int : He.DefD := ⟨("_law_is_int", none), "_law_is_int", "_law_is_int", defArgs s__law_is_int, defBody s__law_is_int, defScope s__law_is_int, [], []⟩
def h__law_like : He.DefD := ⟨("_law_like", none), "_law_like", "_law_like", defArgs s__law_like, defBody s__law_like, defScope s__law_like, [], []⟩
def h__law_sets : He.DefD := ⟨("_law_sets", none), "_law_sets", "_law_sets", defArgs s__law_sets, defBody s__law_sets, defScope s__law_sets, [], []⟩
def h__law_common : He.DefD := ⟨("_law_common", none), "_law_common", "_law_common", defArgs s__law_common, defBody s__law_common, defScope s__law_common, [], []⟩
def h__law_ratio : He.DefD := ⟨("_law_ratio", none), "_law_ratio", "_law_ratio", defArgs s__law_ratio, defBody s__law_ratio, defScope s__law_ratio, [], []⟩
def h__law_tuples : He.DefD := ⟨("_law_tuples", none), "_law_tuples", "_law_tuples", defArgs s__law_tuples, defBody s__law_tuples, defScope s__law_tuples, [], []⟩
def h__law_square : He.DefD := ⟨("_law_square", none), "_law_square", "_law_square", defArgs s__law_square, defBody s__law_square, defScope s__law_square, [], []⟩
def h__law_off : He.DefD := ⟨("_law_off", none), "_law_off", "_law_off", defArgs s__law_off, defBody s__law_off, defScope s__law_off, [], []⟩
def h__law_nearest : He.DefD := ⟨("_law_nearest", none), "_law_nearest", "_law_nearest", defArgs s__law_nearest, defBody s__law_nearest, defScope s__law_nearest, [], []⟩
def h__law_rounds : He.DefD := ⟨("_law_rounds", none), "_law_rounds", "_law_rounds", defArgs s__law_rounds, defBody s__law_rounds, defScope s__law_rounds, [], []⟩
def h__law_anchored : He.DefD := ⟨("_law_anchored", none), "_law_anchored", "_law_anchored", defArgs s__law_anchored, defBody s__law_anchored, defScope s__law_anchored, [], []⟩
def h__law_anchors : He.DefD := ⟨("_law_anchors", none), "_law_anchors", "_law_anchors", defArgs s__law_anchors, defBody s__law_anchors, defScope s__law_anchors, [], []⟩
def h__law_courses : He.DefD := ⟨("_law_courses", none), "_law_courses", "_law_courses", defArgs s__law_courses, defBody s__law_courses, defScope s__law_courses, [], []⟩
def h__law_seen : He.DefD := ⟨("_law_seen", none), "_law_seen", "_law_seen", defArgs s__law_seen, defBody s__law_seen, defScope s__law_seen, [], []⟩
def h_law : He.DefD := ⟨("law", none), "law", "law", defArgs s_law, defBody s_law, defScope s_law, [], []⟩
def fn0 : List He.DefD := [h_divisor, h_lowest, h_plus, h_minus, h_times, h_is_less, h_all_sets, h_whole, h_way_of, h_hose_reach, h_reach_needed, h_place_at, h_apart_at, h_nearest_hour, h_nearest_square, h_they_meet, h_first_within, h_pairs_near, h_course_to, h_swing_meets, h_clear_all, h_anchors_least, h_most_anchored, h_in_channel, h__law_mixed, h__law_row, h__law_is_int, h__law_like, h__law_sets, h__law_common]
def fn1 : List He.DefD := [h__law_ratio, h__law_tuples, h__law_square, h__law_off, h__law_nearest, h__law_rounds, h__law_anchored, h__law_anchors, h__law_courses, h__law_seen, h_law]
def fn : List He.DefD := fn0 ++ fn1
def fa0 : List He.Fa := [.glo "divisor", .glo "lowest", .glo "plus", .glo "minus", .glo "times", .glo "is_less", .glo "all_sets", .glo "whole", .glo "way_of", .glo "hose_reach", .glo "reach_needed", .glo "place_at", .glo "apart_at", .glo "nearest_hour", .glo "nearest_square", .glo "they_meet", .glo "first_within", .glo "pairs_near", .glo "course_to", .glo "swing_meets", .glo "clear_all", .glo "anchors_least", .glo "most_anchored", .glo "in_channel", .glo "_law_mixed", .glo "_law_row", .glo "_law_is_int", .glo "_law_like", .glo "_law_sets", .glo "_law_common"]
def fa1 : List He.Fa := [.glo "_law_ratio", .glo "_law_tuples", .glo "_law_square", .glo "_law_off", .glo "_law_nearest", .glo "_law_rounds", .glo "_law_anchored", .glo "_law_anchors", .glo "_law_courses", .glo "_law_seen", .glo "law", .free "abs", .free "all", .free "any", .free "bool", .free "enumerate", .free "int", .free "isinstance", .free "len", .free "max", .free "min", .free "range", .free "set", .free "sorted", .free "str", .free "tuple", .free "zip"]
def fa : List He.Fa := fa0 ++ fa1
def loo0 : List PySem.Str := ["divisor", "lowest", "plus", "minus", "times", "is_less", "all_sets", "whole", "way_of", "hose_reach", "reach_needed", "place_at", "apart_at", "nearest_hour", "nearest_square", "they_meet", "first_within", "pairs_near", "course_to", "swing_meets", "clear_all", "anchors_least", "most_anchored", "in_channel", "_law_mixed", "_law_row", "_law_is_int", "_law_like", "_law_sets", "_law_common"]
def loo1 : List PySem.Str := ["_law_ratio", "_law_tuples", "_law_square", "_law_off", "_law_nearest", "_law_rounds", "_law_anchored", "_law_anchors", "_law_courses", "_law_seen"]
def loo : List PySem.Str := loo0 ++ loo1
abbrev R : PySem.W.OpenRow := PySem.W.OpenLaw.row PySem.Challenge.rw_dockheld_k25_whole_rounds_courses
abbrev hk : PySem.W.Hook := He.hookD 4 fa fn
def ob (s : PySem.W.SharedT) : He.AlD := He.obsDG 4 fa fn (HandSHeadRun.getT s)
theorem ob_eq (s : PySem.W.SharedT) : ob s = hk.obs s.abs := He.obsDG_eq (HandSHeadRun.getT_eq s)
theorem run (w : World) : HandSHeadRun.RunEq R (PySem.W.view R.prog [45]) hk ob 20000 loo w := by
  intro os
  kernel_rfl
theorem facts {P : Program} {w : World} {K : PySem.W.Frag} {h : Heap} {mg : Str → Option Value} {f : Addr} (X : K.In h) (G : h.Ns mainGlobals mg) (hfa : mg ("law" : Str) = some (.ref f)) (c : He.SaysD fa fn K) :
    ∃ fd : FuncData, (∀ (s : Shared) (v : Value), BindsTo s fd ⟨[v], []⟩ [("script", v)]) ∧ ∀ base : Heap, K.In base → base.Ns mainGlobals mg → FnOk P w K mg base CX0 12 f fd ["script"] (spD K 1 d_law) := by
  obtain ⟨fd_divisor, F_divisor⟩ := c.def_ 0 (d := h_divisor) rfl
  obtain ⟨fd_lowest, F_lowest⟩ := c.def_ 1 (d := h_lowest) rfl
  obtain ⟨fd_plus, F_plus⟩ := c.def_ 2 (d := h_plus) rfl
  obtain ⟨fd_minus, F_minus⟩ := c.def_ 3 (d := h_minus) rfl
  obtain ⟨fd_times, F_times⟩ := c.def_ 4 (d := h_times) rfl
  obtain ⟨fd_is_less, F_is_less⟩ := c.def_ 5 (d := h_is_less) rfl
  obtain ⟨fd_all_sets, F_all_sets⟩ := c.def_ 6 (d := h_all_sets) rfl
  obtain ⟨fd_whole, F_whole⟩ := c.def_ 7 (d := h_whole) rfl
  obtain ⟨fd_way_of, F_way_of⟩ := c.def_ 8 (d := h_way_of) rfl
  obtain ⟨fd_hose_reach, F_hose_reach⟩ := c.def_ 9 (d := h_hose_reach) rfl
  obtain ⟨fd_reach_needed, F_reach_needed⟩ := c.def_ 10 (d := h_reach_needed) rfl
  obtain ⟨fd_place_at, F_place_at⟩ := c.def_ 11 (d := h_place_at) rfl
  obtain ⟨fd_apart_at, F_apart_at⟩ := c.def_ 12 (d := h_apart_at) rfl
  obtain ⟨fd_nearest_hour, F_nearest_hour⟩ := c.def_ 13 (d := h_nearest_hour) rfl
  obtain ⟨fd_nearest_square, F_nearest_square⟩ := c.def_ 14 (d := h_nearest_square) rfl
  obtain ⟨fd_they_meet, F_they_meet⟩ := c.def_ 15 (d := h_they_meet) rfl
  obtain ⟨fd_first_within, F_first_within⟩ := c.def_ 16 (d := h_first_within) rfl
  obtain ⟨fd_pairs_near, F_pairs_near⟩ := c.def_ 17 (d := h_pairs_near) rfl
  obtain ⟨fd_course_to, F_course_to⟩ := c.def_ 18 (d := h_course_to) rfl
  obtain ⟨fd_swing_meets, F_swing_meets⟩ := c.def_ 19 (d := h_swing_meets) rfl
  obtain ⟨fd_clear_all, F_clear_all⟩ := c.def_ 20 (d := h_clear_all) rfl
  obtain ⟨fd_anchors_least, F_anchors_least⟩ := c.def_ 21 (d := h_anchors_least) rfl
  obtain ⟨fd_most_anchored, F_most_anchored⟩ := c.def_ 22 (d := h_most_anchored) rfl
  obtain ⟨fd_in_channel, F_in_channel⟩ := c.def_ 23 (d := h_in_channel) rfl
  obtain ⟨fd__law_mixed, F__law_mixed⟩ := c.def_ 24 (d := h__law_mixed) rfl
  obtain ⟨fd__law_row, F__law_row⟩ := c.def_ 25 (d := h__law_row) rfl
  obtain ⟨fd__law_is_int, F__law_is_int⟩ := c.def_ 26 (d := h__law_is_int) rfl
  obtain ⟨fd__law_like, F__law_like⟩ := c.def_ 27 (d := h__law_like) rfl
  obtain ⟨fd__law_sets, F__law_sets⟩ := c.def_ 28 (d := h__law_sets) rfl
  obtain ⟨fd__law_common, F__law_common⟩ := c.def_ 29 (d := h__law_common) rfl
  obtain ⟨fd__law_ratio, F__law_ratio⟩ := c.def_ 30 (d := h__law_ratio) rfl
  obtain ⟨fd__law_tuples, F__law_tuples⟩ := c.def_ 31 (d := h__law_tuples) rfl
  obtain ⟨fd__law_square, F__law_square⟩ := c.def_ 32 (d := h__law_square) rfl
  obtain ⟨fd__law_off, F__law_off⟩ := c.def_ 33 (d := h__law_off) rfl
  obtain ⟨fd__law_nearest, F__law_nearest⟩ := c.def_ 34 (d := h__law_nearest) rfl
  obtain ⟨fd__law_rounds, F__law_rounds⟩ := c.def_ 35 (d := h__law_rounds) rfl
  obtain ⟨fd__law_anchored, F__law_anchored⟩ := c.def_ 36 (d := h__law_anchored) rfl
  obtain ⟨fd__law_anchors, F__law_anchors⟩ := c.def_ 37 (d := h__law_anchors) rfl
  obtain ⟨fd__law_courses, F__law_courses⟩ := c.def_ 38 (d := h__law_courses) rfl
  obtain ⟨fd__law_seen, F__law_seen⟩ := c.def_ 39 (d := h__law_seen) rfl
  obtain ⟨fd_law, F_law⟩ := c.def_ 40 (d := h_law) rfl
  have e := hfa.symm.trans (He.glo_ok X G (c.fact 40 (f := .glo "law") rfl))
  cases e
  refine ⟨fd_law, fun s v => FunD.bindsA (ps := ["script"]) F_law (fun _ _ _ _ _ _ us hl => match us, hl with | [_], _ => rfl) s [v] rfl, fun base _ _ => ?_⟩
  have b_abs : mg "abs" = none := He.free_ok X G (c.fact 41 (f := .free "abs") rfl)
  have b_all : mg "all" = none := He.free_ok X G (c.fact 42 (f := .free "all") rfl)
  have b_any : mg "any" = none := He.free_ok X G (c.fact 43 (f := .free "any") rfl)
  have b_bool : mg "bool" = none := He.free_ok X G (c.fact 44 (f := .free "bool") rfl)
  have b_enumerate : mg "enumerate" = none := He.free_ok X G (c.fact 45 (f := .free "enumerate") rfl)
  have b_int : mg "int" = none := He.free_ok X G (c.fact 46 (f := .free "int") rfl)
  have b_isinstance : mg "isinstance" = none := He.free_ok X G (c.fact 47 (f := .free "isinstance") rfl)
  have b_len : mg "len" = none := He.free_ok X G (c.fact 48 (f := .free "len") rfl)
  have b_max : mg "max" = none := He.free_ok X G (c.fact 49 (f := .free "max") rfl)
  have b_min : mg "min" = none := He.free_ok X G (c.fact 50 (f := .free "min") rfl)
  have b_range : mg "range" = none := He.free_ok X G (c.fact 51 (f := .free "range") rfl)
  have b_set : mg "set" = none := He.free_ok X G (c.fact 52 (f := .free "set") rfl)
  have b_sorted : mg "sorted" = none := He.free_ok X G (c.fact 53 (f := .free "sorted") rfl)
  have b_str : mg "str" = none := He.free_ok X G (c.fact 54 (f := .free "str") rfl)
  have b_tuple : mg "tuple" = none := He.free_ok X G (c.fact 55 (f := .free "tuple") rfl)
  have b_zip : mg "zip" = none := He.free_ok X G (c.fact 56 (f := .free "zip") rfl)
  have D_divisor : Def P w K mg base 1 "divisor" ["first", "second"] d_divisor := def_ok (ok_divisor F_divisor b_abs) (He.glo_ok X G (c.fact 0 (f := .glo "divisor") rfl)) F_divisor.kp (F_divisor.bindsN (ps := ["first", "second"]) fun _ _ _ _ _ _ us hl => match us, hl with | [_, _], _ => rfl)
  have D_lowest : Def P w K mg base 2 "lowest" ["a", "b"] d_lowest := def_ok (ok_lowest F_lowest D_divisor) (He.glo_ok X G (c.fact 1 (f := .glo "lowest") rfl)) F_lowest.kp (F_lowest.bindsN (ps := ["a", "b"]) fun _ _ _ _ _ _ us hl => match us, hl with | [_, _], _ => rfl)
  have D_plus : Def P w K mg base 3 "plus" ["first", "second"] d_plus := def_ok (ok_plus F_plus D_lowest) (He.glo_ok X G (c.fact 2 (f := .glo "plus") rfl)) F_plus.kp (F_plus.bindsN (ps := ["first", "second"]) fun _ _ _ _ _ _ us hl => match us, hl with | [_, _], _ => rfl)
  have D_minus : Def P w K mg base 3 "minus" ["first", "second"] d_minus := def_ok (ok_minus F_minus D_lowest) (He.glo_ok X G (c.fact 3 (f := .glo "minus") rfl)) F_minus.kp (F_minus.bindsN (ps := ["first", "second"]) fun _ _ _ _ _ _ us hl => match us, hl with | [_, _], _ => rfl)
  have D_times : Def P w K mg base 3 "times" ["first", "second"] d_times := def_ok (ok_times F_times D_lowest) (He.glo_ok X G (c.fact 4 (f := .glo "times") rfl)) F_times.kp (F_times.bindsN (ps := ["first", "second"]) fun _ _ _ _ _ _ us hl => match us, hl with | [_, _], _ => rfl)
  have D_is_less : Def P w K mg base 1 "is_less" ["first", "second"] d_is_less := def_ok (ok_is_less F_is_less) (He.glo_ok X G (c.fact 5 (f := .glo "is_less") rfl)) F_is_less.kp (F_is_less.bindsN (ps := ["first", "second"]) fun _ _ _ _ _ _ us hl => match us, hl with | [_, _], _ => rfl)
  have D_all_sets : Def P w K mg base 1 "all_sets" ["n"] d_all_sets := def_ok (ok_all_sets F_all_sets b_range) (He.glo_ok X G (c.fact 6 (f := .glo "all_sets") rfl)) F_all_sets.kp (F_all_sets.bindsN (ps := ["n"]) fun _ _ _ _ _ _ us hl => match us, hl with | [_], _ => rfl)
  have D_whole : Def P w K mg base 1 "whole" ["number"] d_whole := def_ok (ok_whole F_whole) (He.glo_ok X G (c.fact 7 (f := .glo "whole") rfl)) F_whole.kp (F_whole.bindsN (ps := ["number"]) fun _ _ _ _ _ _ us hl => match us, hl with | [_], _ => rfl)
  have D_way_of : Def P w K mg base 1 "way_of" ["one", "other"] d_way_of := def_ok (ok_way_of F_way_of b_abs) (He.glo_ok X G (c.fact 8 (f := .glo "way_of") rfl)) F_way_of.kp (F_way_of.bindsN (ps := ["one", "other"]) fun _ _ _ _ _ _ us hl => match us, hl with | [_, _], _ => rfl)
  have D_hose_reach : Def P w K mg base 2 "hose_reach" ["places", "reach", "points"] d_hose_reach := def_ok (ok_hose_reach F_hose_reach D_way_of b_enumerate b_tuple) (He.glo_ok X G (c.fact 9 (f := .glo "hose_reach") rfl)) F_hose_reach.kp (F_hose_reach.bindsN (ps := ["places", "reach", "points"]) fun _ _ _ _ _ _ us hl => match us, hl with | [_, _, _], _ => rfl)
  have D_reach_needed : Def P w K mg base 2 "reach_needed" ["places", "n", "points"] d_reach_needed := def_ok (ok_reach_needed F_reach_needed D_all_sets D_way_of b_len b_max b_min) (He.glo_ok X G (c.fact 10 (f := .glo "reach_needed") rfl)) F_reach_needed.kp (F_reach_needed.bindsN (ps := ["places", "n", "points"]) fun _ _ _ _ _ _ us hl => match us, hl with | [_, _, _], _ => rfl)
  have D_place_at : Def P w K mg base 4 "place_at" ["ship", "hour"] d_place_at := def_ok (ok_place_at F_place_at D_plus D_times D_whole) (He.glo_ok X G (c.fact 11 (f := .glo "place_at") rfl)) F_place_at.kp (F_place_at.bindsN (ps := ["ship", "hour"]) fun _ _ _ _ _ _ us hl => match us, hl with | [_, _], _ => rfl)
  have D_apart_at : Def P w K mg base 5 "apart_at" ["one", "other", "hour"] d_apart_at := def_ok (ok_apart_at F_apart_at D_plus D_minus D_times D_place_at) (He.glo_ok X G (c.fact 12 (f := .glo "apart_at") rfl)) F_apart_at.kp (F_apart_at.bindsN (ps := ["one", "other", "hour"]) fun _ _ _ _ _ _ us hl => match us, hl with | [_, _, _], _ => rfl)
  have D_nearest_hour : Def P w K mg base 3 "nearest_hour" ["one", "other"] d_nearest_hour := def_ok (ok_nearest_hour F_nearest_hour D_lowest D_whole) (He.glo_ok X G (c.fact 13 (f := .glo "nearest_hour") rfl)) F_nearest_hour.kp (F_nearest_hour.bindsN (ps := ["one", "other"]) fun _ _ _ _ _ _ us hl => match us, hl with | [_, _], _ => rfl)
  have D_nearest_square : Def P w K mg base 6 "nearest_square" ["one", "other"] d_nearest_square := def_ok (ok_nearest_square F_nearest_square D_apart_at D_nearest_hour) (He.glo_ok X G (c.fact 14 (f := .glo "nearest_square") rfl)) F_nearest_square.kp (F_nearest_square.bindsN (ps := ["one", "other"]) fun _ _ _ _ _ _ us hl => match us, hl with | [_, _], _ => rfl)
  have D_they_meet : Def P w K mg base 7 "they_meet" ["one", "other"] d_they_meet := def_ok (ok_they_meet F_they_meet D_nearest_square) (He.glo_ok X G (c.fact 15 (f := .glo "they_meet") rfl)) F_they_meet.kp (F_they_meet.bindsN (ps := ["one", "other"]) fun _ _ _ _ _ _ us hl => match us, hl with | [_, _], _ => rfl)
  have D_first_within : Def P w K mg base 6 "first_within" ["one", "other", "far", "bound"] d_first_within := def_ok (ok_first_within F_first_within D_is_less D_whole D_apart_at b_range) (He.glo_ok X G (c.fact 16 (f := .glo "first_within") rfl)) F_first_within.kp (F_first_within.bindsN (ps := ["one", "other", "far", "bound"]) fun _ _ _ _ _ _ us hl => match us, hl with | [_, _, _, _], _ => rfl)
  have D_pairs_near : Def P w K mg base 7 "pairs_near" ["ships", "far"] d_pairs_near := def_ok (ok_pairs_near F_pairs_near D_is_less D_whole D_nearest_square b_len b_range b_tuple) (He.glo_ok X G (c.fact 17 (f := .glo "pairs_near") rfl)) F_pairs_near.kp (F_pairs_near.bindsN (ps := ["ships", "far"]) fun _ _ _ _ _ _ us hl => match us, hl with | [_, _], _ => rfl)
  have D_course_to : Def P w K mg base 2 "course_to" ["place", "ship", "speed", "bound"] d_course_to := def_ok (ok_course_to F_course_to D_way_of b_range) (He.glo_ok X G (c.fact 18 (f := .glo "course_to") rfl)) F_course_to.kp (F_course_to.bindsN (ps := ["place", "ship", "speed", "bound"]) fun _ _ _ _ _ _ us hl => match us, hl with | [_, _, _, _], _ => rfl)
  have D_swing_meets : Def P w K mg base 1 "swing_meets" ["one", "other"] d_swing_meets := def_ok (ok_swing_meets F_swing_meets) (He.glo_ok X G (c.fact 19 (f := .glo "swing_meets") rfl)) F_swing_meets.kp (F_swing_meets.bindsN (ps := ["one", "other"]) fun _ _ _ _ _ _ us hl => match us, hl with | [_, _], _ => rfl)
  have D_clear_all : Def P w K mg base 2 "clear_all" ["rounds"] d_clear_all := def_ok (ok_clear_all F_clear_all D_swing_meets b_any b_enumerate) (He.glo_ok X G (c.fact 20 (f := .glo "clear_all") rfl)) F_clear_all.kp (F_clear_all.bindsN (ps := ["rounds"]) fun _ _ _ _ _ _ us hl => match us, hl with | [_], _ => rfl)
  have D_anchors_least : Def P w K mg base 2 "anchors_least" ["places", "reaches"] d_anchors_least := def_ok (ok_anchors_least F_anchors_least D_swing_meets b_any b_len b_min b_range b_zip) (He.glo_ok X G (c.fact 21 (f := .glo "anchors_least") rfl)) F_anchors_least.kp (F_anchors_least.bindsN (ps := ["places", "reaches"]) fun _ _ _ _ _ _ us hl => match us, hl with | [_, _], _ => rfl)
  have D_most_anchored : Def P w K mg base 3 "most_anchored" ["places", "reaches"] d_most_anchored := def_ok (ok_most_anchored F_most_anchored D_all_sets D_anchors_least b_len b_min) (He.glo_ok X G (c.fact 22 (f := .glo "most_anchored") rfl)) F_most_anchored.kp (F_most_anchored.bindsN (ps := ["places", "reaches"]) fun _ _ _ _ _ _ us hl => match us, hl with | [_, _], _ => rfl)
  have D_in_channel : Def P w K mg base 1 "in_channel" ["rounds", "low", "high"] d_in_channel := def_ok (ok_in_channel F_in_channel b_enumerate b_tuple) (He.glo_ok X G (c.fact 23 (f := .glo "in_channel") rfl)) F_in_channel.kp (F_in_channel.bindsN (ps := ["rounds", "low", "high"]) fun _ _ _ _ _ _ us hl => match us, hl with | [_, _, _], _ => rfl)
  have D__law_mixed : Def P w K mg base 1 "_law_mixed" ["script", "k"] d__law_mixed := def_ok (ok__law_mixed F__law_mixed b_int b_len) (He.glo_ok X G (c.fact 24 (f := .glo "_law_mixed") rfl)) F__law_mixed.kp (F__law_mixed.bindsN (ps := ["script", "k"]) fun _ _ _ _ _ _ us hl => match us, hl with | [_, _], _ => rfl)
  have D__law_row : Def P w K mg base 2 "_law_row" ["script", "many"] d__law_row := def_ok (ok__law_row F__law_row D__law_mixed b_int b_len b_range) (He.glo_ok X G (c.fact 25 (f := .glo "_law_row") rfl)) F__law_row.kp (F__law_row.bindsN (ps := ["script", "many"]) fun _ _ _ _ _ _ us hl => match us, hl with | [_, _], _ => rfl)
  have D__law_is_int : Def P w K mg base 1 "_law_is_int" ["value"] d__law_is_int := def_ok (ok__law_is_int F__law_is_int b_bool b_int b_isinstance) (He.glo_ok X G (c.fact 26 (f := .glo "_law_is_int") rfl)) F__law_is_int.kp (F__law_is_int.bindsN (ps := ["value"]) fun _ _ _ _ _ _ us hl => match us, hl with | [_], _ => rfl)
  have D__law_like : Def P w K mg base 10 "_law_like" ["value", "due"] (d__law_like 8) := def_ok (ok__law_like F__law_like (He.glo_ok X G (c.fact 27 (f := .glo "_law_like") rfl)) F__law_like.kp (F__law_like.bindsN (ps := ["value", "due"]) fun _ _ _ _ _ _ us hl => match us, hl with | [_, _], _ => rfl) D__law_is_int b_all b_bool b_isinstance b_len b_range b_str b_tuple 8) (He.glo_ok X G (c.fact 27 (f := .glo "_law_like") rfl)) F__law_like.kp (F__law_like.bindsN (ps := ["value", "due"]) fun _ _ _ _ _ _ us hl => match us, hl with | [_, _], _ => rfl)
  have D__law_sets : Def P w K mg base 1 "_law_sets" ["n"] d__law_sets := def_ok (ok__law_sets F__law_sets b_range b_sorted) (He.glo_ok X G (c.fact 28 (f := .glo "_law_sets") rfl)) F__law_sets.kp (F__law_sets.bindsN (ps := ["n"]) fun _ _ _ _ _ _ us hl => match us, hl with | [_], _ => rfl)
  have D__law_common : Def P w K mg base 1 "_law_common" ["first", "second"] d__law_common := def_ok (ok__law_common F__law_common b_abs b_int) (He.glo_ok X G (c.fact 29 (f := .glo "_law_common") rfl)) F__law_common.kp (F__law_common.bindsN (ps := ["first", "second"]) fun _ _ _ _ _ _ us hl => match us, hl with | [_, _], _ => rfl)
  have D__law_ratio : Def P w K mg base 2 "_law_ratio" ["a", "b"] d__law_ratio := def_ok (ok__law_ratio F__law_ratio D__law_common) (He.glo_ok X G (c.fact 30 (f := .glo "_law_ratio") rfl)) F__law_ratio.kp (F__law_ratio.bindsN (ps := ["a", "b"]) fun _ _ _ _ _ _ us hl => match us, hl with | [_, _], _ => rfl)
  have D__law_tuples : Def P w K mg base 1 "_law_tuples" ["count", "most"] d__law_tuples := def_ok (ok__law_tuples F__law_tuples b_range) (He.glo_ok X G (c.fact 31 (f := .glo "_law_tuples") rfl)) F__law_tuples.kp (F__law_tuples.bindsN (ps := ["count", "most"]) fun _ _ _ _ _ _ us hl => match us, hl with | [_, _], _ => rfl)
  have D__law_square : Def P w K mg base 1 "_law_square" ["one", "other"] d__law_square := def_ok (ok__law_square F__law_square) (He.glo_ok X G (c.fact 32 (f := .glo "_law_square") rfl)) F__law_square.kp (F__law_square.bindsN (ps := ["one", "other"]) fun _ _ _ _ _ _ us hl => match us, hl with | [_, _], _ => rfl)
  have D__law_off : Def P w K mg base 1 "_law_off" ["one", "other"] d__law_off := def_ok (ok__law_off F__law_off) (He.glo_ok X G (c.fact 33 (f := .glo "_law_off") rfl)) F__law_off.kp (F__law_off.bindsN (ps := ["one", "other"]) fun _ _ _ _ _ _ us hl => match us, hl with | [_, _], _ => rfl)
  have D__law_nearest : Def P w K mg base 3 "_law_nearest" ["one", "other"] d__law_nearest := def_ok (ok__law_nearest F__law_nearest D__law_ratio D__law_off) (He.glo_ok X G (c.fact 34 (f := .glo "_law_nearest") rfl)) F__law_nearest.kp (F__law_nearest.bindsN (ps := ["one", "other"]) fun _ _ _ _ _ _ us hl => match us, hl with | [_, _], _ => rfl)
  have D__law_rounds : Def P w K mg base 11 "_law_rounds" ["places", "reaches", "row"] d__law_rounds := def_ok (ok__law_rounds F__law_rounds D_pairs_near D_swing_meets D_clear_all D_in_channel D__law_like D__law_square b_int b_len b_range b_tuple) (He.glo_ok X G (c.fact 35 (f := .glo "_law_rounds") rfl)) F__law_rounds.kp (F__law_rounds.bindsN (ps := ["places", "reaches", "row"]) fun _ _ _ _ _ _ us hl => match us, hl with | [_, _, _], _ => rfl)
  have D__law_anchored : Def P w K mg base 2 "_law_anchored" ["places", "reaches", "chosen"] d__law_anchored := def_ok (ok__law_anchored F__law_anchored D__law_tuples D__law_square b_len b_range b_set b_sorted) (He.glo_ok X G (c.fact 36 (f := .glo "_law_anchored") rfl)) F__law_anchored.kp (F__law_anchored.bindsN (ps := ["places", "reaches", "chosen"]) fun _ _ _ _ _ _ us hl => match us, hl with | [_, _, _], _ => rfl)
  have D__law_anchors : Def P w K mg base 11 "_law_anchors" ["places", "reaches"] d__law_anchors := def_ok (ok__law_anchors F__law_anchors D_anchors_least D_most_anchored D__law_like D__law_sets D__law_anchored b_len b_min b_range b_tuple) (He.glo_ok X G (c.fact 37 (f := .glo "_law_anchors") rfl)) F__law_anchors.kp (F__law_anchors.bindsN (ps := ["places", "reaches"]) fun _ _ _ _ _ _ us hl => match us, hl with | [_, _], _ => rfl)
  have D__law_courses : Def P w K mg base 11 "_law_courses" ["ships", "row"] d__law_courses := def_ok (ok__law_courses F__law_courses D_place_at D_nearest_hour D_nearest_square D_they_meet D_first_within D_pairs_near D__law_like D__law_ratio D__law_off D__law_nearest b_int b_len b_range b_tuple) (He.glo_ok X G (c.fact 38 (f := .glo "_law_courses") rfl)) F__law_courses.kp (F__law_courses.bindsN (ps := ["ships", "row"]) fun _ _ _ _ _ _ us hl => match us, hl with | [_, _], _ => rfl)
  have D__law_seen : Def P w K mg base 11 "_law_seen" ["ships", "row"] d__law_seen := def_ok (ok__law_seen F__law_seen D_hose_reach D_reach_needed D_nearest_square D_course_to D__law_like D__law_nearest b_abs b_int b_range b_tuple) (He.glo_ok X G (c.fact 39 (f := .glo "_law_seen") rfl)) F__law_seen.kp (F__law_seen.bindsN (ps := ["ships", "row"]) fun _ _ _ _ _ _ us hl => match us, hl with | [_, _], _ => rfl)
  exact ok_law F_law D__law_row D__law_rounds D__law_anchors D__law_courses D__law_seen b_int b_range b_tuple
/-- THE LAW from its plain function -/
theorem holds_of (hF : ∀ ns : List Int, ns.length ≤ 63 → d_law [scr (ns.map PyData.int)] = some (.bool true)) : PySem.Challenge.rw_dockheld_k25_whole_rounds_courses.Holds := by
  w_on; o_law
  refine HandSHeadRun.head_any (r := PySem.W.OpenLaw.row PySem.Challenge.rw_dockheld_k25_whole_rounds_courses) (q := PySem.W.view (PySem.W.OpenLaw.row PySem.Challenge.rw_dockheld_k25_whole_rounds_courses).prog [45]) (H := hk) (ob := ob) (M := 20000) (loose := loo) (d := HandSHeadRun.topDef (PySem.W.OpenLaw.row PySem.Challenge.rw_dockheld_k25_whole_rounds_courses).prog 45) (kwd := []) ob_eq
    (by kernel_rfl) (fun s => by kernel_rfl) run (by kernel_rfl) (by kernel_rfl) (by kernel_rfl) (by rfl) (by first | assumption | decide +kernel) (by decide +kernel) ⟨rfl, rfl, rfl, rfl, rfl, by decide +kernel⟩ ?hw ?hc
  case hw => w_witness2
  case hc =>
    refine L2.walk_ofE (l := PySem.Challenge.rw_dockheld_k25_whole_rounds_courses) (n := 63) (k := 12) (x := "script") (CX := L2.CX0) rfl (by decide) (by kernel_rfl) ⟨rfl, by decide, by decide⟩ ?F (fun _ _ _ _ z => z)
    intro w mg fa h Y G hmg0
    obtain ⟨K, KX, c⟩ := Y
    have hmg : mg ("law" : PySem.Str) = some (.ref fa) := by
      have e : (HandSHeadRun.topDef (PySem.W.OpenLaw.row PySem.Challenge.rw_dockheld_k25_whole_rounds_courses).prog 45).name = ("law" : PySem.Str) := by kernel_rfl
      rw [← e]
      exact hmg0
    obtain ⟨fd, hb, hF2⟩ := facts (P := (PySem.Challenge.rw_dockheld_k25_whole_rounds_courses).prog) (w := w) KX G hmg c
    exact ⟨K, fd, spD K 1 d_law, KX, hb, sp_law hF, hF2⟩
end K25

namespace K25
open PySem PySem.Spec PyProof.Rows L2 Pm
theorem divisor_loop : ∀ (N y : Nat), y < N → ∀ x : Nat, whileF (tOf (xBin oGt (xVar 1) (xC (.int 0)))) (sSeq (sPar [0, 1] (xCons (xVar 1) (xCons (xBin oMod (xVar 0) (xVar 1)) xNil))) sNop) N [some (.int x), some (.int y)] = some (.nx [some (.int (Nat.gcd x y : Nat)), some (.int 0)]) := by
  intro N
  induction N with
  | zero => intro y h; omega
  | succ N ih =>
    intro y hy x
    rw [whileF_succ]
    by_cases h0 : y = 0
    · subst h0
      simp [tOf, xBin, xVar, xC, oGt, dB]
    · have hp : 0 < y := by omega
      have e : ((x : Int).fmod (y : Int)) = ((x % y : Nat) : Int) := by
        rw [Int.fmod_eq_emod_of_nonneg _ (by omega)]
        rfl
      have hlt : x % y < y := Nat.mod_lt _ hp
      simp [tOf, xBin, xVar, xC, oGt, dB, hp, sSeq, sPar, xCons, xNil, oMod, h0, setAll, sNop, e]
      rw [← Int.natCast_emod, ih (x % y) (by omega) y, Nat.gcd_comm y, ← Nat.gcd_rec, Nat.gcd_comm]
theorem abs_eq (a : Int) : (if a < 0 then -a else a) = (a.natAbs : Int) := by split <;> omega
theorem Sm.fuel {b : Int} (hb : Sm 1999 b) : b.natAbs < fuelN := Nat.lt_of_le_of_lt hb (Nat.pow_lt_pow_right (by decide) (by decide))
theorem divisor_eq (a b : Int) (hb : Sm 1999 b) : d_divisor [.int a, .int b] = some (.int (Int.gcd a b : Nat)) := by
  have := divisor_loop fuelN b.natAbs (Sm.fuel hb) a.natAbs
  simp -implicitDefEqProofs only [d_divisor, g_divisor, xVar_a, xC_a, xBin_a, xUn_a, tOf_a, tTru_a, tNotP_a, tAndP_a, tOrP_a, tyes_a, tno_a, tYesP_a, xNil_a, xCons_a, xTup_a, xLst_a, xAnd_a, xOr_a, xIf_a, xChain_a, oNo_a, oAt_a, xSl_a, xCall_a, xSeq_a, xIt_a, xLc_a, gSet_a, gTupD_a, gsNil_a, gsCons_a, sNop_a, sBrk_a, sCnt_a, sSeq_a, sRet_a, sIf_a, sSet_a, sTgt_a, sAug_a, sApp_a, sExt_a, sPut_a, sPutK_a, pkO_s, sFor_a, sWhile_a, sPar_a, runD_a, b2_s, c2_s, sqO_nx, sqO_rt, sqO_bk, sqO_ct, ifO_t, ifO_f, stO_s, endO_nx, endO_rt, andO_t, andO_f, orO_t, orO_f, chO_s, chP_t, chP_f, slO_s, atO_i, lcO_s, forO_s, gsO_s, nxO_s, tgO_s, paO_s, apO_s, exO_s, plO_s, ptO_s, dB_b, tru_b, tru_n, tru_i, tru_l, tru_t, is_n, isn_n, nn_n, nn_i, nn_b, nn_t, nn_l, add_ii, add'_ii, sub_ii, neg_i, lt_ii, le_ii, gt_ii, ge_ii, ix_l, ix_t, ix_s, at0, at1, at2, sl_l, sl_t, len_l, len_t, len_s, abs_i, int_i, int_b, max_ii, min_ii, tup_s, lst_s, seq_l, seq_t, sum_s, wipe_n, wipe_c, mul_ii, fdiv_ii, mod_ii, add_ll, add_tt, setAll, mkT, mkL, oNot, List.getD_cons_zero, List.getD_cons_succ, List.length_cons, List.length_nil, List.set_cons_zero, List.set_cons_succ, List.map_cons, List.map_nil, List.replicate, List.cons_append, List.nil_append, List.append_nil, Option.bind_some, Option.map_some, List.all_cons, List.all_nil, if_true, if_false, reduceIte, Nat.reduceAdd, Nat.reduceSub, Nat.reduceLT, Nat.reduceLeDiff, Nat.reduceEqDiff, decide_true, decide_false, Bool.and_true, Bool.and_self, Bool.true_and, Bool.not_true, Bool.not_false, ne_eq, not_true_eq_false, not_false_eq_true, Nat.zero_add, Bool.false_eq_true, and_self, true_and, and_true, abs_eq, l1_divisor, this, Int.gcd]
theorem lowest_eq (a b : Int) (h0 : 0 < b) (hb : Sm 1999 b) : d_lowest [.int a, .int b] = some (fr a b) := by
  have hg := gcd_pos_of (p := a) h0
  have hs : Sm 1999 (Int.gcd a b : Int) := by
    show (Int.gcd a b : Int).natAbs ≤ 2 ^ 1999
    have : Int.gcd a b ≤ b.natAbs := Int.gcd_le_natAbs_right a (by omega)
    simpa using Nat.le_trans this hb
  have hd := hs.divOk (by omega) (by omega)
  have f1 : a.fdiv (Int.gcd a b : Int) = a / (Int.gcd a b : Int) := Int.fdiv_eq_ediv_of_nonneg _ (by omega)
  have f2 : b.fdiv (Int.gcd a b : Int) = b / (Int.gcd a b : Int) := Int.fdiv_eq_ediv_of_nonneg _ (by omega)
  simp [d_lowest, runD, g_lowest, sSeq, sSet, xIf, tOf, xBin, xVar, xC, oGt, dB, h0, xCall, xCons, xNil, divisor_eq a b hb, sRet, xTup, oFdiv, hd, f1, f2, fr]
theorem ix0 (a b : D) : oIx (.tuple [a, b]) (.int 0) = some a := rfl
theorem ix1 (a b : D) : oIx (.tuple [a, b]) (.int 1) = some b := rfl
theorem plus_eq {p q r s : Int} (hq : 0 < q) (hs : 0 < s) (b1 : Sm 900 p) (b2 : Sm 900 q) (b3 : Sm 900 r) (b4 : Sm 900 s) : d_plus [fr p q, fr r s] = some (fr (p * s + r * q) (q * s)) := by
  obtain ⟨p', q', g, e1, rfl, rfl, hg, hq', n1, n2⟩ := fr_parts p hq
  obtain ⟨r', s', k, e2, rfl, rfl, hk, hs', n3, n4⟩ := fr_parts r hs
  have m1 := (b1.le n1).mulOk (b4.le n4) (by omega) (by omega)
  have m2 := (b3.le n3).mulOk (b2.le n2) (by omega) (by omega)
  have m3 := (b2.le n2).mulOk (b4.le n4) (by omega) (by omega)
  have hp : 0 < q' * s' := Int.mul_pos hq' hs'
  have hl := lowest_eq (p' * s' + r' * q') (q' * s') hp (((b2.le n2).mul (b4.le n4)).mono (by omega))
  have hf : fr (p' * g * (s' * k) + r' * k * (q' * g)) (q' * g * (s' * k)) = fr (p' * s' + r' * q') (q' * s') := by
    have a1 : p' * g * (s' * k) + r' * k * (q' * g) = (p' * s' + r' * q') * (g * k) := by grind
    have a2 : q' * g * (s' * k) = (q' * s') * (g * k) := by grind
    rw [a1, a2, fr_scale hp (Int.mul_pos hg hk)]
  rw [hf, e1, e2]
  simp [d_plus, runD, g_plus, sRet, xCall, xCons, xNil, xBin, xVar, xC, ix0, ix1, oMul', oMul, m1, m2, m3, oAdd, hl]
theorem minus_eq {p q r s : Int} (hq : 0 < q) (hs : 0 < s) (b1 : Sm 900 p) (b2 : Sm 900 q) (b3 : Sm 900 r) (b4 : Sm 900 s) : d_minus [fr p q, fr r s] = some (fr (p * s - r * q) (q * s)) := by
  obtain ⟨p', q', g, e1, rfl, rfl, hg, hq', n1, n2⟩ := fr_parts p hq
  obtain ⟨r', s', k, e2, rfl, rfl, hk, hs', n3, n4⟩ := fr_parts r hs
  have m1 := (b1.le n1).mulOk (b4.le n4) (by omega) (by omega)
  have m2 := (b3.le n3).mulOk (b2.le n2) (by omega) (by omega)
  have m3 := (b2.le n2).mulOk (b4.le n4) (by omega) (by omega)
  have hp : 0 < q' * s' := Int.mul_pos hq' hs'
  have hl := lowest_eq (p' * s' - r' * q') (q' * s') hp (((b2.le n2).mul (b4.le n4)).mono (by omega))
  have hf : fr (p' * g * (s' * k) - r' * k * (q' * g)) (q' * g * (s' * k)) = fr (p' * s' - r' * q') (q' * s') := by
    have a1 : p' * g * (s' * k) - r' * k * (q' * g) = (p' * s' - r' * q') * (g * k) := by grind
    have a2 : q' * g * (s' * k) = (q' * s') * (g * k) := by grind
    rw [a1, a2, fr_scale hp (Int.mul_pos hg hk)]
  rw [hf, e1, e2]
  simp [d_minus, runD, g_minus, sRet, xCall, xCons, xNil, xBin, xVar, xC, ix0, ix1, oMul', oMul, m1, m2, m3, oSub, hl]
theorem times_eq {p q r s : Int} (hq : 0 < q) (hs : 0 < s) (b1 : Sm 900 p) (b2 : Sm 900 q) (b3 : Sm 900 r) (b4 : Sm 900 s) : d_times [fr p q, fr r s] = some (fr (p * r) (q * s)) := by
  obtain ⟨p', q', g, e1, rfl, rfl, hg, hq', n1, n2⟩ := fr_parts p hq
  obtain ⟨r', s', k, e2, rfl, rfl, hk, hs', n3, n4⟩ := fr_parts r hs
  have m1 := (b1.le n1).mulOk (b3.le n3) (by omega) (by omega)
  have m3 := (b2.le n2).mulOk (b4.le n4) (by omega) (by omega)
  have hp : 0 < q' * s' := Int.mul_pos hq' hs'
  have hl := lowest_eq (p' * r') (q' * s') hp (((b2.le n2).mul (b4.le n4)).mono (by omega))
  have hf : fr (p' * g * (r' * k)) (q' * g * (s' * k)) = fr (p' * r') (q' * s') := by
    have a1 : p' * g * (r' * k) = (p' * r') * (g * k) := by grind
    have a2 : q' * g * (s' * k) = (q' * s') * (g * k) := by grind
    rw [a1, a2, fr_scale hp (Int.mul_pos hg hk)]
  rw [hf, e1, e2]
  simp [d_times, runD, g_times, sRet, xCall, xCons, xNil, xBin, xVar, xC, ix0, ix1, oMul', oMul, m1, m3, hl]
theorem is_less_eq {p q r s : Int} (hq : 0 < q) (hs : 0 < s) (b1 : Sm 900 p) (b2 : Sm 900 q) (b3 : Sm 900 r) (b4 : Sm 900 s) : d_is_less [fr p q, fr r s] = some (.bool (decide (p * s < r * q))) := by
  obtain ⟨p', q', g, e1, rfl, rfl, hg, hq', n1, n2⟩ := fr_parts p hq
  obtain ⟨r', s', k, e2, rfl, rfl, hk, hs', n3, n4⟩ := fr_parts r hs
  have m1 := (b1.le n1).mulOk (b4.le n4) (by omega) (by omega)
  have m2 := (b3.le n3).mulOk (b2.le n2) (by omega) (by omega)
  have hgk := Int.mul_pos hg hk
  have hf : decide (p' * g * (s' * k) < r' * k * (q' * g)) = decide (p' * s' < r' * q') := by
    have a1 : p' * g * (s' * k) = (p' * s') * (g * k) := by grind
    have a2 : r' * k * (q' * g) = (r' * q') * (g * k) := by grind
    rw [a1, a2]
    by_cases h : p' * s' < r' * q'
    · rw [decide_eq_true h, decide_eq_true (Int.mul_lt_mul_of_pos_right h hgk)]
    · rw [decide_eq_false h, decide_eq_false (Int.not_lt.mpr (Int.mul_le_mul_of_nonneg_right (Int.not_lt.mp h) (by omega)))]
  rw [hf, e1, e2]
  simp [d_is_less, runD, g_is_less, sRet, xCall, xCons, xNil, xBin, xVar, xC, ix0, ix1, oMul', oMul, m1, m2, oLt]
theorem fr_one (n : Int) : fr n 1 = .tuple [.int n, .int 1] := by simp [fr]
theorem whole_eq (n : Int) : d_whole [.int n] = some (fr n 1) := by
  rw [fr_one]
  rfl
end K25

namespace K25
open PySem PySem.Spec PyProof.Rows L2 Pm
theorem eq_int (i j : Int) : oEq (.int i) (.int j) = some (.bool (decide (i = j))) := by
  simp [oEq, shp, SeqAt.shaped, PyData.eqv, PyData.canLay0, PyData.depth]
  rfl
theorem ne_int (i j : Int) : oNe (.int i) (.int j) = some (.bool (!decide (i = j))) := by
  simp [oNe, shp, SeqAt.shaped, PyData.eqv, PyData.canLay0, PyData.depth]
  rfl
theorem k_isi1 : kitB "int" "bool" = some false := by kernel_rfl
theorem isi1 (i : Int) : oIsi "bool" (.int i) = some (.bool false) := by
  show (kitB "int" "bool").map PyData.bool = _
  rw [k_isi1]
  rfl
theorem k_isi2 : kitB "int" "tuple" = some false := by kernel_rfl
theorem isi2 (i : Int) : oIsi "tuple" (.int i) = some (.bool false) := by
  show (kitB "int" "tuple").map PyData.bool = _
  rw [k_isi2]
  rfl
theorem k_isi3 : kitB "int" "str" = some false := by kernel_rfl
theorem isi3 (i : Int) : oIsi "str" (.int i) = some (.bool false) := by
  show (kitB "int" "str").map PyData.bool = _
  rw [k_isi3]
  rfl
theorem k_isi0 : kitB "int" "int" = some true := by kernel_rfl
theorem isi0 (i : Int) : oIsi "int" (.int i) = some (.bool true) := by
  show (kitB "int" "int").map PyData.bool = _
  rw [k_isi0]
  rfl
theorem k_isb1 : kitB "bool" "bool" = some true := by kernel_rfl
theorem isb1 (i : Bool) : oIsi "bool" (.bool i) = some (.bool true) := by
  show (kitB "bool" "bool").map PyData.bool = _
  rw [k_isb1]
  rfl
theorem k_ist1 : kitB "tuple" "bool" = some false := by kernel_rfl
theorem ist1 (i : List D) : oIsi "bool" (.tuple i) = some (.bool false) := by
  show (kitB "tuple" "bool").map PyData.bool = _
  rw [k_ist1]
  rfl
theorem k_ist2 : kitB "tuple" "tuple" = some true := by kernel_rfl
theorem ist2 (i : List D) : oIsi "tuple" (.tuple i) = some (.bool true) := by
  show (kitB "tuple" "tuple").map PyData.bool = _
  rw [k_ist2]
  rfl
theorem asBools_rep (n : Nat) : asBools (List.replicate n (PyData.bool true)) = some (List.replicate n true) := by
  have := asBools_map (List.replicate n true)
  rwa [List.map_replicate] at this
theorem asBools_rng (n : Nat) : asBools ((List.range n).map fun _ => PyData.bool true) = some (List.replicate n true) := by
  rw [List.map_const', List.length_range, asBools_rep]
theorem is_int_int (i : Int) : d__law_is_int [.int i] = some (.bool true) := by
  simp [d__law_is_int, runD, g__law_is_int, sRet, xAnd, xUn, xVar, isi0, isi1, dB, oNot, oTru]
theorem like_none (n : Nat) : d__law_like (n + 1) [.none, .none] = some (.bool true) := by
  simp [d__law_like, runD, g__law_like, sSeq, sIf, tOf, xBin, xVar, xC, oIs, isNone, dB, sRet]
theorem like_bool (n : Nat) (b : Bool) : d__law_like (n + 1) [.bool b, .bool b] = some (.bool true) := by
  have e : oEq (.bool b) (.bool b) = some (.bool true) := by
    simp [oEq, shp, SeqAt.shaped, PyData.eqv, PyData.canLay0, PyData.depth]
  simp [d__law_like, runD, g__law_like, sSeq, sIf, tOf, xBin, xVar, xC, oIs, isNone, dB, tTru, xUn, isb1, oTru, sNop, sRet, xAnd, e]
theorem like_int (n : Nat) (i : Int) : d__law_like (n + 1) [.int i, .int i] = some (.bool true) := by
  simp [d__law_like, runD, g__law_like, sSeq, sIf, tOf, xBin, xVar, xC, oIs, isNone, dB, tTru, xUn, isi1, isi2, isi3, oTru, sNop, sRet, xAnd, xCall, xCons, xNil, is_int_int, eq_int]
theorem like_tup (n : Nat) (xs : List D) (hl : xs.length ≤ 16777216) (h : ∀ x ∈ xs, d__law_like n [x, x] = some (.bool true)) : d__law_like (n + 1) [.tuple xs, .tuple xs] = some (.bool true) := by
  have hr := oR1_nat xs.length hl
  have hm : lcL (gSet 2) tYesP (xCall (fun ds => if ds.length = 2 then d__law_like n ds else none) (xCons (xBin oIx (xVar 0) (xVar 2)) (xCons (xBin oIx (xVar 1) (xVar 2)) xNil))) [some (.tuple xs), some (.tuple xs), none] ((List.range xs.length).map fun i => PyData.int (i : Nat)) = some ((List.range xs.length).map fun _ => PyData.bool true) := by
    refine lcL_map _ _ _ fun i hi => ?_
    have hi' : i < xs.length := by simpa using hi
    simp [gSet, xCall, xCons, xNil, xBin, xVar, oIx, atI_nat xs i hi', h]
  simp [d__law_like, runD, g__law_like, sSeq, sIf, tOf, xBin, xVar, xC, oIs, isNone, dB, tTru, xUn, ist1, ist2, oTru, sNop, sRet, xCall, xCons, xNil, tOrP, tNotP, bLen, ne_int, xLc, xIt, hr, wipeP, hm, bAll, seqD, asBools_rng]
theorem like_fr (n : Nat) (p q : Int) : d__law_like (n + 2) [fr p q, fr p q] = some (.bool true) := by
  refine like_tup _ _ (by simp) fun x hx => ?_
  simp at hx
  rcases hx with rfl | rfl <;> exact like_int _ _
end K25

namespace K25
open PySem PySem.Spec PyProof.Rows L2 Pm
theorem common_loop : ∀ (N y : Nat), y < N → ∀ x : Nat, whileF (tOf (xBin oGt (xVar 1) (xC (.int 0)))) (sSeq (sPar [0, 1] (xCons (xVar 1) (xCons (xBin oMod (xCall bInt (xCons (xVar 0) xNil)) (xVar 1)) xNil))) sNop) N [some (.int x), some (.int y)] = some (.nx [some (.int (Nat.gcd x y : Nat)), some (.int 0)]) := by
  intro N
  induction N with
  | zero => intro y h; omega
  | succ N ih =>
    intro y hy x
    rw [whileF_succ]
    by_cases h0 : y = 0
    · subst h0
      simp [tOf, xBin, xVar, xC, oGt, dB]
    · have hp : 0 < y := by omega
      have e : ((x : Int).fmod (y : Int)) = ((x % y : Nat) : Int) := by
        rw [Int.fmod_eq_emod_of_nonneg _ (by omega)]
        rfl
      have hlt : x % y < y := Nat.mod_lt _ hp
      simp [tOf, xBin, xVar, xC, oGt, dB, hp, sSeq, sPar, xCons, xNil, xCall, bInt, oMod, h0, setAll, sNop, e]
      rw [← Int.natCast_emod, ih (x % y) (by omega) y, Nat.gcd_comm y, ← Nat.gcd_rec, Nat.gcd_comm]
theorem common_eq (a b : Int) (hb : Sm 1999 b) : d__law_common [.int a, .int b] = some (.int (Int.gcd a b : Nat)) := by
  have := common_loop fuelN b.natAbs (Sm.fuel hb) a.natAbs
  simp -implicitDefEqProofs only [d__law_common, g__law_common, xVar_a, xC_a, xBin_a, xUn_a, tOf_a, tTru_a, tNotP_a, tAndP_a, tOrP_a, tyes_a, tno_a, tYesP_a, xNil_a, xCons_a, xTup_a, xLst_a, xAnd_a, xOr_a, xIf_a, xChain_a, oNo_a, oAt_a, xSl_a, xCall_a, xSeq_a, xIt_a, xLc_a, gSet_a, gTupD_a, gsNil_a, gsCons_a, sNop_a, sBrk_a, sCnt_a, sSeq_a, sRet_a, sIf_a, sSet_a, sTgt_a, sAug_a, sApp_a, sExt_a, sPut_a, sPutK_a, pkO_s, sFor_a, sWhile_a, sPar_a, runD_a, b2_s, c2_s, sqO_nx, sqO_rt, sqO_bk, sqO_ct, ifO_t, ifO_f, stO_s, endO_nx, endO_rt, andO_t, andO_f, orO_t, orO_f, chO_s, chP_t, chP_f, slO_s, atO_i, lcO_s, forO_s, gsO_s, nxO_s, tgO_s, paO_s, apO_s, exO_s, plO_s, ptO_s, dB_b, tru_b, tru_n, tru_i, tru_l, tru_t, is_n, isn_n, nn_n, nn_i, nn_b, nn_t, nn_l, add_ii, add'_ii, sub_ii, neg_i, lt_ii, le_ii, gt_ii, ge_ii, ix_l, ix_t, ix_s, at0, at1, at2, sl_l, sl_t, len_l, len_t, len_s, abs_i, int_i, int_b, max_ii, min_ii, tup_s, lst_s, seq_l, seq_t, sum_s, wipe_n, wipe_c, mul_ii, fdiv_ii, mod_ii, add_ll, add_tt, setAll, mkT, mkL, oNot, List.getD_cons_zero, List.getD_cons_succ, List.length_cons, List.length_nil, List.set_cons_zero, List.set_cons_succ, List.map_cons, List.map_nil, List.replicate, List.cons_append, List.nil_append, List.append_nil, Option.bind_some, Option.map_some, List.all_cons, List.all_nil, if_true, if_false, reduceIte, Nat.reduceAdd, Nat.reduceSub, Nat.reduceLT, Nat.reduceLeDiff, Nat.reduceEqDiff, decide_true, decide_false, Bool.and_true, Bool.and_self, Bool.true_and, Bool.not_true, Bool.not_false, ne_eq, not_true_eq_false, not_false_eq_true, Nat.zero_add, Bool.false_eq_true, and_self, true_and, and_true, abs_eq, l1__law_common, this, Int.gcd]
theorem ratio_eq (a b : Int) (h0 : 0 < b) (hb : Sm 1999 b) : d__law_ratio [.int a, .int b] = some (fr a b) := by
  have hg := gcd_pos_of (p := a) h0
  have hs : Sm 1999 (Int.gcd a b : Int) := by
    show (Int.gcd a b : Int).natAbs ≤ 2 ^ 1999
    have : Int.gcd a b ≤ b.natAbs := Int.gcd_le_natAbs_right a (by omega)
    simpa using Nat.le_trans this hb
  have hd := hs.divOk (by omega) (by omega)
  have f1 : a.fdiv (Int.gcd a b : Int) = a / (Int.gcd a b : Int) := Int.fdiv_eq_ediv_of_nonneg _ (by omega)
  have f2 : b.fdiv (Int.gcd a b : Int) = b / (Int.gcd a b : Int) := Int.fdiv_eq_ediv_of_nonneg _ (by omega)
  have hn : ¬ b < 0 := by omega
  simp [d__law_ratio, runD, g__law_ratio, sSeq, sSet, sIf, tOf, xBin, xVar, xC, oLt, dB, hn, xCall, xCons, xNil, common_eq a b hb, sRet, xTup, oFdiv, hd, f1, f2, fr, sNop]
end K25

namespace K25
open PySem PySem.Spec PyProof.Rows L2 Pm
/-! ratios as rational numbers -/
def rd (x : Rat) : D := .tuple [.int x.num, .int x.den]
theorem fr_rd (p : Int) {q : Int} (hq : 0 < q) : fr p q = rd ((p : Rat) / (q : Rat)) := by
  unfold fr rd
  rw [← Rat.divInt_eq_div, Rat.num_divInt, Rat.den_divInt, if_neg (by omega), Int.sign_eq_one_of_pos hq, Int.one_mul, Int.gcd_comm q p]
  have : (((q.natAbs / Int.gcd p q : Nat)) : Int) = q / (Int.gcd p q : Int) := by
    rw [Int.natCast_ediv, Int.natAbs_of_nonneg (by omega)]
  rw [this]
theorem rat_eq (x : Rat) : x = (x.num : Rat) / ((x.den : Int) : Rat) := by
  have := Rat.num_divInt_den x
  rw [Rat.divInt_eq_div] at this
  exact this.symm
theorem den_pos (x : Rat) : (0 : Int) < (x.den : Int) := by
  have := x.den_pos
  omega
theorem rd_fr (x : Rat) : rd x = fr x.num x.den := by
  rw [fr_rd _ (den_pos x), ← rat_eq]
theorem rd_int (n : Int) : rd (n : Rat) = .tuple [.int n, .int 1] := rfl
/-- small ratios -/
def SR (k : Nat) (x : Rat) : Prop := Sm k x.num ∧ Sm k (x.den : Int)
theorem SR.mono {j k : Nat} {x : Rat} (h : SR j x) (hk : j ≤ k) : SR k x := ⟨h.1.mono hk, h.2.mono hk⟩
theorem SR.div {k : Nat} {p q : Int} (hp : Sm k p) (hq : Sm k q) (h0 : 0 < q) : SR k ((p : Rat) / (q : Rat)) := by
  obtain ⟨p', q', g, e, rfl, rfl, hg, hq', n1, n2⟩ := fr_parts p h0
  rw [fr_rd _ h0] at e
  unfold rd at e
  injection e with e
  injection e with e1 e2
  injection e2 with e2 e3
  injection e1 with e1
  injection e2 with e2
  refine ⟨?_, ?_⟩
  · rw [e1]
    exact hp.le n1
  · rw [e2]
    exact hq.le n2
theorem SR.int {k : Nat} {p : Int} (hp : Sm k p) : SR k (p : Rat) := by
  refine ⟨hp, ?_⟩
  show (1 : Int).natAbs ≤ 2 ^ k
  exact Nat.one_le_two_pow
theorem cast_pos {n : Int} (h : 0 < n) : (0 : Rat) < (n : Rat) := Rat.intCast_pos.mpr h
theorem rdiv_lt {a b c d : Rat} (hb : 0 < b) (hd : 0 < d) : a / b < c / d ↔ a * d < c * b := by
  rw [Rat.div_lt_iff hb]
  have : c / d * b = (c * b) / d := by grind
  rw [this, Rat.lt_div_iff hd]
theorem rdiv_add {a b c d : Rat} (hb : 0 < b) (hd : 0 < d) : a / b + c / d = (a * d + c * b) / (b * d) := by
  have h1: b ≠ 0 := by grind
  have h2 : d ≠ 0 := by grind
  grind
theorem rdiv_sub {a b c d : Rat} (hb : 0 < b) (hd : 0 < d) : a / b - c / d = (a * d - c * b) / (b * d) := by
  have h1: b ≠ 0 := by grind
  have h2 : d ≠ 0 := by grind
  grind
theorem rdiv_mul {a b c d : Rat} (hb : 0 < b) (hd : 0 < d) : a / b * (c / d) = (a * c) / (b * d) := by
  have h1: b ≠ 0 := by grind
  have h2 : d ≠ 0 := by grind
  grind
theorem rdiv_eq {a b c d : Rat} (hb : 0 < b) (hd : 0 < d) : a / b = c / d ↔ a * d = c * b := by
  have h1: b ≠ 0 := by grind
  have h2 : d ≠ 0 := by grind
  constructor
  · intro h
    have : a = c / d * b := by rw [← h]; grind
    grind
  · intro h
    grind
section
variable {p q r s : Int}
theorem qadd (hq : 0 < q) (hs : 0 < s) : (p : Rat) / q + (r : Rat) / s = ((p * s + r * q : Int) : Rat) / ((q * s : Int) : Rat) := by
  rw [rdiv_add (cast_pos hq) (cast_pos hs)]
  simp
theorem qsub (hq : 0 < q) (hs : 0 < s) : (p : Rat) / q - (r : Rat) / s = ((p * s - r * q : Int) : Rat) / ((q * s : Int) : Rat) := by
  rw [rdiv_sub (cast_pos hq) (cast_pos hs)]
  simp
theorem qmul (hq : 0 < q) (hs : 0 < s) : (p : Rat) / q * ((r : Rat) / s) = ((p * r : Int) : Rat) / ((q * s : Int) : Rat) := by
  rw [rdiv_mul (cast_pos hq) (cast_pos hs)]
  simp
theorem qlt (hq : 0 < q) (hs : 0 < s) : (p : Rat) / q < (r : Rat) / s ↔ p * s < r * q := by
  rw [rdiv_lt (cast_pos hq) (cast_pos hs)]
  exact_mod_cast Iff.rfl
theorem qeq (hq : 0 < q) (hs : 0 < s) : (p : Rat) / q = (r : Rat) / s ↔ p * s = r * q := by
  rw [rdiv_eq (cast_pos hq) (cast_pos hs)]
  exact_mod_cast Iff.rfl
end
theorem SR.add {i j : Nat} {x y : Rat} (hx : SR i x) (hy : SR j y) : SR (i + j + 1) (x + y) := by
  rw [rat_eq x, rat_eq y, qadd (den_pos x) (den_pos y)]
  exact SR.div (((hx.1.mul hy.2).mono (k := i + j) (by omega)).add ((hy.1.mul hx.2).mono (k := i + j) (by omega))) ((hx.2.mul hy.2).mono (by omega)) (Int.mul_pos (den_pos x) (den_pos y))
theorem SR.sub {i j : Nat} {x y : Rat} (hx : SR i x) (hy : SR j y) : SR (i + j + 1) (x - y) := by
  rw [rat_eq x, rat_eq y, qsub (den_pos x) (den_pos y)]
  exact SR.div (((hx.1.mul hy.2).mono (k := i + j) (by omega)).sub ((hy.1.mul hx.2).mono (k := i + j) (by omega))) ((hx.2.mul hy.2).mono (by omega)) (Int.mul_pos (den_pos x) (den_pos y))
theorem SR.mul {i j : Nat} {x y : Rat} (hx : SR i x) (hy : SR j y) : SR (i + j) (x * y) := by
  rw [rat_eq x, rat_eq y, qmul (den_pos x) (den_pos y)]
  exact SR.div ((hx.1.mul hy.1).mono (by omega)) ((hx.2.mul hy.2).mono (by omega)) (Int.mul_pos (den_pos x) (den_pos y))
theorem lowest_rd (a b : Int) (h0 : 0 < b) (hb : Sm 1999 b) : d_lowest [.int a, .int b] = some (rd ((a : Rat) / (b : Rat))) := by
  rw [lowest_eq a b h0 hb, fr_rd a h0]
theorem ratio_rd (a b : Int) (h0 : 0 < b) (hb : Sm 1999 b) : d__law_ratio [.int a, .int b] = some (rd ((a : Rat) / (b : Rat))) := by
  rw [ratio_eq a b h0 hb, fr_rd a h0]
theorem plus_rd {x y : Rat} (hx : SR 900 x) (hy : SR 900 y) : d_plus [rd x, rd y] = some (rd (x + y)) := by
  rw [rd_fr x, rd_fr y, plus_eq (den_pos x) (den_pos y) hx.1 hx.2 hy.1 hy.2, fr_rd _ (Int.mul_pos (den_pos x) (den_pos y)), ← qadd (den_pos x) (den_pos y), ← rat_eq, ← rat_eq]
theorem minus_rd {x y : Rat} (hx : SR 900 x) (hy : SR 900 y) : d_minus [rd x, rd y] = some (rd (x - y)) := by
  rw [rd_fr x, rd_fr y, minus_eq (den_pos x) (den_pos y) hx.1 hx.2 hy.1 hy.2, fr_rd _ (Int.mul_pos (den_pos x) (den_pos y)), ← qsub (den_pos x) (den_pos y), ← rat_eq, ← rat_eq]
theorem times_rd {x y : Rat} (hx : SR 900 x) (hy : SR 900 y) : d_times [rd x, rd y] = some (rd (x * y)) := by
  rw [rd_fr x, rd_fr y, times_eq (den_pos x) (den_pos y) hx.1 hx.2 hy.1 hy.2, fr_rd _ (Int.mul_pos (den_pos x) (den_pos y)), ← qmul (den_pos x) (den_pos y), ← rat_eq, ← rat_eq]
theorem is_less_rd {x y : Rat} (hx : SR 900 x) (hy : SR 900 y) : d_is_less [rd x, rd y] = some (.bool (decide (x < y))) := by
  rw [rd_fr x, rd_fr y, is_less_eq (den_pos x) (den_pos y) hx.1 hx.2 hy.1 hy.2]
  have := Rat.lt_iff x y
  rw [decide_eq_decide.mpr this]
theorem whole_rd (n : Int) : d_whole [.int n] = some (rd (n : Rat)) := rfl
theorem like_rd (n : Nat) (x : Rat) : d__law_like (n + 2) [rd x, rd x] = some (.bool true) := by
  rw [rd_fr]
  exact like_fr _ _ _
theorem flat_rd (x : Rat) : flat (rd x) = true := rfl
theorem rd_0 (x : Rat) : oIx (rd x) (.int 0) = some (.int x.num) := rfl
theorem rd_1 (x : Rat) : oIx (rd x) (.int 1) = some (.int x.den) := rfl
/-- a ratio or none -/
def od : Option Rat → D
  | none => .none
  | some x => rd x
def omax : Option Rat → Rat → Option Rat
  | none, y => some y
  | some x, y => some (if x < y then y else x)
def omin : Option Rat → Rat → Option Rat
  | none, y => some y
  | some x, y => some (if y < x then y else x)
theorem nn_rd (x : Rat) : isNone (rd x) = false := rfl
end K25

namespace K25
open PySem PySem.Spec PyProof.Rows L2 Pm
theorem row_at (r : List Int) (i : Nat) (h : i < r.length) : atI (r.map PyData.int) (i : Int) = some (.int (r.getD i 0)) := by
  rw [atI_nat _ i (by simpa using h)]
  simp [h]
theorem fmod_rng (x : Int) {m : Int} (hm : 0 < m) : 0 ≤ x.fmod m ∧ x.fmod m < m := ⟨Int.fmod_nonneg_of_pos _ hm, Int.fmod_lt_of_pos _ hm⟩
theorem fmod_nat (x : Int) {m : Int} (hm : 0 < m) : ∃ k : Nat, x.fmod m = (k : Int) ∧ (k : Int) < m := by
  obtain ⟨h1, h2⟩ := fmod_rng x hm
  obtain ⟨k, hk⟩ := Int.eq_ofNat_of_zero_le h1
  exact ⟨k, hk, by omega⟩
theorem rg0 (n : Nat) (h : n ≤ 1000) : oR1 [.int (n : Int)] = some ((List.range n).map fun k : Nat => PyData.int (k : Nat)) := oR1_nat n (by omega)
def biL (O : List Int) : List Int := (List.range (O.length - 2)).map fun k => O.getD k 0 + O.getD (k + 2) 0 - 2 * O.getD (k + 1) 0
theorem bMaxI_l {B : List Int} {m : Int} (h : B.max? = some m) : bMaxI [.list (B.map PyData.int)] = some (.int m) := by
  unfold bMaxI
  simp only [seq_l, Option.bind_some, asInts_map, h, Option.map_some]
theorem bMinI_l {B : List Int} {m : Int} (h : B.min? = some m) : bMinI [.list (B.map PyData.int)] = some (.int m) := by
  unfold bMinI
  simp only [seq_l, Option.bind_some, asInts_map, h, Option.map_some]
theorem lay_ints : ∀ l : List Int, PyData.canLayAll0 (l.map PyData.int) = true
  | [] => rfl
  | a :: l => by
    simp only [List.map_cons, PyData.canLayAll0, PyData.canLay0, Bool.true_and]
    exact lay_ints l
theorem any_ints (p : Int) : ∀ l : List Int, ((l.map PyData.int).any fun z => PyData.eqv z (.int p)) = l.contains p
  | [] => rfl
  | a :: l => by
    rw [List.map_cons, List.any_cons, any_ints p l, List.contains_cons]
    have e : PyData.eqv (.int a) (.int p) = (p == a) := by
      have e1 : PyData.eqv (.int a) (.int p) = (a == p) := by rw [PyData.eqv]
      rw [e1]
      exact BEq.comm
    rw [e]
theorem shp_int (p : Int) : shp (.int p) = true := by simp [shp, SeqAt.shaped, PyData.canLay0, PyData.depth]
theorem notin_ints (p : Int) (l : List Int) : oNotIn (.int p) (.list (l.map PyData.int)) = some (.bool (!l.contains p)) := by
  show (if (shp (.int p) && PyData.canLayAll0 (l.map PyData.int)) = true then some (PyData.bool (!(l.map PyData.int).any fun z => PyData.eqv z (.int p))) else none) = _
  rw [shp_int, lay_ints, any_ints]
  rfl
theorem in_ints (p : Int) (l : List Int) : oIn (.int p) (.list (l.map PyData.int)) = some (.bool (l.contains p)) := by
  show (if (shp (.int p) && PyData.canLayAll0 (l.map PyData.int)) = true then some (PyData.bool ((l.map PyData.int).any fun z => PyData.eqv z (.int p))) else none) = _
  rw [shp_int, lay_ints, any_ints]
  rfl
theorem mulOk_r (a : Int) {b : Int} (h : b.natAbs < 2 ^ 63) : mulOk a b = true := by
  unfold mulOk
  rw [decide_eq_true h]
  simp
theorem mulOk_lt {a b m : Int} (h0 : 0 ≤ a) (h : a < m) (hm : m ≤ 2147483647) : mulOk a b = true := by
  unfold mulOk
  rw [decide_eq_true (show a.natAbs < 2 ^ 63 by omega)]
  simp
theorem divOk_lit {b : Int} (h : b ≠ 0) (h2 : Sm 20 b) : divOk b = true := h2.divOk h (by omega)
def mix1 (c k : Int) : Int := (c * 48271 + k * 69621 + 8191).fmod 2147483647
def mix2 (c k : Int) : Int := (mix1 c k * mix1 c k + (mix1 c k).fdiv 7 + k * 16807).fmod 2147483629
def mix3 (c k : Int) : Int := (mix2 c k * mix2 c k + (mix2 c k).fdiv 11 + 40692).fmod 2147483563
theorem mixed_int (ns : List Int) (k : Nat) : ∃ v : Int, d__law_mixed [scr (ns.map PyData.int), .int k] = some (.int v) := by
  obtain ⟨c, hc⟩ : ∃ c : Int, (if 0 < ns.length then oIx (scr (ns.map PyData.int)) (.int ((k : Int).fmod ns.length)) else some (.int 0)) = some (.int c) := by
    by_cases h : 0 < ns.length
    · have h1 := fmod_rng (k : Int) (m := (ns.length : Int)) (by omega)
      obtain ⟨j, hj⟩ := Int.eq_ofNat_of_zero_le h1.1
      rw [if_pos h, hj]
      have h2 := h1.2
      rw [hj] at h2
      exact ⟨_, row_at ns j (by omega)⟩
    · exact ⟨0, if_neg h⟩
  have m1 := mulOk_r c (b := 48271) (by decide)
  have m2 := mulOk_r (k : Int) (b := 69621) (by decide)
  have m3 := mulOk_r (k : Int) (b := 16807) (by decide)
  have n1 : (2147483647 : Int) ≠ 0 := by decide
  have n2 : (2147483629 : Int) ≠ 0 := by decide
  have n3 : (2147483563 : Int) ≠ 0 := by decide
  have n4 : (1000003 : Int) ≠ 0 := by decide
  have d1 := divOk_lit (b := 7) (by decide) Sm.lit
  have d2 := divOk_lit (b := 11) (by decide) Sm.lit
  have d3 := divOk_lit (b := 5) (by decide) Sm.lit
  have r1 := fmod_rng (c * 48271 + (k : Int) * 69621 + 8191) (m := 2147483647) (by decide)
  have m4 : ∀ x, mulOk ((c * 48271 + (k : Int) * 69621 + 8191).fmod 2147483647) x = true := fun x => mulOk_lt r1.1 r1.2 (by decide)
  have r2 := fun x : Int => fmod_rng x (m := 2147483629) (by decide)
  have m5 : ∀ x y : Int, mulOk (x.fmod 2147483629) y = true := fun x y => mulOk_lt (r2 x).1 (r2 x).2 (by decide)
  by_cases h : 0 < ns.length
  · have h' : (0 : Int) < (ns.length : Int) := by omega
    have hn : (ns.length : Int) ≠ 0 := by omega
    rw [if_pos h, ix_s] at hc
    refine ⟨((mix3 c k).fdiv 5).fmod 1000003, ?_⟩
    simp only [mix3, mix2, mix1]
    simp -implicitDefEqProofs only [d__law_mixed, g__law_mixed, xVar_a, xC_a, xBin_a, xUn_a, tOf_a, tTru_a, tNotP_a, tAndP_a, tOrP_a, tyes_a, tno_a, tYesP_a, xNil_a, xCons_a, xTup_a, xLst_a, xAnd_a, xOr_a, xIf_a, xChain_a, oNo_a, oAt_a, xSl_a, xCall_a, xSeq_a, xIt_a, xLc_a, gSet_a, gTupD_a, gsNil_a, gsCons_a, sNop_a, sBrk_a, sCnt_a, sSeq_a, sRet_a, sIf_a, sSet_a, sTgt_a, sAug_a, sApp_a, sExt_a, sPut_a, sPutK_a, pkO_s, sFor_a, sWhile_a, sPar_a, runD_a, b2_s, c2_s, sqO_nx, sqO_rt, sqO_bk, sqO_ct, ifO_t, ifO_f, stO_s, endO_nx, endO_rt, andO_t, andO_f, orO_t, orO_f, chO_s, chP_t, chP_f, slO_s, atO_i, lcO_s, forO_s, gsO_s, nxO_s, tgO_s, paO_s, apO_s, exO_s, plO_s, ptO_s, dB_b, tru_b, tru_n, tru_i, tru_l, tru_t, is_n, isn_n, nn_n, nn_i, nn_b, nn_t, nn_l, add_ii, add'_ii, sub_ii, neg_i, lt_ii, le_ii, gt_ii, ge_ii, ix_l, ix_t, ix_s, at0, at1, at2, sl_l, sl_t, len_l, len_t, len_s, abs_i, int_i, int_b, max_ii, min_ii, tup_s, lst_s, seq_l, seq_t, sum_s, wipe_n, wipe_c, mul_ii, fdiv_ii, mod_ii, add_ll, add_tt, setAll, mkT, mkL, oNot, List.getD_cons_zero, List.getD_cons_succ, List.length_cons, List.length_nil, List.set_cons_zero, List.set_cons_succ, List.map_cons, List.map_nil, List.replicate, List.cons_append, List.nil_append, List.append_nil, Option.bind_some, Option.map_some, List.all_cons, List.all_nil, if_true, if_false, reduceIte, Nat.reduceAdd, Nat.reduceSub, Nat.reduceLT, Nat.reduceLeDiff, Nat.reduceEqDiff, decide_true, decide_false, Bool.and_true, Bool.and_self, Bool.true_and, Bool.not_true, Bool.not_false, ne_eq, not_true_eq_false, not_false_eq_true, Nat.zero_add, Bool.false_eq_true, and_self, true_and, and_true, List.length_map, h', mod_ii hn, hc, m1, m2, m3, m4, m5, mod_ii n1, mod_ii n2, mod_ii n3, mod_ii n4, fdiv_ii d1, fdiv_ii d2, fdiv_ii d3]
  · have h' : ¬ (0 : Int) < (ns.length : Int) := by omega
    rw [if_neg h] at hc
    cases hc
    refine ⟨((mix3 0 k).fdiv 5).fmod 1000003, ?_⟩
    simp only [mix3, mix2, mix1]
    simp -implicitDefEqProofs only [d__law_mixed, g__law_mixed, xVar_a, xC_a, xBin_a, xUn_a, tOf_a, tTru_a, tNotP_a, tAndP_a, tOrP_a, tyes_a, tno_a, tYesP_a, xNil_a, xCons_a, xTup_a, xLst_a, xAnd_a, xOr_a, xIf_a, xChain_a, oNo_a, oAt_a, xSl_a, xCall_a, xSeq_a, xIt_a, xLc_a, gSet_a, gTupD_a, gsNil_a, gsCons_a, sNop_a, sBrk_a, sCnt_a, sSeq_a, sRet_a, sIf_a, sSet_a, sTgt_a, sAug_a, sApp_a, sExt_a, sPut_a, sPutK_a, pkO_s, sFor_a, sWhile_a, sPar_a, runD_a, b2_s, c2_s, sqO_nx, sqO_rt, sqO_bk, sqO_ct, ifO_t, ifO_f, stO_s, endO_nx, endO_rt, andO_t, andO_f, orO_t, orO_f, chO_s, chP_t, chP_f, slO_s, atO_i, lcO_s, forO_s, gsO_s, nxO_s, tgO_s, paO_s, apO_s, exO_s, plO_s, ptO_s, dB_b, tru_b, tru_n, tru_i, tru_l, tru_t, is_n, isn_n, nn_n, nn_i, nn_b, nn_t, nn_l, add_ii, add'_ii, sub_ii, neg_i, lt_ii, le_ii, gt_ii, ge_ii, ix_l, ix_t, ix_s, at0, at1, at2, sl_l, sl_t, len_l, len_t, len_s, abs_i, int_i, int_b, max_ii, min_ii, tup_s, lst_s, seq_l, seq_t, sum_s, wipe_n, wipe_c, mul_ii, fdiv_ii, mod_ii, add_ll, add_tt, setAll, mkT, mkL, oNot, List.getD_cons_zero, List.getD_cons_succ, List.length_cons, List.length_nil, List.set_cons_zero, List.set_cons_succ, List.map_cons, List.map_nil, List.replicate, List.cons_append, List.nil_append, List.append_nil, Option.bind_some, Option.map_some, List.all_cons, List.all_nil, if_true, if_false, reduceIte, Nat.reduceAdd, Nat.reduceSub, Nat.reduceLT, Nat.reduceLeDiff, Nat.reduceEqDiff, decide_true, decide_false, Bool.and_true, Bool.and_self, Bool.true_and, Bool.not_true, Bool.not_false, ne_eq, not_true_eq_false, not_false_eq_true, Nat.zero_add, Bool.false_eq_true, and_self, true_and, and_true, List.length_map, h', m1, m2, m3, m4, m5, mod_ii n1, mod_ii n2, mod_ii n3, mod_ii n4, fdiv_ii d1, fdiv_ii d2, fdiv_ii d3]
theorem row_int (ns : List Int) : ∃ r : List Int, r.length = 60 ∧ d__law_row [scr (ns.map PyData.int), .int 60] = some (.list (r.map PyData.int)) := by
  have hr : oR1 [.int 60] = some (List.map (fun i => PyData.int (i : Nat)) (List.range 60)) := oR1_nat 60 (by omega)
  have n1 : (1000 : Int) ≠ 0 := by decide
  have d1 := divOk_lit (b := 1000) (by decide) Sm.lit
  have key : ∀ big : Int, ∃ r : List Int, r.length = 60 ∧ ∃ x y, forL (gSet 4) l1__law_row (List.map (fun i => PyData.int (i : Nat)) (List.range 60)) [some (scr (ns.map PyData.int)), some (.int 60), some (.int big), some (.list []), none] = some (.nx [some (scr (ns.map PyData.int)), some (.int 60), x, some (.list (r.map PyData.int)), y]) := fun big => by
    obtain ⟨ρ', e, h⟩ := forL_inv (g := gSet 4) (b := l1__law_row) (fun i : Nat => PyData.int (i : Nat))
      (fun pre rest ρ => pre.length + rest.length = 60 ∧ ∃ (r : List Int) (big : Int) (j : Option D), r.length = pre.length ∧ ρ = [some (scr (ns.map PyData.int)), some (.int 60), some (.int big), some (.list (r.map PyData.int)), j]) (fun pre x rest ρ ⟨hl, r, big, j, hrl, e⟩ => by
        subst e
        have hx : (r.map PyData.int).length < 16777216 := by rw [List.length_map]; simp at hl; omega
        obtain ⟨v, hv⟩ := mixed_int ns x
        by_cases hb : 0 < big
        · refine ⟨_, [some (scr (ns.map PyData.int)), some (.int 60), some (.int (big.fdiv 1000)), some (.list ((r ++ [big.fmod 1000]).map PyData.int)), some (.int x)], rfl, .inl ?_, by simp at hl ⊢; omega, r ++ [big.fmod 1000], big.fdiv 1000, some (.int x), by simp; omega, rfl⟩
          simp -implicitDefEqProofs only [l1__law_row, xVar_a, xC_a, xBin_a, xUn_a, tOf_a, tTru_a, tNotP_a, tAndP_a, tOrP_a, tyes_a, tno_a, tYesP_a, xNil_a, xCons_a, xTup_a, xLst_a, xAnd_a, xOr_a, xIf_a, xChain_a, oNo_a, oAt_a, xSl_a, xCall_a, xSeq_a, xIt_a, xLc_a, gSet_a, gTupD_a, gsNil_a, gsCons_a, sNop_a, sBrk_a, sCnt_a, sSeq_a, sRet_a, sIf_a, sSet_a, sTgt_a, sAug_a, sApp_a, sExt_a, sPut_a, sPutK_a, pkO_s, sFor_a, sWhile_a, sPar_a, runD_a, b2_s, c2_s, sqO_nx, sqO_rt, sqO_bk, sqO_ct, ifO_t, ifO_f, stO_s, endO_nx, endO_rt, andO_t, andO_f, orO_t, orO_f, chO_s, chP_t, chP_f, slO_s, atO_i, lcO_s, forO_s, gsO_s, nxO_s, tgO_s, paO_s, apO_s, exO_s, plO_s, ptO_s, dB_b, tru_b, tru_n, tru_i, tru_l, tru_t, is_n, isn_n, nn_n, nn_i, nn_b, nn_t, nn_l, add_ii, add'_ii, sub_ii, neg_i, lt_ii, le_ii, gt_ii, ge_ii, ix_l, ix_t, ix_s, at0, at1, at2, sl_l, sl_t, len_l, len_t, len_s, abs_i, int_i, int_b, max_ii, min_ii, tup_s, lst_s, seq_l, seq_t, sum_s, wipe_n, wipe_c, mul_ii, fdiv_ii, mod_ii, add_ll, add_tt, setAll, mkT, mkL, oNot, List.getD_cons_zero, List.getD_cons_succ, List.length_cons, List.length_nil, List.set_cons_zero, List.set_cons_succ, List.map_cons, List.map_nil, List.replicate, List.cons_append, List.nil_append, List.append_nil, Option.bind_some, Option.map_some, List.all_cons, List.all_nil, if_true, if_false, reduceIte, Nat.reduceAdd, Nat.reduceSub, Nat.reduceLT, Nat.reduceLeDiff, Nat.reduceEqDiff, decide_true, decide_false, Bool.and_true, Bool.and_self, Bool.true_and, Bool.not_true, Bool.not_false, ne_eq, not_true_eq_false, not_false_eq_true, Nat.zero_add, Bool.false_eq_true, and_self, true_and, and_true, hb, mod_ii n1, fdiv_ii d1, hx, List.map_append]
        · refine ⟨_, [some (scr (ns.map PyData.int)), some (.int 60), some (.int big), some (.list ((r ++ [v]).map PyData.int)), some (.int x)], rfl, .inl ?_, by simp at hl ⊢; omega, r ++ [v], big, some (.int x), by simp; omega, rfl⟩
          simp -implicitDefEqProofs only [l1__law_row, xVar_a, xC_a, xBin_a, xUn_a, tOf_a, tTru_a, tNotP_a, tAndP_a, tOrP_a, tyes_a, tno_a, tYesP_a, xNil_a, xCons_a, xTup_a, xLst_a, xAnd_a, xOr_a, xIf_a, xChain_a, oNo_a, oAt_a, xSl_a, xCall_a, xSeq_a, xIt_a, xLc_a, gSet_a, gTupD_a, gsNil_a, gsCons_a, sNop_a, sBrk_a, sCnt_a, sSeq_a, sRet_a, sIf_a, sSet_a, sTgt_a, sAug_a, sApp_a, sExt_a, sPut_a, sPutK_a, pkO_s, sFor_a, sWhile_a, sPar_a, runD_a, b2_s, c2_s, sqO_nx, sqO_rt, sqO_bk, sqO_ct, ifO_t, ifO_f, stO_s, endO_nx, endO_rt, andO_t, andO_f, orO_t, orO_f, chO_s, chP_t, chP_f, slO_s, atO_i, lcO_s, forO_s, gsO_s, nxO_s, tgO_s, paO_s, apO_s, exO_s, plO_s, ptO_s, dB_b, tru_b, tru_n, tru_i, tru_l, tru_t, is_n, isn_n, nn_n, nn_i, nn_b, nn_t, nn_l, add_ii, add'_ii, sub_ii, neg_i, lt_ii, le_ii, gt_ii, ge_ii, ix_l, ix_t, ix_s, at0, at1, at2, sl_l, sl_t, len_l, len_t, len_s, abs_i, int_i, int_b, max_ii, min_ii, tup_s, lst_s, seq_l, seq_t, sum_s, wipe_n, wipe_c, mul_ii, fdiv_ii, mod_ii, add_ll, add_tt, setAll, mkT, mkL, oNot, List.getD_cons_zero, List.getD_cons_succ, List.length_cons, List.length_nil, List.set_cons_zero, List.set_cons_succ, List.map_cons, List.map_nil, List.replicate, List.cons_append, List.nil_append, List.append_nil, Option.bind_some, Option.map_some, List.all_cons, List.all_nil, if_true, if_false, reduceIte, Nat.reduceAdd, Nat.reduceSub, Nat.reduceLT, Nat.reduceLeDiff, Nat.reduceEqDiff, decide_true, decide_false, Bool.and_true, Bool.and_self, Bool.true_and, Bool.not_true, Bool.not_false, ne_eq, not_true_eq_false, not_false_eq_true, Nat.zero_add, Bool.false_eq_true, and_self, true_and, and_true, hb, hv, hx, List.map_append]) (List.range 60) [] [some (scr (ns.map PyData.int)), some (.int 60), some (.int big), some (.list []), none] ⟨by simp, [], big, none, rfl, rfl⟩
    obtain ⟨_, r, big', j, hrl, e'⟩ := h
    subst e'
    exact ⟨r, by simpa using hrl, _, _, e⟩
  have pw : oPow (.int 10) (.int 18) = some (.int 1000000000000000000) := by
    show (if (0 : Int) ≤ 18 ∧ (18 : Int) ≤ 1000000 ∧ (10 : Int).natAbs < 2 ^ 64 then some (PyData.int (10 ^ (18 : Int).toNat)) else none) = _
    rw [if_pos (by decide)]
    rfl
  cases ns with
  | nil =>
    obtain ⟨r, h1, x, y, h2⟩ := key 0
    refine ⟨r, h1, ?_⟩
    have e0 : ¬ (0 : Int) < ((0 : Nat) : Int) := by decide
    simp only [List.map_nil] at h2
    simp -implicitDefEqProofs only [d__law_row, g__law_row, xVar_a, xC_a, xBin_a, xUn_a, tOf_a, tTru_a, tNotP_a, tAndP_a, tOrP_a, tyes_a, tno_a, tYesP_a, xNil_a, xCons_a, xTup_a, xLst_a, xAnd_a, xOr_a, xIf_a, xChain_a, oNo_a, oAt_a, xSl_a, xCall_a, xSeq_a, xIt_a, xLc_a, gSet_a, gTupD_a, gsNil_a, gsCons_a, sNop_a, sBrk_a, sCnt_a, sSeq_a, sRet_a, sIf_a, sSet_a, sTgt_a, sAug_a, sApp_a, sExt_a, sPut_a, sPutK_a, pkO_s, sFor_a, sWhile_a, sPar_a, runD_a, b2_s, c2_s, sqO_nx, sqO_rt, sqO_bk, sqO_ct, ifO_t, ifO_f, stO_s, endO_nx, endO_rt, andO_t, andO_f, orO_t, orO_f, chO_s, chP_t, chP_f, slO_s, atO_i, lcO_s, forO_s, gsO_s, nxO_s, tgO_s, paO_s, apO_s, exO_s, plO_s, ptO_s, dB_b, tru_b, tru_n, tru_i, tru_l, tru_t, is_n, isn_n, nn_n, nn_i, nn_b, nn_t, nn_l, add_ii, add'_ii, sub_ii, neg_i, lt_ii, le_ii, gt_ii, ge_ii, ix_l, ix_t, ix_s, at0, at1, at2, sl_l, sl_t, len_l, len_t, len_s, abs_i, int_i, int_b, max_ii, min_ii, tup_s, lst_s, seq_l, seq_t, sum_s, wipe_n, wipe_c, mul_ii, fdiv_ii, mod_ii, add_ll, add_tt, setAll, mkT, mkL, oNot, List.getD_cons_zero, List.getD_cons_succ, List.length_cons, List.length_nil, List.set_cons_zero, List.set_cons_succ, List.map_cons, List.map_nil, List.replicate, List.cons_append, List.nil_append, List.append_nil, Option.bind_some, Option.map_some, List.all_cons, List.all_nil, if_true, if_false, reduceIte, Nat.reduceAdd, Nat.reduceSub, Nat.reduceLT, Nat.reduceLeDiff, Nat.reduceEqDiff, decide_true, decide_false, Bool.and_true, Bool.and_self, Bool.true_and, Bool.not_true, Bool.not_false, ne_eq, not_true_eq_false, not_false_eq_true, Nat.zero_add, Bool.false_eq_true, and_self, true_and, and_true, e0, hr, h2]
  | cons c cs =>
    have e0 : (0 : Int) < ((cs.length + 1 : Nat) : Int) := by omega
    have hc : atI (PyData.int c :: cs.map PyData.int) 0 = some (.int c) := at0 _ _
    by_cases hb : (1000000000000000000 : Int) ≤ c
    · obtain ⟨r, h1, x, y, h2⟩ := key c
      refine ⟨r, h1, ?_⟩
      simp only [List.map_cons] at h2
      simp -implicitDefEqProofs only [d__law_row, g__law_row, xVar_a, xC_a, xBin_a, xUn_a, tOf_a, tTru_a, tNotP_a, tAndP_a, tOrP_a, tyes_a, tno_a, tYesP_a, xNil_a, xCons_a, xTup_a, xLst_a, xAnd_a, xOr_a, xIf_a, xChain_a, oNo_a, oAt_a, xSl_a, xCall_a, xSeq_a, xIt_a, xLc_a, gSet_a, gTupD_a, gsNil_a, gsCons_a, sNop_a, sBrk_a, sCnt_a, sSeq_a, sRet_a, sIf_a, sSet_a, sTgt_a, sAug_a, sApp_a, sExt_a, sPut_a, sPutK_a, pkO_s, sFor_a, sWhile_a, sPar_a, runD_a, b2_s, c2_s, sqO_nx, sqO_rt, sqO_bk, sqO_ct, ifO_t, ifO_f, stO_s, endO_nx, endO_rt, andO_t, andO_f, orO_t, orO_f, chO_s, chP_t, chP_f, slO_s, atO_i, lcO_s, forO_s, gsO_s, nxO_s, tgO_s, paO_s, apO_s, exO_s, plO_s, ptO_s, dB_b, tru_b, tru_n, tru_i, tru_l, tru_t, is_n, isn_n, nn_n, nn_i, nn_b, nn_t, nn_l, add_ii, add'_ii, sub_ii, neg_i, lt_ii, le_ii, gt_ii, ge_ii, ix_l, ix_t, ix_s, at0, at1, at2, sl_l, sl_t, len_l, len_t, len_s, abs_i, int_i, int_b, max_ii, min_ii, tup_s, lst_s, seq_l, seq_t, sum_s, wipe_n, wipe_c, mul_ii, fdiv_ii, mod_ii, add_ll, add_tt, setAll, mkT, mkL, oNot, List.getD_cons_zero, List.getD_cons_succ, List.length_cons, List.length_nil, List.set_cons_zero, List.set_cons_succ, List.map_cons, List.map_nil, List.replicate, List.cons_append, List.nil_append, List.append_nil, Option.bind_some, Option.map_some, List.all_cons, List.all_nil, if_true, if_false, reduceIte, Nat.reduceAdd, Nat.reduceSub, Nat.reduceLT, Nat.reduceLeDiff, Nat.reduceEqDiff, decide_true, decide_false, Bool.and_true, Bool.and_self, Bool.true_and, Bool.not_true, Bool.not_false, ne_eq, not_true_eq_false, not_false_eq_true, Nat.zero_add, Bool.false_eq_true, and_self, true_and, and_true, List.length_map, e0, hc, pw, hb, hr, h2]
    · obtain ⟨r, h1, x, y, h2⟩ := key 0
      refine ⟨r, h1, ?_⟩
      simp only [List.map_cons] at h2
      simp -implicitDefEqProofs only [d__law_row, g__law_row, xVar_a, xC_a, xBin_a, xUn_a, tOf_a, tTru_a, tNotP_a, tAndP_a, tOrP_a, tyes_a, tno_a, tYesP_a, xNil_a, xCons_a, xTup_a, xLst_a, xAnd_a, xOr_a, xIf_a, xChain_a, oNo_a, oAt_a, xSl_a, xCall_a, xSeq_a, xIt_a, xLc_a, gSet_a, gTupD_a, gsNil_a, gsCons_a, sNop_a, sBrk_a, sCnt_a, sSeq_a, sRet_a, sIf_a, sSet_a, sTgt_a, sAug_a, sApp_a, sExt_a, sPut_a, sPutK_a, pkO_s, sFor_a, sWhile_a, sPar_a, runD_a, b2_s, c2_s, sqO_nx, sqO_rt, sqO_bk, sqO_ct, ifO_t, ifO_f, stO_s, endO_nx, endO_rt, andO_t, andO_f, orO_t, orO_f, chO_s, chP_t, chP_f, slO_s, atO_i, lcO_s, forO_s, gsO_s, nxO_s, tgO_s, paO_s, apO_s, exO_s, plO_s, ptO_s, dB_b, tru_b, tru_n, tru_i, tru_l, tru_t, is_n, isn_n, nn_n, nn_i, nn_b, nn_t, nn_l, add_ii, add'_ii, sub_ii, neg_i, lt_ii, le_ii, gt_ii, ge_ii, ix_l, ix_t, ix_s, at0, at1, at2, sl_l, sl_t, len_l, len_t, len_s, abs_i, int_i, int_b, max_ii, min_ii, tup_s, lst_s, seq_l, seq_t, sum_s, wipe_n, wipe_c, mul_ii, fdiv_ii, mod_ii, add_ll, add_tt, setAll, mkT, mkL, oNot, List.getD_cons_zero, List.getD_cons_succ, List.length_cons, List.length_nil, List.set_cons_zero, List.set_cons_succ, List.map_cons, List.map_nil, List.replicate, List.cons_append, List.nil_append, List.append_nil, Option.bind_some, Option.map_some, List.all_cons, List.all_nil, if_true, if_false, reduceIte, Nat.reduceAdd, Nat.reduceSub, Nat.reduceLT, Nat.reduceLeDiff, Nat.reduceEqDiff, decide_true, decide_false, Bool.and_true, Bool.and_self, Bool.true_and, Bool.not_true, Bool.not_false, ne_eq, not_true_eq_false, not_false_eq_true, Nat.zero_add, Bool.false_eq_true, and_self, true_and, and_true, List.length_map, e0, hc, pw, hb, hr, h2]

theorem forL_find {β : Type} {g : D → PEnv → Option PEnv} {b : XS} (en : β → D) (P : β → Bool) (I : PEnv → Prop) (ret : β → D) : ∀ (xs : List β), (∀ x ∈ xs, ∀ ρ, I ρ → ∃ ρ1, g (en x) ρ = some ρ1 ∧ (P x = true → b ρ1 = some (.rt (ret x))) ∧ (P x = false → ∃ ρ2, b ρ1 = some (.nx ρ2) ∧ I ρ2)) →
    ∀ ρ, I ρ → (∃ x, xs.find? P = some x ∧ forL g b (xs.map en) ρ = some (.rt (ret x))) ∨ (xs.find? P = none ∧ ∃ ρ', forL g b (xs.map en) ρ = some (.nx ρ') ∧ I ρ')
  | [], _, ρ, h => .inr ⟨rfl, ρ, rfl, h⟩
  | x :: xs, hb, ρ, h => by
    obtain ⟨ρ1, e1, h1, h2⟩ := hb x (List.mem_cons_self ..) ρ h
    cases hp : P x with
    | true =>
      exact .inl ⟨x, by rw [List.find?_cons_of_pos hp], by simp only [List.map_cons, forL, e1, h1 hp, Option.bind_some]⟩
    | false =>
      obtain ⟨ρ2, e2, h3⟩ := h2 hp
      have hn : xs.find? P = (x :: xs).find? P := by rw [List.find?_cons_of_neg (by rw [hp]; decide)]
      rcases forL_find en P I ret xs (fun y hy => hb y (List.mem_cons_of_mem _ hy)) ρ2 h3 with ⟨z, z1, z2⟩ | ⟨z1, ρ', z2, z3⟩
      · exact .inl ⟨z, by rw [← hn, z1], by simp only [List.map_cons, forL, e1, e2, Option.bind_some, z2]⟩
      · exact .inr ⟨by rw [← hn, z1], ρ', by simp only [List.map_cons, forL, e1, e2, Option.bind_some, z2], z3⟩
theorem forL_fl {α β : Type} {g : D → PEnv → Option PEnv} {b : XS} {N : Nat} (en : α → D) (eb : β → D) (f : α → List β) (E : List D → PEnv → Prop) : ∀ (xs : List α) (acc : List D) (ρ : PEnv),
    (∀ x ∈ xs, ∀ acc ρ, acc.length + (f x).length ≤ N → E acc ρ → ∃ ρ1 ρ2, g (en x) ρ = some ρ1 ∧ b ρ1 = some (.nx ρ2) ∧ E (acc ++ (f x).map eb) ρ2) → acc.length + (xs.flatMap f).length ≤ N → E acc ρ →
    ∃ ρ', forL g b (xs.map en) ρ = some (.nx ρ') ∧ E (acc ++ (xs.flatMap f).map eb) ρ'
  | [], acc, ρ, _, _, h => ⟨ρ, rfl, by simpa using h⟩
  | x :: xs, acc, ρ, hb, hN, h => by
    rw [List.flatMap_cons, List.length_append] at hN
    obtain ⟨ρ1, ρ2, e1, e2, h2⟩ := hb x (by simp) acc ρ (by omega) h
    obtain ⟨ρ', e3, h3⟩ := forL_fl en eb f E xs (acc ++ (f x).map eb) ρ2 (fun y hy => hb y (List.mem_cons_of_mem _ hy)) (by rw [List.length_append, List.length_map]; omega) h2
    refine ⟨ρ', ?_, ?_⟩
    · simp only [List.map_cons, forL, e1, e2, Option.bind_some, e3]
    · rw [List.flatMap_cons, List.map_append, ← List.append_assoc]
      exact h3
def sqD (b : Bool) (xs : List D) : D := if b then .list xs else .tuple xs
theorem seq_q (b : Bool) (xs : List D) : seqD (sqD b xs) = some xs := by cases b <;> rfl
theorem len_q (b : Bool) (xs : List D) : bLen [sqD b xs] = some (.int xs.length) := by cases b <;> rfl
theorem ix_q (b : Bool) (xs : List D) (i : Int) : oIx (sqD b xs) (.int i) = atI xs i := by cases b <;> rfl
theorem lc2L_flat {α : Type} {g : XG} {it1 : XL} {g1 : XG} {t1 : PEnv → Option Bool} {f : Xp} {vs1 : List Nat} {ρ : PEnv} (enc : α → D) (h : α → List D) : ∀ (xs : List α), (∀ x ∈ xs, ∃ ρ1 es, g (enc x) ρ = some ρ1 ∧ it1 ρ1 = some es ∧ lcL g1 t1 f (wipeP ρ1 vs1) es = some (h x)) → lc2L g tYesP it1 g1 t1 f vs1 ρ (xs.map enc) = some (xs.flatMap h)
  | [], _ => rfl
  | x :: xs, hx => by
    obtain ⟨ρ1, es, e1, e2, e3⟩ := hx x (List.mem_cons_self ..)
    have := lc2L_flat (g := g) (it1 := it1) (g1 := g1) (t1 := t1) (f := f) (vs1 := vs1) (ρ := ρ) enc h xs fun y hy => hx y (List.mem_cons_of_mem _ hy)
    simp only [List.map_cons, lc2L, e1, e2, e3, tYesP, Option.bind_some, if_true, this, List.flatMap_cons]
theorem zipD_m {α β : Type} (f : α → D) (g : β → D) (A : List α) (B : List β) : zipD (A.map f) (B.map g) = (A.zip B).map fun p => .tuple [f p.1, g p.2] := by
  unfold zipD
  induction A generalizing B with
  | nil => simp
  | cons s A ih => cases B with
    | nil => simp
    | cons t B => simp [ih]
theorem fl_map {α β γ : Type} (f : α → List β) (g : β → γ) : ∀ l : List α, (l.flatMap fun x => (f x).map g) = (l.flatMap f).map g
  | [] => rfl
  | x :: l => by rw [List.flatMap_cons, List.flatMap_cons, List.map_append, fl_map f g l]
theorem sum_fl {α : Type} (f : α → List Int) : ∀ l : List α, (l.flatMap f).sum = (l.map fun x => (f x).sum).sum
  | [] => rfl
  | x :: l => by rw [List.flatMap_cons, List.sum_append, List.map_cons, List.sum_cons, sum_fl f l]
theorem fl_filter {α : Type} (p : α → Bool) : ∀ l : List α, (l.flatMap fun x => if p x then [x] else []) = l.filter p
  | [] => rfl
  | x :: l => by
    rw [List.flatMap_cons, fl_filter p l]
    by_cases h : p x = true
    · rw [if_pos h, List.filter_cons_of_pos h]; rfl
    · rw [if_neg h, List.filter_cons_of_neg h]; rfl
theorem fl_len {α β : Type} (f : α → List β) (k : Nat) : ∀ l : List α, (∀ x ∈ l, (f x).length ≤ k) → (l.flatMap f).length ≤ l.length * k := by
  intro l
  induction l with
  | nil => simp
  | cons x l ih =>
    intro h
    rw [List.flatMap_cons, List.length_append, List.length_cons, Nat.succ_mul]
    have h1 := h x (by simp)
    have h2 := ih fun y hy => h y (List.mem_cons_of_mem _ hy)
    omega
theorem like_ints (k : Nat) (l : List Int) (h : l.length ≤ 1000) : d__law_like (k + 2) [.tuple (l.map PyData.int), .tuple (l.map PyData.int)] = some (.bool true) := by
  refine like_tup _ _ (by rw [List.length_map]; omega) fun x hx => ?_
  obtain ⟨i, _, rfl⟩ := List.mem_map.mp hx
  exact like_int _ _
theorem len_fm {α β : Type} (f : α → Option β) : ∀ l : List α, (l.flatMap fun s => (f s).toList).length ≤ l.length := by
  intro l
  induction l with
  | nil => simp
  | cons x l ih =>
    rw [List.flatMap_cons, List.length_append, List.length_cons]
    have : (f x).toList.length ≤ 1 := by cases f x <;> simp
    omega
end K25

namespace K25
open PySem PySem.Spec PyProof.Rows L2 Pm
abbrev Pt := Int × Int
abbrev Sp := Pt × Pt
def eP (p : Pt) : D := .tuple [.int p.1, .int p.2]
def eS (s : Sp) : D := .tuple [eP s.1, eP s.2]
def OkP (p : Pt) : Prop := Sm 10 p.1 ∧ Sm 10 p.2
def OkS (s : Sp) : Prop := OkP s.1 ∧ OkP s.2
theorem mok {a b : Int} (ha : Sm 100 a) (hb : Sm 100 b) : mulOk a b = true := ha.mulOk hb (by omega) (by omega)
def dx (s t : Sp) : Int := s.1.1 - t.1.1
def dy (s t : Sp) : Int := s.1.2 - t.1.2
def da (s t : Sp) : Int := s.2.1 - t.2.1
def du (s t : Sp) : Int := s.2.2 - t.2.2
def far (s t : Sp) : Int := dx s t * dx s t + dy s t * dy s t
def both (s t : Sp) : Int := dx s t * da s t + dy s t * du s t
def speed (s t : Sp) : Int := da s t * da s t + du s t * du s t
section
variable {s t : Sp} (hs : OkS s) (ht : OkS t)
include hs ht
theorem sm_dx : Sm 11 (dx s t) := hs.1.1.sub ht.1.1
theorem sm_dy : Sm 11 (dy s t) := hs.1.2.sub ht.1.2
theorem sm_da : Sm 11 (da s t) := hs.2.1.sub ht.2.1
theorem sm_du : Sm 11 (du s t) := hs.2.2.sub ht.2.2
theorem sm_far : Sm 30 (far s t) := (((sm_dx hs ht).mul (sm_dx hs ht)).add ((sm_dy hs ht).mul (sm_dy hs ht))).mono (by omega)
theorem sm_both : Sm 30 (both s t) := (((sm_dx hs ht).mul (sm_da hs ht)).add ((sm_dy hs ht).mul (sm_du hs ht))).mono (by omega)
theorem sm_speed : Sm 30 (speed s t) := (((sm_da hs ht).mul (sm_da hs ht)).add ((sm_du hs ht).mul (sm_du hs ht))).mono (by omega)
end
theorem sq_nn (a : Int) : 0 ≤ a * a := by
  rcases Int.le_total 0 a with h | h
  · exact Int.mul_nonneg h h
  · exact Int.mul_nonneg_of_nonpos_of_nonpos h h
theorem speed_nn (s t : Sp) : 0 ≤ speed s t := Int.add_nonneg (sq_nn _) (sq_nn _)
/-- the nearest hour, the square then -/
def nh (s t : Sp) : Rat := if speed s t = 0 ∨ 0 ≤ both s t then 0 else ((-both s t : Int) : Rat) / (speed s t : Rat)
def nq (s t : Sp) : Rat := if speed s t = 0 ∨ 0 ≤ both s t then (far s t : Rat) else ((far s t * speed s t - both s t * both s t : Int) : Rat) / (speed s t : Rat)
theorem nq_eq (s t : Sp) : nq s t = ((dx s t : Rat) + (da s t : Rat) * nh s t) * ((dx s t : Rat) + (da s t : Rat) * nh s t) + ((dy s t : Rat) + (du s t : Rat) * nh s t) * ((dy s t : Rat) + (du s t : Rat) * nh s t) := by
  unfold nq nh
  split
  · unfold far
    rw [Rat.intCast_add, Rat.intCast_mul, Rat.intCast_mul]
    grind
  · next h =>
    have hn : speed s t ≠ 0 := fun e => h (.inl e)
    have hp : 0 < speed s t := by have := speed_nn s t; omega
    have h1 : (speed s t : Rat) ≠ 0 := by have := cast_pos hp; grind
    have e1 : (speed s t : Rat) = (da s t : Rat) * (da s t : Rat) + (du s t : Rat) * (du s t : Rat) := by
      unfold speed
      rw [Rat.intCast_add, Rat.intCast_mul, Rat.intCast_mul]
    have e2 : (both s t : Rat) = (dx s t : Rat) * (da s t : Rat) + (dy s t : Rat) * (du s t : Rat) := by
      unfold both
      rw [Rat.intCast_add, Rat.intCast_mul, Rat.intCast_mul]
    have e3 : (far s t : Rat) = (dx s t : Rat) * (dx s t : Rat) + (dy s t : Rat) * (dy s t : Rat) := by
      unfold far
      rw [Rat.intCast_add, Rat.intCast_mul, Rat.intCast_mul]
    rw [Rat.intCast_sub, Rat.intCast_mul, Rat.intCast_mul, Rat.intCast_neg]
    generalize (speed s t : Rat) = S at *
    generalize (both s t : Rat) = B at *
    generalize (far s t : Rat) = F at *
    generalize (dx s t : Rat) = x at *
    generalize (dy s t : Rat) = y at *
    generalize (da s t : Rat) = a at *
    generalize (du s t : Rat) = u at *
    have e4 : (x + a * (-B / S)) * (x + a * (-B / S)) + (y + u * (-B / S)) * (y + u * (-B / S)) = F + 2 * B * (-B / S) + S * (-B / S) * (-B / S) := by
      rw [e1, e2, e3]
      grind
    rw [e4]
    clear e1 e2 e3 e4
    grind
theorem sr_nh {s t : Sp} (hs : OkS s) (ht : OkS t) : SR 30 (nh s t) := by
  unfold nh
  split
  · exact ⟨Sm.zero, show Sm 30 (1 : Int) from Sm.lit⟩
  · next h =>
    have hp : 0 < speed s t := by have := speed_nn s t; omega
    exact SR.div (sm_both hs ht).neg (sm_speed hs ht) hp
theorem sr_nq {s t : Sp} (hs : OkS s) (ht : OkS t) : SR 70 (nq s t) := by
  unfold nq
  split
  · exact SR.int ((sm_far hs ht).mono (by omega))
  · next h =>
    have hp : 0 < speed s t := by have := speed_nn s t; omega
    exact SR.div ((((sm_far hs ht).mul (sm_speed hs ht)).sub ((sm_both hs ht).mul (sm_both hs ht))).mono (by omega)) ((sm_speed hs ht).mono (by omega)) hp
theorem place_at_eq {s : Sp} (hs : OkS s) {h : Rat} (hh : SR 100 h) : d_place_at [eS s, rd h] = some (.tuple [rd ((s.1.1 : Rat) + (s.2.1 : Rat) * h), rd ((s.1.2 : Rat) + (s.2.2 : Rat) * h)]) := by
  have a1 : SR 10 (s.1.1 : Rat) := SR.int hs.1.1
  have a2 : SR 10 (s.1.2 : Rat) := SR.int hs.1.2
  have a3 : SR 10 (s.2.1 : Rat) := SR.int hs.2.1
  have a4 : SR 10 (s.2.2 : Rat) := SR.int hs.2.2
  have t1 := times_rd (a3.mono (k := 900) (by omega)) (hh.mono (k := 900) (by omega))
  have t2 := times_rd (a4.mono (k := 900) (by omega)) (hh.mono (k := 900) (by omega))
  have p1 := plus_rd (a1.mono (k := 900) (by omega)) ((a3.mul hh).mono (k := 900) (by omega))
  have p2 := plus_rd (a2.mono (k := 900) (by omega)) ((a4.mul hh).mono (k := 900) (by omega))
  have w := whole_rd
  simp -implicitDefEqProofs only [d_place_at, g_place_at, xVar_a, xC_a, xBin_a, xUn_a, tOf_a, tTru_a, tNotP_a, tAndP_a, tOrP_a, tyes_a, tno_a, tYesP_a, xNil_a, xCons_a, xTup_a, xLst_a, xAnd_a, xOr_a, xIf_a, xChain_a, oNo_a, oAt_a, xSl_a, xCall_a, xSeq_a, xIt_a, xLc_a, gSet_a, gTupD_a, gsNil_a, gsCons_a, sNop_a, sBrk_a, sCnt_a, sSeq_a, sRet_a, sIf_a, sSet_a, sTgt_a, sAug_a, sApp_a, sExt_a, sPut_a, sPutK_a, pkO_s, sFor_a, sWhile_a, sPar_a, runD_a, b2_s, c2_s, sqO_nx, sqO_rt, sqO_bk, sqO_ct, ifO_t, ifO_f, stO_s, endO_nx, endO_rt, andO_t, andO_f, orO_t, orO_f, chO_s, chP_t, chP_f, slO_s, atO_i, lcO_s, forO_s, gsO_s, nxO_s, tgO_s, paO_s, apO_s, exO_s, plO_s, ptO_s, dB_b, tru_b, tru_n, tru_i, tru_l, tru_t, is_n, isn_n, nn_n, nn_i, nn_b, nn_t, nn_l, add_ii, add'_ii, sub_ii, neg_i, lt_ii, le_ii, gt_ii, ge_ii, ix_l, ix_t, ix_s, at0, at1, at2, sl_l, sl_t, len_l, len_t, len_s, abs_i, int_i, int_b, max_ii, min_ii, tup_s, lst_s, seq_l, seq_t, sum_s, wipe_n, wipe_c, mul_ii, fdiv_ii, mod_ii, add_ll, add_tt, setAll, mkT, mkL, oNot, List.getD_cons_zero, List.getD_cons_succ, List.length_cons, List.length_nil, List.set_cons_zero, List.set_cons_succ, List.map_cons, List.map_nil, List.replicate, List.cons_append, List.nil_append, List.append_nil, Option.bind_some, Option.map_some, List.all_cons, List.all_nil, if_true, if_false, reduceIte, Nat.reduceAdd, Nat.reduceSub, Nat.reduceLT, Nat.reduceLeDiff, Nat.reduceEqDiff, decide_true, decide_false, Bool.and_true, Bool.and_self, Bool.true_and, Bool.not_true, Bool.not_false, ne_eq, not_true_eq_false, not_false_eq_true, Nat.zero_add, Bool.false_eq_true, and_self, true_and, and_true, eS, eP, w, t1, t2, p1, p2]
theorem apart_at_eq {s t : Sp} (hs : OkS s) (ht : OkS t) {h : Rat} (hh : SR 60 h) : d_apart_at [eS s, eS t, rd h] = some (rd (((dx s t : Rat) + (da s t : Rat) * h) * ((dx s t : Rat) + (da s t : Rat) * h) + ((dy s t : Rat) + (du s t : Rat) * h) * ((dy s t : Rat) + (du s t : Rat) * h))) := by
  have p1 := place_at_eq hs (hh.mono (k := 100) (by omega))
  have p2 := place_at_eq ht (hh.mono (k := 100) (by omega))
  have a1 : SR 81 ((s.1.1 : Rat) + (s.2.1 : Rat) * h) := ((SR.int hs.1.1).add ((SR.int hs.2.1).mul hh)).mono (by omega)
  have a2 : SR 81 ((s.1.2 : Rat) + (s.2.2 : Rat) * h) := ((SR.int hs.1.2).add ((SR.int hs.2.2).mul hh)).mono (by omega)
  have b1 : SR 81 ((t.1.1 : Rat) + (t.2.1 : Rat) * h) := ((SR.int ht.1.1).add ((SR.int ht.2.1).mul hh)).mono (by omega)
  have b2 : SR 81 ((t.1.2 : Rat) + (t.2.2 : Rat) * h) := ((SR.int ht.1.2).add ((SR.int ht.2.2).mul hh)).mono (by omega)
  have m1 := minus_rd (a1.mono (k := 900) (by omega)) (b1.mono (k := 900) (by omega))
  have m2 := minus_rd (a2.mono (k := 900) (by omega)) (b2.mono (k := 900) (by omega))
  have e1 : (s.1.1 : Rat) + (s.2.1 : Rat) * h - ((t.1.1 : Rat) + (t.2.1 : Rat) * h) = (dx s t : Rat) + (da s t : Rat) * h := by
    unfold dx da
    rw [Rat.intCast_sub, Rat.intCast_sub]
    grind
  have e2 : (s.1.2 : Rat) + (s.2.2 : Rat) * h - ((t.1.2 : Rat) + (t.2.2 : Rat) * h) = (dy s t : Rat) + (du s t : Rat) * h := by
    unfold dy du
    rw [Rat.intCast_sub, Rat.intCast_sub]
    grind
  have c1 := (a1.sub b1).mono (k := 170) (by omega)
  have c2 := (a2.sub b2).mono (k := 170) (by omega)
  rw [e1] at m1 c1
  rw [e2] at m2 c2
  have t1 := times_rd (c1.mono (k := 900) (by omega)) (c1.mono (k := 900) (by omega))
  have t2 := times_rd (c2.mono (k := 900) (by omega)) (c2.mono (k := 900) (by omega))
  have pp := plus_rd ((c1.mul c1).mono (k := 900) (by omega)) ((c2.mul c2).mono (k := 900) (by omega))
  generalize eS s = ES at *
  generalize eS t = ET at *
  simp -implicitDefEqProofs only [d_apart_at, g_apart_at, xVar_a, xC_a, xBin_a, xUn_a, tOf_a, tTru_a, tNotP_a, tAndP_a, tOrP_a, tyes_a, tno_a, tYesP_a, xNil_a, xCons_a, xTup_a, xLst_a, xAnd_a, xOr_a, xIf_a, xChain_a, oNo_a, oAt_a, xSl_a, xCall_a, xSeq_a, xIt_a, xLc_a, gSet_a, gTupD_a, gsNil_a, gsCons_a, sNop_a, sBrk_a, sCnt_a, sSeq_a, sRet_a, sIf_a, sSet_a, sTgt_a, sAug_a, sApp_a, sExt_a, sPut_a, sPutK_a, pkO_s, sFor_a, sWhile_a, sPar_a, runD_a, b2_s, c2_s, sqO_nx, sqO_rt, sqO_bk, sqO_ct, ifO_t, ifO_f, stO_s, endO_nx, endO_rt, andO_t, andO_f, orO_t, orO_f, chO_s, chP_t, chP_f, slO_s, atO_i, lcO_s, forO_s, gsO_s, nxO_s, tgO_s, paO_s, apO_s, exO_s, plO_s, ptO_s, dB_b, tru_b, tru_n, tru_i, tru_l, tru_t, is_n, isn_n, nn_n, nn_i, nn_b, nn_t, nn_l, add_ii, add'_ii, sub_ii, neg_i, lt_ii, le_ii, gt_ii, ge_ii, ix_l, ix_t, ix_s, at0, at1, at2, sl_l, sl_t, len_l, len_t, len_s, abs_i, int_i, int_b, max_ii, min_ii, tup_s, lst_s, seq_l, seq_t, sum_s, wipe_n, wipe_c, mul_ii, fdiv_ii, mod_ii, add_ll, add_tt, setAll, mkT, mkL, oNot, List.getD_cons_zero, List.getD_cons_succ, List.length_cons, List.length_nil, List.set_cons_zero, List.set_cons_succ, List.map_cons, List.map_nil, List.replicate, List.cons_append, List.nil_append, List.append_nil, Option.bind_some, Option.map_some, List.all_cons, List.all_nil, if_true, if_false, reduceIte, Nat.reduceAdd, Nat.reduceSub, Nat.reduceLT, Nat.reduceLeDiff, Nat.reduceEqDiff, decide_true, decide_false, Bool.and_true, Bool.and_self, Bool.true_and, Bool.not_true, Bool.not_false, ne_eq, not_true_eq_false, not_false_eq_true, Nat.zero_add, Bool.false_eq_true, and_self, true_and, and_true, p1, p2, m1, m2, t1, t2, pp]
theorem nearest_hour_eq {s t : Sp} (hs : OkS s) (ht : OkS t) : d_nearest_hour [eS s, eS t] = some (rd (nh s t)) := by
  have m1 := mok ((sm_da hs ht).mono (k := 100) (by omega)) ((sm_da hs ht).mono (k := 100) (by omega))
  have m2 := mok ((sm_du hs ht).mono (k := 100) (by omega)) ((sm_du hs ht).mono (k := 100) (by omega))
  have m3 := mok ((sm_dx hs ht).mono (k := 100) (by omega)) ((sm_da hs ht).mono (k := 100) (by omega))
  have m4 := mok ((sm_dy hs ht).mono (k := 100) (by omega)) ((sm_du hs ht).mono (k := 100) (by omega))
  have w := whole_rd 0
  have fl := flat_rd
  have hsp := speed_nn s t
  have hn : nh s t = if speed s t = 0 ∨ 0 ≤ both s t then 0 else ((-both s t : Int) : Rat) / (speed s t : Rat) := rfl
  simp only [dx, dy, da, du] at m1 m2 m3 m4
  unfold eS eP
  by_cases h1 : speed s t = 0
  · rw [if_pos (.inl h1)] at hn
    rw [hn]
    have h1' := h1
    unfold speed da du at h1'
    have d1 : decide ((s.2.1 - t.2.1) * (s.2.1 - t.2.1) + (s.2.2 - t.2.2) * (s.2.2 - t.2.2) = 0) = true := decide_eq_true h1'
    simp -implicitDefEqProofs only [d_nearest_hour, g_nearest_hour, xVar_a, xC_a, xBin_a, xUn_a, tOf_a, tTru_a, tNotP_a, tAndP_a, tOrP_a, tyes_a, tno_a, tYesP_a, xNil_a, xCons_a, xTup_a, xLst_a, xAnd_a, xOr_a, xIf_a, xChain_a, oNo_a, oAt_a, xSl_a, xCall_a, xSeq_a, xIt_a, xLc_a, gSet_a, gTupD_a, gsNil_a, gsCons_a, sNop_a, sBrk_a, sCnt_a, sSeq_a, sRet_a, sIf_a, sSet_a, sTgt_a, sAug_a, sApp_a, sExt_a, sPut_a, sPutK_a, pkO_s, sFor_a, sWhile_a, sPar_a, runD_a, b2_s, c2_s, sqO_nx, sqO_rt, sqO_bk, sqO_ct, ifO_t, ifO_f, stO_s, endO_nx, endO_rt, andO_t, andO_f, orO_t, orO_f, chO_s, chP_t, chP_f, slO_s, atO_i, lcO_s, forO_s, gsO_s, nxO_s, tgO_s, paO_s, apO_s, exO_s, plO_s, ptO_s, dB_b, tru_b, tru_n, tru_i, tru_l, tru_t, is_n, isn_n, nn_n, nn_i, nn_b, nn_t, nn_l, add_ii, add'_ii, sub_ii, neg_i, lt_ii, le_ii, gt_ii, ge_ii, ix_l, ix_t, ix_s, at0, at1, at2, sl_l, sl_t, len_l, len_t, len_s, abs_i, int_i, int_b, max_ii, min_ii, tup_s, lst_s, seq_l, seq_t, sum_s, wipe_n, wipe_c, mul_ii, fdiv_ii, mod_ii, add_ll, add_tt, setAll, mkT, mkL, oNot, List.getD_cons_zero, List.getD_cons_succ, List.length_cons, List.length_nil, List.set_cons_zero, List.set_cons_succ, List.map_cons, List.map_nil, List.replicate, List.cons_append, List.nil_append, List.append_nil, Option.bind_some, Option.map_some, List.all_cons, List.all_nil, if_true, if_false, reduceIte, Nat.reduceAdd, Nat.reduceSub, Nat.reduceLT, Nat.reduceLeDiff, Nat.reduceEqDiff, decide_true, decide_false, Bool.and_true, Bool.and_self, Bool.true_and, Bool.not_true, Bool.not_false, ne_eq, not_true_eq_false, not_false_eq_true, Nat.zero_add, Bool.false_eq_true, and_self, true_and, and_true, m1, m2, m3, m4, eq_int, d1, w]
    rfl
  · have h1' := h1
    unfold speed da du at h1'
    have d1 : decide ((s.2.1 - t.2.1) * (s.2.1 - t.2.1) + (s.2.2 - t.2.2) * (s.2.2 - t.2.2) = 0) = false := decide_eq_false h1'
    by_cases h2 : 0 ≤ both s t
    · rw [if_pos (.inr h2)] at hn
      rw [hn]
      have h2' := h2
      unfold both dx dy da du at h2'
      have d2 : decide (0 ≤ (s.1.1 - t.1.1) * (s.2.1 - t.2.1) + (s.1.2 - t.1.2) * (s.2.2 - t.2.2)) = true := decide_eq_true h2'
      simp -implicitDefEqProofs only [d_nearest_hour, g_nearest_hour, xVar_a, xC_a, xBin_a, xUn_a, tOf_a, tTru_a, tNotP_a, tAndP_a, tOrP_a, tyes_a, tno_a, tYesP_a, xNil_a, xCons_a, xTup_a, xLst_a, xAnd_a, xOr_a, xIf_a, xChain_a, oNo_a, oAt_a, xSl_a, xCall_a, xSeq_a, xIt_a, xLc_a, gSet_a, gTupD_a, gsNil_a, gsCons_a, sNop_a, sBrk_a, sCnt_a, sSeq_a, sRet_a, sIf_a, sSet_a, sTgt_a, sAug_a, sApp_a, sExt_a, sPut_a, sPutK_a, pkO_s, sFor_a, sWhile_a, sPar_a, runD_a, b2_s, c2_s, sqO_nx, sqO_rt, sqO_bk, sqO_ct, ifO_t, ifO_f, stO_s, endO_nx, endO_rt, andO_t, andO_f, orO_t, orO_f, chO_s, chP_t, chP_f, slO_s, atO_i, lcO_s, forO_s, gsO_s, nxO_s, tgO_s, paO_s, apO_s, exO_s, plO_s, ptO_s, dB_b, tru_b, tru_n, tru_i, tru_l, tru_t, is_n, isn_n, nn_n, nn_i, nn_b, nn_t, nn_l, add_ii, add'_ii, sub_ii, neg_i, lt_ii, le_ii, gt_ii, ge_ii, ix_l, ix_t, ix_s, at0, at1, at2, sl_l, sl_t, len_l, len_t, len_s, abs_i, int_i, int_b, max_ii, min_ii, tup_s, lst_s, seq_l, seq_t, sum_s, wipe_n, wipe_c, mul_ii, fdiv_ii, mod_ii, add_ll, add_tt, setAll, mkT, mkL, oNot, List.getD_cons_zero, List.getD_cons_succ, List.length_cons, List.length_nil, List.set_cons_zero, List.set_cons_succ, List.map_cons, List.map_nil, List.replicate, List.cons_append, List.nil_append, List.append_nil, Option.bind_some, Option.map_some, List.all_cons, List.all_nil, if_true, if_false, reduceIte, Nat.reduceAdd, Nat.reduceSub, Nat.reduceLT, Nat.reduceLeDiff, Nat.reduceEqDiff, decide_true, decide_false, Bool.and_true, Bool.and_self, Bool.true_and, Bool.not_true, Bool.not_false, ne_eq, not_true_eq_false, not_false_eq_true, Nat.zero_add, Bool.false_eq_true, and_self, true_and, and_true, m1, m2, m3, m4, eq_int, d1, d2, w]
      rfl
    · rw [if_neg (by omega)] at hn
      rw [hn]
      have h2' := h2
      unfold both dx dy da du at h2'
      have d2 : decide (0 ≤ (s.1.1 - t.1.1) * (s.2.1 - t.2.1) + (s.1.2 - t.1.2) * (s.2.2 - t.2.2)) = false := decide_eq_false h2'
      have lo := lowest_rd (-both s t) (speed s t) (by omega) ((sm_speed hs ht).mono (by omega))
      have fl := flat_rd (((-both s t : Int) : Rat) / (speed s t : Rat))
      generalize rd (((-both s t : Int) : Rat) / (speed s t : Rat)) = RR at *
      unfold both speed dx dy da du at lo
      simp -implicitDefEqProofs only [d_nearest_hour, g_nearest_hour, xVar_a, xC_a, xBin_a, xUn_a, tOf_a, tTru_a, tNotP_a, tAndP_a, tOrP_a, tyes_a, tno_a, tYesP_a, xNil_a, xCons_a, xTup_a, xLst_a, xAnd_a, xOr_a, xIf_a, xChain_a, oNo_a, oAt_a, xSl_a, xCall_a, xSeq_a, xIt_a, xLc_a, gSet_a, gTupD_a, gsNil_a, gsCons_a, sNop_a, sBrk_a, sCnt_a, sSeq_a, sRet_a, sIf_a, sSet_a, sTgt_a, sAug_a, sApp_a, sExt_a, sPut_a, sPutK_a, pkO_s, sFor_a, sWhile_a, sPar_a, runD_a, b2_s, c2_s, sqO_nx, sqO_rt, sqO_bk, sqO_ct, ifO_t, ifO_f, stO_s, endO_nx, endO_rt, andO_t, andO_f, orO_t, orO_f, chO_s, chP_t, chP_f, slO_s, atO_i, lcO_s, forO_s, gsO_s, nxO_s, tgO_s, paO_s, apO_s, exO_s, plO_s, ptO_s, dB_b, tru_b, tru_n, tru_i, tru_l, tru_t, is_n, isn_n, nn_n, nn_i, nn_b, nn_t, nn_l, add_ii, add'_ii, sub_ii, neg_i, lt_ii, le_ii, gt_ii, ge_ii, ix_l, ix_t, ix_s, at0, at1, at2, sl_l, sl_t, len_l, len_t, len_s, abs_i, int_i, int_b, max_ii, min_ii, tup_s, lst_s, seq_l, seq_t, sum_s, wipe_n, wipe_c, mul_ii, fdiv_ii, mod_ii, add_ll, add_tt, setAll, mkT, mkL, oNot, List.getD_cons_zero, List.getD_cons_succ, List.length_cons, List.length_nil, List.set_cons_zero, List.set_cons_succ, List.map_cons, List.map_nil, List.replicate, List.cons_append, List.nil_append, List.append_nil, Option.bind_some, Option.map_some, List.all_cons, List.all_nil, if_true, if_false, reduceIte, Nat.reduceAdd, Nat.reduceSub, Nat.reduceLT, Nat.reduceLeDiff, Nat.reduceEqDiff, decide_true, decide_false, Bool.and_true, Bool.and_self, Bool.true_and, Bool.not_true, Bool.not_false, ne_eq, not_true_eq_false, not_false_eq_true, Nat.zero_add, Bool.false_eq_true, and_self, true_and, and_true, m1, m2, m3, m4, eq_int, d1, d2, lo, fl]
theorem nearest_square_eq {s t : Sp} (hs : OkS s) (ht : OkS t) : d_nearest_square [eS s, eS t] = some (rd (nq s t)) := by
  have n := nearest_hour_eq hs ht
  have a := apart_at_eq hs ht ((sr_nh hs ht).mono (k := 60) (by omega))
  rw [← nq_eq] at a
  generalize eS s = ES at *
  generalize eS t = ET at *
  simp -implicitDefEqProofs only [d_nearest_square, g_nearest_square, xVar_a, xC_a, xBin_a, xUn_a, tOf_a, tTru_a, tNotP_a, tAndP_a, tOrP_a, tyes_a, tno_a, tYesP_a, xNil_a, xCons_a, xTup_a, xLst_a, xAnd_a, xOr_a, xIf_a, xChain_a, oNo_a, oAt_a, xSl_a, xCall_a, xSeq_a, xIt_a, xLc_a, gSet_a, gTupD_a, gsNil_a, gsCons_a, sNop_a, sBrk_a, sCnt_a, sSeq_a, sRet_a, sIf_a, sSet_a, sTgt_a, sAug_a, sApp_a, sExt_a, sPut_a, sPutK_a, pkO_s, sFor_a, sWhile_a, sPar_a, runD_a, b2_s, c2_s, sqO_nx, sqO_rt, sqO_bk, sqO_ct, ifO_t, ifO_f, stO_s, endO_nx, endO_rt, andO_t, andO_f, orO_t, orO_f, chO_s, chP_t, chP_f, slO_s, atO_i, lcO_s, forO_s, gsO_s, nxO_s, tgO_s, paO_s, apO_s, exO_s, plO_s, ptO_s, dB_b, tru_b, tru_n, tru_i, tru_l, tru_t, is_n, isn_n, nn_n, nn_i, nn_b, nn_t, nn_l, add_ii, add'_ii, sub_ii, neg_i, lt_ii, le_ii, gt_ii, ge_ii, ix_l, ix_t, ix_s, at0, at1, at2, sl_l, sl_t, len_l, len_t, len_s, abs_i, int_i, int_b, max_ii, min_ii, tup_s, lst_s, seq_l, seq_t, sum_s, wipe_n, wipe_c, mul_ii, fdiv_ii, mod_ii, add_ll, add_tt, setAll, mkT, mkL, oNot, List.getD_cons_zero, List.getD_cons_succ, List.length_cons, List.length_nil, List.set_cons_zero, List.set_cons_succ, List.map_cons, List.map_nil, List.replicate, List.cons_append, List.nil_append, List.append_nil, Option.bind_some, Option.map_some, List.all_cons, List.all_nil, if_true, if_false, reduceIte, Nat.reduceAdd, Nat.reduceSub, Nat.reduceLT, Nat.reduceLeDiff, Nat.reduceEqDiff, decide_true, decide_false, Bool.and_true, Bool.and_self, Bool.true_and, Bool.not_true, Bool.not_false, ne_eq, not_true_eq_false, not_false_eq_true, Nat.zero_add, Bool.false_eq_true, and_self, true_and, and_true, n, a]
theorem they_meet_eq {s t : Sp} (hs : OkS s) (ht : OkS t) : d_they_meet [eS s, eS t] = some (.bool (decide ((nq s t).num = 0))) := by
  have n := nearest_square_eq hs ht
  have r0 := rd_0 (nq s t)
  generalize eS s = ES at *
  generalize eS t = ET at *
  generalize rd (nq s t) = RR at *
  simp -implicitDefEqProofs only [d_they_meet, g_they_meet, xVar_a, xC_a, xBin_a, xUn_a, tOf_a, tTru_a, tNotP_a, tAndP_a, tOrP_a, tyes_a, tno_a, tYesP_a, xNil_a, xCons_a, xTup_a, xLst_a, xAnd_a, xOr_a, xIf_a, xChain_a, oNo_a, oAt_a, xSl_a, xCall_a, xSeq_a, xIt_a, xLc_a, gSet_a, gTupD_a, gsNil_a, gsCons_a, sNop_a, sBrk_a, sCnt_a, sSeq_a, sRet_a, sIf_a, sSet_a, sTgt_a, sAug_a, sApp_a, sExt_a, sPut_a, sPutK_a, pkO_s, sFor_a, sWhile_a, sPar_a, runD_a, b2_s, c2_s, sqO_nx, sqO_rt, sqO_bk, sqO_ct, ifO_t, ifO_f, stO_s, endO_nx, endO_rt, andO_t, andO_f, orO_t, orO_f, chO_s, chP_t, chP_f, slO_s, atO_i, lcO_s, forO_s, gsO_s, nxO_s, tgO_s, paO_s, apO_s, exO_s, plO_s, ptO_s, dB_b, tru_b, tru_n, tru_i, tru_l, tru_t, is_n, isn_n, nn_n, nn_i, nn_b, nn_t, nn_l, add_ii, add'_ii, sub_ii, neg_i, lt_ii, le_ii, gt_ii, ge_ii, ix_l, ix_t, ix_s, at0, at1, at2, sl_l, sl_t, len_l, len_t, len_s, abs_i, int_i, int_b, max_ii, min_ii, tup_s, lst_s, seq_l, seq_t, sum_s, wipe_n, wipe_c, mul_ii, fdiv_ii, mod_ii, add_ll, add_tt, setAll, mkT, mkL, oNot, List.getD_cons_zero, List.getD_cons_succ, List.length_cons, List.length_nil, List.set_cons_zero, List.set_cons_succ, List.map_cons, List.map_nil, List.replicate, List.cons_append, List.nil_append, List.append_nil, Option.bind_some, Option.map_some, List.all_cons, List.all_nil, if_true, if_false, reduceIte, Nat.reduceAdd, Nat.reduceSub, Nat.reduceLT, Nat.reduceLeDiff, Nat.reduceEqDiff, decide_true, decide_false, Bool.and_true, Bool.and_self, Bool.true_and, Bool.not_true, Bool.not_false, ne_eq, not_true_eq_false, not_false_eq_true, Nat.zero_add, Bool.false_eq_true, and_self, true_and, and_true, n, r0, eq_int]
theorem law_off_eq {s t : Sp} (hs : OkS s) (ht : OkS t) : d__law_off [eS s, eS t] = some (.tuple [.int (far s t), .int (both s t), .int (speed s t)]) := by
  have m1 := mok ((sm_da hs ht).mono (k := 100) (by omega)) ((sm_da hs ht).mono (k := 100) (by omega))
  have m2 := mok ((sm_du hs ht).mono (k := 100) (by omega)) ((sm_du hs ht).mono (k := 100) (by omega))
  have m3 := mok ((sm_dx hs ht).mono (k := 100) (by omega)) ((sm_da hs ht).mono (k := 100) (by omega))
  have m4 := mok ((sm_dy hs ht).mono (k := 100) (by omega)) ((sm_du hs ht).mono (k := 100) (by omega))
  have m5 := mok ((sm_dx hs ht).mono (k := 100) (by omega)) ((sm_dx hs ht).mono (k := 100) (by omega))
  have m6 := mok ((sm_dy hs ht).mono (k := 100) (by omega)) ((sm_dy hs ht).mono (k := 100) (by omega))
  simp only [dx, dy, da, du] at m1 m2 m3 m4 m5 m6
  unfold eS eP far both speed dx dy da du
  simp -implicitDefEqProofs only [d__law_off, g__law_off, xVar_a, xC_a, xBin_a, xUn_a, tOf_a, tTru_a, tNotP_a, tAndP_a, tOrP_a, tyes_a, tno_a, tYesP_a, xNil_a, xCons_a, xTup_a, xLst_a, xAnd_a, xOr_a, xIf_a, xChain_a, oNo_a, oAt_a, xSl_a, xCall_a, xSeq_a, xIt_a, xLc_a, gSet_a, gTupD_a, gsNil_a, gsCons_a, sNop_a, sBrk_a, sCnt_a, sSeq_a, sRet_a, sIf_a, sSet_a, sTgt_a, sAug_a, sApp_a, sExt_a, sPut_a, sPutK_a, pkO_s, sFor_a, sWhile_a, sPar_a, runD_a, b2_s, c2_s, sqO_nx, sqO_rt, sqO_bk, sqO_ct, ifO_t, ifO_f, stO_s, endO_nx, endO_rt, andO_t, andO_f, orO_t, orO_f, chO_s, chP_t, chP_f, slO_s, atO_i, lcO_s, forO_s, gsO_s, nxO_s, tgO_s, paO_s, apO_s, exO_s, plO_s, ptO_s, dB_b, tru_b, tru_n, tru_i, tru_l, tru_t, is_n, isn_n, nn_n, nn_i, nn_b, nn_t, nn_l, add_ii, add'_ii, sub_ii, neg_i, lt_ii, le_ii, gt_ii, ge_ii, ix_l, ix_t, ix_s, at0, at1, at2, sl_l, sl_t, len_l, len_t, len_s, abs_i, int_i, int_b, max_ii, min_ii, tup_s, lst_s, seq_l, seq_t, sum_s, wipe_n, wipe_c, mul_ii, fdiv_ii, mod_ii, add_ll, add_tt, setAll, mkT, mkL, oNot, List.getD_cons_zero, List.getD_cons_succ, List.length_cons, List.length_nil, List.set_cons_zero, List.set_cons_succ, List.map_cons, List.map_nil, List.replicate, List.cons_append, List.nil_append, List.append_nil, Option.bind_some, Option.map_some, List.all_cons, List.all_nil, if_true, if_false, reduceIte, Nat.reduceAdd, Nat.reduceSub, Nat.reduceLT, Nat.reduceLeDiff, Nat.reduceEqDiff, decide_true, decide_false, Bool.and_true, Bool.and_self, Bool.true_and, Bool.not_true, Bool.not_false, ne_eq, not_true_eq_false, not_false_eq_true, Nat.zero_add, Bool.false_eq_true, and_self, true_and, and_true, m1, m2, m3, m4, m5, m6]
theorem law_nearest_eq {s t : Sp} (hs : OkS s) (ht : OkS t) : d__law_nearest [eS s, eS t] = some (.tuple [rd (nh s t), rd (nq s t)]) := by
  have o := law_off_eq hs ht
  have hsp := speed_nn s t
  have hn : nh s t = if speed s t = 0 ∨ 0 ≤ both s t then 0 else ((-both s t : Int) : Rat) / (speed s t : Rat) := rfl
  have hq : nq s t = if speed s t = 0 ∨ 0 ≤ both s t then (far s t : Rat) else ((far s t * speed s t - both s t * both s t : Int) : Rat) / (speed s t : Rat) := rfl
  have r0 : rd 0 = .tuple [.int 0, .int 1] := rfl
  have r1 := rd_int (far s t)
  have m1 := mok ((sm_far hs ht).mono (k := 100) (by omega)) ((sm_speed hs ht).mono (k := 100) (by omega))
  have m2 := mok ((sm_both hs ht).mono (k := 100) (by omega)) ((sm_both hs ht).mono (k := 100) (by omega))
  by_cases h : speed s t = 0 ∨ 0 ≤ both s t
  · rw [if_pos h] at hn hq
    rw [hn, hq, r0, r1]
    generalize eS s = ES at *
    generalize eS t = ET at *
    generalize both s t = B at *
    generalize speed s t = S at *
    by_cases h1 : S = 0
    · have d1 : decide (S = 0) = true := decide_eq_true h1
      simp -implicitDefEqProofs only [d__law_nearest, g__law_nearest, xVar_a, xC_a, xBin_a, xUn_a, tOf_a, tTru_a, tNotP_a, tAndP_a, tOrP_a, tyes_a, tno_a, tYesP_a, xNil_a, xCons_a, xTup_a, xLst_a, xAnd_a, xOr_a, xIf_a, xChain_a, oNo_a, oAt_a, xSl_a, xCall_a, xSeq_a, xIt_a, xLc_a, gSet_a, gTupD_a, gsNil_a, gsCons_a, sNop_a, sBrk_a, sCnt_a, sSeq_a, sRet_a, sIf_a, sSet_a, sTgt_a, sAug_a, sApp_a, sExt_a, sPut_a, sPutK_a, pkO_s, sFor_a, sWhile_a, sPar_a, runD_a, b2_s, c2_s, sqO_nx, sqO_rt, sqO_bk, sqO_ct, ifO_t, ifO_f, stO_s, endO_nx, endO_rt, andO_t, andO_f, orO_t, orO_f, chO_s, chP_t, chP_f, slO_s, atO_i, lcO_s, forO_s, gsO_s, nxO_s, tgO_s, paO_s, apO_s, exO_s, plO_s, ptO_s, dB_b, tru_b, tru_n, tru_i, tru_l, tru_t, is_n, isn_n, nn_n, nn_i, nn_b, nn_t, nn_l, add_ii, add'_ii, sub_ii, neg_i, lt_ii, le_ii, gt_ii, ge_ii, ix_l, ix_t, ix_s, at0, at1, at2, sl_l, sl_t, len_l, len_t, len_s, abs_i, int_i, int_b, max_ii, min_ii, tup_s, lst_s, seq_l, seq_t, sum_s, wipe_n, wipe_c, mul_ii, fdiv_ii, mod_ii, add_ll, add_tt, setAll, mkT, mkL, oNot, List.getD_cons_zero, List.getD_cons_succ, List.length_cons, List.length_nil, List.set_cons_zero, List.set_cons_succ, List.map_cons, List.map_nil, List.replicate, List.cons_append, List.nil_append, List.append_nil, Option.bind_some, Option.map_some, List.all_cons, List.all_nil, if_true, if_false, reduceIte, Nat.reduceAdd, Nat.reduceSub, Nat.reduceLT, Nat.reduceLeDiff, Nat.reduceEqDiff, decide_true, decide_false, Bool.and_true, Bool.and_self, Bool.true_and, Bool.not_true, Bool.not_false, ne_eq, not_true_eq_false, not_false_eq_true, Nat.zero_add, Bool.false_eq_true, and_self, true_and, and_true, o, eq_int, d1]
    · have d1 : decide (S = 0) = false := decide_eq_false h1
      have d2 : decide (0 ≤ B) = true := decide_eq_true (by omega)
      simp -implicitDefEqProofs only [d__law_nearest, g__law_nearest, xVar_a, xC_a, xBin_a, xUn_a, tOf_a, tTru_a, tNotP_a, tAndP_a, tOrP_a, tyes_a, tno_a, tYesP_a, xNil_a, xCons_a, xTup_a, xLst_a, xAnd_a, xOr_a, xIf_a, xChain_a, oNo_a, oAt_a, xSl_a, xCall_a, xSeq_a, xIt_a, xLc_a, gSet_a, gTupD_a, gsNil_a, gsCons_a, sNop_a, sBrk_a, sCnt_a, sSeq_a, sRet_a, sIf_a, sSet_a, sTgt_a, sAug_a, sApp_a, sExt_a, sPut_a, sPutK_a, pkO_s, sFor_a, sWhile_a, sPar_a, runD_a, b2_s, c2_s, sqO_nx, sqO_rt, sqO_bk, sqO_ct, ifO_t, ifO_f, stO_s, endO_nx, endO_rt, andO_t, andO_f, orO_t, orO_f, chO_s, chP_t, chP_f, slO_s, atO_i, lcO_s, forO_s, gsO_s, nxO_s, tgO_s, paO_s, apO_s, exO_s, plO_s, ptO_s, dB_b, tru_b, tru_n, tru_i, tru_l, tru_t, is_n, isn_n, nn_n, nn_i, nn_b, nn_t, nn_l, add_ii, add'_ii, sub_ii, neg_i, lt_ii, le_ii, gt_ii, ge_ii, ix_l, ix_t, ix_s, at0, at1, at2, sl_l, sl_t, len_l, len_t, len_s, abs_i, int_i, int_b, max_ii, min_ii, tup_s, lst_s, seq_l, seq_t, sum_s, wipe_n, wipe_c, mul_ii, fdiv_ii, mod_ii, add_ll, add_tt, setAll, mkT, mkL, oNot, List.getD_cons_zero, List.getD_cons_succ, List.length_cons, List.length_nil, List.set_cons_zero, List.set_cons_succ, List.map_cons, List.map_nil, List.replicate, List.cons_append, List.nil_append, List.append_nil, Option.bind_some, Option.map_some, List.all_cons, List.all_nil, if_true, if_false, reduceIte, Nat.reduceAdd, Nat.reduceSub, Nat.reduceLT, Nat.reduceLeDiff, Nat.reduceEqDiff, decide_true, decide_false, Bool.and_true, Bool.and_self, Bool.true_and, Bool.not_true, Bool.not_false, ne_eq, not_true_eq_false, not_false_eq_true, Nat.zero_add, Bool.false_eq_true, and_self, true_and, and_true, o, eq_int, d1, d2]
  · rw [if_neg h] at hn hq
    rw [hn, hq]
    have l1 := ratio_rd (-both s t) (speed s t) (by omega) ((sm_speed hs ht).mono (by omega))
    have l2 := ratio_rd (far s t * speed s t - both s t * both s t) (speed s t) (by omega) ((sm_speed hs ht).mono (by omega))
    generalize eS s = ES at *
    generalize eS t = ET at *
    generalize rd (((-both s t : Int) : Rat) / (speed s t : Rat)) = R1 at *
    generalize rd (((far s t * speed s t - both s t * both s t : Int) : Rat) / (speed s t : Rat)) = R2 at *
    generalize both s t = B at *
    generalize speed s t = S at *
    have d1 : decide (S = 0) = false := decide_eq_false (by omega)
    have d2 : decide (0 ≤ B) = false := decide_eq_false (by omega)
    simp -implicitDefEqProofs only [d__law_nearest, g__law_nearest, xVar_a, xC_a, xBin_a, xUn_a, tOf_a, tTru_a, tNotP_a, tAndP_a, tOrP_a, tyes_a, tno_a, tYesP_a, xNil_a, xCons_a, xTup_a, xLst_a, xAnd_a, xOr_a, xIf_a, xChain_a, oNo_a, oAt_a, xSl_a, xCall_a, xSeq_a, xIt_a, xLc_a, gSet_a, gTupD_a, gsNil_a, gsCons_a, sNop_a, sBrk_a, sCnt_a, sSeq_a, sRet_a, sIf_a, sSet_a, sTgt_a, sAug_a, sApp_a, sExt_a, sPut_a, sPutK_a, pkO_s, sFor_a, sWhile_a, sPar_a, runD_a, b2_s, c2_s, sqO_nx, sqO_rt, sqO_bk, sqO_ct, ifO_t, ifO_f, stO_s, endO_nx, endO_rt, andO_t, andO_f, orO_t, orO_f, chO_s, chP_t, chP_f, slO_s, atO_i, lcO_s, forO_s, gsO_s, nxO_s, tgO_s, paO_s, apO_s, exO_s, plO_s, ptO_s, dB_b, tru_b, tru_n, tru_i, tru_l, tru_t, is_n, isn_n, nn_n, nn_i, nn_b, nn_t, nn_l, add_ii, add'_ii, sub_ii, neg_i, lt_ii, le_ii, gt_ii, ge_ii, ix_l, ix_t, ix_s, at0, at1, at2, sl_l, sl_t, len_l, len_t, len_s, abs_i, int_i, int_b, max_ii, min_ii, tup_s, lst_s, seq_l, seq_t, sum_s, wipe_n, wipe_c, mul_ii, fdiv_ii, mod_ii, add_ll, add_tt, setAll, mkT, mkL, oNot, List.getD_cons_zero, List.getD_cons_succ, List.length_cons, List.length_nil, List.set_cons_zero, List.set_cons_succ, List.map_cons, List.map_nil, List.replicate, List.cons_append, List.nil_append, List.append_nil, Option.bind_some, Option.map_some, List.all_cons, List.all_nil, if_true, if_false, reduceIte, Nat.reduceAdd, Nat.reduceSub, Nat.reduceLT, Nat.reduceLeDiff, Nat.reduceEqDiff, decide_true, decide_false, Bool.and_true, Bool.and_self, Bool.true_and, Bool.not_true, Bool.not_false, ne_eq, not_true_eq_false, not_false_eq_true, Nat.zero_add, Bool.false_eq_true, and_self, true_and, and_true, o, eq_int, d1, d2, m1, m2, l1, l2]
theorem nq_symm (s t : Sp) : nq s t = nq t s := by
  have e1 : far s t = far t s := by unfold far dx dy; grind
  have e2 : both s t = both t s := by unfold both dx dy da du; grind
  have e3 : speed s t = speed t s := by unfold speed da du; grind
  unfold nq
  rw [e1, e2, e3]
/-- ships that both go faster by the same -/
def blow (w : Pt) (s : Sp) : Sp := (s.1, (s.2.1 + w.1, s.2.2 + w.2))
theorem nq_blow (w : Pt) (s t : Sp) : nq (blow w s) (blow w t) = nq s t := by
  have a : da (blow w s) (blow w t) = da s t := by unfold da blow; simp only; omega
  have b : du (blow w s) (blow w t) = du s t := by unfold du blow; simp only; omega
  have c : dx (blow w s) (blow w t) = dx s t := rfl
  have d : dy (blow w s) (blow w t) = dy s t := rfl
  unfold nq far both speed
  rw [a, b, c, d]
theorem nq_lt (s t : Sp) (f : Int) : decide (nq s t < (f : Rat)) = decide ((nq s t).num < f * ((nq s t).den : Int)) := by
  refine decide_eq_decide.mpr ?_
  have h := qlt (p := (nq s t).num) (q := ((nq s t).den : Int)) (r := f) (s := 1) (den_pos _) (by decide)
  rw [← rat_eq] at h
  rw [show (f : Rat) / ((1 : Int) : Rat) = (f : Rat) by rw [Rat.intCast_one]; grind] at h
  rw [h, Int.mul_one]
end K25

namespace K25
open PySem PySem.Spec PyProof.Rows L2 Pm
open PySem.W (Datum)
def js (i n : Nat) : List Nat := List.range' (i + 1) (n - (i + 1))
theorem js_mem {i n j : Nat} : j ∈ js i n ↔ i < j ∧ j < n := by
  unfold js
  rw [List.mem_range'_1]
  omega
theorem js_len (i n : Nat) : (js i n).length ≤ n := by
  unfold js
  rw [List.length_range']
  omega
theorem oR2_ij {i j : Int} (h : -(2 ^ 60) ≤ i ∧ i < 2 ^ 60 ∧ -(2 ^ 60) ≤ j ∧ j < 2 ^ 60 ∧ j - i ≤ 16777216) : oR2 [.int i, .int j] = some (rangeD i 1 (j - i).toNat) := if_pos h
theorem rg2 {i n : Nat} (h : n ≤ 1000) (hi : i ≤ n) : oR2 [.int ((i : Int) + 1), .int (n : Nat)] = some ((js i n).map fun j : Nat => PyData.int (j : Nat)) := by
  rw [oR2_ij (by omega), show ((n : Int) - ((i : Int) + 1)).toNat = n - (i + 1) by omega]
  have e : ∀ m : Nat, rangeD ((i : Int) + 1) 1 m = (List.range' (i + 1) m).map fun j : Nat => PyData.int (j : Nat) := fun m => by
    unfold rangeD
    apply List.ext_getElem?
    intro k
    by_cases h : k < m
    · simp [h]
    · simp [h]
  rw [e]
  rfl
abbrev pr (i j : Nat) : Pt := ((i : Int), (j : Int))
/-- the pairs i < j that p holds of -/
def prs (n : Nat) (p : Nat → Nat → Bool) : List Pt := (List.range n).flatMap fun i => ((js i n).filter (p i)).map (pr i)
theorem prs_len {n : Nat} (h : n ≤ 4) (p : Nat → Nat → Bool) : (prs n p).length ≤ 16 := by
  have := fl_len (fun i => ((js i n).filter (p i)).map (pr i)) 4 (List.range n) (fun i _ => by
    rw [List.length_map]
    have h1 := List.length_filter_le (p i) (js i n)
    have h2 := js_len i n
    omega)
  unfold prs
  rw [List.length_range] at this
  omega
theorem prs_mem {n : Nat} {p : Nat → Nat → Bool} {i j : Nat} : pr i j ∈ prs n p ↔ i < j ∧ j < n ∧ p i j = true := by
  unfold prs
  rw [List.mem_flatMap]
  constructor
  · rintro ⟨a, ha, h⟩
    obtain ⟨b, hb, e⟩ := List.mem_map.mp h
    obtain ⟨h1, h2⟩ := List.mem_filter.mp hb
    have e1 : (a : Int) = (i : Int) := congrArg Prod.fst e
    have e2 : (b : Int) = (j : Int) := congrArg Prod.snd e
    have e1 : a = i := by omega
    have e2 : b = j := by omega
    subst e1
    subst e2
    rw [js_mem] at h1
    exact ⟨h1.1, h1.2, h2⟩
  · rintro ⟨h1, h2, h3⟩
    exact ⟨i, List.mem_range.mpr (by omega), List.mem_map.mpr ⟨j, List.mem_filter.mpr ⟨js_mem.mpr ⟨h1, h2⟩, h3⟩, rfl⟩⟩
theorem in_map {l : List Pt} {a : Pt} : oIn (eP a) (.tuple (l.map eP)) = some (.bool (decide (a ∈ l))) := by
  have e : ∀ x : Pt, eP x = Datum.toD x := fun _ => rfl
  have hs : shp (eP a) = true := by
    unfold shp SeqAt.shaped
    rw [e, LinD.lay a, Bool.true_and]
    exact decide_eq_true (by have := Datum.depth_le a; have h2 : Datum.depth Pt ≤ 20 := by decide
                             omega)
  have hl : PyData.canLayAll0 (l.map eP) = true := layAll_map l
  have ha : ((l.map eP).any fun z => PyData.eqv z (eP a)) = decide (a ∈ l) := by
    rw [List.any_map]
    have : ((fun z => PyData.eqv z (eP a)) ∘ eP) = fun x : Pt => decide (x = a) := by
      funext x
      exact Datum.eqv x a
    rw [this]
    induction l with
    | nil => rfl
    | cons x l ih =>
      rw [List.any_cons, ih (layAll_map l)]
      by_cases h : x = a
      · subst h; simp
      · have h' : ¬ a = x := fun e => h e.symm
        simp [h, h']
  show (if (shp (eP a) && PyData.canLayAll0 (l.map eP)) = true then some (PyData.bool ((l.map eP).any fun z => PyData.eqv z (eP a))) else none) = _
  rw [hs, hl, ha]
  rfl
/-- a row of ships -/
def OkR (R : List Sp) : Prop := (∀ s ∈ R, OkS s) ∧ R.length ≤ 4
def gS (R : List Sp) (i : Nat) : Sp := R.getD i ((0, 0), (0, 0))
theorem gS_ok {R : List Sp} (h : OkR R) {i : Nat} (hi : i < R.length) : OkS (gS R i) := by
  unfold gS
  rw [List.getD_eq_getElem?_getD, List.getElem?_eq_getElem hi, Option.getD_some]
  exact h.1 _ (List.getElem_mem hi)
theorem at_S {R : List Sp} {i : Nat} (hi : i < R.length) : atI (R.map eS) (i : Int) = some (eS (gS R i)) := by
  unfold gS
  rw [atI_nat _ _ (by rw [List.length_map]; exact hi), List.getElem_map, List.getD_eq_getElem?_getD, List.getElem?_eq_getElem hi, Option.getD_some]
def np (R : List Sp) (f : Int) (i j : Nat) : Bool := decide (nq (gS R i) (gS R j) < ((f * f : Int) : Rat))
theorem pairs_near_eq {R : List Sp} (hR : OkR R) {f : Int} (hf : Sm 20 f) : d_pairs_near [.tuple (R.map eS), .int f] = some (.tuple ((prs R.length (np R f)).map eP)) := by
  have hl : ((R.map eS).length : Int) = (R.length : Int) := by rw [List.length_map]
  have h4 := hR.2
  have g1 := rg0 R.length (by omega)
  have mf := mok (hf.mono (k := 100) (by omega)) (hf.mono (k := 100) (by omega))
  have w := whole_rd (f * f)
  have ff : SR 900 ((f * f : Int) : Rat) := SR.int ((hf.mul hf).mono (by omega))
  have hit : xIt oR1 (xCons (xCall bLen (xCons (xVar 0) xNil)) xNil) [some (.tuple (R.map eS)), some (.int f), none, none] = some ((List.range R.length).map fun k : Nat => PyData.int (k : Nat)) := by
    generalize R.map eS = MR at *
    simp -implicitDefEqProofs only [xVar_a, xC_a, xBin_a, xUn_a, tOf_a, tTru_a, tNotP_a, tAndP_a, tOrP_a, tyes_a, tno_a, tYesP_a, xNil_a, xCons_a, xTup_a, xLst_a, xAnd_a, xOr_a, xIf_a, xChain_a, oNo_a, oAt_a, xSl_a, xCall_a, xSeq_a, xIt_a, xLc_a, gSet_a, gTupD_a, gsNil_a, gsCons_a, sNop_a, sBrk_a, sCnt_a, sSeq_a, sRet_a, sIf_a, sSet_a, sTgt_a, sAug_a, sApp_a, sExt_a, sPut_a, sPutK_a, pkO_s, sFor_a, sWhile_a, sPar_a, runD_a, b2_s, c2_s, sqO_nx, sqO_rt, sqO_bk, sqO_ct, ifO_t, ifO_f, stO_s, endO_nx, endO_rt, andO_t, andO_f, orO_t, orO_f, chO_s, chP_t, chP_f, slO_s, atO_i, lcO_s, forO_s, gsO_s, nxO_s, tgO_s, paO_s, apO_s, exO_s, plO_s, ptO_s, dB_b, tru_b, tru_n, tru_i, tru_l, tru_t, is_n, isn_n, nn_n, nn_i, nn_b, nn_t, nn_l, add_ii, add'_ii, sub_ii, neg_i, lt_ii, le_ii, gt_ii, ge_ii, ix_l, ix_t, ix_s, at0, at1, at2, sl_l, sl_t, len_l, len_t, len_s, abs_i, int_i, int_b, max_ii, min_ii, tup_s, lst_s, seq_l, seq_t, sum_s, wipe_n, wipe_c, mul_ii, fdiv_ii, mod_ii, add_ll, add_tt, setAll, mkT, mkL, oNot, List.getD_cons_zero, List.getD_cons_succ, List.length_cons, List.length_nil, List.set_cons_zero, List.set_cons_succ, List.map_cons, List.map_nil, List.replicate, List.cons_append, List.nil_append, List.append_nil, Option.bind_some, Option.map_some, List.all_cons, List.all_nil, if_true, if_false, reduceIte, Nat.reduceAdd, Nat.reduceSub, Nat.reduceLT, Nat.reduceLeDiff, Nat.reduceEqDiff, decide_true, decide_false, Bool.and_true, Bool.and_self, Bool.true_and, Bool.not_true, Bool.not_false, ne_eq, not_true_eq_false, not_false_eq_true, Nat.zero_add, Bool.false_eq_true, and_self, true_and, and_true, hl, g1]
  have c1 : lc2L (gSet 2) tYesP (xIt oR2 (xCons (xBin oAdd (xVar 2) (xC (.int 1))) (xCons (xCall bLen (xCons (xVar 0) xNil)) xNil))) (gSet 3) (tTru (xCall (fun ds => if ds.length = 2 then (d_is_less) ds else none) (xCons (xCall (fun ds => if ds.length = 2 then (d_nearest_square) ds else none) (xCons (xBin oIx (xVar 0) (xVar 2)) (xCons (xBin oIx (xVar 0) (xVar 3)) xNil))) (xCons (xCall (fun ds => if ds.length = 1 then (d_whole) ds else none) (xCons (xBin oMul' (xVar 1) (xVar 1)) xNil)) xNil)))) (xTup (xCons (xVar 2) (xCons (xVar 3) xNil))) [3] (wipeP [some (.tuple (R.map eS)), some (.int f), none, none] [2, 3]) ((List.range R.length).map fun k : Nat => PyData.int (k : Nat)) = some ((List.range R.length).flatMap fun i => (((js i R.length).filter (np R f i)).map (pr i)).map eP) := by
    refine lc2L_flat (fun k : Nat => PyData.int (k : Nat)) _ _ fun i hi => ?_
    have hi : i < R.length := by simpa using hi
    have g2 := rg2 (i := i) (n := R.length) (by omega) (by omega)
    have a1 := at_S hi
    refine ⟨[some (.tuple (R.map eS)), some (.int f), some (.int (i : Nat)), none], _, rfl, (?_ : _ = some ((js i R.length).map fun j : Nat => PyData.int (j : Nat))), ?_⟩
    · generalize R.map eS = MR at *
      simp -implicitDefEqProofs only [xVar_a, xC_a, xBin_a, xUn_a, tOf_a, tTru_a, tNotP_a, tAndP_a, tOrP_a, tyes_a, tno_a, tYesP_a, xNil_a, xCons_a, xTup_a, xLst_a, xAnd_a, xOr_a, xIf_a, xChain_a, oNo_a, oAt_a, xSl_a, xCall_a, xSeq_a, xIt_a, xLc_a, gSet_a, gTupD_a, gsNil_a, gsCons_a, sNop_a, sBrk_a, sCnt_a, sSeq_a, sRet_a, sIf_a, sSet_a, sTgt_a, sAug_a, sApp_a, sExt_a, sPut_a, sPutK_a, pkO_s, sFor_a, sWhile_a, sPar_a, runD_a, b2_s, c2_s, sqO_nx, sqO_rt, sqO_bk, sqO_ct, ifO_t, ifO_f, stO_s, endO_nx, endO_rt, andO_t, andO_f, orO_t, orO_f, chO_s, chP_t, chP_f, slO_s, atO_i, lcO_s, forO_s, gsO_s, nxO_s, tgO_s, paO_s, apO_s, exO_s, plO_s, ptO_s, dB_b, tru_b, tru_n, tru_i, tru_l, tru_t, is_n, isn_n, nn_n, nn_i, nn_b, nn_t, nn_l, add_ii, add'_ii, sub_ii, neg_i, lt_ii, le_ii, gt_ii, ge_ii, ix_l, ix_t, ix_s, at0, at1, at2, sl_l, sl_t, len_l, len_t, len_s, abs_i, int_i, int_b, max_ii, min_ii, tup_s, lst_s, seq_l, seq_t, sum_s, wipe_n, wipe_c, mul_ii, fdiv_ii, mod_ii, add_ll, add_tt, setAll, mkT, mkL, oNot, List.getD_cons_zero, List.getD_cons_succ, List.length_cons, List.length_nil, List.set_cons_zero, List.set_cons_succ, List.map_cons, List.map_nil, List.replicate, List.cons_append, List.nil_append, List.append_nil, Option.bind_some, Option.map_some, List.all_cons, List.all_nil, if_true, if_false, reduceIte, Nat.reduceAdd, Nat.reduceSub, Nat.reduceLT, Nat.reduceLeDiff, Nat.reduceEqDiff, decide_true, decide_false, Bool.and_true, Bool.and_self, Bool.true_and, Bool.not_true, Bool.not_false, ne_eq, not_true_eq_false, not_false_eq_true, Nat.zero_add, Bool.false_eq_true, and_self, true_and, and_true, hl, g2]
    · rw [List.map_map]
      refine lcL_filter (fun j : Nat => PyData.int (j : Nat)) _ (np R f i) _ fun j hj => ⟨[some (.tuple (R.map eS)), some (.int f), some (.int (i : Nat)), some (.int (j : Nat))], rfl, ?_, fun _ => ?_⟩
      · have hj := (js_mem.mp hj).2
        have a2 := at_S hj
        have n := nearest_square_eq (gS_ok hR hi) (gS_ok hR hj)
        have il := is_less_rd ((sr_nq (gS_ok hR hi) (gS_ok hR hj)).mono (k := 900) (by omega)) ff
        have e : np R f i j = decide (nq (gS R i) (gS R j) < ((f * f : Int) : Rat)) := rfl
        rw [← e] at il
        generalize eS (gS R i) = E1 at *
        generalize eS (gS R j) = E2 at *
        generalize R.map eS = MR at *
        generalize rd (nq (gS R i) (gS R j)) = R1 at *
        generalize rd ((f * f : Int) : Rat) = R2 at *
        simp -implicitDefEqProofs only [xVar_a, xC_a, xBin_a, xUn_a, tOf_a, tTru_a, tNotP_a, tAndP_a, tOrP_a, tyes_a, tno_a, tYesP_a, xNil_a, xCons_a, xTup_a, xLst_a, xAnd_a, xOr_a, xIf_a, xChain_a, oNo_a, oAt_a, xSl_a, xCall_a, xSeq_a, xIt_a, xLc_a, gSet_a, gTupD_a, gsNil_a, gsCons_a, sNop_a, sBrk_a, sCnt_a, sSeq_a, sRet_a, sIf_a, sSet_a, sTgt_a, sAug_a, sApp_a, sExt_a, sPut_a, sPutK_a, pkO_s, sFor_a, sWhile_a, sPar_a, runD_a, b2_s, c2_s, sqO_nx, sqO_rt, sqO_bk, sqO_ct, ifO_t, ifO_f, stO_s, endO_nx, endO_rt, andO_t, andO_f, orO_t, orO_f, chO_s, chP_t, chP_f, slO_s, atO_i, lcO_s, forO_s, gsO_s, nxO_s, tgO_s, paO_s, apO_s, exO_s, plO_s, ptO_s, dB_b, tru_b, tru_n, tru_i, tru_l, tru_t, is_n, isn_n, nn_n, nn_i, nn_b, nn_t, nn_l, add_ii, add'_ii, sub_ii, neg_i, lt_ii, le_ii, gt_ii, ge_ii, ix_l, ix_t, ix_s, at0, at1, at2, sl_l, sl_t, len_l, len_t, len_s, abs_i, int_i, int_b, max_ii, min_ii, tup_s, lst_s, seq_l, seq_t, sum_s, wipe_n, wipe_c, mul_ii, fdiv_ii, mod_ii, add_ll, add_tt, setAll, mkT, mkL, oNot, List.getD_cons_zero, List.getD_cons_succ, List.length_cons, List.length_nil, List.set_cons_zero, List.set_cons_succ, List.map_cons, List.map_nil, List.replicate, List.cons_append, List.nil_append, List.append_nil, Option.bind_some, Option.map_some, List.all_cons, List.all_nil, if_true, if_false, reduceIte, Nat.reduceAdd, Nat.reduceSub, Nat.reduceLT, Nat.reduceLeDiff, Nat.reduceEqDiff, decide_true, decide_false, Bool.and_true, Bool.and_self, Bool.true_and, Bool.not_true, Bool.not_false, ne_eq, not_true_eq_false, not_false_eq_true, Nat.zero_add, Bool.false_eq_true, and_self, true_and, and_true, a1, a2, n, mf, w, il]
      · generalize R.map eS = MR at *
        simp -implicitDefEqProofs only [xVar_a, xC_a, xBin_a, xUn_a, tOf_a, tTru_a, tNotP_a, tAndP_a, tOrP_a, tyes_a, tno_a, tYesP_a, xNil_a, xCons_a, xTup_a, xLst_a, xAnd_a, xOr_a, xIf_a, xChain_a, oNo_a, oAt_a, xSl_a, xCall_a, xSeq_a, xIt_a, xLc_a, gSet_a, gTupD_a, gsNil_a, gsCons_a, sNop_a, sBrk_a, sCnt_a, sSeq_a, sRet_a, sIf_a, sSet_a, sTgt_a, sAug_a, sApp_a, sExt_a, sPut_a, sPutK_a, pkO_s, sFor_a, sWhile_a, sPar_a, runD_a, b2_s, c2_s, sqO_nx, sqO_rt, sqO_bk, sqO_ct, ifO_t, ifO_f, stO_s, endO_nx, endO_rt, andO_t, andO_f, orO_t, orO_f, chO_s, chP_t, chP_f, slO_s, atO_i, lcO_s, forO_s, gsO_s, nxO_s, tgO_s, paO_s, apO_s, exO_s, plO_s, ptO_s, dB_b, tru_b, tru_n, tru_i, tru_l, tru_t, is_n, isn_n, nn_n, nn_i, nn_b, nn_t, nn_l, add_ii, add'_ii, sub_ii, neg_i, lt_ii, le_ii, gt_ii, ge_ii, ix_l, ix_t, ix_s, at0, at1, at2, sl_l, sl_t, len_l, len_t, len_s, abs_i, int_i, int_b, max_ii, min_ii, tup_s, lst_s, seq_l, seq_t, sum_s, wipe_n, wipe_c, mul_ii, fdiv_ii, mod_ii, add_ll, add_tt, setAll, mkT, mkL, oNot, List.getD_cons_zero, List.getD_cons_succ, List.length_cons, List.length_nil, List.set_cons_zero, List.set_cons_succ, List.map_cons, List.map_nil, List.replicate, List.cons_append, List.nil_append, List.append_nil, Option.bind_some, Option.map_some, List.all_cons, List.all_nil, if_true, if_false, reduceIte, Nat.reduceAdd, Nat.reduceSub, Nat.reduceLT, Nat.reduceLeDiff, Nat.reduceEqDiff, decide_true, decide_false, Bool.and_true, Bool.and_self, Bool.true_and, Bool.not_true, Bool.not_false, ne_eq, not_true_eq_false, not_false_eq_true, Nat.zero_add, Bool.false_eq_true, and_self, true_and, and_true]
        rfl
  have hlc := xLc2_a (ρ := [some (.tuple (R.map eS)), some (.int f), none, none]) (xIt oR1 (xCons (xCall bLen (xCons (xVar 0) xNil)) xNil)) (gSet 2) tYesP (xIt oR2 (xCons (xBin oAdd (xVar 2) (xC (.int 1))) (xCons (xCall bLen (xCons (xVar 0) xNil)) xNil))) (gSet 3) (tTru (xCall (fun ds => if ds.length = 2 then (d_is_less) ds else none) (xCons (xCall (fun ds => if ds.length = 2 then (d_nearest_square) ds else none) (xCons (xBin oIx (xVar 0) (xVar 2)) (xCons (xBin oIx (xVar 0) (xVar 3)) xNil))) (xCons (xCall (fun ds => if ds.length = 1 then (d_whole) ds else none) (xCons (xBin oMul' (xVar 1) (xVar 1)) xNil)) xNil)))) (xTup (xCons (xVar 2) (xCons (xVar 3) xNil))) [2, 3] [3] _ hit
  have hpl := prs_len (p := np R f) (show R.length ≤ 4 from h4)
  rw [c1, Option.bind_some, fl_map] at hlc
  rw [show (List.range R.length).flatMap (fun i => ((js i R.length).filter (np R f i)).map (pr i)) = prs R.length (np R f) from rfl, if_pos (by rw [List.length_map]; omega)] at hlc
  generalize (prs R.length (np R f)).map eP = PP at *
  generalize R.map eS = MR at *
  simp -implicitDefEqProofs only [d_pairs_near, g_pairs_near, xVar_a, xC_a, xBin_a, xUn_a, tOf_a, tTru_a, tNotP_a, tAndP_a, tOrP_a, tyes_a, tno_a, tYesP_a, xNil_a, xCons_a, xTup_a, xLst_a, xAnd_a, xOr_a, xIf_a, xChain_a, oNo_a, oAt_a, xSl_a, xCall_a, xSeq_a, xIt_a, xLc_a, gSet_a, gTupD_a, gsNil_a, gsCons_a, sNop_a, sBrk_a, sCnt_a, sSeq_a, sRet_a, sIf_a, sSet_a, sTgt_a, sAug_a, sApp_a, sExt_a, sPut_a, sPutK_a, pkO_s, sFor_a, sWhile_a, sPar_a, runD_a, b2_s, c2_s, sqO_nx, sqO_rt, sqO_bk, sqO_ct, ifO_t, ifO_f, stO_s, endO_nx, endO_rt, andO_t, andO_f, orO_t, orO_f, chO_s, chP_t, chP_f, slO_s, atO_i, lcO_s, forO_s, gsO_s, nxO_s, tgO_s, paO_s, apO_s, exO_s, plO_s, ptO_s, dB_b, tru_b, tru_n, tru_i, tru_l, tru_t, is_n, isn_n, nn_n, nn_i, nn_b, nn_t, nn_l, add_ii, add'_ii, sub_ii, neg_i, lt_ii, le_ii, gt_ii, ge_ii, ix_l, ix_t, ix_s, at0, at1, at2, sl_l, sl_t, len_l, len_t, len_s, abs_i, int_i, int_b, max_ii, min_ii, tup_s, lst_s, seq_l, seq_t, sum_s, wipe_n, wipe_c, mul_ii, fdiv_ii, mod_ii, add_ll, add_tt, setAll, mkT, mkL, oNot, List.getD_cons_zero, List.getD_cons_succ, List.length_cons, List.length_nil, List.set_cons_zero, List.set_cons_succ, List.map_cons, List.map_nil, List.replicate, List.cons_append, List.nil_append, List.append_nil, Option.bind_some, Option.map_some, List.all_cons, List.all_nil, if_true, if_false, reduceIte, Nat.reduceAdd, Nat.reduceSub, Nat.reduceLT, Nat.reduceLeDiff, Nat.reduceEqDiff, decide_true, decide_false, Bool.and_true, Bool.and_self, Bool.true_and, Bool.not_true, Bool.not_false, ne_eq, not_true_eq_false, not_false_eq_true, Nat.zero_add, Bool.false_eq_true, and_self, true_and, and_true, hlc]
/-- the square of how far they are at a whole hour -/
def apI (s t : Sp) (h : Int) : Int := far s t + 2 * h * both s t + h * h * speed s t
def oN : Option Nat → D
  | none => .none
  | some h => .int (h : Nat)
theorem first_within_eq {s t : Sp} (hs : OkS s) (ht : OkS t) {f : Int} (hf : Sm 20 f) {b : Nat} (hb : b ≤ 100) : d_first_within [eS s, eS t, .int f, .int (b : Nat)] = some (oN ((List.range (b + 1)).find? fun h => decide (apI s t (h : Nat) ≤ f * f))) := by
  have g : oR1 [.int ((b : Int) + 1)] = some ((List.range (b + 1)).map fun k : Nat => PyData.int (k : Nat)) := rg0 (b + 1) (by omega)
  have mf := mok (hf.mono (k := 100) (by omega)) (hf.mono (k := 100) (by omega))
  have w := whole_rd
  have := forL_find (g := gSet 4) (b := l1_first_within) (fun k : Nat => PyData.int (k : Nat)) (fun h => decide (apI s t (h : Nat) ≤ f * f)) (fun ρ => ∃ j, ρ = [some (eS s), some (eS t), some (.int f), some (.int (b : Nat)), j]) (fun k : Nat => PyData.int (k : Nat)) (List.range (b + 1)) (fun h hh ρ ⟨j, e⟩ => by
    subst e
    have hh : h < b + 1 := by simpa using hh
    have sh : Sm 10 (h : Int) := by unfold Sm; omega
    have ap := apart_at_eq hs ht (h := ((h : Int) : Rat)) ((SR.int sh).mono (by omega))
    have ei : ((dx s t : Rat) + (da s t : Rat) * ((h : Int) : Rat)) * ((dx s t : Rat) + (da s t : Rat) * ((h : Int) : Rat)) + ((dy s t : Rat) + (du s t : Rat) * ((h : Int) : Rat)) * ((dy s t : Rat) + (du s t : Rat) * ((h : Int) : Rat)) = ((apI s t (h : Nat) : Int) : Rat) := by
      unfold apI far both speed
      simp only [Rat.intCast_add, Rat.intCast_mul]
      generalize (dx s t : Rat) = x
      generalize (dy s t : Rat) = y
      generalize (da s t : Rat) = a
      generalize (du s t : Rat) = u
      generalize ((h : Int) : Rat) = k
      rw [show ((2 : Int) : Rat) = (2 : Rat) from rfl]
      grind
    rw [ei] at ap
    have sa : Sm 60 (apI s t (h : Nat)) := by
      have h2 : Sm 21 (2 * (h : Int)) := ((Sm.lit (k := 10) (a := 2)).mul sh).mono (by omega)
      have h3 := (h2.mul (sm_both hs ht)).mono (k := 55) (by omega)
      have h4 := ((sh.mul sh).mul (sm_speed hs ht)).mono (k := 56) (by omega)
      exact (((((sm_far hs ht).mono (k := 55) (by omega)).add h3).add h4).mono (by omega))
    have il := is_less_rd (x := ((f * f : Int) : Rat)) (y := ((apI s t (h : Nat) : Int) : Rat)) (SR.int ((hf.mul hf).mono (by omega))) (SR.int (sa.mono (by omega)))
    have dd : decide (((f * f : Int) : Rat) < ((apI s t (h : Nat) : Int) : Rat)) = decide (f * f < apI s t (h : Nat)) := decide_eq_decide.mpr Rat.intCast_lt_intCast
    rw [dd] at il
    refine ⟨_, rfl, fun hp => ?_, fun hp => ⟨[some (eS s), some (eS t), some (.int f), some (.int (b : Nat)), some (.int (h : Nat))], ?_, _, rfl⟩⟩
    · have hp := of_decide_eq_true hp
      have d1 : decide (f * f < apI s t (h : Nat)) = false := decide_eq_false (by omega)
      generalize eS s = ES at *
      generalize eS t = ET at *
      generalize rd ((apI s t (h : Nat) : Int) : Rat) = R1 at *
      simp -implicitDefEqProofs only [l1_first_within, xVar_a, xC_a, xBin_a, xUn_a, tOf_a, tTru_a, tNotP_a, tAndP_a, tOrP_a, tyes_a, tno_a, tYesP_a, xNil_a, xCons_a, xTup_a, xLst_a, xAnd_a, xOr_a, xIf_a, xChain_a, oNo_a, oAt_a, xSl_a, xCall_a, xSeq_a, xIt_a, xLc_a, gSet_a, gTupD_a, gsNil_a, gsCons_a, sNop_a, sBrk_a, sCnt_a, sSeq_a, sRet_a, sIf_a, sSet_a, sTgt_a, sAug_a, sApp_a, sExt_a, sPut_a, sPutK_a, pkO_s, sFor_a, sWhile_a, sPar_a, runD_a, b2_s, c2_s, sqO_nx, sqO_rt, sqO_bk, sqO_ct, ifO_t, ifO_f, stO_s, endO_nx, endO_rt, andO_t, andO_f, orO_t, orO_f, chO_s, chP_t, chP_f, slO_s, atO_i, lcO_s, forO_s, gsO_s, nxO_s, tgO_s, paO_s, apO_s, exO_s, plO_s, ptO_s, dB_b, tru_b, tru_n, tru_i, tru_l, tru_t, is_n, isn_n, nn_n, nn_i, nn_b, nn_t, nn_l, add_ii, add'_ii, sub_ii, neg_i, lt_ii, le_ii, gt_ii, ge_ii, ix_l, ix_t, ix_s, at0, at1, at2, sl_l, sl_t, len_l, len_t, len_s, abs_i, int_i, int_b, max_ii, min_ii, tup_s, lst_s, seq_l, seq_t, sum_s, wipe_n, wipe_c, mul_ii, fdiv_ii, mod_ii, add_ll, add_tt, setAll, mkT, mkL, oNot, List.getD_cons_zero, List.getD_cons_succ, List.length_cons, List.length_nil, List.set_cons_zero, List.set_cons_succ, List.map_cons, List.map_nil, List.replicate, List.cons_append, List.nil_append, List.append_nil, Option.bind_some, Option.map_some, List.all_cons, List.all_nil, if_true, if_false, reduceIte, Nat.reduceAdd, Nat.reduceSub, Nat.reduceLT, Nat.reduceLeDiff, Nat.reduceEqDiff, decide_true, decide_false, Bool.and_true, Bool.and_self, Bool.true_and, Bool.not_true, Bool.not_false, ne_eq, not_true_eq_false, not_false_eq_true, Nat.zero_add, Bool.false_eq_true, and_self, true_and, and_true, mf, w, ap, il, d1]
    · have hp := of_decide_eq_false hp
      have d1 : decide (f * f < apI s t (h : Nat)) = true := decide_eq_true (by omega)
      generalize eS s = ES at *
      generalize eS t = ET at *
      generalize rd ((apI s t (h : Nat) : Int) : Rat) = R1 at *
      simp -implicitDefEqProofs only [l1_first_within, xVar_a, xC_a, xBin_a, xUn_a, tOf_a, tTru_a, tNotP_a, tAndP_a, tOrP_a, tyes_a, tno_a, tYesP_a, xNil_a, xCons_a, xTup_a, xLst_a, xAnd_a, xOr_a, xIf_a, xChain_a, oNo_a, oAt_a, xSl_a, xCall_a, xSeq_a, xIt_a, xLc_a, gSet_a, gTupD_a, gsNil_a, gsCons_a, sNop_a, sBrk_a, sCnt_a, sSeq_a, sRet_a, sIf_a, sSet_a, sTgt_a, sAug_a, sApp_a, sExt_a, sPut_a, sPutK_a, pkO_s, sFor_a, sWhile_a, sPar_a, runD_a, b2_s, c2_s, sqO_nx, sqO_rt, sqO_bk, sqO_ct, ifO_t, ifO_f, stO_s, endO_nx, endO_rt, andO_t, andO_f, orO_t, orO_f, chO_s, chP_t, chP_f, slO_s, atO_i, lcO_s, forO_s, gsO_s, nxO_s, tgO_s, paO_s, apO_s, exO_s, plO_s, ptO_s, dB_b, tru_b, tru_n, tru_i, tru_l, tru_t, is_n, isn_n, nn_n, nn_i, nn_b, nn_t, nn_l, add_ii, add'_ii, sub_ii, neg_i, lt_ii, le_ii, gt_ii, ge_ii, ix_l, ix_t, ix_s, at0, at1, at2, sl_l, sl_t, len_l, len_t, len_s, abs_i, int_i, int_b, max_ii, min_ii, tup_s, lst_s, seq_l, seq_t, sum_s, wipe_n, wipe_c, mul_ii, fdiv_ii, mod_ii, add_ll, add_tt, setAll, mkT, mkL, oNot, List.getD_cons_zero, List.getD_cons_succ, List.length_cons, List.length_nil, List.set_cons_zero, List.set_cons_succ, List.map_cons, List.map_nil, List.replicate, List.cons_append, List.nil_append, List.append_nil, Option.bind_some, Option.map_some, List.all_cons, List.all_nil, if_true, if_false, reduceIte, Nat.reduceAdd, Nat.reduceSub, Nat.reduceLT, Nat.reduceLeDiff, Nat.reduceEqDiff, decide_true, decide_false, Bool.and_true, Bool.and_self, Bool.true_and, Bool.not_true, Bool.not_false, ne_eq, not_true_eq_false, not_false_eq_true, Nat.zero_add, Bool.false_eq_true, and_self, true_and, and_true, mf, w, ap, il, d1]) [some (eS s), some (eS t), some (.int f), some (.int (b : Nat)), none] ⟨_, rfl⟩
  rcases this with ⟨x, e1, e2⟩ | ⟨e1, ρ', e2, j, e3⟩
  · rw [e1]
    show _ = some (PyData.int (x : Nat))
    generalize eS s = ES at *
    generalize eS t = ET at *
    generalize (List.range (b + 1)).map (fun k : Nat => PyData.int (k : Nat)) = RR at *
    simp -implicitDefEqProofs only [d_first_within, g_first_within, xVar_a, xC_a, xBin_a, xUn_a, tOf_a, tTru_a, tNotP_a, tAndP_a, tOrP_a, tyes_a, tno_a, tYesP_a, xNil_a, xCons_a, xTup_a, xLst_a, xAnd_a, xOr_a, xIf_a, xChain_a, oNo_a, oAt_a, xSl_a, xCall_a, xSeq_a, xIt_a, xLc_a, gSet_a, gTupD_a, gsNil_a, gsCons_a, sNop_a, sBrk_a, sCnt_a, sSeq_a, sRet_a, sIf_a, sSet_a, sTgt_a, sAug_a, sApp_a, sExt_a, sPut_a, sPutK_a, pkO_s, sFor_a, sWhile_a, sPar_a, runD_a, b2_s, c2_s, sqO_nx, sqO_rt, sqO_bk, sqO_ct, ifO_t, ifO_f, stO_s, endO_nx, endO_rt, andO_t, andO_f, orO_t, orO_f, chO_s, chP_t, chP_f, slO_s, atO_i, lcO_s, forO_s, gsO_s, nxO_s, tgO_s, paO_s, apO_s, exO_s, plO_s, ptO_s, dB_b, tru_b, tru_n, tru_i, tru_l, tru_t, is_n, isn_n, nn_n, nn_i, nn_b, nn_t, nn_l, add_ii, add'_ii, sub_ii, neg_i, lt_ii, le_ii, gt_ii, ge_ii, ix_l, ix_t, ix_s, at0, at1, at2, sl_l, sl_t, len_l, len_t, len_s, abs_i, int_i, int_b, max_ii, min_ii, tup_s, lst_s, seq_l, seq_t, sum_s, wipe_n, wipe_c, mul_ii, fdiv_ii, mod_ii, add_ll, add_tt, setAll, mkT, mkL, oNot, List.getD_cons_zero, List.getD_cons_succ, List.length_cons, List.length_nil, List.set_cons_zero, List.set_cons_succ, List.map_cons, List.map_nil, List.replicate, List.cons_append, List.nil_append, List.append_nil, Option.bind_some, Option.map_some, List.all_cons, List.all_nil, if_true, if_false, reduceIte, Nat.reduceAdd, Nat.reduceSub, Nat.reduceLT, Nat.reduceLeDiff, Nat.reduceEqDiff, decide_true, decide_false, Bool.and_true, Bool.and_self, Bool.true_and, Bool.not_true, Bool.not_false, ne_eq, not_true_eq_false, not_false_eq_true, Nat.zero_add, Bool.false_eq_true, and_self, true_and, and_true, g, e2]
  · subst e3
    rw [e1]
    show _ = some PyData.none
    generalize eS s = ES at *
    generalize eS t = ET at *
    generalize (List.range (b + 1)).map (fun k : Nat => PyData.int (k : Nat)) = RR at *
    simp -implicitDefEqProofs only [d_first_within, g_first_within, xVar_a, xC_a, xBin_a, xUn_a, tOf_a, tTru_a, tNotP_a, tAndP_a, tOrP_a, tyes_a, tno_a, tYesP_a, xNil_a, xCons_a, xTup_a, xLst_a, xAnd_a, xOr_a, xIf_a, xChain_a, oNo_a, oAt_a, xSl_a, xCall_a, xSeq_a, xIt_a, xLc_a, gSet_a, gTupD_a, gsNil_a, gsCons_a, sNop_a, sBrk_a, sCnt_a, sSeq_a, sRet_a, sIf_a, sSet_a, sTgt_a, sAug_a, sApp_a, sExt_a, sPut_a, sPutK_a, pkO_s, sFor_a, sWhile_a, sPar_a, runD_a, b2_s, c2_s, sqO_nx, sqO_rt, sqO_bk, sqO_ct, ifO_t, ifO_f, stO_s, endO_nx, endO_rt, andO_t, andO_f, orO_t, orO_f, chO_s, chP_t, chP_f, slO_s, atO_i, lcO_s, forO_s, gsO_s, nxO_s, tgO_s, paO_s, apO_s, exO_s, plO_s, ptO_s, dB_b, tru_b, tru_n, tru_i, tru_l, tru_t, is_n, isn_n, nn_n, nn_i, nn_b, nn_t, nn_l, add_ii, add'_ii, sub_ii, neg_i, lt_ii, le_ii, gt_ii, ge_ii, ix_l, ix_t, ix_s, at0, at1, at2, sl_l, sl_t, len_l, len_t, len_s, abs_i, int_i, int_b, max_ii, min_ii, tup_s, lst_s, seq_l, seq_t, sum_s, wipe_n, wipe_c, mul_ii, fdiv_ii, mod_ii, add_ll, add_tt, setAll, mkT, mkL, oNot, List.getD_cons_zero, List.getD_cons_succ, List.length_cons, List.length_nil, List.set_cons_zero, List.set_cons_succ, List.map_cons, List.map_nil, List.replicate, List.cons_append, List.nil_append, List.append_nil, Option.bind_some, Option.map_some, List.all_cons, List.all_nil, if_true, if_false, reduceIte, Nat.reduceAdd, Nat.reduceSub, Nat.reduceLT, Nat.reduceLeDiff, Nat.reduceEqDiff, decide_true, decide_false, Bool.and_true, Bool.and_self, Bool.true_and, Bool.not_true, Bool.not_false, ne_eq, not_true_eq_false, not_false_eq_true, Nat.zero_add, Bool.false_eq_true, and_self, true_and, and_true, g, e2]
def ab (x : Int) : Int := if x < 0 then -x else x
def way (p q : Pt) : Int := ab (p.1 - q.1) + ab (p.2 - q.2)
theorem way_of_eq (p q : Pt) : d_way_of [eP p, eP q] = some (.int (way p q)) := by
  unfold eP way ab
  simp -implicitDefEqProofs only [d_way_of, g_way_of, xVar_a, xC_a, xBin_a, xUn_a, tOf_a, tTru_a, tNotP_a, tAndP_a, tOrP_a, tyes_a, tno_a, tYesP_a, xNil_a, xCons_a, xTup_a, xLst_a, xAnd_a, xOr_a, xIf_a, xChain_a, oNo_a, oAt_a, xSl_a, xCall_a, xSeq_a, xIt_a, xLc_a, gSet_a, gTupD_a, gsNil_a, gsCons_a, sNop_a, sBrk_a, sCnt_a, sSeq_a, sRet_a, sIf_a, sSet_a, sTgt_a, sAug_a, sApp_a, sExt_a, sPut_a, sPutK_a, pkO_s, sFor_a, sWhile_a, sPar_a, runD_a, b2_s, c2_s, sqO_nx, sqO_rt, sqO_bk, sqO_ct, ifO_t, ifO_f, stO_s, endO_nx, endO_rt, andO_t, andO_f, orO_t, orO_f, chO_s, chP_t, chP_f, slO_s, atO_i, lcO_s, forO_s, gsO_s, nxO_s, tgO_s, paO_s, apO_s, exO_s, plO_s, ptO_s, dB_b, tru_b, tru_n, tru_i, tru_l, tru_t, is_n, isn_n, nn_n, nn_i, nn_b, nn_t, nn_l, add_ii, add'_ii, sub_ii, neg_i, lt_ii, le_ii, gt_ii, ge_ii, ix_l, ix_t, ix_s, at0, at1, at2, sl_l, sl_t, len_l, len_t, len_s, abs_i, int_i, int_b, max_ii, min_ii, tup_s, lst_s, seq_l, seq_t, sum_s, wipe_n, wipe_c, mul_ii, fdiv_ii, mod_ii, add_ll, add_tt, setAll, mkT, mkL, oNot, List.getD_cons_zero, List.getD_cons_succ, List.length_cons, List.length_nil, List.set_cons_zero, List.set_cons_succ, List.map_cons, List.map_nil, List.replicate, List.cons_append, List.nil_append, List.append_nil, Option.bind_some, Option.map_some, List.all_cons, List.all_nil, if_true, if_false, reduceIte, Nat.reduceAdd, Nat.reduceSub, Nat.reduceLT, Nat.reduceLeDiff, Nat.reduceEqDiff, decide_true, decide_false, Bool.and_true, Bool.and_self, Bool.true_and, Bool.not_true, Bool.not_false, ne_eq, not_true_eq_false, not_false_eq_true, Nat.zero_add, Bool.false_eq_true, and_self, true_and, and_true]
theorem way_symm (p q : Pt) : way p q = way q p := by
  unfold way ab
  split <;> split <;> split <;> split <;> omega
theorem way_nn (p q : Pt) : 0 ≤ way p q := by
  unfold way ab
  split <;> split <;> omega
theorem sm_way {p q : Pt} (hp : OkP p) (hq : OkP q) : Sm 13 (way p q) := by
  have h1 := hp.1.sub hq.1
  have h2 := hp.2.sub hq.2
  unfold way ab
  unfold Sm at *
  split <;> split <;> omega
def at_ (s : Sp) (h : Int) : Pt := (s.1.1 + h * s.2.1, s.1.2 + h * s.2.2)
def cO (s : Sp) : Option Nat → D
  | none => .none
  | some h => .tuple [.int (h : Nat), eP (at_ s (h : Nat))]
theorem course_to_eq {p : Pt} {s : Sp} (hs : OkS s) {v : Int} (hv : Sm 10 v) {b : Nat} (hb : b ≤ 100) : d_course_to [eP p, eS s, .int v, .int (b : Nat)] = some (cO s ((List.range (b + 1)).find? fun h => decide (way p (at_ s (h : Nat)) ≤ v * (h : Nat)))) := by
  have g : oR1 [.int ((b : Int) + 1)] = some ((List.range (b + 1)).map fun k : Nat => PyData.int (k : Nat)) := rg0 (b + 1) (by omega)
  have fi : ∀ i, flat (.int i) = true := fun _ => rfl
  have := forL_find (g := gSet 4) (b := l1_course_to) (fun k : Nat => PyData.int (k : Nat)) (fun h => decide (way p (at_ s (h : Nat)) ≤ v * (h : Nat))) (fun ρ => ∃ j l, ρ = [some (eP p), some (eS s), some (.int v), some (.int (b : Nat)), j, l]) (fun h : Nat => .tuple [.int (h : Nat), eP (at_ s (h : Nat))]) (List.range (b + 1)) (fun h hh ρ ⟨j, l, e⟩ => by
    subst e
    have hh : h < b + 1 := by simpa using hh
    have sh : Sm 10 (h : Int) := by unfold Sm; omega
    have m1 := mok (sh.mono (k := 100) (by omega)) (hs.2.1.mono (k := 100) (by omega))
    have m2 := mok (sh.mono (k := 100) (by omega)) (hs.2.2.mono (k := 100) (by omega))
    have m3 := mok (hv.mono (k := 100) (by omega)) (sh.mono (k := 100) (by omega))
    have wy := way_of_eq p (at_ s (h : Nat))
    have ea : eP (at_ s (h : Nat)) = .tuple [.int (s.1.1 + (h : Int) * s.2.1), .int (s.1.2 + (h : Int) * s.2.2)] := rfl
    rw [ea] at wy
    have es : eS s = .tuple [.tuple [.int s.1.1, .int s.1.2], .tuple [.int s.2.1, .int s.2.2]] := rfl
    refine ⟨_, rfl, fun hp => ?_, fun hp => ⟨[some (eP p), some (eS s), some (.int v), some (.int (b : Nat)), some (.int (h : Nat)), some (eP (at_ s (h : Nat)))], ?_, _, _, rfl⟩⟩
    · have hp := of_decide_eq_true hp
      rw [ea, es]
      generalize eP p = EP at *
      generalize way p (at_ s (h : Nat)) = wv at *
      simp -implicitDefEqProofs only [l1_course_to, xVar_a, xC_a, xBin_a, xUn_a, tOf_a, tTru_a, tNotP_a, tAndP_a, tOrP_a, tyes_a, tno_a, tYesP_a, xNil_a, xCons_a, xTup_a, xLst_a, xAnd_a, xOr_a, xIf_a, xChain_a, oNo_a, oAt_a, xSl_a, xCall_a, xSeq_a, xIt_a, xLc_a, gSet_a, gTupD_a, gsNil_a, gsCons_a, sNop_a, sBrk_a, sCnt_a, sSeq_a, sRet_a, sIf_a, sSet_a, sTgt_a, sAug_a, sApp_a, sExt_a, sPut_a, sPutK_a, pkO_s, sFor_a, sWhile_a, sPar_a, runD_a, b2_s, c2_s, sqO_nx, sqO_rt, sqO_bk, sqO_ct, ifO_t, ifO_f, stO_s, endO_nx, endO_rt, andO_t, andO_f, orO_t, orO_f, chO_s, chP_t, chP_f, slO_s, atO_i, lcO_s, forO_s, gsO_s, nxO_s, tgO_s, paO_s, apO_s, exO_s, plO_s, ptO_s, dB_b, tru_b, tru_n, tru_i, tru_l, tru_t, is_n, isn_n, nn_n, nn_i, nn_b, nn_t, nn_l, add_ii, add'_ii, sub_ii, neg_i, lt_ii, le_ii, gt_ii, ge_ii, ix_l, ix_t, ix_s, at0, at1, at2, sl_l, sl_t, len_l, len_t, len_s, abs_i, int_i, int_b, max_ii, min_ii, tup_s, lst_s, seq_l, seq_t, sum_s, wipe_n, wipe_c, mul_ii, fdiv_ii, mod_ii, add_ll, add_tt, setAll, mkT, mkL, oNot, List.getD_cons_zero, List.getD_cons_succ, List.length_cons, List.length_nil, List.set_cons_zero, List.set_cons_succ, List.map_cons, List.map_nil, List.replicate, List.cons_append, List.nil_append, List.append_nil, Option.bind_some, Option.map_some, List.all_cons, List.all_nil, if_true, if_false, reduceIte, Nat.reduceAdd, Nat.reduceSub, Nat.reduceLT, Nat.reduceLeDiff, Nat.reduceEqDiff, decide_true, decide_false, Bool.and_true, Bool.and_self, Bool.true_and, Bool.not_true, Bool.not_false, ne_eq, not_true_eq_false, not_false_eq_true, Nat.zero_add, Bool.false_eq_true, and_self, true_and, and_true, m1, m2, m3, wy, fi, hp]
    · have hp := of_decide_eq_false hp
      rw [ea, es]
      generalize eP p = EP at *
      generalize way p (at_ s (h : Nat)) = wv at *
      simp -implicitDefEqProofs only [l1_course_to, xVar_a, xC_a, xBin_a, xUn_a, tOf_a, tTru_a, tNotP_a, tAndP_a, tOrP_a, tyes_a, tno_a, tYesP_a, xNil_a, xCons_a, xTup_a, xLst_a, xAnd_a, xOr_a, xIf_a, xChain_a, oNo_a, oAt_a, xSl_a, xCall_a, xSeq_a, xIt_a, xLc_a, gSet_a, gTupD_a, gsNil_a, gsCons_a, sNop_a, sBrk_a, sCnt_a, sSeq_a, sRet_a, sIf_a, sSet_a, sTgt_a, sAug_a, sApp_a, sExt_a, sPut_a, sPutK_a, pkO_s, sFor_a, sWhile_a, sPar_a, runD_a, b2_s, c2_s, sqO_nx, sqO_rt, sqO_bk, sqO_ct, ifO_t, ifO_f, stO_s, endO_nx, endO_rt, andO_t, andO_f, orO_t, orO_f, chO_s, chP_t, chP_f, slO_s, atO_i, lcO_s, forO_s, gsO_s, nxO_s, tgO_s, paO_s, apO_s, exO_s, plO_s, ptO_s, dB_b, tru_b, tru_n, tru_i, tru_l, tru_t, is_n, isn_n, nn_n, nn_i, nn_b, nn_t, nn_l, add_ii, add'_ii, sub_ii, neg_i, lt_ii, le_ii, gt_ii, ge_ii, ix_l, ix_t, ix_s, at0, at1, at2, sl_l, sl_t, len_l, len_t, len_s, abs_i, int_i, int_b, max_ii, min_ii, tup_s, lst_s, seq_l, seq_t, sum_s, wipe_n, wipe_c, mul_ii, fdiv_ii, mod_ii, add_ll, add_tt, setAll, mkT, mkL, oNot, List.getD_cons_zero, List.getD_cons_succ, List.length_cons, List.length_nil, List.set_cons_zero, List.set_cons_succ, List.map_cons, List.map_nil, List.replicate, List.cons_append, List.nil_append, List.append_nil, Option.bind_some, Option.map_some, List.all_cons, List.all_nil, if_true, if_false, reduceIte, Nat.reduceAdd, Nat.reduceSub, Nat.reduceLT, Nat.reduceLeDiff, Nat.reduceEqDiff, decide_true, decide_false, Bool.and_true, Bool.and_self, Bool.true_and, Bool.not_true, Bool.not_false, ne_eq, not_true_eq_false, not_false_eq_true, Nat.zero_add, Bool.false_eq_true, and_self, true_and, and_true, m1, m2, m3, wy, fi, hp]) [some (eP p), some (eS s), some (.int v), some (.int (b : Nat)), none, none] ⟨_, _, rfl⟩
  rcases this with ⟨x, e1, e2⟩ | ⟨e1, ρ', e2, j, l, e3⟩
  · rw [e1]
    show _ = some (PyData.tuple [.int (x : Nat), eP (at_ s (x : Nat))])
    generalize eP (at_ s (x : Nat)) = EA at *
    generalize eS s = ES at *
    generalize eP p = EP at *
    generalize (List.range (b + 1)).map (fun k : Nat => PyData.int (k : Nat)) = RR at *
    simp -implicitDefEqProofs only [d_course_to, g_course_to, xVar_a, xC_a, xBin_a, xUn_a, tOf_a, tTru_a, tNotP_a, tAndP_a, tOrP_a, tyes_a, tno_a, tYesP_a, xNil_a, xCons_a, xTup_a, xLst_a, xAnd_a, xOr_a, xIf_a, xChain_a, oNo_a, oAt_a, xSl_a, xCall_a, xSeq_a, xIt_a, xLc_a, gSet_a, gTupD_a, gsNil_a, gsCons_a, sNop_a, sBrk_a, sCnt_a, sSeq_a, sRet_a, sIf_a, sSet_a, sTgt_a, sAug_a, sApp_a, sExt_a, sPut_a, sPutK_a, pkO_s, sFor_a, sWhile_a, sPar_a, runD_a, b2_s, c2_s, sqO_nx, sqO_rt, sqO_bk, sqO_ct, ifO_t, ifO_f, stO_s, endO_nx, endO_rt, andO_t, andO_f, orO_t, orO_f, chO_s, chP_t, chP_f, slO_s, atO_i, lcO_s, forO_s, gsO_s, nxO_s, tgO_s, paO_s, apO_s, exO_s, plO_s, ptO_s, dB_b, tru_b, tru_n, tru_i, tru_l, tru_t, is_n, isn_n, nn_n, nn_i, nn_b, nn_t, nn_l, add_ii, add'_ii, sub_ii, neg_i, lt_ii, le_ii, gt_ii, ge_ii, ix_l, ix_t, ix_s, at0, at1, at2, sl_l, sl_t, len_l, len_t, len_s, abs_i, int_i, int_b, max_ii, min_ii, tup_s, lst_s, seq_l, seq_t, sum_s, wipe_n, wipe_c, mul_ii, fdiv_ii, mod_ii, add_ll, add_tt, setAll, mkT, mkL, oNot, List.getD_cons_zero, List.getD_cons_succ, List.length_cons, List.length_nil, List.set_cons_zero, List.set_cons_succ, List.map_cons, List.map_nil, List.replicate, List.cons_append, List.nil_append, List.append_nil, Option.bind_some, Option.map_some, List.all_cons, List.all_nil, if_true, if_false, reduceIte, Nat.reduceAdd, Nat.reduceSub, Nat.reduceLT, Nat.reduceLeDiff, Nat.reduceEqDiff, decide_true, decide_false, Bool.and_true, Bool.and_self, Bool.true_and, Bool.not_true, Bool.not_false, ne_eq, not_true_eq_false, not_false_eq_true, Nat.zero_add, Bool.false_eq_true, and_self, true_and, and_true, g, e2]
  · subst e3
    rw [e1]
    show _ = some PyData.none
    generalize eS s = ES at *
    generalize eP p = EP at *
    generalize (List.range (b + 1)).map (fun k : Nat => PyData.int (k : Nat)) = RR at *
    simp -implicitDefEqProofs only [d_course_to, g_course_to, xVar_a, xC_a, xBin_a, xUn_a, tOf_a, tTru_a, tNotP_a, tAndP_a, tOrP_a, tyes_a, tno_a, tYesP_a, xNil_a, xCons_a, xTup_a, xLst_a, xAnd_a, xOr_a, xIf_a, xChain_a, oNo_a, oAt_a, xSl_a, xCall_a, xSeq_a, xIt_a, xLc_a, gSet_a, gTupD_a, gsNil_a, gsCons_a, sNop_a, sBrk_a, sCnt_a, sSeq_a, sRet_a, sIf_a, sSet_a, sTgt_a, sAug_a, sApp_a, sExt_a, sPut_a, sPutK_a, pkO_s, sFor_a, sWhile_a, sPar_a, runD_a, b2_s, c2_s, sqO_nx, sqO_rt, sqO_bk, sqO_ct, ifO_t, ifO_f, stO_s, endO_nx, endO_rt, andO_t, andO_f, orO_t, orO_f, chO_s, chP_t, chP_f, slO_s, atO_i, lcO_s, forO_s, gsO_s, nxO_s, tgO_s, paO_s, apO_s, exO_s, plO_s, ptO_s, dB_b, tru_b, tru_n, tru_i, tru_l, tru_t, is_n, isn_n, nn_n, nn_i, nn_b, nn_t, nn_l, add_ii, add'_ii, sub_ii, neg_i, lt_ii, le_ii, gt_ii, ge_ii, ix_l, ix_t, ix_s, at0, at1, at2, sl_l, sl_t, len_l, len_t, len_s, abs_i, int_i, int_b, max_ii, min_ii, tup_s, lst_s, seq_l, seq_t, sum_s, wipe_n, wipe_c, mul_ii, fdiv_ii, mod_ii, add_ll, add_tt, setAll, mkT, mkL, oNot, List.getD_cons_zero, List.getD_cons_succ, List.length_cons, List.length_nil, List.set_cons_zero, List.set_cons_succ, List.map_cons, List.map_nil, List.replicate, List.cons_append, List.nil_append, List.append_nil, Option.bind_some, Option.map_some, List.all_cons, List.all_nil, if_true, if_false, reduceIte, Nat.reduceAdd, Nat.reduceSub, Nat.reduceLT, Nat.reduceLeDiff, Nat.reduceEqDiff, decide_true, decide_false, Bool.and_true, Bool.and_self, Bool.true_and, Bool.not_true, Bool.not_false, ne_eq, not_true_eq_false, not_false_eq_true, Nat.zero_add, Bool.false_eq_true, and_self, true_and, and_true, g, e2]
end K25

namespace K25
open PySem PySem.Spec PyProof.Rows L2 Pm
theorem find_filter {α : Type} (p : α → Bool) : ∀ l : List α, (l.filter p).head? = l.find? p
  | [] => rfl
  | x :: xs => by
    by_cases h : p x = true
    · rw [List.filter_cons_of_pos h, List.find?_cons_of_pos h]; rfl
    · rw [List.filter_cons_of_neg h, List.find?_cons_of_neg h]; exact find_filter p xs
theorem r1_one : oR1 [.int 1] = some [.int 0] := rg0 1 (by omega)
theorem r1_nul : oR1 [.int 0] = some [] := rg0 0 (by omega)
theorem r1_two : oR1 [.int 2] = some [.int 0, .int 1] := rg0 2 (by omega)
theorem sm_nqn {s t : Sp} (hs : OkS s) (ht : OkS t) : Sm 70 ((nq s t).den : Int) := (sr_nq hs ht).2
/-- (hours + [None])[0] -/
theorem first_or (l : List Nat) (hl : l.length ≤ 1000) : ∃ xs, oAdd (.list (l.map fun k : Nat => PyData.int (k : Nat))) (.list [.none]) = some (.list xs) ∧ atI xs 0 = some (oN l.head?) := by
  refine ⟨_, add_ll (by simp; omega), ?_⟩
  cases l with
  | nil => rfl
  | cons x l => exact at0 _ _
theorem like_fst (k : Nat) (o : Option Nat) : d__law_like (k + 1) [oN o, oN o] = some (.bool true) := by
  cases o with
  | none => exact like_none _
  | some h => exact like_int _ _
theorem flat_fst (o : Option Nat) : flat (oN o) = true := by cases o <;> rfl
section
variable {R : List Sp} {r : List Int}
theorem pair_loop (hR : OkR R) {f : Int} (hf : Sm 20 f) {b : Nat} (hb : b ≤ 100) {i : Nat} (hi : i < R.length) (x1 x7 x8 x9 : Option D) (acc : List D) (ha : acc.length ≤ 900) (x10 x11 x12 x13 x14 : Option D) :
    ∃ y10 y11 y12 y13 y14, forL (gSet 10) l2__law_courses ((js i R.length).map fun k : Nat => PyData.int (k : Nat)) [some (.tuple (R.map eS)), x1, some (.int (i : Nat)), some (.int (R.length : Nat)), some (.int f), some (.int (b : Nat)), some (.list acc), x7, x8, x9, x10, x11, x12, x13, x14, none, none] =
      some (.nx [some (.tuple (R.map eS)), x1, some (.int (i : Nat)), some (.int (R.length : Nat)), some (.int f), some (.int (b : Nat)), some (.list (acc ++ ((js i R.length).flatMap fun j => if np R f i j then [pr i j] else []).map eP)), x7, x8, x9, y10, y11, y12, y13, y14, none, none]) := by
  have h4 := hR.2
  have hjl := js_len i R.length
  have hfl := fl_len (fun j => if np R f i j then [pr i j] else []) 1 (js i R.length) (fun j _ => by split <;> simp)
  obtain ⟨ρ', e1, y10, y11, y12, y13, y14, e2⟩ := forL_fl (g := gSet 10) (b := l2__law_courses) (N := 1000) (fun k : Nat => PyData.int (k : Nat)) eP (fun j => if np R f i j then [pr i j] else []) (fun acc ρ => ∃ x10 x11 x12 x13 x14, ρ = [some (.tuple (R.map eS)), x1, some (.int (i : Nat)), some (.int (R.length : Nat)), some (.int f), some (.int (b : Nat)), some (.list acc), x7, x8, x9, x10, x11, x12, x13, x14, none, none]) (js i R.length) acc [some (.tuple (R.map eS)), x1, some (.int (i : Nat)), some (.int (R.length : Nat)), some (.int f), some (.int (b : Nat)), some (.list acc), x7, x8, x9, x10, x11, x12, x13, x14, none, none]
    (fun j hj acc ρ ha ⟨x10, x11, x12, x13, x14, e⟩ => by
      subst e
      have hj := (js_mem.mp hj).2
      have os := gS_ok hR hi
      have ot := gS_ok hR hj
      have a1 := at_S hi
      have a2 := at_S hj
      have ln := law_nearest_eq os ot
      have nhh := nearest_hour_eq os ot
      have nqq := nearest_square_eq ot os
      rw [nq_symm] at nqq
      have tm := they_meet_eq os ot
      have lo := law_off_eq os ot
      have fw := first_within_eq os ot hf hb
      have k1 := like_rd 6 (nh (gS R i) (gS R j))
      have k2 := like_rd 6 (nq (gS R i) (gS R j))
      have k3 := like_bool 7 (decide ((nq (gS R i) (gS R j)).num = 0))
      have q0 := rd_0 (nq (gS R i) (gS R j))
      have q1 := rd_1 (nq (gS R i) (gS R j))
      have m1 := mok (hf.mono (k := 100) (by omega)) (hf.mono (k := 100) (by omega))
      have m2 := mok ((hf.mul hf).mono (k := 100) (by omega)) ((sm_nqn os ot).mono (k := 100) (by omega))
      have hp : np R f i j = decide ((nq (gS R i) (gS R j)).num < f * f * ((nq (gS R i) (gS R j)).den : Int)) := nq_lt _ _ _
      have g : oR1 [.int ((b : Int) + 1)] = some ((List.range (b + 1)).map fun k : Nat => PyData.int (k : Nat)) := rg0 (b + 1) (by omega)
      have ffl := find_filter (fun h : Nat => decide (apI (gS R i) (gS R j) (h : Nat) ≤ f * f)) (List.range (b + 1))
      have flen := List.length_filter_le (fun h : Nat => decide (apI (gS R i) (gS R j) (h : Nat) ≤ f * f)) (List.range (b + 1))
      rw [List.length_range] at flen
      obtain ⟨xs, ad, atx⟩ := first_or ((List.range (b + 1)).filter fun h : Nat => decide (apI (gS R i) (gS R j) (h : Nat) ≤ f * f)) (by omega)
      have k4 := like_fst 7 ((List.range (b + 1)).find? fun h : Nat => decide (apI (gS R i) (gS R j) (h : Nat) ≤ f * f))
      have fl4 := flat_fst ((List.range (b + 1)).find? fun h : Nat => decide (apI (gS R i) (gS R j) (h : Nat) ≤ f * f))
      rw [ffl] at atx
      have hL : ∀ z10 z11 z12 z13 z14 acc', lcL (gSet 15) (tOf (xBin oLe (xBin oAdd (xBin oAdd (xBin oIx (xVar 11) (xC (.int 0))) (xBin oMul' (xBin oMul' (xC (.int 2)) (xVar 15)) (xBin oIx (xVar 11) (xC (.int 1))))) (xBin oMul' (xBin oMul' (xVar 15) (xVar 15)) (xBin oIx (xVar 11) (xC (.int 2))))) (xBin oMul' (xVar 4) (xVar 4)))) (xVar 15) [some (.tuple (R.map eS)), x1, some (.int (i : Nat)), some (.int (R.length : Nat)), some (.int f), some (.int (b : Nat)), some (.list acc'), x7, x8, x9, z10, some (.tuple [.int (far (gS R i) (gS R j)), .int (both (gS R i) (gS R j)), .int (speed (gS R i) (gS R j))]), z12, z13, z14, none, none] ((List.range (b + 1)).map fun k : Nat => PyData.int (k : Nat)) = some (((List.range (b + 1)).filter fun h : Nat => decide (apI (gS R i) (gS R j) (h : Nat) ≤ f * f)).map fun k : Nat => PyData.int (k : Nat)) := fun z10 z11 z12 z13 z14 acc' => by
        refine lcL_filter (fun k : Nat => PyData.int (k : Nat)) (fun k : Nat => PyData.int (k : Nat)) (fun h : Nat => decide (apI (gS R i) (gS R j) (h : Nat) ≤ f * f)) _ fun h hh => ⟨_, rfl, ?_, fun _ => rfl⟩
        have hh : h < b + 1 := by simpa using hh
        have sh : Sm 10 (h : Int) := by unfold Sm; omega
        have s2h : Sm 21 (2 * (h : Int)) := ((Sm.lit (k := 10) (a := 2)).mul sh).mono (by omega)
        have n1 := mok (Sm.lit (k := 100) (a := 2)) (sh.mono (k := 100) (by omega))
        have n2 := mok (s2h.mono (k := 100) (by omega)) ((sm_both os ot).mono (k := 100) (by omega))
        have n3 := mok (sh.mono (k := 100) (by omega)) (sh.mono (k := 100) (by omega))
        have n4 := mok ((sh.mul sh).mono (k := 100) (by omega)) ((sm_speed os ot).mono (k := 100) (by omega))
        unfold apI
        generalize far (gS R i) (gS R j) = F at *
        generalize both (gS R i) (gS R j) = B at *
        generalize speed (gS R i) (gS R j) = S at *
        generalize R.map eS = MR at *
        simp -implicitDefEqProofs only [xVar_a, xC_a, xBin_a, xUn_a, tOf_a, tTru_a, tNotP_a, tAndP_a, tOrP_a, tyes_a, tno_a, tYesP_a, xNil_a, xCons_a, xTup_a, xLst_a, xAnd_a, xOr_a, xIf_a, xChain_a, oNo_a, oAt_a, xSl_a, xCall_a, xSeq_a, xIt_a, xLc_a, gSet_a, gTupD_a, gsNil_a, gsCons_a, sNop_a, sBrk_a, sCnt_a, sSeq_a, sRet_a, sIf_a, sSet_a, sTgt_a, sAug_a, sApp_a, sExt_a, sPut_a, sPutK_a, pkO_s, sFor_a, sWhile_a, sPar_a, runD_a, b2_s, c2_s, sqO_nx, sqO_rt, sqO_bk, sqO_ct, ifO_t, ifO_f, stO_s, endO_nx, endO_rt, andO_t, andO_f, orO_t, orO_f, chO_s, chP_t, chP_f, slO_s, atO_i, lcO_s, forO_s, gsO_s, nxO_s, tgO_s, paO_s, apO_s, exO_s, plO_s, ptO_s, dB_b, tru_b, tru_n, tru_i, tru_l, tru_t, is_n, isn_n, nn_n, nn_i, nn_b, nn_t, nn_l, add_ii, add'_ii, sub_ii, neg_i, lt_ii, le_ii, gt_ii, ge_ii, ix_l, ix_t, ix_s, at0, at1, at2, sl_l, sl_t, len_l, len_t, len_s, abs_i, int_i, int_b, max_ii, min_ii, tup_s, lst_s, seq_l, seq_t, sum_s, wipe_n, wipe_c, mul_ii, fdiv_ii, mod_ii, add_ll, add_tt, setAll, mkT, mkL, oNot, List.getD_cons_zero, List.getD_cons_succ, List.length_cons, List.length_nil, List.set_cons_zero, List.set_cons_succ, List.map_cons, List.map_nil, List.replicate, List.cons_append, List.nil_append, List.append_nil, Option.bind_some, Option.map_some, List.all_cons, List.all_nil, if_true, if_false, reduceIte, Nat.reduceAdd, Nat.reduceSub, Nat.reduceLT, Nat.reduceLeDiff, Nat.reduceEqDiff, decide_true, decide_false, Bool.and_true, Bool.and_self, Bool.true_and, Bool.not_true, Bool.not_false, ne_eq, not_true_eq_false, not_false_eq_true, Nat.zero_add, Bool.false_eq_true, and_self, true_and, and_true, n1, n2, n3, n4, m1]
      have lt : (List.map eP [pr i j]).length = 1 := rfl
      have e16 : (fun (z10 : Option D) => z10) = fun z => z := rfl
      cases hnp : np R f i j with
      | true =>
        rw [hnp] at ha hp
        have ha' : acc.length + 1 ≤ 16777216 := by simp at ha; omega
        refine ⟨_, [some (.tuple (R.map eS)), x1, some (.int (i : Nat)), some (.int (R.length : Nat)), some (.int f), some (.int (b : Nat)), some (.list (acc ++ [.tuple [.int (i : Nat), .int (j : Nat)]])), x7, x8, x9, some (.int (j : Nat)), some (.tuple [.int (far (gS R i) (gS R j)), .int (both (gS R i) (gS R j)), .int (speed (gS R i) (gS R j))]), some (.list (((List.range (b + 1)).filter fun h : Nat => decide (apI (gS R i) (gS R j) (h : Nat) ≤ f * f)).map fun k : Nat => PyData.int (k : Nat))), some (rd (nh (gS R i) (gS R j))), some (rd (nq (gS R i) (gS R j))), none, none], rfl, ?_, some (.int (j : Nat)), some (.tuple [.int (far (gS R i) (gS R j)), .int (both (gS R i) (gS R j)), .int (speed (gS R i) (gS R j))]), some (.list (((List.range (b + 1)).filter fun h : Nat => decide (apI (gS R i) (gS R j) (h : Nat) ≤ f * f)).map fun k : Nat => PyData.int (k : Nat))), some (rd (nh (gS R i) (gS R j))), some (rd (nq (gS R i) (gS R j))), ?_⟩
        · have hp := of_decide_eq_true hp.symm
          have one : (lcL (gSet 16) tYesP (xTup (xCons (xVar 2) (xCons (xVar 10) xNil))) [some (.tuple (R.map eS)), x1, some (.int (i : Nat)), some (.int (R.length : Nat)), some (.int f), some (.int (b : Nat)), some (.list acc), x7, x8, x9, some (.int (j : Nat)), x11, x12, some (rd (nh (gS R i) (gS R j))), some (rd (nq (gS R i) (gS R j))), none, none] [.int 0]) = some [.tuple [.int (i : Nat), .int (j : Nat)]] := by
            generalize rd (nh (gS R i) (gS R j)) = N1 at *
            generalize rd (nq (gS R i) (gS R j)) = N2 at *
            generalize R.map eS = MR at *
            simp -implicitDefEqProofs only [lcL, xVar_a, xC_a, xBin_a, xUn_a, tOf_a, tTru_a, tNotP_a, tAndP_a, tOrP_a, tyes_a, tno_a, tYesP_a, xNil_a, xCons_a, xTup_a, xLst_a, xAnd_a, xOr_a, xIf_a, xChain_a, oNo_a, oAt_a, xSl_a, xCall_a, xSeq_a, xIt_a, xLc_a, gSet_a, gTupD_a, gsNil_a, gsCons_a, sNop_a, sBrk_a, sCnt_a, sSeq_a, sRet_a, sIf_a, sSet_a, sTgt_a, sAug_a, sApp_a, sExt_a, sPut_a, sPutK_a, pkO_s, sFor_a, sWhile_a, sPar_a, runD_a, b2_s, c2_s, sqO_nx, sqO_rt, sqO_bk, sqO_ct, ifO_t, ifO_f, stO_s, endO_nx, endO_rt, andO_t, andO_f, orO_t, orO_f, chO_s, chP_t, chP_f, slO_s, atO_i, lcO_s, forO_s, gsO_s, nxO_s, tgO_s, paO_s, apO_s, exO_s, plO_s, ptO_s, dB_b, tru_b, tru_n, tru_i, tru_l, tru_t, is_n, isn_n, nn_n, nn_i, nn_b, nn_t, nn_l, add_ii, add'_ii, sub_ii, neg_i, lt_ii, le_ii, gt_ii, ge_ii, ix_l, ix_t, ix_s, at0, at1, at2, sl_l, sl_t, len_l, len_t, len_s, abs_i, int_i, int_b, max_ii, min_ii, tup_s, lst_s, seq_l, seq_t, sum_s, wipe_n, wipe_c, mul_ii, fdiv_ii, mod_ii, add_ll, add_tt, setAll, mkT, mkL, oNot, List.getD_cons_zero, List.getD_cons_succ, List.length_cons, List.length_nil, List.set_cons_zero, List.set_cons_succ, List.map_cons, List.map_nil, List.replicate, List.cons_append, List.nil_append, List.append_nil, Option.bind_some, Option.map_some, List.all_cons, List.all_nil, if_true, if_false, reduceIte, Nat.reduceAdd, Nat.reduceSub, Nat.reduceLT, Nat.reduceLeDiff, Nat.reduceEqDiff, decide_true, decide_false, Bool.and_true, Bool.and_self, Bool.true_and, Bool.not_true, Bool.not_false, ne_eq, not_true_eq_false, not_false_eq_true, Nat.zero_add, Bool.false_eq_true, and_self, true_and, and_true]
          generalize oN ((List.range (b + 1)).find? fun h : Nat => decide (apI (gS R i) (gS R j) (h : Nat) ≤ f * f)) = FD at *
          generalize ((List.range (b + 1)).filter fun h : Nat => decide (apI (gS R i) (gS R j) (h : Nat) ≤ f * f)).map (fun k : Nat => PyData.int (k : Nat)) = HL at *
          generalize (List.range (b + 1)).map (fun k : Nat => PyData.int (k : Nat)) = RB at *
          generalize eS (gS R i) = E1 at *
          generalize eS (gS R j) = E2 at *
          generalize rd (nh (gS R i) (gS R j)) = N1 at *
          generalize rd (nq (gS R i) (gS R j)) = N2 at *
          generalize far (gS R i) (gS R j) = F at *
          generalize both (gS R i) (gS R j) = B at *
          generalize speed (gS R i) (gS R j) = S at *
          generalize R.map eS = MR at *
          simp -implicitDefEqProofs only [l2__law_courses, xVar_a, xC_a, xBin_a, xUn_a, tOf_a, tTru_a, tNotP_a, tAndP_a, tOrP_a, tyes_a, tno_a, tYesP_a, xNil_a, xCons_a, xTup_a, xLst_a, xAnd_a, xOr_a, xIf_a, xChain_a, oNo_a, oAt_a, xSl_a, xCall_a, xSeq_a, xIt_a, xLc_a, gSet_a, gTupD_a, gsNil_a, gsCons_a, sNop_a, sBrk_a, sCnt_a, sSeq_a, sRet_a, sIf_a, sSet_a, sTgt_a, sAug_a, sApp_a, sExt_a, sPut_a, sPutK_a, pkO_s, sFor_a, sWhile_a, sPar_a, runD_a, b2_s, c2_s, sqO_nx, sqO_rt, sqO_bk, sqO_ct, ifO_t, ifO_f, stO_s, endO_nx, endO_rt, andO_t, andO_f, orO_t, orO_f, chO_s, chP_t, chP_f, slO_s, atO_i, lcO_s, forO_s, gsO_s, nxO_s, tgO_s, paO_s, apO_s, exO_s, plO_s, ptO_s, dB_b, tru_b, tru_n, tru_i, tru_l, tru_t, is_n, isn_n, nn_n, nn_i, nn_b, nn_t, nn_l, add_ii, add'_ii, sub_ii, neg_i, lt_ii, le_ii, gt_ii, ge_ii, ix_l, ix_t, ix_s, at0, at1, at2, sl_l, sl_t, len_l, len_t, len_s, abs_i, int_i, int_b, max_ii, min_ii, tup_s, lst_s, seq_l, seq_t, sum_s, wipe_n, wipe_c, mul_ii, fdiv_ii, mod_ii, add_ll, add_tt, setAll, mkT, mkL, oNot, List.getD_cons_zero, List.getD_cons_succ, List.length_cons, List.length_nil, List.set_cons_zero, List.set_cons_succ, List.map_cons, List.map_nil, List.replicate, List.cons_append, List.nil_append, List.append_nil, Option.bind_some, Option.map_some, List.all_cons, List.all_nil, if_true, if_false, reduceIte, Nat.reduceAdd, Nat.reduceSub, Nat.reduceLT, Nat.reduceLeDiff, Nat.reduceEqDiff, decide_true, decide_false, Bool.and_true, Bool.and_self, Bool.true_and, Bool.not_true, Bool.not_false, ne_eq, not_true_eq_false, not_false_eq_true, Nat.zero_add, Bool.false_eq_true, and_self, true_and, and_true, a1, a2, ln, nhh, nqq, tm, lo, k1, k2, k3, q0, q1, eq_int, m1, m2, hp, r1_one, one, ha', g, hL, ad, atx, fw, k4, fl4]
        · rfl
      | false =>
        rw [hnp] at hp
        have ha' : acc.length + 0 ≤ 16777216 := by omega
        refine ⟨_, [some (.tuple (R.map eS)), x1, some (.int (i : Nat)), some (.int (R.length : Nat)), some (.int f), some (.int (b : Nat)), some (.list (acc ++ [])), x7, x8, x9, some (.int (j : Nat)), some (.tuple [.int (far (gS R i) (gS R j)), .int (both (gS R i) (gS R j)), .int (speed (gS R i) (gS R j))]), some (.list (((List.range (b + 1)).filter fun h : Nat => decide (apI (gS R i) (gS R j) (h : Nat) ≤ f * f)).map fun k : Nat => PyData.int (k : Nat))), some (rd (nh (gS R i) (gS R j))), some (rd (nq (gS R i) (gS R j))), none, none], rfl, ?_, some (.int (j : Nat)), some (.tuple [.int (far (gS R i) (gS R j)), .int (both (gS R i) (gS R j)), .int (speed (gS R i) (gS R j))]), some (.list (((List.range (b + 1)).filter fun h : Nat => decide (apI (gS R i) (gS R j) (h : Nat) ≤ f * f)).map fun k : Nat => PyData.int (k : Nat))), some (rd (nh (gS R i) (gS R j))), some (rd (nq (gS R i) (gS R j))), ?_⟩
        · have hp := of_decide_eq_false hp.symm
          generalize oN ((List.range (b + 1)).find? fun h : Nat => decide (apI (gS R i) (gS R j) (h : Nat) ≤ f * f)) = FD at *
          generalize ((List.range (b + 1)).filter fun h : Nat => decide (apI (gS R i) (gS R j) (h : Nat) ≤ f * f)).map (fun k : Nat => PyData.int (k : Nat)) = HL at *
          generalize (List.range (b + 1)).map (fun k : Nat => PyData.int (k : Nat)) = RB at *
          generalize eS (gS R i) = E1 at *
          generalize eS (gS R j) = E2 at *
          generalize rd (nh (gS R i) (gS R j)) = N1 at *
          generalize rd (nq (gS R i) (gS R j)) = N2 at *
          generalize far (gS R i) (gS R j) = F at *
          generalize both (gS R i) (gS R j) = B at *
          generalize speed (gS R i) (gS R j) = S at *
          generalize R.map eS = MR at *
          simp -implicitDefEqProofs only [l2__law_courses, xVar_a, xC_a, xBin_a, xUn_a, tOf_a, tTru_a, tNotP_a, tAndP_a, tOrP_a, tyes_a, tno_a, tYesP_a, xNil_a, xCons_a, xTup_a, xLst_a, xAnd_a, xOr_a, xIf_a, xChain_a, oNo_a, oAt_a, xSl_a, xCall_a, xSeq_a, xIt_a, xLc_a, gSet_a, gTupD_a, gsNil_a, gsCons_a, sNop_a, sBrk_a, sCnt_a, sSeq_a, sRet_a, sIf_a, sSet_a, sTgt_a, sAug_a, sApp_a, sExt_a, sPut_a, sPutK_a, pkO_s, sFor_a, sWhile_a, sPar_a, runD_a, b2_s, c2_s, sqO_nx, sqO_rt, sqO_bk, sqO_ct, ifO_t, ifO_f, stO_s, endO_nx, endO_rt, andO_t, andO_f, orO_t, orO_f, chO_s, chP_t, chP_f, slO_s, atO_i, lcO_s, forO_s, gsO_s, nxO_s, tgO_s, paO_s, apO_s, exO_s, plO_s, ptO_s, dB_b, tru_b, tru_n, tru_i, tru_l, tru_t, is_n, isn_n, nn_n, nn_i, nn_b, nn_t, nn_l, add_ii, add'_ii, sub_ii, neg_i, lt_ii, le_ii, gt_ii, ge_ii, ix_l, ix_t, ix_s, at0, at1, at2, sl_l, sl_t, len_l, len_t, len_s, abs_i, int_i, int_b, max_ii, min_ii, tup_s, lst_s, seq_l, seq_t, sum_s, wipe_n, wipe_c, mul_ii, fdiv_ii, mod_ii, add_ll, add_tt, setAll, mkT, mkL, oNot, List.getD_cons_zero, List.getD_cons_succ, List.length_cons, List.length_nil, List.set_cons_zero, List.set_cons_succ, List.map_cons, List.map_nil, List.replicate, List.cons_append, List.nil_append, List.append_nil, Option.bind_some, Option.map_some, List.all_cons, List.all_nil, if_true, if_false, reduceIte, Nat.reduceAdd, Nat.reduceSub, Nat.reduceLT, Nat.reduceLeDiff, Nat.reduceEqDiff, decide_true, decide_false, Bool.and_true, Bool.and_self, Bool.true_and, Bool.not_true, Bool.not_false, ne_eq, not_true_eq_false, not_false_eq_true, Nat.zero_add, Bool.false_eq_true, and_self, true_and, and_true, a1, a2, ln, nhh, nqq, tm, lo, k1, k2, k3, q0, q1, eq_int, m1, m2, hp, r1_nul, lcL, ha', g, hL, ad, atx, fw, k4, fl4]
        · rfl) (by omega) ⟨x10, x11, x12, x13, x14, rfl⟩
  subst e2
  exact ⟨_, _, _, _, _, e1⟩
end
end K25

namespace K25
open PySem PySem.Spec PyProof.Rows L2 Pm
theorem rat_step (x g p q : Int) (hq : 0 < q) : ((x * q + g * p : Int) : Rat) / (q : Rat) = (x : Rat) + (g : Rat) * ((p : Rat) / (q : Rat)) := by
  have h := cast_pos hq
  have h1 : (q : Rat) ≠ 0 := by grind
  rw [Rat.intCast_add, Rat.intCast_mul, Rat.intCast_mul]
  grind
section
variable {R : List Sp} {r : List Int}
theorem due_loop (hR : OkR R) {i : Nat} (hi : i < R.length) {p q : Int} (hp : Sm 10 p) (hq : Sm 10 q) (h0 : 0 < q) (x1 x3 x4 x5 x6 x10 x11 x12 x13 x14 x9 : Option D) :
    forL (gSet 9) l1__law_courses [.int 0, .int 1] [some (.tuple (R.map eS)), x1, some (.int (i : Nat)), x3, x4, x5, x6, some (.tuple [.int p, .int q]), some (.list []), x9, x10, x11, x12, x13, x14, none, none] =
      some (.nx [some (.tuple (R.map eS)), x1, some (.int (i : Nat)), x3, x4, x5, x6, some (.tuple [.int p, .int q]), some (.list [rd (((gS R i).1.1 : Rat) + ((gS R i).2.1 : Rat) * ((p : Rat) / (q : Rat))), rd (((gS R i).1.2 : Rat) + ((gS R i).2.2 : Rat) * ((p : Rat) / (q : Rat)))]), some (.int 1), x10, x11, x12, x13, x14, none, none]) := by
  have hs := gS_ok hR hi
  have a := at_S hi
  have es : eS (gS R i) = .tuple [.tuple [.int (gS R i).1.1, .int (gS R i).1.2], .tuple [.int (gS R i).2.1, .int (gS R i).2.2]] := rfl
  rw [es] at a
  rw [← rat_step _ _ _ _ h0, ← rat_step _ _ _ _ h0]
  have n1 := mok (hs.1.1.mono (k := 100) (by omega)) (hq.mono (k := 100) (by omega))
  have n2 := mok (hs.2.1.mono (k := 100) (by omega)) (hp.mono (k := 100) (by omega))
  have n3 := mok (hs.1.2.mono (k := 100) (by omega)) (hq.mono (k := 100) (by omega))
  have n4 := mok (hs.2.2.mono (k := 100) (by omega)) (hp.mono (k := 100) (by omega))
  have r1 := ratio_rd ((gS R i).1.1 * q + (gS R i).2.1 * p) q h0 (hq.mono (by omega))
  have r2 := ratio_rd ((gS R i).1.2 * q + (gS R i).2.2 * p) q h0 (hq.mono (by omega))
  have l0 : ((0 : Nat) < 16777216) := by omega
  generalize rd ((((gS R i).1.1 * q + (gS R i).2.1 * p : Int) : Rat) / (q : Rat)) = R1 at *
  generalize rd ((((gS R i).1.2 * q + (gS R i).2.2 * p : Int) : Rat) / (q : Rat)) = R2 at *
  generalize R.map eS = MR at *
  simp -implicitDefEqProofs only [forL, l1__law_courses, xVar_a, xC_a, xBin_a, xUn_a, tOf_a, tTru_a, tNotP_a, tAndP_a, tOrP_a, tyes_a, tno_a, tYesP_a, xNil_a, xCons_a, xTup_a, xLst_a, xAnd_a, xOr_a, xIf_a, xChain_a, oNo_a, oAt_a, xSl_a, xCall_a, xSeq_a, xIt_a, xLc_a, gSet_a, gTupD_a, gsNil_a, gsCons_a, sNop_a, sBrk_a, sCnt_a, sSeq_a, sRet_a, sIf_a, sSet_a, sTgt_a, sAug_a, sApp_a, sExt_a, sPut_a, sPutK_a, pkO_s, sFor_a, sWhile_a, sPar_a, runD_a, b2_s, c2_s, sqO_nx, sqO_rt, sqO_bk, sqO_ct, ifO_t, ifO_f, stO_s, endO_nx, endO_rt, andO_t, andO_f, orO_t, orO_f, chO_s, chP_t, chP_f, slO_s, atO_i, lcO_s, forO_s, gsO_s, nxO_s, tgO_s, paO_s, apO_s, exO_s, plO_s, ptO_s, dB_b, tru_b, tru_n, tru_i, tru_l, tru_t, is_n, isn_n, nn_n, nn_i, nn_b, nn_t, nn_l, add_ii, add'_ii, sub_ii, neg_i, lt_ii, le_ii, gt_ii, ge_ii, ix_l, ix_t, ix_s, at0, at1, at2, sl_l, sl_t, len_l, len_t, len_s, abs_i, int_i, int_b, max_ii, min_ii, tup_s, lst_s, seq_l, seq_t, sum_s, wipe_n, wipe_c, mul_ii, fdiv_ii, mod_ii, add_ll, add_tt, setAll, mkT, mkL, oNot, List.getD_cons_zero, List.getD_cons_succ, List.length_cons, List.length_nil, List.set_cons_zero, List.set_cons_succ, List.map_cons, List.map_nil, List.replicate, List.cons_append, List.nil_append, List.append_nil, Option.bind_some, Option.map_some, List.all_cons, List.all_nil, if_true, if_false, reduceIte, Nat.reduceAdd, Nat.reduceSub, Nat.reduceLT, Nat.reduceLeDiff, Nat.reduceEqDiff, decide_true, decide_false, Bool.and_true, Bool.and_self, Bool.true_and, Bool.not_true, Bool.not_false, ne_eq, not_true_eq_false, not_false_eq_true, Nat.zero_add, Bool.false_eq_true, and_self, true_and, and_true, a, n1, n2, n3, n4, r1, r2]
theorem course_loop (hR : OkR R) {f : Int} (hf : Sm 20 f) {b : Nat} (hb : b ≤ 100) (hr : r.length = 60) :
    ∃ y2 y7 y8 y9 y10 y11 y12 y13 y14, forL (gSet 2) l3__law_courses ((List.range R.length).map fun k : Nat => PyData.int (k : Nat)) [some (.tuple (R.map eS)), some (.list (r.map PyData.int)), none, some (.int (R.length : Nat)), some (.int f), some (.int (b : Nat)), some (.list []), none, none, none, none, none, none, none, none, none, none] =
      some (.nx [some (.tuple (R.map eS)), some (.list (r.map PyData.int)), y2, some (.int (R.length : Nat)), some (.int f), some (.int (b : Nat)), some (.list ((prs R.length (np R f)).map eP)), y7, y8, y9, y10, y11, y12, y13, y14, none, none]) := by
  have h4 := hR.2
  have i44 : atI (r.map PyData.int) 44 = some (.int (r.getD 44 0)) := row_at r 44 (by omega)
  have i45 : atI (r.map PyData.int) 45 = some (.int (r.getD 45 0)) := row_at r 45 (by omega)
  have z9 : (9 : Int) ≠ 0 := by decide
  have z3 : (3 : Int) ≠ 0 := by decide
  have rp := fmod_rng (r.getD 44 0) (m := 9) (by decide)
  have rq := fmod_rng (r.getD 45 0) (m := 3) (by decide)
  generalize hpp : (r.getD 44 0).fmod 9 = p at *
  generalize hqq : (1 : Int) + (r.getD 45 0).fmod 3 = q at *
  have sp : Sm 10 p := by unfold Sm; omega
  have sq : Sm 10 q := by unfold Sm; omega
  have hq0 : 0 < q := by omega
  have inner : ∀ i, (fun i => ((js i R.length).filter (np R f i)).map (pr i)) i = (js i R.length).flatMap fun j => if np R f i j then [pr i j] else [] := fun i => by
    have : ∀ l : List Nat, (l.filter (np R f i)).map (pr i) = l.flatMap fun j => if np R f i j then [pr i j] else [] := fun l => by
      induction l with
      | nil => rfl
      | cons x l ih =>
        rw [List.flatMap_cons, ← ih]
        by_cases h : np R f i x = true
        · rw [List.filter_cons_of_pos h, if_pos h]; rfl
        · rw [List.filter_cons_of_neg h, if_neg h]; rfl
    exact this _
  obtain ⟨ρ', e1, y2, y7, y8, y9, y10, y11, y12, y13, y14, e2⟩ := forL_fl (g := gSet 2) (b := l3__law_courses) (N := 900) (fun k : Nat => PyData.int (k : Nat)) eP (fun i => ((js i R.length).filter (np R f i)).map (pr i)) (fun acc ρ => ∃ x2 x7 x8 x9 x10 x11 x12 x13 x14, ρ = [some (.tuple (R.map eS)), some (.list (r.map PyData.int)), x2, some (.int (R.length : Nat)), some (.int f), some (.int (b : Nat)), some (.list acc), x7, x8, x9, x10, x11, x12, x13, x14, none, none]) (List.range R.length) [] [some (.tuple (R.map eS)), some (.list (r.map PyData.int)), none, some (.int (R.length : Nat)), some (.int f), some (.int (b : Nat)), some (.list []), none, none, none, none, none, none, none, none, none, none]
    (fun i hi acc ρ ha ⟨x2, x7, x8, x9, x10, x11, x12, x13, x14, e⟩ => by
      subst e
      have hi : i < R.length := by simpa using hi
      have a := at_S hi
      have dl := due_loop hR hi sp sq hq0 (some (.list (r.map PyData.int))) (some (.int (R.length : Nat))) (some (.int f)) (some (.int (b : Nat))) (some (.list acc)) x10 x11 x12 x13 x14 x9
      have pa := place_at_eq (gS_ok hR hi) (h := (p : Rat) / (q : Rat)) (SR.div (sp.mono (by omega)) (sq.mono (by omega)) hq0)
      have ra := ratio_rd p q hq0 (sq.mono (by omega))
      have g2 := rg2 (i := i) (n := R.length) (by omega) (by omega)
      obtain ⟨y10, y11, y12, y13, y14, pl⟩ := pair_loop hR hf hb hi (some (.list (r.map PyData.int))) (some (.tuple [.int p, .int q])) (some (.list [rd (((gS R i).1.1 : Rat) + ((gS R i).2.1 : Rat) * ((p : Rat) / (q : Rat))), rd (((gS R i).1.2 : Rat) + ((gS R i).2.2 : Rat) * ((p : Rat) / (q : Rat)))])) (some (.int 1)) acc (by omega) x10 x11 x12 x13 x14
      rw [← inner i] at pl
      have lk : d__law_like 8 [.tuple [rd (((gS R i).1.1 : Rat) + ((gS R i).2.1 : Rat) * ((p : Rat) / (q : Rat))), rd (((gS R i).1.2 : Rat) + ((gS R i).2.2 : Rat) * ((p : Rat) / (q : Rat)))], .tuple [rd (((gS R i).1.1 : Rat) + ((gS R i).2.1 : Rat) * ((p : Rat) / (q : Rat))), rd (((gS R i).1.2 : Rat) + ((gS R i).2.2 : Rat) * ((p : Rat) / (q : Rat)))]] = some (.bool true) :=
        like_tup 7 _ (by simp) fun z hz => by
          simp at hz
          rcases hz with rfl | rfl <;> exact like_rd 5 _
      refine ⟨_, _, rfl, ?_, some (.int (i : Nat)), some (.tuple [.int p, .int q]), some (.list [rd (((gS R i).1.1 : Rat) + ((gS R i).2.1 : Rat) * ((p : Rat) / (q : Rat))), rd (((gS R i).1.2 : Rat) + ((gS R i).2.2 : Rat) * ((p : Rat) / (q : Rat)))]), some (.int 1), y10, y11, y12, y13, y14, rfl⟩
      generalize (((js i R.length).filter (np R f i)).map (pr i)).map eP = NW at *
      generalize (js i R.length).map (fun j : Nat => PyData.int (j : Nat)) = JS at *
      generalize rd (((gS R i).1.1 : Rat) + ((gS R i).2.1 : Rat) * ((p : Rat) / (q : Rat))) = R1 at *
      generalize rd (((gS R i).1.2 : Rat) + ((gS R i).2.2 : Rat) * ((p : Rat) / (q : Rat))) = R2 at *
      generalize eS (gS R i) = E1 at *
      generalize rd ((p : Rat) / (q : Rat)) = R3 at *
      generalize R.map eS = MR at *
      generalize r.map PyData.int = RR at *
      simp -implicitDefEqProofs only [l3__law_courses, xVar_a, xC_a, xBin_a, xUn_a, tOf_a, tTru_a, tNotP_a, tAndP_a, tOrP_a, tyes_a, tno_a, tYesP_a, xNil_a, xCons_a, xTup_a, xLst_a, xAnd_a, xOr_a, xIf_a, xChain_a, oNo_a, oAt_a, xSl_a, xCall_a, xSeq_a, xIt_a, xLc_a, gSet_a, gTupD_a, gsNil_a, gsCons_a, sNop_a, sBrk_a, sCnt_a, sSeq_a, sRet_a, sIf_a, sSet_a, sTgt_a, sAug_a, sApp_a, sExt_a, sPut_a, sPutK_a, pkO_s, sFor_a, sWhile_a, sPar_a, runD_a, b2_s, c2_s, sqO_nx, sqO_rt, sqO_bk, sqO_ct, ifO_t, ifO_f, stO_s, endO_nx, endO_rt, andO_t, andO_f, orO_t, orO_f, chO_s, chP_t, chP_f, slO_s, atO_i, lcO_s, forO_s, gsO_s, nxO_s, tgO_s, paO_s, apO_s, exO_s, plO_s, ptO_s, dB_b, tru_b, tru_n, tru_i, tru_l, tru_t, is_n, isn_n, nn_n, nn_i, nn_b, nn_t, nn_l, add_ii, add'_ii, sub_ii, neg_i, lt_ii, le_ii, gt_ii, ge_ii, ix_l, ix_t, ix_s, at0, at1, at2, sl_l, sl_t, len_l, len_t, len_s, abs_i, int_i, int_b, max_ii, min_ii, tup_s, lst_s, seq_l, seq_t, sum_s, wipe_n, wipe_c, mul_ii, fdiv_ii, mod_ii, add_ll, add_tt, setAll, mkT, mkL, oNot, List.getD_cons_zero, List.getD_cons_succ, List.length_cons, List.length_nil, List.set_cons_zero, List.set_cons_succ, List.map_cons, List.map_nil, List.replicate, List.cons_append, List.nil_append, List.append_nil, Option.bind_some, Option.map_some, List.all_cons, List.all_nil, if_true, if_false, reduceIte, Nat.reduceAdd, Nat.reduceSub, Nat.reduceLT, Nat.reduceLeDiff, Nat.reduceEqDiff, decide_true, decide_false, Bool.and_true, Bool.and_self, Bool.true_and, Bool.not_true, Bool.not_false, ne_eq, not_true_eq_false, not_false_eq_true, Nat.zero_add, Bool.false_eq_true, and_self, true_and, and_true, i44, i45, mod_ii z9, mod_ii z3, hpp, hqq, r1_two, dl, a, ra, pa, lk, g2, pl]) (by have := prs_len h4 (np R f); unfold prs at this; simp -implicitDefEqProofs only [List.length_nil]; omega) ⟨none, none, none, none, none, none, none, none, none, rfl⟩
  subst e2
  exact ⟨_, _, _, _, _, _, _, _, _, e1⟩
theorem flat_pts (l : List Pt) : flat (.tuple (l.map eP)) = true := by
  show flatL (l.map eP) = true
  induction l with
  | nil => rfl
  | cons x l ih =>
    rw [List.map_cons]
    unfold flatL
    rw [ih]
    rfl
theorem like_pts (k : Nat) (l : List Pt) (h : l.length ≤ 1000) : d__law_like (k + 3) [.tuple (l.map eP), .tuple (l.map eP)] = some (.bool true) := by
  refine like_tup _ _ (by rw [List.length_map]; omega) fun x hx => ?_
  obtain ⟨p, _, rfl⟩ := List.mem_map.mp hx
  exact like_ints _ [p.1, p.2] (by simp)
theorem law_courses_ok (hR : OkR R) (hr : r.length = 60) : d__law_courses [.tuple (R.map eS), .list (r.map PyData.int)] = some (.bool true) := by
  have h4 := hR.2
  have i42 : atI (r.map PyData.int) 42 = some (.int (r.getD 42 0)) := row_at r 42 (by omega)
  have i43 : atI (r.map PyData.int) 43 = some (.int (r.getD 43 0)) := row_at r 43 (by omega)
  have z6 : (6 : Int) ≠ 0 := by decide
  have z12 : (12 : Int) ≠ 0 := by decide
  have rf := fmod_rng (r.getD 42 0) (m := 6) (by decide)
  obtain ⟨b, hb, hb12⟩ := fmod_nat (r.getD 43 0) (m := 12) (by decide)
  have hl : ((R.map eS).length : Int) = (R.length : Int) := by rw [List.length_map]
  have g1 := rg0 R.length (by omega)
  generalize hff : (1 : Int) + (r.getD 42 0).fmod 6 = f at *
  have sf : Sm 20 f := by unfold Sm; omega
  obtain ⟨y2, y7, y8, y9, y10, y11, y12, y13, y14, lp⟩ := course_loop hR sf (b := b) (by omega) hr
  have pn := pairs_near_eq hR sf
  have pl := prs_len h4 (np R f)
  have lk := like_pts 5 (prs R.length (np R f)) (by omega)
  have fl := flat_pts (prs R.length (np R f))
  generalize (prs R.length (np R f)).map eP = PP at *
  generalize (List.range R.length).map (fun k : Nat => PyData.int (k : Nat)) = RN at *
  generalize R.map eS = MR at *
  generalize r.map PyData.int = RR at *
  simp -implicitDefEqProofs only [d__law_courses, g__law_courses, xVar_a, xC_a, xBin_a, xUn_a, tOf_a, tTru_a, tNotP_a, tAndP_a, tOrP_a, tyes_a, tno_a, tYesP_a, xNil_a, xCons_a, xTup_a, xLst_a, xAnd_a, xOr_a, xIf_a, xChain_a, oNo_a, oAt_a, xSl_a, xCall_a, xSeq_a, xIt_a, xLc_a, gSet_a, gTupD_a, gsNil_a, gsCons_a, sNop_a, sBrk_a, sCnt_a, sSeq_a, sRet_a, sIf_a, sSet_a, sTgt_a, sAug_a, sApp_a, sExt_a, sPut_a, sPutK_a, pkO_s, sFor_a, sWhile_a, sPar_a, runD_a, b2_s, c2_s, sqO_nx, sqO_rt, sqO_bk, sqO_ct, ifO_t, ifO_f, stO_s, endO_nx, endO_rt, andO_t, andO_f, orO_t, orO_f, chO_s, chP_t, chP_f, slO_s, atO_i, lcO_s, forO_s, gsO_s, nxO_s, tgO_s, paO_s, apO_s, exO_s, plO_s, ptO_s, dB_b, tru_b, tru_n, tru_i, tru_l, tru_t, is_n, isn_n, nn_n, nn_i, nn_b, nn_t, nn_l, add_ii, add'_ii, sub_ii, neg_i, lt_ii, le_ii, gt_ii, ge_ii, ix_l, ix_t, ix_s, at0, at1, at2, sl_l, sl_t, len_l, len_t, len_s, abs_i, int_i, int_b, max_ii, min_ii, tup_s, lst_s, seq_l, seq_t, sum_s, wipe_n, wipe_c, mul_ii, fdiv_ii, mod_ii, add_ll, add_tt, setAll, mkT, mkL, oNot, List.getD_cons_zero, List.getD_cons_succ, List.length_cons, List.length_nil, List.set_cons_zero, List.set_cons_succ, List.map_cons, List.map_nil, List.replicate, List.cons_append, List.nil_append, List.append_nil, Option.bind_some, Option.map_some, List.all_cons, List.all_nil, if_true, if_false, reduceIte, Nat.reduceAdd, Nat.reduceSub, Nat.reduceLT, Nat.reduceLeDiff, Nat.reduceEqDiff, decide_true, decide_false, Bool.and_true, Bool.and_self, Bool.true_and, Bool.not_true, Bool.not_false, ne_eq, not_true_eq_false, not_false_eq_true, Nat.zero_add, Bool.false_eq_true, and_self, true_and, and_true, i42, i43, mod_ii z6, mod_ii z12, hb, hff, hl, g1, lp, pn, fl, lk]
end
end K25

namespace K25
open PySem PySem.Spec PyProof.Rows L2 Pm
open PySem.W (Datum Tup)
theorem forL_findB {β : Type} {g : D → PEnv → Option PEnv} {b : XS} (en : β → D) (P : β → Bool) (I : PEnv → Prop) (J : β → PEnv → Prop) : ∀ (xs : List β), (∀ x ∈ xs, ∀ ρ, I ρ → ∃ ρ1 ρ2, g (en x) ρ = some ρ1 ∧ (P x = true → b ρ1 = some (.bk ρ2) ∧ J x ρ2) ∧ (P x = false → b ρ1 = some (.nx ρ2) ∧ I ρ2)) →
    ∀ ρ, I ρ → ∃ ρ', forL g b (xs.map en) ρ = some (.nx ρ') ∧ ((∃ x, xs.find? P = some x ∧ J x ρ') ∨ (xs.find? P = none ∧ I ρ'))
  | [], _, ρ, h => ⟨ρ, rfl, .inr ⟨rfl, h⟩⟩
  | x :: xs, hb, ρ, h => by
    obtain ⟨ρ1, ρ2, e1, h1, h2⟩ := hb x (List.mem_cons_self ..) ρ h
    cases hp : P x with
    | true =>
      obtain ⟨e2, h3⟩ := h1 hp
      exact ⟨ρ2, by simp only [List.map_cons, forL, e1, e2, Option.bind_some], .inl ⟨x, by rw [List.find?_cons_of_pos hp], h3⟩⟩
    | false =>
      obtain ⟨e2, h3⟩ := h2 hp
      have hn : xs.find? P = (x :: xs).find? P := by rw [List.find?_cons_of_neg (by rw [hp]; decide)]
      obtain ⟨ρ', z1, z2⟩ := forL_findB en P I J xs (fun y hy => hb y (List.mem_cons_of_mem _ hy)) ρ2 h3
      refine ⟨ρ', by simp only [List.map_cons, forL, e1, e2, Option.bind_some, z1], ?_⟩
      rw [← hn]
      exact z2

theorem like_P (k : Nat) (p : Pt) : d__law_like (k + 2) [eP p, eP p] = some (.bool true) := like_ints _ [p.1, p.2] (by simp)
theorem flat_P (p : Pt) : flat (eP p) = true := rfl
theorem like_cO (k : Nat) (s : Sp) (o : Option Nat) : d__law_like (k + 3) [cO s o, cO s o] = some (.bool true) := by
  cases o with
  | none => exact like_none _
  | some h =>
    refine like_tup _ _ (by simp) fun y hy => ?_
    simp at hy
    rcases hy with rfl | rfl
    · exact like_int _ _
    · exact like_P _ _
theorem flat_cO (s : Sp) (o : Option Nat) : flat (cO s o) = true := by cases o <;> rfl
/-- the loop with break: the first hour -/
theorem see_loop {s : Sp} (hs : OkS s) {p : Pt} {v : Int} (hv : Sm 10 v) {b : Nat} (hb : b ≤ 100) (x0 x1 x3 x4 x5 x6 x11 x12 x13 x14 x15 : Option D) :
    ∃ y11 y12, forL (gSet 11) l1__law_seen ((List.range (b + 1)).map fun k : Nat => PyData.int (k : Nat)) [x0, x1, some (eS s), x3, x4, x5, x6, some .none, some (.int v), some (.int (b : Nat)), some (eP p), x11, x12, x13, x14, x15] =
      some (.nx [x0, x1, some (eS s), x3, x4, x5, x6, some (cO s ((List.range (b + 1)).find? fun h => decide (way p (at_ s (h : Nat)) ≤ v * (h : Nat)))), some (.int v), some (.int (b : Nat)), some (eP p), y11, y12, x13, x14, x15]) := by
  obtain ⟨ρ', e, h⟩ := forL_findB (g := gSet 11) (b := l1__law_seen) (fun k : Nat => PyData.int (k : Nat)) (fun h => decide (way p (at_ s (h : Nat)) ≤ v * (h : Nat))) (fun ρ => ∃ y11 y12, ρ = [x0, x1, some (eS s), x3, x4, x5, x6, some .none, some (.int v), some (.int (b : Nat)), some (eP p), y11, y12, x13, x14, x15])
    (fun k ρ => ∃ y11 y12, ρ = [x0, x1, some (eS s), x3, x4, x5, x6, some (cO s (some k)), some (.int v), some (.int (b : Nat)), some (eP p), y11, y12, x13, x14, x15]) (List.range (b + 1)) (fun h hh ρ ⟨y11, y12, e⟩ => by
      subst e
      have hh : h < b + 1 := by simpa using hh
      have sh : Sm 10 (h : Int) := by unfold Sm; omega
      have m1 := mok (sh.mono (k := 100) (by omega)) (hs.2.1.mono (k := 100) (by omega))
      have m2 := mok (sh.mono (k := 100) (by omega)) (hs.2.2.mono (k := 100) (by omega))
      have m3 := mok (hv.mono (k := 100) (by omega)) (sh.mono (k := 100) (by omega))
      have es : eS s = .tuple [.tuple [.int s.1.1, .int s.1.2], .tuple [.int s.2.1, .int s.2.2]] := rfl
      have lc : ∀ z y : Option D, lcL (gSet 15) tYesP (xBin oAdd (xBin oIx (xBin oIx (xVar 2) (xC (.int 0))) (xVar 15)) (xBin oMul' (xVar 11) (xBin oIx (xBin oIx (xVar 2) (xC (.int 1))) (xVar 15)))) [x0, x1, some (eS s), x3, x4, x5, x6, some .none, some (.int v), some (.int (b : Nat)), some (eP p), some (.int (h : Nat)), z, x13, x14, y] [.int 0, .int 1] = some [.int (s.1.1 + (h : Int) * s.2.1), .int (s.1.2 + (h : Int) * s.2.2)] := fun z y => by
        rw [es]
        generalize eP p = EP at *
        simp -implicitDefEqProofs only [lcL, xVar_a, xC_a, xBin_a, xUn_a, tOf_a, tTru_a, tNotP_a, tAndP_a, tOrP_a, tyes_a, tno_a, tYesP_a, xNil_a, xCons_a, xTup_a, xLst_a, xAnd_a, xOr_a, xIf_a, xChain_a, oNo_a, oAt_a, xSl_a, xCall_a, xSeq_a, xIt_a, xLc_a, gSet_a, gTupD_a, gsNil_a, gsCons_a, sNop_a, sBrk_a, sCnt_a, sSeq_a, sRet_a, sIf_a, sSet_a, sTgt_a, sAug_a, sApp_a, sExt_a, sPut_a, sPutK_a, pkO_s, sFor_a, sWhile_a, sPar_a, runD_a, b2_s, c2_s, sqO_nx, sqO_rt, sqO_bk, sqO_ct, ifO_t, ifO_f, stO_s, endO_nx, endO_rt, andO_t, andO_f, orO_t, orO_f, chO_s, chP_t, chP_f, slO_s, atO_i, lcO_s, forO_s, gsO_s, nxO_s, tgO_s, paO_s, apO_s, exO_s, plO_s, ptO_s, dB_b, tru_b, tru_n, tru_i, tru_l, tru_t, is_n, isn_n, nn_n, nn_i, nn_b, nn_t, nn_l, add_ii, add'_ii, sub_ii, neg_i, lt_ii, le_ii, gt_ii, ge_ii, ix_l, ix_t, ix_s, at0, at1, at2, sl_l, sl_t, len_l, len_t, len_s, abs_i, int_i, int_b, max_ii, min_ii, tup_s, lst_s, seq_l, seq_t, sum_s, wipe_n, wipe_c, mul_ii, fdiv_ii, mod_ii, add_ll, add_tt, setAll, mkT, mkL, oNot, List.getD_cons_zero, List.getD_cons_succ, List.length_cons, List.length_nil, List.set_cons_zero, List.set_cons_succ, List.map_cons, List.map_nil, List.replicate, List.cons_append, List.nil_append, List.append_nil, Option.bind_some, Option.map_some, List.all_cons, List.all_nil, if_true, if_false, reduceIte, Nat.reduceAdd, Nat.reduceSub, Nat.reduceLT, Nat.reduceLeDiff, Nat.reduceEqDiff, decide_true, decide_false, Bool.and_true, Bool.and_self, Bool.true_and, Bool.not_true, Bool.not_false, ne_eq, not_true_eq_false, not_false_eq_true, Nat.zero_add, Bool.false_eq_true, and_self, true_and, and_true, m1, m2]
      have wy : (if s.1.1 + (h : Int) * s.2.1 - p.1 < 0 then -(s.1.1 + (h : Int) * s.2.1 - p.1) else s.1.1 + (h : Int) * s.2.1 - p.1) + (if s.1.2 + (h : Int) * s.2.2 - p.2 < 0 then -(s.1.2 + (h : Int) * s.2.2 - p.2) else s.1.2 + (h : Int) * s.2.2 - p.2) = way p (at_ s (h : Nat)) := (way_symm (at_ s (h : Nat)) p)
      have ep : eP p = .tuple [.int p.1, .int p.2] := rfl
      cases hp : decide (way p (at_ s (h : Nat)) ≤ v * (h : Nat)) with
      | true =>
        have hp' := of_decide_eq_true hp
        refine ⟨_, [x0, x1, some (eS s), x3, x4, x5, x6, some (cO s (some h)), some (.int v), some (.int (b : Nat)), some (eP p), some (.int (h : Nat)), some (eP (at_ s (h : Nat))), x13, x14, x15], rfl, fun _ => ⟨?_, _, _, rfl⟩, (fun h => by cases h)⟩
        have ea : eP (at_ s (h : Nat)) = .tuple [.int (s.1.1 + (h : Int) * s.2.1), .int (s.1.2 + (h : Int) * s.2.2)] := rfl
        show _ = some (Out.bk [x0, x1, some (eS s), x3, x4, x5, x6, some (.tuple [.int (h : Nat), eP (at_ s (h : Nat))]), some (.int v), some (.int (b : Nat)), some (eP p), some (.int (h : Nat)), some (eP (at_ s (h : Nat))), x13, x14, x15])
        rw [ea]
        rw [ep] at lc ⊢
        generalize way p (at_ s (h : Nat)) = wv at *
        generalize eS s = ES at *
        simp -implicitDefEqProofs only [l1__law_seen, xVar_a, xC_a, xBin_a, xUn_a, tOf_a, tTru_a, tNotP_a, tAndP_a, tOrP_a, tyes_a, tno_a, tYesP_a, xNil_a, xCons_a, xTup_a, xLst_a, xAnd_a, xOr_a, xIf_a, xChain_a, oNo_a, oAt_a, xSl_a, xCall_a, xSeq_a, xIt_a, xLc_a, gSet_a, gTupD_a, gsNil_a, gsCons_a, sNop_a, sBrk_a, sCnt_a, sSeq_a, sRet_a, sIf_a, sSet_a, sTgt_a, sAug_a, sApp_a, sExt_a, sPut_a, sPutK_a, pkO_s, sFor_a, sWhile_a, sPar_a, runD_a, b2_s, c2_s, sqO_nx, sqO_rt, sqO_bk, sqO_ct, ifO_t, ifO_f, stO_s, endO_nx, endO_rt, andO_t, andO_f, orO_t, orO_f, chO_s, chP_t, chP_f, slO_s, atO_i, lcO_s, forO_s, gsO_s, nxO_s, tgO_s, paO_s, apO_s, exO_s, plO_s, ptO_s, dB_b, tru_b, tru_n, tru_i, tru_l, tru_t, is_n, isn_n, nn_n, nn_i, nn_b, nn_t, nn_l, add_ii, add'_ii, sub_ii, neg_i, lt_ii, le_ii, gt_ii, ge_ii, ix_l, ix_t, ix_s, at0, at1, at2, sl_l, sl_t, len_l, len_t, len_s, abs_i, int_i, int_b, max_ii, min_ii, tup_s, lst_s, seq_l, seq_t, sum_s, wipe_n, wipe_c, mul_ii, fdiv_ii, mod_ii, add_ll, add_tt, setAll, mkT, mkL, oNot, List.getD_cons_zero, List.getD_cons_succ, List.length_cons, List.length_nil, List.set_cons_zero, List.set_cons_succ, List.map_cons, List.map_nil, List.replicate, List.cons_append, List.nil_append, List.append_nil, Option.bind_some, Option.map_some, List.all_cons, List.all_nil, if_true, if_false, reduceIte, Nat.reduceAdd, Nat.reduceSub, Nat.reduceLT, Nat.reduceLeDiff, Nat.reduceEqDiff, decide_true, decide_false, Bool.and_true, Bool.and_self, Bool.true_and, Bool.not_true, Bool.not_false, ne_eq, not_true_eq_false, not_false_eq_true, Nat.zero_add, Bool.false_eq_true, and_self, true_and, and_true, r1_two, lc, wy, m3, hp']
      | false =>
        have hp' := of_decide_eq_false hp
        refine ⟨_, [x0, x1, some (eS s), x3, x4, x5, x6, some .none, some (.int v), some (.int (b : Nat)), some (eP p), some (.int (h : Nat)), some (eP (at_ s (h : Nat))), x13, x14, x15], rfl, (fun h => by cases h), fun _ => ⟨?_, _, _, rfl⟩⟩
        have ea : eP (at_ s (h : Nat)) = .tuple [.int (s.1.1 + (h : Int) * s.2.1), .int (s.1.2 + (h : Int) * s.2.2)] := rfl
        rw [ea]
        rw [ep] at lc ⊢
        generalize way p (at_ s (h : Nat)) = wv at *
        generalize eS s = ES at *
        simp -implicitDefEqProofs only [l1__law_seen, xVar_a, xC_a, xBin_a, xUn_a, tOf_a, tTru_a, tNotP_a, tAndP_a, tOrP_a, tyes_a, tno_a, tYesP_a, xNil_a, xCons_a, xTup_a, xLst_a, xAnd_a, xOr_a, xIf_a, xChain_a, oNo_a, oAt_a, xSl_a, xCall_a, xSeq_a, xIt_a, xLc_a, gSet_a, gTupD_a, gsNil_a, gsCons_a, sNop_a, sBrk_a, sCnt_a, sSeq_a, sRet_a, sIf_a, sSet_a, sTgt_a, sAug_a, sApp_a, sExt_a, sPut_a, sPutK_a, pkO_s, sFor_a, sWhile_a, sPar_a, runD_a, b2_s, c2_s, sqO_nx, sqO_rt, sqO_bk, sqO_ct, ifO_t, ifO_f, stO_s, endO_nx, endO_rt, andO_t, andO_f, orO_t, orO_f, chO_s, chP_t, chP_f, slO_s, atO_i, lcO_s, forO_s, gsO_s, nxO_s, tgO_s, paO_s, apO_s, exO_s, plO_s, ptO_s, dB_b, tru_b, tru_n, tru_i, tru_l, tru_t, is_n, isn_n, nn_n, nn_i, nn_b, nn_t, nn_l, add_ii, add'_ii, sub_ii, neg_i, lt_ii, le_ii, gt_ii, ge_ii, ix_l, ix_t, ix_s, at0, at1, at2, sl_l, sl_t, len_l, len_t, len_s, abs_i, int_i, int_b, max_ii, min_ii, tup_s, lst_s, seq_l, seq_t, sum_s, wipe_n, wipe_c, mul_ii, fdiv_ii, mod_ii, add_ll, add_tt, setAll, mkT, mkL, oNot, List.getD_cons_zero, List.getD_cons_succ, List.length_cons, List.length_nil, List.set_cons_zero, List.set_cons_succ, List.map_cons, List.map_nil, List.replicate, List.cons_append, List.nil_append, List.append_nil, Option.bind_some, Option.map_some, List.all_cons, List.all_nil, if_true, if_false, reduceIte, Nat.reduceAdd, Nat.reduceSub, Nat.reduceLT, Nat.reduceLeDiff, Nat.reduceEqDiff, decide_true, decide_false, Bool.and_true, Bool.and_self, Bool.true_and, Bool.not_true, Bool.not_false, ne_eq, not_true_eq_false, not_false_eq_true, Nat.zero_add, Bool.false_eq_true, and_self, true_and, and_true, r1_two, lc, wy, m3, hp']) [x0, x1, some (eS s), x3, x4, x5, x6, some .none, some (.int v), some (.int (b : Nat)), some (eP p), x11, x12, x13, x14, x15] ⟨_, _, rfl⟩
  rcases h with ⟨x, e1, y11, y12, e2⟩ | ⟨e1, y11, y12, e2⟩
  · rw [e1]
    subst e2
    exact ⟨_, _, e⟩
  · rw [e1]
    subst e2
    exact ⟨_, _, e⟩
theorem see_step {s : Sp} (hs : OkS s) {p : Pt} {v : Int} (hv : Sm 10 v) {b : Nat} (hb : b ≤ 100) (x0 x1 x3 x4 x5 x6 x7 x11 x12 x13 x14 x15 : Option D) :
    ∃ y7 y11 y12, l2__law_seen [x0, x1, some (eS s), x3, x4, x5, x6, x7, some (.int v), some (.int (b : Nat)), some (eP p), x11, x12, x13, x14, x15] =
      some (.nx [x0, x1, some (eS s), x3, x4, x5, x6, y7, some (.int v), some (.int (b : Nat)), some (eP p), y11, y12, x13, x14, x15]) := by
  obtain ⟨y11, y12, lp⟩ := see_loop hs (p := p) hv hb x0 x1 x3 x4 x5 x6 x11 x12 x13 x14 x15
  have ct := course_to_eq (p := p) hs hv hb
  have g : oR1 [.int ((b : Int) + 1)] = some ((List.range (b + 1)).map fun k : Nat => PyData.int (k : Nat)) := rg0 (b + 1) (by omega)
  have lk := like_cO 5 s ((List.range (b + 1)).find? fun h => decide (way p (at_ s (h : Nat)) ≤ v * (h : Nat)))
  have fl := flat_cO s ((List.range (b + 1)).find? fun h => decide (way p (at_ s (h : Nat)) ≤ v * (h : Nat)))
  have fb : flat (.bool true) = true := rfl
  refine ⟨some (cO s ((List.range (b + 1)).find? fun h => decide (way p (at_ s (h : Nat)) ≤ v * (h : Nat)))), y11, y12, ?_⟩
  generalize cO s ((List.range (b + 1)).find? fun h => decide (way p (at_ s (h : Nat)) ≤ v * (h : Nat))) = CO at *
  generalize (List.range (b + 1)).map (fun k : Nat => PyData.int (k : Nat)) = RB at *
  generalize eS s = ES at *
  generalize eP p = EP at *
  simp -implicitDefEqProofs only [l2__law_seen, xVar_a, xC_a, xBin_a, xUn_a, tOf_a, tTru_a, tNotP_a, tAndP_a, tOrP_a, tyes_a, tno_a, tYesP_a, xNil_a, xCons_a, xTup_a, xLst_a, xAnd_a, xOr_a, xIf_a, xChain_a, oNo_a, oAt_a, xSl_a, xCall_a, xSeq_a, xIt_a, xLc_a, gSet_a, gTupD_a, gsNil_a, gsCons_a, sNop_a, sBrk_a, sCnt_a, sSeq_a, sRet_a, sIf_a, sSet_a, sTgt_a, sAug_a, sApp_a, sExt_a, sPut_a, sPutK_a, pkO_s, sFor_a, sWhile_a, sPar_a, runD_a, b2_s, c2_s, sqO_nx, sqO_rt, sqO_bk, sqO_ct, ifO_t, ifO_f, stO_s, endO_nx, endO_rt, andO_t, andO_f, orO_t, orO_f, chO_s, chP_t, chP_f, slO_s, atO_i, lcO_s, forO_s, gsO_s, nxO_s, tgO_s, paO_s, apO_s, exO_s, plO_s, ptO_s, dB_b, tru_b, tru_n, tru_i, tru_l, tru_t, is_n, isn_n, nn_n, nn_i, nn_b, nn_t, nn_l, add_ii, add'_ii, sub_ii, neg_i, lt_ii, le_ii, gt_ii, ge_ii, ix_l, ix_t, ix_s, at0, at1, at2, sl_l, sl_t, len_l, len_t, len_s, abs_i, int_i, int_b, max_ii, min_ii, tup_s, lst_s, seq_l, seq_t, sum_s, wipe_n, wipe_c, mul_ii, fdiv_ii, mod_ii, add_ll, add_tt, setAll, mkT, mkL, oNot, List.getD_cons_zero, List.getD_cons_succ, List.length_cons, List.length_nil, List.set_cons_zero, List.set_cons_succ, List.map_cons, List.map_nil, List.replicate, List.cons_append, List.nil_append, List.append_nil, Option.bind_some, Option.map_some, List.all_cons, List.all_nil, if_true, if_false, reduceIte, Nat.reduceAdd, Nat.reduceSub, Nat.reduceLT, Nat.reduceLeDiff, Nat.reduceEqDiff, decide_true, decide_false, Bool.and_true, Bool.and_self, Bool.true_and, Bool.not_true, Bool.not_false, ne_eq, not_true_eq_false, not_false_eq_true, Nat.zero_add, Bool.false_eq_true, and_self, true_and, and_true, g, lp, ct, lk, fl, fb]
/-- going to one that stands -/
theorem stand_find {w v : Int} (hw : 0 ≤ w) (hw2 : w ≤ 150) (hv : 1 ≤ v) : (List.range (99 + 1)).find? (fun h => decide (w ≤ (v + 1) * (h : Nat))) = some ((w + v).fdiv (v + 1)).toNat ∧ (((w + v).fdiv (v + 1)).toNat : Int) = (w + v).fdiv (v + 1) := by
  have e : (w + v).fdiv (v + 1) = (w + v) / (v + 1) := Int.fdiv_eq_ediv_of_nonneg _ (by omega)
  rw [e]
  have h1 : (v + 1) * ((w + v) / (v + 1)) ≤ w + v := Int.mul_ediv_self_le (by omega)
  have h2 : w + v < (v + 1) * ((w + v) / (v + 1)) + (v + 1) := Int.lt_mul_ediv_self_add (by omega)
  have h0 : 0 ≤ (w + v) / (v + 1) := Int.ediv_nonneg (by omega) (by omega)
  generalize (w + v) / (v + 1) = c at *
  obtain ⟨k, rfl⟩ := Int.eq_ofNat_of_zero_le h0
  have hk : (k : Int) < 100 := by
    rcases Int.lt_or_le (k : Int) 100 with h | h
    · exact h
    · have : 2 * (k : Int) ≤ (v + 1) * (k : Int) := Int.mul_le_mul_of_nonneg_right (by omega) (by omega)
      have h3 : (v + 1) * 100 ≤ (v + 1) * (k : Int) := Int.mul_le_mul_of_nonneg_left h (by omega)
      omega
  refine ⟨?_, by simp⟩
  rw [Int.toNat_natCast]
  have hw' : w ≤ (v + 1) * (k : Int) := by omega
  rw [List.find?_eq_some_iff_getElem]
  refine ⟨decide_eq_true hw', k, by simp; omega, by simp, fun j hj => ?_⟩
  have : (v + 1) * (j : Int) ≤ (v + 1) * ((k : Int) - 1) := Int.mul_le_mul_of_nonneg_left (by omega) (by omega)
  have e2 : (v + 1) * ((k : Int) - 1) = (v + 1) * (k : Int) - (v + 1) := by grind
  simp only [List.getElem_range, Bool.not_eq_true', decide_eq_false_iff_not]
  omega
theorem sets_one : d_all_sets [.int 1] = some (.list [.tuple [], .tuple [.int 0]]) := by kernel_rfl
theorem min_one (w : Int) : bMinK [.list [.int w]] .none = some (.int w) := minK_map (α := Int) (x := .list [.int w]) (by decide) [w] .none rfl
theorem max_one (w : Int) : bMaxK [.list [.int w]] (.int 0) = some (.int w) := by
  have ok : okCmp ([w].map PyData.int) = true := okCmp_map (α := Int) (by decide) [w]
  show ((seqD (.list ([w].map PyData.int))).bind fun ds => if okCmp ds then pickD PySem.W.maxD (some (.int 0)) ds else none) = _
  rw [seq_l, Option.bind_some, if_pos ok]
  rfl
theorem min_pair (w : Int) : bMinK [.list [.tuple [.int w, .tuple [.int 0]]]] .none = some (.tuple [.int w, .tuple [.int 0]]) := minK_map (α := Int × Tup Int) (x := .list [.tuple [.int w, .tuple [.int 0]]]) (by decide) [(w, ⟨[0]⟩)] .none rfl
theorem non_in (w : Int) : oNotIn .none (.list [.int w]) = some (.bool true) := by
  have h1 : shp PyData.none = true := by simp [shp, SeqAt.shaped, PyData.canLay0, PyData.depth]
  have h2 : PyData.canLayAll0 [.int w] = true := by simp [PyData.canLayAll0, PyData.canLay0]
  show (if (shp PyData.none && PyData.canLayAll0 [.int w]) = true then some (PyData.bool (!([PyData.int w].any fun z => PyData.eqv z .none))) else none) = _
  rw [h1, h2]
  simp [PyData.eqv]
theorem reach_eq (p q : Pt) : d_reach_needed [.tuple [eP p], .int 1, .tuple [eP q]] = some (.tuple [.int (way p q), .tuple [.int 0]]) := by
  have w := way_of_eq p q
  have m1 := min_one (way p q)
  have m2 := max_one (way p q)
  have m3 := min_pair (way p q)
  have ni := non_in (way p q)
  generalize eP p = EP at *
  generalize eP q = EQ at *
  generalize way p q = wv at *
  have d0 : decide ((0 : Int) = 1) = false := by decide
  have d1 : decide ((1 : Int) = 1) = true := by decide
  have s0 : ((0 : Nat) : Int) = 0 := rfl
  have s1 : ((0 + 1 : Nat) : Int) = 1 := rfl
  simp -implicitDefEqProofs only [d_reach_needed, g_reach_needed, l1_reach_needed, xVar_a, xC_a, xBin_a, xUn_a, tOf_a, tTru_a, tNotP_a, tAndP_a, tOrP_a, tyes_a, tno_a, tYesP_a, xNil_a, xCons_a, xTup_a, xLst_a, xAnd_a, xOr_a, xIf_a, xChain_a, oNo_a, oAt_a, xSl_a, xCall_a, xSeq_a, xIt_a, xLc_a, gSet_a, gTupD_a, gsNil_a, gsCons_a, sNop_a, sBrk_a, sCnt_a, sSeq_a, sRet_a, sIf_a, sSet_a, sTgt_a, sAug_a, sApp_a, sExt_a, sPut_a, sPutK_a, pkO_s, sFor_a, sWhile_a, sPar_a, runD_a, b2_s, c2_s, sqO_nx, sqO_rt, sqO_bk, sqO_ct, ifO_t, ifO_f, stO_s, endO_nx, endO_rt, andO_t, andO_f, orO_t, orO_f, chO_s, chP_t, chP_f, slO_s, atO_i, lcO_s, forO_s, gsO_s, nxO_s, tgO_s, paO_s, apO_s, exO_s, plO_s, ptO_s, dB_b, tru_b, tru_n, tru_i, tru_l, tru_t, is_n, isn_n, nn_n, nn_i, nn_b, nn_t, nn_l, add_ii, add'_ii, sub_ii, neg_i, lt_ii, le_ii, gt_ii, ge_ii, ix_l, ix_t, ix_s, at0, at1, at2, sl_l, sl_t, len_l, len_t, len_s, abs_i, int_i, int_b, max_ii, min_ii, tup_s, lst_s, seq_l, seq_t, sum_s, wipe_n, wipe_c, mul_ii, fdiv_ii, mod_ii, add_ll, add_tt, setAll, mkT, mkL, oNot, List.getD_cons_zero, List.getD_cons_succ, List.length_cons, List.length_nil, List.set_cons_zero, List.set_cons_succ, List.map_cons, List.map_nil, List.replicate, List.cons_append, List.nil_append, List.append_nil, Option.bind_some, Option.map_some, List.all_cons, List.all_nil, if_true, if_false, reduceIte, Nat.reduceAdd, Nat.reduceSub, Nat.reduceLT, Nat.reduceLeDiff, Nat.reduceEqDiff, decide_true, decide_false, Bool.and_true, Bool.and_self, Bool.true_and, Bool.not_true, Bool.not_false, ne_eq, not_true_eq_false, not_false_eq_true, Nat.zero_add, Bool.false_eq_true, and_self, true_and, and_true, s0, s1, sets_one, forL, eq_int, d0, d1, lcL, w, xCallK_a, m1, ni, m2, m3]
theorem hose_eq (p q : Pt) (k : Int) : d_hose_reach [.tuple [eP p], .int k, .tuple [eP q]] = some (.tuple [.tuple (if way p q ≤ k then [.int 0] else [])]) := by
  have w := way_of_eq p q
  have en : oEnum [.tuple [eP p]] = some [.tuple [.int 0, eP p]] := rfl
  generalize eP p = EP at *
  generalize eP q = EQ at *
  generalize way p q = wv at *
  by_cases h : wv ≤ k
  · simp -implicitDefEqProofs only [d_hose_reach, g_hose_reach, xVar_a, xC_a, xBin_a, xUn_a, tOf_a, tTru_a, tNotP_a, tAndP_a, tOrP_a, tyes_a, tno_a, tYesP_a, xNil_a, xCons_a, xTup_a, xLst_a, xAnd_a, xOr_a, xIf_a, xChain_a, oNo_a, oAt_a, xSl_a, xCall_a, xSeq_a, xIt_a, xLc_a, gSet_a, gTupD_a, gsNil_a, gsCons_a, sNop_a, sBrk_a, sCnt_a, sSeq_a, sRet_a, sIf_a, sSet_a, sTgt_a, sAug_a, sApp_a, sExt_a, sPut_a, sPutK_a, pkO_s, sFor_a, sWhile_a, sPar_a, runD_a, b2_s, c2_s, sqO_nx, sqO_rt, sqO_bk, sqO_ct, ifO_t, ifO_f, stO_s, endO_nx, endO_rt, andO_t, andO_f, orO_t, orO_f, chO_s, chP_t, chP_f, slO_s, atO_i, lcO_s, forO_s, gsO_s, nxO_s, tgO_s, paO_s, apO_s, exO_s, plO_s, ptO_s, dB_b, tru_b, tru_n, tru_i, tru_l, tru_t, is_n, isn_n, nn_n, nn_i, nn_b, nn_t, nn_l, add_ii, add'_ii, sub_ii, neg_i, lt_ii, le_ii, gt_ii, ge_ii, ix_l, ix_t, ix_s, at0, at1, at2, sl_l, sl_t, len_l, len_t, len_s, abs_i, int_i, int_b, max_ii, min_ii, tup_s, lst_s, seq_l, seq_t, sum_s, wipe_n, wipe_c, mul_ii, fdiv_ii, mod_ii, add_ll, add_tt, setAll, mkT, mkL, oNot, List.getD_cons_zero, List.getD_cons_succ, List.length_cons, List.length_nil, List.set_cons_zero, List.set_cons_succ, List.map_cons, List.map_nil, List.replicate, List.cons_append, List.nil_append, List.append_nil, Option.bind_some, Option.map_some, List.all_cons, List.all_nil, if_true, if_false, reduceIte, Nat.reduceAdd, Nat.reduceSub, Nat.reduceLT, Nat.reduceLeDiff, Nat.reduceEqDiff, decide_true, decide_false, Bool.and_true, Bool.and_self, Bool.true_and, Bool.not_true, Bool.not_false, ne_eq, not_true_eq_false, not_false_eq_true, Nat.zero_add, Bool.false_eq_true, and_self, true_and, and_true, en, lcL, w, h]
  · simp -implicitDefEqProofs only [d_hose_reach, g_hose_reach, xVar_a, xC_a, xBin_a, xUn_a, tOf_a, tTru_a, tNotP_a, tAndP_a, tOrP_a, tyes_a, tno_a, tYesP_a, xNil_a, xCons_a, xTup_a, xLst_a, xAnd_a, xOr_a, xIf_a, xChain_a, oNo_a, oAt_a, xSl_a, xCall_a, xSeq_a, xIt_a, xLc_a, gSet_a, gTupD_a, gsNil_a, gsCons_a, sNop_a, sBrk_a, sCnt_a, sSeq_a, sRet_a, sIf_a, sSet_a, sTgt_a, sAug_a, sApp_a, sExt_a, sPut_a, sPutK_a, pkO_s, sFor_a, sWhile_a, sPar_a, runD_a, b2_s, c2_s, sqO_nx, sqO_rt, sqO_bk, sqO_ct, ifO_t, ifO_f, stO_s, endO_nx, endO_rt, andO_t, andO_f, orO_t, orO_f, chO_s, chP_t, chP_f, slO_s, atO_i, lcO_s, forO_s, gsO_s, nxO_s, tgO_s, paO_s, apO_s, exO_s, plO_s, ptO_s, dB_b, tru_b, tru_n, tru_i, tru_l, tru_t, is_n, isn_n, nn_n, nn_i, nn_b, nn_t, nn_l, add_ii, add'_ii, sub_ii, neg_i, lt_ii, le_ii, gt_ii, ge_ii, ix_l, ix_t, ix_s, at0, at1, at2, sl_l, sl_t, len_l, len_t, len_s, abs_i, int_i, int_b, max_ii, min_ii, tup_s, lst_s, seq_l, seq_t, sum_s, wipe_n, wipe_c, mul_ii, fdiv_ii, mod_ii, add_ll, add_tt, setAll, mkT, mkL, oNot, List.getD_cons_zero, List.getD_cons_succ, List.length_cons, List.length_nil, List.set_cons_zero, List.set_cons_succ, List.map_cons, List.map_nil, List.replicate, List.cons_append, List.nil_append, List.append_nil, Option.bind_some, Option.map_some, List.all_cons, List.all_nil, if_true, if_false, reduceIte, Nat.reduceAdd, Nat.reduceSub, Nat.reduceLT, Nat.reduceLeDiff, Nat.reduceEqDiff, decide_true, decide_false, Bool.and_true, Bool.and_self, Bool.true_and, Bool.not_true, Bool.not_false, ne_eq, not_true_eq_false, not_false_eq_true, Nat.zero_add, Bool.false_eq_true, and_self, true_and, and_true, en, lcL, w, h]
end K25

namespace K25
open PySem PySem.Spec PyProof.Rows L2 Pm
open PySem.W (Datum Tup)
/-- the ships that the law makes -/
def OkB (R : List Sp) : Prop := 2 ≤ R.length ∧ R.length ≤ 4 ∧ ∀ s ∈ R, (-60 ≤ s.1.1 ∧ s.1.1 ≤ 60 ∧ -60 ≤ s.1.2 ∧ s.1.2 ≤ 60) ∧ -10 ≤ s.2.1 ∧ s.2.1 ≤ 10 ∧ -10 ≤ s.2.2 ∧ s.2.2 ≤ 10
theorem OkB.ok {R : List Sp} (h : OkB R) : OkR R := ⟨fun s hs => by
  have := h.2.2 s hs
  unfold OkS OkP Sm
  refine ⟨⟨?_, ?_⟩, ?_, ?_⟩ <;> omega, h.2.1⟩
theorem cut_two (x y : D) (l : List D) : Pm.cutD (x :: y :: l) none (some 2) = [x, y] := by
  have : Pm.cutD (x :: y :: l) none (some ((2 : Nat) : Int)) = (x :: y :: l).take 2 := by
    unfold Pm.cutD
    rw [HT.sIx_none, List.drop_zero, Nat.sub_zero, HT.sIx_nat, ← List.take_take, List.take_length]
  exact this
theorem find_congr {α : Type} {p q : α → Bool} (l : List α) (h : ∀ x, p x = q x) : l.find? p = l.find? q := by
  have : p = q := funext h
  rw [this]
theorem stand_course (p q : Pt) (ost : OkS (q, (0, 0))) (hww : 0 ≤ way p q) (hw150 : way p q ≤ 150) {v : Int} (hv : 1 ≤ v) (sv1 : Sm 10 (v + 1)) :
    d_course_to [eP p, .tuple [eP q, .tuple [.int 0, .int 0]], .int (v + 1), .int 99] = some (.tuple [.int ((way p q + v).fdiv (v + 1)), eP q]) := by
  obtain ⟨f1, f2⟩ := stand_find (w := way p q) (v := v) hww hw150 hv
  have ct := course_to_eq (p := p) (s := (q, (0, 0))) ost sv1 (b := 99) (by omega)
  have ea : ∀ h : Int, at_ (q, (0, 0)) h = q := fun h => by
    unfold at_
    simp only [Int.mul_zero, Int.add_zero]
  rw [find_congr (q := fun h : Nat => decide (way p q ≤ (v + 1) * (h : Nat))) (List.range (99 + 1)) (fun h => by rw [ea]), f1] at ct
  have c2 : cO (q, (0, 0)) (some ((way p q + v).fdiv (v + 1)).toNat) = .tuple [.int ((way p q + v).fdiv (v + 1)), eP q] := by
    show PyData.tuple [.int (((way p q + v).fdiv (v + 1)).toNat : Int), eP (at_ (q, (0, 0)) (((way p q + v).fdiv (v + 1)).toNat : Int))] = _
    rw [f2, ea]
  rw [c2] at ct
  exact ct
theorem law_seen_ok {R : List Sp} (hB : OkB R) {r : List Int} (hr : r.length = 60) : d__law_seen [.tuple (R.map eS), .list (r.map PyData.int)] = some (.bool true) := by
  have hR := hB.ok
  obtain ⟨s0, s1, rest, rfl⟩ : ∃ s0 s1 rest, R = s0 :: s1 :: rest := by
    have := hB.1
    match R, this with
    | s0 :: s1 :: rest, _ => exact ⟨s0, s1, rest, rfl⟩
  have b0 := hB.2.2 s0 (by simp)
  have b1 := hB.2.2 s1 (by simp)
  have o0 := hR.1 s0 (by simp)
  have o1 := hR.1 s1 (by simp)
  have ix : ∀ k : Nat, k < 60 → atI (r.map PyData.int) (k : Int) = some (.int (r.getD k 0)) := fun k hk => row_at r k (by omega)
  have i46 : atI (r.map PyData.int) 46 = some (.int (r.getD 46 0)) := ix 46 (by omega)
  have i47 : atI (r.map PyData.int) 47 = some (.int (r.getD 47 0)) := ix 47 (by omega)
  have i48 : atI (r.map PyData.int) 48 = some (.int (r.getD 48 0)) := ix 48 (by omega)
  have i49 : atI (r.map PyData.int) 49 = some (.int (r.getD 49 0)) := ix 49 (by omega)
  have i50 : atI (r.map PyData.int) 50 = some (.int (r.getD 50 0)) := ix 50 (by omega)
  have i51 : atI (r.map PyData.int) 51 = some (.int (r.getD 51 0)) := ix 51 (by omega)
  have z3 : (3 : Int) ≠ 0 := by decide
  have z12 : (12 : Int) ≠ 0 := by decide
  have z9 : (9 : Int) ≠ 0 := by decide
  have z5 : (5 : Int) ≠ 0 := by decide
  have r46 := fmod_rng (r.getD 46 0) (m := 3) (by decide)
  obtain ⟨b, hb, hb12⟩ := fmod_nat (r.getD 47 0) (m := 12) (by decide)
  have r48 := fmod_rng (r.getD 48 0) (m := 9) (by decide)
  have r49 := fmod_rng (r.getD 49 0) (m := 9) (by decide)
  have r50 := fmod_rng (r.getD 50 0) (m := 5) (by decide)
  have r51 := fmod_rng (r.getD 51 0) (m := 5) (by decide)
  generalize hv : (1 : Int) + (r.getD 46 0).fmod 3 = v at *
  generalize hp1 : (r.getD 48 0).fmod 9 = p1 at *
  generalize hp2 : (r.getD 49 0).fmod 9 = p2 at *
  generalize hw1 : (r.getD 50 0).fmod 5 - 2 = w1 at *
  generalize hw2 : (r.getD 51 0).fmod 5 - 2 = w2 at *
  have sv : Sm 10 v := by unfold Sm; omega
  have sv1 : Sm 10 (v + 1) := by unfold Sm; omega
  have ost : OkS (s1.1, (0, 0)) := ⟨o1.1, Sm.zero, Sm.zero⟩
  obtain ⟨y7, y11, y12, st0⟩ := see_step (s := s0) o0 (p := (p1, p2)) sv (b := b) (by omega) (some (.tuple ((s0 :: s1 :: rest).map eS))) (some (.list (r.map PyData.int))) none none none none none none none none none none
  obtain ⟨z7, z11, z12', st1⟩ := see_step (s := (s1.1, (0, 0))) ost (p := (p1, p2)) sv (b := b) (by omega) (some (.tuple ((s0 :: s1 :: rest).map eS))) (some (.list (r.map PyData.int))) none none none none y7 y11 y12 none none none
  have lp : forL (gSet 2) l2__law_seen [eS s0, eS (s1.1, (0, 0))] [some (.tuple ((s0 :: s1 :: rest).map eS)), some (.list (r.map PyData.int)), none, none, none, none, none, none, some (.int v), some (.int (b : Nat)), some (eP (p1, p2)), none, none, none, none, none] =
      some (.nx [some (.tuple ((s0 :: s1 :: rest).map eS)), some (.list (r.map PyData.int)), some (eS (s1.1, (0, 0))), none, none, none, none, z7, some (.int v), some (.int (b : Nat)), some (eP (p1, p2)), z11, z12', none, none, none]) := by
    have g1 : gSet 2 (eS s0) [some (.tuple ((s0 :: s1 :: rest).map eS)), some (.list (r.map PyData.int)), none, none, none, none, none, none, some (.int v), some (.int (b : Nat)), some (eP (p1, p2)), none, none, none, none, none] = some [some (.tuple ((s0 :: s1 :: rest).map eS)), some (.list (r.map PyData.int)), some (eS s0), none, none, none, none, none, some (.int v), some (.int (b : Nat)), some (eP (p1, p2)), none, none, none, none, none] := rfl
    have g2 : gSet 2 (eS (s1.1, (0, 0))) [some (.tuple ((s0 :: s1 :: rest).map eS)), some (.list (r.map PyData.int)), some (eS s0), none, none, none, none, y7, some (.int v), some (.int (b : Nat)), some (eP (p1, p2)), y11, y12, none, none, none] = some [some (.tuple ((s0 :: s1 :: rest).map eS)), some (.list (r.map PyData.int)), some (eS (s1.1, (0, 0))), none, none, none, none, y7, some (.int v), some (.int (b : Nat)), some (eP (p1, p2)), y11, y12, none, none, none] := rfl
    simp -implicitDefEqProofs only [forL, g1, Option.bind_some, st0, g2, st1]
  -- the goal that stands
  have hww : 0 ≤ way (p1, p2) s1.1 := way_nn _ _
  have hw150 : way (p1, p2) s1.1 ≤ 150 := by
    unfold way ab
    simp only
    split <;> split <;> omega
  have ct := stand_course (p1, p2) s1.1 ost hww hw150 (v := v) (by omega) sv1
  have dv : divOk (v + 1) = true := divOk_lit (by omega) (sv1.mono (by omega))
  have lk1 : ∀ c : Int, d__law_like 8 [.tuple [.int c, eP s1.1], .tuple [.int c, eP s1.1]] = some (.bool true) := fun c => like_tup 7 _ (by simp) fun y hy => by
    simp at hy
    rcases hy with rfl | rfl
    · exact like_int _ _
    · exact like_P 5 _
  have flc : ∀ c : Int, flat (.tuple [.int c, eP s1.1]) = true := fun c => rfl
  have fl1 : ∀ c : Int, flat (.tuple [.int c, .tuple [.int 0]]) = true := fun c => rfl
  have fl2 : flat (.tuple [.tuple [.int 0]]) = true := rfl
  have fl3 : flat (.tuple [.tuple []]) = true := rfl
  have rn := reach_eq (p1, p2) s1.1
  have lk2 : ∀ c : Int, d__law_like 8 [.tuple [.int c, .tuple [.int 0]], .tuple [.int c, .tuple [.int 0]]] = some (.bool true) := fun c => like_tup 7 _ (by simp) fun y hy => by
    simp at hy
    rcases hy with rfl | rfl
    · exact like_int _ _
    · exact like_ints 5 [0] (by simp)
  have hs1 := hose_eq (p1, p2) s1.1 (way (p1, p2) s1.1)
  have hs2 := hose_eq (p1, p2) s1.1 (way (p1, p2) s1.1 - 1)
  rw [if_pos (Int.le_refl _)] at hs1
  rw [if_neg (by omega)] at hs2
  have lk3 : d__law_like 8 [.tuple [.tuple [.int 0]], .tuple [.tuple [.int 0]]] = some (.bool true) := like_tup 7 _ (by simp) fun y hy => by
    simp at hy
    subst hy
    exact like_ints 5 [0] (by simp)
  have lk4 : d__law_like 8 [.tuple [.tuple []], .tuple [.tuple []]] = some (.bool true) := like_tup 7 _ (by simp) fun y hy => by
    simp at hy
    subst hy
    exact like_ints 5 [] (by simp)
  -- the wind
  have nq0 := law_nearest_eq o0 o1
  have bl : ∀ s : Sp, ((-60 ≤ s.1.1 ∧ s.1.1 ≤ 60 ∧ -60 ≤ s.1.2 ∧ s.1.2 ≤ 60) ∧ -10 ≤ s.2.1 ∧ s.2.1 ≤ 10 ∧ -10 ≤ s.2.2 ∧ s.2.2 ≤ 10) → OkS (blow (w1, w2) s) := fun s h => by
    unfold OkS OkP Sm blow
    simp only
    refine ⟨⟨?_, ?_⟩, ?_, ?_⟩ <;> omega
  have nb := nearest_square_eq (bl s0 b0) (bl s1 b1)
  rw [nq_blow] at nb
  have lk5 := like_rd 6 (nq s0 s1)
  have eb : ∀ s : Sp, eS (blow (w1, w2) s) = .tuple [eP s.1, .tuple [.int (s.2.1 + w1), .int (s.2.2 + w2)]] := fun s => rfl
  rw [eb, eb] at nb
  have es : ∀ s : Sp, eS s = .tuple [eP s.1, .tuple [.int s.2.1, .int s.2.2]] := fun s => rfl
  have ep : ∀ p : Pt, eP p = .tuple [.int p.1, .int p.2] := fun p => rfl
  have wy : (if s1.1.1 - p1 < 0 then -(s1.1.1 - p1) else s1.1.1 - p1) + (if s1.1.2 - p2 < 0 then -(s1.1.2 - p2) else s1.1.2 - p2) = way (p1, p2) s1.1 := way_symm s1.1 (p1, p2)
  have lcw : ∀ x3 x4 x5 x6 x7 x11 x12 z13 z14 z15 x2 : Option D, lcL (gTupD 2 (gsCons (gSet 13) (gsCons (gSet 14) gsNil))) tYesP (xTup (xCons (xVar 13) (xCons (xTup (xCons (xBin oAdd (xBin oIx (xVar 14) (xC (.int 0))) (xBin oIx (xVar 5) (xC (.int 0)))) (xCons (xBin oAdd (xBin oIx (xVar 14) (xC (.int 1))) (xBin oIx (xVar 5) (xC (.int 1)))) xNil))) xNil))) [some (.tuple ((s0 :: s1 :: rest).map eS)), some (.list (r.map PyData.int)), x2, x3, x4, some (.tuple [.int w1, .int w2]), x6, x7, some (.int v), some (.int (b : Nat)), some (eP (p1, p2)), x11, x12, z13, z14, z15] [eS s0, eS s1] = some [.tuple [eP s0.1, .tuple [.int (s0.2.1 + w1), .int (s0.2.2 + w2)]], .tuple [eP s1.1, .tuple [.int (s1.2.1 + w1), .int (s1.2.2 + w2)]]] := fun x3 x4 x5 x6 x7 x11 x12 z13 z14 z15 x2 => by
    rw [es s0, es s1]
    generalize eP s0.1 = Q0 at *
    generalize eP s1.1 = Q1 at *
    generalize eP (p1, p2) = PP at *
    generalize (s0 :: s1 :: rest).map eS = MR at *
    generalize r.map PyData.int = RR at *
    simp -implicitDefEqProofs only [lcL, xVar_a, xC_a, xBin_a, xUn_a, tOf_a, tTru_a, tNotP_a, tAndP_a, tOrP_a, tyes_a, tno_a, tYesP_a, xNil_a, xCons_a, xTup_a, xLst_a, xAnd_a, xOr_a, xIf_a, xChain_a, oNo_a, oAt_a, xSl_a, xCall_a, xSeq_a, xIt_a, xLc_a, gSet_a, gTupD_a, gsNil_a, gsCons_a, sNop_a, sBrk_a, sCnt_a, sSeq_a, sRet_a, sIf_a, sSet_a, sTgt_a, sAug_a, sApp_a, sExt_a, sPut_a, sPutK_a, pkO_s, sFor_a, sWhile_a, sPar_a, runD_a, b2_s, c2_s, sqO_nx, sqO_rt, sqO_bk, sqO_ct, ifO_t, ifO_f, stO_s, endO_nx, endO_rt, andO_t, andO_f, orO_t, orO_f, chO_s, chP_t, chP_f, slO_s, atO_i, lcO_s, forO_s, gsO_s, nxO_s, tgO_s, paO_s, apO_s, exO_s, plO_s, ptO_s, dB_b, tru_b, tru_n, tru_i, tru_l, tru_t, is_n, isn_n, nn_n, nn_i, nn_b, nn_t, nn_l, add_ii, add'_ii, sub_ii, neg_i, lt_ii, le_ii, gt_ii, ge_ii, ix_l, ix_t, ix_s, at0, at1, at2, sl_l, sl_t, len_l, len_t, len_s, abs_i, int_i, int_b, max_ii, min_ii, tup_s, lst_s, seq_l, seq_t, sum_s, wipe_n, wipe_c, mul_ii, fdiv_ii, mod_ii, add_ll, add_tt, setAll, mkT, mkL, oNot, List.getD_cons_zero, List.getD_cons_succ, List.length_cons, List.length_nil, List.set_cons_zero, List.set_cons_succ, List.map_cons, List.map_nil, List.replicate, List.cons_append, List.nil_append, List.append_nil, Option.bind_some, Option.map_some, List.all_cons, List.all_nil, if_true, if_false, reduceIte, Nat.reduceAdd, Nat.reduceSub, Nat.reduceLT, Nat.reduceLeDiff, Nat.reduceEqDiff, decide_true, decide_false, Bool.and_true, Bool.and_self, Bool.true_and, Bool.not_true, Bool.not_false, ne_eq, not_true_eq_false, not_false_eq_true, Nat.zero_add, Bool.false_eq_true, and_self, true_and, and_true]
  have ct2 := cut_two (eS s0) (eS s1) (rest.map eS)
  have a0 : atI ((s0 :: s1 :: rest).map eS) 0 = some (eS s0) := Pm.at0 _ _
  have a1 : atI ((s0 :: s1 :: rest).map eS) 1 = some (eS s1) := Pm.at1 _ _ _
  have ct2 : Pm.cutD ((s0 :: s1 :: rest).map eS) none (some 2) = [eS s0, eS s1] := ct2
  have e10 : oIx (eS s1) (.int 0) = some (eP s1.1) := rfl
  have e11 : oIx (eP s1.1) (.int 0) = some (.int s1.1.1) := rfl
  have e12 : oIx (eP s1.1) (.int 1) = some (.int s1.1.2) := rfl
  have epp : PyData.tuple [.int p1, .int p2] = eP (p1, p2) := rfl
  have e13 : oIx (eP (p1, p2)) (.int 0) = some (.int p1) := rfl
  have e14 : oIx (eP (p1, p2)) (.int 1) = some (.int p2) := rfl
  have ess : PyData.tuple [eP s1.1, .tuple [.int 0, .int 0]] = eS (s1.1, (0, 0)) := rfl
  rw [ess] at ct
  generalize eS (s1.1, (0, 0)) = EST at *
  generalize eS s0 = E0 at *
  generalize eS s1 = E1 at *
  generalize eP s0.1 = Q0 at *
  generalize eP s1.1 = Q1 at *
  generalize eP (p1, p2) = PP at *
  generalize rd (nh s0 s1) = N1 at *
  generalize rd (nq s0 s1) = N2 at *
  generalize way (p1, p2) s1.1 = wv at *
  generalize (s0 :: s1 :: rest).map eS = MR at *
  generalize r.map PyData.int = RR at *
  have lcw' := lcw (some Q1) (some (.int wv)) none none z7 z11 z12' none none none (some EST)
  by_cases h0 : 0 < wv
  · simp -implicitDefEqProofs only [d__law_seen, g__law_seen, xVar_a, xC_a, xBin_a, xUn_a, tOf_a, tTru_a, tNotP_a, tAndP_a, tOrP_a, tyes_a, tno_a, tYesP_a, xNil_a, xCons_a, xTup_a, xLst_a, xAnd_a, xOr_a, xIf_a, xChain_a, oNo_a, oAt_a, xSl_a, xCall_a, xSeq_a, xIt_a, xLc_a, gSet_a, gTupD_a, gsNil_a, gsCons_a, sNop_a, sBrk_a, sCnt_a, sSeq_a, sRet_a, sIf_a, sSet_a, sTgt_a, sAug_a, sApp_a, sExt_a, sPut_a, sPutK_a, pkO_s, sFor_a, sWhile_a, sPar_a, runD_a, b2_s, c2_s, sqO_nx, sqO_rt, sqO_bk, sqO_ct, ifO_t, ifO_f, stO_s, endO_nx, endO_rt, andO_t, andO_f, orO_t, orO_f, chO_s, chP_t, chP_f, slO_s, atO_i, lcO_s, forO_s, gsO_s, nxO_s, tgO_s, paO_s, apO_s, exO_s, plO_s, ptO_s, dB_b, tru_b, tru_n, tru_i, tru_l, tru_t, is_n, isn_n, nn_n, nn_i, nn_b, nn_t, nn_l, add_ii, add'_ii, sub_ii, neg_i, lt_ii, le_ii, gt_ii, ge_ii, ix_l, ix_t, ix_s, at0, at1, at2, sl_l, sl_t, len_l, len_t, len_s, abs_i, int_i, int_b, max_ii, min_ii, tup_s, lst_s, seq_l, seq_t, sum_s, wipe_n, wipe_c, mul_ii, fdiv_ii, mod_ii, add_ll, add_tt, setAll, mkT, mkL, oNot, List.getD_cons_zero, List.getD_cons_succ, List.length_cons, List.length_nil, List.set_cons_zero, List.set_cons_succ, List.map_cons, List.map_nil, List.replicate, List.cons_append, List.nil_append, List.append_nil, Option.bind_some, Option.map_some, List.all_cons, List.all_nil, if_true, if_false, reduceIte, Nat.reduceAdd, Nat.reduceSub, Nat.reduceLT, Nat.reduceLeDiff, Nat.reduceEqDiff, decide_true, decide_false, Bool.and_true, Bool.and_self, Bool.true_and, Bool.not_true, Bool.not_false, ne_eq, not_true_eq_false, not_false_eq_true, Nat.zero_add, Bool.false_eq_true, and_self, true_and, and_true, i46, i47, i48, i49, i50, i51, mod_ii z3, mod_ii z12, mod_ii z9, mod_ii z5, hv, hb, hp1, hp2, epp, a0, a1, e10, ess, lp, e11, e12, e13, e14, wy, ct, fdiv_ii dv, lk1, flc, fl1, fl2, fl3, rn, lk2, hs1, hs2, lk3, lk4, h0, hw1, hw2, ct2, lcw', nq0, nb, lk5]
  · simp -implicitDefEqProofs only [d__law_seen, g__law_seen, xVar_a, xC_a, xBin_a, xUn_a, tOf_a, tTru_a, tNotP_a, tAndP_a, tOrP_a, tyes_a, tno_a, tYesP_a, xNil_a, xCons_a, xTup_a, xLst_a, xAnd_a, xOr_a, xIf_a, xChain_a, oNo_a, oAt_a, xSl_a, xCall_a, xSeq_a, xIt_a, xLc_a, gSet_a, gTupD_a, gsNil_a, gsCons_a, sNop_a, sBrk_a, sCnt_a, sSeq_a, sRet_a, sIf_a, sSet_a, sTgt_a, sAug_a, sApp_a, sExt_a, sPut_a, sPutK_a, pkO_s, sFor_a, sWhile_a, sPar_a, runD_a, b2_s, c2_s, sqO_nx, sqO_rt, sqO_bk, sqO_ct, ifO_t, ifO_f, stO_s, endO_nx, endO_rt, andO_t, andO_f, orO_t, orO_f, chO_s, chP_t, chP_f, slO_s, atO_i, lcO_s, forO_s, gsO_s, nxO_s, tgO_s, paO_s, apO_s, exO_s, plO_s, ptO_s, dB_b, tru_b, tru_n, tru_i, tru_l, tru_t, is_n, isn_n, nn_n, nn_i, nn_b, nn_t, nn_l, add_ii, add'_ii, sub_ii, neg_i, lt_ii, le_ii, gt_ii, ge_ii, ix_l, ix_t, ix_s, at0, at1, at2, sl_l, sl_t, len_l, len_t, len_s, abs_i, int_i, int_b, max_ii, min_ii, tup_s, lst_s, seq_l, seq_t, sum_s, wipe_n, wipe_c, mul_ii, fdiv_ii, mod_ii, add_ll, add_tt, setAll, mkT, mkL, oNot, List.getD_cons_zero, List.getD_cons_succ, List.length_cons, List.length_nil, List.set_cons_zero, List.set_cons_succ, List.map_cons, List.map_nil, List.replicate, List.cons_append, List.nil_append, List.append_nil, Option.bind_some, Option.map_some, List.all_cons, List.all_nil, if_true, if_false, reduceIte, Nat.reduceAdd, Nat.reduceSub, Nat.reduceLT, Nat.reduceLeDiff, Nat.reduceEqDiff, decide_true, decide_false, Bool.and_true, Bool.and_self, Bool.true_and, Bool.not_true, Bool.not_false, ne_eq, not_true_eq_false, not_false_eq_true, Nat.zero_add, Bool.false_eq_true, and_self, true_and, and_true, i46, i47, i48, i49, i50, i51, mod_ii z3, mod_ii z12, mod_ii z9, mod_ii z5, hv, hb, hp1, hp2, epp, a0, a1, e10, ess, lp, e11, e12, e13, e14, wy, ct, fdiv_ii dv, lk1, flc, fl1, fl2, fl3, rn, lk2, hs1, hs2, lk3, lk4, h0, hw1, hw2, ct2, lcw', nq0, nb, lk5]
end K25

namespace K25
open PySem PySem.Spec PyProof.Rows L2 Pm
open PySem.W (Datum Tup)
theorem cut_upto (xs : List D) (n : Nat) : Pm.cutD xs none (some (n : Int)) = xs.take n := by
  unfold Pm.cutD
  rw [HT.sIx_none, List.drop_zero, Nat.sub_zero, HT.sIx_nat]
  rw [← List.take_take, List.take_length]
def e3 (p : Pt) (q : Int) : D := .tuple [.int p.1, .int p.2, .int q]
def gP (P : List Pt) (i : Nat) : Pt := P.getD i (0, 0)
def gQ (Q : List Int) (i : Nat) : Int := Q.getD i 0
def OkPs (P : List Pt) : Prop := ∀ p ∈ P, OkP p
def OkQ (Q : List Int) : Prop := ∀ q ∈ Q, Sm 5 q
theorem gP_ok {P : List Pt} (h : OkPs P) (i : Nat) : OkP (gP P i) := by
  unfold gP
  by_cases hi : i < P.length
  · rw [List.getD_eq_getElem?_getD, List.getElem?_eq_getElem hi, Option.getD_some]
    exact h _ (List.getElem_mem hi)
  · rw [List.getD_eq_getElem?_getD, List.getElem?_eq_none (by omega)]
    exact ⟨Sm.zero, Sm.zero⟩
theorem gQ_ok {Q : List Int} (h : OkQ Q) (i : Nat) : Sm 5 (gQ Q i) := by
  unfold gQ
  by_cases hi : i < Q.length
  · rw [List.getD_eq_getElem?_getD, List.getElem?_eq_getElem hi, Option.getD_some]
    exact h _ (List.getElem_mem hi)
  · rw [List.getD_eq_getElem?_getD, List.getElem?_eq_none (by omega)]
    exact Sm.zero
theorem at_P {P : List Pt} {i : Nat} (hi : i < P.length) : atI (P.map eP) (i : Int) = some (eP (gP P i)) := by
  unfold gP
  rw [atI_nat _ _ (by rw [List.length_map]; exact hi), List.getElem_map, List.getD_eq_getElem?_getD, List.getElem?_eq_getElem hi, Option.getD_some]
theorem at_Q {Q : List Int} {i : Nat} (hi : i < Q.length) : atI (Q.map PyData.int) (i : Int) = some (.int (gQ Q i)) := row_at Q i hi
def sqI (p q : Pt) : Int := (p.1 - q.1) * (p.1 - q.1) + (p.2 - q.2) * (p.2 - q.2)
def mtI (p : Pt) (a : Int) (q : Pt) (b : Int) : Bool := decide (sqI p q ≤ (a + b) * (a + b))
theorem sqI_symm (p q : Pt) : sqI p q = sqI q p := by unfold sqI; grind
theorem mtI_symm (p : Pt) (a : Int) (q : Pt) (b : Int) : mtI p a q b = mtI q b p a := by
  unfold mtI
  rw [sqI_symm, Int.add_comm a b]
theorem law_square_eq {p q : Pt} (hp : OkP p) (hq : OkP q) : d__law_square [eP p, eP q] = some (.int (sqI p q)) := by
  have m1 := mok ((hp.1.sub hq.1).mono (k := 100) (by omega)) ((hp.1.sub hq.1).mono (k := 100) (by omega))
  have m2 := mok ((hp.2.sub hq.2).mono (k := 100) (by omega)) ((hp.2.sub hq.2).mono (k := 100) (by omega))
  unfold eP sqI
  simp -implicitDefEqProofs only [d__law_square, g__law_square, xVar_a, xC_a, xBin_a, xUn_a, tOf_a, tTru_a, tNotP_a, tAndP_a, tOrP_a, tyes_a, tno_a, tYesP_a, xNil_a, xCons_a, xTup_a, xLst_a, xAnd_a, xOr_a, xIf_a, xChain_a, oNo_a, oAt_a, xSl_a, xCall_a, xSeq_a, xIt_a, xLc_a, gSet_a, gTupD_a, gsNil_a, gsCons_a, sNop_a, sBrk_a, sCnt_a, sSeq_a, sRet_a, sIf_a, sSet_a, sTgt_a, sAug_a, sApp_a, sExt_a, sPut_a, sPutK_a, pkO_s, sFor_a, sWhile_a, sPar_a, runD_a, b2_s, c2_s, sqO_nx, sqO_rt, sqO_bk, sqO_ct, ifO_t, ifO_f, stO_s, endO_nx, endO_rt, andO_t, andO_f, orO_t, orO_f, chO_s, chP_t, chP_f, slO_s, atO_i, lcO_s, forO_s, gsO_s, nxO_s, tgO_s, paO_s, apO_s, exO_s, plO_s, ptO_s, dB_b, tru_b, tru_n, tru_i, tru_l, tru_t, is_n, isn_n, nn_n, nn_i, nn_b, nn_t, nn_l, add_ii, add'_ii, sub_ii, neg_i, lt_ii, le_ii, gt_ii, ge_ii, ix_l, ix_t, ix_s, at0, at1, at2, sl_l, sl_t, len_l, len_t, len_s, abs_i, int_i, int_b, max_ii, min_ii, tup_s, lst_s, seq_l, seq_t, sum_s, wipe_n, wipe_c, mul_ii, fdiv_ii, mod_ii, add_ll, add_tt, setAll, mkT, mkL, oNot, List.getD_cons_zero, List.getD_cons_succ, List.length_cons, List.length_nil, List.set_cons_zero, List.set_cons_succ, List.map_cons, List.map_nil, List.replicate, List.cons_append, List.nil_append, List.append_nil, Option.bind_some, Option.map_some, List.all_cons, List.all_nil, if_true, if_false, reduceIte, Nat.reduceAdd, Nat.reduceSub, Nat.reduceLT, Nat.reduceLeDiff, Nat.reduceEqDiff, decide_true, decide_false, Bool.and_true, Bool.and_self, Bool.true_and, Bool.not_true, Bool.not_false, ne_eq, not_true_eq_false, not_false_eq_true, Nat.zero_add, Bool.false_eq_true, and_self, true_and, and_true, m1, m2]
theorem swing_eq {p q : Pt} (hp : OkP p) (hq : OkP q) {a b : Int} (ha : Sm 5 a) (hb : Sm 5 b) : d_swing_meets [e3 p a, e3 q b] = some (.bool (mtI p a q b)) := by
  have m1 := mok ((hp.1.sub hq.1).mono (k := 100) (by omega)) ((hp.1.sub hq.1).mono (k := 100) (by omega))
  have m2 := mok ((hp.2.sub hq.2).mono (k := 100) (by omega)) ((hp.2.sub hq.2).mono (k := 100) (by omega))
  have m3 := mok ((ha.add hb).mono (k := 100) (by omega)) ((ha.add hb).mono (k := 100) (by omega))
  have at2 : ∀ x y z : D, atI [x, y, z] 2 = some z := fun _ _ _ => rfl
  unfold e3 mtI sqI
  simp -implicitDefEqProofs only [d_swing_meets, g_swing_meets, xVar_a, xC_a, xBin_a, xUn_a, tOf_a, tTru_a, tNotP_a, tAndP_a, tOrP_a, tyes_a, tno_a, tYesP_a, xNil_a, xCons_a, xTup_a, xLst_a, xAnd_a, xOr_a, xIf_a, xChain_a, oNo_a, oAt_a, xSl_a, xCall_a, xSeq_a, xIt_a, xLc_a, gSet_a, gTupD_a, gsNil_a, gsCons_a, sNop_a, sBrk_a, sCnt_a, sSeq_a, sRet_a, sIf_a, sSet_a, sTgt_a, sAug_a, sApp_a, sExt_a, sPut_a, sPutK_a, pkO_s, sFor_a, sWhile_a, sPar_a, runD_a, b2_s, c2_s, sqO_nx, sqO_rt, sqO_bk, sqO_ct, ifO_t, ifO_f, stO_s, endO_nx, endO_rt, andO_t, andO_f, orO_t, orO_f, chO_s, chP_t, chP_f, slO_s, atO_i, lcO_s, forO_s, gsO_s, nxO_s, tgO_s, paO_s, apO_s, exO_s, plO_s, ptO_s, dB_b, tru_b, tru_n, tru_i, tru_l, tru_t, is_n, isn_n, nn_n, nn_i, nn_b, nn_t, nn_l, add_ii, add'_ii, sub_ii, neg_i, lt_ii, le_ii, gt_ii, ge_ii, ix_l, ix_t, ix_s, at0, at1, at2, sl_l, sl_t, len_l, len_t, len_s, abs_i, int_i, int_b, max_ii, min_ii, tup_s, lst_s, seq_l, seq_t, sum_s, wipe_n, wipe_c, mul_ii, fdiv_ii, mod_ii, add_ll, add_tt, setAll, mkT, mkL, oNot, List.getD_cons_zero, List.getD_cons_succ, List.length_cons, List.length_nil, List.set_cons_zero, List.set_cons_succ, List.map_cons, List.map_nil, List.replicate, List.cons_append, List.nil_append, List.append_nil, Option.bind_some, Option.map_some, List.all_cons, List.all_nil, if_true, if_false, reduceIte, Nat.reduceAdd, Nat.reduceSub, Nat.reduceLT, Nat.reduceLeDiff, Nat.reduceEqDiff, decide_true, decide_false, Bool.and_true, Bool.and_self, Bool.true_and, Bool.not_true, Bool.not_false, ne_eq, not_true_eq_false, not_false_eq_true, Nat.zero_add, Bool.false_eq_true, and_self, true_and, and_true, m1, m2, m3]
theorem ne_same (t : Bool) : oNe (.bool t) (.bool t) = some (.bool false) := by
  cases t <;> simp [oNe, shp, SeqAt.shaped, PyData.eqv, PyData.canLay0, PyData.depth]
/-- range(int(t)) -/
def rr (t : Bool) : List D := if t then [.int 0] else []
theorem rr_eq (t : Bool) : oR1 [.int (if t = true then 1 else 0)] = some (rr t) := by
  cases t
  · exact r1_nul
  · exact r1_one
section
variable {P : List Pt} {Q : List Int} {n : Nat}
def mt (P : List Pt) (Q : List Int) (i j : Nat) : Bool := mtI (gP P i) (gQ Q i) (gP P j) (gQ Q j)
def nr (P : List Pt) (i j : Nat) : Bool := decide (sqI (gP P i) (gP P j) < 16)
def M3 (P : List Pt) (Q : List Int) (n : Nat) : List D := (List.range n).map fun k => e3 (gP P k) (gQ Q k)
theorem at_M3 {i : Nat} (hi : i < n) : atI (M3 P Q n) (i : Int) = some (e3 (gP P i) (gQ Q i)) := by
  unfold M3
  rw [atI_nat _ _ (by simp; exact hi)]
  simp
def st0 (P : List Pt) : List Sp := P.map fun p => (p, (0, 0))
theorem st0_ok (hP : OkPs P) (h4 : P.length ≤ 4) : OkR (st0 P) := ⟨fun s hs => by
  obtain ⟨p, hp, rfl⟩ := List.mem_map.mp hs
  exact ⟨hP p hp, Sm.zero, Sm.zero⟩, by unfold st0; rw [List.length_map]; exact h4⟩
theorem st0_get {i : Nat} (hi : i < P.length) : gS (st0 P) i = (gP P i, (0, 0)) := by
  unfold gS st0 gP
  rw [List.getD_eq_getElem?_getD, List.getElem?_map, List.getElem?_eq_getElem hi, Option.map_some, Option.getD_some, List.getD_eq_getElem?_getD, List.getElem?_eq_getElem hi, Option.getD_some]
theorem np_st0 {i j : Nat} (hi : i < P.length) (hj : j < P.length) (f : Int) : np (st0 P) f i j = decide (sqI (gP P i) (gP P j) < f * f) := by
  unfold np
  rw [st0_get hi, st0_get hj]
  have e : nq (gP P i, (0, 0)) (gP P j, (0, 0)) = ((sqI (gP P i) (gP P j) : Int) : Rat) := by
    unfold nq
    rw [if_pos (.inl (by unfold speed da du; simp))]
    rfl
  rw [e]
  exact decide_eq_decide.mpr Rat.intCast_lt_intCast
theorem fl_congr {α β : Type} {f g : α → List β} : ∀ {l : List α}, (∀ x ∈ l, f x = g x) → l.flatMap f = l.flatMap g
  | [], _ => rfl
  | x :: l, h => by
    rw [List.flatMap_cons, List.flatMap_cons, h x (by simp), fl_congr fun y hy => h y (List.mem_cons_of_mem _ hy)]
theorem near_st0 (hP : OkPs P) (h4 : P.length ≤ 4) {f : Int} (hf : Sm 20 f) : ∃ L : List Pt, d_pairs_near [.tuple ((st0 P).map eS), .int f] = some (.tuple (L.map eP)) ∧ (∀ i j, i < j → j < P.length → (pr i j ∈ L ↔ sqI (gP P i) (gP P j) < f * f)) ∧ L = prs P.length fun i j => decide (sqI (gP P i) (gP P j) < f * f) := by
  have h := pairs_near_eq (st0_ok hP h4) hf
  have hl : (st0 P).length = P.length := List.length_map _
  rw [hl] at h
  have e : prs P.length (np (st0 P) f) = prs P.length fun i j => decide (sqI (gP P i) (gP P j) < f * f) := by
    unfold prs
    refine fl_congr fun i hi => ?_
    congr 1
    refine List.filter_congr fun j hj => ?_
    exact np_st0 (by simpa using hi) (js_mem.mp hj).2 f
  rw [e] at h
  exact ⟨_, h, fun i j h1 h2 => by
    rw [prs_mem]
    simp [h1, h2], rfl⟩
def f1 (P : List Pt) (Q : List Int) (i j : Nat) : List Pt := if mt P Q i j then [pr i j] else []
def f2 (P : List Pt) (i j : Nat) : List Pt := if nr P i j then [pr i j] else []
end
end K25

namespace K25
open PySem PySem.Spec PyProof.Rows L2 Pm
open PySem.W (Datum Tup)
section
variable {P : List Pt} {Q : List Int} {r : List Int}
theorem f1_len (i j : Nat) : (f1 P Q i j).length ≤ 1 := by unfold f1; split <;> simp
theorem f2_len (i j : Nat) : (f2 P i j).length ≤ 1 := by unfold f2; split <;> simp
/-- the pair, as often as t says -/
theorem pair_comp (t : Bool) (ρ : PEnv) (hρ : ρ.length = 20) {i j : Nat} (h4 : ρ.getD 4 none = some (.int (i : Nat))) (h12 : ρ.getD 12 none = some (.int (j : Nat))) :
    lcL (gSet 19) tYesP (xTup (xCons (xVar 4) (xCons (xVar 12) xNil))) ρ (rr t) = some ((if t then [pr i j] else []).map eP) := by
  cases t with
  | false => rfl
  | true =>
    have hg : gSet 19 (.int 0) ρ = some (ρ.set 19 (some (.int 0))) := by
      show (if 19 < ρ.length then _ else _) = _
      rw [if_pos (by omega)]
    have e1 : (ρ.set 19 (some (.int 0))).getD 4 none = some (.int (i : Nat)) := by
      rw [List.getD_eq_getElem?_getD, List.getElem?_set_ne (by omega), ← List.getD_eq_getElem?_getD]
      exact h4
    have e2 : (ρ.set 19 (some (.int 0))).getD 12 none = some (.int (j : Nat)) := by
      rw [List.getD_eq_getElem?_getD, List.getElem?_set_ne (by omega), ← List.getD_eq_getElem?_getD]
      exact h12
    show lcL (gSet 19) tYesP (xTup (xCons (xVar 4) (xCons (xVar 12) xNil))) ρ [.int 0] = some [.tuple [.int (i : Int), .int (j : Int)]]
    simp -implicitDefEqProofs only [lcL, hg, xVar_a, xC_a, xBin_a, xUn_a, tOf_a, tTru_a, tNotP_a, tAndP_a, tOrP_a, tyes_a, tno_a, tYesP_a, xNil_a, xCons_a, xTup_a, xLst_a, xAnd_a, xOr_a, xIf_a, xChain_a, oNo_a, oAt_a, xSl_a, xCall_a, xSeq_a, xIt_a, xLc_a, gSet_a, gTupD_a, gsNil_a, gsCons_a, sNop_a, sBrk_a, sCnt_a, sSeq_a, sRet_a, sIf_a, sSet_a, sTgt_a, sAug_a, sApp_a, sExt_a, sPut_a, sPutK_a, pkO_s, sFor_a, sWhile_a, sPar_a, runD_a, b2_s, c2_s, sqO_nx, sqO_rt, sqO_bk, sqO_ct, ifO_t, ifO_f, stO_s, endO_nx, endO_rt, andO_t, andO_f, orO_t, orO_f, chO_s, chP_t, chP_f, slO_s, atO_i, lcO_s, forO_s, gsO_s, nxO_s, tgO_s, paO_s, apO_s, exO_s, plO_s, ptO_s, dB_b, tru_b, tru_n, tru_i, tru_l, tru_t, is_n, isn_n, nn_n, nn_i, nn_b, nn_t, nn_l, add_ii, add'_ii, sub_ii, neg_i, lt_ii, le_ii, gt_ii, ge_ii, ix_l, ix_t, ix_s, at0, at1, at2, sl_l, sl_t, len_l, len_t, len_s, abs_i, int_i, int_b, max_ii, min_ii, tup_s, lst_s, seq_l, seq_t, sum_s, wipe_n, wipe_c, mul_ii, fdiv_ii, mod_ii, add_ll, add_tt, setAll, mkT, mkL, oNot, List.getD_cons_zero, List.getD_cons_succ, List.length_cons, List.length_nil, List.set_cons_zero, List.set_cons_succ, List.map_cons, List.map_nil, List.replicate, List.cons_append, List.nil_append, List.append_nil, Option.bind_some, Option.map_some, List.all_cons, List.all_nil, if_true, if_false, reduceIte, Nat.reduceAdd, Nat.reduceSub, Nat.reduceLT, Nat.reduceLeDiff, Nat.reduceEqDiff, decide_true, decide_false, Bool.and_true, Bool.and_self, Bool.true_and, Bool.not_true, Bool.not_false, ne_eq, not_true_eq_false, not_false_eq_true, Nat.zero_add, Bool.false_eq_true, and_self, true_and, and_true, e1, e2]

theorem round_step (hP : OkPs P) (hQ : OkQ Q) (hl : Q.length = P.length) (h4 : P.length ≤ 4) {i j : Nat} (hi : i < P.length) (hij : i < j) (hj : j < P.length) (A1 A2 : List Pt) (h1 : A1.length ≤ 900) (h2 : A2.length ≤ 900) (x13 x14 x15 x16 : Option D) :
    l1__law_rounds [some (.tuple (P.map eP)), some (.tuple (Q.map PyData.int)), some (.list (r.map PyData.int)), some (.tuple ((st0 P).map eS)), some (.int (i : Nat)), none, none, none, some (.list (M3 P Q P.length)), some (.int (P.length : Nat)), some (.list ((A1).map eP)), some (.list ((A2).map eP)), some (.int (j : Nat)), x13, x14, x15, x16, none, none, none] = some (.nx [some (.tuple (P.map eP)), some (.tuple (Q.map PyData.int)), some (.list (r.map PyData.int)), some (.tuple ((st0 P).map eS)), some (.int (i : Nat)), none, none, none, some (.list (M3 P Q P.length)), some (.int (P.length : Nat)), some (.list ((A1 ++ f1 P Q i j).map eP)), some (.list ((A2 ++ f2 P i j).map eP)), some (.int (j : Nat)), some (.int (gQ Q i + gQ Q j)), some (.int (sqI (gP P i) (gP P j))), some (.bool (mt P Q i j)), some (.bool (decide (sqI (gP P i) (gP P j) < (gQ Q i + gQ Q j) * (gQ Q i + gQ Q j)))), none, none, none]) := by
  have a1 := at_P hi
  have a2 := at_P hj
  have b1 := at_Q (Q := Q) (i := i) (by omega)
  have b2 := at_Q (Q := Q) (i := j) (by omega)
  have c1 := at_M3 (P := P) (Q := Q) (n := P.length) hi
  have c2 := at_M3 (P := P) (Q := Q) (n := P.length) hj
  have sq := law_square_eq (gP_ok hP i) (gP_ok hP j)
  have sbo := (gQ_ok hQ i).add (gQ_ok hQ j)
  have m1 := mok (sbo.mono (k := 100) (by omega)) (sbo.mono (k := 100) (by omega))
  have w1 : d_swing_meets [e3 (gP P i) (gQ Q i), e3 (gP P j) (gQ Q j)] = some (.bool (mt P Q i j)) := swing_eq (gP_ok hP i) (gP_ok hP j) (gQ_ok hQ i) (gQ_ok hQ j)
  have w2 := swing_eq (gP_ok hP j) (gP_ok hP i) (gQ_ok hQ j) (gQ_ok hQ i)
  rw [mtI_symm] at w2
  have w2 : d_swing_meets [e3 (gP P j) (gQ Q j), e3 (gP P i) (gQ Q i)] = some (.bool (mt P Q i j)) := w2
  have em : mt P Q i j = decide (sqI (gP P i) (gP P j) ≤ (gQ Q i + gQ Q j) * (gQ Q i + gQ Q j)) := rfl
  have en : nr P i j = decide (sqI (gP P i) (gP P j) < 16) := rfl
  obtain ⟨L, n1, n2, _⟩ := near_st0 hP h4 (f := gQ Q i + gQ Q j) (sbo.mono (by omega))
  have fl := flat_pts L
  have im := in_map (l := L) (a := pr i j)
  rw [show decide (pr i j ∈ L) = decide (sqI (gP P i) (gP P j) < (gQ Q i + gQ Q j) * (gQ Q i + gQ Q j)) from decide_eq_decide.mpr (n2 i j hij hj)] at im
  rw [show eP (pr i j) = .tuple [.int (i : Int), .int (j : Int)] from rfl] at im
  have lk := like_bool 7 (mt P Q i j)
  have imp : decide (sqI (gP P i) (gP P j) < (gQ Q i + gQ Q j) * (gQ Q i + gQ Q j)) = true → mt P Q i j = true := fun h => by
    rw [em]
    have := of_decide_eq_true h
    exact decide_eq_true (by omega)
  have pc := fun t ρ hρ q4 q12 => pair_comp t ρ hρ (i := i) (j := j) q4 q12
  have g1 : ((A1.map eP).length + ((f1 P Q i j).map eP).length ≤ 16777216) := by
    have := f1_len (P := P) (Q := Q) i j
    rw [List.length_map, List.length_map]
    omega
  have g2 : ((A2.map eP).length + ((f2 P i j).map eP).length ≤ 16777216) := by
    have := f2_len (P := P) i j
    rw [List.length_map, List.length_map]
    omega
  have fb : flat (.bool true) = true := rfl
  have r1 := rr_eq (mt P Q i j)
  have r2 := rr_eq (nr P i j)
  rw [List.map_append (l₁ := A1), List.map_append (l₁ := A2)]
  have p1 : ∀ ρ : PEnv, ρ.length = 20 → ρ.getD 4 none = some (.int (i : Nat)) → ρ.getD 12 none = some (.int (j : Nat)) → lcL (gSet 19) tYesP (xTup (xCons (xVar 4) (xCons (xVar 12) xNil))) ρ (rr (mt P Q i j)) = some ((f1 P Q i j).map eP) := fun ρ q q4 q12 => pc _ ρ q q4 q12
  have p2 : ∀ ρ : PEnv, ρ.length = 20 → ρ.getD 4 none = some (.int (i : Nat)) → ρ.getD 12 none = some (.int (j : Nat)) → lcL (gSet 19) tYesP (xTup (xCons (xVar 4) (xCons (xVar 12) xNil))) ρ (rr (nr P i j)) = some ((f2 P i j).map eP) := fun ρ q q4 q12 => pc _ ρ q q4 q12
  generalize (f1 P Q i j).map eP = F1 at *
  generalize (f2 P i j).map eP = F2 at *
  generalize A1.map eP = B1 at *
  generalize A2.map eP = B2 at *
  generalize rr (mt P Q i j) = RR1 at *
  generalize rr (nr P i j) = RR2 at *
  generalize L.map eP = LL at *
  generalize e3 (gP P i) (gQ Q i) = E1 at *
  generalize e3 (gP P j) (gQ Q j) = E2 at *
  generalize eP (gP P i) = E3 at *
  generalize eP (gP P j) = E4 at *
  generalize sqI (gP P i) (gP P j) = SQ at *
  generalize hBO : gQ Q i + gQ Q j = BO at *
  generalize M3 P Q P.length = MM at *
  generalize (st0 P).map eS = MS at *
  generalize P.map eP = MP at *
  generalize Q.map PyData.int = MQ at *
  generalize r.map PyData.int = MR at *
  generalize mt P Q i j = T1 at *
  generalize nr P i j = T2 at *
  generalize hT3 : decide (SQ < BO * BO) = T3 at *
  have em := em.symm
  have en := en.symm
  cases T3 with
  | true =>
    cases imp rfl
    have r1 : oR1 [.int 1] = some RR1 := r1
    simp -implicitDefEqProofs only [l1__law_rounds, xVar_a, xC_a, xBin_a, xUn_a, tOf_a, tTru_a, tNotP_a, tAndP_a, tOrP_a, tyes_a, tno_a, tYesP_a, xNil_a, xCons_a, xTup_a, xLst_a, xAnd_a, xOr_a, xIf_a, xChain_a, oNo_a, oAt_a, xSl_a, xCall_a, xSeq_a, xIt_a, xLc_a, gSet_a, gTupD_a, gsNil_a, gsCons_a, sNop_a, sBrk_a, sCnt_a, sSeq_a, sRet_a, sIf_a, sSet_a, sTgt_a, sAug_a, sApp_a, sExt_a, sPut_a, sPutK_a, pkO_s, sFor_a, sWhile_a, sPar_a, runD_a, b2_s, c2_s, sqO_nx, sqO_rt, sqO_bk, sqO_ct, ifO_t, ifO_f, stO_s, endO_nx, endO_rt, andO_t, andO_f, orO_t, orO_f, chO_s, chP_t, chP_f, slO_s, atO_i, lcO_s, forO_s, gsO_s, nxO_s, tgO_s, paO_s, apO_s, exO_s, plO_s, ptO_s, dB_b, tru_b, tru_n, tru_i, tru_l, tru_t, is_n, isn_n, nn_n, nn_i, nn_b, nn_t, nn_l, add_ii, add'_ii, sub_ii, neg_i, lt_ii, le_ii, gt_ii, ge_ii, ix_l, ix_t, ix_s, at0, at1, at2, sl_l, sl_t, len_l, len_t, len_s, abs_i, int_i, int_b, max_ii, min_ii, tup_s, lst_s, seq_l, seq_t, sum_s, wipe_n, wipe_c, mul_ii, fdiv_ii, mod_ii, add_ll, add_tt, setAll, mkT, mkL, oNot, List.getD_cons_zero, List.getD_cons_succ, List.length_cons, List.length_nil, List.set_cons_zero, List.set_cons_succ, List.map_cons, List.map_nil, List.replicate, List.cons_append, List.nil_append, List.append_nil, Option.bind_some, Option.map_some, List.all_cons, List.all_nil, if_true, if_false, reduceIte, Nat.reduceAdd, Nat.reduceSub, Nat.reduceLT, Nat.reduceLeDiff, Nat.reduceEqDiff, decide_true, decide_false, Bool.and_true, Bool.and_self, Bool.true_and, Bool.not_true, Bool.not_false, ne_eq, not_true_eq_false, not_false_eq_true, Nat.zero_add, Bool.false_eq_true, and_self, true_and, and_true, a1, a2, b1, b2, c1, c2, sq, m1, hBO, em, w1, w2, lk, fb, n1, fl, im, hT3, ne_same, r1, p1, g1, en, r2, p2, g2]
  | false =>
    simp -implicitDefEqProofs only [l1__law_rounds, xVar_a, xC_a, xBin_a, xUn_a, tOf_a, tTru_a, tNotP_a, tAndP_a, tOrP_a, tyes_a, tno_a, tYesP_a, xNil_a, xCons_a, xTup_a, xLst_a, xAnd_a, xOr_a, xIf_a, xChain_a, oNo_a, oAt_a, xSl_a, xCall_a, xSeq_a, xIt_a, xLc_a, gSet_a, gTupD_a, gsNil_a, gsCons_a, sNop_a, sBrk_a, sCnt_a, sSeq_a, sRet_a, sIf_a, sSet_a, sTgt_a, sAug_a, sApp_a, sExt_a, sPut_a, sPutK_a, pkO_s, sFor_a, sWhile_a, sPar_a, runD_a, b2_s, c2_s, sqO_nx, sqO_rt, sqO_bk, sqO_ct, ifO_t, ifO_f, stO_s, endO_nx, endO_rt, andO_t, andO_f, orO_t, orO_f, chO_s, chP_t, chP_f, slO_s, atO_i, lcO_s, forO_s, gsO_s, nxO_s, tgO_s, paO_s, apO_s, exO_s, plO_s, ptO_s, dB_b, tru_b, tru_n, tru_i, tru_l, tru_t, is_n, isn_n, nn_n, nn_i, nn_b, nn_t, nn_l, add_ii, add'_ii, sub_ii, neg_i, lt_ii, le_ii, gt_ii, ge_ii, ix_l, ix_t, ix_s, at0, at1, at2, sl_l, sl_t, len_l, len_t, len_s, abs_i, int_i, int_b, max_ii, min_ii, tup_s, lst_s, seq_l, seq_t, sum_s, wipe_n, wipe_c, mul_ii, fdiv_ii, mod_ii, add_ll, add_tt, setAll, mkT, mkL, oNot, List.getD_cons_zero, List.getD_cons_succ, List.length_cons, List.length_nil, List.set_cons_zero, List.set_cons_succ, List.map_cons, List.map_nil, List.replicate, List.cons_append, List.nil_append, List.append_nil, Option.bind_some, Option.map_some, List.all_cons, List.all_nil, if_true, if_false, reduceIte, Nat.reduceAdd, Nat.reduceSub, Nat.reduceLT, Nat.reduceLeDiff, Nat.reduceEqDiff, decide_true, decide_false, Bool.and_true, Bool.and_self, Bool.true_and, Bool.not_true, Bool.not_false, ne_eq, not_true_eq_false, not_false_eq_true, Nat.zero_add, Bool.false_eq_true, and_self, true_and, and_true, a1, a2, b1, b2, c1, c2, sq, m1, hBO, em, w1, w2, lk, fb, n1, fl, im, hT3, ne_same, r1, p1, g1, en, r2, p2, g2]

theorem round_inner (hP : OkPs P) (hQ : OkQ Q) (hl : Q.length = P.length) (h4 : P.length ≤ 4) {i : Nat} (hi : i < P.length) (A1 A2 : List Pt) (h1 : A1.length ≤ 800) (h2 : A2.length ≤ 800) (x12 x13 x14 x15 x16 : Option D) :
    ∃ y12 y13 y14 y15 y16, forL (gSet 12) l1__law_rounds ((js i P.length).map fun k : Nat => PyData.int (k : Nat)) [some (.tuple (P.map eP)), some (.tuple (Q.map PyData.int)), some (.list (r.map PyData.int)), some (.tuple ((st0 P).map eS)), some (.int (i : Nat)), none, none, none, some (.list (M3 P Q P.length)), some (.int (P.length : Nat)), some (.list ((A1).map eP)), some (.list ((A2).map eP)), x12, x13, x14, x15, x16, none, none, none] = some (.nx [some (.tuple (P.map eP)), some (.tuple (Q.map PyData.int)), some (.list (r.map PyData.int)), some (.tuple ((st0 P).map eS)), some (.int (i : Nat)), none, none, none, some (.list (M3 P Q P.length)), some (.int (P.length : Nat)), some (.list ((A1 ++ (js i P.length).flatMap (f1 P Q i)).map eP)), some (.list ((A2 ++ (js i P.length).flatMap (f2 P i)).map eP)), y12, y13, y14, y15, y16, none, none, none]) := by
  have hjl := js_len i P.length
  obtain ⟨ρ', e, h⟩ := forL_inv (g := gSet 12) (b := l1__law_rounds) (fun i : Nat => PyData.int (i : Nat))
    (fun pre rest ρ => pre ++ rest = js i P.length ∧ ∃ x12 x13 x14 x15 x16, ρ = [some (.tuple (P.map eP)), some (.tuple (Q.map PyData.int)), some (.list (r.map PyData.int)), some (.tuple ((st0 P).map eS)), some (.int (i : Nat)), none, none, none, some (.list (M3 P Q P.length)), some (.int (P.length : Nat)), some (.list ((A1 ++ pre.flatMap (f1 P Q i)).map eP)), some (.list ((A2 ++ pre.flatMap (f2 P i)).map eP)), x12, x13, x14, x15, x16, none, none, none])
    (fun pre j rest ρ ⟨hp, x12, x13, x14, x15, x16, e⟩ => by
      subst e
      have hj : j ∈ js i P.length := by rw [← hp]; simp
      have hj := js_mem.mp hj
      have hpl : pre.length ≤ 4 := by
        have := congrArg List.length hp
        simp at this
        omega
      have k1 := fl_len (f1 P Q i) 1 pre (fun x _ => f1_len i x)
      have k2 := fl_len (f2 P i) 1 pre (fun x _ => f2_len i x)
      have st := round_step (r := r) hP hQ hl h4 hi hj.1 hj.2 (A1 ++ pre.flatMap (f1 P Q i)) (A2 ++ pre.flatMap (f2 P i)) (by rw [List.length_append]; omega) (by rw [List.length_append]; omega) x13 x14 x15 x16
      have q1 : A1 ++ (pre ++ [j]).flatMap (f1 P Q i) = A1 ++ pre.flatMap (f1 P Q i) ++ f1 P Q i j := by simp
      have q2 : A2 ++ (pre ++ [j]).flatMap (f2 P i) = A2 ++ pre.flatMap (f2 P i) ++ f2 P i j := by simp
      refine ⟨_, _, rfl, .inl st, by rw [List.append_assoc]; exact hp, ?_⟩
      rw [q1, q2]
      exact ⟨_, _, _, _, _, rfl⟩) (js i P.length) [] [some (.tuple (P.map eP)), some (.tuple (Q.map PyData.int)), some (.list (r.map PyData.int)), some (.tuple ((st0 P).map eS)), some (.int (i : Nat)), none, none, none, some (.list (M3 P Q P.length)), some (.int (P.length : Nat)), some (.list ((A1).map eP)), some (.list ((A2).map eP)), x12, x13, x14, x15, x16, none, none, none] ⟨rfl, x12, x13, x14, x15, x16, by simp⟩
  obtain ⟨_, y12, y13, y14, y15, y16, e'⟩ := h
  subst e'
  exact ⟨_, _, _, _, _, e⟩
theorem round_outer (hP : OkPs P) (hQ : OkQ Q) (hl : Q.length = P.length) (h4 : P.length ≤ 4) :
    ∃ y4 y12 y13 y14 y15 y16, forL (gSet 4) l2__law_rounds ((List.range P.length).map fun k : Nat => PyData.int (k : Nat)) [some (.tuple (P.map eP)), some (.tuple (Q.map PyData.int)), some (.list (r.map PyData.int)), some (.tuple ((st0 P).map eS)), none, none, none, none, some (.list (M3 P Q P.length)), some (.int (P.length : Nat)), some (.list []), some (.list []), none, none, none, none, none, none, none, none] = some (.nx [some (.tuple (P.map eP)), some (.tuple (Q.map PyData.int)), some (.list (r.map PyData.int)), some (.tuple ((st0 P).map eS)), y4, none, none, none, some (.list (M3 P Q P.length)), some (.int (P.length : Nat)), some (.list (((List.range P.length).flatMap fun i => (js i P.length).flatMap (f1 P Q i)).map eP)), some (.list (((List.range P.length).flatMap fun i => (js i P.length).flatMap (f2 P i)).map eP)), y12, y13, y14, y15, y16, none, none, none]) := by
  obtain ⟨ρ', e, h⟩ := forL_inv (g := gSet 4) (b := l2__law_rounds) (fun i : Nat => PyData.int (i : Nat))
    (fun pre rest ρ => pre ++ rest = List.range P.length ∧ ∃ x4 x12 x13 x14 x15 x16, ρ = [some (.tuple (P.map eP)), some (.tuple (Q.map PyData.int)), some (.list (r.map PyData.int)), some (.tuple ((st0 P).map eS)), x4, none, none, none, some (.list (M3 P Q P.length)), some (.int (P.length : Nat)), some (.list ((pre.flatMap fun i => (js i P.length).flatMap (f1 P Q i)).map eP)), some (.list ((pre.flatMap fun i => (js i P.length).flatMap (f2 P i)).map eP)), x12, x13, x14, x15, x16, none, none, none])
    (fun pre i rest ρ ⟨hp, x4, x12, x13, x14, x15, x16, e⟩ => by
      subst e
      have hi : i ∈ List.range P.length := by rw [← hp]; simp
      have hi : i < P.length := by simpa using hi
      have hpl : pre.length ≤ 4 := by
        have := congrArg List.length hp
        simp at this
        omega
      have k1 := fl_len (fun i => (js i P.length).flatMap (f1 P Q i)) 4 pre (fun x _ => by
        have a := fl_len (f1 P Q x) 1 (js x P.length) (fun y _ => f1_len x y)
        have b := js_len x P.length
        omega)
      have k2 := fl_len (fun i => (js i P.length).flatMap (f2 P i)) 4 pre (fun x _ => by
        have a := fl_len (f2 P x) 1 (js x P.length) (fun y _ => f2_len x y)
        have b := js_len x P.length
        omega)
      have g2 := rg2 (i := i) (n := P.length) (by omega) (by omega)
      obtain ⟨y12, y13, y14, y15, y16, st⟩ := round_inner (r := r) hP hQ hl h4 hi (pre.flatMap fun i => (js i P.length).flatMap (f1 P Q i)) (pre.flatMap fun i => (js i P.length).flatMap (f2 P i)) (by omega) (by omega) x12 x13 x14 x15 x16
      refine ⟨[some (.tuple (P.map eP)), some (.tuple (Q.map PyData.int)), some (.list (r.map PyData.int)), some (.tuple ((st0 P).map eS)), some (.int (i : Nat)), none, none, none, some (.list (M3 P Q P.length)), some (.int (P.length : Nat)), some (.list ((pre.flatMap fun i => (js i P.length).flatMap (f1 P Q i)).map eP)), some (.list ((pre.flatMap fun i => (js i P.length).flatMap (f2 P i)).map eP)), x12, x13, x14, x15, x16, none, none, none], [some (.tuple (P.map eP)), some (.tuple (Q.map PyData.int)), some (.list (r.map PyData.int)), some (.tuple ((st0 P).map eS)), some (.int (i : Nat)), none, none, none, some (.list (M3 P Q P.length)), some (.int (P.length : Nat)), some (.list (((pre.flatMap fun i => (js i P.length).flatMap (f1 P Q i)) ++ (js i P.length).flatMap (f1 P Q i)).map eP)), some (.list (((pre.flatMap fun i => (js i P.length).flatMap (f2 P i)) ++ (js i P.length).flatMap (f2 P i)).map eP)), y12, y13, y14, y15, y16, none, none, none], rfl, .inl ?_, by rw [List.append_assoc]; exact hp, ?_⟩
      · generalize ((pre.flatMap fun i => (js i P.length).flatMap (f1 P Q i)) ++ (js i P.length).flatMap (f1 P Q i)).map eP = N1 at *
        generalize ((pre.flatMap fun i => (js i P.length).flatMap (f2 P i)) ++ (js i P.length).flatMap (f2 P i)).map eP = N2 at *
        generalize (pre.flatMap fun i => (js i P.length).flatMap (f1 P Q i)).map eP = O1 at *
        generalize (pre.flatMap fun i => (js i P.length).flatMap (f2 P i)).map eP = O2 at *
        generalize (js i P.length).map (fun j : Nat => PyData.int (j : Nat)) = JS at *
        generalize M3 P Q P.length = MM at *
        generalize (st0 P).map eS = MS at *
        generalize P.map eP = MP at *
        generalize Q.map PyData.int = MQ at *
        generalize r.map PyData.int = MR at *
        simp -implicitDefEqProofs only [l2__law_rounds, xVar_a, xC_a, xBin_a, xUn_a, tOf_a, tTru_a, tNotP_a, tAndP_a, tOrP_a, tyes_a, tno_a, tYesP_a, xNil_a, xCons_a, xTup_a, xLst_a, xAnd_a, xOr_a, xIf_a, xChain_a, oNo_a, oAt_a, xSl_a, xCall_a, xSeq_a, xIt_a, xLc_a, gSet_a, gTupD_a, gsNil_a, gsCons_a, sNop_a, sBrk_a, sCnt_a, sSeq_a, sRet_a, sIf_a, sSet_a, sTgt_a, sAug_a, sApp_a, sExt_a, sPut_a, sPutK_a, pkO_s, sFor_a, sWhile_a, sPar_a, runD_a, b2_s, c2_s, sqO_nx, sqO_rt, sqO_bk, sqO_ct, ifO_t, ifO_f, stO_s, endO_nx, endO_rt, andO_t, andO_f, orO_t, orO_f, chO_s, chP_t, chP_f, slO_s, atO_i, lcO_s, forO_s, gsO_s, nxO_s, tgO_s, paO_s, apO_s, exO_s, plO_s, ptO_s, dB_b, tru_b, tru_n, tru_i, tru_l, tru_t, is_n, isn_n, nn_n, nn_i, nn_b, nn_t, nn_l, add_ii, add'_ii, sub_ii, neg_i, lt_ii, le_ii, gt_ii, ge_ii, ix_l, ix_t, ix_s, at0, at1, at2, sl_l, sl_t, len_l, len_t, len_s, abs_i, int_i, int_b, max_ii, min_ii, tup_s, lst_s, seq_l, seq_t, sum_s, wipe_n, wipe_c, mul_ii, fdiv_ii, mod_ii, add_ll, add_tt, setAll, mkT, mkL, oNot, List.getD_cons_zero, List.getD_cons_succ, List.length_cons, List.length_nil, List.set_cons_zero, List.set_cons_succ, List.map_cons, List.map_nil, List.replicate, List.cons_append, List.nil_append, List.append_nil, Option.bind_some, Option.map_some, List.all_cons, List.all_nil, if_true, if_false, reduceIte, Nat.reduceAdd, Nat.reduceSub, Nat.reduceLT, Nat.reduceLeDiff, Nat.reduceEqDiff, decide_true, decide_false, Bool.and_true, Bool.and_self, Bool.true_and, Bool.not_true, Bool.not_false, ne_eq, not_true_eq_false, not_false_eq_true, Nat.zero_add, Bool.false_eq_true, and_self, true_and, and_true, g2, st]
      · have q1 : (pre ++ [i]).flatMap (fun i => (js i P.length).flatMap (f1 P Q i)) = (pre.flatMap fun i => (js i P.length).flatMap (f1 P Q i)) ++ (js i P.length).flatMap (f1 P Q i) := by simp
        have q2 : (pre ++ [i]).flatMap (fun i => (js i P.length).flatMap (f2 P i)) = (pre.flatMap fun i => (js i P.length).flatMap (f2 P i)) ++ (js i P.length).flatMap (f2 P i) := by simp
        rw [q1, q2]
        exact ⟨_, _, _, _, _, _, rfl⟩) (List.range P.length) [] [some (.tuple (P.map eP)), some (.tuple (Q.map PyData.int)), some (.list (r.map PyData.int)), some (.tuple ((st0 P).map eS)), none, none, none, none, some (.list (M3 P Q P.length)), some (.int (P.length : Nat)), some (.list []), some (.list []), none, none, none, none, none, none, none, none] ⟨rfl, none, none, none, none, none, none, rfl⟩
  obtain ⟨_, y4, y12, y13, y14, y15, y16, e'⟩ := h
  subst e'
  exact ⟨_, _, _, _, _, _, e⟩
end
end K25

namespace K25
open PySem PySem.Spec PyProof.Rows L2 Pm
open PySem.W (Datum Tup)
section
variable {P : List Pt} {Q : List Int} {r : List Int} {n : Nat}
theorem any_l (bs : List Bool) : bAny [.list (bs.map PyData.bool)] = some (.bool (bs.any id)) := by
  show ((seqD (.list (bs.map PyData.bool))).bind fun xs => (asBools xs).map fun ns => PyData.bool (ns.any id)) = _
  rw [seq_l, Option.bind_some, asBools_map]
  rfl
theorem enum_M3 : enumD (M3 P Q n) = (List.range n).map fun i : Nat => .tuple [.int (i : Nat), e3 (gP P i) (gQ Q i)] := by
  unfold enumD M3
  apply List.ext_getElem?
  intro i
  by_cases h : i < n
  · simp [h]
  · simp [h]
theorem take_M3 {i : Nat} (hi : i ≤ n) : (M3 P Q n).take i = M3 P Q i := by
  unfold M3
  rw [← List.map_take, List.take_range, Nat.min_eq_left hi]
def mts (P : List Pt) (Q : List Int) (n : Nat) : List Bool := (List.range n).flatMap fun i => (List.range i).map fun j => mt P Q i j
theorem mts_len (h4 : n ≤ 4) : (mts P Q n).length ≤ 16 := by
  have := fl_len (fun i => (List.range i).map fun j => mt P Q i j) 4 (List.range n) (fun i hi => by
    rw [List.length_map, List.length_range]
    have : i < n := by simpa using hi
    omega)
  rw [List.length_range] at this
  unfold mts
  omega
theorem clear_all_eq (hP : OkPs P) (hQ : OkQ Q) (h4 : n ≤ 4) : d_clear_all [.tuple (M3 P Q n)] = some (.bool (!(mts P Q n).any id)) := by
  have hit : xIt oEnum (xCons (xVar 0) xNil) [some (.tuple (M3 P Q n)), none, none, none] = some ((List.range n).map fun i : Nat => .tuple [.int (i : Nat), e3 (gP P i) (gQ Q i)]) := by
    rw [← enum_M3]
    rfl
  have c1 : lc2L (gTupD 2 (gsCons (gSet 2) (gsCons (gSet 3) gsNil))) tYesP (xSeq (xSl (xVar 0) oNo (oAt (xVar 2)))) (gSet 1) tYesP (xCall (fun ds => if ds.length = 2 then (d_swing_meets) ds else none) (xCons (xVar 3) (xCons (xVar 1) xNil))) [1] (wipeP [some (.tuple (M3 P Q n)), none, none, none] [2, 3, 1]) ((List.range n).map fun i : Nat => .tuple [.int (i : Nat), e3 (gP P i) (gQ Q i)]) = some ((List.range n).flatMap fun i => ((List.range i).map fun j => mt P Q i j).map PyData.bool) := by
    refine lc2L_flat (fun i : Nat => .tuple [.int (i : Nat), e3 (gP P i) (gQ Q i)]) _ _ fun i hi => ?_
    have hi : i < n := by simpa using hi
    refine ⟨[some (.tuple (M3 P Q n)), none, some (.int (i : Nat)), some (e3 (gP P i) (gQ Q i))], M3 P Q i, rfl, ?_, ?_⟩
    · have cu := cut_upto (M3 P Q n) i
      rw [take_M3 (by omega)] at cu
      generalize M3 P Q n = MM at *
      generalize M3 P Q i = MI at *
      simp -implicitDefEqProofs only [xVar_a, xC_a, xBin_a, xUn_a, tOf_a, tTru_a, tNotP_a, tAndP_a, tOrP_a, tyes_a, tno_a, tYesP_a, xNil_a, xCons_a, xTup_a, xLst_a, xAnd_a, xOr_a, xIf_a, xChain_a, oNo_a, oAt_a, xSl_a, xCall_a, xSeq_a, xIt_a, xLc_a, gSet_a, gTupD_a, gsNil_a, gsCons_a, sNop_a, sBrk_a, sCnt_a, sSeq_a, sRet_a, sIf_a, sSet_a, sTgt_a, sAug_a, sApp_a, sExt_a, sPut_a, sPutK_a, pkO_s, sFor_a, sWhile_a, sPar_a, runD_a, b2_s, c2_s, sqO_nx, sqO_rt, sqO_bk, sqO_ct, ifO_t, ifO_f, stO_s, endO_nx, endO_rt, andO_t, andO_f, orO_t, orO_f, chO_s, chP_t, chP_f, slO_s, atO_i, lcO_s, forO_s, gsO_s, nxO_s, tgO_s, paO_s, apO_s, exO_s, plO_s, ptO_s, dB_b, tru_b, tru_n, tru_i, tru_l, tru_t, is_n, isn_n, nn_n, nn_i, nn_b, nn_t, nn_l, add_ii, add'_ii, sub_ii, neg_i, lt_ii, le_ii, gt_ii, ge_ii, ix_l, ix_t, ix_s, at0, at1, at2, sl_l, sl_t, len_l, len_t, len_s, abs_i, int_i, int_b, max_ii, min_ii, tup_s, lst_s, seq_l, seq_t, sum_s, wipe_n, wipe_c, mul_ii, fdiv_ii, mod_ii, add_ll, add_tt, setAll, mkT, mkL, oNot, List.getD_cons_zero, List.getD_cons_succ, List.length_cons, List.length_nil, List.set_cons_zero, List.set_cons_succ, List.map_cons, List.map_nil, List.replicate, List.cons_append, List.nil_append, List.append_nil, Option.bind_some, Option.map_some, List.all_cons, List.all_nil, if_true, if_false, reduceIte, Nat.reduceAdd, Nat.reduceSub, Nat.reduceLT, Nat.reduceLeDiff, Nat.reduceEqDiff, decide_true, decide_false, Bool.and_true, Bool.and_self, Bool.true_and, Bool.not_true, Bool.not_false, ne_eq, not_true_eq_false, not_false_eq_true, Nat.zero_add, Bool.false_eq_true, and_self, true_and, and_true, cu]
    · unfold M3
      rw [List.map_map]
      refine lcL_map _ _ _ fun j hj => ?_
      have sw := swing_eq (gP_ok hP i) (gP_ok hP j) (gQ_ok hQ i) (gQ_ok hQ j)
      rw [show mtI (gP P i) (gQ Q i) (gP P j) (gQ Q j) = mt P Q i j from rfl] at sw
      generalize (List.range n).map (fun k => e3 (gP P k) (gQ Q k)) = MM at *
      generalize e3 (gP P i) (gQ Q i) = E1 at *
      generalize e3 (gP P j) (gQ Q j) = E2 at *
      simp -implicitDefEqProofs only [Function.comp, wipeP, xVar_a, xC_a, xBin_a, xUn_a, tOf_a, tTru_a, tNotP_a, tAndP_a, tOrP_a, tyes_a, tno_a, tYesP_a, xNil_a, xCons_a, xTup_a, xLst_a, xAnd_a, xOr_a, xIf_a, xChain_a, oNo_a, oAt_a, xSl_a, xCall_a, xSeq_a, xIt_a, xLc_a, gSet_a, gTupD_a, gsNil_a, gsCons_a, sNop_a, sBrk_a, sCnt_a, sSeq_a, sRet_a, sIf_a, sSet_a, sTgt_a, sAug_a, sApp_a, sExt_a, sPut_a, sPutK_a, pkO_s, sFor_a, sWhile_a, sPar_a, runD_a, b2_s, c2_s, sqO_nx, sqO_rt, sqO_bk, sqO_ct, ifO_t, ifO_f, stO_s, endO_nx, endO_rt, andO_t, andO_f, orO_t, orO_f, chO_s, chP_t, chP_f, slO_s, atO_i, lcO_s, forO_s, gsO_s, nxO_s, tgO_s, paO_s, apO_s, exO_s, plO_s, ptO_s, dB_b, tru_b, tru_n, tru_i, tru_l, tru_t, is_n, isn_n, nn_n, nn_i, nn_b, nn_t, nn_l, add_ii, add'_ii, sub_ii, neg_i, lt_ii, le_ii, gt_ii, ge_ii, ix_l, ix_t, ix_s, at0, at1, at2, sl_l, sl_t, len_l, len_t, len_s, abs_i, int_i, int_b, max_ii, min_ii, tup_s, lst_s, seq_l, seq_t, sum_s, wipe_n, wipe_c, mul_ii, fdiv_ii, mod_ii, add_ll, add_tt, setAll, mkT, mkL, oNot, List.getD_cons_zero, List.getD_cons_succ, List.length_cons, List.length_nil, List.set_cons_zero, List.set_cons_succ, List.map_cons, List.map_nil, List.replicate, List.cons_append, List.nil_append, List.append_nil, Option.bind_some, Option.map_some, List.all_cons, List.all_nil, if_true, if_false, reduceIte, Nat.reduceAdd, Nat.reduceSub, Nat.reduceLT, Nat.reduceLeDiff, Nat.reduceEqDiff, decide_true, decide_false, Bool.and_true, Bool.and_self, Bool.true_and, Bool.not_true, Bool.not_false, ne_eq, not_true_eq_false, not_false_eq_true, Nat.zero_add, Bool.false_eq_true, and_self, true_and, and_true, sw]
  have hlc := xLc2_a (ρ := [some (.tuple (M3 P Q n)), none, none, none]) (xIt oEnum (xCons (xVar 0) xNil)) (gTupD 2 (gsCons (gSet 2) (gsCons (gSet 3) gsNil))) tYesP (xSeq (xSl (xVar 0) oNo (oAt (xVar 2)))) (gSet 1) tYesP (xCall (fun ds => if ds.length = 2 then (d_swing_meets) ds else none) (xCons (xVar 3) (xCons (xVar 1) xNil))) [2, 3, 1] [1] _ hit
  have ml := mts_len (P := P) (Q := Q) h4
  rw [c1, Option.bind_some, fl_map, show (List.range n).flatMap (fun i => (List.range i).map fun j => mt P Q i j) = mts P Q n from rfl, if_pos (by rw [List.length_map]; omega)] at hlc
  have an := any_l (mts P Q n)
  generalize (mts P Q n).map PyData.bool = MB at *
  generalize M3 P Q n = MM at *
  simp -implicitDefEqProofs only [d_clear_all, g_clear_all, xVar_a, xC_a, xBin_a, xUn_a, tOf_a, tTru_a, tNotP_a, tAndP_a, tOrP_a, tyes_a, tno_a, tYesP_a, xNil_a, xCons_a, xTup_a, xLst_a, xAnd_a, xOr_a, xIf_a, xChain_a, oNo_a, oAt_a, xSl_a, xCall_a, xSeq_a, xIt_a, xLc_a, gSet_a, gTupD_a, gsNil_a, gsCons_a, sNop_a, sBrk_a, sCnt_a, sSeq_a, sRet_a, sIf_a, sSet_a, sTgt_a, sAug_a, sApp_a, sExt_a, sPut_a, sPutK_a, pkO_s, sFor_a, sWhile_a, sPar_a, runD_a, b2_s, c2_s, sqO_nx, sqO_rt, sqO_bk, sqO_ct, ifO_t, ifO_f, stO_s, endO_nx, endO_rt, andO_t, andO_f, orO_t, orO_f, chO_s, chP_t, chP_f, slO_s, atO_i, lcO_s, forO_s, gsO_s, nxO_s, tgO_s, paO_s, apO_s, exO_s, plO_s, ptO_s, dB_b, tru_b, tru_n, tru_i, tru_l, tru_t, is_n, isn_n, nn_n, nn_i, nn_b, nn_t, nn_l, add_ii, add'_ii, sub_ii, neg_i, lt_ii, le_ii, gt_ii, ge_ii, ix_l, ix_t, ix_s, at0, at1, at2, sl_l, sl_t, len_l, len_t, len_s, abs_i, int_i, int_b, max_ii, min_ii, tup_s, lst_s, seq_l, seq_t, sum_s, wipe_n, wipe_c, mul_ii, fdiv_ii, mod_ii, add_ll, add_tt, setAll, mkT, mkL, oNot, List.getD_cons_zero, List.getD_cons_succ, List.length_cons, List.length_nil, List.set_cons_zero, List.set_cons_succ, List.map_cons, List.map_nil, List.replicate, List.cons_append, List.nil_append, List.append_nil, Option.bind_some, Option.map_some, List.all_cons, List.all_nil, if_true, if_false, reduceIte, Nat.reduceAdd, Nat.reduceSub, Nat.reduceLT, Nat.reduceLeDiff, Nat.reduceEqDiff, decide_true, decide_false, Bool.and_true, Bool.and_self, Bool.true_and, Bool.not_true, Bool.not_false, ne_eq, not_true_eq_false, not_false_eq_true, Nat.zero_add, Bool.false_eq_true, and_self, true_and, and_true, hlc, an]
theorem meet_prs (n : Nat) : ((List.range n).flatMap fun i => (js i n).flatMap (f1 P Q i)) = prs n (mt P Q) := by
  unfold prs
  refine fl_congr fun i _ => ?_
  have : ∀ l : List Nat, l.flatMap (f1 P Q i) = (l.filter (mt P Q i)).map (pr i) := fun l => by
    induction l with
    | nil => rfl
    | cons x l ih =>
      rw [List.flatMap_cons, ih]
      unfold f1
      by_cases h : mt P Q i x = true
      · rw [List.filter_cons_of_pos h, if_pos h]; rfl
      · rw [List.filter_cons_of_neg h, if_neg h]; rfl
  exact this _
theorem near_prs (n : Nat) : ((List.range n).flatMap fun i => (js i n).flatMap (f2 P i)) = prs n (nr P) := by
  unfold prs
  refine fl_congr fun i _ => ?_
  have : ∀ l : List Nat, l.flatMap (f2 P i) = (l.filter (nr P i)).map (pr i) := fun l => by
    induction l with
    | nil => rfl
    | cons x l ih =>
      rw [List.flatMap_cons, ih]
      unfold f2
      by_cases h : nr P i x = true
      · rw [List.filter_cons_of_pos h, if_pos h]; rfl
      · rw [List.filter_cons_of_neg h, if_neg h]; rfl
  exact this _
theorem clear_len (n : Nat) : (!(mts P Q n).any id) = decide (((((prs n (mt P Q)).map eP).length : Nat) : Int) = 0) := by
  have sy : ∀ i j, mt P Q i j = mt P Q j i := fun i j => mtI_symm _ _ _ _
  cases h : prs n (mt P Q) with
  | nil =>
    have : (mts P Q n).any id = false := by
      rw [List.any_eq_false]
      intro b hb
      obtain ⟨i, hi, hb⟩ := List.mem_flatMap.mp hb
      obtain ⟨j, hj, rfl⟩ := List.mem_map.mp hb
      intro ht
      have hi : i < n := by simpa using hi
      have hj : j < i := by simpa using hj
      have : pr j i ∈ prs n (mt P Q) := prs_mem.mpr ⟨hj, hi, by rw [sy]; exact ht⟩
      rw [h] at this
      cases this
    rw [this]
    rfl
  | cons x xs =>
    have hx : x ∈ prs n (mt P Q) := by rw [h]; simp
    have hx' := hx
    unfold prs at hx'
    obtain ⟨i, hi, hx'⟩ := List.mem_flatMap.mp hx'
    obtain ⟨j, hj, rfl⟩ := List.mem_map.mp hx'
    obtain ⟨h1, h2, h3⟩ := prs_mem.mp hx
    have : (mts P Q n).any id = true := by
      rw [List.any_eq_true]
      refine ⟨_, List.mem_flatMap.mpr ⟨j, List.mem_range.mpr h2, List.mem_map.mpr ⟨i, List.mem_range.mpr h1, rfl⟩⟩, ?_⟩
      rw [sy]
      exact h3
    rw [this]
    symm
    exact decide_eq_false (by simp; omega)
def chn (P : List Pt) (Q : List Int) (lo hi : Int) (k : Nat) : Bool := decide (lo ≤ (gP P k).2 + gQ Q k) && decide ((gP P k).2 - gQ Q k ≤ hi)
theorem in_channel_eq {lo hi : Int} : d_in_channel [.tuple (M3 P Q n), .int lo, .int hi] = some (.tuple (((List.range n).filter (chn P Q lo hi)).map fun k : Nat => PyData.int (k : Nat))) := by
  have en : oEnum [.tuple (M3 P Q n)] = some ((List.range n).map fun i : Nat => .tuple [.int (i : Nat), e3 (gP P i) (gQ Q i)]) := by
    rw [← enum_M3]
    rfl
  have hL : lcL (gTupD 2 (gsCons (gSet 3) (gsCons (gTupD 3 (gsCons (gSet 4) (gsCons (gSet 5) (gsCons (gSet 6) gsNil)))) gsNil))) (tAndP (tOf (xBin oGe (xBin oAdd (xVar 5) (xVar 6)) (xVar 1))) (tOf (xBin oLe (xBin oSub (xVar 5) (xVar 6)) (xVar 2)))) (xVar 3) [some (.tuple (M3 P Q n)), some (.int lo), some (.int hi), none, none, none, none] ((List.range n).map fun i : Nat => .tuple [.int (i : Nat), e3 (gP P i) (gQ Q i)]) = some (((List.range n).filter (chn P Q lo hi)).map fun k : Nat => PyData.int (k : Nat)) := by
    refine lcL_filter (fun i : Nat => .tuple [.int (i : Nat), e3 (gP P i) (gQ Q i)]) (fun k : Nat => PyData.int (k : Nat)) (chn P Q lo hi) _ fun k _ => ⟨_, rfl, ?_, fun _ => rfl⟩
    unfold chn
    generalize M3 P Q n = MM at *
    cases h1 : decide (lo ≤ (gP P k).2 + gQ Q k) with
    | true => simp -implicitDefEqProofs only [xVar_a, xC_a, xBin_a, xUn_a, tOf_a, tTru_a, tNotP_a, tAndP_a, tOrP_a, tyes_a, tno_a, tYesP_a, xNil_a, xCons_a, xTup_a, xLst_a, xAnd_a, xOr_a, xIf_a, xChain_a, oNo_a, oAt_a, xSl_a, xCall_a, xSeq_a, xIt_a, xLc_a, gSet_a, gTupD_a, gsNil_a, gsCons_a, sNop_a, sBrk_a, sCnt_a, sSeq_a, sRet_a, sIf_a, sSet_a, sTgt_a, sAug_a, sApp_a, sExt_a, sPut_a, sPutK_a, pkO_s, sFor_a, sWhile_a, sPar_a, runD_a, b2_s, c2_s, sqO_nx, sqO_rt, sqO_bk, sqO_ct, ifO_t, ifO_f, stO_s, endO_nx, endO_rt, andO_t, andO_f, orO_t, orO_f, chO_s, chP_t, chP_f, slO_s, atO_i, lcO_s, forO_s, gsO_s, nxO_s, tgO_s, paO_s, apO_s, exO_s, plO_s, ptO_s, dB_b, tru_b, tru_n, tru_i, tru_l, tru_t, is_n, isn_n, nn_n, nn_i, nn_b, nn_t, nn_l, add_ii, add'_ii, sub_ii, neg_i, lt_ii, le_ii, gt_ii, ge_ii, ix_l, ix_t, ix_s, at0, at1, at2, sl_l, sl_t, len_l, len_t, len_s, abs_i, int_i, int_b, max_ii, min_ii, tup_s, lst_s, seq_l, seq_t, sum_s, wipe_n, wipe_c, mul_ii, fdiv_ii, mod_ii, add_ll, add_tt, setAll, mkT, mkL, oNot, List.getD_cons_zero, List.getD_cons_succ, List.length_cons, List.length_nil, List.set_cons_zero, List.set_cons_succ, List.map_cons, List.map_nil, List.replicate, List.cons_append, List.nil_append, List.append_nil, Option.bind_some, Option.map_some, List.all_cons, List.all_nil, if_true, if_false, reduceIte, Nat.reduceAdd, Nat.reduceSub, Nat.reduceLT, Nat.reduceLeDiff, Nat.reduceEqDiff, decide_true, decide_false, Bool.and_true, Bool.and_self, Bool.true_and, Bool.not_true, Bool.not_false, ne_eq, not_true_eq_false, not_false_eq_true, Nat.zero_add, Bool.false_eq_true, and_self, true_and, and_true, h1]
    | false => simp -implicitDefEqProofs only [xVar_a, xC_a, xBin_a, xUn_a, tOf_a, tTru_a, tNotP_a, tAndP_a, tOrP_a, tyes_a, tno_a, tYesP_a, xNil_a, xCons_a, xTup_a, xLst_a, xAnd_a, xOr_a, xIf_a, xChain_a, oNo_a, oAt_a, xSl_a, xCall_a, xSeq_a, xIt_a, xLc_a, gSet_a, gTupD_a, gsNil_a, gsCons_a, sNop_a, sBrk_a, sCnt_a, sSeq_a, sRet_a, sIf_a, sSet_a, sTgt_a, sAug_a, sApp_a, sExt_a, sPut_a, sPutK_a, pkO_s, sFor_a, sWhile_a, sPar_a, runD_a, b2_s, c2_s, sqO_nx, sqO_rt, sqO_bk, sqO_ct, ifO_t, ifO_f, stO_s, endO_nx, endO_rt, andO_t, andO_f, orO_t, orO_f, chO_s, chP_t, chP_f, slO_s, atO_i, lcO_s, forO_s, gsO_s, nxO_s, tgO_s, paO_s, apO_s, exO_s, plO_s, ptO_s, dB_b, tru_b, tru_n, tru_i, tru_l, tru_t, is_n, isn_n, nn_n, nn_i, nn_b, nn_t, nn_l, add_ii, add'_ii, sub_ii, neg_i, lt_ii, le_ii, gt_ii, ge_ii, ix_l, ix_t, ix_s, at0, at1, at2, sl_l, sl_t, len_l, len_t, len_s, abs_i, int_i, int_b, max_ii, min_ii, tup_s, lst_s, seq_l, seq_t, sum_s, wipe_n, wipe_c, mul_ii, fdiv_ii, mod_ii, add_ll, add_tt, setAll, mkT, mkL, oNot, List.getD_cons_zero, List.getD_cons_succ, List.length_cons, List.length_nil, List.set_cons_zero, List.set_cons_succ, List.map_cons, List.map_nil, List.replicate, List.cons_append, List.nil_append, List.append_nil, Option.bind_some, Option.map_some, List.all_cons, List.all_nil, if_true, if_false, reduceIte, Nat.reduceAdd, Nat.reduceSub, Nat.reduceLT, Nat.reduceLeDiff, Nat.reduceEqDiff, decide_true, decide_false, Bool.and_true, Bool.and_self, Bool.true_and, Bool.not_true, Bool.not_false, ne_eq, not_true_eq_false, not_false_eq_true, Nat.zero_add, Bool.false_eq_true, and_self, true_and, and_true, h1, Bool.false_and]
  generalize (List.range n).map (fun i : Nat => PyData.tuple [.int (i : Nat), e3 (gP P i) (gQ Q i)]) = EN at *
  generalize M3 P Q n = MM at *
  simp -implicitDefEqProofs only [d_in_channel, g_in_channel, xVar_a, xC_a, xBin_a, xUn_a, tOf_a, tTru_a, tNotP_a, tAndP_a, tOrP_a, tyes_a, tno_a, tYesP_a, xNil_a, xCons_a, xTup_a, xLst_a, xAnd_a, xOr_a, xIf_a, xChain_a, oNo_a, oAt_a, xSl_a, xCall_a, xSeq_a, xIt_a, xLc_a, gSet_a, gTupD_a, gsNil_a, gsCons_a, sNop_a, sBrk_a, sCnt_a, sSeq_a, sRet_a, sIf_a, sSet_a, sTgt_a, sAug_a, sApp_a, sExt_a, sPut_a, sPutK_a, pkO_s, sFor_a, sWhile_a, sPar_a, runD_a, b2_s, c2_s, sqO_nx, sqO_rt, sqO_bk, sqO_ct, ifO_t, ifO_f, stO_s, endO_nx, endO_rt, andO_t, andO_f, orO_t, orO_f, chO_s, chP_t, chP_f, slO_s, atO_i, lcO_s, forO_s, gsO_s, nxO_s, tgO_s, paO_s, apO_s, exO_s, plO_s, ptO_s, dB_b, tru_b, tru_n, tru_i, tru_l, tru_t, is_n, isn_n, nn_n, nn_i, nn_b, nn_t, nn_l, add_ii, add'_ii, sub_ii, neg_i, lt_ii, le_ii, gt_ii, ge_ii, ix_l, ix_t, ix_s, at0, at1, at2, sl_l, sl_t, len_l, len_t, len_s, abs_i, int_i, int_b, max_ii, min_ii, tup_s, lst_s, seq_l, seq_t, sum_s, wipe_n, wipe_c, mul_ii, fdiv_ii, mod_ii, add_ll, add_tt, setAll, mkT, mkL, oNot, List.getD_cons_zero, List.getD_cons_succ, List.length_cons, List.length_nil, List.set_cons_zero, List.set_cons_succ, List.map_cons, List.map_nil, List.replicate, List.cons_append, List.nil_append, List.append_nil, Option.bind_some, Option.map_some, List.all_cons, List.all_nil, if_true, if_false, reduceIte, Nat.reduceAdd, Nat.reduceSub, Nat.reduceLT, Nat.reduceLeDiff, Nat.reduceEqDiff, decide_true, decide_false, Bool.and_true, Bool.and_self, Bool.true_and, Bool.not_true, Bool.not_false, ne_eq, not_true_eq_false, not_false_eq_true, Nat.zero_add, Bool.false_eq_true, and_self, true_and, and_true, en, hL]
theorem like_nats (k : Nat) (l : List Nat) (h : l.length ≤ 1000) : d__law_like (k + 2) [.tuple (l.map fun k : Nat => PyData.int (k : Nat)), .tuple (l.map fun k : Nat => PyData.int (k : Nat))] = some (.bool true) := by
  have := like_ints k (l.map fun k : Nat => (k : Int)) (by rw [List.length_map]; exact h)
  rwa [List.map_map] at this
theorem flat_nats (l : List Nat) : flat (.tuple (l.map fun k : Nat => PyData.int (k : Nat))) = true := by
  show flatL (l.map fun k : Nat => PyData.int (k : Nat)) = true
  induction l with
  | nil => rfl
  | cons x l ih =>
    rw [List.map_cons]
    unfold flatL
    rw [ih]
    rfl
theorem law_rounds_ok (hP : OkPs P) (hQ : OkQ Q) (hl : Q.length = P.length) (h4 : P.length ≤ 4) (hr : r.length = 60) : d__law_rounds [.tuple (P.map eP), .tuple (Q.map PyData.int), .list (r.map PyData.int)] = some (.bool true) := by
  have i40 : atI (r.map PyData.int) 40 = some (.int (r.getD 40 0)) := row_at r 40 (by omega)
  have i41 : atI (r.map PyData.int) 41 = some (.int (r.getD 41 0)) := row_at r 41 (by omega)
  have z10 : (10 : Int) ≠ 0 := by decide
  have z4 : (4 : Int) ≠ 0 := by decide
  have lnP : ((P.map eP).length : Int) = (P.length : Int) := by rw [List.length_map]
  have g1 := rg0 P.length (by omega)
  have l1 : lcL (gSet 17) tYesP (xBin oAdd (xBin oIx (xVar 0) (xVar 17)) (xTup (xCons (xBin oIx (xVar 1) (xVar 17)) xNil))) [some (.tuple (P.map eP)), some (.tuple (Q.map PyData.int)), some (.list (r.map PyData.int)), none, none, none, none, none, none, none, none, none, none, none, none, none, none, none, none, none] ((List.range P.length).map fun k : Nat => PyData.int (k : Nat)) = some (M3 P Q P.length) := by
    unfold M3
    refine lcL_map _ _ _ fun k hk => ?_
    have hk : k < P.length := by simpa using hk
    have a := at_P hk
    have b := at_Q (Q := Q) (i := k) (by omega)
    have ad : oAdd (eP (gP P k)) (.tuple [.int (gQ Q k)]) = some (e3 (gP P k) (gQ Q k)) := add_tt (by simp)
    generalize eP (gP P k) = E1 at *
    generalize e3 (gP P k) (gQ Q k) = E2 at *
    generalize P.map eP = MP at *
    generalize Q.map PyData.int = MQ at *
    generalize r.map PyData.int = MR at *
    simp -implicitDefEqProofs only [xVar_a, xC_a, xBin_a, xUn_a, tOf_a, tTru_a, tNotP_a, tAndP_a, tOrP_a, tyes_a, tno_a, tYesP_a, xNil_a, xCons_a, xTup_a, xLst_a, xAnd_a, xOr_a, xIf_a, xChain_a, oNo_a, oAt_a, xSl_a, xCall_a, xSeq_a, xIt_a, xLc_a, gSet_a, gTupD_a, gsNil_a, gsCons_a, sNop_a, sBrk_a, sCnt_a, sSeq_a, sRet_a, sIf_a, sSet_a, sTgt_a, sAug_a, sApp_a, sExt_a, sPut_a, sPutK_a, pkO_s, sFor_a, sWhile_a, sPar_a, runD_a, b2_s, c2_s, sqO_nx, sqO_rt, sqO_bk, sqO_ct, ifO_t, ifO_f, stO_s, endO_nx, endO_rt, andO_t, andO_f, orO_t, orO_f, chO_s, chP_t, chP_f, slO_s, atO_i, lcO_s, forO_s, gsO_s, nxO_s, tgO_s, paO_s, apO_s, exO_s, plO_s, ptO_s, dB_b, tru_b, tru_n, tru_i, tru_l, tru_t, is_n, isn_n, nn_n, nn_i, nn_b, nn_t, nn_l, add_ii, add'_ii, sub_ii, neg_i, lt_ii, le_ii, gt_ii, ge_ii, ix_l, ix_t, ix_s, at0, at1, at2, sl_l, sl_t, len_l, len_t, len_s, abs_i, int_i, int_b, max_ii, min_ii, tup_s, lst_s, seq_l, seq_t, sum_s, wipe_n, wipe_c, mul_ii, fdiv_ii, mod_ii, add_ll, add_tt, setAll, mkT, mkL, oNot, List.getD_cons_zero, List.getD_cons_succ, List.length_cons, List.length_nil, List.set_cons_zero, List.set_cons_succ, List.map_cons, List.map_nil, List.replicate, List.cons_append, List.nil_append, List.append_nil, Option.bind_some, Option.map_some, List.all_cons, List.all_nil, if_true, if_false, reduceIte, Nat.reduceAdd, Nat.reduceSub, Nat.reduceLT, Nat.reduceLeDiff, Nat.reduceEqDiff, decide_true, decide_false, Bool.and_true, Bool.and_self, Bool.true_and, Bool.not_true, Bool.not_false, ne_eq, not_true_eq_false, not_false_eq_true, Nat.zero_add, Bool.false_eq_true, and_self, true_and, and_true, a, b, ad]
  have l2 : ∀ a b c d, lcL (gSet 18) tYesP (xTup (xCons (xVar 18) (xCons (xTup (xCons (xC (.int 0)) (xCons (xC (.int 0)) xNil))) xNil))) [some (.tuple (P.map eP)), some (.tuple (Q.map PyData.int)), some (.list (r.map PyData.int)), none, none, none, none, none, a, b, c, d, none, none, none, none, none, none, none, none] (P.map eP) = some ((st0 P).map eS) := fun a b c d => by
    unfold st0
    rw [List.map_map]
    refine lcL_map _ _ _ fun p _ => ?_
    have es : eS (p, (0, 0)) = .tuple [eP p, .tuple [.int 0, .int 0]] := rfl
    simp only [Function.comp, es]
    generalize eP p = E1 at *
    generalize P.map eP = MP at *
    generalize Q.map PyData.int = MQ at *
    generalize r.map PyData.int = MR at *
    simp -implicitDefEqProofs only [xVar_a, xC_a, xBin_a, xUn_a, tOf_a, tTru_a, tNotP_a, tAndP_a, tOrP_a, tyes_a, tno_a, tYesP_a, xNil_a, xCons_a, xTup_a, xLst_a, xAnd_a, xOr_a, xIf_a, xChain_a, oNo_a, oAt_a, xSl_a, xCall_a, xSeq_a, xIt_a, xLc_a, gSet_a, gTupD_a, gsNil_a, gsCons_a, sNop_a, sBrk_a, sCnt_a, sSeq_a, sRet_a, sIf_a, sSet_a, sTgt_a, sAug_a, sApp_a, sExt_a, sPut_a, sPutK_a, pkO_s, sFor_a, sWhile_a, sPar_a, runD_a, b2_s, c2_s, sqO_nx, sqO_rt, sqO_bk, sqO_ct, ifO_t, ifO_f, stO_s, endO_nx, endO_rt, andO_t, andO_f, orO_t, orO_f, chO_s, chP_t, chP_f, slO_s, atO_i, lcO_s, forO_s, gsO_s, nxO_s, tgO_s, paO_s, apO_s, exO_s, plO_s, ptO_s, dB_b, tru_b, tru_n, tru_i, tru_l, tru_t, is_n, isn_n, nn_n, nn_i, nn_b, nn_t, nn_l, add_ii, add'_ii, sub_ii, neg_i, lt_ii, le_ii, gt_ii, ge_ii, ix_l, ix_t, ix_s, at0, at1, at2, sl_l, sl_t, len_l, len_t, len_s, abs_i, int_i, int_b, max_ii, min_ii, tup_s, lst_s, seq_l, seq_t, sum_s, wipe_n, wipe_c, mul_ii, fdiv_ii, mod_ii, add_ll, add_tt, setAll, mkT, mkL, oNot, List.getD_cons_zero, List.getD_cons_succ, List.length_cons, List.length_nil, List.set_cons_zero, List.set_cons_succ, List.map_cons, List.map_nil, List.replicate, List.cons_append, List.nil_append, List.append_nil, Option.bind_some, Option.map_some, List.all_cons, List.all_nil, if_true, if_false, reduceIte, Nat.reduceAdd, Nat.reduceSub, Nat.reduceLT, Nat.reduceLeDiff, Nat.reduceEqDiff, decide_true, decide_false, Bool.and_true, Bool.and_self, Bool.true_and, Bool.not_true, Bool.not_false, ne_eq, not_true_eq_false, not_false_eq_true, Nat.zero_add, Bool.false_eq_true, and_self, true_and, and_true]
  obtain ⟨y4, y12, y13, y14, y15, y16, lp⟩ := round_outer (r := r) hP hQ hl h4
  rw [meet_prs, near_prs] at lp
  have ca := clear_all_eq hP hQ (n := P.length) h4
  rw [clear_len] at ca
  have lk1 := like_bool 7 (decide (((((prs P.length (mt P Q)).map eP).length : Nat) : Int) = 0))
  obtain ⟨L, n1, _, n3⟩ := near_st0 hP h4 (f := 4) Sm.lit
  have n3 : L = prs P.length (nr P) := n3
  subst n3
  have pl := prs_len h4 (nr P)
  have lk2 := like_pts 5 (prs P.length (nr P)) (by omega)
  have fl2 := flat_pts (prs P.length (nr P))
  have r40 := fmod_rng (r.getD 40 0) (m := 10) (by decide)
  generalize hlo : (r.getD 40 0).fmod 10 = lo at *
  generalize hhi : lo + (r.getD 41 0).fmod 4 = hi at *
  have ic := in_channel_eq (P := P) (Q := Q) (n := P.length) (lo := lo) (hi := hi)
  have l3 : ∀ a b c d e f g h, lcL (gSet 17) (tAndP (tOf (xBin oGe (xBin oAdd (xBin oIx (xBin oIx (xVar 0) (xVar 17)) (xC (.int 1))) (xBin oIx (xVar 1) (xVar 17))) (xVar 5))) (tOf (xBin oLe (xBin oSub (xBin oIx (xBin oIx (xVar 0) (xVar 17)) (xC (.int 1))) (xBin oIx (xVar 1) (xVar 17))) (xVar 6)))) (xVar 17) [some (.tuple (P.map eP)), some (.tuple (Q.map PyData.int)), some (.list (r.map PyData.int)), a, b, some (.int lo), some (.int hi), none, c, d, e, f, g, h, y14, y15, y16, none, none, none] ((List.range P.length).map fun k : Nat => PyData.int (k : Nat)) = some (((List.range P.length).filter (chn P Q lo hi)).map fun k : Nat => PyData.int (k : Nat)) := fun a b c d e f g h => by
    refine lcL_filter (fun k : Nat => PyData.int (k : Nat)) (fun k : Nat => PyData.int (k : Nat)) (chn P Q lo hi) _ fun k hk => ⟨_, rfl, ?_, fun _ => rfl⟩
    have hk : k < P.length := by simpa using hk
    have a := at_P hk
    rw [show eP (gP P k) = .tuple [.int (gP P k).1, .int (gP P k).2] from rfl] at a
    have b := at_Q (Q := Q) (i := k) (by omega)
    unfold chn
    generalize P.map eP = MP at *
    generalize Q.map PyData.int = MQ at *
    generalize r.map PyData.int = MR at *
    cases h1 : decide (lo ≤ (gP P k).2 + gQ Q k) with
    | true => simp -implicitDefEqProofs only [xVar_a, xC_a, xBin_a, xUn_a, tOf_a, tTru_a, tNotP_a, tAndP_a, tOrP_a, tyes_a, tno_a, tYesP_a, xNil_a, xCons_a, xTup_a, xLst_a, xAnd_a, xOr_a, xIf_a, xChain_a, oNo_a, oAt_a, xSl_a, xCall_a, xSeq_a, xIt_a, xLc_a, gSet_a, gTupD_a, gsNil_a, gsCons_a, sNop_a, sBrk_a, sCnt_a, sSeq_a, sRet_a, sIf_a, sSet_a, sTgt_a, sAug_a, sApp_a, sExt_a, sPut_a, sPutK_a, pkO_s, sFor_a, sWhile_a, sPar_a, runD_a, b2_s, c2_s, sqO_nx, sqO_rt, sqO_bk, sqO_ct, ifO_t, ifO_f, stO_s, endO_nx, endO_rt, andO_t, andO_f, orO_t, orO_f, chO_s, chP_t, chP_f, slO_s, atO_i, lcO_s, forO_s, gsO_s, nxO_s, tgO_s, paO_s, apO_s, exO_s, plO_s, ptO_s, dB_b, tru_b, tru_n, tru_i, tru_l, tru_t, is_n, isn_n, nn_n, nn_i, nn_b, nn_t, nn_l, add_ii, add'_ii, sub_ii, neg_i, lt_ii, le_ii, gt_ii, ge_ii, ix_l, ix_t, ix_s, at0, at1, at2, sl_l, sl_t, len_l, len_t, len_s, abs_i, int_i, int_b, max_ii, min_ii, tup_s, lst_s, seq_l, seq_t, sum_s, wipe_n, wipe_c, mul_ii, fdiv_ii, mod_ii, add_ll, add_tt, setAll, mkT, mkL, oNot, List.getD_cons_zero, List.getD_cons_succ, List.length_cons, List.length_nil, List.set_cons_zero, List.set_cons_succ, List.map_cons, List.map_nil, List.replicate, List.cons_append, List.nil_append, List.append_nil, Option.bind_some, Option.map_some, List.all_cons, List.all_nil, if_true, if_false, reduceIte, Nat.reduceAdd, Nat.reduceSub, Nat.reduceLT, Nat.reduceLeDiff, Nat.reduceEqDiff, decide_true, decide_false, Bool.and_true, Bool.and_self, Bool.true_and, Bool.not_true, Bool.not_false, ne_eq, not_true_eq_false, not_false_eq_true, Nat.zero_add, Bool.false_eq_true, and_self, true_and, and_true, a, b, h1]
    | false => simp -implicitDefEqProofs only [xVar_a, xC_a, xBin_a, xUn_a, tOf_a, tTru_a, tNotP_a, tAndP_a, tOrP_a, tyes_a, tno_a, tYesP_a, xNil_a, xCons_a, xTup_a, xLst_a, xAnd_a, xOr_a, xIf_a, xChain_a, oNo_a, oAt_a, xSl_a, xCall_a, xSeq_a, xIt_a, xLc_a, gSet_a, gTupD_a, gsNil_a, gsCons_a, sNop_a, sBrk_a, sCnt_a, sSeq_a, sRet_a, sIf_a, sSet_a, sTgt_a, sAug_a, sApp_a, sExt_a, sPut_a, sPutK_a, pkO_s, sFor_a, sWhile_a, sPar_a, runD_a, b2_s, c2_s, sqO_nx, sqO_rt, sqO_bk, sqO_ct, ifO_t, ifO_f, stO_s, endO_nx, endO_rt, andO_t, andO_f, orO_t, orO_f, chO_s, chP_t, chP_f, slO_s, atO_i, lcO_s, forO_s, gsO_s, nxO_s, tgO_s, paO_s, apO_s, exO_s, plO_s, ptO_s, dB_b, tru_b, tru_n, tru_i, tru_l, tru_t, is_n, isn_n, nn_n, nn_i, nn_b, nn_t, nn_l, add_ii, add'_ii, sub_ii, neg_i, lt_ii, le_ii, gt_ii, ge_ii, ix_l, ix_t, ix_s, at0, at1, at2, sl_l, sl_t, len_l, len_t, len_s, abs_i, int_i, int_b, max_ii, min_ii, tup_s, lst_s, seq_l, seq_t, sum_s, wipe_n, wipe_c, mul_ii, fdiv_ii, mod_ii, add_ll, add_tt, setAll, mkT, mkL, oNot, List.getD_cons_zero, List.getD_cons_succ, List.length_cons, List.length_nil, List.set_cons_zero, List.set_cons_succ, List.map_cons, List.map_nil, List.replicate, List.cons_append, List.nil_append, List.append_nil, Option.bind_some, Option.map_some, List.all_cons, List.all_nil, if_true, if_false, reduceIte, Nat.reduceAdd, Nat.reduceSub, Nat.reduceLT, Nat.reduceLeDiff, Nat.reduceEqDiff, decide_true, decide_false, Bool.and_true, Bool.and_self, Bool.true_and, Bool.not_true, Bool.not_false, ne_eq, not_true_eq_false, not_false_eq_true, Nat.zero_add, Bool.false_eq_true, and_self, true_and, and_true, a, b, h1, Bool.false_and]
  have fle := List.length_filter_le (chn P Q lo hi) (List.range P.length)
  rw [List.length_range] at fle
  have lk3 := like_nats 6 ((List.range P.length).filter (chn P Q lo hi)) (by omega)
  have fl3 := flat_nats ((List.range P.length).filter (chn P Q lo hi))
  have fb : flat (.bool true) = true := rfl
  generalize ((List.range P.length).filter (chn P Q lo hi)).map (fun k : Nat => PyData.int (k : Nat)) = CH at *
  generalize (prs P.length (nr P)).map eP = NP at *
  generalize (prs P.length (mt P Q)).map eP = MTP at *
  generalize (List.range P.length).map (fun k : Nat => PyData.int (k : Nat)) = RN at *
  generalize M3 P Q P.length = MM at *
  generalize (st0 P).map eS = MS at *
  generalize P.map eP = MP at *
  generalize Q.map PyData.int = MQ at *
  generalize r.map PyData.int = MR at *
  simp -implicitDefEqProofs only [d__law_rounds, g__law_rounds, xVar_a, xC_a, xBin_a, xUn_a, tOf_a, tTru_a, tNotP_a, tAndP_a, tOrP_a, tyes_a, tno_a, tYesP_a, xNil_a, xCons_a, xTup_a, xLst_a, xAnd_a, xOr_a, xIf_a, xChain_a, oNo_a, oAt_a, xSl_a, xCall_a, xSeq_a, xIt_a, xLc_a, gSet_a, gTupD_a, gsNil_a, gsCons_a, sNop_a, sBrk_a, sCnt_a, sSeq_a, sRet_a, sIf_a, sSet_a, sTgt_a, sAug_a, sApp_a, sExt_a, sPut_a, sPutK_a, pkO_s, sFor_a, sWhile_a, sPar_a, runD_a, b2_s, c2_s, sqO_nx, sqO_rt, sqO_bk, sqO_ct, ifO_t, ifO_f, stO_s, endO_nx, endO_rt, andO_t, andO_f, orO_t, orO_f, chO_s, chP_t, chP_f, slO_s, atO_i, lcO_s, forO_s, gsO_s, nxO_s, tgO_s, paO_s, apO_s, exO_s, plO_s, ptO_s, dB_b, tru_b, tru_n, tru_i, tru_l, tru_t, is_n, isn_n, nn_n, nn_i, nn_b, nn_t, nn_l, add_ii, add'_ii, sub_ii, neg_i, lt_ii, le_ii, gt_ii, ge_ii, ix_l, ix_t, ix_s, at0, at1, at2, sl_l, sl_t, len_l, len_t, len_s, abs_i, int_i, int_b, max_ii, min_ii, tup_s, lst_s, seq_l, seq_t, sum_s, wipe_n, wipe_c, mul_ii, fdiv_ii, mod_ii, add_ll, add_tt, setAll, mkT, mkL, oNot, List.getD_cons_zero, List.getD_cons_succ, List.length_cons, List.length_nil, List.set_cons_zero, List.set_cons_succ, List.map_cons, List.map_nil, List.replicate, List.cons_append, List.nil_append, List.append_nil, Option.bind_some, Option.map_some, List.all_cons, List.all_nil, if_true, if_false, reduceIte, Nat.reduceAdd, Nat.reduceSub, Nat.reduceLT, Nat.reduceLeDiff, Nat.reduceEqDiff, decide_true, decide_false, Bool.and_true, Bool.and_self, Bool.true_and, Bool.not_true, Bool.not_false, ne_eq, not_true_eq_false, not_false_eq_true, Nat.zero_add, Bool.false_eq_true, and_self, true_and, and_true, lnP, g1, l1, l2, lp, ca, eq_int, lk1, n1, fl2, lk2, i40, i41, mod_ii z10, mod_ii z4, hlo, hhi, l3, ic, fl3, lk3, fb]
end
end K25

namespace K25
open PySem PySem.Spec PyProof.Rows L2 Pm
open PySem.W (Datum Tup)
def encI (l : List Int) : D := .tuple (l.map PyData.int)
def gPi (P : List Pt) (k : Int) : Pt := gP P k.toNat
theorem at_Pi {P : List Pt} {k : Int} (h : 0 ≤ k ∧ k < P.length) : atI (P.map eP) k = some (eP (gPi P k)) := by
  obtain ⟨j, rfl⟩ := Int.eq_ofNat_of_zero_le h.1
  exact at_P (by omega)
def ixs (m : Nat) : List Int := (List.range m).map fun k : Nat => (k : Int)
theorem ixs_mem {m : Nat} {k : Int} : k ∈ ixs m ↔ 0 ≤ k ∧ k < m := by
  unfold ixs
  rw [List.mem_map]
  constructor
  · rintro ⟨j, hj, rfl⟩
    have := List.mem_range.mp hj
    omega
  · intro h
    exact ⟨k.toNat, List.mem_range.mpr (by omega), by omega⟩
theorem rg_ixs (m : Nat) (h : m ≤ 1000) : oR1 [.int (m : Nat)] = some ((ixs m).map PyData.int) := by
  rw [rg0 m h]
  unfold ixs
  rw [List.map_map]
  rfl
theorem notin_t (p : Int) (l : List Int) : oNotIn (.int p) (encI l) = some (.bool (!l.contains p)) := by
  show (if (shp (.int p) && PyData.canLayAll0 (l.map PyData.int)) = true then some (PyData.bool (!(l.map PyData.int).any fun z => PyData.eqv z (.int p))) else none) = _
  rw [shp_int, lay_ints, any_ints]
  rfl
section
variable {P : List Pt} {Q : List Int} {bq : Bool}
/-- may the next ship lie at ix -/
def fits (P : List Pt) (Q : List Int) (q : Int) (row : List Int) (ix : Int) : Bool := !row.contains ix && !((row.zip Q).any fun p => mtI (gPi P ix) q (gPi P p.1) p.2)
def OkRow (P : List Pt) (row : List Int) : Prop := ∀ k ∈ row, 0 ≤ k ∧ k < (P.length : Int)
def g1 (P : List Pt) (Q : List Int) (q : Int) (row : List Int) (ix : Int) : List (List Int) := if fits P Q q row ix then [row ++ [ix]] else []
def g2 (P : List Pt) (Q : List Int) (q : Int) (row : List Int) : List (List Int) := (ixs P.length).flatMap (g1 P Q q row)
theorem g1_len (q : Int) (row : List Int) (ix : Int) : (g1 P Q q row ix).length ≤ 1 := by unfold g1; split <;> simp
theorem g2_len (q : Int) (row : List Int) : (g2 P Q q row).length ≤ P.length := by
  have := fl_len (g1 P Q q row) 1 (ixs P.length) (fun x _ => g1_len q row x)
  unfold g2
  have e : (ixs P.length).length = P.length := by unfold ixs; simp
  omega
theorem ix_step (hP : OkPs P) (hQ : OkQ Q) (hl : P.length ≤ 4) {q : Int} (hq : Sm 5 q) {row : List Int} (hrow : OkRow P row) (hrl : row.length ≤ 10) {ix : Int} (hix : 0 ≤ ix ∧ ix < (P.length : Int)) (acc : List D) (ha : acc.length ≤ 5000) (x2 x6 x7 : Option D) :
    ∃ y7, l1_anchors_least [some (.tuple (P.map eP)), some (sqD bq (Q.map PyData.int)), x2, some (.int q), some (.list acc), some (encI row), some (.int ix), x7, none, none, none] =
      some (.nx [some (.tuple (P.map eP)), some (sqD bq (Q.map PyData.int)), x2, some (.int q), some (.list (acc ++ (g1 P Q q row ix).map encI)), some (encI row), some (.int ix), y7, none, none, none]) := by
  have ni := notin_t ix row
  have a := at_Pi hix
  have e1 : g1 P Q q row ix = if fits P Q q row ix then [row ++ [ix]] else [] := rfl
  by_cases hc : row.contains ix = true
  · have hf : fits P Q q row ix = false := by unfold fits; rw [hc]; rfl
    rw [hf] at e1
    refine ⟨x7, ?_⟩
    rw [hc] at ni
    rw [e1]
    generalize encI row = ER at *
    generalize sqD bq (Q.map PyData.int) = MQ at *
    generalize P.map eP = MP at *
    simp -implicitDefEqProofs only [l1_anchors_least, xVar_a, xC_a, xBin_a, xUn_a, tOf_a, tTru_a, tNotP_a, tAndP_a, tOrP_a, tyes_a, tno_a, tYesP_a, xNil_a, xCons_a, xTup_a, xLst_a, xAnd_a, xOr_a, xIf_a, xChain_a, oNo_a, oAt_a, xSl_a, xCall_a, xSeq_a, xIt_a, xLc_a, gSet_a, gTupD_a, gsNil_a, gsCons_a, sNop_a, sBrk_a, sCnt_a, sSeq_a, sRet_a, sIf_a, sSet_a, sTgt_a, sAug_a, sApp_a, sExt_a, sPut_a, sPutK_a, pkO_s, sFor_a, sWhile_a, sPar_a, runD_a, b2_s, c2_s, sqO_nx, sqO_rt, sqO_bk, sqO_ct, ifO_t, ifO_f, stO_s, endO_nx, endO_rt, andO_t, andO_f, orO_t, orO_f, chO_s, chP_t, chP_f, slO_s, atO_i, lcO_s, forO_s, gsO_s, nxO_s, tgO_s, paO_s, apO_s, exO_s, plO_s, ptO_s, dB_b, tru_b, tru_n, tru_i, tru_l, tru_t, is_n, isn_n, nn_n, nn_i, nn_b, nn_t, nn_l, add_ii, add'_ii, sub_ii, neg_i, lt_ii, le_ii, gt_ii, ge_ii, ix_l, ix_t, ix_s, at0, at1, at2, sl_l, sl_t, len_l, len_t, len_s, abs_i, int_i, int_b, max_ii, min_ii, tup_s, lst_s, seq_l, seq_t, sum_s, wipe_n, wipe_c, mul_ii, fdiv_ii, mod_ii, add_ll, add_tt, setAll, mkT, mkL, oNot, List.getD_cons_zero, List.getD_cons_succ, List.length_cons, List.length_nil, List.set_cons_zero, List.set_cons_succ, List.map_cons, List.map_nil, List.replicate, List.cons_append, List.nil_append, List.append_nil, Option.bind_some, Option.map_some, List.all_cons, List.all_nil, if_true, if_false, reduceIte, Nat.reduceAdd, Nat.reduceSub, Nat.reduceLT, Nat.reduceLeDiff, Nat.reduceEqDiff, decide_true, decide_false, Bool.and_true, Bool.and_self, Bool.true_and, Bool.not_true, Bool.not_false, ne_eq, not_true_eq_false, not_false_eq_true, Nat.zero_add, Bool.false_eq_true, and_self, true_and, and_true, ni, List.append_nil, Bool.false_eq_true]
  · have hc : row.contains ix = false := by simpa using hc
    rw [hc] at ni
    have zp : oZipM [encI row, sqD bq (Q.map PyData.int)] = some ((row.zip Q).map fun p => .tuple [.int p.1, .int p.2]) := by
      show ((seqD (encI row)).bind fun xs => (seqD (sqD bq (Q.map PyData.int))).bind fun ys => some (zipD xs ys)) = _
      rw [seq_q]
      show some (zipD (row.map PyData.int) (Q.map PyData.int)) = _
      rw [zipD_m]
    have mem : ∀ p ∈ row.zip Q, (0 ≤ p.1 ∧ p.1 < (P.length : Int)) ∧ Sm 5 p.2 := fun p hp => by
      obtain ⟨h1, h2⟩ := List.of_mem_zip (a := p.1) (b := p.2) hp
      exact ⟨hrow _ h1, hQ _ h2⟩
    have l1 : ∀ x7, lcL (gTupD 2 (gsCons (gSet 8) (gsCons (gSet 9) gsNil))) tYesP (xBin oAdd (xBin oIx (xVar 0) (xVar 8)) (xTup (xCons (xVar 9) xNil))) [some (.tuple (P.map eP)), some (sqD bq (Q.map PyData.int)), x2, some (.int q), some (.list acc), some (encI row), some (.int ix), x7, none, none, none] ((row.zip Q).map fun p => .tuple [.int p.1, .int p.2]) = some ((row.zip Q).map fun p => e3 (gPi P p.1) p.2) := fun x7 => by
      refine lcL_map (fun p : Int × Int => .tuple [.int p.1, .int p.2]) _ _ fun p hp => ?_
      have b := at_Pi (mem p hp).1
      have ad : oAdd (eP (gPi P p.1)) (.tuple [.int p.2]) = some (e3 (gPi P p.1) p.2) := add_tt (by simp)
      generalize eP (gPi P p.1) = E1 at *
      generalize e3 (gPi P p.1) p.2 = E2 at *
      generalize encI row = ER at *
      generalize sqD bq (Q.map PyData.int) = MQ at *
      generalize P.map eP = MP at *
      simp -implicitDefEqProofs only [xVar_a, xC_a, xBin_a, xUn_a, tOf_a, tTru_a, tNotP_a, tAndP_a, tOrP_a, tyes_a, tno_a, tYesP_a, xNil_a, xCons_a, xTup_a, xLst_a, xAnd_a, xOr_a, xIf_a, xChain_a, oNo_a, oAt_a, xSl_a, xCall_a, xSeq_a, xIt_a, xLc_a, gSet_a, gTupD_a, gsNil_a, gsCons_a, sNop_a, sBrk_a, sCnt_a, sSeq_a, sRet_a, sIf_a, sSet_a, sTgt_a, sAug_a, sApp_a, sExt_a, sPut_a, sPutK_a, pkO_s, sFor_a, sWhile_a, sPar_a, runD_a, b2_s, c2_s, sqO_nx, sqO_rt, sqO_bk, sqO_ct, ifO_t, ifO_f, stO_s, endO_nx, endO_rt, andO_t, andO_f, orO_t, orO_f, chO_s, chP_t, chP_f, slO_s, atO_i, lcO_s, forO_s, gsO_s, nxO_s, tgO_s, paO_s, apO_s, exO_s, plO_s, ptO_s, dB_b, tru_b, tru_n, tru_i, tru_l, tru_t, is_n, isn_n, nn_n, nn_i, nn_b, nn_t, nn_l, add_ii, add'_ii, sub_ii, neg_i, lt_ii, le_ii, gt_ii, ge_ii, ix_l, ix_t, ix_s, at0, at1, at2, sl_l, sl_t, len_l, len_t, len_s, abs_i, int_i, int_b, max_ii, min_ii, tup_s, lst_s, seq_l, seq_t, sum_s, wipe_n, wipe_c, mul_ii, fdiv_ii, mod_ii, add_ll, add_tt, setAll, mkT, mkL, oNot, List.getD_cons_zero, List.getD_cons_succ, List.length_cons, List.length_nil, List.set_cons_zero, List.set_cons_succ, List.map_cons, List.map_nil, List.replicate, List.cons_append, List.nil_append, List.append_nil, Option.bind_some, Option.map_some, List.all_cons, List.all_nil, if_true, if_false, reduceIte, Nat.reduceAdd, Nat.reduceSub, Nat.reduceLT, Nat.reduceLeDiff, Nat.reduceEqDiff, decide_true, decide_false, Bool.and_true, Bool.and_self, Bool.true_and, Bool.not_true, Bool.not_false, ne_eq, not_true_eq_false, not_false_eq_true, Nat.zero_add, Bool.false_eq_true, and_self, true_and, and_true, b, ad]
    have l2 : ∀ x7, lcL (gSet 10) tYesP (xCall (fun ds => if ds.length = 2 then (d_swing_meets) ds else none) (xCons (xBin oAdd (xBin oIx (xVar 0) (xVar 6)) (xTup (xCons (xVar 3) xNil))) (xCons (xVar 10) xNil))) [some (.tuple (P.map eP)), some (sqD bq (Q.map PyData.int)), x2, some (.int q), some (.list acc), some (encI row), some (.int ix), x7, none, none, none] ((row.zip Q).map fun p => e3 (gPi P p.1) p.2) = some (((row.zip Q).map fun p => mtI (gPi P ix) q (gPi P p.1) p.2).map PyData.bool) := fun x7 => by
      rw [List.map_map]
      refine lcL_map (fun p : Int × Int => e3 (gPi P p.1) p.2) _ _ fun p hp => ?_
      have ad : oAdd (eP (gPi P ix)) (.tuple [.int q]) = some (e3 (gPi P ix) q) := add_tt (by simp)
      have sw := swing_eq (gP_ok hP ix.toNat) (gP_ok hP p.1.toNat) hq (mem p hp).2
      rw [show mtI (gP P ix.toNat) q (gP P p.1.toNat) p.2 = mtI (gPi P ix) q (gPi P p.1) p.2 from rfl, show gP P ix.toNat = gPi P ix from rfl, show gP P p.1.toNat = gPi P p.1 from rfl] at sw
      simp only [Function.comp]
      generalize mtI (gPi P ix) q (gPi P p.1) p.2 = MT at *
      generalize eP (gPi P ix) = E1 at *
      generalize e3 (gPi P ix) q = E2 at *
      generalize e3 (gPi P p.1) p.2 = E3 at *
      generalize encI row = ER at *
      generalize sqD bq (Q.map PyData.int) = MQ at *
      generalize P.map eP = MP at *
      simp -implicitDefEqProofs only [xVar_a, xC_a, xBin_a, xUn_a, tOf_a, tTru_a, tNotP_a, tAndP_a, tOrP_a, tyes_a, tno_a, tYesP_a, xNil_a, xCons_a, xTup_a, xLst_a, xAnd_a, xOr_a, xIf_a, xChain_a, oNo_a, oAt_a, xSl_a, xCall_a, xSeq_a, xIt_a, xLc_a, gSet_a, gTupD_a, gsNil_a, gsCons_a, sNop_a, sBrk_a, sCnt_a, sSeq_a, sRet_a, sIf_a, sSet_a, sTgt_a, sAug_a, sApp_a, sExt_a, sPut_a, sPutK_a, pkO_s, sFor_a, sWhile_a, sPar_a, runD_a, b2_s, c2_s, sqO_nx, sqO_rt, sqO_bk, sqO_ct, ifO_t, ifO_f, stO_s, endO_nx, endO_rt, andO_t, andO_f, orO_t, orO_f, chO_s, chP_t, chP_f, slO_s, atO_i, lcO_s, forO_s, gsO_s, nxO_s, tgO_s, paO_s, apO_s, exO_s, plO_s, ptO_s, dB_b, tru_b, tru_n, tru_i, tru_l, tru_t, is_n, isn_n, nn_n, nn_i, nn_b, nn_t, nn_l, add_ii, add'_ii, sub_ii, neg_i, lt_ii, le_ii, gt_ii, ge_ii, ix_l, ix_t, ix_s, at0, at1, at2, sl_l, sl_t, len_l, len_t, len_s, abs_i, int_i, int_b, max_ii, min_ii, tup_s, lst_s, seq_l, seq_t, sum_s, wipe_n, wipe_c, mul_ii, fdiv_ii, mod_ii, add_ll, add_tt, setAll, mkT, mkL, oNot, List.getD_cons_zero, List.getD_cons_succ, List.length_cons, List.length_nil, List.set_cons_zero, List.set_cons_succ, List.map_cons, List.map_nil, List.replicate, List.cons_append, List.nil_append, List.append_nil, Option.bind_some, Option.map_some, List.all_cons, List.all_nil, if_true, if_false, reduceIte, Nat.reduceAdd, Nat.reduceSub, Nat.reduceLT, Nat.reduceLeDiff, Nat.reduceEqDiff, decide_true, decide_false, Bool.and_true, Bool.and_self, Bool.true_and, Bool.not_true, Bool.not_false, ne_eq, not_true_eq_false, not_false_eq_true, Nat.zero_add, Bool.false_eq_true, and_self, true_and, and_true, a, ad, sw]
    have an := any_l ((row.zip Q).map fun p => mtI (gPi P ix) q (gPi P p.1) p.2)
    have hf : fits P Q q row ix = !(((row.zip Q).map fun p => mtI (gPi P ix) q (gPi P p.1) p.2).any id) := by
      unfold fits
      rw [hc, List.any_map]
      rfl
    have ad2 : oAdd (encI row) (.tuple [.int ix]) = some (encI (row ++ [ix])) := by
      unfold encI
      rw [List.map_append]
      exact add_tt (by simp; omega)
    have hlt : acc.length < 16777216 := by omega
    refine ⟨some (.list ((row.zip Q).map fun p => e3 (gPi P p.1) p.2)), ?_⟩
    cases ht : ((row.zip Q).map fun p => mtI (gPi P ix) q (gPi P p.1) p.2).any id with
    | true =>
      rw [ht] at hf an
      rw [hf] at e1
      rw [e1]
      generalize ((row.zip Q).map fun p => mtI (gPi P ix) q (gPi P p.1) p.2).map PyData.bool = LB at *
      generalize ((row.zip Q).map fun p => e3 (gPi P p.1) p.2) = LE at *
      generalize ((row.zip Q).map fun p => PyData.tuple [.int p.1, .int p.2]) = LZ at *
      generalize encI (row ++ [ix]) = ER2 at *
      generalize encI row = ER at *
      generalize sqD bq (Q.map PyData.int) = MQ at *
      generalize P.map eP = MP at *
      simp -implicitDefEqProofs only [l1_anchors_least, xVar_a, xC_a, xBin_a, xUn_a, tOf_a, tTru_a, tNotP_a, tAndP_a, tOrP_a, tyes_a, tno_a, tYesP_a, xNil_a, xCons_a, xTup_a, xLst_a, xAnd_a, xOr_a, xIf_a, xChain_a, oNo_a, oAt_a, xSl_a, xCall_a, xSeq_a, xIt_a, xLc_a, gSet_a, gTupD_a, gsNil_a, gsCons_a, sNop_a, sBrk_a, sCnt_a, sSeq_a, sRet_a, sIf_a, sSet_a, sTgt_a, sAug_a, sApp_a, sExt_a, sPut_a, sPutK_a, pkO_s, sFor_a, sWhile_a, sPar_a, runD_a, b2_s, c2_s, sqO_nx, sqO_rt, sqO_bk, sqO_ct, ifO_t, ifO_f, stO_s, endO_nx, endO_rt, andO_t, andO_f, orO_t, orO_f, chO_s, chP_t, chP_f, slO_s, atO_i, lcO_s, forO_s, gsO_s, nxO_s, tgO_s, paO_s, apO_s, exO_s, plO_s, ptO_s, dB_b, tru_b, tru_n, tru_i, tru_l, tru_t, is_n, isn_n, nn_n, nn_i, nn_b, nn_t, nn_l, add_ii, add'_ii, sub_ii, neg_i, lt_ii, le_ii, gt_ii, ge_ii, ix_l, ix_t, ix_s, at0, at1, at2, sl_l, sl_t, len_l, len_t, len_s, abs_i, int_i, int_b, max_ii, min_ii, tup_s, lst_s, seq_l, seq_t, sum_s, wipe_n, wipe_c, mul_ii, fdiv_ii, mod_ii, add_ll, add_tt, setAll, mkT, mkL, oNot, List.getD_cons_zero, List.getD_cons_succ, List.length_cons, List.length_nil, List.set_cons_zero, List.set_cons_succ, List.map_cons, List.map_nil, List.replicate, List.cons_append, List.nil_append, List.append_nil, Option.bind_some, Option.map_some, List.all_cons, List.all_nil, if_true, if_false, reduceIte, Nat.reduceAdd, Nat.reduceSub, Nat.reduceLT, Nat.reduceLeDiff, Nat.reduceEqDiff, decide_true, decide_false, Bool.and_true, Bool.and_self, Bool.true_and, Bool.not_true, Bool.not_false, ne_eq, not_true_eq_false, not_false_eq_true, Nat.zero_add, Bool.false_eq_true, and_self, true_and, and_true, ni, zp, l1, l2, an, List.append_nil, Bool.false_eq_true]
    | false =>
      rw [ht] at hf an
      rw [hf] at e1
      have e1 : g1 P Q q row ix = [row ++ [ix]] := e1
      rw [e1, List.map_cons, List.map_nil]
      generalize ((row.zip Q).map fun p => mtI (gPi P ix) q (gPi P p.1) p.2).map PyData.bool = LB at *
      generalize ((row.zip Q).map fun p => e3 (gPi P p.1) p.2) = LE at *
      generalize ((row.zip Q).map fun p => PyData.tuple [.int p.1, .int p.2]) = LZ at *
      generalize encI (row ++ [ix]) = ER2 at *
      generalize encI row = ER at *
      generalize sqD bq (Q.map PyData.int) = MQ at *
      generalize P.map eP = MP at *
      simp -implicitDefEqProofs only [l1_anchors_least, xVar_a, xC_a, xBin_a, xUn_a, tOf_a, tTru_a, tNotP_a, tAndP_a, tOrP_a, tyes_a, tno_a, tYesP_a, xNil_a, xCons_a, xTup_a, xLst_a, xAnd_a, xOr_a, xIf_a, xChain_a, oNo_a, oAt_a, xSl_a, xCall_a, xSeq_a, xIt_a, xLc_a, gSet_a, gTupD_a, gsNil_a, gsCons_a, sNop_a, sBrk_a, sCnt_a, sSeq_a, sRet_a, sIf_a, sSet_a, sTgt_a, sAug_a, sApp_a, sExt_a, sPut_a, sPutK_a, pkO_s, sFor_a, sWhile_a, sPar_a, runD_a, b2_s, c2_s, sqO_nx, sqO_rt, sqO_bk, sqO_ct, ifO_t, ifO_f, stO_s, endO_nx, endO_rt, andO_t, andO_f, orO_t, orO_f, chO_s, chP_t, chP_f, slO_s, atO_i, lcO_s, forO_s, gsO_s, nxO_s, tgO_s, paO_s, apO_s, exO_s, plO_s, ptO_s, dB_b, tru_b, tru_n, tru_i, tru_l, tru_t, is_n, isn_n, nn_n, nn_i, nn_b, nn_t, nn_l, add_ii, add'_ii, sub_ii, neg_i, lt_ii, le_ii, gt_ii, ge_ii, ix_l, ix_t, ix_s, at0, at1, at2, sl_l, sl_t, len_l, len_t, len_s, abs_i, int_i, int_b, max_ii, min_ii, tup_s, lst_s, seq_l, seq_t, sum_s, wipe_n, wipe_c, mul_ii, fdiv_ii, mod_ii, add_ll, add_tt, setAll, mkT, mkL, oNot, List.getD_cons_zero, List.getD_cons_succ, List.length_cons, List.length_nil, List.set_cons_zero, List.set_cons_succ, List.map_cons, List.map_nil, List.replicate, List.cons_append, List.nil_append, List.append_nil, Option.bind_some, Option.map_some, List.all_cons, List.all_nil, if_true, if_false, reduceIte, Nat.reduceAdd, Nat.reduceSub, Nat.reduceLT, Nat.reduceLeDiff, Nat.reduceEqDiff, decide_true, decide_false, Bool.and_true, Bool.and_self, Bool.true_and, Bool.not_true, Bool.not_false, ne_eq, not_true_eq_false, not_false_eq_true, Nat.zero_add, Bool.false_eq_true, and_self, true_and, and_true, ni, zp, l1, l2, an, ad2, hlt]
theorem row_step (hP : OkPs P) (hQ : OkQ Q) (hl : P.length ≤ 4) {q : Int} (hq : Sm 5 q) {row : List Int} (hrow : OkRow P row) (hrl : row.length ≤ 10) (acc : List D) (ha : acc.length ≤ 4000) (x2 x6 x7 : Option D) :
    ∃ y6 y7, l2_anchors_least [some (.tuple (P.map eP)), some (sqD bq (Q.map PyData.int)), x2, some (.int q), some (.list acc), some (encI row), x6, x7, none, none, none] =
      some (.nx [some (.tuple (P.map eP)), some (sqD bq (Q.map PyData.int)), x2, some (.int q), some (.list (acc ++ (g2 P Q q row).map encI)), some (encI row), y6, y7, none, none, none]) := by
  have g2l := g2_len (P := P) (Q := Q) q row
  obtain ⟨ρ', e1, y6, y7, e2⟩ := forL_fl (g := gSet 6) (b := l1_anchors_least) (N := 4010) PyData.int encI (g1 P Q q row) (fun acc ρ => ∃ x6 x7, ρ = [some (.tuple (P.map eP)), some (sqD bq (Q.map PyData.int)), x2, some (.int q), some (.list acc), some (encI row), x6, x7, none, none, none]) (ixs P.length) acc [some (.tuple (P.map eP)), some (sqD bq (Q.map PyData.int)), x2, some (.int q), some (.list acc), some (encI row), x6, x7, none, none, none]
    (fun ix hix acc ρ ha ⟨x6, x7, e⟩ => by
      subst e
      obtain ⟨y7, st⟩ := ix_step (bq := bq) hP hQ hl hq hrow hrl (ixs_mem.mp hix) acc (by omega) x2 x6 x7
      exact ⟨_, _, rfl, st, _, _, rfl⟩) (by unfold g2 at g2l; omega) ⟨x6, x7, rfl⟩
  subst e2
  refine ⟨y6, y7, ?_⟩
  have g := rg_ixs P.length (by omega)
  have ln : ((P.map eP).length : Int) = (P.length : Int) := by rw [List.length_map]
  unfold g2
  generalize ((ixs P.length).flatMap (g1 P Q q row)).map encI = NW at *
  generalize (ixs P.length).map PyData.int = IX at *
  generalize encI row = ER at *
  generalize sqD bq (Q.map PyData.int) = MQ at *
  generalize P.map eP = MP at *
  simp -implicitDefEqProofs only [l2_anchors_least, xVar_a, xC_a, xBin_a, xUn_a, tOf_a, tTru_a, tNotP_a, tAndP_a, tOrP_a, tyes_a, tno_a, tYesP_a, xNil_a, xCons_a, xTup_a, xLst_a, xAnd_a, xOr_a, xIf_a, xChain_a, oNo_a, oAt_a, xSl_a, xCall_a, xSeq_a, xIt_a, xLc_a, gSet_a, gTupD_a, gsNil_a, gsCons_a, sNop_a, sBrk_a, sCnt_a, sSeq_a, sRet_a, sIf_a, sSet_a, sTgt_a, sAug_a, sApp_a, sExt_a, sPut_a, sPutK_a, pkO_s, sFor_a, sWhile_a, sPar_a, runD_a, b2_s, c2_s, sqO_nx, sqO_rt, sqO_bk, sqO_ct, ifO_t, ifO_f, stO_s, endO_nx, endO_rt, andO_t, andO_f, orO_t, orO_f, chO_s, chP_t, chP_f, slO_s, atO_i, lcO_s, forO_s, gsO_s, nxO_s, tgO_s, paO_s, apO_s, exO_s, plO_s, ptO_s, dB_b, tru_b, tru_n, tru_i, tru_l, tru_t, is_n, isn_n, nn_n, nn_i, nn_b, nn_t, nn_l, add_ii, add'_ii, sub_ii, neg_i, lt_ii, le_ii, gt_ii, ge_ii, ix_l, ix_t, ix_s, at0, at1, at2, sl_l, sl_t, len_l, len_t, len_s, abs_i, int_i, int_b, max_ii, min_ii, tup_s, lst_s, seq_l, seq_t, sum_s, wipe_n, wipe_c, mul_ii, fdiv_ii, mod_ii, add_ll, add_tt, setAll, mkT, mkL, oNot, List.getD_cons_zero, List.getD_cons_succ, List.length_cons, List.length_nil, List.set_cons_zero, List.set_cons_succ, List.map_cons, List.map_nil, List.replicate, List.cons_append, List.nil_append, List.append_nil, Option.bind_some, Option.map_some, List.all_cons, List.all_nil, if_true, if_false, reduceIte, Nat.reduceAdd, Nat.reduceSub, Nat.reduceLT, Nat.reduceLeDiff, Nat.reduceEqDiff, decide_true, decide_false, Bool.and_true, Bool.and_self, Bool.true_and, Bool.not_true, Bool.not_false, ne_eq, not_true_eq_false, not_false_eq_true, Nat.zero_add, Bool.false_eq_true, and_self, true_and, and_true, ln, g, e1]
def grow (P : List Pt) (Q : List Int) (q : Int) (rows : List (List Int)) : List (List Int) := rows.flatMap (g2 P Q q)
theorem grow_len (hl : P.length ≤ 4) (q : Int) (rows : List (List Int)) : (grow P Q q rows).length ≤ rows.length * 4 := fl_len _ 4 rows fun row _ => by
  have := g2_len (P := P) (Q := Q) q row
  omega
theorem grow_ok {q : Int} {rows : List (List Int)} {k : Nat} (h : ∀ row ∈ rows, OkRow P row ∧ row.length = k) : ∀ row ∈ grow P Q q rows, OkRow P row ∧ row.length = k + 1 := fun row hr => by
  obtain ⟨r0, h0, hr⟩ := List.mem_flatMap.mp hr
  obtain ⟨ix, hix, hr⟩ := List.mem_flatMap.mp hr
  unfold g1 at hr
  split at hr
  · have : row = r0 ++ [ix] := by simpa using hr
    subst this
    refine ⟨fun x hx => ?_, by rw [List.length_append, (h r0 h0).2]; rfl⟩
    rcases List.mem_append.mp hx with hx | hx
    · exact (h r0 h0).1 x hx
    · have : x = ix := by simpa using hx
      subst this
      exact ixs_mem.mp hix
  · simp at hr
def rowsOf (P : List Pt) (Q : List Int) : List Int → List (List Int) → List (List Int)
  | [], rows => rows
  | q :: qs, rows => rowsOf P Q qs (grow P Q q rows)
theorem turn_step (hP : OkPs P) (hQ : OkQ Q) (hl : P.length ≤ 4) {q : Int} (hq : Sm 5 q) {rows : List (List Int)} {k : Nat} (hr : ∀ row ∈ rows, OkRow P row ∧ row.length = k) (hk : k ≤ 10) (hn : rows.length ≤ 300) (x4 x5 x6 x7 : Option D) :
    ∃ y4 y5 y6 y7, l3_anchors_least [some (.tuple (P.map eP)), some (sqD bq (Q.map PyData.int)), some (.list (rows.map encI)), some (.int q), x4, x5, x6, x7, none, none, none] =
      some (.nx [some (.tuple (P.map eP)), some (sqD bq (Q.map PyData.int)), some (.list ((grow P Q q rows).map encI)), some (.int q), y4, y5, y6, y7, none, none, none]) := by
  have gl := grow_len (P := P) (Q := Q) hl q rows
  obtain ⟨ρ', e1, y5, y6, y7, e2⟩ := forL_fl (g := gSet 5) (b := l2_anchors_least) (N := 1300) encI encI (g2 P Q q) (fun acc ρ => ∃ x5 x6 x7, ρ = [some (.tuple (P.map eP)), some (sqD bq (Q.map PyData.int)), some (.list (rows.map encI)), some (.int q), some (.list acc), x5, x6, x7, none, none, none]) rows [] [some (.tuple (P.map eP)), some (sqD bq (Q.map PyData.int)), some (.list (rows.map encI)), some (.int q), some (.list []), x5, x6, x7, none, none, none]
    (fun row hrow acc ρ ha ⟨x5, x6, x7, e⟩ => by
      subst e
      obtain ⟨y6, y7, st⟩ := row_step (bq := bq) hP hQ hl hq (hr row hrow).1 (by have := (hr row hrow).2; omega) acc (by omega) (some (.list (rows.map encI))) x6 x7
      exact ⟨_, _, rfl, st, _, _, _, rfl⟩) (by unfold grow at gl; simp only [List.length_nil]; omega) ⟨x5, x6, x7, rfl⟩
  subst e2
  simp only [List.nil_append] at e1
  refine ⟨some (.list ((grow P Q q rows).map encI)), y5, y6, y7, ?_⟩
  unfold grow
  generalize (rows.flatMap (g2 P Q q)).map encI = NW at *
  generalize rows.map encI = RW at *
  generalize sqD bq (Q.map PyData.int) = MQ at *
  generalize P.map eP = MP at *
  simp -implicitDefEqProofs only [l3_anchors_least, xVar_a, xC_a, xBin_a, xUn_a, tOf_a, tTru_a, tNotP_a, tAndP_a, tOrP_a, tyes_a, tno_a, tYesP_a, xNil_a, xCons_a, xTup_a, xLst_a, xAnd_a, xOr_a, xIf_a, xChain_a, oNo_a, oAt_a, xSl_a, xCall_a, xSeq_a, xIt_a, xLc_a, gSet_a, gTupD_a, gsNil_a, gsCons_a, sNop_a, sBrk_a, sCnt_a, sSeq_a, sRet_a, sIf_a, sSet_a, sTgt_a, sAug_a, sApp_a, sExt_a, sPut_a, sPutK_a, pkO_s, sFor_a, sWhile_a, sPar_a, runD_a, b2_s, c2_s, sqO_nx, sqO_rt, sqO_bk, sqO_ct, ifO_t, ifO_f, stO_s, endO_nx, endO_rt, andO_t, andO_f, orO_t, orO_f, chO_s, chP_t, chP_f, slO_s, atO_i, lcO_s, forO_s, gsO_s, nxO_s, tgO_s, paO_s, apO_s, exO_s, plO_s, ptO_s, dB_b, tru_b, tru_n, tru_i, tru_l, tru_t, is_n, isn_n, nn_n, nn_i, nn_b, nn_t, nn_l, add_ii, add'_ii, sub_ii, neg_i, lt_ii, le_ii, gt_ii, ge_ii, ix_l, ix_t, ix_s, at0, at1, at2, sl_l, sl_t, len_l, len_t, len_s, abs_i, int_i, int_b, max_ii, min_ii, tup_s, lst_s, seq_l, seq_t, sum_s, wipe_n, wipe_c, mul_ii, fdiv_ii, mod_ii, add_ll, add_tt, setAll, mkT, mkL, oNot, List.getD_cons_zero, List.getD_cons_succ, List.length_cons, List.length_nil, List.set_cons_zero, List.set_cons_succ, List.map_cons, List.map_nil, List.replicate, List.cons_append, List.nil_append, List.append_nil, Option.bind_some, Option.map_some, List.all_cons, List.all_nil, if_true, if_false, reduceIte, Nat.reduceAdd, Nat.reduceSub, Nat.reduceLT, Nat.reduceLeDiff, Nat.reduceEqDiff, decide_true, decide_false, Bool.and_true, Bool.and_self, Bool.true_and, Bool.not_true, Bool.not_false, ne_eq, not_true_eq_false, not_false_eq_true, Nat.zero_add, Bool.false_eq_true, and_self, true_and, and_true, e1]
theorem turns (hP : OkPs P) (hQ : OkQ Q) (hl : P.length ≤ 4) : ∀ (qs : List Int) (rows : List (List Int)) (k : Nat) (x3 x4 x5 x6 x7 : Option D), (∀ q ∈ qs, Sm 5 q) → (∀ row ∈ rows, OkRow P row ∧ row.length = k) → k + qs.length ≤ 3 → rows.length ≤ 4 ^ k →
    ∃ y3 y4 y5 y6 y7, forL (gSet 3) l3_anchors_least (qs.map PyData.int) [some (.tuple (P.map eP)), some (sqD bq (Q.map PyData.int)), some (.list (rows.map encI)), x3, x4, x5, x6, x7, none, none, none] =
      some (.nx [some (.tuple (P.map eP)), some (sqD bq (Q.map PyData.int)), some (.list ((rowsOf P Q qs rows).map encI)), y3, y4, y5, y6, y7, none, none, none])
  | [], rows, k, x3, x4, x5, x6, x7, _, _, _, _ => ⟨x3, x4, x5, x6, x7, rfl⟩
  | q :: qs, rows, k, x3, x4, x5, x6, x7, hq, hr, hk, hn => by
    rw [List.length_cons] at hk
    have h4 : 4 ^ k ≤ 4 ^ 2 := Nat.pow_le_pow_right (by omega) (by omega)
    obtain ⟨y4, y5, y6, y7, st⟩ := turn_step (bq := bq) hP hQ hl (hq q (by simp)) hr (by omega) (by omega) x4 x5 x6 x7
    have gl := grow_len (P := P) (Q := Q) hl q rows
    obtain ⟨z3, z4, z5, z6, z7, e⟩ := turns hP hQ hl qs (grow P Q q rows) (k + 1) (some (.int q)) y4 y5 y6 y7 (fun q' h => hq q' (List.mem_cons_of_mem _ h)) (grow_ok hr) (by omega) (by rw [Nat.pow_succ]; omega)
    refine ⟨z3, z4, z5, z6, z7, ?_⟩
    have hg : gSet 3 (.int q) [some (.tuple (P.map eP)), some (sqD bq (Q.map PyData.int)), some (.list (rows.map encI)), x3, x4, x5, x6, x7, none, none, none] = some [some (.tuple (P.map eP)), some (sqD bq (Q.map PyData.int)), some (.list (rows.map encI)), some (.int q), x4, x5, x6, x7, none, none, none] := rfl
    simp -implicitDefEqProofs only [List.map_cons, forL, hg, Option.bind_some, st]
    exact e
end
end K25

namespace K25
open PySem PySem.Spec PyProof.Rows L2 Pm
open PySem.W (Datum Tup)
def TUP (m : Nat) : Nat → List (List Int)
  | 0 => [[]]
  | k + 1 => (TUP m k).flatMap fun one => (ixs m).map fun j => one ++ [j]
theorem tup_len {m : Nat} : ∀ {k : Nat} {l : List Int}, l ∈ TUP m k → l.length = k ∧ ∀ x ∈ l, 0 ≤ x ∧ x < (m : Int)
  | 0, l, h => by
    have : l = [] := by simpa [TUP] using h
    subst this
    simp
  | k + 1, l, h => by
    obtain ⟨one, h1, h⟩ := List.mem_flatMap.mp h
    obtain ⟨j, hj, rfl⟩ := List.mem_map.mp h
    obtain ⟨a, b⟩ := tup_len h1
    refine ⟨by rw [List.length_append, a]; rfl, fun x hx => ?_⟩
    rcases List.mem_append.mp hx with hx | hx
    · exact b x hx
    · have : x = j := by simpa using hx
      subst this
      exact ixs_mem.mp hj
section
variable {P : List Pt} {Q : List Int} {bq : Bool}
def gd (P : List Pt) (Q : List Int) (spots : List Int) : Bool := (List.range spots.length).all fun a => fits P Q (Q.getD a 0) (spots.take a) (spots.getD a 0)
theorem all_congr {α : Type} {p q : α → Bool} : ∀ {l : List α}, (∀ x ∈ l, p x = q x) → l.all p = l.all q
  | [], _ => rfl
  | x :: l, h => by
    rw [List.all_cons, List.all_cons, h x (by simp), all_congr fun y hy => h y (List.mem_cons_of_mem _ hy)]
theorem gd_snoc (row : List Int) (ix : Int) : gd P Q (row ++ [ix]) = (gd P Q row && fits P Q (Q.getD row.length 0) row ix) := by
  unfold gd
  rw [List.length_append, show [ix].length = 1 from rfl, List.range_succ, List.all_append]
  congr 1
  · refine all_congr fun a ha => ?_
    have ha : a < row.length := by simpa using ha
    rw [List.take_append_of_le_length (by omega)]
    congr 1
    rw [List.getD_eq_getElem?_getD, List.getD_eq_getElem?_getD, List.getElem?_append_left ha]
  · rw [List.all_cons, List.all_nil, Bool.and_true, List.take_left]
    congr 1
    rw [List.getD_eq_getElem?_getD, List.getElem?_append_right (Nat.le_refl _), Nat.sub_self]
    rfl
theorem fl_of_filter {α β : Type} (p : α → Bool) (f : α → List β) : ∀ l : List α, (l.filter p).flatMap f = l.flatMap fun x => if p x then f x else []
  | [] => rfl
  | x :: l => by
    by_cases h : p x = true
    · rw [List.filter_cons_of_pos h, List.flatMap_cons, List.flatMap_cons, if_pos h, fl_of_filter p f l]
    · rw [List.filter_cons_of_neg h, List.flatMap_cons, if_neg h, fl_of_filter p f l]
      rfl
theorem filter_fl {α β : Type} (p : β → Bool) (f : α → List β) : ∀ l : List α, (l.flatMap f).filter p = l.flatMap fun x => (f x).filter p
  | [] => rfl
  | x :: l => by rw [List.flatMap_cons, List.flatMap_cons, List.filter_append, filter_fl p f l]
theorem grow_tup (k : Nat) : grow P Q (Q.getD k 0) ((TUP P.length k).filter (gd P Q)) = (TUP P.length (k + 1)).filter (gd P Q) := by
  unfold grow
  rw [fl_of_filter, TUP, filter_fl]
  refine fl_congr fun one h1 => ?_
  have hl := (tup_len h1).1
  have key : ∀ l : List Int, (l.map fun j => one ++ [j]).filter (gd P Q) = if gd P Q one then l.flatMap (g1 P Q (Q.getD k 0) one) else [] := fun l => by
    induction l with
    | nil => simp
    | cons x l ih =>
      rw [List.map_cons, List.filter_cons, gd_snoc, hl, ih]
      cases h : gd P Q one with
      | false => simp
      | true =>
        rw [List.flatMap_cons]
        unfold g1
        cases h2 : fits P Q (Q.getD k 0) one x <;> simp
  rw [key]
  rfl
theorem rows_tup : ∀ (qs : List Int) (k : Nat), Q.drop k = qs → rowsOf P Q qs ((TUP P.length k).filter (gd P Q)) = (TUP P.length (k + qs.length)).filter (gd P Q)
  | [], k, _ => rfl
  | q :: qs, k, h => by
    have hk : k < Q.length := by
      rcases Nat.lt_or_ge k Q.length with h' | h'
      · exact h'
      · rw [List.drop_eq_nil_of_le h'] at h
        cases h
    rw [List.drop_eq_getElem_cons hk] at h
    obtain ⟨h1, h2⟩ := List.cons.inj h
    have hq : q = Q.getD k 0 := by rw [List.getD_eq_getElem?_getD, List.getElem?_eq_getElem hk, Option.getD_some, h1]
    rw [rowsOf, hq, grow_tup, rows_tup qs (k + 1) h2, List.length_cons]
    congr 2
    omega
def resD : Option (List Int) → D
  | none => .none
  | some l => encI l
/-- the tuples are in order -/
theorem tup_sorted {k : Nat} (h : k ≤ 3) : ((TUP 4 k).map Tup.mk).Pairwise fun a b : Tup Int => Pm.lt' a b = true := by
  have : k = 0 ∨ k = 1 ∨ k = 2 ∨ k = 3 := by omega
  rcases this with rfl | rfl | rfl | rfl
  · decide +kernel
  · decide +kernel
  · decide +kernel
  · decide +kernel
theorem least_head {α : Type} [DecidableEq α] [PySem.W.DatumOrd α] [LinD α] {l : List α} (h : l.Pairwise fun a b => Pm.lt' a b = true) : least l = l.head? := by
  cases l with
  | nil => rfl
  | cons x xs =>
    rw [List.head?_cons, least_iff]
    refine ⟨by simp, fun y hy => ?_⟩
    rcases List.mem_cons.mp hy with rfl | hy
    · exact lt_irr _
    · have h1 := (List.pairwise_cons.mp h).1 y hy
      rcases LinD.asym x y with h2 | h2
      · rw [h2] at h1; cases h1
      · exact h2
theorem anchors_least_eq (hP : OkPs P) (hQ : OkQ Q) (hl : P.length = 4) (hq3 : Q.length ≤ 3) : d_anchors_least [.tuple (P.map eP), sqD bq (Q.map PyData.int)] = some (resD ((TUP 4 Q.length).find? (gd P Q))) := by
  obtain ⟨y3, y4, y5, y6, y7, e⟩ := turns (bq := bq) hP hQ (by omega) Q [[]] 0 none none none none none hQ (fun row h => by
    have : row = [] := by simpa using h
    subst this
    exact ⟨fun _ h => by simp at h, rfl⟩) (by omega) (by simp)
  have h0 : [[]] = (TUP P.length 0).filter (gd P Q) := rfl
  rw [h0, rows_tup Q 0 rfl, Nat.zero_add, hl] at e
  have mk := minK_map (α := Tup Int) (by decide) (x := .list (((TUP 4 Q.length).filter (gd P Q)).map encI)) (((TUP 4 Q.length).filter (gd P Q)).map Tup.mk) .none (by
    rw [List.map_map]
    rfl)
  have sr : (((TUP 4 Q.length).filter (gd P Q)).map Tup.mk).Pairwise fun a b : Tup Int => Pm.lt' a b = true := by
    have h := tup_sorted (k := Q.length) hq3
    rw [List.pairwise_map] at h ⊢
    exact h.filter _
  rw [least_head sr, List.head?_map, find_filter] at mk
  have er : ((((TUP 4 Q.length).find? (gd P Q)).map Tup.mk).elim .none Datum.toD : D) = resD ((TUP 4 Q.length).find? (gd P Q)) := by
    cases (TUP 4 Q.length).find? (gd P Q) <;> rfl
  rw [er] at mk
  have sq := seq_q bq (Q.map PyData.int)
  have e0 : List.map encI (List.filter (gd P Q) (TUP 4 0)) = [.tuple []] := rfl
  rw [hl] at *
  rw [e0] at e
  generalize resD ((TUP 4 Q.length).find? (gd P Q)) = RD at *
  generalize ((TUP 4 Q.length).filter (gd P Q)).map encI = TF at *
  generalize sqD bq (Q.map PyData.int) = MQ at *
  generalize Q.map PyData.int = QI at *
  generalize P.map eP = MP at *
  simp -implicitDefEqProofs only [d_anchors_least, g_anchors_least, xVar_a, xC_a, xBin_a, xUn_a, tOf_a, tTru_a, tNotP_a, tAndP_a, tOrP_a, tyes_a, tno_a, tYesP_a, xNil_a, xCons_a, xTup_a, xLst_a, xAnd_a, xOr_a, xIf_a, xChain_a, oNo_a, oAt_a, xSl_a, xCall_a, xSeq_a, xIt_a, xLc_a, gSet_a, gTupD_a, gsNil_a, gsCons_a, sNop_a, sBrk_a, sCnt_a, sSeq_a, sRet_a, sIf_a, sSet_a, sTgt_a, sAug_a, sApp_a, sExt_a, sPut_a, sPutK_a, pkO_s, sFor_a, sWhile_a, sPar_a, runD_a, b2_s, c2_s, sqO_nx, sqO_rt, sqO_bk, sqO_ct, ifO_t, ifO_f, stO_s, endO_nx, endO_rt, andO_t, andO_f, orO_t, orO_f, chO_s, chP_t, chP_f, slO_s, atO_i, lcO_s, forO_s, gsO_s, nxO_s, tgO_s, paO_s, apO_s, exO_s, plO_s, ptO_s, dB_b, tru_b, tru_n, tru_i, tru_l, tru_t, is_n, isn_n, nn_n, nn_i, nn_b, nn_t, nn_l, add_ii, add'_ii, sub_ii, neg_i, lt_ii, le_ii, gt_ii, ge_ii, ix_l, ix_t, ix_s, at0, at1, at2, sl_l, sl_t, len_l, len_t, len_s, abs_i, int_i, int_b, max_ii, min_ii, tup_s, lst_s, seq_l, seq_t, sum_s, wipe_n, wipe_c, mul_ii, fdiv_ii, mod_ii, add_ll, add_tt, setAll, mkT, mkL, oNot, List.getD_cons_zero, List.getD_cons_succ, List.length_cons, List.length_nil, List.set_cons_zero, List.set_cons_succ, List.map_cons, List.map_nil, List.replicate, List.cons_append, List.nil_append, List.append_nil, Option.bind_some, Option.map_some, List.all_cons, List.all_nil, if_true, if_false, reduceIte, Nat.reduceAdd, Nat.reduceSub, Nat.reduceLT, Nat.reduceLeDiff, Nat.reduceEqDiff, decide_true, decide_false, Bool.and_true, Bool.and_self, Bool.true_and, Bool.not_true, Bool.not_false, ne_eq, not_true_eq_false, not_false_eq_true, Nat.zero_add, Bool.false_eq_true, and_self, true_and, and_true, sq, e, xCallK_a, mk]
end
end K25

namespace K25
open PySem PySem.Spec PyProof.Rows L2 Pm
open PySem.W (Datum Tup)
def gQi (Q : List Int) (k : Int) : Int := Q.getD k.toNat 0
theorem at_Qi {Q : List Int} {k : Int} (h : 0 ≤ k ∧ k < Q.length) : atI (Q.map PyData.int) k = some (.int (gQi Q k)) := by
  obtain ⟨j, rfl⟩ := Int.eq_ofNat_of_zero_le h.1
  exact row_at Q j (by omega)
/-- each once -/
def once (l : List Int) : Bool := (List.range l.length).all fun a => !(l.take a).contains (l.getD a 0)
theorem risen_len (l : List Int) : (risen l).length = (dd l).length := by
  unfold risen
  exact List.length_mergeSort _
theorem once_tup {k : Nat} (h : k ≤ 3) : ∀ l ∈ TUP 4 k, decide ((dd l).length = l.length) = once l := by
  have : k = 0 ∨ k = 1 ∨ k = 2 ∨ k = 3 := by omega
  rcases this with rfl | rfl | rfl | rfl
  · decide +kernel
  · decide +kernel
  · decide +kernel
  · decide +kernel
section
variable {P : List Pt} {Q : List Int} {r : List Int}
/-- no two rounds of these spots meet -/
def apart (P : List Pt) (C : List Int) (l : List Int) (a b : Nat) : Bool := !mtI (gPi P (l.getD a 0)) (C.getD a 0) (gPi P (l.getD b 0)) (C.getD b 0)
theorem all_and {α : Type} (p q : α → Bool) : ∀ l : List α, (l.all fun x => p x && q x) = (l.all p && l.all q)
  | [] => rfl
  | x :: l => by
    rw [List.all_cons, List.all_cons, List.all_cons, all_and p q l]
    cases p x <;> cases q x <;> cases l.all p <;> simp
theorem zip_any {l C : List Int} (f : Int → Int → Bool) (hl : l.length ≤ C.length) : ∀ a, a ≤ l.length → (!(((l.take a).zip C).any fun p => f p.1 p.2)) = (List.range a).all fun b => !f (l.getD b 0) (C.getD b 0) := by
  intro a ha
  have e : (l.take a).zip C = (List.range a).map fun b => (l.getD b 0, C.getD b 0) := by
    apply List.ext_getElem?
    intro b
    by_cases hb : b < a
    · rw [List.getElem?_eq_getElem (by rw [List.length_zip, List.length_take]; omega), List.getElem_zip, List.getElem?_map, List.getElem?_range hb, Option.map_some]
      rw [List.getElem_take, List.getD_eq_getElem?_getD, List.getElem?_eq_getElem (by omega), List.getD_eq_getElem?_getD, List.getElem?_eq_getElem (by omega)]
      rfl
    · rw [List.getElem?_eq_none (by rw [List.length_zip, List.length_take]; omega), List.getElem?_eq_none (by simp; omega)]
  rw [e, List.any_map, List.not_any_eq_all_not]
  rfl
theorem gd_eq {C l : List Int} (hl : l.length = C.length) : gd P C l = (once l && (List.range l.length).all fun a => (List.range a).all (apart P C l a)) := by
  unfold gd fits once
  rw [all_and]
  congr 1
  refine all_congr fun a ha => ?_
  have ha : a < l.length := by simpa using ha
  exact zip_any (fun x y => mtI (gPi P (l.getD a 0)) (C.getD a 0) (gPi P x) y) (by omega) a (by omega)
theorem pair_step (hP : OkPs P) (hQ : OkQ Q) {c l : List Int} (hc : ∀ k ∈ c, 0 ≤ k ∧ k < (Q.length : Int)) (hl : l.length = c.length) (hlp : ∀ k ∈ l, 0 ≤ k ∧ k < (P.length : Int)) {a b : Nat} (ha : a < c.length) (hb : b < c.length) (t : Bool) (x7 : Option D) :
    l1__law_anchored [some (.tuple (P.map eP)), some (.tuple (Q.map PyData.int)), some (encI c), some (encI l), some (.bool t), some (.int (a : Nat)), some (.int (b : Nat)), x7] =
      some (.nx [some (.tuple (P.map eP)), some (.tuple (Q.map PyData.int)), some (encI c), some (encI l), some (.bool (t && apart P (c.map (gQi Q)) l a b)), some (.int (a : Nat)), some (.int (b : Nat)), some (.int (gQi Q (c.getD a 0) + gQi Q (c.getD b 0)))]) := by
  have ca : atI (c.map PyData.int) (a : Int) = some (.int (c.getD a 0)) := row_at c a ha
  have cb : atI (c.map PyData.int) (b : Int) = some (.int (c.getD b 0)) := row_at c b hb
  have la : atI (l.map PyData.int) (a : Int) = some (.int (l.getD a 0)) := row_at l a (by omega)
  have lb : atI (l.map PyData.int) (b : Int) = some (.int (l.getD b 0)) := row_at l b (by omega)
  have mem : ∀ (x : List Int) (i : Nat), i < x.length → x.getD i 0 ∈ x := fun x i h => by
    rw [List.getD_eq_getElem?_getD, List.getElem?_eq_getElem h, Option.getD_some]
    exact List.getElem_mem h
  have qa := at_Qi (hc _ (mem c a ha))
  have qb := at_Qi (hc _ (mem c b hb))
  have pa := at_Pi (hlp _ (mem l a (by omega)))
  have pb := at_Pi (hlp _ (mem l b (by omega)))
  have sq := law_square_eq (gP_ok hP (l.getD a 0).toNat) (gP_ok hP (l.getD b 0).toNat)
  rw [show gP P (l.getD a 0).toNat = gPi P (l.getD a 0) from rfl, show gP P (l.getD b 0).toNat = gPi P (l.getD b 0) from rfl] at sq
  have sbo := (gQ_ok hQ (c.getD a 0).toNat).add (gQ_ok hQ (c.getD b 0).toNat)
  have m1 := mok (sbo.mono (k := 100) (by omega)) (sbo.mono (k := 100) (by omega))
  rw [show gQ Q (c.getD a 0).toNat = gQi Q (c.getD a 0) from rfl, show gQ Q (c.getD b 0).toNat = gQi Q (c.getD b 0) from rfl] at m1
  have gm : ∀ i, i < c.length → (c.map (gQi Q)).getD i 0 = gQi Q (c.getD i 0) := fun i hi => by
    rw [List.getD_eq_getElem?_getD, List.getElem?_map, List.getElem?_eq_getElem hi, Option.map_some, Option.getD_some, List.getD_eq_getElem?_getD, List.getElem?_eq_getElem hi, Option.getD_some]
  have ap : apart P (c.map (gQi Q)) l a b = decide ((gQi Q (c.getD a 0) + gQi Q (c.getD b 0)) * (gQi Q (c.getD a 0) + gQi Q (c.getD b 0)) < sqI (gPi P (l.getD a 0)) (gPi P (l.getD b 0))) := by
    unfold apart mtI
    rw [gm a ha, gm b hb, ← decide_not]
    exact decide_eq_decide.mpr (by omega)
  rw [ap]
  unfold encI
  generalize eP (gPi P (l.getD a 0)) = E1 at *
  generalize eP (gPi P (l.getD b 0)) = E2 at *
  generalize sqI (gPi P (l.getD a 0)) (gPi P (l.getD b 0)) = SQ at *
  generalize gQi Q (c.getD a 0) = q1 at *
  generalize gQi Q (c.getD b 0) = q2 at *
  generalize c.getD a 0 = c1 at *
  generalize c.getD b 0 = c2 at *
  generalize l.getD a 0 = l1 at *
  generalize l.getD b 0 = l2 at *
  generalize c.map PyData.int = MC at *
  generalize l.map PyData.int = ML at *
  generalize P.map eP = MP at *
  generalize Q.map PyData.int = MQ at *
  cases t with
  | true => simp -implicitDefEqProofs only [l1__law_anchored, xVar_a, xC_a, xBin_a, xUn_a, tOf_a, tTru_a, tNotP_a, tAndP_a, tOrP_a, tyes_a, tno_a, tYesP_a, xNil_a, xCons_a, xTup_a, xLst_a, xAnd_a, xOr_a, xIf_a, xChain_a, oNo_a, oAt_a, xSl_a, xCall_a, xSeq_a, xIt_a, xLc_a, gSet_a, gTupD_a, gsNil_a, gsCons_a, sNop_a, sBrk_a, sCnt_a, sSeq_a, sRet_a, sIf_a, sSet_a, sTgt_a, sAug_a, sApp_a, sExt_a, sPut_a, sPutK_a, pkO_s, sFor_a, sWhile_a, sPar_a, runD_a, b2_s, c2_s, sqO_nx, sqO_rt, sqO_bk, sqO_ct, ifO_t, ifO_f, stO_s, endO_nx, endO_rt, andO_t, andO_f, orO_t, orO_f, chO_s, chP_t, chP_f, slO_s, atO_i, lcO_s, forO_s, gsO_s, nxO_s, tgO_s, paO_s, apO_s, exO_s, plO_s, ptO_s, dB_b, tru_b, tru_n, tru_i, tru_l, tru_t, is_n, isn_n, nn_n, nn_i, nn_b, nn_t, nn_l, add_ii, add'_ii, sub_ii, neg_i, lt_ii, le_ii, gt_ii, ge_ii, ix_l, ix_t, ix_s, at0, at1, at2, sl_l, sl_t, len_l, len_t, len_s, abs_i, int_i, int_b, max_ii, min_ii, tup_s, lst_s, seq_l, seq_t, sum_s, wipe_n, wipe_c, mul_ii, fdiv_ii, mod_ii, add_ll, add_tt, setAll, mkT, mkL, oNot, List.getD_cons_zero, List.getD_cons_succ, List.length_cons, List.length_nil, List.set_cons_zero, List.set_cons_succ, List.map_cons, List.map_nil, List.replicate, List.cons_append, List.nil_append, List.append_nil, Option.bind_some, Option.map_some, List.all_cons, List.all_nil, if_true, if_false, reduceIte, Nat.reduceAdd, Nat.reduceSub, Nat.reduceLT, Nat.reduceLeDiff, Nat.reduceEqDiff, decide_true, decide_false, Bool.and_true, Bool.and_self, Bool.true_and, Bool.not_true, Bool.not_false, ne_eq, not_true_eq_false, not_false_eq_true, Nat.zero_add, Bool.false_eq_true, and_self, true_and, and_true, ca, cb, la, lb, qa, qb, pa, pb, sq, m1]
  | false => simp -implicitDefEqProofs only [l1__law_anchored, xVar_a, xC_a, xBin_a, xUn_a, tOf_a, tTru_a, tNotP_a, tAndP_a, tOrP_a, tyes_a, tno_a, tYesP_a, xNil_a, xCons_a, xTup_a, xLst_a, xAnd_a, xOr_a, xIf_a, xChain_a, oNo_a, oAt_a, xSl_a, xCall_a, xSeq_a, xIt_a, xLc_a, gSet_a, gTupD_a, gsNil_a, gsCons_a, sNop_a, sBrk_a, sCnt_a, sSeq_a, sRet_a, sIf_a, sSet_a, sTgt_a, sAug_a, sApp_a, sExt_a, sPut_a, sPutK_a, pkO_s, sFor_a, sWhile_a, sPar_a, runD_a, b2_s, c2_s, sqO_nx, sqO_rt, sqO_bk, sqO_ct, ifO_t, ifO_f, stO_s, endO_nx, endO_rt, andO_t, andO_f, orO_t, orO_f, chO_s, chP_t, chP_f, slO_s, atO_i, lcO_s, forO_s, gsO_s, nxO_s, tgO_s, paO_s, apO_s, exO_s, plO_s, ptO_s, dB_b, tru_b, tru_n, tru_i, tru_l, tru_t, is_n, isn_n, nn_n, nn_i, nn_b, nn_t, nn_l, add_ii, add'_ii, sub_ii, neg_i, lt_ii, le_ii, gt_ii, ge_ii, ix_l, ix_t, ix_s, at0, at1, at2, sl_l, sl_t, len_l, len_t, len_s, abs_i, int_i, int_b, max_ii, min_ii, tup_s, lst_s, seq_l, seq_t, sum_s, wipe_n, wipe_c, mul_ii, fdiv_ii, mod_ii, add_ll, add_tt, setAll, mkT, mkL, oNot, List.getD_cons_zero, List.getD_cons_succ, List.length_cons, List.length_nil, List.set_cons_zero, List.set_cons_succ, List.map_cons, List.map_nil, List.replicate, List.cons_append, List.nil_append, List.append_nil, Option.bind_some, Option.map_some, List.all_cons, List.all_nil, if_true, if_false, reduceIte, Nat.reduceAdd, Nat.reduceSub, Nat.reduceLT, Nat.reduceLeDiff, Nat.reduceEqDiff, decide_true, decide_false, Bool.and_true, Bool.and_self, Bool.true_and, Bool.not_true, Bool.not_false, ne_eq, not_true_eq_false, not_false_eq_true, Nat.zero_add, Bool.false_eq_true, and_self, true_and, and_true, ca, cb, la, lb, qa, qb, pa, pb, sq, m1, Bool.false_and]
theorem inner_loop (hP : OkPs P) (hQ : OkQ Q) {c l : List Int} (hc : ∀ k ∈ c, 0 ≤ k ∧ k < (Q.length : Int)) (hl : l.length = c.length) (hlp : ∀ k ∈ l, 0 ≤ k ∧ k < (P.length : Int)) {a : Nat} (ha : a < c.length) (t : Bool) (x6 x7 : Option D) :
    ∃ y6 y7, forL (gSet 6) l1__law_anchored ((List.range a).map fun k : Nat => PyData.int (k : Nat)) [some (.tuple (P.map eP)), some (.tuple (Q.map PyData.int)), some (encI c), some (encI l), some (.bool t), some (.int (a : Nat)), x6, x7] =
      some (.nx [some (.tuple (P.map eP)), some (.tuple (Q.map PyData.int)), some (encI c), some (encI l), some (.bool (t && (List.range a).all (apart P (c.map (gQi Q)) l a))), some (.int (a : Nat)), y6, y7]) := by
  obtain ⟨ρ', e, h⟩ := forL_inv (g := gSet 6) (b := l1__law_anchored) (fun i : Nat => PyData.int (i : Nat))
    (fun pre rest ρ => pre ++ rest = List.range a ∧ ∃ x6 x7, ρ = [some (.tuple (P.map eP)), some (.tuple (Q.map PyData.int)), some (encI c), some (encI l), some (.bool (t && pre.all (apart P (c.map (gQi Q)) l a))), some (.int (a : Nat)), x6, x7])
    (fun pre b rest ρ ⟨hp, x6, x7, e⟩ => by
      subst e
      have hb : b ∈ List.range a := by rw [← hp]; simp
      have hb : b < a := by simpa using hb
      have st := pair_step hP hQ hc hl hlp ha (show b < c.length by omega) (t && pre.all (apart P (c.map (gQi Q)) l a)) x7
      refine ⟨_, _, rfl, .inl st, by rw [List.append_assoc]; exact hp, ?_⟩
      rw [List.all_append, List.all_cons, List.all_nil, Bool.and_true, ← Bool.and_assoc]
      exact ⟨_, _, rfl⟩) (List.range a) [] [some (.tuple (P.map eP)), some (.tuple (Q.map PyData.int)), some (encI c), some (encI l), some (.bool t), some (.int (a : Nat)), x6, x7] ⟨rfl, x6, x7, by rw [List.all_nil, Bool.and_true]⟩
  obtain ⟨_, y6, y7, e'⟩ := h
  subst e'
  exact ⟨_, _, e⟩
theorem outer_loop (hP : OkPs P) (hQ : OkQ Q) {c l : List Int} (hc : ∀ k ∈ c, 0 ≤ k ∧ k < (Q.length : Int)) (hc3 : c.length ≤ 3) (hl : l.length = c.length) (hlp : ∀ k ∈ l, 0 ≤ k ∧ k < (P.length : Int)) (t : Bool) (x5 x6 x7 : Option D) :
    ∃ y5 y6 y7, forL (gSet 5) l2__law_anchored ((List.range l.length).map fun k : Nat => PyData.int (k : Nat)) [some (.tuple (P.map eP)), some (.tuple (Q.map PyData.int)), some (encI c), some (encI l), some (.bool t), x5, x6, x7] =
      some (.nx [some (.tuple (P.map eP)), some (.tuple (Q.map PyData.int)), some (encI c), some (encI l), some (.bool (t && (List.range l.length).all fun a => (List.range a).all (apart P (c.map (gQi Q)) l a))), y5, y6, y7]) := by
  obtain ⟨ρ', e, h⟩ := forL_inv (g := gSet 5) (b := l2__law_anchored) (fun i : Nat => PyData.int (i : Nat))
    (fun pre rest ρ => pre ++ rest = List.range l.length ∧ ∃ x5 x6 x7, ρ = [some (.tuple (P.map eP)), some (.tuple (Q.map PyData.int)), some (encI c), some (encI l), some (.bool (t && pre.all fun a => (List.range a).all (apart P (c.map (gQi Q)) l a))), x5, x6, x7])
    (fun pre a rest ρ ⟨hp, x5, x6, x7, e⟩ => by
      subst e
      have ha : a ∈ List.range l.length := by rw [← hp]; simp
      have ha : a < l.length := by simpa using ha
      obtain ⟨y6, y7, lp⟩ := inner_loop hP hQ hc hl hlp (show a < c.length by omega) (t && pre.all fun a => (List.range a).all (apart P (c.map (gQi Q)) l a)) x6 x7
      have g := rg0 a (by omega)
      refine ⟨[some (.tuple (P.map eP)), some (.tuple (Q.map PyData.int)), some (encI c), some (encI l), some (.bool (t && pre.all fun a => (List.range a).all (apart P (c.map (gQi Q)) l a))), some (.int (a : Nat)), x6, x7], [some (.tuple (P.map eP)), some (.tuple (Q.map PyData.int)), some (encI c), some (encI l), some (.bool ((t && pre.all fun a => (List.range a).all (apart P (c.map (gQi Q)) l a)) && (List.range a).all (apart P (c.map (gQi Q)) l a))), some (.int (a : Nat)), y6, y7], rfl, .inl ?_, by rw [List.append_assoc]; exact hp, ?_⟩
      · generalize (t && pre.all fun a => (List.range a).all (apart P (c.map (gQi Q)) l a)) = T1 at *
        generalize (T1 && (List.range a).all (apart P (c.map (gQi Q)) l a)) = T2 at *
        generalize (List.range a).map (fun k : Nat => PyData.int (k : Nat)) = RA at *
        generalize encI c = EC at *
        generalize encI l = EL at *
        generalize P.map eP = MP at *
        generalize Q.map PyData.int = MQ at *
        simp -implicitDefEqProofs only [l2__law_anchored, xVar_a, xC_a, xBin_a, xUn_a, tOf_a, tTru_a, tNotP_a, tAndP_a, tOrP_a, tyes_a, tno_a, tYesP_a, xNil_a, xCons_a, xTup_a, xLst_a, xAnd_a, xOr_a, xIf_a, xChain_a, oNo_a, oAt_a, xSl_a, xCall_a, xSeq_a, xIt_a, xLc_a, gSet_a, gTupD_a, gsNil_a, gsCons_a, sNop_a, sBrk_a, sCnt_a, sSeq_a, sRet_a, sIf_a, sSet_a, sTgt_a, sAug_a, sApp_a, sExt_a, sPut_a, sPutK_a, pkO_s, sFor_a, sWhile_a, sPar_a, runD_a, b2_s, c2_s, sqO_nx, sqO_rt, sqO_bk, sqO_ct, ifO_t, ifO_f, stO_s, endO_nx, endO_rt, andO_t, andO_f, orO_t, orO_f, chO_s, chP_t, chP_f, slO_s, atO_i, lcO_s, forO_s, gsO_s, nxO_s, tgO_s, paO_s, apO_s, exO_s, plO_s, ptO_s, dB_b, tru_b, tru_n, tru_i, tru_l, tru_t, is_n, isn_n, nn_n, nn_i, nn_b, nn_t, nn_l, add_ii, add'_ii, sub_ii, neg_i, lt_ii, le_ii, gt_ii, ge_ii, ix_l, ix_t, ix_s, at0, at1, at2, sl_l, sl_t, len_l, len_t, len_s, abs_i, int_i, int_b, max_ii, min_ii, tup_s, lst_s, seq_l, seq_t, sum_s, wipe_n, wipe_c, mul_ii, fdiv_ii, mod_ii, add_ll, add_tt, setAll, mkT, mkL, oNot, List.getD_cons_zero, List.getD_cons_succ, List.length_cons, List.length_nil, List.set_cons_zero, List.set_cons_succ, List.map_cons, List.map_nil, List.replicate, List.cons_append, List.nil_append, List.append_nil, Option.bind_some, Option.map_some, List.all_cons, List.all_nil, if_true, if_false, reduceIte, Nat.reduceAdd, Nat.reduceSub, Nat.reduceLT, Nat.reduceLeDiff, Nat.reduceEqDiff, decide_true, decide_false, Bool.and_true, Bool.and_self, Bool.true_and, Bool.not_true, Bool.not_false, ne_eq, not_true_eq_false, not_false_eq_true, Nat.zero_add, Bool.false_eq_true, and_self, true_and, and_true, g, lp]
      · rw [List.all_append, List.all_cons, List.all_nil, Bool.and_true, ← Bool.and_assoc]
        exact ⟨_, _, _, rfl⟩) (List.range l.length) [] [some (.tuple (P.map eP)), some (.tuple (Q.map PyData.int)), some (encI c), some (encI l), some (.bool t), x5, x6, x7] ⟨rfl, x5, x6, x7, by rw [List.all_nil, Bool.and_true]⟩
  obtain ⟨_, y5, y6, y7, e'⟩ := h
  subst e'
  exact ⟨_, _, _, e⟩
theorem tup_a {k : Nat} (h : k ≤ 3) : d__law_tuples [.int (k : Nat), .int 4] = some (.list ((TUP 4 k).map encI)) := by
  have : k = 0 ∨ k = 1 ∨ k = 2 ∨ k = 3 := by omega
  rcases this with rfl | rfl | rfl | rfl
  · kernel_rfl
  · kernel_rfl
  · kernel_rfl
  · kernel_rfl
theorem law_anchored_eq (hP : OkPs P) (hQ : OkQ Q) (hl4 : P.length = 4) {c : List Int} (hc : ∀ k ∈ c, 0 ≤ k ∧ k < (Q.length : Int)) (hc3 : c.length ≤ 3) : d__law_anchored [.tuple (P.map eP), .tuple (Q.map PyData.int), encI c] = some (resD ((TUP 4 c.length).find? (gd P (c.map (gQi Q))))) := by
  have tp := tup_a hc3
  have lnP : ((P.map eP).length : Int) = 4 := by rw [List.length_map, hl4]; rfl
  have lnC : bLen [encI c] = some (.int (c.length : Nat)) := by
    show some (PyData.int ((c.map PyData.int).length : Nat)) = _
    rw [List.length_map]
  have := forL_find (g := gSet 3) (b := l3__law_anchored) encI (gd P (c.map (gQi Q))) (fun ρ => ∃ x3 x4 x5 x6 x7, ρ = [some (.tuple (P.map eP)), some (.tuple (Q.map PyData.int)), some (encI c), x3, x4, x5, x6, x7]) encI (TUP 4 c.length) (fun l hl ρ ⟨x3, x4, x5, x6, x7, e⟩ => by
    subst e
    obtain ⟨ll, lm⟩ := tup_len hl
    have lnL : bLen [encI l] = some (.int (l.length : Nat)) := by
      show some (PyData.int ((l.map PyData.int).length : Nat)) = _
      rw [List.length_map]
    have ss : bSrtSet [encI l] = some (.list ((risen l).map PyData.int)) := by
      show ((asInts (l.map PyData.int)).bind fun ns => if ns.length < 64 then some (PyData.list ((risen ns).map PyData.int)) else none) = _
      rw [asInts_map, Option.bind_some, if_pos (by omega)]
    have lnR : (((risen l).map PyData.int).length : Int) = ((dd l).length : Int) := by rw [List.length_map, risen_len]
    have dec : decide (((dd l).length : Int) = ((l.length : Nat) : Int)) = once l := by
      rw [← once_tup hc3 l hl]
      exact decide_eq_decide.mpr (by omega)
    have g := rg0 l.length (by omega)
    obtain ⟨y5, y6, y7, lp⟩ := outer_loop hP hQ hc hc3 ll (fun k hk => by have := lm k hk; rw [hl4]; exact this) (once l) x5 x6 x7
    have ge := gd_eq (P := P) (C := c.map (gQi Q)) (l := l) (by rw [List.length_map]; exact ll)
    rw [← ge] at lp
    refine ⟨_, rfl, fun hp => ?_, fun hp => ⟨[some (.tuple (P.map eP)), some (.tuple (Q.map PyData.int)), some (encI c), some (encI l), some (.bool false), y5, y6, y7], ?_, _, _, _, _, _, rfl⟩⟩
    · rw [hp] at lp
      generalize (List.range l.length).map (fun k : Nat => PyData.int (k : Nat)) = RL at *
      generalize (risen l).map PyData.int = RS at *
      generalize encI c = EC at *
      generalize encI l = EL at *
      generalize P.map eP = MP at *
      generalize Q.map PyData.int = MQ at *
      simp -implicitDefEqProofs only [l3__law_anchored, xVar_a, xC_a, xBin_a, xUn_a, tOf_a, tTru_a, tNotP_a, tAndP_a, tOrP_a, tyes_a, tno_a, tYesP_a, xNil_a, xCons_a, xTup_a, xLst_a, xAnd_a, xOr_a, xIf_a, xChain_a, oNo_a, oAt_a, xSl_a, xCall_a, xSeq_a, xIt_a, xLc_a, gSet_a, gTupD_a, gsNil_a, gsCons_a, sNop_a, sBrk_a, sCnt_a, sSeq_a, sRet_a, sIf_a, sSet_a, sTgt_a, sAug_a, sApp_a, sExt_a, sPut_a, sPutK_a, pkO_s, sFor_a, sWhile_a, sPar_a, runD_a, b2_s, c2_s, sqO_nx, sqO_rt, sqO_bk, sqO_ct, ifO_t, ifO_f, stO_s, endO_nx, endO_rt, andO_t, andO_f, orO_t, orO_f, chO_s, chP_t, chP_f, slO_s, atO_i, lcO_s, forO_s, gsO_s, nxO_s, tgO_s, paO_s, apO_s, exO_s, plO_s, ptO_s, dB_b, tru_b, tru_n, tru_i, tru_l, tru_t, is_n, isn_n, nn_n, nn_i, nn_b, nn_t, nn_l, add_ii, add'_ii, sub_ii, neg_i, lt_ii, le_ii, gt_ii, ge_ii, ix_l, ix_t, ix_s, at0, at1, at2, sl_l, sl_t, len_l, len_t, len_s, abs_i, int_i, int_b, max_ii, min_ii, tup_s, lst_s, seq_l, seq_t, sum_s, wipe_n, wipe_c, mul_ii, fdiv_ii, mod_ii, add_ll, add_tt, setAll, mkT, mkL, oNot, List.getD_cons_zero, List.getD_cons_succ, List.length_cons, List.length_nil, List.set_cons_zero, List.set_cons_succ, List.map_cons, List.map_nil, List.replicate, List.cons_append, List.nil_append, List.append_nil, Option.bind_some, Option.map_some, List.all_cons, List.all_nil, if_true, if_false, reduceIte, Nat.reduceAdd, Nat.reduceSub, Nat.reduceLT, Nat.reduceLeDiff, Nat.reduceEqDiff, decide_true, decide_false, Bool.and_true, Bool.and_self, Bool.true_and, Bool.not_true, Bool.not_false, ne_eq, not_true_eq_false, not_false_eq_true, Nat.zero_add, Bool.false_eq_true, and_self, true_and, and_true, ss, lnR, lnL, eq_int, dec, g, lp]
    · rw [hp] at lp
      generalize (List.range l.length).map (fun k : Nat => PyData.int (k : Nat)) = RL at *
      generalize (risen l).map PyData.int = RS at *
      generalize encI c = EC at *
      generalize encI l = EL at *
      generalize P.map eP = MP at *
      generalize Q.map PyData.int = MQ at *
      simp -implicitDefEqProofs only [l3__law_anchored, xVar_a, xC_a, xBin_a, xUn_a, tOf_a, tTru_a, tNotP_a, tAndP_a, tOrP_a, tyes_a, tno_a, tYesP_a, xNil_a, xCons_a, xTup_a, xLst_a, xAnd_a, xOr_a, xIf_a, xChain_a, oNo_a, oAt_a, xSl_a, xCall_a, xSeq_a, xIt_a, xLc_a, gSet_a, gTupD_a, gsNil_a, gsCons_a, sNop_a, sBrk_a, sCnt_a, sSeq_a, sRet_a, sIf_a, sSet_a, sTgt_a, sAug_a, sApp_a, sExt_a, sPut_a, sPutK_a, pkO_s, sFor_a, sWhile_a, sPar_a, runD_a, b2_s, c2_s, sqO_nx, sqO_rt, sqO_bk, sqO_ct, ifO_t, ifO_f, stO_s, endO_nx, endO_rt, andO_t, andO_f, orO_t, orO_f, chO_s, chP_t, chP_f, slO_s, atO_i, lcO_s, forO_s, gsO_s, nxO_s, tgO_s, paO_s, apO_s, exO_s, plO_s, ptO_s, dB_b, tru_b, tru_n, tru_i, tru_l, tru_t, is_n, isn_n, nn_n, nn_i, nn_b, nn_t, nn_l, add_ii, add'_ii, sub_ii, neg_i, lt_ii, le_ii, gt_ii, ge_ii, ix_l, ix_t, ix_s, at0, at1, at2, sl_l, sl_t, len_l, len_t, len_s, abs_i, int_i, int_b, max_ii, min_ii, tup_s, lst_s, seq_l, seq_t, sum_s, wipe_n, wipe_c, mul_ii, fdiv_ii, mod_ii, add_ll, add_tt, setAll, mkT, mkL, oNot, List.getD_cons_zero, List.getD_cons_succ, List.length_cons, List.length_nil, List.set_cons_zero, List.set_cons_succ, List.map_cons, List.map_nil, List.replicate, List.cons_append, List.nil_append, List.append_nil, Option.bind_some, Option.map_some, List.all_cons, List.all_nil, if_true, if_false, reduceIte, Nat.reduceAdd, Nat.reduceSub, Nat.reduceLT, Nat.reduceLeDiff, Nat.reduceEqDiff, decide_true, decide_false, Bool.and_true, Bool.and_self, Bool.true_and, Bool.not_true, Bool.not_false, ne_eq, not_true_eq_false, not_false_eq_true, Nat.zero_add, Bool.false_eq_true, and_self, true_and, and_true, ss, lnR, lnL, eq_int, dec, g, lp]) [some (.tuple (P.map eP)), some (.tuple (Q.map PyData.int)), some (encI c), none, none, none, none, none] ⟨_, _, _, _, _, rfl⟩
  rcases this with ⟨x, e1, e2⟩ | ⟨e1, ρ', e2, x3, x4, x5, x6, x7, e3⟩
  · rw [e1]
    show _ = some (encI x)
    generalize (TUP 4 c.length).map encI = TT at *
    generalize encI x = EX at *
    generalize encI c = EC at *
    generalize P.map eP = MP at *
    generalize Q.map PyData.int = MQ at *
    simp -implicitDefEqProofs only [d__law_anchored, g__law_anchored, xVar_a, xC_a, xBin_a, xUn_a, tOf_a, tTru_a, tNotP_a, tAndP_a, tOrP_a, tyes_a, tno_a, tYesP_a, xNil_a, xCons_a, xTup_a, xLst_a, xAnd_a, xOr_a, xIf_a, xChain_a, oNo_a, oAt_a, xSl_a, xCall_a, xSeq_a, xIt_a, xLc_a, gSet_a, gTupD_a, gsNil_a, gsCons_a, sNop_a, sBrk_a, sCnt_a, sSeq_a, sRet_a, sIf_a, sSet_a, sTgt_a, sAug_a, sApp_a, sExt_a, sPut_a, sPutK_a, pkO_s, sFor_a, sWhile_a, sPar_a, runD_a, b2_s, c2_s, sqO_nx, sqO_rt, sqO_bk, sqO_ct, ifO_t, ifO_f, stO_s, endO_nx, endO_rt, andO_t, andO_f, orO_t, orO_f, chO_s, chP_t, chP_f, slO_s, atO_i, lcO_s, forO_s, gsO_s, nxO_s, tgO_s, paO_s, apO_s, exO_s, plO_s, ptO_s, dB_b, tru_b, tru_n, tru_i, tru_l, tru_t, is_n, isn_n, nn_n, nn_i, nn_b, nn_t, nn_l, add_ii, add'_ii, sub_ii, neg_i, lt_ii, le_ii, gt_ii, ge_ii, ix_l, ix_t, ix_s, at0, at1, at2, sl_l, sl_t, len_l, len_t, len_s, abs_i, int_i, int_b, max_ii, min_ii, tup_s, lst_s, seq_l, seq_t, sum_s, wipe_n, wipe_c, mul_ii, fdiv_ii, mod_ii, add_ll, add_tt, setAll, mkT, mkL, oNot, List.getD_cons_zero, List.getD_cons_succ, List.length_cons, List.length_nil, List.set_cons_zero, List.set_cons_succ, List.map_cons, List.map_nil, List.replicate, List.cons_append, List.nil_append, List.append_nil, Option.bind_some, Option.map_some, List.all_cons, List.all_nil, if_true, if_false, reduceIte, Nat.reduceAdd, Nat.reduceSub, Nat.reduceLT, Nat.reduceLeDiff, Nat.reduceEqDiff, decide_true, decide_false, Bool.and_true, Bool.and_self, Bool.true_and, Bool.not_true, Bool.not_false, ne_eq, not_true_eq_false, not_false_eq_true, Nat.zero_add, Bool.false_eq_true, and_self, true_and, and_true, lnC, lnP, tp, e2]
  · subst e3
    rw [e1]
    show _ = some PyData.none
    generalize (TUP 4 c.length).map encI = TT at *
    generalize encI c = EC at *
    generalize P.map eP = MP at *
    generalize Q.map PyData.int = MQ at *
    simp -implicitDefEqProofs only [d__law_anchored, g__law_anchored, xVar_a, xC_a, xBin_a, xUn_a, tOf_a, tTru_a, tNotP_a, tAndP_a, tOrP_a, tyes_a, tno_a, tYesP_a, xNil_a, xCons_a, xTup_a, xLst_a, xAnd_a, xOr_a, xIf_a, xChain_a, oNo_a, oAt_a, xSl_a, xCall_a, xSeq_a, xIt_a, xLc_a, gSet_a, gTupD_a, gsNil_a, gsCons_a, sNop_a, sBrk_a, sCnt_a, sSeq_a, sRet_a, sIf_a, sSet_a, sTgt_a, sAug_a, sApp_a, sExt_a, sPut_a, sPutK_a, pkO_s, sFor_a, sWhile_a, sPar_a, runD_a, b2_s, c2_s, sqO_nx, sqO_rt, sqO_bk, sqO_ct, ifO_t, ifO_f, stO_s, endO_nx, endO_rt, andO_t, andO_f, orO_t, orO_f, chO_s, chP_t, chP_f, slO_s, atO_i, lcO_s, forO_s, gsO_s, nxO_s, tgO_s, paO_s, apO_s, exO_s, plO_s, ptO_s, dB_b, tru_b, tru_n, tru_i, tru_l, tru_t, is_n, isn_n, nn_n, nn_i, nn_b, nn_t, nn_l, add_ii, add'_ii, sub_ii, neg_i, lt_ii, le_ii, gt_ii, ge_ii, ix_l, ix_t, ix_s, at0, at1, at2, sl_l, sl_t, len_l, len_t, len_s, abs_i, int_i, int_b, max_ii, min_ii, tup_s, lst_s, seq_l, seq_t, sum_s, wipe_n, wipe_c, mul_ii, fdiv_ii, mod_ii, add_ll, add_tt, setAll, mkT, mkL, oNot, List.getD_cons_zero, List.getD_cons_succ, List.length_cons, List.length_nil, List.set_cons_zero, List.set_cons_succ, List.map_cons, List.map_nil, List.replicate, List.cons_append, List.nil_append, List.append_nil, Option.bind_some, Option.map_some, List.all_cons, List.all_nil, if_true, if_false, reduceIte, Nat.reduceAdd, Nat.reduceSub, Nat.reduceLT, Nat.reduceLeDiff, Nat.reduceEqDiff, decide_true, decide_false, Bool.and_true, Bool.and_self, Bool.true_and, Bool.not_true, Bool.not_false, ne_eq, not_true_eq_false, not_false_eq_true, Nat.zero_add, Bool.false_eq_true, and_self, true_and, and_true, lnC, lnP, tp, e2]
end
end K25

namespace K25
open PySem PySem.Spec PyProof.Rows L2 Pm
open PySem.W (Datum Tup)
def LS : Nat → List (List Int)
  | 2 => [[], [0], [0, 1], [1]]
  | 3 => [[], [0], [0, 1], [0, 1, 2], [0, 2], [1], [1, 2], [2]]
  | _ => []
theorem as2 : d_all_sets [.int 2] = some (.list ((LS 2).map encI)) := by kernel_rfl
theorem as3 : d_all_sets [.int 3] = some (.list ((LS 3).map encI)) := by kernel_rfl
theorem perm_sorted {α : Type} [DecidableEq α] [PySem.W.DatumOrd α] [LinD α] : ∀ {a b : List α}, a.Perm b → a.Pairwise (fun x y => Pm.lt' y x = false) → b.Pairwise (fun x y => Pm.lt' y x = false) → a = b
  | [], b, h, _, _ => (List.Perm.nil_eq h)
  | x :: xs, [], h, _, _ => absurd h.length_eq (by simp)
  | x :: xs, y :: ys, h, h1, h2 => by
    obtain ⟨a1, a2⟩ := List.pairwise_cons.mp h1
    obtain ⟨b1, b2⟩ := List.pairwise_cons.mp h2
    have e : x = y := by
      have m1 : x ∈ y :: ys := h.mem_iff.mp (by simp)
      have m2 : y ∈ x :: xs := h.mem_iff.mpr (by simp)
      rcases List.mem_cons.mp m1 with e | m1
      · exact e
      · rcases List.mem_cons.mp m2 with e | m2
        · exact e.symm
        · exact LinD.tri _ _ (b1 x m1) (a1 y m2)
    subst e
    rw [perm_sorted ((List.perm_cons x).mp h) a2 b2]
theorem sortedE_tup (l l' : List (List Int)) (hp : l'.Perm l) (hs : (l'.map Tup.mk).Pairwise fun x y : Tup Int => Pm.lt' y x = false) (h0 : l.head? = some []) (hl : l.length ≤ 1000) : bSortedE [.list (l.map encI)] = some (.list (l'.map encI)) := by
  have em : l.map encI = (l.map Tup.mk).map Datum.toD := by rw [List.map_map]; rfl
  have em' : l'.map encI = (l'.map Tup.mk).map Datum.toD := by rw [List.map_map]; rfl
  have ok : okSortE (l.map encI) = true := by
    have hA := PySem.W.alikeAll_datum (l.map Tup.mk)
    rw [← em] at hA
    unfold okSortE
    rw [Bool.and_eq_true, Bool.and_eq_true, Bool.and_eq_true, Bool.and_eq_true]
    refine ⟨⟨⟨?_, ?_⟩, ?_⟩, ?_, ?_⟩
    · rw [List.all_eq_true]
      exact fun x hx => List.all_eq_true.mpr fun y hy => hA.1 x hx y hy
    · rw [List.all_eq_true]
      intro x hx
      obtain ⟨a, _, rfl⟩ := List.mem_map.mp hx
      have h1 := Datum.depth_le (Tup.mk a)
      have h2 : Datum.depth (Tup Int) ≤ 20 := by decide
      have e : encI a = Datum.toD (Tup.mk a) := rfl
      rw [Bool.and_eq_true, decide_eq_true_eq, e]
      refine ⟨?_, by omega⟩
      unfold shp SeqAt.shaped
      rw [LinD.lay (Tup.mk a), Bool.true_and]
      exact decide_eq_true (by omega)
    · rw [List.length_map]
      exact decide_eq_true (by omega)
    · rw [List.head?_map, h0]
      rfl
    · rw [List.all_map, List.all_eq_true]
      exact fun x _ => rfl
  show ((seqD (.list (l.map encI))).bind fun ds => if okSortE ds then some (PyData.list (ds.mergeSort (PySem.W.dataLe false id))) else none) = _
  rw [seq_l, Option.bind_some, if_pos ok, em, ← PySem.W.sort_maps (r := leB) (s := PySem.W.dataLe false id) (Datum.toD : Tup Int → D) (fun a _ b _ => (dataLe_lt a b).symm), em']
  have hs0 : ((l.map Tup.mk).mergeSort leB).Pairwise (fun a b : Tup Int => leB a b = true) := List.pairwise_mergeSort (fun a b c h1 h2 => by
    unfold leB at *
    simp only [Bool.not_eq_true'] at *
    exact LinD.trans c b a h2 h1) (fun a b => by
    unfold leB
    rcases LinD.asym a b with h | h
    · rw [h]; simp
    · rw [h]; simp) _
  have hs1 : ((l.map Tup.mk).mergeSort leB).Pairwise (fun a b : Tup Int => Pm.lt' b a = false) := hs0.imp fun h => by
    unfold leB at h
    simpa using h
  rw [perm_sorted ((List.mergeSort_perm _ _).trans ((hp.map Tup.mk).symm)) hs1 hs]
theorem lsa2 : forL (gSet 2) l1__law_sets [.int 0, .int 1] [some (.int 2), some (.list [.tuple []]), none, none] = some (.nx [some (.int 2), some (.list ([[], [0], [1], [0, 1]].map encI)), some (.int 1), none]) := by kernel_rfl
theorem lsa3 : forL (gSet 2) l1__law_sets [.int 0, .int 1, .int 2] [some (.int 3), some (.list [.tuple []]), none, none] = some (.nx [some (.int 3), some (.list ([[], [0], [1], [0, 1], [2], [0, 2], [1, 2], [0, 1, 2]].map encI)), some (.int 2), none]) := by kernel_rfl
theorem r1_three : oR1 [.int 3] = some [.int 0, .int 1, .int 2] := rg0 3 (by omega)
theorem endO_map (x : Option D) : endO (x.map Out.rt) = x := by cases x <;> rfl
theorem ls2 : d__law_sets [.int 2] = some (.list ((LS 2).map encI)) := by
  have s := sortedE_tup [[], [0], [1], [0, 1]] (LS 2) (by decide +kernel) (by decide +kernel) rfl (by decide)
  have l := lsa2
  generalize [[], [0], [1], [0, 1]].map encI = F at *
  generalize (LS 2).map encI = G at *
  simp -implicitDefEqProofs only [d__law_sets, g__law_sets, xVar_a, xC_a, xBin_a, xUn_a, tOf_a, tTru_a, tNotP_a, tAndP_a, tOrP_a, tyes_a, tno_a, tYesP_a, xNil_a, xCons_a, xTup_a, xLst_a, xAnd_a, xOr_a, xIf_a, xChain_a, oNo_a, oAt_a, xSl_a, xCall_a, xSeq_a, xIt_a, xLc_a, gSet_a, gTupD_a, gsNil_a, gsCons_a, sNop_a, sBrk_a, sCnt_a, sSeq_a, sRet_a, sIf_a, sSet_a, sTgt_a, sAug_a, sApp_a, sExt_a, sPut_a, sPutK_a, pkO_s, sFor_a, sWhile_a, sPar_a, runD_a, b2_s, c2_s, sqO_nx, sqO_rt, sqO_bk, sqO_ct, ifO_t, ifO_f, stO_s, endO_nx, endO_rt, andO_t, andO_f, orO_t, orO_f, chO_s, chP_t, chP_f, slO_s, atO_i, lcO_s, forO_s, gsO_s, nxO_s, tgO_s, paO_s, apO_s, exO_s, plO_s, ptO_s, dB_b, tru_b, tru_n, tru_i, tru_l, tru_t, is_n, isn_n, nn_n, nn_i, nn_b, nn_t, nn_l, add_ii, add'_ii, sub_ii, neg_i, lt_ii, le_ii, gt_ii, ge_ii, ix_l, ix_t, ix_s, at0, at1, at2, sl_l, sl_t, len_l, len_t, len_s, abs_i, int_i, int_b, max_ii, min_ii, tup_s, lst_s, seq_l, seq_t, sum_s, wipe_n, wipe_c, mul_ii, fdiv_ii, mod_ii, add_ll, add_tt, setAll, mkT, mkL, oNot, List.getD_cons_zero, List.getD_cons_succ, List.length_cons, List.length_nil, List.set_cons_zero, List.set_cons_succ, List.map_cons, List.map_nil, List.replicate, List.cons_append, List.nil_append, List.append_nil, Option.bind_some, Option.map_some, List.all_cons, List.all_nil, if_true, if_false, reduceIte, Nat.reduceAdd, Nat.reduceSub, Nat.reduceLT, Nat.reduceLeDiff, Nat.reduceEqDiff, decide_true, decide_false, Bool.and_true, Bool.and_self, Bool.true_and, Bool.not_true, Bool.not_false, ne_eq, not_true_eq_false, not_false_eq_true, Nat.zero_add, Bool.false_eq_true, and_self, true_and, and_true, r1_two, l, s, endO_map]
theorem ls3 : d__law_sets [.int 3] = some (.list ((LS 3).map encI)) := by
  have s := sortedE_tup [[], [0], [1], [0, 1], [2], [0, 2], [1, 2], [0, 1, 2]] (LS 3) (by decide +kernel) (by decide +kernel) rfl (by decide)
  have l := lsa3
  generalize [[], [0], [1], [0, 1], [2], [0, 2], [1, 2], [0, 1, 2]].map encI = F at *
  generalize (LS 3).map encI = G at *
  simp -implicitDefEqProofs only [d__law_sets, g__law_sets, xVar_a, xC_a, xBin_a, xUn_a, tOf_a, tTru_a, tNotP_a, tAndP_a, tOrP_a, tyes_a, tno_a, tYesP_a, xNil_a, xCons_a, xTup_a, xLst_a, xAnd_a, xOr_a, xIf_a, xChain_a, oNo_a, oAt_a, xSl_a, xCall_a, xSeq_a, xIt_a, xLc_a, gSet_a, gTupD_a, gsNil_a, gsCons_a, sNop_a, sBrk_a, sCnt_a, sSeq_a, sRet_a, sIf_a, sSet_a, sTgt_a, sAug_a, sApp_a, sExt_a, sPut_a, sPutK_a, pkO_s, sFor_a, sWhile_a, sPar_a, runD_a, b2_s, c2_s, sqO_nx, sqO_rt, sqO_bk, sqO_ct, ifO_t, ifO_f, stO_s, endO_nx, endO_rt, andO_t, andO_f, orO_t, orO_f, chO_s, chP_t, chP_f, slO_s, atO_i, lcO_s, forO_s, gsO_s, nxO_s, tgO_s, paO_s, apO_s, exO_s, plO_s, ptO_s, dB_b, tru_b, tru_n, tru_i, tru_l, tru_t, is_n, isn_n, nn_n, nn_i, nn_b, nn_t, nn_l, add_ii, add'_ii, sub_ii, neg_i, lt_ii, le_ii, gt_ii, ge_ii, ix_l, ix_t, ix_s, at0, at1, at2, sl_l, sl_t, len_l, len_t, len_s, abs_i, int_i, int_b, max_ii, min_ii, tup_s, lst_s, seq_l, seq_t, sum_s, wipe_n, wipe_c, mul_ii, fdiv_ii, mod_ii, add_ll, add_tt, setAll, mkT, mkL, oNot, List.getD_cons_zero, List.getD_cons_succ, List.length_cons, List.length_nil, List.set_cons_zero, List.set_cons_succ, List.map_cons, List.map_nil, List.replicate, List.cons_append, List.nil_append, List.append_nil, Option.bind_some, Option.map_some, List.all_cons, List.all_nil, if_true, if_false, reduceIte, Nat.reduceAdd, Nat.reduceSub, Nat.reduceLT, Nat.reduceLeDiff, Nat.reduceEqDiff, decide_true, decide_false, Bool.and_true, Bool.and_self, Bool.true_and, Bool.not_true, Bool.not_false, ne_eq, not_true_eq_false, not_false_eq_true, Nat.zero_add, Bool.false_eq_true, and_self, true_and, and_true, r1_three, l, s, endO_map]
theorem tr2 : oTupR1 (.int 2) = some (encI (ixs 2)) := by kernel_rfl
theorem tr3 : oTupR1 (.int 3) = some (encI (ixs 3)) := by kernel_rfl
abbrev K1 := Int × Tup Int
def kc (c : List Int) : K1 := (-(c.length : Int), ⟨c⟩)
theorem toD_k (c : List Int) : Datum.toD (kc c) = .tuple [.int (-(c.length : Int)), encI c] := rfl
theorem depthK : Datum.depth K1 ≤ 20 := by decide
structure NOk (n : Nat) : Prop where
  as_ : d_all_sets [.int (n : Nat)] = some (.list ((LS n).map encI))
  ls_ : d__law_sets [.int (n : Nat)] = some (.list ((LS n).map encI))
  tr_ : oTupR1 (.int (n : Nat)) = some (encI (ixs n))
  nil_ : [] ∈ LS n
  all_ : ixs n ∈ LS n
  len_ : ∀ c ∈ LS n, c.length ≤ n ∧ (n ≤ c.length → c = ixs n)
  mem_ : ∀ c ∈ LS n, ∀ k ∈ c, 0 ≤ k ∧ k < (n : Int)
  cnt_ : (LS n).length ≤ 8
  n3_ : n ≤ 3
theorem nok2 : NOk 2 := ⟨as2, ls2, tr2, by decide, by decide, by decide, by decide, by decide, by decide⟩
theorem nok3 : NOk 3 := ⟨as3, ls3, tr3, by decide, by decide, by decide, by decide, by decide, by decide⟩
section
variable {P : List Pt} {Q : List Int}
def okc (P : List Pt) (Q : List Int) (c : List Int) : Bool := ((TUP 4 c.length).find? (gd P (c.map (gQi Q)))).isSome
theorem isn_res (o : Option (List Int)) : (!isNone (resD o)) = o.isSome := by cases o <;> rfl
theorem flat_res (o : Option (List Int)) : flat (resD o) = true := by
  have : ∀ l : List Int, flatL (l.map PyData.int) = true := fun l => by
    induction l with
    | nil => rfl
    | cons x l ih =>
      rw [List.map_cons]
      unfold flatL
      rw [ih]
      rfl
  cases o with
  | none => rfl
  | some l => exact this l
theorem eq_enc (a b : List Int) : oEq (encI a) (encI b) = some (.bool (decide (a = b))) := by
  have hs : ∀ x : List Int, shp (encI x) = true := fun x => by
    have e : encI x = Datum.toD (Tup.mk x) := rfl
    unfold shp SeqAt.shaped
    rw [e, LinD.lay (Tup.mk x), Bool.true_and]
    exact decide_eq_true (by have := Datum.depth_le (Tup.mk x); have h2 : Datum.depth (Tup Int) ≤ 20 := by decide
                             omega)
  have ev : PyData.eqv (encI a) (encI b) = decide (a = b) := by
    rw [show PyData.eqv (encI a) (encI b) = decide (Tup.mk a = Tup.mk b) from Datum.eqv (Tup.mk a) (Tup.mk b)]
    exact decide_eq_decide.mpr ⟨fun h => congrArg Tup.items h, fun h => by rw [h]⟩
  unfold oEq
  rw [hs, hs, ev]
  rfl
theorem eq_bb (a b : Bool) : oEq (.bool a) (.bool b) = some (.bool (decide (a = b))) := by
  cases a <;> cases b <;> simp [oEq, shp, SeqAt.shaped, PyData.eqv, PyData.canLay0, PyData.depth]
theorem map_all (n : Nat) (h : Q.length = n) : (ixs n).map (gQi Q) = Q := by
  unfold ixs
  rw [List.map_map]
  apply List.ext_getElem?
  intro i
  by_cases hi : i < n
  · have : i < Q.length := by omega
    simp [hi, this, gQi]
  · have : ¬ i < Q.length := by omega
    simp [hi, this]
theorem ixs_len (n : Nat) : (ixs n).length = n := by unfold ixs; simp
theorem okQ_map (hQ : OkQ Q) (c : List Int) : OkQ (c.map (gQi Q)) := fun q hq => by
  obtain ⟨k, _, rfl⟩ := List.mem_map.mp hq
  exact gQ_ok hQ k.toNat
theorem okc_nil : okc P Q [] = true := rfl
def keys (P : List Pt) (Q : List Int) (n : Nat) : List K1 := ((LS n).filter (okc P Q)).map kc
theorem least_keys {n : Nat} (hn : NOk n) : ∃ c ∈ LS n, okc P Q c = true ∧ least (keys P Q n) = some (kc c) ∧ decide (c = ixs n) = okc P Q (ixs n) := by
  have h0 : kc [] ∈ keys P Q n := List.mem_map_of_mem (List.mem_filter.mpr ⟨hn.nil_, okc_nil⟩)
  cases e : least (keys P Q n) with
  | none =>
    rw [least_none] at e
    rw [e] at h0
    cases h0
  | some m =>
    obtain ⟨h1, h2⟩ := least_iff.mp e
    obtain ⟨c, hc, rfl⟩ := List.mem_map.mp h1
    obtain ⟨hc1, hc2⟩ := List.mem_filter.mp hc
    refine ⟨c, hc1, hc2, rfl, ?_⟩
    cases h : okc P Q (ixs n) with
    | true =>
      have h3 := h2 (kc (ixs n)) (List.mem_map_of_mem (List.mem_filter.mpr ⟨hn.all_, h⟩))
      have h4 : n ≤ c.length := by
        rw [pLt] at h3
        unfold kc at h3
        simp only [ixs_len] at h3
        split at h3
        · omega
        · have := of_decide_eq_false h3
          omega
      exact decide_eq_true ((hn.len_ c hc1).2 h4)
    | false =>
      refine decide_eq_false fun e => ?_
      rw [e, h] at hc2
      cases hc2
theorem most_eq (hP : OkPs P) (hQ : OkQ Q) (hl4 : P.length = 4) {n : Nat} (hq : Q.length = n) (hn : NOk n) : d_most_anchored [.tuple (P.map eP), .tuple (Q.map PyData.int)] = (least (keys P Q n)).bind fun m => oIx (Datum.toD m) (.int 1) := by
  have h3 := hn.n3_
  have lnQ : ((Q.map PyData.int).length : Int) = (n : Int) := by rw [List.length_map, hq]
  have as_ := hn.as_
  have hL : lcL (gSet 3) (tOf (xBin oIsNot (xCall (fun ds => if ds.length = 2 then (d_anchors_least) ds else none) (xCons (xVar 0) (xCons (xLc (xSeq (xVar 3)) (gSet 4) tYesP (xBin oIx (xVar 1) (xVar 4)) [4]) xNil))) (xC .none))) (xTup (xCons (xUn oNeg (xCall bLen (xCons (xVar 3) xNil))) (xCons (xVar 3) xNil))) [some (.tuple (P.map eP)), some (.tuple (Q.map PyData.int)), none, none, none] ((LS n).map encI) = some (((LS n).filter (okc P Q)).map fun c => Datum.toD (kc c)) := by
    refine lcL_filter encI (fun c => Datum.toD (kc c)) (okc P Q) _ fun c hc => ⟨[some (.tuple (P.map eP)), some (.tuple (Q.map PyData.int)), none, some (encI c), none], rfl, ?_, fun _ => ?_⟩
    · have hcm := hn.mem_ c hc
      have hcl := (hn.len_ c hc).1
      have al := anchors_least_eq (bq := true) hP (okQ_map hQ c) hl4 (by rw [List.length_map]; omega)
      rw [List.length_map] at al
      have al : d_anchors_least [.tuple (P.map eP), .list ((c.map (gQi Q)).map PyData.int)] = some (resD ((TUP 4 c.length).find? (gd P (c.map (gQi Q))))) := al
      have ir := isn_res ((TUP 4 c.length).find? (gd P (c.map (gQi Q))))
      rw [show ((TUP 4 c.length).find? (gd P (c.map (gQi Q)))).isSome = okc P Q c from rfl] at ir
      have l1 : lcL (gSet 4) tYesP (xBin oIx (xVar 1) (xVar 4)) [some (.tuple (P.map eP)), some (.tuple (Q.map PyData.int)), none, some (encI c), none] (c.map PyData.int) = some ((c.map (gQi Q)).map PyData.int) := by
        rw [List.map_map]
        refine lcL_map _ _ _ fun k hk => ?_
        have hk := hcm k hk
        have a := at_Qi (Q := Q) (k := k) (by rw [hq]; exact hk)
        generalize encI c = EC at *
        generalize P.map eP = MP at *
        generalize Q.map PyData.int = MQ at *
        simp -implicitDefEqProofs only [Function.comp, xVar_a, xC_a, xBin_a, xUn_a, tOf_a, tTru_a, tNotP_a, tAndP_a, tOrP_a, tyes_a, tno_a, tYesP_a, xNil_a, xCons_a, xTup_a, xLst_a, xAnd_a, xOr_a, xIf_a, xChain_a, oNo_a, oAt_a, xSl_a, xCall_a, xSeq_a, xIt_a, xLc_a, gSet_a, gTupD_a, gsNil_a, gsCons_a, sNop_a, sBrk_a, sCnt_a, sSeq_a, sRet_a, sIf_a, sSet_a, sTgt_a, sAug_a, sApp_a, sExt_a, sPut_a, sPutK_a, pkO_s, sFor_a, sWhile_a, sPar_a, runD_a, b2_s, c2_s, sqO_nx, sqO_rt, sqO_bk, sqO_ct, ifO_t, ifO_f, stO_s, endO_nx, endO_rt, andO_t, andO_f, orO_t, orO_f, chO_s, chP_t, chP_f, slO_s, atO_i, lcO_s, forO_s, gsO_s, nxO_s, tgO_s, paO_s, apO_s, exO_s, plO_s, ptO_s, dB_b, tru_b, tru_n, tru_i, tru_l, tru_t, is_n, isn_n, nn_n, nn_i, nn_b, nn_t, nn_l, add_ii, add'_ii, sub_ii, neg_i, lt_ii, le_ii, gt_ii, ge_ii, ix_l, ix_t, ix_s, at0, at1, at2, sl_l, sl_t, len_l, len_t, len_s, abs_i, int_i, int_b, max_ii, min_ii, tup_s, lst_s, seq_l, seq_t, sum_s, wipe_n, wipe_c, mul_ii, fdiv_ii, mod_ii, add_ll, add_tt, setAll, mkT, mkL, oNot, List.getD_cons_zero, List.getD_cons_succ, List.length_cons, List.length_nil, List.set_cons_zero, List.set_cons_succ, List.map_cons, List.map_nil, List.replicate, List.cons_append, List.nil_append, List.append_nil, Option.bind_some, Option.map_some, List.all_cons, List.all_nil, if_true, if_false, reduceIte, Nat.reduceAdd, Nat.reduceSub, Nat.reduceLT, Nat.reduceLeDiff, Nat.reduceEqDiff, decide_true, decide_false, Bool.and_true, Bool.and_self, Bool.true_and, Bool.not_true, Bool.not_false, ne_eq, not_true_eq_false, not_false_eq_true, Nat.zero_add, Bool.false_eq_true, and_self, true_and, and_true, a]
      have sc : seqD (encI c) = some (c.map PyData.int) := rfl
      generalize resD ((TUP 4 c.length).find? (gd P (c.map (gQi Q)))) = RD at *
      generalize (c.map (gQi Q)).map PyData.int = CM at *
      generalize c.map PyData.int = CI at *
      generalize encI c = EC at *
      generalize P.map eP = MP at *
      generalize Q.map PyData.int = MQ at *
      simp -implicitDefEqProofs only [xVar_a, xC_a, xBin_a, xUn_a, tOf_a, tTru_a, tNotP_a, tAndP_a, tOrP_a, tyes_a, tno_a, tYesP_a, xNil_a, xCons_a, xTup_a, xLst_a, xAnd_a, xOr_a, xIf_a, xChain_a, oNo_a, oAt_a, xSl_a, xCall_a, xSeq_a, xIt_a, xLc_a, gSet_a, gTupD_a, gsNil_a, gsCons_a, sNop_a, sBrk_a, sCnt_a, sSeq_a, sRet_a, sIf_a, sSet_a, sTgt_a, sAug_a, sApp_a, sExt_a, sPut_a, sPutK_a, pkO_s, sFor_a, sWhile_a, sPar_a, runD_a, b2_s, c2_s, sqO_nx, sqO_rt, sqO_bk, sqO_ct, ifO_t, ifO_f, stO_s, endO_nx, endO_rt, andO_t, andO_f, orO_t, orO_f, chO_s, chP_t, chP_f, slO_s, atO_i, lcO_s, forO_s, gsO_s, nxO_s, tgO_s, paO_s, apO_s, exO_s, plO_s, ptO_s, dB_b, tru_b, tru_n, tru_i, tru_l, tru_t, is_n, isn_n, nn_n, nn_i, nn_b, nn_t, nn_l, add_ii, add'_ii, sub_ii, neg_i, lt_ii, le_ii, gt_ii, ge_ii, ix_l, ix_t, ix_s, at0, at1, at2, sl_l, sl_t, len_l, len_t, len_s, abs_i, int_i, int_b, max_ii, min_ii, tup_s, lst_s, seq_l, seq_t, sum_s, wipe_n, wipe_c, mul_ii, fdiv_ii, mod_ii, add_ll, add_tt, setAll, mkT, mkL, oNot, List.getD_cons_zero, List.getD_cons_succ, List.length_cons, List.length_nil, List.set_cons_zero, List.set_cons_succ, List.map_cons, List.map_nil, List.replicate, List.cons_append, List.nil_append, List.append_nil, Option.bind_some, Option.map_some, List.all_cons, List.all_nil, if_true, if_false, reduceIte, Nat.reduceAdd, Nat.reduceSub, Nat.reduceLT, Nat.reduceLeDiff, Nat.reduceEqDiff, decide_true, decide_false, Bool.and_true, Bool.and_self, Bool.true_and, Bool.not_true, Bool.not_false, ne_eq, not_true_eq_false, not_false_eq_true, Nat.zero_add, Bool.false_eq_true, and_self, true_and, and_true, sc, l1, al, ir]
    · have lnC : bLen [encI c] = some (.int (c.length : Nat)) := by
        show some (PyData.int ((c.map PyData.int).length : Nat)) = _
        rw [List.length_map]
      rw [toD_k]
      generalize encI c = EC at *
      generalize P.map eP = MP at *
      generalize Q.map PyData.int = MQ at *
      simp -implicitDefEqProofs only [xVar_a, xC_a, xBin_a, xUn_a, tOf_a, tTru_a, tNotP_a, tAndP_a, tOrP_a, tyes_a, tno_a, tYesP_a, xNil_a, xCons_a, xTup_a, xLst_a, xAnd_a, xOr_a, xIf_a, xChain_a, oNo_a, oAt_a, xSl_a, xCall_a, xSeq_a, xIt_a, xLc_a, gSet_a, gTupD_a, gsNil_a, gsCons_a, sNop_a, sBrk_a, sCnt_a, sSeq_a, sRet_a, sIf_a, sSet_a, sTgt_a, sAug_a, sApp_a, sExt_a, sPut_a, sPutK_a, pkO_s, sFor_a, sWhile_a, sPar_a, runD_a, b2_s, c2_s, sqO_nx, sqO_rt, sqO_bk, sqO_ct, ifO_t, ifO_f, stO_s, endO_nx, endO_rt, andO_t, andO_f, orO_t, orO_f, chO_s, chP_t, chP_f, slO_s, atO_i, lcO_s, forO_s, gsO_s, nxO_s, tgO_s, paO_s, apO_s, exO_s, plO_s, ptO_s, dB_b, tru_b, tru_n, tru_i, tru_l, tru_t, is_n, isn_n, nn_n, nn_i, nn_b, nn_t, nn_l, add_ii, add'_ii, sub_ii, neg_i, lt_ii, le_ii, gt_ii, ge_ii, ix_l, ix_t, ix_s, at0, at1, at2, sl_l, sl_t, len_l, len_t, len_s, abs_i, int_i, int_b, max_ii, min_ii, tup_s, lst_s, seq_l, seq_t, sum_s, wipe_n, wipe_c, mul_ii, fdiv_ii, mod_ii, add_ll, add_tt, setAll, mkT, mkL, oNot, List.getD_cons_zero, List.getD_cons_succ, List.length_cons, List.length_nil, List.set_cons_zero, List.set_cons_succ, List.map_cons, List.map_nil, List.replicate, List.cons_append, List.nil_append, List.append_nil, Option.bind_some, Option.map_some, List.all_cons, List.all_nil, if_true, if_false, reduceIte, Nat.reduceAdd, Nat.reduceSub, Nat.reduceLT, Nat.reduceLeDiff, Nat.reduceEqDiff, decide_true, decide_false, Bool.and_true, Bool.and_self, Bool.true_and, Bool.not_true, Bool.not_false, ne_eq, not_true_eq_false, not_false_eq_true, Nat.zero_add, Bool.false_eq_true, and_self, true_and, and_true, lnC]
  have md := minD_l depthK (x := .list ((keys P Q n).map Datum.toD)) (keys P Q n) rfl
  have ek : (((LS n).filter (okc P Q)).map fun c => Datum.toD (kc c)) = (keys P Q n).map Datum.toD := by
    unfold keys
    rw [List.map_map]
    rfl
  rw [ek] at hL
  obtain ⟨c, _, _, lk, _⟩ := least_keys (P := P) (Q := Q) hn
  rw [lk] at md ⊢
  have md : bMinD [.list ((keys P Q n).map Datum.toD)] = some (Datum.toD (kc c)) := md
  generalize hKD : Datum.toD (kc c) = KD at *
  generalize (keys P Q n).map Datum.toD = KL at *
  generalize (LS n).map encI = LL at *
  generalize P.map eP = MP at *
  generalize Q.map PyData.int = MQ at *
  have : ∀ x : Option D, endO (x.map Out.rt) = x := fun x => by cases x <;> rfl
  simp -implicitDefEqProofs only [d_most_anchored, g_most_anchored, xVar_a, xC_a, xBin_a, xUn_a, tOf_a, tTru_a, tNotP_a, tAndP_a, tOrP_a, tyes_a, tno_a, tYesP_a, xNil_a, xCons_a, xTup_a, xLst_a, xAnd_a, xOr_a, xIf_a, xChain_a, oNo_a, oAt_a, xSl_a, xCall_a, xSeq_a, xIt_a, xLc_a, gSet_a, gTupD_a, gsNil_a, gsCons_a, sNop_a, sBrk_a, sCnt_a, sSeq_a, sRet_a, sIf_a, sSet_a, sTgt_a, sAug_a, sApp_a, sExt_a, sPut_a, sPutK_a, pkO_s, sFor_a, sWhile_a, sPar_a, runD_a, b2_s, c2_s, sqO_nx, sqO_rt, sqO_bk, sqO_ct, ifO_t, ifO_f, stO_s, endO_nx, endO_rt, andO_t, andO_f, orO_t, orO_f, chO_s, chP_t, chP_f, slO_s, atO_i, lcO_s, forO_s, gsO_s, nxO_s, tgO_s, paO_s, apO_s, exO_s, plO_s, ptO_s, dB_b, tru_b, tru_n, tru_i, tru_l, tru_t, is_n, isn_n, nn_n, nn_i, nn_b, nn_t, nn_l, add_ii, add'_ii, sub_ii, neg_i, lt_ii, le_ii, gt_ii, ge_ii, ix_l, ix_t, ix_s, at0, at1, at2, sl_l, sl_t, len_l, len_t, len_s, abs_i, int_i, int_b, max_ii, min_ii, tup_s, lst_s, seq_l, seq_t, sum_s, wipe_n, wipe_c, mul_ii, fdiv_ii, mod_ii, add_ll, add_tt, setAll, mkT, mkL, oNot, List.getD_cons_zero, List.getD_cons_succ, List.length_cons, List.length_nil, List.set_cons_zero, List.set_cons_succ, List.map_cons, List.map_nil, List.replicate, List.cons_append, List.nil_append, List.append_nil, Option.bind_some, Option.map_some, List.all_cons, List.all_nil, if_true, if_false, reduceIte, Nat.reduceAdd, Nat.reduceSub, Nat.reduceLT, Nat.reduceLeDiff, Nat.reduceEqDiff, decide_true, decide_false, Bool.and_true, Bool.and_self, Bool.true_and, Bool.not_true, Bool.not_false, ne_eq, not_true_eq_false, not_false_eq_true, Nat.zero_add, Bool.false_eq_true, and_self, true_and, and_true, lnQ, as_, hL, md, this, hKD]
end
end K25

namespace K25
open PySem PySem.Spec PyProof.Rows L2 Pm
open PySem.W (Datum Tup)
section
variable {P : List Pt} {Q : List Int}
theorem like_res (k : Nat) (o : Option (List Int)) (h : ∀ l, o = some l → l.length ≤ 1000) : d__law_like (k + 2) [resD o, resD o] = some (.bool true) := by
  cases o with
  | none => exact like_none _
  | some l => exact like_ints _ _ (h l rfl)
theorem law_anchors_ok (hP : OkPs P) (hQ : OkQ Q) (hl4 : P.length = 4) {n : Nat} (hq : Q.length = n) (hn : NOk n) : d__law_anchors [.tuple (P.map eP), .tuple (Q.map PyData.int)] = some (.bool true) := by
  have h3 := hn.n3_
  have lnQ : ((Q.map PyData.int).length : Int) = (n : Int) := by rw [List.length_map, hq]
  have tr := hn.tr_
  have ls := hn.ls_
  have me := most_eq hP hQ hl4 hq hn
  have la := law_anchored_eq hP hQ hl4 (c := ixs n) (fun k hk => by rw [hq]; exact hn.mem_ _ hn.all_ k hk) (by rw [ixs_len]; exact h3)
  have al := anchors_least_eq (bq := false) hP hQ hl4 (by omega)
  rw [map_all n hq, ixs_len] at la
  rw [hq] at al
  have al : d_anchors_least [.tuple (P.map eP), .tuple (Q.map PyData.int)] = some (resD ((TUP 4 n).find? (gd P Q))) := al
  have lk := like_res 6 ((TUP 4 n).find? (gd P Q)) (fun l h => by
    have := (tup_len (List.mem_of_find?_eq_some h)).1
    omega)
  have fr := flat_res ((TUP 4 n).find? (gd P Q))
  have ir := isn_res ((TUP 4 n).find? (gd P Q))
  have eo : ((TUP 4 n).find? (gd P Q)).isSome = okc P Q (ixs n) := by
    unfold okc
    rw [map_all n hq, ixs_len]
  rw [eo] at ir
  have fle := List.length_filter_le (okc P Q) (LS n)
  have cnt := hn.cnt_
  obtain ⟨ρ', e1, x3, e2⟩ := forL_fl (g := gSet 3) (b := l1__law_anchors) (N := 1000) encI (fun c : List Int => Datum.toD (kc c)) (fun c => if okc P Q c then [c] else []) (fun acc ρ => ∃ x3, ρ = [some (.tuple (P.map eP)), some (.tuple (Q.map PyData.int)), some (resD ((TUP 4 n).find? (gd P Q))), x3, none, some (encI (ixs n)), some (.list acc)]) (LS n) [] [some (.tuple (P.map eP)), some (.tuple (Q.map PyData.int)), some (resD ((TUP 4 n).find? (gd P Q))), none, none, some (encI (ixs n)), some (.list [])]
    (fun c hc acc ρ ha ⟨x3, e⟩ => by
      subst e
      have hcl := (hn.len_ c hc).1
      have lac := law_anchored_eq hP hQ hl4 (c := c) (fun k hk => by rw [hq]; exact hn.mem_ c hc k hk) (by omega)
      have irc := isn_res ((TUP 4 c.length).find? (gd P (c.map (gQi Q))))
      rw [show ((TUP 4 c.length).find? (gd P (c.map (gQi Q)))).isSome = okc P Q c from rfl] at irc
      have lnC : bLen [encI c] = some (.int (c.length : Nat)) := by
        show some (PyData.int ((c.map PyData.int).length : Nat)) = _
        rw [List.length_map]
      cases ho : okc P Q c with
      | true =>
        rw [ho] at irc ha
        have ha' : acc.length < 16777216 := by simp at ha; omega
        refine ⟨_, [some (.tuple (P.map eP)), some (.tuple (Q.map PyData.int)), some (resD ((TUP 4 n).find? (gd P Q))), some (encI c), none, some (encI (ixs n)), some (.list (acc ++ [.tuple [.int (-(c.length : Int)), encI c]]))], rfl, ?_, some (encI c), rfl⟩
        generalize resD ((TUP 4 c.length).find? (gd P (c.map (gQi Q)))) = RC at *
        generalize resD ((TUP 4 n).find? (gd P Q)) = RD at *
        generalize encI (ixs n) = EN at *
        generalize encI c = EC at *
        generalize P.map eP = MP at *
        generalize Q.map PyData.int = MQ at *
        simp -implicitDefEqProofs only [l1__law_anchors, xVar_a, xC_a, xBin_a, xUn_a, tOf_a, tTru_a, tNotP_a, tAndP_a, tOrP_a, tyes_a, tno_a, tYesP_a, xNil_a, xCons_a, xTup_a, xLst_a, xAnd_a, xOr_a, xIf_a, xChain_a, oNo_a, oAt_a, xSl_a, xCall_a, xSeq_a, xIt_a, xLc_a, gSet_a, gTupD_a, gsNil_a, gsCons_a, sNop_a, sBrk_a, sCnt_a, sSeq_a, sRet_a, sIf_a, sSet_a, sTgt_a, sAug_a, sApp_a, sExt_a, sPut_a, sPutK_a, pkO_s, sFor_a, sWhile_a, sPar_a, runD_a, b2_s, c2_s, sqO_nx, sqO_rt, sqO_bk, sqO_ct, ifO_t, ifO_f, stO_s, endO_nx, endO_rt, andO_t, andO_f, orO_t, orO_f, chO_s, chP_t, chP_f, slO_s, atO_i, lcO_s, forO_s, gsO_s, nxO_s, tgO_s, paO_s, apO_s, exO_s, plO_s, ptO_s, dB_b, tru_b, tru_n, tru_i, tru_l, tru_t, is_n, isn_n, nn_n, nn_i, nn_b, nn_t, nn_l, add_ii, add'_ii, sub_ii, neg_i, lt_ii, le_ii, gt_ii, ge_ii, ix_l, ix_t, ix_s, at0, at1, at2, sl_l, sl_t, len_l, len_t, len_s, abs_i, int_i, int_b, max_ii, min_ii, tup_s, lst_s, seq_l, seq_t, sum_s, wipe_n, wipe_c, mul_ii, fdiv_ii, mod_ii, add_ll, add_tt, setAll, mkT, mkL, oNot, List.getD_cons_zero, List.getD_cons_succ, List.length_cons, List.length_nil, List.set_cons_zero, List.set_cons_succ, List.map_cons, List.map_nil, List.replicate, List.cons_append, List.nil_append, List.append_nil, Option.bind_some, Option.map_some, List.all_cons, List.all_nil, if_true, if_false, reduceIte, Nat.reduceAdd, Nat.reduceSub, Nat.reduceLT, Nat.reduceLeDiff, Nat.reduceEqDiff, decide_true, decide_false, Bool.and_true, Bool.and_self, Bool.true_and, Bool.not_true, Bool.not_false, ne_eq, not_true_eq_false, not_false_eq_true, Nat.zero_add, Bool.false_eq_true, and_self, true_and, and_true, lac, irc, lnC, ha']
      | false =>
        rw [ho] at irc
        refine ⟨_, [some (.tuple (P.map eP)), some (.tuple (Q.map PyData.int)), some (resD ((TUP 4 n).find? (gd P Q))), some (encI c), none, some (encI (ixs n)), some (.list acc)], rfl, ?_, some (encI c), by simp⟩
        generalize resD ((TUP 4 c.length).find? (gd P (c.map (gQi Q)))) = RC at *
        generalize resD ((TUP 4 n).find? (gd P Q)) = RD at *
        generalize encI (ixs n) = EN at *
        generalize encI c = EC at *
        generalize P.map eP = MP at *
        generalize Q.map PyData.int = MQ at *
        simp -implicitDefEqProofs only [l1__law_anchors, xVar_a, xC_a, xBin_a, xUn_a, tOf_a, tTru_a, tNotP_a, tAndP_a, tOrP_a, tyes_a, tno_a, tYesP_a, xNil_a, xCons_a, xTup_a, xLst_a, xAnd_a, xOr_a, xIf_a, xChain_a, oNo_a, oAt_a, xSl_a, xCall_a, xSeq_a, xIt_a, xLc_a, gSet_a, gTupD_a, gsNil_a, gsCons_a, sNop_a, sBrk_a, sCnt_a, sSeq_a, sRet_a, sIf_a, sSet_a, sTgt_a, sAug_a, sApp_a, sExt_a, sPut_a, sPutK_a, pkO_s, sFor_a, sWhile_a, sPar_a, runD_a, b2_s, c2_s, sqO_nx, sqO_rt, sqO_bk, sqO_ct, ifO_t, ifO_f, stO_s, endO_nx, endO_rt, andO_t, andO_f, orO_t, orO_f, chO_s, chP_t, chP_f, slO_s, atO_i, lcO_s, forO_s, gsO_s, nxO_s, tgO_s, paO_s, apO_s, exO_s, plO_s, ptO_s, dB_b, tru_b, tru_n, tru_i, tru_l, tru_t, is_n, isn_n, nn_n, nn_i, nn_b, nn_t, nn_l, add_ii, add'_ii, sub_ii, neg_i, lt_ii, le_ii, gt_ii, ge_ii, ix_l, ix_t, ix_s, at0, at1, at2, sl_l, sl_t, len_l, len_t, len_s, abs_i, int_i, int_b, max_ii, min_ii, tup_s, lst_s, seq_l, seq_t, sum_s, wipe_n, wipe_c, mul_ii, fdiv_ii, mod_ii, add_ll, add_tt, setAll, mkT, mkL, oNot, List.getD_cons_zero, List.getD_cons_succ, List.length_cons, List.length_nil, List.set_cons_zero, List.set_cons_succ, List.map_cons, List.map_nil, List.replicate, List.cons_append, List.nil_append, List.append_nil, Option.bind_some, Option.map_some, List.all_cons, List.all_nil, if_true, if_false, reduceIte, Nat.reduceAdd, Nat.reduceSub, Nat.reduceLT, Nat.reduceLeDiff, Nat.reduceEqDiff, decide_true, decide_false, Bool.and_true, Bool.and_self, Bool.true_and, Bool.not_true, Bool.not_false, ne_eq, not_true_eq_false, not_false_eq_true, Nat.zero_add, Bool.false_eq_true, and_self, true_and, and_true, lac, irc, lnC]) (by rw [fl_filter]; simp -implicitDefEqProofs only [List.length_nil]; omega) ⟨none, rfl⟩
  rw [fl_filter] at e2
  subst e2
  simp only [List.nil_append] at e1
  have ek : (((LS n).filter (okc P Q)).map fun c => Datum.toD (kc c)) = (keys P Q n).map Datum.toD := by
    unfold keys
    rw [List.map_map]
    rfl
  rw [ek] at e1
  have md := minD_l depthK (x := .list ((keys P Q n).map Datum.toD)) (keys P Q n) rfl
  obtain ⟨c, hc, _, lkk, dec⟩ := least_keys (P := P) (Q := Q) hn
  rw [lkk] at md me
  have md : bMinD [.list ((keys P Q n).map Datum.toD)] = some (.tuple [.int (-(c.length : Int)), encI c]) := md
  have me : d_most_anchored [.tuple (P.map eP), .tuple (Q.map PyData.int)] = some (encI c) := me
  have lk2 := like_ints 6 c (by have := (hn.len_ c hc).1; omega)
  have lk2 : d__law_like 8 [encI c, encI c] = some (.bool true) := lk2
  have ee := eq_enc c (ixs n)
  rw [dec] at ee
  have eb := eq_bb (okc P Q (ixs n)) (okc P Q (ixs n))
  have fb : flat (.bool true) = true := rfl
  rw [decide_eq_true rfl] at eb
  generalize resD ((TUP 4 n).find? (gd P Q)) = RD at *
  generalize (keys P Q n).map Datum.toD = KL at *
  generalize (LS n).map encI = LL at *
  generalize encI (ixs n) = EN at *
  generalize encI c = EC at *
  generalize P.map eP = MP at *
  generalize Q.map PyData.int = MQ at *
  generalize okc P Q (ixs n) = T at *
  simp -implicitDefEqProofs only [d__law_anchors, g__law_anchors, xVar_a, xC_a, xBin_a, xUn_a, tOf_a, tTru_a, tNotP_a, tAndP_a, tOrP_a, tyes_a, tno_a, tYesP_a, xNil_a, xCons_a, xTup_a, xLst_a, xAnd_a, xOr_a, xIf_a, xChain_a, oNo_a, oAt_a, xSl_a, xCall_a, xSeq_a, xIt_a, xLc_a, gSet_a, gTupD_a, gsNil_a, gsCons_a, sNop_a, sBrk_a, sCnt_a, sSeq_a, sRet_a, sIf_a, sSet_a, sTgt_a, sAug_a, sApp_a, sExt_a, sPut_a, sPutK_a, pkO_s, sFor_a, sWhile_a, sPar_a, runD_a, b2_s, c2_s, sqO_nx, sqO_rt, sqO_bk, sqO_ct, ifO_t, ifO_f, stO_s, endO_nx, endO_rt, andO_t, andO_f, orO_t, orO_f, chO_s, chP_t, chP_f, slO_s, atO_i, lcO_s, forO_s, gsO_s, nxO_s, tgO_s, paO_s, apO_s, exO_s, plO_s, ptO_s, dB_b, tru_b, tru_n, tru_i, tru_l, tru_t, is_n, isn_n, nn_n, nn_i, nn_b, nn_t, nn_l, add_ii, add'_ii, sub_ii, neg_i, lt_ii, le_ii, gt_ii, ge_ii, ix_l, ix_t, ix_s, at0, at1, at2, sl_l, sl_t, len_l, len_t, len_s, abs_i, int_i, int_b, max_ii, min_ii, tup_s, lst_s, seq_l, seq_t, sum_s, wipe_n, wipe_c, mul_ii, fdiv_ii, mod_ii, add_ll, add_tt, setAll, mkT, mkL, oNot, List.getD_cons_zero, List.getD_cons_succ, List.length_cons, List.length_nil, List.set_cons_zero, List.set_cons_succ, List.map_cons, List.map_nil, List.replicate, List.cons_append, List.nil_append, List.append_nil, Option.bind_some, Option.map_some, List.all_cons, List.all_nil, if_true, if_false, reduceIte, Nat.reduceAdd, Nat.reduceSub, Nat.reduceLT, Nat.reduceLeDiff, Nat.reduceEqDiff, decide_true, decide_false, Bool.and_true, Bool.and_self, Bool.true_and, Bool.not_true, Bool.not_false, ne_eq, not_true_eq_false, not_false_eq_true, Nat.zero_add, Bool.false_eq_true, and_self, true_and, and_true, lnQ, tr, la, fr, al, lk, fb, ls, e1, me, md, lk2, ee, ir, eb]
end
end K25

namespace K25
open PySem PySem.Spec PyProof.Rows L2 Pm
open PySem.W (Datum Tup)
theorem fl_single {α β : Type} (g : α → β) : ∀ l : List α, (l.flatMap fun k => [g k]) = l.map g
  | [] => rfl
  | x :: l => by rw [List.flatMap_cons, fl_single g l]; rfl
section
variable {r : List Int}
def shp_ (r : List Int) (k : Nat) : Sp := (((r.getD (1 + k) 0).fmod 9, (r.getD (5 + k) 0).fmod 9), if (r.getD (17 + k) 0).fmod 6 = 0 then (0, 0) else ((r.getD (9 + k) 0).fmod 5 - 2, (r.getD (13 + k) 0).fmod 5 - 2))
theorem shp_rng (r : List Int) (k : Nat) : (0 ≤ (shp_ r k).1.1 ∧ (shp_ r k).1.1 ≤ 8 ∧ 0 ≤ (shp_ r k).1.2 ∧ (shp_ r k).1.2 ≤ 8) ∧ -2 ≤ (shp_ r k).2.1 ∧ (shp_ r k).2.1 ≤ 2 ∧ -2 ≤ (shp_ r k).2.2 ∧ (shp_ r k).2.2 ≤ 2 := by
  have a := fmod_rng (r.getD (1 + k) 0) (m := 9) (by decide)
  have b := fmod_rng (r.getD (5 + k) 0) (m := 9) (by decide)
  have c := fmod_rng (r.getD (9 + k) 0) (m := 5) (by decide)
  have d := fmod_rng (r.getD (13 + k) 0) (m := 5) (by decide)
  unfold shp_
  simp only
  refine ⟨⟨by omega, by omega, by omega, by omega⟩, ?_⟩
  split
  · simp
  · simp only
    omega
theorem row_ix (hr : r.length = 60) (c : Int) (cn : Nat) (hc : c = (cn : Int)) (k : Nat) (h : cn + k < 60) : atI (r.map PyData.int) (c + (k : Int)) = some (.int (r.getD (cn + k) 0)) := by
  subst hc
  have := row_at r (cn + k) (by omega)
  rwa [Int.natCast_add] at this
theorem ship_loop (hr : r.length = 60) {n : Nat} (hn : n ≤ 4) (x0 x3 x4 : Option D) : ∃ y2 y6 y7, forL (gSet 2) l1_law ((List.range n).map fun k : Nat => PyData.int (k : Nat)) [x0, some (.list (r.map PyData.int)), none, x3, x4, some (.list []), none, none, none, none, none, none] =
    some (.nx [x0, some (.list (r.map PyData.int)), y2, x3, x4, some (.list (((List.range n).map (shp_ r)).map eS)), y6, y7, none, none, none, none]) := by
  obtain ⟨ρ', e1, y2, y6, y7, e2⟩ := forL_fl (g := gSet 2) (b := l1_law) (N := 1000) (fun k : Nat => PyData.int (k : Nat)) eS (fun k => [shp_ r k]) (fun acc ρ => ∃ x2 x6 x7, ρ = [x0, some (.list (r.map PyData.int)), x2, x3, x4, some (.list acc), x6, x7, none, none, none, none]) (List.range n) [] [x0, some (.list (r.map PyData.int)), none, x3, x4, some (.list []), none, none, none, none, none, none]
    (fun k hk acc ρ ha ⟨x2, x6, x7, e⟩ => by
      subst e
      have hk : k < n := by simpa using hk
      have i1 := row_ix hr 1 1 rfl k (by omega)
      have i5 := row_ix hr 5 5 rfl k (by omega)
      have i9 := row_ix hr 9 9 rfl k (by omega)
      have i13 := row_ix hr 13 13 rfl k (by omega)
      have i17 := row_ix hr 17 17 rfl k (by omega)
      have z9 : (9 : Int) ≠ 0 := by decide
      have z5 : (5 : Int) ≠ 0 := by decide
      have z6 : (6 : Int) ≠ 0 := by decide
      have ha' : acc.length < 16777216 := by simp at ha; omega
      by_cases h : (r.getD (17 + k) 0).fmod 6 = 0
      · have d : decide ((r.getD (17 + k) 0).fmod 6 = 0) = true := decide_eq_true h
        have es : eS (shp_ r k) = .tuple [.tuple [.int ((r.getD (1 + k) 0).fmod 9), .int ((r.getD (5 + k) 0).fmod 9)], .tuple [.int 0, .int 0]] := by
          unfold shp_
          rw [if_pos h]
          rfl
        refine ⟨_, [x0, some (.list (r.map PyData.int)), some (.int (k : Nat)), x3, x4, some (.list (acc ++ [.tuple [.tuple [.int ((r.getD (1 + k) 0).fmod 9), .int ((r.getD (5 + k) 0).fmod 9)], .tuple [.int 0, .int 0]]])), some (.tuple [.int ((r.getD (1 + k) 0).fmod 9), .int ((r.getD (5 + k) 0).fmod 9)]), some (.tuple [.int 0, .int 0]), none, none, none, none], rfl, ?_, some (.int (k : Nat)), some (.tuple [.int ((r.getD (1 + k) 0).fmod 9), .int ((r.getD (5 + k) 0).fmod 9)]), some (.tuple [.int 0, .int 0]), by rw [List.map_cons, List.map_nil, es]⟩
        generalize r.map PyData.int = RR at *
        simp -implicitDefEqProofs only [l1_law, xVar_a, xC_a, xBin_a, xUn_a, tOf_a, tTru_a, tNotP_a, tAndP_a, tOrP_a, tyes_a, tno_a, tYesP_a, xNil_a, xCons_a, xTup_a, xLst_a, xAnd_a, xOr_a, xIf_a, xChain_a, oNo_a, oAt_a, xSl_a, xCall_a, xSeq_a, xIt_a, xLc_a, gSet_a, gTupD_a, gsNil_a, gsCons_a, sNop_a, sBrk_a, sCnt_a, sSeq_a, sRet_a, sIf_a, sSet_a, sTgt_a, sAug_a, sApp_a, sExt_a, sPut_a, sPutK_a, pkO_s, sFor_a, sWhile_a, sPar_a, runD_a, b2_s, c2_s, sqO_nx, sqO_rt, sqO_bk, sqO_ct, ifO_t, ifO_f, stO_s, endO_nx, endO_rt, andO_t, andO_f, orO_t, orO_f, chO_s, chP_t, chP_f, slO_s, atO_i, lcO_s, forO_s, gsO_s, nxO_s, tgO_s, paO_s, apO_s, exO_s, plO_s, ptO_s, dB_b, tru_b, tru_n, tru_i, tru_l, tru_t, is_n, isn_n, nn_n, nn_i, nn_b, nn_t, nn_l, add_ii, add'_ii, sub_ii, neg_i, lt_ii, le_ii, gt_ii, ge_ii, ix_l, ix_t, ix_s, at0, at1, at2, sl_l, sl_t, len_l, len_t, len_s, abs_i, int_i, int_b, max_ii, min_ii, tup_s, lst_s, seq_l, seq_t, sum_s, wipe_n, wipe_c, mul_ii, fdiv_ii, mod_ii, add_ll, add_tt, setAll, mkT, mkL, oNot, List.getD_cons_zero, List.getD_cons_succ, List.length_cons, List.length_nil, List.set_cons_zero, List.set_cons_succ, List.map_cons, List.map_nil, List.replicate, List.cons_append, List.nil_append, List.append_nil, Option.bind_some, Option.map_some, List.all_cons, List.all_nil, if_true, if_false, reduceIte, Nat.reduceAdd, Nat.reduceSub, Nat.reduceLT, Nat.reduceLeDiff, Nat.reduceEqDiff, decide_true, decide_false, Bool.and_true, Bool.and_self, Bool.true_and, Bool.not_true, Bool.not_false, ne_eq, not_true_eq_false, not_false_eq_true, Nat.zero_add, Bool.false_eq_true, and_self, true_and, and_true, i1, i5, i9, i13, i17, mod_ii z9, mod_ii z5, mod_ii z6, eq_int, d, ha']
      · have d : decide ((r.getD (17 + k) 0).fmod 6 = 0) = false := decide_eq_false h
        have es : eS (shp_ r k) = .tuple [.tuple [.int ((r.getD (1 + k) 0).fmod 9), .int ((r.getD (5 + k) 0).fmod 9)], .tuple [.int ((r.getD (9 + k) 0).fmod 5 - 2), .int ((r.getD (13 + k) 0).fmod 5 - 2)]] := by
          unfold shp_
          rw [if_neg h]
          rfl
        refine ⟨_, [x0, some (.list (r.map PyData.int)), some (.int (k : Nat)), x3, x4, some (.list (acc ++ [.tuple [.tuple [.int ((r.getD (1 + k) 0).fmod 9), .int ((r.getD (5 + k) 0).fmod 9)], .tuple [.int ((r.getD (9 + k) 0).fmod 5 - 2), .int ((r.getD (13 + k) 0).fmod 5 - 2)]]])), some (.tuple [.int ((r.getD (1 + k) 0).fmod 9), .int ((r.getD (5 + k) 0).fmod 9)]), some (.tuple [.int ((r.getD (9 + k) 0).fmod 5 - 2), .int ((r.getD (13 + k) 0).fmod 5 - 2)]), none, none, none, none], rfl, ?_, some (.int (k : Nat)), some (.tuple [.int ((r.getD (1 + k) 0).fmod 9), .int ((r.getD (5 + k) 0).fmod 9)]), some (.tuple [.int ((r.getD (9 + k) 0).fmod 5 - 2), .int ((r.getD (13 + k) 0).fmod 5 - 2)]), by rw [List.map_cons, List.map_nil, es]⟩
        generalize r.map PyData.int = RR at *
        simp -implicitDefEqProofs only [l1_law, xVar_a, xC_a, xBin_a, xUn_a, tOf_a, tTru_a, tNotP_a, tAndP_a, tOrP_a, tyes_a, tno_a, tYesP_a, xNil_a, xCons_a, xTup_a, xLst_a, xAnd_a, xOr_a, xIf_a, xChain_a, oNo_a, oAt_a, xSl_a, xCall_a, xSeq_a, xIt_a, xLc_a, gSet_a, gTupD_a, gsNil_a, gsCons_a, sNop_a, sBrk_a, sCnt_a, sSeq_a, sRet_a, sIf_a, sSet_a, sTgt_a, sAug_a, sApp_a, sExt_a, sPut_a, sPutK_a, pkO_s, sFor_a, sWhile_a, sPar_a, runD_a, b2_s, c2_s, sqO_nx, sqO_rt, sqO_bk, sqO_ct, ifO_t, ifO_f, stO_s, endO_nx, endO_rt, andO_t, andO_f, orO_t, orO_f, chO_s, chP_t, chP_f, slO_s, atO_i, lcO_s, forO_s, gsO_s, nxO_s, tgO_s, paO_s, apO_s, exO_s, plO_s, ptO_s, dB_b, tru_b, tru_n, tru_i, tru_l, tru_t, is_n, isn_n, nn_n, nn_i, nn_b, nn_t, nn_l, add_ii, add'_ii, sub_ii, neg_i, lt_ii, le_ii, gt_ii, ge_ii, ix_l, ix_t, ix_s, at0, at1, at2, sl_l, sl_t, len_l, len_t, len_s, abs_i, int_i, int_b, max_ii, min_ii, tup_s, lst_s, seq_l, seq_t, sum_s, wipe_n, wipe_c, mul_ii, fdiv_ii, mod_ii, add_ll, add_tt, setAll, mkT, mkL, oNot, List.getD_cons_zero, List.getD_cons_succ, List.length_cons, List.length_nil, List.set_cons_zero, List.set_cons_succ, List.map_cons, List.map_nil, List.replicate, List.cons_append, List.nil_append, List.append_nil, Option.bind_some, Option.map_some, List.all_cons, List.all_nil, if_true, if_false, reduceIte, Nat.reduceAdd, Nat.reduceSub, Nat.reduceLT, Nat.reduceLeDiff, Nat.reduceEqDiff, decide_true, decide_false, Bool.and_true, Bool.and_self, Bool.true_and, Bool.not_true, Bool.not_false, ne_eq, not_true_eq_false, not_false_eq_true, Nat.zero_add, Bool.false_eq_true, and_self, true_and, and_true, i1, i5, i9, i13, i17, mod_ii z9, mod_ii z5, mod_ii z6, eq_int, d, ha']) (by rw [fl_single]; simp; omega) ⟨none, none, none, rfl⟩
  rw [fl_single] at e2
  subst e2
  exact ⟨_, _, _, e1⟩
def plc (r : List Int) (k : Nat) : Pt := (3 * (r.getD (27 + k) 0).fmod 4 + (k : Int), 2 * (r.getD (31 + k) 0).fmod 5)
theorem plc_ok (r : List Int) {k : Nat} (hk : k < 4) : OkP (plc r k) := by
  have a := fmod_rng (r.getD (27 + k) 0) (m := 4) (by decide)
  have b := fmod_rng (r.getD (31 + k) 0) (m := 5) (by decide)
  unfold OkP Sm plc
  simp only
  constructor <;> omega
theorem place_loop (hr : r.length = 60) (x0 x3 x4 x5 x6 x7 x8 x9 x2 x11 : Option D) : ∃ y2, forL (gSet 2) l2_law [.int 0, .int 1, .int 2, .int 3] [x0, some (.list (r.map PyData.int)), x2, x3, x4, x5, x6, x7, x8, x9, some (.list []), x11] =
    some (.nx [x0, some (.list (r.map PyData.int)), y2, x3, x4, x5, x6, x7, x8, x9, some (.list (((List.range 4).map (plc r)).map eP)), x11]) := by
  obtain ⟨ρ', e1, y2, e2⟩ := forL_fl (g := gSet 2) (b := l2_law) (N := 1000) (fun k : Nat => PyData.int (k : Nat)) eP (fun k => [plc r k]) (fun acc ρ => ∃ x2, ρ = [x0, some (.list (r.map PyData.int)), x2, x3, x4, x5, x6, x7, x8, x9, some (.list acc), x11]) (List.range 4) [] [x0, some (.list (r.map PyData.int)), x2, x3, x4, x5, x6, x7, x8, x9, some (.list []), x11]
    (fun k hk acc ρ ha ⟨x2, e⟩ => by
      subst e
      have hk : k < 4 := by simpa using hk
      have i27 := row_ix hr 27 27 rfl k (by omega)
      have i31 := row_ix hr 31 31 rfl k (by omega)
      have a := fmod_rng (r.getD (27 + k) 0) (m := 4) (by decide)
      have b := fmod_rng (r.getD (31 + k) 0) (m := 5) (by decide)
      have z4 : (4 : Int) ≠ 0 := by decide
      have z5 : (5 : Int) ≠ 0 := by decide
      have m1 := mok (a := 3) (b := (r.getD (27 + k) 0).fmod 4) Sm.lit (by unfold Sm; omega)
      have m2 := mok (a := 2) (b := (r.getD (31 + k) 0).fmod 5) Sm.lit (by unfold Sm; omega)
      have ha' : acc.length < 16777216 := by simp at ha; omega
      refine ⟨_, [x0, some (.list (r.map PyData.int)), some (.int (k : Nat)), x3, x4, x5, x6, x7, x8, x9, some (.list (acc ++ [.tuple [.int (3 * (r.getD (27 + k) 0).fmod 4 + (k : Int)), .int (2 * (r.getD (31 + k) 0).fmod 5)]])), x11], rfl, ?_, some (.int (k : Nat)), rfl⟩
      generalize r.map PyData.int = RR at *
      simp -implicitDefEqProofs only [l2_law, xVar_a, xC_a, xBin_a, xUn_a, tOf_a, tTru_a, tNotP_a, tAndP_a, tOrP_a, tyes_a, tno_a, tYesP_a, xNil_a, xCons_a, xTup_a, xLst_a, xAnd_a, xOr_a, xIf_a, xChain_a, oNo_a, oAt_a, xSl_a, xCall_a, xSeq_a, xIt_a, xLc_a, gSet_a, gTupD_a, gsNil_a, gsCons_a, sNop_a, sBrk_a, sCnt_a, sSeq_a, sRet_a, sIf_a, sSet_a, sTgt_a, sAug_a, sApp_a, sExt_a, sPut_a, sPutK_a, pkO_s, sFor_a, sWhile_a, sPar_a, runD_a, b2_s, c2_s, sqO_nx, sqO_rt, sqO_bk, sqO_ct, ifO_t, ifO_f, stO_s, endO_nx, endO_rt, andO_t, andO_f, orO_t, orO_f, chO_s, chP_t, chP_f, slO_s, atO_i, lcO_s, forO_s, gsO_s, nxO_s, tgO_s, paO_s, apO_s, exO_s, plO_s, ptO_s, dB_b, tru_b, tru_n, tru_i, tru_l, tru_t, is_n, isn_n, nn_n, nn_i, nn_b, nn_t, nn_l, add_ii, add'_ii, sub_ii, neg_i, lt_ii, le_ii, gt_ii, ge_ii, ix_l, ix_t, ix_s, at0, at1, at2, sl_l, sl_t, len_l, len_t, len_s, abs_i, int_i, int_b, max_ii, min_ii, tup_s, lst_s, seq_l, seq_t, sum_s, wipe_n, wipe_c, mul_ii, fdiv_ii, mod_ii, add_ll, add_tt, setAll, mkT, mkL, oNot, List.getD_cons_zero, List.getD_cons_succ, List.length_cons, List.length_nil, List.set_cons_zero, List.set_cons_succ, List.map_cons, List.map_nil, List.replicate, List.cons_append, List.nil_append, List.append_nil, Option.bind_some, Option.map_some, List.all_cons, List.all_nil, if_true, if_false, reduceIte, Nat.reduceAdd, Nat.reduceSub, Nat.reduceLT, Nat.reduceLeDiff, Nat.reduceEqDiff, decide_true, decide_false, Bool.and_true, Bool.and_self, Bool.true_and, Bool.not_true, Bool.not_false, ne_eq, not_true_eq_false, not_false_eq_true, Nat.zero_add, Bool.false_eq_true, and_self, true_and, and_true, i27, i31, mod_ii z4, mod_ii z5, m1, m2, ha']) (by rw [fl_single]; simp) ⟨x2, rfl⟩
  rw [fl_single] at e2
  subst e2
  exact ⟨_, e1⟩
theorem r1_four : oR1 [.int 4] = some [.int 0, .int 1, .int 2, .int 3] := rg0 4 (by omega)
/-- what the law's last part asks of its ships -/
theorem tail_facts (hr : r.length = 60) {R : List Sp} (hB : OkB R) {Q : List Int} (hq : Q = (List.range R.length).map fun k : Nat => (r.getD (23 + k) 0).fmod 5) :
    d__law_rounds [.tuple ((R.map Prod.fst).map eP), .tuple (Q.map PyData.int), .list (r.map PyData.int)] = some (.bool true) ∧
    d__law_anchors [.tuple (((List.range 4).map (plc r)).map eP), .tuple ((Q.take 3).map PyData.int)] = some (.bool true) ∧
    d__law_courses [.tuple (R.map eS), .list (r.map PyData.int)] = some (.bool true) ∧ d__law_seen [.tuple (R.map eS), .list (r.map PyData.int)] = some (.bool true) := by
  have hok : OkQ Q := fun q h => by
    rw [hq] at h
    obtain ⟨k, _, rfl⟩ := List.mem_map.mp h
    have := fmod_rng (r.getD (23 + k) 0) (m := 5) (by decide)
    unfold Sm
    omega
  have hql : Q.length = R.length := by rw [hq]; simp
  have hP : OkPs (R.map Prod.fst) := fun p h => by
    obtain ⟨s, hs, rfl⟩ := List.mem_map.mp h
    exact (hB.ok.1 s hs).1
  have hP4 : OkPs ((List.range 4).map (plc r)) := fun p h => by
    obtain ⟨k, hk, rfl⟩ := List.mem_map.mp h
    exact plc_ok r (by simpa using hk)
  refine ⟨law_rounds_ok hP hok (by rw [List.length_map]; exact hql) (by rw [List.length_map]; exact hB.2.1) hr, ?_, law_courses_ok hB.ok hr, law_seen_ok hB hr⟩
  have h2 := hB.1
  have h4 := hB.2.1
  have hok3 : OkQ (Q.take 3) := fun q h => hok q (List.mem_of_mem_take h)
  by_cases h : R.length = 2
  · exact law_anchors_ok hP4 hok3 (by simp) (n := 2) (by rw [List.length_take]; omega) nok2
  · exact law_anchors_ok hP4 hok3 (by simp) (n := 3) (by rw [List.length_take]; omega) nok3
theorem law_ok (ns : List Int) : d_law [scr (ns.map PyData.int)] = some (.bool true) := by
  obtain ⟨r, hr, hrow⟩ := row_int ns
  have i0 : atI (r.map PyData.int) 0 = some (.int (r.getD 0 0)) := row_at r 0 (by omega)
  have i21 : atI (r.map PyData.int) 21 = some (.int (r.getD 21 0)) := row_at r 21 (by omega)
  have i22 : atI (r.map PyData.int) 22 = some (.int (r.getD 22 0)) := row_at r 22 (by omega)
  obtain ⟨n', hn', hn3⟩ := fmod_nat (r.getD 0 0) (m := 3) (by decide)
  have c1 : (2 : Int) + (n' : Int) = ((2 + n' : Nat) : Int) := by omega
  generalize hnn : 2 + n' = n at *
  have z3 : (3 : Int) ≠ 0 := by decide
  have z5 : (5 : Int) ≠ 0 := by decide
  have g1 := rg0 n (by omega)
  obtain ⟨y2, y6, y7, lp⟩ := ship_loop hr (n := n) (by omega) (some (scr (ns.map PyData.int))) none (some (.int (n : Nat)))
  generalize hR0 : (List.range n).map (shp_ r) = R0 at *
  have hRl : R0.length = n := by rw [← hR0]; simp
  have hRb : ∀ s ∈ R0, (0 ≤ s.1.1 ∧ s.1.1 ≤ 8 ∧ 0 ≤ s.1.2 ∧ s.1.2 ≤ 8) ∧ -2 ≤ s.2.1 ∧ s.2.1 ≤ 2 ∧ -2 ≤ s.2.2 ∧ s.2.2 ≤ 2 := fun s hs => by
    rw [← hR0] at hs
    obtain ⟨k, _, rfl⟩ := List.mem_map.mp hs
    exact shp_rng r k
  obtain ⟨s0, s1, rest, rfl⟩ : ∃ s0 s1 rest, R0 = s0 :: s1 :: rest := by
    match R0, hRl with
    | [], h => simp at h; omega
    | [_], h => simp at h; omega
    | s0 :: s1 :: rest, _ => exact ⟨s0, s1, rest, rfl⟩
  have b0 := hRb s0 (by simp)
  have b1 := hRb s1 (by simp)
  -- the reaches
  generalize hq : (List.range n).map (fun k : Nat => (r.getD (23 + k) 0).fmod 5) = Q
  have lq : ∀ x2 x3 x5 x6 x7 x8 x9 x10 x11, lcL (gSet 2) tYesP (xBin oMod (xCall bInt (xCons (xBin oIx (xVar 1) (xBin oAdd (xC (.int 23)) (xVar 2))) xNil)) (xC (.int 5))) [some (scr (ns.map PyData.int)), some (.list (r.map PyData.int)), x2, x3, some (.int (n : Nat)), x5, x6, x7, x8, x9, x10, x11] ((List.range n).map fun k : Nat => PyData.int (k : Nat)) = some (Q.map PyData.int) := fun x2 x3 x5 x6 x7 x8 x9 x10 x11 => by
    rw [← hq, List.map_map]
    refine lcL_map _ _ _ fun k hk => ?_
    have hk : k < n := by simpa using hk
    have i := row_ix hr 23 23 rfl k (by omega)
    generalize r.map PyData.int = RR at *
    generalize ns.map PyData.int = NS at *
    simp -implicitDefEqProofs only [Function.comp, xVar_a, xC_a, xBin_a, xUn_a, tOf_a, tTru_a, tNotP_a, tAndP_a, tOrP_a, tyes_a, tno_a, tYesP_a, xNil_a, xCons_a, xTup_a, xLst_a, xAnd_a, xOr_a, xIf_a, xChain_a, oNo_a, oAt_a, xSl_a, xCall_a, xSeq_a, xIt_a, xLc_a, gSet_a, gTupD_a, gsNil_a, gsCons_a, sNop_a, sBrk_a, sCnt_a, sSeq_a, sRet_a, sIf_a, sSet_a, sTgt_a, sAug_a, sApp_a, sExt_a, sPut_a, sPutK_a, pkO_s, sFor_a, sWhile_a, sPar_a, runD_a, b2_s, c2_s, sqO_nx, sqO_rt, sqO_bk, sqO_ct, ifO_t, ifO_f, stO_s, endO_nx, endO_rt, andO_t, andO_f, orO_t, orO_f, chO_s, chP_t, chP_f, slO_s, atO_i, lcO_s, forO_s, gsO_s, nxO_s, tgO_s, paO_s, apO_s, exO_s, plO_s, ptO_s, dB_b, tru_b, tru_n, tru_i, tru_l, tru_t, is_n, isn_n, nn_n, nn_i, nn_b, nn_t, nn_l, add_ii, add'_ii, sub_ii, neg_i, lt_ii, le_ii, gt_ii, ge_ii, ix_l, ix_t, ix_s, at0, at1, at2, sl_l, sl_t, len_l, len_t, len_s, abs_i, int_i, int_b, max_ii, min_ii, tup_s, lst_s, seq_l, seq_t, sum_s, wipe_n, wipe_c, mul_ii, fdiv_ii, mod_ii, add_ll, add_tt, setAll, mkT, mkL, oNot, List.getD_cons_zero, List.getD_cons_succ, List.length_cons, List.length_nil, List.set_cons_zero, List.set_cons_succ, List.map_cons, List.map_nil, List.replicate, List.cons_append, List.nil_append, List.append_nil, Option.bind_some, Option.map_some, List.all_cons, List.all_nil, if_true, if_false, reduceIte, Nat.reduceAdd, Nat.reduceSub, Nat.reduceLT, Nat.reduceLeDiff, Nat.reduceEqDiff, decide_true, decide_false, Bool.and_true, Bool.and_self, Bool.true_and, Bool.not_true, Bool.not_false, ne_eq, not_true_eq_false, not_false_eq_true, Nat.zero_add, Bool.false_eq_true, and_self, true_and, and_true, i, mod_ii z5]
  have lf : ∀ (R : List Sp) x2 x3 x6 x7 x8 x9 x10, lcL (gSet 11) tYesP (xBin oIx (xVar 11) (xC (.int 0))) [some (scr (ns.map PyData.int)), some (.list (r.map PyData.int)), x2, x3, some (.int (n : Nat)), some (.tuple (R.map eS)), x6, x7, x8, x9, x10, none] (R.map eS) = some ((R.map Prod.fst).map eP) := fun R x2 x3 x6 x7 x8 x9 x10 => by
    rw [List.map_map]
    refine lcL_map _ _ _ fun s _ => ?_
    have e : oIx (eS s) (.int 0) = some (eP s.1) := rfl
    simp only [Function.comp]
    generalize eP s.1 = EP at *
    generalize eS s = ES at *
    generalize R.map eS = MR at *
    generalize r.map PyData.int = RR at *
    generalize ns.map PyData.int = NS at *
    simp -implicitDefEqProofs only [xVar_a, xC_a, xBin_a, xUn_a, tOf_a, tTru_a, tNotP_a, tAndP_a, tOrP_a, tyes_a, tno_a, tYesP_a, xNil_a, xCons_a, xTup_a, xLst_a, xAnd_a, xOr_a, xIf_a, xChain_a, oNo_a, oAt_a, xSl_a, xCall_a, xSeq_a, xIt_a, xLc_a, gSet_a, gTupD_a, gsNil_a, gsCons_a, sNop_a, sBrk_a, sCnt_a, sSeq_a, sRet_a, sIf_a, sSet_a, sTgt_a, sAug_a, sApp_a, sExt_a, sPut_a, sPutK_a, pkO_s, sFor_a, sWhile_a, sPar_a, runD_a, b2_s, c2_s, sqO_nx, sqO_rt, sqO_bk, sqO_ct, ifO_t, ifO_f, stO_s, endO_nx, endO_rt, andO_t, andO_f, orO_t, orO_f, chO_s, chP_t, chP_f, slO_s, atO_i, lcO_s, forO_s, gsO_s, nxO_s, tgO_s, paO_s, apO_s, exO_s, plO_s, ptO_s, dB_b, tru_b, tru_n, tru_i, tru_l, tru_t, is_n, isn_n, nn_n, nn_i, nn_b, nn_t, nn_l, add_ii, add'_ii, sub_ii, neg_i, lt_ii, le_ii, gt_ii, ge_ii, ix_l, ix_t, ix_s, at0, at1, at2, sl_l, sl_t, len_l, len_t, len_s, abs_i, int_i, int_b, max_ii, min_ii, tup_s, lst_s, seq_l, seq_t, sum_s, wipe_n, wipe_c, mul_ii, fdiv_ii, mod_ii, add_ll, add_tt, setAll, mkT, mkL, oNot, List.getD_cons_zero, List.getD_cons_succ, List.length_cons, List.length_nil, List.set_cons_zero, List.set_cons_succ, List.map_cons, List.map_nil, List.replicate, List.cons_append, List.nil_append, List.append_nil, Option.bind_some, Option.map_some, List.all_cons, List.all_nil, if_true, if_false, reduceIte, Nat.reduceAdd, Nat.reduceSub, Nat.reduceLT, Nat.reduceLeDiff, Nat.reduceEqDiff, decide_true, decide_false, Bool.and_true, Bool.and_self, Bool.true_and, Bool.not_true, Bool.not_false, ne_eq, not_true_eq_false, not_false_eq_true, Nat.zero_add, Bool.false_eq_true, and_self, true_and, and_true, e]
  have cq : Pm.cutD (Q.map PyData.int) none (some 3) = (Q.take 3).map PyData.int := by
    have := cut_upto (Q.map PyData.int) 3
    rw [← List.map_take] at this
    exact this
  have fb : flat (.bool true) = true := rfl
  by_cases h : (r.getD 21 0).fmod 3 = 0
  · have d : decide ((r.getD 21 0).fmod 3 = 0) = true := decide_eq_true h
    have rh := fmod_rng (r.getD 22 0) (m := 5) (by decide)
    generalize hhr : (r.getD 22 0).fmod 5 = hour at *
    have e1 : (s0.2.1 - s1.2.1).natAbs ≤ 4 := by omega
    have e2 : (s0.2.2 - s1.2.2).natAbs ≤ 4 := by omega
    have sd1 : Sm 100 (s0.2.1 - s1.2.1) := Nat.le_trans e1 (by decide)
    have sd2 : Sm 100 (s0.2.2 - s1.2.2) := Nat.le_trans e2 (by decide)
    have m1 := mok (a := hour) (by unfold Sm; omega) sd1
    have m2 := mok (a := hour) (by unfold Sm; omega) sd2
    have p1 : (hour * (s0.2.1 - s1.2.1)).natAbs ≤ 16 := by
      rw [Int.natAbs_mul]
      exact Nat.mul_le_mul (show hour.natAbs ≤ 4 by omega) e1
    have p2 : (hour * (s0.2.2 - s1.2.2)).natAbs ≤ 16 := by
      rw [Int.natAbs_mul]
      exact Nat.mul_le_mul (show hour.natAbs ≤ 4 by omega) e2
    have hB : OkB (s0 :: ((s0.1.1 + hour * (s0.2.1 - s1.2.1), s0.1.2 + hour * (s0.2.2 - s1.2.2)), s1.2) :: rest) := by
      refine ⟨by simp, by simp at hRl ⊢; omega, fun s hs => ?_⟩
      rcases List.mem_cons.mp hs with rfl | hs
      · omega
      · rcases List.mem_cons.mp hs with rfl | hs
        · simp only
          omega
        · have := hRb s (by simp [hs])
          omega
    have hl2 : (s0 :: ((s0.1.1 + hour * (s0.2.1 - s1.2.1), s0.1.2 + hour * (s0.2.2 - s1.2.2)), s1.2) :: rest).length = n := by simp at hRl ⊢; exact hRl
    obtain ⟨f1, f2, f3, f4⟩ := tail_facts hr hB (Q := Q) (by rw [hl2]; exact hq.symm)
    have eg : ((s0 :: s1 :: rest).map eS).set 1 (.tuple [.tuple [.int (s0.1.1 + hour * (s0.2.1 - s1.2.1)), .int (s0.1.2 + hour * (s0.2.2 - s1.2.2))], .tuple [.int s1.2.1, .int s1.2.2]]) = (s0 :: ((s0.1.1 + hour * (s0.2.1 - s1.2.1), s0.1.2 + hour * (s0.2.2 - s1.2.2)), s1.2) :: rest).map eS := rfl
    have ixn : ixN ((s0 :: s1 :: rest).map eS).length 1 = some 1 := by
      unfold ixN
      rw [if_pos (by decide), List.length_map, if_pos (by simp; omega)]
      rfl
    have a0 : atI ((s0 :: s1 :: rest).map eS) 0 = some (.tuple [.tuple [.int s0.1.1, .int s0.1.2], .tuple [.int s0.2.1, .int s0.2.2]]) := Pm.at0 _ _
    have a1 : atI ((s0 :: s1 :: rest).map eS) 1 = some (.tuple [.tuple [.int s1.1.1, .int s1.1.2], .tuple [.int s1.2.1, .int s1.2.2]]) := Pm.at1 _ _ _
    have lg : ∀ y, lcL (gSet 2) tYesP (xBin oAdd (xBin oIx (xBin oIx (xBin oIx (xVar 5) (xC (.int 0))) (xC (.int 0))) (xVar 2)) (xBin oMul' (xVar 8) (xBin oSub (xBin oIx (xBin oIx (xBin oIx (xVar 5) (xC (.int 0))) (xC (.int 1))) (xVar 2)) (xBin oIx (xBin oIx (xBin oIx (xVar 5) (xC (.int 1))) (xC (.int 1))) (xVar 2))))) [some (scr (ns.map PyData.int)), some (.list (r.map PyData.int)), y, none, some (.int (n : Nat)), some (.list ((s0 :: s1 :: rest).map eS)), y6, y7, some (.int hour), none, none, none] [.int 0, .int 1] = some [.int (s0.1.1 + hour * (s0.2.1 - s1.2.1)), .int (s0.1.2 + hour * (s0.2.2 - s1.2.2))] := fun y => by
      generalize (s0 :: s1 :: rest).map eS = MR at *
      generalize r.map PyData.int = RR at *
      generalize ns.map PyData.int = NS at *
      simp -implicitDefEqProofs only [lcL, xVar_a, xC_a, xBin_a, xUn_a, tOf_a, tTru_a, tNotP_a, tAndP_a, tOrP_a, tyes_a, tno_a, tYesP_a, xNil_a, xCons_a, xTup_a, xLst_a, xAnd_a, xOr_a, xIf_a, xChain_a, oNo_a, oAt_a, xSl_a, xCall_a, xSeq_a, xIt_a, xLc_a, gSet_a, gTupD_a, gsNil_a, gsCons_a, sNop_a, sBrk_a, sCnt_a, sSeq_a, sRet_a, sIf_a, sSet_a, sTgt_a, sAug_a, sApp_a, sExt_a, sPut_a, sPutK_a, pkO_s, sFor_a, sWhile_a, sPar_a, runD_a, b2_s, c2_s, sqO_nx, sqO_rt, sqO_bk, sqO_ct, ifO_t, ifO_f, stO_s, endO_nx, endO_rt, andO_t, andO_f, orO_t, orO_f, chO_s, chP_t, chP_f, slO_s, atO_i, lcO_s, forO_s, gsO_s, nxO_s, tgO_s, paO_s, apO_s, exO_s, plO_s, ptO_s, dB_b, tru_b, tru_n, tru_i, tru_l, tru_t, is_n, isn_n, nn_n, nn_i, nn_b, nn_t, nn_l, add_ii, add'_ii, sub_ii, neg_i, lt_ii, le_ii, gt_ii, ge_ii, ix_l, ix_t, ix_s, at0, at1, at2, sl_l, sl_t, len_l, len_t, len_s, abs_i, int_i, int_b, max_ii, min_ii, tup_s, lst_s, seq_l, seq_t, sum_s, wipe_n, wipe_c, mul_ii, fdiv_ii, mod_ii, add_ll, add_tt, setAll, mkT, mkL, oNot, List.getD_cons_zero, List.getD_cons_succ, List.length_cons, List.length_nil, List.set_cons_zero, List.set_cons_succ, List.map_cons, List.map_nil, List.replicate, List.cons_append, List.nil_append, List.append_nil, Option.bind_some, Option.map_some, List.all_cons, List.all_nil, if_true, if_false, reduceIte, Nat.reduceAdd, Nat.reduceSub, Nat.reduceLT, Nat.reduceLeDiff, Nat.reduceEqDiff, decide_true, decide_false, Bool.and_true, Bool.and_self, Bool.true_and, Bool.not_true, Bool.not_false, ne_eq, not_true_eq_false, not_false_eq_true, Nat.zero_add, Bool.false_eq_true, and_self, true_and, and_true, a0, a1, m1, m2]
    obtain ⟨z2, pl⟩ := place_loop hr (some (scr (ns.map PyData.int))) (some (.tuple (Q.map PyData.int))) (some (.int (n : Nat))) (some (.tuple ((s0 :: ((s0.1.1 + hour * (s0.2.1 - s1.2.1), s0.1.2 + hour * (s0.2.2 - s1.2.2)), s1.2) :: rest).map eS))) y6 y7 (some (.int hour)) (some (.list [.int (s0.1.1 + hour * (s0.2.1 - s1.2.1)), .int (s0.1.2 + hour * (s0.2.2 - s1.2.2))])) y2 none
    have lf := lf (s0 :: ((s0.1.1 + hour * (s0.2.1 - s1.2.1), s0.1.2 + hour * (s0.2.2 - s1.2.2)), s1.2) :: rest)
    generalize (s0 :: ((s0.1.1 + hour * (s0.2.1 - s1.2.1), s0.1.2 + hour * (s0.2.2 - s1.2.2)), s1.2) :: rest).map eS = MR2 at *
    generalize ((s0 :: ((s0.1.1 + hour * (s0.2.1 - s1.2.1), s0.1.2 + hour * (s0.2.2 - s1.2.2)), s1.2) :: rest).map Prod.fst).map eP = MF at *
    generalize ((List.range 4).map (plc r)).map eP = PL at *
    generalize (Q.take 3).map PyData.int = Q3 at *
    generalize Q.map PyData.int = MQ at *
    generalize (List.range n).map (fun k : Nat => PyData.int (k : Nat)) = RN at *
    generalize (s0 :: s1 :: rest).map eS = MR at *
    generalize r.map PyData.int = RR at *
    generalize ns.map PyData.int = NS at *
    simp -implicitDefEqProofs only [d_law, g_law, xVar_a, xC_a, xBin_a, xUn_a, tOf_a, tTru_a, tNotP_a, tAndP_a, tOrP_a, tyes_a, tno_a, tYesP_a, xNil_a, xCons_a, xTup_a, xLst_a, xAnd_a, xOr_a, xIf_a, xChain_a, oNo_a, oAt_a, xSl_a, xCall_a, xSeq_a, xIt_a, xLc_a, gSet_a, gTupD_a, gsNil_a, gsCons_a, sNop_a, sBrk_a, sCnt_a, sSeq_a, sRet_a, sIf_a, sSet_a, sTgt_a, sAug_a, sApp_a, sExt_a, sPut_a, sPutK_a, pkO_s, sFor_a, sWhile_a, sPar_a, runD_a, b2_s, c2_s, sqO_nx, sqO_rt, sqO_bk, sqO_ct, ifO_t, ifO_f, stO_s, endO_nx, endO_rt, andO_t, andO_f, orO_t, orO_f, chO_s, chP_t, chP_f, slO_s, atO_i, lcO_s, forO_s, gsO_s, nxO_s, tgO_s, paO_s, apO_s, exO_s, plO_s, ptO_s, dB_b, tru_b, tru_n, tru_i, tru_l, tru_t, is_n, isn_n, nn_n, nn_i, nn_b, nn_t, nn_l, add_ii, add'_ii, sub_ii, neg_i, lt_ii, le_ii, gt_ii, ge_ii, ix_l, ix_t, ix_s, at0, at1, at2, sl_l, sl_t, len_l, len_t, len_s, abs_i, int_i, int_b, max_ii, min_ii, tup_s, lst_s, seq_l, seq_t, sum_s, wipe_n, wipe_c, mul_ii, fdiv_ii, mod_ii, add_ll, add_tt, setAll, mkT, mkL, oNot, List.getD_cons_zero, List.getD_cons_succ, List.length_cons, List.length_nil, List.set_cons_zero, List.set_cons_succ, List.map_cons, List.map_nil, List.replicate, List.cons_append, List.nil_append, List.append_nil, Option.bind_some, Option.map_some, List.all_cons, List.all_nil, if_true, if_false, reduceIte, Nat.reduceAdd, Nat.reduceSub, Nat.reduceLT, Nat.reduceLeDiff, Nat.reduceEqDiff, decide_true, decide_false, Bool.and_true, Bool.and_self, Bool.true_and, Bool.not_true, Bool.not_false, ne_eq, not_true_eq_false, not_false_eq_true, Nat.zero_add, Bool.false_eq_true, and_self, true_and, and_true, hrow, i0, mod_ii z3, hn', c1, g1, lp, i21, eq_int, d, i22, mod_ii z5, hhr, r1_two, lg, a1, ixn, eg, lq, lf, f1, fb, r1_four, pl, cq, f2, f3, f4]
  · have d : decide ((r.getD 21 0).fmod 3 = 0) = false := decide_eq_false h
    have hB : OkB (s0 :: s1 :: rest) := by
      refine ⟨by simp, by omega, fun s hs => ?_⟩
      have := hRb s hs
      omega
    obtain ⟨f1, f2, f3, f4⟩ := tail_facts hr hB (Q := Q) (by rw [hRl]; exact hq.symm)
    obtain ⟨z2, pl⟩ := place_loop hr (some (scr (ns.map PyData.int))) (some (.tuple (Q.map PyData.int))) (some (.int (n : Nat))) (some (.tuple ((s0 :: s1 :: rest).map eS))) y6 y7 none none y2 none
    have lf := lf (s0 :: s1 :: rest)
    generalize ((s0 :: s1 :: rest).map Prod.fst).map eP = MF at *
    generalize ((List.range 4).map (plc r)).map eP = PL at *
    generalize (Q.take 3).map PyData.int = Q3 at *
    generalize Q.map PyData.int = MQ at *
    generalize (List.range n).map (fun k : Nat => PyData.int (k : Nat)) = RN at *
    generalize (s0 :: s1 :: rest).map eS = MR at *
    generalize r.map PyData.int = RR at *
    generalize ns.map PyData.int = NS at *
    simp -implicitDefEqProofs only [d_law, g_law, xVar_a, xC_a, xBin_a, xUn_a, tOf_a, tTru_a, tNotP_a, tAndP_a, tOrP_a, tyes_a, tno_a, tYesP_a, xNil_a, xCons_a, xTup_a, xLst_a, xAnd_a, xOr_a, xIf_a, xChain_a, oNo_a, oAt_a, xSl_a, xCall_a, xSeq_a, xIt_a, xLc_a, gSet_a, gTupD_a, gsNil_a, gsCons_a, sNop_a, sBrk_a, sCnt_a, sSeq_a, sRet_a, sIf_a, sSet_a, sTgt_a, sAug_a, sApp_a, sExt_a, sPut_a, sPutK_a, pkO_s, sFor_a, sWhile_a, sPar_a, runD_a, b2_s, c2_s, sqO_nx, sqO_rt, sqO_bk, sqO_ct, ifO_t, ifO_f, stO_s, endO_nx, endO_rt, andO_t, andO_f, orO_t, orO_f, chO_s, chP_t, chP_f, slO_s, atO_i, lcO_s, forO_s, gsO_s, nxO_s, tgO_s, paO_s, apO_s, exO_s, plO_s, ptO_s, dB_b, tru_b, tru_n, tru_i, tru_l, tru_t, is_n, isn_n, nn_n, nn_i, nn_b, nn_t, nn_l, add_ii, add'_ii, sub_ii, neg_i, lt_ii, le_ii, gt_ii, ge_ii, ix_l, ix_t, ix_s, at0, at1, at2, sl_l, sl_t, len_l, len_t, len_s, abs_i, int_i, int_b, max_ii, min_ii, tup_s, lst_s, seq_l, seq_t, sum_s, wipe_n, wipe_c, mul_ii, fdiv_ii, mod_ii, add_ll, add_tt, setAll, mkT, mkL, oNot, List.getD_cons_zero, List.getD_cons_succ, List.length_cons, List.length_nil, List.set_cons_zero, List.set_cons_succ, List.map_cons, List.map_nil, List.replicate, List.cons_append, List.nil_append, List.append_nil, Option.bind_some, Option.map_some, List.all_cons, List.all_nil, if_true, if_false, reduceIte, Nat.reduceAdd, Nat.reduceSub, Nat.reduceLT, Nat.reduceLeDiff, Nat.reduceEqDiff, decide_true, decide_false, Bool.and_true, Bool.and_self, Bool.true_and, Bool.not_true, Bool.not_false, ne_eq, not_true_eq_false, not_false_eq_true, Nat.zero_add, Bool.false_eq_true, and_self, true_and, and_true, hrow, i0, mod_ii z3, hn', c1, g1, lp, i21, eq_int, d, lq, lf, f1, fb, r1_four, pl, cq, f2, f3, f4]
end
end K25


theorem PySem.Challenge.cw_dockheld_k25_whole_rounds_courses_holds : PySem.Challenge.rw_dockheld_k25_whole_rounds_courses.Holds := by
  exact K25.holds_of fun ns _ => K25.law_ok ns

