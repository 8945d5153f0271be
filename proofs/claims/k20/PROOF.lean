import PyProof.Rows.All
import HandS.ForMost
import HandS.Deep
import HandS.TupAny
import HandS.Defaults
import HandS.Wide
import HandS.WideBits
import HandS.TupMul
import HandS.IsInst
import HandS.Flow
import PyProof.Rows.InDataRows
import HandS.Zip
import HandS.Rev
import HandS.RevRange
import KE.GoesEnum
import HandS.Style
import HandS.HeadEnd
import HandS.HeadHook1
import HandS.HeadHook2
import HandS.Conv
import KE.SortData
import HandS.DictComp
import KE.DataMinMax
import HandS.SortKw
import KE.DatumOrd
import HandS.SetFor
import HandS.Strs
import KE.SortKeyHeap
import HandS.Head0
import HandS.Head1
import HandS.Head2
import PySem.Challenge.RW_dockheld_k20_whole_watches_hoses
set_option Elab.async false
set_option linter.all false
set_option maxRecDepth 100000
set_option maxHeartbeats 0
set_option exponentiation.threshold 3000
/-! Pm: plain data for the values, a simulation of the layer's readings by plain functions over slots. -/
namespace Pm
open PySem PySem.Spec PyProof.Rows L2

abbrev D := PyData
abbrev PEnv := List (Option D)
abbrev Xp := PEnv → Option D

/-- a list of the written part -/
def KL (K : PySem.W.Frag) (a : Addr) (xs : List V) : Prop :=
  ∃ (o : Obj) (its : Array Value) (n : Nat), K.lookup a = some o ∧ o.cls = .type "list" ∧ o.dict = none ∧ o.data = .seq its n ∧ its.size ≤ sizeLine ∧ Vals xs its.toList

def keyD : Key → D
  | .inl i => .int i
  | .inr s => .str s

/-- the script itself -/
def scr (ds : List D) : D := .dict [(.none, .list ds)]

mutual
/-- v stands for d in H; the cells on the way keep off A -/
inductive Rp (K : PySem.W.Frag) (A : Addr → Prop) (H : Hp) : V → D → Prop
  | non : Rp K A H .non .none
  | bl (b : Bool) : Rp K A H (.bl b) (.bool b)
  | int (i : Int) : Rp K A H (.int i) (.int i)
  | str (x : Str) : Rp K A H (.str x) (.str x)
  | lst {a : Addr} {xs : List V} {ds : List D} : H a = some (.lst xs) → ¬ A a → RpL K A H xs ds → Rp K A H (.ref a) (.list ds)
  | scr {a : Addr} {xs : List V} {ds : List D} : Rd H a (.lst xs) → ¬ A a → RpL K A H xs ds → Rp K A H (.ref a) (.dict [(.none, .list ds)])
  | kl {a : Addr} {xs : List V} {ds : List D} : KL K a xs → RpL K A H xs ds → Rp K A H (.ref a) (.dict [(.none, .list ds)])
  | tup {a : Addr} {xs : List V} {ds : List D} : H a = some (.tup xs) → ¬ A a → RpL K A H xs ds → Rp K A H (.ref a) (.tuple ds)
  | dic {a : Addr} {ks : List (Key × V)} {ds : List D} {kd : List (D × D)} : H a = some (.dK ks) → ¬ A a → RpL K A H (ks.map (·.2)) ds → kd = (ks.map fun p => keyD p.1).zip ds → Rp K A H (.ref a) (.dict kd)
inductive RpL (K : PySem.W.Frag) (A : Addr → Prop) (H : Hp) : List V → List D → Prop
  | nil : RpL K A H [] []
  | cons {v : V} {vs : List V} {d : D} {ds : List D} : Rp K A H v d → RpL K A H vs ds → RpL K A H (v :: vs) (d :: ds)
end

/-- the cell at a is d, whatever is said of a itself -/
inductive Tp (K : PySem.W.Frag) (A : Addr → Prop) (H : Hp) : Addr → D → Prop
  | lst {a : Addr} {xs : List V} {ds : List D} : H a = some (.lst xs) → RpL K A H xs ds → Tp K A H a (.list ds)
  | dic {a : Addr} {ks : List (Key × V)} {ds : List D} {kd : List (D × D)} : H a = some (.dK ks) → RpL K A H (ks.map (·.2)) ds → kd = (ks.map fun p => keyD p.1).zip ds → Tp K A H a (.dict kd)

def isMut : D → Bool
  | .list _ => true
  | .dict _ => true
  | _ => false

section
variable {K : PySem.W.Frag} {A A' : Addr → Prop} {H H' : Hp} {v : V} {d : D} {vs : List V} {ds : List D} {a : Addr}

theorem rd_some {xs : HO} (h : Rd H a xs) : ∃ o, H a = some o := by
  rcases h with h | ⟨o, h⟩
  · exact ⟨_, h⟩
  · exact ⟨_, h⟩

mutual
theorem Rp.step (hk : ∀ a o, H a = some o → ¬ A a → H' a = some o) (ha : ∀ a, A' a → A a ∨ H a = none) : ∀ {v : V} {d : D}, Rp K A H v d → Rp K A' H' v d
  | _, _, .non => .non
  | _, _, .bl b => .bl b
  | _, _, .int i => .int i
  | _, _, .str x => .str x
  | _, _, .lst h n r => by
    refine .lst (hk _ _ h n) (fun z => ?_) (RpL.step hk ha r)
    rcases ha _ z with q | q
    · exact n q
    · rw [q] at h; cases h
  | _, _, .scr h n r => by
    refine .scr ?_ (fun z => ?_) (RpL.step hk ha r)
    · rcases h with h | ⟨o, h⟩
      · exact .inl (hk _ _ h n)
      · exact .inr ⟨o, hk _ _ h n⟩
    · obtain ⟨o, e⟩ := rd_some h
      rcases ha _ z with q | q
      · exact n q
      · rw [q] at e; cases e
  | _, _, .kl h r => .kl h (RpL.step hk ha r)
  | _, _, .tup h n r => by
    refine .tup (hk _ _ h n) (fun z => ?_) (RpL.step hk ha r)
    rcases ha _ z with q | q
    · exact n q
    · rw [q] at h; cases h
  | _, _, .dic h n r e => by
    refine .dic (hk _ _ h n) (fun z => ?_) (RpL.step hk ha r) e
    rcases ha _ z with q | q
    · exact n q
    · rw [q] at h; cases h
theorem RpL.step (hk : ∀ a o, H a = some o → ¬ A a → H' a = some o) (ha : ∀ a, A' a → A a ∨ H a = none) : ∀ {vs : List V} {ds : List D}, RpL K A H vs ds → RpL K A' H' vs ds
  | _, _, .nil => .nil
  | _, _, .cons h r => .cons (Rp.step hk ha h) (RpL.step hk ha r)
end
theorem Rp.mono (s : Same H H') (h : Rp K A H v d) : Rp K A H' v d := h.step (fun a o e _ => s a o e) fun _ z => .inl z
theorem RpL.mono (s : Same H H') (h : RpL K A H vs ds) : RpL K A H' vs ds := h.step (fun a o e _ => s a o e) fun _ z => .inl z
theorem Rp.anti (h : Rp K A H v d) (ha : ∀ a, A' a → A a) : Rp K A' H v d := h.step (fun _ _ e _ => e) fun a z => .inl (ha a z)
theorem RpL.anti (h : RpL K A H vs ds) (ha : ∀ a, A' a → A a) : RpL K A' H vs ds := h.step (fun _ _ e _ => e) fun a z => .inl (ha a z)
theorem Tp.step (h : Tp K A H a d) (hk : ∀ a o, H a = some o → ¬ A a → H' a = some o) (ha : ∀ a, A' a → A a ∨ H a = none) (h0 : ∀ o, H a = some o → H' a = some o) : Tp K A' H' a d := by
  cases h with
  | lst e r => exact .lst (h0 _ e) (r.step hk ha)
  | dic e r z => exact .dic (h0 _ e) (r.step hk ha) z
theorem Tp.mono (s : Same H H') (h : Tp K A H a d) : Tp K A H' a d := h.step (fun a o e _ => s a o e) (fun _ z => .inl z) fun o e => s _ o e
theorem Tp.rp (h : Tp K A H a d) (n : ¬ A a) : Rp K A H (.ref a) d := by
  cases h with
  | lst e r => exact .lst e n r
  | dic e r z => exact .dic e n r z
theorem Tp.some (h : Tp K A H a d) : ∃ o, H a = Option.some o ∧ ∀ xs, o ≠ .tup xs := by
  cases h with
  | lst e r => exact ⟨_, e, fun _ h => nomatch h⟩
  | dic e r z => exact ⟨_, e, fun _ h => nomatch h⟩
theorem RpL.length (h : RpL K A H vs ds) : vs.length = ds.length := by
  induction ds generalizing vs with
  | nil => cases h; rfl
  | cons d ds ih => cases h with | cons _ r => simp [ih r]
theorem RpL.app {vs' : List V} {ds' : List D} (h' : RpL K A H vs' ds') : ∀ {vs : List V} {ds : List D}, RpL K A H vs ds → RpL K A H (vs ++ vs') (ds ++ ds')
  | _, _, .nil => h'
  | _, _, .cons h r => .cons h (RpL.app h' r)
theorem RpL.one (h : Rp K A H v d) : RpL K A H [v] [d] := .cons h .nil
theorem RpL.get : ∀ {vs : List V} {ds : List D} {i : Nat} {d : D}, RpL K A H vs ds → ds[i]? = some d → ∃ v, vs[i]? = some v ∧ Rp K A H v d
  | _, _, _, _, .nil, e => by simp at e
  | _, _, 0, _, .cons h r, e => by simp at e; subst e; exact ⟨_, rfl, h⟩
  | _, _, i + 1, _, .cons h r, e => by
    obtain ⟨v, e', q⟩ := RpL.get (i := i) r (by simpa using e)
    exact ⟨v, by simpa using e', q⟩
theorem RpL.getV : ∀ {vs : List V} {ds : List D} {i : Nat} {v : V}, RpL K A H vs ds → vs[i]? = some v → ∃ d, ds[i]? = some d ∧ Rp K A H v d
  | _, _, _, _, .nil, e => by simp at e
  | _, _, 0, _, .cons h r, e => by simp at e; subst e; exact ⟨_, rfl, h⟩
  | _, _, i + 1, _, .cons h r, e => by
    obtain ⟨v, e', q⟩ := RpL.getV (i := i) r (by simpa using e)
    exact ⟨v, by simpa using e', q⟩
theorem RpL.set {v : V} {d : D} (h : Rp K A H v d) : ∀ {vs : List V} {ds : List D} (i : Nat), RpL K A H vs ds → RpL K A H (vs.set i v) (ds.set i d)
  | _, _, _, .nil => .nil
  | _, _, 0, .cons _ r => .cons h r
  | _, _, i + 1, .cons q r => .cons q (RpL.set h i r)
theorem RpL.take : ∀ {vs : List V} {ds : List D} (n : Nat), RpL K A H vs ds → RpL K A H (vs.take n) (ds.take n)
  | _, _, 0, _ => by simpa using RpL.nil
  | _, _, _ + 1, .nil => .nil
  | _, _, n + 1, .cons h r => .cons h (RpL.take n r)
theorem RpL.drop : ∀ {vs : List V} {ds : List D} (n : Nat), RpL K A H vs ds → RpL K A H (vs.drop n) (ds.drop n)
  | _, _, 0, r => r
  | _, _, _ + 1, .nil => .nil
  | _, _, n + 1, .cons _ r => RpL.drop n r
theorem RpL.eraseIdx : ∀ {vs : List V} {ds : List D} (n : Nat), RpL K A H vs ds → RpL K A H (vs.eraseIdx n) (ds.eraseIdx n)
  | _, _, _, .nil => .nil
  | _, _, 0, .cons _ r => r
  | _, _, n + 1, .cons h r => .cons h (RpL.eraseIdx n r)
theorem RpL.reverse : ∀ {vs : List V} {ds : List D}, RpL K A H vs ds → RpL K A H vs.reverse ds.reverse
  | _, _, .nil => .nil
  | _, _, .cons h r => by rw [List.reverse_cons, List.reverse_cons]; exact RpL.app (.one h) (RpL.reverse r)
theorem RpL.rep (h : RpL K A H vs ds) : ∀ n : Nat, RpL K A H (List.replicate n vs).flatten (List.replicate n ds).flatten
  | 0 => .nil
  | n + 1 => by rw [List.replicate_succ, List.replicate_succ]; exact RpL.app (RpL.rep h n) h
end

/-- no tuple -/
def NT (o : HO) : Prop := ∀ xs, o ≠ .tup xs
theorem NT.lst {xs : List V} : NT (.lst xs) := fun _ h => nomatch h
theorem NT.dK {xs : List (Key × V)} : NT (.dK xs) := fun _ h => nomatch h
/-! ### slots -/
def Av (A0 : Addr → Prop) (B : Nat → Option Addr) (a : Addr) : Prop := A0 a ∨ ∃ i, B i = some a

structure Sim (K : PySem.W.Frag) (H0 : Hp) (A0 : Addr → Prop) (G : List (V × D)) (O : List Nat) (σ : L2.St) (H : Hp) (ρ : PEnv) (B : Nat → Option Addr) : Prop where
  same : Same H0 H
  a0 : ∀ a, A0 a → ∃ o, H a = some o ∧ NT o
  len : ρ.length = σ.length
  bo : ∀ i a, B i = some a → i ∈ O
  inj : ∀ i j a, B i = some a → B j = some a → i = j
  fr : ∀ i a, B i = some a → H0 a = none ∧ ¬ A0 a ∧ ∃ o, H a = some o ∧ NT o
  ob : ∀ i d, i ∈ O → ρ[i]? = some (some d) → isMut d = true → ∃ a, B i = some a ∧ σ[i]? = some (some (.ref a)) ∧ Tp K (Av A0 B) H a d
  slot : ∀ i d, ρ[i]? = some (some d) → (∃ a, B i = some a ∧ σ[i]? = some (some (.ref a)) ∧ Tp K (Av A0 B) H a d) ∨ (B i = none ∧ ∃ v, σ[i]? = some (some v) ∧ Rp K (Av A0 B) H v d)
  gs : ∀ p ∈ G, Rp K (Av A0 B) H p.1 p.2

section
variable {K : PySem.W.Frag} {A0 A : Addr → Prop} {H0 H H' : Hp} {G : List (V × D)} {O O' : List Nat} {σ : L2.St} {ρ : PEnv} {B : Nat → Option Addr} {v : V} {d : D}
theorem Sim.tr (S : Sim K H0 A0 G O σ H ρ B) : ∀ a, Av A0 B a → ∃ o, H a = some o ∧ NT o := fun a h => by
  rcases h with h | ⟨i, h⟩
  · exact S.a0 a h
  · exact (S.fr i a h).2.2
theorem Sim.mono (S : Sim K H0 A0 G O σ H ρ B) (s : Same H H') : Sim K H0 A0 G O σ H' ρ B where
  same := S.same.trans s
  a0 := fun a h => let ⟨o, e, n⟩ := S.a0 a h; ⟨o, s _ _ e, n⟩
  len := S.len
  bo := S.bo
  inj := S.inj
  fr := fun i a h => let ⟨h1, h2, o, e, n⟩ := S.fr i a h; ⟨h1, h2, o, s _ _ e, n⟩
  ob := fun i d hi h m => let ⟨a, h1, h2, h3⟩ := S.ob i d hi h m; ⟨a, h1, h2, h3.mono s⟩
  slot := fun i d h => by
    rcases S.slot i d h with ⟨a, h1, h2, h3⟩ | ⟨h1, v, h2, h3⟩
    · exact .inl ⟨a, h1, h2, h3.mono s⟩
    · exact .inr ⟨h1, v, h2, h3.mono s⟩
  gs := fun p hp => (S.gs p hp).mono s
/-- a is not one of the tracked cells of A -/
theorem Sim.new (S : Sim K H0 A0 G O σ H ρ B) {a : Addr} (h : H a = none) : ¬ Av A0 B a := fun z => by
  obtain ⟨o, e, _⟩ := S.tr a z
  rw [h] at e; cases e
/-- fewer own slots -/
theorem Sim.weak (S : Sim K H0 A0 G O σ H ρ B) (h : ∀ i ∈ O', i ∈ O) : ∃ B', Sim K H0 A0 G O' σ H ρ B' := by
  let B' : Nat → Option Addr := fun i => if i ∈ O' then B i else none
  have sub : ∀ i a, B' i = some a → B i = some a ∧ i ∈ O' := fun i a e => by
    by_cases hi : i ∈ O'
    · exact ⟨by simpa [B', hi] using e, hi⟩
    · simp [B', hi] at e
  have an : ∀ a, Av A0 B' a → Av A0 B a := fun a z => by
    rcases z with z | ⟨i, z⟩
    · exact .inl z
    · exact .inr ⟨i, (sub i a z).1⟩
  have ans : ∀ a, Av A0 B' a → Av A0 B a ∨ H a = none := fun a z => .inl (an a z)
  refine ⟨B', ⟨S.same, S.a0, S.len, fun i a e => (sub i a e).2, fun i j a e e' => S.inj i j a (sub i a e).1 (sub j a e').1, fun i a e => S.fr i a (sub i a e).1, fun i d hi e m => ?_, fun i d e => ?_, fun p hp => (S.gs p hp).anti an⟩⟩
  · obtain ⟨a, h1, h2, h3⟩ := S.ob i d (h i hi) e m
    exact ⟨a, by simp [B', hi, h1], h2, h3.step (fun _ _ q _ => q) ans fun _ q => q⟩
  · rcases S.slot i d e with ⟨a, h1, h2, h3⟩ | ⟨h1, v, h2, h3⟩
    · by_cases hi : i ∈ O'
      · exact .inl ⟨a, by simp [B', hi, h1], h2, h3.step (fun _ _ q _ => q) ans fun _ q => q⟩
      · refine .inr ⟨by simp [B', hi], _, h2, (h3.step (fun _ _ q _ => q) ans fun _ q => q).rp fun z => ?_⟩
        rcases z with z | ⟨j, z⟩
        · exact (S.fr i a h1).2.1 z
        · obtain ⟨z1, z2⟩ := sub j a z
          have := S.inj i j a h1 z1
          subst this
          exact hi z2
    · refine .inr ⟨?_, v, h2, h3.anti an⟩
      by_cases hi : i ∈ O' <;> simp [B', hi, h1]
/-- the slots ts are nobody's own -/
def restr (ts : List Nat) (B : Nat → Option Addr) : Nat → Option Addr := fun j => if ts.contains j then none else B j
theorem restr_one (i j : Nat) (B : Nat → Option Addr) : restr [i] B j = if j = i then none else B j := by
  by_cases h : j = i
  · simp [restr, h]
  · have : ([i].contains j) = false := by simp [h]
    simp [restr, this, h]
theorem restr_sub {ts : List Nat} {B : Nat → Option Addr} {j : Nat} {a : Addr} (h : restr ts B j = some a) : B j = some a := by
  unfold restr at h
  split at h
  · cases h
  · exact h
theorem restr_av {ts : List Nat} {B : Nat → Option Addr} {A0 : Addr → Prop} {a : Addr} (h : Av A0 (restr ts B) a) : Av A0 B a := by
  rcases h with h | ⟨i, h⟩
  · exact .inl h
  · exact .inr ⟨i, restr_sub h⟩
theorem restr_app (ts us : List Nat) (B : Nat → Option Addr) : restr us (restr ts B) = restr (ts ++ us) B := by
  funext j
  unfold restr
  by_cases h1 : us.contains j <;> by_cases h2 : ts.contains j <;> simp_all
theorem restr_nil (B : Nat → Option Addr) : restr [] B = B := by
  funext j
  simp [restr]
/-- a slot takes a value that is not one's own -/
theorem Sim.setS (S : Sim K H0 A0 G O σ H ρ B) {i : Nat} (r : Rp K (Av A0 B) H v d) (hi : i < ρ.length) : Sim K H0 A0 G (O.filter (· != i)) (σ.set i (some v)) H (ρ.set i (some d)) (restr [i] B) := by
  have sub : ∀ j a, restr [i] B j = some a → B j = some a ∧ j ≠ i := fun j a e => by
    rw [restr_one] at e
    by_cases hj : j = i
    · simp [hj] at e
    · exact ⟨by simpa [hj] using e, hj⟩
  have an : ∀ a, Av A0 (restr [i] B) a → Av A0 B a := fun a z => restr_av z
  have ans : ∀ a, Av A0 (restr [i] B) a → Av A0 B a ∨ H a = none := fun a z => .inl (an a z)
  have hiσ : i < σ.length := by rw [← S.len]; exact hi
  refine ⟨S.same, S.a0, by simp [S.len], fun j a e => ?_, fun j k a e e' => S.inj j k a (sub j a e).1 (sub k a e').1, fun j a e => S.fr j a (sub j a e).1, fun j d' hj e m => ?_, fun j d' e => ?_, fun p hp => (S.gs p hp).anti an⟩
  · exact List.mem_filter.mpr ⟨S.bo j a (sub j a e).1, by simp [(sub j a e).2]⟩
  · obtain ⟨hj1, hj2⟩ := List.mem_filter.mp hj
    have hne : j ≠ i := by simpa using hj2
    rw [List.getElem?_set_ne (Ne.symm hne)] at e
    obtain ⟨a, h1, h2, h3⟩ := S.ob j d' hj1 e m
    exact ⟨a, by rw [restr_one, if_neg hne, h1], by rw [List.getElem?_set_ne (Ne.symm hne)]; exact h2, h3.step (fun _ _ q _ => q) ans fun _ q => q⟩
  · by_cases hne : j = i
    · subst hne
      rw [List.getElem?_set_self hi] at e
      cases e
      exact .inr ⟨by rw [restr_one, if_pos rfl], v, by rw [List.getElem?_set_self hiσ], r.anti an⟩
    · rw [List.getElem?_set_ne (Ne.symm hne)] at e
      rw [List.getElem?_set_ne (Ne.symm hne)]
      rcases S.slot j d' e with ⟨a, h1, h2, h3⟩ | ⟨h1, v, h2, h3⟩
      · exact .inl ⟨a, by rw [restr_one, if_neg hne, h1], h2, h3.step (fun _ _ q _ => q) ans fun _ q => q⟩
      · exact .inr ⟨by rw [restr_one, if_neg hne, h1], v, h2, h3.anti an⟩
/-- a slot takes a new cell as its own -/
theorem Sim.setF (S : Sim K H0 A0 G O σ H ρ B) (s : Same H H') {i : Nat} {a : Addr} (hn : H a = none) (r : Tp K (fun b => Av A0 B b ∨ b = a) H' a d) (hi : i < ρ.length) : ∃ B', Sim K H0 A0 G (i :: O) (σ.set i (some (.ref a))) H' (ρ.set i (some d)) B' := by
  let B' : Nat → Option Addr := fun j => if j = i then some a else B j
  have sub : ∀ j b, B' j = some b → (j = i ∧ b = a) ∨ (j ≠ i ∧ B j = some b) := fun j b e => by
    by_cases hj : j = i
    · simp [B', hj] at e; exact .inl ⟨hj, e.symm⟩
    · exact .inr ⟨hj, by simpa [B', hj] using e⟩
  have an : ∀ b, Av A0 B' b → Av A0 B b ∨ b = a := fun b z => by
    rcases z with z | ⟨j, z⟩
    · exact .inl (.inl z)
    · rcases sub j b z with ⟨_, q⟩ | ⟨_, q⟩
      · exact .inr q
      · exact .inl (.inr ⟨j, q⟩)
  have ans : ∀ b, Av A0 B' b → Av A0 B b ∨ H b = none := fun b z => by
    rcases an b z with z | z
    · exact .inl z
    · exact .inr (by rw [z]; exact hn)
  have kp : ∀ b o, H b = some o → ¬ Av A0 B b → H' b = some o := fun b o e _ => s b o e
  have hiσ : i < σ.length := by rw [← S.len]; exact hi
  have na : ¬ A0 a := fun z => by
    obtain ⟨o, e, _⟩ := S.a0 a z
    rw [hn] at e; cases e
  have nb : ∀ j, B j ≠ some a := fun j z => by
    obtain ⟨_, _, o, e, _⟩ := S.fr j a z
    rw [hn] at e; cases e
  refine ⟨B', ⟨S.same.trans s, fun b z => let ⟨o, e, n⟩ := S.a0 b z; ⟨o, s _ _ e, n⟩, by simp [S.len], fun j b e => ?_, fun j k b e e' => ?_, fun j b e => ?_, fun j d' hj e m => ?_, fun j d' e => ?_, fun p hp => (S.gs p hp).step kp ans⟩⟩
  · rcases sub j b e with ⟨q, _⟩ | ⟨_, q⟩
    · rw [q]; exact List.mem_cons_self
    · exact List.mem_cons_of_mem _ (S.bo j b q)
  · rcases sub j b e with ⟨q, q'⟩ | ⟨q, q'⟩
    · rcases sub k b e' with ⟨p, p'⟩ | ⟨p, p'⟩
      · rw [q, p]
      · rw [q'] at p'; exact absurd p' (nb k)
    · rcases sub k b e' with ⟨p, p'⟩ | ⟨p, p'⟩
      · rw [p'] at q'; exact absurd q' (nb j)
      · exact S.inj j k b q' p'
  · rcases sub j b e with ⟨q, q'⟩ | ⟨q, q'⟩
    · rw [q']
      refine ⟨?_, na, r.some⟩
      exact S.same.free hn
    · obtain ⟨h1, h2, o, h3, h4⟩ := S.fr j b q'
      exact ⟨h1, h2, o, s _ _ h3, h4⟩
  · by_cases hne : j = i
    · subst hne
      rw [List.getElem?_set_self hi] at e
      cases e
      exact ⟨a, by simp [B'], by rw [List.getElem?_set_self hiσ], r.step (fun _ _ q _ => q) (fun b z => .inl (an b z)) fun _ q => q⟩
    · rw [List.getElem?_set_ne (Ne.symm hne)] at e
      rw [List.getElem?_set_ne (Ne.symm hne)]
      rcases List.mem_cons.mp hj with hj | hj
      · exact absurd hj hne
      obtain ⟨b, h1, h2, h3⟩ := S.ob j d' hj e m
      exact ⟨b, by simp [B', hne, h1], h2, h3.step kp ans fun o q => s _ _ q⟩
  · by_cases hne : j = i
    · subst hne
      rw [List.getElem?_set_self hi] at e
      cases e
      exact .inl ⟨a, by simp [B'], by rw [List.getElem?_set_self hiσ], r.step (fun _ _ q _ => q) (fun b z => .inl (an b z)) fun _ q => q⟩
    · rw [List.getElem?_set_ne (Ne.symm hne)] at e
      rw [List.getElem?_set_ne (Ne.symm hne)]
      rcases S.slot j d' e with ⟨b, h1, h2, h3⟩ | ⟨h1, v, h2, h3⟩
      · exact .inl ⟨b, by simp [B', hne, h1], h2, h3.step kp ans fun o q => s _ _ q⟩
      · exact .inr ⟨by simp [B', hne, h1], v, h2, h3.step kp ans⟩
/-- an own cell is written -/
theorem Sim.write (S : Sim K H0 A0 G O σ H ρ B) {i : Nat} {a : Addr} {o : HO} (hb : B i = some a) (hs : σ[i]? = some (some (.ref a))) (r : Tp K (Av A0 B) (upd H a o) a d) (hi : i < ρ.length) : Sim K H0 A0 G O σ (upd H a o) (ρ.set i (some d)) B := by
  obtain ⟨f0, f1, o1, f2, f3⟩ := S.fr i a hb
  have nt : NT o := by
    obtain ⟨o', e, n⟩ := r.some
    rw [upd_same] at e
    cases e
    exact n
  have av : Av A0 B a := .inr ⟨i, hb⟩
  have kp : ∀ b q, H b = some q → ¬ Av A0 B b → upd H a o b = some q := fun b q e n => by
    rw [upd_ne (fun z => n (by rw [z]; exact av))]; exact e
  have kn : ∀ b q, H b = some q → b ≠ a → upd H a o b = some q := fun b q e n => by
    rw [upd_ne n]; exact e
  have ans : ∀ b, Av A0 B b → Av A0 B b ∨ H b = none := fun b z => .inl z
  have there : ∀ b, (∃ q, H b = some q ∧ NT q) → ∃ q, upd H a o b = some q ∧ NT q := fun b ⟨q, e, n⟩ => by
    by_cases hb : b = a
    · subst hb; exact ⟨o, upd_same, nt⟩
    · exact ⟨q, kn b q e hb, n⟩
  refine ⟨fun b q e => ?_, fun b z => there b (S.a0 b z), by simp [S.len], S.bo, S.inj, fun j b e => ?_, fun j d' hj e m => ?_, fun j d' e => ?_, fun p hp => (S.gs p hp).step kp ans⟩
  · exact kn b q (S.same b q e) (fun z => by rw [z, f0] at e; cases e)
  · obtain ⟨h1, h2, h3⟩ := S.fr j b e
    exact ⟨h1, h2, there b h3⟩
  · by_cases hne : j = i
    · subst hne
      rw [List.getElem?_set_self hi] at e
      cases e
      exact ⟨a, hb, hs, r⟩
    · rw [List.getElem?_set_ne (Ne.symm hne)] at e
      obtain ⟨b, h1, h2, h3⟩ := S.ob j d' hj e m
      refine ⟨b, h1, h2, h3.step kp ans fun q z => kn b q z fun w => hne ?_⟩
      rw [w] at h1
      exact S.inj j i a h1 hb
  · by_cases hne : j = i
    · subst hne
      rw [List.getElem?_set_self hi] at e
      cases e
      exact .inl ⟨a, hb, hs, r⟩
    · rw [List.getElem?_set_ne (Ne.symm hne)] at e
      rcases S.slot j d' e with ⟨b, h1, h2, h3⟩ | ⟨h1, v, h2, h3⟩
      · refine .inl ⟨b, h1, h2, h3.step kp ans fun q z => kn b q z fun w => hne ?_⟩
        rw [w] at h1
        exact S.inj j i a h1 hb
      · exact .inr ⟨h1, v, h2, h3.step kp ans⟩
/-- one more cell that is kept off (a comprehension's list) -/
theorem Sim.guard (S : Sim K H0 A0 G O σ H ρ B) {a : Addr} (hn : H a = none) (s : Same H H') (ht : ∃ o, H' a = some o ∧ NT o) : Sim K H0 (fun b => A0 b ∨ b = a) G O σ H' ρ B := by
  have kp : ∀ b o, H b = some o → ¬ Av A0 B b → H' b = some o := fun b o e _ => s b o e
  have ans : ∀ b, Av (fun b => A0 b ∨ b = a) B b → Av A0 B b ∨ H b = none := fun b z => by
    rcases z with (z | z) | z
    · exact .inl (.inl z)
    · exact .inr (by rw [z]; exact hn)
    · exact .inl (.inr z)
  refine ⟨S.same.trans s, fun b z => ?_, S.len, S.bo, S.inj, fun i b e => ?_, fun i d hi e m => ?_, fun i d e => ?_, fun p hp => (S.gs p hp).step kp ans⟩
  · rcases z with z | z
    · obtain ⟨o, e, n⟩ := S.a0 b z
      exact ⟨o, s _ _ e, n⟩
    · rw [z]; exact ht
  · obtain ⟨h1, h2, o, h3, h4⟩ := S.fr i b e
    refine ⟨h1, fun z => ?_, o, s _ _ h3, h4⟩
    rcases z with z | z
    · exact h2 z
    · rw [z, hn] at h3; cases h3
  · obtain ⟨b, h1, h2, h3⟩ := S.ob i d hi e m
    exact ⟨b, h1, h2, h3.step kp ans fun o q => s _ _ q⟩
  · rcases S.slot i d e with ⟨b, h1, h2, h3⟩ | ⟨h1, v, h2, h3⟩
    · exact .inl ⟨b, h1, h2, h3.step kp ans fun o q => s _ _ q⟩
    · exact .inr ⟨h1, v, h2, h3.step kp ans⟩
/-- one more ghost -/
theorem Sim.ghost (S : Sim K H0 A0 G O σ H ρ B) {G' : List (V × D)} (h : ∀ p ∈ G', Rp K (Av A0 B) H p.1 p.2) : Sim K H0 A0 (G' ++ G) O σ H ρ B :=
  ⟨S.same, S.a0, S.len, S.bo, S.inj, S.fr, S.ob, S.slot, fun p hp => (List.mem_append.mp hp).elim (h p) (S.gs p)⟩
theorem Sim.unghost {G' : List (V × D)} (S : Sim K H0 A0 (G' ++ G) O σ H ρ B) : Sim K H0 A0 G O σ H ρ B :=
  ⟨S.same, S.a0, S.len, S.bo, S.inj, S.fr, S.ob, S.slot, fun p hp => S.gs p (List.mem_append_right _ hp)⟩
/-- a slot is forgotten -/
theorem Sim.drop (S : Sim K H0 A0 G O σ H ρ B) (i : Nat) (hO : i ∉ O) : Sim K H0 A0 G O (σ.set i none) H (ρ.set i none) B := by
  have nb : ∀ j a, B j = some a → j ≠ i := fun j a e z => hO (z ▸ S.bo j a e)
  have ne : ∀ j d, (ρ.set i none)[j]? = some (some d) → j ≠ i ∧ ρ[j]? = some (some d) := fun j d e => by
    by_cases hj : j = i
    · subst hj
      by_cases hl : j < ρ.length
      · rw [List.getElem?_set_self hl] at e; cases e
      · rw [List.getElem?_eq_none (by simpa using hl)] at e; cases e
    · rw [List.getElem?_set_ne (Ne.symm hj)] at e
      exact ⟨hj, e⟩
  refine ⟨S.same, S.a0, by simp [S.len], S.bo, S.inj, S.fr, fun j d hj e m => ?_, fun j d e => ?_, S.gs⟩
  · obtain ⟨h, e⟩ := ne j d e
    rw [List.getElem?_set_ne (Ne.symm h)]
    exact S.ob j d hj e m
  · obtain ⟨h, e⟩ := ne j d e
    rw [List.getElem?_set_ne (Ne.symm h)]
    exact S.slot j d e
end
end Pm

namespace Pm
open PySem PySem.Spec PyProof.Rows L2

/-- weak, strong, fresh -/
inductive Md where | w | s | f
  deriving DecidableEq

def WRp (K : PySem.W.Frag) (A : Addr → Prop) (H : Hp) (v : V) (d : D) : Prop := Rp K A H v d ∨ ∃ a, v = V.ref a ∧ Tp K A H a d
def Res (K : PySem.W.Frag) (A : Addr → Prop) (He H' : Hp) : Md → V → D → Prop
  | .w, v, d => WRp K A H' v d
  | .s, v, d => Rp K A H' v d
  | .f, v, d => (∃ a, v = V.ref a ∧ He a = none ∧ Tp K (fun b => A b ∨ b = a) H' a d) ∨ (Rp K A H' v d ∧ isMut d = false)
/-- all that is kept off is tracked -/
def Tr (A : Addr → Prop) (H : Hp) : Prop := ∀ a, A a → ∃ o, H a = some o ∧ NT o

section
variable {K : PySem.W.Frag} {A A' : Addr → Prop} {H He H' H'' : Hp} {v : V} {d : D} {m : Md}
theorem Tr.mono (t : Tr A H) (s : Same H H') : Tr A H' := fun a h => let ⟨o, e, n⟩ := t a h; ⟨o, s _ _ e, n⟩
theorem Tr.no (t : Tr A H) {a : Addr} (h : H a = none) : ¬ A a := fun z => by
  obtain ⟨o, e, _⟩ := t a z
  rw [h] at e; cases e
theorem WRp.mono (s : Same H H') (h : WRp K A H v d) : WRp K A H' v d := by
  rcases h with h | ⟨a, e, h⟩
  · exact .inl (h.mono s)
  · exact .inr ⟨a, e, h.mono s⟩
theorem Res.mono (s : Same H' H'') (h : Res K A He H' m v d) : Res K A He H'' m v d := by
  cases m with
  | w => exact WRp.mono s h
  | s => exact Rp.mono s h
  | f =>
    rcases h with ⟨a, e, n, h⟩ | ⟨h, n⟩
    · exact .inl ⟨a, e, n, h.mono s⟩
    · exact .inr ⟨h.mono s, n⟩
theorem Res.back (s : Same He H) (h : Res K A H H' m v d) : Res K A He H' m v d := by
  cases m with
  | w => exact h
  | s => exact h
  | f =>
    rcases h with ⟨a, e, n, h⟩ | h
    · exact .inl ⟨a, e, s.free n, h⟩
    · exact .inr h
theorem Res.toW (h : Res K A He H' m v d) : WRp K A H' v d := by
  cases m with
  | w => exact h
  | s => exact .inl h
  | f =>
    rcases h with ⟨a, e, n, h⟩ | h
    · exact .inr ⟨a, e, h.step (fun _ _ q _ => q) (fun _ z => .inl (.inl z)) fun _ q => q⟩
    · exact .inl h.1
theorem Res.toS (t : Tr A He) (hm : m ≠ .w) (h : Res K A He H' m v d) : Rp K A H' v d := by
  cases m with
  | w => exact absurd rfl hm
  | s => exact h
  | f =>
    rcases h with ⟨a, e, n, h⟩ | h
    · subst e
      exact (h.step (fun _ _ q _ => q) (fun _ z => .inl (.inl z)) fun _ q => q : Tp K A H' a d).rp (t.no n)
    · exact h.1
/-- a value without a cell of its own to be written -/
theorem Res.flat (h : Rp K A H' v d) (n : isMut d = false) : Res K A He H' m v d := by
  cases m with
  | w => exact .inl h
  | s => exact h
  | f => exact .inr ⟨h, n⟩
theorem Res.int {i : Int} : Res K A He H' m (.int i) (.int i) := Res.flat (.int i) rfl
theorem Res.bl {b : Bool} : Res K A He H' m (.bl b) (.bool b) := Res.flat (.bl b) rfl
theorem Res.non : Res K A He H' m .non .none := Res.flat .non rfl
theorem Res.str {b : Str} : Res K A He H' m (.str b) (.str b) := Res.flat (.str b) rfl
/-- a new list, a new tuple -/
theorem Res.newL {p : Addr} {vs : List V} {ds : List D} (t : Tr A H) (hn : H p = none) (r : RpL K A H vs ds) (s : Same He H) : Res K A He (upd H p (.lst vs)) .f (.ref p) (.list ds) := by
  refine .inl ⟨p, rfl, s.free hn, .lst upd_same ?_⟩
  refine r.step (fun a o e _ => ?_) fun a z => ?_
  · rw [upd_ne (ne_of_none e hn)]; exact e
  · rcases z with z | z
    · exact .inl z
    · exact .inr (by rw [z]; exact hn)
theorem same_upd {p : Addr} {o : HO} (h : H p = none) : Same H (upd H p o) := fun b x e => by
  rw [upd_ne (ne_of_none e h)]; exact e
theorem Rp.newT {p : Addr} {vs : List V} {ds : List D} (t : Tr A H) (hn : H p = none) (r : RpL K A H vs ds) : Rp K A (upd H p (.tup vs)) (.ref p) (.tuple ds) :=
  .tup upd_same (t.no hn) (r.mono (same_upd hn))
theorem WRp.int {i : Int} (h : WRp K A H v (.int i)) : v = .int i := by
  rcases h with h | ⟨a, e, h⟩
  · cases h; rfl
  · cases h
theorem WRp.bl {i : Bool} (h : WRp K A H v (.bool i)) : v = .bl i := by
  rcases h with h | ⟨a, e, h⟩
  · cases h; rfl
  · cases h
theorem WRp.non (h : WRp K A H v .none) : v = .non := by
  rcases h with h | ⟨a, e, h⟩
  · cases h; rfl
  · cases h
theorem WRp.str {i : Str} (h : WRp K A H v (.str i)) : v = .str i := by
  rcases h with h | ⟨a, e, h⟩
  · cases h; rfl
  · cases h
theorem WRp.lst {ds : List D} (h : WRp K A H v (.list ds)) : ∃ a xs, v = .ref a ∧ H a = some (.lst xs) ∧ RpL K A H xs ds := by
  rcases h with h | ⟨a, e, h⟩
  · cases h with
    | lst h n r => exact ⟨_, _, rfl, h, r⟩
  · cases h with
    | lst h r => exact ⟨_, _, e, h, r⟩
theorem WRp.tup {ds : List D} (h : WRp K A H v (.tuple ds)) : ∃ a xs, v = .ref a ∧ H a = some (.tup xs) ∧ ¬ A a ∧ RpL K A H xs ds := by
  rcases h with h | ⟨a, e, h⟩
  · cases h with
    | tup h n r => exact ⟨_, _, rfl, h, n, r⟩
  · cases h
theorem WRp.scr {ds : List D} (h : WRp K A H v (.dict [(.none, .list ds)])) : ∃ a xs, v = .ref a ∧ SqL K H a xs ∧ RpL K A H xs ds := by
  rcases h with h | ⟨a, e, h⟩
  · cases h with
    | scr h n r => exact ⟨_, _, rfl, .inl h, r⟩
    | kl h r => exact ⟨_, _, rfl, .inr h, r⟩
    | dic h n r e =>
      rename_i ks ds'
      cases ks with
      | nil => simp at e
      | cons p ks =>
        cases ds' with
        | nil => simp at e
        | cons d' ds' =>
          simp only [List.map_cons, List.zip_cons_cons, List.cons.injEq, Prod.mk.injEq] at e
          obtain ⟨⟨e, _⟩, _⟩ := e
          obtain ⟨k, _⟩ := p
          cases k <;> cases e
  · cases h with
    | dic h r e =>
      rename_i ks ds'
      cases ks with
      | nil => simp at e
      | cons p ks =>
        cases ds' with
        | nil => simp at e
        | cons d' ds' =>
          simp only [List.map_cons, List.zip_cons_cons, List.cons.injEq, Prod.mk.injEq] at e
          obtain ⟨⟨e, _⟩, _⟩ := e
          obtain ⟨k, _⟩ := p
          cases k <;> cases e
end

/-! ### judgements -/
def simT (K : PySem.W.Frag) (O : List Nat) (m : Md) (f : Xp) : TE := fun σ H Q => ∃ H0 A0 G ρ B d, Sim K H0 A0 G O σ H ρ B ∧ f ρ = some d ∧ ∀ v H', Same H H' → Res K (Av A0 B) H H' m v d → Q v H'
structure SE (X : Cx) (O : List Nat) (m : Md) (e : Expr) (f : Xp) : Prop where
  pe : PE X e (simT X.K O m f)
def simTT (K : PySem.W.Frag) (O : List Nat) (f : PEnv → Option Bool) : TT := fun σ H Q => ∃ H0 A0 G ρ B b, Sim K H0 A0 G O σ H ρ B ∧ f ρ = some b ∧ ∀ H', Same H H' → Q b H'
structure ST (X : Cx) (O : List Nat) (e : Expr) (f : PEnv → Option Bool) : Prop where
  pt : PT X e (simTT X.K O f)
def ResL (K : PySem.W.Frag) (A : Addr → Prop) (H : Hp) (strong : Bool) (vs : List V) (ds : List D) : Prop := if strong then RpL K A H vs ds else Paired (WRp K A H) vs ds
def simA (K : PySem.W.Frag) (O : List Nat) (strong : Bool) (f : PEnv → Option (List D)) : TA := fun σ H Q => ∃ H0 A0 G ρ B ds, Sim K H0 A0 G O σ H ρ B ∧ f ρ = some ds ∧ ∀ vs H', Same H H' → ResL K (Av A0 B) H' strong vs ds → Q vs H'
structure SA (X : Cx) (O : List Nat) (strong : Bool) (es : List Expr) (f : PEnv → Option (List D)) : Prop where
  pa : PA X es (simA X.K O strong f)

theorem pe_imp {X : Cx} {e : Expr} {t t' : TE} (h : PE X e t) (hi : ∀ σ H Q, t' σ H Q → t σ H Q) : PE X e t' := ⟨fun pins s σ H Q I q => h.run pins s σ H Q I (hi _ _ _ q)⟩
theorem pt_imp {X : Cx} {e : Expr} {t t' : TT} (h : PT X e t) (hi : ∀ σ H Q, t' σ H Q → t σ H Q) : PT X e t' := ⟨fun pins s σ H Q I q => h.run pins s σ H Q I (hi _ _ _ q)⟩
theorem pa_imp {X : Cx} {e : List Expr} {t t' : TA} (h : PA X e t) (hi : ∀ σ H Q, t' σ H Q → t σ H Q) : PA X e t' := ⟨fun pos pins s σ H Q I q => h.run pos pins s σ H Q I (hi _ _ _ q)⟩
theorem ps_imp {X : Cx} {e : Stmt} {t t' : TS} (h : PS X e t) (hi : ∀ D σ H, t' D σ H → t D σ H) : PS X e t' := ⟨fun pins s σ H Q I q => h.run pins s σ H Q I (hi _ _ _ q)⟩
theorem pss_imp {X : Cx} {e : List Stmt} {t t' : TS} (h : PSs X e t) (hi : ∀ D σ H, t' D σ H → t D σ H) : PSs X e t' := ⟨fun pins s σ H Q I q => h.run pins s σ H Q I (hi _ _ _ q)⟩

/-! ### names, constants -/
def xVar (i : Nat) : Xp := fun ρ => ρ.getD i none
def xC (d : D) : Xp := fun _ => some d
theorem getD_some {ρ : PEnv} {i : Nat} {d : D} (h : ρ.getD i none = some d) : ρ[i]? = some (some d) := by
  rw [List.getD_eq_getElem?_getD] at h
  cases e : ρ[i]? with
  | none => rw [e] at h; cases h
  | some x => rw [e] at h; exact congrArg some h
section
variable {X : Cx} {O : List Nat} {m ma mb : Md} {a b c e : Expr} {es : List Expr} {fa fb fc f : Xp} {pos : Pos}
theorem se_var (i : Nat) {x : Str} (hN : X.N[i]? = some x := by rfl) (hv : Vis X.env.scope x := by first | exact Or.inl rfl | exact Or.inr (Or.inl rfl) | exact Or.inr (Or.inr rfl)) (ho : O.contains i = false := by rfl)
    (hd : (x == ("__debug__" : Str)) = false := by decide) (hcd : (x == ("__classdict__" : Str)) = false := by decide) : SE X O .s (.Name x pos) (xVar i) := by
  refine ⟨pe_imp (pe_var hN hv hd hcd) fun σ H Q h => ?_⟩
  obtain ⟨H0, A0, G, ρ, B, d, S, e, k⟩ := h
  rcases S.slot i d (getD_some e) with ⟨a, h1, _, _⟩ | ⟨_, v, h2, h3⟩
  · have := S.bo i a h1
    simp at ho
    exact absurd this ho
  · exact ⟨v, h2, k v H (Same.refl H) h3⟩
theorem se_varW (i : Nat) {x : Str} (hN : X.N[i]? = some x := by rfl) (hv : Vis X.env.scope x := by first | exact Or.inl rfl | exact Or.inr (Or.inl rfl) | exact Or.inr (Or.inr rfl))
    (hd : (x == ("__debug__" : Str)) = false := by decide) (hcd : (x == ("__classdict__" : Str)) = false := by decide) : SE X O .w (.Name x pos) (xVar i) := by
  refine ⟨pe_imp (pe_var hN hv hd hcd) fun σ H Q h => ?_⟩
  obtain ⟨H0, A0, G, ρ, B, d, S, e, k⟩ := h
  rcases S.slot i d (getD_some e) with ⟨a, h1, h2, h3⟩ | ⟨_, v, h2, h3⟩
  · exact ⟨_, h2, k _ H (Same.refl H) (.inr ⟨a, rfl, h3⟩)⟩
  · exact ⟨v, h2, k v H (Same.refl H) (.inl h3)⟩
theorem se_int {i j} : SE X O .f (.Constant (.int i) j pos) (xC (.int i)) :=
  ⟨pe_imp pe_int fun σ H Q ⟨H0, A0, G, ρ, B, d, S, e, k⟩ => by cases e; exact k _ H (Same.refl H) Res.int⟩
theorem se_bl {i j} : SE X O .f (.Constant (.bool i) j pos) (xC (.bool i)) :=
  ⟨pe_imp pe_bl fun σ H Q ⟨H0, A0, G, ρ, B, d, S, e, k⟩ => by cases e; exact k _ H (Same.refl H) Res.bl⟩
theorem se_non {j} : SE X O .f (.Constant .none j pos) (xC .none) :=
  ⟨pe_imp pe_non fun σ H Q ⟨H0, A0, G, ρ, B, d, S, e, k⟩ => by cases e; exact k _ H (Same.refl H) Res.non⟩
theorem se_str {i j} : SE X O .f (.Constant (.str i) j pos) (xC (.str i)) :=
  ⟨pe_imp pe_str fun σ H Q ⟨H0, A0, G, ρ, B, d, S, e, k⟩ => by cases e; exact k _ H (Same.refl H) Res.str⟩

/-! ### operators by values -/
def xBin (g : D → D → Option D) (fa fb : Xp) : Xp := fun ρ => (fa ρ).bind fun x => (fb ρ).bind fun y => g x y
def xUn (g : D → Option D) (fa : Xp) : Xp := fun ρ => (fa ρ).bind g
def rD (K : PySem.W.Frag) (m : Md) (g : D → D → Option D) : R2 := fun x y H Q => ∃ A dx dy d, Tr A H ∧ WRp K A H x dx ∧ WRp K A H y dy ∧ g dx dy = some d ∧ ∀ v H', Same H H' → Res K A H H' m v d → Q v H'
def rD1 (K : PySem.W.Frag) (m : Md) (g : D → Option D) : V → Hp → VK → Prop := fun x H Q => ∃ A dx d, Tr A H ∧ WRp K A H x dx ∧ g dx = some d ∧ ∀ v H', Same H H' → Res K A H H' m v d → Q v H'
theorem bind2 {α β : Type} {a : Option α} {b : α → Option β} {c : β} (h : a.bind b = some c) : ∃ x, a = some x ∧ b x = some c := Option.bind_eq_some_iff.mp h
theorem tOp_of {g : D → D → Option D} (σ : L2.St) (H : Hp) (Q : VK) (h : simT X.K O m (xBin g fa fb) σ H Q) : tOp (rD X.K m g) (simT X.K O ma fa) (simT X.K O mb fb) σ H Q := by
  obtain ⟨H0, A0, G, ρ, B, d, S, e, k⟩ := h
  obtain ⟨x, ex, e⟩ := bind2 e
  obtain ⟨y, ey, e⟩ := bind2 e
  refine ⟨H0, A0, G, ρ, B, x, S, ex, fun v H1 s1 r1 => ⟨H0, A0, G, ρ, B, y, S.mono s1, ey, fun u H2 s2 r2 => ?_⟩⟩
  exact ⟨Av A0 B, x, y, d, (S.mono (s1.trans s2)).tr, r1.toW.mono s2, r2.toW, e, fun z H3 s3 r3 => k z H3 ((s1.trans s2).trans s3) (r3.back (s1.trans s2))⟩
theorem se_op {op : Operator} {g : D → D → Option D} (ho : OpR X (binaryOp op) (rD X.K m g)) (ha : SE X O ma a fa) (hb : SE X O mb b fb) : SE X O m (.BinOp a op b pos) (xBin g fa fb) :=
  ⟨pe_imp (pe_op ho ha.pe hb.pe) tOp_of⟩
theorem se_cmp {op : CmpOp} {g : D → D → Option D} (ho : OpR X (compareOp op) (rD X.K m g)) (ha : SE X O ma a fa) (hb : SE X O mb b fb) (hm : behindInMarks op b = false := by first | exact nomark _ | rfl) : SE X O m (.Compare a [op] [b] pos) (xBin g fa fb) :=
  ⟨pe_imp (pe_cmpR ho ha.pe hb.pe hm) tOp_of⟩
/-- a comparison's answer as a test -/
def tB2 (g : D → D → Option D) (fa fb : Xp) : PEnv → Option Bool := fun ρ => (fa ρ).bind fun x => (fb ρ).bind fun y => (g x y).bind fun z => match z with | .bool b => some b | _ => none
def dB (d : D) : Option Bool := match d with | .bool b => some b | _ => none
theorem dB_some {d : D} {b : Bool} (h : dB d = some b) : d = .bool b := by
  cases d <;> simp_all [dB]
def tOf (f : Xp) : PEnv → Option Bool := fun ρ => (f ρ).bind dB
theorem st_cmp {op : CmpOp} {g : D → D → Option D} (ho : OpR X (compareOp op) (rD X.K .f g)) (ha : SE X O ma a fa) (hb : SE X O mb b fb) (hm : behindInMarks op b = false := by first | exact nomark _ | rfl) : ST X O (.Compare a [op] [b] pos) (tOf (xBin g fa fb)) := by
  refine ⟨pt_imp (pt_cmpR ho ha.pe hb.pe hm) fun σ H Q h => ?_⟩
  obtain ⟨H0, A0, G, ρ, B, b, S, e, k⟩ := h
  obtain ⟨d, ed, e⟩ := bind2 e
  have := dB_some e
  subst this
  refine tOp_of (m := .f) σ H _ ⟨H0, A0, G, ρ, B, _, S, ed, fun v H' s r => ?_⟩
  exact ⟨b, r.toW.bl, k H' s⟩
theorem se_un {op : UnaryOp} {g : D → Option D} (ho : UnR X (unaryOp op) (rD1 X.K m g)) (ha : SE X O ma a fa) : SE X O m (.UnaryOp op a pos) (xUn g fa) := by
  refine ⟨pe_imp (pe_un ho ha.pe) fun σ H Q h => ?_⟩
  obtain ⟨H0, A0, G, ρ, B, d, S, e, k⟩ := h
  obtain ⟨x, ex, e⟩ := bind2 e
  exact ⟨H0, A0, G, ρ, B, x, S, ex, fun v H1 s1 r1 => ⟨Av A0 B, x, d, (S.mono s1).tr, r1.toW, e, fun z H3 s3 r3 => k z H3 (s1.trans s3) (r3.back s1)⟩⟩

/-! ### tests -/
def tNotP (f : PEnv → Option Bool) : PEnv → Option Bool := fun ρ => (f ρ).map (!·)
def tAndP (f g : PEnv → Option Bool) : PEnv → Option Bool := fun ρ => (f ρ).bind fun b => if b then g ρ else some false
def tOrP (f g : PEnv → Option Bool) : PEnv → Option Bool := fun ρ => (f ρ).bind fun b => if b then some true else g ρ
theorem st_not {f : PEnv → Option Bool} (h : ST X O a f) : ST X O (.UnaryOp .Not a pos) (tNotP f) := by
  refine ⟨pt_imp (pt_not h.pt) fun σ H Q q => ?_⟩
  obtain ⟨H0, A0, G, ρ, B, b, S, e, k⟩ := q
  obtain ⟨x, ex, e⟩ := Option.map_eq_some_iff.mp e
  subst e
  exact ⟨H0, A0, G, ρ, B, x, S, ex, fun H' s => k H' s⟩
/-- and, or of tests -/
structure SW (X : Cx) (O : List Nat) (e : Expr) (f : PEnv → Option Bool) : Prop where
  pw : PW X e (simTT X.K O f)
theorem SW.st {f : PEnv → Option Bool} (h : SW X O a f) : ST X O a f := ⟨h.pw.pt⟩
theorem sw_and1 {f : PEnv → Option Bool} (h : ST X O a f) : SW X O (.BoolOp .And [a] pos) f := ⟨pw_and1 h.pt⟩
theorem sw_or1 {f : PEnv → Option Bool} (h : ST X O a f) : SW X O (.BoolOp .Or [a] pos) f := ⟨pw_or1 h.pt⟩
theorem pw_imp {e : Expr} {t t' : TT} (h : PW X e t) (hi : ∀ σ H Q, t' σ H Q → t σ H Q) : PW X e t' := ⟨fun w pins s σ H Q I q => h.run w pins s σ H Q I (hi _ _ _ q)⟩
theorem sw_and {f g : PEnv → Option Bool} (h : ST X O a f) (h' : SW X O (.BoolOp .And (b :: es) pos) g) : SW X O (.BoolOp .And (a :: b :: es) pos) (tAndP f g) := by
  refine ⟨pw_imp (pw_and h.pt h'.pw) fun σ H Q q => ?_⟩
  obtain ⟨H0, A0, G, ρ, B, b, S, e, k⟩ := q
  obtain ⟨x, ex, e⟩ := bind2 e
  refine ⟨H0, A0, G, ρ, B, x, S, ex, fun H1 s1 => ?_⟩
  cases x with
  | true => exact ⟨H0, A0, G, ρ, B, b, S.mono s1, e, fun H' s => k H' (s1.trans s)⟩
  | false => cases e; exact k H1 s1
theorem sw_or {f g : PEnv → Option Bool} (h : ST X O a f) (h' : SW X O (.BoolOp .Or (b :: es) pos) g) : SW X O (.BoolOp .Or (a :: b :: es) pos) (tOrP f g) := by
  refine ⟨pw_imp (pw_or h.pt h'.pw) fun σ H Q q => ?_⟩
  obtain ⟨H0, A0, G, ρ, B, b, S, e, k⟩ := q
  obtain ⟨x, ex, e⟩ := bind2 e
  refine ⟨H0, A0, G, ρ, B, x, S, ex, fun H1 s1 => ?_⟩
  cases x with
  | true => cases e; exact k H1 s1
  | false => exact ⟨H0, A0, G, ρ, B, b, S.mono s1, e, fun H' s => k H' (s1.trans s)⟩
/-- a value's truth -/
def oTru : D → Option Bool
  | .none => some false
  | .bool b => some b
  | .int i => some (i != 0)
  | .list xs => some (!xs.isEmpty)
  | .tuple xs => some (!xs.isEmpty)
  | .dict [] => some false
  | .dict ((.int _, _) :: _) => some true
  | .dict ((.str _, _) :: _) => some true
  | _ => none
theorem empty_of {K : PySem.W.Frag} {A : Addr → Prop} {H : Hp} {vs : List V} {ds : List D} (r : RpL K A H vs ds) : (!vs.isEmpty) = !ds.isEmpty := by
  cases r <;> rfl
theorem tru_of {K : PySem.W.Frag} {A : Addr → Prop} {H : Hp} {v : V} {d : D} {b : Bool} (h : WRp K A H v d) (e : oTru d = some b) : TruV K v H b := by
  have dict : ∀ {a : Addr} {ks : List (Key × V)} {ds : List D} {kd : List (D × D)}, H a = some (.dK ks) → RpL K A H (ks.map (·.2)) ds → kd = (ks.map fun p => keyD p.1).zip ds → oTru (.dict kd) = some b → TruV K (.ref a) H b := fun {a ks ds kd} h1 h2 h3 h4 => by
    refine .inr (.inr ⟨ks, h1, ?_⟩)
    subst h3
    cases ks with
    | nil => simp [oTru] at h4; simp [← h4]
    | cons p ks =>
      cases h2 with
      | cons h2 h2' =>
        obtain ⟨k, v⟩ := p
        cases k <;> simp [oTru, keyD] at h4 <;> simp [← h4]
  rcases h with h | ⟨a, z, h⟩
  · cases h with
    | non => cases e; exact rfl
    | bl c => cases e; exact rfl
    | int i => cases e; exact rfl
    | str x => cases e
    | lst h n r => cases e; exact .inl ⟨_, .inl (.inl h), (empty_of r).symm⟩
    | tup h n r => cases e; exact .inr (.inl ⟨_, .inl (.inl h), (empty_of r).symm⟩)
    | scr h n r => simp [oTru] at e
    | kl h r => simp [oTru] at e
    | dic h n r q => exact dict h r q e
  · subst z
    cases h with
    | lst h r => cases e; exact .inl ⟨_, .inl (.inl h), (empty_of r).symm⟩
    | dic h r q => exact dict h r q e
def tTru (f : Xp) : PEnv → Option Bool := fun ρ => (f ρ).bind oTru
theorem st_val (h : SE X O m a fa) (he : ∀ whole, isTrue a X.env whole = (do let v ← whole; standAt a.pos; holding [v] (truthy v)) := by intro _; rfl) : ST X O a (tTru fa) := by
  refine ⟨pt_imp (pt_truth h.pe he) fun σ H Q q => ?_⟩
  obtain ⟨H0, A0, G, ρ, B, b, S, e, k⟩ := q
  obtain ⟨x, ex, e⟩ := bind2 e
  exact ⟨H0, A0, G, ρ, B, x, S, ex, fun v H1 s1 r1 => ⟨b, tru_of r1.toW e, k H1 s1⟩⟩
/-- not as a value -/
def oNot (d : D) : Option D := (oTru d).map fun b => .bool (!b)
end
end Pm

namespace Pm
open PySem PySem.Spec PyProof.Rows L2

def shp (d : D) : Bool := SeqAt.shaped d
/-! ### what the operators do -/
def oAdd : D → D → Option D
  | .int a, .int b => some (.int (a + b))
  | .list a, .list b => if a.length + b.length ≤ 16777216 then some (.list (a ++ b)) else none
  | .tuple a, .tuple b => if a.length + b.length ≤ 16777216 then some (.tuple (a ++ b)) else none
  | .int a, .bool b => some (.int (a + (if b then 1 else 0)))
  | _, _ => none
def oSub : D → D → Option D
  | .int a, .int b => some (.int (a - b))
  | _, _ => none
def mulOk (a b : Int) : Bool := decide (a.natAbs < 2 ^ 63) || decide (b.natAbs < 2 ^ 63) || decide (a.natAbs.log2 + b.natAbs.log2 < 1000000)
def oMul : D → D → Option D
  | .int a, .int b => if mulOk a b then some (.int (a * b)) else none
  | .list a, .int k => if -(2 ^ 62) ≤ k ∧ k < 2 ^ 62 ∧ a.length * k.toNat ≤ 16777216 then some (.list (List.replicate k.toNat a).flatten) else none
  | .tuple a, .int k => if a ≠ [] ∧ 2 ≤ k ∧ k ≤ 1000 ∧ a.length ≤ 1000 then some (.tuple (List.replicate k.toNat a).flatten) else none
  | _, _ => none
def divOk (b : Int) : Bool := decide (b ≠ 0) && decide (b.natAbs.log2 < 9000)
def oFdiv : D → D → Option D
  | .int a, .int b => if divOk b then some (.int (a.fdiv b)) else none
  | _, _ => none
def oMod : D → D → Option D
  | .int a, .int b => if b ≠ 0 then some (.int (a.fmod b)) else none
  | _, _ => none
def oPow : D → D → Option D
  | .int a, .int b => if 0 ≤ b ∧ b ≤ 1000000 ∧ a.natAbs < 2 ^ 64 then some (.int (a ^ b.toNat)) else none
  | _, _ => none
def oShl : D → D → Option D
  | .int a, .int b => if 0 ≤ b ∧ b ≤ 1000000 ∧ a.natAbs < 2 ^ 64 then some (.int (a * 2 ^ b.toNat)) else none
  | _, _ => none
def oEq (x y : D) : Option D := if shp x && shp y then some (.bool (PyData.eqv x y)) else none
def oNe (x y : D) : Option D := if shp x && shp y then some (.bool (!PyData.eqv x y)) else none
def oLt : D → D → Option D
  | .int a, .int b => some (.bool (decide (a < b)))
  | _, _ => none
def oLe : D → D → Option D
  | .int a, .int b => some (.bool (decide (a ≤ b)))
  | _, _ => none
def oGt : D → D → Option D
  | .int a, .int b => some (.bool (decide (b < a)))
  | _, _ => none
def oGe : D → D → Option D
  | .int a, .int b => some (.bool (decide (b ≤ a)))
  | _, _ => none
def isNone : D → Bool
  | .none => true
  | _ => false
def oIs : D → D → Option D
  | x, .none => some (.bool (isNone x))
  | _, _ => none
def oIsNot : D → D → Option D
  | x, .none => some (.bool (!isNone x))
  | _, _ => none
def oIn : D → D → Option D
  | x, .list ys => if shp x && PyData.canLayAll0 ys then some (.bool (ys.any fun z => PyData.eqv z x)) else none
  | x, .tuple ys => if shp x && PyData.canLayAll0 ys then some (.bool (ys.any fun z => PyData.eqv z x)) else none
  | _, _ => none
def oNotIn : D → D → Option D
  | x, .list ys => if shp x && PyData.canLayAll0 ys then some (.bool (!ys.any fun z => PyData.eqv z x)) else none
  | x, .tuple ys => if shp x && PyData.canLayAll0 ys then some (.bool (!ys.any fun z => PyData.eqv z x)) else none
  | _, _ => none
def ixD (xs : List D) (i : Int) : Option D := atI xs i
def oIx : D → D → Option D
  | .list xs, .int i => atI xs i
  | .tuple xs, .int i => atI xs i
  | .dict [(.none, .list xs)], .int i => atI xs i
  | _, _ => none
def oNeg : D → Option D
  | .int i => some (.int (-i))
  | _ => none

section
variable {K : PySem.W.Frag} {A : Addr → Prop} {H H' : Hp} {v : V} {d : D} {vs : List V} {ds : List D}
mutual
theorem Rp.dp : ∀ {v : V} {d : D}, Rp K A H v d → d.canLay0 = true → Dp K H v d
  | _, _, .non, _ => .non
  | _, _, .bl b, _ => .bl b
  | _, _, .int i, _ => .int i
  | _, _, .str x, _ => .str x
  | _, _, .lst h n r, c => .lst (.inl (.inl h)) (RpL.dp r (by simpa [PyData.canLay0] using c))
  | _, _, .tup h n r, c => .tup (.inl (.inl h)) (RpL.dp r (by simpa [PyData.canLay0] using c))
  | _, _, .scr h n r, c => by simp [PyData.canLay0] at c
  | _, _, .kl h r, c => by simp [PyData.canLay0] at c
  | _, _, .dic h n r e, c => by simp [PyData.canLay0] at c
theorem RpL.dp : ∀ {vs : List V} {ds : List D}, RpL K A H vs ds → PyData.canLayAll0 ds = true → DpAll K H vs ds
  | _, _, .nil, _ => .nil
  | _, _, .cons h r, c => by
    simp only [PyData.canLayAll0, Bool.and_eq_true] at c
    exact .cons (Rp.dp h c.1) (RpL.dp r c.2)
end
theorem WRp.dpc (h : WRp K A H v d) (c : d.canLay0 = true) : Dp K H v d := by
  rcases h with h | ⟨a, e, h⟩
  · exact h.dp c
  · subst e
    cases h with
    | lst h r => exact .lst (.inl (.inl h)) (r.dp (by simpa [PyData.canLay0] using c))
    | dic h r e => simp [PyData.canLay0] at c
theorem WRp.dp (h : WRp K A H v d) (c : shp d = true) : Dp K H v d := h.dpc (SeqAt.canLay_of_shaped c)
theorem RpL.atI {i : Int} (r : RpL K A H vs ds) (h : L2.atI ds i = some d) : ∃ v, L2.atI vs i = some v ∧ Rp K A H v d := by
  unfold L2.atI at h ⊢
  rw [r.length]
  obtain ⟨j, e1, e2⟩ := Option.bind_eq_some_iff.mp h
  obtain ⟨v, e3, e4⟩ := r.get e2
  exact ⟨v, by rw [e1]; exact e3, e4⟩
theorem non_dec : Rp K A H v d → decide (v = V.non) = isNone d := by
  intro h
  cases h <;> rfl
theorem WRp.none_dec (h : WRp K A H v d) : decide (v = V.non) = isNone d := by
  rcases h with h | ⟨a, e, h⟩
  · exact non_dec h
  · subst e
    cases h <;> rfl
end
section
variable {X : Cx} {k : Nat}
theorem op_addD : OpR X (binaryOp .Add) (rD X.K .f oAdd) := by
  intro pins s σ H x y v u Q I rx ry ⟨A, dx, dy, d, tr, wx, wy, e, q⟩
  unfold oAdd at e
  split at e
  · cases e
    exact op_add pins s σ H x y v u Q I rx ry ⟨_, _, wx.int, wy.int, q _ H (Same.refl H) Res.int⟩
  · split at e
    · rename_i hz
      cases e
      obtain ⟨a, xs, rfl, ha, ra⟩ := wx.lst
      obtain ⟨b, ys, rfl, hb, rb⟩ := wy.lst
      refine op_cat pins s σ H _ _ v u Q I rx ry ⟨a, b, xs, ys, rfl, rfl, ha, hb, by rw [ra.length, rb.length]; exact hz, fun p hp => q _ _ (same_upd hp) (Res.newL tr hp (rb.app ra) (Same.refl H))⟩
    · cases e
  · split at e
    · rename_i hz
      cases e
      obtain ⟨a, xs, rfl, ha, na, ra⟩ := wx.tup
      obtain ⟨b, ys, rfl, hb, nb, rb⟩ := wy.tup
      refine op_catA pins s σ H _ _ v u Q I rx ry ⟨a, b, xs, ys, rfl, rfl, .of ha, .of hb, by rw [ra.length, rb.length]; exact hz, fun z => ?_, fun _ z => ?_, fun _ _ p hp => q _ _ (same_upd hp) (Res.flat (Rp.newT tr hp (rb.app ra)) rfl)⟩
      · subst z
        cases ra
        exact q _ H (Same.refl H) (Res.flat (.tup hb nb rb) rfl)
      · subst z
        cases rb
        exact q _ H (Same.refl H) (Res.flat (.tup ha na (by simpa using ra)) rfl)
    · cases e
  · cases e
    exact op_add_ib pins s σ H x y v u Q I rx ry ⟨_, _, wx.int, wy.bl, q _ H (Same.refl H) (by
      rename_i b
      cases b <;> exact Res.int)⟩
  · cases e
theorem op_subD : OpR X (binaryOp .Sub) (rD X.K .f oSub) := by
  intro pins s σ H x y v u Q I rx ry ⟨A, dx, dy, d, tr, wx, wy, e, q⟩
  unfold oSub at e
  split at e
  · cases e
    exact op_sub pins s σ H x y v u Q I rx ry ⟨_, _, wx.int, wy.int, q _ H (Same.refl H) Res.int⟩
  · cases e
theorem mul_case {a b : Int} (h : mulOk a b = true) : CMul a b ∨ CMulW a b := by
  unfold mulOk at h
  rw [Bool.or_eq_true, Bool.or_eq_true] at h
  rcases h with (h | h) | h
  · exact .inl (.inl (by have := of_decide_eq_true h; omega))
  · exact .inl (.inr (by have := of_decide_eq_true h; omega))
  · exact .inr (show a.natAbs.log2 + b.natAbs.log2 < 1000000 from of_decide_eq_true h)
theorem op_mulD : OpR X (binaryOp .Mult) (rD X.K .f oMul) := by
  intro pins s σ H x y v u Q I rx ry ⟨A, dx, dy, d, tr, wx, wy, e, q⟩
  unfold oMul at e
  split at e
  · split at e
    · rename_i hm
      cases e
      rcases mul_case hm with h | h
      · exact op_mul pins s σ H x y v u Q I rx ry ⟨_, _, wx.int, wy.int, h, q _ H (Same.refl H) Res.int⟩
      · exact op_mulW pins s σ H x y v u Q I rx ry ⟨_, _, wx.int, wy.int, h, q _ H (Same.refl H) Res.int⟩
    · cases e
  · split at e
    · rename_i hz
      cases e
      obtain ⟨a, xs, rfl, ha, ra⟩ := wx.lst
      refine op_rep pins s σ H _ _ v u Q I rx ry ⟨a, _, xs, rfl, wy.int, ha, by omega, by omega, by rw [ra.length]; exact hz.2.2, fun p hp => q _ _ (same_upd hp) (Res.newL tr hp (ra.rep _) (Same.refl H))⟩
    · cases e
  · split at e
    · rename_i hz
      cases e
      obtain ⟨a, xs, rfl, ha, na, ra⟩ := wx.tup
      refine op_repT pins s σ H _ _ v u Q I rx ry ⟨a, _, xs, rfl, wy.int, .of ha, fun z => ?_, hz.2.1, hz.2.2.1, by rw [ra.length]; exact hz.2.2.2, fun p hp => q _ _ (same_upd hp) (Res.flat (Rp.newT tr hp (ra.rep _)) rfl)⟩
      subst z
      cases ra
      exact hz.1 rfl
    · cases e
  · cases e
theorem op_fdivD : OpR X (binaryOp .FloorDiv) (rD X.K .f oFdiv) := by
  intro pins s σ H x y v u Q I rx ry ⟨A, dx, dy, d, tr, wx, wy, e, q⟩
  unfold oFdiv at e
  split at e
  · split at e
    · rename_i hz
      cases e
      unfold divOk at hz
      rw [Bool.and_eq_true] at hz
      have h1 := of_decide_eq_true hz.1
      have h2 := of_decide_eq_true hz.2
      exact (opI (C := fun i j => j ≠ 0 ∧ j.natAbs.log2 < 9000) fun i j _ _ _ _ _ hc q => floordiv_int hc.1 q (.inl (PyProof.noPylong_of_log2 hc.2))) pins s σ H x y v u Q I rx ry ⟨_, _, wx.int, wy.int, ⟨h1, h2⟩, q _ H (Same.refl H) Res.int⟩
    · cases e
  · cases e
theorem op_modD : OpR X (binaryOp .Mod) (rD X.K .f oMod) := by
  intro pins s σ H x y v u Q I rx ry ⟨A, dx, dy, d, tr, wx, wy, e, q⟩
  unfold oMod at e
  split at e
  · split at e
    · rename_i hz
      cases e
      exact op_modN pins s σ H x y v u Q I rx ry ⟨_, _, wx.int, wy.int, hz, q _ H (Same.refl H) Res.int⟩
    · cases e
  · cases e
theorem op_powD : OpR X (binaryOp .Pow) (rD X.K .f oPow) := by
  intro pins s σ H x y v u Q I rx ry ⟨A, dx, dy, d, tr, wx, wy, e, q⟩
  unfold oPow at e
  split at e
  · split at e
    · rename_i hz
      cases e
      exact op_pow pins s σ H x y v u Q I rx ry ⟨_, _, wx.int, wy.int, hz, q _ H (Same.refl H) Res.int⟩
    · cases e
  · cases e
theorem op_shlD : OpR X (binaryOp .LShift) (rD X.K .f oShl) := by
  intro pins s σ H x y v u Q I rx ry ⟨A, dx, dy, d, tr, wx, wy, e, q⟩
  unfold oShl at e
  split at e
  · split at e
    · rename_i hz
      cases e
      exact op_shl pins s σ H x y v u Q I rx ry ⟨_, _, wx.int, wy.int, hz, q _ H (Same.refl H) Res.int⟩
    · cases e
  · cases e
theorem op_eqP (hr : Room k X.A) : OpR X (compareOp .Eq) (rD X.K .f oEq) := by
  intro pins s σ H x y v u Q I rx ry ⟨A, dx, dy, d, tr, wx, wy, e, q⟩
  unfold oEq at e
  split at e
  · rename_i hz
    cases e
    rw [Bool.and_eq_true] at hz
    exact op_eqD hr.units pins s σ H x y v u Q I rx ry ⟨dx, dy, wx.dp hz.1, wy.dp hz.2, hz.1, hz.2, q _ H (Same.refl H) Res.bl⟩
  · cases e
theorem op_neP (hr : Room k X.A) : OpR X (compareOp .NotEq) (rD X.K .f oNe) := by
  intro pins s σ H x y v u Q I rx ry ⟨A, dx, dy, d, tr, wx, wy, e, q⟩
  unfold oNe at e
  split at e
  · rename_i hz
    cases e
    rw [Bool.and_eq_true] at hz
    exact op_neD hr.units pins s σ H x y v u Q I rx ry ⟨dx, dy, wx.dp hz.1, wy.dp hz.2, hz.1, hz.2, q _ H (Same.refl H) Res.bl⟩
  · cases e
theorem op_ltD : OpR X (compareOp .Lt) (rD X.K .f oLt) := by
  intro pins s σ H x y v u Q I rx ry ⟨A, dx, dy, d, tr, wx, wy, e, q⟩
  unfold oLt at e
  split at e
  · cases e
    exact op_lt pins s σ H x y v u Q I rx ry ⟨_, _, wx.int, wy.int, q _ H (Same.refl H) Res.bl⟩
  · cases e
theorem op_leD : OpR X (compareOp .LtE) (rD X.K .f oLe) := by
  intro pins s σ H x y v u Q I rx ry ⟨A, dx, dy, d, tr, wx, wy, e, q⟩
  unfold oLe at e
  split at e
  · cases e
    exact op_le pins s σ H x y v u Q I rx ry ⟨_, _, wx.int, wy.int, q _ H (Same.refl H) Res.bl⟩
  · cases e
theorem op_gtD : OpR X (compareOp .Gt) (rD X.K .f oGt) := by
  intro pins s σ H x y v u Q I rx ry ⟨A, dx, dy, d, tr, wx, wy, e, q⟩
  unfold oGt at e
  split at e
  · cases e
    exact op_gt pins s σ H x y v u Q I rx ry ⟨_, _, wx.int, wy.int, q _ H (Same.refl H) Res.bl⟩
  · cases e
theorem op_geD : OpR X (compareOp .GtE) (rD X.K .f oGe) := by
  intro pins s σ H x y v u Q I rx ry ⟨A, dx, dy, d, tr, wx, wy, e, q⟩
  unfold oGe at e
  split at e
  · cases e
    exact op_ge pins s σ H x y v u Q I rx ry ⟨_, _, wx.int, wy.int, q _ H (Same.refl H) Res.bl⟩
  · cases e
theorem op_isD : OpR X (compareOp .Is) (rD X.K .f oIs) := by
  intro pins s σ H x y v u Q I rx ry ⟨A, dx, dy, d, tr, wx, wy, e, q⟩
  unfold oIs at e
  split at e
  · cases e
    exact op_isN pins s σ H x y v u Q I rx ry ⟨wy.non, by rw [wx.none_dec]; exact q _ H (Same.refl H) Res.bl⟩
  · cases e
theorem op_isNotD : OpR X (compareOp .IsNot) (rD X.K .f oIsNot) := by
  intro pins s σ H x y v u Q I rx ry ⟨A, dx, dy, d, tr, wx, wy, e, q⟩
  unfold oIsNot at e
  split at e
  · cases e
    exact op_notN pins s σ H x y v u Q I rx ry ⟨wy.non, by rw [wx.none_dec]; exact q _ H (Same.refl H) Res.bl⟩
  · cases e
theorem hu65 {A : Around} (hr : Room k A) : A.units + 65 < cLine := by have := hr.un; omega
theorem op_inP (hr : Room k X.A) : OpR X (compareOp .In) (rD X.K .f oIn) := by
  intro pins s σ H x y v u Q I rx ry ⟨A, dx, dy, d, tr, wx, wy, e, q⟩
  unfold oIn at e
  split at e
  · split at e
    · rename_i hz
      cases e
      rw [Bool.and_eq_true] at hz
      obtain ⟨as, r1⟩ := Dp.reads I _ x v (wx.dp hz.1) rx
      obtain ⟨bs, r2⟩ := Dp.reads I _ y u (wy.dpc (by simpa [PyData.canLay0] using hz.2)) ry
      exact SeqAt.in_list_reads r2 r1 hz.2 (SeqAt.canLay_of_shaped hz.1) (room_in_shaped hz.1 (hu65 hr)) ⟨.bl _, H, I, rfl, q _ H (Same.refl H) Res.bl⟩
    · cases e
  · split at e
    · rename_i hz
      cases e
      rw [Bool.and_eq_true] at hz
      obtain ⟨as, r1⟩ := Dp.reads I _ x v (wx.dp hz.1) rx
      obtain ⟨bs, r2⟩ := Dp.reads I _ y u (wy.dpc (by simpa [PyData.canLay0] using hz.2)) ry
      exact SeqAt.in_tuple_reads r2 r1 hz.2 (SeqAt.canLay_of_shaped hz.1) (room_in_shaped hz.1 (hu65 hr)) ⟨.bl _, H, I, rfl, q _ H (Same.refl H) Res.bl⟩
    · cases e
  · cases e
theorem op_notInP (hr : Room k X.A) : OpR X (compareOp .NotIn) (rD X.K .f oNotIn) := by
  intro pins s σ H x y v u Q I rx ry ⟨A, dx, dy, d, tr, wx, wy, e, q⟩
  unfold oNotIn at e
  split at e
  · split at e
    · rename_i hz
      cases e
      rw [Bool.and_eq_true] at hz
      obtain ⟨as, r1⟩ := Dp.reads I _ x v (wx.dp hz.1) rx
      obtain ⟨bs, r2⟩ := Dp.reads I _ y u (wy.dpc (by simpa [PyData.canLay0] using hz.2)) ry
      exact SeqAt.notIn_list_reads r2 r1 hz.2 (SeqAt.canLay_of_shaped hz.1) (room_in_shaped hz.1 (hu65 hr)) ⟨.bl _, H, I, rfl, q _ H (Same.refl H) Res.bl⟩
    · cases e
  · split at e
    · rename_i hz
      cases e
      rw [Bool.and_eq_true] at hz
      obtain ⟨as, r1⟩ := Dp.reads I _ x v (wx.dp hz.1) rx
      obtain ⟨bs, r2⟩ := Dp.reads I _ y u (wy.dpc (by simpa [PyData.canLay0] using hz.2)) ry
      exact SeqAt.notIn_tuple_reads r2 r1 hz.2 (SeqAt.canLay_of_shaped hz.1) (room_in_shaped hz.1 (hu65 hr)) ⟨.bl _, H, I, rfl, q _ H (Same.refl H) Res.bl⟩
    · cases e
  · cases e
theorem un_negD : UnR X (unaryOp .USub) (rD1 X.K .f oNeg) := by
  intro pins s σ H x v Q I rx ⟨A, dx, d, tr, wx, e, q⟩
  unfold oNeg at e
  split at e
  · cases e
    exact un_neg pins s σ H x v Q I rx ⟨_, wx.int, q _ H (Same.refl H) Res.int⟩
  · cases e
end
end Pm

namespace Pm
open PySem PySem.Spec PyProof.Rows L2

/-! ### argument lists -/
abbrev XL := PEnv → Option (List D)
def xNil : XL := fun _ => some []
def xCons (f : Xp) (fs : XL) : XL := fun ρ => (f ρ).bind fun x => (fs ρ).bind fun xs => some (x :: xs)
section
variable {X : Cx} {O : List Nat} {m ma mb : Md} {st : Bool} {a b c e : Expr} {es : List Expr} {fa fb fc f : Xp} {fs : XL} {pos : Pos}
theorem sa_nil : SA X O st [] xNil := by
  refine ⟨pa_imp pa_nil fun σ H Q h => ?_⟩
  obtain ⟨H0, A0, G, ρ, B, ds, S, e, k⟩ := h
  cases e
  refine k [] H (Same.refl H) ?_
  cases st <;> exact .nil
theorem ResL.monoR {K : PySem.W.Frag} {A : Addr → Prop} {H H' : Hp} {vs : List V} {ds : List D} (s : Same H H') (h : ResL K A H st vs ds) : ResL K A H' st vs ds := by
  cases st with
  | true => exact RpL.mono s h
  | false => exact Paired.mapP h fun _ _ r => WRp.mono s r
theorem sa_cons (ha : SE X O m e f) (hr : SA X O st es fs) (hm : (st = true → m ≠ .w) := by first | exact fun _ => Md.noConfusion | exact fun h => Bool.noConfusion h) (hs : starEach (e :: es) X.env = (false, eval e X.env) :: starEach es X.env := by rfl) : SA X O st (e :: es) (xCons f fs) := by
  refine ⟨pa_imp (pa_cons ha.pe hr.pa hs) fun σ H Q h => ?_⟩
  obtain ⟨H0, A0, G, ρ, B, ds, S, e, k⟩ := h
  obtain ⟨x, ex, e⟩ := bind2 e
  obtain ⟨xs, exs, e⟩ := bind2 e
  cases e
  refine ⟨H0, A0, G, ρ, B, x, S, ex, fun v H1 s1 r1 => ⟨H0, A0, G, ρ, B, xs, S.mono s1, exs, fun vs H2 s2 r2 => k _ H2 (s1.trans s2) ?_⟩⟩
  cases st with
  | true => exact .cons ((r1.toS S.tr (hm rfl)).mono s2) r2
  | false => exact .cons (r1.toW.mono s2) r2
/-- their number is the written one -/
theorem SE.toS (h : SE X O .f e f) : SE X O .s e f := ⟨pe_imp h.pe fun σ H Q ⟨H0, A0, G, ρ, B, d, S, e, k⟩ => ⟨H0, A0, G, ρ, B, d, S, e, fun v H' s r => k v H' s (r.toS S.tr (by decide))⟩⟩
theorem SE.toW (h : SE X O m e f) : SE X O .w e f := ⟨pe_imp h.pe fun σ H Q ⟨H0, A0, G, ρ, B, d, S, e, k⟩ => ⟨H0, A0, G, ρ, B, d, S, e, fun v H' s r => k v H' s r.toW⟩⟩

/-! ### displays -/
def xTup (fs : XL) : Xp := fun ρ => (fs ρ).bind fun ds => if ds.length ≤ 1000 then some (.tuple ds) else none
def xLst (fs : XL) : Xp := fun ρ => (fs ρ).bind fun ds => if ds.length ≤ 1000 then some (.list ds) else none
theorem line1000 {n : Nat} (h : n ≤ 1000) : n ≤ sizeLine := Nat.le_of_lt (small1000 h)
theorem se_tup {x1} (h : SA X O true es fs) : SE X O .f (.Tuple es x1 pos) (xTup fs) := by
  refine ⟨pe_imp (pe_tup h.pa) fun σ H Q q => ?_⟩
  obtain ⟨H0, A0, G, ρ, B, d, S, e, k⟩ := q
  obtain ⟨x, ex, e⟩ := bind2 e
  split at e
  · rename_i hz
    cases e
    refine ⟨H0, A0, G, ρ, B, x, S, ex, fun vs H1 s1 (r1 : RpL _ _ _ _ _) => ⟨by rw [r1.length]; exact line1000 hz, fun p hp => ?_⟩⟩
    exact k _ _ (s1.trans (same_upd hp)) (Res.flat (Rp.newT (S.mono s1).tr hp r1) rfl)
  · cases e
theorem se_lst (h : SA X O true es fs) : SE X O .f (.List es pos) (xLst fs) := by
  refine ⟨pe_imp (pe_lst h.pa) fun σ H Q q => ?_⟩
  obtain ⟨H0, A0, G, ρ, B, d, S, e, k⟩ := q
  obtain ⟨x, ex, e⟩ := bind2 e
  split at e
  · rename_i hz
    cases e
    refine ⟨H0, A0, G, ρ, B, x, S, ex, fun vs H1 s1 (r1 : RpL _ _ _ _ _) => ⟨by rw [r1.length]; exact line1000 hz, fun p hp => ?_⟩⟩
    exact k _ _ (s1.trans (same_upd hp)) (Res.newL (S.mono s1).tr hp r1 s1)
  · cases e

/-! ### and, or, if, not as values -/
def xAnd (fa fb : Xp) : Xp := fun ρ => (fa ρ).bind fun x => (dB x).bind fun b => if b then fb ρ else some (.bool false)
def xOr (fa fb : Xp) : Xp := fun ρ => (fa ρ).bind fun x => (dB x).bind fun b => if b then some (.bool true) else fb ρ
def xIf (c : PEnv → Option Bool) (fa fb : Xp) : Xp := fun ρ => (c ρ).bind fun b => if b then fa ρ else fb ρ
theorem se_bone {op} (h : SE X O m a f) : SE X O m (.BoolOp op [a] pos) f := ⟨pe_one h.pe⟩
theorem se_and (ha : SE X O ma a fa) (hb : SE X O m (.BoolOp .And (b :: es) pos) fb) : SE X O m (.BoolOp .And (a :: b :: es) pos) (xAnd fa fb) := by
  refine ⟨pe_imp (pe_and ha.pe hb.pe) fun σ H Q q => ?_⟩
  obtain ⟨H0, A0, G, ρ, B, d, S, e, k⟩ := q
  obtain ⟨x, ex, e⟩ := bind2 e
  obtain ⟨c, ec, e⟩ := bind2 e
  have := dB_some ec
  subst this
  refine ⟨H0, A0, G, ρ, B, _, S, ex, fun v H1 s1 r1 => ⟨c, r1.toW.bl, ?_⟩⟩
  cases c with
  | true => exact ⟨H0, A0, G, ρ, B, d, S.mono s1, e, fun v H' s r => k v H' (s1.trans s) (r.back s1)⟩
  | false => cases e; exact k _ H1 s1 Res.bl
theorem se_or (ha : SE X O ma a fa) (hb : SE X O m (.BoolOp .Or (b :: es) pos) fb) : SE X O m (.BoolOp .Or (a :: b :: es) pos) (xOr fa fb) := by
  refine ⟨pe_imp (pe_or ha.pe hb.pe) fun σ H Q q => ?_⟩
  obtain ⟨H0, A0, G, ρ, B, d, S, e, k⟩ := q
  obtain ⟨x, ex, e⟩ := bind2 e
  obtain ⟨c, ec, e⟩ := bind2 e
  have := dB_some ec
  subst this
  refine ⟨H0, A0, G, ρ, B, _, S, ex, fun v H1 s1 r1 => ⟨c, r1.toW.bl, ?_⟩⟩
  cases c with
  | false => exact ⟨H0, A0, G, ρ, B, d, S.mono s1, e, fun v H' s r => k v H' (s1.trans s) (r.back s1)⟩
  | true => cases e; exact k _ H1 s1 Res.bl
theorem se_if {tc : PEnv → Option Bool} (hc : ST X O c tc) (ha : SE X O m a fa) (hb : SE X O m b fb) : SE X O m (.IfExp c a b pos) (xIf tc fa fb) := by
  refine ⟨pe_imp (pe_ifExp hc.pt ha.pe hb.pe) fun σ H Q q => ?_⟩
  obtain ⟨H0, A0, G, ρ, B, d, S, e, k⟩ := q
  obtain ⟨x, ex, e⟩ := bind2 e
  refine ⟨H0, A0, G, ρ, B, x, S, ex, fun H1 s1 => ?_⟩
  cases x with
  | true => exact ⟨H0, A0, G, ρ, B, d, S.mono s1, e, fun v H' s r => k v H' (s1.trans s) (r.back s1)⟩
  | false => exact ⟨H0, A0, G, ρ, B, d, S.mono s1, e, fun v H' s r => k v H' (s1.trans s) (r.back s1)⟩
theorem se_not (h : SE X O ma a fa) : SE X O m (.UnaryOp .Not a pos) (xUn oNot fa) := by
  refine ⟨pe_imp (pe_notT h.pe) fun σ H Q q => ?_⟩
  obtain ⟨H0, A0, G, ρ, B, d, S, e, k⟩ := q
  obtain ⟨x, ex, e⟩ := bind2 e
  obtain ⟨c, ec, e⟩ := Option.map_eq_some_iff.mp e
  subst e
  exact ⟨H0, A0, G, ρ, B, x, S, ex, fun v H1 s1 r1 => ⟨c, tru_of r1.toW ec, k _ H1 s1 Res.bl⟩⟩
/-- a op b op c -/
def xChain (g g' : D → D → Option D) (fa fb fc : Xp) : Xp := fun ρ => (fa ρ).bind fun x => (fb ρ).bind fun y => (g x y).bind fun z => (dB z).bind fun k => if k then (fc ρ).bind fun w => g' y w else some (.bool false)
variable {mc : Md}
theorem tChain_of {op op' : CmpOp} {g g' : D → D → Option D} (σ : L2.St) (H : Hp) (Q : VK) (h : simT X.K O .f (xChain g g' fa fb fc) σ H Q) :
    tChain (rD X.K .f g) (rD X.K .f g') (simT X.K O ma fa) (simT X.K O mb fb) (simT X.K O mc fc) σ H Q := by
  obtain ⟨H0, A0, G, ρ, B, d, S, e, k⟩ := h
  obtain ⟨x, ex, e⟩ := bind2 e
  obtain ⟨y, ey, e⟩ := bind2 e
  obtain ⟨z, ez, e⟩ := bind2 e
  obtain ⟨c, ec, e⟩ := bind2 e
  have := dB_some ec
  subst this
  refine ⟨H0, A0, G, ρ, B, x, S, ex, fun v H1 s1 r1 => ⟨H0, A0, G, ρ, B, y, S.mono s1, ey, fun u H2 s2 r2 => ⟨Av A0 B, x, y, _, (S.mono (s1.trans s2)).tr, r1.toW.mono s2, r2.toW, ez, fun z H3 s3 r3 => ⟨c, r3.toW.bl, ?_⟩⟩⟩⟩
  have s13 := (s1.trans s2).trans s3
  cases c with
  | false => cases e; exact k _ H3 s13 Res.bl
  | true =>
    replace e : ((fc ρ).bind fun w => g' y w) = some d := e
    obtain ⟨w, ew, e⟩ := bind2 e
    exact ⟨H0, A0, G, ρ, B, w, S.mono s13, ew, fun v' H4 s4 r4 => ⟨Av A0 B, y, w, d, (S.mono (s13.trans s4)).tr, r2.toW.mono (s3.trans s4), r4.toW, e, fun z H5 s5 r5 => k z H5 ((s13.trans s4).trans s5) (r5.back (s13.trans s4))⟩⟩
theorem se_chain {op op' : CmpOp} {g g' : D → D → Option D} (ho : OpR X (compareOp op) (rD X.K .f g)) (ho' : OpR X (compareOp op') (rD X.K .f g')) (ha : SE X O ma a fa) (hb : SE X O mb b fb) (hc : SE X O mc c fc)
    (hm : lastMarks [op, op'] [b, c] = false := by with_unfolding_all rfl) : SE X O .f (.Compare a [op, op'] [b, c] pos) (xChain g g' fa fb fc) :=
  ⟨pe_imp (pe_chain ho ho' ha.pe hb.pe hc.pe hm) (tChain_of (op := op) (op' := op'))⟩
theorem st_chain {op op' : CmpOp} {g g' : D → D → Option D} (ho : OpR X (compareOp op) (rD X.K .f g)) (ho' : OpR X (compareOp op') (rD X.K .f g')) (ha : SE X O ma a fa) (hb : SE X O mb b fb) (hc : SE X O mc c fc)
    (hm : lastMarks [op, op'] [b, c] = false := by with_unfolding_all rfl) : ST X O (.Compare a [op, op'] [b, c] pos) (tOf (xChain g g' fa fb fc)) := by
  refine ⟨pt_imp (pt_chain ho ho' ha.pe hb.pe hc.pe hm) fun σ H Q h => ?_⟩
  obtain ⟨H0, A0, G, ρ, B, b, S, e, k⟩ := h
  obtain ⟨d, ed, e⟩ := bind2 e
  have := dB_some e
  subst this
  exact tChain_of (op := op) (op' := op') σ H _ ⟨H0, A0, G, ρ, B, _, S, ed, fun v H' s r => ⟨b, r.toW.bl, k H' s⟩⟩

/-! ### subscripts -/
theorem ix_D : IxR X (rD X.K .s oIx) := by
  intro value slice pins s σ H x y v u Q I rx ry ⟨A, dx, dy, d, tr, wx, wy, e, q⟩ hs
  unfold oIx at e
  split at e
  · obtain ⟨p, xs, rfl, hp, r⟩ := wx.lst
    obtain ⟨z, ez, rz⟩ := r.atI e
    exact ix_list value slice pins s σ H _ y v u Q I rx ry ⟨p, xs, _, z, rfl, wy.int, .of hp, ez, q z H (Same.refl H) rz⟩ hs
  · obtain ⟨p, xs, rfl, hp, n, r⟩ := wx.tup
    obtain ⟨z, ez, rz⟩ := r.atI e
    exact ix_tup value slice pins s σ H _ y v u Q I rx ry ⟨p, xs, _, z, rfl, wy.int, .of hp, ez, q z H (Same.refl H) rz⟩ hs
  · obtain ⟨p, xs, rfl, hp, r⟩ := wx.scr
    obtain ⟨z, ez, rz⟩ := r.atI e
    exact ix_list value slice pins s σ H _ y v u Q I rx ry ⟨p, xs, _, z, rfl, wy.int, hp, ez, q z H (Same.refl H) rz⟩ hs
  · cases e
theorem se_ix (ha : SE X O ma a fa) (hb : SE X O mb b fb) (hs : PlainIx b := by exact fun _ _ => rfl) : SE X O .s (.Subscript a b pos) (xBin oIx fa fb) := ⟨pe_imp (pe_ix ix_D ha.pe hb.pe hs) tOp_of⟩
/-- slices -/
def cutD (xs : List D) (lo hi : Option Int) : List D := (xs.drop (HT.sIx xs.length 0 lo)).take (HT.sIx xs.length xs.length hi - HT.sIx xs.length 0 lo)
theorem RpL.cut {K : PySem.W.Frag} {A : Addr → Prop} {H : Hp} {vs : List V} {ds : List D} (r : RpL K A H vs ds) (lo hi : Option Int) : RpL K A H (cutV vs lo hi) (cutD ds lo hi) := by
  unfold cutV cutD
  rw [r.length]
  exact (r.drop _).take _
abbrev XO := PEnv → Option (Option Int)
def simO (K : PySem.W.Frag) (O : List Nat) (f : XO) : TO := fun σ H Q => ∃ H0 A0 G ρ B i, Sim K H0 A0 G O σ H ρ B ∧ f ρ = some i ∧ ∀ H', Same H H' → Q i H'
structure SO (X : Cx) (O : List Nat) (e : Option Expr) (f : XO) : Prop where
  po : PO X e (simO X.K O f)
def oNo : XO := fun _ => some none
def oAt (f : Xp) : XO := fun ρ => (f ρ).bind fun d => match d with | .int i => some (some i) | _ => none
theorem po_imp {e : Option Expr} {t t' : TO} (h : PO X e t) (hi : ∀ σ H Q, t' σ H Q → t σ H Q) : PO X e t' := ⟨fun pins s σ H Q I q => h.run pins s σ H Q I (hi _ _ _ q)⟩
theorem so_none : SO X O none oNo := ⟨po_imp po_none fun σ H Q ⟨H0, A0, G, ρ, B, i, S, e, k⟩ => by cases e; exact k H (Same.refl H)⟩
theorem so_some (h : SE X O m e f) : SO X O (some e) (oAt f) := by
  refine ⟨po_imp (po_some h.pe) fun σ H Q ⟨H0, A0, G, ρ, B, i, S, e, k⟩ => ?_⟩
  obtain ⟨x, ex, e⟩ := bind2 e
  split at e
  · cases e
    exact ⟨H0, A0, G, ρ, B, _, S, ex, fun v H1 s1 r1 => ⟨_, r1.toW.int, k H1 s1⟩⟩
  · cases e
def oSl : D → Option Int → Option Int → Option D
  | .list xs, lo, hi => some (.list (cutD xs lo hi))
  | .tuple xs, lo, hi => some (.tuple (cutD xs lo hi))
  | _, _, _ => none
def xSl (f : Xp) (lo hi : XO) : Xp := fun ρ => (f ρ).bind fun x => (lo ρ).bind fun i => (hi ρ).bind fun j => oSl x i j
theorem se_sl {lo hi : Option Expr} {flo fhi : XO} {p2 : Pos} (he : SE X O m e f) (hl : SO X O lo flo) (hh : SO X O hi fhi) : SE X O .f (.Subscript e (.Slice lo hi none p2) pos) (xSl f flo fhi) := by
  refine ⟨pe_imp (pe_slice (SlR.or sl_list sl_tupA) he.pe hl.po hh.po) fun σ H Q q => ?_⟩
  obtain ⟨H0, A0, G, ρ, B, d, S, e, k⟩ := q
  obtain ⟨x, ex, e⟩ := bind2 e
  obtain ⟨i, ei, e⟩ := bind2 e
  obtain ⟨j, ej, e⟩ := bind2 e
  refine ⟨H0, A0, G, ρ, B, x, S, ex, fun v H1 s1 r1 => ⟨H0, A0, G, ρ, B, i, S.mono s1, ei, fun H2 s2 => ⟨H0, A0, G, ρ, B, j, S.mono (s1.trans s2), ej, fun H3 s3 => ?_⟩⟩⟩
  have s13 := (s1.trans s2).trans s3
  have w := r1.toW.mono (s2.trans s3)
  unfold oSl at e
  split at e
  · cases e
    obtain ⟨p, xs, rfl, hp, r⟩ := w.lst
    exact .inl ⟨p, xs, rfl, .of hp, fun p hp => k _ _ (s13.trans (same_upd hp)) (Res.newL (S.mono s13).tr hp (r.cut _ _) s13)⟩
  · cases e
    obtain ⟨p, xs, rfl, hp, n, r⟩ := w.tup
    refine .inr ⟨p, xs, rfl, .of hp, fun z => ?_, fun z p hp => k _ _ (s13.trans (same_upd hp)) (Res.flat (Rp.newT (S.mono s13).tr hp (r.cut _ _)) rfl)⟩
    refine k _ _ s13 (Res.flat (.tup hp n ?_) rfl)
    have c := r.cut i j
    have hx : cutV xs i j = xs := by
      unfold cutV
      rw [z.1, z.2]
      simp
    rw [hx] at c
    exact c
  · cases e

/-! ### calls of built-ins by values -/
def rC (K : PySem.W.Frag) (m : Md) (g : List D → Option D) : List V → Hp → VK → Prop := fun vs H Q => ∃ A ds d, Tr A H ∧ Paired (WRp K A H) vs ds ∧ g ds = some d ∧ ∀ v H', Same H H' → Res K A H H' m v d → Q v H'
def xCall (g : List D → Option D) (fs : XL) : Xp := fun ρ => (fs ρ).bind g
theorem RpL.weak {K : PySem.W.Frag} {A : Addr → Prop} {H : Hp} {vs : List V} {ds : List D} (r : RpL K A H vs ds) : Paired (WRp K A H) vs ds := by
  induction ds generalizing vs with
  | nil => cases r; exact .nil
  | cons d ds ih => cases r with | cons h r => exact .cons (.inl h) (ih r)
theorem ResL.weak {K : PySem.W.Frag} {A : Addr → Prop} {H : Hp} {vs : List V} {ds : List D} (r : ResL K A H st vs ds) : Paired (WRp K A H) vs ds := by
  cases st with
  | true => exact RpL.weak r
  | false => exact r
theorem tCB_of {g : List D → Option D} (σ : L2.St) (H : Hp) (Q : VK) (q : simT X.K O m (xCall g fs) σ H Q) : tCB (rC X.K m g) (simA X.K O st fs) σ H Q := by
  obtain ⟨H0, A0, G, ρ, B, d, S, e, k⟩ := q
  obtain ⟨x, ex, e⟩ := bind2 e
  exact ⟨H0, A0, G, ρ, B, x, S, ex, fun vs H1 s1 r1 => ⟨Av A0 B, x, d, (S.mono s1).tr, r1.weak, e, fun v H' s r => k v H' (s1.trans s) (r.back s1)⟩⟩
theorem se_callB {x : Str} {p : Pos} {id : String} {g : List D → Option D} (hc : CallR X (.builtin id) (rC X.K m g)) (hm : X.mg x = none) (ha : SA X O st (e :: es) fs) (hg : Gl X x := by rfl) (hv : bootBuiltins x = some (.builtin id) := by rfl) (hn : x ≠ "__name__" := by decide) (hdb : (x == ("__debug__" : Str)) = false := by decide)
    (he : starEach (e :: es) X.env = (false, eval e X.env) :: starEach es X.env := by rfl) (hpl : (backTo pos (starEach es X.env)).any (·.1) = false := by rfl) : SE X O m (.Call (.Name x p) (e :: es) [] pos) (xCall g fs) :=
  ⟨pe_imp (pe_callB hc hg hm hv ha.pa hn hdb he hpl) tCB_of⟩
theorem se_callT {x : Str} {p : Pos} {id : String} {g : List D → Option D} (hc : CallR X (.type id) (rC X.K m g)) (hm : X.mg x = none) (ha : SA X O st (e :: es) fs) (hg : Gl X x := by rfl) (hv : bootBuiltins x = some (.type id) := by rfl) (hn : x ≠ "__name__" := by decide) (hdb : (x == ("__debug__" : Str)) = false := by decide)
    (he : starEach (e :: es) X.env = (false, eval e X.env) :: starEach es X.env := by rfl) (hpl : (backTo pos (starEach es X.env)).any (·.1) = false := by rfl) : SE X O m (.Call (.Name x p) (e :: es) [] pos) (xCall g fs) :=
  ⟨pe_imp (pe_callTy hc hg hm hv ha.pa hn hdb he hpl) tCB_of⟩

/-! ### calls of defs -/
mutual
def flat : D → Bool
  | .list _ => false
  | .dict _ => false
  | .tuple xs => flatL xs
  | .none => true
  | .bool _ => true
  | .int _ => true
  | .str _ => true
def flatL : List D → Bool
  | [] => true
  | x :: xs => flat x && flatL xs
end
mutual
theorem Rp.flatA {K : PySem.W.Frag} {A A' : Addr → Prop} {H : Hp} (t : Tr A' H) : ∀ {v : V} {d : D}, Rp K A H v d → flat d = true → Rp K A' H v d
  | _, _, .non, _ => .non
  | _, _, .bl b, _ => .bl b
  | _, _, .int i, _ => .int i
  | _, _, .str x, _ => .str x
  | _, _, .lst h n r, c => by simp [flat] at c
  | _, _, .tup h n r, c => .tup h (fun z => by
      obtain ⟨o, e, nt⟩ := t _ z
      rw [h] at e
      cases e
      exact nt _ rfl) (RpL.flatA t r (by simpa [flat] using c))
  | _, _, .scr h n r, c => by simp [flat] at c
  | _, _, .kl h r, c => by simp [flat] at c
  | _, _, .dic h n r e, c => by simp [flat] at c
theorem RpL.flatA {K : PySem.W.Frag} {A A' : Addr → Prop} {H : Hp} (t : Tr A' H) : ∀ {vs : List V} {ds : List D}, RpL K A H vs ds → flatL ds = true → RpL K A' H vs ds
  | _, _, .nil, _ => .nil
  | _, _, .cons h r, c => by
    simp only [flatL, Bool.and_eq_true] at c
    exact .cons (Rp.flatA t h c.1) (RpL.flatA t r c.2)
end
theorem flat_mut {d : D} (h : flat d = true) : isMut d = false := by
  cases d <;> simp_all [flat, isMut]
def spD (K : PySem.W.Frag) (n : Nat) (F : List D → Option D) : Sp := fun vs H Q _ => ∃ A ds d, Tr A H ∧ vs.length = n ∧ RpL K A H vs ds ∧ F ds = some d ∧ ∀ v H', Same H H' → Rp K A H' v d → Q v H'
/-- a def of the text, with its function -/
structure Def (P : Program) (w : World) (K : PySem.W.Frag) (mg : Str → Option Value) (base : Heap) (k : Nat) (x : Str) (ps : List Str) (F : List D → Option D) : Prop where
  ex : ∃ f fd, FnOk P w K mg base CX0 k f fd ps (spD K ps.length F) ∧ mg x = some (.ref f) ∧ PySem.W.keepIn K (.ref f) = true ∧ Binds K fd ps []
theorem Def.mono {P : Program} {w : World} {K : PySem.W.Frag} {mg : Str → Option Value} {base : Heap} {k k' : Nat} {x : Str} {ps : List Str} {F : List D → Option D} (h : Def P w K mg base k x ps F) (hk : k ≤ k') : Def P w K mg base k' x ps F :=
  let ⟨f, fd, h1, h2⟩ := h.ex; ⟨f, fd, h1.mono hk, h2⟩
variable {k j : Nat} {x : Str} {ps : List Str} {F : List D → Option D} {p : Pos}
theorem se_call (hd : Def X.prog X.w X.K X.mg X.base k x ps F) (hr : Room j X.A) (ha : SA X O true (e :: es) fs) (hk : k ≤ j := by decide) (hl : (e :: es).length = ps.length := by rfl) (hg : Gl X x := by rfl) (hdb : (x == ("__debug__" : Str)) = false := by decide)
    (he : starEach (e :: es) X.env = (false, eval e X.env) :: starEach es X.env := by rfl) (hpl : (backTo pos (starEach es X.env)).any (·.1) = false := by rfl) : SE X O .s (.Call (.Name x p) (e :: es) [] pos) (xCall (fun ds => if ds.length = ps.length then F ds else none) fs) := by
  obtain ⟨f, fd, hF, hm, kp, hb⟩ := hd.ex
  refine ⟨pe_imp (pe_call hF (hr.mono hk) hg hm kp hb .nil pass0 ha.pa hdb he hpl) fun σ H Q q => ?_⟩
  obtain ⟨H0, A0, G, ρ, B, d, S, e, k⟩ := q
  obtain ⟨ds, ex, e⟩ := bind2 e
  split at e
  · rename_i hz
    refine ⟨H0, A0, G, ρ, B, ds, S, ex, fun vs H1 s1 (r1 : RpL _ _ _ _ _) => ⟨Av A0 B, ds, d, (S.mono s1).tr, ?_, ?_, e, fun v H' s r => k v H' (s1.trans s) r⟩⟩
    · rw [List.append_nil, r1.length, hz]
    · rw [List.append_nil]; exact r1
  · cases e
theorem WRp.rp0 {K : PySem.W.Frag} {A : Addr → Prop} {H : Hp} {v : V} {d : D} (h : WRp K A H v d) : Rp K (fun _ => False) H v d := by
  rcases h with h | ⟨a, e, h⟩
  · exact h.anti fun _ z => z.elim
  · subst e
    exact (h.step (fun _ _ q _ => q) (fun _ z => z.elim) fun _ q => q : Tp K (fun _ => False) H a d).rp fun z => z
theorem weak_rp0 {K : PySem.W.Frag} {A : Addr → Prop} {H : Hp} : ∀ {vs : List V} {ds : List D}, Paired (WRp K A H) vs ds → RpL K (fun _ => False) H vs ds
  | _, _, .nil => .nil
  | _, _, .cons h r => .cons h.rp0 (weak_rp0 r)
/-- a call to which one's own lists go: what comes back holds no list -/
theorem se_callW (hd : Def X.prog X.w X.K X.mg X.base k x ps F) (hr : Room j X.A) (ha : SA X O false (e :: es) fs) (hk : k ≤ j := by decide) (hg : Gl X x := by rfl) (hdb : (x == ("__debug__" : Str)) = false := by decide)
    (he : starEach (e :: es) X.env = (false, eval e X.env) :: starEach es X.env := by rfl) (hpl : (backTo pos (starEach es X.env)).any (·.1) = false := by rfl) : SE X O .f (.Call (.Name x p) (e :: es) [] pos) (xCall (fun ds => if ds.length = ps.length then (F ds).bind fun d => if flat d then some d else none else none) fs) := by
  obtain ⟨f, fd, hF, hm, kp, hb⟩ := hd.ex
  refine ⟨pe_imp (pe_call hF (hr.mono hk) hg hm kp hb .nil pass0 ha.pa hdb he hpl) fun σ H Q q => ?_⟩
  obtain ⟨H0, A0, G, ρ, B, d, S, e, k⟩ := q
  obtain ⟨ds, ex, e⟩ := bind2 e
  split at e
  · rename_i hz
    obtain ⟨d', e', e⟩ := bind2 e
    split at e
    · rename_i hf
      cases e
      refine ⟨H0, A0, G, ρ, B, ds, S, ex, fun vs H1 s1 r1 => ⟨fun _ => False, ds, d, fun _ z => z.elim, ?_, ?_, e', fun v H' s r => k v H' (s1.trans s) (Res.flat (r.flatA (S.mono (s1.trans s)).tr hf) (flat_mut hf))⟩⟩
      · rw [List.append_nil, (weak_rp0 r1).length, hz]
      · rw [List.append_nil]; exact weak_rp0 r1
    · cases e
  · cases e
end
end Pm

namespace Pm
open PySem PySem.Spec PyProof.Rows L2

/-! ### what the built-ins do -/
def seqD : D → Option (List D)
  | .list xs => some xs
  | .tuple xs => some xs
  | _ => none
def asInts : List D → Option (List Int)
  | [] => some []
  | .int i :: r => (asInts r).map (i :: ·)
  | _ => none
def asBools : List D → Option (List Bool)
  | [] => some []
  | .bool i :: r => (asBools r).map (i :: ·)
  | _ => none
def bLen : List D → Option D
  | [.list xs] => some (.int xs.length)
  | [.tuple xs] => some (.int xs.length)
  | [.dict [(.none, .list xs)]] => some (.int xs.length)
  | _ => none
def bAbs : List D → Option D
  | [.int i] => some (.int (if i < 0 then -i else i))
  | _ => none
def bInt : List D → Option D
  | [.int i] => some (.int i)
  | [.bool b] => some (.int (if b then 1 else 0))
  | _ => none
def bMax2 : List D → Option D
  | [.int i, .int j] => some (.int (if j > i then j else i))
  | _ => none
def bMin2 : List D → Option D
  | [.int i, .int j] => some (.int (if j < i then j else i))
  | _ => none
def bSum : List D → Option D
  | [x] => (seqD x).bind fun xs => (asInts xs).map fun ns => .int ns.sum
  | _ => none
def bAll : List D → Option D
  | [x] => (seqD x).bind fun xs => (asBools xs).map fun ns => .bool (ns.all id)
  | _ => none
def bAny : List D → Option D
  | [x] => (seqD x).bind fun xs => (asBools xs).map fun ns => .bool (ns.any id)
  | _ => none
def bTuple : List D → Option D
  | [x] => (seqD x).map .tuple
  | _ => none
def bList : List D → Option D
  | [x] => (seqD x).map .list
  | _ => none

section
variable {K : PySem.W.Frag} {A : Addr → Prop} {H H' : Hp} {v : V} {d : D} {vs : List V} {ds : List D}
theorem p1 {F : V → D → Prop} {x : D} (h : Paired F vs [x]) : ∃ v, vs = [v] ∧ F v x := by
  cases h with
  | cons a r => cases r; exact ⟨_, rfl, a⟩
theorem p2 {F : V → D → Prop} {x y : D} (h : Paired F vs [x, y]) : ∃ v u, vs = [v, u] ∧ F v x ∧ F u y := by
  cases h with
  | cons a r =>
    cases r with
    | cons b r => cases r; exact ⟨_, _, rfl, a, b⟩
theorem WRp.seq {xs : List D} (h : WRp K A H v d) (e : seqD d = some xs) : ∃ a vs, v = .ref a ∧ (H a = some (.lst vs) ∨ H a = some (.tup vs)) ∧ RpL K A H vs xs := by
  unfold seqD at e
  split at e
  · cases e
    obtain ⟨a, vs, e1, e2, e3⟩ := h.lst
    exact ⟨a, vs, e1, .inl e2, e3⟩
  · cases e
    obtain ⟨a, vs, e1, e2, _, e3⟩ := h.tup
    exact ⟨a, vs, e1, .inr e2, e3⟩
  · cases e
theorem RpL.ints : ∀ {vs : List V} {ds : List D} {ns : List Int}, RpL K A H vs ds → asInts ds = some ns → vs = ns.map V.int
  | _, _, _, .nil, e => by cases e; rfl
  | _, _, ns, .cons h r, e => by
    cases h with
    | int i =>
      simp only [asInts] at e
      obtain ⟨ms, e1, e2⟩ := Option.map_eq_some_iff.mp e
      subst e2
      rw [RpL.ints r e1]
      rfl
    | _ => simp [asInts] at e
theorem RpL.bools : ∀ {vs : List V} {ds : List D} {ns : List Bool}, RpL K A H vs ds → asBools ds = some ns → vs = ns.map V.bl
  | _, _, _, .nil, e => by cases e; rfl
  | _, _, ns, .cons h r, e => by
    cases h with
    | bl i =>
      simp only [asBools] at e
      obtain ⟨ms, e1, e2⟩ := Option.map_eq_some_iff.mp e
      subst e2
      rw [RpL.bools r e1]
      rfl
    | _ => simp [asBools] at e
end

/-! ### a list or a tuple, walked -/
section
variable {X : Cx} {pins : List (Addr × Obj)} {σ : L2.St} {H : Hp} {s : Shared}
/-- the iterator of a list or a tuple -/
theorem sq_iter {A : Around} {E : Value → Shared → Prop} {a : Addr} {xs : List V} {Q : Value → Shared → Prop} (hh : A.handled = none) (I : Inv X pins σ H s) (h : H a = some (.lst xs) ∨ H a = some (.tup xs))
    (k : ∀ (its : List Value) (J : Addr) (fp wr : List Addr) (St : Nat → Heap → Prop) (h₂ : Heap), Vals xs its → Walks X.prog X.w A J fp wr its.length (fun i v => its[i]? = some v) St → St 0 h₂ → (∀ b ∈ fp, b < h₂.objs.size) →
      (∀ h' : Heap, (∀ b o, b ∉ wr → h₂.get? b = some o → h'.get? b = some o) → ∀ b o, s.heap.get? b = some o → h'.get? b = some o) → Q (.ref J) { s with heap := h₂ }) :
    wpAny (model X.prog X.w) A (pyIter (.ref a)) Q E s := by
  have fin : ∀ (o : Obj) (h' : Heap), (∀ b q, b ∉ [s.heap.objs.size] → (s.heap.push o).get? b = some q → h'.get? b = some q) → ∀ b q, s.heap.get? b = some q → h'.get? b = some q := fun o h' hk b q e =>
    hk b q (fun z => by
      have z' : b = s.heap.objs.size := by simpa using z
      exact absurd (z' ▸ Heap.lt_size e) (Nat.lt_irrefl _)) (Heap.get?_push_of_some _ e)
  have small : ∀ (o : Obj) (l : Addr), l < s.heap.objs.size → ∀ b ∈ [s.heap.objs.size, l], b < (s.heap.push o).objs.size := fun o l hl b hb => by
    rw [Heap.size_push]
    have z : b = s.heap.objs.size ∨ b = l := by simpa using hb
    rcases z with z | z
    · rw [z]; exact Nat.lt_succ_self _
    · rw [z]; exact Nat.lt_succ_of_lt hl
  rcases h with h | h
  · obtain ⟨its, rv, p, hz⟩ := I.list (.of h)
    have hlt : a < s.heap.objs.size := p.lt
    refine wpAny_pyIter_list p.isList ?_
    have W := Walks.list (prog := X.prog) (w := X.w) hh s.heap.objs.size a (Nat.ne_of_lt hlt) its.toArray
    refine k its _ [s.heap.objs.size, a] [s.heap.objs.size] (fun i h => h.IsListIter s.heap.objs.size a i ∧ h.IsList a its.toArray) _ rv (by simpa using W) ⟨⟨_, Heap.get?_push_size _ rfl, rfl, rfl⟩, p.isList.push _⟩ (small _ _ hlt) (fin _)
  · obtain ⟨its, rv, p, hz⟩ := I.tuple (.of h)
    have hlt : a < s.heap.objs.size := p.lt
    refine wpAny_pyIter_tuple (show s.heap.IsTuple a its.toArray from p) ?_
    have W := Walks.tuple (prog := X.prog) (w := X.w) hh s.heap.objs.size a (Nat.ne_of_lt hlt) its.toArray
    obtain ⟨o, ho, r⟩ := id p
    refine k its _ [s.heap.objs.size, a] [s.heap.objs.size] (fun i h => h.IsTupleIter s.heap.objs.size a i ∧ h.IsTuple a its.toArray) _ rv (by simpa using W) ⟨⟨_, Heap.get?_push_size _ rfl, rfl, rfl⟩, ⟨o, Heap.get?_push_of_some _ ho, r⟩⟩ (small _ _ hlt) (fin _)
end

section
variable {X : Cx} {k : Nat}
theorem ref1 {a : Addr} {us : List Value} (r : Vals [V.ref a] us) : us = [Value.ref a] := Vals.ref1 r
theorem cb_len : CallR X (.builtin "len") (rC X.K .f bLen) := by
  intro pins s σ H vs us Q I r ⟨A, ds, d, tr, w, e, q⟩
  unfold bLen at e
  split at e
  · cases e
    obtain ⟨v, rfl, w1⟩ := p1 w
    obtain ⟨a, xs, rfl, ha, ra⟩ := w1.lst
    exact call_len_seq pins s σ H _ us Q I r ⟨a, xs, rfl, .inl (.of ha), by rw [ra.length]; exact q _ H (Same.refl H) Res.int⟩
  · cases e
    obtain ⟨v, rfl, w1⟩ := p1 w
    obtain ⟨a, xs, rfl, ha, _, ra⟩ := w1.tup
    exact call_len_seq pins s σ H _ us Q I r ⟨a, xs, rfl, .inr (.of ha), by rw [ra.length]; exact q _ H (Same.refl H) Res.int⟩
  · cases e
    obtain ⟨v, rfl, w1⟩ := p1 w
    obtain ⟨a, xs, rfl, ha, ra⟩ := w1.scr
    exact call_len_seq pins s σ H _ us Q I r ⟨a, xs, rfl, .inl ha, by rw [ra.length]; exact q _ H (Same.refl H) Res.int⟩
  · cases e
theorem cb_abs : CallR X (.builtin "abs") (rC X.K .f bAbs) := by
  intro pins s σ H vs us Q I r ⟨A, ds, d, tr, w, e, q⟩
  unfold bAbs at e
  split at e
  · cases e
    obtain ⟨v, rfl, w1⟩ := p1 w
    exact call_abs pins s σ H _ us Q I r ⟨_, by rw [w1.int], q _ H (Same.refl H) Res.int⟩
  · cases e
theorem cb_int : CallR X (.type "int") (rC X.K .f bInt) := by
  intro pins s σ H vs us Q I r ⟨A, ds, d, tr, w, e, q⟩
  unfold bInt at e
  split at e
  · cases e
    obtain ⟨v, rfl, w1⟩ := p1 w
    exact call_int1 pins s σ H _ us Q I r (.inl ⟨_, by rw [w1.int], q _ H (Same.refl H) Res.int⟩)
  · cases e
    obtain ⟨v, rfl, w1⟩ := p1 w
    exact call_int1 pins s σ H _ us Q I r (.inr ⟨_, by rw [w1.bl], q _ H (Same.refl H) Res.int⟩)
  · cases e
theorem cb_max2 (hc : X.calm = true := by rfl) : CallR X (.builtin "max") (rC X.K .f bMax2) := by
  intro pins s σ H vs us Q I r ⟨A, ds, d, tr, w, e, q⟩
  unfold bMax2 at e
  split at e
  · cases e
    obtain ⟨v, u, rfl, w1, w2⟩ := p2 w
    exact call_max2 hc pins s σ H _ us Q I r ⟨_, _, by rw [w1.int, w2.int], q _ H (Same.refl H) Res.int⟩
  · cases e
theorem cb_min2 (hc : X.calm = true := by rfl) : CallR X (.builtin "min") (rC X.K .f bMin2) := by
  intro pins s σ H vs us Q I r ⟨A, ds, d, tr, w, e, q⟩
  unfold bMin2 at e
  split at e
  · cases e
    obtain ⟨v, u, rfl, w1, w2⟩ := p2 w
    exact call_min2 hc pins s σ H _ us Q I r ⟨_, _, by rw [w1.int, w2.int], q _ H (Same.refl H) Res.int⟩
  · cases e
theorem intsAt {its : List Value} {ns : List Int} (r : Vals (ns.map V.int) its) (i : Nat) (v : Value) (h : its[i]? = some v) : ∃ t, v = .int (ns.getD i 0) t := by
  have hi := r.length
  rw [List.length_map] at hi
  have hlt : i < ns.length := by rw [hi]; exact (List.getElem?_eq_some_iff.mp h).1
  obtain ⟨u, e, q⟩ := r.get (i := i) (x := .int ns[i]) (by simp [hlt])
  rw [h] at e
  cases e
  obtain ⟨t, rfl⟩ := q
  exact ⟨t, by simp [hlt]⟩
theorem preSum_all (ns : List Int) : preSum (fun i => ns.getD i 0) ns.length = ns.sum := by
  have h : ∀ k, k ≤ ns.length → preSum (fun i => ns.getD i 0) k = (ns.take k).sum := by
    intro k
    induction k with
    | zero => intro _; rfl
    | succ k ih =>
      intro hk
      show preSum (fun i => ns.getD i 0) k + ns.getD k 0 = _
      rw [ih (by omega), List.take_succ, List.sum_append, List.getElem?_eq_getElem (by omega)]
      simp [List.getD_eq_getElem?_getD, List.getElem?_eq_getElem (show k < ns.length by omega)]
  rw [h _ (Nat.le_refl _), List.take_length]
theorem cb_sum (hc : X.calm = true := by rfl) : CallR X (.builtin "sum") (rC X.K .f bSum) := by
  intro pins s σ H vs us Q I r ⟨A, ds, d, tr, w, e, q⟩
  unfold bSum at e
  split at e
  · obtain ⟨v, rfl, w1⟩ := p1 w
    obtain ⟨xs, e1, e⟩ := bind2 e
    obtain ⟨ns, e2, e⟩ := Option.map_eq_some_iff.mp e
    subst e
    obtain ⟨a, vs, rfl, ha, ra⟩ := w1.seq e1
    rw [ref1 r]
    have hv := ra.ints e2
    subst hv
    refine call_sum_walkG (sq_iter (show X.A.in1.handled = none from I.ok.hd hc) I ha fun its J fp wr St h₂ rv W st hfp kp => ?_)
    have hl := rv.length
    rw [List.length_map] at hl
    refine ⟨_, _, _, _, _, _, fun i => ns.getD i 0, rfl, W, st, hfp, fun i v h => intsAt rv i v h, fun h' tk t' hk => ?_⟩
    rw [← hl, preSum_all]
    exact ⟨.int _, H, I.kept (kp h' hk), ⟨_, rfl⟩, q _ H (Same.refl H) Res.int⟩
  · cases e
theorem truths {prog : Program} {w : World} {A : Around} {bs : List Bool} {its : List Value} (e : its = bs.map Value.bool) : TruthOf prog w A (fun i v => its[i]? = some v) (fun i => bs.getD i false) := by
  have := truth_bools (prog := prog) (w := w) (A := A) e
  simpa using this
theorem cb_all (hc : X.calm = true := by rfl) : CallR X (.builtin "all") (rC X.K .f bAll) := by
  intro pins s σ H vs us Q I r ⟨A, ds, d, tr, w, e, q⟩
  unfold bAll at e
  split at e
  · obtain ⟨v, rfl, w1⟩ := p1 w
    obtain ⟨xs, e1, e⟩ := bind2 e
    obtain ⟨ns, e2, e⟩ := Option.map_eq_some_iff.mp e
    subst e
    obtain ⟨a, vs, rfl, ha, ra⟩ := w1.seq e1
    rw [ref1 r]
    have hv := ra.bools e2
    subst hv
    refine call_all_walk (sq_iter (show X.A.in1.handled = none from I.ok.hd hc) I ha fun its J fp wr St h₂ rv W st hfp kp => ?_)
    have hl := rv.length
    rw [List.length_map] at hl
    refine ⟨_, _, _, _, _, _, _, rfl, W, st, truths rv.bls, fun h' tk hk => ?_⟩
    rw [← hl, L2.all_range]
    exact ⟨.bl _, H, I.kept (kp h' hk), rfl, q _ H (Same.refl H) Res.bl⟩
  · cases e
theorem cb_any (hc : X.calm = true := by rfl) : CallR X (.builtin "any") (rC X.K .f bAny) := by
  intro pins s σ H vs us Q I r ⟨A, ds, d, tr, w, e, q⟩
  unfold bAny at e
  split at e
  · obtain ⟨v, rfl, w1⟩ := p1 w
    obtain ⟨xs, e1, e⟩ := bind2 e
    obtain ⟨ns, e2, e⟩ := Option.map_eq_some_iff.mp e
    subst e
    obtain ⟨a, vs, rfl, ha, ra⟩ := w1.seq e1
    rw [ref1 r]
    have hv := ra.bools e2
    subst hv
    refine call_any_walk (sq_iter (show X.A.in1.handled = none from I.ok.hd hc) I ha fun its J fp wr St h₂ rv W st hfp kp => ?_)
    have hl := rv.length
    rw [List.length_map] at hl
    refine ⟨_, _, _, _, _, _, _, rfl, W, st, truths rv.bls, fun h' tk hk => ?_⟩
    rw [← hl, L2.any_range]
    exact ⟨.bl _, H, I.kept (kp h' hk), rfl, q _ H (Same.refl H) Res.bl⟩
  · cases e
theorem cb_tuple : CallR X (.type "tuple") (rC X.K .f bTuple) := by
  intro pins s σ H vs us Q I r ⟨A, ds, d, tr, w, e, q⟩
  unfold bTuple at e
  split at e
  · obtain ⟨v, rfl, w1⟩ := p1 w
    obtain ⟨xs, e1, e⟩ := Option.map_eq_some_iff.mp e
    subst e
    unfold seqD at e1
    split at e1
    · cases e1
      obtain ⟨a, ys, rfl, ha, ra⟩ := w1.lst
      exact call_tuple_of pins s σ H _ us Q I r ⟨a, ys, rfl, .inl ⟨.of ha, fun l hl => q _ _ (same_upd hl) (Res.flat (Rp.newT tr hl ra) rfl)⟩⟩
    · cases e1
      obtain ⟨a, ys, rfl, ha, na, ra⟩ := w1.tup
      exact call_tuple_of pins s σ H _ us Q I r ⟨a, ys, rfl, .inr ⟨.of ha, q _ H (Same.refl H) (Res.flat (.tup ha na ra) rfl)⟩⟩
    · cases e1
  · cases e
theorem cb_list : CallR X (.type "list") (rC X.K .f bList) := by
  intro pins s σ H vs us Q I r ⟨A, ds, d, tr, w, e, q⟩
  unfold bList at e
  split at e
  · obtain ⟨v, rfl, w1⟩ := p1 w
    obtain ⟨xs, e1, e⟩ := Option.map_eq_some_iff.mp e
    subst e
    obtain ⟨a, ys, rfl, ha, ra⟩ := w1.seq e1
    refine call_list_of pins s σ H _ us Q I r ⟨a, ys, rfl, ha.elim (fun h => .inl (.of h)) (fun h => .inr (.of h)), fun l hl => q _ _ (same_upd hl) (Res.newL tr hl ra (Same.refl H))⟩
  · cases e

/-! ### isinstance of a written built-in type -/
def tyName : D → String
  | .none => "NoneType"
  | .bool _ => "bool"
  | .int _ => "int"
  | .str _ => "str"
  | .list _ => "list"
  | .tuple _ => "tuple"
  | .dict _ => "dict"
def oIsi (T : String) (d : D) : Option D := match d with
  | .dict _ => none
  | _ => (kitB (tyName d) T).map .bool
theorem WRp.ty {K : PySem.W.Frag} {A : Addr → Prop} {H : Hp} {v : V} {d : D} (w : WRp K A H v d) (h : ∀ kvs, d ≠ .dict kvs) : TyX K H v (.type (tyName d)) := by
  rcases w with w | ⟨a, e, w⟩
  · cases w with
    | non => exact .base .non
    | bl b => exact .base (.bl b)
    | int i => exact .base (.int i)
    | str x => exact .base (.str x)
    | lst e n r => exact .base (.lst e)
    | tup e n r => exact .base (.tup e)
    | scr e n r => exact absurd rfl (h _)
    | kl e r => exact absurd rfl (h _)
    | dic e n r q => exact absurd rfl (h _)
  · subst e
    cases w with
    | lst e r => exact .base (.lst e)
    | dic e r q => exact absurd rfl (h _)
section
variable {O : List Nat} {m : Md} {a : Expr} {fa : Xp} {p pos pt : Pos} {x T' : Str} {T : String}
theorem se_isi (T : String) (ha : SE X O m a fa) (hm : X.mg "isinstance" = none) (hmT : X.mg T' = none) (hg : Gl X "isinstance" := by rfl) (hgT : Gl X T' := by rfl) (hvT : bootBuiltins T' = some (.type T) := by rfl) (hnT : T' ≠ "__name__" := by decide) (hdT : (T' == ("__debug__" : Str)) = false := by decide)
    (hs : starEach (a :: [Expr.Name T' pt]) X.env = (false, eval a X.env) :: starEach [Expr.Name T' pt] X.env := by rfl) (hs2 : starEach [Expr.Name T' pt] X.env = (false, eval (.Name T' pt) X.env) :: starEach [] X.env := by rfl)
    (hpl : (backTo pos (starEach [Expr.Name T' pt] X.env)).any (·.1) = false := by rfl) : SE X O .f (.Call (.Name "isinstance" p) [a, .Name T' pt] [] pos) (xUn (oIsi T) fa) := by
  have hT : PE X (.Name T' pt) (tC (.ty T)) := pe_bltn hgT hmT hvT rfl hnT hdT
  refine ⟨pe_imp (pe_callB call_isi hg hm (by decide +kernel) (pa_cons ha.pe (pa_cons hT pa_nil hs2) hs) (by decide) (by decide) hs hpl) fun σ H Q q => ?_⟩
  obtain ⟨H0, A0, G, ρ, B, d, S, e, k⟩ := q
  obtain ⟨y, ey, e⟩ := bind2 e
  unfold oIsi at e
  split at e
  · cases e
  · rename_i hnd
    obtain ⟨b, eb, e⟩ := Option.map_eq_some_iff.mp e
    subst e
    refine ⟨H0, A0, G, ρ, B, y, S, ey, fun v H1 s1 r1 => ?_⟩
    exact ⟨v, .ty T, .type (tyName y), .type T, b, rfl, .ty T, r1.toW.ty hnd, kit_ty eb, k _ H1 s1 Res.bl⟩
end
end
end Pm

namespace Pm
open PySem PySem.Spec PyProof.Rows L2

/-! ### what is walked -/
structure Yl (K : PySem.W.Frag) (J : It) (gs : List (V × D)) (ds : List D) : Prop where
  go : ∀ A H i d, Tr A H → (∀ p ∈ gs, WRp K A H p.1 p.2) → ds[i]? = some d → J.go i H ∧ ∀ x H', J.yld i H x H' → Same H H' ∧ Rp K A H' x d
  stop : ∀ A H, Tr A H → (∀ p ∈ gs, WRp K A H p.1 p.2) → J.stop ds.length H
def strongR (K : PySem.W.Frag) (A : Addr → Prop) (H : Hp) (st : Bool) (v : V) (d : D) : Prop := if st then Rp K A H v d else WRp K A H v d
def simI (K : PySem.W.Frag) (O : List Nat) (st : Bool) (f : XL) : TI := fun σ H R => ∃ H0 A0 G ρ B ds, Sim K H0 A0 G O σ H ρ B ∧ f ρ = some ds ∧
  ∀ J H' gs, Same H H' → Yl K J gs ds → (∀ p ∈ gs, strongR K (Av A0 B) H' st p.1 p.2) → ds.length ≤ 16777216 → R J H'
structure SI (X : Cx) (O : List Nat) (st : Bool) (tg iter : Expr) (f : XL) : Prop where
  pi : PI X tg iter (simI X.K O st f)
theorem pi_imp {X : Cx} {tg e : Expr} {t t' : TI} (h : PI X tg e t) (hi : ∀ σ H Q, t' σ H Q → t σ H Q) : PI X tg e t' := ⟨fun pins s σ H Q I q => h.run pins s σ H Q I (hi _ _ _ q)⟩
theorem pi_or {X : Cx} {tg e : Expr} {t t' : TI} (h : PI X tg e t) (h' : PI X tg e t') : PI X tg e (fun σ H R => t σ H R ∨ t' σ H R) :=
  ⟨fun pins s σ H Q I q => q.elim (h.run pins s σ H Q I) (h'.run pins s σ H Q I)⟩
/-- lists and tuples are no longer than the line -/
def HpOk (H : Hp) : Prop := ∀ a xs, (H a = some (.lst xs) ∨ H a = some (.tup xs)) → xs.length ≤ 16777216
theorem hpok {X : Cx} {pins : List (Addr × Obj)} {σ : L2.St} {H : Hp} {s : Shared} (I : Inv X pins σ H s) : HpOk H := fun a xs h => by
  rcases h with h | h
  · have z : xs.length ≤ sizeLine := (I.hok a _ h).1
    exact z
  · have z : xs.length ≤ sizeLine := (I.hok a _ h).1
    exact z
theorem pe_ok {X : Cx} {e : Expr} {t : TE} (h : PE X e t) : PE X e (fun σ H Q => t σ H fun v H' => HpOk H' → Q v H') :=
  ⟨fun pins s σ H Q I q => thn (h.run pins s σ H _ I q) fun u s' ⟨v, H', I', r, q'⟩ => ⟨v, H', I', r, q' (hpok I')⟩⟩
theorem pa_ok {X : Cx} {e : List Expr} {t : TA} (h : PA X e t) : PA X e (fun σ H Q => t σ H fun v H' => HpOk H' → Q v H') :=
  ⟨fun pos pins s σ H Q I q => thn (h.run pos pins s σ H _ I q) fun u s' ⟨v, H', I', r, q'⟩ => ⟨v, H', I', r, q' (hpok I')⟩⟩
section
variable {X : Cx} {O : List Nat} {m ma mb mc : Md} {st : Bool} {a b c e tg : Expr} {es : List Expr} {fa fb fc f : Xp} {fs : XL} {pos p : Pos}
def xSeq (f : Xp) : XL := fun ρ => (f ρ).bind seqD
def mdS : Md → Bool
  | .w => false
  | _ => true
theorem Res.sR {K : PySem.W.Frag} {A : Addr → Prop} {He H' : Hp} {v : V} {d : D} (t : Tr A He) (h : Res K A He H' m v d) : strongR K A H' (mdS m) v d := by
  cases m with
  | w => exact h
  | s => exact h
  | f => exact h.toS t (by decide)
theorem strongR.w {K : PySem.W.Frag} {A : Addr → Prop} {H' : Hp} {v : V} {d : D} (h : strongR K A H' st v d) : WRp K A H' v d := by
  cases st with
  | true => exact .inl h
  | false => exact h
/-- a tracked list has one content -/
theorem sql_one {K : PySem.W.Frag} {H : Hp} {a : Addr} {xs ys : List V} (h : H a = some (.lst xs)) (h' : Rd H a (.lst ys)) : ys = xs := by
  rcases h' with h' | ⟨o, h'⟩
  · rw [h] at h'; cases h'; rfl
  · rw [h] at h'; cases h'
theorem si_seq (h : SE X O m e f) : SI X O (mdS m) tg e (xSeq f) := by
  refine ⟨pi_imp (pi_or (pi_list (pe_ok h.pe)) (pi_tup (pe_ok h.pe))) fun σ H R q => ?_⟩
  obtain ⟨H0, A0, G, ρ, B, ds, S, e, k⟩ := q
  obtain ⟨d, ed, e⟩ := bind2 e
  unfold seqD at e
  split at e
  · cases e
    refine .inl ⟨H0, A0, G, ρ, B, _, S, ed, fun v H1 s1 r1 ok => ?_⟩
    obtain ⟨a, xs, rfl, ha, ra⟩ := r1.toW.lst
    refine ⟨a, rfl, ⟨xs, .of ha⟩, k _ H1 [(.ref a, .list ds)] s1 ⟨fun A H i d t g e => ?_, fun A H t g => ?_⟩ (fun p hp => ?_) (by rw [← ra.length]; exact ok a xs (.inl ha))⟩
    · obtain ⟨b, ys, eb, hb, rb⟩ := (g _ (List.mem_singleton.mpr rfl)).lst
      cases eb
      obtain ⟨y, ey, ry⟩ := rb.get e
      refine ⟨⟨ys, y, .of hb, ey⟩, fun x H' hy => ?_⟩
      obtain ⟨rfl, hy⟩ := hy
      have := hy ys (.of hb)
      rw [ey] at this
      cases this
      exact ⟨Same.refl _, ry⟩
    · obtain ⟨b, ys, eb, hb, rb⟩ := (g _ (List.mem_singleton.mpr rfl)).lst
      cases eb
      exact ⟨ys, .of hb, by rw [rb.length]; exact Nat.le_refl _⟩
    · rw [List.mem_singleton.mp hp]
      exact r1.sR S.tr
  · cases e
    refine .inr ⟨H0, A0, G, ρ, B, _, S, ed, fun v H1 s1 r1 ok => ?_⟩
    obtain ⟨a, xs, rfl, ha, na, ra⟩ := r1.toW.tup
    refine ⟨a, rfl, ⟨xs, .of ha⟩, k _ H1 [(.ref a, .tuple ds)] s1 ⟨fun A H i d t g e => ?_, fun A H t g => ?_⟩ (fun p hp => ?_) (by rw [← ra.length]; exact ok a xs (.inr ha))⟩
    · obtain ⟨b, ys, eb, hb, nb, rb⟩ := (g _ (List.mem_singleton.mpr rfl)).tup
      cases eb
      obtain ⟨y, ey, ry⟩ := rb.get e
      refine ⟨⟨ys, y, .of hb, ey⟩, fun x H' hy => ?_⟩
      obtain ⟨rfl, hy⟩ := hy
      have := hy ys (.of hb)
      rw [ey] at this
      cases this
      exact ⟨Same.refl _, ry⟩
    · obtain ⟨b, ys, eb, hb, nb, rb⟩ := (g _ (List.mem_singleton.mpr rfl)).tup
      cases eb
      exact ⟨ys, .of hb, by rw [rb.length]; exact Nat.le_refl _⟩
    · rw [List.mem_singleton.mp hp]
      exact r1.sR S.tr
  · cases e
/-- lo, lo + c, .. -/
def rangeD (lo c : Int) (n : Nat) : List D := (List.range n).map fun i => .int (lo + (i : Nat) * c)
theorem rangeD_len (lo c : Int) (n : Nat) : (rangeD lo c n).length = n := by simp [rangeD]
theorem rangeD_get {lo c : Int} {n i : Nat} {d : D} (h : (rangeD lo c n)[i]? = some d) : i < n ∧ d = .int (lo + (i : Nat) * c) := by
  have hl : i < n := by
    have := (List.getElem?_eq_some_iff.mp h).1
    rwa [rangeD_len] at this
  refine ⟨hl, ?_⟩
  unfold rangeD at h
  rw [List.getElem?_map, List.getElem?_range hl] at h
  cases h
  rfl
def oR1 : List D → Option (List D)
  | [.int j] => if j ≤ 16777216 ∧ -(2 ^ 62) ≤ j then some (rangeD 0 1 j.toNat) else none
  | _ => none
def oR2 : List D → Option (List D)
  | [.int i, .int j] => if -(2 ^ 60) ≤ i ∧ i < 2 ^ 60 ∧ -(2 ^ 60) ≤ j ∧ j < 2 ^ 60 ∧ j - i ≤ 16777216 then some (rangeD i 1 (j - i).toNat) else none
  | _ => none
def oR3 : List D → Option (List D)
  | [.int i, .int j, .int (-1)] => if -(2 ^ 60) ≤ i ∧ i < 2 ^ 60 ∧ -(2 ^ 60) ≤ j ∧ j < 2 ^ 60 ∧ i - j ≤ 16777216 then some (rangeD i (-1) (i - j).toNat) else none
  | [.int i, .int j, .int c] => if RgOk i j c then some (rangeD i c (rgN i j c)) else none
  | _ => none
where
  rgN (i j c : Int) : Nat := (Builtin.Range.rangeSize i j c).toNat
  RgOk (i j c : Int) : Bool := decide (c ≠ 0) && decide (c.natAbs < 1073741824) && Builtin.Range.small i j c && decide (0 ≤ Builtin.Range.rangeSize i j c) && decide (Builtin.Range.rangeSize i j c ≤ 16777216)
def xIt (g : List D → Option (List D)) (fs : XL) : XL := fun ρ => (fs ρ).bind g
theorem yl_r {K : PySem.W.Frag} (lo : Int) (n : Nat) : Yl K (Itr lo n) [] (rangeD lo 1 n) where
  go := fun A H i d t g e => by
    obtain ⟨h1, h2⟩ := rangeD_get e
    subst h2
    refine ⟨h1, fun x H' hy => ?_⟩
    obtain ⟨rfl, rfl⟩ := hy
    refine ⟨Same.refl _, ?_⟩
    rw [Int.mul_one]
    exact .int _
  stop := fun A H t g => by
    rw [rangeD_len]
    exact Nat.le_refl _
theorem yl_c {K : PySem.W.Frag} (lo c : Int) (n : Nat) : Yl K (Itc lo c n) [] (rangeD lo c n) where
  go := fun A H i d t g e => by
    obtain ⟨h1, h2⟩ := rangeD_get e
    subst h2
    refine ⟨h1, fun x H' hy => ?_⟩
    obtain ⟨rfl, rfl⟩ := hy
    exact ⟨Same.refl _, .int _⟩
  stop := fun A H t g => by
    rw [rangeD_len]
    exact Nat.le_refl _
theorem p3 {F : V → D → Prop} {vs : List V} {x y z : D} (h : Paired F vs [x, y, z]) : ∃ v u w, vs = [v, u, w] ∧ F v x ∧ F u y ∧ F w z := by
  cases h with
  | cons a r =>
    obtain ⟨u, w, rfl, h1, h2⟩ := p2 r
    exact ⟨_, _, _, rfl, a, h1, h2⟩
theorem si_r1 (hm : X.mg "range" = none) (ha : SA X O st [a] fs) (hg : Gl X "range" := by rfl) (hs : starEach [a] X.env = [(false, eval a X.env)] := by rfl) : SI X O true tg (.Call (.Name "range" p) [a] [] pos) (xIt oR1 fs) := by
  refine ⟨pi_imp (pi_range1 hg hm ha.pa hs) fun σ H R q => ?_⟩
  obtain ⟨H0, A0, G, ρ, B, ds, S, e, k⟩ := q
  obtain ⟨d, ed, e⟩ := bind2 e
  unfold oR1 at e
  split at e
  · split at e
    · rename_i hz
      cases e
      refine ⟨H0, A0, G, ρ, B, _, S, ed, fun vs H1 s1 r1 => ?_⟩
      obtain ⟨v, rfl, w⟩ := p1 r1.weak
      exact ⟨_, by rw [w.int], hz.2, by omega, k _ H1 [] s1 (yl_r _ _) (fun p hp => nomatch hp) (by rw [rangeD_len]; omega)⟩
    · cases e
  · cases e
theorem si_r2 (hm : X.mg "range" = none) (ha : SA X O st [a, b] fs) (hg : Gl X "range" := by rfl) (hs : starEach [a, b] X.env = [(false, eval a X.env), (false, eval b X.env)] := by rfl) (hs2 : starEach [b] X.env = [(false, eval b X.env)] := by rfl) : SI X O true tg (.Call (.Name "range" p) [a, b] [] pos) (xIt oR2 fs) := by
  refine ⟨pi_imp (pi_range2 hg hm ha.pa hs hs2) fun σ H R q => ?_⟩
  obtain ⟨H0, A0, G, ρ, B, ds, S, e, k⟩ := q
  obtain ⟨d, ed, e⟩ := bind2 e
  unfold oR2 at e
  split at e
  · split at e
    · rename_i hz
      cases e
      refine ⟨H0, A0, G, ρ, B, _, S, ed, fun vs H1 s1 r1 => ?_⟩
      obtain ⟨v, u, rfl, w, w'⟩ := p2 r1.weak
      exact ⟨_, _, by rw [w.int, w'.int], ⟨by omega, by omega, by omega, by omega⟩, k _ H1 [] s1 (yl_r _ _) (fun p hp => nomatch hp) (by rw [rangeD_len]; omega)⟩
    · cases e
  · cases e
theorem si_r3 (hm : X.mg "range" = none) (ha : SA X O st [a, b, c] fs) (hg : Gl X "range" := by rfl) (hs : starEach [a, b, c] X.env = (false, eval a X.env) :: starEach [b, c] X.env := by rfl) (hpl : (backTo pos (starEach [b, c] X.env)).any (·.1) = false := by rfl) : SI X O true tg (.Call (.Name "range" p) [a, b, c] [] pos) (xIt oR3 fs) := by
  refine ⟨pi_imp (pi_range3 hg hm ha.pa hs hpl) fun σ H R q => ?_⟩
  obtain ⟨H0, A0, G, ρ, B, ds, S, e, k⟩ := q
  obtain ⟨d, ed, e⟩ := bind2 e
  unfold oR3 at e
  split at e
  · split at e
    · rename_i hz
      cases e
      refine ⟨H0, A0, G, ρ, B, _, S, ed, fun vs H1 s1 r1 => ?_⟩
      obtain ⟨v, u, w, rfl, w1, w2, w3⟩ := p3 r1.weak
      exact ⟨_, _, _, _, by rw [w1.int, w2.int, w3.int], RgC.neg (by omega) (by omega) (by omega) (by omega), k _ H1 [] s1 (yl_c _ _ _) (fun p hp => nomatch hp) (by rw [rangeD_len]; omega)⟩
    · cases e
  · split at e
    · rename_i hz
      cases e
      refine ⟨H0, A0, G, ρ, B, _, S, ed, fun vs H1 s1 r1 => ?_⟩
      obtain ⟨v, u, w, rfl, w1, w2, w3⟩ := p3 r1.weak
      unfold oR3.RgOk at hz
      simp only [Bool.and_eq_true, decide_eq_true_eq] at hz
      obtain ⟨⟨⟨⟨z1, z2⟩, z3⟩, z4⟩, z5⟩ := hz
      refine ⟨_, _, _, oR3.rgN _ _ _, by rw [w1.int, w2.int, w3.int], ⟨z1, z2, z3, ?_⟩, k _ H1 [] s1 (yl_c _ _ _) (fun p hp => nomatch hp) ?_⟩
      · unfold oR3.rgN
        omega
      · rw [rangeD_len]
        unfold oR3.rgN
        omega
    · cases e
  · cases e
/-- enumerate of a list -/
def enumD (xs : List D) : List D := (List.range xs.length).zipWith (fun i x => .tuple [.int (i : Nat), x]) xs
theorem enumD_len (xs : List D) : (enumD xs).length = xs.length := by simp [enumD]
theorem enumD_get {xs : List D} {i : Nat} {d : D} (h : (enumD xs)[i]? = some d) : ∃ x, xs[i]? = some x ∧ d = .tuple [.int (i : Nat), x] := by
  have hl : i < xs.length := by
    have := (List.getElem?_eq_some_iff.mp h).1
    rwa [enumD_len] at this
  refine ⟨xs[i], List.getElem?_eq_getElem hl, ?_⟩
  unfold enumD at h
  rw [List.getElem?_zipWith, List.getElem?_range hl, List.getElem?_eq_getElem hl] at h
  cases h
  rfl
theorem sqOne {K : PySem.W.Frag} {H : Hp} {a : Addr} {xs : List V} (h : H a = some (.lst xs)) {P : List V → Prop} (p : ∀ ys, SqL K H a ys → P ys) : P xs := p xs (.of h)
end
end Pm

/-! enumerate of a tuple, as a Turn -/
namespace Pm
open PySem PySem.Spec PyProof.Rows L2
set_option maxHeartbeats 1000000 in
theorem meets_enum1 {v : Value} {ob : Obj} {Hy : Heap → Prop} (Bg : Begins v ob Hy) :
    Meets (Builtin.«enumerate.__new__» ⟨[.type "enumerate", v], []⟩) (fun _ R s => Hy s.heap ∧
      R (.ok (.ret (.ref (s.heap.push ob).objs.size))) { s with heap := (s.heap.push ob).push { cls := .type "enumerate", data := .fields #[.none, .bool false, .ref s.heap.objs.size, rawInt 0, .none, .none] } }) :=
  .of_wp fun prog w A R s z => by
    obtain ⟨hp, gs, dr, tks, ost⟩ := s; obtain ⟨z1, z⟩ := z
    have hsub := sub_enumerate
    have run : ∀ {A' : Around} {E : Value → Shared → Prop} {Q : Value → Shared → Prop}, Q (.ref hp.objs.size) ⟨hp.push ob, gs, dr, tks, ost⟩ → wpAny (model prog w) A' (pyIter v) Q E ⟨hp, gs, dr, tks, ost⟩ :=
      fun q => Bg.iter prog w _ _ ⟨hp, gs, dr, tks, ost⟩ _ z1 q
    wp_walk using run
    refine wpAny_stack_any fun stk => wpAny_pure ?_
    split
    · rename_i cc _ _ _ _ _
      cases (cc == Value.type "enumerate") <;> (wp_walk using run) <;> exact ⟨_, rfl, z⟩
    · wp_walk using run
      exact ⟨_, rfl, z⟩
section
variable {prog : Program} {w : World} {A : Around} {E : Value → Shared → Prop} {s : Shared}
theorem enum_one {v : Value} {ob : Obj} {Hy : Heap → Prop} {Q : Value → Shared → Prop} (Bg : Begins v ob Hy) (z1 : Hy s.heap)
    (k : ∀ hh, IsEnum hh (s.heap.objs.size + 1) s.heap.objs.size 0 .none → hh.get? s.heap.objs.size = some ob → (∀ b o, s.heap.get? b = some o → hh.get? b = some o) → Q (.ref (s.heap.objs.size + 1)) { s with heap := hh }) :
    wpAny (model prog w) A (call (.type "enumerate") [v]) Q E s := by
  refine callType_new F.called_enumerate (by decide) (F.typeCall_enumerate_1 _) (F.newCall_enumerate_1 _) (fun obj => F.args_object_init_2 obj _) F.entry_enumerate_new (meets_enum1 Bg) ⟨z1, ?_⟩
  have sz : (s.heap.push ob).objs.size = s.heap.objs.size + 1 := Heap.size_push ..
  have ie : IsEnum ((s.heap.push ob).push { cls := .type "enumerate", data := .fields #[.none, .bool false, .ref s.heap.objs.size, rawInt 0, .none, .none] }) (s.heap.objs.size + 1) s.heap.objs.size 0 .none := by
    rw [← sz]
    exact Heap.get?_push_size _ rfl
  show _ ∧ _
  rw [sz]
  exact ⟨⟨_, ie, rfl⟩, k _ ie (Heap.get?_push_of_some _ (Heap.get?_push_size _ Bg.free)) fun b o x => Heap.get?_push_of_some _ (Heap.get?_push_of_some _ x)⟩
end
/-- the tuple at a, each item in a new pair -/
def ItE (K : PySem.W.Frag) (a : Addr) : It where
  go := fun i H => ∃ (xs : List V) (x : V), SqT K H a xs ∧ xs[i]? = some x
  yld := fun i H v H' => ∃ T x, v = .ref T ∧ H T = none ∧ H' = upd H T (.tup [.int (i : Nat), x]) ∧ ∀ xs, SqT K H a xs → xs[i]? = some x
  stop := fun i H => ∃ xs : List V, SqT K H a xs ∧ xs.length ≤ i
theorem turn_enumTup {P : Program} {w : World} {K : PySem.W.Frag} {elts : List Expr} {kk : Nat} {tpos : Pos} (a e it : Addr) :
    Turn P w K (.Tuple elts kk tpos) (ItE K a) [e, it] e (fun i h => (∃ old, IsEnum h e it ((0 : Int) + ((i : Nat) : Int)) old) ∧ h.IsTupleIter it a i ∧ e ≠ it ∧ a ≠ it) where
  mem := List.mem_cons_self
  obj := by
    intro i h ⟨⟨old, he⟩, ⟨o, ho, hc, hd⟩, _⟩ b hb
    have hb' : b = e ∨ b = it := by simpa using hb
    rcases hb' with rfl | rfl
    · exact ⟨_, he, fun v q => nomatch q⟩
    · exact ⟨o, ho, fun v q => by rw [hd] at q; cases q⟩
  keep := by
    intro i h h' ⟨⟨old, he⟩, hi, hne⟩ k
    exact ⟨⟨old, k e (by simp) _ he⟩, hi.at fun o q => k it (by simp) o q, hne⟩
  item := by
    intro X hP hw hK hc i pins s σ H E I hf st hg
    subst hP hw hK
    obtain ⟨⟨old, he⟩, hit, hne, hat⟩ := st
    obtain ⟨xs, x, hq, hx⟩ := hg
    obtain ⟨its, rv, p, hz⟩ := I.tuple hq
    obtain ⟨u, hu, ru⟩ := rv.get hx
    have hi : i < its.length := (List.getElem?_eq_some_iff.mp hu).1
    have el : e < s.heap.objs.size := Heap.lt_size he
    have il : it < s.heap.objs.size := by
      obtain ⟨_, q, _⟩ := hit
      exact Heap.lt_size q
    have nef : e ∉ [it, a] := fun z => by
      have z' : e = it ∨ e = a := by simpa using z
      rcases z' with z' | z'
      · exact hne z'
      · obtain ⟨o, ho, hcl, _⟩ := p
        rw [← z'] at ho
        have := he.symm.trans ho
        cases this
        exact absurd (Value.type.inj hcl) (by decide)
    have Dr := Draws.tuple (prog := X.prog) (w := X.w) (A := X.A.in1) (I.ok.hd hc) it a hat its.toArray
    refine wpAny_pyNext_enum_itemC Dr he ⟨hit, p⟩ (by simpa using hi) hne nef fun y h' tk hy ho st' hT hsz hk => ?_
    have ey : y = u := by
      have hy' : its[i]? = some y := by simpa using hy
      rw [hu] at hy'
      exact (Option.some.inj hy').symm
    subst ey
    refine ⟨_, rfl, wpAny_letOwnedTupleGo_enum (s := { s with heap := h', toks := tk + 1 }) ho fun h'' he' sb => ?_⟩
    have hT2 : h''.get? s.heap.objs.size = some { cls := .type "tuple", data := .seq #[.int ((0 : Int) + ((i : Nat) : Int)) tk, y] } := (sb.2 _ (Nat.ne_of_gt el)).trans hT
    have ob : ObjOk X.prog X.w (upd H s.heap.objs.size (.tup [.int (i : Nat), x])) h'' s.heap.objs.size (.tup [.int (i : Nat), x]) :=
      ⟨by show 2 ≤ sizeLine; decide, [.int ((0 : Int) + ((i : Nat) : Int)) tk, y], .cons ⟨tk, by rw [Int.zero_add]⟩ (.cons ru .nil), ⟨_, hT2, rfl, _, rfl⟩⟩
    have J : Inv X pins σ (upd H s.heap.objs.size (.tup [.int (i : Nat), x])) { s with heap := h'', toks := tk + 1 } :=
      I.turnedNew (ch := [e, it]) (fun b q hb e1 => (sb.2 b (fun z => hb (by simp [z]))).trans (hk b q (fun z => hb (by simp [z])) (fun z => hb (by simp [z])) e1)) hf (Nat.le_refl _) ob
    refine ⟨.ref s.heap.objs.size, _, J, rfl, ⟨_, x, rfl, I.hok.fresh (Nat.le_refl _), rfl, fun ys hy => by rw [I.tuple_inj hy hq]; exact hx⟩, ⟨⟨y, ?_⟩, st'.1.at fun o q => (sb.2 it (Ne.symm hne)).trans q, hne, hat⟩, fun b hb => ?_⟩
    · have e1 : (0 : Int) + ((i + 1 : Nat) : Int) = (0 : Int) + (i : Int) + 1 := by omega
      rw [e1]
      exact he'
    · have lb : b < s.heap.objs.size := by
        have z : b = e ∨ b = it := by simpa using hb
        rcases z with rfl | rfl
        · exact el
        · exact il
      rw [upd_ne (Nat.ne_of_lt lb)]
      exact (hf b hb).1
  done := by
    intro X hP hw hK hc i pins s σ H E I hf st hg
    subst hP hw hK
    obtain ⟨⟨old, he⟩, hit, hne, hat⟩ := st
    obtain ⟨xs, hq, hx⟩ := hg
    obtain ⟨its, rv, p, hz⟩ := I.tuple hq
    obtain ⟨f0, f1, f2, f3, f4, f5⟩ := hf it (by simp)
    have hl := rv.length
    have hh : X.A.in1.in1.handled = none := I.ok.hd hc
    refine wpAny_pyNext_enum_endD (n := i) (St := fun j h => j = i ∧ h.IsTupleIter it a i ∧ h.IsTuple a its.toArray) (P := fun _ _ => True) (fp := [it, a]) ?_ he ⟨rfl, hit, p⟩ fun h' eb => ⟨rfl, I.turned (t' := s.toks) (fun b o hb q => eb b o hb q) f0 f1 f3 f4 f5⟩
    refine ⟨fun _ _ st => let ⟨o, ho, _⟩ := st.2.1; ⟨o, ho⟩, fun _ _ _ st hk => ⟨st.1, st.2.1.at fun o e => hk it (by simp) o e, st.2.2.at fun o e => hk a (by simp) o e⟩, ?_, ?_⟩
    · intro j s' Q E' hj st' hQ
      exact absurd st'.1 (Nat.ne_of_lt hj)
    · intro s' Q E' st' hE
      exact wpAny_nextOf_tuple_end hh st'.2.1 st'.2.2 (by simp; omega) hE
  self := fun A i s Q E st h => let ⟨⟨_, he⟩, _⟩ := st; wpAny_pyIter_enum he h
end Pm

namespace Pm
open PySem PySem.Spec PyProof.Rows L2
section
variable {X : Cx} {O : List Nat} {m ma mb mc : Md} {st : Bool} {a b c e tg : Expr} {es : List Expr} {fa fb fc f : Xp} {fs : XL} {pos p : Pos}
def iEnumT (K : PySem.W.Frag) (ta : TA) : TI := fun σ H R => ta σ H fun vs H1 => ∃ a xs, vs = [.ref a] ∧ SqT K H1 a xs ∧ R (ItE K a) H1
theorem pi_enumT {ta : TA} {tpos : Pos} {elts : List Expr} {kk : Nat} (hg : Gl X "enumerate") (hm : X.mg "enumerate" = none) (ha : PA X [e] ta) (hs : starEach [e] X.env = [(false, eval e X.env)] := by rfl) : PI X (.Tuple elts kk tpos) (.Call (.Name "enumerate" p) [e] [] pos) (iEnumT X.K ta) := by
  refine ⟨fun pins s σ H R I h => ?_⟩
  refine Call_ (ld_blt I hg hm boot_enumerate (callWith_type1 (thn (ha.run pos pins s σ H _ I h) fun us s1 q1 => ?_) hs rfl))
  obtain ⟨vs, H1, I1, r1, t, xs, ex, hq, q⟩ := q1
  subst ex
  rw [Vals.ref1 r1]
  obtain ⟨its, rv, pt, hz⟩ := I1.tuple hq
  refine enum_one (begins_tuple t its.toArray) pt fun h' he hit hk => wpAny_pyIter_enum he ?_
  have I2 : Inv X pins σ H1 { s1 with heap := h' } := I1.kept (t' := s1.toks) hk
  refine ⟨s1.heap.objs.size + 1, [s1.heap.objs.size + 1, s1.heap.objs.size], _, _, H1, rfl, I2, turn_enumTup t (s1.heap.objs.size + 1) s1.heap.objs.size, ⟨⟨.none, ?_⟩, ⟨_, hit, rfl, rfl⟩, Nat.succ_ne_self _, Nat.ne_of_lt pt.lt⟩, fun b hb => ?_, q⟩
  · exact he
  · have le : s1.heap.objs.size ≤ b := by
      have z : b = s1.heap.objs.size + 1 ∨ b = s1.heap.objs.size := by simpa using hb
      rcases z with rfl | rfl
      · exact Nat.le_succ _
      · exact Nat.le_refl _
    exact I1.fpOk le (I1.hok.fresh le)
def oEnum : List D → Option (List D)
  | [x] => (seqD x).map enumD
  | _ => none
theorem rp_pair {K : PySem.W.Frag} {A : Addr → Prop} {H : Hp} {T : Addr} {v u : V} {d d' : D} (t : Tr A H) (hT : H T = none) (r : Rp K A H v d) (r' : Rp K A H u d') : Rp K A (upd H T (.tup [v, u])) (.ref T) (.tuple [d, d']) :=
  Rp.newT t hT (.cons r (.cons r' .nil))
theorem rsL {K : PySem.W.Frag} {A : Addr → Prop} {H : Hp} {vs : List V} {x : D} (h : ResL K A H st vs [x]) : ∃ v, vs = [v] ∧ strongR K A H st v x := by
  cases st with
  | true =>
    cases h with
    | cons a r => cases r; exact ⟨_, rfl, a⟩
  | false =>
    cases h with
    | cons a r => cases r; exact ⟨_, rfl, a⟩
theorem rsL2 {K : PySem.W.Frag} {A : Addr → Prop} {H : Hp} {vs : List V} {x y : D} (h : ResL K A H st vs [x, y]) : ∃ v u, vs = [v, u] ∧ strongR K A H st v x ∧ strongR K A H st u y := by
  cases st with
  | true =>
    cases h with
    | cons a r =>
      cases r with
      | cons b r => cases r; exact ⟨_, _, rfl, a, b⟩
  | false =>
    cases h with
    | cons a r =>
      cases r with
      | cons b r => cases r; exact ⟨_, _, rfl, a, b⟩
theorem si_enum {tpos : Pos} {elts : List Expr} {kk : Nat} (hm : X.mg "enumerate" = none) (ha : SA X O st [a] fs) (hg : Gl X "enumerate" := by rfl) (hs : starEach [a] X.env = [(false, eval a X.env)] := by rfl) : SI X O st (.Tuple elts kk tpos) (.Call (.Name "enumerate" p) [a] [] pos) (xIt oEnum fs) := by
  refine ⟨pi_imp (pi_or (pi_enum hg hm (pa_ok ha.pa) hs) (pi_enumT hg hm (pa_ok ha.pa) hs)) fun σ H R q => ?_⟩
  obtain ⟨H0, A0, G, ρ, B, ds, S, e, k⟩ := q
  obtain ⟨d, ed, e⟩ := bind2 e
  unfold oEnum at e
  split at e
  · rename_i x
    obtain ⟨xs, ex, e⟩ := Option.map_eq_some_iff.mp e
    subst e
    unfold seqD at ex
    split at ex
    · cases ex
      refine .inl ⟨H0, A0, G, ρ, B, _, S, ed, fun vs H1 s1 r1 ok => ?_⟩
      obtain ⟨v, rfl, sr⟩ := rsL r1
      obtain ⟨t, ys, rfl, ht, rt⟩ := sr.w.lst
      refine ⟨t, ys, rfl, .of ht, k _ H1 [(.ref t, .list xs)] s1 ⟨fun A H i d tr g e => ?_, fun A H tr g => ?_⟩ (fun p hp => by rw [List.mem_singleton.mp hp]; exact sr) (by rw [enumD_len, ← rt.length]; exact ok t ys (.inl ht))⟩
      · obtain ⟨z, ez, rfl⟩ := enumD_get e
        obtain ⟨b, ys, eb, hb, rb⟩ := (g _ (List.mem_singleton.mpr rfl)).lst
        cases eb
        obtain ⟨y, ey, ry⟩ := rb.get ez
        refine ⟨⟨ys, y, .of hb, ey⟩, fun x H' hy => ?_⟩
        obtain ⟨T, u, rfl, hT, rfl, hu⟩ := hy
        have := hu ys (.of hb)
        rw [ey] at this
        cases this
        exact ⟨same_upd hT, rp_pair tr hT (.int _) ry⟩
      · obtain ⟨b, ys, eb, hb, rb⟩ := (g _ (List.mem_singleton.mpr rfl)).lst
        cases eb
        exact ⟨ys, .of hb, by rw [enumD_len, rb.length]; exact Nat.le_refl _⟩
    · cases ex
      refine .inr ⟨H0, A0, G, ρ, B, _, S, ed, fun vs H1 s1 r1 ok => ?_⟩
      obtain ⟨v, rfl, sr⟩ := rsL r1
      obtain ⟨t, ys, rfl, ht, nt, rt⟩ := sr.w.tup
      refine ⟨t, ys, rfl, .of ht, k _ H1 [(.ref t, .tuple xs)] s1 ⟨fun A H i d tr g e => ?_, fun A H tr g => ?_⟩ (fun p hp => by rw [List.mem_singleton.mp hp]; exact sr) (by rw [enumD_len, ← rt.length]; exact ok t ys (.inr ht))⟩
      · obtain ⟨z, ez, rfl⟩ := enumD_get e
        obtain ⟨b, ys, eb, hb, nb, rb⟩ := (g _ (List.mem_singleton.mpr rfl)).tup
        cases eb
        obtain ⟨y, ey, ry⟩ := rb.get ez
        refine ⟨⟨ys, y, .of hb, ey⟩, fun x H' hy => ?_⟩
        obtain ⟨T, u, rfl, hT, rfl, hu⟩ := hy
        have := hu ys (.of hb)
        rw [ey] at this
        cases this
        exact ⟨same_upd hT, rp_pair tr hT (.int _) ry⟩
      · obtain ⟨b, ys, eb, hb, nb, rb⟩ := (g _ (List.mem_singleton.mpr rfl)).tup
        cases eb
        exact ⟨ys, .of hb, by rw [enumD_len, rb.length]; exact Nat.le_refl _⟩
    · cases ex
  · cases e
/-- zip of two lists, of two tuples -/
def zipD (xs ys : List D) : List D := xs.zipWith (fun x y => .tuple [x, y]) ys
theorem zipD_get {xs ys : List D} {i : Nat} {d : D} (h : (zipD xs ys)[i]? = some d) : ∃ x y, xs[i]? = some x ∧ ys[i]? = some y ∧ d = .tuple [x, y] := by
  unfold zipD at h
  rw [List.getElem?_zipWith] at h
  cases e : xs[i]? with
  | none => rw [e] at h; cases ys[i]? <;> cases h
  | some x =>
    cases e' : ys[i]? with
    | none => rw [e, e'] at h; cases h
    | some y => rw [e, e'] at h; cases h; exact ⟨x, y, rfl, rfl, rfl⟩
theorem zipD_len (xs ys : List D) : (zipD xs ys).length = min xs.length ys.length := by simp [zipD]
def oZip : List D → Option (List D)
  | [.list xs, .list ys] => some (zipD xs ys)
  | [.tuple xs, .tuple ys] => some (zipD xs ys)
  | _ => none
theorem si_zip {tpos : Pos} {elts : List Expr} {kk : Nat} (hm : X.mg "zip" = none) (ha : SA X O st [a, b] fs) (hg : Gl X "zip" := by rfl)
    (hs : starEach [a, b] X.env = (false, eval a X.env) :: starEach [b] X.env := by rfl) (hpl : (backTo pos (starEach [b] X.env)).any (·.1) = false := by rfl) : SI X O st (.Tuple elts kk tpos) (.Call (.Name "zip" p) [a, b] [] pos) (xIt oZip fs) := by
  refine ⟨pi_imp (RZ.pi_zipA hg hm (pa_ok ha.pa) hs hpl) fun σ H R q => ?_⟩
  obtain ⟨H0, A0, G, ρ, B, ds, S, e, k⟩ := q
  obtain ⟨d, ed, e⟩ := bind2 e
  refine ⟨H0, A0, G, ρ, B, _, S, ed, fun vs H1 s1 r1 ok => ?_⟩
  unfold oZip at e
  split at e
  · cases e
    rename_i xs ys
    obtain ⟨v, u, rfl, sr, sr'⟩ := rsL2 r1
    obtain ⟨t, vs, rfl, ht, rt⟩ := sr.w.lst
    obtain ⟨t', vs', rfl, ht', rt'⟩ := sr'.w.lst
    refine ⟨t, t', vs, vs', rfl, .inl ⟨.of ht, .of ht', k _ H1 [(.ref t, .list xs), (.ref t', .list ys)] s1 ⟨fun A H i d tr g e => ?_, fun A H tr g => ?_⟩ (fun p hp => ?_) ?_⟩⟩
    · obtain ⟨x, y, ex, ey, rfl⟩ := zipD_get e
      obtain ⟨b, zs, eb, hb, rb⟩ := (g _ (List.mem_cons_self)).lst
      obtain ⟨b', zs', eb', hb', rb'⟩ := (g _ (List.mem_cons_of_mem _ List.mem_cons_self)).lst
      cases eb
      cases eb'
      obtain ⟨x1, ex1, rx1⟩ := rb.get ex
      obtain ⟨y1, ey1, ry1⟩ := rb'.get ey
      refine ⟨⟨zs, zs', x1, y1, .of hb, .of hb', ex1, ey1⟩, fun z H' hy => ?_⟩
      obtain ⟨T, u, w, rfl, hT, rfl, hu, hw⟩ := hy
      have e1 := hu zs (.of hb)
      have e2 := hw zs' (.of hb')
      rw [ex1] at e1
      rw [ey1] at e2
      cases e1
      cases e2
      exact ⟨same_upd hT, rp_pair tr hT rx1 ry1⟩
    · obtain ⟨b, zs, eb, hb, rb⟩ := (g _ (List.mem_cons_self)).lst
      obtain ⟨b', zs', eb', hb', rb'⟩ := (g _ (List.mem_cons_of_mem _ List.mem_cons_self)).lst
      cases eb
      cases eb'
      refine ⟨zs, zs', .of hb, .of hb', ?_⟩
      rw [zipD_len, rb.length, rb'.length]
      omega
    · have z : p = (.ref t, .list xs) ∨ p = (.ref t', .list ys) := by simpa using hp
      rcases z with rfl | rfl
      · exact sr
      · exact sr'
    · rw [zipD_len, ← rt.length]
      have := ok t vs (.inl ht)
      omega
  · cases e
    rename_i xs ys
    obtain ⟨v, u, rfl, sr, sr'⟩ := rsL2 r1
    obtain ⟨t, vs, rfl, ht, nt, rt⟩ := sr.w.tup
    obtain ⟨t', vs', rfl, ht', nt', rt'⟩ := sr'.w.tup
    refine ⟨t, t', vs, vs', rfl, .inr ⟨.of ht, .of ht', k _ H1 [(.ref t, .tuple xs), (.ref t', .tuple ys)] s1 ⟨fun A H i d tr g e => ?_, fun A H tr g => ?_⟩ (fun p hp => ?_) ?_⟩⟩
    · obtain ⟨x, y, ex, ey, rfl⟩ := zipD_get e
      obtain ⟨b, zs, eb, hb, nb, rb⟩ := (g _ (List.mem_cons_self)).tup
      obtain ⟨b', zs', eb', hb', nb', rb'⟩ := (g _ (List.mem_cons_of_mem _ List.mem_cons_self)).tup
      cases eb
      cases eb'
      obtain ⟨x1, ex1, rx1⟩ := rb.get ex
      obtain ⟨y1, ey1, ry1⟩ := rb'.get ey
      refine ⟨⟨zs, zs', x1, y1, .of hb, .of hb', ex1, ey1⟩, fun z H' hy => ?_⟩
      obtain ⟨T, u, w, rfl, hT, rfl, hu, hw⟩ := hy
      have e1 := hu zs (.of hb)
      have e2 := hw zs' (.of hb')
      rw [ex1] at e1
      rw [ey1] at e2
      cases e1
      cases e2
      exact ⟨same_upd hT, rp_pair tr hT rx1 ry1⟩
    · obtain ⟨b, zs, eb, hb, nb, rb⟩ := (g _ (List.mem_cons_self)).tup
      obtain ⟨b', zs', eb', hb', nb', rb'⟩ := (g _ (List.mem_cons_of_mem _ List.mem_cons_self)).tup
      cases eb
      cases eb'
      refine ⟨zs, zs', .of hb, .of hb', ?_⟩
      rw [zipD_len, rb.length, rb'.length]
      omega
    · have z : p = (.ref t, .tuple xs) ∨ p = (.ref t', .tuple ys) := by simpa using hp
      rcases z with rfl | rfl
      · exact sr
      · exact sr'
    · rw [zipD_len, ← rt.length]
      have := ok t vs (.inr ht)
      omega
  · cases e
end

end Pm

namespace Pm
open PySem PySem.Spec PyProof.Rows L2

/-! ### targets -/
abbrev XG := D → PEnv → Option PEnv
/-- the slots out of ts stand -/
def Ch (ts : List Nat) (σ σ' : L2.St) : Prop := σ'.length = σ.length ∧ ∀ i, ts.contains i = false → σ'[i]? = σ[i]?
def simG (K : PySem.W.Frag) (O O' ts : List Nat) (g : XG) : TG := fun v σ H Q => ∃ H0 A0 G ρ B d ρ', Sim K H0 A0 G O σ H ρ B ∧ Rp K (Av A0 B) H v d ∧ g d ρ = some ρ' ∧
  ∀ σ', Ch ts σ σ' → Sim K H0 A0 G O' σ' H ρ' (restr ts B) → Q σ' H
structure SG (X : Cx) (O O' ts : List Nat) (tg : Expr) (g : XG) : Prop where
  pg : PG X tg (simG X.K O O' ts g)
def simGs (K : PySem.W.Frag) (O O' ts : List Nat) (g : List D → PEnv → Option PEnv) : TGs := fun vs σ H Q => ∃ H0 A0 G ρ B ds ρ', Sim K H0 A0 G O σ H ρ B ∧ RpL K (Av A0 B) H vs ds ∧ g ds ρ = some ρ' ∧
  ∀ σ', Ch ts σ σ' → Sim K H0 A0 G O' σ' H ρ' (restr ts B) → Q σ' H
structure SGs (X : Cx) (O O' ts : List Nat) (tgs : List Expr) (g : List D → PEnv → Option PEnv) : Prop where
  pgs : PGs X tgs (simGs X.K O O' ts g)
theorem pg_imp {X : Cx} {e : Expr} {t t' : TG} (h : PG X e t) (hi : ∀ v σ H Q, t' v σ H Q → t v σ H Q) : PG X e t' := ⟨fun pins s σ H v u Q I r q => h.run pins s σ H v u Q I r (hi _ _ _ _ q)⟩
theorem pgs_imp {X : Cx} {e : List Expr} {t t' : TGs} (h : PGs X e t) (hi : ∀ v σ H Q, t' v σ H Q → t v σ H Q) : PGs X e t' := ⟨fun pins s σ H v u Q I r q => h.run pins s σ H v u Q I r (hi _ _ _ _ q)⟩
def gSet (i : Nat) : XG := fun d ρ => if i < ρ.length then some (ρ.set i (some d)) else none
def gTupD (n : Nat) (g : List D → PEnv → Option PEnv) : XG := fun d ρ => match d with
  | .tuple ds => if ds.length = n then g ds ρ else none
  | _ => none
def gsNil : List D → PEnv → Option PEnv := fun ds ρ => match ds with
  | [] => some ρ
  | _ => none
def gsCons (g : XG) (gs : List D → PEnv → Option PEnv) : List D → PEnv → Option PEnv := fun ds ρ => match ds with
  | d :: ds => (g d ρ).bind fun ρ' => gs ds ρ'
  | _ => none
theorem Ch.refl (ts : List Nat) (σ : L2.St) : Ch ts σ σ := ⟨rfl, fun _ _ => rfl⟩
theorem Ch.trans {ts us : List Nat} {σ σ' σ'' : L2.St} (h : Ch ts σ σ') (h' : Ch us σ' σ'') : Ch (ts ++ us) σ σ'' := by
  refine ⟨h'.1.trans h.1, fun i z => ?_⟩
  have e : ts.contains i = false ∧ us.contains i = false := by
    simpa [List.contains_eq_mem, not_or] using z
  exact (h'.2 i e.2).trans (h.2 i e.1)
theorem Ch.set (i : Nat) (x : Option V) (σ : L2.St) : Ch [i] σ (σ.set i x) := by
  refine ⟨List.length_set, fun j z => ?_⟩
  have e : j ≠ i := by simpa using z
  exact List.getElem?_set_ne (Ne.symm e)
section
variable {X : Cx} {O O' O'' ts us : List Nat} {tg : Expr} {tgs : List Expr} {g : XG} {gs : List D → PEnv → Option PEnv} {pos : Pos}
theorem sg_name (i : Nat) {x : Str} (hN : X.N.Nodup) (hi : X.N[i]? = some x := by rfl) (hx : Loc X.env.scope x := by first | exact Or.inl rfl | exact Or.inr rfl) (hf : X.fn x = true ∨ X.env.scope.names.lookup x = some .local := by first | exact .inl rfl | exact .inr rfl) (hO : O.filter (· != i) = O' := by rfl) : SG X O O' [i] (.Name x pos) (gSet i) := by
  refine ⟨pg_imp (pg_name hN hi hx hf) fun v σ H Q h => ?_⟩
  obtain ⟨H0, A0, G, ρ, B, d, ρ', S, r, e, k⟩ := h
  unfold gSet at e
  split at e
  · rename_i hl
    cases e
    have S' := S.setS r hl
    rw [hO] at S'
    exact k _ (Ch.set i _ σ) S'
  · cases e
theorem sgs_nil : SGs X O O [] [] gsNil := by
  refine ⟨pgs_imp pgs_nil fun v σ H Q h => ?_⟩
  obtain ⟨H0, A0, G, ρ, B, ds, ρ', S, r, e, k⟩ := h
  unfold gsNil at e
  split at e
  · cases e
    cases r
    exact ⟨rfl, k σ (Ch.refl _ _) (by rw [restr_nil]; exact S)⟩
  · cases e
theorem sgs_cons (h : SG X O O' ts tg g) (h' : SGs X O' O'' us tgs gs) (hs : (assignEach (tg :: tgs) X.env).map (·.2) = assign tg X.env :: (assignEach tgs X.env).map (·.2) := by rfl) : SGs X O O'' (ts ++ us) (tg :: tgs) (gsCons g gs) := by
  refine ⟨pgs_imp (pgs_cons h.pg h'.pgs hs) fun v σ H Q q => ?_⟩
  obtain ⟨H0, A0, G, ρ, B, ds, ρ', S, r, e, k⟩ := q
  unfold gsCons at e
  split at e
  · obtain ⟨ρ1, e1, e⟩ := bind2 e
    cases r with
    | cons r1 r2 =>
      refine ⟨_, _, rfl, H0, A0, G, ρ, B, _, ρ1, S, r1, e1, fun σ1 c1 S1 => ?_⟩
      refine ⟨H0, A0, G, ρ1, _, _, ρ', S1, r2.anti fun a z => restr_av z, e, fun σ2 c2 S2 => k σ2 (c1.trans c2) ?_⟩
      rw [restr_app] at S2
      exact S2
  · cases e
theorem sg_tup {k n : Nat} (hc : X.calm = true) (h : SGs X O O' ts tgs gs) (hn : (assignEach tgs X.env).length = n := by rfl) (hst : (assignEach tgs X.env).findIdx? (·.1) = none := by rfl) : SG X O O' ts (.Tuple tgs k pos) (gTupD n gs) := by
  refine ⟨pg_imp (pg_tup hc h.pgs hn hst) fun v σ H Q q => ?_⟩
  obtain ⟨H0, A0, G, ρ, B, d, ρ', S, r, e, k⟩ := q
  unfold gTupD at e
  split at e
  · split at e
    · rename_i hz
      cases r with
      | tup ht nt rt => exact ⟨_, _, rfl, .of ht, by rw [rt.length, hz], H0, A0, G, ρ, B, _, ρ', S, rt, e, k⟩
    · cases e
  · cases e
end

/-! ### comprehensions -/
def wipeP (ρ : PEnv) : List Nat → PEnv
  | [] => ρ
  | v :: vs => (wipeP ρ vs).set v none
theorem wipe_get (σ : L2.St) (i : Nat) : ∀ vs : List Nat, (wipe σ vs)[i]? = if vs.contains i then (if i < σ.length then some none else none) else σ[i]?
  | [] => by simp [wipe]
  | v :: vs => by
    unfold wipe
    by_cases h : v = i
    · subst h
      have hc : (v :: vs).contains v = true := by simp
      rw [hc, if_pos rfl]
      by_cases hl : v < σ.length
      · rw [List.getElem?_set_self (by rw [wipe_length]; exact hl), if_pos hl]
      · rw [if_neg hl, List.getElem?_eq_none (by rw [List.length_set, wipe_length]; omega)]
    · rw [List.getElem?_set_ne h, wipe_get σ i vs]
      have : (v :: vs).contains i = vs.contains i := by
        have h' : ¬ i = v := fun z => h z.symm
        simp [List.contains_cons, h']
      rw [this]
theorem wipe_eq {ts vs : List Nat} {σ σ2 : L2.St} (c : Ch ts (wipe σ vs) σ2) (h : ∀ i, ts.contains i = true → vs.contains i = true) : wipe σ2 vs = wipe σ vs := by
  apply List.ext_getElem?
  intro i
  have hl : σ2.length = σ.length := by rw [c.1, wipe_length]
  rw [wipe_get, wipe_get, hl]
  by_cases hv : vs.contains i = true
  · rw [if_pos hv, if_pos hv]
  · rw [if_neg hv, if_neg hv]
    have ht : ts.contains i = false := by
      cases e : ts.contains i with
      | false => rfl
      | true => exact absurd (h i e) hv
    rw [c.2 i ht, wipe_get, if_neg hv]
theorem Sim.wipe {K : PySem.W.Frag} {H0 H : Hp} {A0 : Addr → Prop} {G : List (V × D)} {O : List Nat} {σ : L2.St} {ρ : PEnv} {B : Nat → Option Addr} (S : Sim K H0 A0 G O σ H ρ B) : ∀ vs : List Nat, (∀ i ∈ vs, i ∉ O) → Sim K H0 A0 G O (wipe σ vs) H (wipeP ρ vs) B
  | [], _ => S
  | v :: vs, h => (S.wipe vs fun i hi => h i (List.mem_cons_of_mem _ hi)).drop v (h v List.mem_cons_self)
theorem restr_same {K : PySem.W.Frag} {H0 H : Hp} {A0 : Addr → Prop} {G : List (V × D)} {O : List Nat} {σ : L2.St} {ρ : PEnv} {B : Nat → Option Addr} (S : Sim K H0 A0 G O σ H ρ B) {ts : List Nat} (h : ∀ i, ts.contains i = true → i ∉ O) : restr ts B = B := by
  funext j
  unfold restr
  split
  · rename_i hj
    cases e : B j with
    | none => rfl
    | some a => exact absurd (S.bo j a e) (h j hj)
  · rfl
/-- the items made from one source -/
def lcL (g : XG) (t : PEnv → Option Bool) (f : Xp) (ρ : PEnv) : List D → Option (List D)
  | [] => some []
  | d :: ds => (g d ρ).bind fun ρ1 => (t ρ1).bind fun b => if b then (f ρ1).bind fun y => (lcL g t f ρ ds).bind fun ys => some (y :: ys) else lcL g t f ρ ds
def xLc (it : XL) (g : XG) (t : PEnv → Option Bool) (f : Xp) (own : List Nat) : Xp := fun ρ => (it ρ).bind fun ds => (lcL g t f (wipeP ρ own) ds).map .list
structure STs (X : Cx) (O : List Nat) (ifs : List Expr) (f : PEnv → Option Bool) : Prop where
  pts : PTs X ifs (simTT X.K O f)
def tYesP : PEnv → Option Bool := fun _ => some true
theorem pts_imp {X : Cx} {e : List Expr} {t t' : TT} (h : PTs X e t) (hi : ∀ σ H Q, t' σ H Q → t σ H Q) : PTs X e t' := ⟨fun pins s σ H Q I q => h.run pins s σ H Q I (hi _ _ _ q)⟩
theorem sts_nil {X : Cx} {O : List Nat} : STs X O [] tYesP := ⟨pts_imp pts_nil fun σ H Q ⟨H0, A0, G, ρ, B, b, S, e, k⟩ => by cases e; exact k H (Same.refl H)⟩
theorem sts_one {X : Cx} {O : List Nat} {c : Expr} {f : PEnv → Option Bool} (h : ST X O c f) : STs X O [c] f := ⟨pts_one h.pt⟩
theorem WRp.step {K : PySem.W.Frag} {A A' : Addr → Prop} {H H' : Hp} {v : V} {d : D} (h : WRp K A H v d) (s : Same H H') (ha : ∀ a, A' a → A a ∨ H a = none) : WRp K A' H' v d := by
  rcases h with h | ⟨a, e, h⟩
  · exact .inl (h.step (fun a o e _ => s a o e) ha)
  · exact .inr ⟨a, e, h.step (fun a o e _ => s a o e) ha fun o e => s _ o e⟩
abbrev Gd (A0 : Addr → Prop) (a : Addr) : Addr → Prop := fun b => A0 b ∨ b = a
theorem gd_av {A0 : Addr → Prop} {B : Nat → Option Addr} {a b : Addr} (h : Av (Gd A0 a) B b) : Av A0 B b ∨ b = a := by
  rcases h with (h | h) | h
  · exact .inl (.inl h)
  · exact .inr h
  · exact .inl (.inr h)
section
variable {X : Cx} {O ts : List Nat} {st : Bool} {m : Md} {tg iter elt : Expr} {ifs : List Expr} {scope : Scope} {own : List (Str × Nat)} {it : XL} {g : XG} {t : PEnv → Option Bool} {f : Xp} {pos : Pos}
theorem lc_of (hm : m ≠ .w) (hts : ∀ i, ts.contains i = true → (own.map (·.2)).contains i = true) (hO : ∀ i ∈ own.map (·.2), i ∉ O) (σ : L2.St) (H : Hp) (Q : VK) (q : simT X.K O .f (xLc it g t f (own.map (·.2))) σ H Q) :
    tLc (simI X.K O st it) (simG X.K O O ts g) (simTT X.K O t) (simT X.K O m f) (own.map (·.2)) σ H Q := by
  obtain ⟨H0, A0, G, ρ, B, d, S, e, k⟩ := q
  obtain ⟨ds, eds, e⟩ := bind2 e
  obtain ⟨ys, eys, e⟩ := Option.map_eq_some_iff.mp e
  subst e
  refine ⟨H0, A0, G, ρ, B, ds, S, eds, fun J H1 gs s1 yl gr hz Dn hD => ?_⟩
  have hts' : ∀ i, ts.contains i = true → i ∉ O := fun i hi => hO i (by simpa using hts i hi)
  -- what stands between two turns
  refine ⟨fun i n Hc => n = ds.length - i ∧ i ≤ ds.length ∧ Same H1 Hc ∧ ∃ vs pre post, Hc Dn = some (.lst vs) ∧ RpL X.K (Av (Gd A0 Dn) B) Hc vs pre ∧ pre.length ≤ i ∧ lcL g t f (wipeP ρ (own.map (·.2))) (ds.drop i) = some post ∧ ys = pre ++ post,
    ⟨ds.length, rfl, Nat.zero_le _, same_upd hD, [], [], ys, upd_same, .nil, Nat.le_refl _, eys, rfl⟩, ?_⟩
  rintro i n Hc ⟨rfl, hi, sc, vs, pre, post, hDc, rpre, hpl, epost, rfl⟩
  have Sg : Sim X.K H0 (Gd A0 Dn) G O σ Hc ρ B := (S.mono s1).guard hD sc ⟨_, hDc, NT.lst⟩
  have gw : ∀ p ∈ gs, WRp X.K (Av (Gd A0 Dn) B) Hc p.1 p.2 := fun p hp => (gr p hp).w.step sc fun a z => by
    rcases gd_av z with z | z
    · exact .inl z
    · exact .inr (by rw [z]; exact hD)
  by_cases hlt : i < ds.length
  · have ed : ds[i]? = some ds[i] := List.getElem?_eq_getElem hlt
    rw [List.drop_eq_getElem_cons hlt] at epost
    obtain ⟨hgo, hy⟩ := yl.go _ Hc i _ Sg.tr gw ed
    simp only [lcL] at epost
    obtain ⟨ρ1, eρ1, epost⟩ := bind2 epost
    obtain ⟨b, eb, epost⟩ := bind2 epost
    refine .inr ⟨hgo, fun H' => i + 1 ≤ ds.length ∧ Same H1 H' ∧ ∃ vs pre' post', H' Dn = some (.lst vs) ∧ RpL X.K (Av (Gd A0 Dn) B) H' vs pre' ∧ pre'.length ≤ i + 1 ∧ lcL g t f (wipeP ρ (own.map (·.2))) (ds.drop (i + 1)) = some post' ∧ pre ++ post = pre' ++ post', fun H' hN => ?_, fun x H' hx => ?_⟩
    · obtain ⟨h1, h2, h3⟩ := hN
      exact ⟨ds.length - (i + 1), by omega, rfl, h1, h2, h3⟩
    · obtain ⟨s2, rx⟩ := hy x H' hx
      refine ⟨H0, Gd A0 Dn, G, wipeP ρ (own.map (·.2)), B, _, ρ1, (Sg.mono s2).wipe _ hO, rx, eρ1, fun σ2 c2 S2 => ?_⟩
      rw [restr_same Sg hts'] at S2
      refine ⟨wipe_eq c2 hts, H0, Gd A0 Dn, G, ρ1, B, b, S2, eb, fun H3 s3 => ?_⟩
      cases b with
      | true =>
        rw [if_pos rfl]
        rw [if_pos rfl] at epost
        obtain ⟨y, ey, epost⟩ := bind2 epost
        obtain ⟨zs, ezs, epost⟩ := bind2 epost
        cases epost
        refine ⟨H0, Gd A0 Dn, G, ρ1, B, y, S2.mono s3, ey, fun v H4 s4 r4 => ?_⟩
        have r4' := r4.toS (S2.mono s3).tr hm
        have s24 := (s2.trans s3).trans s4
        have avD : Av (Gd A0 Dn) B Dn := .inl (.inr rfl)
        have kp : ∀ a o, H4 a = some o → ¬ Av (Gd A0 Dn) B a → upd H4 Dn (.lst (vs ++ [v])) a = some o := fun a o e n => by
          rw [upd_ne (fun z => n (by rw [z]; exact avD))]
          exact e
        refine ⟨vs, s24 _ _ hDc, ?_, by omega, fun a o e => ?_, vs ++ [v], pre ++ [y], zs, upd_same, ?_, by simp; omega, ezs, by simp⟩
        · rw [rpre.length]
          have : (16777216 : Nat) = sizeLine := rfl
          omega
        · have hne : a ≠ Dn := fun z => by rw [z, hD] at e; cases e
          rw [upd_ne hne]
          exact s24 _ _ (sc _ _ e)
        · exact RpL.app (.one (r4'.step kp fun _ z => .inl z)) ((rpre.mono s24).step kp fun _ z => .inl z)
      | false =>
        rw [if_neg Bool.false_ne_true]
        rw [if_neg Bool.false_ne_true] at epost
        have s23 := s2.trans s3
        exact ⟨by omega, sc.trans s23, vs, pre, post, s23 _ _ hDc, rpre.mono s23, by omega, epost, rfl⟩
  · have e : i = ds.length := by omega
    subst e
    refine .inl ⟨yl.stop _ Hc Sg.tr gw, ?_⟩
    rw [List.drop_length] at epost
    cases epost
    rw [List.append_nil] at k
    have hHD : H Dn = none := s1.free hD
    refine k _ Hc (s1.trans sc) (.inl ⟨Dn, rfl, hHD, .lst hDc (rpre.anti fun a z => ?_)⟩)
    rcases z with z | z
    · rcases z with z | z
      · exact .inl (.inl z)
      · exact .inr z
    · exact .inl (.inr z)
abbrev InBlk (X : Cx) (scope : Scope) (P : Cx → Prop) : Prop := ∀ (s : Shared) (H : Hp) (C : Addr) (cl : List (Str × Addr)) (fp : List Addr), P (X.blk s H scope (compEnvC scope cl C X.env) fp)
theorem se_lc (hN : X.N.Nodup) (hi : SI X O st tg iter it) (ok : BlkOk X.N X.env.scope scope own) (hg : InBlk X scope fun Y => SG Y O O ts tg g) (ht : InBlk X scope fun Y => STs Y O ifs t) (he : InBlk X scope fun Y => SE Y O m elt f)
    (hm : m ≠ .w := by decide) (hts : ts.all (fun i => (own.map (·.2)).contains i) = true := by rfl) (hO : (own.map (·.2)).all (fun i => !O.contains i) = true := by rfl) (hc : X.calm = true := by rfl) (hs : ∀ x, foldedSetIterable iter X.env x = pure x := by intro _; rfl) :
    SE X O .f (.ListComp elt [⟨tg, iter, ifs, 0⟩] scope pos) (xLc it g t f (own.map (·.2))) :=
  ⟨pe_imp (pe_lc hc hN hi.pi ok (fun s H C cl fp => (hg s H C cl fp).pg) (fun s H C cl fp => (ht s H C cl fp).pts) (fun s H C cl fp => (he s H C cl fp).pe) hs)
    (lc_of hm (fun i hi => by simpa using List.all_eq_true.mp hts i (by simpa using hi)) (fun i hi => by simpa using List.all_eq_true.mp hO i hi))⟩
end
end Pm

namespace Pm
open PySem PySem.Spec PyProof.Rows L2

/-! ### statements -/
inductive Out where
  | nx (ρ : PEnv) | rt (d : D) | bk (ρ : PEnv) | ct (ρ : PEnv)
abbrev XS := PEnv → Option Out
def PostS (K : PySem.W.Frag) (H0 : Hp) (A0 : Addr → Prop) (G : List (V × D)) (Ob Oc O' : List Nat) (D : Ends) : Out → Prop
  | .nx ρ => ∀ σ H B, Sim K H0 A0 G O' σ H ρ B → D.nx σ H
  | .rt d => ∀ v H, Same H0 H → Rp K A0 H v d → D.rt v H
  | .bk ρ => ∀ σ H B, Sim K H0 A0 G Ob σ H ρ B → D.bk σ H
  | .ct ρ => ∀ σ H B, Sim K H0 A0 G Oc σ H ρ B → D.ct σ H
def simS (K : PySem.W.Frag) (O Ob Oc O' : List Nat) (g : XS) : TS := fun D σ H => ∃ H0 A0 G ρ B o, Sim K H0 A0 G O σ H ρ B ∧ g ρ = some o ∧ PostS K H0 A0 G Ob Oc O' D o
structure SS (X : Cx) (O Ob Oc O' : List Nat) (st : Stmt) (g : XS) : Prop where
  ps : PS X st (simS X.K O Ob Oc O' g)
structure SSs (X : Cx) (O Ob Oc O' : List Nat) (st : List Stmt) (g : XS) : Prop where
  pss : PSs X st (simS X.K O Ob Oc O' g)
def sNop : XS := fun ρ => some (.nx ρ)
def sSeq (g h : XS) : XS := fun ρ => (g ρ).bind fun o => match o with
  | .nx ρ' => h ρ'
  | o => some o
section
variable {X : Cx} {O O1 O2 Ob Oc O' : List Nat} {m ma mb : Md} {st : Stmt} {sts : List Stmt} {g h : XS} {e a b c : Expr} {f fa fb : Xp} {pos pos' : Pos}
theorem sub_of (h : O1.all (fun i => O.contains i) = true) : ∀ i ∈ O1, i ∈ O := fun i hi => by simpa using List.all_eq_true.mp h i hi
theorem SS.weak (s : SS X O1 Ob Oc O' st g) (h : O1.all (fun i => O.contains i) = true := by rfl) : SS X O Ob Oc O' st g := by
  refine ⟨ps_imp s.ps fun D σ H q => ?_⟩
  obtain ⟨H0, A0, G, ρ, B, o, S, e, k⟩ := q
  obtain ⟨B', S'⟩ := S.weak (sub_of h)
  exact ⟨H0, A0, G, ρ, B', o, S', e, k⟩
theorem SSs.weak (s : SSs X O1 Ob Oc O' sts g) (h : O1.all (fun i => O.contains i) = true := by rfl) : SSs X O Ob Oc O' sts g := by
  refine ⟨pss_imp s.pss fun D σ H q => ?_⟩
  obtain ⟨H0, A0, G, ρ, B, o, S, e, k⟩ := q
  obtain ⟨B', S'⟩ := S.weak (sub_of h)
  exact ⟨H0, A0, G, ρ, B', o, S', e, k⟩
/-- an empty block; the own slots may be fewer behind it -/
theorem ss_nil (h : O'.all (fun i => O.contains i) = true := by rfl) : SSs X O Ob Oc O' [] sNop := by
  refine ⟨pss_imp pss_nil fun D σ H q => ?_⟩
  obtain ⟨H0, A0, G, ρ, B, o, S, e, k⟩ := q
  cases e
  obtain ⟨B', S'⟩ := S.weak (sub_of h)
  exact k σ H B' S'
theorem ss_cons (h1 : SS X O Ob Oc O1 st g) (h2 : SSs X O1 Ob Oc O' sts h) : SSs X O Ob Oc O' (st :: sts) (sSeq g h) := by
  refine ⟨pss_imp (pss_cons h1.ps h2.pss) fun D σ H q => ?_⟩
  obtain ⟨H0, A0, G, ρ, B, o, S, e, k⟩ := q
  obtain ⟨o1, e1, e⟩ := bind2 e
  refine ⟨H0, A0, G, ρ, B, o1, S, e1, ?_⟩
  cases o1 with
  | nx ρ1 => exact fun σ1 H1 B1 S1 => ⟨H0, A0, G, ρ1, B1, o, S1, e, k⟩
  | rt d => cases e; exact k
  | bk ρ1 => cases e; exact k
  | ct ρ1 => cases e; exact k
theorem ss_last (h1 : SS X O Ob Oc O' st g) : SSs X O Ob Oc O' [st] g := ⟨pss_one h1.ps⟩
def sBrk : XS := fun ρ => some (.bk ρ)
def sCnt : XS := fun ρ => some (.ct ρ)
theorem ss_pass (h : O'.all (fun i => O.contains i) = true := by rfl) : SS X O Ob Oc O' (.Pass pos) sNop := by
  refine ⟨ps_imp ps_pass fun D σ H q => ?_⟩
  obtain ⟨H0, A0, G, ρ, B, o, S, e, k⟩ := q
  cases e
  obtain ⟨B', S'⟩ := S.weak (sub_of h)
  exact k σ H B' S'
theorem ss_break (h : Ob.all (fun i => O.contains i) = true := by rfl) : SS X O Ob Oc O' (.Break pos) sBrk := by
  refine ⟨ps_imp ps_break fun D σ H q => ?_⟩
  obtain ⟨H0, A0, G, ρ, B, o, S, e, k⟩ := q
  cases e
  obtain ⟨B', S'⟩ := S.weak (sub_of h)
  exact k σ H B' S'
theorem ss_cont (h : Oc.all (fun i => O.contains i) = true := by rfl) : SS X O Ob Oc O' (.Continue pos) sCnt := by
  refine ⟨ps_imp ps_continue fun D σ H q => ?_⟩
  obtain ⟨H0, A0, G, ρ, B, o, S, e, k⟩ := q
  cases e
  obtain ⟨B', S'⟩ := S.weak (sub_of h)
  exact k σ H B' S'
def sRet (f : Xp) : XS := fun ρ => (f ρ).map .rt
theorem ss_ret (he : SE X O m e f) (hm : m ≠ .w := by decide) : SS X O Ob Oc O' (.Return (some e) pos) (sRet f) := by
  refine ⟨ps_imp (ps_ret he.pe) fun D σ H q => ?_⟩
  obtain ⟨H0, A0, G, ρ, B, o, S, e, k⟩ := q
  obtain ⟨d, ed, e⟩ := Option.map_eq_some_iff.mp e
  subst e
  exact ⟨H0, A0, G, ρ, B, d, S, ed, fun v H' s r => k v H' (S.same.trans s) ((r.toS S.tr hm).anti fun a z => .inl z)⟩
theorem ss_retN : SS X O Ob Oc O' (.Return none pos) (sRet (xC .none)) := by
  refine ⟨ps_imp ps_retN fun D σ H q => ?_⟩
  obtain ⟨H0, A0, G, ρ, B, o, S, e, k⟩ := q
  cases e
  exact k .non H S.same .non
def sIf (c : PEnv → Option Bool) (g h : XS) : XS := fun ρ => (c ρ).bind fun b => if b then g ρ else h ρ
theorem ss_if {c : Expr} {tc : PEnv → Option Bool} {p q : List Stmt} (hc : ST X O c tc) (hp : SSs X O Ob Oc O' p g) (hq : SSs X O Ob Oc O' q h) : SS X O Ob Oc O' (.If c p q pos) (sIf tc g h) := by
  refine ⟨ps_imp (ps_if hc.pt hp.pss hq.pss) fun D σ H q => ?_⟩
  obtain ⟨H0, A0, G, ρ, B, o, S, e, k⟩ := q
  obtain ⟨b, eb, e⟩ := bind2 e
  refine ⟨H0, A0, G, ρ, B, b, S, eb, fun H1 s1 => ?_⟩
  cases b with
  | true => exact ⟨H0, A0, G, ρ, B, o, S.mono s1, e, k⟩
  | false => exact ⟨H0, A0, G, ρ, B, o, S.mono s1, e, k⟩

/-! ### a name takes a value -/
def sSet (i : Nat) (f : Xp) : XS := fun ρ => (f ρ).bind fun d => if i < ρ.length then some (.nx (ρ.set i (some d))) else none
theorem Sim.grow {K : PySem.W.Frag} {H0 H : Hp} {A0 : Addr → Prop} {G : List (V × D)} {σ : L2.St} {ρ : PEnv} {B : Nat → Option Addr} {i : Nat} (S : Sim K H0 A0 G (O.filter (· != i)) σ H ρ B) (h : ∀ d, ρ[i]? = some (some d) → isMut d = false) : Sim K H0 A0 G (i :: O) σ H ρ B := by
  refine ⟨S.same, S.a0, S.len, fun j a e => List.mem_cons_of_mem _ (List.mem_filter.mp (S.bo j a e)).1, S.inj, S.fr, fun j d hj e m => ?_, S.slot, S.gs⟩
  by_cases hji : j = i
  · subst hji
    rw [h d e] at m
    cases m
  · rcases List.mem_cons.mp hj with hj | hj
    · exact absurd hj hji
    · exact S.ob j d (List.mem_filter.mpr ⟨hj, by simpa using hji⟩) e m
theorem setf_of {D : Ends} {i : Nat} (σ : L2.St) (H : Hp) (q : simS X.K O Ob Oc (i :: O) (sSet i f) D σ H) : tAsg (simT X.K O .f f) (gName i) D σ H := by
  obtain ⟨H0, A0, G, ρ, B, o, S, e, k⟩ := q
  obtain ⟨d, ed, e⟩ := bind2 e
  split at e
  · rename_i hl
    cases e
    refine ⟨H0, A0, G, ρ, B, d, S, ed, fun v H1 s1 r1 => ?_⟩
    rcases r1 with ⟨a, rfl, hn, r1⟩ | ⟨r1, nm⟩
    · obtain ⟨B', S'⟩ := S.setF s1 hn r1 hl
      exact k _ H1 B' S'
    · have S' := (S.mono s1).setS r1 hl
      refine k _ H1 _ (S'.grow fun d' e' => ?_)
      rw [List.getElem?_set_self hl] at e'
      cases e'
      exact nm
  · cases e
theorem ss_setF (i : Nat) {x : Str} {O' : List Nat} (hN : X.N.Nodup) (he : SE X O .f e f) (hi : X.N[i]? = some x := by rfl) (hx : Loc X.env.scope x := by first | exact Or.inl rfl | exact Or.inr rfl) (hs : swapsWith e (some (.Name x pos')) pos.line X.env = pure false := by rfl) (hf : X.fn x = true ∨ X.env.scope.names.lookup x = some .local := by first | exact .inl rfl | exact .inr rfl)
    (hO : i :: O = O' := by rfl) : SS X O Ob Oc O' (.Assign [.Name x pos'] e pos) (sSet i f) := by
  subst hO
  exact ⟨ps_imp (ps_set hN hi hx he.pe hs hf) fun D σ H q => setf_of σ H q⟩
theorem ss_setS (i : Nat) {x : Str} (hN : X.N.Nodup) (he : SE X O m e f) (hm : m ≠ .w := by decide) (hi : X.N[i]? = some x := by rfl) (hx : Loc X.env.scope x := by first | exact Or.inl rfl | exact Or.inr rfl) (hs : swapsWith e (some (.Name x pos')) pos.line X.env = pure false := by rfl) (hf : X.fn x = true ∨ X.env.scope.names.lookup x = some .local := by first | exact .inl rfl | exact .inr rfl)
    (hO : O.filter (· != i) = O' := by rfl) : SS X O Ob Oc O' (.Assign [.Name x pos'] e pos) (sSet i f) := by
  refine ⟨ps_imp (ps_set hN hi hx he.pe hs hf) fun D σ H q => ?_⟩
  obtain ⟨H0, A0, G, ρ, B, o, S, e, k⟩ := q
  obtain ⟨d, ed, e⟩ := bind2 e
  split at e
  · rename_i hl
    cases e
    refine ⟨H0, A0, G, ρ, B, d, S, ed, fun v H1 s1 r1 => ?_⟩
    have S' := (S.mono s1).setS ((r1.toS S.tr hm)) hl
    rw [hO] at S'
    exact k _ H1 _ S'
  · cases e
/-- x = [..] -/
theorem ss_setLc (i : Nat) {y : Str} {py : Pos} {ts : List Nat} {sf : Bool} {tg iter elt : Expr} {ifs : List Expr} {scope : Scope} {own : List (Str × Nat)} {it : XL} {gg : D → PEnv → Option PEnv} {t : PEnv → Option Bool} {spos : Pos} {O' : List Nat}
    (hN : X.N.Nodup) (hi : SI X O sf tg iter it) (ok : BlkOk X.N X.env.scope scope own) (hg : InBlk X scope fun Y => SG Y O O ts tg gg) (ht : InBlk X scope fun Y => STs Y O ifs t) (he : InBlk X scope fun Y => SE Y O m elt f)
    (hm : m ≠ .w := by decide) (hy : X.N[i]? = some y := by rfl) (hyl : X.env.scope.names.lookup y = some .local := by rfl) (hsw : swapsWith (.ListComp elt [⟨tg, iter, ifs, 0⟩] scope pos) (some (.Name y py)) spos.line X.env = pure true := by exact sw_true rfl rfl rfl (by decide +kernel))
    (hts : ts.all (fun i => (own.map (·.2)).contains i) = true := by rfl) (hO : (own.map (·.2)).all (fun i => !O.contains i) = true := by rfl) (hc : X.calm = true := by rfl) (hs : ∀ x, foldedSetIterable iter X.env x = pure x := by intro _; rfl) (hO' : i :: O = O' := by rfl) :
    SS X O Ob Oc O' (.Assign [.Name y py] (.ListComp elt [⟨tg, iter, ifs, 0⟩] scope pos) spos) (sSet i (xLc it gg t f (own.map (·.2)))) := by
  subst hO'
  refine ⟨ps_imp (ps_setLc (wi := simI X.K O sf it) (g := simG X.K O O ts gg) (tt := simTT X.K O t) (te := simT X.K O m f) hc hN hy hyl hsw hi.pi ok (fun s H C cl fp => (hg s H C cl fp).pg) (fun s H C cl fp => (ht s H C cl fp).pts) (fun s H C cl fp => (he s H C cl fp).pe) hs) fun D σ H q => ?_⟩
  exact lc_of hm (fun i hi => by simpa using List.all_eq_true.mp hts i (by simpa using hi)) (fun i hi => by simpa using List.all_eq_true.mp hO i hi) σ H _ (setf_of σ H q)
/-- a, b = e -/
def sTgt (g : D → PEnv → Option PEnv) (f : Xp) : XS := fun ρ => (f ρ).bind fun d => (g d ρ).map .nx
theorem ss_tgt {tg : Expr} {ts : List Nat} {gg : D → PEnv → Option PEnv} (he : SE X O m e f) (hg : SG X O O' ts tg gg) (hm : m ≠ .w := by decide) (hs : swapsWithSole [tg] e pos.line X.env = pure false := by rfl) (hw : swappedStores [tg] e X.env = pure none := by rfl)
    (h1 : (assignEach [tg] X.env).map (·.2) = [assign tg X.env] := by rfl) : SS X O Ob Oc O' (.Assign [tg] e pos) (sTgt gg f) := by
  refine ⟨ps_imp (ps_asg he.pe hg.pg hs hw h1) fun D σ H q => ?_⟩
  obtain ⟨H0, A0, G, ρ, B, o, S, e, k⟩ := q
  obtain ⟨d, ed, e⟩ := bind2 e
  obtain ⟨ρ', eρ, e⟩ := Option.map_eq_some_iff.mp e
  subst e
  refine ⟨H0, A0, G, ρ, B, d, S, ed, fun v H1 s1 r1 => ?_⟩
  exact ⟨H0, A0, G, ρ, B, d, ρ', S.mono s1, (r1.toS S.tr hm), eρ, fun σ' _ S' => k σ' H1 _ S'⟩
/-- x op= e -/
def sAug (i : Nat) (g : D → D → Option D) (f : Xp) : XS := fun ρ => (xVar i ρ).bind fun x => (f ρ).bind fun y => (g x y).bind fun z => if i < ρ.length then some (.nx (ρ.set i (some z))) else none
theorem ss_aug (i : Nat) {x : Str} {op : Operator} {g : D → D → Option D} (hN : X.N.Nodup) (ho : OpR X (inplaceOp op) (rD X.K .f g)) (he : SE X O m e f) (hni : O.contains i = false := by rfl) (hi : X.N[i]? = some x := by rfl) (hx : Loc X.env.scope x := by first | exact Or.inl rfl | exact Or.inr rfl) (hf : X.fn x = true ∨ X.env.scope.names.lookup x = some .local := by first | exact .inl rfl | exact .inr rfl) :
    SS X O Ob Oc (O.filter (· != i)) (.AugAssign (.Name x pos') op e pos) (sAug i g f) := by
  refine ⟨ps_imp (ps_aug hN hi hx he.pe (ti := rD X.K .f g) ho hf) fun D σ H q => ?_⟩
  obtain ⟨H0, A0, G, ρ, B, o, S, e, k⟩ := q
  obtain ⟨d, ed, e⟩ := bind2 e
  obtain ⟨y, ey, e⟩ := bind2 e
  obtain ⟨z, ez, e⟩ := bind2 e
  split at e
  · rename_i hl
    cases e
    rcases S.slot i d (getD_some ed) with ⟨a, h1, _, _⟩ | ⟨_, v, h2, h3⟩
    · have := S.bo i a h1
      simp at hni
      exact absurd this hni
    refine ⟨v, h2, H0, A0, G, ρ, B, y, S, ey, fun u H1 s1 r1 => ⟨Av A0 B, d, y, z, (S.mono s1).tr, .inl (h3.mono s1), r1.toW, ez, fun w H2 s2 r2 => ?_⟩⟩
    have S2 := S.mono (s1.trans s2)
    exact k _ H2 _ (S2.setS (r2.toS (S.mono s1).tr (by decide)) hl)
  · cases e

/-! ### an own list changes -/
def sApp (i : Nat) (f : Xp) : XS := fun ρ => (xVar i ρ).bind fun x => (f ρ).bind fun y => match x with
  | .list xs => if xs.length < 16777216 ∧ i < ρ.length then some (.nx (ρ.set i (some (.list (xs ++ [y]))))) else none
  | _ => none
theorem own_of {K : PySem.W.Frag} {H0 H : Hp} {A0 : Addr → Prop} {G : List (V × D)} {σ : L2.St} {ρ : PEnv} {B : Nat → Option Addr} {i : Nat} {xs : List D} (S : Sim K H0 A0 G O σ H ρ B) (hi : O.contains i = true) (e : xVar i ρ = some (.list xs)) : ∃ a vs, B i = some a ∧ σ[i]? = some (some (.ref a)) ∧ H a = some (.lst vs) ∧ RpL K (Av A0 B) H vs xs := by
  obtain ⟨a, h1, h2, h3⟩ := S.ob i _ (by simpa using hi) (getD_some e) rfl
  cases h3 with
  | lst h r => exact ⟨a, _, h1, h2, h, r⟩
theorem upd_lst {K : PySem.W.Frag} {H : Hp} {A : Addr → Prop} {a : Addr} {vs : List V} {ds : List D} (ha : A a) (r : RpL K A H vs ds) : Tp K A (upd H a (.lst vs)) a (.list ds) := by
  refine .lst upd_same (r.step (fun b o e n => ?_) fun _ z => .inl z)
  rw [upd_ne (fun z => n (by rw [z]; exact ha))]
  exact e
theorem ss_app (i : Nat) {x : Str} {apos p1 cpos : Pos} (he : SE X O m e f) (hm : m ≠ .w := by decide) (hO : O.contains i = true := by rfl) (hN : X.N[i]? = some x := by rfl) (hv : Vis X.env.scope x := by first | exact Or.inl rfl | exact Or.inr (Or.inl rfl) | exact Or.inr (Or.inr rfl))
    (hd : (x == ("__debug__" : Str)) = false := by decide) (hcd : (x == ("__classdict__" : Str)) = false := by decide) (hbase : attributeBase (.Name x p1) "append" X.env (eval (.Name x p1) X.env) = eval (.Name x p1) X.env := by rfl)
    (hfew : ((backTo cpos (starEach (e :: []) X.env)).all (fun x => !x.1) && (backToKw cpos (keywordEach [] X.env)).all (fun x => x.1.isSome) && decide ((e :: ([] : List Expr)).length + ([] : List Keyword).length + (if ([] : List Keyword).isEmpty then 0 else 1) < 30)) = true := by rfl)
    (hline : (apos.endLine == cpos.line) = true := by rfl) (hs : starEach (e :: []) X.env = (false, eval e X.env) :: starEach [] X.env := by rfl) (hplain : (backTo cpos (starEach [] X.env)).any (·.1) = false := by rfl)
    (hsw : swapsWith (.Call (.Attribute (.Name x p1) "append" apos) [e] [] cpos) none pos.line X.env = pure false := by rfl) : SS X O Ob Oc O (.Expr (.Call (.Attribute (.Name x p1) "append" apos) [e] [] cpos) pos) (sApp i f) := by
  refine ⟨ps_imp (ps_expr (pe_bm PySem.F.plainAttrs_list PySem.F.slot_list_append PySem.F.type_list_append mt_append (pe_var hN hv hd hcd) (pa_cons he.pe pa_nil hs) hbase hfew hline hs hplain) hsw) fun D σ H q => ?_⟩
  obtain ⟨H0, A0, G, ρ, B, o, S, e, k⟩ := q
  obtain ⟨d, ed, e⟩ := bind2 e
  obtain ⟨y, ey, e⟩ := bind2 e
  split at e
  · split at e
    · rename_i hz
      cases e
      obtain ⟨a, vs, hB, hσ, ha, ra⟩ := own_of S hO ed
      refine ⟨.ref a, hσ, .inl ⟨rfl, _, .of ha⟩, H0, A0, G, ρ, B, y, S, ey, fun v H1 s1 r1 => ?_⟩
      have S1 := S.mono s1
      refine ⟨a, vs, v, rfl, rfl, s1 _ _ ha, by rw [ra.length]; exact hz.1, ?_⟩
      have av : Av A0 B a := .inr ⟨i, hB⟩
      exact k _ _ B (S1.write hB hσ (upd_lst av (RpL.app (.one (r1.toS S.tr hm)) (ra.mono s1))) hz.2)
    · cases e
  · cases e
def sExt (i : Nat) (f : Xp) : XS := fun ρ => (xVar i ρ).bind fun x => (f ρ).bind fun y => match x, y with
  | .list xs, .list ys => if xs.length + ys.length ≤ 16777216 ∧ i < ρ.length then some (.nx (ρ.set i (some (.list (xs ++ ys))))) else none
  | _, _ => none
theorem ss_ext (i : Nat) {x : Str} {apos p1 cpos : Pos} (he : SE X O m e f) (hO : O.contains i = true := by rfl) (hN : X.N[i]? = some x := by rfl) (hv : Vis X.env.scope x := by first | exact Or.inl rfl | exact Or.inr (Or.inl rfl) | exact Or.inr (Or.inr rfl))
    (hd : (x == ("__debug__" : Str)) = false := by decide) (hcd : (x == ("__classdict__" : Str)) = false := by decide) (hbase : attributeBase (.Name x p1) "extend" X.env (eval (.Name x p1) X.env) = eval (.Name x p1) X.env := by rfl)
    (hfew : ((backTo cpos (starEach (e :: []) X.env)).all (fun x => !x.1) && (backToKw cpos (keywordEach [] X.env)).all (fun x => x.1.isSome) && decide ((e :: ([] : List Expr)).length + ([] : List Keyword).length + (if ([] : List Keyword).isEmpty then 0 else 1) < 30)) = true := by rfl)
    (hline : (apos.endLine == cpos.line) = true := by rfl) (hs : starEach (e :: []) X.env = (false, eval e X.env) :: starEach [] X.env := by rfl) (hplain : (backTo cpos (starEach [] X.env)).any (·.1) = false := by rfl)
    (hsw : swapsWith (.Call (.Attribute (.Name x p1) "extend" apos) [e] [] cpos) none pos.line X.env = pure false := by rfl) : SS X O Ob Oc O (.Expr (.Call (.Attribute (.Name x p1) "extend" apos) [e] [] cpos) pos) (sExt i f) := by
  refine ⟨ps_imp (ps_expr (pe_bm PySem.F.plainAttrs_list PySem.F.slot_list_extend PySem.F.type_list_extend mt_extend (pe_var hN hv hd hcd) (pa_cons he.pe pa_nil hs) hbase hfew hline hs hplain) hsw) fun D σ H q => ?_⟩
  obtain ⟨H0, A0, G, ρ, B, o, S, e, k⟩ := q
  obtain ⟨d, ed, e⟩ := bind2 e
  obtain ⟨y, ey, e⟩ := bind2 e
  split at e
  · split at e
    · rename_i hz
      cases e
      obtain ⟨a, vs, hB, hσ, ha, ra⟩ := own_of S hO ed
      refine ⟨.ref a, hσ, .inl ⟨rfl, _, .of ha⟩, H0, A0, G, ρ, B, _, S, ey, fun v H1 s1 r1 => ?_⟩
      have S1 := S.mono s1
      obtain ⟨b, zs, rfl, hb, rb⟩ := r1.toW.lst
      refine ⟨a, b, vs, zs, rfl, rfl, s1 _ _ ha, hb, by rw [ra.length, rb.length]; exact hz.1, ?_⟩
      have av : Av A0 B a := .inr ⟨i, hB⟩
      exact k _ _ B (S1.write hB hσ (upd_lst av (RpL.app rb (ra.mono s1))) hz.2)
    · cases e
  · cases e
/-- x[j] = e -/
def sPut (i : Nat) (fj f : Xp) : XS := fun ρ => (f ρ).bind fun y => (xVar i ρ).bind fun x => (fj ρ).bind fun j => match x, j with
  | .list xs, .int j => (ixN xs.length j).bind fun n => if i < ρ.length then some (.nx (ρ.set i (some (.list (xs.set n y))))) else none
  | _, _ => none
theorem ss_put (i : Nat) {x : Str} {p1 p2 : Pos} {j : Expr} {fj : Xp} (he : SE X O m e f) (hj : SE X O mb j fj) (hm : m ≠ .w := by decide) (hO : O.contains i = true := by rfl) (hN : X.N[i]? = some x := by rfl) (hv : Vis X.env.scope x := by first | exact Or.inl rfl | exact Or.inr (Or.inl rfl) | exact Or.inr (Or.inr rfl))
    (hd : (x == ("__debug__" : Str)) = false := by decide) (hcd : (x == ("__classdict__" : Str)) = false := by decide)
    (ha : ∀ v, assign (.Subscript (.Name x p1) j p2) X.env v = (do
      let ov ← holding [v] (eval (.Name x p1) X.env)
      let iv ← holding [v, ov] (eval j X.env)
      standAt p2
      holding [v, ov, iv] (setItem ov iv v)
      release [v, ov, iv] []) := by intro _; rfl)
    (hs : swapsWithSole [.Subscript (.Name x p1) j p2] e pos.line X.env = pure false := by rfl) (hw : swappedStores [.Subscript (.Name x p1) j p2] e X.env = pure none := by rfl)
    (h1 : (assignEach [.Subscript (.Name x p1) j p2] X.env).map (·.2) = [assign (.Subscript (.Name x p1) j p2) X.env] := by rfl) : SS X O Ob Oc O (.Assign [.Subscript (.Name x p1) j p2] e pos) (sPut i fj f) := by
  refine ⟨ps_imp (ps_asg he.pe (pg_sub (pe_var hN hv hd hcd) hj.pe set_list ha) hs hw h1) fun D σ H q => ?_⟩
  obtain ⟨H0, A0, G, ρ, B, o, S, e, k⟩ := q
  obtain ⟨y, ey, e⟩ := bind2 e
  obtain ⟨d, ed, e⟩ := bind2 e
  obtain ⟨z, ez, e⟩ := bind2 e
  split at e
  · obtain ⟨n, en, e⟩ := bind2 e
    split at e
    · rename_i hz
      cases e
      obtain ⟨a, vs, hB, hσ, ha, ra⟩ := own_of S hO ed
      refine ⟨H0, A0, G, ρ, B, y, S, ey, fun v H1 s1 r1 => ⟨.ref a, hσ, H0, A0, G, ρ, B, _, S.mono s1, ez, fun u H2 s2 r2 => ?_⟩⟩
      have s12 := s1.trans s2
      have S1 := S.mono s12
      refine ⟨a, vs, _, n, rfl, r2.toW.int, s12 _ _ ha, by rw [ra.length]; exact en, ?_⟩
      have av : Av A0 B a := .inr ⟨i, hB⟩
      exact k _ _ B (S1.write hB hσ (upd_lst av (RpL.set ((r1.toS S.tr hm).mono s2) n (ra.mono s12))) hz)
    · cases e
  · cases e

/-! ### loops -/
def forL (g : D → PEnv → Option PEnv) (b : XS) : List D → XS
  | [], ρ => some (.nx ρ)
  | d :: ds, ρ => (g d ρ).bind fun ρ1 => (b ρ1).bind fun o => match o with
    | .nx ρ2 => forL g b ds ρ2
    | .ct ρ2 => forL g b ds ρ2
    | .bk ρ2 => some (.nx ρ2)
    | .rt d => some (.rt d)
def sFor (it : XL) (g : D → PEnv → Option PEnv) (b : XS) : XS := fun ρ => (it ρ).bind fun ds => forL g b ds ρ
theorem ss_for {tg iter : Expr} {body : List Stmt} {ts : List Nat} {it : XL} {gg : D → PEnv → Option PEnv} (hi : SI X O true tg iter it) (hg : SG X O O1 ts tg gg) (hb : SSs X O1 O' O O body g)
    (hsub : O'.all (fun i => O.contains i) = true := by rfl) (hp : PassesOwn (model X.prog X.w) X.A X.env X.xe := by exact PassesOwn.never) (hc : X.calm = true := by rfl) (hs : ∀ x, foldedSetIterable iter X.env x = pure x := by intro _; rfl) : SS X O Ob Oc O' (.For tg iter body [] pos) (sFor it gg g) := by
  refine ⟨ps_imp (ps_for hp hc hi.pi hg.pg hb.pss hs) fun D σ H q => ?_⟩
  obtain ⟨H0, A0, G, ρ, B, o, S, e, k⟩ := q
  obtain ⟨ds, eds, e⟩ := bind2 e
  refine ⟨H0, A0, G, ρ, B, ds, S, eds, fun J H1 gs s1 yl gr hz => ?_⟩
  have Sg := (S.mono s1).ghost (G' := gs) fun p hp => gr p hp
  refine ⟨fun i n σi Hi => n = ds.length - i ∧ i ≤ ds.length ∧ ∃ ρi Bi, Sim X.K H0 A0 (gs ++ G) O σi Hi ρi Bi ∧ forL gg g (ds.drop i) ρi = some o, ⟨ds.length, rfl, Nat.zero_le _, ρ, B, Sg, e⟩, ?_⟩
  rintro i n σi Hi ⟨rfl, hi, ρi, Bi, Si, ei⟩
  have gw : ∀ p ∈ gs, WRp X.K (Av A0 Bi) Hi p.1 p.2 := fun p hp => .inl (Si.gs p (List.mem_append_left _ hp))
  by_cases hlt : i < ds.length
  · have ed : ds[i]? = some ds[i] := List.getElem?_eq_getElem hlt
    rw [List.drop_eq_getElem_cons hlt] at ei
    simp only [forL] at ei
    obtain ⟨ρ1, eρ1, ei⟩ := bind2 ei
    obtain ⟨o1, eo1, ei⟩ := bind2 ei
    obtain ⟨hgo, hy⟩ := yl.go _ Hi i _ Si.tr gw ed
    refine .inr ⟨hgo, fun σ' H' => i + 1 ≤ ds.length ∧ ∃ ρ' B', Sim X.K H0 A0 (gs ++ G) O σ' H' ρ' B' ∧ forL gg g (ds.drop (i + 1)) ρ' = some o, fun σ' H' hN => ⟨ds.length - (i + 1), by omega, rfl, hN.1, hN.2⟩, fun x H' hx => ?_⟩
    obtain ⟨s2, rx⟩ := hy x H' hx
    refine ⟨H0, A0, gs ++ G, ρi, Bi, _, ρ1, Si.mono s2, rx, eρ1, fun σ2 _ S2 => ⟨H0, A0, gs ++ G, ρ1, _, o1, S2, eo1, ?_⟩⟩
    cases o1 with
    | nx ρ2 => exact fun σ3 H3 B3 S3 => ⟨by omega, ρ2, B3, S3, ei⟩
    | ct ρ2 => exact fun σ3 H3 B3 S3 => ⟨by omega, ρ2, B3, S3, ei⟩
    | bk ρ2 => cases ei; exact fun σ3 H3 B3 S3 => k σ3 H3 B3 S3.unghost
    | rt d => cases ei; exact k
  · have e' : i = ds.length := by omega
    subst e'
    rw [List.drop_length] at ei
    cases ei
    obtain ⟨B', S'⟩ := Si.unghost.weak (sub_of hsub)
    exact .inl ⟨yl.stop _ Hi Si.tr gw, k σi Hi B' S'⟩
def whileF (c : PEnv → Option Bool) (b : XS) : Nat → XS
  | 0, _ => none
  | n + 1, ρ => (c ρ).bind fun t => if t then (b ρ).bind fun o => match o with
      | .nx ρ2 => whileF c b n ρ2
      | .ct ρ2 => whileF c b n ρ2
      | .bk ρ2 => some (.nx ρ2)
      | .rt d => some (.rt d)
    else some (.nx ρ)
/-- at most so many turns -/
def fuelN : Nat := 2 ^ 2000
def sWhile (c : PEnv → Option Bool) (b : XS) : XS := whileF c b fuelN
theorem ss_while {c : Expr} {body : List Stmt} {tc : PEnv → Option Bool} (hc : ST X O c tc) (hb : SSs X O O' O O body g) (hsub : O'.all (fun i => O.contains i) = true := by rfl) (hp : PassesOwn (model X.prog X.w) X.A X.env X.xe := by exact PassesOwn.never) : SS X O Ob Oc O' (.While c body [] pos) (sWhile tc g) := by
  refine ⟨ps_imp (ps_while hp hc.pt hb.pss) fun D σ H q => ?_⟩
  obtain ⟨H0, A0, G, ρ, B, o, S, e, k⟩ := q
  refine ⟨fun n σi Hi => ∃ ρi Bi, Sim X.K H0 A0 G O σi Hi ρi Bi ∧ whileF tc g n ρi = some o, ⟨fuelN, ρ, B, S, e⟩, ?_⟩
  rintro n σi Hi ⟨ρi, Bi, Si, ei⟩
  cases n with
  | zero => cases ei
  | succ n =>
    simp only [whileF] at ei
    obtain ⟨t, et, ei⟩ := bind2 ei
    refine ⟨H0, A0, G, ρi, Bi, t, Si, et, fun H1 s1 => ?_⟩
    cases t with
    | true =>
      rw [if_pos rfl] at ei ⊢
      obtain ⟨o1, eo1, ei⟩ := bind2 ei
      refine ⟨fun σ' H' => ∃ ρ' B', Sim X.K H0 A0 G O σ' H' ρ' B' ∧ whileF tc g n ρ' = some o, fun σ' H' hN => ⟨n, Nat.lt_succ_self _, hN⟩, H0, A0, G, ρi, Bi, o1, Si.mono s1, eo1, ?_⟩
      cases o1 with
      | nx ρ2 => exact fun σ3 H3 B3 S3 => ⟨ρ2, B3, S3, ei⟩
      | ct ρ2 => exact fun σ3 H3 B3 S3 => ⟨ρ2, B3, S3, ei⟩
      | bk ρ2 => cases ei; exact k
      | rt d => cases ei; exact k
    | false =>
      rw [if_neg Bool.false_ne_true] at ei ⊢
      cases ei
      obtain ⟨B', S'⟩ := (Si.mono s1).weak (sub_of hsub)
      exact k σi H1 B' S'
end

/-! ### a def's body -/
def runD (n N : Nat) (g : XS) : List D → Option D := fun ds => (g (ds.map some ++ List.replicate (N - n) none)).bind fun o => match o with
  | .nx _ => some .none
  | .rt d => some d
  | _ => none
theorem sim_start {K : PySem.W.Frag} {A : Addr → Prop} {H : Hp} {vs : List V} {ds : List D} {N : List Str} {n : Nat} (t : Tr A H) (r : RpL K A H vs ds) (hn : vs.length = n) : Sim K H A [] [] (start N vs) H (ds.map some ++ List.replicate (N.length - n) none) (fun _ => none) := by
  refine ⟨Same.refl H, t, ?_, fun i a e => (nomatch e), fun i j a e => (nomatch e), fun i a e => (nomatch e), fun i d hi => (nomatch hi), fun i d e => ?_, fun p hp => (nomatch hp)⟩
  · unfold L2.start
    simp [r.length, hn.symm]
  · refine .inr ⟨rfl, ?_⟩
    by_cases hi : i < ds.length
    · rw [List.getElem?_append_left (by simpa using hi), List.getElem?_map] at e
      rw [List.getElem?_eq_getElem hi] at e
      cases e
      obtain ⟨v, ev, rv⟩ := r.get (List.getElem?_eq_getElem hi)
      refine ⟨v, ?_, rv.anti fun a z => ?_⟩
      · unfold L2.start
        rw [List.getElem?_append_left (by rw [List.length_map, r.length]; exact hi), List.getElem?_map, ev]
        rfl
      · rcases z with z | ⟨j, z⟩
        · exact z
        · cases z
    · rw [List.getElem?_append_right (by simpa using hi), List.getElem?_replicate] at e
      split at e <;> cases e
theorem fn_ok {P : Program} {w : World} {K : PySem.W.Frag} {mg : Str → Option Value} {base : Heap} {x qual : Str} {st : Stmt} {f : Addr} {fd : FuncData} {N ps : List Str} {k : Nat} {O' : List Nat} {g : XS} (F : Fun K x qual st f fd) (S : FnScope N ps (defScope st))
    (hb : ∀ (cdv : Value) (A : Around) (outer : List Env) (s : Shared) (H : Hp) (E : XK), Room k (A.deeper (envOfC qual (defScope st) s.heap.objs.size f cdv)) → SSs (cxOf CX0 P w K mg base N qual (defScope st) f cdv A outer s H E).nox [] [] [] O' (defBody st) g) :
    FnOk P w K mg base CX0 (k + 1) f fd ps (spD K ps.length (runD ps.length N.length g)) := by
  refine F.ok S (fun vs H Q E h => ?_) (fun cdv A outer s H vs Q E hr h => ?_)
  · obtain ⟨A, ds, d, t, hn, _⟩ := h
    exact hn
  · obtain ⟨A', ds, d, t, hn, r, e, q⟩ := h
    obtain ⟨o, eo, e⟩ := bind2 e
    refine ⟨_, (hb cdv A outer s H E hr).pss, H, A', [], _, fun _ => none, o, sim_start t r hn, eo, ?_⟩
    cases o with
    | nx ρ => cases e; exact fun σ' H' B' S' => q .non H' S'.same .non
    | rt d' => cases e; exact fun v H' s' r' => q v H' s' r'
    | bk ρ => cases e
    | ct ρ => cases e
theorem def_ok {P : Program} {w : World} {K : PySem.W.Frag} {mg : Str → Option Value} {base : Heap} {x : Str} {f : Addr} {fd : FuncData} {ps : List Str} {k : Nat} {F : List D → Option D} (h : FnOk P w K mg base CX0 k f fd ps (spD K ps.length F)) (hm : mg x = some (.ref f)) (kp : PySem.W.keepIn K (.ref f) = true) (hb : Binds K fd ps []) : Def P w K mg base k x ps F := ⟨⟨f, fd, h, hm, kp, hb⟩⟩
end Pm

namespace Pm
open PySem PySem.Spec PyProof.Rows L2

/-! ### several names at once -/
def oAdd' : D → D → Option D
  | .int a, .int b => some (.int (a + b))
  | _, _ => none
section
variable {K : PySem.W.Frag} {A0 A : Addr → Prop} {H0 H H' : Hp} {G : List (V × D)} {O : List Nat} {σ : L2.St} {ρ : PEnv} {B : Nat → Option Addr} {v : V} {d : D}
/-- a guarded cell becomes a slot's own -/
theorem Sim.adopt (S : Sim K H0 (Gd A0 a) G O σ H ρ B) {i : Nat} (na : ¬ A0 a) (h0 : H0 a = none) (r : Tp K (Av (Gd A0 a) B) H a d) (hi : i < ρ.length) :
    Sim K H0 A0 G (i :: O) (σ.set i (some (.ref a))) H (ρ.set i (some d)) (fun j => if j = i then some a else B j) := by
  have hiσ : i < σ.length := by rw [← S.len]; exact hi
  have nb : ∀ j, B j ≠ some a := fun j z => (S.fr j a z).2.1 (.inr rfl)
  have sub : ∀ j b, (if j = i then some a else B j) = some b → (j = i ∧ b = a) ∨ (j ≠ i ∧ B j = some b) := fun j b e => by
    by_cases hj : j = i
    · simp [hj] at e; exact .inl ⟨hj, e.symm⟩
    · exact .inr ⟨hj, by simpa [hj] using e⟩
  have an : ∀ b, Av A0 (fun j => if j = i then some a else B j) b → Av (Gd A0 a) B b := fun b z => by
    rcases z with z | ⟨j, z⟩
    · exact .inl (.inl z)
    · rcases sub j b z with ⟨_, q⟩ | ⟨_, q⟩
      · exact .inl (.inr q)
      · exact .inr ⟨j, q⟩
  have ans : ∀ b, Av A0 (fun j => if j = i then some a else B j) b → Av (Gd A0 a) B b ∨ H b = none := fun b z => .inl (an b z)
  refine ⟨S.same, fun b z => S.a0 b (.inl z), by simp [S.len], fun j b e => ?_, fun j k b e e' => ?_, fun j b e => ?_, fun j d' hj e m => ?_, fun j d' e => ?_, fun p hp => (S.gs p hp).anti an⟩
  · rcases sub j b e with ⟨q, _⟩ | ⟨_, q⟩
    · rw [q]; exact List.mem_cons_self
    · exact List.mem_cons_of_mem _ (S.bo j b q)
  · rcases sub j b e with ⟨q, q'⟩ | ⟨q, q'⟩
    · rcases sub k b e' with ⟨p, p'⟩ | ⟨p, p'⟩
      · rw [q, p]
      · rw [q'] at p'; exact absurd p' (nb k)
    · rcases sub k b e' with ⟨p, p'⟩ | ⟨p, p'⟩
      · rw [p'] at q'; exact absurd q' (nb j)
      · exact S.inj j k b q' p'
  · rcases sub j b e with ⟨q, q'⟩ | ⟨q, q'⟩
    · rw [q']
      exact ⟨h0, na, r.some⟩
    · obtain ⟨h1, h2, h3⟩ := S.fr j b q'
      exact ⟨h1, fun z => h2 (.inl z), h3⟩
  · by_cases hne : j = i
    · subst hne
      rw [List.getElem?_set_self hi] at e
      cases e
      exact ⟨a, by simp, by rw [List.getElem?_set_self hiσ], r.step (fun _ _ q _ => q) ans fun _ q => q⟩
    · rw [List.getElem?_set_ne (Ne.symm hne)] at e
      rw [List.getElem?_set_ne (Ne.symm hne)]
      rcases List.mem_cons.mp hj with hj | hj
      · exact absurd hj hne
      obtain ⟨b, h1, h2, h3⟩ := S.ob j d' hj e m
      exact ⟨b, by simp [hne, h1], h2, h3.step (fun _ _ q _ => q) ans fun _ q => q⟩
  · by_cases hne : j = i
    · subst hne
      rw [List.getElem?_set_self hi] at e
      cases e
      exact .inl ⟨a, by simp, by rw [List.getElem?_set_self hiσ], r.step (fun _ _ q _ => q) ans fun _ q => q⟩
    · rw [List.getElem?_set_ne (Ne.symm hne)] at e
      rw [List.getElem?_set_ne (Ne.symm hne)]
      rcases S.slot j d' e with ⟨b, h1, h2, h3⟩ | ⟨h1, v, h2, h3⟩
      · exact .inl ⟨b, by simp [hne, h1], h2, h3.step (fun _ _ q _ => q) ans fun _ q => q⟩
      · exact .inr ⟨by simp [hne, h1], v, h2, h3.anti an⟩
theorem Sim.unguard (S : Sim K H0 (Gd A0 a) G O σ H ρ B) : Sim K H0 A0 G O σ H ρ B := by
  have an : ∀ b, Av A0 B b → Av (Gd A0 a) B b := fun b z => by
    rcases z with z | z
    · exact .inl (.inl z)
    · exact .inr z
  have ans : ∀ b, Av A0 B b → Av (Gd A0 a) B b ∨ H b = none := fun b z => .inl (an b z)
  refine ⟨S.same, fun b z => S.a0 b (.inl z), S.len, S.bo, S.inj, fun j b e => let ⟨h1, h2, h3⟩ := S.fr j b e; ⟨h1, fun z => h2 (.inl z), h3⟩, fun j d' hj e m => ?_, fun j d' e => ?_, fun p hp => (S.gs p hp).anti an⟩
  · obtain ⟨b, h1, h2, h3⟩ := S.ob j d' hj e m
    exact ⟨b, h1, h2, h3.step (fun _ _ q _ => q) ans fun _ q => q⟩
  · rcases S.slot j d' e with ⟨b, h1, h2, h3⟩ | ⟨h1, v, h2, h3⟩
    · exact .inl ⟨b, h1, h2, h3.step (fun _ _ q _ => q) ans fun _ q => q⟩
    · exact .inr ⟨h1, v, h2, h3.anti an⟩
end
abbrev Gl (A0 : Addr → Prop) (L : List Addr) : Addr → Prop := fun b => A0 b ∨ b ∈ L
theorem gl_nil (A0 : Addr → Prop) : Gl A0 [] = A0 := by
  funext b
  simp [Gl]
theorem gl_cons (A0 : Addr → Prop) (a : Addr) (L : List Addr) : Gl (Gd A0 a) L = Gl A0 (a :: L) := by
  funext b
  simp [Gl, Gd, or_assoc]
theorem gl_swap (A0 : Addr → Prop) (a : Addr) (L : List Addr) : Gd (Gl A0 L) a = Gl A0 (a :: L) := by
  funext b
  simp only [Gl, Gd, List.mem_cons]
  exact propext ⟨fun h => h.elim (fun h => h.elim .inl fun h => .inr (.inr h)) fun h => .inr (.inl h), fun h => h.elim (fun h => .inl (.inl h)) fun h => h.elim .inr fun h => .inl (.inr h)⟩
/-- values in a row: the new ones stand at L -/
inductive Pn (K : PySem.W.Frag) (A : Addr → Prop) (H : Hp) : List Addr → List Md → List V → List D → Prop where
  | nil : Pn K A H [] [] [] []
  | own {a : Addr} {L : List Addr} {ms : List Md} {vs : List V} {d : D} {ds : List D} : Tp K A H a d → Pn K A H L ms vs ds → Pn K A H (a :: L) (.f :: ms) (.ref a :: vs) (d :: ds)
  | val {m : Md} {v : V} {L : List Addr} {ms : List Md} {vs : List V} {d : D} {ds : List D} : Rp K A H v d → (m = .f → isMut d = false) → Pn K A H L ms vs ds → Pn K A H L (m :: ms) (v :: vs) (d :: ds)
theorem Pn.anti {K : PySem.W.Frag} {A A' : Addr → Prop} {H : Hp} {L : List Addr} {ms : List Md} {vs : List V} {ds : List D} (h : Pn K A H L ms vs ds) (ha : ∀ a, A' a → A a) : Pn K A' H L ms vs ds := by
  induction h with
  | nil => exact .nil
  | own t _ ih => exact .own (t.step (fun _ _ q _ => q) (fun a z => .inl (ha a z)) fun _ q => q) ih
  | val r n _ ih => exact .val (r.anti ha) n ih
theorem Pn.mono {K : PySem.W.Frag} {A : Addr → Prop} {H H' : Hp} {L : List Addr} {ms : List Md} {vs : List V} {ds : List D} (h : Pn K A H L ms vs ds) (s : Same H H') : Pn K A H' L ms vs ds := by
  induction h with
  | nil => exact .nil
  | own t _ ih => exact .own (t.mono s) ih
  | val r n _ ih => exact .val (r.mono s) n ih
theorem Pn.len {K : PySem.W.Frag} {A : Addr → Prop} {H : Hp} {L : List Addr} {ms : List Md} {vs : List V} {ds : List D} (h : Pn K A H L ms vs ds) : vs.length = ms.length ∧ ds.length = ms.length := by
  induction h with
  | nil => exact ⟨rfl, rfl⟩
  | own _ _ ih => simp [ih.1, ih.2]
  | val _ _ _ ih => simp [ih.1, ih.2]
def simAM (K : PySem.W.Frag) (O : List Nat) (ms : List Md) (f : XL) : TA := fun σ H Q => ∃ H0 A0 G ρ B ds, Sim K H0 A0 G O σ H ρ B ∧ f ρ = some ds ∧
  ∀ vs H' L, Same H H' → Sim K H0 (Gl A0 L) G O σ H' ρ B → (∀ a ∈ L, H a = none ∧ ¬ A0 a) → L.Nodup → Pn K (Av (Gl A0 L) B) H' L ms vs ds → Q vs H'
structure SAM (X : Cx) (O : List Nat) (ms : List Md) (es : List Expr) (f : XL) : Prop where
  pa : PA X es (simAM X.K O ms f)
def ownL : List Nat → List Md → List Nat → List Nat
  | i :: is, m :: ms, O => ownL is ms (if m = .f then i :: O else O.filter (· != i))
  | _, _, O => O
def setAll {α : Type} : List Nat → List α → List (Option α) → List (Option α)
  | i :: is, v :: vs, σ => setAll is vs (σ.set i (some v))
  | _, _, σ => σ
theorem assign_all {K : PySem.W.Frag} {H0 H : Hp} {A0 : Addr → Prop} {G : List (V × D)} : ∀ (is : List Nat) {O : List Nat} {σ : L2.St} {ρ : PEnv} {B : Nat → Option Addr} {L : List Addr} {ms : List Md} {vs : List V} {ds : List D},
    Sim K H0 (Gl A0 L) G O σ H ρ B → Pn K (Av (Gl A0 L) B) H L ms vs ds → (∀ a ∈ L, H0 a = none ∧ ¬ A0 a) → L.Nodup → (∀ i ∈ is, i < ρ.length) → is.length = ms.length →
    ∃ B', Sim K H0 A0 G (ownL is ms O) (setAll is vs σ) H (setAll is ds ρ) B'
  | [], O, σ, ρ, B, L, ms, vs, ds, S, p, hL, nd, hi, hl => by
    cases p with
    | nil => rw [gl_nil] at S; exact ⟨B, S⟩
    | own _ _ => simp at hl
    | val _ _ _ => simp at hl
  | i :: is, O, σ, ρ, B, L, ms, vs, ds, S, p, hL, nd, hi, hl => by
    cases p with
    | nil => simp at hl
    | @own a L' ms' vs' d ds' t p' =>
      have hia := hi i List.mem_cons_self
      rw [← gl_swap] at S
      have hn := List.nodup_cons.mp nd
      obtain ⟨h0, n0⟩ := hL a List.mem_cons_self
      have t' : Tp K (Av (Gd (Gl A0 L') a) B) H a d := by rw [gl_swap]; exact t
      have S1 := S.adopt (i := i) (fun z => by
        rcases z with z | z
        · exact n0 z
        · exact hn.1 z) h0 t' hia
      have e : ownL (i :: is) (.f :: ms') O = ownL is ms' (i :: O) := by simp [ownL]
      rw [e]
      refine assign_all is S1 (p'.anti fun c z => ?_) (fun b hb => hL b (List.mem_cons_of_mem _ hb)) hn.2 (fun j hj => by rw [List.length_set]; exact hi j (List.mem_cons_of_mem _ hj)) (by simpa using hl)
      rcases z with (z | z) | ⟨l, z⟩
      · exact .inl (.inl z)
      · exact .inl (.inr (List.mem_cons_of_mem _ z))
      · by_cases hli : l = i
        · simp [hli] at z
          exact .inl (.inr (by rw [z]; exact List.mem_cons_self))
        · simp [hli] at z
          exact .inr ⟨l, z⟩
    | @val m v L' ms' vs' d ds' r n p' =>
      have hia := hi i List.mem_cons_self
      have S1 := S.setS r hia
      have p2 := p'.anti (A' := Av (Gl A0 L) (restr [i] B)) fun c z => restr_av z
      have hi' : ∀ j ∈ is, j < (ρ.set i (some d)).length := fun j hj => by rw [List.length_set]; exact hi j (List.mem_cons_of_mem _ hj)
      by_cases hm : m = .f
      · have S2 := S1.grow fun d' e' => by
          rw [List.getElem?_set_self hia] at e'
          cases e'
          exact n hm
        have e : ownL (i :: is) (m :: ms') O = ownL is ms' (i :: O) := by simp [ownL, hm]
        rw [e]
        exact assign_all is S2 p2 hL nd hi' (by simpa using hl)
      · have e : ownL (i :: is) (m :: ms') O = ownL is ms' (O.filter (· != i)) := by simp [ownL, hm]
        rw [e]
        exact assign_all is S1 p2 hL nd hi' (by simpa using hl)
def sPar (is : List Nat) (fs : XL) : XS := fun ρ => (fs ρ).bind fun ds => if is.all (fun i => decide (i < ρ.length)) && decide (ds.length = is.length) then some (.nx (setAll is ds ρ)) else none
section
variable {X : Cx} {O O1 O2 Ob Oc O' : List Nat} {m ma mb : Md} {ms : List Md} {st : Stmt} {sts : List Stmt} {g h : XS} {e a b c : Expr} {es : List Expr} {f fa fb : Xp} {fs : XL} {pos pos' : Pos}
theorem sam_nil : SAM X O [] [] xNil := by
  refine ⟨pa_imp pa_nil fun σ H Q h => ?_⟩
  obtain ⟨H0, A0, G, ρ, B, ds, S, e, k⟩ := h
  cases e
  exact k [] H [] (Same.refl H) (by rw [gl_nil]; exact S) (fun a h => (nomatch h)) .nil .nil
theorem sam_cons (ha : SE X O m e f) (hr : SAM X O ms es fs) (hm : m ≠ .w := by decide) (hs : starEach (e :: es) X.env = (false, eval e X.env) :: starEach es X.env := by rfl) : SAM X O (m :: ms) (e :: es) (xCons f fs) := by
  refine ⟨pa_imp (pa_cons ha.pe hr.pa hs) fun σ H Q h => ?_⟩
  obtain ⟨H0, A0, G, ρ, B, ds, S, e, k⟩ := h
  obtain ⟨x, ex, e⟩ := bind2 e
  obtain ⟨xs, exs, e⟩ := bind2 e
  cases e
  refine ⟨H0, A0, G, ρ, B, x, S, ex, fun v H1 s1 r1 => ?_⟩
  by_cases hfa : m = .f ∧ ∃ a, v = V.ref a ∧ H a = none ∧ Tp X.K (fun b => Av A0 B b ∨ b = a) H1 a x
  · obtain ⟨rfl, a, rfl, hn, ra⟩ := hfa
    have naA : ¬ Av A0 B a := S.new hn
    have Sg := S.guard hn s1 ra.some
    refine ⟨H0, Gd A0 a, G, ρ, B, xs, Sg, exs, fun vs H2 L s2 S2 hL nd p => k _ H2 (a :: L) (s1.trans s2) (by rw [← gl_cons]; exact S2) (fun b hb => ?_) (List.nodup_cons.mpr ⟨fun z => ?_, nd⟩) (.own ?_ (by rw [← gl_cons]; exact p))⟩
    · rcases List.mem_cons.mp hb with rfl | hb
      · exact ⟨hn, fun z => naA (.inl z)⟩
      · obtain ⟨h1, h2⟩ := hL b hb
        exact ⟨s1.free h1, fun z => h2 (.inl z)⟩
    · exact (hL a z).2 (.inr rfl)
    · refine ra.step (fun c o e _ => s2 c o e) (fun c z => ?_) fun o e => s2 _ o e
      rcases z with (z | z) | z
      · exact .inl (.inl (.inl z))
      · rcases List.mem_cons.mp z with z | z
        · exact .inl (.inr z)
        · exact .inr (hL c z).1
      · exact .inl (.inl (.inr z))
  · have rb : Rp X.K (Av A0 B) H1 v x ∧ (m = .f → isMut x = false) := by
      cases m with
      | w => exact absurd rfl hm
      | s => exact ⟨r1, fun z => nomatch z⟩
      | f =>
        rcases r1 with ⟨b, e1, e2, e3⟩ | ⟨e1, e2⟩
        · exact absurd ⟨rfl, b, e1, e2, e3⟩ hfa
        · exact ⟨e1, fun _ => e2⟩
    refine ⟨H0, A0, G, ρ, B, xs, S.mono s1, exs, fun vs H2 L s2 S2 hL nd p => k _ H2 L (s1.trans s2) S2 (fun b hb => ⟨s1.free (hL b hb).1, (hL b hb).2⟩) nd (.val (rb.1.step (fun c o e _ => s2 c o e) fun c z => ?_) rb.2 p)⟩
    rcases z with (z | z) | z
    · exact .inl (.inl z)
    · exact .inr (hL c z).1
    · exact .inl (.inr z)
/-- behind the values: the names are set -/
theorem par_end {is : List Nat} {o : Out} {D : Ends} {K : PySem.W.Frag} {H0 H H1 : Hp} {A0 : Addr → Prop} {G : List (V × Pm.D)} {σ : L2.St} {ρ : PEnv} {B : Nat → Option Addr} {ds : List Pm.D} {vs : List V} {L : List Addr} (S0 : Same H0 H) (hO : ownL is ms O = O') (hl : is.length = ms.length)
    (e : (if is.all (fun i => decide (i < ρ.length)) && decide (ds.length = is.length) then some (Out.nx (setAll is ds ρ)) else none) = some o) (k : PostS K H0 A0 G Ob Oc O' D o)
    (S : Sim K H0 (Gl A0 L) G O σ H1 ρ B) (hL : ∀ a ∈ L, H a = none ∧ ¬ A0 a) (nd : L.Nodup) (p : Pn K (Av (Gl A0 L) B) H1 L ms vs ds) : D.nx (setAll is vs σ) H1 := by
  split at e
  · rename_i hz
    cases e
    simp only [Bool.and_eq_true, decide_eq_true_eq, List.all_eq_true] at hz
    obtain ⟨B', S'⟩ := assign_all is S p (fun a ha => ⟨S0.free (hL a ha).1, (hL a ha).2⟩) nd (fun i hi => hz.1 i hi) hl
    rw [hO] at S'
    exact k _ H1 B' S'
  · cases e
theorem ss_par (i j : Nat) {x y : Str} {px py pt : Pos} {kt k2 : Nat} {pt2 : Pos} (hN : X.N.Nodup) (ha : SAM X O [ma, mb] [a, b] fs) (hij : i ≠ j := by decide) (hi : X.N[i]? = some x := by rfl) (hj : X.N[j]? = some y := by rfl) (hx : X.env.scope.names.lookup x = some .local := by rfl) (hy : X.env.scope.names.lookup y = some .local := by rfl)
    (hw : swappedStores [.Tuple [.Name x px, .Name y py] kt pt] (.Tuple [a, b] k2 pt2) X.env = pure (some [x, y]) := by rfl) (hs : swapsWithSole [.Tuple [.Name x px, .Name y py] kt pt] (.Tuple [a, b] k2 pt2) pos.line X.env = pure false := by rfl) (hc : X.calm = true := by rfl) (hO : ownL [i, j] [ma, mb] O = O' := by rfl) :
    SS X O Ob Oc O' (.Assign [.Tuple [.Name x px, .Name y py] kt pt] (.Tuple [a, b] k2 pt2) pos) (sPar [i, j] fs) := by
  refine ⟨ps_imp (L2.ps_par hc hN hi hj hij hx hy ha.pa hw hs) fun D σ H q => ?_⟩
  obtain ⟨H0, A0, G, ρ, B, o, S, e, k⟩ := q
  obtain ⟨ds, eds, e⟩ := bind2 e
  refine ⟨H0, A0, G, ρ, B, ds, S, eds, fun vs H1 L s1 S1 hL nd p => ?_⟩
  have hl := p.len.1
  match vs, hl with
  | [v, w], _ => exact ⟨v, w, rfl, par_end (is := [i, j]) S.same hO rfl e k S1 hL nd p⟩
theorem ss_par3 (i j l : Nat) {mc : Md} {x y z : Str} {px py pz pt : Pos} {kt k2 : Nat} {pt2 : Pos} (hN : X.N.Nodup) (ha : SAM X O [ma, mb, mc] [a, b, c] fs) (hij : i ≠ j := by decide) (hil : i ≠ l := by decide) (hjl : j ≠ l := by decide) (hi : X.N[i]? = some x := by rfl) (hj : X.N[j]? = some y := by rfl) (hlz : X.N[l]? = some z := by rfl)
    (hx : X.env.scope.names.lookup x = some .local := by rfl) (hy : X.env.scope.names.lookup y = some .local := by rfl) (hz : X.env.scope.names.lookup z = some .local := by rfl)
    (hw : swappedStores [.Tuple [.Name x px, .Name y py, .Name z pz] kt pt] (.Tuple [a, b, c] k2 pt2) X.env = pure (some [x, y, z]) := by rfl) (hs : swapsWithSole [.Tuple [.Name x px, .Name y py, .Name z pz] kt pt] (.Tuple [a, b, c] k2 pt2) pos.line X.env = pure false := by rfl) (hc : X.calm = true := by rfl) (hO : ownL [i, j, l] [ma, mb, mc] O = O' := by rfl) :
    SS X O Ob Oc O' (.Assign [.Tuple [.Name x px, .Name y py, .Name z pz] kt pt] (.Tuple [a, b, c] k2 pt2) pos) (sPar [i, j, l] fs) := by
  refine ⟨ps_imp (ps_par3 hc hN hi hj hlz hij hil hjl hx hy hz ha.pa hw hs) fun D σ H q => ?_⟩
  obtain ⟨H0, A0, G, ρ, B, o, S, e, k⟩ := q
  obtain ⟨ds, eds, e⟩ := bind2 e
  refine ⟨H0, A0, G, ρ, B, ds, S, eds, fun vs H1 L s1 S1 hL nd p => ?_⟩
  have hl := p.len.1
  match vs, hl with
  | [u, v, w], _ => exact ⟨u, v, w, rfl, par_end (is := [i, j, l]) S.same hO rfl e k S1 hL nd p⟩
/-- any number of names, by a tuple that is taken apart -/
def gNames : List Nat → TGs
  | [] => gNil
  | i :: is => gCons (gName i) (gNames is)
theorem gNames_of {is : List Nat} {vs : List V} {σ : L2.St} {H : Hp} {Q : L2.St → Hp → Prop} (hl : vs.length = is.length) (h : Q (setAll is vs σ) H) : gNames is vs σ H Q := by
  induction is generalizing vs σ with
  | nil =>
    cases vs with
    | nil => exact ⟨rfl, h⟩
    | cons v vs => simp at hl
  | cons i is ih =>
    cases vs with
    | nil => simp at hl
    | cons v vs => exact ⟨v, vs, rfl, ih (by simpa using hl) h⟩
theorem ss_parT (is : List Nat) {tgs : List Expr} {kt k2 : Nat} {pt pt2 : Pos} (ha : SAM X O ms es fs) (hg : PGs X tgs (gNames is)) (hl : is.length = ms.length := by rfl) (hn : (assignEach tgs X.env).length = is.length := by rfl) (hst : (assignEach tgs X.env).findIdx? (·.1) = none := by rfl) (hsz : ms.length ≤ 1000 := by decide)
    (hw : swappedStores [.Tuple tgs kt pt] (.Tuple es k2 pt2) X.env = pure none := by rfl) (hs : swapsWithSole [.Tuple tgs kt pt] (.Tuple es k2 pt2) pos.line X.env = pure false := by rfl) (hc : X.calm = true := by rfl) (hO : ownL is ms O = O' := by rfl)
    (h1 : (assignEach [.Tuple tgs kt pt] X.env).map (·.2) = [assign (.Tuple tgs kt pt) X.env] := by rfl) : SS X O Ob Oc O' (.Assign [.Tuple tgs kt pt] (.Tuple es k2 pt2) pos) (sPar is fs) := by
  refine ⟨ps_imp (ps_asg (pe_tup ha.pa) (pg_tup hc hg hn hst) hs hw h1) fun D σ H q => ?_⟩
  obtain ⟨H0, A0, G, ρ, B, o, S, e, k⟩ := q
  obtain ⟨ds, eds, e⟩ := bind2 e
  refine ⟨H0, A0, G, ρ, B, ds, S, eds, fun vs H1 L s1 S1 hL nd p => ⟨by rw [p.len.1]; exact line1000 hsz, fun t ht => ?_⟩⟩
  have st := same_upd (o := .tup vs) ht
  refine ⟨t, vs, rfl, .of upd_same, by rw [p.len.1, hl], gNames_of (by rw [p.len.1, hl]) (par_end (is := is) S.same hO hl e k (S1.mono st) hL nd (p.mono st))⟩

/-! ### more operators in place -/
theorem iop_addD : OpR X (inplaceOp .Add) (rD X.K .f oAdd') := by
  intro pins s σ H x y v u Q I rx ry ⟨A, dx, dy, d, tr, wx, wy, e, q⟩
  unfold oAdd' at e
  split at e
  · cases e
    exact iop_add pins s σ H x y v u Q I rx ry ⟨_, _, wx.int, wy.int, q _ H (Same.refl H) Res.int⟩
  · cases e
theorem iop_subD : OpR X (inplaceOp .Sub) (rD X.K .f oSub) := by
  intro pins s σ H x y v u Q I rx ry ⟨A, dx, dy, d, tr, wx, wy, e, q⟩
  unfold oSub at e
  split at e
  · cases e
    exact iop_sub pins s σ H x y v u Q I rx ry ⟨_, _, wx.int, wy.int, q _ H (Same.refl H) Res.int⟩
  · cases e
end
end Pm

namespace Pm
open PySem PySem.Spec PyProof.Rows L2

/-! ### a comprehension over two sources -/
def lc2L (g : D → PEnv → Option PEnv) (t : PEnv → Option Bool) (it1 : XL) (g1 : D → PEnv → Option PEnv) (t1 : PEnv → Option Bool) (f : Xp) (vs1 : List Nat) (ρ : PEnv) : List D → Option (List D)
  | [] => some []
  | d :: ds => (g d ρ).bind fun ρ1 => (t ρ1).bind fun b => if b then (it1 ρ1).bind fun es => (lcL g1 t1 f (wipeP ρ1 vs1) es).bind fun ys => (lc2L g t it1 g1 t1 f vs1 ρ ds).bind fun zs => some (ys ++ zs) else lc2L g t it1 g1 t1 f vs1 ρ ds
def xLc2 (it : XL) (g : D → PEnv → Option PEnv) (t : PEnv → Option Bool) (it1 : XL) (g1 : D → PEnv → Option PEnv) (t1 : PEnv → Option Bool) (f : Xp) (own vs1 : List Nat) : Xp := fun ρ => (it ρ).bind fun ds => (lc2L g t it1 g1 t1 f vs1 (wipeP ρ own) ds).bind fun ys => if ys.length ≤ 16777216 then some (.list ys) else none
/-- the guarded cells alone may change -/
theorem Sim.monoG {K : PySem.W.Frag} {H0 H H' : Hp} {A0 : Addr → Prop} {G : List (V × D)} {O : List Nat} {σ : L2.St} {ρ : PEnv} {B : Nat → Option Addr} (S : Sim K H0 A0 G O σ H ρ B) (hk : ∀ a o, H a = some o → ¬ A0 a → H' a = some o) (ht : ∀ a, A0 a → ∃ o, H' a = some o ∧ NT o) (h0 : Same H0 H') : Sim K H0 A0 G O σ H' ρ B := by
  have st : ∀ a o, H a = some o → ¬ Av A0 B a → H' a = some o := fun a o e n => hk a o e fun z => n (.inl z)
  have bA : ∀ i a, B i = some a → ¬ A0 a := fun i a e => (S.fr i a e).2.1
  have kp : ∀ {a : Addr} {d : D} {i : Nat}, B i = some a → Tp K (Av A0 B) H a d → Tp K (Av A0 B) H' a d := fun {a d i} hb h => h.step st (fun _ z => .inl z) fun o e => hk a o e (bA i a hb)
  refine ⟨h0, ht, S.len, S.bo, S.inj, fun i a e => ?_, fun i d hi e mm => ?_, fun i d e => ?_, fun p hp => (S.gs p hp).step st fun _ z => .inl z⟩
  · obtain ⟨h1, h2, o, h3, h4⟩ := S.fr i a e
    exact ⟨h1, h2, o, hk a o h3 h2, h4⟩
  · obtain ⟨a, h1, h2, h3⟩ := S.ob i d hi e mm
    exact ⟨a, h1, h2, kp h1 h3⟩
  · rcases S.slot i d e with ⟨a, h1, h2, h3⟩ | ⟨h1, v, h2, h3⟩
    · exact .inl ⟨a, h1, h2, kp h1 h3⟩
    · exact .inr ⟨h1, v, h2, h3.step st fun _ z => .inl z⟩
section
variable {X : Cx} {O ts us : List Nat} {st : Bool} {m : Md} {tg iter elt tg1 iter1 : Expr} {ifs ifs1 : List Expr} {scope : Scope} {own : List (Str × Nat)} {vs1 : List Nat} {it it1 : XL} {g g1 : D → PEnv → Option PEnv} {t t1 : PEnv → Option Bool} {f : Xp} {pos : Pos}
theorem lc2_of (hm : m ≠ .w) (hts : ∀ i, ts.contains i = true → (own.map (·.2)).contains i = true) (hus : ∀ i, us.contains i = true → vs1.contains i = true) (hO : ∀ i ∈ own.map (·.2), i ∉ O) (hO1 : ∀ i ∈ vs1, i ∉ O) (σ : L2.St) (H : Hp) (Q : VK)
    (q : simT X.K O .f (xLc2 it g t it1 g1 t1 f (own.map (·.2)) vs1) σ H Q) :
    tLc2 (simI X.K O st it) (simG X.K O O ts g) (simTT X.K O t) (simI X.K O true it1) (simG X.K O O us g1) (simTT X.K O t1) (simT X.K O m f) (own.map (·.2)) vs1 σ H Q := by
  obtain ⟨H0, A0, G, ρ, B, d, S, e, k⟩ := q
  obtain ⟨ds, eds, e⟩ := bind2 e
  obtain ⟨ys, eys, e⟩ := bind2 e
  split at e
  rotate_left
  · cases e
  rename_i hys
  cases e
  refine ⟨H0, A0, G, ρ, B, ds, S, eds, fun J H1 gs s1 yl gr hz Dn hD => ?_⟩
  have hts' : ∀ i, ts.contains i = true → i ∉ O := fun i hi => hO i (by simpa using hts i hi)
  have hus' : ∀ i, us.contains i = true → i ∉ O := fun i hi => hO1 i (by simpa using hus i hi)
  have avD : Av (Gd A0 Dn) B Dn := .inl (.inr rfl)
  refine ⟨fun i n Hc => n = ds.length - i ∧ i ≤ ds.length ∧ Same H1 Hc ∧ ∃ vs pre post, Hc Dn = some (.lst vs) ∧ RpL X.K (Av (Gd A0 Dn) B) Hc vs pre ∧ lc2L g t it1 g1 t1 f vs1 (wipeP ρ (own.map (·.2))) (ds.drop i) = some post ∧ ys = pre ++ post,
    ⟨ds.length, rfl, Nat.zero_le _, same_upd hD, [], [], ys, upd_same, .nil, eys, rfl⟩, ?_⟩
  rintro i n Hc ⟨rfl, hi, sc, vs, pre, post, hDc, rpre, epost, eyp⟩
  have Sg : Sim X.K H0 (Gd A0 Dn) G O σ Hc ρ B := (S.mono s1).guard hD sc ⟨_, hDc, NT.lst⟩
  have gw : ∀ p ∈ gs, WRp X.K (Av (Gd A0 Dn) B) Hc p.1 p.2 := fun p hp => (gr p hp).w.step sc fun a z => by
    rcases gd_av z with z | z
    · exact .inl z
    · exact .inr (by rw [z]; exact hD)
  by_cases hlt : i < ds.length
  · have ed : ds[i]? = some ds[i] := List.getElem?_eq_getElem hlt
    rw [List.drop_eq_getElem_cons hlt] at epost
    obtain ⟨hgo, hy⟩ := yl.go _ Hc i _ Sg.tr gw ed
    simp only [lc2L] at epost
    obtain ⟨ρ1, eρ1, epost⟩ := bind2 epost
    obtain ⟨b, eb, epost⟩ := bind2 epost
    refine .inr ⟨hgo, fun H' => i + 1 ≤ ds.length ∧ Same H1 H' ∧ ∃ vs pre' post', H' Dn = some (.lst vs) ∧ RpL X.K (Av (Gd A0 Dn) B) H' vs pre' ∧ lc2L g t it1 g1 t1 f vs1 (wipeP ρ (own.map (·.2))) (ds.drop (i + 1)) = some post' ∧ ys = pre' ++ post', fun H' hN => ?_, fun x H' hx => ?_⟩
    · obtain ⟨h1, h2, h3⟩ := hN
      exact ⟨ds.length - (i + 1), by omega, rfl, h1, h2, h3⟩
    · obtain ⟨s2, rx⟩ := hy x H' hx
      refine ⟨H0, Gd A0 Dn, G, wipeP ρ (own.map (·.2)), B, _, ρ1, (Sg.mono s2).wipe _ hO, rx, eρ1, fun σ2 c2 S2 => ?_⟩
      rw [restr_same Sg hts'] at S2
      refine ⟨wipe_eq c2 hts, H0, Gd A0 Dn, G, ρ1, B, b, S2, eb, fun H3 s3 => ?_⟩
      cases b with
      | true =>
        rw [if_pos rfl]
        rw [if_pos rfl] at epost
        obtain ⟨es, ees, epost⟩ := bind2 epost
        obtain ⟨zs, ezs, epost⟩ := bind2 epost
        obtain ⟨ws, ews, epost⟩ := bind2 epost
        cases epost
        refine ⟨H0, Gd A0 Dn, G, ρ1, B, es, S2.mono s3, ees, fun J1 H4 gs1 s4 yl1 gr1 hz1 => ?_⟩
        have s24 := (s2.trans s3).trans s4
        have hD4 : H4 Dn = some (.lst vs) := s24 _ _ hDc
        have S4 := (S2.mono s3).mono s4
        have hdn : H Dn = none := s1.free hD
        -- the inner loop: the new list is written between its turns
        refine ⟨fun j n Hj => n = es.length - j ∧ j ≤ es.length ∧ (∀ a o, H4 a = some o → ¬ Gd A0 Dn a → Hj a = some o) ∧ Same H1 Hj ∧ ∃ us pre1 post1, Hj Dn = some (.lst us) ∧ RpL X.K (Av (Gd A0 Dn) B) Hj us pre1 ∧ lcL g1 t1 f (wipeP ρ1 vs1) (es.drop j) = some post1 ∧ ys = pre1 ++ (post1 ++ ws) ∧ (∀ a, A0 a → ∃ o, Hj a = some o ∧ NT o),
          ⟨es.length, rfl, Nat.zero_le _, fun a o e _ => e, sc.trans s24, vs, pre, zs, hD4, rpre.mono s24, ezs, eyp, fun a z => S4.a0 a (.inl z)⟩, ?_⟩
        rintro j n Hj ⟨rfl, hj, sj, s1j, us', pre1, post1, hDj, rp1, ep1, ey1, a0j⟩
        have stepj : ∀ a o, H4 a = some o → ¬ Av (Gd A0 Dn) B a → Hj a = some o := fun a o e n => sj a o e fun z => n (.inl z)
        have thr : ∀ a, Gd A0 Dn a → ∃ o, Hj a = some o ∧ NT o := fun a z => by
          rcases z with z | z
          · exact a0j a z
          · rw [z]; exact ⟨_, hDj, NT.lst⟩
        have Sj : Sim X.K H0 (Gd A0 Dn) G O σ2 Hj ρ1 B := S4.monoG sj thr fun a o e => s1j a o (s1 a o (S.same a o e))
        have gw1 : ∀ p ∈ gs1, WRp X.K (Av (Gd A0 Dn) B) Hj p.1 p.2 := fun p hp => .inl ((gr1 p hp : Rp _ _ _ _ _).step stepj fun _ z => .inl z)
        have hysl : ys.length ≤ 16777216 := hys
        by_cases hltj : j < es.length
        · have edj : es[j]? = some es[j] := List.getElem?_eq_getElem hltj
          rw [List.drop_eq_getElem_cons hltj] at ep1
          obtain ⟨hgo1, hy1⟩ := yl1.go _ Hj j _ Sj.tr gw1 edj
          simp only [lcL] at ep1
          obtain ⟨ρ2, eρ2, ep1⟩ := bind2 ep1
          obtain ⟨b1, eb1, ep1⟩ := bind2 ep1
          refine .inr ⟨hgo1, fun H' => j + 1 ≤ es.length ∧ (∀ a o, H4 a = some o → ¬ Gd A0 Dn a → H' a = some o) ∧ Same H1 H' ∧ ∃ us pre1 post1, H' Dn = some (.lst us) ∧ RpL X.K (Av (Gd A0 Dn) B) H' us pre1 ∧ lcL g1 t1 f (wipeP ρ1 vs1) (es.drop (j + 1)) = some post1 ∧ ys = pre1 ++ (post1 ++ ws) ∧ (∀ a, A0 a → ∃ o, H' a = some o ∧ NT o), fun H' hN => ?_, fun x1 H5 hx1 => ?_⟩
          · obtain ⟨h1, h2⟩ := hN
            exact ⟨es.length - (j + 1), by omega, rfl, h1, h2⟩
          · obtain ⟨s5, rx1⟩ := hy1 x1 H5 hx1
            refine ⟨H0, Gd A0 Dn, G, wipeP ρ1 vs1, B, _, ρ2, (Sj.mono s5).wipe _ hO1, rx1, eρ2, fun σ3 c3 S5 => ?_⟩
            rw [restr_same Sj hus'] at S5
            refine ⟨wipe_eq c3 hus, H0, Gd A0 Dn, G, ρ2, B, b1, S5, eb1, fun H6 s6 => ?_⟩
            cases b1 with
            | true =>
              rw [if_pos rfl]
              rw [if_pos rfl] at ep1
              obtain ⟨y, ey, ep1⟩ := bind2 ep1
              obtain ⟨p2, ep2, ep1⟩ := bind2 ep1
              cases ep1
              refine ⟨H0, Gd A0 Dn, G, ρ2, B, y, S5.mono s6, ey, fun v H7 s7 r7 => ?_⟩
              have r7' := r7.toS (S5.mono s6).tr hm
              have s57 := (s5.trans s6).trans s7
              have kp : ∀ a o, H7 a = some o → ¬ Av (Gd A0 Dn) B a → upd H7 Dn (.lst (us' ++ [v])) a = some o := fun a o e n => by
                rw [upd_ne (fun z => n (by rw [z]; exact avD))]
                exact e
              have hne : ∀ a, ¬ Gd A0 Dn a → a ≠ Dn := fun a n z => n (.inr z)
              have hpl : pre1.length < ys.length := by
                rw [ey1]
                simp only [List.length_append, List.length_cons]
                omega
              refine ⟨us', s57 _ _ hDj, ?_, by omega, fun a o e n => ?_, fun a o e => ?_, us' ++ [v], pre1 ++ [y], p2, upd_same, ?_, ep2, by simp [ey1], fun a z => ?_⟩
              · rw [rp1.length]
                have : (16777216 : Nat) = sizeLine := rfl
                omega
              · rw [upd_ne (hne a n)]
                exact s57 _ _ (sj a o e n)
              · have hne : a ≠ Dn := fun z => by rw [z, hD] at e; cases e
                rw [upd_ne hne]
                exact s57 _ _ (s1j _ _ e)
              · exact RpL.app (.one (r7'.step kp fun _ z => .inl z)) ((rp1.mono s57).step kp fun _ z => .inl z)
              · obtain ⟨o, e, nt⟩ := a0j a z
                by_cases ha : a = Dn
                · rw [ha]; exact ⟨_, upd_same, NT.lst⟩
                · exact ⟨o, by rw [upd_ne ha]; exact s57 _ _ e, nt⟩
            | false =>
              rw [if_neg Bool.false_ne_true]
              rw [if_neg Bool.false_ne_true] at ep1
              have s56 := s5.trans s6
              exact ⟨by omega, fun a o e n => s56 _ _ (sj a o e n), s1j.trans s56, us', pre1, post1, s56 _ _ hDj, rp1.mono s56, ep1, ey1, fun a z => let ⟨o, e, nt⟩ := a0j a z; ⟨o, s56 _ _ e, nt⟩⟩
        · have e : j = es.length := by omega
          subst e
          rw [List.drop_length] at ep1
          cases ep1
          exact .inl ⟨yl1.stop _ Hj Sj.tr gw1, by omega, s1j, us', pre1, ws, hDj, rp1, ews, by simpa using ey1⟩
      | false =>
        rw [if_neg Bool.false_ne_true]
        rw [if_neg Bool.false_ne_true] at epost
        have s23 := s2.trans s3
        exact ⟨by omega, sc.trans s23, vs, pre, post, s23 _ _ hDc, rpre.mono s23, epost, eyp⟩
  · have e : i = ds.length := by omega
    subst e
    refine .inl ⟨yl.stop _ Hc Sg.tr gw, ?_⟩
    rw [List.drop_length] at epost
    cases epost
    rw [List.append_nil] at eyp
    subst eyp
    have hHD : H Dn = none := s1.free hD
    refine k _ Hc (s1.trans sc) (.inl ⟨Dn, rfl, hHD, .lst hDc (rpre.anti fun a z => ?_)⟩)
    rcases z with z | z
    · rcases z with z | z
      · exact .inl (.inl z)
      · exact .inr z
    · exact .inl (.inr z)
theorem se_lc2 (hN : X.N.Nodup) (hi : SI X O st tg iter it) (ok : BlkOk X.N X.env.scope scope own) (hg : InBlk X scope fun Y => SG Y O O ts tg g) (ht : InBlk X scope fun Y => STs Y O ifs t) (hi1 : InBlk X scope fun Y => SI Y O true tg1 iter1 it1) (hg1 : InBlk X scope fun Y => SG Y O O us tg1 g1) (ht1 : InBlk X scope fun Y => STs Y O ifs1 t1) (he : InBlk X scope fun Y => SE Y O m elt f)
    (hm : m ≠ .w := by decide) (hv : vs1.all (fun i => (own.map (·.2)).contains i) = true := by rfl) (hts : ts.all (fun i => (own.map (·.2)).contains i) = true := by rfl) (hus : us.all (fun i => vs1.contains i) = true := by rfl) (hO : (own.map (·.2)).all (fun i => !O.contains i) = true := by rfl) (hc : X.calm = true := by rfl) (hs : ∀ x, foldedSetIterable iter X.env x = pure x := by intro _; rfl) (hs1 : ∀ env x, foldedSetIterable iter1 env x = pure x := by intro _ _; rfl) :
    SE X O .f (.ListComp elt [⟨tg, iter, ifs, 0⟩, ⟨tg1, iter1, ifs1, 0⟩] scope pos) (xLc2 it g t it1 g1 t1 f (own.map (·.2)) vs1) := by
  have hv' : ∀ i ∈ vs1, i ∈ own.map (·.2) := fun i hi => by simpa using List.all_eq_true.mp hv i hi
  have hO' : ∀ i ∈ own.map (·.2), i ∉ O := fun i hi => by simpa using List.all_eq_true.mp hO i hi
  exact ⟨pe_imp (pe_lc2 (wi := simI X.K O st it) (g := simG X.K O O ts g) (tt := simTT X.K O t) (wi1 := simI X.K O true it1) (g1 := simG X.K O O us g1) (tt1 := simTT X.K O t1) (te := simT X.K O m f) hc hN hi.pi ok hv' (fun s H C cl fp => (hg s H C cl fp).pg) (fun s H C cl fp => (ht s H C cl fp).pts) (fun s H C cl fp => (hi1 s H C cl fp).pi) (fun s H C cl fp => (hg1 s H C cl fp).pg) (fun s H C cl fp => (ht1 s H C cl fp).pts) (fun s H C cl fp => (he s H C cl fp).pe) hs hs1)
    (lc2_of hm (fun i hi => by simpa using List.all_eq_true.mp hts i (by simpa using hi)) (fun i hi => by simpa using List.all_eq_true.mp hus i (by simpa using hi)) hO' fun i hi => hO' i (hv' i hi))⟩
theorem ss_setLc2 (i : Nat) {y : Str} {py : Pos} {Ob Oc O' : List Nat} {spos : Pos} (hN : X.N.Nodup) (hi : SI X O st tg iter it) (ok : BlkOk X.N X.env.scope scope own) (hg : InBlk X scope fun Y => SG Y O O ts tg g) (ht : InBlk X scope fun Y => STs Y O ifs t) (hi1 : InBlk X scope fun Y => SI Y O true tg1 iter1 it1) (hg1 : InBlk X scope fun Y => SG Y O O us tg1 g1) (ht1 : InBlk X scope fun Y => STs Y O ifs1 t1) (he : InBlk X scope fun Y => SE Y O m elt f)
    (hm : m ≠ .w := by decide) (hy : X.N[i]? = some y := by rfl) (hyl : X.env.scope.names.lookup y = some .local := by rfl) (hsw : swapsWith (.ListComp elt [⟨tg, iter, ifs, 0⟩, ⟨tg1, iter1, ifs1, 0⟩] scope pos) (some (.Name y py)) spos.line X.env = pure true := by exact sw_true rfl rfl rfl (by decide +kernel))
    (hv : vs1.all (fun i => (own.map (·.2)).contains i) = true := by rfl) (hts : ts.all (fun i => (own.map (·.2)).contains i) = true := by rfl) (hus : us.all (fun i => vs1.contains i) = true := by rfl) (hO : (own.map (·.2)).all (fun i => !O.contains i) = true := by rfl) (hc : X.calm = true := by rfl) (hs : ∀ x, foldedSetIterable iter X.env x = pure x := by intro _; rfl) (hs1 : ∀ env x, foldedSetIterable iter1 env x = pure x := by intro _ _; rfl) (hO2 : i :: O = O' := by rfl) :
    SS X O Ob Oc O' (.Assign [.Name y py] (.ListComp elt [⟨tg, iter, ifs, 0⟩, ⟨tg1, iter1, ifs1, 0⟩] scope pos) spos) (sSet i (xLc2 it g t it1 g1 t1 f (own.map (·.2)) vs1)) := by
  subst hO2
  have hv' : ∀ i ∈ vs1, i ∈ own.map (·.2) := fun i hi => by simpa using List.all_eq_true.mp hv i hi
  have hO' : ∀ i ∈ own.map (·.2), i ∉ O := fun i hi => by simpa using List.all_eq_true.mp hO i hi
  refine ⟨ps_imp (ps_setLc2 (wi := simI X.K O st it) (g := simG X.K O O ts g) (tt := simTT X.K O t) (wi1 := simI X.K O true it1) (g1 := simG X.K O O us g1) (tt1 := simTT X.K O t1) (te := simT X.K O m f) hc hN hy hyl hsw hi.pi ok hv' (fun s H C cl fp => (hg s H C cl fp).pg) (fun s H C cl fp => (ht s H C cl fp).pts) (fun s H C cl fp => (hi1 s H C cl fp).pi) (fun s H C cl fp => (hg1 s H C cl fp).pg) (fun s H C cl fp => (ht1 s H C cl fp).pts) (fun s H C cl fp => (he s H C cl fp).pe) hs hs1) fun D σ H q => ?_⟩
  exact lc2_of hm (fun i hi => by simpa using List.all_eq_true.mp hts i (by simpa using hi)) (fun i hi => by simpa using List.all_eq_true.mp hus i (by simpa using hi)) hO' (fun i hi => hO' i (hv' i hi)) σ H _ (setf_of σ H q)
end
end Pm

namespace Pm
open PySem PySem.Spec PyProof.Rows L2

/-! ### dicts whose keys are ints -/
def isKeyI (i : Int) : D → Bool
  | .int j => j == i
  | _ => false
def dGetD (kd : List (D × D)) (i : Int) : Option D := (kd.find? fun p => isKeyI i p.1).map (·.2)
def dHasD (kd : List (D × D)) (i : Int) : Bool := kd.any fun p => isKeyI i p.1
def dPutD (kd : List (D × D)) (i : Int) (v : D) : List (D × D) := if dHasD kd i then kd.map (fun p => if isKeyI i p.1 then (p.1, v) else p) else kd ++ [(.int i, v)]
theorem keyD_is (k : Key) (i : Int) : isKeyI i (keyD k) = decide (k = Sum.inl i) := by
  cases k with
  | inl j =>
    simp only [keyD, isKeyI]
    by_cases h : j = i <;> simp [h]
  | inr s => simp [keyD, isKeyI]
section
variable {K : PySem.W.Frag} {A : Addr → Prop} {H : Hp}
theorem dget_some {i : Int} {d : D} : ∀ {ks : List (Key × V)} {ds : List D}, RpL K A H (ks.map (·.2)) ds → dGetD ((ks.map fun p => keyD p.1).zip ds) i = some d → ∃ v, valV ks (Sum.inl i) = some v ∧ Rp K A H v d
  | [], ds, r, e => by simp [dGetD] at e
  | (k, v) :: ks, ds, r, e => by
    cases r with
    | cons h r =>
      simp only [dGetD, List.map_cons, List.zip_cons_cons, List.find?_cons, keyD_is] at e
      by_cases hk : k = Sum.inl i
      · rw [decide_eq_true hk] at e
        cases e
        exact ⟨v, valV_pos hk, h⟩
      · rw [decide_eq_false hk] at e
        obtain ⟨w, e1, e2⟩ := dget_some r e
        exact ⟨w, by rw [valV_neg hk]; exact e1, e2⟩
theorem dhas_eq {i : Int} : ∀ {ks : List (Key × V)} {ds : List D}, RpL K A H (ks.map (·.2)) ds → dHasD ((ks.map fun p => keyD p.1).zip ds) i = (valV ks (Sum.inl i)).isSome
  | [], ds, r => by cases r; rfl
  | (k, v) :: ks, ds, r => by
    cases r with
    | cons h r =>
      simp only [dHasD, List.map_cons, List.zip_cons_cons, List.any_cons, keyD_is]
      by_cases hk : k = Sum.inl i
      · rw [decide_eq_true hk, valV_pos hk]
        rfl
      · rw [decide_eq_false hk, valV_neg hk, Bool.false_or]
        exact dhas_eq r
theorem dput_map {i : Int} {v : V} {d : D} (hv : Rp K A H v d) : ∀ {ks : List (Key × V)} {ds : List D}, RpL K A H (ks.map (·.2)) ds → ∃ ds', RpL K A H ((ks.map fun kv => if kv.1 = Sum.inl i then (kv.1, v) else kv).map (·.2)) ds' ∧
    ((ks.map fun p => keyD p.1).zip ds).map (fun p => if isKeyI i p.1 then (p.1, d) else p) = ((ks.map fun kv => if kv.1 = Sum.inl i then (kv.1, v) else kv).map fun p => keyD p.1).zip ds'
  | [], ds, r => by cases r; exact ⟨[], .nil, rfl⟩
  | (k, w) :: ks, ds, r => by
    cases r with
    | @cons _ _ d0 ds0 h r =>
      obtain ⟨ds', r', e⟩ := dput_map hv r
      simp only [List.map_cons, List.zip_cons_cons, keyD_is]
      by_cases hk : k = Sum.inl i
      · refine ⟨d :: ds', ?_, ?_⟩
        · rw [if_pos hk]; exact .cons hv r'
        · rw [if_pos hk, decide_eq_true hk, if_pos rfl, e]; rfl
      · refine ⟨d0 :: ds', ?_, ?_⟩
        · rw [if_neg hk]; exact .cons h r'
        · rw [if_neg hk, decide_eq_false hk, if_neg Bool.false_ne_true, e]; rfl
theorem dput_ok {i : Int} {v : V} {d : D} (hv : Rp K A H v d) {ks : List (Key × V)} {ds : List D} (r : RpL K A H (ks.map (·.2)) ds) : ∃ ds', RpL K A H ((putK ks (Sum.inl i) v).map (·.2)) ds' ∧
    dPutD ((ks.map fun p => keyD p.1).zip ds) i d = ((putK ks (Sum.inl i) v).map fun p => keyD p.1).zip ds' := by
  unfold dPutD putK
  rw [dhas_eq r, valV_any]
  by_cases hh : (valV ks (Sum.inl i)).isSome = true
  · rw [if_pos hh, if_pos hh]
    exact dput_map hv r
  · rw [if_neg hh, if_neg hh]
    refine ⟨ds ++ [d], ?_, ?_⟩
    · rw [List.map_append]
      exact RpL.app (.one hv) r
    · rw [List.map_append]
      have hl : (ks.map fun p => keyD p.1).length = ds.length := by
        have := r.length
        simpa using this
      rw [List.zip_append hl]
      rfl
/-- a value that stands for a dict -/
theorem WRp.dict {v : V} {kd : List (D × D)} (h : WRp K A H v (.dict kd)) (hs : ∀ xs, kd ≠ [(.none, .list xs)]) : ∃ a ks ds, v = .ref a ∧ H a = some (.dK ks) ∧ RpL K A H (ks.map (·.2)) ds ∧ kd = (ks.map fun p => keyD p.1).zip ds := by
  rcases h with h | ⟨a, e, h⟩
  · cases h with
    | scr h n r => exact absurd rfl (hs _)
    | kl h r => exact absurd rfl (hs _)
    | dic h n r e => exact ⟨_, _, _, rfl, h, r, e⟩
  · cases h with
    | dic h r z => exact ⟨_, _, _, e, h, r, z⟩
end
def oIxK : D → D → Option D
  | .dict kd, .int i => if (kd.any fun p => isNone p.1) then none else dGetD kd i
  | _, _ => none
def oInK : D → D → Option D
  | .int i, .dict kd => if (kd.any fun p => isNone p.1) then none else some (.bool (dHasD kd i))
  | _, _ => none
def oNotInK : D → D → Option D
  | .int i, .dict kd => if (kd.any fun p => isNone p.1) then none else some (.bool (!dHasD kd i))
  | _, _ => none
theorem no_scr {kd : List (D × D)} (h : ¬ (kd.any fun p => isNone p.1) = true) : ∀ xs, kd ≠ [(.none, .list xs)] := fun xs e => by
  subst e
  exact h rfl
section
variable {X : Cx} {O Ob Oc : List Nat} {m ma mb : Md} {k : Nat} {a b e : Expr} {fa fb f : Xp} {pos p1 p2 : Pos}
theorem hu1 {A : Around} (hr : Room k A) : A.units + 1 < cLine := by have := hr.un; omega
theorem se_new : SE X O .f (.Dict [] [] pos) (xC (.dict [])) := by
  refine ⟨pe_imp pe_dnewK fun σ H Q q => ?_⟩
  obtain ⟨H0, A0, G, ρ, B, d, S, e, k⟩ := q
  cases e
  exact fun p hp => k _ _ (same_upd hp) (.inl ⟨p, rfl, hp, .dic (ks := []) (ds := []) upd_same .nil rfl⟩)
theorem se_dget (hr : Room k X.A) (ha : SE X O ma a fa) (hb : SE X O mb b fb) (hs : NoSl b := by exact fun _ _ => rfl) : SE X O .s (.Subscript a b pos) (xBin oIxK fa fb) := by
  refine ⟨pe_imp (pe_dget (hu1 hr) ha.pe hb.pe hs) fun σ H Q q => ?_⟩
  obtain ⟨H0, A0, G, ρ, B, d, S, e, k⟩ := q
  obtain ⟨x, ex, e⟩ := bind2 e
  obtain ⟨y, ey, e⟩ := bind2 e
  refine ⟨H0, A0, G, ρ, B, x, S, ex, fun v H1 s1 r1 => ⟨H0, A0, G, ρ, B, y, S.mono s1, ey, fun u H2 s2 r2 => ?_⟩⟩
  unfold oIxK at e
  split at e
  · split at e
    · cases e
    · rename_i hn
      obtain ⟨t, ks, ds, rfl, ht, rt, ek⟩ := (r1.toW.mono s2).dict (no_scr hn)
      rw [ek] at e
      obtain ⟨w, ew, rw'⟩ := dget_some rt e
      exact ⟨t, w, rfl, by rw [← ew, r2.toW.int]; exact DGet.k (k := Sum.inl _) ht, k _ H2 (s1.trans s2) rw'⟩
  · cases e
theorem se_dset_dummy : True := trivial
theorem tIn_of {g : D → D → Option D} (σ : L2.St) (H : Hp) (Q : VK) (hg : ∀ x y z, g x y = some z → ∃ i kd, x = .int i ∧ y = .dict kd ∧ ¬ (kd.any fun p => isNone p.1) = true ∧ z = .bool (dHasD kd i)) (q : simT X.K O .f (xBin g fa fb) σ H Q) : tDIn (simT X.K O ma fa) (simT X.K O mb fb) σ H Q := by
  obtain ⟨H0, A0, G, ρ, B, d, S, e, k⟩ := q
  obtain ⟨x, ex, e⟩ := bind2 e
  obtain ⟨y, ey, e⟩ := bind2 e
  obtain ⟨i, kd, rfl, rfl, hn, rfl⟩ := hg _ _ _ e
  refine ⟨H0, A0, G, ρ, B, _, S, ex, fun v H1 s1 r1 => ⟨H0, A0, G, ρ, B, _, S.mono s1, ey, fun u H2 s2 r2 => ?_⟩⟩
  obtain ⟨t, ks, ds, rfl, ht, rt, ek⟩ := r2.toW.dict (no_scr hn)
  refine ⟨t, valV ks (Sum.inl i), rfl, by rw [r1.toW.int]; exact DGet.k (k := Sum.inl _) ht, k _ H2 (s1.trans s2) ?_⟩
  rw [ek, dhas_eq rt]
  exact Res.bl
theorem tNotIn_of {g : D → D → Option D} (σ : L2.St) (H : Hp) (Q : VK) (hg : ∀ x y z, g x y = some z → ∃ i kd, x = .int i ∧ y = .dict kd ∧ ¬ (kd.any fun p => isNone p.1) = true ∧ z = .bool (!dHasD kd i)) (q : simT X.K O .f (xBin g fa fb) σ H Q) : tDNotIn (simT X.K O ma fa) (simT X.K O mb fb) σ H Q := by
  obtain ⟨H0, A0, G, ρ, B, d, S, e, k⟩ := q
  obtain ⟨x, ex, e⟩ := bind2 e
  obtain ⟨y, ey, e⟩ := bind2 e
  obtain ⟨i, kd, rfl, rfl, hn, rfl⟩ := hg _ _ _ e
  refine ⟨H0, A0, G, ρ, B, _, S, ex, fun v H1 s1 r1 => ⟨H0, A0, G, ρ, B, _, S.mono s1, ey, fun u H2 s2 r2 => ?_⟩⟩
  obtain ⟨t, ks, ds, rfl, ht, rt, ek⟩ := r2.toW.dict (no_scr hn)
  refine ⟨t, valV ks (Sum.inl i), rfl, by rw [r1.toW.int]; exact DGet.k (k := Sum.inl _) ht, k _ H2 (s1.trans s2) ?_⟩
  rw [ek, dhas_eq rt]
  exact Res.bl
theorem inK_shape {x y z : D} (h : oInK x y = some z) : ∃ i kd, x = .int i ∧ y = .dict kd ∧ ¬ (kd.any fun p => isNone p.1) = true ∧ z = .bool (dHasD kd i) := by
  unfold oInK at h
  split at h
  · split at h
    · cases h
    · rename_i hn
      cases h
      exact ⟨_, _, rfl, rfl, hn, rfl⟩
  · cases h
theorem notInK_shape {x y z : D} (h : oNotInK x y = some z) : ∃ i kd, x = .int i ∧ y = .dict kd ∧ ¬ (kd.any fun p => isNone p.1) = true ∧ z = .bool (!dHasD kd i) := by
  unfold oNotInK at h
  split at h
  · split at h
    · cases h
    · rename_i hn
      cases h
      exact ⟨_, _, rfl, rfl, hn, rfl⟩
  · cases h
theorem se_din (hr : Room k X.A) (ha : SE X O ma a fa) (hb : SE X O mb b fb) (hm : behindInMarks .In b = false := by rfl) : SE X O .f (.Compare a [.In] [b] pos) (xBin oInK fa fb) := ⟨pe_imp (pe_cmp (pc_din (hu1 hr) ha.pe hb.pe) hm) fun σ H Q q => tIn_of σ H Q (fun _ _ _ => inK_shape) q⟩
theorem se_dnotin (hr : Room k X.A) (ha : SE X O ma a fa) (hb : SE X O mb b fb) (hm : behindInMarks .NotIn b = false := by rfl) : SE X O .f (.Compare a [.NotIn] [b] pos) (xBin oNotInK fa fb) := ⟨pe_imp (pe_cmp (pc_dnotin (hu1 hr) ha.pe hb.pe) hm) fun σ H Q q => tNotIn_of σ H Q (fun _ _ _ => notInK_shape) q⟩
theorem tB_of {g : D → D → Option D} {t : TE} (σ : L2.St) (H : Hp) (Q : Bool → Hp → Prop) (ht : ∀ Q, simT X.K O .f (xBin g fa fb) σ H Q → t σ H Q) (q : simTT X.K O (tOf (xBin g fa fb)) σ H Q) : tB t σ H Q := by
  obtain ⟨H0, A0, G, ρ, B, b, S, e, k⟩ := q
  obtain ⟨d, ed, e⟩ := bind2 e
  have := dB_some e
  subst this
  exact ht _ ⟨H0, A0, G, ρ, B, _, S, ed, fun v H' s r => ⟨b, r.toW.bl, k H' s⟩⟩
theorem st_din (hr : Room k X.A) (ha : SE X O ma a fa) (hb : SE X O mb b fb) (hm : behindInMarks .In b = false := by rfl) : ST X O (.Compare a [.In] [b] pos) (tOf (xBin oInK fa fb)) := ⟨pt_imp (pt_cmp (pc_din (hu1 hr) ha.pe hb.pe) hm) fun σ H Q q => tB_of σ H Q (fun Q q => tIn_of σ H Q (fun _ _ _ => inK_shape) q) q⟩
theorem st_dnotin (hr : Room k X.A) (ha : SE X O ma a fa) (hb : SE X O mb b fb) (hm : behindInMarks .NotIn b = false := by rfl) : ST X O (.Compare a [.NotIn] [b] pos) (tOf (xBin oNotInK fa fb)) := ⟨pt_imp (pt_cmp (pc_dnotin (hu1 hr) ha.pe hb.pe) hm) fun σ H Q q => tB_of σ H Q (fun Q q => tNotIn_of σ H Q (fun _ _ _ => notInK_shape) q) q⟩
/-- x[j] = e, a dict -/
def sPutK (i : Nat) (fj f : Xp) : XS := fun ρ => (f ρ).bind fun y => (xVar i ρ).bind fun x => (fj ρ).bind fun j => match x, j with
  | .dict kd, .int j => if kd.length < 16777216 ∧ i < ρ.length then some (.nx (ρ.set i (some (.dict (dPutD kd j y))))) else none
  | _, _ => none
theorem ownK_of {K : PySem.W.Frag} {H0 H : Hp} {A0 : Addr → Prop} {G : List (V × D)} {σ : L2.St} {ρ : PEnv} {B : Nat → Option Addr} {i : Nat} {kd : List (D × D)} (S : Sim K H0 A0 G O σ H ρ B) (hi : O.contains i = true) (e : xVar i ρ = some (.dict kd)) : ∃ a ks ds, B i = some a ∧ σ[i]? = some (some (.ref a)) ∧ H a = some (.dK ks) ∧ RpL K (Av A0 B) H (ks.map (·.2)) ds ∧ kd = (ks.map fun p => keyD p.1).zip ds := by
  obtain ⟨a, h1, h2, h3⟩ := S.ob i _ (by simpa using hi) (getD_some e) rfl
  cases h3 with
  | dic h r z => exact ⟨a, _, _, h1, h2, h, r, z⟩
theorem ss_putK (i : Nat) {x : Str} {j : Expr} {fj : Xp} (hr : Room k X.A) (he : SE X O m e f) (hj : SE X O mb j fj) (hm : m ≠ .w := by decide) (hO : O.contains i = true := by rfl) (hN : X.N[i]? = some x := by rfl) (hv : Vis X.env.scope x := by first | exact Or.inl rfl | exact Or.inr (Or.inl rfl) | exact Or.inr (Or.inr rfl))
    (hd : (x == ("__debug__" : Str)) = false := by decide) (hcd : (x == ("__classdict__" : Str)) = false := by decide) (hs : swapsWith e (some (.Subscript (.Name x p1) j p2)) pos.line X.env = pure false := by rfl) : SS X O Ob Oc O (.Assign [.Subscript (.Name x p1) j p2] e pos) (sPutK i fj f) := by
  refine ⟨ps_imp (ps_dput (hu1 hr) (pe_var hN hv hd hcd) hj.pe he.pe hs) fun D σ H q => ?_⟩
  obtain ⟨H0, A0, G, ρ, B, o, S, e, k⟩ := q
  obtain ⟨y, ey, e⟩ := bind2 e
  obtain ⟨d, ed, e⟩ := bind2 e
  obtain ⟨z, ez, e⟩ := bind2 e
  split at e
  · split at e
    · rename_i hz
      cases e
      obtain ⟨a, ks, ds, hB, hσ, ha, ra, ek⟩ := ownK_of S hO ed
      refine ⟨H0, A0, G, ρ, B, y, S, ey, fun v H1 s1 r1 => ⟨.ref a, hσ, H0, A0, G, ρ, B, _, S.mono s1, ez, fun u H2 s2 r2 => ?_⟩⟩
      have s12 := s1.trans s2
      have S1 := S.mono s12
      have av : Av A0 B a := .inr ⟨i, hB⟩
      have hlen : ks.length < sizeLine := by
        have e1 : ks.length = ds.length := by simpa using ra.length
        have e2 := hz.1
        rw [ek, List.length_zip, List.length_map, e1, Nat.min_self] at e2
        rw [e1]
        exact e2
      obtain ⟨ds', r', e'⟩ := dput_ok (i := _) ((r1.toS S.tr hm).mono s2) (ra.mono s12)
      refine ⟨a, _, rfl, by rw [r2.toW.int]; exact DPut.k (k := Sum.inl _) (s12 _ _ ha) hlen, ?_⟩
      rw [ek] at k
      refine k _ _ B (S1.write hB hσ (.dic upd_same (r'.step (fun b o e n => ?_) fun _ z => .inl z) e') hz.2)
      rw [upd_ne (fun z => n (by rw [z]; exact av))]
      exact e
    · cases e
  · cases e

/-! ### the least and the greatest of ints -/
def bMinI : List D → Option D
  | [x] => (seqD x).bind fun xs => (asInts xs).bind fun ns => ns.min?.map .int
  | _ => none
def bMaxI : List D → Option D
  | [x] => (seqD x).bind fun xs => (asInts xs).bind fun ns => ns.max?.map .int
  | _ => none
theorem cb_minI (hc : X.calm = true := by rfl) : CallR X (.builtin "min") (rC X.K .f bMinI) := by
  intro pins s σ H vs us Q I r ⟨A, ds, d, tr, w, e, q⟩
  unfold bMinI at e
  split at e
  · obtain ⟨v, rfl, w1⟩ := p1 w
    obtain ⟨xs, e1, e⟩ := bind2 e
    obtain ⟨ns, e2, e⟩ := bind2 e
    obtain ⟨mn, e3, e⟩ := Option.map_eq_some_iff.mp e
    subst e
    obtain ⟨a, vs, rfl, ha, ra⟩ := w1.seq e1
    rw [ref1 r]
    have hv := ra.ints e2
    subst hv
    refine call_min_walk (sq_iter (show X.A.in1.handled = none from I.ok.hd hc) I ha fun its J fp wr St h₂ rv W st hfp kp => ?_)
    have hl := rv.length
    rw [List.length_map] at hl
    have hne : 0 < ns.length := by
      cases ns with
      | nil => simp at e3
      | cons _ _ => simp
    refine ⟨_, _, _, _, _, _, _, rfl, W, st, hfp, by omega, CmpOf.ints_lt (fun i => ns.getD i 0) (fun i v h => intsAt rv i v h), fun v h' tk hv hk => ?_⟩
    obtain ⟨t, rfl⟩ := intsAt rv _ _ hv
    obtain ⟨b1, b2⟩ := argBest_lt (fun i => ns.getD i 0) (its.length - 1)
    refine ⟨.int mn, H, I.kept (kp h' hk), ⟨t, ?_⟩, q _ H (Same.refl H) Res.int⟩
    congr 1
    rw [List.min?_eq_some_iff] at e3
    refine Int.le_antisymm ?_ ?_
    · obtain ⟨i, hi, e4⟩ := List.mem_iff_getElem.mp e3.1
      have := b2 i (by omega)
      simp only [List.getD_eq_getElem?_getD, List.getElem?_eq_getElem hi, Option.getD_some] at this
      rw [e4] at this
      simpa [List.getD_eq_getElem?_getD] using this
    · have hb : argBest (fun i j => decide (ns.getD i 0 < ns.getD j 0)) (its.length - 1) < ns.length := by
        have h1 : argBest (fun i j => decide (ns.getD i 0 < ns.getD j 0)) (its.length - 1) ≤ its.length - 1 := b1
        omega
      exact e3.2 _ (by rw [List.getD_eq_getElem?_getD, List.getElem?_eq_getElem hb]; exact List.getElem_mem hb)
  · cases e
end
end Pm

namespace Pm
open PySem PySem.Spec PyProof.Rows L2
/-! ### a def behind the top -/
abbrev FnP (K : PySem.W.Frag) (x : Str) (st : Stmt) (f : Addr) (fd : FuncData) : Prop := FunD K x x (defArgs st) (defBody st) (defScope st) [] [] f fd
theorem fnp_ok {P : Program} {w : World} {K : PySem.W.Frag} {mg : Str → Option Value} {base : Heap} {x : Str} {st : Stmt} {f : Addr} {fd : FuncData} {N ps : List Str} {k : Nat} {O' : List Nat} {g : XS} (F : FnP K x st f fd) (S : FnScope N ps (defScope st))
    (hb : ∀ (cdv : Value) (A : Around) (outer : List Env) (s : Shared) (H : Hp) (E : XK), Room k (A.deeper (envOfC x (defScope st) s.heap.objs.size f cdv)) → SSs (cxOf CX0 P w K mg base N x (defScope st) f cdv A outer s H E).nox [] [] [] O' (defBody st) g) :
    FnOk P w K mg base CX0 (k + 1) f fd ps (spD K ps.length (runD ps.length N.length g)) := by
  refine F.ok S (fun vs H Q E h => ?_) (fun cdv A outer s H vs Q E hr h => ?_)
  · obtain ⟨A, ds, d, t, hn, _⟩ := h
    exact hn
  · obtain ⟨A', ds, d, t, hn, r, e, q⟩ := h
    obtain ⟨o, eo, e⟩ := bind2 e
    refine ⟨_, PSs.nox (hb cdv A outer s H E hr).pss, H, A', [], _, fun _ => none, o, sim_start t r hn, eo, ?_⟩
    cases o with
    | nx ρ => cases e; exact fun σ' H' B' S' => q .non H' S'.same .non
    | rt d' => cases e; exact fun v H' s' r' => q v H' s' r'
    | bk ρ => cases e
    | ct ρ => cases e
/-- a def that is never called keeps every promise -/
theorem fn_none {P : Program} {w : World} {K : PySem.W.Frag} {mg : Str → Option Value} {base : Heap} {x : Str} {st : Stmt} {f : Addr} {fd : FuncData} {N ps : List Str} {k : Nat} (F : FnP K x st f fd) (S : FnScope N ps (defScope st)) : FnOk P w K mg base CX0 (k + 1) f fd ps (spD K ps.length fun _ => none) := by
  refine F.ok S (fun vs H Q E h => ?_) (fun cdv A outer s H vs Q E hr h => ?_)
  · obtain ⟨A, ds, d, t, hn, _⟩ := h
    exact hn
  · obtain ⟨A', ds, d, t, hn, r, e, q⟩ := h
    cases e
theorem rpl_ints {K : PySem.W.Frag} {A : Addr → Prop} {H : Hp} : ∀ ns : List Int, RpL K A H (ns.map V.int) (ns.map PyData.int)
  | [] => .nil
  | n :: ns => .cons (.int n) (rpl_ints ns)
/-- what the end asks of the law's def -/
theorem sp_law {K : PySem.W.Frag} {F : List D → Option D} {n : Nat} (hF : ∀ ns : List Int, ns.length ≤ n → F [scr (ns.map PyData.int)] = some (.bool true)) (H : Hp) (a : Addr) (ns : List Int) (hl : ns.length ≤ n) (_ : Only H) (hS : SqL K H a (ns.map V.int)) :
    spD K 1 F [.ref a] H (fun v _ => v = .bl true) fun _ _ _ => False := by
  refine ⟨fun _ => False, [scr (ns.map PyData.int)], .bool true, fun _ z => z.elim, rfl, .cons ?_ .nil, hF ns hl, fun v H' s r => ?_⟩
  · rcases hS with h | h
    · exact .scr h id (rpl_ints ns)
    · exact .kl h (rpl_ints ns)
  · cases r
    rfl
end Pm

/-! Pm: ranges laid out at once. -/
namespace Pm
open PySem PySem.Spec PyProof.Rows L2
def oRgT (lo hi : Int) : Option (List D) := if -(2 ^ 62) ≤ lo ∧ lo < 2 ^ 62 ∧ -(2 ^ 62) ≤ hi ∧ hi < 2 ^ 62 ∧ (hi - lo).toNat ≤ 2 ^ 24 then some (rangeD lo 1 (hi - lo).toNat) else none
def oTupR1 : D → Option D
  | .int n => (oRgT 0 n).map .tuple
  | _ => none
def oLstR1 : D → Option D
  | .int n => (oRgT 0 n).map .list
  | _ => none
def oTupR2 : D → D → Option D
  | .int a, .int n => (oRgT a n).map .tuple
  | _, _ => none
def oLstR2 : D → D → Option D
  | .int a, .int n => (oRgT a n).map .list
  | _, _ => none
theorem rpl_rg {K : PySem.W.Frag} {A : Addr → Prop} {H : Hp} (a b : Int) : RpL K A H (rgV a b) (rangeD a 1 (b - a).toNat) := by
  unfold rgV rangeD
  induction List.range (b - a).toNat with
  | nil => exact .nil
  | cons i r ih =>
    refine .cons ?_ ih
    have e : a + (i : Nat) * 1 = a + (i : Nat) := by rw [Int.mul_one]
    show Rp K A H (V.int (a + (i : Nat))) (PyData.int (a + (i : Nat) * 1))
    rw [e]
    exact .int _
section
variable {X : Cx} {O : List Nat} {m m' : Md} {a b : Expr} {fa fb : Xp} {p p2 pos pos2 : Pos}
theorem se_tupR1 (h1 : X.mg "tuple" = none) (h2 : X.mg "range" = none) (ha : SE X O m a fa) (hc : X.calm = true := by rfl) (hg : L2.Gl X "tuple" := by rfl) (hg2 : L2.Gl X "range" := by rfl) (na : starEach [a] X.env = (false, eval a X.env) :: starEach [] X.env := by rfl)
    (na2 : starEach [Expr.Call (.Name "range" p) [a] [] pos] X.env = (false, eval (Expr.Call (.Name "range" p) [a] [] pos) X.env) :: starEach [] X.env := by rfl) : SE X O .f (.Call (.Name "tuple" p2) [.Call (.Name "range" p) [a] [] pos] [] pos2) (xUn oTupR1 fa) := by
  refine ⟨pe_imp (pe_tupRg hc hg h1 (prg_1 hg2 h2 ha.pe na) na2) fun σ H Q q => ?_⟩
  obtain ⟨H0, A0, G, ρ, B, d, S, e, k⟩ := q
  obtain ⟨y, ey, e⟩ := bind2 e
  refine ⟨H0, A0, G, ρ, B, y, S, ey, fun v H1 s1 r1 => ?_⟩
  unfold oTupR1 at e
  split at e
  · obtain ⟨ds, e1, e⟩ := Option.map_eq_some_iff.mp e
    subst e
    unfold oRgT at e1
    split at e1
    · rename_i hz
      cases e1
      exact ⟨_, r1.toW.int, ⟨hz.1, hz.2.1, hz.2.2.1, hz.2.2.2.1, hz.2.2.2.2⟩, fun q hq => k _ _ (s1.trans (same_upd hq)) (Res.flat (Rp.newT (S.mono s1).tr hq (rpl_rg _ _)) rfl)⟩
    · cases e1
  · cases e
theorem se_lstR1 (h1 : X.mg "list" = none) (h2 : X.mg "range" = none) (ha : SE X O m a fa) (hc : X.calm = true := by rfl) (hg : L2.Gl X "list" := by rfl) (hg2 : L2.Gl X "range" := by rfl) (na : starEach [a] X.env = (false, eval a X.env) :: starEach [] X.env := by rfl)
    (na2 : starEach [Expr.Call (.Name "range" p) [a] [] pos] X.env = (false, eval (Expr.Call (.Name "range" p) [a] [] pos) X.env) :: starEach [] X.env := by rfl) : SE X O .f (.Call (.Name "list" p2) [.Call (.Name "range" p) [a] [] pos] [] pos2) (xUn oLstR1 fa) := by
  refine ⟨pe_imp (pe_listRg hc hg h1 (prg_1 hg2 h2 ha.pe na) na2) fun σ H Q q => ?_⟩
  obtain ⟨H0, A0, G, ρ, B, d, S, e, k⟩ := q
  obtain ⟨y, ey, e⟩ := bind2 e
  refine ⟨H0, A0, G, ρ, B, y, S, ey, fun v H1 s1 r1 => ?_⟩
  unfold oLstR1 at e
  split at e
  · obtain ⟨ds, e1, e⟩ := Option.map_eq_some_iff.mp e
    subst e
    unfold oRgT at e1
    split at e1
    · rename_i hz
      cases e1
      exact ⟨_, r1.toW.int, ⟨hz.1, hz.2.1, hz.2.2.1, hz.2.2.2.1, hz.2.2.2.2⟩, fun q hq => k _ _ (s1.trans (same_upd hq)) (Res.newL (S.mono s1).tr hq (rpl_rg _ _) s1)⟩
    · cases e1
  · cases e
end
section
variable {X : Cx} {O : List Nat} {e : Expr} {es : List Expr} {fs : XL} {pos p : Pos} {k j : Nat} {x : Str} {ps : List Str} {F : List D → Option D} {P : Program} {w : World} {K : PySem.W.Frag} {mg : Str → Option Value} {base : Heap} {A : Around}
/-- a call of a def of the text, the context's parts by name -/
theorem se_callD (hd : Def P w K mg base k x ps F) (hr : Room j A) (ha : SA X O true (e :: es) fs) (hk : k ≤ j := by decide) (hX : X.prog = P ∧ X.w = w ∧ X.K = K ∧ X.mg = mg ∧ X.base = base ∧ X.A = A := by exact ⟨rfl, rfl, rfl, rfl, rfl, rfl⟩) (hl : (e :: es).length = ps.length := by rfl) (hg : L2.Gl X x := by rfl) (hdb : (x == ("__debug__" : Str)) = false := by decide)
    (he : starEach (e :: es) X.env = (false, eval e X.env) :: starEach es X.env := by rfl) (hpl : (backTo pos (starEach es X.env)).any (·.1) = false := by rfl) : SE X O .s (.Call (.Name x p) (e :: es) [] pos) (xCall (fun ds => if ds.length = ps.length then F ds else none) fs) := by
  obtain ⟨rfl, rfl, rfl, rfl, rfl, rfl⟩ := hX
  exact se_call hd hr ha hk hl hg hdb he hpl
theorem se_callWD (hd : Def P w K mg base k x ps F) (hr : Room j A) (ha : SA X O false (e :: es) fs) (hk : k ≤ j := by decide) (hX : X.prog = P ∧ X.w = w ∧ X.K = K ∧ X.mg = mg ∧ X.base = base ∧ X.A = A := by exact ⟨rfl, rfl, rfl, rfl, rfl, rfl⟩) (hg : L2.Gl X x := by rfl) (hdb : (x == ("__debug__" : Str)) = false := by decide)
    (he : starEach (e :: es) X.env = (false, eval e X.env) :: starEach es X.env := by rfl) (hpl : (backTo pos (starEach es X.env)).any (·.1) = false := by rfl) : SE X O .f (.Call (.Name x p) (e :: es) [] pos) (xCall (fun ds => if ds.length = ps.length then (F ds).bind fun d => if flat d then some d else none else none) fs) := by
  obtain ⟨rfl, rfl, rfl, rfl, rfl, rfl⟩ := hX
  exact se_callW hd hr ha hk hg hdb he hpl
end
end Pm

/-! Pm: a tuple taken once. -/
namespace Pm
open PySem PySem.Spec PyProof.Rows L2
theorem tuple_mul1 (l : Addr) (items : Array Value) (n : Nat) (dd : Option Addr) (sl : Array (Option Value)) (x : Int) (u : Tok) (c0 : (decide (x < -(2 ^ 63)) || decide (x ≥ 2 ^ 63)) = false) (c1 : (items.isEmpty || x == 1) = true) :
    Meets (Builtin.«tuple.__mul__» ⟨[.ref l, .int x u], []⟩) (fun _ R s => s.heap.get? l = some { cls := .type "tuple", dict := dd, data := .seq items n, slots := sl } ∧
      R (.ok (.ret (Value.ref l))) s) :=
  .of_wp fun prog w A R s h => by
    obtain ⟨hp, g, d, tk, os⟩ := s
    obtain ⟨hl, h⟩ := h
    have f1 := AutoSeq1.idx_int
    wp_walk using wpAny_loadPart' hl
    repeat (first
      | (refine wpAny_ite_false (decide_eq_false (by rw [c0]; exact Bool.false_ne_true)) ?_; wp_walk using wpAny_loadPart' hl)
      | (refine wpAny_ite_true (decide_eq_true c1) ?_; wp_walk using wpAny_loadPart' hl))
    exact ⟨_, rfl, h⟩
theorem tuple_mul0 (l : Addr) (items : Array Value) (n : Nat) (dd : Option Addr) (sl : Array (Option Value)) (x : Int) (u : Tok) (c0 : (decide (x < -(2 ^ 63)) || decide (x ≥ 2 ^ 63)) = false) (c1 : (items.isEmpty || x == 1) = false) (c2 : (decide (x ≤ 0) || items.isEmpty) = true) :
    Meets (Builtin.«tuple.__mul__» ⟨[.ref l, .int x u], []⟩) (fun _ R s => s.heap.get? l = some { cls := .type "tuple", dict := dd, data := .seq items n, slots := sl } ∧
      R (.ok (.ret (Value.ref s.heap.objs.size))) { s with heap := s.heap.push { cls := Value.type "tuple", data := Data.seq #[] }, toks := s.toks }) :=
  .of_wp fun prog w A R s h => by
    obtain ⟨hp, g, d, tk, os⟩ := s
    obtain ⟨hl, h⟩ := h
    have f1 := AutoSeq1.idx_int
    wp_walk using wpAny_loadPart' hl
    repeat (first
      | (refine wpAny_ite_false (decide_eq_false (by rw [c0]; exact Bool.false_ne_true)) ?_; wp_walk using wpAny_loadPart' hl)
      | (refine wpAny_ite_false (decide_eq_false (by rw [c1]; exact Bool.false_ne_true)) ?_; wp_walk using wpAny_loadPart' hl)
      | (refine wpAny_ite_true (decide_eq_true c2) ?_; wp_walk using wpAny_loadPart' hl))
    exact ⟨_, rfl, h⟩
def rRepS (K : PySem.W.Frag) : R2 := fun x y H Q => ∃ l k xs, x = .ref l ∧ y = .int k ∧ SqT K H l xs ∧ -(2 ^ 62) ≤ k ∧ k ≤ 1000 ∧ (xs = [] ∨ k = 1) ∧ Q (.ref l) H
def rRep0 (K : PySem.W.Frag) : R2 := fun x y H Q => ∃ l k xs, x = .ref l ∧ y = .int k ∧ SqT K H l xs ∧ -(2 ^ 62) ≤ k ∧ k ≤ 0 ∧ xs ≠ [] ∧ ∀ p, H p = none → Q (.ref p) (upd H p (.tup []))
section
variable {X : Cx}
theorem op_repS : OpR X (binaryOp .Mult) (rRepS X.K) := by
  intro pins s σ H x y v u Q I rx ry h
  obtain ⟨l, k, xs, rfl, rfl, hT, h1, h2, hz, q⟩ := h
  cases rx
  obtain ⟨t, rfl⟩ := ry
  obtain ⟨its, r, ⟨⟨cls, dd, data, sl⟩, ho, hc, n, hd⟩, hs⟩ := I.tuple hT
  simp only at hc hd
  subst hc hd
  have c0 : (decide (k < -(2 ^ 63)) || decide (k ≥ 2 ^ 63)) = false := by
    rw [decide_eq_false (by omega), decide_eq_false (by omega)] <;> rfl
  have c1 : (its.toArray.isEmpty || k == 1) = true := by
    rcases hz with hz | hz
    · subst hz
      cases r
      rfl
    · rw [hz, Bool.or_eq_true]
      exact .inr rfl
  exact wpAny_binaryOp_repeat_ref (T := "tuple") (U := "int") (by decide) ⟨_, ho, rfl⟩ (fun s' => typeIs_int s' k t) noFill_tuple_mul F.fills_int_mul F.slot_int_rmul repeat_tuple F.slot_int_index.lookup
    (call_meets F.slot_int_rmul (typeIs_int s k t) F.entry_int_rmul (F.args_int_rmul_2 _ _) (int_rmul_tuple k t l its.toArray n dd sl)
      ⟨ho, rfl, ⟨_, ho, rfl⟩, call_meets F.slot_tuple_mul ⟨_, ho, rfl⟩ F.entry_tuple_mul (F.args_tuple_mul_2 _ _) (tuple_mul1 l its.toArray n dd sl k t c0 c1) ⟨ho, ⟨.ref l, H, I, rfl, q⟩⟩⟩)
theorem op_rep0 : OpR X (binaryOp .Mult) (rRep0 X.K) := by
  intro pins s σ H x y v u Q I rx ry h
  obtain ⟨l, k, xs, rfl, rfl, hT, h1, h2, hz, q⟩ := h
  cases rx
  obtain ⟨t, rfl⟩ := ry
  obtain ⟨its, r, ⟨⟨cls, dd, data, sl⟩, ho, hc, n, hd⟩, hs⟩ := I.tuple hT
  simp only at hc hd
  subst hc hd
  have c0 : (decide (k < -(2 ^ 63)) || decide (k ≥ 2 ^ 63)) = false := by
    rw [decide_eq_false (by omega), decide_eq_false (by omega)] <;> rfl
  have hi : its.toArray.isEmpty = false := by
    cases r with
    | nil => exact absurd rfl hz
    | cons => rfl
  have c1 : (its.toArray.isEmpty || k == 1) = false := by
    rw [hi, Bool.false_or]
    exact beq_eq_false_iff_ne.mpr (by omega)
  have c2 : (decide (k ≤ 0) || its.toArray.isEmpty) = true := by
    rw [decide_eq_true h2, Bool.true_or]
  refine wpAny_binaryOp_repeat_ref (T := "tuple") (U := "int") (by decide) ⟨_, ho, rfl⟩ (fun s' => typeIs_int s' k t) noFill_tuple_mul F.fills_int_mul F.slot_int_rmul repeat_tuple F.slot_int_index.lookup
    (call_meets F.slot_int_rmul (typeIs_int s k t) F.entry_int_rmul (F.args_int_rmul_2 _ _) (int_rmul_tuple k t l its.toArray n dd sl)
      ⟨ho, rfl, ⟨_, ho, rfl⟩, call_meets F.slot_tuple_mul ⟨_, ho, rfl⟩ F.entry_tuple_mul (F.args_tuple_mul_2 _ _) (tuple_mul0 l its.toArray n dd sl k t c0 c1 c2) ⟨ho, ?_⟩⟩)
  refine ⟨.ref s.heap.objs.size, _, I.laid (t' := s.toks) (o := .tup []) (fun b ob q => Heap.get?_push_of_some _ q) (Nat.le_refl _) ?_, rfl, q _ (I.hok.fresh (Nat.le_refl _))⟩
  exact ⟨Nat.zero_le _, [], .nil, IsTup.new _ _⟩
end
/-- the product, tuples any number of times -/
def oMul' : D → D → Option D
  | .tuple a, .int k => if -(2 ^ 62) ≤ k ∧ k ≤ 1000 ∧ a.length ≤ 1000 then some (.tuple (List.replicate k.toNat a).flatten) else none
  | x, y => oMul x y
theorem op_mulD' {X : Cx} : OpR X (binaryOp .Mult) (rD X.K .f oMul') := by
  intro pins s σ H x y v u Q I rx ry h
  obtain ⟨A, dx, dy, d, tr, wx, wy, e, q⟩ := id h
  unfold oMul' at e
  split at e
  · rename_i a k
    split at e
    · rename_i hz
      cases e
      obtain ⟨l, xs, rfl, ha, na, ra⟩ := wx.tup
      by_cases h1 : xs = [] ∨ k = 1
      · refine op_repS pins s σ H _ _ v u Q I rx ry ⟨l, k, xs, rfl, wy.int, .of ha, hz.1, hz.2.1, h1, ?_⟩
        have e : (List.replicate k.toNat a).flatten = a := by
          rcases h1 with h1 | h1
          · subst h1
            cases ra
            simp
          · subst h1
            simp
        rw [e] at q
        exact q _ H (Same.refl H) (Res.flat (.tup ha na ra) rfl)
      · have h2 : xs ≠ [] := fun z => h1 (.inl z)
        by_cases h3 : k ≤ 0
        · refine op_rep0 pins s σ H _ _ v u Q I rx ry ⟨l, k, xs, rfl, wy.int, .of ha, hz.1, h3, h2, fun p hp => ?_⟩
          have e : (List.replicate k.toNat a).flatten = [] := by
            rw [Int.toNat_of_nonpos h3]
            rfl
          rw [e] at q
          exact q _ _ (same_upd hp) (Res.flat (Rp.newT tr hp .nil) rfl)
        · have h4 : k ≠ 1 := fun z => h1 (.inr z)
          exact op_repT pins s σ H _ _ v u Q I rx ry ⟨l, k, xs, rfl, wy.int, .of ha, h2, by omega, hz.2.1, by rw [ra.length]; exact hz.2.2, fun p hp => q _ _ (same_upd hp) (Res.flat (Rp.newT tr hp (ra.rep _)) rfl)⟩
    · cases e
  · exact op_mulD pins s σ H x y v u Q I rx ry ⟨A, dx, dy, d, tr, wx, wy, e, q⟩
end Pm

/-! Pm: plain facts for reading the printed functions. -/
namespace Pm
open PySem PySem.Spec PyProof.Rows L2
/-! ### loops -/
theorem whileF_succ (c : PEnv → Option Bool) (b : XS) (n : Nat) (ρ : PEnv) : whileF c b (n + 1) ρ = (c ρ).bind fun t => if t then (b ρ).bind fun o => match o with
      | .nx ρ2 => whileF c b n ρ2
      | .ct ρ2 => whileF c b n ρ2
      | .bk ρ2 => some (.nx ρ2)
      | .rt d => some (.rt d)
    else some (.nx ρ) := rfl
/-- a loop that goes on n turns and ends -/
theorem whileF_run {c : PEnv → Option Bool} {b : XS} {f : Nat → PEnv} {n N : Nat} (hN : n < N) (ht : ∀ i, i < n → c (f i) = some true) (hb : ∀ i, i < n → b (f i) = some (.nx (f (i + 1)))) (he : c (f n) = some false) : whileF c b N (f 0) = some (.nx (f n)) := by
  suffices h : ∀ k i, i + k = n → ∀ N, k < N → whileF c b N (f i) = some (.nx (f n)) from h n 0 (by omega) N hN
  intro k
  induction k with
  | zero =>
    intro i hi N hN
    obtain ⟨N, rfl⟩ : ∃ M, N = M + 1 := ⟨N - 1, by omega⟩
    have : i = n := by omega
    subst this
    simp [whileF_succ, he]
  | succ k ih =>
    intro i hi N hN
    obtain ⟨N, rfl⟩ : ∃ M, N = M + 1 := ⟨N - 1, by omega⟩
    simp [whileF_succ, ht i (by omega), hb i (by omega)]
    exact ih (i + 1) (by omega) N (by omega)
theorem forL_nil (g : D → PEnv → Option PEnv) (b : XS) (ρ : PEnv) : forL g b [] ρ = some (.nx ρ) := rfl
/-- a loop whose turns fold -/
theorem forL_fold {α : Type} {g : D → PEnv → Option PEnv} {b : XS} (f : α → PEnv) (st : α → D → α) (P : α → List D → Prop) (hb : ∀ a d ds, P a (d :: ds) → (g d (f a)).bind b = some (.nx (f (st a d))) ∧ P (st a d) ds) :
    ∀ (ds : List D) (a : α), P a ds → forL g b ds (f a) = some (.nx (f (ds.foldl st a)))
  | [], a, _ => rfl
  | d :: ds, a, h => by
    obtain ⟨h1, h2⟩ := hb a d ds h
    obtain ⟨ρ1, e1, e2⟩ := bind2 h1
    simp only [forL, e1, e2, Option.bind_some, List.foldl_cons]
    exact forL_fold f st P hb ds _ h2
/-- a loop by an invariant over what is done and what is left -/
theorem forL_inv {β : Type} {g : D → PEnv → Option PEnv} {b : XS} (enc : β → D) (I : List β → List β → PEnv → Prop)
    (hb : ∀ pre x rest ρ, I pre (x :: rest) ρ → ∃ ρ1 ρ2, g (enc x) ρ = some ρ1 ∧ (b ρ1 = some (.nx ρ2) ∨ b ρ1 = some (.ct ρ2)) ∧ I (pre ++ [x]) rest ρ2) :
    ∀ (xs pre : List β) (ρ : PEnv), I pre xs ρ → ∃ ρ', forL g b (xs.map enc) ρ = some (.nx ρ') ∧ I (pre ++ xs) [] ρ'
  | [], pre, ρ, h => ⟨ρ, rfl, by rwa [List.append_nil]⟩
  | x :: xs, pre, ρ, h => by
    obtain ⟨ρ1, ρ2, e1, e2, h2⟩ := hb pre x xs ρ h
    obtain ⟨ρ', e3, h3⟩ := forL_inv enc I hb xs (pre ++ [x]) ρ2 h2
    refine ⟨ρ', ?_, by rwa [List.append_assoc] at h3⟩
    rcases e2 with e2 | e2
    · simp only [List.map_cons, forL, e1, e2, Option.bind_some, e3]
    · simp only [List.map_cons, forL, e1, e2, Option.bind_some, e3]
/-- the same where a turn may end the def -/
theorem forL_inv' {β : Type} {g : D → PEnv → Option PEnv} {b : XS} (enc : β → D) (I : List β → List β → PEnv → Prop) (R : D → Prop)
    (hb : ∀ pre x rest ρ, I pre (x :: rest) ρ → ∃ ρ1, g (enc x) ρ = some ρ1 ∧ ((∃ ρ2, (b ρ1 = some (.nx ρ2) ∨ b ρ1 = some (.ct ρ2)) ∧ I (pre ++ [x]) rest ρ2) ∨ ∃ d, b ρ1 = some (.rt d) ∧ R d)) :
    ∀ (xs pre : List β) (ρ : PEnv), I pre xs ρ → (∃ ρ', forL g b (xs.map enc) ρ = some (.nx ρ') ∧ I (pre ++ xs) [] ρ') ∨ ∃ d, forL g b (xs.map enc) ρ = some (.rt d) ∧ R d
  | [], pre, ρ, h => .inl ⟨ρ, rfl, by rwa [List.append_nil]⟩
  | x :: xs, pre, ρ, h => by
    obtain ⟨ρ1, e1, h | ⟨d, e2, h2⟩⟩ := hb pre x xs ρ h
    · obtain ⟨ρ2, e2, h2⟩ := h
      rcases forL_inv' enc I R hb xs (pre ++ [x]) ρ2 h2 with ⟨ρ', e3, h3⟩ | ⟨d, e3, h3⟩
      · refine .inl ⟨ρ', ?_, by rwa [List.append_assoc] at h3⟩
        rcases e2 with e2 | e2
        · simp only [List.map_cons, forL, e1, e2, Option.bind_some, e3]
        · simp only [List.map_cons, forL, e1, e2, Option.bind_some, e3]
      · refine .inr ⟨d, ?_, h3⟩
        rcases e2 with e2 | e2
        · simp only [List.map_cons, forL, e1, e2, Option.bind_some, e3]
        · simp only [List.map_cons, forL, e1, e2, Option.bind_some, e3]
    · exact .inr ⟨d, by simp only [List.map_cons, forL, e1, e2, Option.bind_some], h2⟩
/-! ### comprehensions -/
theorem lcL_map {α : Type} {g : XG} {f : Xp} {ρ : PEnv} (enc h : α → D) : ∀ (xs : List α), (∀ x ∈ xs, (g (enc x) ρ).bind f = some (h x)) → lcL g tYesP f ρ (xs.map enc) = some (xs.map h)
  | [], _ => rfl
  | x :: xs, hx => by
    obtain ⟨ρ1, e1, e2⟩ := bind2 (hx x (List.mem_cons_self ..))
    have := lcL_map (g := g) (f := f) (ρ := ρ) enc h xs fun y hy => hx y (List.mem_cons_of_mem _ hy)
    simp only [List.map_cons, lcL, e1, e2, tYesP, Option.bind_some, if_true, this]
theorem lcL_filter {α : Type} {g : XG} {t : PEnv → Option Bool} {f : Xp} {ρ : PEnv} (enc h : α → D) (p : α → Bool) : ∀ (xs : List α), (∀ x ∈ xs, ∃ ρ1, g (enc x) ρ = some ρ1 ∧ t ρ1 = some (p x) ∧ (p x = true → f ρ1 = some (h x))) → lcL g t f ρ (xs.map enc) = some ((xs.filter p).map h)
  | [], _ => rfl
  | x :: xs, hx => by
    obtain ⟨ρ1, e1, e2, e3⟩ := hx x (List.mem_cons_self ..)
    have := lcL_filter (g := g) (t := t) (f := f) (ρ := ρ) enc h p xs fun y hy => hx y (List.mem_cons_of_mem _ hy)
    by_cases hp : p x = true
    · simp only [List.map_cons, lcL, e1, e2, hp, e3 hp, Option.bind_some, if_true, this, List.filter_cons_of_pos]
    · simp only [List.map_cons, lcL, e1, e2, hp, Option.bind_some, if_false, this, List.filter_cons_of_neg, Bool.false_eq_true, not_false_eq_true]
/-! ### places, ranges -/
theorem atI_nat {α : Type} (xs : List α) (i : Nat) (h : i < xs.length) : atI xs (i : Int) = some xs[i] := by
  unfold atI ixN
  simp [h]
theorem cut_init (xs : List D) : cutD xs none (some (-1)) = xs.dropLast := by
  unfold cutD
  rw [HT.sIx_none, List.drop_zero, Nat.sub_zero, List.dropLast_eq_take]
  congr 1
  unfold HT.sIx
  simp
  omega
theorem asInts_map (xs : List Int) : asInts (xs.map PyData.int) = some xs := by
  induction xs with
  | nil => rfl
  | cons x xs ih => simp [asInts, ih]
theorem asBools_map (xs : List Bool) : asBools (xs.map PyData.bool) = some xs := by
  induction xs with
  | nil => rfl
  | cons x xs ih => simp [asBools, ih]
theorem oR1_nat (n : Nat) (h : n ≤ 16777216) : oR1 [.int n] = some ((List.range n).map fun i => PyData.int (i : Nat)) := by
  show (if (n : Int) ≤ 16777216 ∧ -(2 ^ 62) ≤ (n : Int) then some (rangeD 0 1 (n : Int).toNat) else none) = _
  rw [if_pos (by constructor <;> omega)]
  unfold rangeD
  simp
/-! ### sizes -/
theorem log2_lt_of {n k : Nat} (hk : 0 < k) (h : n < 2 ^ k) : n.log2 < k := by
  by_cases h0 : n = 0
  · subst h0
    simpa using hk
  · exact (Nat.log2_lt h0).mpr h
/-- small enough for every product and quotient -/
def Sm (k : Nat) (a : Int) : Prop := a.natAbs ≤ 2 ^ k
theorem Sm.mul {j k : Nat} {a b : Int} (h1 : Sm j a) (h2 : Sm k b) : Sm (j + k) (a * b) := by
  unfold Sm at *
  rw [Int.natAbs_mul, Nat.pow_add]
  exact Nat.mul_le_mul h1 h2
theorem Sm.mono {j k : Nat} {a : Int} (h : Sm j a) (hk : j ≤ k) : Sm k a := Nat.le_trans h (Nat.pow_le_pow_right (by decide) hk)
theorem Sm.add {k : Nat} {a b : Int} (h1 : Sm k a) (h2 : Sm k b) : Sm (k + 1) (a + b) := by
  unfold Sm at *
  have := Int.natAbs_add_le a b
  rw [Nat.pow_succ]
  omega
theorem Sm.le {k : Nat} {a b : Int} (h : Sm k a) (hb : b.natAbs ≤ a.natAbs) : Sm k b := Nat.le_trans hb h
theorem Sm.lit {k : Nat} {a : Int} (h : a.natAbs ≤ 1024 := by decide) (hk : 10 ≤ k := by omega) : Sm k a := Nat.le_trans h (Nat.pow_le_pow_right (n := 2) (by decide) hk)
theorem Sm.zero {k : Nat} : Sm k 0 := Nat.zero_le _
theorem Sm.neg {k : Nat} {a : Int} (h : Sm k a) : Sm k (-a) := by
  unfold Sm at *
  rwa [Int.natAbs_neg]
theorem Sm.sub {k : Nat} {a b : Int} (h1 : Sm k a) (h2 : Sm k b) : Sm (k + 1) (a - b) := h1.add h2.neg
theorem Sm.mulOk {j k : Nat} {a b : Int} (h1 : Sm j a) (h2 : Sm k b) (hj : j ≤ 4000) (hk : k ≤ 4000) : mulOk a b = true := by
  have l1 : a.natAbs.log2 < j + 1 := log2_lt_of (by omega) (Nat.lt_of_le_of_lt h1 (Nat.pow_lt_pow_right (by decide) (by omega)))
  have l2 : b.natAbs.log2 < k + 1 := log2_lt_of (by omega) (Nat.lt_of_le_of_lt h2 (Nat.pow_lt_pow_right (by decide) (by omega)))
  unfold Pm.mulOk
  rw [Bool.or_eq_true]
  exact .inr (decide_eq_true (by omega))
theorem Sm.divOk {k : Nat} {a : Int} (h : Sm k a) (h0 : a ≠ 0) (hk : k ≤ 8000) : divOk a = true := by
  have l1 : a.natAbs.log2 < k + 1 := log2_lt_of (by omega) (Nat.lt_of_le_of_lt h (Nat.pow_lt_pow_right (by decide) (by omega)))
  unfold Pm.divOk
  rw [Bool.and_eq_true]
  exact ⟨decide_eq_true h0, decide_eq_true (by omega)⟩
/-! ### fractions in lowest terms -/
/-- p / q in lowest terms, the lower part positive -/
def fr (p q : Int) : D := .tuple [.int (p / (Int.gcd p q : Int)), .int (q / (Int.gcd p q : Int))]
theorem gcd_pos_of {p q : Int} (hq : 0 < q) : 0 < Int.gcd p q := Int.gcd_pos_of_ne_zero_right p (by omega)
theorem fr_scale {p q c : Int} (hq : 0 < q) (hc : 0 < c) : fr (p * c) (q * c) = fr p q := by
  unfold fr
  have g : Int.gcd (p * c) (q * c) = Int.gcd p q * c.natAbs := Int.gcd_mul_right p c q
  have e : ((c.natAbs : Nat) : Int) = c := Int.natAbs_of_nonneg (by omega)
  rw [g, Int.natCast_mul, e, Int.mul_ediv_mul_of_pos_left _ _ hc, Int.mul_ediv_mul_of_pos_left _ _ hc]
/-- its parts: p = p' g, q = q' g -/
theorem fr_parts (p : Int) {q : Int} (hq : 0 < q) : ∃ p' q' g : Int, fr p q = .tuple [.int p', .int q'] ∧ p = p' * g ∧ q = q' * g ∧ 0 < g ∧ 0 < q' ∧ p'.natAbs ≤ p.natAbs ∧ q'.natAbs ≤ q.natAbs := by
  have hg := gcd_pos_of (p := p) hq
  have hg' : 0 < (Int.gcd p q : Int) := by omega
  have d1 : (Int.gcd p q : Int) ∣ p := Int.gcd_dvd_left p q
  have d2 : (Int.gcd p q : Int) ∣ q := Int.gcd_dvd_right p q
  have e1 := Int.ediv_mul_cancel d1
  have e2 := Int.ediv_mul_cancel d2
  have n1 : (p / (Int.gcd p q : Int)).natAbs ≤ p.natAbs := by
    have := congrArg Int.natAbs e1
    rw [Int.natAbs_mul] at this
    rw [← this]
    exact Nat.le_mul_of_pos_right _ (by simpa using hg)
  have n2 : (q / (Int.gcd p q : Int)).natAbs ≤ q.natAbs := by
    have := congrArg Int.natAbs e2
    rw [Int.natAbs_mul] at this
    rw [← this]
    exact Nat.le_mul_of_pos_right _ (by simpa using hg)
  refine ⟨_, _, _, rfl, e1.symm, e2.symm, hg', ?_, n1, n2⟩
  exact Int.ediv_pos_of_pos_of_dvd hq (by omega) d2
theorem fr_eq {p q r s : Int} (hq : 0 < q) (hs : 0 < s) (h : p * s = r * q) : fr p q = fr r s := by
  rw [← fr_scale (p := p) hq hs, ← fr_scale (p := r) hs hq, h, Int.mul_comm q s]
theorem fr_inj {p q r s : Int} (hq : 0 < q) (hs : 0 < s) (h : fr p q = fr r s) : p * s = r * q := by
  obtain ⟨p1, q1, g, e1, rfl, rfl, _⟩ := fr_parts p hq
  obtain ⟨r1, s1, k, e2, rfl, rfl, _⟩ := fr_parts r hs
  rw [e1, e2] at h
  injection h with h
  injection h with h1 h
  injection h with h2 h
  injection h1 with h1
  injection h2 with h2
  subst h1 h2
  grind
end Pm

/-! Pm: the printed functions, read one step at a time. -/
namespace Pm
open PySem PySem.Spec PyProof.Rows L2
section
variable (ρ : PEnv)
def b2 (g : D → D → Option D) : Option D → Option D → Option D
  | some x, some y => g x y
  | _, _ => none
def c2 : Option D → Option (List D) → Option (List D)
  | some x, some xs => some (x :: xs)
  | _, _ => none
def sqO : Option Out → XS → Option Out
  | some (.nx ρ), h => h ρ
  | x, _ => x
def ifO {α : Type} : Option Bool → (PEnv → Option α) → (PEnv → Option α) → PEnv → Option α
  | some true, g, _, ρ => g ρ
  | some false, _, h, ρ => h ρ
  | none, _, _, _ => none
def stO (i : Nat) : Option D → PEnv → Option Out
  | some d, ρ => if i < ρ.length then some (.nx (ρ.set i (some d))) else none
  | none, _ => none
def endO : Option Out → Option D
  | some (.nx _) => some .none
  | some (.rt d) => some d
  | _ => none
def andO : Option D → Xp → PEnv → Option D
  | some (.bool true), f, ρ => f ρ
  | some (.bool false), _, _ => some (.bool false)
  | _, _, _ => none
def orO : Option D → Xp → PEnv → Option D
  | some (.bool true), _, _ => some (.bool true)
  | some (.bool false), f, ρ => f ρ
  | _, _, _ => none
def tyes : PEnv → Option Bool := fun _ => some true
def tno : PEnv → Option Bool := fun _ => some false
def mkT (ds : List D) : Option D := if ds.length ≤ 1000 then some (.tuple ds) else none
def mkL (ds : List D) : Option D := if ds.length ≤ 1000 then some (.list ds) else none
def chP (g' : D → D → Option D) (y : D) (fc : Xp) (ρ : PEnv) : Option D → Option D
  | some (.bool true) => b2 g' (some y) (fc ρ)
  | some (.bool false) => some (.bool false)
  | _ => none
def chO (g g' : D → D → Option D) : Option D → Option D → Xp → PEnv → Option D
  | some x, some y, fc, ρ => chP g' y fc ρ (g x y)
  | _, _, _, _ => none
def slO : Option D → Option (Option Int) → Option (Option Int) → Option D
  | some x, some i, some j => oSl x i j
  | _, _, _ => none
def atO : Option D → Option (Option Int)
  | some (.int i) => some (some i)
  | _ => none
def lcO (g : XG) (t : PEnv → Option Bool) (f : Xp) (ρ : PEnv) : Option (List D) → Option D
  | some ds => (lcL g t f ρ ds).map .list
  | none => none
def forO (g : D → PEnv → Option PEnv) (b : XS) (ρ : PEnv) : Option (List D) → Option Out
  | some ds => forL g b ds ρ
  | none => none
def gsO (gs : List D → PEnv → Option PEnv) (ds : List D) : Option PEnv → Option PEnv
  | some ρ => gs ds ρ
  | none => none
def nxO : Option PEnv → Option Out
  | some ρ => some (.nx ρ)
  | none => none
def tgO (g : D → PEnv → Option PEnv) : Option D → PEnv → Option Out
  | some d, ρ => nxO (g d ρ)
  | none, _ => none
def paO (is : List Nat) : Option (List D) → PEnv → Option Out
  | some ds, ρ => if is.all (fun i => decide (i < ρ.length)) && decide (ds.length = is.length) then some (.nx (setAll is ds ρ)) else none
  | none, _ => none
def apO (i : Nat) : Option D → Option D → PEnv → Option Out
  | some (.list xs), some y, ρ => if xs.length < 16777216 ∧ i < ρ.length then some (.nx (ρ.set i (some (.list (xs ++ [y]))))) else none
  | _, _, _ => none
def exO (i : Nat) : Option D → Option D → PEnv → Option Out
  | some (.list xs), some (.list ys), ρ => if xs.length + ys.length ≤ 16777216 ∧ i < ρ.length then some (.nx (ρ.set i (some (.list (xs ++ ys))))) else none
  | _, _, _ => none
def plO (i : Nat) (xs : List D) (y : D) (ρ : PEnv) : Option Nat → Option Out
  | some n => if i < ρ.length then some (.nx (ρ.set i (some (.list (xs.set n y))))) else none
  | none => none
def ptO (i : Nat) : Option D → Option D → Option D → PEnv → Option Out
  | some y, some (.list xs), some (.int j), ρ => plO i xs y ρ (ixN xs.length j)
  | _, _, _, _ => none
def pkO (i : Nat) : Option D → Option D → Option D → PEnv → Option Out
  | some y, some (.dict kd), some (.int j), ρ => if kd.length < 16777216 ∧ i < ρ.length then some (.nx (ρ.set i (some (.dict (dPutD kd j y))))) else none
  | _, _, _, _ => none
theorem xVar_a (i : Nat) : xVar i ρ = ρ.getD i none := rfl
theorem xC_a (d : D) : xC d ρ = some d := rfl
theorem xBin_a (g : D → D → Option D) (fa fb : Xp) : xBin g fa fb ρ = b2 g (fa ρ) (fb ρ) := by
  unfold xBin
  cases fa ρ <;> cases fb ρ <;> rfl
theorem xUn_a (g : D → Option D) (fa : Xp) : xUn g fa ρ = (fa ρ).bind g := rfl
theorem tOf_a (f : Xp) : tOf f ρ = (f ρ).bind dB := rfl
theorem tTru_a (f : Xp) : tTru f ρ = (f ρ).bind oTru := rfl
theorem tNotP_a (f : PEnv → Option Bool) : tNotP f ρ = (f ρ).map (!·) := rfl
theorem tAndP_a (f g : PEnv → Option Bool) : tAndP f g ρ = ifO (f ρ) g tno ρ := by
  unfold tAndP
  cases f ρ with
  | none => rfl
  | some b => cases b <;> rfl
theorem tOrP_a (f g : PEnv → Option Bool) : tOrP f g ρ = ifO (f ρ) tyes g ρ := by
  unfold tOrP
  cases f ρ with
  | none => rfl
  | some b => cases b <;> rfl
theorem tyes_a : tyes ρ = some true := rfl
theorem tno_a : tno ρ = some false := rfl
theorem tYesP_a : tYesP ρ = some true := rfl
theorem xNil_a : xNil ρ = some [] := rfl
theorem xCons_a (f : Xp) (fs : XL) : xCons f fs ρ = c2 (f ρ) (fs ρ) := by
  unfold xCons
  cases f ρ <;> cases fs ρ <;> rfl
theorem xTup_a (fs : XL) : xTup fs ρ = (fs ρ).bind mkT := rfl
theorem xLst_a (fs : XL) : xLst fs ρ = (fs ρ).bind mkL := rfl
theorem xAnd_a (fa fb : Xp) : xAnd fa fb ρ = andO (fa ρ) fb ρ := by
  unfold xAnd
  cases fa ρ with
  | none => rfl
  | some d => cases d with
    | bool b => cases b <;> rfl
    | _ => rfl
theorem xOr_a (fa fb : Xp) : xOr fa fb ρ = orO (fa ρ) fb ρ := by
  unfold xOr
  cases fa ρ with
  | none => rfl
  | some d => cases d with
    | bool b => cases b <;> rfl
    | _ => rfl
theorem xIf_a (c : PEnv → Option Bool) (fa fb : Xp) : xIf c fa fb ρ = ifO (c ρ) fa fb ρ := by
  unfold xIf
  cases c ρ with
  | none => rfl
  | some b => cases b <;> rfl
theorem xChain_a (g g' : D → D → Option D) (fa fb fc : Xp) : xChain g g' fa fb fc ρ = chO g g' (fa ρ) (fb ρ) fc ρ := by
  unfold xChain
  cases fa ρ with
  | none => rfl
  | some x => cases fb ρ with
    | none => rfl
    | some y =>
      simp only [Option.bind_some, chO]
      cases g x y with
      | none => rfl
      | some z => cases z with
        | bool b => cases b <;> (simp only [Option.bind_some, dB, chP]; cases fc ρ <;> rfl)
        | _ => rfl
theorem oNo_a : oNo ρ = some none := rfl
theorem oAt_a (f : Xp) : oAt f ρ = atO (f ρ) := by
  unfold oAt
  cases f ρ with
  | none => rfl
  | some d => cases d <;> rfl
theorem xSl_a (f : Xp) (lo hi : XO) : xSl f lo hi ρ = slO (f ρ) (lo ρ) (hi ρ) := by
  unfold xSl
  cases f ρ <;> cases lo ρ <;> cases hi ρ <;> rfl
theorem xCall_a (g : List D → Option D) (fs : XL) : xCall g fs ρ = (fs ρ).bind g := rfl
theorem xSeq_a (f : Xp) : xSeq f ρ = (f ρ).bind seqD := rfl
theorem xIt_a (g : List D → Option (List D)) (fs : XL) : xIt g fs ρ = (fs ρ).bind g := rfl
theorem xLc_a (it : XL) (g : XG) (t : PEnv → Option Bool) (f : Xp) (own : List Nat) : xLc it g t f own ρ = lcO g t f (wipeP ρ own) (it ρ) := by
  unfold xLc
  cases it ρ <;> rfl
theorem gSet_a (i : Nat) (d : D) : gSet i d ρ = if i < ρ.length then some (ρ.set i (some d)) else none := rfl
theorem gTupD_a (n : Nat) (g : List D → PEnv → Option PEnv) (ds : List D) : gTupD n g (.tuple ds) ρ = if ds.length = n then g ds ρ else none := rfl
theorem gsNil_a : gsNil [] ρ = some ρ := rfl
theorem gsCons_a (g : XG) (gs : List D → PEnv → Option PEnv) (d : D) (ds : List D) : gsCons g gs (d :: ds) ρ = gsO gs ds (g d ρ) := by
  show (g d ρ).bind (fun ρ' => gs ds ρ') = _
  cases g d ρ <;> rfl
theorem sNop_a : sNop ρ = some (.nx ρ) := rfl
theorem sBrk_a : sBrk ρ = some (.bk ρ) := rfl
theorem sCnt_a : sCnt ρ = some (.ct ρ) := rfl
theorem sSeq_a (g h : XS) : sSeq g h ρ = sqO (g ρ) h := by
  unfold sSeq
  cases g ρ with
  | none => rfl
  | some o => cases o <;> rfl
theorem sRet_a (f : Xp) : sRet f ρ = (f ρ).map .rt := rfl
theorem sIf_a (c : PEnv → Option Bool) (g h : XS) : sIf c g h ρ = ifO (c ρ) g h ρ := by
  unfold sIf
  cases c ρ with
  | none => rfl
  | some b => cases b <;> rfl
theorem sSet_a (i : Nat) (f : Xp) : sSet i f ρ = stO i (f ρ) ρ := by
  unfold sSet
  cases f ρ <;> rfl
theorem sTgt_a (g : D → PEnv → Option PEnv) (f : Xp) : sTgt g f ρ = tgO g (f ρ) ρ := by
  unfold sTgt
  cases f ρ with
  | none => rfl
  | some d =>
    show (g d ρ).map .nx = nxO (g d ρ)
    cases g d ρ <;> rfl
theorem sAug_a (i : Nat) (g : D → D → Option D) (f : Xp) : sAug i g f ρ = stO i (b2 g (ρ.getD i none) (f ρ)) ρ := by
  unfold sAug
  rw [xVar_a]
  cases ρ.getD i none with
  | none => rfl
  | some x => cases f ρ with
    | none => rfl
    | some y =>
      simp only [Option.bind_some, b2]
      cases g x y <;> rfl
theorem sApp_a (i : Nat) (f : Xp) : sApp i f ρ = apO i (ρ.getD i none) (f ρ) ρ := by
  unfold sApp
  rw [xVar_a]
  cases ρ.getD i none with
  | none => rfl
  | some x => cases f ρ with
    | none => cases x <;> rfl
    | some y => cases x <;> rfl
theorem sExt_a (i : Nat) (f : Xp) : sExt i f ρ = exO i (ρ.getD i none) (f ρ) ρ := by
  unfold sExt
  rw [xVar_a]
  cases ρ.getD i none with
  | none => rfl
  | some x => cases f ρ with
    | none => cases x <;> rfl
    | some y => cases x <;> cases y <;> rfl
theorem sPut_a (i : Nat) (fj f : Xp) : sPut i fj f ρ = ptO i (f ρ) (ρ.getD i none) (fj ρ) ρ := by
  unfold sPut
  rw [xVar_a]
  cases f ρ with
  | none => rfl
  | some y => cases ρ.getD i none with
    | none => rfl
    | some x => cases fj ρ with
      | none => cases x <;> rfl
      | some j => cases x with
        | list xs => cases j with
          | int j =>
            show (ixN xs.length j).bind _ = plO i xs y ρ (ixN xs.length j)
            cases ixN xs.length j <;> rfl
          | _ => rfl
        | _ => rfl
theorem sPutK_a (i : Nat) (fj f : Xp) : sPutK i fj f ρ = pkO i (f ρ) (ρ.getD i none) (fj ρ) ρ := by
  unfold sPutK
  rw [xVar_a]
  cases f ρ with
  | none => rfl
  | some y => cases ρ.getD i none with
    | none => rfl
    | some x => cases fj ρ with
      | none => cases x <;> rfl
      | some j => cases x <;> cases j <;> rfl
theorem pkO_s (i : Nat) (kd : List (D × D)) (y : D) (j : Int) : pkO i (some y) (some (.dict kd)) (some (.int j)) ρ = if kd.length < 16777216 ∧ i < ρ.length then some (.nx (ρ.set i (some (.dict (dPutD kd j y))))) else none := rfl
theorem xLc2_a (it : XL) (g : XG) (t : PEnv → Option Bool) (it1 : XL) (g1 : XG) (t1 : PEnv → Option Bool) (f : Xp) (own vs1 : List Nat) (ds : List D) (h : it ρ = some ds) : xLc2 it g t it1 g1 t1 f own vs1 ρ = (lc2L g t it1 g1 t1 f vs1 (wipeP ρ own) ds).bind fun ys => if ys.length ≤ 16777216 then some (.list ys) else none := by
  unfold xLc2
  rw [h]
  rfl
theorem sFor_a (it : XL) (g : D → PEnv → Option PEnv) (b : XS) : sFor it g b ρ = forO g b ρ (it ρ) := by
  unfold sFor
  cases it ρ <;> rfl
theorem sWhile_a (c : PEnv → Option Bool) (b : XS) : sWhile c b ρ = whileF c b fuelN ρ := rfl
theorem sPar_a (is : List Nat) (fs : XL) : sPar is fs ρ = paO is (fs ρ) ρ := by
  unfold sPar
  cases fs ρ <;> rfl
theorem runD_a (n N : Nat) (g : XS) (ds : List D) : runD n N g ds = endO (g (ds.map some ++ List.replicate (N - n) none)) := by
  unfold runD
  cases g (ds.map some ++ List.replicate (N - n) none) with
  | none => rfl
  | some o => cases o <;> rfl
theorem b2_s (g : D → D → Option D) (x y : D) : b2 g (some x) (some y) = g x y := rfl
theorem c2_s (x : D) (xs : List D) : c2 (some x) (some xs) = some (x :: xs) := rfl
theorem sqO_nx (h : XS) : sqO (some (.nx ρ)) h = h ρ := rfl
theorem sqO_rt (d : D) (h : XS) : sqO (some (.rt d)) h = some (.rt d) := rfl
theorem sqO_bk (h : XS) : sqO (some (.bk ρ)) h = some (.bk ρ) := rfl
theorem sqO_ct (h : XS) : sqO (some (.ct ρ)) h = some (.ct ρ) := rfl
section
variable {α : Type}
theorem ifO_t (g h : PEnv → Option α) : ifO (some true) g h ρ = g ρ := rfl
theorem ifO_f (g h : PEnv → Option α) : ifO (some false) g h ρ = h ρ := rfl
end
theorem stO_s (i : Nat) (d : D) : stO i (some d) ρ = if i < ρ.length then some (.nx (ρ.set i (some d))) else none := rfl
theorem endO_nx  : endO (some (.nx ρ)) = some .none := rfl
theorem endO_rt (d : D) : endO (some (.rt d)) = some d := rfl
theorem andO_t (f : Xp) : andO (some (.bool true)) f ρ = f ρ := rfl
theorem andO_f (f : Xp) : andO (some (.bool false)) f ρ = some (.bool false) := rfl
theorem orO_t (f : Xp) : orO (some (.bool true)) f ρ = some (.bool true) := rfl
theorem orO_f (f : Xp) : orO (some (.bool false)) f ρ = f ρ := rfl
theorem chO_s (g g' : D → D → Option D) (x y : D) (f : Xp) : chO g g' (some x) (some y) f ρ = chP g' y f ρ (g x y) := rfl
theorem chP_t (g' : D → D → Option D) (y : D) (f : Xp) : chP g' y f ρ (some (.bool true)) = b2 g' (some y) (f ρ) := rfl
theorem chP_f (g' : D → D → Option D) (y : D) (f : Xp) : chP g' y f ρ (some (.bool false)) = some (.bool false) := rfl
theorem slO_s (x : D) (i j : Option Int) : slO (some x) (some i) (some j) = oSl x i j := rfl
theorem atO_i (i : Int) : atO (some (.int i)) = some (some i) := rfl
theorem lcO_s (g : XG) (t : PEnv → Option Bool) (f : Xp) (ds : List D) : lcO g t f ρ (some ds) = (lcL g t f ρ ds).map .list := rfl
theorem forO_s (g : XG) (b : XS) (ds : List D) : forO g b ρ (some ds) = forL g b ds ρ := rfl
theorem gsO_s (gs : List D → PEnv → Option PEnv) (ds : List D) : gsO gs ds (some ρ) = gs ds ρ := rfl
theorem nxO_s  : nxO (some ρ) = some (.nx ρ) := rfl
theorem tgO_s (g : XG) (d : D) : tgO g (some d) ρ = nxO (g d ρ) := rfl
theorem paO_s (is : List Nat) (ds : List D) : paO is (some ds) ρ = if is.all (fun i => decide (i < ρ.length)) && decide (ds.length = is.length) then some (.nx (setAll is ds ρ)) else none := rfl
theorem apO_s (i : Nat) (xs : List D) (y : D) : apO i (some (.list xs)) (some y) ρ = if xs.length < 16777216 ∧ i < ρ.length then some (.nx (ρ.set i (some (.list (xs ++ [y]))))) else none := rfl
theorem exO_s (i : Nat) (xs ys : List D) : exO i (some (.list xs)) (some (.list ys)) ρ = if xs.length + ys.length ≤ 16777216 ∧ i < ρ.length then some (.nx (ρ.set i (some (.list (xs ++ ys))))) else none := rfl
theorem plO_s (i : Nat) (xs : List D) (y : D) (n : Nat) : plO i xs y ρ (some n) = if i < ρ.length then some (.nx (ρ.set i (some (.list (xs.set n y))))) else none := rfl
theorem ptO_s (i : Nat) (xs : List D) (y : D) (j : Int) : ptO i (some y) (some (.list xs)) (some (.int j)) ρ = plO i xs y ρ (ixN xs.length j) := rfl
section
variable (a b : Int) (t : Bool) (xs ys : List D) (x y z : D)
theorem dB_b  : dB (.bool t) = some t := rfl
theorem tru_b  : oTru (.bool t) = some t := rfl
theorem tru_n  : oTru .none = some false := rfl
theorem tru_i  : oTru (.int a) = some (a != 0) := rfl
theorem tru_l  : oTru (.list xs) = some (!xs.isEmpty) := rfl
theorem tru_t  : oTru (.tuple xs) = some (!xs.isEmpty) := rfl
theorem is_n  : oIs x .none = some (.bool (isNone x)) := rfl
theorem isn_n  : oIsNot x .none = some (.bool (!isNone x)) := rfl
theorem nn_n  : isNone .none = true := rfl
theorem nn_i  : isNone (.int a) = false := rfl
theorem nn_b  : isNone (.bool t) = false := rfl
theorem nn_t  : isNone (.tuple xs) = false := rfl
theorem nn_l  : isNone (.list xs) = false := rfl
theorem add_ii  : oAdd (.int a) (.int b) = some (.int (a + b)) := rfl
theorem add'_ii  : oAdd' (.int a) (.int b) = some (.int (a + b)) := rfl
theorem sub_ii  : oSub (.int a) (.int b) = some (.int (a - b)) := rfl
theorem neg_i  : oNeg (.int a) = some (.int (-a)) := rfl
theorem lt_ii  : oLt (.int a) (.int b) = some (.bool (decide (a < b))) := rfl
theorem le_ii  : oLe (.int a) (.int b) = some (.bool (decide (a ≤ b))) := rfl
theorem gt_ii  : oGt (.int a) (.int b) = some (.bool (decide (b < a))) := rfl
theorem ge_ii  : oGe (.int a) (.int b) = some (.bool (decide (b ≤ a))) := rfl
theorem ix_l  : oIx (.list xs) (.int a) = atI xs a := rfl
theorem ix_t  : oIx (.tuple xs) (.int a) = atI xs a := rfl
theorem ix_s  : oIx (scr xs) (.int a) = atI xs a := rfl
theorem at0 : atI (x :: xs) 0 = some x := by
  unfold atI ixN
  simp
theorem at1 : atI (x :: y :: xs) 1 = some y := by
  unfold atI ixN
  rw [if_pos (by decide), if_pos (by simp only [List.length_cons]; omega)]
  rfl
theorem at2 : atI (x :: y :: z :: xs) 2 = some z := by
  unfold atI ixN
  rw [if_pos (by decide), if_pos (by simp only [List.length_cons]; omega)]
  rfl
theorem sl_l (lo hi : Option Int) : oSl (.list xs) lo hi = some (.list (cutD xs lo hi)) := rfl
theorem sl_t (lo hi : Option Int) : oSl (.tuple xs) lo hi = some (.tuple (cutD xs lo hi)) := rfl
theorem len_l  : bLen [.list xs] = some (.int xs.length) := rfl
theorem len_t  : bLen [.tuple xs] = some (.int xs.length) := rfl
theorem len_s  : bLen [scr xs] = some (.int xs.length) := rfl
theorem abs_i  : bAbs [.int a] = some (.int (if a < 0 then -a else a)) := rfl
theorem int_i  : bInt [.int a] = some (.int a) := rfl
theorem int_b  : bInt [.bool t] = some (.int (if t then 1 else 0)) := rfl
theorem max_ii  : bMax2 [.int a, .int b] = some (.int (if b > a then b else a)) := rfl
theorem min_ii  : bMin2 [.int a, .int b] = some (.int (if b < a then b else a)) := rfl
theorem tup_s  : bTuple [x] = (seqD x).map .tuple := rfl
theorem lst_s  : bList [x] = (seqD x).map .list := rfl
theorem seq_l  : seqD (.list xs) = some xs := rfl
theorem seq_t  : seqD (.tuple xs) = some xs := rfl
theorem sum_s  : bSum [x] = (seqD x).bind fun xs => (asInts xs).map fun ns => .int ns.sum := rfl
theorem wipe_n (ρ : PEnv) : wipeP ρ [] = ρ := rfl
theorem wipe_c (ρ : PEnv) (v : Nat) (vs : List Nat) : wipeP ρ (v :: vs) = (wipeP ρ vs).set v none := rfl
variable {a b : Int} {xs ys : List D}
theorem mul_ii (h : mulOk a b = true) : oMul' (.int a) (.int b) = some (.int (a * b)) := if_pos h
theorem fdiv_ii (h : divOk b = true) : oFdiv (.int a) (.int b) = some (.int (a.fdiv b)) := if_pos h
theorem mod_ii (h : b ≠ 0) : oMod (.int a) (.int b) = some (.int (a.fmod b)) := if_pos h
theorem add_ll (h : xs.length + ys.length ≤ 16777216) : oAdd (.list xs) (.list ys) = some (.list (xs ++ ys)) := if_pos h
theorem add_tt (h : xs.length + ys.length ≤ 16777216) : oAdd (.tuple xs) (.tuple ys) = some (.tuple (xs ++ ys)) := if_pos h
end
end
end Pm

/-! Pm: sorted of data, the greatest of ints, dict comprehensions. -/
namespace Pm
open PySem PySem.Spec PyProof.Rows L2
/-! ### the greatest of ints -/
section
variable {X : Cx}
theorem cb_maxI (hc : X.calm = true := by rfl) : CallR X (.builtin "max") (rC X.K .f bMaxI) := by
  intro pins s σ H vs us Q I r ⟨A, ds, d, tr, w, e, q⟩
  unfold bMaxI at e
  split at e
  · obtain ⟨v, rfl, w1⟩ := p1 w
    obtain ⟨xs, e1, e⟩ := bind2 e
    obtain ⟨ns, e2, e⟩ := bind2 e
    obtain ⟨mn, e3, e⟩ := Option.map_eq_some_iff.mp e
    subst e
    obtain ⟨a, vs, rfl, ha, ra⟩ := w1.seq e1
    rw [ref1 r]
    have hv := ra.ints e2
    subst hv
    refine call_max_walk (sq_iter (show X.A.in1.handled = none from I.ok.hd hc) I ha fun its J fp wr St h₂ rv W st hfp kp => ?_)
    have hl := rv.length
    rw [List.length_map] at hl
    have hne : 0 < ns.length := by
      cases ns with
      | nil => simp at e3
      | cons _ _ => simp
    refine ⟨_, _, _, _, _, _, _, rfl, W, st, hfp, by omega, CmpOf.ints_gt (fun i => ns.getD i 0) (fun i v h => intsAt rv i v h), fun v h' tk hv hk => ?_⟩
    obtain ⟨t, rfl⟩ := intsAt rv _ _ hv
    obtain ⟨b1, b2⟩ := argBest_gt (fun i => ns.getD i 0) (its.length - 1)
    refine ⟨.int mn, H, I.kept (kp h' hk), ⟨t, ?_⟩, q _ H (Same.refl H) Res.int⟩
    congr 1
    rw [List.max?_eq_some_iff] at e3
    refine Int.le_antisymm ?_ ?_
    · have hb : argBest (fun i j => decide (ns.getD i 0 > ns.getD j 0)) (its.length - 1) < ns.length := by
        have h1 : argBest (fun i j => decide (ns.getD i 0 > ns.getD j 0)) (its.length - 1) ≤ its.length - 1 := b1
        omega
      exact e3.2 _ (by rw [List.getD_eq_getElem?_getD, List.getElem?_eq_getElem hb]; exact List.getElem_mem hb)
    · obtain ⟨i, hi, e4⟩ := List.mem_iff_getElem.mp e3.1
      have := b2 i (by omega)
      simp only [List.getD_eq_getElem?_getD, List.getElem?_eq_getElem hi, Option.getD_some] at this
      rw [e4] at this
      simpa [List.getD_eq_getElem?_getD] using this
  · cases e
/-! ### sorted, of data -/
/-- data that sorted takes -/
def okSort (ds : List D) : Bool := (ds.all fun x => ds.all fun y => PySem.W.alike x y) && (ds.all fun x => shp x && decide (x.depth ≤ 20)) && decide (ds.length ≤ 16777216) &&
  ((ds.all fun x => match x with | .tuple (_ :: _) => true | _ => false) || ds.all fun x => match x with | .none => false | .tuple _ => false | _ => true)
def bSorted : List D → Option D
  | [x] => (seqD x).bind fun ds => if okSort ds then some (.list (ds.mergeSort (PySem.W.dataLe false id))) else none
  | _ => none
theorem okSort_facts {ds : List D} (h : okSort ds = true) : PySem.W.AllAlike ds ∧ (∀ x ∈ ds, shp x = true ∧ x.depth ≤ 20) ∧ ds.length ≤ 16777216 ∧ PySem.W.Sortable ds := by
  unfold okSort at h
  rw [Bool.and_eq_true, Bool.and_eq_true, Bool.and_eq_true] at h
  obtain ⟨⟨⟨h1, h2⟩, h3⟩, h4⟩ := h
  refine ⟨fun d hd d' hd' => ?_, fun x hx => ?_, of_decide_eq_true h3, ?_⟩
  · exact List.all_eq_true.mp (List.all_eq_true.mp h1 d hd) d' hd'
  · have := List.all_eq_true.mp h2 x hx
    rw [Bool.and_eq_true, decide_eq_true_eq] at this
    exact this
  · rw [Bool.or_eq_true] at h4
    rcases h4 with h4 | h4
    · refine .inl fun d hd => ?_
      have := List.all_eq_true.mp h4 d hd
      split at this
      · exact ⟨_, _, rfl⟩
      · cases this
    · refine .inr fun d hd => ?_
      have := List.all_eq_true.mp h4 d hd
      split at this
      · cases this
      · cases this
      · next h1 h2 => exact ⟨h1, h2⟩
theorem zip_each {K : PySem.W.Frag} {A : Addr → Prop} {H : Hp} : ∀ {vs : List V} {us : List Value} {ds : List D}, Vals vs us → RpL K A H vs ds → PySem.W.EachIs (fun u (p : V × D) => RelV p.1 u ∧ Rp K A H p.1 p.2) us (vs.zip ds)
  | _, _, _, .nil, .nil => .nil
  | _, _, _, .cons h r, .cons h' r' => .cons ⟨h, h'⟩ (zip_each r r')
theorem each_out {K : PySem.W.Frag} {A : Addr → Prop} {H : Hp} : ∀ {us : List Value} {ps : List (V × D)}, PySem.W.EachIs (fun u (p : V × D) => RelV p.1 u ∧ Rp K A H p.1 p.2) us ps → Vals (ps.map Prod.fst) us ∧ RpL K A H (ps.map Prod.fst) (ps.map Prod.snd)
  | _, _, .nil => ⟨.nil, .nil⟩
  | _, _, .cons h r => ⟨.cons h.1 (each_out r).1, .cons h.2 (each_out r).2⟩
theorem each_mono {α β : Type} {R S : α → β → Prop} (h : ∀ a b, R a b → S a b) : ∀ {as : List α} {bs : List β}, PySem.W.EachIs R as bs → PySem.W.EachIs S as bs
  | _, _, .nil => .nil
  | _, _, .cons a r => .cons (h _ _ a) (each_mono h r)
theorem each_mem {α β : Type} {R S : α → β → Prop} : ∀ {as : List α} {bs : List β}, PySem.W.EachIs R as bs → (∀ a b, b ∈ bs → R a b → S a b) → PySem.W.EachIs S as bs
  | _, _, .nil, _ => .nil
  | _, _, .cons a r, h => .cons (h _ _ (by simp) a) (each_mem r fun a b hb hr => h a b (List.mem_cons_of_mem _ hb) hr)
end
section
open PySem.W PySem.Calls
variable {prog : Program} {w : World} {A : Around} {E : Value → Shared → Prop} {s : Shared} {β : Type} {R : Value → β → Prop} {enc : β → D} {us : List Value} {bs : List β}
/-- the heap in which the items are told off -/
def tookH (h : Heap) (us : List Value) : Heap := (h.push (seqObj "list" #[] 0)).update h.objs.size (Obj.mapSeq fun z => z ++ us.toArray)
theorem tookH_size (h : Heap) (us : List Value) : (tookH h us).objs.size = h.objs.size + 1 := by
  unfold tookH
  rw [Heap.size_update, size_push']
theorem tookH_old {h : Heap} {us : List Value} {b : Addr} {u : Obj} (hb : h.get? b = some u) : (tookH h us).get? b = some u := by
  unfold tookH
  rw [Heap.get?_update_ne _ _ _ _ (Nat.ne_of_lt (Heap.lt_size hb))]
  exact Heap.get?_push_of_some _ hb
theorem took_seq {l : Addr} {T : String} {o : Obj} {n : Nat} {Q : List Value → Shared → Prop} (hT : T = "list" ∨ T = "tuple") (ho : s.heap.get? l = some o) (hc : o.cls = .type T) (hd : o.data = .seq us.toArray n) (hsz : us.length ≤ sizeLine)
    (hQ : Q us { s with heap := tookH s.heap us }) : wpAny (model prog w) A (collect (.ref l)) Q E s := by
  unfold collect
  apply wpAny_bind
  apply wpAny_runValue
  apply codeAny_builtin entry_proto_collect'
  show wpAny _ _ (do again (.builtin "list.__iadd__" ⟨[← newList [], .ref l], []⟩)) _ _ _
  apply wpAny_bind
  apply wpAny_newList
  · apply wpAny_pure
    refine ⟨Code.quiet_builtin _ (by decide +kernel), ?_⟩
    apply codeAny_builtin entry_list_iadd'
    show wpAny _ _ (Builtin.List.listExtendWith (.ref s.heap.objs.size) (.ref l) _) _ _ { s with heap := s.heap.push (seqObj "list" #[] 0) }
    unfold Builtin.List.listExtendWith
    have g1 := Heap.get?_push_of_some (seqObj "list" #[] 0) ho
    have g2 : (s.heap.push (seqObj "list" #[] 0)).get? s.heap.objs.size = some (seqObj "list" #[] 0) := Heap.get?_push_size _ rfl
    refine wpAny_bind (wpAny_typeOf (T := T) ⟨o, g1, hc⟩ ?_)
    have hb : (Builtin.List.listSameRef (.ref s.heap.objs.size) (.ref l) || Value.type T == Value.type "list" || Value.type T == Value.type "tuple") = true := by
      rcases hT with rfl | rfl
      · simp
      · simp
    rw [if_pos hb]
    apply wpAny_bind
    apply listItems_at g1 hd
    apply wpAny_bind
    apply listItems_at g2 rfl
    rw [if_neg (by simp)]
    apply wpAny_bind
    refine listUpdate_at (xs := #[]) (n := 0) g2 rfl ?_ (Nat.zero_le _) (by show ((#[] : Array Value) ++ us.toArray).size ≤ sizeLine + 1; simp only [Array.size_append, List.size_toArray, List.length_nil]; omega)
    apply wpAny_pure
    show wpAny (model prog w) A (do
      let o ← load s.heap.objs.size
      match o.data with
      | .seq zs _ => pure zs.toList
      | _ => unsupported "internal:collect") Q E { s with heap := tookH s.heap us }
    apply wpAny_bind
    refine wpAny_load (get?_update_seq g2 _) ?_
    show wpAny _ _ (pure ((#[] : Array Value) ++ us.toArray).toList) Q E _
    rw [show ((#[] : Array Value) ++ us.toArray).toList = us by simp]
    exact wpAny_pure hQ
  · exact Nat.zero_le _
/-- sorted(xs), xs a list or a tuple that reads as data -/
theorem sorted_seq {l : Addr} {T : String} {o : Obj} {n : Nat} {Q : Value → Shared → Prop} (hT : T = "list" ∨ T = "tuple") (ho : s.heap.get? l = some o) (hc : o.cls = .type T) (hd : o.data = .seq us.toArray n)
    (e : EachIs R us bs) (er : EachIs (fun v b => ∃ as, Reads s.heap v (enc b) as) us bs) (hal : AllAlike (bs.map enc)) (hk : Sortable (bs.map enc)) (hL : bs.length ≤ sizeLine) (hu : ∀ b, b ∈ bs → A.units + 2 + (enc b).depth < cLine)
    (hQ : ∀ (h' : Heap) (d : Addr) (out : List Value) (m : Nat), (∀ b u, s.heap.get? b = some u → h'.get? b = some u) → s.heap.objs.size ≤ d → h'.get? d = some (seqObj "list" out.toArray m) → EachIs R out (bs.mergeSort (dataLe false enc)) → Q (.ref d) { s with heap := h' }) :
    wpAny (model prog w) A (call (.builtin "sorted") [.ref l]) Q E s := by
  have hsz : us.length ≤ sizeLine := by rw [e.length]; exact hL
  refine Calls.call_function_entry kind_sorted plain_sorted entry_sorted (args_sorted1 _) ?_
  unfold Builtin.«sorted»
  apply wpAny_bind (m := checkCount "sorted" 1 1 _)
  apply wpAny_pure
  refine wpAny_bind (took_seq hT ho hc hd hsz ?_)
  refine wpAny_bind (wpAny_newList ?_ hsz)
  generalize hh1 : tookH s.heap us = h1
  have k1 : ∀ b u, s.heap.get? b = some u → h1.get? b = some u := fun b u hb => by rw [← hh1]; exact tookH_old hb
  have hge : s.heap.objs.size ≤ h1.objs.size := by rw [← hh1, tookH_size]; omega
  have hs2 : (h1.push (seqObj "list" us.toArray 0)).get? h1.objs.size = some (seqObj "list" us.toArray 0) := Heap.get?_push_size _ rfl
  have k2 : ∀ b u, s.heap.get? b = some u → (h1.push (seqObj "list" us.toArray 0)).get? b = some u := fun b u hb => Heap.get?_push_of_some _ (k1 b u hb)
  have hlt : ∀ b u, s.heap.get? b = some u → b < h1.objs.size := fun b u hb => Heap.lt_size (k1 b u hb)
  have er2 : EachIs (fun v b => ∃ as, Reads (sortingHeap (h1.push (seqObj "list" us.toArray 0)) h1.objs.size us) v (enc b) as) us bs := each_mono (fun v b ⟨as, r⟩ => ⟨as, PyProof.Rows.Reads.keeps (fun b u hb => sortingHeap_old (Nat.ne_of_lt (hlt b u hb)) (k2 b u hb)) r⟩) er
  have hS := SortsAt.data (prog := prog) (w := w) (A := A.in1.in1) (s := { s with heap := sortingHeap (h1.push (seqObj "list" us.toArray 0)) h1.objs.size us }) (each_map (R := fun v d => ∃ as, Reads (sortingHeap (h1.push (seqObj "list" us.toArray 0)) h1.objs.size us) v d as) enc er2) hal hk (bound_map fun b hb => hu b hb)
  refine wpAny_bind (wpAny_holding ?_)
  refine wpAny_call_entry slot_list_sort ⟨_, hs2, rfl⟩ entry_list_sort ?_ (args_list_sort _)
  refine list_sort_vals (s := { s with heap := h1.push (seqObj "list" us.toArray 0) }) hs2 hS hsz ⟨.none, rfl, ?_⟩
  apply wpAny_pure
  obtain ⟨m, hm⟩ := sortedHeap_at (vs := us) (out := (sortVals (dataKind (sortingHeap (h1.push (seqObj "list" us.toArray 0)) h1.objs.size us) (bs.map enc)) false us us).toArray) hs2
  refine ⟨_, rfl, hQ _ _ _ m (fun b u hb => ?_) hge hm (sortVals_data false e er2 hal)⟩
  have q := k2 b u hb
  rw [← q]
  exact sortedHeap_old (Nat.ne_of_lt (hlt b u hb)) (Heap.lt_size q)
end
section
variable {X : Cx}
theorem cb_sorted (hu : X.A.units + 65 < cLine) : CallR X (.builtin "sorted") (rC X.K .f bSorted) := by
  intro pins s σ H vs us Q I r ⟨A, ds, d, tr, w, e, q⟩
  unfold bSorted at e
  split at e
  · obtain ⟨v, rfl, w1⟩ := p1 w
    obtain ⟨xs, e1, e⟩ := bind2 e
    split at e
    · next hok =>
      cases e
      obtain ⟨hal, hsh, hlen, hsb⟩ := okSort_facts hok
      obtain ⟨a, ys, rfl, ha, ra⟩ := w1.seq e1
      rw [ref1 r]
      obtain ⟨its, T, o, n, rv, hT, ho, hc, hd, hz⟩ : ∃ (its : List Value) (T : String) (o : Obj) (n : Nat), Vals ys its ∧ (T = "list" ∨ T = "tuple") ∧ s.heap.get? a = some o ∧ o.cls = .type T ∧ o.data = .seq its.toArray n ∧ ys.length ≤ sizeLine := by
        rcases ha with ha | ha
        · obtain ⟨its, rv, hl, hz⟩ := I.list (.of ha)
          obtain ⟨o, ho, hc, n, hd⟩ := hl.isList
          exact ⟨its, "list", o, n, rv, .inl rfl, ho, hc, hd, hz⟩
        · obtain ⟨its, rv, hl, hz⟩ := I.tuple (.of ha)
          obtain ⟨o, ho, hc, n, hd⟩ := hl
          exact ⟨its, "tuple", o, n, rv, .inr rfl, ho, hc, hd, hz⟩
      have hyl := ra.length
      have hme : (ys.zip xs).map Prod.snd = xs := List.map_snd_zip (by omega)
      have hE := zip_each rv ra
      refine sorted_seq (β := V × D) (enc := Prod.snd) (bs := ys.zip xs) (R := fun u (p : V × D) => RelV p.1 u ∧ Rp X.K A H p.1 p.2) hT ho hc hd hE (each_mem hE fun u p hp hr => ?_) (by rw [hme]; exact hal) (by rw [hme]; exact hsb) (by rw [List.length_zip]; omega) (fun p hp => ?_) fun h' d out m hk hp he eo => ?_
      · have hm : p.2 ∈ xs := (List.of_mem_zip (a := p.1) (b := p.2) hp).2
        exact Dp.reads I _ p.1 u ((WRp.dp (.inl hr.2) (hsh _ hm).1)) hr.1
      · have hm : p.2 ∈ xs := (List.of_mem_zip (a := p.1) (b := p.2) hp).2
        have := (hsh _ hm).2
        omega
      · obtain ⟨v1, r1⟩ := each_out eo
        have hsm : ((ys.zip xs).mergeSort (PySem.W.dataLe false Prod.snd)).map Prod.snd = xs.mergeSort (PySem.W.dataLe false id) := by
          have := PySem.W.sort_maps (r := PySem.W.dataLe false Prod.snd) (s := PySem.W.dataLe false id) (Prod.snd : V × D → D) (l := ys.zip xs) (fun _ _ _ _ => rfl)
          rw [this, hme]
        rw [hsm] at r1
        have hlo : (((ys.zip xs).mergeSort (PySem.W.dataLe false Prod.snd)).map Prod.fst).length ≤ sizeLine := by
          rw [List.length_map, List.length_mergeSort, List.length_zip]
          omega
        have hp' : H d = none := I.hok.fresh hp
        exact ⟨.ref d, upd H d (.lst (((ys.zip xs).mergeSort (PySem.W.dataLe false Prod.snd)).map Prod.fst)), I.laid (t' := s.toks) hk hp ⟨hlo, out, m, v1, he⟩, rfl, q _ _ (same_upd hp') (Res.newL tr hp' r1 (Same.refl H))⟩
    · cases e
  · cases e
end
end Pm

/-! Pm: {k: v for ..} with ints for keys, d.get(k, x). -/
namespace Pm
open PySem PySem.Spec PyProof.Rows L2
def dcK (kd : List (D × D)) (v : D) : D → Option (List (D × D))
  | .int i => some (dPutD kd i v)
  | _ => none
def dcL (g : XG) (t : PEnv → Option Bool) (fk fv : Xp) (ρ : PEnv) : List D → List (D × D) → Option (List (D × D))
  | [], kd => some kd
  | x :: xs, kd => (g x ρ).bind fun ρ1 => (t ρ1).bind fun b => if b then (fk ρ1).bind fun k => (fv ρ1).bind fun v => (dcK kd v k).bind fun kd2 => dcL g t fk fv ρ xs kd2 else dcL g t fk fv ρ xs kd
def xDc (it : XL) (g : XG) (t : PEnv → Option Bool) (fk fv : Xp) (own : List Nat) : Xp := fun ρ => (it ρ).bind fun ds => (if ds.length ≤ 16777216 then dcL g t fk fv (wipeP ρ own) ds [] else none).map .dict
theorem dcK_some {kd kd2 : List (D × D)} {v k : D} (h : dcK kd v k = some kd2) : ∃ i, k = .int i ∧ kd2 = dPutD kd i v := by
  unfold dcK at h
  split at h
  · next i => cases h; exact ⟨i, rfl, rfl⟩
  · cases h
theorem dputD_len (kd : List (D × D)) (i : Int) (v : D) : (dPutD kd i v).length ≤ kd.length + 1 := by
  unfold dPutD
  split
  · rw [List.length_map]; omega
  · rw [List.length_append, List.length_singleton]; omega
section
variable {X : Cx} {O ts : List Nat} {st : Bool} {m mk : Md} {tg iter kx vx : Expr} {ifs : List Expr} {scope : Scope} {own : List (Str × Nat)} {it : XL} {g : XG} {t : PEnv → Option Bool} {fk fv : Xp} {pos : Pos}
theorem dc_of (hm : m ≠ .w) (hts : ∀ i, ts.contains i = true → (own.map (·.2)).contains i = true) (hO : ∀ i ∈ own.map (·.2), i ∉ O) (σ : L2.St) (H : Hp) (Q : VK) (q : simT X.K O .f (xDc it g t fk fv (own.map (·.2))) σ H Q) :
    tDc (simI X.K O st it) (simG X.K O O ts g) (simTT X.K O t) (simT X.K O mk fk) (simT X.K O m fv) (own.map (·.2)) σ H Q := by
  obtain ⟨H0, A0, G, ρ, B, d, S, e, k⟩ := q
  obtain ⟨ds, eds, e⟩ := bind2 e
  obtain ⟨ys, eys, e⟩ := Option.map_eq_some_iff.mp e
  subst e
  split at eys
  case isFalse => cases eys
  case isTrue hsz =>
  refine ⟨H0, A0, G, ρ, B, ds, S, eds, fun J H1 gs s1 yl gr hz Dn hD => ?_⟩
  have hts' : ∀ i, ts.contains i = true → i ∉ O := fun i hi => hO i (by simpa using hts i hi)
  refine ⟨fun i n Hc => n = ds.length - i ∧ i ≤ ds.length ∧ Same H1 Hc ∧ ∃ ks dv kd, Hc Dn = some (.dK ks) ∧ RpL X.K (Av (Gd A0 Dn) B) Hc (ks.map (·.2)) dv ∧ kd = (ks.map fun p => keyD p.1).zip dv ∧ ks.length ≤ i ∧ dcL g t fk fv (wipeP ρ (own.map (·.2))) (ds.drop i) kd = some ys,
    ⟨ds.length, rfl, Nat.zero_le _, same_upd hD, [], [], [], upd_same, .nil, rfl, Nat.le_refl _, eys⟩, ?_⟩
  rintro i n Hc ⟨rfl, hi, sc, ks, dv, kd, hDc, rdv, ekd, hkl, epost⟩
  have Sg : Sim X.K H0 (Gd A0 Dn) G O σ Hc ρ B := (S.mono s1).guard hD sc ⟨_, hDc, NT.dK⟩
  have gw : ∀ p ∈ gs, WRp X.K (Av (Gd A0 Dn) B) Hc p.1 p.2 := fun p hp => (gr p hp).w.step sc fun a z => by
    rcases gd_av z with z | z
    · exact .inl z
    · exact .inr (by rw [z]; exact hD)
  by_cases hlt : i < ds.length
  · have ed : ds[i]? = some ds[i] := List.getElem?_eq_getElem hlt
    rw [List.drop_eq_getElem_cons hlt] at epost
    obtain ⟨hgo, hy⟩ := yl.go _ Hc i _ Sg.tr gw ed
    simp only [dcL] at epost
    obtain ⟨ρ1, eρ1, epost⟩ := bind2 epost
    obtain ⟨b, eb, epost⟩ := bind2 epost
    refine .inr ⟨hgo, fun H' => i + 1 ≤ ds.length ∧ Same H1 H' ∧ ∃ ks dv kd, H' Dn = some (.dK ks) ∧ RpL X.K (Av (Gd A0 Dn) B) H' (ks.map (·.2)) dv ∧ kd = (ks.map fun p => keyD p.1).zip dv ∧ ks.length ≤ i + 1 ∧ dcL g t fk fv (wipeP ρ (own.map (·.2))) (ds.drop (i + 1)) kd = some ys, fun H' hN => ?_, fun x H' hx => ?_⟩
    · obtain ⟨h1, h2, h3⟩ := hN
      exact ⟨ds.length - (i + 1), by omega, rfl, h1, h2, h3⟩
    · obtain ⟨s2, rx⟩ := hy x H' hx
      refine ⟨H0, Gd A0 Dn, G, wipeP ρ (own.map (·.2)), B, _, ρ1, (Sg.mono s2).wipe _ hO, rx, eρ1, fun σ2 c2 S2 => ?_⟩
      rw [restr_same Sg hts'] at S2
      refine ⟨wipe_eq c2 hts, H0, Gd A0 Dn, G, ρ1, B, b, S2, eb, fun H3 s3 => ?_⟩
      cases b with
      | true =>
        rw [if_pos rfl]
        rw [if_pos rfl] at epost
        obtain ⟨kk, ek, epost⟩ := bind2 epost
        obtain ⟨y, ey, epost⟩ := bind2 epost
        obtain ⟨kd2, ekd2, epost⟩ := bind2 epost
        refine ⟨H0, Gd A0 Dn, G, ρ1, B, kk, S2.mono s3, ek, fun kv H4 s4 r4 => ⟨H0, Gd A0 Dn, G, ρ1, B, y, (S2.mono s3).mono s4, ey, fun v H5 s5 r5 => ?_⟩⟩
        obtain ⟨ki, rfl, rfl⟩ := dcK_some ekd2
        · have r5' := r5.toS ((S2.mono s3).mono s4).tr hm
          have s25 := ((s2.trans s3).trans s4).trans s5
          have avD : Av (Gd A0 Dn) B Dn := .inl (.inr rfl)
          obtain ⟨ds', rr', ee'⟩ := dput_ok (i := ki) r5' (rdv.mono s25)
          have hlen := length_putK ks (Sum.inl ki) v
          refine ⟨ks, Sum.inl ki, r4.toW.int, s25 _ _ hDc, ?_, by omega, fun a o e => ?_, putK ks (Sum.inl ki) v, ds', _, upd_same, rr'.step (fun a o e n => ?_) fun _ z => .inl z, ee', by omega, by rw [← ekd]; exact epost⟩
          · have : (16777216 : Nat) = sizeLine := rfl
            omega
          · have hne : a ≠ Dn := fun z => by rw [z, hD] at e; cases e
            rw [upd_ne hne]
            exact s25 _ _ (sc _ _ e)
          · rw [upd_ne (fun z => n (by rw [z]; exact avD))]
            exact e
      | false =>
        rw [if_neg Bool.false_ne_true]
        rw [if_neg Bool.false_ne_true] at epost
        have s23 := s2.trans s3
        exact ⟨by omega, sc.trans s23, ks, dv, kd, s23 _ _ hDc, rdv.mono s23, ekd, by omega, epost⟩
  · have e : i = ds.length := by omega
    subst e
    refine .inl ⟨yl.stop _ Hc Sg.tr gw, ?_⟩
    rw [List.drop_length] at epost
    cases epost
    have hHD : H Dn = none := s1.free hD
    refine k _ Hc (s1.trans sc) (.inl ⟨Dn, rfl, hHD, .dic hDc (rdv.anti fun a z => ?_) ekd⟩)
    rcases z with z | z
    · rcases z with z | z
      · exact .inl (.inl z)
      · exact .inr z
    · exact .inl (.inr z)
theorem se_dc (hN : X.N.Nodup) (hi : SI X O st tg iter it) (ok : BlkOk X.N X.env.scope scope own) (hg : InBlk X scope fun Y => SG Y O O ts tg g) (ht : InBlk X scope fun Y => STs Y O ifs t) (hk : InBlk X scope fun Y => SE Y O mk kx fk) (he : InBlk X scope fun Y => SE Y O m vx fv)
    (hm : m ≠ .w := by decide) (hts : ts.all (fun i => (own.map (·.2)).contains i) = true := by rfl) (hO : (own.map (·.2)).all (fun i => !O.contains i) = true := by rfl) (hc : X.calm = true := by rfl) (hs : ∀ x, foldedSetIterable iter X.env x = pure x := by intro _; rfl) :
    SE X O .f (.DictComp kx vx [⟨tg, iter, ifs, 0⟩] scope pos) (xDc it g t fk fv (own.map (·.2))) :=
  ⟨pe_imp (pe_dc hc hN hi.pi ok (fun s H C cl fp => (hg s H C cl fp).pg) (fun s H C cl fp => (ht s H C cl fp).pts) (fun s H C cl fp => (hk s H C cl fp).pe) (fun s H C cl fp => (he s H C cl fp).pe) hs)
    (dc_of hm (fun i hi => by simpa using List.all_eq_true.mp hts i (by simpa using hi)) (fun i hi => by simpa using List.all_eq_true.mp hO i hi))⟩
end
/-! ### d.get(k, x) -/
def oGet2 : D → D → D → Option D
  | .dict kd, .int i, d => if (kd.any fun p => isNone p.1) then none else some ((dGetD kd i).getD d)
  | _, _, _ => none
def xGet2 (fo fe ff : Xp) : Xp := fun ρ => (fo ρ).bind fun x => (fe ρ).bind fun y => (ff ρ).bind fun z => oGet2 x y z
theorem dget_none {K : PySem.W.Frag} {A : Addr → Prop} {H : Hp} {i : Int} {ks : List (Key × V)} {ds : List D} (r : RpL K A H (ks.map (·.2)) ds) (h : dGetD ((ks.map fun p => keyD p.1).zip ds) i = none) : valV ks (Sum.inl i) = none := by
  have e := dhas_eq (i := i) r
  unfold dGetD at h
  rw [Option.map_eq_none_iff, List.find?_eq_none] at h
  have : dHasD ((ks.map fun p => keyD p.1).zip ds) i = false := by
    unfold dHasD
    rw [List.any_eq_false]
    exact h
  rw [this] at e
  cases hv : valV ks (Sum.inl i) with
  | none => rfl
  | some w => rw [hv] at e; cases e
section
variable {X : Cx} {O : List Nat} {m ma mb : Md} {k : Nat} {o a b : Expr} {fo fa fb : Xp} {apos cpos : Pos}
theorem se_dget2 (hr : Room k X.A) (ho : SE X O m o fo) (ha : SE X O ma a fa) (hb : SE X O mb b fb) (M : M2 X o "get" apos a b cpos) (hmb : mb ≠ .w := by decide) : SE X O .s (.Call (.Attribute o "get" apos) [a, b] [] cpos) (xGet2 fo fa fb) := by
  refine ⟨pe_imp (pe_dget2 (hu1 hr) ho.pe ha.pe hb.pe M) fun σ H Q q => ?_⟩
  obtain ⟨H0, A0, G, ρ, B, d, S, e, k⟩ := q
  obtain ⟨x, ex, e⟩ := bind2 e
  obtain ⟨y, ey, e⟩ := bind2 e
  obtain ⟨z, ez, e⟩ := bind2 e
  unfold oGet2 at e
  split at e
  · split at e
    · cases e
    · rename_i hn
      cases e
      refine ⟨H0, A0, G, ρ, B, _, S, ex, fun v H1 s1 r1 => ?_⟩
      obtain ⟨t, ks, ds, rfl, ht, rt, ek⟩ := r1.toW.dict (no_scr hn)
      refine ⟨t, rfl, .inl ⟨ks, .inl ht⟩, H0, A0, G, ρ, B, _, S.mono s1, ey, fun u H2 s2 r2 => ⟨H0, A0, G, ρ, B, _, (S.mono s1).mono s2, ez, fun w H3 s3 r3 => ?_⟩⟩
      have ht3 := s3 _ _ (s2 _ _ ht)
      have rt3 := (rt.mono s2).mono s3
      refine ⟨valV ks (Sum.inl _), by rw [r2.toW.int]; exact DGet.k (k := Sum.inl _) ht3, ?_⟩
      rw [ek] at k
      cases hv : dGetD ((ks.map fun p => keyD p.1).zip ds) _ with
      | none =>
        rw [hv] at k
        rw [dget_none rt3 hv]
        exact k _ H3 ((s1.trans s2).trans s3) (r3.toS ((S.mono s1).mono s2).tr hmb)
      | some d' =>
        rw [hv] at k
        obtain ⟨w', ew, rw'⟩ := dget_some rt3 hv
        rw [ew]
        exact k _ H3 ((s1.trans s2).trans s3) rw'
  · cases e
end
end Pm

/-! Pm: zip of a list and a tuple, in any mix. -/
namespace Pm
open PySem PySem.Spec PyProof.Rows L2
/-- a list, or a tuple -/
def SqB (b : Bool) (K : PySem.W.Frag) (H : Hp) (l : Addr) (vs : List V) : Prop := if b = true then SqL K H l vs else SqT K H l vs
def ItB (b : Bool) (h : Heap) (it l : Addr) (n : Nat) : Prop := if b = true then h.IsListIter it l n else h.IsTupleIter it l n
def OfB (b : Bool) (h : Heap) (l : Addr) (us : Array Value) : Prop := if b = true then h.IsList l us else h.IsTuple l us
def itO (b : Bool) (l : Addr) : Obj := if b = true then { cls := .type "list_iterator", data := .fields #[.ref l, .int 0 0] } else { cls := .type "tuple_iterator", data := .fields #[.ref l, .int 0 0] }
theorem ItB.obj {b : Bool} {h : Heap} {it l : Addr} {n : Nat} (st : ItB b h it l n) : ∃ o, h.get? it = some o ∧ ∀ v, o.data ≠ .cell v := by
  cases b with
  | true =>
    obtain ⟨o, e1, _, d1⟩ := (st : h.IsListIter it l n)
    exact ⟨o, e1, fun v q => by rw [d1] at q; cases q⟩
  | false =>
    obtain ⟨o, e1, _, d1⟩ := (st : h.IsTupleIter it l n)
    exact ⟨o, e1, fun v q => by rw [d1] at q; cases q⟩
theorem ItB.keep {b : Bool} {h h' : Heap} {it l : Addr} {n : Nat} (st : ItB b h it l n) (k : ∀ o, h.get? it = some o → h'.get? it = some o) : ItB b h' it l n := by
  cases b with
  | true => exact Heap.IsListIter.at (h := h) st fun o q => k o q
  | false => exact Heap.IsTupleIter.at (h := h) st fun o q => k o q
theorem draws_b {prog : Program} {w : World} {A : Around} (b : Bool) (hh : A.handled = none) (it l : Addr) (hne : l ≠ it) (us : Array Value) : Draws prog w A it [it, l] us.size (fun i v => us[i]? = some v) (fun i h => ItB b h it l i ∧ OfB b h l us) := by
  cases b with
  | true => exact Draws.list hh it l hne us
  | false => exact Draws.tuple hh it l hne us
theorem begins_b (b : Bool) (l : Addr) (us : Array Value) : Begins (.ref l) (itO b l) fun h => OfB b h l us := by
  cases b with
  | true => exact begins_list l us
  | false => exact begins_tuple l us
theorem itO_at {b : Bool} {h : Heap} {it l : Addr} (e : h.get? it = some (itO b l)) : ItB b h it l 0 := by
  cases b with
  | true => exact ⟨_, e, rfl, rfl⟩
  | false => exact ⟨_, e, rfl, rfl⟩
section
variable {X : Cx} {pins : List (Addr × Obj)} {σ : L2.St} {H : Hp} {s : Shared} {l : Addr}
theorem inv_b (I : Inv X pins σ H s) {b : Bool} {vs : List V} (h : SqB b X.K H l vs) : ∃ its : List Value, Vals vs its ∧ OfB b s.heap l its.toArray ∧ l < s.heap.objs.size := by
  cases b with
  | true =>
    obtain ⟨its, rv, p, _⟩ := I.list (show SqL X.K H l vs from h)
    exact ⟨its, rv, p.isList, p.lt⟩
  | false =>
    obtain ⟨its, rv, p, _⟩ := I.tuple (show SqT X.K H l vs from h)
    obtain ⟨o, ho, _⟩ := id p
    exact ⟨its, rv, p, Heap.lt_size ho⟩
theorem inv_binj (I : Inv X pins σ H s) {b : Bool} {vs ws : List V} (h : SqB b X.K H l vs) (h' : SqB b X.K H l ws) : vs = ws := by
  cases b with
  | true => exact I.list_inj h h'
  | false => exact I.tuple_inj h h'
end
def ItzM (b1 b2 : Bool) (K : PySem.W.Frag) (p q : Addr) : It where
  go := fun i H => ∃ (vs ws : List V) (x y : V), SqB b1 K H p vs ∧ SqB b2 K H q ws ∧ vs[i]? = some x ∧ ws[i]? = some y
  yld := fun i H v H' => ∃ T x y, v = .ref T ∧ H T = none ∧ H' = upd H T (.tup [x, y]) ∧ (∀ vs, SqB b1 K H p vs → vs[i]? = some x) ∧ ∀ ws, SqB b2 K H q ws → ws[i]? = some y
  stop := fun i H => ∃ vs ws : List V, SqB b1 K H p vs ∧ SqB b2 K H q ws ∧ i ≤ vs.length ∧ i ≤ ws.length ∧ (i = vs.length ∨ i = ws.length)
theorem turn_zipM {P : Program} {w : World} {K : PySem.W.Frag} {es : List Expr} {kk : Nat} {tpos : Pos} {b1 b2 : Bool} {p q z TI TO j1 j2 : Addr} (S : ZipSep2 z TI TO j1 j2 [j1, p] [j2, q]) (n1 : p ≠ j1) (n2 : q ≠ j2) :
    Turn P w K (.Tuple es kk tpos) (ItzM b1 b2 K p q) [z, TI, TO, j1, j2] z (fun i h => IsZip h z TI TO .none ∧ IsTupOf2 h TI (.ref j1) (.ref j2) ∧ (∃ x y, IsTupOf2 h TO x y) ∧ ItB b1 h j1 p i ∧ ItB b2 h j2 q i) where
  mem := List.mem_cons_self
  obj := fun i h st c hc => by
    obtain ⟨hz, hI, ⟨x, y, hO⟩, st1, st2⟩ := st
    simp only [List.mem_cons, List.not_mem_nil, or_false] at hc
    rcases hc with rfl | rfl | rfl | rfl | rfl
    · exact ⟨_, hz, fun v e => nomatch e⟩
    · exact ⟨_, hI, fun v e => nomatch e⟩
    · exact ⟨_, hO, fun v e => nomatch e⟩
    · exact st1.obj
    · exact st2.obj
  keep := fun i h h' st k => by
    obtain ⟨hz, hI, ⟨x, y, hO⟩, st1, st2⟩ := st
    refine ⟨k z (by simp) _ hz, k TI (by simp) _ hI, ⟨x, y, k TO (by simp) _ hO⟩, ?_, ?_⟩
    · exact st1.keep fun o e => k j1 (by simp) o e
    · exact st2.keep fun o e => k j2 (by simp) o e
  item := by
    intro X hP hw hK hc i pins s σ H E I hf st hg
    subst hP hw hK
    obtain ⟨hz, hI, ⟨x0, y0, hO⟩, st1, st2⟩ := st
    obtain ⟨vs, ws, x, y, g1, g2, e1, e2⟩ := hg
    obtain ⟨us, rv, pl, _⟩ := inv_b I g1
    obtain ⟨us2, rv2, pl2, _⟩ := inv_b I g2
    obtain ⟨u, hu, ru⟩ := rv.get e1
    obtain ⟨u2, hu2, ru2⟩ := rv2.get e2
    have hzl : z < s.heap.objs.size := Heap.lt_size hz
    have hh : X.A.in1.handled = none := I.ok.hd hc
    have D1 := draws_b (prog := X.prog) (w := X.w) (A := X.A.in1) b1 hh j1 p n1 us.toArray
    have D2 := draws_b (prog := X.prog) (w := X.w) (A := X.A.in1) b2 hh j2 q n2 us2.toArray
    have l1 : i < us.toArray.size := by have := (List.getElem?_eq_some_iff.mp hu).1; simpa using this
    have l2 : i < us2.toArray.size := by have := (List.getElem?_eq_some_iff.mp hu2).1; simpa using this
    refine wpAny_pyNext_zipD2_item S D1 D2 hz hI hO ⟨st1, pl⟩ ⟨st2, pl2⟩ l1 l2 fun a1 a2 h' tk q1 q2 z' O' t1 t2 hT hsz hk => ?_
    have ea1 : a1 = u := by
      rw [List.getElem?_toArray, hu] at q1
      exact (Option.some.inj q1).symm
    have ea2 : a2 = u2 := by
      rw [List.getElem?_toArray, hu2] at q2
      exact (Option.some.inj q2).symm
    subst ea1 ea2
    refine ⟨_, rfl, wpAny_letOwnedTupleGo_zip (s := { s with heap := h', toks := tk }) z' fun h2 z2 sb => ?_⟩
    have hT2 : h2.get? s.heap.objs.size = some { cls := .type "tuple", data := .seq #[a1, a2] } := by
      rw [← hT]
      exact sb.2 _ (Nat.ne_of_gt hzl)
    have hnew : ObjOk X.prog X.w (upd H s.heap.objs.size (.tup [x, y])) h2 s.heap.objs.size (.tup [x, y]) := by
      refine ⟨?_, [a1, a2], .cons ru (.cons ru2 .nil), ⟨_, hT2, rfl, _, rfl⟩⟩
      show 2 ≤ sizeLine
      decide
    have I2 : Inv X pins σ (upd H s.heap.objs.size (.tup [x, y])) { s with heap := h2, toks := tk } := by
      refine I.turnedNew (t' := tk) (ch := [z, TI, TO, j1, j2]) (fun c o hb e => ?_) hf (Nat.le_refl _) hnew
      simp only [List.mem_cons, List.not_mem_nil, or_false, not_or] at hb
      rw [← hk c o hb.1 hb.2.2.1 hb.2.2.2.1 hb.2.2.2.2 e]
      exact sb.2 c hb.1
    have up : ∀ c o, c ≠ z → h'.get? c = some o → h2.get? c = some o := fun c o hcz e => by rw [← e]; exact sb.2 c hcz
    refine ⟨.ref s.heap.objs.size, _, I2, rfl, ⟨_, x, y, rfl, I.hok.fresh (Nat.le_refl _), rfl, fun ls hls => ?_, fun ls hls => ?_⟩, ⟨z2, ?_, ⟨a1, a2, up _ _ S.TOz O'⟩, ?_, ?_⟩, fun c hcm => ?_⟩
    · rw [inv_binj I hls g1]
      exact e1
    · rw [inv_binj I hls g2]
      exact e2
    · exact up _ _ S.TIz (hk _ _ S.TIz S.TITO S.TIi1 S.TIi2 hI)
    · exact t1.1.keep fun o e => up _ o S.zi1.symm e
    · exact t2.1.keep fun o e => up _ o S.zi2.symm e
    · have hlt : c < s.heap.objs.size := by
        simp only [List.mem_cons, List.not_mem_nil, or_false] at hcm
        rcases hcm with rfl | rfl | rfl | rfl | rfl
        · exact hzl
        · exact Heap.lt_size hI
        · exact Heap.lt_size hO
        · obtain ⟨o, e, _⟩ := st1.obj
          exact Heap.lt_size e
        · obtain ⟨o, e, _⟩ := st2.obj
          exact Heap.lt_size e
      rw [upd_ne (Nat.ne_of_lt hlt)]
      exact (hf c hcm).1
  done := by
    intro X hP hw hK hc i pins s σ H E I hf st hg
    subst hP hw hK
    obtain ⟨hz, hI, ⟨x0, y0, hO⟩, st1, st2⟩ := st
    obtain ⟨vs, ws, g1, g2, m1, m2, hend⟩ := hg
    obtain ⟨us, rv, pl, _⟩ := inv_b I g1
    obtain ⟨us2, rv2, pl2, _⟩ := inv_b I g2
    have hh : X.A.in1.handled = none := I.ok.hd hc
    have D1 := draws_b (prog := X.prog) (w := X.w) (A := X.A.in1) b1 hh j1 p n1 us.toArray
    have D2 := draws_b (prog := X.prog) (w := X.w) (A := X.A.in1) b2 hh j2 q n2 us2.toArray
    have k1 := rv.length
    have k2 := rv2.length
    refine wpAny_pyNext_zipD2_end S D1 D2 hz hI hO ⟨st1, pl⟩ ⟨st2, pl2⟩ (by simp; omega) (by simp; omega) (by simp; omega) fun h' tk hk => ⟨rfl, ?_⟩
    refine I.turnedL (t' := tk) (ch := [z, TI, TO, j1, j2]) (fun c o hb e => ?_) hf
    simp only [List.mem_cons, List.not_mem_nil, or_false, not_or] at hb
    exact hk c o hb.1 hb.2.2.1 hb.2.2.2.1 hb.2.2.2.2 e
  self := fun A i s Q E st h => wpAny_pyIter_zip st.1 h
def iZipM (K : PySem.W.Frag) (ta : TA) : TI := fun σ H R => ta σ H fun vs H1 => ∃ b1 b2 p q xs ys, vs = [.ref p, .ref q] ∧ SqB b1 K H1 p xs ∧ SqB b2 K H1 q ys ∧ R (ItzM b1 b2 K p q) H1
theorem pi_zipM {X : Cx} {e e2 : Expr} {ta : TA} {p pos tpos : Pos} {es : List Expr} {kk : Nat} (hg : L2.Gl X "zip") (hm : X.mg "zip" = none) (ha : PA X [e, e2] ta)
    (hs : starEach [e, e2] X.env = (false, eval e X.env) :: starEach [e2] X.env := by rfl) (hpl : (backTo pos (starEach [e2] X.env)).any (·.1) = false := by rfl) :
    PI X (.Tuple es kk tpos) (.Call (.Name "zip" p) [e, e2] [] pos) (iZipM X.K ta) := by
  refine ⟨fun pins s σ H R I h => ?_⟩
  refine Call_ (ld_blt I hg hm PyProof.Rows.boot_zip (PyProof.Rows.callWith_type1 (thn (ha.run pos pins s σ H _ I h) fun us s1 ⟨vs, H1, I1, r1, q1⟩ => ?_) hs hpl))
  obtain ⟨b1, b2, l, m, xs, ys, rfl, g1, g2, k⟩ := q1
  obtain ⟨u1, u2, rfl, r, r'⟩ := vals2 r1
  obtain rfl : u1 = Value.ref l := r
  obtain rfl : u2 = Value.ref m := r'
  obtain ⟨ws, rv, pl, lt1⟩ := inv_b I1 g1
  obtain ⟨ws2, rv2, pl2, lt2⟩ := inv_b I1 g2
  refine zip_begins2 (begins_b b1 l ws.toArray) (begins_b b2 m ws2.toArray) pl pl2 fun h' hz hTI hTO o1 o2 hsz hk => wpAny_pyIter_zip hz ?_
  have I2 : Inv X pins σ H1 { s1 with heap := h' } := I1.kept (t' := s1.toks) hk
  have sep := zip_sep2 (N := s1.heap.objs.size) (fp1 := [l]) (fp2 := [m]) (by simpa using lt1) (by simpa using lt2)
  refine ⟨s1.heap.objs.size + 4, [s1.heap.objs.size + 4, s1.heap.objs.size + 2, s1.heap.objs.size + 3, s1.heap.objs.size, s1.heap.objs.size + 1], _, _, H1, rfl, I2, turn_zipM sep (Nat.ne_of_lt lt1) (Nat.ne_of_lt (Nat.lt_succ_of_lt lt2)), ⟨hz, hTI, ⟨_, _, hTO⟩, itO_at o1, itO_at o2⟩, fun c hcm => ?_, k⟩
  have hle : s1.heap.objs.size ≤ c := by
    simp only [List.mem_cons, List.not_mem_nil, or_false] at hcm
    rcases hcm with rfl | rfl | rfl | rfl | rfl <;> first | exact Nat.le_refl _ | exact Nat.le_add_right _ _
  exact I1.fpOk hle (I1.hok.fresh hle)
/-! ### as a rule -/
def isL : D → Bool
  | .list _ => true
  | _ => false
theorem WRp.seqB {K : PySem.W.Frag} {A : Addr → Prop} {H : Hp} {v : V} {d : D} {xs : List D} (h : WRp K A H v d) (e : seqD d = some xs) : ∃ a vs, v = .ref a ∧ SqB (isL d) K H a vs ∧ RpL K A H vs xs ∧ (H a = some (.lst vs) ∨ H a = some (.tup vs)) := by
  unfold seqD at e
  split at e
  · cases e
    obtain ⟨a, ys, rfl, ha, ra⟩ := h.lst
    exact ⟨a, ys, rfl, (.of ha : SqL K H a ys), ra, .inl ha⟩
  · cases e
    obtain ⟨a, ys, rfl, ha, na, ra⟩ := h.tup
    exact ⟨a, ys, rfl, (.of ha : SqT K H a ys), ra, .inr ha⟩
  · cases e
def oZipM : List D → Option (List D)
  | [x, y] => (seqD x).bind fun xs => (seqD y).bind fun ys => some (zipD xs ys)
  | _ => none
section
variable {X : Cx} {O : List Nat} {st : Bool} {a b : Expr} {fs : XL} {p pos : Pos}
theorem si_zipM {tpos : Pos} {elts : List Expr} {kk : Nat} (hm : X.mg "zip" = none) (ha : SA X O st [a, b] fs) (hg : L2.Gl X "zip" := by rfl)
    (hs : starEach [a, b] X.env = (false, eval a X.env) :: starEach [b] X.env := by rfl) (hpl : (backTo pos (starEach [b] X.env)).any (·.1) = false := by rfl) : SI X O st (.Tuple elts kk tpos) (.Call (.Name "zip" p) [a, b] [] pos) (xIt oZipM fs) := by
  refine ⟨pi_imp (pi_zipM hg hm (pa_ok ha.pa) hs hpl) fun σ H R q => ?_⟩
  obtain ⟨H0, A0, G, ρ, B, ds, S, e, k⟩ := q
  obtain ⟨d, ed, e⟩ := bind2 e
  refine ⟨H0, A0, G, ρ, B, _, S, ed, fun vs H1 s1 r1 ok => ?_⟩
  unfold oZipM at e
  split at e
  · rename_i x y
    obtain ⟨xs, ex, e⟩ := bind2 e
    obtain ⟨ys, ey, e⟩ := bind2 e
    cases e
    obtain ⟨v, u, rfl, sr, sr'⟩ := rsL2 r1
    obtain ⟨t, ws, rfl, qt, rt, ht⟩ := sr.w.seqB ex
    obtain ⟨t', ws', rfl, qt', rt', ht'⟩ := sr'.w.seqB ey
    refine ⟨isL x, isL y, t, t', ws, ws', rfl, qt, qt', k _ H1 [(.ref t, x), (.ref t', y)] s1 ⟨fun A H i d tr g e => ?_, fun A H tr g => ?_⟩ (fun p hp => ?_) ?_⟩
    · obtain ⟨x1, y1, ex1, ey1, rfl⟩ := zipD_get e
      obtain ⟨b, zs, eb, hb, rb, _⟩ := (g _ (List.mem_cons_self)).seqB ex
      obtain ⟨b', zs', eb', hb', rb', _⟩ := (g _ (List.mem_cons_of_mem _ List.mem_cons_self)).seqB ey
      cases eb
      cases eb'
      obtain ⟨x2, ex2, rx2⟩ := rb.get ex1
      obtain ⟨y2, ey2, ry2⟩ := rb'.get ey1
      refine ⟨⟨zs, zs', x2, y2, hb, hb', ex2, ey2⟩, fun z H' hy => ?_⟩
      obtain ⟨T, u, w, rfl, hT, rfl, hu, hw⟩ := hy
      have e1 := hu zs hb
      have e2 := hw zs' hb'
      rw [ex2] at e1
      rw [ey2] at e2
      cases e1
      cases e2
      exact ⟨same_upd hT, rp_pair tr hT rx2 ry2⟩
    · obtain ⟨b, zs, eb, hb, rb, _⟩ := (g _ (List.mem_cons_self)).seqB ex
      obtain ⟨b', zs', eb', hb', rb', _⟩ := (g _ (List.mem_cons_of_mem _ List.mem_cons_self)).seqB ey
      cases eb
      cases eb'
      refine ⟨zs, zs', hb, hb', ?_⟩
      rw [zipD_len, rb.length, rb'.length]
      omega
    · have z : p = (.ref t, x) ∨ p = (.ref t', y) := by simpa using hp
      rcases z with rfl | rfl
      · exact sr
      · exact sr'
    · rw [zipD_len, ← rt.length]
      have := ok t ws ht
      omega
  · cases e
end
end Pm

/-! Pm: the least and the greatest of data, with default=. -/
namespace Pm
open PySem PySem.Spec PyProof.Rows L2
/-- data that can be compared with one another -/
def okCmp (ds : List D) : Bool := (ds.all fun x => ds.all fun y => PySem.W.alike x y) && ds.all fun x => shp x && decide (x.depth ≤ 20) && (match x with | .none => false | _ => true)
def pickD (f : D → List D → D) (o : Option D) : List D → Option D
  | [] => o
  | y :: ys => some (f y ys)
def bMinD : List D → Option D
  | [x] => (seqD x).bind fun ds => if okCmp ds then pickD PySem.W.minD none ds else none
  | _ => none
def bMaxD : List D → Option D
  | [x] => (seqD x).bind fun ds => if okCmp ds then pickD PySem.W.maxD none ds else none
  | _ => none
def bMinK (xs : List D) (o : D) : Option D :=
  match xs with
  | [x] => (seqD x).bind fun ds => if okCmp ds then pickD PySem.W.minD (some o) ds else none
  | _ => none
def bMaxK (xs : List D) (o : D) : Option D :=
  match xs with
  | [x] => (seqD x).bind fun ds => if okCmp ds then pickD PySem.W.maxD (some o) ds else none
  | _ => none
theorem okCmp_facts {ds : List D} (h : okCmp ds = true) : PySem.W.AlikeAll ds ∧ ∀ x ∈ ds, shp x = true ∧ x.depth ≤ 20 := by
  unfold okCmp at h
  rw [Bool.and_eq_true] at h
  obtain ⟨h1, h2⟩ := h
  have h2 := List.all_eq_true.mp h2
  refine ⟨⟨fun d hd d' hd' => List.all_eq_true.mp (List.all_eq_true.mp h1 d hd) d' hd', fun x hx e => ?_⟩, fun x hx => ?_⟩
  · have := h2 x hx
    subst e
    simp at this
  · have := h2 x hx
    rw [Bool.and_eq_true, Bool.and_eq_true, decide_eq_true_eq] at this
    exact this.1
theorem depth_all : ∀ {ds : List D}, (∀ x ∈ ds, x.depth ≤ 20) → PyData.depthAll ds ≤ 20
  | [], _ => Nat.zero_le _
  | x :: xs, h => by
    unfold PyData.depthAll
    exact Nat.max_le.mpr ⟨h x (by simp), depth_all fun y hy => h y (List.mem_cons_of_mem _ hy)⟩
theorem reads_all {X : Cx} {pins : List (Addr × Obj)} {s : Shared} {σ : L2.St} {A : Addr → Prop} {H : Hp} (I : Inv X pins σ H s) : ∀ {vs : List V} {us : List Value} {ds : List D}, Vals vs us → RpL X.K A H vs ds → (∀ x ∈ ds, shp x = true) → ∃ as, ReadsAll s.heap us ds as
  | _, _, _, .nil, .nil, _ => ⟨_, .nil⟩
  | _, _, _, .cons h r, .cons h' r', hs => by
    obtain ⟨as, e⟩ := reads_all I r r' fun x hx => hs x (List.mem_cons_of_mem _ hx)
    obtain ⟨bs, e'⟩ := Dp.reads I _ _ _ (WRp.dp (.inl h') (hs _ (by simp))) h
    exact ⟨_, .cons e' e⟩
/-- iter(l) of a list or a tuple -/
theorem iter_any {prog : Program} {w : World} {A : Around} {E : Value → Shared → Prop} {s : Shared} {l : Addr} {vs : Array Value} {Q : Value → Shared → Prop} (hh : A.handled = none) (hl : s.heap.IsList l vs ∨ s.heap.IsTuple l vs)
    (h : ∀ (fp : List Addr) (St : Nat → Shared → Prop) (s₂ : Shared) (o : Obj), s₂ = { s with heap := s.heap.push o } → WalksS prog w A s.heap.objs.size fp [s.heap.objs.size] (fun a b => b = a) vs.size (fun i v => vs[i]? = some v) St → St 0 s₂ → (∀ b ∈ fp, b < s₂.heap.objs.size) →
      (∀ b o, s.heap.get? b = some o → b ∉ [s.heap.objs.size]) → (∀ b o, s.heap.get? b = some o → s₂.heap.get? b = some o) → Q (.ref s.heap.objs.size) s₂) :
    wpAny (model prog w) A (pyIter (.ref l)) Q E s := by
  rcases hl with hl | hl
  · exact PySem.W.iter_listW hh hl fun s₂ e W st hfp hw hk => h _ _ s₂ _ e W st hfp hw hk
  · exact PySem.W.iter_tupleW hh hl fun s₂ e W st hfp hw hk => h _ _ s₂ _ e W st hfp hw hk
section
variable {prog : Program} {w : World} {A : Around} {E : Value → Shared → Prop} {s : Shared}
theorem min_pick {l : Addr} {vs : Array Value} {x : D} {xs : List D} {as : List Addr} {Q : Value → Shared → Prop} (hh : A.handled = none) (hl : s.heap.IsList l vs ∨ s.heap.IsTuple l vs) (hr : ReadsAll s.heap vs.toList (x :: xs) as) (ha : PySem.W.AlikeAll (x :: xs)) (hu : A.units + 1 + PyData.depthAll (x :: xs) < cLine)
    (h : ∀ (i : Nat) v h' tk, vs[i]? = some v → (x :: xs).getD i .none = PySem.W.minD x xs → (∀ b o, s.heap.get? b = some o → h'.get? b = some o) → Q v { s with heap := h', toks := tk }) :
    wpAny (model prog w) A (call (.builtin "min") [.ref l]) Q E s := by
  have hn : vs.size = xs.length + 1 := PySem.W.readsAll_len hr
  refine PySem.call_min_walkH (iter_any (A := A.in1) hh hl fun fp St s₂ o e W st hfp hw hk => ?_)
  refine ⟨_, _, _, _, _, _, _, s.heap, _, rfl, W, st, hfp, by omega, hw, hk, PySem.W.cmpIn_lt (A := A.in1) hr ha (by show A.units + 1 + _ < _; exact hu), fun v s' hP m => ?_⟩
  obtain ⟨h', tk, rfl, hk'⟩ := PySem.W.moved_old e rfl m
  have e1 : vs.size - 1 = xs.length := by omega
  have e2 := (PySem.W.argBest_fold PySem.W.dataLt PyData.none x xs xs.length (Nat.le_refl _)).2
  rw [List.take_length, ← e1] at e2
  exact h _ v h' tk hP e2 hk'
theorem max_pick {l : Addr} {vs : Array Value} {x : D} {xs : List D} {as : List Addr} {Q : Value → Shared → Prop} (hh : A.handled = none) (hl : s.heap.IsList l vs ∨ s.heap.IsTuple l vs) (hr : ReadsAll s.heap vs.toList (x :: xs) as) (ha : PySem.W.AlikeAll (x :: xs)) (hu : A.units + 1 + PyData.depthAll (x :: xs) < cLine)
    (h : ∀ (i : Nat) v h' tk, vs[i]? = some v → (x :: xs).getD i .none = PySem.W.maxD x xs → (∀ b o, s.heap.get? b = some o → h'.get? b = some o) → Q v { s with heap := h', toks := tk }) :
    wpAny (model prog w) A (call (.builtin "max") [.ref l]) Q E s := by
  have hn : vs.size = xs.length + 1 := PySem.W.readsAll_len hr
  refine PySem.call_max_walkH (iter_any (A := A.in1) hh hl fun fp St s₂ o e W st hfp hw hk => ?_)
  refine ⟨_, _, _, _, _, _, _, s.heap, _, rfl, W, st, hfp, by omega, hw, hk, PySem.W.cmpIn_gt (A := A.in1) hr ha (by show A.units + 1 + _ < _; exact hu), fun v s' hP m => ?_⟩
  obtain ⟨h', tk, rfl, hk'⟩ := PySem.W.moved_old e rfl m
  have e1 : vs.size - 1 = xs.length := by omega
  have e2 := (PySem.W.argBest_fold (fun a b => PySem.W.dataLt b a) PyData.none x xs xs.length (Nat.le_refl _)).2
  rw [List.take_length, ← e1] at e2
  exact h _ v h' tk hP e2 hk'
theorem min_pickD {l : Addr} {vs : Array Value} {xs : List D} {as : List Addr} {d : Value} {Q : Value → Shared → Prop} (hh : A.handled = none) (hl : s.heap.IsList l vs ∨ s.heap.IsTuple l vs) (hr : ReadsAll s.heap vs.toList xs as) (ha : PySem.W.AlikeAll xs) (hu : A.units + 1 + PyData.depthAll xs < cLine)
    (h0 : xs = [] → ∀ h' tk, (∀ b o, s.heap.get? b = some o → h'.get? b = some o) → Q d { s with heap := h', toks := tk })
    (h : ∀ (y : D) (ys : List D) (i : Nat) v h' tk, xs = y :: ys → vs[i]? = some v → (y :: ys).getD i .none = PySem.W.minD y ys → (∀ b o, s.heap.get? b = some o → h'.get? b = some o) → Q v { s with heap := h', toks := tk }) :
    wpAny (model prog w) A (call (.builtin "min") [.ref l] [(Str.ofString "default", d)]) Q E s := by
  have hn : vs.size = xs.length := PySem.W.readsAll_len hr
  refine PySem.call_min_walkD (iter_any (A := A.in1) hh hl fun fp St s₂ o e W st hfp hw hk => ?_)
  refine ⟨_, _, _, _, _, _, _, s.heap, (fun i j => PySem.W.dataLt (xs.getD i .none) (xs.getD j .none)), rfl, W, st, hfp, hw, hk, fun hz s' m => ?_, fun hp => ⟨PySem.W.cmpIn_lt (A := A.in1) hr ha (by show A.units + 1 + _ < _; exact hu), fun v s' hP m => ?_⟩⟩
  · obtain ⟨h', tk, rfl, hk'⟩ := PySem.W.moved_old e rfl m
    exact h0 (List.eq_nil_of_length_eq_zero (by omega)) h' tk hk'
  · obtain ⟨h', tk, rfl, hk'⟩ := PySem.W.moved_old e rfl m
    cases xs with
    | nil => exact absurd hp (by rw [hn]; exact Nat.lt_irrefl 0)
    | cons y ys =>
      have e1 : vs.size - 1 = ys.length := by rw [hn]; rfl
      have e2 := (PySem.W.argBest_fold PySem.W.dataLt PyData.none y ys ys.length (Nat.le_refl _)).2
      rw [List.take_length, ← e1] at e2
      exact h y ys _ v h' tk rfl hP e2 hk'
theorem max_pickD {l : Addr} {vs : Array Value} {xs : List D} {as : List Addr} {d : Value} {Q : Value → Shared → Prop} (hh : A.handled = none) (hl : s.heap.IsList l vs ∨ s.heap.IsTuple l vs) (hr : ReadsAll s.heap vs.toList xs as) (ha : PySem.W.AlikeAll xs) (hu : A.units + 1 + PyData.depthAll xs < cLine)
    (h0 : xs = [] → ∀ h' tk, (∀ b o, s.heap.get? b = some o → h'.get? b = some o) → Q d { s with heap := h', toks := tk })
    (h : ∀ (y : D) (ys : List D) (i : Nat) v h' tk, xs = y :: ys → vs[i]? = some v → (y :: ys).getD i .none = PySem.W.maxD y ys → (∀ b o, s.heap.get? b = some o → h'.get? b = some o) → Q v { s with heap := h', toks := tk }) :
    wpAny (model prog w) A (call (.builtin "max") [.ref l] [(Str.ofString "default", d)]) Q E s := by
  have hn : vs.size = xs.length := PySem.W.readsAll_len hr
  refine PySem.call_max_walkD (iter_any (A := A.in1) hh hl fun fp St s₂ o e W st hfp hw hk => ?_)
  refine ⟨_, _, _, _, _, _, _, s.heap, (fun i j => PySem.W.dataLt (xs.getD j .none) (xs.getD i .none)), rfl, W, st, hfp, hw, hk, fun hz s' m => ?_, fun hp => ⟨PySem.W.cmpIn_gt (A := A.in1) hr ha (by show A.units + 1 + _ < _; exact hu), fun v s' hP m => ?_⟩⟩
  · obtain ⟨h', tk, rfl, hk'⟩ := PySem.W.moved_old e rfl m
    exact h0 (List.eq_nil_of_length_eq_zero (by omega)) h' tk hk'
  · obtain ⟨h', tk, rfl, hk'⟩ := PySem.W.moved_old e rfl m
    cases xs with
    | nil => exact absurd hp (by rw [hn]; exact Nat.lt_irrefl 0)
    | cons y ys =>
      have e1 : vs.size - 1 = ys.length := by rw [hn]; rfl
      have e2 := (PySem.W.argBest_fold (fun a b => PySem.W.dataLt b a) PyData.none y ys ys.length (Nat.le_refl _)).2
      rw [List.take_length, ← e1] at e2
      exact h y ys _ v h' tk rfl hP e2 hk'
end
section
variable {X : Cx}
/-- the heap's list or tuple behind a walked name -/
theorem seq_its {pins : List (Addr × Obj)} {s : Shared} {σ : L2.St} {H : Hp} {a : Addr} {ys : List V} (I : Inv X pins σ H s) (ha : H a = some (.lst ys) ∨ H a = some (.tup ys)) : ∃ its : List Value, Vals ys its ∧ (s.heap.IsList a its.toArray ∨ s.heap.IsTuple a its.toArray) := by
  rcases ha with ha | ha
  · obtain ⟨its, rv, hl, hz⟩ := I.list (.of ha)
    exact ⟨its, rv, .inl hl.isList⟩
  · obtain ⟨its, rv, hl, hz⟩ := I.tuple (.of ha)
    exact ⟨its, rv, .inr hl⟩
theorem its_pick {A : Addr → Prop} {H : Hp} {ys : List V} {its : List Value} {ds : List D} {i : Nat} {v : Value} {d : D} (rv : Vals ys its) (ra : RpL X.K A H ys ds) (h : its.toArray[i]? = some v) (e : ds.getD i .none = d) : ∃ x, RelV x v ∧ Rp X.K A H x d := by
  have h' : its[i]? = some v := by simpa using h
  have hi : i < its.length := (List.getElem?_eq_some_iff.mp h').1
  have l1 := rv.length
  have l2 := ra.length
  have hd : ds[i]? = some d := by
    rw [List.getD_eq_getElem?_getD] at e
    rw [List.getElem?_eq_getElem (by omega), Option.getD_some] at e
    rw [List.getElem?_eq_getElem (by omega), e]
  obtain ⟨x, e1, e2⟩ := ra.get hd
  obtain ⟨u, e3, e4⟩ := rv.get e1
  rw [h'] at e3
  cases e3
  exact ⟨x, e4, e2⟩
theorem cb_minD (hu : X.A.units + 65 < cLine) (hc : X.calm = true := by rfl) : CallR X (.builtin "min") (rC X.K .s bMinD) := by
  intro pins s σ H vs us Q I r ⟨A, ds, d, tr, w, e, q⟩
  unfold bMinD at e
  split at e
  · obtain ⟨v, rfl, w1⟩ := p1 w
    obtain ⟨xs, e1, e⟩ := bind2 e
    split at e
    · next hok =>
      obtain ⟨hal, hsh⟩ := okCmp_facts hok
      obtain ⟨a, ys, rfl, ha, ra⟩ := w1.seq e1
      rw [ref1 r]
      obtain ⟨its, rv, hl⟩ := seq_its I ha
      obtain ⟨as, rd⟩ := reads_all I rv ra fun x hx => (hsh x hx).1
      cases xs with
      | nil => cases e
      | cons y zs =>
        cases e
        have hdp := depth_all fun x hx => (hsh x hx).2
        refine min_pick (I.ok.hd hc) hl rd hal (by omega) fun i v h' tk hv he hk => ?_
        obtain ⟨x, rx, px⟩ := its_pick rv ra hv he
        exact ⟨x, H, I.kept hk, rx, q _ H (Same.refl H) px⟩
    · cases e
  · cases e
theorem cb_maxD (hu : X.A.units + 65 < cLine) (hc : X.calm = true := by rfl) : CallR X (.builtin "max") (rC X.K .s bMaxD) := by
  intro pins s σ H vs us Q I r ⟨A, ds, d, tr, w, e, q⟩
  unfold bMaxD at e
  split at e
  · obtain ⟨v, rfl, w1⟩ := p1 w
    obtain ⟨xs, e1, e⟩ := bind2 e
    split at e
    · next hok =>
      obtain ⟨hal, hsh⟩ := okCmp_facts hok
      obtain ⟨a, ys, rfl, ha, ra⟩ := w1.seq e1
      rw [ref1 r]
      obtain ⟨its, rv, hl⟩ := seq_its I ha
      obtain ⟨as, rd⟩ := reads_all I rv ra fun x hx => (hsh x hx).1
      cases xs with
      | nil => cases e
      | cons y zs =>
        cases e
        have hdp := depth_all fun x hx => (hsh x hx).2
        refine max_pick (I.ok.hd hc) hl rd hal (by omega) fun i v h' tk hv he hk => ?_
        obtain ⟨x, rx, px⟩ := its_pick rv ra hv he
        exact ⟨x, H, I.kept hk, rx, q _ H (Same.refl H) px⟩
    · cases e
  · cases e
/-! ### default= -/
def rCK (K : PySem.W.Frag) (g : List D → D → Option D) : List V → List V → Hp → VK → Prop := fun vs zs H Q => ∃ A ds z x d, Tr A H ∧ Paired (WRp K A H) vs ds ∧ zs = [z] ∧ Rp K A H z x ∧ g ds x = some d ∧ ∀ v H', Same H H' → Res K A H H' .s v d → Q v H'
def xCallK (g : List D → D → Option D) (fs : XL) (fd : Xp) : Xp := fun ρ => (fs ρ).bind fun ds => (fd ρ).bind fun x => g ds x
theorem weak_mono {K : PySem.W.Frag} {A : Addr → Prop} {H H' : Hp} (s : Same H H') {vs : List V} {ds : List D} (w : Paired (WRp K A H) vs ds) : Paired (WRp K A H') vs ds := by
  induction w with
  | nil => exact .nil
  | cons h r ih => exact .cons (WRp.mono s h) ih
theorem vals_one {z : V} {ws : List Value} (h : Vals [z] ws) : ∃ w, ws = [w] ∧ RelV z w := by
  cases h with
  | cons h r => cases r with | nil => exact ⟨_, rfl, h⟩
theorem cb_minK (hu : X.A.units + 65 < cLine) (hc : X.calm = true := by rfl) : CallRK X (.builtin "min") [Str.ofString "default"] (rCK X.K bMinK) := by
  intro pins s σ H vs zs us ws Q I r rz ⟨A, ds, z, o, d, tr, w, ez, pz, e, q⟩
  subst ez
  obtain ⟨w0, rfl, rw0⟩ := vals_one rz
  unfold bMinK at e
  split at e
  · obtain ⟨v, rfl, w1⟩ := p1 w
    obtain ⟨xs, e1, e⟩ := bind2 e
    split at e
    · next hok =>
      obtain ⟨hal, hsh⟩ := okCmp_facts hok
      obtain ⟨a, ys, rfl, ha, ra⟩ := w1.seq e1
      rw [ref1 r]
      obtain ⟨its, rv, hl⟩ := seq_its I ha
      obtain ⟨as, rd⟩ := reads_all I rv ra fun x hx => (hsh x hx).1
      have hdp := depth_all fun x hx => (hsh x hx).2
      refine min_pickD (I.ok.hd hc) hl rd hal (by omega) (fun hz h' tk hk => ?_) fun y zs i v h' tk hxs hv he hk => ?_
      · subst hz
        cases e
        exact ⟨z, H, I.kept hk, rw0, q _ H (Same.refl H) pz⟩
      · subst hxs
        cases e
        obtain ⟨x, rx, px⟩ := its_pick rv ra hv he
        exact ⟨x, H, I.kept hk, rx, q _ H (Same.refl H) px⟩
    · cases e
  · cases e
theorem cb_maxK (hu : X.A.units + 65 < cLine) (hc : X.calm = true := by rfl) : CallRK X (.builtin "max") [Str.ofString "default"] (rCK X.K bMaxK) := by
  intro pins s σ H vs zs us ws Q I r rz ⟨A, ds, z, o, d, tr, w, ez, pz, e, q⟩
  subst ez
  obtain ⟨w0, rfl, rw0⟩ := vals_one rz
  unfold bMaxK at e
  split at e
  · obtain ⟨v, rfl, w1⟩ := p1 w
    obtain ⟨xs, e1, e⟩ := bind2 e
    split at e
    · next hok =>
      obtain ⟨hal, hsh⟩ := okCmp_facts hok
      obtain ⟨a, ys, rfl, ha, ra⟩ := w1.seq e1
      rw [ref1 r]
      obtain ⟨its, rv, hl⟩ := seq_its I ha
      obtain ⟨as, rd⟩ := reads_all I rv ra fun x hx => (hsh x hx).1
      have hdp := depth_all fun x hx => (hsh x hx).2
      refine max_pickD (I.ok.hd hc) hl rd hal (by omega) (fun hz h' tk hk => ?_) fun y zs i v h' tk hxs hv he hk => ?_
      · subst hz
        cases e
        exact ⟨z, H, I.kept hk, rw0, q _ H (Same.refl H) pz⟩
      · subst hxs
        cases e
        obtain ⟨x, rx, px⟩ := its_pick rv ra hv he
        exact ⟨x, H, I.kept hk, rx, q _ H (Same.refl H) px⟩
    · cases e
  · cases e
variable {O : List Nat} {st : Bool} {e eo : Expr} {es : List Expr} {fs : XL} {fo : Xp} {pos kpos : Pos} {m : Md}
theorem se_callK {x : Str} {p : Pos} {id : String} {ks : Str} {g : List D → D → Option D} (hc : CallRK X (.builtin id) [ks] (rCK X.K g)) (hm : X.mg x = none) (ha : SA X O st (e :: es) fs) (ho : SE X O m eo fo) (hmw : m ≠ .w := by decide) (hg : L2.Gl X x := by rfl) (hv : bootBuiltins x = some (.builtin id) := by rfl) (hn : x ≠ "__name__" := by decide) (hdb : (x == ("__debug__" : Str)) = false := by decide)
    (he : backTo pos (starEach (e :: es) X.env) = (false, eval e X.env) :: backTo pos (starEach es X.env) := by rfl) (hpl : (backTo pos (starEach (e :: es) X.env)).any (·.1) = false := by rfl)
    (hall : (backToKw pos (keywordEach [⟨some ks, eo, kpos⟩] X.env)).all (·.1.isSome) = true := by rfl) (hnone : (backToKw pos (keywordEach [⟨some ks, eo, kpos⟩] X.env)).any (·.1.isNone) = false := by rfl) (hks : (backToKw pos (keywordEach [⟨some ks, eo, kpos⟩] X.env)).filterMap (·.1) = [ks] := by rfl) :
    SE X O .s (.Call (.Name x p) (e :: es) [⟨some ks, eo, kpos⟩] pos) (xCallK g fs fo) := by
  refine ⟨pe_imp (pe_callBK hc hg hm hv ha.pa (pk_cons ho.pe pk_nil) hn hdb he hpl hall hnone hks) fun σ H Q q => ?_⟩
  obtain ⟨H0, A0, G, ρ, B, d, S, e, k⟩ := q
  obtain ⟨ds, ex, e⟩ := bind2 e
  obtain ⟨x, eo, e⟩ := bind2 e
  exact ⟨H0, A0, G, ρ, B, ds, S, ex, fun vs H1 s1 r1 => ⟨H0, A0, G, ρ, B, x, S.mono s1, eo, fun z H2 s2 r2 => ⟨Av A0 B, ds, z, x, d, (S.mono (s1.trans s2)).tr, (weak_mono s2 (ResL.weak r1)), rfl, r2.toS (S.mono s1).tr hmw, e, fun v H' s r => k v H' ((s1.trans s2).trans s) r⟩⟩⟩
end
end Pm

/-! Pm: the least of typed data, for the plain mathematics. -/
namespace Pm
open PySem PySem.Spec PySem.W PyProof.Rows L2
abbrev lt' {α : Type} [DecidableEq α] [DatumOrd α] (a b : α) : Bool := DatumOrd.lt a b
/-- a linear order of data that may be laid and compared -/
class LinD (α : Type) [DecidableEq α] [DatumOrd α] : Prop where
  tri : ∀ a b : α, lt' a b = false → lt' b a = false → a = b
  trans : ∀ a b c : α, lt' a b = false → lt' b c = false → lt' a c = false
  asym : ∀ a b : α, lt' a b = false ∨ lt' b a = false
  lay : ∀ a : α, (Datum.toD a).canLay0 = true
instance : LinD Int where
  tri a b h1 h2 := by
    have h1 := of_decide_eq_false h1
    have h2 := of_decide_eq_false h2
    omega
  trans a b c h1 h2 := by
    have h1 := of_decide_eq_false h1
    have h2 := of_decide_eq_false h2
    exact decide_eq_false (by omega)
  asym a b := by
    by_cases h : a < b
    · exact .inr (decide_eq_false (by omega))
    · exact .inl (decide_eq_false h)
  lay a := by show (PyData.int a).canLay0 = true; simp [PyData.canLay0]
section
variable {α β : Type} [DecidableEq α] [DatumOrd α] [LinD α] [DecidableEq β] [DatumOrd β] [LinD β]
theorem lt_irr (a : α) : lt' a a = false := (DatumOrd.lt_eq a a).symm.trans (dataLt_self _)
theorem lLt_cc (x y : α) (xs ys : List α) : listLt (x :: xs) (y :: ys) = if x = y then listLt xs ys else lt' x y := rfl
theorem lLt_tri : ∀ xs ys : List α, listLt xs ys = false → listLt ys xs = false → xs = ys
  | [], [], _, _ => rfl
  | [], _ :: _, h, _ => by cases h
  | _ :: _, [], _, h => by cases h
  | x :: xs, y :: ys, h1, h2 => by
    rw [lLt_cc] at h1 h2
    by_cases h : x = y
    · subst h
      rw [if_pos rfl] at h1 h2
      rw [lLt_tri xs ys h1 h2]
    · rw [if_neg h] at h1
      rw [if_neg (Ne.symm h)] at h2
      exact absurd (LinD.tri _ _ h1 h2) h
theorem lLt_trans : ∀ xs ys zs : List α, listLt xs ys = false → listLt ys zs = false → listLt xs zs = false
  | [], ys, zs, h1, h2 => by
    have : ys = [] := by
      cases ys with
      | nil => rfl
      | cons _ _ => cases h1
    subst this
    exact h2
  | x :: xs, [], zs, h1, h2 => by
    have : zs = [] := by
      cases zs with
      | nil => rfl
      | cons _ _ => cases h2
    subst this
    rfl
  | x :: xs, y :: ys, [], _, _ => rfl
  | x :: xs, y :: ys, z :: zs, h1, h2 => by
    rw [lLt_cc] at h1 h2 ⊢
    by_cases h : x = y
    · subst h
      rw [if_pos rfl] at h1
      by_cases h' : x = z
      · subst h'
        rw [if_pos rfl] at h2 ⊢
        exact lLt_trans xs ys zs h1 h2
      · rw [if_neg h'] at h2 ⊢
        exact h2
    · rw [if_neg h] at h1
      by_cases h' : y = z
      · subst h'
        rw [if_neg h]
        exact h1
      · rw [if_neg h'] at h2
        by_cases h'' : x = z
        · subst h''
          exact absurd (LinD.tri _ _ h1 h2) h
        · rw [if_neg h'']
          exact LinD.trans _ _ _ h1 h2
theorem lLt_asym : ∀ xs ys : List α, listLt xs ys = false ∨ listLt ys xs = false
  | [], ys => .inr (by cases ys <;> rfl)
  | _ :: _, [] => .inl rfl
  | x :: xs, y :: ys => by
    rw [lLt_cc, lLt_cc]
    by_cases h : x = y
    · subst h
      rw [if_pos rfl, if_pos rfl]
      exact lLt_asym xs ys
    · rw [if_neg h, if_neg (Ne.symm h)]
      exact LinD.asym x y
theorem layAll_map : ∀ xs : List α, PyData.canLayAll0 (xs.map Datum.toD) = true
  | [] => by simp [PyData.canLayAll0]
  | x :: xs => by
    rw [List.map_cons, PyData.canLayAll0, LinD.lay x, layAll_map xs]
    rfl
instance : LinD (Tup α) where
  tri a b h1 h2 := by
    cases a
    cases b
    exact congrArg Tup.mk (lLt_tri _ _ h1 h2)
  trans a b c h1 h2 := lLt_trans _ _ _ h1 h2
  asym a b := lLt_asym _ _
  lay a := by
    show (PyData.tuple (a.items.map Datum.toD)).canLay0 = true
    rw [PyData.canLay0]
    exact layAll_map _
theorem pLt (p q : α × β) : lt' p q = if p.1 = q.1 then lt' p.2 q.2 else lt' p.1 q.1 := rfl
instance : LinD (α × β) where
  tri p q h1 h2 := by
    rw [pLt] at h1 h2
    by_cases h : p.1 = q.1
    · rw [if_pos h] at h1
      rw [if_pos h.symm] at h2
      exact Prod.ext h (LinD.tri _ _ h1 h2)
    · rw [if_neg h] at h1
      rw [if_neg (Ne.symm h)] at h2
      exact absurd (LinD.tri _ _ h1 h2) h
  trans p q r h1 h2 := by
    rw [pLt] at h1 h2 ⊢
    by_cases h : p.1 = q.1
    · rw [if_pos h] at h1
      rw [h]
      by_cases h' : q.1 = r.1
      · rw [if_pos h'] at h2 ⊢
        exact LinD.trans _ _ _ h1 h2
      · rw [if_neg h'] at h2 ⊢
        exact h2
    · rw [if_neg h] at h1
      by_cases h' : q.1 = r.1
      · rw [← h', if_neg h]
        exact h1
      · rw [if_neg h'] at h2
        by_cases h'' : p.1 = r.1
        · rw [← h''] at h2
          exact absurd (LinD.tri _ _ h1 h2) h
        · rw [if_neg h'']
          exact LinD.trans _ _ _ h1 h2
  asym p q := by
    rw [pLt, pLt]
    by_cases h : p.1 = q.1
    · rw [if_pos h, if_pos h.symm]
      exact LinD.asym _ _
    · rw [if_neg h, if_neg (Ne.symm h)]
      exact LinD.asym _ _
  lay p := by
    show (PyData.tuple [Datum.toD p.1, Datum.toD p.2]).canLay0 = true
    rw [PyData.canLay0, PyData.canLayAll0, LinD.lay, PyData.canLayAll0, LinD.lay, PyData.canLayAll0]
    rfl
/-! ### the least -/
theorem minOf_spec : ∀ (xs : List α) (x : α), minOf x xs ∈ x :: xs ∧ ∀ y ∈ x :: xs, lt' y (minOf x xs) = false
  | [], x => ⟨by simp [minOf], fun y hy => by
      have : y = x := by simpa using hy
      subst this
      exact lt_irr _⟩
  | z :: zs, x => by
    have e : minOf x (z :: zs) = minOf (if lt' z x = true then z else x) zs := rfl
    rw [e]
    by_cases h : lt' z x = true
    · rw [if_pos h]
      obtain ⟨h1, h2⟩ := minOf_spec zs z
      refine ⟨List.mem_cons_of_mem _ h1, fun y hy => ?_⟩
      rcases List.mem_cons.mp hy with rfl | hy
      · refine LinD.trans _ z _ ?_ (h2 z (by simp))
        rcases LinD.asym z y with h' | h'
        · rw [h'] at h; cases h
        · exact h'
      · exact h2 y hy
    · rw [if_neg h]
      obtain ⟨h1, h2⟩ := minOf_spec zs x
      have h : lt' z x = false := by simpa using h
      refine ⟨?_, fun y hy => ?_⟩
      · rcases List.mem_cons.mp h1 with h1 | h1
        · rw [h1]; simp
        · exact List.mem_cons_of_mem _ (List.mem_cons_of_mem _ h1)
      · rcases List.mem_cons.mp hy with rfl | hy
        · exact h2 _ (by simp)
        · rcases List.mem_cons.mp hy with rfl | hy
          · exact LinD.trans _ x _ h (h2 x (by simp))
          · exact h2 y (List.mem_cons_of_mem _ hy)
theorem maxOf_spec : ∀ (xs : List α) (x : α), maxOf x xs ∈ x :: xs ∧ ∀ y ∈ x :: xs, lt' (maxOf x xs) y = false
  | [], x => ⟨by simp [maxOf], fun y hy => by
      have : y = x := by simpa using hy
      subst this
      exact lt_irr _⟩
  | z :: zs, x => by
    have e : maxOf x (z :: zs) = maxOf (if lt' x z = true then z else x) zs := rfl
    rw [e]
    by_cases h : lt' x z = true
    · rw [if_pos h]
      obtain ⟨h1, h2⟩ := maxOf_spec zs z
      refine ⟨List.mem_cons_of_mem _ h1, fun y hy => ?_⟩
      rcases List.mem_cons.mp hy with rfl | hy
      · refine LinD.trans _ z _ (h2 z (by simp)) ?_
        rcases LinD.asym y z with h' | h'
        · rw [h'] at h; cases h
        · exact h'
      · exact h2 y hy
    · rw [if_neg h]
      obtain ⟨h1, h2⟩ := maxOf_spec zs x
      have h : lt' x z = false := by simpa using h
      refine ⟨?_, fun y hy => ?_⟩
      · rcases List.mem_cons.mp h1 with h1 | h1
        · rw [h1]; simp
        · exact List.mem_cons_of_mem _ (List.mem_cons_of_mem _ h1)
      · rcases List.mem_cons.mp hy with rfl | hy
        · exact h2 _ (by simp)
        · rcases List.mem_cons.mp hy with rfl | hy
          · exact LinD.trans _ x _ (h2 x (by simp)) h
          · exact h2 y (List.mem_cons_of_mem _ hy)
def least : List α → Option α
  | [] => none
  | x :: xs => some (minOf x xs)
theorem least_iff {l : List α} {m : α} : least l = some m ↔ m ∈ l ∧ ∀ y ∈ l, lt' y m = false := by
  cases l with
  | nil => simp [least]
  | cons x xs =>
    obtain ⟨h1, h2⟩ := minOf_spec xs x
    constructor
    · intro h
      cases h
      exact ⟨h1, h2⟩
    · intro ⟨h3, h4⟩
      exact congrArg some (LinD.tri _ _ (h4 _ h1) (h2 _ h3))
theorem least_none {l : List α} : least l = none ↔ l = [] := by
  cases l <;> simp [least]
theorem least_mem {l l' : List α} (h : ∀ a, a ∈ l ↔ a ∈ l') : least l = least l' := by
  cases e : least l with
  | none =>
    rw [least_none] at e
    subst e
    symm
    rw [least_none]
    cases l' with
    | nil => rfl
    | cons x xs => exact absurd ((h x).mpr (by simp)) (by simp)
  | some m =>
    symm
    rw [least_iff] at e ⊢
    exact ⟨(h m).mp e.1, fun y hy => e.2 y ((h y).mpr hy)⟩
/-- data in a list or a tuple -/
theorem okCmp_map (hd : Datum.depth α ≤ 20) (l : List α) : okCmp (l.map Datum.toD) = true := by
  have hA := alikeAll_datum l
  unfold okCmp
  rw [Bool.and_eq_true, List.all_eq_true, List.all_eq_true]
  refine ⟨fun x hx => List.all_eq_true.mpr fun y hy => hA.1 x hx y hy, fun x hx => ?_⟩
  obtain ⟨a, _, rfl⟩ := List.mem_map.mp hx
  have h1 := Datum.depth_le a
  have h2 := DatumOrd.notNone a
  rw [Bool.and_eq_true, Bool.and_eq_true, decide_eq_true_eq]
  refine ⟨⟨?_, by omega⟩, ?_⟩
  · unfold shp SeqAt.shaped
    rw [LinD.lay a, Bool.true_and]
    exact decide_eq_true (by omega)
  · generalize Datum.toD a = d at h2
    cases d <;> first | rfl | exact absurd rfl h2
theorem minK_map (hd : Datum.depth α ≤ 20) {x : D} (l : List α) (o : D) (hx : seqD x = some (l.map Datum.toD)) : bMinK [x] o = some ((least l).elim o Datum.toD) := by
  show (seqD x).bind _ = _
  rw [hx, Option.bind_some, if_pos (okCmp_map hd l)]
  cases l with
  | nil => rfl
  | cons y ys =>
    show some (minD (Datum.toD y) (ys.map Datum.toD)) = _
    rw [minD_map]
    rfl
theorem minD_l (hd : Datum.depth α ≤ 20) {x : D} (l : List α) (hx : seqD x = some (l.map Datum.toD)) : bMinD [x] = (least l).map Datum.toD := by
  show (seqD x).bind _ = _
  rw [hx, Option.bind_some, if_pos (okCmp_map hd l)]
  cases l with
  | nil => rfl
  | cons y ys =>
    show some (minD (Datum.toD y) (ys.map Datum.toD)) = _
    rw [minD_map]
    rfl
def leB (a b : α) : Bool := !lt' b a
theorem dataLe_lt (a b : α) : dataLe false (Datum.toD : α → D) a b = leB a b := by
  show (!PyProof.Rows.lexLt itemOrd (keyToks (Datum.toD b)) (keyToks (Datum.toD a))) = !lt' b a
  rw [show PyProof.Rows.lexLt itemOrd (keyToks (Datum.toD b)) (keyToks (Datum.toD a)) = dataLt (Datum.toD b) (Datum.toD a) from rfl, DatumOrd.lt_eq]
theorem okSort_map (hd : Datum.depth α ≤ 20) (l : List α) (hl : l.length ≤ 16777216) (ht : (∀ a : α, ∃ y ys, Datum.toD a = PyData.tuple (y :: ys)) ∨ ∀ a : α, ∀ ys, Datum.toD a ≠ PyData.tuple ys) : okSort (l.map Datum.toD) = true := by
  have hA := alikeAll_datum l
  unfold okSort
  rw [Bool.and_eq_true, Bool.and_eq_true, Bool.and_eq_true]
  refine ⟨⟨⟨?_, ?_⟩, ?_⟩, ?_⟩
  · rw [List.all_eq_true]
    exact fun x hx => List.all_eq_true.mpr fun y hy => hA.1 x hx y hy
  · rw [List.all_eq_true]
    intro x hx
    obtain ⟨a, _, rfl⟩ := List.mem_map.mp hx
    have h1 := Datum.depth_le a
    rw [Bool.and_eq_true, decide_eq_true_eq]
    refine ⟨?_, by omega⟩
    unfold shp SeqAt.shaped
    rw [LinD.lay a, Bool.true_and]
    exact decide_eq_true (by omega)
  · rw [List.length_map]
    exact decide_eq_true hl
  · rw [Bool.or_eq_true]
    rcases ht with ht | ht
    · refine .inl ?_
      rw [List.all_map, List.all_eq_true]
      intro a _
      obtain ⟨y, ys, e⟩ := ht a
      rw [Function.comp, e]
    · refine .inr ?_
      rw [List.all_map, List.all_eq_true]
      intro a _
      have h1 := ht a
      have h2 := DatumOrd.notNone a
      rw [Function.comp]
      generalize Datum.toD a = d at h1 h2
      cases d <;> first | rfl | exact absurd rfl h2 | exact absurd rfl (h1 _)
theorem sorted_map (hd : Datum.depth α ≤ 20) {x : D} (l : List α) (hl : l.length ≤ 16777216) (ht : (∀ a : α, ∃ y ys, Datum.toD a = PyData.tuple (y :: ys)) ∨ ∀ a : α, ∀ ys, Datum.toD a ≠ PyData.tuple ys) (hx : seqD x = some (l.map Datum.toD)) :
    ∃ l' : List α, l'.Perm l ∧ l'.Pairwise (fun a b => lt' b a = false) ∧ l'.head? = least l ∧ bSorted [x] = some (.list (l'.map Datum.toD)) := by
  have hp : (l.mergeSort leB).Perm l := List.mergeSort_perm _ _
  have hs : (l.mergeSort leB).Pairwise (fun a b : α => leB a b = true) := List.pairwise_mergeSort (fun a b c h1 h2 => by
    unfold leB at *
    simp only [Bool.not_eq_true'] at *
    exact LinD.trans c b a h2 h1) (fun a b => by
    unfold leB
    rcases LinD.asym a b with h | h
    · rw [h]; simp
    · rw [h]; simp) l
  have hs' : (l.mergeSort leB).Pairwise (fun a b : α => lt' b a = false) := hs.imp fun h => by
    unfold leB at h
    simpa using h
  refine ⟨l.mergeSort leB, hp, hs', ?_, ?_⟩
  · cases e : l.mergeSort leB with
    | nil =>
      rw [e] at hp
      have : l = [] := List.Perm.eq_nil hp.symm
      subst this
      rfl
    | cons y ys =>
      rw [e] at hp hs'
      symm
      show least l = some y
      rw [least_iff]
      refine ⟨hp.mem_iff.mp (by simp), fun z hz => ?_⟩
      have hz := hp.mem_iff.mpr hz
      rcases List.mem_cons.mp hz with rfl | hz
      · exact lt_irr _
      · exact (List.pairwise_cons.mp hs').1 z hz
  · show (seqD x).bind _ = _
    rw [hx, Option.bind_some, if_pos (okSort_map hd l hl ht), PySem.W.sort_maps (r := leB) (s := PySem.W.dataLe false id) (Datum.toD : α → D) (fun a _ b _ => (dataLe_lt a b).symm)]
end
theorem xCallK_a {ρ : PEnv} (g : List D → D → Option D) (fs : XL) (fd : Xp) : xCallK g fs fd ρ = (fs ρ).bind fun ds => (fd ρ).bind fun x => g ds x := rfl
end Pm

/-! Pm: sorted(set(xs)), xs a tuple of ints. -/
namespace Pm
open PySem PySem.Spec PyProof.Rows L2
/-- the members once -/
def dd : List Int → List Int
  | [] => []
  | x :: xs => if x ∈ xs then dd xs else x :: dd xs
theorem mem_dd {a : Int} : ∀ {l : List Int}, a ∈ dd l ↔ a ∈ l
  | [] => Iff.rfl
  | x :: xs => by
    unfold dd
    split
    · next h =>
      rw [mem_dd, List.mem_cons]
      exact ⟨.inr, fun h' => h'.elim (fun e => e ▸ h) id⟩
    · rw [List.mem_cons, List.mem_cons, mem_dd]
theorem nodup_dd : ∀ l : List Int, (dd l).Nodup
  | [] => List.nodup_nil
  | x :: xs => by
    unfold dd
    split
    · exact nodup_dd xs
    · next h => exact List.nodup_cons.mpr ⟨fun h' => h (mem_dd.mp h'), nodup_dd xs⟩
/-- the members once, rising -/
def risen (ns : List Int) : List Int := (dd ns).mergeSort fun a b => decide (a ≤ b)
theorem risen_mem {ns : List Int} {k : Int} : k ∈ risen ns ↔ k ∈ ns := by
  unfold risen
  rw [(List.mergeSort_perm _ _).mem_iff, mem_dd]
theorem risen_lt (ns : List Int) : (risen ns).Pairwise (· < ·) := by
  unfold risen
  have h1 : ((dd ns).mergeSort fun a b => decide (a ≤ b)).Pairwise (fun a b : Int => decide (a ≤ b) = true) := List.pairwise_mergeSort (fun a b c h1 h2 => by
    rw [decide_eq_true_eq] at *
    omega) (fun a b => by
    rw [Bool.or_eq_true, decide_eq_true_eq, decide_eq_true_eq]
    omega) _
  have h2 : ((dd ns).mergeSort fun a b => decide (a ≤ b)).Nodup := (List.mergeSort_perm _ _).nodup_iff.mpr (nodup_dd _)
  refine lt_of_le_nodup _ (h1.imp fun h => by simpa using h) h2
theorem rising_eq : ∀ {a b : List Int}, a.Pairwise (· < ·) → b.Pairwise (· < ·) → (∀ k, k ∈ a ↔ k ∈ b) → a = b
  | [], [], _, _, _ => rfl
  | [], y :: ys, _, _, h => absurd ((h y).mpr (by simp)) (by simp)
  | x :: xs, [], _, _, h => absurd ((h x).mp (by simp)) (by simp)
  | x :: xs, y :: ys, ha, hb, h => by
    obtain ⟨a1, a2⟩ := List.pairwise_cons.mp ha
    obtain ⟨b1, b2⟩ := List.pairwise_cons.mp hb
    have hxy : x = y := by
      have h1 := (h x).mp (by simp)
      have h2 := (h y).mpr (by simp)
      rcases List.mem_cons.mp h1 with h1 | h1
      · exact h1
      · rcases List.mem_cons.mp h2 with h2 | h2
        · exact h2.symm
        · have := b1 x h1
          have := a1 y h2
          omega
    subst hxy
    refine congrArg (x :: ·) (rising_eq a2 b2 fun k => ?_)
    have hk := h k
    rw [List.mem_cons, List.mem_cons] at hk
    constructor
    · intro hm
      rcases hk.mp (.inr hm) with e | e
      · subst e
        exact absurd (a1 _ hm) (Int.lt_irrefl _)
      · exact e
    · intro hm
      rcases hk.mpr (.inr hm) with e | e
      · subst e
        exact absurd (b1 _ hm) (Int.lt_irrefl _)
      · exact e
def bSrtSet : List D → Option D
  | [.tuple ds] => (asInts ds).bind fun ns => if ns.length < 64 then some (.list ((risen ns).map PyData.int)) else none
  | _ => none
def rSetT (w : World) : List V → Hp → VK → Prop := fun xs H Q => ∃ (a : Addr) (ns : List Int), xs = [V.ref a] ∧ H a = some (.tup (ns.map V.int)) ∧ ns.length < 64 ∧
  ∀ (p : Addr) (c : Nat), H p = none → c ≤ ns.length → Q (.ref p) (upd H p (SetO w p (fun j => decide (j ∈ ns)) c))
section
variable {X : Cx}
theorem cr_setT (hc : X.calm = true) : CallR X (.type "set") (rSetT X.w) := by
  intro pins s σ H xs us Q I r ⟨a, ns, e1, ha, hl, q⟩
  subst e1
  rw [Vals.ref1 r]
  obtain ⟨its, rv, hl2, hz⟩ := I.tuple (.of ha)
  have hi := rv.ints
  refine call_set_tupI (items := its.toArray) ns (I.ok.hd hc) hl2 hi (by unfold scanBound; omega) fun h' tk c R hcn hk => ?_
  exact ⟨.ref _, upd H s.heap.objs.size (SetO X.w s.heap.objs.size (fun j => decide (j ∈ ns)) c), I.laid (t' := tk) hk (Nat.le_refl _) (setO_new R), rfl, q _ c (I.hok.fresh (Nat.le_refl _)) hcn⟩
theorem rp_ints {K : PySem.W.Frag} {A : Addr → Prop} {H : Hp} : ∀ ns : List Int, RpL K A H (ns.map V.int) (ns.map PyData.int)
  | [] => .nil
  | n :: ns => .cons (.int n) (rp_ints ns)
variable {O : List Nat} {st : Bool} {e : Expr} {fs : XL} {p p2 pos pos2 : Pos}
theorem se_sset (hm : X.mg "sorted" = none) (hm2 : X.mg "set" = none) (ha : SA X O st [e] fs) (hc : X.calm = true := by rfl) (hg : L2.Gl X "sorted" := by rfl) (hg2 : L2.Gl X "set" := by rfl)
    (he : starEach [e] X.env = (false, eval e X.env) :: starEach [] X.env := by rfl) (hpl : (backTo pos2 (starEach [] X.env)).any (·.1) = false := by rfl)
    (he' : starEach [.Call (.Name "set" p2) [e] [] pos2] X.env = (false, eval (.Call (.Name "set" p2) [e] [] pos2) X.env) :: starEach [] X.env := by rfl) (hpl' : (backTo pos (starEach [] X.env)).any (·.1) = false := by rfl) :
    SE X O .f (.Call (.Name "sorted" p) [.Call (.Name "set" p2) [e] [] pos2] [] pos) (xCall bSrtSet fs) := by
  refine ⟨pe_imp (pe_callB (cr_sortedSet hc) hg hm rfl (pa_cons (pe_callTy (cr_setT hc) hg2 hm2 rfl ha.pa (by decide) (by decide) he hpl) pa_nil he') (by decide) (by decide) he' hpl') fun σ H Q q => ?_⟩
  obtain ⟨H0, A0, G, ρ, B, d, S, e, k⟩ := q
  obtain ⟨ds, ex, e⟩ := bind2 e
  refine ⟨H0, A0, G, ρ, B, ds, S, ex, fun vs H1 s1 r1 => ?_⟩
  have w := r1.weak
  unfold bSrtSet at e
  split at e
  · next ds =>
    obtain ⟨ns, e1, e⟩ := bind2 e
    split at e
    · next h64 =>
      cases e
      obtain ⟨v, rfl, w1⟩ := p1 w
      obtain ⟨a, xs, rfl, hp, _, ra⟩ := w1.tup
      have hv := ra.ints e1
      subst hv
      refine ⟨a, ns, rfl, hp, h64, fun p' c hn hcn => ⟨p', _, c, rfl, upd_same, by omega, fun ns' p'' h1 h2 h3 hn2 => ?_⟩⟩
      have en : ns' = risen ns := rising_eq h1 (risen_lt ns) fun j => by
        rw [h2 j, risen_mem]
        simp
      subst en
      have sm := (s1.trans (same_upd (o := SetO X.w p' (fun j => decide (j ∈ ns)) c) hn))
      exact k _ _ (sm.trans (same_upd hn2)) (Res.newL (S.mono sm).tr hn2 (rp_ints _) sm)
    · cases e
  · cases e
end
end Pm

/-! Pm: sorted of tuples of which the first is empty. -/
namespace Pm
open PySem PySem.Spec PyProof.Rows L2
/-- all are tuples, and the first is empty -/
def SortableE (ds : List D) : Prop := ds.head? = some (.tuple []) ∧ ∀ d ∈ ds, ∃ xs, d = .tuple xs
def okSortE (ds : List D) : Bool := (ds.all fun x => ds.all fun y => PySem.W.alike x y) && (ds.all fun x => shp x && decide (x.depth ≤ 20)) && decide (ds.length ≤ 16777216) &&
  ((match ds.head? with | some (.tuple []) => true | _ => false) && ds.all fun x => match x with | .tuple _ => true | _ => false)
def bSortedE : List D → Option D
  | [x] => (seqD x).bind fun ds => if okSortE ds then some (.list (ds.mergeSort (PySem.W.dataLe false id))) else none
  | _ => none
theorem okSortE_facts {ds : List D} (h : okSortE ds = true) : PySem.W.AllAlike ds ∧ (∀ x ∈ ds, shp x = true ∧ x.depth ≤ 20) ∧ ds.length ≤ 16777216 ∧ SortableE ds := by
  unfold okSortE at h
  rw [Bool.and_eq_true, Bool.and_eq_true, Bool.and_eq_true, Bool.and_eq_true] at h
  obtain ⟨⟨⟨h1, h2⟩, h3⟩, h4, h5⟩ := h
  refine ⟨fun d hd d' hd' => ?_, fun x hx => ?_, of_decide_eq_true h3, ?_, fun d hd => ?_⟩
  · exact List.all_eq_true.mp (List.all_eq_true.mp h1 d hd) d' hd'
  · have := List.all_eq_true.mp h2 x hx
    rw [Bool.and_eq_true, decide_eq_true_eq] at this
    exact this
  · split at h4
    · assumption
    · cases h4
  · have := List.all_eq_true.mp h5 d hd
    split at this
    · exact ⟨_, rfl⟩
    · cases this
section
open PySem.W PySem.SeqAt
variable {prog : Program} {w : World} {A : Around} {E : Value → Shared → Prop} {s : Shared}
theorem call_tuple_ltE {Q : Value → Shared → Prop} {l b : Addr} {items items2 : Array Value} {e r : Nat → Bool} (hl : s.heap.IsTuple l items) (hb : s.heap.IsTuple b items2)
    (he : ∀ j (h1 : j < items.size) (h2 : j < items2.size), EqAt A.in1 s items[j] items2[j] (e j)) (hr : ∀ j (h1 : j < items.size) (h2 : j < items2.size), e j = false → RcLt A.in1 s items[j] items2[j] (r j))
    (h : Q (.bool (firstLt e r (decide (items.size < items2.size)) (List.range (min items.size items2.size)))) s) : wpAny (model prog w) A (call (.builtin "tuple.__lt__") [.ref l, .ref b]) Q E s := by
  obtain ⟨⟨cls, dd, data, sl⟩, ho, hc, n, hd⟩ := id hl
  obtain ⟨⟨cls2, dd2, data2, sl2⟩, ho2, hc2, n2, hd2⟩ := id hb
  simp only at hc hd hc2 hd2
  subst hc hd hc2 hd2
  exact call_meets F.slot_tuple_lt ⟨_, ho, rfl⟩ F.entry_tuple_lt (F.args_tuple_lt_2 _ _) (tuple_ltAt l b items items2 n n2 dd dd2 sl sl2 e r) ⟨ho, ho2, he, hr, h⟩
theorem oneLt_tup {xs ys : List D} {a b : Value} {as bs : List Addr} {Q : Bool → Shared → Prop} (ra : Reads s.heap a (.tuple xs) as) (rb : Reads s.heap b (.tuple ys) bs) (h : alike (.tuple xs) (.tuple ys) = true)
    (hu : A.units + min (PyData.tuple xs).depth (PyData.tuple ys).depth < cLine) (hq : Q (dataLt (.tuple xs) (.tuple ys)) s) : wpAny (model prog w) A (oneLt' true a b) Q E s := by
  have hal : alikeAll xs ys = true := by simpa [alike] using h
  cases ra with
  | @tuple l o vs n _ as₁ h1 h2 h3 h4 =>
    cases rb with
    | @tuple l' o' vs' n' _ bs₁ k1 k2 k3 k4 =>
      have n1 : vs.size = xs.length := by simpa using ReadsAll.length _ _ _ h4
      have n2 : vs'.size = ys.length := by simpa using ReadsAll.length _ _ _ k4
      rw [dataLt_tuple, ← firstLt_toks xs ys hal, ← n1, ← n2] at hq
      rw [oneLt'_eq]
      simp only [if_true]
      refine wpAny_bind (wpAny_cRoomFor (room_here hu) ?_)
      refine wpAny_bind (wpAny_callSpecialIfBound?_slot (T := "tuple") ⟨_, h1, h2⟩ F.slot_tuple_lt (call_tuple_ltE (e := pairEq xs ys) (r := fun j => dataLt (xs.getD j .none) (ys.getD j .none)) ⟨_, h1, h2, _, h3⟩ ⟨_, k1, k2, _, k3⟩ (fun j j1 j2 => ?_) (fun j j1 j2 hj => ?_) ?_))
      · have := eqAt_alikeAll xs ys A.in1 s vs.toList vs'.toList _ _ h4 k4 hal (room_in hu) j (by simpa using j1) (by simpa using j2)
        simpa using this
      · have := rcLt_alikeAll xs ys A.in1 s vs.toList vs'.toList _ _ h4 k4 hal (room_in hu) j (by simpa using j1) (by simpa using j2) hj
        simpa using this
      · exact wpAny_truthy_bool hq
/-- what each tuple begins with -/
theorem firstsE {M : Model} : ∀ {vs : List Value} {ds : List D} {Q : List (Option Value) → Shared → Prop}, EachIs (fun v d => ∃ as, Reads s.heap v d as) vs ds → (∀ d ∈ ds, ∃ xs, d = .tuple xs) →
    (∀ fs : List (Option Value), fs.length = vs.length → (ds.head? = some (.tuple []) → fs.head? = some none) → Q fs s) → wpAny M A (vs.mapM firstOfTuple') Q E s
  | _, _, Q, .nil, _, h => by rw [List.mapM_nil]; exact wpAny_pure (h [] rfl fun e => by cases e)
  | _, _, Q, .cons (a := v) (b := d) r rs, ht, h => by
    obtain ⟨xs, rfl⟩ := ht d (by simp)
    obtain ⟨as, r⟩ := r
    cases r with
    | @tuple l o vs' n _ as₁ h1 h2 h3 h4 =>
      rw [List.mapM_cons]
      refine wpAny_bind ?_
      rw [kas_first_eq]
      refine wpAny_bind (Looks.here (show Looks M s.heap (typeOf (.ref l)) o.cls from (Looks.ld h1).andThen .now) ?_)
      rw [h2, if_neg (by first | decide | simp)]
      refine wpAny_bind (PyProof.Rows.listItems_at h1 h3 (wpAny_pure ?_))
      refine wpAny_bind (firstsE rs (fun d hd => ht d (List.mem_cons_of_mem _ hd)) fun fs hl hh => wpAny_pure (h _ (by simp [hl]) fun e => ?_))
      have e' : xs = [] := by simpa using e
      subst e'
      have n1 : vs'.size = 0 := by simpa using SeqAt.ReadsAll.length _ _ _ h4
      have : vs'[0]? = none := by simp [n1]
      rw [List.head?_cons, this]
theorem tup_kindE {vs : List Value} {ds : List D} {Q : SortKind → Shared → Prop} (e : EachIs (fun v d => ∃ as, Reads s.heap v d as) vs ds) (hk : SortableE ds) (h : Q oneType' s) : wpAny (model prog w) A (keyKind' vs.toArray) Q E s := by
  rw [keyKind'_eq, List.mapM_toArray, map_eq_pure_bind]
  refine wpAny_bind (wpAny_bind (firstsE e hk.2 fun fs hl hh => wpAny_pure ?_))
  have hf := hh hk.1
  obtain ⟨fr, rfl⟩ : ∃ fr, fs = none :: fr := by
    cases fs with
    | nil => cases hf
    | cons f fr =>
      have : f = none := by simpa using hf
      subst this
      exact ⟨fr, rfl⟩
  rw [if_neg (by simp), if_neg (by simp)]
  rw [oneTypeOnly'_eq, List.mapM_toArray, map_eq_pure_bind]
  have hT : ∀ v ∈ vs, Looks (model prog w) s.heap (typeOf v) (Value.type "tuple") := fun v hv => by
    obtain ⟨d, hd, as, r⟩ := e.left v hv
    obtain ⟨xs, rfl⟩ := hk.2 d hd
    exact looks_reads r
  refine wpAny_bind (wpAny_bind (wpAny_bind (kas_mapM (r := Value.type "tuple") _ (fun v hv Q' hq => (hT v hv).here hq) (wpAny_pure ?_))))
  obtain ⟨v₁, rest, rfl⟩ : ∃ v₁ rest, vs = v₁ :: rest := by
    cases vs with
    | nil => simp at hl
    | cons v r => exact ⟨v, r, rfl⟩
  have hall : ((List.map (fun _ => Value.type "tuple") (v₁ :: rest)).toArray.all fun x => x == Value.type "tuple") = true := by
    simp only [List.all_toArray, List.all_map, List.all_eq_true]
    intro _ _
    exact beq_self_eq_true _
  have h0 : (List.map (fun _ => Value.type "tuple") (v₁ :: rest)).toArray[0]? = some (Value.type "tuple") := by simp
  rw [h0]
  simp only [hall, if_true]
  exact wpAny_pure (wpAny_pure h)
theorem dataE {vs : List Value} {ds : List D} (e : EachIs (fun v d => ∃ as, Reads s.heap v d as) vs ds) (hal : AllAlike ds) (hk : SortableE ds) (hu : ∀ d, d ∈ ds → A.units + d.depth < cLine) : SortsAt prog w A s (dataKind s.heap ds) vs := by
  have room : ∀ {d d' : PyData}, d ∈ ds → A.units + min d.depth d'.depth < cLine := fun {d d'} hd => Nat.lt_of_le_of_lt (Nat.add_le_add_left (Nat.min_le_left _ _) _) (hu d hd)
  refine ⟨fun v hv => ?_, oneType', ?_, fun h2 E Q hq => tup_kindE e hk hq⟩
  · obtain ⟨d, hd, as, r⟩ := e.left v hv
    exact ⟨_, dataKind_some hal hd r⟩
  · intro E x y a b Q ha hb hq
    obtain ⟨d, as, hd, ra, rfl⟩ := dataKind_inv ha
    obtain ⟨d', as', hd', rb, rfl⟩ := dataKind_inv hb
    rw [keyLt'_oneType]
    obtain ⟨xs, rfl⟩ := hk.2 d hd
    obtain ⟨ys, rfl⟩ := hk.2 d' hd'
    exact oneLt_tup ra rb (hal _ hd _ hd') (room hd) hq
end
section
open PySem.W PySem.Calls
variable {prog : Program} {w : World} {A : Around} {E : Value → Shared → Prop} {s : Shared} {β : Type} {R : Value → β → Prop} {enc : β → D} {us : List Value} {bs : List β}
/-- sorted(xs), xs a list or a tuple that reads as data -/
theorem sorted_seqE {l : Addr} {T : String} {o : Obj} {n : Nat} {Q : Value → Shared → Prop} (hT : T = "list" ∨ T = "tuple") (ho : s.heap.get? l = some o) (hc : o.cls = .type T) (hd : o.data = .seq us.toArray n)
    (e : EachIs R us bs) (er : EachIs (fun v b => ∃ as, Reads s.heap v (enc b) as) us bs) (hal : AllAlike (bs.map enc)) (hk : SortableE (bs.map enc)) (hL : bs.length ≤ sizeLine) (hu : ∀ b, b ∈ bs → A.units + 2 + (enc b).depth < cLine)
    (hQ : ∀ (h' : Heap) (d : Addr) (out : List Value) (m : Nat), (∀ b u, s.heap.get? b = some u → h'.get? b = some u) → s.heap.objs.size ≤ d → h'.get? d = some (seqObj "list" out.toArray m) → EachIs R out (bs.mergeSort (dataLe false enc)) → Q (.ref d) { s with heap := h' }) :
    wpAny (model prog w) A (call (.builtin "sorted") [.ref l]) Q E s := by
  have hsz : us.length ≤ sizeLine := by rw [e.length]; exact hL
  refine Calls.call_function_entry kind_sorted plain_sorted entry_sorted (args_sorted1 _) ?_
  unfold Builtin.«sorted»
  apply wpAny_bind (m := checkCount "sorted" 1 1 _)
  apply wpAny_pure
  refine wpAny_bind (took_seq hT ho hc hd hsz ?_)
  refine wpAny_bind (wpAny_newList ?_ hsz)
  generalize hh1 : tookH s.heap us = h1
  have k1 : ∀ b u, s.heap.get? b = some u → h1.get? b = some u := fun b u hb => by rw [← hh1]; exact tookH_old hb
  have hge : s.heap.objs.size ≤ h1.objs.size := by rw [← hh1, tookH_size]; omega
  have hs2 : (h1.push (seqObj "list" us.toArray 0)).get? h1.objs.size = some (seqObj "list" us.toArray 0) := Heap.get?_push_size _ rfl
  have k2 : ∀ b u, s.heap.get? b = some u → (h1.push (seqObj "list" us.toArray 0)).get? b = some u := fun b u hb => Heap.get?_push_of_some _ (k1 b u hb)
  have hlt : ∀ b u, s.heap.get? b = some u → b < h1.objs.size := fun b u hb => Heap.lt_size (k1 b u hb)
  have er2 : EachIs (fun v b => ∃ as, Reads (sortingHeap (h1.push (seqObj "list" us.toArray 0)) h1.objs.size us) v (enc b) as) us bs := each_mono (fun v b ⟨as, r⟩ => ⟨as, PyProof.Rows.Reads.keeps (fun b u hb => sortingHeap_old (Nat.ne_of_lt (hlt b u hb)) (k2 b u hb)) r⟩) er
  have hS := dataE (prog := prog) (w := w) (A := A.in1.in1) (s := { s with heap := sortingHeap (h1.push (seqObj "list" us.toArray 0)) h1.objs.size us }) (each_map (R := fun v d => ∃ as, Reads (sortingHeap (h1.push (seqObj "list" us.toArray 0)) h1.objs.size us) v d as) enc er2) hal hk (bound_map fun b hb => hu b hb)
  refine wpAny_bind (wpAny_holding ?_)
  refine wpAny_call_entry slot_list_sort ⟨_, hs2, rfl⟩ entry_list_sort ?_ (args_list_sort _)
  refine list_sort_vals (s := { s with heap := h1.push (seqObj "list" us.toArray 0) }) hs2 hS hsz ⟨.none, rfl, ?_⟩
  apply wpAny_pure
  obtain ⟨m, hm⟩ := sortedHeap_at (vs := us) (out := (sortVals (dataKind (sortingHeap (h1.push (seqObj "list" us.toArray 0)) h1.objs.size us) (bs.map enc)) false us us).toArray) hs2
  refine ⟨_, rfl, hQ _ _ _ m (fun b u hb => ?_) hge hm (sortVals_data false e er2 hal)⟩
  have q := k2 b u hb
  rw [← q]
  exact sortedHeap_old (Nat.ne_of_lt (hlt b u hb)) (Heap.lt_size q)
end
section
variable {X : Cx}
theorem cb_sortedE (hu : X.A.units + 65 < cLine) : CallR X (.builtin "sorted") (rC X.K .f bSortedE) := by
  intro pins s σ H vs us Q I r ⟨A, ds, d, tr, w, e, q⟩
  unfold bSortedE at e
  split at e
  · obtain ⟨v, rfl, w1⟩ := p1 w
    obtain ⟨xs, e1, e⟩ := bind2 e
    split at e
    · next hok =>
      cases e
      obtain ⟨hal, hsh, hlen, hsb⟩ := okSortE_facts hok
      obtain ⟨a, ys, rfl, ha, ra⟩ := w1.seq e1
      rw [ref1 r]
      obtain ⟨its, T, o, n, rv, hT, ho, hc, hd, hz⟩ : ∃ (its : List Value) (T : String) (o : Obj) (n : Nat), Vals ys its ∧ (T = "list" ∨ T = "tuple") ∧ s.heap.get? a = some o ∧ o.cls = .type T ∧ o.data = .seq its.toArray n ∧ ys.length ≤ sizeLine := by
        rcases ha with ha | ha
        · obtain ⟨its, rv, hl, hz⟩ := I.list (.of ha)
          obtain ⟨o, ho, hc, n, hd⟩ := hl.isList
          exact ⟨its, "list", o, n, rv, .inl rfl, ho, hc, hd, hz⟩
        · obtain ⟨its, rv, hl, hz⟩ := I.tuple (.of ha)
          obtain ⟨o, ho, hc, n, hd⟩ := hl
          exact ⟨its, "tuple", o, n, rv, .inr rfl, ho, hc, hd, hz⟩
      have hyl := ra.length
      have hme : (ys.zip xs).map Prod.snd = xs := List.map_snd_zip (by omega)
      have hE := zip_each rv ra
      refine sorted_seqE (β := V × D) (enc := Prod.snd) (bs := ys.zip xs) (R := fun u (p : V × D) => RelV p.1 u ∧ Rp X.K A H p.1 p.2) hT ho hc hd hE (each_mem hE fun u p hp hr => ?_) (by rw [hme]; exact hal) (by rw [hme]; exact hsb) (by rw [List.length_zip]; omega) (fun p hp => ?_) fun h' d out m hk hp he eo => ?_
      · have hm : p.2 ∈ xs := (List.of_mem_zip (a := p.1) (b := p.2) hp).2
        exact Dp.reads I _ p.1 u ((WRp.dp (.inl hr.2) (hsh _ hm).1)) hr.1
      · have hm : p.2 ∈ xs := (List.of_mem_zip (a := p.1) (b := p.2) hp).2
        have := (hsh _ hm).2
        omega
      · obtain ⟨v1, r1⟩ := each_out eo
        have hsm : ((ys.zip xs).mergeSort (PySem.W.dataLe false Prod.snd)).map Prod.snd = xs.mergeSort (PySem.W.dataLe false id) := by
          have := PySem.W.sort_maps (r := PySem.W.dataLe false Prod.snd) (s := PySem.W.dataLe false id) (Prod.snd : V × D → D) (l := ys.zip xs) (fun _ _ _ _ => rfl)
          rw [this, hme]
        rw [hsm] at r1
        have hlo : (((ys.zip xs).mergeSort (PySem.W.dataLe false Prod.snd)).map Prod.fst).length ≤ sizeLine := by
          rw [List.length_map, List.length_mergeSort, List.length_zip]
          omega
        have hp' : H d = none := I.hok.fresh hp
        exact ⟨.ref d, upd H d (.lst (((ys.zip xs).mergeSort (PySem.W.dataLe false Prod.snd)).map Prod.fst)), I.laid (t' := s.toks) hk hp ⟨hlo, out, m, v1, he⟩, rfl, q _ _ (same_upd hp') (Res.newL tr hp' r1 (Same.refl H))⟩
    · cases e
  · cases e
end
end Pm

/-! Pm: xs[j] op= e, xs one's own list. -/
namespace Pm
open PySem PySem.Spec PyProof.Rows L2
def rGetLs : V → V → Hp → VK → Prop := fun o i H Q => ∃ (p : Addr) (xs : List V) (k : Int) (z : V), o = .ref p ∧ i = .int k ∧ H p = some (.lst xs) ∧ L2.atI xs k = some z ∧ Q z H
theorem get_list {X : Cx} : PGet X rGetLs := by
  intro pins s σ H o i ov iv Q I ro ri h
  obtain ⟨p, xs, k, z, rfl, rfl, hq, he, q⟩ := h
  cases ro
  obtain ⟨t, rfl⟩ := ri
  obtain ⟨its, r, pl, hz⟩ := I.list (.of hq)
  obtain ⟨j, h1, h2, h3, h4, h5⟩ := atI_get he
  obtain ⟨w, ew, rw'⟩ := r.get h2
  have hl := r.length
  have hn := line63
  have fin : EP X pins σ Q w s := ⟨z, H, I, rw', q⟩
  by_cases h0 : 0 ≤ k
  · have hj : k.toNat = j := by
      rw [seqIndex_of h0 h5] at h1
      exact Option.some.inj h1
    exact wpAny_getItem_list pl.isList h0 (by omega) (by rw [hj]; simpa using ew) fin
  · have hj : (k + (its.toArray.size : Int)).toNat = j := by
      rw [seqIndex_neg (by omega) h4] at h1
      rw [List.size_toArray, ← hl]
      exact Option.some.inj h1
    exact wpAny_getItem_list_neg pl.isList (by omega) (by rw [List.size_toArray] <;> omega) (by omega) (by rw [hj]; simpa using ew) fin
def sAugI (i : Nat) (fj f : Xp) (g : D → D → Option D) : XS := fun ρ => (xVar i ρ).bind fun o => (fj ρ).bind fun z => match o, z with
  | .list xs, .int j => (L2.atI xs j).bind fun old => (f ρ).bind fun y => (g old y).bind fun new => (ixN xs.length j).bind fun n => if i < ρ.length then some (.nx (ρ.set i (some (.list (xs.set n new))))) else none
  | _, _ => none
section
variable {X : Cx} {O : List Nat} {Ob Oc : List Nat} {m mb : Md} {e : Expr} {f : Xp} {pos p1 p2 : Pos}
theorem ss_augI (i : Nat) {x : Str} {j : Expr} {fj : Xp} {op : Operator} {g : D → D → Option D} (ho : OpR X (inplaceOp op) (rD X.K .f g)) (hj : SE X O mb j fj) (he : SE X O m e f) (hO : O.contains i = true := by rfl) (hN : X.N[i]? = some x := by rfl) (hv : Vis X.env.scope x := by first | exact Or.inl rfl | exact Or.inr (Or.inl rfl) | exact Or.inr (Or.inr rfl))
    (hd : (x == ("__debug__" : Str)) = false := by decide) (hcd : (x == ("__classdict__" : Str)) = false := by decide)
    (ha : ∀ ov iv new, augStore j ov iv new = (do holding [new, ov, iv] (setItem ov iv new); release [new, ov, iv] []; pure .next) := by intros; rfl) :
    SS X O Ob Oc O (.AugAssign (.Subscript (.Name x p1) j p2) op e pos) (sAugI i fj f g) := by
  refine ⟨ps_imp (ps_augS (pe_var hN hv hd hcd) hj.pe get_list he.pe (tip := rD X.K .f g) ho set_list ha) fun D σ H q => ?_⟩
  obtain ⟨H0, A0, G, ρ, B, o, S, e, k⟩ := q
  obtain ⟨d, ed, e⟩ := bind2 e
  obtain ⟨z, ez, e⟩ := bind2 e
  split at e
  · next xs jj =>
    obtain ⟨old, eo, e⟩ := bind2 e
    obtain ⟨y, ey, e⟩ := bind2 e
    obtain ⟨new, en', e⟩ := bind2 e
    obtain ⟨n, en, e⟩ := bind2 e
    split at e
    · rename_i hz
      cases e
      obtain ⟨a, vs, hB, hσ, hal, ra⟩ := own_of S hO ed
      refine ⟨.ref a, hσ, H0, A0, G, ρ, B, _, S, ez, fun u H1 s1 r1 => ?_⟩
      have S1 := S.mono s1
      have ra1 := ra.mono s1
      obtain ⟨ov, eov, rov⟩ := ra1.atI eo
      refine ⟨a, vs, _, ov, rfl, r1.toW.int, s1 _ _ hal, eov, H0, A0, G, ρ, B, y, S1, ey, fun w H2 s2 r2 => ?_⟩
      have S2 := S1.mono s2
      refine ⟨Av A0 B, old, y, new, S2.tr, .inl (rov.mono s2), r2.toW, en', fun nv H3 s3 r3 => ?_⟩
      have S3 := S2.mono s3
      have s13 := (s1.trans s2).trans s3
      refine ⟨a, vs, _, n, rfl, r1.toW.int, s13 _ _ hal, by rw [ra.length]; exact en, ?_⟩
      have av : Av A0 B a := .inr ⟨i, hB⟩
      exact k _ _ B (S3.write hB hσ (upd_lst av (RpL.set (r3.toS S2.tr (by decide)) n (ra.mono s13))) hz)
    · cases e
  · cases e
end
theorem sAugI_a {ρ : PEnv} (i : Nat) (fj f : Xp) (g : D → D → Option D) (xs : List D) (j : Int) (h1 : ρ.getD i none = some (.list xs)) (h2 : fj ρ = some (.int j)) : sAugI i fj f g ρ = ((L2.atI xs j).bind fun old => (f ρ).bind fun y => (g old y).bind fun new => (ixN xs.length j).bind fun n => if i < ρ.length then some (.nx (ρ.set i (some (.list (xs.set n new))))) else none) := by
  unfold sAugI
  rw [show xVar i ρ = ρ.getD i none from rfl, h1, h2]
  rfl
end Pm

/-! Pm: xs.index(y), xs.count(k), a global whole number, x *= y. -/
namespace Pm
open PySem PySem.Spec PyProof.Rows L2
/-! ### x *= y -/
def oMulI : D → D → Option D
  | .int a, .int b => if a.natAbs < 2 ^ 62 then some (.int (a * b)) else none
  | _, _ => none
theorem iop_mulD {X : Cx} : OpR X (inplaceOp .Mult) (rD X.K .f oMulI) := by
  intro pins s σ H x y v u Q I rx ry ⟨A, dx, dy, d, tr, wx, wy, e, q⟩
  unfold oMulI at e
  split at e
  · split at e
    · rename_i hm
      cases e
      exact iop_mul pins s σ H x y v u Q I rx ry ⟨_, _, wx.int, wy.int, .inl ⟨by omega, by omega⟩, q _ H (Same.refl H) Res.int⟩
    · cases e
  · cases e
/-! ### a global whole number -/
theorem se_gint {X : Cx} {O : List Nat} {x : Str} {i : Int} {pos : Pos} (hm : ∃ t, X.mg x = some (.int i t)) (hg : L2.Gl X x := by rfl) (hd : (x == ("__debug__" : Str)) = false := by decide) : SE X O .f (.Name x pos) (xC (.int i)) := by
  obtain ⟨t, hm⟩ := hm
  refine ⟨pe_imp (pe_glob (v := .int i) hg hm ⟨t, rfl⟩ hd) fun σ H Q q => ?_⟩
  obtain ⟨H0, A0, G, ρ, B, d, S, e, k⟩ := q
  cases e
  exact k _ H (Same.refl H) Res.int
/-! ### index -/
/-- the place of the first equal one in a list of data -/
def oIndex : D → D → Option D
  | .list ds, y => if shp (.list ds) && shp y then (ds.findIdx? fun z => PyData.eqv z y).map fun j => PyData.int (j : Nat) else none
  | _, _ => none
theorem find_at {α : Type} {p : α → Bool} {l : List α} {j : Nat} (h : l.findIdx? p = some j) : ∃ z, l[j]? = some z ∧ p z = true ∧ ∀ m z', m < j → l[m]? = some z' → p z' = false := by
  rw [List.findIdx?_eq_some_iff_getElem] at h
  obtain ⟨hj, h1, h2⟩ := h
  refine ⟨l[j], List.getElem?_eq_getElem hj, h1, fun m z' hm hz => ?_⟩
  have h3 := h2 m hm
  rw [List.getElem?_eq_getElem (by omega)] at hz
  rw [← Option.some.inj hz]
  simpa using h3
section
variable {X : Cx} {O : List Nat} {m ma : Md} {o a : Expr} {fo fa : Xp} {apos cpos : Pos}
theorem se_index (hu : X.A.units + 65 < cLine) (ho : SE X O m o fo) (ha : SE X O ma a fa)
    (hbase : attributeBase o "index" X.env (eval o X.env) = eval o X.env := by rfl)
    (hfew : ((backTo cpos (starEach [a] X.env)).all (fun x => !x.1) && (backToKw cpos (keywordEach [] X.env)).all (fun x => x.1.isSome)
      && decide (([a] : List Expr).length + ([] : List Keyword).length + (if ([] : List Keyword).isEmpty then 0 else 1) < 30)) = true := by rfl)
    (hline : (apos.endLine == cpos.line) = true := by rfl) (hs : starEach [a] X.env = (false, eval a X.env) :: starEach [] X.env := by rfl) (hplain : (backTo cpos (starEach [] X.env)).any (·.1) = false := by rfl) :
    SE X O .f (.Call (.Attribute o "index" apos) [a] [] cpos) (xBin oIndex fo fa) := by
  refine ⟨pe_imp (pe_bm PySem.F.plainAttrs_list PySem.F.slot_list_index PySem.F.type_list_index (mt_indexD hu) ho.pe (pa_cons ha.pe pa_nil hs) hbase hfew hline hs hplain) fun σ H Q q => ?_⟩
  obtain ⟨H0, A0, G, ρ, B, d, S, e, k⟩ := q
  obtain ⟨x, ex, e⟩ := bind2 e
  obtain ⟨y, ey, e⟩ := bind2 e
  unfold oIndex at e
  split at e
  · next ds _ =>
    split at e
    · next hsh =>
      obtain ⟨j, e2, e3⟩ := Option.map_eq_some_iff.mp e
      subst e3
      rw [Bool.and_eq_true] at hsh
      refine ⟨H0, A0, G, ρ, B, _, S, ex, fun v H1 s1 r1 => ?_⟩
      obtain ⟨p, vs, rfl, hp, ra⟩ := r1.toW.lst
      refine ⟨.inl ⟨rfl, _, SqL.of hp⟩, H0, A0, G, ρ, B, _, S.mono s1, ey, fun w H2 s2 r2 => ?_⟩
      obtain ⟨z, z1, z2, z3⟩ := find_at e2
      exact ⟨p, w, y, ds, j, z, rfl, rfl, (r1.toW.mono s2).dp hsh.1, r2.toW.dp hsh.2, hsh.1, hsh.2, z1, z2, z3, k _ H2 (s1.trans s2) Res.int⟩
    · cases e
  · cases e
end
end Pm

/-! Pm: sorted(xs, key=f), f a def of the text. -/
namespace Pm
open PySem PySem.Spec PyProof.Rows L2
open PySem.W (KeepsBut dataLe copyHeap copyHeap_at copyHeap_old AllAlike Sortable EachIs KeyedOut dataKind sortVals SortsAt)
theorem Un.overL {fs : List Addr} {H H1 : Hp} {h0 h1 h2 : Heap} {ch : List Addr} (u : Un fs [] H H1 h0 h1) (hn : ∀ c ∈ ch, h0.get? c = none) (k : ∀ b o, b ∉ ch → h1.get? b = some o → h2.get? b = some o) : Un fs [] H H1 h0 h2 := by
  have out : ∀ b o, h0.get? b = some o → b ∉ ch := fun b o e z => by rw [hn b z] at e; cases e
  refine ⟨fun b o q n hb hx => k b o (out b o q) (u.keep b o q n hb hx), fun b o q n hb hx => ?_, u.free, fun b o q hx => ?_, u.tups, u.frzs, u.tbls⟩
  · obtain ⟨sl, e⟩ := u.slot b o q n hb hx
    exact ⟨sl, k b _ (out b o q) e⟩
  · obtain ⟨o', e⟩ := u.there b o q hx
    exact ⟨o', k b _ (out b o q) e⟩
/-- while the keys are told -/
structure Kst (X : Cx) (H : Hp) (s : Shared) (a kS : Addr) (e1 : Nat) (kz : List D) (Hj : Hp) (s' : Shared) (kA : Array Value) (ec : Nat) (kvs : List V) : Prop where
  os : s'.os = s.os
  bare : AllBare s'.gens
  un : Un (frs X.stack) [] H Hj s.heap s'.heap
  hok : HOk X.prog X.w Hj s'.heap
  sm : Same H Hj
  nk : s'.heap.get? kS = some (seqObj "list" kA ec)
  na : s'.heap.get? a = some (seqObj "list" #[] e1)
  fk : Hj kS = none
  fa : Hj a = none
  rv : Vals kvs kA.toList
  rp : RpL X.K (fun _ => False) Hj kvs kz
theorem Kst.inv {X : Cx} {pins : List (Addr × Obj)} {σ : L2.St} {H Hj : Hp} {s s' : Shared} {a kS : Addr} {e1 ec : Nat} {kz : List D} {kA : Array Value} {kvs : List V} (I : Inv X pins σ H s) (st : Kst X H s a kS e1 kz Hj s' kA ec kvs) : Inv X pins σ Hj s' :=
  I.call' st.os st.un st.hok st.bare fun b z => nomatch z
theorem notfr {X : Cx} {pins : List (Addr × Obj)} {σ : L2.St} {H : Hp} {s : Shared} {c : Addr} (I : Inv X pins σ H s) (hc : s.heap.objs.size ≤ c) : c ∉ frs X.stack := fun z => by
  have p := I.fpOk (H' := fun _ => none) hc rfl
  exact (List.mem_cons.mp (I.stkSub c z)).elim p.2.1 p.2.2.1
theorem kst_turn {X : Cx} {pins : List (Addr × Obj)} {σ : L2.St} {H Hj : Hp} {s s' : Shared} {a kS : Addr} {e1 ec k : Nat} {kz : List D} {kA : Array Value} {kvs : List V} {F : List D → Option D} {f : Addr} {fd : FuncData} {pm : Str}
    (hF : FnOk X.prog X.w X.K X.mg X.base CX0 k f fd [pm] (spD X.K 1 F)) (hb : Binds X.K fd [pm] []) (hr : Room (k + 2) X.A) (I : Inv X pins σ H s) (ca : s.heap.objs.size ≤ a) (ck : s.heap.objs.size ≤ kS) (st : Kst X H s a kS e1 kz Hj s' kA ec kvs)
    {xv : V} {x : Value} {d kd : D} (rx : RelV xv x) (rd : Rp X.K (fun _ => False) Hj xv d) (hk : F [d] = some kd) :
    wpAny (model X.prog X.w) X.A.in1.in1 (call (.ref f) [x]) (fun u s2 => ∃ H2 v, RelV v u ∧ Rp X.K (fun _ => False) H2 v kd ∧ Kst X H s a kS e1 kz H2 s2 kA ec kvs) (fun _ _ => False) s' := by
  have I' := st.inv I
  refine wpAny_call (codeAny_mono (hF.run X.A.in1.in1 X.stack s' Hj ⟨[x], []⟩ ([x] ++ []) [xv] (fun v H2 => Same Hj H2 ∧ Rp X.K (fun _ => False) H2 v kd) E0 hr.in1.in1 I'.env0.in1.in1 (hb s' [x] I'.kIn rfl) (.cons rx .nil) ?_) fun r s2 hq => ?_)
  · exact ⟨fun _ => False, [d], kd, (fun _ z => z.elim), rfl, .cons rd .nil, hk, fun v H2 sm r => ⟨sm, r⟩⟩
  · cases r with
    | error e => exact hq.elim
    | ok fl =>
      cases fl with
      | next => exact hq.elim
      | brk => exact hq.elim
      | cont => exact hq.elim
      | ret u =>
        obtain ⟨v, H2, ho, bare, un, hok, rv, sm, rk⟩ := hq
        refine ⟨H2, v, rv, rk, ho.trans st.os, bare, st.un.trans un, hok, st.sm.trans sm, un.keep kS _ st.nk st.fk (notfr I ck) (fun z => nomatch z), un.keep a _ st.na st.fa (notfr I ca) (fun z => nomatch z), un.free kS _ st.nk st.fk (fun z => nomatch z), un.free a _ st.na st.fa (fun z => nomatch z), st.rv, st.rp.mono sm⟩
theorem rpl_app {K : PySem.W.Frag} {A : Addr → Prop} {H : Hp} : ∀ {vs ws : List V} {ds es : List D}, RpL K A H vs ds → RpL K A H ws es → RpL K A H (vs ++ ws) (ds ++ es)
  | _, _, _, _, .nil, r => r
  | _, _, _, _, .cons h t, r => .cons h (rpl_app t r)
theorem kst_push {X : Cx} {pins : List (Addr × Obj)} {σ : L2.St} {H Hj : Hp} {s s' : Shared} {a kS : Addr} {e1 ec : Nat} {kz : List D} {kA : Array Value} {kvs : List V} (I : Inv X pins σ H s) (ck : s.heap.objs.size ≤ kS) (hka : kS ≠ a) (st : Kst X H s a kS e1 kz Hj s' kA ec kvs)
    {u : Value} {v : V} {kd : D} (rv : RelV v u) (rk : Rp X.K (fun _ => False) Hj v kd) :
    ∃ c2, Kst X H s a kS e1 (kz ++ [kd]) Hj { s' with heap := s'.heap.update kS (Obj.mapSeq (·.push u)) } (kA.push u) c2 (kvs ++ [v]) := by
  have same := Heap.SameBut.update s'.heap kS (Obj.mapSeq (·.push u))
  obtain ⟨c2, hc2⟩ : ∃ c2, (s'.heap.update kS (Obj.mapSeq (·.push u))).get? kS = some (seqObj "list" (kA.push u) c2) := ⟨_, get?_update_seq st.nk (·.push u)⟩
  have oth : ∀ b o, b ∉ [kS] → s'.heap.get? b = some o → (s'.heap.update kS (Obj.mapSeq (·.push u))).get? b = some o := fun b o z e => (same.2 b fun q => z (by simp [q])).trans e
  have I3 := (st.inv I).turnedL (t' := s'.toks) (ch := [kS]) oth fun b z => by
    rw [List.mem_singleton.mp z]
    exact I.fpOk ck st.fk
  refine ⟨c2, st.os, st.bare, Un.overL st.un (fun c z => ?_) oth, I3.hok, st.sm, hc2, (same.2 a hka.symm).trans st.na, st.fk, st.fa, ?_, ?_⟩
  · rw [List.mem_singleton.mp z]
    exact Heap.get?_none_of_le ck
  · rw [Array.toList_push]
    exact st.rv.append (.cons rv .nil)
  · exact rpl_app st.rp (.cons rk .nil)
theorem in12 (A : Around) : A.in1.in1.units = A.units + 1 + 1 := rfl
theorem kst_rest {X : Cx} {pins : List (Addr × Obj)} {σ : L2.St} {H : Hp} {s s0 : Shared} {a kS : Addr} {e1 e2 k : Nat} {F : List D → Option D} {kf : D → D} {f : Addr} {fd : FuncData} {pm : Str}
    (hF : FnOk X.prog X.w X.K X.mg X.base CX0 k f fd [pm] (spD X.K 1 F)) (hb : Binds X.K fd [pm] []) (hr : Room (k + 2) X.A) (hu : X.A.units + 65 < cLine) (I : Inv X pins σ H s) (ca : s.heap.objs.size ≤ a) (ck : s.heap.objs.size ≤ kS) (hka : kS ≠ a)
    {vs : List Value} {xs : List V} {ds : List D} (rv : Vals xs vs) (ra : RpL X.K (fun _ => False) H xs ds) (hk : ∀ d ∈ ds, F [d] = some (kf d)) (hL : vs.length ≤ sizeLine) (ok : okSort (ds.map kf) = true) (st : Kst X H s a kS e1 [] H s0 #[] e2 []) {P : PySem.Fin → Shared → Prop} {E : Value → Shared → Prop}
    (h : ∀ Hn sn kA ec kvs h' tk out c, Kst X H s a kS e1 (ds.map kf) Hn sn kA ec kvs → KeepsBut a (sn.heap.hide kS) h' → h'.get? a = some (seqObj "list" (List.toArray out) c) → KeyedOut false (ds.map kf) vs out → P (.done (.ret .none)) { sn with heap := h', toks := tk }) :
    wpAny (model X.prog X.w) X.A.in1.in1 (ksk_rest a (.ref f) false vs.toArray e1 (.ref kS)) P E s0 := by
  have l1 := rv.length
  have l2 := ra.length
  obtain ⟨hal, hsh, _, hso⟩ := okSort_facts ok
  unfold ksk_rest
  refine wpAny_bind (wpAny_rule ?goal)
  rw [← Array.forIn_toList, List.toList_toArray]
  refine wpAny_bind (ksk_fold (fun j s' => ∃ Hj kA ec kvs, Kst X H s a kS e1 ((ds.take j).map kf) Hj s' kA ec kvs) vs 0 s0 ⟨H, #[], e2, [], by rw [List.take_zero]; exact st⟩ ?step ?done)
  case step =>
    rintro j x s' hx ⟨Hj, kA, ec, kvs, st'⟩
    rw [Nat.zero_add] at st' ⊢
    have hj : j < vs.length := (List.getElem?_eq_some_iff.mp hx).1
    have hxj : xs[j]? = some xs[j] := List.getElem?_eq_getElem (by omega)
    have hdj : ds[j]? = some ds[j] := List.getElem?_eq_getElem (by omega)
    obtain ⟨u0, hu0, ru0⟩ := rv.get hxj
    rw [hx] at hu0
    cases hu0
    obtain ⟨v0, hv0, rp0⟩ := ra.get hdj
    rw [hxj] at hv0
    cases hv0
    have kl : kA.size = j := by
      have q1 : kvs.length = kA.toList.length := st'.rv.length
      have q2 : kvs.length = ((ds.take j).map kf).length := st'.rp.length
      have q3 : kA.toList.length = kA.size := Array.length_toList ..
      have q4 : ((ds.take j).map kf).length = j := by rw [List.length_map, List.length_take]; omega
      omega
    refine wpAny_bind (wpAny_attempt (wpAny_mono (kst_turn hF hb hr I ca ck st' ru0 (rp0.mono st'.sm) (hk _ (List.mem_of_getElem? hdj))) (fun u s2 he => ?_) fun _ _ z => z.elim))
    obtain ⟨H2, v, r1, r2, st2⟩ := he
    obtain ⟨c2, st3⟩ := kst_push I ck hka st2 r1 r2
    have et : (ds.take (j + 1)).map kf = (ds.take j).map kf ++ [kf ds[j]] := by
      rw [List.take_add_one, hdj, List.map_append]
      rfl
    rw [← et] at st3
    exact wpAny_bind (listUpdate_at st2.nk rfl (wpAny_pure ⟨rfl, H2, kA.push u, c2, kvs ++ [v], st3⟩) (by omega) (by rw [Array.size_push]; omega))
  case done =>
    rintro s' ⟨Hn, kA, ec, kvs, st'⟩
    have ea : ds.take (0 + vs.length) = ds := List.take_of_length_le (by omega)
    rw [ea] at st'
    obtain ⟨as, rds⟩ := reads_all (st'.inv I) st'.rv st'.rp fun x hx => (hsh x hx).1
    have ek : EachIs (fun v d => ∃ as, Reads s'.heap v d as) kA.toList (ds.map kf) := by
      have q := PySem.W.readsAll_each (enc := id) (bs := ds.map kf) (by rw [List.map_id]; exact rds)
      exact q
    have ks : kA.size = vs.length := by
      have q := ek.length
      rw [Array.length_toList, List.length_map] at q
      omega
    refine wpAny_bind (listItems_at st'.nk rfl ?_)
    refine PySem.W.keyH_end (κ := dataKind s'.heap (ds.map kf)) (h₁ := s'.heap.hide kS) (fun b o hbn e => ?_) (Heap.hide_self _ _) st'.nk st'.na hka (SortsAt.data ek hal hso fun d hd => ?_) ks hL fun h3 tk c k3 n3 => h Hn s' kA ec kvs h3 tk _ c st' k3 n3 ⟨s'.heap, kA.toList, hal, rfl, ek⟩
    · by_cases hbk : b = kS
      · rw [hbk, Heap.hide_self] at e
        cases e
      · rwa [Heap.hide_ne _ hbk] at e
    · have := (hsh d hd).2
      rw [in12]
      omega
/-! ### the rule -/
def kf (F : List D → Option D) (d : D) : D := (F [d]).getD .none
def keysO (F : List D → Option D) : List D → Option (List D)
  | [] => some []
  | d :: ds => (F [d]).bind fun k => (keysO F ds).map (k :: ·)
theorem keysO_ok {F : List D → Option D} : ∀ {ds ks : List D}, keysO F ds = some ks → ks = ds.map (kf F) ∧ ∀ d ∈ ds, F [d] = some (kf F d)
  | [], _, h => by
    cases h
    exact ⟨rfl, fun d z => nomatch z⟩
  | d :: ds, _, h => by
    obtain ⟨k, h1, h2⟩ := Option.bind_eq_some_iff.mp h
    obtain ⟨ks, h3, rfl⟩ := Option.map_eq_some_iff.mp h2
    obtain ⟨r1, r2⟩ := keysO_ok h3
    have e : kf F d = k := by unfold kf; rw [h1]; rfl
    refine ⟨by rw [List.map_cons, e, r1], fun d' z => ?_⟩
    rcases List.mem_cons.mp z with rfl | z
    · rw [e, h1]
    · exact r2 d' z
/-- sorted(xs, key=F) -/
def bSortK (F : List D → Option D) : D → Option D
  | .list ds => (keysO F ds).bind fun ks => if okSort ks = true ∧ ds.length ≤ 16777216 then some (.list (ds.mergeSort (dataLe false (kf F)))) else none
  | _ => none
def rSK (K : PySem.W.Frag) (F : List D → Option D) (f : Addr) : List V → List V → Hp → VK → Prop := fun vs zs H Q => ∃ A v d r, Tr A H ∧ vs = [v] ∧ WRp K A H v d ∧ zs = [.ref f] ∧ bSortK F d = some r ∧ ∀ u H', Same H H' → Res K A H H' .f u r → Q u H'
theorem Un.adopt {fs : List Addr} {H H1 : Hp} {h0 h1 h2 : Heap} {ch : List Addr} {a : Addr} {o : HO} (u : Un fs [] H H1 h0 h1) (ha : h0.get? a = none) (Ha : H a = none) (hn : ∀ c ∈ ch, h0.get? c = none) (k : ∀ b o, b ∉ ch → h1.get? b = some o → h2.get? b = some o) : Un fs [] H (upd H1 a o) h0 h2 := by
  have v := Un.overL u hn k
  have na : ∀ b, H b ≠ none → b ≠ a := fun b z e => z (by rw [e]; exact Ha)
  refine ⟨v.keep, v.slot, fun b q e n hx => ?_, v.there, fun b xs e => ?_, fun b q w e => ?_, fun b ps e => ?_⟩
  · rw [upd_ne fun z => by rw [z, ha] at e; cases e]
    exact v.free b q e n hx
  · rw [upd_ne (na b (by rw [e]; simp))]
    exact v.tups b xs e
  · rw [upd_ne (na b (by rw [e]; simp))]
    exact v.frzs b q w e
  · rw [upd_ne (na b (by rw [e]; simp))]
    exact v.tbls b ps e
theorem hok_adopt {P : Program} {w : World} {H : Hp} {h h' : Heap} {a : Addr} {o : HO} {ch : List Addr} (x : HOk P w H h) (fa : H a = none) (fch : ∀ c ∈ ch, H c = none) (k : ∀ b u, b ∉ ch → h.get? b = some u → h'.get? b = some u) (new : ObjOk P w (upd H a o) h' a o) : HOk P w (upd H a o) h' := fun b u e => by
  by_cases hb : b = a
  · subst hb
    rw [upd_same] at e
    cases e
    exact new
  · rw [upd_ne hb] at e
    have nn : ∀ {c : Addr} {y : HO}, H c = some y → c ≠ a := fun {c y} z e' => by rw [e', fa] at z; cases z
    refine (x b u e).stay (fun c v hc q => k c v (fun z => ?_) q) (fun c q => by rw [upd_ne (nn q)]; exact q) fun c xs q => by rw [upd_ne (nn q)]; exact q
    have fc := fch c z
    rcases hc with rfl | hc
    · rw [e] at fc; cases fc
    · rw [hc] at fc; cases fc
theorem copy_size (h : Heap) (vs : List Value) : (copyHeap h vs).objs.size = h.objs.size + 2 := by
  unfold PySem.W.copyHeap
  rw [Heap.size_push, Heap.size_update, Heap.size_push]
theorem cb_sortK {X : Cx} {k : Nat} {F : List D → Option D} {f : Addr} {fd : FuncData} {pm : Str} (hF : FnOk X.prog X.w X.K X.mg X.base CX0 k f fd [pm] (spD X.K 1 F)) (hb : Binds X.K fd [pm] []) (hr : Room (k + 2) X.A) (hu : X.A.units + 65 < cLine) :
    CallRK X (.builtin "sorted") [Str.ofString "key"] (rSK X.K F f) := by
  rintro pins s σ H vs zs us ws Q I r rz ⟨A, v, d, res, tr, rfl, w1, rfl, e, q⟩
  obtain ⟨u, rfl, ru⟩ := vals_one r
  obtain ⟨w0, rfl, rw0⟩ := vals_one rz
  obtain rfl : w0 = Value.ref f := rw0
  unfold bSortK at e
  split at e
  · next ds =>
    obtain ⟨ks, e1, e⟩ := Option.bind_eq_some_iff.mp e
    split at e
    · next hok =>
      cases e
      obtain ⟨rfl, hk⟩ := keysO_ok e1
      obtain ⟨l, xs, rfl, hl, ra⟩ := w1.lst
      obtain rfl : u = Value.ref l := ru
      obtain ⟨its, rv, pl, hz⟩ := I.list (.of hl)
      have l1 := rv.length
      have l2 := ra.length
      have hL : its.length ≤ sizeLine := by omega
      refine PySem.W.sorted_of_sort pl.isList hL (ksk_s1 _ _) (fun _ => ksk_l1 _ _) fun E' => ?_
      rw [show [Str.ofString "key"].zip [Value.ref f] = [(Str.ofString "key", Value.ref f)] from rfl, ksk_t1]
      have cs := copy_size s.heap its
      have ca := copyHeap_at s.heap its
      obtain ⟨e1, ha1⟩ : ∃ e1, ((copyHeap s.heap its).update (s.heap.objs.size + 1) (Obj.mapSeq fun _ => (#[] : Array Value))).get? (s.heap.objs.size + 1) = some (seqObj "list" #[] e1) := ⟨_, get?_update_seq ca fun _ => #[]⟩
      have old : ∀ b o, s.heap.get? b = some o → ((copyHeap s.heap its).update (s.heap.objs.size + 1) (Obj.mapSeq fun _ => (#[] : Array Value))).get? b = some o := fun b o z => by
        have hlt := Heap.lt_size z
        exact ((Heap.SameBut.update _ _ _).2 b (Nat.ne_of_lt (Nat.lt_succ_of_lt hlt))).trans (copyHeap_old z)
      generalize hh1 : (copyHeap s.heap its).update (s.heap.objs.size + 1) (Obj.mapSeq fun _ => (#[] : Array Value)) = h1 at ha1 old
      have s1 : h1.objs.size = s.heap.objs.size + 2 := by rw [← hh1, Heap.size_update, cs]
      have n1 : s.heap.get? (s.heap.objs.size + 1) = none := Heap.get?_none_of_le (Nat.le_succ _)
      have s2 : (h1.push (seqObj "tuple" its.toArray 0)).objs.size = s.heap.objs.size + 3 := by rw [Heap.size_push, s1]
      unfold ksk_tree
      refine wpAny_bind (listItems_at ca rfl (wpAny_bind (listUpdate_at ca rfl ?_ (by rw [List.size_toArray]; exact hL) (Nat.zero_le _))))
      rw [hh1]
      refine wpAny_bind (seqEpoch_at ha1 rfl (wpAny_bind (wpAny_newTuple (wpAny_bind (wpAny_newList (wpAny_holding ?_) (Nat.zero_le _))) (by show its.length ≤ _; exact hL))))
      have old3 : ∀ b o, s.heap.get? b = some o → ((h1.push (seqObj "tuple" its.toArray 0)).push (seqObj "list" #[] 0)).get? b = some o := fun b o z => Heap.get?_push_of_some _ (Heap.get?_push_of_some _ (old b o z))
      have st : Kst X H s (s.heap.objs.size + 1) (h1.push (seqObj "tuple" its.toArray 0)).objs.size e1 [] H { s with heap := (h1.push (seqObj "tuple" its.toArray 0)).push (seqObj "list" #[] 0) } #[] 0 [] :=
        ⟨rfl, I.bare, Un.kept old3, I.hok.kept old3, Same.refl H, Heap.get?_push_size _ rfl, Heap.get?_push_of_some _ (Heap.get?_push_of_some _ ha1), I.hok.fresh (by omega), I.hok.fresh (by omega), .nil, .nil⟩
      refine kst_rest hF hb hr hu I (by omega) (by omega) (Nat.ne_of_gt (by omega)) rv (ra.anti fun _ z => z.elim) hk hL hok.1 st fun Hn sn kA ec kvs h' tk out c st' kb hD ko => ⟨rfl, ?_⟩
      have hme : (xs.zip ds).map Prod.snd = ds := List.map_snd_zip (by omega)
      have hE := zip_each rv ra
      have hkm : ((xs.zip ds).map fun p : V × D => kf F p.2) = ds.map (kf F) := by
        rw [← hme, List.map_map]
        rw [hme]
        rfl
      rw [← hkm] at ko
      have eo := PySem.W.keyedOut_each (fun p : V × D => kf F p.2) ko hE
      obtain ⟨v1, r1⟩ := each_out eo
      have hsm : ((xs.zip ds).mergeSort (dataLe false fun p : V × D => kf F p.2)).map Prod.snd = ds.mergeSort (dataLe false (kf F)) := by
        have q := PySem.W.sort_maps (r := dataLe false fun p : V × D => kf F p.2) (s := dataLe false (kf F)) (Prod.snd : V × D → D) (l := xs.zip ds) (fun _ _ _ _ => rfl)
        rw [q, hme]
      rw [hsm] at r1
      have hlo : (((xs.zip ds).mergeSort (dataLe false fun p : V × D => kf F p.2)).map Prod.fst).length ≤ sizeLine := by
        rw [List.length_map, List.length_mergeSort, List.length_zip]
        omega
      have kb' : ∀ b o, b ∉ [s.heap.objs.size + 1, (h1.push (seqObj "tuple" its.toArray 0)).objs.size] → sn.heap.get? b = some o → h'.get? b = some o := fun b o z z2 => by
        simp only [List.mem_cons, List.not_mem_nil, or_false, not_or] at z
        exact kb b o z.1 (by rw [Heap.hide_ne _ z.2]; exact z2)
      have hch : ∀ c ∈ [s.heap.objs.size + 1, (h1.push (seqObj "tuple" its.toArray 0)).objs.size], s.heap.get? c = none ∧ Hn c = none := fun c z => by
        simp only [List.mem_cons, List.not_mem_nil, or_false] at z
        rcases z with rfl | rfl
        · exact ⟨n1, st'.fa⟩
        · exact ⟨Heap.get?_none_of_le (by omega), st'.fk⟩
      refine ⟨.ref (s.heap.objs.size + 1), upd Hn (s.heap.objs.size + 1) (.lst (((xs.zip ds).mergeSort (dataLe false fun p : V × D => kf F p.2)).map Prod.fst)), I.call' (s' := { sn with heap := h', toks := tk }) st'.os (Un.adopt st'.un n1 (I.hok.fresh (by omega)) (fun c z => (hch c z).1) kb') (hok_adopt st'.hok st'.fa (fun c z => (hch c z).2) kb' ⟨hlo, out, c, v1, hD⟩) st'.bare (fun b z => nomatch z), rfl, ?_⟩
      exact q _ _ (st'.sm.trans (same_upd st'.fa)) (Res.newL (tr.mono st'.sm) st'.fa (r1.mono st'.sm) st'.sm)
    · cases e
  · cases e
def bSortKL (F : List D → Option D) : List D → Option D
  | [d] => bSortK F d
  | _ => none
section
variable {X : Cx} {O : List Nat} {st : Bool} {e : Expr} {fs : XL} {p fp kpos pos : Pos}
theorem se_sortK {k j : Nat} {fn pm : Str} {F : List D → Option D} (hd : Def X.prog X.w X.K X.mg X.base k fn [pm] F) (hr : Room j X.A) (hu : X.A.units + 65 < cLine) (hm : X.mg "sorted" = none) (ha : SA X O st [e] fs) (hk : k + 2 ≤ j := by decide) (hgf : L2.Gl X fn := by rfl) (hdf : (fn == ("__debug__" : Str)) = false := by decide) (hg : L2.Gl X "sorted" := by rfl)
    (he : backTo pos (starEach [e] X.env) = (false, eval e X.env) :: backTo pos (starEach [] X.env) := by rfl) (hpl : (backTo pos (starEach [e] X.env)).any (·.1) = false := by rfl)
    (hall : (backToKw pos (keywordEach [⟨some (Str.ofString "key"), .Name fn fp, kpos⟩] X.env)).all (·.1.isSome) = true := by rfl) (hnone : (backToKw pos (keywordEach [⟨some (Str.ofString "key"), .Name fn fp, kpos⟩] X.env)).any (·.1.isNone) = false := by rfl) (hks : (backToKw pos (keywordEach [⟨some (Str.ofString "key"), .Name fn fp, kpos⟩] X.env)).filterMap (·.1) = [Str.ofString "key"] := by rfl) :
    SE X O .f (.Call (.Name "sorted" p) [e] [⟨some (Str.ofString "key"), .Name fn fp, kpos⟩] pos) (xCall (bSortKL F) fs) := by
  obtain ⟨f, fd, hF, hmf, kp, hb⟩ := hd.ex
  refine ⟨pe_imp (pe_callBK (cb_sortK hF hb (hr.mono hk) hu) hg hm (by rfl) ha.pa (pk_cons (pe_glob (v := .ref f) hgf hmf rfl hdf) pk_nil) (by decide) (by decide) he hpl hall hnone hks) fun σ H Q q => ?_⟩
  obtain ⟨H0, A0, G, ρ, B, d, S, e, k⟩ := q
  obtain ⟨ds, ex, e⟩ := bind2 e
  refine ⟨H0, A0, G, ρ, B, ds, S, ex, fun vs H1 s1 r1 => ?_⟩
  have w := r1.weak
  unfold bSortKL at e
  split at e
  · next d1 =>
    obtain ⟨v, rfl, w1⟩ := p1 w
    exact ⟨Av A0 B, v, d1, d, (S.mono s1).tr, rfl, w1, rfl, e, fun u H' s r => k u H' (s1.trans s) (r.back s1)⟩
  · cases e
end
end Pm

/-! Pm: sorted(set(xs)), xs a list of ints. -/
namespace Pm
open PySem PySem.Spec PyProof.Rows L2
/-- a set as it is made -/
def nset (w : World) : Obj := { cls := .type "set", dict := none, data := .set #[] 0 (.fresh 0 0 (!w.params.followText "set-order")) }
section
variable {P : Program} {w : World} {A : Around} {E : Value → Shared → Prop} {s : Shared}
/-- the new set takes the list's items in -/
theorem set_fill {l : Addr} {its : Array Value} {ns : List Int} (hh : A.handled = none) (hl : s.heap.IsList l its) (hi : IntsAre its.toList ns) (hb : ns.length + 1 < scanBound) :
    codeAny (model P w) A (.call (.builtin "set.__init__") ⟨[.ref s.heap.objs.size, .ref l], []⟩)
      (wants (fun r s2 => r = .none ∧ ∃ h2 tk c, s2 = { s with heap := h2, toks := tk } ∧ SetR w h2 s.heap.objs.size (fun j => decide (j ∈ ns)) c ∧ c ≤ ns.length ∧ ∀ b o, s.heap.get? b = some o → h2.get? b = some o) E)
      { s with heap := s.heap.push (nset w) } := by
  have len : its.size = ns.length := by
    have q := hi.length
    rwa [Array.length_toList] at q
  have top : (s.heap.push (nset w)).get? s.heap.objs.size = some (nset w) := Heap.get?_push_size _ rfl
  have ty : Shared.TypeIs { s with heap := s.heap.push (nset w) } (.ref s.heap.objs.size) "set" := ⟨_, top, rfl⟩
  refine codeAny_call_builtin F.called_set.init.plain F.entry_set_init (check_set_init_1 ty ?_)
  obtain ⟨⟨oc, od, ot, os⟩, ho, hc, m, hd⟩ := id hl
  dsimp only at hc hd
  subst hc hd
  have ho2 : (s.heap.push (nset w)).get? l = some { cls := .type "list", dict := od, data := .seq its m, slots := os } := Heap.get?_push_of_some _ ho
  have k1 := F.sub_list_set
  have k2 := F.sub_list_frozenset
  have k3 : (Value.type "list" == Value.type "dict") = false := by decide
  have hl2 : (s.heap.push (nset w)).IsList l its := ⟨_, ho2, rfl, m, rfl⟩
  have ll : l < s.heap.objs.size := Heap.lt_size ho
  have sz : (s.heap.push (nset w)).objs.size = s.heap.objs.size + 1 := Heap.size_push ..
  unfold Builtin.«set.__init__» noKeywords Builtin.Frozenset.updateFrom
  generalize hpi : pyIter = PI
  wp_walk
  subst hpi
  refine wpAny_pyIter_list hl2 (wpAny_bind (wpAny_runValue ?_))
  have far : s.heap.objs.size ∉ [(s.heap.push (nset w)).objs.size, l] := fun z => by
    rw [sz] at z
    rcases List.mem_cons.mp z with e | z
    · exact absurd e (Nat.ne_of_lt (Nat.lt_succ_self _))
    · exact absurd (List.mem_singleton.mp z) (Nat.ne_of_gt ll)
  have hd3 : A.in1.in1.handled = none := hh
  refine set_update_ints ((Walks.list hd3 _ l (by rw [sz]; exact Nat.ne_of_lt (Nat.lt_succ_of_lt ll)) its).toS) s.heap.objs.size far ns len hb (fun i v hv => ?_) (its.size - 0) 0 _ (by omega) (Nat.zero_le _) ?st ?new fun s3 c mv hc3 r3 => ?_
  case st => exact ⟨⟨_, Heap.get?_push_size _ rfl, rfl, rfl⟩, hl2.push _⟩
  case new => exact ⟨0, Nat.le_refl 0, setR_new_at (Heap.get?_push_of_some _ top)⟩
  · have hi2 : i < ns.length := by rw [← len]; exact (Array.getElem?_eq_some_iff.mp hv).1
    obtain ⟨t, e⟩ := hi.int_at i v (by rw [Array.getElem?_toList]; exact hv)
    refine ⟨ns[i], t, List.getElem?_eq_getElem hi2, ?_⟩
    rw [e, List.getD_eq_getElem?_getD, List.getElem?_eq_getElem hi2]
    rfl
  · obtain ⟨h3, g3, d3, t3, o3⟩ := s3
    obtain rfl : g3 = s.gens := mv.gens
    obtain rfl : d3 = s.drawn := mv.drawn
    obtain rfl : o3 = s.os := mv.os
    refine wpAny_pure (wpAny_pure ⟨rfl, h3, t3, c, rfl, r3, by rw [← len]; exact hc3, fun b o e => ?_⟩)
    have lt := Heap.lt_size e
    refine mv.heap b o (fun z => ?_) (Heap.get?_push_of_some _ (Heap.get?_push_of_some _ e))
    rcases List.mem_cons.mp z with e2 | z
    · exact absurd e2 (Nat.ne_of_lt lt)
    · have := List.mem_singleton.mp z
      rw [sz] at this
      exact absurd this (Nat.ne_of_lt (Nat.lt_succ_of_lt lt))
/-- set(xs) of a list of ints -/
theorem set_of_list {l : Addr} {its : Array Value} {ns : List Int} {Q : Value → Shared → Prop} (hh : A.handled = none) (hl : s.heap.IsList l its) (hi : IntsAre its.toList ns) (hb : ns.length + 1 < scanBound)
    (h : ∀ (h2 : Heap) (tk c : Nat), SetR w h2 s.heap.objs.size (fun j => decide (j ∈ ns)) c → c ≤ ns.length → (∀ b o, s.heap.get? b = some o → h2.get? b = some o) → Q (.ref s.heap.objs.size) { s with heap := h2, toks := tk }) :
    wpAny (model P w) A (call (.type "set") [.ref l]) Q E s := by
  obtain ⟨c0, tl, mro⟩ := F.called_set.mro
  have q1 := F.called_set.made
  have q2 := F.called_set.sub
  have q3 := F.called_set.notType
  have q4 := F.called_set.canCreate
  have q5 := F.typeCall_set_1 (.ref l)
  have top : (s.heap.push (nset w)).get? s.heap.objs.size = some (nset w) := Heap.get?_push_size _ rfl
  have ty : Shared.TypeIs { s with heap := s.heap.push (nset w) } (.ref s.heap.objs.size) "set" := ⟨_, top, rfl⟩
  have q6 := F.called_set.init.lookup
  have q7 := F.called_set.init.bind (.ref s.heap.objs.size)
  refine wpAny_call (codeAny_of_tree (wpAny_pure ⟨Code.quiet_builtin _ (by decide +kernel), codeAny_builtin F.entry_type_call ?_⟩))
  rw [Around.under_plain (weight_type_call_type "set" [.ref l] []) rfl]
  repeat (any_goals (first | assumption | wp_step))
  refine codeAny_mono (code_set_led1 (.ref l) (E := E) (Q₁ := fun u s1 => u = .ref s.heap.objs.size ∧ s1 = { s with heap := s.heap.push (nset w) }) ⟨rfl, rfl⟩) fun r s1 hr => ?_
  cases r with
  | error e => exact hr
  | ok fl =>
    cases fl with
    | ret u =>
      obtain ⟨rfl, rfl⟩ := hr
      repeat (any_goals (first | assumption | wp_step))
      refine codeAny_mono (set_fill (E := E) hh hl hi hb) fun r2 s2 hr2 => ?_
      cases r2 with
      | error e => exact hr2
      | ok fl2 =>
        cases fl2 with
        | ret u2 =>
          obtain ⟨rfl, h2, tk, c, rfl, hS, hc, hk⟩ := hr2
          repeat (any_goals (first | assumption | wp_step))
          exact h h2 tk c hS hc hk
        | _ => exact hr2.elim
    | _ => exact hr.elim
end
/-- sorted(set(xs)), xs a list or a tuple of ints -/
def bSrtSetL : List D → Option D
  | [x] => (seqD x).bind fun ds => (asInts ds).bind fun ns => if ns.length < 64 then some (.list ((risen ns).map PyData.int)) else none
  | _ => none
def rSetQ (w : World) : List V → Hp → VK → Prop := fun xs H Q => ∃ (a : Addr) (ns : List Int), xs = [V.ref a] ∧ (H a = some (.tup (ns.map V.int)) ∨ H a = some (.lst (ns.map V.int))) ∧ ns.length < 64 ∧
  ∀ (p : Addr) (c : Nat), H p = none → c ≤ ns.length → Q (.ref p) (upd H p (SetO w p (fun j => decide (j ∈ ns)) c))
section
variable {X : Cx}
theorem cr_setQ (hc : X.calm = true) : CallR X (.type "set") (rSetQ X.w) := by
  intro pins s σ H xs us Q I r ⟨a, ns, e1, ha, hl, q⟩
  rcases ha with ha | ha
  · exact cr_setT hc pins s σ H xs us Q I r ⟨a, ns, e1, ha, hl, q⟩
  · subst e1
    rw [Vals.ref1 r]
    obtain ⟨its, rv, pl, hz⟩ := I.list (.of ha)
    refine set_of_list (its := its.toArray) (I.ok.hd hc) pl.isList rv.ints (by unfold scanBound; omega) fun h' tk c R hcn hk => ?_
    exact ⟨.ref _, upd H s.heap.objs.size (SetO X.w s.heap.objs.size (fun j => decide (j ∈ ns)) c), I.laid (t' := tk) hk (Nat.le_refl _) (setO_new R), rfl, q _ c (I.hok.fresh (Nat.le_refl _)) hcn⟩
variable {O : List Nat} {st : Bool} {e : Expr} {fs : XL} {p p2 pos pos2 : Pos}
theorem se_ssetL (hm : X.mg "sorted" = none) (hm2 : X.mg "set" = none) (ha : SA X O st [e] fs) (hc : X.calm = true := by rfl) (hg : L2.Gl X "sorted" := by rfl) (hg2 : L2.Gl X "set" := by rfl)
    (he : starEach [e] X.env = (false, eval e X.env) :: starEach [] X.env := by rfl) (hpl : (backTo pos2 (starEach [] X.env)).any (·.1) = false := by rfl)
    (he' : starEach [.Call (.Name "set" p2) [e] [] pos2] X.env = (false, eval (.Call (.Name "set" p2) [e] [] pos2) X.env) :: starEach [] X.env := by rfl) (hpl' : (backTo pos (starEach [] X.env)).any (·.1) = false := by rfl) :
    SE X O .f (.Call (.Name "sorted" p) [.Call (.Name "set" p2) [e] [] pos2] [] pos) (xCall bSrtSetL fs) := by
  refine ⟨pe_imp (pe_callB (cr_sortedSet hc) hg hm rfl (pa_cons (pe_callTy (cr_setQ hc) hg2 hm2 rfl ha.pa (by decide) (by decide) he hpl) pa_nil he') (by decide) (by decide) he' hpl') fun σ H Q q => ?_⟩
  obtain ⟨H0, A0, G, ρ, B, d, S, e, k⟩ := q
  obtain ⟨ds, ex, e⟩ := bind2 e
  refine ⟨H0, A0, G, ρ, B, ds, S, ex, fun vs H1 s1 r1 => ?_⟩
  have w := r1.weak
  unfold bSrtSetL at e
  split at e
  · next x1 =>
    obtain ⟨ds1, e0, e⟩ := bind2 e
    obtain ⟨ns, e1, e⟩ := bind2 e
    split at e
    · next h64 =>
      cases e
      obtain ⟨v, rfl, w1⟩ := p1 w
      obtain ⟨a, xs, rfl, hp, ra⟩ := w1.seq e0
      have hv := ra.ints e1
      subst hv
      refine ⟨a, ns, rfl, hp.symm, h64, fun p' c hn hcn => ⟨p', _, c, rfl, upd_same, by omega, fun ns' p'' h1 h2 h3 hn2 => ?_⟩⟩
      have en : ns' = risen ns := rising_eq h1 (risen_lt ns) fun j => by
        rw [h2 j, risen_mem]
        simp
      subst en
      have sm := (s1.trans (same_upd (o := SetO X.w p' (fun j => decide (j ∈ ns)) c) hn))
      exact k _ _ (sm.trans (same_upd hn2)) (Res.newL (S.mono sm).tr hn2 (rp_ints _) sm)
    · cases e
  · cases e
end
end Pm


/-! the walk of dockheld_k20_whole_watches_hoses, printed by gen.py -/
namespace K20
open PySem PySem.Spec PyProof.Rows L2 Pm
def topS (i : Nat) : Stmt := PySem.Challenge.pw_dockheld_k20_whole_watches_hoses.main.body.getD i (.Pass ⟨0, 0, 0, 0⟩)
section
variable {P : Program} {w : World} {K : PySem.W.Frag} {mg : Str → Option Value} {base : Heap}
/-! ### all_sets -/
abbrev s_all_sets : Stmt := topS 1
theorem sc_all_sets : FnScope ["n", "found", "index", "row"] ["n"] (defScope s_all_sets) := ⟨rfl, rfl, rfl, by decide +kernel, rfl, by decide +kernel, by decide +kernel⟩
def l1_all_sets : XS :=
  (sSeq (sSet 1 (xBin oAdd (xBin oAdd (xLst (xCons (xTup xNil) xNil)) (xLc (xSeq (xVar 1)) (gSet 3) tYesP (xBin oAdd (xTup (xCons (xVar 2) xNil)) (xVar 3)) [3])) (xLc (xSeq (xVar 1)) (gSet 3) (tTru (xVar 3)) (xVar 3) [3])))
  sNop)
def g_all_sets : XS :=
  (sSeq (sSet 1 (xLst (xCons (xTup xNil) xNil)))
  (sSeq (sFor (xIt oR3 (xCons (xBin oSub (xVar 0) (xC (.int 1))) (xCons (xUn oNeg (xC (.int 1))) (xCons (xUn oNeg (xC (.int 1))) xNil)))) (gSet 2) l1_all_sets)
  (sRet (xVar 1))))
def d_all_sets : List D → Option D := runD 1 4 g_all_sets
theorem ok_all_sets {f : Addr} {fd : FuncData} (F : FnP K "all_sets" s_all_sets f fd) (b_range : mg "range" = none) : FnOk P w K mg base CX0 1 f fd ["n"] (spD K 1 d_all_sets) := by
  have nd := sc_all_sets.nd
  refine fnp_ok (k := 0) (O' := []) F sc_all_sets fun cdv A outer s H E hr => ?_
  exact (by exact ss_cons (by exact ss_setF 1 nd (by exact se_lst (by exact sa_cons (by exact se_tup sa_nil) sa_nil))) (by exact ss_cons (by exact ss_for (O' := [1]) (by exact si_r3 (st := false) b_range (by exact sa_cons (by exact se_op op_subD (by exact se_var 0) se_int) (by exact sa_cons (by exact se_un un_negD se_int) (by exact sa_cons (by exact se_un un_negD se_int) sa_nil)))) (by exact sg_name 2 nd) (by exact ss_cons (by exact ss_setF 1 nd (by exact se_op op_addD (by exact se_op op_addD (by exact se_lst (by exact sa_cons (by exact se_tup sa_nil) sa_nil)) (by exact se_lc nd (by exact si_seq (m := .w) (by exact se_varW 1)) (blkOk_by (own := [("row", 3)]) rfl) (fun _ _ _ _ _ => (by exact sg_name 3 nd)) (fun _ _ _ _ _ => sts_nil) (fun _ _ _ _ _ => (by exact se_op op_addD (by exact se_tup (by exact sa_cons (by exact se_var 2) sa_nil)) (by exact se_var 3))))) (by exact se_lc nd (by exact si_seq (m := .w) (by exact se_varW 1)) (blkOk_by (own := [("row", 3)]) rfl) (fun _ _ _ _ _ => (by exact sg_name 3 nd)) (fun _ _ _ _ _ => (by exact sts_one (by exact st_val (by exact se_var 3)))) (fun _ _ _ _ _ => (by exact se_var 3))))) ss_nil)) (by exact ss_last (by exact SS.weak (O1 := []) (by exact ss_ret (by exact se_var 1))))))
/-! ### size_key -/
abbrev s_size_key : Stmt := topS 2
theorem sc_size_key : FnScope ["row"] ["row"] (defScope s_size_key) := ⟨rfl, rfl, rfl, by decide +kernel, rfl, by decide +kernel, by decide +kernel⟩
def g_size_key : XS :=
  (sRet (xTup (xCons (xCall bLen (xCons (xVar 0) xNil)) (xCons (xVar 0) xNil))))
def d_size_key : List D → Option D := runD 1 1 g_size_key
theorem ok_size_key {f : Addr} {fd : FuncData} (F : FnP K "size_key" s_size_key f fd) (b_len : mg "len" = none) : FnOk P w K mg base CX0 1 f fd ["row"] (spD K 1 d_size_key) := by
  have nd := sc_size_key.nd
  refine fnp_ok (k := 0) (O' := []) F sc_size_key fun cdv A outer s H E hr => ?_
  exact (by exact ss_last (by exact ss_ret (by exact se_tup (by exact sa_cons (by exact se_callB (st := false) cb_len b_len (by exact sa_cons (by exact se_var 0) sa_nil)) (by exact sa_cons (by exact se_var 0) sa_nil)))))
/-! ### sees_of -/
abbrev s_sees_of : Stmt := topS 4
theorem sc_sees_of : FnScope ["n", "watch", "step"] ["n", "watch"] (defScope s_sees_of) := ⟨rfl, rfl, rfl, by decide +kernel, rfl, by decide +kernel, by decide +kernel⟩
def g_sees_of : XS :=
  (sRet (xLc (xIt oR1 (xCons (xCall bMin2 (xCons (xBin oIx (xVar 1) (xC (.int 1))) (xCons (xVar 0) xNil))) xNil)) (gSet 2) tYesP (xBin oMod (xBin oAdd (xBin oIx (xVar 1) (xC (.int 0))) (xVar 2)) (xVar 0)) [2]))
def d_sees_of : List D → Option D := runD 2 3 g_sees_of
theorem ok_sees_of {f : Addr} {fd : FuncData} (F : FnP K "sees_of" s_sees_of f fd) (b_min : mg "min" = none) (b_range : mg "range" = none) : FnOk P w K mg base CX0 1 f fd ["n", "watch"] (spD K 2 d_sees_of) := by
  have nd := sc_sees_of.nd
  refine fnp_ok (k := 0) (O' := []) F sc_sees_of fun cdv A outer s H E hr => ?_
  exact (by exact ss_last (by exact ss_ret (by exact se_lc nd (by exact si_r1 (st := false) b_range (by exact sa_cons (by exact se_callB (st := false) cb_min2 b_min (by exact sa_cons (by exact se_ix (by exact se_var 1) se_int) (by exact sa_cons (by exact se_var 0) sa_nil))) sa_nil)) (blkOk_by (own := [("step", 2)]) rfl) (fun _ _ _ _ _ => (by exact sg_name 2 nd)) (fun _ _ _ _ _ => sts_nil) (fun _ _ _ _ _ => (by exact se_op op_modD (by exact se_op op_addD (by exact se_ix (by exact se_var 1) se_int) (by exact se_var 2)) (by exact se_var 0))))))
/-! ### seen_times -/
abbrev s_seen_times : Stmt := topS 5
theorem sc_seen_times : FnScope ["n", "watches", "chosen", "counts", "index", "place"] ["n", "watches", "chosen"] (defScope s_seen_times) := ⟨rfl, rfl, rfl, by decide +kernel, rfl, by decide +kernel, by decide +kernel⟩
def l1_seen_times : XS :=
  (sSeq (sAugI 3 (xVar 5) (xC (.int 1)) oAdd')
  sNop)
def l2_seen_times : XS :=
  (sSeq (sFor (xSeq (xCall (fun ds => if ds.length = 2 then (d_sees_of) ds else none) (xCons (xVar 0) (xCons (xBin oIx (xVar 1) (xVar 4)) xNil)))) (gSet 5) l1_seen_times)
  sNop)
def g_seen_times : XS :=
  (sSeq (sSet 3 (xBin oMul' (xLst (xCons (xC (.int 0)) xNil)) (xVar 0)))
  (sSeq (sFor (xSeq (xVar 2)) (gSet 4) l2_seen_times)
  (sRet (xCall bTuple (xCons (xVar 3) xNil)))))
def d_seen_times : List D → Option D := runD 3 6 g_seen_times
theorem ok_seen_times {f : Addr} {fd : FuncData} (F : FnP K "seen_times" s_seen_times f fd) (D_sees_of : Def P w K mg base 1 "sees_of" ["n", "watch"] (d_sees_of)) (b_tuple : mg "tuple" = none) : FnOk P w K mg base CX0 2 f fd ["n", "watches", "chosen"] (spD K 3 d_seen_times) := by
  have nd := sc_seen_times.nd
  refine fnp_ok (k := 1) (O' := []) F sc_seen_times fun cdv A outer s H E hr => ?_
  exact (by exact ss_cons (by exact ss_setF 3 nd (by exact se_op op_mulD' (by exact se_lst (by exact sa_cons se_int sa_nil)) (by exact se_var 0))) (by exact ss_cons (by exact ss_for (O' := [3]) (by exact si_seq (m := .s) (by exact se_var 2)) (by exact sg_name 4 nd) (by exact ss_cons (by exact ss_for (O' := [3]) (by exact si_seq (m := .s) (by exact se_callD D_sees_of hr (by exact sa_cons (by exact se_var 0) (by exact sa_cons (by exact se_ix (by exact se_var 1) (by exact se_var 4)) sa_nil)))) (by exact sg_name 5 nd) (by exact ss_cons (by exact ss_augI 3 iop_addD (by exact se_var 5) se_int) ss_nil)) ss_nil)) (by exact ss_last (by exact ss_ret (by exact se_callT (st := false) cb_tuple b_tuple (by exact sa_cons (by exact se_varW 3) sa_nil))))))
/-! ### seen_by_all -/
abbrev s_seen_by_all : Stmt := topS 6
theorem sc_seen_by_all : FnScope ["n", "watches", "chosen"] ["n", "watches", "chosen"] (defScope s_seen_by_all) := ⟨rfl, rfl, rfl, by decide +kernel, rfl, by decide +kernel, by decide +kernel⟩
def g_seen_by_all : XS :=
  (sRet (xBin oNotIn (xC (.int 0)) (xCall (fun ds => if ds.length = 3 then (d_seen_times) ds else none) (xCons (xVar 0) (xCons (xVar 1) (xCons (xVar 2) xNil))))))
def d_seen_by_all : List D → Option D := runD 3 3 g_seen_by_all
theorem ok_seen_by_all {f : Addr} {fd : FuncData} (F : FnP K "seen_by_all" s_seen_by_all f fd) (D_seen_times : Def P w K mg base 2 "seen_times" ["n", "watches", "chosen"] (d_seen_times)) : FnOk P w K mg base CX0 3 f fd ["n", "watches", "chosen"] (spD K 3 d_seen_by_all) := by
  have nd := sc_seen_by_all.nd
  refine fnp_ok (k := 2) (O' := []) F sc_seen_by_all fun cdv A outer s H E hr => ?_
  exact (by exact ss_last (by exact ss_ret (by exact se_cmp (op_notInP hr) se_int (by exact se_callD D_seen_times hr (by exact sa_cons (by exact se_var 0) (by exact sa_cons (by exact se_var 1) (by exact sa_cons (by exact se_var 2) sa_nil)))))))
/-! ### watch_gaps -/
abbrev s_watch_gaps : Stmt := topS 7
theorem sc_watch_gaps : FnScope ["n", "watches", "chosen", "place", "count"] ["n", "watches", "chosen"] (defScope s_watch_gaps) := ⟨rfl, rfl, rfl, by decide +kernel, rfl, by decide +kernel, by decide +kernel⟩
def g_watch_gaps : XS :=
  (sRet (xCall bTuple (xCons (xLc (xIt oEnum (xCons (xCall (fun ds => if ds.length = 3 then (d_seen_times) ds else none) (xCons (xVar 0) (xCons (xVar 1) (xCons (xVar 2) xNil)))) xNil)) (gTupD 2 (gsCons (gSet 3) (gsCons (gSet 4) gsNil))) (tOf (xBin oEq (xVar 4) (xC (.int 0)))) (xVar 3) [3, 4]) xNil)))
def d_watch_gaps : List D → Option D := runD 3 5 g_watch_gaps
theorem ok_watch_gaps {f : Addr} {fd : FuncData} (F : FnP K "watch_gaps" s_watch_gaps f fd) (D_seen_times : Def P w K mg base 2 "seen_times" ["n", "watches", "chosen"] (d_seen_times)) (b_enumerate : mg "enumerate" = none) (b_tuple : mg "tuple" = none) : FnOk P w K mg base CX0 3 f fd ["n", "watches", "chosen"] (spD K 3 d_watch_gaps) := by
  have nd := sc_watch_gaps.nd
  refine fnp_ok (k := 2) (O' := []) F sc_watch_gaps fun cdv A outer s H E hr => ?_
  exact (by exact ss_last (by exact ss_ret (by exact se_callT (st := false) cb_tuple b_tuple (by exact sa_cons (by exact se_lc nd (by exact si_enum (st := false) b_enumerate (by exact sa_cons (by exact se_callD D_seen_times hr (by exact sa_cons (by exact se_var 0) (by exact sa_cons (by exact se_var 1) (by exact sa_cons (by exact se_var 2) sa_nil)))) sa_nil)) (blkOk_by (own := [("place", 3), ("count", 4)]) rfl) (fun _ _ _ _ _ => (by exact sg_tup rfl (by exact sgs_cons (by exact sg_name 3 nd) (by exact sgs_cons (by exact sg_name 4 nd) sgs_nil)))) (fun _ _ _ _ _ => (by exact sts_one (by exact st_cmp (op_eqP hr) (by exact se_var 4) se_int))) (fun _ _ _ _ _ => (by exact se_var 3))) sa_nil))))
/-! ### watches_least -/
abbrev s_watches_least : Stmt := topS 8
theorem sc_watches_least : FnScope ["n", "watches", "chosen"] ["n", "watches"] (defScope s_watches_least) := ⟨rfl, rfl, rfl, by decide +kernel, rfl, by decide +kernel, by decide +kernel⟩
def l1_watches_least : XS :=
  (sSeq (sIf (tTru (xCall (fun ds => if ds.length = 3 then (d_seen_by_all) ds else none) (xCons (xVar 0) (xCons (xVar 1) (xCons (xVar 2) xNil))))) (sRet (xVar 2)) sNop)
  sNop)
def g_watches_least : XS :=
  (sSeq (sFor (xSeq (xCall (bSortKL d_size_key) (xCons (xCall (fun ds => if ds.length = 1 then (d_all_sets) ds else none) (xCons (xCall bLen (xCons (xVar 1) xNil)) xNil)) xNil))) (gSet 2) l1_watches_least)
  (sRet (xC .none)))
def d_watches_least : List D → Option D := runD 2 3 g_watches_least
theorem ok_watches_least {f : Addr} {fd : FuncData} (F : FnP K "watches_least" s_watches_least f fd) (D_all_sets : Def P w K mg base 1 "all_sets" ["n"] (d_all_sets)) (D_size_key : Def P w K mg base 1 "size_key" ["row"] (d_size_key)) (D_seen_by_all : Def P w K mg base 3 "seen_by_all" ["n", "watches", "chosen"] (d_seen_by_all)) (b_len : mg "len" = none) (b_sorted : mg "sorted" = none) : FnOk P w K mg base CX0 4 f fd ["n", "watches"] (spD K 2 d_watches_least) := by
  have nd := sc_watches_least.nd
  refine fnp_ok (k := 3) (O' := []) F sc_watches_least fun cdv A outer s H E hr => ?_
  exact (by exact ss_cons (by exact ss_for (O' := []) (by exact si_seq (m := .f) (by exact se_sortK (st := false) D_size_key hr (hu65 hr) b_sorted (by exact sa_cons (by exact se_callD D_all_sets hr (by exact sa_cons (by exact se_callB (st := false) cb_len b_len (by exact sa_cons (by exact se_var 1) sa_nil)) sa_nil)) sa_nil))) (by exact sg_name 2 nd) (by exact ss_cons (by exact ss_if (O' := []) (by exact st_val (by exact se_callD D_seen_by_all hr (by exact sa_cons (by exact se_var 0) (by exact sa_cons (by exact se_var 1) (by exact sa_cons (by exact se_var 2) sa_nil))))) (by exact ss_last (by exact ss_ret (by exact se_var 2))) ss_nil) ss_nil)) (by exact ss_last (by exact ss_ret se_non)))
/-! ### goes_on -/
abbrev s_goes_on : Stmt := topS 9
theorem sc_goes_on : FnScope ["n", "watches", "place", "watch"] ["n", "watches", "place"] (defScope s_goes_on) := ⟨rfl, rfl, rfl, by decide +kernel, rfl, by decide +kernel, by decide +kernel⟩
def g_goes_on : XS :=
  (sRet (xCallK bMaxK (xCons (xLc (xSeq (xVar 1)) (gSet 3) (tOf (xBin oLt (xBin oMod (xBin oSub (xVar 2) (xBin oIx (xVar 3) (xC (.int 0)))) (xVar 0)) (xCall bMin2 (xCons (xBin oIx (xVar 3) (xC (.int 1))) (xCons (xVar 0) xNil))))) (xBin oSub (xCall bMin2 (xCons (xBin oIx (xVar 3) (xC (.int 1))) (xCons (xVar 0) xNil))) (xBin oMod (xBin oSub (xVar 2) (xBin oIx (xVar 3) (xC (.int 0)))) (xVar 0))) [3]) xNil) (xC (.int 0))))
def d_goes_on : List D → Option D := runD 3 4 g_goes_on
theorem ok_goes_on {f : Addr} {fd : FuncData} (F : FnP K "goes_on" s_goes_on f fd) (b_max : mg "max" = none) (b_min : mg "min" = none) : FnOk P w K mg base CX0 1 f fd ["n", "watches", "place"] (spD K 3 d_goes_on) := by
  have nd := sc_goes_on.nd
  refine fnp_ok (k := 0) (O' := []) F sc_goes_on fun cdv A outer s H E hr => ?_
  exact (by exact ss_last (by exact ss_ret (by exact se_callK (st := false) (cb_maxK (hu65 hr)) b_max (by exact sa_cons (by exact se_lc nd (by exact si_seq (m := .s) (by exact se_var 1)) (blkOk_by (own := [("watch", 3)]) rfl) (fun _ _ _ _ _ => (by exact sg_name 3 nd)) (fun _ _ _ _ _ => (by exact sts_one (by exact st_cmp op_ltD (by exact se_op op_modD (by exact se_op op_subD (by exact se_var 2) (by exact se_ix (by exact se_var 3) se_int)) (by exact se_var 0)) (by exact se_callB (st := false) cb_min2 b_min (by exact sa_cons (by exact se_ix (by exact se_var 3) se_int) (by exact sa_cons (by exact se_var 0) sa_nil)))))) (fun _ _ _ _ _ => (by exact se_op op_subD (by exact se_callB (st := false) cb_min2 b_min (by exact sa_cons (by exact se_ix (by exact se_var 3) se_int) (by exact sa_cons (by exact se_var 0) sa_nil))) (by exact se_op op_modD (by exact se_op op_subD (by exact se_var 2) (by exact se_ix (by exact se_var 3) se_int)) (by exact se_var 0))))) sa_nil) se_int)))
/-! ### watches_greedy -/
abbrev s_watches_greedy : Stmt := topS 10
theorem sc_watches_greedy : FnScope ["n", "watches", "found", "first", "seen", "count", "place"] ["n", "watches"] (defScope s_watches_greedy) := ⟨rfl, rfl, rfl, by decide +kernel, rfl, by decide +kernel, by decide +kernel⟩
def l1_watches_greedy : XS :=
  (sSeq (sAug 4 oAdd' (xCall (fun ds => if ds.length = 3 then (d_goes_on) ds else none) (xCons (xVar 0) (xCons (xVar 1) (xCons (xBin oMod (xBin oAdd (xBin oIx (xVar 3) (xC (.int 0))) (xVar 4)) (xVar 0)) xNil)))))
  (sSeq (sAug 5 oAdd' (xC (.int 1)))
  sNop))
def l2_watches_greedy : XS :=
  (sSeq (sPar [4, 5] (xCons (xCall bMin2 (xCons (xBin oIx (xVar 3) (xC (.int 1))) (xCons (xVar 0) xNil))) (xCons (xC (.int 1)) xNil)))
  (sSeq (sWhile (tOf (xBin oLt (xVar 4) (xVar 0))) l1_watches_greedy)
  (sSeq (sApp 2 (xVar 5))
  sNop)))
def g_watches_greedy : XS :=
  (sSeq (sIf (tTru (xCall bAny (xCons (xLc (xIt oR1 (xCons (xVar 0) xNil)) (gSet 6) tYesP (xBin oEq (xCall (fun ds => if ds.length = 3 then (d_goes_on) ds else none) (xCons (xVar 0) (xCons (xVar 1) (xCons (xVar 6) xNil)))) (xC (.int 0))) [6]) xNil))) (sRet (xC .none)) sNop)
  (sSeq (sSet 2 (xLst xNil))
  (sSeq (sFor (xSeq (xVar 1)) (gSet 3) l2_watches_greedy)
  (sRet (xCallK bMinK (xCons (xVar 2) xNil) (xC (.int 0)))))))
def d_watches_greedy : List D → Option D := runD 2 7 g_watches_greedy
theorem ok_watches_greedy {f : Addr} {fd : FuncData} (F : FnP K "watches_greedy" s_watches_greedy f fd) (D_goes_on : Def P w K mg base 1 "goes_on" ["n", "watches", "place"] (d_goes_on)) (b_any : mg "any" = none) (b_min : mg "min" = none) (b_range : mg "range" = none) : FnOk P w K mg base CX0 2 f fd ["n", "watches"] (spD K 2 d_watches_greedy) := by
  have nd := sc_watches_greedy.nd
  refine fnp_ok (k := 1) (O' := []) F sc_watches_greedy fun cdv A outer s H E hr => ?_
  exact (by exact ss_cons (by exact ss_if (O' := []) (by exact st_val (by exact se_callB (st := false) cb_any b_any (by exact sa_cons (by exact se_lc nd (by exact si_r1 (st := false) b_range (by exact sa_cons (by exact se_var 0) sa_nil)) (blkOk_by (own := [("place", 6)]) rfl) (fun _ _ _ _ _ => (by exact sg_name 6 nd)) (fun _ _ _ _ _ => sts_nil) (fun _ _ _ _ _ => (by exact se_cmp (op_eqP hr) (by exact se_callD D_goes_on hr (by exact sa_cons (by exact se_var 0) (by exact sa_cons (by exact se_var 1) (by exact sa_cons (by exact se_var 6) sa_nil)))) se_int))) sa_nil))) (by exact ss_last (by exact ss_ret se_non)) ss_nil) (by exact ss_cons (by exact ss_setF 2 nd (by exact se_lst sa_nil)) (by exact ss_cons (by exact ss_for (O' := [2]) (by exact si_seq (m := .s) (by exact se_var 1)) (by exact sg_name 3 nd) (by exact ss_cons (by exact ss_par 4 5 nd (by exact sam_cons (by exact se_callB (st := false) cb_min2 b_min (by exact sa_cons (by exact se_ix (by exact se_var 3) se_int) (by exact sa_cons (by exact se_var 0) sa_nil))) (by exact sam_cons se_int sam_nil))) (by exact ss_cons (by exact SS.weak (O1 := [2]) (by exact ss_while (O' := [2]) (by exact st_cmp op_ltD (by exact se_var 4) (by exact se_var 0)) (by exact ss_cons (by exact ss_aug 4 nd iop_addD (by exact se_callD D_goes_on hr (by exact sa_cons (by exact se_var 0) (by exact sa_cons (by exact se_var 1) (by exact sa_cons (by exact se_op op_modD (by exact se_op op_addD (by exact se_ix (by exact se_var 3) se_int) (by exact se_var 4)) (by exact se_var 0)) sa_nil))))) (by exact ss_cons (by exact ss_aug 5 nd iop_addD se_int) ss_nil)))) (by exact ss_cons (by exact ss_app 2 (by exact se_var 5)) ss_nil)))) (by exact ss_last (by exact ss_ret (by exact se_callK (st := false) (cb_minK (hu65 hr)) b_min (by exact sa_cons (by exact se_varW 2) sa_nil) se_int))))))
/-! ### never_blind -/
abbrev s_never_blind : Stmt := topS 11
theorem sc_never_blind : FnScope ["n", "watches", "chosen", "count", "gone", "one"] ["n", "watches"] (defScope s_never_blind) := ⟨rfl, rfl, rfl, by decide +kernel, rfl, by decide +kernel, by decide +kernel⟩
def l1_never_blind : XS :=
  (sSeq (sIf (tTru (xCall bAll (xCons (xLc (xSeq (xCall (fun ds => if ds.length = 3 then (d_seen_times) ds else none) (xCons (xVar 0) (xCons (xVar 1) (xCons (xVar 2) xNil))))) (gSet 3) tYesP (xBin oGt (xVar 3) (xC (.int 0))) [3]) xNil))) (sSeq (sIf (tTru (xCall bAll (xCons (xLc (xSeq (xVar 2)) (gSet 4) tYesP (xCall (fun ds => if ds.length = 3 then (d_seen_by_all) ds else none) (xCons (xVar 0) (xCons (xVar 1) (xCons (xCall bTuple (xCons (xLc (xSeq (xVar 2)) (gSet 5) (tOf (xBin oNe (xVar 5) (xVar 4))) (xVar 5) [5]) xNil)) xNil)))) [4]) xNil))) (sRet (xVar 2)) sNop)
  sNop) sNop)
  sNop)
def g_never_blind : XS :=
  (sSeq (sFor (xSeq (xCall (bSortKL d_size_key) (xCons (xCall (fun ds => if ds.length = 1 then (d_all_sets) ds else none) (xCons (xCall bLen (xCons (xVar 1) xNil)) xNil)) xNil))) (gSet 2) l1_never_blind)
  (sRet (xC .none)))
def d_never_blind : List D → Option D := runD 2 6 g_never_blind
theorem ok_never_blind {f : Addr} {fd : FuncData} (F : FnP K "never_blind" s_never_blind f fd) (D_all_sets : Def P w K mg base 1 "all_sets" ["n"] (d_all_sets)) (D_size_key : Def P w K mg base 1 "size_key" ["row"] (d_size_key)) (D_seen_times : Def P w K mg base 2 "seen_times" ["n", "watches", "chosen"] (d_seen_times)) (D_seen_by_all : Def P w K mg base 3 "seen_by_all" ["n", "watches", "chosen"] (d_seen_by_all)) (b_all : mg "all" = none) (b_len : mg "len" = none) (b_sorted : mg "sorted" = none) (b_tuple : mg "tuple" = none) : FnOk P w K mg base CX0 4 f fd ["n", "watches"] (spD K 2 d_never_blind) := by
  have nd := sc_never_blind.nd
  refine fnp_ok (k := 3) (O' := []) F sc_never_blind fun cdv A outer s H E hr => ?_
  exact (by exact ss_cons (by exact ss_for (O' := []) (by exact si_seq (m := .f) (by exact se_sortK (st := false) D_size_key hr (hu65 hr) b_sorted (by exact sa_cons (by exact se_callD D_all_sets hr (by exact sa_cons (by exact se_callB (st := false) cb_len b_len (by exact sa_cons (by exact se_var 1) sa_nil)) sa_nil)) sa_nil))) (by exact sg_name 2 nd) (by exact ss_cons (by exact ss_if (O' := []) (by exact st_val (by exact se_callB (st := false) cb_all b_all (by exact sa_cons (by exact se_lc nd (by exact si_seq (m := .s) (by exact se_callD D_seen_times hr (by exact sa_cons (by exact se_var 0) (by exact sa_cons (by exact se_var 1) (by exact sa_cons (by exact se_var 2) sa_nil))))) (blkOk_by (own := [("count", 3)]) rfl) (fun _ _ _ _ _ => (by exact sg_name 3 nd)) (fun _ _ _ _ _ => sts_nil) (fun _ _ _ _ _ => (by exact se_cmp op_gtD (by exact se_var 3) se_int))) sa_nil))) (by exact ss_cons (by exact ss_if (O' := []) (by exact st_val (by exact se_callB (st := false) cb_all b_all (by exact sa_cons (by exact se_lc nd (by exact si_seq (m := .s) (by exact se_var 2)) (blkOk_by (own := [("gone", 4)]) rfl) (fun _ _ _ _ _ => (by exact sg_name 4 nd)) (fun _ _ _ _ _ => sts_nil) (fun _ _ _ _ _ => (by exact se_callD D_seen_by_all hr (by exact sa_cons (by exact se_var 0) (by exact sa_cons (by exact se_var 1) (by exact sa_cons (by exact se_callT (st := false) cb_tuple b_tuple (by exact sa_cons (by exact se_lc nd (by exact si_seq (m := .s) (by exact se_var 2)) (blkOk_by (own := [("one", 5)]) rfl) (fun _ _ _ _ _ => (by exact sg_name 5 nd)) (fun _ _ _ _ _ => (by exact sts_one (by exact st_cmp (op_neP hr) (by exact se_var 5) (by exact se_var 4)))) (fun _ _ _ _ _ => (by exact se_var 5))) sa_nil)) sa_nil)))))) sa_nil))) (by exact ss_last (by exact ss_ret (by exact se_var 2))) ss_nil) ss_nil) ss_nil) ss_nil)) (by exact ss_last (by exact ss_ret se_non)))
/-! ### way_of -/
abbrev s_way_of : Stmt := topS 12
theorem sc_way_of : FnScope ["one", "other"] ["one", "other"] (defScope s_way_of) := ⟨rfl, rfl, rfl, by decide +kernel, rfl, by decide +kernel, by decide +kernel⟩
def g_way_of : XS :=
  (sRet (xBin oAdd (xCall bAbs (xCons (xBin oSub (xBin oIx (xVar 0) (xC (.int 0))) (xBin oIx (xVar 1) (xC (.int 0)))) xNil)) (xCall bAbs (xCons (xBin oSub (xBin oIx (xVar 0) (xC (.int 1))) (xBin oIx (xVar 1) (xC (.int 1)))) xNil))))
def d_way_of : List D → Option D := runD 2 2 g_way_of
theorem ok_way_of {f : Addr} {fd : FuncData} (F : FnP K "way_of" s_way_of f fd) (b_abs : mg "abs" = none) : FnOk P w K mg base CX0 1 f fd ["one", "other"] (spD K 2 d_way_of) := by
  have nd := sc_way_of.nd
  refine fnp_ok (k := 0) (O' := []) F sc_way_of fun cdv A outer s H E hr => ?_
  exact (by exact ss_last (by exact ss_ret (by exact se_op op_addD (by exact se_callB (st := false) cb_abs b_abs (by exact sa_cons (by exact se_op op_subD (by exact se_ix (by exact se_var 0) se_int) (by exact se_ix (by exact se_var 1) se_int)) sa_nil)) (by exact se_callB (st := false) cb_abs b_abs (by exact sa_cons (by exact se_op op_subD (by exact se_ix (by exact se_var 0) se_int) (by exact se_ix (by exact se_var 1) se_int)) sa_nil)))))
/-! ### hose_reach -/
abbrev s_hose_reach : Stmt := topS 13
theorem sc_hose_reach : FnScope ["places", "reach", "points", "point", "index", "place"] ["places", "reach", "points"] (defScope s_hose_reach) := ⟨rfl, rfl, rfl, by decide +kernel, rfl, by decide +kernel, by decide +kernel⟩
def g_hose_reach : XS :=
  (sRet (xCall bTuple (xCons (xLc (xSeq (xVar 2)) (gSet 3) tYesP (xCall bTuple (xCons (xLc (xIt oEnum (xCons (xVar 0) xNil)) (gTupD 2 (gsCons (gSet 4) (gsCons (gSet 5) gsNil))) (tOf (xBin oLe (xCall (fun ds => if ds.length = 2 then (d_way_of) ds else none) (xCons (xVar 5) (xCons (xVar 3) xNil))) (xVar 1))) (xVar 4) [4, 5]) xNil)) [3]) xNil)))
def d_hose_reach : List D → Option D := runD 3 6 g_hose_reach
theorem ok_hose_reach {f : Addr} {fd : FuncData} (F : FnP K "hose_reach" s_hose_reach f fd) (D_way_of : Def P w K mg base 1 "way_of" ["one", "other"] (d_way_of)) (b_enumerate : mg "enumerate" = none) (b_tuple : mg "tuple" = none) : FnOk P w K mg base CX0 2 f fd ["places", "reach", "points"] (spD K 3 d_hose_reach) := by
  have nd := sc_hose_reach.nd
  refine fnp_ok (k := 1) (O' := []) F sc_hose_reach fun cdv A outer s H E hr => ?_
  exact (by exact ss_last (by exact ss_ret (by exact se_callT (st := false) cb_tuple b_tuple (by exact sa_cons (by exact se_lc nd (by exact si_seq (m := .s) (by exact se_var 2)) (blkOk_by (own := [("point", 3)]) rfl) (fun _ _ _ _ _ => (by exact sg_name 3 nd)) (fun _ _ _ _ _ => sts_nil) (fun _ _ _ _ _ => (by exact se_callT (st := false) cb_tuple b_tuple (by exact sa_cons (by exact se_lc nd (by exact si_enum (st := false) b_enumerate (by exact sa_cons (by exact se_var 0) sa_nil)) (blkOk_by (own := [("index", 4), ("place", 5)]) rfl) (fun _ _ _ _ _ => (by exact sg_tup rfl (by exact sgs_cons (by exact sg_name 4 nd) (by exact sgs_cons (by exact sg_name 5 nd) sgs_nil)))) (fun _ _ _ _ _ => (by exact sts_one (by exact st_cmp op_leD (by exact se_callD D_way_of hr (by exact sa_cons (by exact se_var 5) (by exact sa_cons (by exact se_var 3) sa_nil))) (by exact se_var 1)))) (fun _ _ _ _ _ => (by exact se_var 4))) sa_nil)))) sa_nil))))
/-! ### hoses_least -/
abbrev s_hoses_least : Stmt := topS 14
theorem sc_hoses_least : FnScope ["places", "reach", "points", "k", "rows", "chosen", "row", "index"] ["places", "reach", "points", "k"] (defScope s_hoses_least) := ⟨rfl, rfl, rfl, by decide +kernel, rfl, by decide +kernel, by decide +kernel⟩
def l1_hoses_least : XS :=
  (sSeq (sIf (tTru (xCall bAll (xCons (xLc (xSeq (xVar 4)) (gSet 6) tYesP (xBin oGe (xCall bLen (xCons (xLc (xSeq (xVar 6)) (gSet 7) (tOf (xBin oIn (xVar 7) (xVar 5))) (xVar 7) [7]) xNil)) (xVar 3)) [6]) xNil))) (sRet (xVar 5)) sNop)
  sNop)
def g_hoses_least : XS :=
  (sSeq (sSet 4 (xCall (fun ds => if ds.length = 3 then (d_hose_reach) ds else none) (xCons (xVar 0) (xCons (xVar 1) (xCons (xVar 2) xNil)))))
  (sSeq (sFor (xSeq (xCall (bSortKL d_size_key) (xCons (xCall (fun ds => if ds.length = 1 then (d_all_sets) ds else none) (xCons (xCall bLen (xCons (xVar 0) xNil)) xNil)) xNil))) (gSet 5) l1_hoses_least)
  (sRet (xC .none))))
def d_hoses_least : List D → Option D := runD 4 8 g_hoses_least
theorem ok_hoses_least {f : Addr} {fd : FuncData} (F : FnP K "hoses_least" s_hoses_least f fd) (D_all_sets : Def P w K mg base 1 "all_sets" ["n"] (d_all_sets)) (D_size_key : Def P w K mg base 1 "size_key" ["row"] (d_size_key)) (D_hose_reach : Def P w K mg base 2 "hose_reach" ["places", "reach", "points"] (d_hose_reach)) (b_all : mg "all" = none) (b_len : mg "len" = none) (b_sorted : mg "sorted" = none) : FnOk P w K mg base CX0 4 f fd ["places", "reach", "points", "k"] (spD K 4 d_hoses_least) := by
  have nd := sc_hoses_least.nd
  refine fnp_ok (k := 3) (O' := []) F sc_hoses_least fun cdv A outer s H E hr => ?_
  exact (by exact ss_cons (by exact ss_setS 4 nd (by exact se_callD D_hose_reach hr (by exact sa_cons (by exact se_var 0) (by exact sa_cons (by exact se_var 1) (by exact sa_cons (by exact se_var 2) sa_nil))))) (by exact ss_cons (by exact ss_for (O' := []) (by exact si_seq (m := .f) (by exact se_sortK (st := false) D_size_key hr (hu65 hr) b_sorted (by exact sa_cons (by exact se_callD D_all_sets hr (by exact sa_cons (by exact se_callB (st := false) cb_len b_len (by exact sa_cons (by exact se_var 0) sa_nil)) sa_nil)) sa_nil))) (by exact sg_name 5 nd) (by exact ss_cons (by exact ss_if (O' := []) (by exact st_val (by exact se_callB (st := false) cb_all b_all (by exact sa_cons (by exact se_lc nd (by exact si_seq (m := .s) (by exact se_var 4)) (blkOk_by (own := [("row", 6)]) rfl) (fun _ _ _ _ _ => (by exact sg_name 6 nd)) (fun _ _ _ _ _ => sts_nil) (fun _ _ _ _ _ => (by exact se_cmp op_geD (by exact se_callB (st := false) cb_len b_len (by exact sa_cons (by exact se_lc nd (by exact si_seq (m := .s) (by exact se_var 6)) (blkOk_by (own := [("index", 7)]) rfl) (fun _ _ _ _ _ => (by exact sg_name 7 nd)) (fun _ _ _ _ _ => (by exact sts_one (by exact st_cmp (op_inP hr) (by exact se_var 7) (by exact se_var 5)))) (fun _ _ _ _ _ => (by exact se_var 7))) sa_nil)) (by exact se_var 3)))) sa_nil))) (by exact ss_last (by exact ss_ret (by exact se_var 5))) ss_nil) ss_nil)) (by exact ss_last (by exact ss_ret se_non))))
/-! ### reach_needed -/
abbrev s_reach_needed : Stmt := topS 15
theorem sc_reach_needed : FnScope ["places", "n", "points", "found", "chosen", "ways", "point", "index"] ["places", "n", "points"] (defScope s_reach_needed) := ⟨rfl, rfl, rfl, by decide +kernel, rfl, by decide +kernel, by decide +kernel⟩
def l1_reach_needed : XS :=
  (sSeq (sIf (tOf (xBin oEq (xCall bLen (xCons (xVar 4) xNil)) (xVar 1))) (sSeq (sSet 5 (xLc (xSeq (xVar 2)) (gSet 6) tYesP (xCallK bMinK (xCons (xLc (xSeq (xVar 4)) (gSet 7) tYesP (xCall (fun ds => if ds.length = 2 then (d_way_of) ds else none) (xCons (xBin oIx (xVar 0) (xVar 7)) (xCons (xVar 6) xNil))) [7]) xNil) (xC .none)) [6]))
  (sSeq (sIf (tOf (xBin oNotIn (xC .none) (xVar 5))) (sSeq (sApp 3 (xTup (xCons (xCallK bMaxK (xCons (xVar 5) xNil) (xC (.int 0))) (xCons (xVar 4) xNil))))
  sNop) sNop)
  sNop)) sNop)
  sNop)
def g_reach_needed : XS :=
  (sSeq (sSet 3 (xLst xNil))
  (sSeq (sFor (xSeq (xCall (fun ds => if ds.length = 1 then (d_all_sets) ds else none) (xCons (xCall bLen (xCons (xVar 0) xNil)) xNil))) (gSet 4) l1_reach_needed)
  (sRet (xCallK bMinK (xCons (xVar 3) xNil) (xC .none)))))
def d_reach_needed : List D → Option D := runD 3 8 g_reach_needed
theorem ok_reach_needed {f : Addr} {fd : FuncData} (F : FnP K "reach_needed" s_reach_needed f fd) (D_all_sets : Def P w K mg base 1 "all_sets" ["n"] (d_all_sets)) (D_way_of : Def P w K mg base 1 "way_of" ["one", "other"] (d_way_of)) (b_len : mg "len" = none) (b_max : mg "max" = none) (b_min : mg "min" = none) : FnOk P w K mg base CX0 2 f fd ["places", "n", "points"] (spD K 3 d_reach_needed) := by
  have nd := sc_reach_needed.nd
  refine fnp_ok (k := 1) (O' := []) F sc_reach_needed fun cdv A outer s H E hr => ?_
  exact (by exact ss_cons (by exact ss_setF 3 nd (by exact se_lst sa_nil)) (by exact ss_cons (by exact ss_for (O' := [3]) (by exact si_seq (m := .s) (by exact se_callD D_all_sets hr (by exact sa_cons (by exact se_callB (st := false) cb_len b_len (by exact sa_cons (by exact se_var 0) sa_nil)) sa_nil))) (by exact sg_name 4 nd) (by exact ss_cons (by exact ss_if (O' := [3]) (by exact st_cmp (op_eqP hr) (by exact se_callB (st := false) cb_len b_len (by exact sa_cons (by exact se_var 4) sa_nil)) (by exact se_var 1)) (by exact ss_cons (by exact ss_setLc 5 nd (by exact si_seq (m := .s) (by exact se_var 2)) (blkOk_by (own := [("point", 6)]) rfl) (fun _ _ _ _ _ => (by exact sg_name 6 nd)) (fun _ _ _ _ _ => sts_nil) (fun _ _ _ _ _ => (by exact se_callK (st := false) (cb_minK (hu65 hr)) b_min (by exact sa_cons (by exact se_lc nd (by exact si_seq (m := .s) (by exact se_var 4)) (blkOk_by (own := [("index", 7)]) rfl) (fun _ _ _ _ _ => (by exact sg_name 7 nd)) (fun _ _ _ _ _ => sts_nil) (fun _ _ _ _ _ => (by exact se_callD D_way_of hr (by exact sa_cons (by exact se_ix (by exact se_var 0) (by exact se_var 7)) (by exact sa_cons (by exact se_var 6) sa_nil))))) sa_nil) se_non))) (by exact ss_cons (by exact ss_if (O' := [5, 3]) (by exact st_cmp (op_notInP hr) se_non (by exact se_varW 5)) (by exact ss_cons (by exact ss_app 3 (by exact se_tup (by exact sa_cons (by exact se_callK (st := false) (cb_maxK (hu65 hr)) b_max (by exact sa_cons (by exact se_varW 5) sa_nil) se_int) (by exact sa_cons (by exact se_var 4) sa_nil)))) ss_nil) ss_nil) ss_nil)) ss_nil) ss_nil)) (by exact ss_last (by exact ss_ret (by exact se_callK (st := false) (cb_minK (hu65 hr)) b_min (by exact sa_cons (by exact se_varW 3) sa_nil) se_non)))))
/-! ### box_places -/
abbrev s_box_places : Stmt := topS 16
theorem sc_box_places : FnScope ["box", "x", "y"] ["box"] (defScope s_box_places) := ⟨rfl, rfl, rfl, by decide +kernel, rfl, by decide +kernel, by decide +kernel⟩
def g_box_places : XS :=
  (sRet (xLc2 (xIt oR2 (xCons (xBin oIx (xVar 0) (xC (.int 0))) (xCons (xBin oAdd (xBin oIx (xVar 0) (xC (.int 2))) (xC (.int 1))) xNil))) (gSet 1) tYesP (xIt oR2 (xCons (xBin oIx (xVar 0) (xC (.int 1))) (xCons (xBin oAdd (xBin oIx (xVar 0) (xC (.int 3))) (xC (.int 1))) xNil))) (gSet 2) tYesP (xTup (xCons (xVar 1) (xCons (xVar 2) xNil))) [1, 2] [2]))
def d_box_places : List D → Option D := runD 1 3 g_box_places
theorem ok_box_places {f : Addr} {fd : FuncData} (F : FnP K "box_places" s_box_places f fd) (b_range : mg "range" = none) : FnOk P w K mg base CX0 1 f fd ["box"] (spD K 1 d_box_places) := by
  have nd := sc_box_places.nd
  refine fnp_ok (k := 0) (O' := []) F sc_box_places fun cdv A outer s H E hr => ?_
  exact (by exact ss_last (by exact ss_ret (by exact se_lc2 (vs1 := [2]) nd (by exact si_r2 (st := false) b_range (by exact sa_cons (by exact se_ix (by exact se_var 0) se_int) (by exact sa_cons (by exact se_op op_addD (by exact se_ix (by exact se_var 0) se_int) se_int) sa_nil))) (blkOk_by (own := [("x", 1), ("y", 2)]) rfl) (fun _ _ _ _ _ => (by exact sg_name 1 nd)) (fun _ _ _ _ _ => sts_nil) (fun _ _ _ _ _ => (by exact si_r2 (st := false) b_range (by exact sa_cons (by exact se_ix (by exact se_var 0) se_int) (by exact sa_cons (by exact se_op op_addD (by exact se_ix (by exact se_var 0) se_int) se_int) sa_nil)))) (fun _ _ _ _ _ => (by exact sg_name 2 nd)) (fun _ _ _ _ _ => sts_nil) (fun _ _ _ _ _ => (by exact se_tup (by exact sa_cons (by exact se_var 1) (by exact sa_cons (by exact se_var 2) sa_nil)))))))
/-! ### best_place -/
abbrev s_best_place : Stmt := topS 17
theorem sc_best_place : FnScope ["box", "points", "way", "place", "point"] ["box", "points"] (defScope s_best_place) := ⟨rfl, rfl, rfl, by decide +kernel, rfl, by decide +kernel, by decide +kernel⟩
def g_best_place : XS :=
  (sSeq (sTgt (gTupD 2 (gsCons (gSet 2) (gsCons (gSet 3) gsNil))) (xCall bMinD (xCons (xLc (xSeq (xCall (fun ds => if ds.length = 1 then (d_box_places) ds else none) (xCons (xVar 0) xNil))) (gSet 3) tYesP (xTup (xCons (xCall bMaxD (xCons (xLc (xSeq (xVar 1)) (gSet 4) tYesP (xCall (fun ds => if ds.length = 2 then (d_way_of) ds else none) (xCons (xVar 3) (xCons (xVar 4) xNil))) [4]) xNil)) (xCons (xVar 3) xNil))) [3]) xNil)))
  (sRet (xTup (xCons (xVar 3) (xCons (xVar 2) xNil)))))
def d_best_place : List D → Option D := runD 2 5 g_best_place
theorem ok_best_place {f : Addr} {fd : FuncData} (F : FnP K "best_place" s_best_place f fd) (D_way_of : Def P w K mg base 1 "way_of" ["one", "other"] (d_way_of)) (D_box_places : Def P w K mg base 1 "box_places" ["box"] (d_box_places)) (b_max : mg "max" = none) (b_min : mg "min" = none) : FnOk P w K mg base CX0 2 f fd ["box", "points"] (spD K 2 d_best_place) := by
  have nd := sc_best_place.nd
  refine fnp_ok (k := 1) (O' := []) F sc_best_place fun cdv A outer s H E hr => ?_
  exact (by exact ss_cons (by exact ss_tgt (by exact se_callB (st := false) (cb_minD (hu65 hr)) b_min (by exact sa_cons (by exact se_lc nd (by exact si_seq (m := .s) (by exact se_callD D_box_places hr (by exact sa_cons (by exact se_var 0) sa_nil))) (blkOk_by (own := [("place", 3)]) rfl) (fun _ _ _ _ _ => (by exact sg_name 3 nd)) (fun _ _ _ _ _ => sts_nil) (fun _ _ _ _ _ => (by exact se_tup (by exact sa_cons (by exact se_callB (st := false) (cb_maxD (hu65 hr)) b_max (by exact sa_cons (by exact se_lc nd (by exact si_seq (m := .s) (by exact se_var 1)) (blkOk_by (own := [("point", 4)]) rfl) (fun _ _ _ _ _ => (by exact sg_name 4 nd)) (fun _ _ _ _ _ => sts_nil) (fun _ _ _ _ _ => (by exact se_callD D_way_of hr (by exact sa_cons (by exact se_var 3) (by exact sa_cons (by exact se_var 4) sa_nil))))) sa_nil)) (by exact sa_cons (by exact se_var 3) sa_nil))))) sa_nil)) (by exact sg_tup rfl (by exact sgs_cons (by exact sg_name 2 nd) (by exact sgs_cons (by exact sg_name 3 nd) sgs_nil)))) (by exact ss_last (by exact ss_ret (by exact se_tup (by exact sa_cons (by exact se_var 3) (by exact sa_cons (by exact se_var 2) sa_nil))))))
/-! ### middle_place -/
abbrev s_middle_place : Stmt := topS 18
theorem sc_middle_place : FnScope ["box", "points", "total", "place", "point"] ["box", "points"] (defScope s_middle_place) := ⟨rfl, rfl, rfl, by decide +kernel, rfl, by decide +kernel, by decide +kernel⟩
def g_middle_place : XS :=
  (sSeq (sTgt (gTupD 2 (gsCons (gSet 2) (gsCons (gSet 3) gsNil))) (xCall bMinD (xCons (xLc (xSeq (xCall (fun ds => if ds.length = 1 then (d_box_places) ds else none) (xCons (xVar 0) xNil))) (gSet 3) tYesP (xTup (xCons (xCall bSum (xCons (xLc (xSeq (xVar 1)) (gSet 4) tYesP (xCall (fun ds => if ds.length = 2 then (d_way_of) ds else none) (xCons (xVar 3) (xCons (xVar 4) xNil))) [4]) xNil)) (xCons (xVar 3) xNil))) [3]) xNil)))
  (sRet (xTup (xCons (xVar 3) (xCons (xVar 2) xNil)))))
def d_middle_place : List D → Option D := runD 2 5 g_middle_place
theorem ok_middle_place {f : Addr} {fd : FuncData} (F : FnP K "middle_place" s_middle_place f fd) (D_way_of : Def P w K mg base 1 "way_of" ["one", "other"] (d_way_of)) (D_box_places : Def P w K mg base 1 "box_places" ["box"] (d_box_places)) (b_min : mg "min" = none) (b_sum : mg "sum" = none) : FnOk P w K mg base CX0 2 f fd ["box", "points"] (spD K 2 d_middle_place) := by
  have nd := sc_middle_place.nd
  refine fnp_ok (k := 1) (O' := []) F sc_middle_place fun cdv A outer s H E hr => ?_
  exact (by exact ss_cons (by exact ss_tgt (by exact se_callB (st := false) (cb_minD (hu65 hr)) b_min (by exact sa_cons (by exact se_lc nd (by exact si_seq (m := .s) (by exact se_callD D_box_places hr (by exact sa_cons (by exact se_var 0) sa_nil))) (blkOk_by (own := [("place", 3)]) rfl) (fun _ _ _ _ _ => (by exact sg_name 3 nd)) (fun _ _ _ _ _ => sts_nil) (fun _ _ _ _ _ => (by exact se_tup (by exact sa_cons (by exact se_callB (st := false) cb_sum b_sum (by exact sa_cons (by exact se_lc nd (by exact si_seq (m := .s) (by exact se_var 1)) (blkOk_by (own := [("point", 4)]) rfl) (fun _ _ _ _ _ => (by exact sg_name 4 nd)) (fun _ _ _ _ _ => sts_nil) (fun _ _ _ _ _ => (by exact se_callD D_way_of hr (by exact sa_cons (by exact se_var 3) (by exact sa_cons (by exact se_var 4) sa_nil))))) sa_nil)) (by exact sa_cons (by exact se_var 3) sa_nil))))) sa_nil)) (by exact sg_tup rfl (by exact sgs_cons (by exact sg_name 2 nd) (by exact sgs_cons (by exact sg_name 3 nd) sgs_nil)))) (by exact ss_last (by exact ss_ret (by exact se_tup (by exact sa_cons (by exact se_var 3) (by exact sa_cons (by exact se_var 2) sa_nil))))))
/-! ### struck_at -/
abbrev s_struck_at : Stmt := topS 20
theorem sc_struck_at : FnScope ["bell", "hour"] ["bell", "hour"] (defScope s_struck_at) := ⟨rfl, rfl, rfl, by decide +kernel, rfl, by decide +kernel, by decide +kernel⟩
def g_struck_at : XS :=
  (sRet (xBin oIn (xBin oMod (xVar 1) (xBin oIx (xVar 0) (xC (.int 0)))) (xBin oIx (xVar 0) (xC (.int 1)))))
def d_struck_at : List D → Option D := runD 2 2 g_struck_at
theorem ok_struck_at {f : Addr} {fd : FuncData} (F : FnP K "struck_at" s_struck_at f fd) : FnOk P w K mg base CX0 1 f fd ["bell", "hour"] (spD K 2 d_struck_at) := by
  have nd := sc_struck_at.nd
  refine fnp_ok (k := 0) (O' := []) F sc_struck_at fun cdv A outer s H E hr => ?_
  exact (by exact ss_last (by exact ss_ret (by exact se_cmp (op_inP hr) (by exact se_op op_modD (by exact se_var 1) (by exact se_ix (by exact se_var 0) se_int)) (by exact se_ix (by exact se_var 0) se_int))))
/-! ### struck_in -/
abbrev s_struck_in : Stmt := topS 21
theorem sc_struck_in : FnScope ["bells", "span", "hour", "bell"] ["bells", "span"] (defScope s_struck_in) := ⟨rfl, rfl, rfl, by decide +kernel, rfl, by decide +kernel, by decide +kernel⟩
def g_struck_in : XS :=
  (sRet (xCall bLen (xCons (xLc (xIt oR2 (xCons (xBin oIx (xVar 1) (xC (.int 0))) (xCons (xBin oIx (xVar 1) (xC (.int 1))) xNil))) (gSet 2) (tTru (xCall bAny (xCons (xLc (xSeq (xVar 0)) (gSet 3) tYesP (xCall (fun ds => if ds.length = 2 then (d_struck_at) ds else none) (xCons (xVar 3) (xCons (xVar 2) xNil))) [3]) xNil))) (xVar 2) [2]) xNil)))
def d_struck_in : List D → Option D := runD 2 4 g_struck_in
theorem ok_struck_in {f : Addr} {fd : FuncData} (F : FnP K "struck_in" s_struck_in f fd) (D_struck_at : Def P w K mg base 1 "struck_at" ["bell", "hour"] (d_struck_at)) (b_any : mg "any" = none) (b_len : mg "len" = none) (b_range : mg "range" = none) : FnOk P w K mg base CX0 2 f fd ["bells", "span"] (spD K 2 d_struck_in) := by
  have nd := sc_struck_in.nd
  refine fnp_ok (k := 1) (O' := []) F sc_struck_in fun cdv A outer s H E hr => ?_
  exact (by exact ss_last (by exact ss_ret (by exact se_callB (st := false) cb_len b_len (by exact sa_cons (by exact se_lc nd (by exact si_r2 (st := false) b_range (by exact sa_cons (by exact se_ix (by exact se_var 1) se_int) (by exact sa_cons (by exact se_ix (by exact se_var 1) se_int) sa_nil))) (blkOk_by (own := [("hour", 2)]) rfl) (fun _ _ _ _ _ => (by exact sg_name 2 nd)) (fun _ _ _ _ _ => (by exact sts_one (by exact st_val (by exact se_callB (st := false) cb_any b_any (by exact sa_cons (by exact se_lc nd (by exact si_seq (m := .s) (by exact se_var 0)) (blkOk_by (own := [("bell", 3)]) rfl) (fun _ _ _ _ _ => (by exact sg_name 3 nd)) (fun _ _ _ _ _ => sts_nil) (fun _ _ _ _ _ => (by exact se_callD D_struck_at hr (by exact sa_cons (by exact se_var 3) (by exact sa_cons (by exact se_var 2) sa_nil))))) sa_nil))))) (fun _ _ _ _ _ => (by exact se_var 2))) sa_nil))))
/-! ### _law_mixed -/
abbrev s__law_mixed : Stmt := topS 23
theorem sc__law_mixed : FnScope ["script", "k", "cell", "first", "second", "third"] ["script", "k"] (defScope s__law_mixed) := ⟨rfl, rfl, rfl, by decide +kernel, rfl, by decide +kernel, by decide +kernel⟩
def g__law_mixed : XS :=
  (sSeq (sSet 2 (xC (.int 0)))
  (sSeq (sIf (tOf (xBin oGt (xCall bLen (xCons (xVar 0) xNil)) (xC (.int 0)))) (sSeq (sSet 2 (xBin oIx (xVar 0) (xBin oMod (xVar 1) (xCall bLen (xCons (xVar 0) xNil)))))
  sNop) sNop)
  (sSeq (sSet 3 (xBin oMod (xCall bInt (xCons (xBin oAdd (xBin oAdd (xBin oMul' (xVar 2) (xC (.int 48271))) (xBin oMul' (xVar 1) (xC (.int 69621)))) (xC (.int 8191))) xNil)) (xC (.int 2147483647))))
  (sSeq (sSet 4 (xBin oMod (xCall bInt (xCons (xBin oAdd (xBin oAdd (xBin oMul' (xVar 3) (xVar 3)) (xBin oFdiv (xVar 3) (xC (.int 7)))) (xBin oMul' (xVar 1) (xC (.int 16807)))) xNil)) (xC (.int 2147483629))))
  (sSeq (sSet 5 (xBin oMod (xCall bInt (xCons (xBin oAdd (xBin oAdd (xBin oMul' (xVar 4) (xVar 4)) (xBin oFdiv (xVar 4) (xC (.int 11)))) (xC (.int 40692))) xNil)) (xC (.int 2147483563))))
  (sRet (xBin oMod (xBin oFdiv (xVar 5) (xC (.int 5))) (xC (.int 1000003)))))))))
def d__law_mixed : List D → Option D := runD 2 6 g__law_mixed
theorem ok__law_mixed {f : Addr} {fd : FuncData} (F : FnP K "_law_mixed" s__law_mixed f fd) (b_int : mg "int" = none) (b_len : mg "len" = none) : FnOk P w K mg base CX0 1 f fd ["script", "k"] (spD K 2 d__law_mixed) := by
  have nd := sc__law_mixed.nd
  refine fnp_ok (k := 0) (O' := []) F sc__law_mixed fun cdv A outer s H E hr => ?_
  exact (by exact ss_cons (by exact ss_setF 2 nd se_int) (by exact ss_cons (by exact ss_if (O' := []) (by exact st_cmp op_gtD (by exact se_callB (st := false) cb_len b_len (by exact sa_cons (by exact se_var 0) sa_nil)) se_int) (by exact ss_cons (by exact ss_setS 2 nd (by exact se_ix (by exact se_var 0) (by exact se_op op_modD (by exact se_var 1) (by exact se_callB (st := false) cb_len b_len (by exact sa_cons (by exact se_var 0) sa_nil))))) ss_nil) ss_nil) (by exact ss_cons (by exact ss_setF 3 nd (by exact se_op op_modD (by exact se_callT (st := false) cb_int b_int (by exact sa_cons (by exact se_op op_addD (by exact se_op op_addD (by exact se_op op_mulD' (by exact se_var 2) se_int) (by exact se_op op_mulD' (by exact se_var 1) se_int)) se_int) sa_nil)) se_int)) (by exact ss_cons (by exact ss_setF 4 nd (by exact se_op op_modD (by exact se_callT (st := false) cb_int b_int (by exact sa_cons (by exact se_op op_addD (by exact se_op op_addD (by exact se_op op_mulD' (by exact se_varW 3) (by exact se_varW 3)) (by exact se_op op_fdivD (by exact se_varW 3) se_int)) (by exact se_op op_mulD' (by exact se_var 1) se_int)) sa_nil)) se_int)) (by exact ss_cons (by exact ss_setF 5 nd (by exact se_op op_modD (by exact se_callT (st := false) cb_int b_int (by exact sa_cons (by exact se_op op_addD (by exact se_op op_addD (by exact se_op op_mulD' (by exact se_varW 4) (by exact se_varW 4)) (by exact se_op op_fdivD (by exact se_varW 4) se_int)) se_int) sa_nil)) se_int)) (by exact ss_last (by exact ss_ret (by exact se_op op_modD (by exact se_op op_fdivD (by exact se_varW 5) se_int) se_int))))))))
/-! ### _law_row -/
abbrev s__law_row : Stmt := topS 24
theorem sc__law_row : FnScope ["script", "many", "big", "row", "k"] ["script", "many"] (defScope s__law_row) := ⟨rfl, rfl, rfl, by decide +kernel, rfl, by decide +kernel, by decide +kernel⟩
def l1__law_row : XS :=
  (sSeq (sIf (tOf (xBin oGt (xVar 2) (xC (.int 0)))) (sSeq (sApp 3 (xBin oMod (xCall bInt (xCons (xVar 2) xNil)) (xC (.int 1000))))
  (sSeq (sSet 2 (xBin oFdiv (xVar 2) (xC (.int 1000))))
  sNop)) (sSeq (sApp 3 (xCall (fun ds => if ds.length = 2 then (d__law_mixed) ds else none) (xCons (xVar 0) (xCons (xVar 4) xNil))))
  sNop))
  sNop)
def g__law_row : XS :=
  (sSeq (sSet 2 (xC (.int 0)))
  (sSeq (sIf (tAndP (tOf (xBin oGt (xCall bLen (xCons (xVar 0) xNil)) (xC (.int 0)))) (tOf (xBin oGe (xBin oIx (xVar 0) (xC (.int 0))) (xBin oPow (xC (.int 10)) (xC (.int 18)))))) (sSeq (sSet 2 (xBin oIx (xVar 0) (xC (.int 0))))
  sNop) sNop)
  (sSeq (sSet 3 (xLst xNil))
  (sSeq (sFor (xIt oR1 (xCons (xVar 1) xNil)) (gSet 4) l1__law_row)
  (sRet (xVar 3))))))
def d__law_row : List D → Option D := runD 2 5 g__law_row
theorem ok__law_row {f : Addr} {fd : FuncData} (F : FnP K "_law_row" s__law_row f fd) (D__law_mixed : Def P w K mg base 1 "_law_mixed" ["script", "k"] (d__law_mixed)) (b_int : mg "int" = none) (b_len : mg "len" = none) (b_range : mg "range" = none) : FnOk P w K mg base CX0 2 f fd ["script", "many"] (spD K 2 d__law_row) := by
  have nd := sc__law_row.nd
  refine fnp_ok (k := 1) (O' := []) F sc__law_row fun cdv A outer s H E hr => ?_
  exact (by exact ss_cons (by exact ss_setF 2 nd se_int) (by exact ss_cons (by exact ss_if (O' := []) (by exact SW.st (by exact sw_and (by exact st_cmp op_gtD (by exact se_callB (st := false) cb_len b_len (by exact sa_cons (by exact se_var 0) sa_nil)) se_int) (by exact sw_and1 (by exact st_cmp op_geD (by exact se_ix (by exact se_var 0) se_int) (by exact se_op op_powD se_int se_int))))) (by exact ss_cons (by exact ss_setS 2 nd (by exact se_ix (by exact se_var 0) se_int)) ss_nil) ss_nil) (by exact ss_cons (by exact ss_setF 3 nd (by exact se_lst sa_nil)) (by exact ss_cons (by exact ss_for (O' := [3]) (by exact si_r1 (st := false) b_range (by exact sa_cons (by exact se_var 1) sa_nil)) (by exact sg_name 4 nd) (by exact ss_cons (by exact ss_if (O' := [3]) (by exact st_cmp op_gtD (by exact se_var 2) se_int) (by exact ss_cons (by exact ss_app 3 (by exact se_op op_modD (by exact se_callT (st := false) cb_int b_int (by exact sa_cons (by exact se_var 2) sa_nil)) se_int)) (by exact ss_cons (by exact ss_setF 2 nd (by exact se_op op_fdivD (by exact se_var 2) se_int)) ss_nil)) (by exact ss_cons (by exact ss_app 3 (by exact se_callD D__law_mixed hr (by exact sa_cons (by exact se_var 0) (by exact sa_cons (by exact se_var 4) sa_nil)))) ss_nil)) ss_nil)) (by exact ss_last (by exact SS.weak (O1 := []) (by exact ss_ret (by exact se_var 3))))))))
/-! ### _law_is_int -/
abbrev s__law_is_int : Stmt := topS 25
theorem sc__law_is_int : FnScope ["value"] ["value"] (defScope s__law_is_int) := ⟨rfl, rfl, rfl, by decide +kernel, rfl, by decide +kernel, by decide +kernel⟩
def g__law_is_int : XS :=
  (sRet (xAnd (xUn (oIsi "int") (xVar 0)) (xUn oNot (xUn (oIsi "bool") (xVar 0)))))
def d__law_is_int : List D → Option D := runD 1 1 g__law_is_int
theorem ok__law_is_int {f : Addr} {fd : FuncData} (F : FnP K "_law_is_int" s__law_is_int f fd) (b_bool : mg "bool" = none) (b_int : mg "int" = none) (b_isinstance : mg "isinstance" = none) : FnOk P w K mg base CX0 1 f fd ["value"] (spD K 1 d__law_is_int) := by
  have nd := sc__law_is_int.nd
  refine fnp_ok (k := 0) (O' := []) F sc__law_is_int fun cdv A outer s H E hr => ?_
  exact (by exact ss_last (by exact ss_ret (by exact se_and (by exact se_isi "int" (by exact se_var 0) b_isinstance b_int) (by exact se_bone (by exact se_not (m := .f) (by exact se_isi "bool" (by exact se_var 0) b_isinstance b_bool))))))
/-! ### _law_like -/
abbrev s__law_like : Stmt := topS 26
theorem sc__law_like : FnScope ["value", "due", "k"] ["value", "due"] (defScope s__law_like) := ⟨rfl, rfl, rfl, by decide +kernel, rfl, by decide +kernel, by decide +kernel⟩
def g__law_like (d__law_like : List D → Option D) : XS :=
  (sSeq (sIf (tOf (xBin oIs (xVar 1) (xC .none))) (sRet (xBin oIs (xVar 0) (xC .none))) sNop)
  (sSeq (sIf (tTru (xUn (oIsi "bool") (xVar 1))) (sRet (xAnd (xUn (oIsi "bool") (xVar 0)) (xBin oEq (xVar 0) (xVar 1)))) sNop)
  (sSeq (sIf (tTru (xUn (oIsi "tuple") (xVar 1))) (sSeq (sIf (tOrP (tNotP (tTru (xUn (oIsi "tuple") (xVar 0)))) (tOf (xBin oNe (xCall bLen (xCons (xVar 0) xNil)) (xCall bLen (xCons (xVar 1) xNil))))) (sRet (xC (.bool false))) sNop)
  (sRet (xCall bAll (xCons (xLc (xIt oR1 (xCons (xCall bLen (xCons (xVar 1) xNil)) xNil)) (gSet 2) tYesP (xCall (fun ds => if ds.length = 2 then d__law_like ds else none) (xCons (xBin oIx (xVar 0) (xVar 2)) (xCons (xBin oIx (xVar 1) (xVar 2)) xNil))) [2]) xNil)))) sNop)
  (sSeq (sIf (tTru (xUn (oIsi "str") (xVar 1))) (sRet (xAnd (xUn (oIsi "str") (xVar 0)) (xBin oEq (xVar 0) (xVar 1)))) sNop)
  (sRet (xAnd (xCall (fun ds => if ds.length = 1 then (d__law_is_int) ds else none) (xCons (xVar 0) xNil)) (xBin oEq (xVar 0) (xVar 1))))))))
def d__law_like : Nat → List D → Option D
  | 0 => fun _ => none
  | n + 1 => runD 2 3 (g__law_like (d__law_like n))
theorem ok__law_like {f : Addr} {fd : FuncData} (F : FnP K "_law_like" s__law_like f fd) (hm : mg "_law_like" = some (.ref f)) (kp : PySem.W.keepIn K (.ref f) = true) (hb : Binds K fd ["value", "due"] []) (D__law_is_int : Def P w K mg base 1 "_law_is_int" ["value"] (d__law_is_int)) (b_all : mg "all" = none) (b_bool : mg "bool" = none) (b_isinstance : mg "isinstance" = none) (b_len : mg "len" = none) (b_range : mg "range" = none) (b_str : mg "str" = none) (b_tuple : mg "tuple" = none) : ∀ n, FnOk P w K mg base CX0 (2 + n) f fd ["value", "due"] (spD K 2 (d__law_like n)) := by
  intro n
  induction n with
  | zero => exact fn_none F sc__law_like
  | succ n ih =>
    have nd := sc__law_like.nd
    have D__law_like : Def P w K mg base (2 + n) "_law_like" ["value", "due"] (d__law_like n) := def_ok ih hm kp hb
    refine fnp_ok (k := 2 + n) (O' := []) F sc__law_like fun cdv A outer s H E hr => ?_
    exact (by exact ss_cons (by exact ss_if (O' := []) (by exact st_cmp op_isD (by exact se_var 1) se_non) (by exact ss_last (by exact ss_ret (by exact se_cmp op_isD (by exact se_var 0) se_non))) ss_nil) (by exact ss_cons (by exact ss_if (O' := []) (by exact st_val (by exact se_isi "bool" (by exact se_var 1) b_isinstance b_bool)) (by exact ss_last (by exact ss_ret (by exact se_and (by exact se_isi "bool" (by exact se_var 0) b_isinstance b_bool) (by exact se_bone (by exact se_cmp (op_eqP hr) (by exact se_var 0) (by exact se_var 1)))))) ss_nil) (by exact ss_cons (by exact ss_if (O' := []) (by exact st_val (by exact se_isi "tuple" (by exact se_var 1) b_isinstance b_tuple)) (by exact ss_cons (by exact ss_if (O' := []) (by exact SW.st (by exact sw_or (by exact st_not (by exact st_val (by exact se_isi "tuple" (by exact se_var 0) b_isinstance b_tuple))) (by exact sw_or1 (by exact st_cmp (op_neP hr) (by exact se_callB (st := false) cb_len b_len (by exact sa_cons (by exact se_var 0) sa_nil)) (by exact se_callB (st := false) cb_len b_len (by exact sa_cons (by exact se_var 1) sa_nil)))))) (by exact ss_last (by exact ss_ret se_bl)) ss_nil) (by exact ss_last (by exact ss_ret (by exact se_callB (st := false) cb_all b_all (by exact sa_cons (by exact se_lc nd (by exact si_r1 (st := false) b_range (by exact sa_cons (by exact se_callB (st := false) cb_len b_len (by exact sa_cons (by exact se_var 1) sa_nil)) sa_nil)) (blkOk_by (own := [("k", 2)]) rfl) (fun _ _ _ _ _ => (by exact sg_name 2 nd)) (fun _ _ _ _ _ => sts_nil) (fun _ _ _ _ _ => (by exact se_callD (hk := by omega) D__law_like hr (by exact sa_cons (by exact se_ix (by exact se_var 0) (by exact se_var 2)) (by exact sa_cons (by exact se_ix (by exact se_var 1) (by exact se_var 2)) sa_nil))))) sa_nil))))) ss_nil) (by exact ss_cons (by exact ss_if (O' := []) (by exact st_val (by exact se_isi "str" (by exact se_var 1) b_isinstance b_str)) (by exact ss_last (by exact ss_ret (by exact se_and (by exact se_isi "str" (by exact se_var 0) b_isinstance b_str) (by exact se_bone (by exact se_cmp (op_eqP hr) (by exact se_var 0) (by exact se_var 1)))))) ss_nil) (by exact ss_last (by exact ss_ret (by exact se_and (by exact se_callD (hk := by omega) D__law_is_int hr (by exact sa_cons (by exact se_var 0) sa_nil)) (by exact se_bone (by exact se_cmp (op_eqP hr) (by exact se_var 0) (by exact se_var 1))))))))))
/-! ### _law_sets -/
abbrev s__law_sets : Stmt := topS 27
theorem sc__law_sets : FnScope ["n", "found", "thing", "one"] ["n"] (defScope s__law_sets) := ⟨rfl, rfl, rfl, by decide +kernel, rfl, by decide +kernel, by decide +kernel⟩
def l1__law_sets : XS :=
  (sSeq (sSet 1 (xBin oAdd (xVar 1) (xLc (xSeq (xVar 1)) (gSet 3) tYesP (xBin oAdd (xVar 3) (xTup (xCons (xVar 2) xNil))) [3])))
  sNop)
def g__law_sets : XS :=
  (sSeq (sSet 1 (xLst (xCons (xTup xNil) xNil)))
  (sSeq (sFor (xIt oR1 (xCons (xVar 0) xNil)) (gSet 2) l1__law_sets)
  (sRet (xCall bSortedE (xCons (xVar 1) xNil)))))
def d__law_sets : List D → Option D := runD 1 4 g__law_sets
theorem ok__law_sets {f : Addr} {fd : FuncData} (F : FnP K "_law_sets" s__law_sets f fd) (b_range : mg "range" = none) (b_sorted : mg "sorted" = none) : FnOk P w K mg base CX0 1 f fd ["n"] (spD K 1 d__law_sets) := by
  have nd := sc__law_sets.nd
  refine fnp_ok (k := 0) (O' := []) F sc__law_sets fun cdv A outer s H E hr => ?_
  exact (by exact ss_cons (by exact ss_setF 1 nd (by exact se_lst (by exact sa_cons (by exact se_tup sa_nil) sa_nil))) (by exact ss_cons (by exact ss_for (O' := [1]) (by exact si_r1 (st := false) b_range (by exact sa_cons (by exact se_var 0) sa_nil)) (by exact sg_name 2 nd) (by exact ss_cons (by exact ss_setF 1 nd (by exact se_op op_addD (by exact se_varW 1) (by exact se_lc nd (by exact si_seq (m := .w) (by exact se_varW 1)) (blkOk_by (own := [("one", 3)]) rfl) (fun _ _ _ _ _ => (by exact sg_name 3 nd)) (fun _ _ _ _ _ => sts_nil) (fun _ _ _ _ _ => (by exact se_op op_addD (by exact se_var 3) (by exact se_tup (by exact sa_cons (by exact se_var 2) sa_nil))))))) ss_nil)) (by exact ss_last (by exact ss_ret (by exact se_callB (st := false) (cb_sortedE (hu65 hr)) b_sorted (by exact sa_cons (by exact se_varW 1) sa_nil))))))
/-! ### _law_sees -/
abbrev s__law_sees : Stmt := topS 28
theorem sc__law_sees : FnScope ["n", "watch", "k"] ["n", "watch"] (defScope s__law_sees) := ⟨rfl, rfl, rfl, by decide +kernel, rfl, by decide +kernel, by decide +kernel⟩
def g__law_sees : XS :=
  (sRet (xCall bSrtSetL (xCons (xLc (xIt oR1 (xCons (xCall bMin2 (xCons (xBin oIx (xVar 1) (xC (.int 1))) (xCons (xVar 0) xNil))) xNil)) (gSet 2) tYesP (xBin oMod (xCall bInt (xCons (xBin oAdd (xBin oIx (xVar 1) (xC (.int 0))) (xVar 2)) xNil)) (xVar 0)) [2]) xNil)))
def d__law_sees : List D → Option D := runD 2 3 g__law_sees
theorem ok__law_sees {f : Addr} {fd : FuncData} (F : FnP K "_law_sees" s__law_sees f fd) (b_int : mg "int" = none) (b_min : mg "min" = none) (b_range : mg "range" = none) (b_set : mg "set" = none) (b_sorted : mg "sorted" = none) : FnOk P w K mg base CX0 1 f fd ["n", "watch"] (spD K 2 d__law_sees) := by
  have nd := sc__law_sees.nd
  refine fnp_ok (k := 0) (O' := []) F sc__law_sees fun cdv A outer s H E hr => ?_
  exact (by exact ss_last (by exact ss_ret (by exact se_ssetL (st := false) b_sorted b_set (by exact sa_cons (by exact se_lc nd (by exact si_r1 (st := false) b_range (by exact sa_cons (by exact se_callB (st := false) cb_min2 b_min (by exact sa_cons (by exact se_ix (by exact se_var 1) se_int) (by exact sa_cons (by exact se_var 0) sa_nil))) sa_nil)) (blkOk_by (own := [("k", 2)]) rfl) (fun _ _ _ _ _ => (by exact sg_name 2 nd)) (fun _ _ _ _ _ => sts_nil) (fun _ _ _ _ _ => (by exact se_op op_modD (by exact se_callT (st := false) cb_int b_int (by exact sa_cons (by exact se_op op_addD (by exact se_ix (by exact se_var 1) se_int) (by exact se_var 2)) sa_nil)) (by exact se_var 0)))) sa_nil))))
/-! ### _law_least_set -/
abbrev s__law_least_set : Stmt := topS 29
theorem sc__law_least_set : FnScope ["keys"] ["keys"] (defScope s__law_least_set) := ⟨rfl, rfl, rfl, by decide +kernel, rfl, by decide +kernel, by decide +kernel⟩
def g__law_least_set : XS :=
  (sRet (xBin oIx (xBin oIx (xBin oAdd (xCall bSorted (xCons (xVar 0) xNil)) (xLst (xCons (xTup (xCons (xC (.int 0)) (xCons (xC .none) xNil))) xNil))) (xC (.int 0))) (xC (.int 1))))
def d__law_least_set : List D → Option D := runD 1 1 g__law_least_set
theorem ok__law_least_set {f : Addr} {fd : FuncData} (F : FnP K "_law_least_set" s__law_least_set f fd) (b_sorted : mg "sorted" = none) : FnOk P w K mg base CX0 1 f fd ["keys"] (spD K 1 d__law_least_set) := by
  have nd := sc__law_least_set.nd
  refine fnp_ok (k := 0) (O' := []) F sc__law_least_set fun cdv A outer s H E hr => ?_
  exact (by exact ss_last (by exact ss_ret (by exact se_ix (by exact se_ix (by exact se_op op_addD (by exact se_callB (st := false) (cb_sorted (hu65 hr)) b_sorted (by exact sa_cons (by exact se_var 0) sa_nil)) (by exact se_lst (by exact sa_cons (by exact se_tup (by exact sa_cons se_int (by exact sa_cons se_non sa_nil))) sa_nil))) se_int) se_int)))
/-! ### _law_counts -/
abbrev s__law_counts : Stmt := topS 30
theorem sc__law_counts : FnScope ["n", "sights", "chosen", "place", "k"] ["n", "sights", "chosen"] (defScope s__law_counts) := ⟨rfl, rfl, rfl, by decide +kernel, rfl, by decide +kernel, by decide +kernel⟩
def g__law_counts : XS :=
  (sRet (xLc (xIt oR1 (xCons (xVar 0) xNil)) (gSet 3) tYesP (xCall bLen (xCons (xLc (xSeq (xVar 2)) (gSet 4) (tOf (xBin oIn (xVar 3) (xBin oIx (xVar 1) (xVar 4)))) (xC (.int 1)) [4]) xNil)) [3]))
def d__law_counts : List D → Option D := runD 3 5 g__law_counts
theorem ok__law_counts {f : Addr} {fd : FuncData} (F : FnP K "_law_counts" s__law_counts f fd) (b_len : mg "len" = none) (b_range : mg "range" = none) : FnOk P w K mg base CX0 1 f fd ["n", "sights", "chosen"] (spD K 3 d__law_counts) := by
  have nd := sc__law_counts.nd
  refine fnp_ok (k := 0) (O' := []) F sc__law_counts fun cdv A outer s H E hr => ?_
  exact (by exact ss_last (by exact ss_ret (by exact se_lc nd (by exact si_r1 (st := false) b_range (by exact sa_cons (by exact se_var 0) sa_nil)) (blkOk_by (own := [("place", 3)]) rfl) (fun _ _ _ _ _ => (by exact sg_name 3 nd)) (fun _ _ _ _ _ => sts_nil) (fun _ _ _ _ _ => (by exact se_callB (st := false) cb_len b_len (by exact sa_cons (by exact se_lc nd (by exact si_seq (m := .s) (by exact se_var 2)) (blkOk_by (own := [("k", 4)]) rfl) (fun _ _ _ _ _ => (by exact sg_name 4 nd)) (fun _ _ _ _ _ => (by exact sts_one (by exact st_cmp (op_inP hr) (by exact se_var 3) (by exact se_ix (by exact se_var 1) (by exact se_var 4))))) (fun _ _ _ _ _ => se_int)) sa_nil))))))
/-! ### _law_watched -/
abbrev s__law_watched : Stmt := topS 31
theorem sc__law_watched : FnScope ["n", "watches", "chosen", "counts", "gaps", "bells", "one", "best", "every", "many", "sights", "all_seen", "twice", "least", "watch", "place", "k"] ["n", "watches", "chosen"] (defScope s__law_watched) := ⟨rfl, rfl, rfl, by decide +kernel, rfl, by decide +kernel, by decide +kernel⟩
def l1__law_watched : XS :=
  (sSeq (sSet 13 (xCall bMinI (xCons (xCall (fun ds => if ds.length = 3 then (d__law_counts) ds else none) (xCons (xVar 0) (xCons (xVar 10) (xCons (xVar 6) xNil)))) xNil)))
  (sSeq (sIf (tOf (xBin oGt (xVar 13) (xC (.int 0)))) (sSeq (sApp 11 (xTup (xCons (xCall bLen (xCons (xVar 6) xNil)) (xCons (xVar 6) xNil))))
  sNop) sNop)
  (sSeq (sIf (tOf (xBin oGt (xVar 13) (xC (.int 1)))) (sSeq (sApp 12 (xTup (xCons (xCall bLen (xCons (xVar 6) xNil)) (xCons (xVar 6) xNil))))
  sNop) sNop)
  sNop)))
def g__law_watched : XS :=
  (sSeq (sPar [10, 11, 12] (xCons (xLc (xSeq (xVar 1)) (gSet 14) tYesP (xCall (fun ds => if ds.length = 2 then (d__law_sees) ds else none) (xCons (xVar 0) (xCons (xVar 14) xNil))) [14]) (xCons (xLst xNil) (xCons (xLst xNil) xNil))))
  (sSeq (sSet 3 (xCall (fun ds => if ds.length = 3 then (d__law_counts) ds else none) (xCons (xVar 0) (xCons (xVar 10) (xCons (xVar 2) xNil)))))
  (sSeq (sSet 4 (xCall bTuple (xCons (xLc (xIt oR1 (xCons (xVar 0) xNil)) (gSet 15) (tOf (xBin oEq (xBin oIx (xVar 3) (xVar 15)) (xC (.int 0)))) (xVar 15) [15]) xNil)))
  (sSeq (sIf (tNotP (tTru (xCall (fun ds => if ds.length = 2 then (d__law_like 8) ds else none) (xCons (xCall (fun ds => if ds.length = 3 then (d_seen_times) ds else none) (xCons (xVar 0) (xCons (xVar 1) (xCons (xVar 2) xNil)))) (xCons (xCall bTuple (xCons (xVar 3) xNil)) xNil))))) (sRet (xC (.bool false))) sNop)
  (sSeq (sIf (tNotP (tTru (xCall (fun ds => if ds.length = 2 then ((d__law_like 8) ds).bind fun d => if flat d then some d else none else none) (xCons (xCall (fun ds => if ds.length = 3 then (d_watch_gaps) ds else none) (xCons (xVar 0) (xCons (xVar 1) (xCons (xVar 2) xNil)))) (xCons (xVar 4) xNil))))) (sRet (xC (.bool false))) sNop)
  (sSeq (sIf (tNotP (tTru (xCall (fun ds => if ds.length = 2 then (d__law_like 8) ds else none) (xCons (xCall (fun ds => if ds.length = 3 then (d_seen_by_all) ds else none) (xCons (xVar 0) (xCons (xVar 1) (xCons (xVar 2) xNil)))) (xCons (xBin oEq (xCall bLen (xCons (xVar 4) xNil)) (xC (.int 0))) xNil))))) (sRet (xC (.bool false))) sNop)
  (sSeq (sSet 5 (xCall bTuple (xCons (xLc (xSeq (xVar 2)) (gSet 16) tYesP (xTup (xCons (xVar 0) (xCons (xCall bTuple (xCons (xBin oIx (xVar 10) (xVar 16)) xNil)) xNil))) [16]) xNil)))
  (sSeq (sIf (tNotP (tTru (xCall (fun ds => if ds.length = 2 then (d__law_like 8) ds else none) (xCons (xCall (fun ds => if ds.length = 2 then ((d_struck_in) ds).bind fun d => if flat d then some d else none else none) (xCons (xVar 5) (xCons (xTup (xCons (xBin oMul' (xC (.int 2)) (xVar 0)) (xCons (xBin oMul' (xC (.int 3)) (xVar 0)) xNil))) xNil))) (xCons (xBin oSub (xVar 0) (xCall bLen (xCons (xVar 4) xNil))) xNil))))) (sRet (xC (.bool false))) sNop)
  (sSeq (sFor (xSeq (xCall (fun ds => if ds.length = 1 then (d__law_sets) ds else none) (xCons (xCall bLen (xCons (xVar 1) xNil)) xNil))) (gSet 6) l1__law_watched)
  (sSeq (sSet 7 (xCall (fun ds => if ds.length = 1 then ((d__law_least_set) ds).bind fun d => if flat d then some d else none else none) (xCons (xVar 11) xNil)))
  (sSeq (sIf (tOrP (tNotP (tTru (xCall (fun ds => if ds.length = 2 then ((d__law_like 8) ds).bind fun d => if flat d then some d else none else none) (xCons (xCall (fun ds => if ds.length = 2 then (d_watches_least) ds else none) (xCons (xVar 0) (xCons (xVar 1) xNil))) (xCons (xVar 7) xNil))))) (tNotP (tTru (xCall (fun ds => if ds.length = 2 then (d__law_like 8) ds else none) (xCons (xCall (fun ds => if ds.length = 2 then (d_never_blind) ds else none) (xCons (xVar 0) (xCons (xVar 1) xNil))) (xCons (xCall (fun ds => if ds.length = 1 then ((d__law_least_set) ds).bind fun d => if flat d then some d else none else none) (xCons (xVar 12) xNil)) xNil)))))) (sRet (xC (.bool false))) sNop)
  (sSeq (sSet 8 (xCall (fun ds => if ds.length = 3 then (d__law_counts) ds else none) (xCons (xVar 0) (xCons (xVar 10) (xCons (xUn oTupR1 (xCall bLen (xCons (xVar 1) xNil))) xNil)))))
  (sSeq (sIf (tOf (xBin oNe (xBin oIs (xVar 7) (xC .none)) (xBin oEq (xCall bMinI (xCons (xVar 8) xNil)) (xC (.int 0))))) (sRet (xC (.bool false))) sNop)
  (sSeq (sSet 9 (xC .none))
  (sSeq (sIf (tOf (xBin oIsNot (xVar 7) (xC .none))) (sSeq (sSet 9 (xCall bLen (xCons (xVar 7) xNil)))
  sNop) sNop)
  (sRet (xCall (fun ds => if ds.length = 2 then ((d__law_like 8) ds).bind fun d => if flat d then some d else none else none) (xCons (xCall (fun ds => if ds.length = 2 then (d_watches_greedy) ds else none) (xCons (xVar 0) (xCons (xVar 1) xNil))) (xCons (xVar 9) xNil)))))))))))))))))))
def d__law_watched : List D → Option D := runD 3 17 g__law_watched
theorem ok__law_watched {f : Addr} {fd : FuncData} (F : FnP K "_law_watched" s__law_watched f fd) (D_seen_times : Def P w K mg base 2 "seen_times" ["n", "watches", "chosen"] (d_seen_times)) (D_seen_by_all : Def P w K mg base 3 "seen_by_all" ["n", "watches", "chosen"] (d_seen_by_all)) (D_watch_gaps : Def P w K mg base 3 "watch_gaps" ["n", "watches", "chosen"] (d_watch_gaps)) (D_watches_least : Def P w K mg base 4 "watches_least" ["n", "watches"] (d_watches_least)) (D_watches_greedy : Def P w K mg base 2 "watches_greedy" ["n", "watches"] (d_watches_greedy)) (D_never_blind : Def P w K mg base 4 "never_blind" ["n", "watches"] (d_never_blind)) (D_struck_in : Def P w K mg base 2 "struck_in" ["bells", "span"] (d_struck_in)) (D__law_like : Def P w K mg base 10 "_law_like" ["value", "due"] (d__law_like 8)) (D__law_sets : Def P w K mg base 1 "_law_sets" ["n"] (d__law_sets)) (D__law_sees : Def P w K mg base 1 "_law_sees" ["n", "watch"] (d__law_sees)) (D__law_least_set : Def P w K mg base 1 "_law_least_set" ["keys"] (d__law_least_set)) (D__law_counts : Def P w K mg base 1 "_law_counts" ["n", "sights", "chosen"] (d__law_counts)) (b_len : mg "len" = none) (b_min : mg "min" = none) (b_range : mg "range" = none) (b_tuple : mg "tuple" = none) : FnOk P w K mg base CX0 11 f fd ["n", "watches", "chosen"] (spD K 3 d__law_watched) := by
  have nd := sc__law_watched.nd
  refine fnp_ok (k := 10) (O' := []) F sc__law_watched fun cdv A outer s H E hr => ?_
  exact (by exact ss_cons (by exact ss_parT [10, 11, 12] (by exact sam_cons (by exact se_lc nd (by exact si_seq (m := .s) (by exact se_var 1)) (blkOk_by (own := [("watch", 14)]) rfl) (fun _ _ _ _ _ => (by exact sg_name 14 nd)) (fun _ _ _ _ _ => sts_nil) (fun _ _ _ _ _ => (by exact se_callD D__law_sees hr (by exact sa_cons (by exact se_var 0) (by exact sa_cons (by exact se_var 14) sa_nil))))) (by exact sam_cons (by exact se_lst sa_nil) (by exact sam_cons (by exact se_lst sa_nil) sam_nil))) (pgs_cons (pg_name (i := 10) nd rfl (by first | exact .inl rfl | exact .inr rfl)) (pgs_cons (pg_name (i := 11) nd rfl (by first | exact .inl rfl | exact .inr rfl)) (pgs_cons (pg_name (i := 12) nd rfl (by first | exact .inl rfl | exact .inr rfl)) pgs_nil)))) (by exact ss_cons (by exact SS.weak (O1 := [12, 11]) (by exact ss_setS 3 nd (by exact se_callD D__law_counts hr (by exact sa_cons (by exact se_var 0) (by exact sa_cons (by exact se_var 10) (by exact sa_cons (by exact se_var 2) sa_nil)))))) (by exact ss_cons (by exact ss_setF 4 nd (by exact se_callT (st := false) cb_tuple b_tuple (by exact sa_cons (by exact se_lc nd (by exact si_r1 (st := false) b_range (by exact sa_cons (by exact se_var 0) sa_nil)) (blkOk_by (own := [("place", 15)]) rfl) (fun _ _ _ _ _ => (by exact sg_name 15 nd)) (fun _ _ _ _ _ => (by exact sts_one (by exact st_cmp (op_eqP hr) (by exact se_ix (by exact se_var 3) (by exact se_var 15)) se_int))) (fun _ _ _ _ _ => (by exact se_var 15))) sa_nil))) (by exact ss_cons (by exact ss_if (O' := [4, 12, 11]) (by exact st_not (by exact st_val (by exact se_callD D__law_like hr (by exact sa_cons (by exact se_callD D_seen_times hr (by exact sa_cons (by exact se_var 0) (by exact sa_cons (by exact se_var 1) (by exact sa_cons (by exact se_var 2) sa_nil)))) (by exact sa_cons (by exact se_callT (st := false) cb_tuple b_tuple (by exact sa_cons (by exact se_var 3) sa_nil)) sa_nil))))) (by exact ss_last (by exact ss_ret se_bl)) ss_nil) (by exact ss_cons (by exact ss_if (O' := [4, 12, 11]) (by exact st_not (by exact st_val (by exact se_callWD D__law_like hr (by exact sa_cons (by exact se_callD D_watch_gaps hr (by exact sa_cons (by exact se_var 0) (by exact sa_cons (by exact se_var 1) (by exact sa_cons (by exact se_var 2) sa_nil)))) (by exact sa_cons (by exact se_varW 4) sa_nil))))) (by exact ss_last (by exact ss_ret se_bl)) ss_nil) (by exact ss_cons (by exact ss_if (O' := [4, 12, 11]) (by exact st_not (by exact st_val (by exact se_callD D__law_like hr (by exact sa_cons (by exact se_callD D_seen_by_all hr (by exact sa_cons (by exact se_var 0) (by exact sa_cons (by exact se_var 1) (by exact sa_cons (by exact se_var 2) sa_nil)))) (by exact sa_cons (by exact se_cmp (op_eqP hr) (by exact se_callB (st := false) cb_len b_len (by exact sa_cons (by exact se_varW 4) sa_nil)) se_int) sa_nil))))) (by exact ss_last (by exact ss_ret se_bl)) ss_nil) (by exact ss_cons (by exact ss_setF 5 nd (by exact se_callT (st := false) cb_tuple b_tuple (by exact sa_cons (by exact se_lc nd (by exact si_seq (m := .s) (by exact se_var 2)) (blkOk_by (own := [("k", 16)]) rfl) (fun _ _ _ _ _ => (by exact sg_name 16 nd)) (fun _ _ _ _ _ => sts_nil) (fun _ _ _ _ _ => (by exact se_tup (by exact sa_cons (by exact se_var 0) (by exact sa_cons (by exact se_callT (st := false) cb_tuple b_tuple (by exact sa_cons (by exact se_ix (by exact se_var 10) (by exact se_var 16)) sa_nil)) sa_nil))))) sa_nil))) (by exact ss_cons (by exact ss_if (O' := [5, 4, 12, 11]) (by exact st_not (by exact st_val (by exact se_callD D__law_like hr (by exact sa_cons (by exact se_callWD D_struck_in hr (by exact sa_cons (by exact se_varW 5) (by exact sa_cons (by exact se_tup (by exact sa_cons (by exact se_op op_mulD' se_int (by exact se_var 0)) (by exact sa_cons (by exact se_op op_mulD' se_int (by exact se_var 0)) sa_nil))) sa_nil))) (by exact sa_cons (by exact se_op op_subD (by exact se_var 0) (by exact se_callB (st := false) cb_len b_len (by exact sa_cons (by exact se_varW 4) sa_nil))) sa_nil))))) (by exact ss_last (by exact ss_ret se_bl)) ss_nil) (by exact ss_cons (by exact ss_for (O' := [5, 4, 12, 11]) (by exact si_seq (m := .s) (by exact se_callD D__law_sets hr (by exact sa_cons (by exact se_callB (st := false) cb_len b_len (by exact sa_cons (by exact se_var 1) sa_nil)) sa_nil))) (by exact sg_name 6 nd) (by exact ss_cons (by exact ss_setF 13 nd (by exact se_callB (st := false) cb_minI b_min (by exact sa_cons (by exact se_callD D__law_counts hr (by exact sa_cons (by exact se_var 0) (by exact sa_cons (by exact se_var 10) (by exact sa_cons (by exact se_var 6) sa_nil)))) sa_nil))) (by exact ss_cons (by exact ss_if (O' := [13, 5, 4, 12, 11]) (by exact st_cmp op_gtD (by exact se_varW 13) se_int) (by exact ss_cons (by exact ss_app 11 (by exact se_tup (by exact sa_cons (by exact se_callB (st := false) cb_len b_len (by exact sa_cons (by exact se_var 6) sa_nil)) (by exact sa_cons (by exact se_var 6) sa_nil)))) ss_nil) ss_nil) (by exact ss_cons (by exact ss_if (O' := [13, 5, 4, 12, 11]) (by exact st_cmp op_gtD (by exact se_varW 13) se_int) (by exact ss_cons (by exact ss_app 12 (by exact se_tup (by exact sa_cons (by exact se_callB (st := false) cb_len b_len (by exact sa_cons (by exact se_var 6) sa_nil)) (by exact sa_cons (by exact se_var 6) sa_nil)))) ss_nil) ss_nil) ss_nil)))) (by exact ss_cons (by exact ss_setF 7 nd (by exact se_callWD D__law_least_set hr (by exact sa_cons (by exact se_varW 11) sa_nil))) (by exact ss_cons (by exact ss_if (O' := [7, 5, 4, 12, 11]) (by exact SW.st (by exact sw_or (by exact st_not (by exact st_val (by exact se_callWD D__law_like hr (by exact sa_cons (by exact se_callD D_watches_least hr (by exact sa_cons (by exact se_var 0) (by exact sa_cons (by exact se_var 1) sa_nil))) (by exact sa_cons (by exact se_varW 7) sa_nil))))) (by exact sw_or1 (by exact st_not (by exact st_val (by exact se_callD D__law_like hr (by exact sa_cons (by exact se_callD D_never_blind hr (by exact sa_cons (by exact se_var 0) (by exact sa_cons (by exact se_var 1) sa_nil))) (by exact sa_cons (by exact se_callWD D__law_least_set hr (by exact sa_cons (by exact se_varW 12) sa_nil)) sa_nil)))))))) (by exact ss_last (by exact ss_ret se_bl)) ss_nil) (by exact ss_cons (by exact ss_setS 8 nd (by exact se_callD D__law_counts hr (by exact sa_cons (by exact se_var 0) (by exact sa_cons (by exact se_var 10) (by exact sa_cons (by exact se_tupR1 b_tuple b_range (by exact se_callB (st := false) cb_len b_len (by exact sa_cons (by exact se_var 1) sa_nil))) sa_nil))))) (by exact ss_cons (by exact ss_if (O' := [7, 5, 4, 12, 11]) (by exact st_cmp (op_neP hr) (by exact se_cmp op_isD (by exact se_varW 7) se_non) (by exact se_cmp (op_eqP hr) (by exact se_callB (st := false) cb_minI b_min (by exact sa_cons (by exact se_var 8) sa_nil)) se_int)) (by exact ss_last (by exact ss_ret se_bl)) ss_nil) (by exact ss_cons (by exact ss_setF 9 nd se_non) (by exact ss_cons (by exact ss_if (O' := [9, 9, 7, 5, 4, 12, 11]) (by exact st_cmp op_isNotD (by exact se_varW 7) se_non) (by exact ss_cons (by exact ss_setF 9 nd (by exact se_callB (st := false) cb_len b_len (by exact sa_cons (by exact se_varW 7) sa_nil))) ss_nil) ss_nil) (by exact ss_last (by exact ss_ret (by exact se_callWD D__law_like hr (by exact sa_cons (by exact se_callD D_watches_greedy hr (by exact sa_cons (by exact se_var 0) (by exact sa_cons (by exact se_var 1) sa_nil))) (by exact sa_cons (by exact se_varW 9) sa_nil))))))))))))))))))))
/-! ### _law_way -/
abbrev s__law_way : Stmt := topS 32
theorem sc__law_way : FnScope ["one", "other"] ["one", "other"] (defScope s__law_way) := ⟨rfl, rfl, rfl, by decide +kernel, rfl, by decide +kernel, by decide +kernel⟩
def g__law_way : XS :=
  (sRet (xBin oAdd (xCall bAbs (xCons (xBin oSub (xBin oIx (xVar 0) (xC (.int 0))) (xBin oIx (xVar 1) (xC (.int 0)))) xNil)) (xCall bAbs (xCons (xBin oSub (xBin oIx (xVar 0) (xC (.int 1))) (xBin oIx (xVar 1) (xC (.int 1)))) xNil))))
def d__law_way : List D → Option D := runD 2 2 g__law_way
theorem ok__law_way {f : Addr} {fd : FuncData} (F : FnP K "_law_way" s__law_way f fd) (b_abs : mg "abs" = none) : FnOk P w K mg base CX0 1 f fd ["one", "other"] (spD K 2 d__law_way) := by
  have nd := sc__law_way.nd
  refine fnp_ok (k := 0) (O' := []) F sc__law_way fun cdv A outer s H E hr => ?_
  exact (by exact ss_last (by exact ss_ret (by exact se_op op_addD (by exact se_callB (st := false) cb_abs b_abs (by exact sa_cons (by exact se_op op_subD (by exact se_ix (by exact se_var 0) se_int) (by exact se_ix (by exact se_var 1) se_int)) sa_nil)) (by exact se_callB (st := false) cb_abs b_abs (by exact sa_cons (by exact se_op op_subD (by exact se_ix (by exact se_var 0) se_int) (by exact se_ix (by exact se_var 1) se_int)) sa_nil)))))
/-! ### _law_hosed -/
abbrev s__law_hosed : Stmt := topS 33
theorem sc__law_hosed : FnScope ["places", "points", "reach", "k", "keys", "one", "point", "p"] ["places", "points", "reach", "k"] (defScope s__law_hosed) := ⟨rfl, rfl, rfl, by decide +kernel, rfl, by decide +kernel, by decide +kernel⟩
def l1__law_hosed : XS :=
  (sSeq (sIf (tTru (xCall bAll (xCons (xLc (xSeq (xVar 1)) (gSet 6) tYesP (xBin oGe (xCall bLen (xCons (xLc (xSeq (xVar 5)) (gSet 7) (tOf (xBin oLe (xCall (fun ds => if ds.length = 2 then (d__law_way) ds else none) (xCons (xBin oIx (xVar 0) (xVar 7)) (xCons (xVar 6) xNil))) (xVar 2))) (xVar 7) [7]) xNil)) (xVar 3)) [6]) xNil))) (sSeq (sApp 4 (xTup (xCons (xCall bLen (xCons (xVar 5) xNil)) (xCons (xVar 5) xNil))))
  sNop) sNop)
  sNop)
def g__law_hosed : XS :=
  (sSeq (sSet 4 (xLst xNil))
  (sSeq (sFor (xSeq (xCall (fun ds => if ds.length = 1 then (d__law_sets) ds else none) (xCons (xCall bLen (xCons (xVar 0) xNil)) xNil))) (gSet 5) l1__law_hosed)
  (sRet (xCall (fun ds => if ds.length = 1 then ((d__law_least_set) ds).bind fun d => if flat d then some d else none else none) (xCons (xVar 4) xNil)))))
def d__law_hosed : List D → Option D := runD 4 8 g__law_hosed
theorem ok__law_hosed {f : Addr} {fd : FuncData} (F : FnP K "_law_hosed" s__law_hosed f fd) (D__law_sets : Def P w K mg base 1 "_law_sets" ["n"] (d__law_sets)) (D__law_least_set : Def P w K mg base 1 "_law_least_set" ["keys"] (d__law_least_set)) (D__law_way : Def P w K mg base 1 "_law_way" ["one", "other"] (d__law_way)) (b_all : mg "all" = none) (b_len : mg "len" = none) : FnOk P w K mg base CX0 2 f fd ["places", "points", "reach", "k"] (spD K 4 d__law_hosed) := by
  have nd := sc__law_hosed.nd
  refine fnp_ok (k := 1) (O' := []) F sc__law_hosed fun cdv A outer s H E hr => ?_
  exact (by exact ss_cons (by exact ss_setF 4 nd (by exact se_lst sa_nil)) (by exact ss_cons (by exact ss_for (O' := [4]) (by exact si_seq (m := .s) (by exact se_callD D__law_sets hr (by exact sa_cons (by exact se_callB (st := false) cb_len b_len (by exact sa_cons (by exact se_var 0) sa_nil)) sa_nil))) (by exact sg_name 5 nd) (by exact ss_cons (by exact ss_if (O' := [4]) (by exact st_val (by exact se_callB (st := false) cb_all b_all (by exact sa_cons (by exact se_lc nd (by exact si_seq (m := .s) (by exact se_var 1)) (blkOk_by (own := [("point", 6)]) rfl) (fun _ _ _ _ _ => (by exact sg_name 6 nd)) (fun _ _ _ _ _ => sts_nil) (fun _ _ _ _ _ => (by exact se_cmp op_geD (by exact se_callB (st := false) cb_len b_len (by exact sa_cons (by exact se_lc nd (by exact si_seq (m := .s) (by exact se_var 5)) (blkOk_by (own := [("p", 7)]) rfl) (fun _ _ _ _ _ => (by exact sg_name 7 nd)) (fun _ _ _ _ _ => (by exact sts_one (by exact st_cmp op_leD (by exact se_callD D__law_way hr (by exact sa_cons (by exact se_ix (by exact se_var 0) (by exact se_var 7)) (by exact sa_cons (by exact se_var 6) sa_nil))) (by exact se_var 2)))) (fun _ _ _ _ _ => (by exact se_var 7))) sa_nil)) (by exact se_var 3)))) sa_nil))) (by exact ss_cons (by exact ss_app 4 (by exact se_tup (by exact sa_cons (by exact se_callB (st := false) cb_len b_len (by exact sa_cons (by exact se_var 5) sa_nil)) (by exact sa_cons (by exact se_var 5) sa_nil)))) ss_nil) ss_nil) ss_nil)) (by exact ss_last (by exact ss_ret (by exact se_callWD D__law_least_set hr (by exact sa_cons (by exact se_varW 4) sa_nil))))))
/-! ### _law_hoses -/
abbrev s__law_hoses : Stmt := topS 34
theorem sc__law_hoses : FnScope ["places", "points", "reach", "many", "told", "k", "keys", "one", "needed", "less", "point", "p"] ["places", "points", "reach", "many"] (defScope s__law_hoses) := ⟨rfl, rfl, rfl, by decide +kernel, rfl, by decide +kernel, by decide +kernel⟩
def l1__law_hoses : XS :=
  (sSeq (sIf (tNotP (tTru (xCall (fun ds => if ds.length = 2 then (d__law_like 8) ds else none) (xCons (xCall (fun ds => if ds.length = 4 then (d_hoses_least) ds else none) (xCons (xVar 0) (xCons (xVar 2) (xCons (xVar 1) (xCons (xVar 5) xNil))))) (xCons (xCall (fun ds => if ds.length = 4 then (d__law_hosed) ds else none) (xCons (xVar 0) (xCons (xVar 1) (xCons (xVar 2) (xCons (xVar 5) xNil))))) xNil))))) (sRet (xC (.bool false))) sNop)
  sNop)
def l2__law_hoses : XS :=
  (sSeq (sIf (tOf (xBin oEq (xCall bLen (xCons (xVar 7) xNil)) (xVar 3))) (sSeq (sApp 6 (xTup (xCons (xCall bMaxD (xCons (xLc (xSeq (xVar 1)) (gSet 10) tYesP (xCall bMinD (xCons (xLc (xSeq (xVar 7)) (gSet 11) tYesP (xCall (fun ds => if ds.length = 2 then (d__law_way) ds else none) (xCons (xBin oIx (xVar 0) (xVar 11)) (xCons (xVar 10) xNil))) [11]) xNil)) [10]) xNil)) (xCons (xVar 7) xNil))))
  sNop) sNop)
  sNop)
def g__law_hoses : XS :=
  (sSeq (sSet 4 (xCall bTuple (xCons (xLc (xSeq (xVar 1)) (gSet 10) tYesP (xCall bTuple (xCons (xLc (xIt oR1 (xCons (xCall bLen (xCons (xVar 0) xNil)) xNil)) (gSet 11) (tOf (xBin oLe (xCall (fun ds => if ds.length = 2 then (d__law_way) ds else none) (xCons (xBin oIx (xVar 0) (xVar 11)) (xCons (xVar 10) xNil))) (xVar 2))) (xVar 11) [11]) xNil)) [10]) xNil)))
  (sSeq (sIf (tNotP (tTru (xCall (fun ds => if ds.length = 2 then ((d__law_like 8) ds).bind fun d => if flat d then some d else none else none) (xCons (xCall (fun ds => if ds.length = 3 then (d_hose_reach) ds else none) (xCons (xVar 0) (xCons (xVar 2) (xCons (xVar 1) xNil)))) (xCons (xVar 4) xNil))))) (sRet (xC (.bool false))) sNop)
  (sSeq (sFor (xSeq (xTup (xCons (xC (.int 1)) (xCons (xC (.int 2)) xNil)))) (gSet 5) l1__law_hoses)
  (sSeq (sSet 6 (xLst xNil))
  (sSeq (sFor (xSeq (xCall (fun ds => if ds.length = 1 then (d__law_sets) ds else none) (xCons (xCall bLen (xCons (xVar 0) xNil)) xNil))) (gSet 7) l2__law_hoses)
  (sSeq (sSet 8 (xCall bMinD (xCons (xVar 6) xNil)))
  (sSeq (sIf (tNotP (tTru (xCall (fun ds => if ds.length = 2 then (d__law_like 8) ds else none) (xCons (xCall (fun ds => if ds.length = 3 then (d_reach_needed) ds else none) (xCons (xVar 0) (xCons (xVar 3) (xCons (xVar 1) xNil)))) (xCons (xVar 8) xNil))))) (sRet (xC (.bool false))) sNop)
  (sSeq (sIf (tOf (xBin oIsNot (xCall (fun ds => if ds.length = 3 then (d_reach_needed) ds else none) (xCons (xVar 0) (xCons (xBin oAdd (xCall bLen (xCons (xVar 0) xNil)) (xC (.int 1))) (xCons (xVar 1) xNil)))) (xC .none))) (sRet (xC (.bool false))) sNop)
  (sSeq (sPar [4, 9] (xCons (xCall (fun ds => if ds.length = 4 then (d_hoses_least) ds else none) (xCons (xVar 0) (xCons (xBin oIx (xVar 8) (xC (.int 0))) (xCons (xVar 1) (xCons (xC (.int 1)) xNil))))) (xCons (xC .none) xNil)))
  (sSeq (sIf (tOf (xBin oGt (xBin oIx (xVar 8) (xC (.int 0))) (xC (.int 0)))) (sSeq (sSet 9 (xCall (fun ds => if ds.length = 4 then (d_hoses_least) ds else none) (xCons (xVar 0) (xCons (xBin oSub (xBin oIx (xVar 8) (xC (.int 0))) (xC (.int 1))) (xCons (xVar 1) (xCons (xC (.int 1)) xNil))))))
  sNop) sNop)
  (sRet (xAnd (xBin oIsNot (xVar 4) (xC .none)) (xAnd (xBin oLe (xCall bLen (xCons (xVar 4) xNil)) (xVar 3)) (xOr (xBin oIs (xVar 9) (xC .none)) (xBin oGt (xCall bLen (xCons (xVar 9) xNil)) (xVar 3))))))))))))))))
def d__law_hoses : List D → Option D := runD 4 12 g__law_hoses
theorem ok__law_hoses {f : Addr} {fd : FuncData} (F : FnP K "_law_hoses" s__law_hoses f fd) (D_hose_reach : Def P w K mg base 2 "hose_reach" ["places", "reach", "points"] (d_hose_reach)) (D_hoses_least : Def P w K mg base 4 "hoses_least" ["places", "reach", "points", "k"] (d_hoses_least)) (D_reach_needed : Def P w K mg base 2 "reach_needed" ["places", "n", "points"] (d_reach_needed)) (D__law_like : Def P w K mg base 10 "_law_like" ["value", "due"] (d__law_like 8)) (D__law_sets : Def P w K mg base 1 "_law_sets" ["n"] (d__law_sets)) (D__law_way : Def P w K mg base 1 "_law_way" ["one", "other"] (d__law_way)) (D__law_hosed : Def P w K mg base 2 "_law_hosed" ["places", "points", "reach", "k"] (d__law_hosed)) (b_len : mg "len" = none) (b_max : mg "max" = none) (b_min : mg "min" = none) (b_range : mg "range" = none) (b_tuple : mg "tuple" = none) : FnOk P w K mg base CX0 11 f fd ["places", "points", "reach", "many"] (spD K 4 d__law_hoses) := by
  have nd := sc__law_hoses.nd
  refine fnp_ok (k := 10) (O' := []) F sc__law_hoses fun cdv A outer s H E hr => ?_
  exact (by exact ss_cons (by exact ss_setF 4 nd (by exact se_callT (st := false) cb_tuple b_tuple (by exact sa_cons (by exact se_lc nd (by exact si_seq (m := .s) (by exact se_var 1)) (blkOk_by (own := [("point", 10)]) rfl) (fun _ _ _ _ _ => (by exact sg_name 10 nd)) (fun _ _ _ _ _ => sts_nil) (fun _ _ _ _ _ => (by exact se_callT (st := false) cb_tuple b_tuple (by exact sa_cons (by exact se_lc nd (by exact si_r1 (st := false) b_range (by exact sa_cons (by exact se_callB (st := false) cb_len b_len (by exact sa_cons (by exact se_var 0) sa_nil)) sa_nil)) (blkOk_by (own := [("p", 11)]) rfl) (fun _ _ _ _ _ => (by exact sg_name 11 nd)) (fun _ _ _ _ _ => (by exact sts_one (by exact st_cmp op_leD (by exact se_callD D__law_way hr (by exact sa_cons (by exact se_ix (by exact se_var 0) (by exact se_var 11)) (by exact sa_cons (by exact se_var 10) sa_nil))) (by exact se_var 2)))) (fun _ _ _ _ _ => (by exact se_var 11))) sa_nil)))) sa_nil))) (by exact ss_cons (by exact ss_if (O' := [4]) (by exact st_not (by exact st_val (by exact se_callWD D__law_like hr (by exact sa_cons (by exact se_callD D_hose_reach hr (by exact sa_cons (by exact se_var 0) (by exact sa_cons (by exact se_var 2) (by exact sa_cons (by exact se_var 1) sa_nil)))) (by exact sa_cons (by exact se_varW 4) sa_nil))))) (by exact ss_last (by exact ss_ret se_bl)) ss_nil) (by exact ss_cons (by exact ss_for (O' := [4]) (by exact si_seq (m := .f) (by exact se_tup (by exact sa_cons se_int (by exact sa_cons se_int sa_nil)))) (by exact sg_name 5 nd) (by exact ss_cons (by exact ss_if (O' := [4]) (by exact st_not (by exact st_val (by exact se_callD D__law_like hr (by exact sa_cons (by exact se_callD D_hoses_least hr (by exact sa_cons (by exact se_var 0) (by exact sa_cons (by exact se_var 2) (by exact sa_cons (by exact se_var 1) (by exact sa_cons (by exact se_var 5) sa_nil))))) (by exact sa_cons (by exact se_callD D__law_hosed hr (by exact sa_cons (by exact se_var 0) (by exact sa_cons (by exact se_var 1) (by exact sa_cons (by exact se_var 2) (by exact sa_cons (by exact se_var 5) sa_nil))))) sa_nil))))) (by exact ss_last (by exact ss_ret se_bl)) ss_nil) ss_nil)) (by exact ss_cons (by exact ss_setF 6 nd (by exact se_lst sa_nil)) (by exact ss_cons (by exact ss_for (O' := [6, 4]) (by exact si_seq (m := .s) (by exact se_callD D__law_sets hr (by exact sa_cons (by exact se_callB (st := false) cb_len b_len (by exact sa_cons (by exact se_var 0) sa_nil)) sa_nil))) (by exact sg_name 7 nd) (by exact ss_cons (by exact ss_if (O' := [6, 4]) (by exact st_cmp (op_eqP hr) (by exact se_callB (st := false) cb_len b_len (by exact sa_cons (by exact se_var 7) sa_nil)) (by exact se_var 3)) (by exact ss_cons (by exact ss_app 6 (by exact se_tup (by exact sa_cons (by exact se_callB (st := false) (cb_maxD (hu65 hr)) b_max (by exact sa_cons (by exact se_lc nd (by exact si_seq (m := .s) (by exact se_var 1)) (blkOk_by (own := [("point", 10)]) rfl) (fun _ _ _ _ _ => (by exact sg_name 10 nd)) (fun _ _ _ _ _ => sts_nil) (fun _ _ _ _ _ => (by exact se_callB (st := false) (cb_minD (hu65 hr)) b_min (by exact sa_cons (by exact se_lc nd (by exact si_seq (m := .s) (by exact se_var 7)) (blkOk_by (own := [("p", 11)]) rfl) (fun _ _ _ _ _ => (by exact sg_name 11 nd)) (fun _ _ _ _ _ => sts_nil) (fun _ _ _ _ _ => (by exact se_callD D__law_way hr (by exact sa_cons (by exact se_ix (by exact se_var 0) (by exact se_var 11)) (by exact sa_cons (by exact se_var 10) sa_nil))))) sa_nil)))) sa_nil)) (by exact sa_cons (by exact se_var 7) sa_nil)))) ss_nil) ss_nil) ss_nil)) (by exact ss_cons (by exact ss_setS 8 nd (by exact se_callB (st := false) (cb_minD (hu65 hr)) b_min (by exact sa_cons (by exact se_varW 6) sa_nil))) (by exact ss_cons (by exact ss_if (O' := [6, 4]) (by exact st_not (by exact st_val (by exact se_callD D__law_like hr (by exact sa_cons (by exact se_callD D_reach_needed hr (by exact sa_cons (by exact se_var 0) (by exact sa_cons (by exact se_var 3) (by exact sa_cons (by exact se_var 1) sa_nil)))) (by exact sa_cons (by exact se_var 8) sa_nil))))) (by exact ss_last (by exact ss_ret se_bl)) ss_nil) (by exact ss_cons (by exact ss_if (O' := [6, 4]) (by exact st_cmp op_isNotD (by exact se_callD D_reach_needed hr (by exact sa_cons (by exact se_var 0) (by exact sa_cons (by exact se_op op_addD (by exact se_callB (st := false) cb_len b_len (by exact sa_cons (by exact se_var 0) sa_nil)) se_int) (by exact sa_cons (by exact se_var 1) sa_nil)))) se_non) (by exact ss_last (by exact ss_ret se_bl)) ss_nil) (by exact ss_cons (by exact ss_par 4 9 nd (by exact sam_cons (by exact se_callD D_hoses_least hr (by exact sa_cons (by exact se_var 0) (by exact sa_cons (by exact se_ix (by exact se_var 8) se_int) (by exact sa_cons (by exact se_var 1) (by exact sa_cons se_int sa_nil))))) (by exact sam_cons se_non sam_nil))) (by exact ss_cons (by exact ss_if (O' := [6]) (by exact st_cmp op_gtD (by exact se_ix (by exact se_var 8) se_int) se_int) (by exact ss_cons (by exact ss_setS 9 nd (by exact se_callD D_hoses_least hr (by exact sa_cons (by exact se_var 0) (by exact sa_cons (by exact se_op op_subD (by exact se_ix (by exact se_var 8) se_int) se_int) (by exact sa_cons (by exact se_var 1) (by exact sa_cons se_int sa_nil)))))) ss_nil) ss_nil) (by exact ss_last (by exact ss_ret (by exact se_and (by exact se_cmp op_isNotD (by exact se_var 4) se_non) (by exact se_and (by exact se_cmp op_leD (by exact se_callB (st := false) cb_len b_len (by exact sa_cons (by exact se_var 4) sa_nil)) (by exact se_var 3)) (by exact se_bone (by exact se_or (by exact se_cmp op_isD (by exact se_var 9) se_non) (by exact se_bone (by exact se_cmp op_gtD (by exact se_callB (st := false) cb_len b_len (by exact sa_cons (by exact se_var 9) sa_nil)) (by exact se_var 3)))))))))))))))))))
/-! ### _law_lined -/
abbrev s__law_lined : Stmt := topS 35
theorem sc__law_lined : FnScope ["row", "reach", "spots", "points", "places", "watches", "reached", "k", "due", "spot", "p"] ["row", "reach"] (defScope s__law_lined) := ⟨rfl, rfl, rfl, by decide +kernel, rfl, by decide +kernel, by decide +kernel⟩
def l1__law_lined : XS :=
  (sSeq (sSet 8 (xCall bTuple (xCons (xLc (xIt oR1 (xCons (xC (.int 3)) xNil)) (gSet 10) (tOf (xBin oLe (xCall bAbs (xCons (xBin oSub (xBin oIx (xVar 2) (xVar 10)) (xBin oIx (xBin oIx (xVar 3) (xVar 7)) (xC (.int 0)))) xNil)) (xVar 1))) (xVar 10) [10]) xNil)))
  (sSeq (sIf (tNotP (tTru (xCall (fun ds => if ds.length = 2 then ((d__law_like 8) ds).bind fun d => if flat d then some d else none else none) (xCons (xBin oIx (xVar 6) (xVar 7)) (xCons (xVar 8) xNil))))) (sRet (xC (.bool false))) sNop)
  (sSeq (sIf (tNotP (tTru (xCall (fun ds => if ds.length = 2 then (d__law_like 8) ds else none) (xCons (xBin oIx (xCall (fun ds => if ds.length = 3 then ((d_seen_times) ds).bind fun d => if flat d then some d else none else none) (xCons (xC (.int 60)) (xCons (xVar 5) (xCons (xTup (xCons (xC (.int 0)) (xCons (xC (.int 1)) (xCons (xC (.int 2)) xNil)))) xNil)))) (xBin oAdd (xBin oIx (xBin oIx (xVar 3) (xVar 7)) (xC (.int 0))) (xC (.int 20)))) (xCons (xCall bLen (xCons (xVar 8) xNil)) xNil))))) (sRet (xC (.bool false))) sNop)
  (sSeq (sIf (tNotP (tTru (xCall (fun ds => if ds.length = 2 then (d__law_like 8) ds else none) (xCons (xBin oIx (xCall (fun ds => if ds.length = 3 then ((d_seen_times) ds).bind fun d => if flat d then some d else none else none) (xCons (xC (.int 60)) (xCons (xVar 5) (xCons (xTup (xCons (xVar 7) xNil)) xNil)))) (xBin oAdd (xBin oIx (xBin oIx (xVar 3) (xC (.int 0))) (xC (.int 0))) (xC (.int 20)))) (xCons (xCall bInt (xCons (xBin oIn (xVar 7) (xBin oIx (xVar 6) (xC (.int 0)))) xNil)) xNil))))) (sRet (xC (.bool false))) sNop)
  sNop))))
def g__law_lined : XS :=
  (sSeq (sSet 2 (xLc (xIt oR1 (xCons (xC (.int 3)) xNil)) (gSet 7) tYesP (xBin oMod (xCall bInt (xCons (xBin oIx (xVar 0) (xBin oAdd (xC (.int 50)) (xVar 7))) xNil)) (xC (.int 20))) [7]))
  (sSeq (sSet 3 (xCall bTuple (xCons (xLc (xIt oR1 (xCons (xC (.int 3)) xNil)) (gSet 7) tYesP (xTup (xCons (xBin oMod (xCall bInt (xCons (xBin oIx (xVar 0) (xBin oAdd (xC (.int 53)) (xVar 7))) xNil)) (xC (.int 20))) (xCons (xC (.int 0)) xNil))) [7]) xNil)))
  (sSeq (sSet 4 (xCall bTuple (xCons (xLc (xSeq (xVar 2)) (gSet 9) tYesP (xTup (xCons (xVar 9) (xCons (xC (.int 0)) xNil))) [9]) xNil)))
  (sSeq (sSet 5 (xCall bTuple (xCons (xLc (xSeq (xVar 2)) (gSet 9) tYesP (xTup (xCons (xBin oSub (xBin oAdd (xVar 9) (xC (.int 20))) (xVar 1)) (xCons (xBin oAdd (xBin oMul' (xC (.int 2)) (xVar 1)) (xC (.int 1))) xNil))) [9]) xNil)))
  (sSeq (sSet 6 (xCall (fun ds => if ds.length = 3 then ((d_hose_reach) ds).bind fun d => if flat d then some d else none else none) (xCons (xVar 4) (xCons (xVar 1) (xCons (xVar 3) xNil)))))
  (sSeq (sFor (xIt oR1 (xCons (xC (.int 3)) xNil)) (gSet 7) l1__law_lined)
  (sRet (xC (.bool true)))))))))
def d__law_lined : List D → Option D := runD 2 11 g__law_lined
theorem ok__law_lined {f : Addr} {fd : FuncData} (F : FnP K "_law_lined" s__law_lined f fd) (D_seen_times : Def P w K mg base 2 "seen_times" ["n", "watches", "chosen"] (d_seen_times)) (D_hose_reach : Def P w K mg base 2 "hose_reach" ["places", "reach", "points"] (d_hose_reach)) (D__law_like : Def P w K mg base 10 "_law_like" ["value", "due"] (d__law_like 8)) (b_abs : mg "abs" = none) (b_int : mg "int" = none) (b_len : mg "len" = none) (b_range : mg "range" = none) (b_tuple : mg "tuple" = none) : FnOk P w K mg base CX0 11 f fd ["row", "reach"] (spD K 2 d__law_lined) := by
  have nd := sc__law_lined.nd
  refine fnp_ok (k := 10) (O' := []) F sc__law_lined fun cdv A outer s H E hr => ?_
  exact (by exact ss_cons (by exact ss_setF 2 nd (by exact se_lc nd (by exact si_r1 (st := false) b_range (by exact sa_cons se_int sa_nil)) (blkOk_by (own := [("k", 7)]) rfl) (fun _ _ _ _ _ => (by exact sg_name 7 nd)) (fun _ _ _ _ _ => sts_nil) (fun _ _ _ _ _ => (by exact se_op op_modD (by exact se_callT (st := false) cb_int b_int (by exact sa_cons (by exact se_ix (by exact se_var 0) (by exact se_op op_addD se_int (by exact se_var 7))) sa_nil)) se_int)))) (by exact ss_cons (by exact ss_setF 3 nd (by exact se_callT (st := false) cb_tuple b_tuple (by exact sa_cons (by exact se_lc nd (by exact si_r1 (st := false) b_range (by exact sa_cons se_int sa_nil)) (blkOk_by (own := [("k", 7)]) rfl) (fun _ _ _ _ _ => (by exact sg_name 7 nd)) (fun _ _ _ _ _ => sts_nil) (fun _ _ _ _ _ => (by exact se_tup (by exact sa_cons (by exact se_op op_modD (by exact se_callT (st := false) cb_int b_int (by exact sa_cons (by exact se_ix (by exact se_var 0) (by exact se_op op_addD se_int (by exact se_var 7))) sa_nil)) se_int) (by exact sa_cons se_int sa_nil))))) sa_nil))) (by exact ss_cons (by exact ss_setF 4 nd (by exact se_callT (st := false) cb_tuple b_tuple (by exact sa_cons (by exact se_lc nd (by exact si_seq (m := .w) (by exact se_varW 2)) (blkOk_by (own := [("spot", 9)]) rfl) (fun _ _ _ _ _ => (by exact sg_name 9 nd)) (fun _ _ _ _ _ => sts_nil) (fun _ _ _ _ _ => (by exact se_tup (by exact sa_cons (by exact se_var 9) (by exact sa_cons se_int sa_nil))))) sa_nil))) (by exact ss_cons (by exact ss_setF 5 nd (by exact se_callT (st := false) cb_tuple b_tuple (by exact sa_cons (by exact se_lc nd (by exact si_seq (m := .w) (by exact se_varW 2)) (blkOk_by (own := [("spot", 9)]) rfl) (fun _ _ _ _ _ => (by exact sg_name 9 nd)) (fun _ _ _ _ _ => sts_nil) (fun _ _ _ _ _ => (by exact se_tup (by exact sa_cons (by exact se_op op_subD (by exact se_op op_addD (by exact se_var 9) se_int) (by exact se_var 1)) (by exact sa_cons (by exact se_op op_addD (by exact se_op op_mulD' se_int (by exact se_var 1)) se_int) sa_nil))))) sa_nil))) (by exact ss_cons (by exact ss_setF 6 nd (by exact se_callWD D_hose_reach hr (by exact sa_cons (by exact se_varW 4) (by exact sa_cons (by exact se_var 1) (by exact sa_cons (by exact se_varW 3) sa_nil))))) (by exact ss_cons (by exact ss_for (O' := [6, 5, 4, 3, 2]) (by exact si_r1 (st := false) b_range (by exact sa_cons se_int sa_nil)) (by exact sg_name 7 nd) (by exact ss_cons (by exact ss_setF 8 nd (by exact se_callT (st := false) cb_tuple b_tuple (by exact sa_cons (by exact se_lc nd (by exact si_r1 (st := false) b_range (by exact sa_cons se_int sa_nil)) (blkOk_by (own := [("p", 10)]) rfl) (fun _ _ _ _ _ => (by exact sg_name 10 nd)) (fun _ _ _ _ _ => (by exact sts_one (by exact st_cmp op_leD (by exact se_callB (st := false) cb_abs b_abs (by exact sa_cons (by exact se_op op_subD (by exact se_ix (by exact se_varW 2) (by exact se_var 10)) (by exact se_ix (by exact se_ix (by exact se_varW 3) (by exact se_var 7)) se_int)) sa_nil)) (by exact se_var 1)))) (fun _ _ _ _ _ => (by exact se_var 10))) sa_nil))) (by exact ss_cons (by exact ss_if (O' := [8, 6, 5, 4, 3, 2]) (by exact st_not (by exact st_val (by exact se_callWD D__law_like hr (by exact sa_cons (by exact se_ix (by exact se_varW 6) (by exact se_var 7)) (by exact sa_cons (by exact se_varW 8) sa_nil))))) (by exact ss_last (by exact ss_ret se_bl)) ss_nil) (by exact ss_cons (by exact ss_if (O' := [8, 6, 5, 4, 3, 2]) (by exact st_not (by exact st_val (by exact se_callD D__law_like hr (by exact sa_cons (by exact se_ix (by exact se_callWD D_seen_times hr (by exact sa_cons se_int (by exact sa_cons (by exact se_varW 5) (by exact sa_cons (by exact se_tup (by exact sa_cons se_int (by exact sa_cons se_int (by exact sa_cons se_int sa_nil)))) sa_nil)))) (by exact se_op op_addD (by exact se_ix (by exact se_ix (by exact se_varW 3) (by exact se_var 7)) se_int) se_int)) (by exact sa_cons (by exact se_callB (st := false) cb_len b_len (by exact sa_cons (by exact se_varW 8) sa_nil)) sa_nil))))) (by exact ss_last (by exact ss_ret se_bl)) ss_nil) (by exact ss_cons (by exact ss_if (O' := [8, 6, 5, 4, 3, 2]) (by exact st_not (by exact st_val (by exact se_callD D__law_like hr (by exact sa_cons (by exact se_ix (by exact se_callWD D_seen_times hr (by exact sa_cons se_int (by exact sa_cons (by exact se_varW 5) (by exact sa_cons (by exact se_tup (by exact sa_cons (by exact se_var 7) sa_nil)) sa_nil)))) (by exact se_op op_addD (by exact se_ix (by exact se_ix (by exact se_varW 3) se_int) se_int) se_int)) (by exact sa_cons (by exact se_callT (st := false) cb_int b_int (by exact sa_cons (by exact se_cmp (op_inP hr) (by exact se_var 7) (by exact se_ix (by exact se_varW 6) se_int)) sa_nil)) sa_nil))))) (by exact ss_last (by exact ss_ret se_bl)) ss_nil) ss_nil))))) (by exact ss_last (by exact ss_ret se_bl))))))))
/-! ### _law_boxed -/
abbrev s__law_boxed : Stmt := topS 36
theorem sc__law_boxed : FnScope ["points", "box", "x", "far", "total", "y", "best", "middle", "ways", "point"] ["points", "box"] (defScope s__law_boxed) := ⟨rfl, rfl, rfl, by decide +kernel, rfl, by decide +kernel, by decide +kernel⟩
def l1__law_boxed : XS :=
  (sSeq (sSet 8 (xLc (xSeq (xVar 0)) (gSet 9) tYesP (xCall (fun ds => if ds.length = 2 then (d__law_way) ds else none) (xCons (xTup (xCons (xVar 2) (xCons (xVar 5) xNil))) (xCons (xVar 9) xNil))) [9]))
  (sSeq (sApp 3 (xTup (xCons (xCall bMaxD (xCons (xVar 8) xNil)) (xCons (xTup (xCons (xVar 2) (xCons (xVar 5) xNil))) xNil))))
  (sSeq (sApp 4 (xTup (xCons (xCall bSum (xCons (xVar 8) xNil)) (xCons (xTup (xCons (xVar 2) (xCons (xVar 5) xNil))) xNil))))
  sNop)))
def l2__law_boxed : XS :=
  (sSeq (sFor (xIt oR2 (xCons (xBin oIx (xVar 1) (xC (.int 1))) (xCons (xBin oAdd (xBin oIx (xVar 1) (xC (.int 3))) (xC (.int 1))) xNil))) (gSet 5) l1__law_boxed)
  sNop)
def g__law_boxed : XS :=
  (sSeq (sPar [3, 4] (xCons (xLst xNil) (xCons (xLst xNil) xNil)))
  (sSeq (sFor (xIt oR2 (xCons (xBin oIx (xVar 1) (xC (.int 0))) (xCons (xBin oAdd (xBin oIx (xVar 1) (xC (.int 2))) (xC (.int 1))) xNil))) (gSet 2) l2__law_boxed)
  (sSeq (sPar [6, 7] (xCons (xCall bMinD (xCons (xVar 3) xNil)) (xCons (xCall bMinD (xCons (xVar 4) xNil)) xNil)))
  (sSeq (sIf (tNotP (tTru (xCall (fun ds => if ds.length = 2 then (d__law_like 8) ds else none) (xCons (xCall (fun ds => if ds.length = 2 then (d_best_place) ds else none) (xCons (xVar 1) (xCons (xVar 0) xNil))) (xCons (xTup (xCons (xBin oIx (xVar 6) (xC (.int 1))) (xCons (xBin oIx (xVar 6) (xC (.int 0))) xNil))) xNil))))) (sRet (xC (.bool false))) sNop)
  (sSeq (sIf (tNotP (tTru (xCall (fun ds => if ds.length = 2 then (d__law_like 8) ds else none) (xCons (xCall (fun ds => if ds.length = 2 then (d_middle_place) ds else none) (xCons (xVar 1) (xCons (xVar 0) xNil))) (xCons (xTup (xCons (xBin oIx (xVar 7) (xC (.int 1))) (xCons (xBin oIx (xVar 7) (xC (.int 0))) xNil))) xNil))))) (sRet (xC (.bool false))) sNop)
  (sRet (xCall (fun ds => if ds.length = 2 then (d__law_like 8) ds else none) (xCons (xCall (fun ds => if ds.length = 3 then (d_reach_needed) ds else none) (xCons (xTup (xCons (xBin oIx (xVar 6) (xC (.int 1))) xNil)) (xCons (xC (.int 1)) (xCons (xVar 0) xNil)))) (xCons (xTup (xCons (xBin oIx (xVar 6) (xC (.int 0))) (xCons (xTup (xCons (xC (.int 0)) xNil)) xNil))) xNil)))))))))
def d__law_boxed : List D → Option D := runD 2 10 g__law_boxed
theorem ok__law_boxed {f : Addr} {fd : FuncData} (F : FnP K "_law_boxed" s__law_boxed f fd) (D_reach_needed : Def P w K mg base 2 "reach_needed" ["places", "n", "points"] (d_reach_needed)) (D_best_place : Def P w K mg base 2 "best_place" ["box", "points"] (d_best_place)) (D_middle_place : Def P w K mg base 2 "middle_place" ["box", "points"] (d_middle_place)) (D__law_like : Def P w K mg base 10 "_law_like" ["value", "due"] (d__law_like 8)) (D__law_way : Def P w K mg base 1 "_law_way" ["one", "other"] (d__law_way)) (b_max : mg "max" = none) (b_min : mg "min" = none) (b_range : mg "range" = none) (b_sum : mg "sum" = none) : FnOk P w K mg base CX0 11 f fd ["points", "box"] (spD K 2 d__law_boxed) := by
  have nd := sc__law_boxed.nd
  refine fnp_ok (k := 10) (O' := []) F sc__law_boxed fun cdv A outer s H E hr => ?_
  exact (by exact ss_cons (by exact ss_par 3 4 nd (by exact sam_cons (by exact se_lst sa_nil) (by exact sam_cons (by exact se_lst sa_nil) sam_nil))) (by exact ss_cons (by exact ss_for (O' := [4, 3]) (by exact si_r2 (st := false) b_range (by exact sa_cons (by exact se_ix (by exact se_var 1) se_int) (by exact sa_cons (by exact se_op op_addD (by exact se_ix (by exact se_var 1) se_int) se_int) sa_nil))) (by exact sg_name 2 nd) (by exact ss_cons (by exact ss_for (O' := [4, 3]) (by exact si_r2 (st := false) b_range (by exact sa_cons (by exact se_ix (by exact se_var 1) se_int) (by exact sa_cons (by exact se_op op_addD (by exact se_ix (by exact se_var 1) se_int) se_int) sa_nil))) (by exact sg_name 5 nd) (by exact ss_cons (by exact ss_setLc 8 nd (by exact si_seq (m := .s) (by exact se_var 0)) (blkOk_by (own := [("point", 9)]) rfl) (fun _ _ _ _ _ => (by exact sg_name 9 nd)) (fun _ _ _ _ _ => sts_nil) (fun _ _ _ _ _ => (by exact se_callD D__law_way hr (by exact sa_cons (by exact se_tup (by exact sa_cons (by exact se_var 2) (by exact sa_cons (by exact se_var 5) sa_nil))) (by exact sa_cons (by exact se_var 9) sa_nil))))) (by exact ss_cons (by exact ss_app 3 (by exact se_tup (by exact sa_cons (by exact se_callB (st := false) (cb_maxD (hu65 hr)) b_max (by exact sa_cons (by exact se_varW 8) sa_nil)) (by exact sa_cons (by exact se_tup (by exact sa_cons (by exact se_var 2) (by exact sa_cons (by exact se_var 5) sa_nil))) sa_nil)))) (by exact ss_cons (by exact ss_app 4 (by exact se_tup (by exact sa_cons (by exact se_callB (st := false) cb_sum b_sum (by exact sa_cons (by exact se_varW 8) sa_nil)) (by exact sa_cons (by exact se_tup (by exact sa_cons (by exact se_var 2) (by exact sa_cons (by exact se_var 5) sa_nil))) sa_nil)))) ss_nil)))) ss_nil)) (by exact ss_cons (by exact ss_par 6 7 nd (by exact sam_cons (by exact se_callB (st := false) (cb_minD (hu65 hr)) b_min (by exact sa_cons (by exact se_varW 3) sa_nil)) (by exact sam_cons (by exact se_callB (st := false) (cb_minD (hu65 hr)) b_min (by exact sa_cons (by exact se_varW 4) sa_nil)) sam_nil))) (by exact ss_cons (by exact ss_if (O' := [4, 3]) (by exact st_not (by exact st_val (by exact se_callD D__law_like hr (by exact sa_cons (by exact se_callD D_best_place hr (by exact sa_cons (by exact se_var 1) (by exact sa_cons (by exact se_var 0) sa_nil))) (by exact sa_cons (by exact se_tup (by exact sa_cons (by exact se_ix (by exact se_var 6) se_int) (by exact sa_cons (by exact se_ix (by exact se_var 6) se_int) sa_nil))) sa_nil))))) (by exact ss_last (by exact ss_ret se_bl)) ss_nil) (by exact ss_cons (by exact ss_if (O' := [4, 3]) (by exact st_not (by exact st_val (by exact se_callD D__law_like hr (by exact sa_cons (by exact se_callD D_middle_place hr (by exact sa_cons (by exact se_var 1) (by exact sa_cons (by exact se_var 0) sa_nil))) (by exact sa_cons (by exact se_tup (by exact sa_cons (by exact se_ix (by exact se_var 7) se_int) (by exact sa_cons (by exact se_ix (by exact se_var 7) se_int) sa_nil))) sa_nil))))) (by exact ss_last (by exact ss_ret se_bl)) ss_nil) (by exact ss_last (by exact ss_ret (by exact se_callD D__law_like hr (by exact sa_cons (by exact se_callD D_reach_needed hr (by exact sa_cons (by exact se_tup (by exact sa_cons (by exact se_ix (by exact se_var 6) se_int) sa_nil)) (by exact sa_cons se_int (by exact sa_cons (by exact se_var 0) sa_nil)))) (by exact sa_cons (by exact se_tup (by exact sa_cons (by exact se_ix (by exact se_var 6) se_int) (by exact sa_cons (by exact se_tup (by exact sa_cons se_int sa_nil)) sa_nil))) sa_nil))))))))))
/-! ### law -/
abbrev s_law : Stmt := topS 37
theorem sc_law : FnScope ["script", "row", "k", "watches", "chosen", "places", "points", "box", "n", "length", "reach", "many"] ["script"] (defScope s_law) := ⟨rfl, rfl, rfl, by decide +kernel, rfl, by decide +kernel, by decide +kernel⟩
def l1_law : XS :=
  (sSeq (sSet 9 (xBin oAdd (xC (.int 1)) (xBin oMod (xCall bInt (xCons (xBin oIx (xVar 1) (xBin oAdd (xC (.int 7)) (xVar 2))) xNil)) (xBin oFdiv (xBin oAdd (xVar 8) (xC (.int 3))) (xC (.int 2))))))
  (sSeq (sIf (tOf (xBin oEq (xBin oMod (xCall bInt (xCons (xBin oIx (xVar 1) (xBin oAdd (xC (.int 12)) (xVar 2))) xNil)) (xC (.int 7))) (xC (.int 0)))) (sSeq (sSet 9 (xBin oAdd (xBin oSub (xVar 8) (xC (.int 1))) (xBin oMod (xBin oFdiv (xCall bInt (xCons (xBin oIx (xVar 1) (xBin oAdd (xC (.int 12)) (xVar 2))) xNil)) (xC (.int 7))) (xC (.int 4)))))
  sNop) sNop)
  (sSeq (sApp 3 (xTup (xCons (xBin oMod (xCall bInt (xCons (xBin oIx (xVar 1) (xBin oAdd (xC (.int 2)) (xVar 2))) xNil)) (xVar 8)) (xCons (xVar 9) xNil))))
  sNop)))
def g_law : XS :=
  (sSeq (sSet 1 (xCall (fun ds => if ds.length = 2 then (d__law_row) ds else none) (xCons (xVar 0) (xCons (xC (.int 62)) xNil))))
  (sSeq (sPar [8, 3] (xCons (xBin oAdd (xC (.int 3)) (xBin oMod (xCall bInt (xCons (xBin oIx (xVar 1) (xC (.int 0))) xNil)) (xC (.int 6)))) (xCons (xLst xNil) xNil)))
  (sSeq (sFor (xIt oR1 (xCons (xBin oAdd (xC (.int 2)) (xBin oMod (xCall bInt (xCons (xBin oIx (xVar 1) (xC (.int 1))) xNil)) (xC (.int 4)))) xNil)) (gSet 2) l1_law)
  (sSeq (sSet 3 (xCall bTuple (xCons (xVar 3) xNil)))
  (sSeq (sSet 4 (xCall bTuple (xCons (xLc (xIt oR1 (xCons (xCall bLen (xCons (xVar 3) xNil)) xNil)) (gSet 2) (tOf (xBin oGt (xBin oMod (xCall bInt (xCons (xBin oIx (xVar 1) (xBin oAdd (xC (.int 17)) (xVar 2))) xNil)) (xC (.int 3))) (xC (.int 0)))) (xVar 2) [2]) xNil)))
  (sSeq (sIf (tNotP (tTru (xCall (fun ds => if ds.length = 3 then ((d__law_watched) ds).bind fun d => if flat d then some d else none else none) (xCons (xVar 8) (xCons (xVar 3) (xCons (xVar 4) xNil)))))) (sRet (xC (.bool false))) sNop)
  (sSeq (sSet 5 (xCall bTuple (xCons (xLc (xIt oR1 (xCons (xBin oAdd (xC (.int 3)) (xBin oMod (xCall bInt (xCons (xBin oIx (xVar 1) (xC (.int 32))) xNil)) (xC (.int 3)))) xNil)) (gSet 2) tYesP (xTup (xCons (xBin oMod (xCall bInt (xCons (xBin oIx (xVar 1) (xBin oAdd (xC (.int 22)) (xVar 2))) xNil)) (xC (.int 7))) (xCons (xBin oMod (xCall bInt (xCons (xBin oIx (xVar 1) (xBin oAdd (xC (.int 27)) (xVar 2))) xNil)) (xC (.int 7))) xNil))) [2]) xNil)))
  (sSeq (sSet 6 (xCall bTuple (xCons (xLc (xIt oR1 (xCons (xBin oAdd (xC (.int 2)) (xBin oMod (xCall bInt (xCons (xBin oIx (xVar 1) (xC (.int 41))) xNil)) (xC (.int 3)))) xNil)) (gSet 2) tYesP (xTup (xCons (xBin oMod (xCall bInt (xCons (xBin oIx (xVar 1) (xBin oAdd (xC (.int 33)) (xVar 2))) xNil)) (xC (.int 7))) (xCons (xBin oMod (xCall bInt (xCons (xBin oIx (xVar 1) (xBin oAdd (xC (.int 37)) (xVar 2))) xNil)) (xC (.int 7))) xNil))) [2]) xNil)))
  (sSeq (sPar [10, 11] (xCons (xBin oAdd (xC (.int 1)) (xBin oMod (xCall bInt (xCons (xBin oIx (xVar 1) (xC (.int 42))) xNil)) (xC (.int 7)))) (xCons (xBin oAdd (xC (.int 1)) (xBin oMod (xCall bInt (xCons (xBin oIx (xVar 1) (xC (.int 43))) xNil)) (xC (.int 3)))) xNil)))
  (sSeq (sSet 7 (xTup (xCons (xBin oMod (xCall bInt (xCons (xBin oIx (xVar 1) (xC (.int 44))) xNil)) (xC (.int 4))) (xCons (xBin oMod (xCall bInt (xCons (xBin oIx (xVar 1) (xC (.int 45))) xNil)) (xC (.int 4))) (xCons (xBin oAdd (xBin oMod (xCall bInt (xCons (xBin oIx (xVar 1) (xC (.int 44))) xNil)) (xC (.int 4))) (xBin oMod (xCall bInt (xCons (xBin oIx (xVar 1) (xC (.int 46))) xNil)) (xC (.int 4)))) (xCons (xBin oAdd (xBin oMod (xCall bInt (xCons (xBin oIx (xVar 1) (xC (.int 45))) xNil)) (xC (.int 4))) (xBin oMod (xCall bInt (xCons (xBin oIx (xVar 1) (xC (.int 47))) xNil)) (xC (.int 4)))) xNil))))))
  (sSeq (sIf (tOrP (tNotP (tTru (xCall (fun ds => if ds.length = 4 then ((d__law_hoses) ds).bind fun d => if flat d then some d else none else none) (xCons (xVar 5) (xCons (xVar 6) (xCons (xVar 10) (xCons (xVar 11) xNil))))))) (tNotP (tTru (xCall (fun ds => if ds.length = 2 then (d__law_lined) ds else none) (xCons (xVar 1) (xCons (xBin oMod (xCall bInt (xCons (xBin oIx (xVar 1) (xC (.int 48))) xNil)) (xC (.int 9))) xNil)))))) (sRet (xC (.bool false))) sNop)
  (sRet (xCall (fun ds => if ds.length = 2 then ((d__law_boxed) ds).bind fun d => if flat d then some d else none else none) (xCons (xVar 6) (xCons (xVar 7) xNil)))))))))))))))
def d_law : List D → Option D := runD 1 12 g_law
theorem ok_law {f : Addr} {fd : FuncData} (F : FnP K "law" s_law f fd) (D__law_row : Def P w K mg base 2 "_law_row" ["script", "many"] (d__law_row)) (D__law_watched : Def P w K mg base 11 "_law_watched" ["n", "watches", "chosen"] (d__law_watched)) (D__law_hoses : Def P w K mg base 11 "_law_hoses" ["places", "points", "reach", "many"] (d__law_hoses)) (D__law_lined : Def P w K mg base 11 "_law_lined" ["row", "reach"] (d__law_lined)) (D__law_boxed : Def P w K mg base 11 "_law_boxed" ["points", "box"] (d__law_boxed)) (b_int : mg "int" = none) (b_len : mg "len" = none) (b_range : mg "range" = none) (b_tuple : mg "tuple" = none) : FnOk P w K mg base CX0 12 f fd ["script"] (spD K 1 d_law) := by
  have nd := sc_law.nd
  refine fnp_ok (k := 11) (O' := []) F sc_law fun cdv A outer s H E hr => ?_
  exact (by exact ss_cons (by exact ss_setS 1 nd (by exact se_callD D__law_row hr (by exact sa_cons (by exact se_var 0) (by exact sa_cons se_int sa_nil)))) (by exact ss_cons (by exact ss_par 8 3 nd (by exact sam_cons (by exact se_op op_addD se_int (by exact se_op op_modD (by exact se_callT (st := false) cb_int b_int (by exact sa_cons (by exact se_ix (by exact se_var 1) se_int) sa_nil)) se_int)) (by exact sam_cons (by exact se_lst sa_nil) sam_nil))) (by exact ss_cons (by exact ss_for (O' := [3, 8]) (by exact si_r1 (st := false) b_range (by exact sa_cons (by exact se_op op_addD se_int (by exact se_op op_modD (by exact se_callT (st := false) cb_int b_int (by exact sa_cons (by exact se_ix (by exact se_var 1) se_int) sa_nil)) se_int)) sa_nil)) (by exact sg_name 2 nd) (by exact ss_cons (by exact ss_setF 9 nd (by exact se_op op_addD se_int (by exact se_op op_modD (by exact se_callT (st := false) cb_int b_int (by exact sa_cons (by exact se_ix (by exact se_var 1) (by exact se_op op_addD se_int (by exact se_var 2))) sa_nil)) (by exact se_op op_fdivD (by exact se_op op_addD (by exact se_varW 8) se_int) se_int)))) (by exact ss_cons (by exact ss_if (O' := [9, 9, 3, 8]) (by exact st_cmp (op_eqP hr) (by exact se_op op_modD (by exact se_callT (st := false) cb_int b_int (by exact sa_cons (by exact se_ix (by exact se_var 1) (by exact se_op op_addD se_int (by exact se_var 2))) sa_nil)) se_int) se_int) (by exact ss_cons (by exact ss_setF 9 nd (by exact se_op op_addD (by exact se_op op_subD (by exact se_varW 8) se_int) (by exact se_op op_modD (by exact se_op op_fdivD (by exact se_callT (st := false) cb_int b_int (by exact sa_cons (by exact se_ix (by exact se_var 1) (by exact se_op op_addD se_int (by exact se_var 2))) sa_nil)) se_int) se_int))) ss_nil) ss_nil) (by exact ss_cons (by exact SS.weak (O1 := [3, 8]) (by exact ss_app 3 (by exact se_tup (by exact sa_cons (by exact se_op op_modD (by exact se_callT (st := false) cb_int b_int (by exact sa_cons (by exact se_ix (by exact se_var 1) (by exact se_op op_addD se_int (by exact se_var 2))) sa_nil)) (by exact se_varW 8)) (by exact sa_cons (by exact se_var 9) sa_nil))))) ss_nil)))) (by exact ss_cons (by exact ss_setF 3 nd (by exact se_callT (st := false) cb_tuple b_tuple (by exact sa_cons (by exact se_varW 3) sa_nil))) (by exact ss_cons (by exact ss_setF 4 nd (by exact se_callT (st := false) cb_tuple b_tuple (by exact sa_cons (by exact se_lc nd (by exact si_r1 (st := false) b_range (by exact sa_cons (by exact se_callB (st := false) cb_len b_len (by exact sa_cons (by exact se_varW 3) sa_nil)) sa_nil)) (blkOk_by (own := [("k", 2)]) rfl) (fun _ _ _ _ _ => (by exact sg_name 2 nd)) (fun _ _ _ _ _ => (by exact sts_one (by exact st_cmp op_gtD (by exact se_op op_modD (by exact se_callT (st := false) cb_int b_int (by exact sa_cons (by exact se_ix (by exact se_var 1) (by exact se_op op_addD se_int (by exact se_var 2))) sa_nil)) se_int) se_int))) (fun _ _ _ _ _ => (by exact se_var 2))) sa_nil))) (by exact ss_cons (by exact ss_if (O' := [4, 3, 3, 8]) (by exact st_not (by exact st_val (by exact se_callWD D__law_watched hr (by exact sa_cons (by exact se_varW 8) (by exact sa_cons (by exact se_varW 3) (by exact sa_cons (by exact se_varW 4) sa_nil)))))) (by exact ss_last (by exact ss_ret se_bl)) ss_nil) (by exact ss_cons (by exact ss_setF 5 nd (by exact se_callT (st := false) cb_tuple b_tuple (by exact sa_cons (by exact se_lc nd (by exact si_r1 (st := false) b_range (by exact sa_cons (by exact se_op op_addD se_int (by exact se_op op_modD (by exact se_callT (st := false) cb_int b_int (by exact sa_cons (by exact se_ix (by exact se_var 1) se_int) sa_nil)) se_int)) sa_nil)) (blkOk_by (own := [("k", 2)]) rfl) (fun _ _ _ _ _ => (by exact sg_name 2 nd)) (fun _ _ _ _ _ => sts_nil) (fun _ _ _ _ _ => (by exact se_tup (by exact sa_cons (by exact se_op op_modD (by exact se_callT (st := false) cb_int b_int (by exact sa_cons (by exact se_ix (by exact se_var 1) (by exact se_op op_addD se_int (by exact se_var 2))) sa_nil)) se_int) (by exact sa_cons (by exact se_op op_modD (by exact se_callT (st := false) cb_int b_int (by exact sa_cons (by exact se_ix (by exact se_var 1) (by exact se_op op_addD se_int (by exact se_var 2))) sa_nil)) se_int) sa_nil))))) sa_nil))) (by exact ss_cons (by exact ss_setF 6 nd (by exact se_callT (st := false) cb_tuple b_tuple (by exact sa_cons (by exact se_lc nd (by exact si_r1 (st := false) b_range (by exact sa_cons (by exact se_op op_addD se_int (by exact se_op op_modD (by exact se_callT (st := false) cb_int b_int (by exact sa_cons (by exact se_ix (by exact se_var 1) se_int) sa_nil)) se_int)) sa_nil)) (blkOk_by (own := [("k", 2)]) rfl) (fun _ _ _ _ _ => (by exact sg_name 2 nd)) (fun _ _ _ _ _ => sts_nil) (fun _ _ _ _ _ => (by exact se_tup (by exact sa_cons (by exact se_op op_modD (by exact se_callT (st := false) cb_int b_int (by exact sa_cons (by exact se_ix (by exact se_var 1) (by exact se_op op_addD se_int (by exact se_var 2))) sa_nil)) se_int) (by exact sa_cons (by exact se_op op_modD (by exact se_callT (st := false) cb_int b_int (by exact sa_cons (by exact se_ix (by exact se_var 1) (by exact se_op op_addD se_int (by exact se_var 2))) sa_nil)) se_int) sa_nil))))) sa_nil))) (by exact ss_cons (by exact ss_par 10 11 nd (by exact sam_cons (by exact se_op op_addD se_int (by exact se_op op_modD (by exact se_callT (st := false) cb_int b_int (by exact sa_cons (by exact se_ix (by exact se_var 1) se_int) sa_nil)) se_int)) (by exact sam_cons (by exact se_op op_addD se_int (by exact se_op op_modD (by exact se_callT (st := false) cb_int b_int (by exact sa_cons (by exact se_ix (by exact se_var 1) se_int) sa_nil)) se_int)) sam_nil))) (by exact ss_cons (by exact ss_setF 7 nd (by exact se_tup (by exact sa_cons (by exact se_op op_modD (by exact se_callT (st := false) cb_int b_int (by exact sa_cons (by exact se_ix (by exact se_var 1) se_int) sa_nil)) se_int) (by exact sa_cons (by exact se_op op_modD (by exact se_callT (st := false) cb_int b_int (by exact sa_cons (by exact se_ix (by exact se_var 1) se_int) sa_nil)) se_int) (by exact sa_cons (by exact se_op op_addD (by exact se_op op_modD (by exact se_callT (st := false) cb_int b_int (by exact sa_cons (by exact se_ix (by exact se_var 1) se_int) sa_nil)) se_int) (by exact se_op op_modD (by exact se_callT (st := false) cb_int b_int (by exact sa_cons (by exact se_ix (by exact se_var 1) se_int) sa_nil)) se_int)) (by exact sa_cons (by exact se_op op_addD (by exact se_op op_modD (by exact se_callT (st := false) cb_int b_int (by exact sa_cons (by exact se_ix (by exact se_var 1) se_int) sa_nil)) se_int) (by exact se_op op_modD (by exact se_callT (st := false) cb_int b_int (by exact sa_cons (by exact se_ix (by exact se_var 1) se_int) sa_nil)) se_int)) sa_nil)))))) (by exact ss_cons (by exact ss_if (O' := [7, 11, 10, 6, 5, 4, 3, 3, 8]) (by exact SW.st (by exact sw_or (by exact st_not (by exact st_val (by exact se_callWD D__law_hoses hr (by exact sa_cons (by exact se_varW 5) (by exact sa_cons (by exact se_varW 6) (by exact sa_cons (by exact se_varW 10) (by exact sa_cons (by exact se_varW 11) sa_nil))))))) (by exact sw_or1 (by exact st_not (by exact st_val (by exact se_callD D__law_lined hr (by exact sa_cons (by exact se_var 1) (by exact sa_cons (by exact se_op op_modD (by exact se_callT (st := false) cb_int b_int (by exact sa_cons (by exact se_ix (by exact se_var 1) se_int) sa_nil)) se_int) sa_nil)))))))) (by exact ss_last (by exact ss_ret se_bl)) ss_nil) (by exact ss_last (by exact ss_ret (by exact se_callWD D__law_boxed hr (by exact sa_cons (by exact se_varW 6) (by exact sa_cons (by exact se_varW 7) sa_nil))))))))))))))))
end
/-! ### the head -/
def h_all_sets : He.DefD := ⟨("all_sets", none), "all_sets", "all_sets", defArgs s_all_sets, defBody s_all_sets, defScope s_all_sets, [], []⟩
def h_size_key : He.DefD := ⟨("size_key", none), "size_key", "size_key", defArgs s_size_key, defBody s_size_key, defScope s_size_key, [], []⟩
def h_sees_of : He.DefD := ⟨("sees_of", none), "sees_of", "sees_of", defArgs s_sees_of, defBody s_sees_of, defScope s_sees_of, [], []⟩
def h_seen_times : He.DefD := ⟨("seen_times", none), "seen_times", "seen_times", defArgs s_seen_times, defBody s_seen_times, defScope s_seen_times, [], []⟩
def h_seen_by_all : He.DefD := ⟨("seen_by_all", none), "seen_by_all", "seen_by_all", defArgs s_seen_by_all, defBody s_seen_by_all, defScope s_seen_by_all, [], []⟩
def h_watch_gaps : He.DefD := ⟨("watch_gaps", none), "watch_gaps", "watch_gaps", defArgs s_watch_gaps, defBody s_watch_gaps, defScope s_watch_gaps, [], []⟩
def h_watches_least : He.DefD := ⟨("watches_least", none), "watches_least", "watches_least", defArgs s_watches_least, defBody s_watches_least, defScope s_watches_least, [], []⟩
def h_goes_on : He.DefD := ⟨("goes_on", none), "goes_on", "goes_on", defArgs s_goes_on, defBody s_goes_on, defScope s_goes_on, [], []⟩
def h_watches_greedy : He.DefD := ⟨("watches_greedy", none), "watches_greedy", "watches_greedy", defArgs s_watches_greedy, defBody s_watches_greedy, defScope s_watches_greedy, [], []⟩
def h_never_blind : He.DefD := ⟨("never_blind", none), "never_blind", "never_blind", defArgs s_never_blind, defBody s_never_blind, defScope s_never_blind, [], []⟩
def h_way_of : He.DefD := ⟨("way_of", none), "way_of", "way_of", defArgs s_way_of, defBody s_way_of, defScope s_way_of, [], []⟩
def h_hose_reach : He.DefD := ⟨("hose_reach", none), "hose_reach", "hose_reach", defArgs s_hose_reach, defBody s_hose_reach, defScope s_hose_reach, [], []⟩
def h_hoses_least : He.DefD := ⟨("hoses_least", none), "hoses_least", "hoses_least", defArgs s_hoses_least, defBody s_hoses_least, defScope s_hoses_least, [], []⟩
def h_reach_needed : He.DefD := ⟨("reach_needed", none), "reach_needed", "reach_needed", defArgs s_reach_needed, defBody s_reach_needed, defScope s_reach_needed, [], []⟩
def h_box_places : He.DefD := ⟨("box_places", none), "box_places", "box_places", defArgs s_box_places, defBody s_box_places, defScope s_box_places, [], []⟩
def h_best_place : He.DefD := ⟨("best_place", none), "best_place", "best_place", defArgs s_best_place, defBody s_best_place, defScope s_best_place, [], []⟩
def h_middle_place : He.DefD := ⟨("middle_place", none), "middle_place", "middle_place", defArgs s_middle_place, defBody s_middle_place, defScope s_middle_place, [], []⟩
def h_struck_at : He.DefD := ⟨("struck_at", none), "struck_at", "struck_at", defArgs s_struck_at, defBody s_struck_at, defScope s_struck_at, [], []⟩
def h_struck_in : He.DefD := ⟨("struck_in", none), "struck_in", "struck_in", defArgs s_struck_in, defBody s_struck_in, defScope s_struck_in, [], []⟩
def h__law_mixed : He.DefD := ⟨("_law_mixed", none), "_law_mixed", "_law_mixed", defArgs s__law_mixed, defBody s__law_mixed, defScope s__law_mixed, [], []⟩
def h__law_row : He.DefD := ⟨("_law_row", none), "_law_row", "_law_row", defArgs s__law_row, defBody s__law_row, defScope s__law_row, [], []⟩
def h__law_is_int : He.DefD := ⟨("_law_is_int", none), "_law_is_int", "_law_is_int", defArgs s__law_is_int, defBody s__law_is_int, defScope s__law_is_int, [], []⟩
def h__law_like : He.DefD := ⟨("_law_like", none), "_law_like", "_law_like", defArgs s__law_like, defBody s__law_like, defScope s__law_like, [], []⟩
def h__law_sets : He.DefD := ⟨("_law_sets", none), "_law_sets", "_law_sets", defArgs s__law_sets, defBody s__law_sets, defScope s__law_sets, [], []⟩
def h__law_sees : He.DefD := ⟨("_law_sees", none), "_law_sees", "_law_sees", defArgs s__law_sees, defBody s__law_sees, defScope s__law_sees, [], []⟩
def h__law_least_set : He.DefD := ⟨("_law_least_set", none), "_law_least_set", "_law_least_set", defArgs s__law_least_set, defBody s__law_least_set, defScope s__law_least_set, [], []⟩
def h__law_counts : He.DefD := ⟨("_law_counts", none), "_law_counts", "_law_counts", defArgs s__law_counts, defBody s__law_counts, defScope s__law_counts, [], []⟩
def h__law_watched : He.DefD := ⟨("_law_watched", none), "_law_watched", "_law_watched", defArgs s__law_watched, defBody s__law_watched, defScope s__law_watched, [], []⟩
def h__law_way : He.DefD := ⟨("_law_way", none), "_law_way", "_law_way", defArgs s__law_way, defBody s__law_way, defScope s__law_way, [], []⟩
def h__law_hosed : He.DefD := ⟨("_law_hosed", none), "_law_hosed", "_law_hosed", defArgs s__law_hosed, defBody s__law_hosed, defScope s__law_hosed, [], []⟩
def h__law_hoses : He.DefD := ⟨("_law_hoses", none), "_law_hoses", "_law_hoses", defArgs s__law_hoses, defBody s__law_hoses, defScope s__law_hoses, [], []⟩
def h__law_lined : He.DefD := ⟨("_law_lined", none), "_law_lined", "_law_lined", defArgs s__law_lined, defBody s__law_lined, defScope s__law_lined, [], []⟩
def h__law_boxed : He.DefD := ⟨("_law_boxed", none), "_law_boxed", "_law_boxed", defArgs s__law_boxed, defBody s__law_boxed, defScope s__law_boxed, [], []⟩
def h_law : He.DefD := ⟨("law", none), "law", "law", defArgs s_law, defBody s_law, defScope s_law, [], []⟩
def fn0 : List He.DefD := [h_all_sets, h_size_key, h_sees_of, h_seen_times, h_seen_by_all, h_watch_gaps, h_watches_least, h_goes_on, h_watches_greedy, h_never_blind, h_way_of, h_hose_reach, h_hoses_least, h_reach_needed, h_box_places, h_best_place, h_middle_place, h_struck_at, h_struck_in, h__law_mixed, h__law_row, h__law_is_int, h__law_like, h__law_sets, h__law_sees, h__law_least_set, h__law_counts, h__law_watched, h__law_way, h__law_hosed]
def fn1 : List He.DefD := [h__law_hoses, h__law_lined, h__law_boxed, h_law]
def fn : List He.DefD := fn0 ++ fn1
def fa0 : List He.Fa := [.glo "all_sets", .glo "size_key", .glo "sees_of", .glo "seen_times", .glo "seen_by_all", .glo "watch_gaps", .glo "watches_least", .glo "goes_on", .glo "watches_greedy", .glo "never_blind", .glo "way_of", .glo "hose_reach", .glo "hoses_least", .glo "reach_needed", .glo "box_places", .glo "best_place", .glo "middle_place", .glo "struck_at", .glo "struck_in", .glo "_law_mixed", .glo "_law_row", .glo "_law_is_int", .glo "_law_like", .glo "_law_sets", .glo "_law_sees", .glo "_law_least_set", .glo "_law_counts", .glo "_law_watched", .glo "_law_way", .glo "_law_hosed"]
def fa1 : List He.Fa := [.glo "_law_hoses", .glo "_law_lined", .glo "_law_boxed", .glo "law", .free "abs", .free "all", .free "any", .free "bool", .free "enumerate", .free "int", .free "isinstance", .free "len", .free "max", .free "min", .free "range", .free "set", .free "sorted", .free "str", .free "sum", .free "tuple"]
def fa : List He.Fa := fa0 ++ fa1
def loo0 : List PySem.Str := ["all_sets", "size_key", "sees_of", "seen_times", "seen_by_all", "watch_gaps", "watches_least", "goes_on", "watches_greedy", "never_blind", "way_of", "hose_reach", "hoses_least", "reach_needed", "box_places", "best_place", "middle_place", "struck_at", "struck_in", "_law_mixed", "_law_row", "_law_is_int", "_law_like", "_law_sets", "_law_sees", "_law_least_set", "_law_counts", "_law_watched", "_law_way", "_law_hosed"]
def loo1 : List PySem.Str := ["_law_hoses", "_law_lined", "_law_boxed"]
def loo : List PySem.Str := loo0 ++ loo1
abbrev R : PySem.W.OpenRow := PySem.W.OpenLaw.row PySem.Challenge.rw_dockheld_k20_whole_watches_hoses
abbrev hk : PySem.W.Hook := He.hookD 4 fa fn
def ob (s : PySem.W.SharedT) : He.AlD := He.obsDG 4 fa fn (HandSHeadRun.getT s)
theorem ob_eq (s : PySem.W.SharedT) : ob s = hk.obs s.abs := He.obsDG_eq (HandSHeadRun.getT_eq s)
theorem run (w : World) : HandSHeadRun.RunEq R (PySem.W.view R.prog [37]) hk ob 20000 loo w := by
  intro os
  kernel_rfl
theorem facts {P : Program} {w : World} {K : PySem.W.Frag} {h : Heap} {mg : Str → Option Value} {f : Addr} (X : K.In h) (G : h.Ns mainGlobals mg) (hfa : mg ("law" : Str) = some (.ref f)) (c : He.SaysD fa fn K) :
    ∃ fd : FuncData, (∀ (s : Shared) (v : Value), BindsTo s fd ⟨[v], []⟩ [("script", v)]) ∧ ∀ base : Heap, K.In base → base.Ns mainGlobals mg → FnOk P w K mg base CX0 12 f fd ["script"] (spD K 1 d_law) := by
  obtain ⟨fd_all_sets, F_all_sets⟩ := c.def_ 0 (d := h_all_sets) rfl
  obtain ⟨fd_size_key, F_size_key⟩ := c.def_ 1 (d := h_size_key) rfl
  obtain ⟨fd_sees_of, F_sees_of⟩ := c.def_ 2 (d := h_sees_of) rfl
  obtain ⟨fd_seen_times, F_seen_times⟩ := c.def_ 3 (d := h_seen_times) rfl
  obtain ⟨fd_seen_by_all, F_seen_by_all⟩ := c.def_ 4 (d := h_seen_by_all) rfl
  obtain ⟨fd_watch_gaps, F_watch_gaps⟩ := c.def_ 5 (d := h_watch_gaps) rfl
  obtain ⟨fd_watches_least, F_watches_least⟩ := c.def_ 6 (d := h_watches_least) rfl
  obtain ⟨fd_goes_on, F_goes_on⟩ := c.def_ 7 (d := h_goes_on) rfl
  obtain ⟨fd_watches_greedy, F_watches_greedy⟩ := c.def_ 8 (d := h_watches_greedy) rfl
  obtain ⟨fd_never_blind, F_never_blind⟩ := c.def_ 9 (d := h_never_blind) rfl
  obtain ⟨fd_way_of, F_way_of⟩ := c.def_ 10 (d := h_way_of) rfl
  obtain ⟨fd_hose_reach, F_hose_reach⟩ := c.def_ 11 (d := h_hose_reach) rfl
  obtain ⟨fd_hoses_least, F_hoses_least⟩ := c.def_ 12 (d := h_hoses_least) rfl
  obtain ⟨fd_reach_needed, F_reach_needed⟩ := c.def_ 13 (d := h_reach_needed) rfl
  obtain ⟨fd_box_places, F_box_places⟩ := c.def_ 14 (d := h_box_places) rfl
  obtain ⟨fd_best_place, F_best_place⟩ := c.def_ 15 (d := h_best_place) rfl
  obtain ⟨fd_middle_place, F_middle_place⟩ := c.def_ 16 (d := h_middle_place) rfl
  obtain ⟨fd_struck_at, F_struck_at⟩ := c.def_ 17 (d := h_struck_at) rfl
  obtain ⟨fd_struck_in, F_struck_in⟩ := c.def_ 18 (d := h_struck_in) rfl
  obtain ⟨fd__law_mixed, F__law_mixed⟩ := c.def_ 19 (d := h__law_mixed) rfl
  obtain ⟨fd__law_row, F__law_row⟩ := c.def_ 20 (d := h__law_row) rfl
  obtain ⟨fd__law_is_int, F__law_is_int⟩ := c.def_ 21 (d := h__law_is_int) rfl
  obtain ⟨fd__law_like, F__law_like⟩ := c.def_ 22 (d := h__law_like) rfl
  obtain ⟨fd__law_sets, F__law_sets⟩ := c.def_ 23 (d := h__law_sets) rfl
  obtain ⟨fd__law_sees, F__law_sees⟩ := c.def_ 24 (d := h__law_sees) rfl
  obtain ⟨fd__law_least_set, F__law_least_set⟩ := c.def_ 25 (d := h__law_least_set) rfl
  obtain ⟨fd__law_counts, F__law_counts⟩ := c.def_ 26 (d := h__law_counts) rfl
  obtain ⟨fd__law_watched, F__law_watched⟩ := c.def_ 27 (d := h__law_watched) rfl
  obtain ⟨fd__law_way, F__law_way⟩ := c.def_ 28 (d := h__law_way) rfl
  obtain ⟨fd__law_hosed, F__law_hosed⟩ := c.def_ 29 (d := h__law_hosed) rfl
  obtain ⟨fd__law_hoses, F__law_hoses⟩ := c.def_ 30 (d := h__law_hoses) rfl
  obtain ⟨fd__law_lined, F__law_lined⟩ := c.def_ 31 (d := h__law_lined) rfl
  obtain ⟨fd__law_boxed, F__law_boxed⟩ := c.def_ 32 (d := h__law_boxed) rfl
  obtain ⟨fd_law, F_law⟩ := c.def_ 33 (d := h_law) rfl
  have e := hfa.symm.trans (He.glo_ok X G (c.fact 33 (f := .glo "law") rfl))
  cases e
  refine ⟨fd_law, fun s v => FunD.bindsA (ps := ["script"]) F_law (fun _ _ _ _ _ _ us hl => match us, hl with | [_], _ => rfl) s [v] rfl, fun base _ _ => ?_⟩
  have b_abs : mg "abs" = none := He.free_ok X G (c.fact 34 (f := .free "abs") rfl)
  have b_all : mg "all" = none := He.free_ok X G (c.fact 35 (f := .free "all") rfl)
  have b_any : mg "any" = none := He.free_ok X G (c.fact 36 (f := .free "any") rfl)
  have b_bool : mg "bool" = none := He.free_ok X G (c.fact 37 (f := .free "bool") rfl)
  have b_enumerate : mg "enumerate" = none := He.free_ok X G (c.fact 38 (f := .free "enumerate") rfl)
  have b_int : mg "int" = none := He.free_ok X G (c.fact 39 (f := .free "int") rfl)
  have b_isinstance : mg "isinstance" = none := He.free_ok X G (c.fact 40 (f := .free "isinstance") rfl)
  have b_len : mg "len" = none := He.free_ok X G (c.fact 41 (f := .free "len") rfl)
  have b_max : mg "max" = none := He.free_ok X G (c.fact 42 (f := .free "max") rfl)
  have b_min : mg "min" = none := He.free_ok X G (c.fact 43 (f := .free "min") rfl)
  have b_range : mg "range" = none := He.free_ok X G (c.fact 44 (f := .free "range") rfl)
  have b_set : mg "set" = none := He.free_ok X G (c.fact 45 (f := .free "set") rfl)
  have b_sorted : mg "sorted" = none := He.free_ok X G (c.fact 46 (f := .free "sorted") rfl)
  have b_str : mg "str" = none := He.free_ok X G (c.fact 47 (f := .free "str") rfl)
  have b_sum : mg "sum" = none := He.free_ok X G (c.fact 48 (f := .free "sum") rfl)
  have b_tuple : mg "tuple" = none := He.free_ok X G (c.fact 49 (f := .free "tuple") rfl)
  have D_all_sets : Def P w K mg base 1 "all_sets" ["n"] d_all_sets := def_ok (ok_all_sets F_all_sets b_range) (He.glo_ok X G (c.fact 0 (f := .glo "all_sets") rfl)) F_all_sets.kp (F_all_sets.bindsN (ps := ["n"]) fun _ _ _ _ _ _ us hl => match us, hl with | [_], _ => rfl)
  have D_size_key : Def P w K mg base 1 "size_key" ["row"] d_size_key := def_ok (ok_size_key F_size_key b_len) (He.glo_ok X G (c.fact 1 (f := .glo "size_key") rfl)) F_size_key.kp (F_size_key.bindsN (ps := ["row"]) fun _ _ _ _ _ _ us hl => match us, hl with | [_], _ => rfl)
  have D_sees_of : Def P w K mg base 1 "sees_of" ["n", "watch"] d_sees_of := def_ok (ok_sees_of F_sees_of b_min b_range) (He.glo_ok X G (c.fact 2 (f := .glo "sees_of") rfl)) F_sees_of.kp (F_sees_of.bindsN (ps := ["n", "watch"]) fun _ _ _ _ _ _ us hl => match us, hl with | [_, _], _ => rfl)
  have D_seen_times : Def P w K mg base 2 "seen_times" ["n", "watches", "chosen"] d_seen_times := def_ok (ok_seen_times F_seen_times D_sees_of b_tuple) (He.glo_ok X G (c.fact 3 (f := .glo "seen_times") rfl)) F_seen_times.kp (F_seen_times.bindsN (ps := ["n", "watches", "chosen"]) fun _ _ _ _ _ _ us hl => match us, hl with | [_, _, _], _ => rfl)
  have D_seen_by_all : Def P w K mg base 3 "seen_by_all" ["n", "watches", "chosen"] d_seen_by_all := def_ok (ok_seen_by_all F_seen_by_all D_seen_times) (He.glo_ok X G (c.fact 4 (f := .glo "seen_by_all") rfl)) F_seen_by_all.kp (F_seen_by_all.bindsN (ps := ["n", "watches", "chosen"]) fun _ _ _ _ _ _ us hl => match us, hl with | [_, _, _], _ => rfl)
  have D_watch_gaps : Def P w K mg base 3 "watch_gaps" ["n", "watches", "chosen"] d_watch_gaps := def_ok (ok_watch_gaps F_watch_gaps D_seen_times b_enumerate b_tuple) (He.glo_ok X G (c.fact 5 (f := .glo "watch_gaps") rfl)) F_watch_gaps.kp (F_watch_gaps.bindsN (ps := ["n", "watches", "chosen"]) fun _ _ _ _ _ _ us hl => match us, hl with | [_, _, _], _ => rfl)
  have D_watches_least : Def P w K mg base 4 "watches_least" ["n", "watches"] d_watches_least := def_ok (ok_watches_least F_watches_least D_all_sets D_size_key D_seen_by_all b_len b_sorted) (He.glo_ok X G (c.fact 6 (f := .glo "watches_least") rfl)) F_watches_least.kp (F_watches_least.bindsN (ps := ["n", "watches"]) fun _ _ _ _ _ _ us hl => match us, hl with | [_, _], _ => rfl)
  have D_goes_on : Def P w K mg base 1 "goes_on" ["n", "watches", "place"] d_goes_on := def_ok (ok_goes_on F_goes_on b_max b_min) (He.glo_ok X G (c.fact 7 (f := .glo "goes_on") rfl)) F_goes_on.kp (F_goes_on.bindsN (ps := ["n", "watches", "place"]) fun _ _ _ _ _ _ us hl => match us, hl with | [_, _, _], _ => rfl)
  have D_watches_greedy : Def P w K mg base 2 "watches_greedy" ["n", "watches"] d_watches_greedy := def_ok (ok_watches_greedy F_watches_greedy D_goes_on b_any b_min b_range) (He.glo_ok X G (c.fact 8 (f := .glo "watches_greedy") rfl)) F_watches_greedy.kp (F_watches_greedy.bindsN (ps := ["n", "watches"]) fun _ _ _ _ _ _ us hl => match us, hl with | [_, _], _ => rfl)
  have D_never_blind : Def P w K mg base 4 "never_blind" ["n", "watches"] d_never_blind := def_ok (ok_never_blind F_never_blind D_all_sets D_size_key D_seen_times D_seen_by_all b_all b_len b_sorted b_tuple) (He.glo_ok X G (c.fact 9 (f := .glo "never_blind") rfl)) F_never_blind.kp (F_never_blind.bindsN (ps := ["n", "watches"]) fun _ _ _ _ _ _ us hl => match us, hl with | [_, _], _ => rfl)
  have D_way_of : Def P w K mg base 1 "way_of" ["one", "other"] d_way_of := def_ok (ok_way_of F_way_of b_abs) (He.glo_ok X G (c.fact 10 (f := .glo "way_of") rfl)) F_way_of.kp (F_way_of.bindsN (ps := ["one", "other"]) fun _ _ _ _ _ _ us hl => match us, hl with | [_, _], _ => rfl)
  have D_hose_reach : Def P w K mg base 2 "hose_reach" ["places", "reach", "points"] d_hose_reach := def_ok (ok_hose_reach F_hose_reach D_way_of b_enumerate b_tuple) (He.glo_ok X G (c.fact 11 (f := .glo "hose_reach") rfl)) F_hose_reach.kp (F_hose_reach.bindsN (ps := ["places", "reach", "points"]) fun _ _ _ _ _ _ us hl => match us, hl with | [_, _, _], _ => rfl)
  have D_hoses_least : Def P w K mg base 4 "hoses_least" ["places", "reach", "points", "k"] d_hoses_least := def_ok (ok_hoses_least F_hoses_least D_all_sets D_size_key D_hose_reach b_all b_len b_sorted) (He.glo_ok X G (c.fact 12 (f := .glo "hoses_least") rfl)) F_hoses_least.kp (F_hoses_least.bindsN (ps := ["places", "reach", "points", "k"]) fun _ _ _ _ _ _ us hl => match us, hl with | [_, _, _, _], _ => rfl)
  have D_reach_needed : Def P w K mg base 2 "reach_needed" ["places", "n", "points"] d_reach_needed := def_ok (ok_reach_needed F_reach_needed D_all_sets D_way_of b_len b_max b_min) (He.glo_ok X G (c.fact 13 (f := .glo "reach_needed") rfl)) F_reach_needed.kp (F_reach_needed.bindsN (ps := ["places", "n", "points"]) fun _ _ _ _ _ _ us hl => match us, hl with | [_, _, _], _ => rfl)
  have D_box_places : Def P w K mg base 1 "box_places" ["box"] d_box_places := def_ok (ok_box_places F_box_places b_range) (He.glo_ok X G (c.fact 14 (f := .glo "box_places") rfl)) F_box_places.kp (F_box_places.bindsN (ps := ["box"]) fun _ _ _ _ _ _ us hl => match us, hl with | [_], _ => rfl)
  have D_best_place : Def P w K mg base 2 "best_place" ["box", "points"] d_best_place := def_ok (ok_best_place F_best_place D_way_of D_box_places b_max b_min) (He.glo_ok X G (c.fact 15 (f := .glo "best_place") rfl)) F_best_place.kp (F_best_place.bindsN (ps := ["box", "points"]) fun _ _ _ _ _ _ us hl => match us, hl with | [_, _], _ => rfl)
  have D_middle_place : Def P w K mg base 2 "middle_place" ["box", "points"] d_middle_place := def_ok (ok_middle_place F_middle_place D_way_of D_box_places b_min b_sum) (He.glo_ok X G (c.fact 16 (f := .glo "middle_place") rfl)) F_middle_place.kp (F_middle_place.bindsN (ps := ["box", "points"]) fun _ _ _ _ _ _ us hl => match us, hl with | [_, _], _ => rfl)
  have D_struck_at : Def P w K mg base 1 "struck_at" ["bell", "hour"] d_struck_at := def_ok (ok_struck_at F_struck_at) (He.glo_ok X G (c.fact 17 (f := .glo "struck_at") rfl)) F_struck_at.kp (F_struck_at.bindsN (ps := ["bell", "hour"]) fun _ _ _ _ _ _ us hl => match us, hl with | [_, _], _ => rfl)
  have D_struck_in : Def P w K mg base 2 "struck_in" ["bells", "span"] d_struck_in := def_ok (ok_struck_in F_struck_in D_struck_at b_any b_len b_range) (He.glo_ok X G (c.fact 18 (f := .glo "struck_in") rfl)) F_struck_in.kp (F_struck_in.bindsN (ps := ["bells", "span"]) fun _ _ _ _ _ _ us hl => match us, hl with | [_, _], _ => rfl)
  have D__law_mixed : Def P w K mg base 1 "_law_mixed" ["script", "k"] d__law_mixed := def_ok (ok__law_mixed F__law_mixed b_int b_len) (He.glo_ok X G (c.fact 19 (f := .glo "_law_mixed") rfl)) F__law_mixed.kp (F__law_mixed.bindsN (ps := ["script", "k"]) fun _ _ _ _ _ _ us hl => match us, hl with | [_, _], _ => rfl)
  have D__law_row : Def P w K mg base 2 "_law_row" ["script", "many"] d__law_row := def_ok (ok__law_row F__law_row D__law_mixed b_int b_len b_range) (He.glo_ok X G (c.fact 20 (f := .glo "_law_row") rfl)) F__law_row.kp (F__law_row.bindsN (ps := ["script", "many"]) fun _ _ _ _ _ _ us hl => match us, hl with | [_, _], _ => rfl)
  have D__law_is_int : Def P w K mg base 1 "_law_is_int" ["value"] d__law_is_int := def_ok (ok__law_is_int F__law_is_int b_bool b_int b_isinstance) (He.glo_ok X G (c.fact 21 (f := .glo "_law_is_int") rfl)) F__law_is_int.kp (F__law_is_int.bindsN (ps := ["value"]) fun _ _ _ _ _ _ us hl => match us, hl with | [_], _ => rfl)
  have D__law_like : Def P w K mg base 10 "_law_like" ["value", "due"] (d__law_like 8) := def_ok (ok__law_like F__law_like (He.glo_ok X G (c.fact 22 (f := .glo "_law_like") rfl)) F__law_like.kp (F__law_like.bindsN (ps := ["value", "due"]) fun _ _ _ _ _ _ us hl => match us, hl with | [_, _], _ => rfl) D__law_is_int b_all b_bool b_isinstance b_len b_range b_str b_tuple 8) (He.glo_ok X G (c.fact 22 (f := .glo "_law_like") rfl)) F__law_like.kp (F__law_like.bindsN (ps := ["value", "due"]) fun _ _ _ _ _ _ us hl => match us, hl with | [_, _], _ => rfl)
  have D__law_sets : Def P w K mg base 1 "_law_sets" ["n"] d__law_sets := def_ok (ok__law_sets F__law_sets b_range b_sorted) (He.glo_ok X G (c.fact 23 (f := .glo "_law_sets") rfl)) F__law_sets.kp (F__law_sets.bindsN (ps := ["n"]) fun _ _ _ _ _ _ us hl => match us, hl with | [_], _ => rfl)
  have D__law_sees : Def P w K mg base 1 "_law_sees" ["n", "watch"] d__law_sees := def_ok (ok__law_sees F__law_sees b_int b_min b_range b_set b_sorted) (He.glo_ok X G (c.fact 24 (f := .glo "_law_sees") rfl)) F__law_sees.kp (F__law_sees.bindsN (ps := ["n", "watch"]) fun _ _ _ _ _ _ us hl => match us, hl with | [_, _], _ => rfl)
  have D__law_least_set : Def P w K mg base 1 "_law_least_set" ["keys"] d__law_least_set := def_ok (ok__law_least_set F__law_least_set b_sorted) (He.glo_ok X G (c.fact 25 (f := .glo "_law_least_set") rfl)) F__law_least_set.kp (F__law_least_set.bindsN (ps := ["keys"]) fun _ _ _ _ _ _ us hl => match us, hl with | [_], _ => rfl)
  have D__law_counts : Def P w K mg base 1 "_law_counts" ["n", "sights", "chosen"] d__law_counts := def_ok (ok__law_counts F__law_counts b_len b_range) (He.glo_ok X G (c.fact 26 (f := .glo "_law_counts") rfl)) F__law_counts.kp (F__law_counts.bindsN (ps := ["n", "sights", "chosen"]) fun _ _ _ _ _ _ us hl => match us, hl with | [_, _, _], _ => rfl)
  have D__law_watched : Def P w K mg base 11 "_law_watched" ["n", "watches", "chosen"] d__law_watched := def_ok (ok__law_watched F__law_watched D_seen_times D_seen_by_all D_watch_gaps D_watches_least D_watches_greedy D_never_blind D_struck_in D__law_like D__law_sets D__law_sees D__law_least_set D__law_counts b_len b_min b_range b_tuple) (He.glo_ok X G (c.fact 27 (f := .glo "_law_watched") rfl)) F__law_watched.kp (F__law_watched.bindsN (ps := ["n", "watches", "chosen"]) fun _ _ _ _ _ _ us hl => match us, hl with | [_, _, _], _ => rfl)
  have D__law_way : Def P w K mg base 1 "_law_way" ["one", "other"] d__law_way := def_ok (ok__law_way F__law_way b_abs) (He.glo_ok X G (c.fact 28 (f := .glo "_law_way") rfl)) F__law_way.kp (F__law_way.bindsN (ps := ["one", "other"]) fun _ _ _ _ _ _ us hl => match us, hl with | [_, _], _ => rfl)
  have D__law_hosed : Def P w K mg base 2 "_law_hosed" ["places", "points", "reach", "k"] d__law_hosed := def_ok (ok__law_hosed F__law_hosed D__law_sets D__law_least_set D__law_way b_all b_len) (He.glo_ok X G (c.fact 29 (f := .glo "_law_hosed") rfl)) F__law_hosed.kp (F__law_hosed.bindsN (ps := ["places", "points", "reach", "k"]) fun _ _ _ _ _ _ us hl => match us, hl with | [_, _, _, _], _ => rfl)
  have D__law_hoses : Def P w K mg base 11 "_law_hoses" ["places", "points", "reach", "many"] d__law_hoses := def_ok (ok__law_hoses F__law_hoses D_hose_reach D_hoses_least D_reach_needed D__law_like D__law_sets D__law_way D__law_hosed b_len b_max b_min b_range b_tuple) (He.glo_ok X G (c.fact 30 (f := .glo "_law_hoses") rfl)) F__law_hoses.kp (F__law_hoses.bindsN (ps := ["places", "points", "reach", "many"]) fun _ _ _ _ _ _ us hl => match us, hl with | [_, _, _, _], _ => rfl)
  have D__law_lined : Def P w K mg base 11 "_law_lined" ["row", "reach"] d__law_lined := def_ok (ok__law_lined F__law_lined D_seen_times D_hose_reach D__law_like b_abs b_int b_len b_range b_tuple) (He.glo_ok X G (c.fact 31 (f := .glo "_law_lined") rfl)) F__law_lined.kp (F__law_lined.bindsN (ps := ["row", "reach"]) fun _ _ _ _ _ _ us hl => match us, hl with | [_, _], _ => rfl)
  have D__law_boxed : Def P w K mg base 11 "_law_boxed" ["points", "box"] d__law_boxed := def_ok (ok__law_boxed F__law_boxed D_reach_needed D_best_place D_middle_place D__law_like D__law_way b_max b_min b_range b_sum) (He.glo_ok X G (c.fact 32 (f := .glo "_law_boxed") rfl)) F__law_boxed.kp (F__law_boxed.bindsN (ps := ["points", "box"]) fun _ _ _ _ _ _ us hl => match us, hl with | [_, _], _ => rfl)
  exact ok_law F_law D__law_row D__law_watched D__law_hoses D__law_lined D__law_boxed b_int b_len b_range b_tuple
/-- THE LAW from its plain function -/
theorem holds_of (hF : ∀ ns : List Int, ns.length ≤ 63 → d_law [scr (ns.map PyData.int)] = some (.bool true)) : PySem.Challenge.rw_dockheld_k20_whole_watches_hoses.Holds := by
  w_on; o_law
  refine HandSHeadRun.head_any (r := PySem.W.OpenLaw.row PySem.Challenge.rw_dockheld_k20_whole_watches_hoses) (q := PySem.W.view (PySem.W.OpenLaw.row PySem.Challenge.rw_dockheld_k20_whole_watches_hoses).prog [37]) (H := hk) (ob := ob) (M := 20000) (loose := loo) (d := HandSHeadRun.topDef (PySem.W.OpenLaw.row PySem.Challenge.rw_dockheld_k20_whole_watches_hoses).prog 37) (kwd := []) ob_eq
    (by kernel_rfl) (fun s => by kernel_rfl) run (by kernel_rfl) (by kernel_rfl) (by kernel_rfl) (by rfl) (by first | assumption | decide +kernel) (by decide +kernel) ⟨rfl, rfl, rfl, rfl, rfl, by decide +kernel⟩ ?hw ?hc
  case hw => w_witness2
  case hc =>
    refine L2.walk_ofE (l := PySem.Challenge.rw_dockheld_k20_whole_watches_hoses) (n := 63) (k := 12) (x := "script") (CX := L2.CX0) rfl (by decide) (by kernel_rfl) ⟨rfl, by decide, by decide⟩ ?F (fun _ _ _ _ z => z)
    intro w mg fa h Y G hmg0
    obtain ⟨K, KX, c⟩ := Y
    have hmg : mg ("law" : PySem.Str) = some (.ref fa) := by
      have e : (HandSHeadRun.topDef (PySem.W.OpenLaw.row PySem.Challenge.rw_dockheld_k20_whole_watches_hoses).prog 37).name = ("law" : PySem.Str) := by kernel_rfl
      rw [← e]
      exact hmg0
    obtain ⟨fd, hb, hF2⟩ := facts (P := (PySem.Challenge.rw_dockheld_k20_whole_watches_hoses).prog) (w := w) KX G hmg c
    exact ⟨K, fd, spD K 1 d_law, KX, hb, sp_law hF, hF2⟩
end K20

namespace K20
open PySem PySem.Spec PyProof.Rows L2 Pm
theorem eq_int (i j : Int) : oEq (.int i) (.int j) = some (.bool (decide (i = j))) := by
  simp [oEq, shp, SeqAt.shaped, PyData.eqv, PyData.canLay0, PyData.depth]
  rfl
theorem ne_int (i j : Int) : oNe (.int i) (.int j) = some (.bool (!decide (i = j))) := by
  simp [oNe, shp, SeqAt.shaped, PyData.eqv, PyData.canLay0, PyData.depth]
  rfl
theorem k_isi1 : kitB "int" "bool" = some false := by kernel_rfl
theorem isi1 (i : Int) : oIsi "bool" (.int i) = some (.bool false) := by
  show (kitB "int" "bool").map PyData.bool = _
  rw [k_isi1]
  rfl
theorem k_isi2 : kitB "int" "tuple" = some false := by kernel_rfl
theorem isi2 (i : Int) : oIsi "tuple" (.int i) = some (.bool false) := by
  show (kitB "int" "tuple").map PyData.bool = _
  rw [k_isi2]
  rfl
theorem k_isi3 : kitB "int" "str" = some false := by kernel_rfl
theorem isi3 (i : Int) : oIsi "str" (.int i) = some (.bool false) := by
  show (kitB "int" "str").map PyData.bool = _
  rw [k_isi3]
  rfl
theorem k_isi0 : kitB "int" "int" = some true := by kernel_rfl
theorem isi0 (i : Int) : oIsi "int" (.int i) = some (.bool true) := by
  show (kitB "int" "int").map PyData.bool = _
  rw [k_isi0]
  rfl
theorem k_isb1 : kitB "bool" "bool" = some true := by kernel_rfl
theorem isb1 (i : Bool) : oIsi "bool" (.bool i) = some (.bool true) := by
  show (kitB "bool" "bool").map PyData.bool = _
  rw [k_isb1]
  rfl
theorem k_ist1 : kitB "tuple" "bool" = some false := by kernel_rfl
theorem ist1 (i : List D) : oIsi "bool" (.tuple i) = some (.bool false) := by
  show (kitB "tuple" "bool").map PyData.bool = _
  rw [k_ist1]
  rfl
theorem k_ist2 : kitB "tuple" "tuple" = some true := by kernel_rfl
theorem ist2 (i : List D) : oIsi "tuple" (.tuple i) = some (.bool true) := by
  show (kitB "tuple" "tuple").map PyData.bool = _
  rw [k_ist2]
  rfl
theorem asBools_rep (n : Nat) : asBools (List.replicate n (PyData.bool true)) = some (List.replicate n true) := by
  have := asBools_map (List.replicate n true)
  rwa [List.map_replicate] at this
theorem asBools_rng (n : Nat) : asBools ((List.range n).map fun _ => PyData.bool true) = some (List.replicate n true) := by
  rw [List.map_const', List.length_range, asBools_rep]
theorem is_int_int (i : Int) : d__law_is_int [.int i] = some (.bool true) := by
  simp [d__law_is_int, runD, g__law_is_int, sRet, xAnd, xUn, xVar, isi0, isi1, dB, oNot, oTru]
theorem like_none (n : Nat) : d__law_like (n + 1) [.none, .none] = some (.bool true) := by
  simp [d__law_like, runD, g__law_like, sSeq, sIf, tOf, xBin, xVar, xC, oIs, isNone, dB, sRet]
theorem like_bool (n : Nat) (b : Bool) : d__law_like (n + 1) [.bool b, .bool b] = some (.bool true) := by
  have e : oEq (.bool b) (.bool b) = some (.bool true) := by
    simp [oEq, shp, SeqAt.shaped, PyData.eqv, PyData.canLay0, PyData.depth]
  simp [d__law_like, runD, g__law_like, sSeq, sIf, tOf, xBin, xVar, xC, oIs, isNone, dB, tTru, xUn, isb1, oTru, sNop, sRet, xAnd, e]
theorem like_int (n : Nat) (i : Int) : d__law_like (n + 1) [.int i, .int i] = some (.bool true) := by
  simp [d__law_like, runD, g__law_like, sSeq, sIf, tOf, xBin, xVar, xC, oIs, isNone, dB, tTru, xUn, isi1, isi2, isi3, oTru, sNop, sRet, xAnd, xCall, xCons, xNil, is_int_int, eq_int]
theorem like_tup (n : Nat) (xs : List D) (hl : xs.length ≤ 16777216) (h : ∀ x ∈ xs, d__law_like n [x, x] = some (.bool true)) : d__law_like (n + 1) [.tuple xs, .tuple xs] = some (.bool true) := by
  have hr := oR1_nat xs.length hl
  have hm : lcL (gSet 2) tYesP (xCall (fun ds => if ds.length = 2 then d__law_like n ds else none) (xCons (xBin oIx (xVar 0) (xVar 2)) (xCons (xBin oIx (xVar 1) (xVar 2)) xNil))) [some (.tuple xs), some (.tuple xs), none] ((List.range xs.length).map fun i => PyData.int (i : Nat)) = some ((List.range xs.length).map fun _ => PyData.bool true) := by
    refine lcL_map _ _ _ fun i hi => ?_
    have hi' : i < xs.length := by simpa using hi
    simp [gSet, xCall, xCons, xNil, xBin, xVar, oIx, atI_nat xs i hi', h]
  simp [d__law_like, runD, g__law_like, sSeq, sIf, tOf, xBin, xVar, xC, oIs, isNone, dB, tTru, xUn, ist1, ist2, oTru, sNop, sRet, xCall, xCons, xNil, tOrP, tNotP, bLen, ne_int, xLc, xIt, hr, wipeP, hm, bAll, seqD, asBools_rng]
end K20

namespace K20
open PySem PySem.Spec PyProof.Rows L2 Pm
theorem row_at (r : List Int) (i : Nat) (h : i < r.length) : atI (r.map PyData.int) (i : Int) = some (.int (r.getD i 0)) := by
  rw [atI_nat _ i (by simpa using h)]
  simp [h]
theorem fmod_rng (x : Int) {m : Int} (hm : 0 < m) : 0 ≤ x.fmod m ∧ x.fmod m < m := ⟨Int.fmod_nonneg_of_pos _ hm, Int.fmod_lt_of_pos _ hm⟩
theorem fmod_nat (x : Int) {m : Int} (hm : 0 < m) : ∃ k : Nat, x.fmod m = (k : Int) ∧ (k : Int) < m := by
  obtain ⟨h1, h2⟩ := fmod_rng x hm
  obtain ⟨k, hk⟩ := Int.eq_ofNat_of_zero_le h1
  exact ⟨k, hk, by omega⟩
theorem rg0 (n : Nat) (h : n ≤ 1000) : oR1 [.int (n : Int)] = some ((List.range n).map fun k : Nat => PyData.int (k : Nat)) := oR1_nat n (by omega)
theorem bMaxI_l {B : List Int} {m : Int} (h : B.max? = some m) : bMaxI [.list (B.map PyData.int)] = some (.int m) := by
  unfold bMaxI
  simp only [seq_l, Option.bind_some, asInts_map, h, Option.map_some]
theorem bMinI_l {B : List Int} {m : Int} (h : B.min? = some m) : bMinI [.list (B.map PyData.int)] = some (.int m) := by
  unfold bMinI
  simp only [seq_l, Option.bind_some, asInts_map, h, Option.map_some]
theorem lay_ints : ∀ l : List Int, PyData.canLayAll0 (l.map PyData.int) = true
  | [] => rfl
  | a :: l => by
    simp only [List.map_cons, PyData.canLayAll0, PyData.canLay0, Bool.true_and]
    exact lay_ints l
theorem any_ints (p : Int) : ∀ l : List Int, ((l.map PyData.int).any fun z => PyData.eqv z (.int p)) = l.contains p
  | [] => rfl
  | a :: l => by
    rw [List.map_cons, List.any_cons, any_ints p l, List.contains_cons]
    have e : PyData.eqv (.int a) (.int p) = (p == a) := by
      have e1 : PyData.eqv (.int a) (.int p) = (a == p) := by rw [PyData.eqv]
      rw [e1]
      exact BEq.comm
    rw [e]
theorem shp_int (p : Int) : shp (.int p) = true := by simp [shp, SeqAt.shaped, PyData.canLay0, PyData.depth]
theorem notin_ints (p : Int) (l : List Int) : oNotIn (.int p) (.list (l.map PyData.int)) = some (.bool (!l.contains p)) := by
  show (if (shp (.int p) && PyData.canLayAll0 (l.map PyData.int)) = true then some (PyData.bool (!(l.map PyData.int).any fun z => PyData.eqv z (.int p))) else none) = _
  rw [shp_int, lay_ints, any_ints]
  rfl
theorem in_ints (p : Int) (l : List Int) : oIn (.int p) (.list (l.map PyData.int)) = some (.bool (l.contains p)) := by
  show (if (shp (.int p) && PyData.canLayAll0 (l.map PyData.int)) = true then some (PyData.bool ((l.map PyData.int).any fun z => PyData.eqv z (.int p))) else none) = _
  rw [shp_int, lay_ints, any_ints]
  rfl
theorem mulOk_r (a : Int) {b : Int} (h : b.natAbs < 2 ^ 63) : mulOk a b = true := by
  unfold mulOk
  rw [decide_eq_true h]
  simp
theorem mulOk_lt {a b m : Int} (h0 : 0 ≤ a) (h : a < m) (hm : m ≤ 2147483647) : mulOk a b = true := by
  unfold mulOk
  rw [decide_eq_true (show a.natAbs < 2 ^ 63 by omega)]
  simp
theorem divOk_lit {b : Int} (h : b ≠ 0) (h2 : Sm 20 b) : divOk b = true := h2.divOk h (by omega)
def mix1 (c k : Int) : Int := (c * 48271 + k * 69621 + 8191).fmod 2147483647
def mix2 (c k : Int) : Int := (mix1 c k * mix1 c k + (mix1 c k).fdiv 7 + k * 16807).fmod 2147483629
def mix3 (c k : Int) : Int := (mix2 c k * mix2 c k + (mix2 c k).fdiv 11 + 40692).fmod 2147483563
theorem mixed_int (ns : List Int) (k : Nat) : ∃ v : Int, d__law_mixed [scr (ns.map PyData.int), .int k] = some (.int v) := by
  obtain ⟨c, hc⟩ : ∃ c : Int, (if 0 < ns.length then oIx (scr (ns.map PyData.int)) (.int ((k : Int).fmod ns.length)) else some (.int 0)) = some (.int c) := by
    by_cases h : 0 < ns.length
    · have h1 := fmod_rng (k : Int) (m := (ns.length : Int)) (by omega)
      obtain ⟨j, hj⟩ := Int.eq_ofNat_of_zero_le h1.1
      rw [if_pos h, hj]
      have h2 := h1.2
      rw [hj] at h2
      exact ⟨_, row_at ns j (by omega)⟩
    · exact ⟨0, if_neg h⟩
  have m1 := mulOk_r c (b := 48271) (by decide)
  have m2 := mulOk_r (k : Int) (b := 69621) (by decide)
  have m3 := mulOk_r (k : Int) (b := 16807) (by decide)
  have n1 : (2147483647 : Int) ≠ 0 := by decide
  have n2 : (2147483629 : Int) ≠ 0 := by decide
  have n3 : (2147483563 : Int) ≠ 0 := by decide
  have n4 : (1000003 : Int) ≠ 0 := by decide
  have d1 := divOk_lit (b := 7) (by decide) Sm.lit
  have d2 := divOk_lit (b := 11) (by decide) Sm.lit
  have d3 := divOk_lit (b := 5) (by decide) Sm.lit
  have r1 := fmod_rng (c * 48271 + (k : Int) * 69621 + 8191) (m := 2147483647) (by decide)
  have m4 : ∀ x, mulOk ((c * 48271 + (k : Int) * 69621 + 8191).fmod 2147483647) x = true := fun x => mulOk_lt r1.1 r1.2 (by decide)
  have r2 := fun x : Int => fmod_rng x (m := 2147483629) (by decide)
  have m5 : ∀ x y : Int, mulOk (x.fmod 2147483629) y = true := fun x y => mulOk_lt (r2 x).1 (r2 x).2 (by decide)
  by_cases h : 0 < ns.length
  · have h' : (0 : Int) < (ns.length : Int) := by omega
    have hn : (ns.length : Int) ≠ 0 := by omega
    rw [if_pos h, ix_s] at hc
    refine ⟨((mix3 c k).fdiv 5).fmod 1000003, ?_⟩
    simp only [mix3, mix2, mix1]
    simp -implicitDefEqProofs only [d__law_mixed, g__law_mixed, xVar_a, xC_a, xBin_a, xUn_a, tOf_a, tTru_a, tNotP_a, tAndP_a, tOrP_a, tyes_a, tno_a, tYesP_a, xNil_a, xCons_a, xTup_a, xLst_a, xAnd_a, xOr_a, xIf_a, xChain_a, oNo_a, oAt_a, xSl_a, xCall_a, xSeq_a, xIt_a, xLc_a, gSet_a, gTupD_a, gsNil_a, gsCons_a, sNop_a, sBrk_a, sCnt_a, sSeq_a, sRet_a, sIf_a, sSet_a, sTgt_a, sAug_a, sApp_a, sExt_a, sPut_a, sPutK_a, pkO_s, sFor_a, sWhile_a, sPar_a, runD_a, b2_s, c2_s, sqO_nx, sqO_rt, sqO_bk, sqO_ct, ifO_t, ifO_f, stO_s, endO_nx, endO_rt, andO_t, andO_f, orO_t, orO_f, chO_s, chP_t, chP_f, slO_s, atO_i, lcO_s, forO_s, gsO_s, nxO_s, tgO_s, paO_s, apO_s, exO_s, plO_s, ptO_s, dB_b, tru_b, tru_n, tru_i, tru_l, tru_t, is_n, isn_n, nn_n, nn_i, nn_b, nn_t, nn_l, add_ii, add'_ii, sub_ii, neg_i, lt_ii, le_ii, gt_ii, ge_ii, ix_l, ix_t, ix_s, at0, at1, at2, sl_l, sl_t, len_l, len_t, len_s, abs_i, int_i, int_b, max_ii, min_ii, tup_s, lst_s, seq_l, seq_t, sum_s, wipe_n, wipe_c, mul_ii, fdiv_ii, mod_ii, add_ll, add_tt, setAll, mkT, mkL, oNot, List.getD_cons_zero, List.getD_cons_succ, List.length_cons, List.length_nil, List.set_cons_zero, List.set_cons_succ, List.map_cons, List.map_nil, List.replicate, List.cons_append, List.nil_append, List.append_nil, Option.bind_some, Option.map_some, List.all_cons, List.all_nil, if_true, if_false, reduceIte, Nat.reduceAdd, Nat.reduceSub, Nat.reduceLT, Nat.reduceLeDiff, Nat.reduceEqDiff, decide_true, decide_false, Bool.and_true, Bool.and_self, Bool.true_and, Bool.not_true, Bool.not_false, ne_eq, not_true_eq_false, not_false_eq_true, Nat.zero_add, Bool.false_eq_true, and_self, true_and, and_true, List.length_map, h', mod_ii hn, hc, m1, m2, m3, m4, m5, mod_ii n1, mod_ii n2, mod_ii n3, mod_ii n4, fdiv_ii d1, fdiv_ii d2, fdiv_ii d3]
  · have h' : ¬ (0 : Int) < (ns.length : Int) := by omega
    rw [if_neg h] at hc
    cases hc
    refine ⟨((mix3 0 k).fdiv 5).fmod 1000003, ?_⟩
    simp only [mix3, mix2, mix1]
    simp -implicitDefEqProofs only [d__law_mixed, g__law_mixed, xVar_a, xC_a, xBin_a, xUn_a, tOf_a, tTru_a, tNotP_a, tAndP_a, tOrP_a, tyes_a, tno_a, tYesP_a, xNil_a, xCons_a, xTup_a, xLst_a, xAnd_a, xOr_a, xIf_a, xChain_a, oNo_a, oAt_a, xSl_a, xCall_a, xSeq_a, xIt_a, xLc_a, gSet_a, gTupD_a, gsNil_a, gsCons_a, sNop_a, sBrk_a, sCnt_a, sSeq_a, sRet_a, sIf_a, sSet_a, sTgt_a, sAug_a, sApp_a, sExt_a, sPut_a, sPutK_a, pkO_s, sFor_a, sWhile_a, sPar_a, runD_a, b2_s, c2_s, sqO_nx, sqO_rt, sqO_bk, sqO_ct, ifO_t, ifO_f, stO_s, endO_nx, endO_rt, andO_t, andO_f, orO_t, orO_f, chO_s, chP_t, chP_f, slO_s, atO_i, lcO_s, forO_s, gsO_s, nxO_s, tgO_s, paO_s, apO_s, exO_s, plO_s, ptO_s, dB_b, tru_b, tru_n, tru_i, tru_l, tru_t, is_n, isn_n, nn_n, nn_i, nn_b, nn_t, nn_l, add_ii, add'_ii, sub_ii, neg_i, lt_ii, le_ii, gt_ii, ge_ii, ix_l, ix_t, ix_s, at0, at1, at2, sl_l, sl_t, len_l, len_t, len_s, abs_i, int_i, int_b, max_ii, min_ii, tup_s, lst_s, seq_l, seq_t, sum_s, wipe_n, wipe_c, mul_ii, fdiv_ii, mod_ii, add_ll, add_tt, setAll, mkT, mkL, oNot, List.getD_cons_zero, List.getD_cons_succ, List.length_cons, List.length_nil, List.set_cons_zero, List.set_cons_succ, List.map_cons, List.map_nil, List.replicate, List.cons_append, List.nil_append, List.append_nil, Option.bind_some, Option.map_some, List.all_cons, List.all_nil, if_true, if_false, reduceIte, Nat.reduceAdd, Nat.reduceSub, Nat.reduceLT, Nat.reduceLeDiff, Nat.reduceEqDiff, decide_true, decide_false, Bool.and_true, Bool.and_self, Bool.true_and, Bool.not_true, Bool.not_false, ne_eq, not_true_eq_false, not_false_eq_true, Nat.zero_add, Bool.false_eq_true, and_self, true_and, and_true, List.length_map, h', m1, m2, m3, m4, m5, mod_ii n1, mod_ii n2, mod_ii n3, mod_ii n4, fdiv_ii d1, fdiv_ii d2, fdiv_ii d3]
theorem row_int (ns : List Int) : ∃ r : List Int, r.length = 62 ∧ d__law_row [scr (ns.map PyData.int), .int 62] = some (.list (r.map PyData.int)) := by
  have hr : oR1 [.int 62] = some (List.map (fun i => PyData.int (i : Nat)) (List.range 62)) := oR1_nat 62 (by omega)
  have n1 : (1000 : Int) ≠ 0 := by decide
  have d1 := divOk_lit (b := 1000) (by decide) Sm.lit
  have key : ∀ big : Int, ∃ r : List Int, r.length = 62 ∧ ∃ x y, forL (gSet 4) l1__law_row (List.map (fun i => PyData.int (i : Nat)) (List.range 62)) [some (scr (ns.map PyData.int)), some (.int 62), some (.int big), some (.list []), none] = some (.nx [some (scr (ns.map PyData.int)), some (.int 62), x, some (.list (r.map PyData.int)), y]) := fun big => by
    obtain ⟨ρ', e, h⟩ := forL_inv (g := gSet 4) (b := l1__law_row) (fun i : Nat => PyData.int (i : Nat))
      (fun pre rest ρ => pre.length + rest.length = 62 ∧ ∃ (r : List Int) (big : Int) (j : Option D), r.length = pre.length ∧ ρ = [some (scr (ns.map PyData.int)), some (.int 62), some (.int big), some (.list (r.map PyData.int)), j]) (fun pre x rest ρ ⟨hl, r, big, j, hrl, e⟩ => by
        subst e
        have hx : (r.map PyData.int).length < 16777216 := by rw [List.length_map]; simp at hl; omega
        obtain ⟨v, hv⟩ := mixed_int ns x
        by_cases hb : 0 < big
        · refine ⟨_, [some (scr (ns.map PyData.int)), some (.int 62), some (.int (big.fdiv 1000)), some (.list ((r ++ [big.fmod 1000]).map PyData.int)), some (.int x)], rfl, .inl ?_, by simp at hl ⊢; omega, r ++ [big.fmod 1000], big.fdiv 1000, some (.int x), by simp; omega, rfl⟩
          simp -implicitDefEqProofs only [l1__law_row, xVar_a, xC_a, xBin_a, xUn_a, tOf_a, tTru_a, tNotP_a, tAndP_a, tOrP_a, tyes_a, tno_a, tYesP_a, xNil_a, xCons_a, xTup_a, xLst_a, xAnd_a, xOr_a, xIf_a, xChain_a, oNo_a, oAt_a, xSl_a, xCall_a, xSeq_a, xIt_a, xLc_a, gSet_a, gTupD_a, gsNil_a, gsCons_a, sNop_a, sBrk_a, sCnt_a, sSeq_a, sRet_a, sIf_a, sSet_a, sTgt_a, sAug_a, sApp_a, sExt_a, sPut_a, sPutK_a, pkO_s, sFor_a, sWhile_a, sPar_a, runD_a, b2_s, c2_s, sqO_nx, sqO_rt, sqO_bk, sqO_ct, ifO_t, ifO_f, stO_s, endO_nx, endO_rt, andO_t, andO_f, orO_t, orO_f, chO_s, chP_t, chP_f, slO_s, atO_i, lcO_s, forO_s, gsO_s, nxO_s, tgO_s, paO_s, apO_s, exO_s, plO_s, ptO_s, dB_b, tru_b, tru_n, tru_i, tru_l, tru_t, is_n, isn_n, nn_n, nn_i, nn_b, nn_t, nn_l, add_ii, add'_ii, sub_ii, neg_i, lt_ii, le_ii, gt_ii, ge_ii, ix_l, ix_t, ix_s, at0, at1, at2, sl_l, sl_t, len_l, len_t, len_s, abs_i, int_i, int_b, max_ii, min_ii, tup_s, lst_s, seq_l, seq_t, sum_s, wipe_n, wipe_c, mul_ii, fdiv_ii, mod_ii, add_ll, add_tt, setAll, mkT, mkL, oNot, List.getD_cons_zero, List.getD_cons_succ, List.length_cons, List.length_nil, List.set_cons_zero, List.set_cons_succ, List.map_cons, List.map_nil, List.replicate, List.cons_append, List.nil_append, List.append_nil, Option.bind_some, Option.map_some, List.all_cons, List.all_nil, if_true, if_false, reduceIte, Nat.reduceAdd, Nat.reduceSub, Nat.reduceLT, Nat.reduceLeDiff, Nat.reduceEqDiff, decide_true, decide_false, Bool.and_true, Bool.and_self, Bool.true_and, Bool.not_true, Bool.not_false, ne_eq, not_true_eq_false, not_false_eq_true, Nat.zero_add, Bool.false_eq_true, and_self, true_and, and_true, hb, mod_ii n1, fdiv_ii d1, hx, List.map_append]
        · refine ⟨_, [some (scr (ns.map PyData.int)), some (.int 62), some (.int big), some (.list ((r ++ [v]).map PyData.int)), some (.int x)], rfl, .inl ?_, by simp at hl ⊢; omega, r ++ [v], big, some (.int x), by simp; omega, rfl⟩
          simp -implicitDefEqProofs only [l1__law_row, xVar_a, xC_a, xBin_a, xUn_a, tOf_a, tTru_a, tNotP_a, tAndP_a, tOrP_a, tyes_a, tno_a, tYesP_a, xNil_a, xCons_a, xTup_a, xLst_a, xAnd_a, xOr_a, xIf_a, xChain_a, oNo_a, oAt_a, xSl_a, xCall_a, xSeq_a, xIt_a, xLc_a, gSet_a, gTupD_a, gsNil_a, gsCons_a, sNop_a, sBrk_a, sCnt_a, sSeq_a, sRet_a, sIf_a, sSet_a, sTgt_a, sAug_a, sApp_a, sExt_a, sPut_a, sPutK_a, pkO_s, sFor_a, sWhile_a, sPar_a, runD_a, b2_s, c2_s, sqO_nx, sqO_rt, sqO_bk, sqO_ct, ifO_t, ifO_f, stO_s, endO_nx, endO_rt, andO_t, andO_f, orO_t, orO_f, chO_s, chP_t, chP_f, slO_s, atO_i, lcO_s, forO_s, gsO_s, nxO_s, tgO_s, paO_s, apO_s, exO_s, plO_s, ptO_s, dB_b, tru_b, tru_n, tru_i, tru_l, tru_t, is_n, isn_n, nn_n, nn_i, nn_b, nn_t, nn_l, add_ii, add'_ii, sub_ii, neg_i, lt_ii, le_ii, gt_ii, ge_ii, ix_l, ix_t, ix_s, at0, at1, at2, sl_l, sl_t, len_l, len_t, len_s, abs_i, int_i, int_b, max_ii, min_ii, tup_s, lst_s, seq_l, seq_t, sum_s, wipe_n, wipe_c, mul_ii, fdiv_ii, mod_ii, add_ll, add_tt, setAll, mkT, mkL, oNot, List.getD_cons_zero, List.getD_cons_succ, List.length_cons, List.length_nil, List.set_cons_zero, List.set_cons_succ, List.map_cons, List.map_nil, List.replicate, List.cons_append, List.nil_append, List.append_nil, Option.bind_some, Option.map_some, List.all_cons, List.all_nil, if_true, if_false, reduceIte, Nat.reduceAdd, Nat.reduceSub, Nat.reduceLT, Nat.reduceLeDiff, Nat.reduceEqDiff, decide_true, decide_false, Bool.and_true, Bool.and_self, Bool.true_and, Bool.not_true, Bool.not_false, ne_eq, not_true_eq_false, not_false_eq_true, Nat.zero_add, Bool.false_eq_true, and_self, true_and, and_true, hb, hv, hx, List.map_append]) (List.range 62) [] [some (scr (ns.map PyData.int)), some (.int 62), some (.int big), some (.list []), none] ⟨by simp, [], big, none, rfl, rfl⟩
    obtain ⟨_, r, big', j, hrl, e'⟩ := h
    subst e'
    exact ⟨r, by simpa using hrl, _, _, e⟩
  have pw : oPow (.int 10) (.int 18) = some (.int 1000000000000000000) := by
    show (if (0 : Int) ≤ 18 ∧ (18 : Int) ≤ 1000000 ∧ (10 : Int).natAbs < 2 ^ 64 then some (PyData.int (10 ^ (18 : Int).toNat)) else none) = _
    rw [if_pos (by decide)]
    rfl
  cases ns with
  | nil =>
    obtain ⟨r, h1, x, y, h2⟩ := key 0
    refine ⟨r, h1, ?_⟩
    have e0 : ¬ (0 : Int) < ((0 : Nat) : Int) := by decide
    simp only [List.map_nil] at h2
    simp -implicitDefEqProofs only [d__law_row, g__law_row, xVar_a, xC_a, xBin_a, xUn_a, tOf_a, tTru_a, tNotP_a, tAndP_a, tOrP_a, tyes_a, tno_a, tYesP_a, xNil_a, xCons_a, xTup_a, xLst_a, xAnd_a, xOr_a, xIf_a, xChain_a, oNo_a, oAt_a, xSl_a, xCall_a, xSeq_a, xIt_a, xLc_a, gSet_a, gTupD_a, gsNil_a, gsCons_a, sNop_a, sBrk_a, sCnt_a, sSeq_a, sRet_a, sIf_a, sSet_a, sTgt_a, sAug_a, sApp_a, sExt_a, sPut_a, sPutK_a, pkO_s, sFor_a, sWhile_a, sPar_a, runD_a, b2_s, c2_s, sqO_nx, sqO_rt, sqO_bk, sqO_ct, ifO_t, ifO_f, stO_s, endO_nx, endO_rt, andO_t, andO_f, orO_t, orO_f, chO_s, chP_t, chP_f, slO_s, atO_i, lcO_s, forO_s, gsO_s, nxO_s, tgO_s, paO_s, apO_s, exO_s, plO_s, ptO_s, dB_b, tru_b, tru_n, tru_i, tru_l, tru_t, is_n, isn_n, nn_n, nn_i, nn_b, nn_t, nn_l, add_ii, add'_ii, sub_ii, neg_i, lt_ii, le_ii, gt_ii, ge_ii, ix_l, ix_t, ix_s, at0, at1, at2, sl_l, sl_t, len_l, len_t, len_s, abs_i, int_i, int_b, max_ii, min_ii, tup_s, lst_s, seq_l, seq_t, sum_s, wipe_n, wipe_c, mul_ii, fdiv_ii, mod_ii, add_ll, add_tt, setAll, mkT, mkL, oNot, List.getD_cons_zero, List.getD_cons_succ, List.length_cons, List.length_nil, List.set_cons_zero, List.set_cons_succ, List.map_cons, List.map_nil, List.replicate, List.cons_append, List.nil_append, List.append_nil, Option.bind_some, Option.map_some, List.all_cons, List.all_nil, if_true, if_false, reduceIte, Nat.reduceAdd, Nat.reduceSub, Nat.reduceLT, Nat.reduceLeDiff, Nat.reduceEqDiff, decide_true, decide_false, Bool.and_true, Bool.and_self, Bool.true_and, Bool.not_true, Bool.not_false, ne_eq, not_true_eq_false, not_false_eq_true, Nat.zero_add, Bool.false_eq_true, and_self, true_and, and_true, e0, hr, h2]
  | cons c cs =>
    have e0 : (0 : Int) < ((cs.length + 1 : Nat) : Int) := by omega
    have hc : atI (PyData.int c :: cs.map PyData.int) 0 = some (.int c) := at0 _ _
    by_cases hb : (1000000000000000000 : Int) ≤ c
    · obtain ⟨r, h1, x, y, h2⟩ := key c
      refine ⟨r, h1, ?_⟩
      simp only [List.map_cons] at h2
      simp -implicitDefEqProofs only [d__law_row, g__law_row, xVar_a, xC_a, xBin_a, xUn_a, tOf_a, tTru_a, tNotP_a, tAndP_a, tOrP_a, tyes_a, tno_a, tYesP_a, xNil_a, xCons_a, xTup_a, xLst_a, xAnd_a, xOr_a, xIf_a, xChain_a, oNo_a, oAt_a, xSl_a, xCall_a, xSeq_a, xIt_a, xLc_a, gSet_a, gTupD_a, gsNil_a, gsCons_a, sNop_a, sBrk_a, sCnt_a, sSeq_a, sRet_a, sIf_a, sSet_a, sTgt_a, sAug_a, sApp_a, sExt_a, sPut_a, sPutK_a, pkO_s, sFor_a, sWhile_a, sPar_a, runD_a, b2_s, c2_s, sqO_nx, sqO_rt, sqO_bk, sqO_ct, ifO_t, ifO_f, stO_s, endO_nx, endO_rt, andO_t, andO_f, orO_t, orO_f, chO_s, chP_t, chP_f, slO_s, atO_i, lcO_s, forO_s, gsO_s, nxO_s, tgO_s, paO_s, apO_s, exO_s, plO_s, ptO_s, dB_b, tru_b, tru_n, tru_i, tru_l, tru_t, is_n, isn_n, nn_n, nn_i, nn_b, nn_t, nn_l, add_ii, add'_ii, sub_ii, neg_i, lt_ii, le_ii, gt_ii, ge_ii, ix_l, ix_t, ix_s, at0, at1, at2, sl_l, sl_t, len_l, len_t, len_s, abs_i, int_i, int_b, max_ii, min_ii, tup_s, lst_s, seq_l, seq_t, sum_s, wipe_n, wipe_c, mul_ii, fdiv_ii, mod_ii, add_ll, add_tt, setAll, mkT, mkL, oNot, List.getD_cons_zero, List.getD_cons_succ, List.length_cons, List.length_nil, List.set_cons_zero, List.set_cons_succ, List.map_cons, List.map_nil, List.replicate, List.cons_append, List.nil_append, List.append_nil, Option.bind_some, Option.map_some, List.all_cons, List.all_nil, if_true, if_false, reduceIte, Nat.reduceAdd, Nat.reduceSub, Nat.reduceLT, Nat.reduceLeDiff, Nat.reduceEqDiff, decide_true, decide_false, Bool.and_true, Bool.and_self, Bool.true_and, Bool.not_true, Bool.not_false, ne_eq, not_true_eq_false, not_false_eq_true, Nat.zero_add, Bool.false_eq_true, and_self, true_and, and_true, List.length_map, e0, hc, pw, hb, hr, h2]
    · obtain ⟨r, h1, x, y, h2⟩ := key 0
      refine ⟨r, h1, ?_⟩
      simp only [List.map_cons] at h2
      simp -implicitDefEqProofs only [d__law_row, g__law_row, xVar_a, xC_a, xBin_a, xUn_a, tOf_a, tTru_a, tNotP_a, tAndP_a, tOrP_a, tyes_a, tno_a, tYesP_a, xNil_a, xCons_a, xTup_a, xLst_a, xAnd_a, xOr_a, xIf_a, xChain_a, oNo_a, oAt_a, xSl_a, xCall_a, xSeq_a, xIt_a, xLc_a, gSet_a, gTupD_a, gsNil_a, gsCons_a, sNop_a, sBrk_a, sCnt_a, sSeq_a, sRet_a, sIf_a, sSet_a, sTgt_a, sAug_a, sApp_a, sExt_a, sPut_a, sPutK_a, pkO_s, sFor_a, sWhile_a, sPar_a, runD_a, b2_s, c2_s, sqO_nx, sqO_rt, sqO_bk, sqO_ct, ifO_t, ifO_f, stO_s, endO_nx, endO_rt, andO_t, andO_f, orO_t, orO_f, chO_s, chP_t, chP_f, slO_s, atO_i, lcO_s, forO_s, gsO_s, nxO_s, tgO_s, paO_s, apO_s, exO_s, plO_s, ptO_s, dB_b, tru_b, tru_n, tru_i, tru_l, tru_t, is_n, isn_n, nn_n, nn_i, nn_b, nn_t, nn_l, add_ii, add'_ii, sub_ii, neg_i, lt_ii, le_ii, gt_ii, ge_ii, ix_l, ix_t, ix_s, at0, at1, at2, sl_l, sl_t, len_l, len_t, len_s, abs_i, int_i, int_b, max_ii, min_ii, tup_s, lst_s, seq_l, seq_t, sum_s, wipe_n, wipe_c, mul_ii, fdiv_ii, mod_ii, add_ll, add_tt, setAll, mkT, mkL, oNot, List.getD_cons_zero, List.getD_cons_succ, List.length_cons, List.length_nil, List.set_cons_zero, List.set_cons_succ, List.map_cons, List.map_nil, List.replicate, List.cons_append, List.nil_append, List.append_nil, Option.bind_some, Option.map_some, List.all_cons, List.all_nil, if_true, if_false, reduceIte, Nat.reduceAdd, Nat.reduceSub, Nat.reduceLT, Nat.reduceLeDiff, Nat.reduceEqDiff, decide_true, decide_false, Bool.and_true, Bool.and_self, Bool.true_and, Bool.not_true, Bool.not_false, ne_eq, not_true_eq_false, not_false_eq_true, Nat.zero_add, Bool.false_eq_true, and_self, true_and, and_true, List.length_map, e0, hc, pw, hb, hr, h2]

theorem forL_find {β : Type} {g : D → PEnv → Option PEnv} {b : XS} (en : β → D) (P : β → Bool) (I : PEnv → Prop) (ret : β → D) : ∀ (xs : List β), (∀ x ∈ xs, ∀ ρ, I ρ → ∃ ρ1, g (en x) ρ = some ρ1 ∧ (P x = true → b ρ1 = some (.rt (ret x))) ∧ (P x = false → ∃ ρ2, b ρ1 = some (.nx ρ2) ∧ I ρ2)) →
    ∀ ρ, I ρ → (∃ x, xs.find? P = some x ∧ forL g b (xs.map en) ρ = some (.rt (ret x))) ∨ (xs.find? P = none ∧ ∃ ρ', forL g b (xs.map en) ρ = some (.nx ρ') ∧ I ρ')
  | [], _, ρ, h => .inr ⟨rfl, ρ, rfl, h⟩
  | x :: xs, hb, ρ, h => by
    obtain ⟨ρ1, e1, h1, h2⟩ := hb x (List.mem_cons_self ..) ρ h
    cases hp : P x with
    | true =>
      exact .inl ⟨x, by rw [List.find?_cons_of_pos hp], by simp only [List.map_cons, forL, e1, h1 hp, Option.bind_some]⟩
    | false =>
      obtain ⟨ρ2, e2, h3⟩ := h2 hp
      have hn : xs.find? P = (x :: xs).find? P := by rw [List.find?_cons_of_neg (by rw [hp]; decide)]
      rcases forL_find en P I ret xs (fun y hy => hb y (List.mem_cons_of_mem _ hy)) ρ2 h3 with ⟨z, z1, z2⟩ | ⟨z1, ρ', z2, z3⟩
      · exact .inl ⟨z, by rw [← hn, z1], by simp only [List.map_cons, forL, e1, e2, Option.bind_some, z2]⟩
      · exact .inr ⟨by rw [← hn, z1], ρ', by simp only [List.map_cons, forL, e1, e2, Option.bind_some, z2], z3⟩
theorem forL_fl {α β : Type} {g : D → PEnv → Option PEnv} {b : XS} {N : Nat} (en : α → D) (eb : β → D) (f : α → List β) (E : List D → PEnv → Prop) : ∀ (xs : List α) (acc : List D) (ρ : PEnv),
    (∀ x ∈ xs, ∀ acc ρ, acc.length + (f x).length ≤ N → E acc ρ → ∃ ρ1 ρ2, g (en x) ρ = some ρ1 ∧ b ρ1 = some (.nx ρ2) ∧ E (acc ++ (f x).map eb) ρ2) → acc.length + (xs.flatMap f).length ≤ N → E acc ρ →
    ∃ ρ', forL g b (xs.map en) ρ = some (.nx ρ') ∧ E (acc ++ (xs.flatMap f).map eb) ρ'
  | [], acc, ρ, _, _, h => ⟨ρ, rfl, by simpa using h⟩
  | x :: xs, acc, ρ, hb, hN, h => by
    rw [List.flatMap_cons, List.length_append] at hN
    obtain ⟨ρ1, ρ2, e1, e2, h2⟩ := hb x (by simp) acc ρ (by omega) h
    obtain ⟨ρ', e3, h3⟩ := forL_fl en eb f E xs (acc ++ (f x).map eb) ρ2 (fun y hy => hb y (List.mem_cons_of_mem _ hy)) (by rw [List.length_append, List.length_map]; omega) h2
    refine ⟨ρ', ?_, ?_⟩
    · simp only [List.map_cons, forL, e1, e2, Option.bind_some, e3]
    · rw [List.flatMap_cons, List.map_append, ← List.append_assoc]
      exact h3
def sqD (b : Bool) (xs : List D) : D := if b then .list xs else .tuple xs
theorem seq_q (b : Bool) (xs : List D) : seqD (sqD b xs) = some xs := by cases b <;> rfl
theorem len_q (b : Bool) (xs : List D) : bLen [sqD b xs] = some (.int xs.length) := by cases b <;> rfl
theorem ix_q (b : Bool) (xs : List D) (i : Int) : oIx (sqD b xs) (.int i) = atI xs i := by cases b <;> rfl
theorem lc2L_flat {α : Type} {g : XG} {it1 : XL} {g1 : XG} {t1 : PEnv → Option Bool} {f : Xp} {vs1 : List Nat} {ρ : PEnv} (enc : α → D) (h : α → List D) : ∀ (xs : List α), (∀ x ∈ xs, ∃ ρ1 es, g (enc x) ρ = some ρ1 ∧ it1 ρ1 = some es ∧ lcL g1 t1 f (wipeP ρ1 vs1) es = some (h x)) → lc2L g tYesP it1 g1 t1 f vs1 ρ (xs.map enc) = some (xs.flatMap h)
  | [], _ => rfl
  | x :: xs, hx => by
    obtain ⟨ρ1, es, e1, e2, e3⟩ := hx x (List.mem_cons_self ..)
    have := lc2L_flat (g := g) (it1 := it1) (g1 := g1) (t1 := t1) (f := f) (vs1 := vs1) (ρ := ρ) enc h xs fun y hy => hx y (List.mem_cons_of_mem _ hy)
    simp only [List.map_cons, lc2L, e1, e2, e3, tYesP, Option.bind_some, if_true, this, List.flatMap_cons]
theorem zipD_m {α β : Type} (f : α → D) (g : β → D) (A : List α) (B : List β) : zipD (A.map f) (B.map g) = (A.zip B).map fun p => .tuple [f p.1, g p.2] := by
  unfold zipD
  induction A generalizing B with
  | nil => simp
  | cons s A ih => cases B with
    | nil => simp
    | cons t B => simp [ih]
theorem fl_map {α β γ : Type} (f : α → List β) (g : β → γ) : ∀ l : List α, (l.flatMap fun x => (f x).map g) = (l.flatMap f).map g
  | [] => rfl
  | x :: l => by rw [List.flatMap_cons, List.flatMap_cons, List.map_append, fl_map f g l]
theorem sum_fl {α : Type} (f : α → List Int) : ∀ l : List α, (l.flatMap f).sum = (l.map fun x => (f x).sum).sum
  | [] => rfl
  | x :: l => by rw [List.flatMap_cons, List.sum_append, List.map_cons, List.sum_cons, sum_fl f l]
theorem fl_filter {α : Type} (p : α → Bool) : ∀ l : List α, (l.flatMap fun x => if p x then [x] else []) = l.filter p
  | [] => rfl
  | x :: l => by
    rw [List.flatMap_cons, fl_filter p l]
    by_cases h : p x = true
    · rw [if_pos h, List.filter_cons_of_pos h]; rfl
    · rw [if_neg h, List.filter_cons_of_neg h]; rfl
theorem fl_len {α β : Type} (f : α → List β) (k : Nat) : ∀ l : List α, (∀ x ∈ l, (f x).length ≤ k) → (l.flatMap f).length ≤ l.length * k := by
  intro l
  induction l with
  | nil => simp
  | cons x l ih =>
    intro h
    rw [List.flatMap_cons, List.length_append, List.length_cons, Nat.succ_mul]
    have h1 := h x (by simp)
    have h2 := ih fun y hy => h y (List.mem_cons_of_mem _ hy)
    omega
theorem like_ints (k : Nat) (l : List Int) (h : l.length ≤ 1000) : d__law_like (k + 2) [.tuple (l.map PyData.int), .tuple (l.map PyData.int)] = some (.bool true) := by
  refine like_tup _ _ (by rw [List.length_map]; omega) fun x hx => ?_
  obtain ⟨i, _, rfl⟩ := List.mem_map.mp hx
  exact like_int _ _
theorem len_fm {α β : Type} (f : α → Option β) : ∀ l : List α, (l.flatMap fun s => (f s).toList).length ≤ l.length := by
  intro l
  induction l with
  | nil => simp
  | cons x l ih =>
    rw [List.flatMap_cons, List.length_append, List.length_cons]
    have : (f x).toList.length ≤ 1 := by cases f x <;> simp
    omega
end K20

namespace K20
open PySem PySem.Spec PyProof.Rows L2 Pm
open PySem.W (Datum Tup)
def oD (o : List Nat) : D := .tuple (o.map fun j => PyData.int (j : Nat))
def tI (o : List Nat) : Tup Int := ⟨o.map fun j : Nat => (j : Int)⟩
abbrev Sk := Int × Tup Int
def sk (o : List Nat) : Sk := ((o.length : Int), tI o)
def kD (o : List Nat) : D := .tuple [.int (o.length : Nat), oD o]
theorem toD_tI (o : List Nat) : Datum.toD (tI o) = oD o := by
  show PyData.tuple ((o.map fun j : Nat => (j : Int)).map Datum.toD) = _
  rw [List.map_map]
  rfl
theorem toD_sk (o : List Nat) : Datum.toD (sk o) = kD o := by
  show PyData.tuple [.int (o.length : Int), Datum.toD (tI o)] = _
  rw [toD_tI]
  rfl
theorem tI_inj {a b : List Nat} (h : tI a = tI b) : a = b := by
  have h1 : a.map (fun j : Nat => (j : Int)) = b.map (fun j : Nat => (j : Int)) := congrArg Tup.items h
  have h2 := congrArg (List.map Int.toNat) h1
  rw [List.map_map, List.map_map] at h2
  simpa [Function.comp_def] using h2
theorem sk_inj {a b : List Nat} (h : sk a = sk b) : a = b := tI_inj (congrArg Prod.snd h)
def LS : Nat → List (List Nat)
  | 1 => [[], [0]]
  | 2 => [[], [0], [0, 1], [1]]
  | 3 => [[], [0], [0, 1], [0, 1, 2], [0, 2], [1], [1, 2], [2]]
  | 4 => [[], [0], [0, 1], [0, 1, 2], [0, 1, 2, 3], [0, 1, 3], [0, 2], [0, 2, 3], [0, 3], [1], [1, 2], [1, 2, 3], [1, 3], [2], [2, 3], [3]]
  | 5 => [[], [0], [0, 1], [0, 1, 2], [0, 1, 2, 3], [0, 1, 2, 3, 4], [0, 1, 2, 4], [0, 1, 3], [0, 1, 3, 4], [0, 1, 4], [0, 2], [0, 2, 3], [0, 2, 3, 4], [0, 2, 4], [0, 3], [0, 3, 4], [0, 4], [1], [1, 2], [1, 2, 3], [1, 2, 3, 4], [1, 2, 4], [1, 3], [1, 3, 4], [1, 4], [2], [2, 3], [2, 3, 4], [2, 4], [3], [3, 4], [4]]
  | _ => []
def SS : Nat → List (List Nat)
  | 1 => [[], [0]]
  | 2 => [[], [0], [1], [0, 1]]
  | 3 => [[], [0], [1], [2], [0, 1], [0, 2], [1, 2], [0, 1, 2]]
  | 4 => [[], [0], [1], [2], [3], [0, 1], [0, 2], [0, 3], [1, 2], [1, 3], [2, 3], [0, 1, 2], [0, 1, 3], [0, 2, 3], [1, 2, 3], [0, 1, 2, 3]]
  | 5 => [[], [0], [1], [2], [3], [4], [0, 1], [0, 2], [0, 3], [0, 4], [1, 2], [1, 3], [1, 4], [2, 3], [2, 4], [3, 4], [0, 1, 2], [0, 1, 3], [0, 1, 4], [0, 2, 3], [0, 2, 4], [0, 3, 4], [1, 2, 3], [1, 2, 4], [1, 3, 4], [2, 3, 4], [0, 1, 2, 3], [0, 1, 2, 4], [0, 1, 3, 4], [0, 2, 3, 4], [1, 2, 3, 4], [0, 1, 2, 3, 4]]
  | _ => []
def GR1 : List (List Nat) := [[], [0]]
theorem ls_a1 : d_all_sets [.int (1 : Nat)] = some (.list ((LS 1).map oD)) := by kernel_rfl
theorem ls_g1 : forL (gSet 2) l1__law_sets ((List.range 1).map fun k : Nat => PyData.int (k : Nat)) [some (.int (1 : Nat)), some (.list [.tuple []]), none, none] = some (.nx [some (.int (1 : Nat)), some (.list (GR1.map oD)), some (.int (0 : Nat)), none]) := by kernel_rfl
theorem ls_p1 : (LS 1).Perm GR1 := by decide +kernel
theorem ls_s1 : ((LS 1).map tI).Pairwise fun x y : Tup Int => Pm.lt' y x = false := by decide +kernel
theorem ls_q1 : (SS 1).Perm (LS 1) := by decide +kernel
theorem ls_k1 : ((SS 1).map sk).Pairwise fun x y : Int × Tup Int => Pm.lt' x y = true := by decide +kernel
theorem ls_n1 : (LS 1).length ≤ 32 ∧ ∀ l ∈ LS 1, l.Nodup ∧ l.length ≤ 1 ∧ ∀ k ∈ l, k < 1 := by decide +kernel
def GR2 : List (List Nat) := [[], [0], [1], [0, 1]]
theorem ls_a2 : d_all_sets [.int (2 : Nat)] = some (.list ((LS 2).map oD)) := by kernel_rfl
theorem ls_g2 : forL (gSet 2) l1__law_sets ((List.range 2).map fun k : Nat => PyData.int (k : Nat)) [some (.int (2 : Nat)), some (.list [.tuple []]), none, none] = some (.nx [some (.int (2 : Nat)), some (.list (GR2.map oD)), some (.int (1 : Nat)), none]) := by kernel_rfl
theorem ls_p2 : (LS 2).Perm GR2 := by decide +kernel
theorem ls_s2 : ((LS 2).map tI).Pairwise fun x y : Tup Int => Pm.lt' y x = false := by decide +kernel
theorem ls_q2 : (SS 2).Perm (LS 2) := by decide +kernel
theorem ls_k2 : ((SS 2).map sk).Pairwise fun x y : Int × Tup Int => Pm.lt' x y = true := by decide +kernel
theorem ls_n2 : (LS 2).length ≤ 32 ∧ ∀ l ∈ LS 2, l.Nodup ∧ l.length ≤ 2 ∧ ∀ k ∈ l, k < 2 := by decide +kernel
def GR3 : List (List Nat) := [[], [0], [1], [0, 1], [2], [0, 2], [1, 2], [0, 1, 2]]
theorem ls_a3 : d_all_sets [.int (3 : Nat)] = some (.list ((LS 3).map oD)) := by kernel_rfl
theorem ls_g3 : forL (gSet 2) l1__law_sets ((List.range 3).map fun k : Nat => PyData.int (k : Nat)) [some (.int (3 : Nat)), some (.list [.tuple []]), none, none] = some (.nx [some (.int (3 : Nat)), some (.list (GR3.map oD)), some (.int (2 : Nat)), none]) := by kernel_rfl
theorem ls_p3 : (LS 3).Perm GR3 := by decide +kernel
theorem ls_s3 : ((LS 3).map tI).Pairwise fun x y : Tup Int => Pm.lt' y x = false := by decide +kernel
theorem ls_q3 : (SS 3).Perm (LS 3) := by decide +kernel
theorem ls_k3 : ((SS 3).map sk).Pairwise fun x y : Int × Tup Int => Pm.lt' x y = true := by decide +kernel
theorem ls_n3 : (LS 3).length ≤ 32 ∧ ∀ l ∈ LS 3, l.Nodup ∧ l.length ≤ 3 ∧ ∀ k ∈ l, k < 3 := by decide +kernel
def GR4 : List (List Nat) := [[], [0], [1], [0, 1], [2], [0, 2], [1, 2], [0, 1, 2], [3], [0, 3], [1, 3], [0, 1, 3], [2, 3], [0, 2, 3], [1, 2, 3], [0, 1, 2, 3]]
theorem ls_a4 : d_all_sets [.int (4 : Nat)] = some (.list ((LS 4).map oD)) := by kernel_rfl
theorem ls_g4 : forL (gSet 2) l1__law_sets ((List.range 4).map fun k : Nat => PyData.int (k : Nat)) [some (.int (4 : Nat)), some (.list [.tuple []]), none, none] = some (.nx [some (.int (4 : Nat)), some (.list (GR4.map oD)), some (.int (3 : Nat)), none]) := by kernel_rfl
theorem ls_p4 : (LS 4).Perm GR4 := by decide +kernel
theorem ls_s4 : ((LS 4).map tI).Pairwise fun x y : Tup Int => Pm.lt' y x = false := by decide +kernel
theorem ls_q4 : (SS 4).Perm (LS 4) := by decide +kernel
theorem ls_k4 : ((SS 4).map sk).Pairwise fun x y : Int × Tup Int => Pm.lt' x y = true := by decide +kernel
theorem ls_n4 : (LS 4).length ≤ 32 ∧ ∀ l ∈ LS 4, l.Nodup ∧ l.length ≤ 4 ∧ ∀ k ∈ l, k < 4 := by decide +kernel
def GR5 : List (List Nat) := [[], [0], [1], [0, 1], [2], [0, 2], [1, 2], [0, 1, 2], [3], [0, 3], [1, 3], [0, 1, 3], [2, 3], [0, 2, 3], [1, 2, 3], [0, 1, 2, 3], [4], [0, 4], [1, 4], [0, 1, 4], [2, 4], [0, 2, 4], [1, 2, 4], [0, 1, 2, 4], [3, 4], [0, 3, 4], [1, 3, 4], [0, 1, 3, 4], [2, 3, 4], [0, 2, 3, 4], [1, 2, 3, 4], [0, 1, 2, 3, 4]]
theorem ls_a5 : d_all_sets [.int (5 : Nat)] = some (.list ((LS 5).map oD)) := by kernel_rfl
theorem ls_g5 : forL (gSet 2) l1__law_sets ((List.range 5).map fun k : Nat => PyData.int (k : Nat)) [some (.int (5 : Nat)), some (.list [.tuple []]), none, none] = some (.nx [some (.int (5 : Nat)), some (.list (GR5.map oD)), some (.int (4 : Nat)), none]) := by kernel_rfl
theorem ls_p5 : (LS 5).Perm GR5 := by decide +kernel
theorem ls_s5 : ((LS 5).map tI).Pairwise fun x y : Tup Int => Pm.lt' y x = false := by decide +kernel
theorem ls_q5 : (SS 5).Perm (LS 5) := by decide +kernel
theorem ls_k5 : ((SS 5).map sk).Pairwise fun x y : Int × Tup Int => Pm.lt' x y = true := by decide +kernel
theorem ls_n5 : (LS 5).length ≤ 32 ∧ ∀ l ∈ LS 5, l.Nodup ∧ l.length ≤ 5 ∧ ∀ k ∈ l, k < 5 := by decide +kernel
theorem ls_a {m : Nat} (h1 : 1 ≤ m) (h5 : m ≤ 5) : d_all_sets [.int (m : Nat)] = some (.list ((LS m).map oD)) := by
  obtain rfl | rfl | rfl | rfl | rfl : m = 1 ∨ m = 2 ∨ m = 3 ∨ m = 4 ∨ m = 5 := by omega
  · exact ls_a1
  · exact ls_a2
  · exact ls_a3
  · exact ls_a4
  · exact ls_a5
theorem ls_q {m : Nat} (h1 : 1 ≤ m) (h5 : m ≤ 5) : (SS m).Perm (LS m) := by
  obtain rfl | rfl | rfl | rfl | rfl : m = 1 ∨ m = 2 ∨ m = 3 ∨ m = 4 ∨ m = 5 := by omega
  · exact ls_q1
  · exact ls_q2
  · exact ls_q3
  · exact ls_q4
  · exact ls_q5
theorem ls_k {m : Nat} (h1 : 1 ≤ m) (h5 : m ≤ 5) : ((SS m).map sk).Pairwise fun x y : Int × Tup Int => Pm.lt' x y = true := by
  obtain rfl | rfl | rfl | rfl | rfl : m = 1 ∨ m = 2 ∨ m = 3 ∨ m = 4 ∨ m = 5 := by omega
  · exact ls_k1
  · exact ls_k2
  · exact ls_k3
  · exact ls_k4
  · exact ls_k5
theorem ls_n {m : Nat} (h1 : 1 ≤ m) (h5 : m ≤ 5) : (LS m).length ≤ 32 ∧ ∀ l ∈ LS m, l.Nodup ∧ l.length ≤ m ∧ ∀ k ∈ l, k < m := by
  obtain rfl | rfl | rfl | rfl | rfl : m = 1 ∨ m = 2 ∨ m = 3 ∨ m = 4 ∨ m = 5 := by omega
  · exact ls_n1
  · exact ls_n2
  · exact ls_n3
  · exact ls_n4
  · exact ls_n5
end K20

namespace K20
open PySem PySem.Spec PyProof.Rows L2 Pm
open PySem.W (Datum Tup dataLe)
theorem perm_sorted {α : Type} [DecidableEq α] [PySem.W.DatumOrd α] [LinD α] : ∀ {a b : List α}, a.Perm b → a.Pairwise (fun x y => Pm.lt' y x = false) → b.Pairwise (fun x y => Pm.lt' y x = false) → a = b
  | [], b, h, _, _ => (List.Perm.nil_eq h)
  | x :: xs, [], h, _, _ => absurd h.length_eq (by simp)
  | x :: xs, y :: ys, h, h1, h2 => by
    obtain ⟨a1, a2⟩ := List.pairwise_cons.mp h1
    obtain ⟨b1, b2⟩ := List.pairwise_cons.mp h2
    have e : x = y := by
      have m1 : x ∈ y :: ys := h.mem_iff.mp (by simp)
      have m2 : y ∈ x :: xs := h.mem_iff.mpr (by simp)
      rcases List.mem_cons.mp m1 with e | m1
      · exact e
      · rcases List.mem_cons.mp m2 with e | m2
        · exact e.symm
        · exact LinD.tri _ _ (b1 x m1) (a1 y m2)
    subst e
    rw [perm_sorted ((List.perm_cons x).mp h) a2 b2]
theorem lt_asym {α : Type} [DecidableEq α] [PySem.W.DatumOrd α] [LinD α] {x y : α} (h : Pm.lt' x y = true) : Pm.lt' y x = false := by
  rcases LinD.asym x y with h2 | h2
  · rw [h2] at h; cases h
  · exact h2
theorem merge_sorted {α : Type} [DecidableEq α] [PySem.W.DatumOrd α] [LinD α] (l : List α) : (l.mergeSort leB).Pairwise fun a b => Pm.lt' b a = false := by
  have h := List.pairwise_mergeSort (le := (leB : α → α → Bool)) (fun a b c h1 h2 => by
    unfold leB at *
    simp only [Bool.not_eq_true'] at *
    exact LinD.trans c b a h2 h1) (fun a b => by
    unfold leB
    rcases LinD.asym a b with h | h
    · rw [h]; simp
    · rw [h]; simp) l
  exact h.imp fun h => by
    unfold leB at h
    simpa using h
/-! the sets in order of their numbers -/
theorem sortedE_tup (l l' : List (List Nat)) (hp : l'.Perm l) (hs : (l'.map tI).Pairwise fun x y : Tup Int => Pm.lt' y x = false) (h0 : l.head? = some []) (hl : l.length ≤ 1000) : bSortedE [.list (l.map oD)] = some (.list (l'.map oD)) := by
  have em : l.map oD = (l.map tI).map Datum.toD := by
    rw [List.map_map]
    exact List.map_congr_left fun o _ => (toD_tI o).symm
  have em' : l'.map oD = (l'.map tI).map Datum.toD := by
    rw [List.map_map]
    exact List.map_congr_left fun o _ => (toD_tI o).symm
  have ok : okSortE (l.map oD) = true := by
    have hA := PySem.W.alikeAll_datum (l.map tI)
    rw [← em] at hA
    unfold okSortE
    rw [Bool.and_eq_true, Bool.and_eq_true, Bool.and_eq_true, Bool.and_eq_true]
    refine ⟨⟨⟨?_, ?_⟩, ?_⟩, ?_, ?_⟩
    · rw [List.all_eq_true]
      exact fun x hx => List.all_eq_true.mpr fun y hy => hA.1 x hx y hy
    · rw [List.all_eq_true]
      intro x hx
      obtain ⟨a, _, rfl⟩ := List.mem_map.mp hx
      have h1 := Datum.depth_le (tI a)
      have h2 : Datum.depth (Tup Int) ≤ 20 := by decide
      rw [Bool.and_eq_true, decide_eq_true_eq, ← toD_tI]
      refine ⟨?_, by omega⟩
      unfold shp SeqAt.shaped
      rw [LinD.lay (tI a), Bool.true_and]
      exact decide_eq_true (by omega)
    · rw [List.length_map]
      exact decide_eq_true (by omega)
    · rw [List.head?_map, h0]
      rfl
    · rw [List.all_map, List.all_eq_true]
      exact fun x _ => rfl
  have hm : (l.map tI).mergeSort leB = l'.map tI := perm_sorted ((List.mergeSort_perm _ _).trans (hp.symm.map tI)) (merge_sorted _) hs
  show ((seqD (.list (l.map oD))).bind fun ds => if okSortE ds then some (PyData.list (ds.mergeSort (PySem.W.dataLe false id))) else none) = _
  rw [seq_l, Option.bind_some, if_pos ok, em, ← PySem.W.sort_maps (r := leB) (s := PySem.W.dataLe false id) (Datum.toD : Tup Int → D) (fun a _ b _ => (dataLe_lt a b).symm), hm, ← em']
theorem law_sets_of {m : Nat} (hm : m ≤ 100) {G : List (List Nat)} {y : Option D} (hg : forL (gSet 2) l1__law_sets ((List.range m).map fun k : Nat => PyData.int (k : Nat)) [some (.int (m : Nat)), some (.list [.tuple []]), none, none] = some (.nx [some (.int (m : Nat)), some (.list (G.map oD)), y, none])) {l' : List (List Nat)} (hp : l'.Perm G) (hs : (l'.map tI).Pairwise fun x y : Tup Int => Pm.lt' y x = false) (h0 : G.head? = some []) (hl : G.length ≤ 1000) :
    d__law_sets [.int (m : Nat)] = some (.list (l'.map oD)) := by
  have hr := rg0 m (by omega)
  have s := sortedE_tup G l' hp hs h0 hl
  generalize (List.range m).map (fun k : Nat => PyData.int (k : Nat)) = R at *
  generalize G.map oD = GD at *
  generalize l'.map oD = LD at *
  simp -implicitDefEqProofs only [d__law_sets, g__law_sets, xVar_a, xC_a, xBin_a, xUn_a, tOf_a, tTru_a, tNotP_a, tAndP_a, tOrP_a, tyes_a, tno_a, tYesP_a, xNil_a, xCons_a, xTup_a, xLst_a, xAnd_a, xOr_a, xIf_a, xChain_a, oNo_a, oAt_a, xSl_a, xCall_a, xSeq_a, xIt_a, xLc_a, gSet_a, gTupD_a, gsNil_a, gsCons_a, sNop_a, sBrk_a, sCnt_a, sSeq_a, sRet_a, sIf_a, sSet_a, sTgt_a, sAug_a, sApp_a, sExt_a, sPut_a, sPutK_a, pkO_s, sFor_a, sWhile_a, sPar_a, runD_a, b2_s, c2_s, sqO_nx, sqO_rt, sqO_bk, sqO_ct, ifO_t, ifO_f, stO_s, endO_nx, endO_rt, andO_t, andO_f, orO_t, orO_f, chO_s, chP_t, chP_f, slO_s, atO_i, lcO_s, forO_s, gsO_s, nxO_s, tgO_s, paO_s, apO_s, exO_s, plO_s, ptO_s, dB_b, tru_b, tru_n, tru_i, tru_l, tru_t, is_n, isn_n, nn_n, nn_i, nn_b, nn_t, nn_l, add_ii, add'_ii, sub_ii, neg_i, lt_ii, le_ii, gt_ii, ge_ii, ix_l, ix_t, ix_s, at0, at1, at2, sl_l, sl_t, len_l, len_t, len_s, abs_i, int_i, int_b, max_ii, min_ii, tup_s, lst_s, seq_l, seq_t, sum_s, wipe_n, wipe_c, mul_ii, fdiv_ii, mod_ii, add_ll, add_tt, setAll, mkT, mkL, oNot, List.getD_cons_zero, List.getD_cons_succ, List.length_cons, List.length_nil, List.set_cons_zero, List.set_cons_succ, List.map_cons, List.map_nil, List.replicate, List.cons_append, List.nil_append, List.append_nil, Option.bind_some, Option.map_some, List.all_cons, List.all_nil, if_true, if_false, reduceIte, Nat.reduceAdd, Nat.reduceSub, Nat.reduceLT, Nat.reduceLeDiff, Nat.reduceEqDiff, decide_true, decide_false, Bool.and_true, Bool.and_self, Bool.true_and, Bool.not_true, Bool.not_false, ne_eq, not_true_eq_false, not_false_eq_true, Nat.zero_add, Bool.false_eq_true, and_self, true_and, and_true, hr, hg, s]
theorem ls_b {m : Nat} (h1 : 1 ≤ m) (h5 : m ≤ 5) : d__law_sets [.int (m : Nat)] = some (.list ((LS m).map oD)) := by
  obtain rfl | rfl | rfl | rfl | rfl : m = 1 ∨ m = 2 ∨ m = 3 ∨ m = 4 ∨ m = 5 := by omega
  · exact law_sets_of (by decide) ls_g1 ls_p1 ls_s1 rfl (by decide)
  · exact law_sets_of (by decide) ls_g2 ls_p2 ls_s2 rfl (by decide)
  · exact law_sets_of (by decide) ls_g3 ls_p3 ls_s3 rfl (by decide)
  · exact law_sets_of (by decide) ls_g4 ls_p4 ls_s4 rfl (by decide)
  · exact law_sets_of (by decide) ls_g5 ls_p5 ls_s5 rfl (by decide)
/-! the sets by size -/
theorem size_key_eq (o : List Nat) : d_size_key [oD o] = some (kD o) := by
  have hl : bLen [oD o] = some (.int (o.length : Nat)) := by
    show bLen [.tuple (o.map fun j => PyData.int (j : Nat))] = _
    rw [len_t, List.length_map]
  generalize hO : oD o = O at *
  simp -implicitDefEqProofs only [d_size_key, g_size_key, xVar_a, xC_a, xBin_a, xUn_a, tOf_a, tTru_a, tNotP_a, tAndP_a, tOrP_a, tyes_a, tno_a, tYesP_a, xNil_a, xCons_a, xTup_a, xLst_a, xAnd_a, xOr_a, xIf_a, xChain_a, oNo_a, oAt_a, xSl_a, xCall_a, xSeq_a, xIt_a, xLc_a, gSet_a, gTupD_a, gsNil_a, gsCons_a, sNop_a, sBrk_a, sCnt_a, sSeq_a, sRet_a, sIf_a, sSet_a, sTgt_a, sAug_a, sApp_a, sExt_a, sPut_a, sPutK_a, pkO_s, sFor_a, sWhile_a, sPar_a, runD_a, b2_s, c2_s, sqO_nx, sqO_rt, sqO_bk, sqO_ct, ifO_t, ifO_f, stO_s, endO_nx, endO_rt, andO_t, andO_f, orO_t, orO_f, chO_s, chP_t, chP_f, slO_s, atO_i, lcO_s, forO_s, gsO_s, nxO_s, tgO_s, paO_s, apO_s, exO_s, plO_s, ptO_s, dB_b, tru_b, tru_n, tru_i, tru_l, tru_t, is_n, isn_n, nn_n, nn_i, nn_b, nn_t, nn_l, add_ii, add'_ii, sub_ii, neg_i, lt_ii, le_ii, gt_ii, ge_ii, ix_l, ix_t, ix_s, at0, at1, at2, sl_l, sl_t, len_l, len_t, len_s, abs_i, int_i, int_b, max_ii, min_ii, tup_s, lst_s, seq_l, seq_t, sum_s, wipe_n, wipe_c, mul_ii, fdiv_ii, mod_ii, add_ll, add_tt, setAll, mkT, mkL, oNot, List.getD_cons_zero, List.getD_cons_succ, List.length_cons, List.length_nil, List.set_cons_zero, List.set_cons_succ, List.map_cons, List.map_nil, List.replicate, List.cons_append, List.nil_append, List.append_nil, Option.bind_some, Option.map_some, List.all_cons, List.all_nil, if_true, if_false, reduceIte, Nat.reduceAdd, Nat.reduceSub, Nat.reduceLT, Nat.reduceLeDiff, Nat.reduceEqDiff, decide_true, decide_false, Bool.and_true, Bool.and_self, Bool.true_and, Bool.not_true, Bool.not_false, ne_eq, not_true_eq_false, not_false_eq_true, Nat.zero_add, Bool.false_eq_true, and_self, true_and, and_true, hl, kD, hO]
theorem keys_of : ∀ l : List (List Nat), keysO d_size_key (l.map oD) = some (l.map kD)
  | [] => rfl
  | o :: l => by
    rw [List.map_cons, keysO, size_key_eq, Option.bind_some, keys_of l]
    rfl
theorem kf_of (o : List Nat) : kf d_size_key (oD o) = Datum.toD (sk o) := by
  unfold kf
  rw [size_key_eq, toD_sk]
  rfl
theorem kD_map (l : List (List Nat)) : l.map kD = (l.map sk).map Datum.toD := by
  rw [List.map_map]
  exact List.map_congr_left fun o _ => (toD_sk o).symm
theorem ok_keys (l : List (List Nat)) (hl : l.length ≤ 1000) : okSort (l.map kD) = true := by
  rw [kD_map]
  exact okSort_map (α := Sk) (by decide) (l.map sk) (by rw [List.length_map]; omega) (.inl fun a => ⟨_, _, rfl⟩)
theorem sort_size (l l' : List (List Nat)) (hp : l'.Perm l) (hs : (l'.map sk).Pairwise fun x y : Sk => Pm.lt' x y = true) (hl : l.length ≤ 1000) : bSortKL d_size_key [.list (l.map oD)] = some (.list (l'.map oD)) := by
  show ((keysO d_size_key (l.map oD)).bind fun ks => if okSort ks = true ∧ (l.map oD).length ≤ 16777216 then some (PyData.list ((l.map oD).mergeSort (dataLe false (kf d_size_key)))) else none) = _
  rw [keys_of, Option.bind_some, if_pos ⟨ok_keys l hl, by rw [List.length_map]; omega⟩]
  have e1 : (l.map oD).mergeSort (dataLe false (kf d_size_key)) = (l.mergeSort fun a b => leB (sk a) (sk b)).map oD := by
    refine (PySem.W.sort_maps (r := fun a b => leB (sk a) (sk b)) (s := dataLe false (kf d_size_key)) oD fun a _ b _ => ?_).symm
    have h := dataLe_lt (sk a) (sk b)
    rw [← h]
    unfold PySem.W.dataLe PySem.W.sortLe
    simp only [kf_of]
  have e2 : (l.mergeSort fun a b => leB (sk a) (sk b)).map sk = (l.map sk).mergeSort leB := PySem.W.sort_maps (r := fun a b => leB (sk a) (sk b)) (s := leB) sk fun _ _ _ _ => rfl
  have e3 : (l.map sk).mergeSort leB = l'.map sk := perm_sorted ((List.mergeSort_perm _ _).trans (hp.symm.map sk)) (merge_sorted _) (hs.imp fun h => lt_asym h)
  have e4 : (l.mergeSort fun a b => leB (sk a) (sk b)) = l' := by
    have q := e2.trans e3
    generalize (l.mergeSort fun a b => leB (sk a) (sk b)) = X at q
    clear e1 e2 e3 hp hs hl
    induction X generalizing l' with
    | nil =>
      cases l' with
      | nil => rfl
      | cons a b => simp at q
    | cons x X ih =>
      cases l' with
      | nil => simp at q
      | cons a b =>
        rw [List.map_cons, List.map_cons] at q
        obtain ⟨q1, q2⟩ := List.cons.inj q
        rw [sk_inj q1, ih b q2]
  rw [e1, e4]
theorem ls_ss {m : Nat} (h1 : 1 ≤ m) (h5 : m ≤ 5) : bSortKL d_size_key [.list ((LS m).map oD)] = some (.list ((SS m).map oD)) :=
  sort_size (LS m) (SS m) (ls_q h1 h5) (ls_k h1 h5) (by have := (ls_n h1 h5).1; omega)
/-! the least set -/
def rsD : Option (List Nat) → D
  | none => .none
  | some l => oD l
theorem least_head {α : Type} [DecidableEq α] [PySem.W.DatumOrd α] [LinD α] {l : List α} (h : l.Pairwise fun a b => Pm.lt' a b = true) : least l = l.head? := by
  cases l with
  | nil => rfl
  | cons x xs =>
    rw [List.head?_cons, least_iff]
    refine ⟨by simp, fun y hy => ?_⟩
    rcases List.mem_cons.mp hy with rfl | hy
    · exact lt_irr _
    · exact lt_asym ((List.pairwise_cons.mp h).1 y hy)
theorem find_filter {α : Type} (p : α → Bool) : ∀ l : List α, (l.filter p).head? = l.find? p
  | [] => rfl
  | a :: l => by
    cases h : p a with
    | true => rw [List.filter_cons_of_pos h, List.find?_cons_of_pos h]; rfl
    | false => rw [List.filter_cons_of_neg (by rw [h]; decide), List.find?_cons_of_neg (by rw [h]; decide), find_filter p l]
theorem least_filter {m : Nat} (h1 : 1 ≤ m) (h5 : m ≤ 5) (p : List Nat → Bool) : least (((LS m).filter p).map sk) = ((SS m).find? p).map sk := by
  have hq := ls_q h1 h5
  have e1 : least (((LS m).filter p).map sk) = least (((SS m).filter p).map sk) := least_mem fun a => by
    rw [List.mem_map, List.mem_map]
    constructor
    · rintro ⟨o, ho, rfl⟩
      obtain ⟨a1, a2⟩ := List.mem_filter.mp ho
      exact ⟨o, List.mem_filter.mpr ⟨hq.mem_iff.mpr a1, a2⟩, rfl⟩
    · rintro ⟨o, ho, rfl⟩
      obtain ⟨a1, a2⟩ := List.mem_filter.mp ho
      exact ⟨o, List.mem_filter.mpr ⟨hq.mem_iff.mp a1, a2⟩, rfl⟩
  have e2 : least (((SS m).filter p).map sk) = (((SS m).filter p).map sk).head? := least_head ((ls_k h1 h5).sublist ((List.filter_sublist (p := p) (l := SS m)).map sk))
  rw [e1, e2, List.head?_map, find_filter]
theorem least_set_eq {m : Nat} (h1 : 1 ≤ m) (h5 : m ≤ 5) (p : List Nat → Bool) : d__law_least_set [.list (((LS m).filter p).map kD)] = some (rsD ((SS m).find? p)) := by
  have hl : ((LS m).filter p).length ≤ 32 := Nat.le_trans (List.length_filter_le ..) (ls_n h1 h5).1
  obtain ⟨l', hp, hs, hh, hb⟩ := sorted_map (α := Sk) (by decide) (x := .list (((LS m).filter p).map kD)) (((LS m).filter p).map sk) (by rw [List.length_map]; omega) (.inl fun a => ⟨_, _, rfl⟩) (by rw [seq_l, kD_map])
  rw [least_filter h1 h5 p] at hh
  have hl2 : l'.length ≤ 32 := by rw [hp.length_eq, List.length_map]; exact hl
  cases hf : (SS m).find? p with
  | none =>
    rw [hf, Option.map_none] at hh
    have e : l' = [] := by
      cases l' with
      | nil => rfl
      | cons a b => simp at hh
    subst e
    rw [List.map_nil] at hb
    generalize ((LS m).filter p).map kD = K at *
    simp -implicitDefEqProofs only [d__law_least_set, g__law_least_set, xVar_a, xC_a, xBin_a, xUn_a, tOf_a, tTru_a, tNotP_a, tAndP_a, tOrP_a, tyes_a, tno_a, tYesP_a, xNil_a, xCons_a, xTup_a, xLst_a, xAnd_a, xOr_a, xIf_a, xChain_a, oNo_a, oAt_a, xSl_a, xCall_a, xSeq_a, xIt_a, xLc_a, gSet_a, gTupD_a, gsNil_a, gsCons_a, sNop_a, sBrk_a, sCnt_a, sSeq_a, sRet_a, sIf_a, sSet_a, sTgt_a, sAug_a, sApp_a, sExt_a, sPut_a, sPutK_a, pkO_s, sFor_a, sWhile_a, sPar_a, runD_a, b2_s, c2_s, sqO_nx, sqO_rt, sqO_bk, sqO_ct, ifO_t, ifO_f, stO_s, endO_nx, endO_rt, andO_t, andO_f, orO_t, orO_f, chO_s, chP_t, chP_f, slO_s, atO_i, lcO_s, forO_s, gsO_s, nxO_s, tgO_s, paO_s, apO_s, exO_s, plO_s, ptO_s, dB_b, tru_b, tru_n, tru_i, tru_l, tru_t, is_n, isn_n, nn_n, nn_i, nn_b, nn_t, nn_l, add_ii, add'_ii, sub_ii, neg_i, lt_ii, le_ii, gt_ii, ge_ii, ix_l, ix_t, ix_s, at0, at1, at2, sl_l, sl_t, len_l, len_t, len_s, abs_i, int_i, int_b, max_ii, min_ii, tup_s, lst_s, seq_l, seq_t, sum_s, wipe_n, wipe_c, mul_ii, fdiv_ii, mod_ii, add_ll, add_tt, setAll, mkT, mkL, oNot, List.getD_cons_zero, List.getD_cons_succ, List.length_cons, List.length_nil, List.set_cons_zero, List.set_cons_succ, List.map_cons, List.map_nil, List.replicate, List.cons_append, List.nil_append, List.append_nil, Option.bind_some, Option.map_some, List.all_cons, List.all_nil, if_true, if_false, reduceIte, Nat.reduceAdd, Nat.reduceSub, Nat.reduceLT, Nat.reduceLeDiff, Nat.reduceEqDiff, decide_true, decide_false, Bool.and_true, Bool.and_self, Bool.true_and, Bool.not_true, Bool.not_false, ne_eq, not_true_eq_false, not_false_eq_true, Nat.zero_add, Bool.false_eq_true, and_self, true_and, and_true, hb, rsD]
  | some o =>
    rw [hf, Option.map_some] at hh
    obtain ⟨l2, rfl⟩ : ∃ l2, l' = sk o :: l2 := by
      cases l' with
      | nil => simp at hh
      | cons a b =>
        rw [List.head?_cons] at hh
        exact ⟨b, by rw [Option.some.inj hh]⟩
    rw [List.map_cons, toD_sk] at hb
    have ha : oAdd (.list (kD o :: l2.map Datum.toD)) (.list [.tuple [.int 0, .none]]) = some (.list ((kD o :: l2.map Datum.toD) ++ [.tuple [.int 0, .none]])) := add_ll (by simp at hl2 ⊢; omega)
    rw [List.cons_append] at ha
    generalize ((LS m).filter p).map kD = K at *
    generalize kD o :: l2.map Datum.toD = KK at *
    generalize l2.map Datum.toD ++ [PyData.tuple [.int 0, .none]] = KR at *
    simp -implicitDefEqProofs only [d__law_least_set, g__law_least_set, xVar_a, xC_a, xBin_a, xUn_a, tOf_a, tTru_a, tNotP_a, tAndP_a, tOrP_a, tyes_a, tno_a, tYesP_a, xNil_a, xCons_a, xTup_a, xLst_a, xAnd_a, xOr_a, xIf_a, xChain_a, oNo_a, oAt_a, xSl_a, xCall_a, xSeq_a, xIt_a, xLc_a, gSet_a, gTupD_a, gsNil_a, gsCons_a, sNop_a, sBrk_a, sCnt_a, sSeq_a, sRet_a, sIf_a, sSet_a, sTgt_a, sAug_a, sApp_a, sExt_a, sPut_a, sPutK_a, pkO_s, sFor_a, sWhile_a, sPar_a, runD_a, b2_s, c2_s, sqO_nx, sqO_rt, sqO_bk, sqO_ct, ifO_t, ifO_f, stO_s, endO_nx, endO_rt, andO_t, andO_f, orO_t, orO_f, chO_s, chP_t, chP_f, slO_s, atO_i, lcO_s, forO_s, gsO_s, nxO_s, tgO_s, paO_s, apO_s, exO_s, plO_s, ptO_s, dB_b, tru_b, tru_n, tru_i, tru_l, tru_t, is_n, isn_n, nn_n, nn_i, nn_b, nn_t, nn_l, add_ii, add'_ii, sub_ii, neg_i, lt_ii, le_ii, gt_ii, ge_ii, ix_l, ix_t, ix_s, at0, at1, at2, sl_l, sl_t, len_l, len_t, len_s, abs_i, int_i, int_b, max_ii, min_ii, tup_s, lst_s, seq_l, seq_t, sum_s, wipe_n, wipe_c, mul_ii, fdiv_ii, mod_ii, add_ll, add_tt, setAll, mkT, mkL, oNot, List.getD_cons_zero, List.getD_cons_succ, List.length_cons, List.length_nil, List.set_cons_zero, List.set_cons_succ, List.map_cons, List.map_nil, List.replicate, List.cons_append, List.nil_append, List.append_nil, Option.bind_some, Option.map_some, List.all_cons, List.all_nil, if_true, if_false, reduceIte, Nat.reduceAdd, Nat.reduceSub, Nat.reduceLT, Nat.reduceLeDiff, Nat.reduceEqDiff, decide_true, decide_false, Bool.and_true, Bool.and_self, Bool.true_and, Bool.not_true, Bool.not_false, ne_eq, not_true_eq_false, not_false_eq_true, Nat.zero_add, Bool.false_eq_true, and_self, true_and, and_true, hb, ha, rsD, kD]
end K20

namespace K20
open PySem PySem.Spec PyProof.Rows L2 Pm
abbrev Wt := Int × Int
def wD (w : Wt) : D := .tuple [.int w.1, .int w.2]
def mnI (a b : Int) : Int := if b < a then b else a
theorem mnI_le (a b : Int) : mnI a b ≤ b ∧ mnI a b ≤ a := by unfold mnI; split <;> omega
def pl (n : Nat) (w : Wt) (t : Nat) : Nat := ((w.1 + (t : Nat)).fmod n).toNat
def LN (n : Nat) (w : Wt) : List Nat := (List.range (mnI w.2 n).toNat).map (pl n w)
def sv (n : Nat) (w : Wt) (p : Nat) : Bool := decide (((p : Int) - w.1).fmod n < mnI w.2 n)
theorem fm_emod (a : Int) (n : Nat) : a.fmod (n : Int) = a % (n : Int) := Int.fmod_eq_emod_of_nonneg _ (by omega)
theorem pl_int {n : Nat} (hn : 0 < n) (w : Wt) (t : Nat) : ((pl n w t : Nat) : Int) = (w.1 + (t : Nat)).fmod n := by
  have := fmod_rng (w.1 + (t : Nat)) (m := (n : Int)) (by omega)
  unfold pl
  omega
theorem pl_lt {n : Nat} (hn : 0 < n) (w : Wt) (t : Nat) : pl n w t < n := by
  have := fmod_rng (w.1 + (t : Nat)) (m := (n : Int)) (by omega)
  have := pl_int hn w t
  omega
theorem pl_back {n : Nat} (hn : 0 < n) (w : Wt) {t : Nat} (ht : (t : Int) < n) : (((pl n w t : Nat) : Int) - w.1).fmod n = (t : Int) := by
  rw [pl_int hn, fm_emod, fm_emod, Int.emod_def (w.1 + (t : Nat))]
  have e : w.1 + (t : Int) - (n : Int) * ((w.1 + (t : Int)) / (n : Int)) - w.1 = (t : Int) + (n : Int) * (-((w.1 + (t : Int)) / (n : Int))) := by
    rw [Int.mul_neg]
    omega
  rw [e, Int.add_mul_emod_self_left, Int.emod_eq_of_lt (by omega) ht]
theorem pl_of {n : Nat} (hn : 0 < n) (w : Wt) {p : Nat} (hp : p < n) : pl n w (((p : Int) - w.1).fmod n).toNat = p := by
  have h0 := fmod_rng ((p : Int) - w.1) (m := (n : Int)) (by omega)
  have h1 : (((((p : Int) - w.1).fmod n).toNat : Nat) : Int) = ((p : Int) - w.1).fmod n := by omega
  have h2 := pl_int hn w (((p : Int) - w.1).fmod n).toNat
  rw [h1] at h2
  have h3 : (w.1 + ((p : Int) - w.1).fmod n).fmod n = (p : Int) := by
    rw [fm_emod ((p : Int) - w.1), Int.emod_def ((p : Int) - w.1), fm_emod]
    have e : w.1 + ((p : Int) - w.1 - (n : Int) * (((p : Int) - w.1) / (n : Int))) = (p : Int) + (n : Int) * (-(((p : Int) - w.1) / (n : Int))) := by
      rw [Int.mul_neg]
      omega
    rw [e, Int.add_mul_emod_self_left, Int.emod_eq_of_lt (by omega) (by omega)]
  rw [h3] at h2
  omega
theorem LN_mem {n : Nat} (hn : 0 < n) (w : Wt) (p : Nat) : p ∈ LN n w ↔ p < n ∧ sv n w p = true := by
  unfold LN sv
  rw [List.mem_map, decide_eq_true_iff]
  have hm := mnI_le w.2 n
  constructor
  · rintro ⟨t, ht, rfl⟩
    have ht := List.mem_range.mp ht
    exact ⟨pl_lt hn w t, by rw [pl_back hn w (by omega)]; omega⟩
  · rintro ⟨h1, h2⟩
    have h0 := fmod_rng ((p : Int) - w.1) (m := (n : Int)) (by omega)
    exact ⟨(((p : Int) - w.1).fmod n).toNat, List.mem_range.mpr (by omega), pl_of hn w h1⟩
theorem LN_nodup {n : Nat} (hn : 0 < n) (w : Wt) : (LN n w).Nodup := by
  unfold LN
  have hm := mnI_le w.2 n
  rw [List.nodup_iff_pairwise_ne, List.pairwise_map]
  refine List.Pairwise.imp_of_mem (fun {a b} ha hb h e => h ?_) (List.nodup_iff_pairwise_ne.mp (List.nodup_range (n := (mnI w.2 n).toNat)))
  have ha := List.mem_range.mp ha
  have hb := List.mem_range.mp hb
  have e1 := pl_back hn w (t := a) (by omega)
  have e2 := pl_back hn w (t := b) (by omega)
  rw [e] at e1
  omega
theorem LN_len (n : Nat) (w : Wt) : (LN n w).length ≤ n := by
  have hm := mnI_le w.2 n
  simp [LN]
  omega
theorem mn_nat {n : Nat} {w : Wt} (hw : 1 ≤ w.2) : (((mnI w.2 n).toNat : Nat) : Int) = mnI w.2 n := by
  unfold mnI
  split <;> omega
theorem rg_mn {n : Nat} (hn2 : n ≤ 100) {w : Wt} (hw : 1 ≤ w.2) : oR1 [.int (mnI w.2 n)] = some ((List.range (mnI w.2 n).toNat).map fun k : Nat => PyData.int (k : Nat)) := by
  have hm := mnI_le w.2 n
  have := rg0 (mnI w.2 n).toNat (by omega)
  rwa [mn_nat hw] at this
theorem sees_of_eq {n : Nat} (hn : 0 < n) (hn2 : n ≤ 100) {w : Wt} (hw : 1 ≤ w.2) : d_sees_of [.int (n : Nat), wD w] = some (.list ((LN n w).map fun p => PyData.int (p : Nat))) := by
  have n0 : (n : Int) ≠ 0 := by omega
  have hr := rg_mn (n := n) hn2 hw
  have h1 : ∀ x2, lcL (gSet 2) tYesP (xBin oMod (xBin oAdd (xBin oIx (xVar 1) (xC (.int 0))) (xVar 2)) (xVar 0)) [some (.int (n : Nat)), some (.tuple [.int w.1, .int w.2]), x2] ((List.range (mnI w.2 n).toNat).map fun k : Nat => PyData.int (k : Nat)) = some ((LN n w).map fun p => PyData.int (p : Nat)) := fun x2 => by
    rw [LN, List.map_map]
    refine lcL_map _ _ _ fun t _ => ?_
    have e := pl_int hn w t
    simp -implicitDefEqProofs only [Function.comp, xVar_a, xC_a, xBin_a, xUn_a, tOf_a, tTru_a, tNotP_a, tAndP_a, tOrP_a, tyes_a, tno_a, tYesP_a, xNil_a, xCons_a, xTup_a, xLst_a, xAnd_a, xOr_a, xIf_a, xChain_a, oNo_a, oAt_a, xSl_a, xCall_a, xSeq_a, xIt_a, xLc_a, gSet_a, gTupD_a, gsNil_a, gsCons_a, sNop_a, sBrk_a, sCnt_a, sSeq_a, sRet_a, sIf_a, sSet_a, sTgt_a, sAug_a, sApp_a, sExt_a, sPut_a, sPutK_a, pkO_s, sFor_a, sWhile_a, sPar_a, runD_a, b2_s, c2_s, sqO_nx, sqO_rt, sqO_bk, sqO_ct, ifO_t, ifO_f, stO_s, endO_nx, endO_rt, andO_t, andO_f, orO_t, orO_f, chO_s, chP_t, chP_f, slO_s, atO_i, lcO_s, forO_s, gsO_s, nxO_s, tgO_s, paO_s, apO_s, exO_s, plO_s, ptO_s, dB_b, tru_b, tru_n, tru_i, tru_l, tru_t, is_n, isn_n, nn_n, nn_i, nn_b, nn_t, nn_l, add_ii, add'_ii, sub_ii, neg_i, lt_ii, le_ii, gt_ii, ge_ii, ix_l, ix_t, ix_s, at0, at1, at2, sl_l, sl_t, len_l, len_t, len_s, abs_i, int_i, int_b, max_ii, min_ii, tup_s, lst_s, seq_l, seq_t, sum_s, wipe_n, wipe_c, mul_ii, fdiv_ii, mod_ii, add_ll, add_tt, setAll, mkT, mkL, oNot, List.getD_cons_zero, List.getD_cons_succ, List.length_cons, List.length_nil, List.set_cons_zero, List.set_cons_succ, List.map_cons, List.map_nil, List.replicate, List.cons_append, List.nil_append, List.append_nil, Option.bind_some, Option.map_some, List.all_cons, List.all_nil, if_true, if_false, reduceIte, Nat.reduceAdd, Nat.reduceSub, Nat.reduceLT, Nat.reduceLeDiff, Nat.reduceEqDiff, decide_true, decide_false, Bool.and_true, Bool.and_self, Bool.true_and, Bool.not_true, Bool.not_false, ne_eq, not_true_eq_false, not_false_eq_true, Nat.zero_add, Bool.false_eq_true, and_self, true_and, and_true, mod_ii n0, e]
  have ht : ∀ x : D, atI [x, PyData.int w.2] 1 = some (.int w.2) := fun _ => rfl
  unfold mnI at hr h1
  generalize (LN n w).map (fun p => PyData.int (p : Nat)) = R at *
  generalize ((List.range (if (n : Int) < w.2 then (n : Int) else w.2).toNat).map fun k : Nat => PyData.int (k : Nat)) = Q at *
  simp -implicitDefEqProofs only [d_sees_of, g_sees_of, wD, xVar_a, xC_a, xBin_a, xUn_a, tOf_a, tTru_a, tNotP_a, tAndP_a, tOrP_a, tyes_a, tno_a, tYesP_a, xNil_a, xCons_a, xTup_a, xLst_a, xAnd_a, xOr_a, xIf_a, xChain_a, oNo_a, oAt_a, xSl_a, xCall_a, xSeq_a, xIt_a, xLc_a, gSet_a, gTupD_a, gsNil_a, gsCons_a, sNop_a, sBrk_a, sCnt_a, sSeq_a, sRet_a, sIf_a, sSet_a, sTgt_a, sAug_a, sApp_a, sExt_a, sPut_a, sPutK_a, pkO_s, sFor_a, sWhile_a, sPar_a, runD_a, b2_s, c2_s, sqO_nx, sqO_rt, sqO_bk, sqO_ct, ifO_t, ifO_f, stO_s, endO_nx, endO_rt, andO_t, andO_f, orO_t, orO_f, chO_s, chP_t, chP_f, slO_s, atO_i, lcO_s, forO_s, gsO_s, nxO_s, tgO_s, paO_s, apO_s, exO_s, plO_s, ptO_s, dB_b, tru_b, tru_n, tru_i, tru_l, tru_t, is_n, isn_n, nn_n, nn_i, nn_b, nn_t, nn_l, add_ii, add'_ii, sub_ii, neg_i, lt_ii, le_ii, gt_ii, ge_ii, ix_l, ix_t, ix_s, at0, at1, at2, sl_l, sl_t, len_l, len_t, len_s, abs_i, int_i, int_b, max_ii, min_ii, tup_s, lst_s, seq_l, seq_t, sum_s, wipe_n, wipe_c, mul_ii, fdiv_ii, mod_ii, add_ll, add_tt, setAll, mkT, mkL, oNot, List.getD_cons_zero, List.getD_cons_succ, List.length_cons, List.length_nil, List.set_cons_zero, List.set_cons_succ, List.map_cons, List.map_nil, List.replicate, List.cons_append, List.nil_append, List.append_nil, Option.bind_some, Option.map_some, List.all_cons, List.all_nil, if_true, if_false, reduceIte, Nat.reduceAdd, Nat.reduceSub, Nat.reduceLT, Nat.reduceLeDiff, Nat.reduceEqDiff, decide_true, decide_false, Bool.and_true, Bool.and_self, Bool.true_and, Bool.not_true, Bool.not_false, ne_eq, not_true_eq_false, not_false_eq_true, Nat.zero_add, Bool.false_eq_true, and_self, true_and, and_true, hr, h1]
theorem at_map {α : Type} (f : α → D) (xs : List α) (d : α) (j : Nat) (h : j < xs.length) : atI (xs.map f) (j : Int) = some (f (xs.getD j d)) := by
  rw [atI_nat _ j (by simpa using h)]
  simp [h]
theorem set_rng {α : Type} (f : Nat → α) (n j : Nat) (v : α) : ((List.range n).map f).set j v = (List.range n).map fun k => if k = j then v else f k := by
  apply List.ext_getElem (by simp)
  intro i h1 h2
  simp only [List.getElem_set, List.getElem_map, List.getElem_range]
  by_cases h : i = j
  · rw [if_pos h.symm, if_pos h]
  · rw [if_neg (fun e => h e.symm), if_neg h]
theorem ixN_nat (n x : Nat) (h : x < n) : ixN n (x : Int) = some x := by
  unfold ixN
  rw [if_pos (by omega), if_pos (by omega)]
  simp
theorem rep_l (x : D) (m : Nat) (hm : m ≤ 100) : oMul' (.list [x]) (.int (m : Int)) = some (.list (List.replicate m x)) := by
  have h : [x].length * m ≤ 16777216 := by
    simp only [List.length_cons, List.length_nil]
    omega
  have h2 : -(2 ^ 62) ≤ (m : Int) := by omega
  have h3 : (m : Int) < 2 ^ 62 := by omega
  simp only [oMul', oMul, h, h2, h3, true_and, if_true, Int.toNat_natCast, List.flatten_replicate_singleton]
theorem rng_at {n k : Nat} (f : Nat → D) (h : k < n) : atI ((List.range n).map f) (k : Int) = some (f k) := by
  rw [at_map f (List.range n) 0 k (by simpa using h)]
  simp [h]
/-- one watch's places counted -/
theorem count_one (n : Nat) (x0 x1 x2 x4 : Option D) : ∀ (L : List Nat) (f : Nat → Int) (x5 : Option D), L.Nodup → (∀ p ∈ L, p < n) →
    ∃ y5, forL (gSet 5) l1_seen_times (L.map fun p => PyData.int (p : Nat)) [x0, x1, x2, some (.list ((List.range n).map fun p => .int (f p))), x4, x5] =
      some (.nx [x0, x1, x2, some (.list ((List.range n).map fun p => .int (f p + if p ∈ L then 1 else 0))), x4, y5])
  | [], f, x5, _, _ => ⟨x5, by simp only [List.not_mem_nil, if_false, Int.add_zero]; rfl⟩
  | q :: L, f, x5, hn, hl => by
    obtain ⟨q1, q2⟩ := List.nodup_cons.mp hn
    have hq := hl q (by simp)
    obtain ⟨y5, ih⟩ := count_one n x0 x1 x2 x4 L (fun p => if p = q then f q + 1 else f p) (some (.int (q : Nat))) q2 fun p hp => hl p (List.mem_cons_of_mem _ hp)
    refine ⟨y5, ?_⟩
    have hg : gSet 5 (.int (q : Nat)) [x0, x1, x2, some (.list ((List.range n).map fun p => .int (f p))), x4, x5] = some [x0, x1, x2, some (.list ((List.range n).map fun p => .int (f p))), x4, some (.int (q : Nat))] := rfl
    have hA := sAugI_a (ρ := [x0, x1, x2, some (.list ((List.range n).map fun p => .int (f p))), x4, some (.int (q : Nat))]) 3 (xVar 5) (xC (.int 1)) oAdd' ((List.range n).map fun p => .int (f p)) (q : Int) rfl rfl
    have hat := rng_at (fun p => PyData.int (f p)) hq
    have hix : ixN ((List.range n).map fun p => PyData.int (f p)).length (q : Int) = some q := by
      rw [List.length_map, List.length_range]
      exact ixN_nat n q hq
    have hset : ((List.range n).map fun p => PyData.int (f p)).set q (.int (f q + 1)) = (List.range n).map fun p => PyData.int (if p = q then f q + 1 else f p) := by
      rw [set_rng]
      refine List.map_congr_left fun k _ => ?_
      by_cases hk : k = q
      · rw [if_pos hk, if_pos hk]
      · rw [if_neg hk, if_neg hk]
    have hb : l1_seen_times [x0, x1, x2, some (.list ((List.range n).map fun p => .int (f p))), x4, some (.int (q : Nat))] = some (.nx [x0, x1, x2, some (.list ((List.range n).map fun p => .int (if p = q then f q + 1 else f p))), x4, some (.int (q : Nat))]) := by
      generalize ((List.range n).map fun p => PyData.int (f p)) = LD at *
      generalize ((List.range n).map fun p => PyData.int (if p = q then f q + 1 else f p)) = LE at *
      simp -implicitDefEqProofs only [l1_seen_times, hA, xVar_a, xC_a, xBin_a, xUn_a, tOf_a, tTru_a, tNotP_a, tAndP_a, tOrP_a, tyes_a, tno_a, tYesP_a, xNil_a, xCons_a, xTup_a, xLst_a, xAnd_a, xOr_a, xIf_a, xChain_a, oNo_a, oAt_a, xSl_a, xCall_a, xSeq_a, xIt_a, xLc_a, gSet_a, gTupD_a, gsNil_a, gsCons_a, sNop_a, sBrk_a, sCnt_a, sSeq_a, sRet_a, sIf_a, sSet_a, sTgt_a, sAug_a, sApp_a, sExt_a, sPut_a, sPutK_a, pkO_s, sFor_a, sWhile_a, sPar_a, runD_a, b2_s, c2_s, sqO_nx, sqO_rt, sqO_bk, sqO_ct, ifO_t, ifO_f, stO_s, endO_nx, endO_rt, andO_t, andO_f, orO_t, orO_f, chO_s, chP_t, chP_f, slO_s, atO_i, lcO_s, forO_s, gsO_s, nxO_s, tgO_s, paO_s, apO_s, exO_s, plO_s, ptO_s, dB_b, tru_b, tru_n, tru_i, tru_l, tru_t, is_n, isn_n, nn_n, nn_i, nn_b, nn_t, nn_l, add_ii, add'_ii, sub_ii, neg_i, lt_ii, le_ii, gt_ii, ge_ii, ix_l, ix_t, ix_s, at0, at1, at2, sl_l, sl_t, len_l, len_t, len_s, abs_i, int_i, int_b, max_ii, min_ii, tup_s, lst_s, seq_l, seq_t, sum_s, wipe_n, wipe_c, mul_ii, fdiv_ii, mod_ii, add_ll, add_tt, setAll, mkT, mkL, oNot, List.getD_cons_zero, List.getD_cons_succ, List.length_cons, List.length_nil, List.set_cons_zero, List.set_cons_succ, List.map_cons, List.map_nil, List.replicate, List.cons_append, List.nil_append, List.append_nil, Option.bind_some, Option.map_some, List.all_cons, List.all_nil, if_true, if_false, reduceIte, Nat.reduceAdd, Nat.reduceSub, Nat.reduceLT, Nat.reduceLeDiff, Nat.reduceEqDiff, decide_true, decide_false, Bool.and_true, Bool.and_self, Bool.true_and, Bool.not_true, Bool.not_false, ne_eq, not_true_eq_false, not_false_eq_true, Nat.zero_add, Bool.false_eq_true, and_self, true_and, and_true, hat, hix, hset]
    have hend : ((List.range n).map fun p => PyData.int ((if p = q then f q + 1 else f p) + if p ∈ L then 1 else 0)) = (List.range n).map fun p => PyData.int (f p + if p ∈ q :: L then 1 else 0) := by
      refine List.map_congr_left fun k _ => ?_
      congr 1
      by_cases hk : k = q
      · subst hk
        simp [q1]
      · simp [hk]
    rw [hend] at ih
    simp only [List.map_cons, forL, hg, Option.bind_some, hb]
    exact ih
def cn (n : Nat) (W : List Wt) (ch : List Nat) (p : Nat) : Int := ((ch.countP fun k => sv n (W.getD k (0, 0)) p : Nat) : Int)
def OkW (W : List Wt) : Prop := ∀ w ∈ W, 1 ≤ w.2
theorem getD_mem {α : Type} (l : List α) (k : Nat) (a : α) (h : k < l.length) : l.getD k a ∈ l := by simp [h]
def cL (n : Nat) (W : List Wt) (ch : List Nat) : List Int := (List.range n).map (cn n W ch)
theorem seen_times_eq {n : Nat} (hn : 0 < n) (hn2 : n ≤ 100) {W : List Wt} (hW : OkW W) {ch : List Nat} (hc : ∀ k ∈ ch, k < W.length) :
    d_seen_times [.int (n : Nat), .tuple (W.map wD), oD ch] = some (.tuple ((cL n W ch).map PyData.int)) := by
  obtain ⟨ρ', e, h⟩ := forL_inv (g := gSet 4) (b := l2_seen_times) (fun k : Nat => PyData.int (k : Nat))
    (fun pre rest ρ => pre ++ rest = ch ∧ ∃ x4 x5, ρ = [some (.int (n : Nat)), some (.tuple (W.map wD)), some (oD ch), some (.list ((List.range n).map fun p => .int (cn n W pre p))), x4, x5]) (fun pre k rest ρ ⟨hq, x4, x5, e⟩ => by
      subst e
      have hk := hc k (by rw [← hq]; simp)
      have i1 := at_map wD W (0, 0) k hk
      have hw := hW _ (getD_mem W k (0, 0) hk)
      have hs := sees_of_eq hn hn2 hw
      obtain ⟨y5, c⟩ := count_one n (some (.int (n : Nat))) (some (.tuple (W.map wD))) (some (oD ch)) (some (.int (k : Nat))) (LN n (W.getD k (0, 0))) (cn n W pre) x5 (LN_nodup hn _) fun p hp => ((LN_mem hn _ p).mp hp).1
      have hend : ((List.range n).map fun p => PyData.int (cn n W pre p + if p ∈ LN n (W.getD k (0, 0)) then 1 else 0)) = (List.range n).map fun p => PyData.int (cn n W (pre ++ [k]) p) := by
        refine List.map_congr_left fun p hp => ?_
        congr 1
        have hp := List.mem_range.mp hp
        have hm := LN_mem hn (W.getD k (0, 0)) p
        unfold cn
        rw [List.countP_append, List.countP_singleton]
        by_cases hv : sv n (W.getD k (0, 0)) p = true
        · rw [if_pos (hm.mpr ⟨hp, hv⟩), if_pos hv]
          omega
        · rw [if_neg (fun z => hv (hm.mp z).2), if_neg hv]
          omega
      rw [hend] at c
      refine ⟨[some (.int (n : Nat)), some (.tuple (W.map wD)), some (oD ch), some (.list ((List.range n).map fun p => .int (cn n W pre p))), some (.int (k : Nat)), x5], _, rfl, .inl ?_, by rw [List.append_assoc]; exact hq, some (.int (k : Nat)), y5, rfl⟩
      generalize W.map wD = WD at *
      generalize oD ch = CD at *
      generalize wD (W.getD k (0, 0)) = w at *
      generalize (LN n (W.getD k (0, 0))).map (fun p => PyData.int (p : Nat)) = LD at *
      generalize ((List.range n).map fun p => PyData.int (cn n W pre p)) = A at *
      generalize ((List.range n).map fun p => PyData.int (cn n W (pre ++ [k]) p)) = B at *
      simp -implicitDefEqProofs only [l2_seen_times, xVar_a, xC_a, xBin_a, xUn_a, tOf_a, tTru_a, tNotP_a, tAndP_a, tOrP_a, tyes_a, tno_a, tYesP_a, xNil_a, xCons_a, xTup_a, xLst_a, xAnd_a, xOr_a, xIf_a, xChain_a, oNo_a, oAt_a, xSl_a, xCall_a, xSeq_a, xIt_a, xLc_a, gSet_a, gTupD_a, gsNil_a, gsCons_a, sNop_a, sBrk_a, sCnt_a, sSeq_a, sRet_a, sIf_a, sSet_a, sTgt_a, sAug_a, sApp_a, sExt_a, sPut_a, sPutK_a, pkO_s, sFor_a, sWhile_a, sPar_a, runD_a, b2_s, c2_s, sqO_nx, sqO_rt, sqO_bk, sqO_ct, ifO_t, ifO_f, stO_s, endO_nx, endO_rt, andO_t, andO_f, orO_t, orO_f, chO_s, chP_t, chP_f, slO_s, atO_i, lcO_s, forO_s, gsO_s, nxO_s, tgO_s, paO_s, apO_s, exO_s, plO_s, ptO_s, dB_b, tru_b, tru_n, tru_i, tru_l, tru_t, is_n, isn_n, nn_n, nn_i, nn_b, nn_t, nn_l, add_ii, add'_ii, sub_ii, neg_i, lt_ii, le_ii, gt_ii, ge_ii, ix_l, ix_t, ix_s, at0, at1, at2, sl_l, sl_t, len_l, len_t, len_s, abs_i, int_i, int_b, max_ii, min_ii, tup_s, lst_s, seq_l, seq_t, sum_s, wipe_n, wipe_c, mul_ii, fdiv_ii, mod_ii, add_ll, add_tt, setAll, mkT, mkL, oNot, List.getD_cons_zero, List.getD_cons_succ, List.length_cons, List.length_nil, List.set_cons_zero, List.set_cons_succ, List.map_cons, List.map_nil, List.replicate, List.cons_append, List.nil_append, List.append_nil, Option.bind_some, Option.map_some, List.all_cons, List.all_nil, if_true, if_false, reduceIte, Nat.reduceAdd, Nat.reduceSub, Nat.reduceLT, Nat.reduceLeDiff, Nat.reduceEqDiff, decide_true, decide_false, Bool.and_true, Bool.and_self, Bool.true_and, Bool.not_true, Bool.not_false, ne_eq, not_true_eq_false, not_false_eq_true, Nat.zero_add, Bool.false_eq_true, and_self, true_and, and_true, i1, hs, c]) ch [] [some (.int (n : Nat)), some (.tuple (W.map wD)), some (oD ch), some (.list ((List.range n).map fun p => .int (cn n W [] p))), none, none] ⟨rfl, none, none, rfl⟩
  obtain ⟨_, x4, x5, e'⟩ := h
  subst e'
  have e0 : ((List.range n).map fun p => PyData.int (cn n W [] p)) = List.replicate n (.int 0) := by
    simp [cn, List.map_const']
  have e1 : ((List.range n).map fun p => PyData.int (cn n W ch p)) = (cL n W ch).map PyData.int := by
    rw [cL, List.map_map]
    rfl
  rw [e0, List.nil_append, e1] at e
  have r1 := rep_l (.int 0) n hn2
  have sq : seqD (oD ch) = some (ch.map fun j => PyData.int (j : Nat)) := rfl
  generalize (cL n W ch).map PyData.int = CC at *
  generalize W.map wD = WD at *
  simp -implicitDefEqProofs only [d_seen_times, g_seen_times, xVar_a, xC_a, xBin_a, xUn_a, tOf_a, tTru_a, tNotP_a, tAndP_a, tOrP_a, tyes_a, tno_a, tYesP_a, xNil_a, xCons_a, xTup_a, xLst_a, xAnd_a, xOr_a, xIf_a, xChain_a, oNo_a, oAt_a, xSl_a, xCall_a, xSeq_a, xIt_a, xLc_a, gSet_a, gTupD_a, gsNil_a, gsCons_a, sNop_a, sBrk_a, sCnt_a, sSeq_a, sRet_a, sIf_a, sSet_a, sTgt_a, sAug_a, sApp_a, sExt_a, sPut_a, sPutK_a, pkO_s, sFor_a, sWhile_a, sPar_a, runD_a, b2_s, c2_s, sqO_nx, sqO_rt, sqO_bk, sqO_ct, ifO_t, ifO_f, stO_s, endO_nx, endO_rt, andO_t, andO_f, orO_t, orO_f, chO_s, chP_t, chP_f, slO_s, atO_i, lcO_s, forO_s, gsO_s, nxO_s, tgO_s, paO_s, apO_s, exO_s, plO_s, ptO_s, dB_b, tru_b, tru_n, tru_i, tru_l, tru_t, is_n, isn_n, nn_n, nn_i, nn_b, nn_t, nn_l, add_ii, add'_ii, sub_ii, neg_i, lt_ii, le_ii, gt_ii, ge_ii, ix_l, ix_t, ix_s, at0, at1, at2, sl_l, sl_t, len_l, len_t, len_s, abs_i, int_i, int_b, max_ii, min_ii, tup_s, lst_s, seq_l, seq_t, sum_s, wipe_n, wipe_c, mul_ii, fdiv_ii, mod_ii, add_ll, add_tt, setAll, mkT, mkL, oNot, List.getD_cons_zero, List.getD_cons_succ, List.length_cons, List.length_nil, List.set_cons_zero, List.set_cons_succ, List.map_cons, List.map_nil, List.replicate, List.cons_append, List.nil_append, List.append_nil, Option.bind_some, Option.map_some, List.all_cons, List.all_nil, if_true, if_false, reduceIte, Nat.reduceAdd, Nat.reduceSub, Nat.reduceLT, Nat.reduceLeDiff, Nat.reduceEqDiff, decide_true, decide_false, Bool.and_true, Bool.and_self, Bool.true_and, Bool.not_true, Bool.not_false, ne_eq, not_true_eq_false, not_false_eq_true, Nat.zero_add, Bool.false_eq_true, and_self, true_and, and_true, r1, sq, e]
end K20

namespace K20
open PySem PySem.Spec PyProof.Rows L2 Pm
def si (n : Nat) (w : Wt) : List Int := risen ((LN n w).map fun p : Nat => (p : Int))
theorem si_mem {n : Nat} (hn : 0 < n) (w : Wt) {p : Nat} (hp : p < n) : (si n w).contains (p : Int) = sv n w p := by
  rw [Bool.eq_iff_iff, List.contains_iff_mem]
  unfold si
  rw [risen_mem, List.mem_map]
  have h := LN_mem hn w p
  constructor
  · rintro ⟨q, h1, h2⟩
    have : q = p := by omega
    subst this
    exact (h.mp h1).2
  · exact fun z => ⟨p, h.mpr ⟨hp, z⟩, rfl⟩
theorem si_ints {n : Nat} (hn : 0 < n) (w : Wt) : ∀ x ∈ si n w, ∃ p : Nat, x = (p : Int) ∧ p < n := fun x hx => by
  unfold si at hx
  rw [risen_mem, List.mem_map] at hx
  obtain ⟨p, h1, rfl⟩ := hx
  exact ⟨p, rfl, ((LN_mem hn w p).mp h1).1⟩
theorem law_sees_eq {n : Nat} (hn : 0 < n) (hn2 : n ≤ 60) {w : Wt} (hw : 1 ≤ w.2) : d__law_sees [.int (n : Nat), wD w] = some (.list ((si n w).map PyData.int)) := by
  have n0 : (n : Int) ≠ 0 := by omega
  have hr := rg_mn (n := n) (by omega) hw
  have h1 : ∀ x2, lcL (gSet 2) tYesP (xBin oMod (xCall bInt (xCons (xBin oAdd (xBin oIx (xVar 1) (xC (.int 0))) (xVar 2)) xNil)) (xVar 0)) [some (.int (n : Nat)), some (.tuple [.int w.1, .int w.2]), x2] ((List.range (mnI w.2 n).toNat).map fun k : Nat => PyData.int (k : Nat)) = some ((LN n w).map fun p => PyData.int (p : Nat)) := fun x2 => by
    rw [LN, List.map_map]
    refine lcL_map _ _ _ fun t _ => ?_
    have e := pl_int hn w t
    simp -implicitDefEqProofs only [Function.comp, xVar_a, xC_a, xBin_a, xUn_a, tOf_a, tTru_a, tNotP_a, tAndP_a, tOrP_a, tyes_a, tno_a, tYesP_a, xNil_a, xCons_a, xTup_a, xLst_a, xAnd_a, xOr_a, xIf_a, xChain_a, oNo_a, oAt_a, xSl_a, xCall_a, xSeq_a, xIt_a, xLc_a, gSet_a, gTupD_a, gsNil_a, gsCons_a, sNop_a, sBrk_a, sCnt_a, sSeq_a, sRet_a, sIf_a, sSet_a, sTgt_a, sAug_a, sApp_a, sExt_a, sPut_a, sPutK_a, pkO_s, sFor_a, sWhile_a, sPar_a, runD_a, b2_s, c2_s, sqO_nx, sqO_rt, sqO_bk, sqO_ct, ifO_t, ifO_f, stO_s, endO_nx, endO_rt, andO_t, andO_f, orO_t, orO_f, chO_s, chP_t, chP_f, slO_s, atO_i, lcO_s, forO_s, gsO_s, nxO_s, tgO_s, paO_s, apO_s, exO_s, plO_s, ptO_s, dB_b, tru_b, tru_n, tru_i, tru_l, tru_t, is_n, isn_n, nn_n, nn_i, nn_b, nn_t, nn_l, add_ii, add'_ii, sub_ii, neg_i, lt_ii, le_ii, gt_ii, ge_ii, ix_l, ix_t, ix_s, at0, at1, at2, sl_l, sl_t, len_l, len_t, len_s, abs_i, int_i, int_b, max_ii, min_ii, tup_s, lst_s, seq_l, seq_t, sum_s, wipe_n, wipe_c, mul_ii, fdiv_ii, mod_ii, add_ll, add_tt, setAll, mkT, mkL, oNot, List.getD_cons_zero, List.getD_cons_succ, List.length_cons, List.length_nil, List.set_cons_zero, List.set_cons_succ, List.map_cons, List.map_nil, List.replicate, List.cons_append, List.nil_append, List.append_nil, Option.bind_some, Option.map_some, List.all_cons, List.all_nil, if_true, if_false, reduceIte, Nat.reduceAdd, Nat.reduceSub, Nat.reduceLT, Nat.reduceLeDiff, Nat.reduceEqDiff, decide_true, decide_false, Bool.and_true, Bool.and_self, Bool.true_and, Bool.not_true, Bool.not_false, ne_eq, not_true_eq_false, not_false_eq_true, Nat.zero_add, Bool.false_eq_true, and_self, true_and, and_true, mod_ii n0, e]
  have ht : ∀ x : D, atI [x, PyData.int w.2] 1 = some (.int w.2) := fun _ => rfl
  have hs : bSrtSetL [.list ((LN n w).map fun p => PyData.int (p : Nat))] = some (.list ((si n w).map PyData.int)) := by
    have e : ((LN n w).map fun p => PyData.int (p : Nat)) = ((LN n w).map fun p : Nat => (p : Int)).map PyData.int := by rw [List.map_map]; rfl
    rw [e]
    show ((seqD (.list (((LN n w).map fun p : Nat => (p : Int)).map PyData.int))).bind fun ds => (asInts ds).bind fun ns => if ns.length < 64 then some (PyData.list ((risen ns).map PyData.int)) else none) = _
    rw [seq_l, Option.bind_some, asInts_map, Option.bind_some, if_pos (by rw [List.length_map]; have := LN_len n w; omega)]
    rfl
  unfold mnI at hr h1
  generalize (si n w).map PyData.int = SI at *
  generalize (LN n w).map (fun p => PyData.int (p : Nat)) = R at *
  generalize ((List.range (if (n : Int) < w.2 then (n : Int) else w.2).toNat).map fun k : Nat => PyData.int (k : Nat)) = Q at *
  simp -implicitDefEqProofs only [d__law_sees, g__law_sees, wD, xVar_a, xC_a, xBin_a, xUn_a, tOf_a, tTru_a, tNotP_a, tAndP_a, tOrP_a, tyes_a, tno_a, tYesP_a, xNil_a, xCons_a, xTup_a, xLst_a, xAnd_a, xOr_a, xIf_a, xChain_a, oNo_a, oAt_a, xSl_a, xCall_a, xSeq_a, xIt_a, xLc_a, gSet_a, gTupD_a, gsNil_a, gsCons_a, sNop_a, sBrk_a, sCnt_a, sSeq_a, sRet_a, sIf_a, sSet_a, sTgt_a, sAug_a, sApp_a, sExt_a, sPut_a, sPutK_a, pkO_s, sFor_a, sWhile_a, sPar_a, runD_a, b2_s, c2_s, sqO_nx, sqO_rt, sqO_bk, sqO_ct, ifO_t, ifO_f, stO_s, endO_nx, endO_rt, andO_t, andO_f, orO_t, orO_f, chO_s, chP_t, chP_f, slO_s, atO_i, lcO_s, forO_s, gsO_s, nxO_s, tgO_s, paO_s, apO_s, exO_s, plO_s, ptO_s, dB_b, tru_b, tru_n, tru_i, tru_l, tru_t, is_n, isn_n, nn_n, nn_i, nn_b, nn_t, nn_l, add_ii, add'_ii, sub_ii, neg_i, lt_ii, le_ii, gt_ii, ge_ii, ix_l, ix_t, ix_s, at0, at1, at2, sl_l, sl_t, len_l, len_t, len_s, abs_i, int_i, int_b, max_ii, min_ii, tup_s, lst_s, seq_l, seq_t, sum_s, wipe_n, wipe_c, mul_ii, fdiv_ii, mod_ii, add_ll, add_tt, setAll, mkT, mkL, oNot, List.getD_cons_zero, List.getD_cons_succ, List.length_cons, List.length_nil, List.set_cons_zero, List.set_cons_succ, List.map_cons, List.map_nil, List.replicate, List.cons_append, List.nil_append, List.append_nil, Option.bind_some, Option.map_some, List.all_cons, List.all_nil, if_true, if_false, reduceIte, Nat.reduceAdd, Nat.reduceSub, Nat.reduceLT, Nat.reduceLeDiff, Nat.reduceEqDiff, decide_true, decide_false, Bool.and_true, Bool.and_self, Bool.true_and, Bool.not_true, Bool.not_false, ne_eq, not_true_eq_false, not_false_eq_true, Nat.zero_add, Bool.false_eq_true, and_self, true_and, and_true, hr, h1, hs]
def siD (n : Nat) (w : Wt) : D := .list ((si n w).map PyData.int)
theorem law_counts_eq {n : Nat} (hn : 0 < n) (hn2 : n ≤ 60) {W : List Wt} {ch : List Nat} (hc : ∀ k ∈ ch, k < W.length) :
    d__law_counts [.int (n : Nat), .list (W.map (siD n)), oD ch] = some (.list ((cL n W ch).map PyData.int)) := by
  have hr := rg0 n (by omega)
  have h1 : lcL (gSet 3) tYesP (xCall bLen (xCons (xLc (xSeq (xVar 2)) (gSet 4) (tOf (xBin oIn (xVar 3) (xBin oIx (xVar 1) (xVar 4)))) (xC (.int 1)) [4]) xNil)) [some (.int (n : Nat)), some (.list (W.map (siD n))), some (oD ch), none, none] ((List.range n).map fun k : Nat => PyData.int (k : Nat)) = some ((cL n W ch).map PyData.int) := by
    rw [cL, List.map_map]
    refine lcL_map _ _ _ fun p hp => ?_
    have hp := List.mem_range.mp hp
    have h2 : ∀ x4, lcL (gSet 4) (tOf (xBin oIn (xVar 3) (xBin oIx (xVar 1) (xVar 4)))) (xC (.int 1)) [some (.int (n : Nat)), some (.list (W.map (siD n))), some (oD ch), some (.int (p : Nat)), x4] (ch.map fun j => PyData.int (j : Nat)) = some ((ch.filter fun k => sv n (W.getD k (0, 0)) p).map fun _ => PyData.int 1) := fun x4 => by
      refine lcL_filter _ _ (fun k => sv n (W.getD k (0, 0)) p) _ fun k hk => ?_
      have i1 := at_map (siD n) W (0, 0) k (hc k hk)
      have i2 := in_ints (p : Int) (si n (W.getD k (0, 0)))
      rw [si_mem hn _ hp] at i2
      generalize W.map (siD n) = WD at *
      generalize oD ch = CD at *
      exact ⟨[some (.int (n : Nat)), some (.list WD), some CD, some (.int (p : Nat)), some (.int (k : Nat))], rfl, by simp -implicitDefEqProofs only [xVar_a, xC_a, xBin_a, xUn_a, tOf_a, tTru_a, tNotP_a, tAndP_a, tOrP_a, tyes_a, tno_a, tYesP_a, xNil_a, xCons_a, xTup_a, xLst_a, xAnd_a, xOr_a, xIf_a, xChain_a, oNo_a, oAt_a, xSl_a, xCall_a, xSeq_a, xIt_a, xLc_a, gSet_a, gTupD_a, gsNil_a, gsCons_a, sNop_a, sBrk_a, sCnt_a, sSeq_a, sRet_a, sIf_a, sSet_a, sTgt_a, sAug_a, sApp_a, sExt_a, sPut_a, sPutK_a, pkO_s, sFor_a, sWhile_a, sPar_a, runD_a, b2_s, c2_s, sqO_nx, sqO_rt, sqO_bk, sqO_ct, ifO_t, ifO_f, stO_s, endO_nx, endO_rt, andO_t, andO_f, orO_t, orO_f, chO_s, chP_t, chP_f, slO_s, atO_i, lcO_s, forO_s, gsO_s, nxO_s, tgO_s, paO_s, apO_s, exO_s, plO_s, ptO_s, dB_b, tru_b, tru_n, tru_i, tru_l, tru_t, is_n, isn_n, nn_n, nn_i, nn_b, nn_t, nn_l, add_ii, add'_ii, sub_ii, neg_i, lt_ii, le_ii, gt_ii, ge_ii, ix_l, ix_t, ix_s, at0, at1, at2, sl_l, sl_t, len_l, len_t, len_s, abs_i, int_i, int_b, max_ii, min_ii, tup_s, lst_s, seq_l, seq_t, sum_s, wipe_n, wipe_c, mul_ii, fdiv_ii, mod_ii, add_ll, add_tt, setAll, mkT, mkL, oNot, List.getD_cons_zero, List.getD_cons_succ, List.length_cons, List.length_nil, List.set_cons_zero, List.set_cons_succ, List.map_cons, List.map_nil, List.replicate, List.cons_append, List.nil_append, List.append_nil, Option.bind_some, Option.map_some, List.all_cons, List.all_nil, if_true, if_false, reduceIte, Nat.reduceAdd, Nat.reduceSub, Nat.reduceLT, Nat.reduceLeDiff, Nat.reduceEqDiff, decide_true, decide_false, Bool.and_true, Bool.and_self, Bool.true_and, Bool.not_true, Bool.not_false, ne_eq, not_true_eq_false, not_false_eq_true, Nat.zero_add, Bool.false_eq_true, and_self, true_and, and_true, i1, siD, i2], fun _ => rfl⟩
    have sq : seqD (oD ch) = some (ch.map fun j => PyData.int (j : Nat)) := rfl
    have hl : ((ch.filter fun k => sv n (W.getD k (0, 0)) p).map fun _ => PyData.int 1).length = ch.countP fun k => sv n (W.getD k (0, 0)) p := by rw [List.length_map, List.countP_eq_length_filter]
    generalize W.map (siD n) = WD at *
    generalize oD ch = CD at *
    generalize ch.map (fun j => PyData.int (j : Nat)) = CC at *
    generalize ((ch.filter fun k => sv n (W.getD k (0, 0)) p).map fun _ => PyData.int 1) = FD at *
    simp -implicitDefEqProofs only [Function.comp, xVar_a, xC_a, xBin_a, xUn_a, tOf_a, tTru_a, tNotP_a, tAndP_a, tOrP_a, tyes_a, tno_a, tYesP_a, xNil_a, xCons_a, xTup_a, xLst_a, xAnd_a, xOr_a, xIf_a, xChain_a, oNo_a, oAt_a, xSl_a, xCall_a, xSeq_a, xIt_a, xLc_a, gSet_a, gTupD_a, gsNil_a, gsCons_a, sNop_a, sBrk_a, sCnt_a, sSeq_a, sRet_a, sIf_a, sSet_a, sTgt_a, sAug_a, sApp_a, sExt_a, sPut_a, sPutK_a, pkO_s, sFor_a, sWhile_a, sPar_a, runD_a, b2_s, c2_s, sqO_nx, sqO_rt, sqO_bk, sqO_ct, ifO_t, ifO_f, stO_s, endO_nx, endO_rt, andO_t, andO_f, orO_t, orO_f, chO_s, chP_t, chP_f, slO_s, atO_i, lcO_s, forO_s, gsO_s, nxO_s, tgO_s, paO_s, apO_s, exO_s, plO_s, ptO_s, dB_b, tru_b, tru_n, tru_i, tru_l, tru_t, is_n, isn_n, nn_n, nn_i, nn_b, nn_t, nn_l, add_ii, add'_ii, sub_ii, neg_i, lt_ii, le_ii, gt_ii, ge_ii, ix_l, ix_t, ix_s, at0, at1, at2, sl_l, sl_t, len_l, len_t, len_s, abs_i, int_i, int_b, max_ii, min_ii, tup_s, lst_s, seq_l, seq_t, sum_s, wipe_n, wipe_c, mul_ii, fdiv_ii, mod_ii, add_ll, add_tt, setAll, mkT, mkL, oNot, List.getD_cons_zero, List.getD_cons_succ, List.length_cons, List.length_nil, List.set_cons_zero, List.set_cons_succ, List.map_cons, List.map_nil, List.replicate, List.cons_append, List.nil_append, List.append_nil, Option.bind_some, Option.map_some, List.all_cons, List.all_nil, if_true, if_false, reduceIte, Nat.reduceAdd, Nat.reduceSub, Nat.reduceLT, Nat.reduceLeDiff, Nat.reduceEqDiff, decide_true, decide_false, Bool.and_true, Bool.and_self, Bool.true_and, Bool.not_true, Bool.not_false, ne_eq, not_true_eq_false, not_false_eq_true, Nat.zero_add, Bool.false_eq_true, and_self, true_and, and_true, sq, h2, hl, cn]
  generalize W.map (siD n) = WD at *
  generalize (cL n W ch).map PyData.int = CC at *
  generalize ((List.range n).map fun k : Nat => PyData.int (k : Nat)) = R at *
  simp -implicitDefEqProofs only [d__law_counts, g__law_counts, xVar_a, xC_a, xBin_a, xUn_a, tOf_a, tTru_a, tNotP_a, tAndP_a, tOrP_a, tyes_a, tno_a, tYesP_a, xNil_a, xCons_a, xTup_a, xLst_a, xAnd_a, xOr_a, xIf_a, xChain_a, oNo_a, oAt_a, xSl_a, xCall_a, xSeq_a, xIt_a, xLc_a, gSet_a, gTupD_a, gsNil_a, gsCons_a, sNop_a, sBrk_a, sCnt_a, sSeq_a, sRet_a, sIf_a, sSet_a, sTgt_a, sAug_a, sApp_a, sExt_a, sPut_a, sPutK_a, pkO_s, sFor_a, sWhile_a, sPar_a, runD_a, b2_s, c2_s, sqO_nx, sqO_rt, sqO_bk, sqO_ct, ifO_t, ifO_f, stO_s, endO_nx, endO_rt, andO_t, andO_f, orO_t, orO_f, chO_s, chP_t, chP_f, slO_s, atO_i, lcO_s, forO_s, gsO_s, nxO_s, tgO_s, paO_s, apO_s, exO_s, plO_s, ptO_s, dB_b, tru_b, tru_n, tru_i, tru_l, tru_t, is_n, isn_n, nn_n, nn_i, nn_b, nn_t, nn_l, add_ii, add'_ii, sub_ii, neg_i, lt_ii, le_ii, gt_ii, ge_ii, ix_l, ix_t, ix_s, at0, at1, at2, sl_l, sl_t, len_l, len_t, len_s, abs_i, int_i, int_b, max_ii, min_ii, tup_s, lst_s, seq_l, seq_t, sum_s, wipe_n, wipe_c, mul_ii, fdiv_ii, mod_ii, add_ll, add_tt, setAll, mkT, mkL, oNot, List.getD_cons_zero, List.getD_cons_succ, List.length_cons, List.length_nil, List.set_cons_zero, List.set_cons_succ, List.map_cons, List.map_nil, List.replicate, List.cons_append, List.nil_append, List.append_nil, Option.bind_some, Option.map_some, List.all_cons, List.all_nil, if_true, if_false, reduceIte, Nat.reduceAdd, Nat.reduceSub, Nat.reduceLT, Nat.reduceLeDiff, Nat.reduceEqDiff, decide_true, decide_false, Bool.and_true, Bool.and_self, Bool.true_and, Bool.not_true, Bool.not_false, ne_eq, not_true_eq_false, not_false_eq_true, Nat.zero_add, Bool.false_eq_true, and_self, true_and, and_true, hr, h1]
/-! what the counts tell -/
def gaps (n : Nat) (W : List Wt) (ch : List Nat) : List Nat := (List.range n).filter fun p => decide (cn n W ch p = 0)
def cov (n : Nat) (W : List Wt) (ch : List Nat) (j : Int) : Bool := (List.range n).all fun p => decide (j < cn n W ch p)
theorem cn_nn (n : Nat) (W : List Wt) (ch : List Nat) (p : Nat) : 0 ≤ cn n W ch p := by unfold cn; omega
theorem cL_enum (n : Nat) (W : List Wt) (ch : List Nat) : oEnum [.tuple ((cL n W ch).map PyData.int)] = some ((List.range n).map fun p => .tuple [.int (p : Nat), .int (cn n W ch p)]) := by
  show some (enumD ((cL n W ch).map PyData.int)) = _
  congr 1
  unfold enumD cL
  apply List.ext_getElem?
  intro i
  by_cases h : i < n
  · simp [h]
  · simp [h]
theorem notin_ints_t (p : Int) (l : List Int) : oNotIn (.int p) (.tuple (l.map PyData.int)) = some (.bool (!l.contains p)) := by
  show (if (shp (.int p) && PyData.canLayAll0 (l.map PyData.int)) = true then some (PyData.bool (!(l.map PyData.int).any fun z => PyData.eqv z (.int p))) else none) = _
  rw [shp_int, lay_ints, any_ints]
  rfl
theorem in_ints_t (p : Int) (l : List Int) : oIn (.int p) (.tuple (l.map PyData.int)) = some (.bool (l.contains p)) := by
  show (if (shp (.int p) && PyData.canLayAll0 (l.map PyData.int)) = true then some (PyData.bool ((l.map PyData.int).any fun z => PyData.eqv z (.int p))) else none) = _
  rw [shp_int, lay_ints, any_ints]
  rfl
theorem cov_zero (n : Nat) (W : List Wt) (ch : List Nat) : (!(cL n W ch).contains 0) = cov n W ch 0 := by
  rw [Bool.eq_iff_iff, Bool.not_eq_true', ← Bool.not_eq_true, List.contains_iff_mem]
  unfold cov cL
  rw [List.mem_map, List.all_eq_true]
  constructor
  · intro h p hp
    have h0 := cn_nn n W ch p
    refine decide_eq_true ?_
    by_cases e : cn n W ch p = 0
    · exact absurd ⟨p, hp, e⟩ h
    · omega
  · rintro h ⟨p, hp, e⟩
    have := of_decide_eq_true (h p hp)
    omega
theorem gaps_cov (n : Nat) (W : List Wt) (ch : List Nat) : decide (((gaps n W ch).length : Int) = 0) = cov n W ch 0 := by
  rw [Bool.eq_iff_iff, decide_eq_true_iff]
  unfold cov gaps
  rw [List.all_eq_true]
  constructor
  · intro h p hp
    have h0 := cn_nn n W ch p
    refine decide_eq_true ?_
    by_cases e : cn n W ch p = 0
    · have hm : p ∈ (List.range n).filter fun p => decide (cn n W ch p = 0) := List.mem_filter.mpr ⟨hp, decide_eq_true e⟩
      have := List.length_pos_of_mem hm
      omega
    · omega
  · intro h
    have : (List.range n).filter (fun p => decide (cn n W ch p = 0)) = [] := List.filter_eq_nil_iff.mpr fun p hp => by
      have := of_decide_eq_true (h p hp)
      rw [decide_eq_true_iff]
      omega
    rw [this]
    rfl
theorem watch_gaps_eq {n : Nat} (hn : 0 < n) (hn2 : n ≤ 60) {W : List Wt} (hW : OkW W) {ch : List Nat} (hc : ∀ k ∈ ch, k < W.length) : d_watch_gaps [.int (n : Nat), .tuple (W.map wD), oD ch] = some (oD (gaps n W ch)) := by
  have hs := seen_times_eq hn (by omega) hW hc
  have he := cL_enum n W ch
  have h1 : ∀ x3 x4, lcL (gTupD 2 (gsCons (gSet 3) (gsCons (gSet 4) gsNil))) (tOf (xBin oEq (xVar 4) (xC (.int 0)))) (xVar 3) [some (.int (n : Nat)), some (.tuple (W.map wD)), some (oD ch), x3, x4] ((List.range n).map fun p => .tuple [.int (p : Nat), .int (cn n W ch p)]) = some ((gaps n W ch).map fun p => PyData.int (p : Nat)) := fun x3 x4 => by
    refine lcL_filter _ _ (fun p => decide (cn n W ch p = 0)) _ fun p _ => ?_
    generalize W.map wD = WD at *
    generalize oD ch = CD at *
    exact ⟨[some (.int (n : Nat)), some (.tuple WD), some CD, some (.int (p : Nat)), some (.int (cn n W ch p))], rfl, by simp -implicitDefEqProofs only [xVar_a, xC_a, xBin_a, xUn_a, tOf_a, tTru_a, tNotP_a, tAndP_a, tOrP_a, tyes_a, tno_a, tYesP_a, xNil_a, xCons_a, xTup_a, xLst_a, xAnd_a, xOr_a, xIf_a, xChain_a, oNo_a, oAt_a, xSl_a, xCall_a, xSeq_a, xIt_a, xLc_a, gSet_a, gTupD_a, gsNil_a, gsCons_a, sNop_a, sBrk_a, sCnt_a, sSeq_a, sRet_a, sIf_a, sSet_a, sTgt_a, sAug_a, sApp_a, sExt_a, sPut_a, sPutK_a, pkO_s, sFor_a, sWhile_a, sPar_a, runD_a, b2_s, c2_s, sqO_nx, sqO_rt, sqO_bk, sqO_ct, ifO_t, ifO_f, stO_s, endO_nx, endO_rt, andO_t, andO_f, orO_t, orO_f, chO_s, chP_t, chP_f, slO_s, atO_i, lcO_s, forO_s, gsO_s, nxO_s, tgO_s, paO_s, apO_s, exO_s, plO_s, ptO_s, dB_b, tru_b, tru_n, tru_i, tru_l, tru_t, is_n, isn_n, nn_n, nn_i, nn_b, nn_t, nn_l, add_ii, add'_ii, sub_ii, neg_i, lt_ii, le_ii, gt_ii, ge_ii, ix_l, ix_t, ix_s, at0, at1, at2, sl_l, sl_t, len_l, len_t, len_s, abs_i, int_i, int_b, max_ii, min_ii, tup_s, lst_s, seq_l, seq_t, sum_s, wipe_n, wipe_c, mul_ii, fdiv_ii, mod_ii, add_ll, add_tt, setAll, mkT, mkL, oNot, List.getD_cons_zero, List.getD_cons_succ, List.length_cons, List.length_nil, List.set_cons_zero, List.set_cons_succ, List.map_cons, List.map_nil, List.replicate, List.cons_append, List.nil_append, List.append_nil, Option.bind_some, Option.map_some, List.all_cons, List.all_nil, if_true, if_false, reduceIte, Nat.reduceAdd, Nat.reduceSub, Nat.reduceLT, Nat.reduceLeDiff, Nat.reduceEqDiff, decide_true, decide_false, Bool.and_true, Bool.and_self, Bool.true_and, Bool.not_true, Bool.not_false, ne_eq, not_true_eq_false, not_false_eq_true, Nat.zero_add, Bool.false_eq_true, and_self, true_and, and_true, eq_int], fun _ => rfl⟩
  unfold oD at *
  generalize W.map wD = WD at *
  generalize (cL n W ch).map PyData.int = CC at *
  generalize ((List.range n).map fun p => PyData.tuple [.int (p : Nat), .int (cn n W ch p)]) = EN at *
  generalize (gaps n W ch).map (fun p => PyData.int (p : Nat)) = GD at *
  generalize ch.map (fun p => PyData.int (p : Nat)) = CD at *
  simp -implicitDefEqProofs only [d_watch_gaps, g_watch_gaps, xVar_a, xC_a, xBin_a, xUn_a, tOf_a, tTru_a, tNotP_a, tAndP_a, tOrP_a, tyes_a, tno_a, tYesP_a, xNil_a, xCons_a, xTup_a, xLst_a, xAnd_a, xOr_a, xIf_a, xChain_a, oNo_a, oAt_a, xSl_a, xCall_a, xSeq_a, xIt_a, xLc_a, gSet_a, gTupD_a, gsNil_a, gsCons_a, sNop_a, sBrk_a, sCnt_a, sSeq_a, sRet_a, sIf_a, sSet_a, sTgt_a, sAug_a, sApp_a, sExt_a, sPut_a, sPutK_a, pkO_s, sFor_a, sWhile_a, sPar_a, runD_a, b2_s, c2_s, sqO_nx, sqO_rt, sqO_bk, sqO_ct, ifO_t, ifO_f, stO_s, endO_nx, endO_rt, andO_t, andO_f, orO_t, orO_f, chO_s, chP_t, chP_f, slO_s, atO_i, lcO_s, forO_s, gsO_s, nxO_s, tgO_s, paO_s, apO_s, exO_s, plO_s, ptO_s, dB_b, tru_b, tru_n, tru_i, tru_l, tru_t, is_n, isn_n, nn_n, nn_i, nn_b, nn_t, nn_l, add_ii, add'_ii, sub_ii, neg_i, lt_ii, le_ii, gt_ii, ge_ii, ix_l, ix_t, ix_s, at0, at1, at2, sl_l, sl_t, len_l, len_t, len_s, abs_i, int_i, int_b, max_ii, min_ii, tup_s, lst_s, seq_l, seq_t, sum_s, wipe_n, wipe_c, mul_ii, fdiv_ii, mod_ii, add_ll, add_tt, setAll, mkT, mkL, oNot, List.getD_cons_zero, List.getD_cons_succ, List.length_cons, List.length_nil, List.set_cons_zero, List.set_cons_succ, List.map_cons, List.map_nil, List.replicate, List.cons_append, List.nil_append, List.append_nil, Option.bind_some, Option.map_some, List.all_cons, List.all_nil, if_true, if_false, reduceIte, Nat.reduceAdd, Nat.reduceSub, Nat.reduceLT, Nat.reduceLeDiff, Nat.reduceEqDiff, decide_true, decide_false, Bool.and_true, Bool.and_self, Bool.true_and, Bool.not_true, Bool.not_false, ne_eq, not_true_eq_false, not_false_eq_true, Nat.zero_add, Bool.false_eq_true, and_self, true_and, and_true, hs, he, h1]
theorem seen_by_all_eq {n : Nat} (hn : 0 < n) (hn2 : n ≤ 60) {W : List Wt} (hW : OkW W) {ch : List Nat} (hc : ∀ k ∈ ch, k < W.length) : d_seen_by_all [.int (n : Nat), .tuple (W.map wD), oD ch] = some (.bool (cov n W ch 0)) := by
  have hs := seen_times_eq hn (by omega) hW hc
  have h1 := notin_ints_t 0 (cL n W ch)
  rw [cov_zero] at h1
  generalize W.map wD = WD at *
  generalize (cL n W ch).map PyData.int = CC at *
  generalize oD ch = CD at *
  simp -implicitDefEqProofs only [d_seen_by_all, g_seen_by_all, xVar_a, xC_a, xBin_a, xUn_a, tOf_a, tTru_a, tNotP_a, tAndP_a, tOrP_a, tyes_a, tno_a, tYesP_a, xNil_a, xCons_a, xTup_a, xLst_a, xAnd_a, xOr_a, xIf_a, xChain_a, oNo_a, oAt_a, xSl_a, xCall_a, xSeq_a, xIt_a, xLc_a, gSet_a, gTupD_a, gsNil_a, gsCons_a, sNop_a, sBrk_a, sCnt_a, sSeq_a, sRet_a, sIf_a, sSet_a, sTgt_a, sAug_a, sApp_a, sExt_a, sPut_a, sPutK_a, pkO_s, sFor_a, sWhile_a, sPar_a, runD_a, b2_s, c2_s, sqO_nx, sqO_rt, sqO_bk, sqO_ct, ifO_t, ifO_f, stO_s, endO_nx, endO_rt, andO_t, andO_f, orO_t, orO_f, chO_s, chP_t, chP_f, slO_s, atO_i, lcO_s, forO_s, gsO_s, nxO_s, tgO_s, paO_s, apO_s, exO_s, plO_s, ptO_s, dB_b, tru_b, tru_n, tru_i, tru_l, tru_t, is_n, isn_n, nn_n, nn_i, nn_b, nn_t, nn_l, add_ii, add'_ii, sub_ii, neg_i, lt_ii, le_ii, gt_ii, ge_ii, ix_l, ix_t, ix_s, at0, at1, at2, sl_l, sl_t, len_l, len_t, len_s, abs_i, int_i, int_b, max_ii, min_ii, tup_s, lst_s, seq_l, seq_t, sum_s, wipe_n, wipe_c, mul_ii, fdiv_ii, mod_ii, add_ll, add_tt, setAll, mkT, mkL, oNot, List.getD_cons_zero, List.getD_cons_succ, List.length_cons, List.length_nil, List.set_cons_zero, List.set_cons_succ, List.map_cons, List.map_nil, List.replicate, List.cons_append, List.nil_append, List.append_nil, Option.bind_some, Option.map_some, List.all_cons, List.all_nil, if_true, if_false, reduceIte, Nat.reduceAdd, Nat.reduceSub, Nat.reduceLT, Nat.reduceLeDiff, Nat.reduceEqDiff, decide_true, decide_false, Bool.and_true, Bool.and_self, Bool.true_and, Bool.not_true, Bool.not_false, ne_eq, not_true_eq_false, not_false_eq_true, Nat.zero_add, Bool.false_eq_true, and_self, true_and, and_true, hs, h1]
def bellD (n : Nat) (w : Wt) : D := .tuple [.int (n : Nat), .tuple ((si n w).map PyData.int)]
theorem struck_at_eq {n : Nat} (hn : 0 < n) (w : Wt) (p : Nat) (hp : p < n) : d_struck_at [bellD n w, .int (2 * (n : Int) + (p : Nat))] = some (.bool (sv n w p)) := by
  have n0 : (n : Int) ≠ 0 := by omega
  have hm : (2 * (n : Int) + (p : Nat)).fmod n = (p : Int) := by
    rw [fm_emod, show 2 * (n : Int) + (p : Nat) = (p : Int) + (n : Int) * 2 by omega, Int.add_mul_emod_self_left, Int.emod_eq_of_lt (by omega) (by omega)]
  have hi := in_ints_t (p : Int) (si n w)
  rw [si_mem hn w hp] at hi
  have a1 : ∀ x y : D, atI [x, y] 1 = some y := fun _ _ => rfl
  unfold bellD
  generalize (si n w).map PyData.int = SI at *
  simp -implicitDefEqProofs only [d_struck_at, g_struck_at, xVar_a, xC_a, xBin_a, xUn_a, tOf_a, tTru_a, tNotP_a, tAndP_a, tOrP_a, tyes_a, tno_a, tYesP_a, xNil_a, xCons_a, xTup_a, xLst_a, xAnd_a, xOr_a, xIf_a, xChain_a, oNo_a, oAt_a, xSl_a, xCall_a, xSeq_a, xIt_a, xLc_a, gSet_a, gTupD_a, gsNil_a, gsCons_a, sNop_a, sBrk_a, sCnt_a, sSeq_a, sRet_a, sIf_a, sSet_a, sTgt_a, sAug_a, sApp_a, sExt_a, sPut_a, sPutK_a, pkO_s, sFor_a, sWhile_a, sPar_a, runD_a, b2_s, c2_s, sqO_nx, sqO_rt, sqO_bk, sqO_ct, ifO_t, ifO_f, stO_s, endO_nx, endO_rt, andO_t, andO_f, orO_t, orO_f, chO_s, chP_t, chP_f, slO_s, atO_i, lcO_s, forO_s, gsO_s, nxO_s, tgO_s, paO_s, apO_s, exO_s, plO_s, ptO_s, dB_b, tru_b, tru_n, tru_i, tru_l, tru_t, is_n, isn_n, nn_n, nn_i, nn_b, nn_t, nn_l, add_ii, add'_ii, sub_ii, neg_i, lt_ii, le_ii, gt_ii, ge_ii, ix_l, ix_t, ix_s, at0, at1, at2, sl_l, sl_t, len_l, len_t, len_s, abs_i, int_i, int_b, max_ii, min_ii, tup_s, lst_s, seq_l, seq_t, sum_s, wipe_n, wipe_c, mul_ii, fdiv_ii, mod_ii, add_ll, add_tt, setAll, mkT, mkL, oNot, List.getD_cons_zero, List.getD_cons_succ, List.length_cons, List.length_nil, List.set_cons_zero, List.set_cons_succ, List.map_cons, List.map_nil, List.replicate, List.cons_append, List.nil_append, List.append_nil, Option.bind_some, Option.map_some, List.all_cons, List.all_nil, if_true, if_false, reduceIte, Nat.reduceAdd, Nat.reduceSub, Nat.reduceLT, Nat.reduceLeDiff, Nat.reduceEqDiff, decide_true, decide_false, Bool.and_true, Bool.and_self, Bool.true_and, Bool.not_true, Bool.not_false, ne_eq, not_true_eq_false, not_false_eq_true, Nat.zero_add, Bool.false_eq_true, and_self, true_and, and_true, mod_ii n0, hm, hi]
theorem bAny_map {α : Type} (l : List α) (f : α → Bool) : bAny [.list (l.map fun x => PyData.bool (f x))] = some (.bool (l.any f)) := by
  have hb := asBools_map (l.map f)
  rw [List.map_map] at hb
  show (asBools (l.map fun x => PyData.bool (f x))).map _ = _
  have e2 : (l.map fun x => PyData.bool (f x)) = l.map (PyData.bool ∘ f) := rfl
  rw [e2, hb]
  simp [List.any_map, Function.comp_def]
theorem bAll_map {α : Type} (l : List α) (f : α → Bool) : bAll [.list (l.map fun x => PyData.bool (f x))] = some (.bool (l.all f)) := by
  have hb := asBools_map (l.map f)
  rw [List.map_map] at hb
  show (asBools (l.map fun x => PyData.bool (f x))).map _ = _
  have e2 : (l.map fun x => PyData.bool (f x)) = l.map (PyData.bool ∘ f) := rfl
  rw [e2, hb]
  simp [List.all_map, Function.comp_def]
theorem oR2_ij {i j : Int} (h : -(2 ^ 60) ≤ i ∧ i < 2 ^ 60 ∧ -(2 ^ 60) ≤ j ∧ j < 2 ^ 60 ∧ j - i ≤ 16777216) : oR2 [.int i, .int j] = some (rangeD i 1 (j - i).toNat) := if_pos h
theorem oR2_off (a : Int) (k : Nat) (h : -1000 ≤ a ∧ a ≤ 10000 ∧ k ≤ 1000) : oR2 [.int a, .int (a + (k : Nat))] = some ((List.range k).map fun t => PyData.int (a + (t : Nat))) := by
  rw [oR2_ij (by omega)]
  unfold rangeD
  rw [show (a + (k : Nat) - a).toNat = k by omega]
  simp
theorem filt_len {α : Type} (f : α → Bool) : ∀ l : List α, l.length = (l.filter f).length + (l.filter fun a => !f a).length
  | [] => rfl
  | a :: l => by
    have ih := filt_len f l
    cases h : f a with
    | true => simp [h]; omega
    | false => simp [h]; omega
theorem struck_in_eq {n : Nat} (hn : 0 < n) (hn2 : n ≤ 60) {W : List Wt} {ch : List Nat} (hc : ∀ k ∈ ch, k < W.length) :
    d_struck_in [.tuple (ch.map fun k => bellD n (W.getD k (0, 0))), .tuple [.int (2 * (n : Int)), .int (3 * (n : Int))]] = some (.int ((n : Int) - (gaps n W ch).length)) := by
  have hr := oR2_off (2 * (n : Int)) n (by omega)
  rw [show 2 * (n : Int) + (n : Nat) = 3 * (n : Int) by omega] at hr
  have a1 : ∀ x y : D, atI [x, y] 1 = some y := fun _ _ => rfl
  have h1 : ∀ x2 x3, lcL (gSet 2) (tTru (xCall bAny (xCons (xLc (xSeq (xVar 0)) (gSet 3) tYesP (xCall (fun ds => if ds.length = 2 then (d_struck_at) ds else none) (xCons (xVar 3) (xCons (xVar 2) xNil))) [3]) xNil))) (xVar 2) [some (.tuple (ch.map fun k => bellD n (W.getD k (0, 0)))), some (.tuple [.int (2 * (n : Int)), .int (3 * (n : Int))]), x2, x3] ((List.range n).map fun t => PyData.int (2 * (n : Int) + (t : Nat))) = some (((List.range n).filter fun p => ch.any fun k => sv n (W.getD k (0, 0)) p).map fun t => PyData.int (2 * (n : Int) + (t : Nat))) := fun x2 x3 => by
    refine lcL_filter _ _ (fun p => ch.any fun k => sv n (W.getD k (0, 0)) p) _ fun p hp => ?_
    have hp := List.mem_range.mp hp
    have h2 : ∀ x3, lcL (gSet 3) tYesP (xCall (fun ds => if ds.length = 2 then (d_struck_at) ds else none) (xCons (xVar 3) (xCons (xVar 2) xNil))) [some (.tuple (ch.map fun k => bellD n (W.getD k (0, 0)))), some (.tuple [.int (2 * (n : Int)), .int (3 * (n : Int))]), some (.int (2 * (n : Int) + (p : Nat))), x3] (ch.map fun k => bellD n (W.getD k (0, 0))) = some (ch.map fun k => .bool (sv n (W.getD k (0, 0)) p)) := fun x3 => by
      refine lcL_map _ _ _ fun k _ => ?_
      have hs := struck_at_eq hn (W.getD k (0, 0)) p hp
      generalize bellD n (W.getD k (0, 0)) = B at *
      generalize (ch.map fun k => bellD n (W.getD k (0, 0))) = CD at *
      simp -implicitDefEqProofs only [xVar_a, xC_a, xBin_a, xUn_a, tOf_a, tTru_a, tNotP_a, tAndP_a, tOrP_a, tyes_a, tno_a, tYesP_a, xNil_a, xCons_a, xTup_a, xLst_a, xAnd_a, xOr_a, xIf_a, xChain_a, oNo_a, oAt_a, xSl_a, xCall_a, xSeq_a, xIt_a, xLc_a, gSet_a, gTupD_a, gsNil_a, gsCons_a, sNop_a, sBrk_a, sCnt_a, sSeq_a, sRet_a, sIf_a, sSet_a, sTgt_a, sAug_a, sApp_a, sExt_a, sPut_a, sPutK_a, pkO_s, sFor_a, sWhile_a, sPar_a, runD_a, b2_s, c2_s, sqO_nx, sqO_rt, sqO_bk, sqO_ct, ifO_t, ifO_f, stO_s, endO_nx, endO_rt, andO_t, andO_f, orO_t, orO_f, chO_s, chP_t, chP_f, slO_s, atO_i, lcO_s, forO_s, gsO_s, nxO_s, tgO_s, paO_s, apO_s, exO_s, plO_s, ptO_s, dB_b, tru_b, tru_n, tru_i, tru_l, tru_t, is_n, isn_n, nn_n, nn_i, nn_b, nn_t, nn_l, add_ii, add'_ii, sub_ii, neg_i, lt_ii, le_ii, gt_ii, ge_ii, ix_l, ix_t, ix_s, at0, at1, at2, sl_l, sl_t, len_l, len_t, len_s, abs_i, int_i, int_b, max_ii, min_ii, tup_s, lst_s, seq_l, seq_t, sum_s, wipe_n, wipe_c, mul_ii, fdiv_ii, mod_ii, add_ll, add_tt, setAll, mkT, mkL, oNot, List.getD_cons_zero, List.getD_cons_succ, List.length_cons, List.length_nil, List.set_cons_zero, List.set_cons_succ, List.map_cons, List.map_nil, List.replicate, List.cons_append, List.nil_append, List.append_nil, Option.bind_some, Option.map_some, List.all_cons, List.all_nil, if_true, if_false, reduceIte, Nat.reduceAdd, Nat.reduceSub, Nat.reduceLT, Nat.reduceLeDiff, Nat.reduceEqDiff, decide_true, decide_false, Bool.and_true, Bool.and_self, Bool.true_and, Bool.not_true, Bool.not_false, ne_eq, not_true_eq_false, not_false_eq_true, Nat.zero_add, Bool.false_eq_true, and_self, true_and, and_true, hs]
    have hb := bAny_map ch fun k => sv n (W.getD k (0, 0)) p
    generalize (ch.map fun k => bellD n (W.getD k (0, 0))) = CD at *
    generalize (ch.map fun k => PyData.bool (sv n (W.getD k (0, 0)) p)) = BD at *
    exact ⟨[some (.tuple CD), some (.tuple [.int (2 * (n : Int)), .int (3 * (n : Int))]), some (.int (2 * (n : Int) + (p : Nat))), x3], rfl, by simp -implicitDefEqProofs only [xVar_a, xC_a, xBin_a, xUn_a, tOf_a, tTru_a, tNotP_a, tAndP_a, tOrP_a, tyes_a, tno_a, tYesP_a, xNil_a, xCons_a, xTup_a, xLst_a, xAnd_a, xOr_a, xIf_a, xChain_a, oNo_a, oAt_a, xSl_a, xCall_a, xSeq_a, xIt_a, xLc_a, gSet_a, gTupD_a, gsNil_a, gsCons_a, sNop_a, sBrk_a, sCnt_a, sSeq_a, sRet_a, sIf_a, sSet_a, sTgt_a, sAug_a, sApp_a, sExt_a, sPut_a, sPutK_a, pkO_s, sFor_a, sWhile_a, sPar_a, runD_a, b2_s, c2_s, sqO_nx, sqO_rt, sqO_bk, sqO_ct, ifO_t, ifO_f, stO_s, endO_nx, endO_rt, andO_t, andO_f, orO_t, orO_f, chO_s, chP_t, chP_f, slO_s, atO_i, lcO_s, forO_s, gsO_s, nxO_s, tgO_s, paO_s, apO_s, exO_s, plO_s, ptO_s, dB_b, tru_b, tru_n, tru_i, tru_l, tru_t, is_n, isn_n, nn_n, nn_i, nn_b, nn_t, nn_l, add_ii, add'_ii, sub_ii, neg_i, lt_ii, le_ii, gt_ii, ge_ii, ix_l, ix_t, ix_s, at0, at1, at2, sl_l, sl_t, len_l, len_t, len_s, abs_i, int_i, int_b, max_ii, min_ii, tup_s, lst_s, seq_l, seq_t, sum_s, wipe_n, wipe_c, mul_ii, fdiv_ii, mod_ii, add_ll, add_tt, setAll, mkT, mkL, oNot, List.getD_cons_zero, List.getD_cons_succ, List.length_cons, List.length_nil, List.set_cons_zero, List.set_cons_succ, List.map_cons, List.map_nil, List.replicate, List.cons_append, List.nil_append, List.append_nil, Option.bind_some, Option.map_some, List.all_cons, List.all_nil, if_true, if_false, reduceIte, Nat.reduceAdd, Nat.reduceSub, Nat.reduceLT, Nat.reduceLeDiff, Nat.reduceEqDiff, decide_true, decide_false, Bool.and_true, Bool.and_self, Bool.true_and, Bool.not_true, Bool.not_false, ne_eq, not_true_eq_false, not_false_eq_true, Nat.zero_add, Bool.false_eq_true, and_self, true_and, and_true, h2, hb], fun _ => rfl⟩
  have hl : ((((List.range n).filter fun p => ch.any fun k => sv n (W.getD k (0, 0)) p).map fun t => PyData.int (2 * (n : Int) + (t : Nat))).length : Int) = (n : Int) - (gaps n W ch).length := by
    rw [List.length_map]
    have e : gaps n W ch = (List.range n).filter fun p => !(ch.any fun k => sv n (W.getD k (0, 0)) p) := by
      unfold gaps
      refine List.filter_congr fun p _ => ?_
      rw [Bool.eq_iff_iff, decide_eq_true_iff, Bool.not_eq_true', ← Bool.not_eq_true, List.any_eq_true]
      unfold cn
      constructor
      · intro h ⟨k, hk, hv⟩
        have := List.countP_pos_iff (p := fun k => sv n (W.getD k (0, 0)) p).mpr ⟨k, hk, hv⟩
        omega
      · intro h
        have : ch.countP (fun k => sv n (W.getD k (0, 0)) p) = 0 := List.countP_eq_zero.mpr fun k hk hv => h ⟨k, hk, hv⟩
        omega
    rw [e]
    have := filt_len (fun p => ch.any fun k => sv n (W.getD k (0, 0)) p) (List.range n)
    rw [List.length_range] at this
    omega
  generalize (ch.map fun k => bellD n (W.getD k (0, 0))) = CD at *
  generalize ((List.range n).map fun t => PyData.int (2 * (n : Int) + (t : Nat))) = RD at *
  generalize (((List.range n).filter fun p => ch.any fun k => sv n (W.getD k (0, 0)) p).map fun t => PyData.int (2 * (n : Int) + (t : Nat))) = FD at *
  simp -implicitDefEqProofs only [d_struck_in, g_struck_in, xVar_a, xC_a, xBin_a, xUn_a, tOf_a, tTru_a, tNotP_a, tAndP_a, tOrP_a, tyes_a, tno_a, tYesP_a, xNil_a, xCons_a, xTup_a, xLst_a, xAnd_a, xOr_a, xIf_a, xChain_a, oNo_a, oAt_a, xSl_a, xCall_a, xSeq_a, xIt_a, xLc_a, gSet_a, gTupD_a, gsNil_a, gsCons_a, sNop_a, sBrk_a, sCnt_a, sSeq_a, sRet_a, sIf_a, sSet_a, sTgt_a, sAug_a, sApp_a, sExt_a, sPut_a, sPutK_a, pkO_s, sFor_a, sWhile_a, sPar_a, runD_a, b2_s, c2_s, sqO_nx, sqO_rt, sqO_bk, sqO_ct, ifO_t, ifO_f, stO_s, endO_nx, endO_rt, andO_t, andO_f, orO_t, orO_f, chO_s, chP_t, chP_f, slO_s, atO_i, lcO_s, forO_s, gsO_s, nxO_s, tgO_s, paO_s, apO_s, exO_s, plO_s, ptO_s, dB_b, tru_b, tru_n, tru_i, tru_l, tru_t, is_n, isn_n, nn_n, nn_i, nn_b, nn_t, nn_l, add_ii, add'_ii, sub_ii, neg_i, lt_ii, le_ii, gt_ii, ge_ii, ix_l, ix_t, ix_s, at0, at1, at2, sl_l, sl_t, len_l, len_t, len_s, abs_i, int_i, int_b, max_ii, min_ii, tup_s, lst_s, seq_l, seq_t, sum_s, wipe_n, wipe_c, mul_ii, fdiv_ii, mod_ii, add_ll, add_tt, setAll, mkT, mkL, oNot, List.getD_cons_zero, List.getD_cons_succ, List.length_cons, List.length_nil, List.set_cons_zero, List.set_cons_succ, List.map_cons, List.map_nil, List.replicate, List.cons_append, List.nil_append, List.append_nil, Option.bind_some, Option.map_some, List.all_cons, List.all_nil, if_true, if_false, reduceIte, Nat.reduceAdd, Nat.reduceSub, Nat.reduceLT, Nat.reduceLeDiff, Nat.reduceEqDiff, decide_true, decide_false, Bool.and_true, Bool.and_self, Bool.true_and, Bool.not_true, Bool.not_false, ne_eq, not_true_eq_false, not_false_eq_true, Nat.zero_add, Bool.false_eq_true, and_self, true_and, and_true, hr, h1, hl]
end K20

namespace K20
open PySem PySem.Spec PyProof.Rows L2 Pm
open PySem.W (Datum Tup)
theorem oD_len (o : List Nat) : bLen [oD o] = some (.int (o.length : Nat)) := by
  show bLen [.tuple (o.map fun j => PyData.int (j : Nat))] = _
  rw [len_t, List.length_map]
theorem ss_mem {m : Nat} (h1 : 1 ≤ m) (h5 : m ≤ 5) {c : List Nat} (h : c ∈ SS m) : c ∈ LS m ∧ c.Nodup ∧ c.length ≤ m ∧ ∀ k ∈ c, k < m := by
  have h' := (ls_q h1 h5).mem_iff.mp h
  exact ⟨h', (ls_n h1 h5).2 c h'⟩
theorem watches_least_eq {n : Nat} (hn : 0 < n) (hn2 : n ≤ 60) {W : List Wt} (hW : OkW W) (h1 : 1 ≤ W.length) (h5 : W.length ≤ 5) :
    d_watches_least [.int (n : Nat), .tuple (W.map wD)] = some (rsD ((SS W.length).find? fun c => cov n W c 0)) := by
  have ha := ls_a h1 h5
  have hs := ls_ss h1 h5
  have hl : (W.map wD).length = W.length := List.length_map ..
  have key := forL_find (g := gSet 2) (b := l1_watches_least) oD (fun c => cov n W c 0) (fun ρ => ∃ x2, ρ = [some (.int (n : Nat)), some (.tuple (W.map wD)), x2]) oD (SS W.length) (fun c hc ρ ⟨x2, e⟩ => by
    subst e
    have hb := seen_by_all_eq hn hn2 hW (ch := c) (ss_mem h1 h5 hc).2.2.2
    refine ⟨[some (.int (n : Nat)), some (.tuple (W.map wD)), some (oD c)], rfl, fun hp => ?_, fun hp => ⟨[some (.int (n : Nat)), some (.tuple (W.map wD)), some (oD c)], ?_, _, rfl⟩⟩
    · rw [hp] at hb
      generalize W.map wD = WD at *
      generalize oD c = C at *
      simp -implicitDefEqProofs only [l1_watches_least, xVar_a, xC_a, xBin_a, xUn_a, tOf_a, tTru_a, tNotP_a, tAndP_a, tOrP_a, tyes_a, tno_a, tYesP_a, xNil_a, xCons_a, xTup_a, xLst_a, xAnd_a, xOr_a, xIf_a, xChain_a, oNo_a, oAt_a, xSl_a, xCall_a, xSeq_a, xIt_a, xLc_a, gSet_a, gTupD_a, gsNil_a, gsCons_a, sNop_a, sBrk_a, sCnt_a, sSeq_a, sRet_a, sIf_a, sSet_a, sTgt_a, sAug_a, sApp_a, sExt_a, sPut_a, sPutK_a, pkO_s, sFor_a, sWhile_a, sPar_a, runD_a, b2_s, c2_s, sqO_nx, sqO_rt, sqO_bk, sqO_ct, ifO_t, ifO_f, stO_s, endO_nx, endO_rt, andO_t, andO_f, orO_t, orO_f, chO_s, chP_t, chP_f, slO_s, atO_i, lcO_s, forO_s, gsO_s, nxO_s, tgO_s, paO_s, apO_s, exO_s, plO_s, ptO_s, dB_b, tru_b, tru_n, tru_i, tru_l, tru_t, is_n, isn_n, nn_n, nn_i, nn_b, nn_t, nn_l, add_ii, add'_ii, sub_ii, neg_i, lt_ii, le_ii, gt_ii, ge_ii, ix_l, ix_t, ix_s, at0, at1, at2, sl_l, sl_t, len_l, len_t, len_s, abs_i, int_i, int_b, max_ii, min_ii, tup_s, lst_s, seq_l, seq_t, sum_s, wipe_n, wipe_c, mul_ii, fdiv_ii, mod_ii, add_ll, add_tt, setAll, mkT, mkL, oNot, List.getD_cons_zero, List.getD_cons_succ, List.length_cons, List.length_nil, List.set_cons_zero, List.set_cons_succ, List.map_cons, List.map_nil, List.replicate, List.cons_append, List.nil_append, List.append_nil, Option.bind_some, Option.map_some, List.all_cons, List.all_nil, if_true, if_false, reduceIte, Nat.reduceAdd, Nat.reduceSub, Nat.reduceLT, Nat.reduceLeDiff, Nat.reduceEqDiff, decide_true, decide_false, Bool.and_true, Bool.and_self, Bool.true_and, Bool.not_true, Bool.not_false, ne_eq, not_true_eq_false, not_false_eq_true, Nat.zero_add, Bool.false_eq_true, and_self, true_and, and_true, hb]
    · rw [hp] at hb
      generalize W.map wD = WD at *
      generalize oD c = C at *
      simp -implicitDefEqProofs only [l1_watches_least, xVar_a, xC_a, xBin_a, xUn_a, tOf_a, tTru_a, tNotP_a, tAndP_a, tOrP_a, tyes_a, tno_a, tYesP_a, xNil_a, xCons_a, xTup_a, xLst_a, xAnd_a, xOr_a, xIf_a, xChain_a, oNo_a, oAt_a, xSl_a, xCall_a, xSeq_a, xIt_a, xLc_a, gSet_a, gTupD_a, gsNil_a, gsCons_a, sNop_a, sBrk_a, sCnt_a, sSeq_a, sRet_a, sIf_a, sSet_a, sTgt_a, sAug_a, sApp_a, sExt_a, sPut_a, sPutK_a, pkO_s, sFor_a, sWhile_a, sPar_a, runD_a, b2_s, c2_s, sqO_nx, sqO_rt, sqO_bk, sqO_ct, ifO_t, ifO_f, stO_s, endO_nx, endO_rt, andO_t, andO_f, orO_t, orO_f, chO_s, chP_t, chP_f, slO_s, atO_i, lcO_s, forO_s, gsO_s, nxO_s, tgO_s, paO_s, apO_s, exO_s, plO_s, ptO_s, dB_b, tru_b, tru_n, tru_i, tru_l, tru_t, is_n, isn_n, nn_n, nn_i, nn_b, nn_t, nn_l, add_ii, add'_ii, sub_ii, neg_i, lt_ii, le_ii, gt_ii, ge_ii, ix_l, ix_t, ix_s, at0, at1, at2, sl_l, sl_t, len_l, len_t, len_s, abs_i, int_i, int_b, max_ii, min_ii, tup_s, lst_s, seq_l, seq_t, sum_s, wipe_n, wipe_c, mul_ii, fdiv_ii, mod_ii, add_ll, add_tt, setAll, mkT, mkL, oNot, List.getD_cons_zero, List.getD_cons_succ, List.length_cons, List.length_nil, List.set_cons_zero, List.set_cons_succ, List.map_cons, List.map_nil, List.replicate, List.cons_append, List.nil_append, List.append_nil, Option.bind_some, Option.map_some, List.all_cons, List.all_nil, if_true, if_false, reduceIte, Nat.reduceAdd, Nat.reduceSub, Nat.reduceLT, Nat.reduceLeDiff, Nat.reduceEqDiff, decide_true, decide_false, Bool.and_true, Bool.and_self, Bool.true_and, Bool.not_true, Bool.not_false, ne_eq, not_true_eq_false, not_false_eq_true, Nat.zero_add, Bool.false_eq_true, and_self, true_and, and_true, hb]) [some (.int (n : Nat)), some (.tuple (W.map wD)), none] ⟨none, rfl⟩
  generalize W.map wD = WD at *
  generalize (LS W.length).map oD = LD at *
  generalize (SS W.length).map oD = SD at *
  rcases key with ⟨c, f1, f2⟩ | ⟨f1, ρ', f2, _⟩
  · rw [f1]
    simp -implicitDefEqProofs only [d_watches_least, g_watches_least, xVar_a, xC_a, xBin_a, xUn_a, tOf_a, tTru_a, tNotP_a, tAndP_a, tOrP_a, tyes_a, tno_a, tYesP_a, xNil_a, xCons_a, xTup_a, xLst_a, xAnd_a, xOr_a, xIf_a, xChain_a, oNo_a, oAt_a, xSl_a, xCall_a, xSeq_a, xIt_a, xLc_a, gSet_a, gTupD_a, gsNil_a, gsCons_a, sNop_a, sBrk_a, sCnt_a, sSeq_a, sRet_a, sIf_a, sSet_a, sTgt_a, sAug_a, sApp_a, sExt_a, sPut_a, sPutK_a, pkO_s, sFor_a, sWhile_a, sPar_a, runD_a, b2_s, c2_s, sqO_nx, sqO_rt, sqO_bk, sqO_ct, ifO_t, ifO_f, stO_s, endO_nx, endO_rt, andO_t, andO_f, orO_t, orO_f, chO_s, chP_t, chP_f, slO_s, atO_i, lcO_s, forO_s, gsO_s, nxO_s, tgO_s, paO_s, apO_s, exO_s, plO_s, ptO_s, dB_b, tru_b, tru_n, tru_i, tru_l, tru_t, is_n, isn_n, nn_n, nn_i, nn_b, nn_t, nn_l, add_ii, add'_ii, sub_ii, neg_i, lt_ii, le_ii, gt_ii, ge_ii, ix_l, ix_t, ix_s, at0, at1, at2, sl_l, sl_t, len_l, len_t, len_s, abs_i, int_i, int_b, max_ii, min_ii, tup_s, lst_s, seq_l, seq_t, sum_s, wipe_n, wipe_c, mul_ii, fdiv_ii, mod_ii, add_ll, add_tt, setAll, mkT, mkL, oNot, List.getD_cons_zero, List.getD_cons_succ, List.length_cons, List.length_nil, List.set_cons_zero, List.set_cons_succ, List.map_cons, List.map_nil, List.replicate, List.cons_append, List.nil_append, List.append_nil, Option.bind_some, Option.map_some, List.all_cons, List.all_nil, if_true, if_false, reduceIte, Nat.reduceAdd, Nat.reduceSub, Nat.reduceLT, Nat.reduceLeDiff, Nat.reduceEqDiff, decide_true, decide_false, Bool.and_true, Bool.and_self, Bool.true_and, Bool.not_true, Bool.not_false, ne_eq, not_true_eq_false, not_false_eq_true, Nat.zero_add, Bool.false_eq_true, and_self, true_and, and_true, hl, ha, hs, f2, rsD]
  · rw [f1]
    simp -implicitDefEqProofs only [d_watches_least, g_watches_least, xVar_a, xC_a, xBin_a, xUn_a, tOf_a, tTru_a, tNotP_a, tAndP_a, tOrP_a, tyes_a, tno_a, tYesP_a, xNil_a, xCons_a, xTup_a, xLst_a, xAnd_a, xOr_a, xIf_a, xChain_a, oNo_a, oAt_a, xSl_a, xCall_a, xSeq_a, xIt_a, xLc_a, gSet_a, gTupD_a, gsNil_a, gsCons_a, sNop_a, sBrk_a, sCnt_a, sSeq_a, sRet_a, sIf_a, sSet_a, sTgt_a, sAug_a, sApp_a, sExt_a, sPut_a, sPutK_a, pkO_s, sFor_a, sWhile_a, sPar_a, runD_a, b2_s, c2_s, sqO_nx, sqO_rt, sqO_bk, sqO_ct, ifO_t, ifO_f, stO_s, endO_nx, endO_rt, andO_t, andO_f, orO_t, orO_f, chO_s, chP_t, chP_f, slO_s, atO_i, lcO_s, forO_s, gsO_s, nxO_s, tgO_s, paO_s, apO_s, exO_s, plO_s, ptO_s, dB_b, tru_b, tru_n, tru_i, tru_l, tru_t, is_n, isn_n, nn_n, nn_i, nn_b, nn_t, nn_l, add_ii, add'_ii, sub_ii, neg_i, lt_ii, le_ii, gt_ii, ge_ii, ix_l, ix_t, ix_s, at0, at1, at2, sl_l, sl_t, len_l, len_t, len_s, abs_i, int_i, int_b, max_ii, min_ii, tup_s, lst_s, seq_l, seq_t, sum_s, wipe_n, wipe_c, mul_ii, fdiv_ii, mod_ii, add_ll, add_tt, setAll, mkT, mkL, oNot, List.getD_cons_zero, List.getD_cons_succ, List.length_cons, List.length_nil, List.set_cons_zero, List.set_cons_succ, List.map_cons, List.map_nil, List.replicate, List.cons_append, List.nil_append, List.append_nil, Option.bind_some, Option.map_some, List.all_cons, List.all_nil, if_true, if_false, reduceIte, Nat.reduceAdd, Nat.reduceSub, Nat.reduceLT, Nat.reduceLeDiff, Nat.reduceEqDiff, decide_true, decide_false, Bool.and_true, Bool.and_self, Bool.true_and, Bool.not_true, Bool.not_false, ne_eq, not_true_eq_false, not_false_eq_true, Nat.zero_add, Bool.false_eq_true, and_self, true_and, and_true, hl, ha, hs, f2, rsD]
def wo (g : Nat) (c : List Nat) : List Nat := c.filter fun x : Nat => !decide ((x : Int) = (g : Int))
theorem never_blind_eq {n : Nat} (hn : 0 < n) (hn2 : n ≤ 60) {W : List Wt} (hW : OkW W) (h1 : 1 ≤ W.length) (h5 : W.length ≤ 5) :
    d_never_blind [.int (n : Nat), .tuple (W.map wD)] = some (rsD ((SS W.length).find? fun c => cov n W c 0 && c.all fun g => cov n W (wo g c) 0)) := by
  have ha := ls_a h1 h5
  have hs := ls_ss h1 h5
  have hl : (W.map wD).length = W.length := List.length_map ..
  have key := forL_find (g := gSet 2) (b := l1_never_blind) oD (fun c => cov n W c 0 && c.all fun g => cov n W (wo g c) 0) (fun ρ => ∃ x2, ρ = [some (.int (n : Nat)), some (.tuple (W.map wD)), x2, none, none, none]) oD (SS W.length) (fun c hc ρ ⟨x2, e⟩ => by
    subst e
    have hcm := (ss_mem h1 h5 hc).2.2.2
    have hb := seen_times_eq hn (by omega) hW (ch := c) hcm
    have q1 : ∀ x3, lcL (gSet 3) tYesP (xBin oGt (xVar 3) (xC (.int 0))) [some (.int (n : Nat)), some (.tuple (W.map wD)), some (oD c), x3, none, none] ((cL n W c).map PyData.int) = some ((cL n W c).map fun x => .bool (decide (0 < x))) := fun x3 => by
      refine lcL_map _ _ _ fun x _ => ?_
      generalize W.map wD = WD at *
      generalize oD c = C at *
      simp -implicitDefEqProofs only [xVar_a, xC_a, xBin_a, xUn_a, tOf_a, tTru_a, tNotP_a, tAndP_a, tOrP_a, tyes_a, tno_a, tYesP_a, xNil_a, xCons_a, xTup_a, xLst_a, xAnd_a, xOr_a, xIf_a, xChain_a, oNo_a, oAt_a, xSl_a, xCall_a, xSeq_a, xIt_a, xLc_a, gSet_a, gTupD_a, gsNil_a, gsCons_a, sNop_a, sBrk_a, sCnt_a, sSeq_a, sRet_a, sIf_a, sSet_a, sTgt_a, sAug_a, sApp_a, sExt_a, sPut_a, sPutK_a, pkO_s, sFor_a, sWhile_a, sPar_a, runD_a, b2_s, c2_s, sqO_nx, sqO_rt, sqO_bk, sqO_ct, ifO_t, ifO_f, stO_s, endO_nx, endO_rt, andO_t, andO_f, orO_t, orO_f, chO_s, chP_t, chP_f, slO_s, atO_i, lcO_s, forO_s, gsO_s, nxO_s, tgO_s, paO_s, apO_s, exO_s, plO_s, ptO_s, dB_b, tru_b, tru_n, tru_i, tru_l, tru_t, is_n, isn_n, nn_n, nn_i, nn_b, nn_t, nn_l, add_ii, add'_ii, sub_ii, neg_i, lt_ii, le_ii, gt_ii, ge_ii, ix_l, ix_t, ix_s, at0, at1, at2, sl_l, sl_t, len_l, len_t, len_s, abs_i, int_i, int_b, max_ii, min_ii, tup_s, lst_s, seq_l, seq_t, sum_s, wipe_n, wipe_c, mul_ii, fdiv_ii, mod_ii, add_ll, add_tt, setAll, mkT, mkL, oNot, List.getD_cons_zero, List.getD_cons_succ, List.length_cons, List.length_nil, List.set_cons_zero, List.set_cons_succ, List.map_cons, List.map_nil, List.replicate, List.cons_append, List.nil_append, List.append_nil, Option.bind_some, Option.map_some, List.all_cons, List.all_nil, if_true, if_false, reduceIte, Nat.reduceAdd, Nat.reduceSub, Nat.reduceLT, Nat.reduceLeDiff, Nat.reduceEqDiff, decide_true, decide_false, Bool.and_true, Bool.and_self, Bool.true_and, Bool.not_true, Bool.not_false, ne_eq, not_true_eq_false, not_false_eq_true, Nat.zero_add, Bool.false_eq_true, and_self, true_and, and_true]
    have q2 := bAll_map (cL n W c) fun x => decide (0 < x)
    have q3 : (cL n W c).all (fun x => decide (0 < x)) = cov n W c 0 := by
      unfold cL cov
      rw [List.all_map]
      rfl
    rw [q3] at q2
    have q4 : ∀ x4, lcL (gSet 4) tYesP (xCall (fun ds => if ds.length = 3 then (d_seen_by_all) ds else none) (xCons (xVar 0) (xCons (xVar 1) (xCons (xCall bTuple (xCons (xLc (xSeq (xVar 2)) (gSet 5) (tOf (xBin oNe (xVar 5) (xVar 4))) (xVar 5) [5]) xNil)) xNil)))) [some (.int (n : Nat)), some (.tuple (W.map wD)), some (oD c), none, x4, none] (c.map fun j => PyData.int (j : Nat)) = some (c.map fun g => .bool (cov n W (wo g c) 0)) := fun x4 => by
      refine lcL_map _ _ _ fun g hg => ?_
      have q5 : ∀ x5, lcL (gSet 5) (tOf (xBin oNe (xVar 5) (xVar 4))) (xVar 5) [some (.int (n : Nat)), some (.tuple (W.map wD)), some (oD c), none, some (.int (g : Nat)), x5] (c.map fun j => PyData.int (j : Nat)) = some ((wo g c).map fun j => PyData.int (j : Nat)) := fun x5 => by
        refine lcL_filter _ _ (fun x : Nat => !decide ((x : Int) = (g : Int))) _ fun k _ => ?_
        generalize W.map wD = WD at *
        generalize oD c = C at *
        exact ⟨[some (.int (n : Nat)), some (.tuple WD), some C, none, some (.int (g : Nat)), some (.int (k : Nat))], rfl, by simp -implicitDefEqProofs only [xVar_a, xC_a, xBin_a, xUn_a, tOf_a, tTru_a, tNotP_a, tAndP_a, tOrP_a, tyes_a, tno_a, tYesP_a, xNil_a, xCons_a, xTup_a, xLst_a, xAnd_a, xOr_a, xIf_a, xChain_a, oNo_a, oAt_a, xSl_a, xCall_a, xSeq_a, xIt_a, xLc_a, gSet_a, gTupD_a, gsNil_a, gsCons_a, sNop_a, sBrk_a, sCnt_a, sSeq_a, sRet_a, sIf_a, sSet_a, sTgt_a, sAug_a, sApp_a, sExt_a, sPut_a, sPutK_a, pkO_s, sFor_a, sWhile_a, sPar_a, runD_a, b2_s, c2_s, sqO_nx, sqO_rt, sqO_bk, sqO_ct, ifO_t, ifO_f, stO_s, endO_nx, endO_rt, andO_t, andO_f, orO_t, orO_f, chO_s, chP_t, chP_f, slO_s, atO_i, lcO_s, forO_s, gsO_s, nxO_s, tgO_s, paO_s, apO_s, exO_s, plO_s, ptO_s, dB_b, tru_b, tru_n, tru_i, tru_l, tru_t, is_n, isn_n, nn_n, nn_i, nn_b, nn_t, nn_l, add_ii, add'_ii, sub_ii, neg_i, lt_ii, le_ii, gt_ii, ge_ii, ix_l, ix_t, ix_s, at0, at1, at2, sl_l, sl_t, len_l, len_t, len_s, abs_i, int_i, int_b, max_ii, min_ii, tup_s, lst_s, seq_l, seq_t, sum_s, wipe_n, wipe_c, mul_ii, fdiv_ii, mod_ii, add_ll, add_tt, setAll, mkT, mkL, oNot, List.getD_cons_zero, List.getD_cons_succ, List.length_cons, List.length_nil, List.set_cons_zero, List.set_cons_succ, List.map_cons, List.map_nil, List.replicate, List.cons_append, List.nil_append, List.append_nil, Option.bind_some, Option.map_some, List.all_cons, List.all_nil, if_true, if_false, reduceIte, Nat.reduceAdd, Nat.reduceSub, Nat.reduceLT, Nat.reduceLeDiff, Nat.reduceEqDiff, decide_true, decide_false, Bool.and_true, Bool.and_self, Bool.true_and, Bool.not_true, Bool.not_false, ne_eq, not_true_eq_false, not_false_eq_true, Nat.zero_add, Bool.false_eq_true, and_self, true_and, and_true, ne_int], fun _ => rfl⟩
      have q6 : d_seen_by_all [.int (n : Nat), .tuple (W.map wD), .tuple ((wo g c).map fun j => PyData.int (j : Nat))] = some (.bool (cov n W (wo g c) 0)) := seen_by_all_eq hn hn2 hW (ch := wo g c) fun k hk => hcm k (List.mem_filter.mp hk).1
      have sq : seqD (oD c) = some (c.map fun j => PyData.int (j : Nat)) := rfl
      generalize W.map wD = WD at *
      generalize oD c = C at *
      generalize c.map (fun j => PyData.int (j : Nat)) = CC at *
      generalize (wo g c).map (fun j => PyData.int (j : Nat)) = WG at *
      simp -implicitDefEqProofs only [xVar_a, xC_a, xBin_a, xUn_a, tOf_a, tTru_a, tNotP_a, tAndP_a, tOrP_a, tyes_a, tno_a, tYesP_a, xNil_a, xCons_a, xTup_a, xLst_a, xAnd_a, xOr_a, xIf_a, xChain_a, oNo_a, oAt_a, xSl_a, xCall_a, xSeq_a, xIt_a, xLc_a, gSet_a, gTupD_a, gsNil_a, gsCons_a, sNop_a, sBrk_a, sCnt_a, sSeq_a, sRet_a, sIf_a, sSet_a, sTgt_a, sAug_a, sApp_a, sExt_a, sPut_a, sPutK_a, pkO_s, sFor_a, sWhile_a, sPar_a, runD_a, b2_s, c2_s, sqO_nx, sqO_rt, sqO_bk, sqO_ct, ifO_t, ifO_f, stO_s, endO_nx, endO_rt, andO_t, andO_f, orO_t, orO_f, chO_s, chP_t, chP_f, slO_s, atO_i, lcO_s, forO_s, gsO_s, nxO_s, tgO_s, paO_s, apO_s, exO_s, plO_s, ptO_s, dB_b, tru_b, tru_n, tru_i, tru_l, tru_t, is_n, isn_n, nn_n, nn_i, nn_b, nn_t, nn_l, add_ii, add'_ii, sub_ii, neg_i, lt_ii, le_ii, gt_ii, ge_ii, ix_l, ix_t, ix_s, at0, at1, at2, sl_l, sl_t, len_l, len_t, len_s, abs_i, int_i, int_b, max_ii, min_ii, tup_s, lst_s, seq_l, seq_t, sum_s, wipe_n, wipe_c, mul_ii, fdiv_ii, mod_ii, add_ll, add_tt, setAll, mkT, mkL, oNot, List.getD_cons_zero, List.getD_cons_succ, List.length_cons, List.length_nil, List.set_cons_zero, List.set_cons_succ, List.map_cons, List.map_nil, List.replicate, List.cons_append, List.nil_append, List.append_nil, Option.bind_some, Option.map_some, List.all_cons, List.all_nil, if_true, if_false, reduceIte, Nat.reduceAdd, Nat.reduceSub, Nat.reduceLT, Nat.reduceLeDiff, Nat.reduceEqDiff, decide_true, decide_false, Bool.and_true, Bool.and_self, Bool.true_and, Bool.not_true, Bool.not_false, ne_eq, not_true_eq_false, not_false_eq_true, Nat.zero_add, Bool.false_eq_true, and_self, true_and, and_true, sq, q5, q6]
    have q7 := bAll_map c fun g => cov n W (wo g c) 0
    have sq : seqD (oD c) = some (c.map fun j => PyData.int (j : Nat)) := rfl
    refine ⟨[some (.int (n : Nat)), some (.tuple (W.map wD)), some (oD c), none, none, none], rfl, ?_⟩
    have hI : ∃ x2, ([some (.int (n : Nat)), some (.tuple (W.map wD)), some (oD c), none, none, none] : PEnv) = [some (.int (n : Nat)), some (.tuple (W.map wD)), x2, none, none, none] := ⟨_, rfl⟩
    generalize W.map wD = WD at *
    generalize oD c = C at *
    generalize c.map (fun j => PyData.int (j : Nat)) = CC at *
    generalize (cL n W c).map PyData.int = CL at *
    generalize ((cL n W c).map fun x => PyData.bool (decide (0 < x))) = CB at *
    generalize (c.map fun g => PyData.bool (cov n W (wo g c) 0)) = GB at *
    generalize (c.all fun g => cov n W (wo g c) 0) = B2 at *
    generalize cov n W c 0 = B1 at *
    cases B1 with
    | true =>
      cases B2 with
      | true => exact ⟨fun _ => by simp -implicitDefEqProofs only [l1_never_blind, xVar_a, xC_a, xBin_a, xUn_a, tOf_a, tTru_a, tNotP_a, tAndP_a, tOrP_a, tyes_a, tno_a, tYesP_a, xNil_a, xCons_a, xTup_a, xLst_a, xAnd_a, xOr_a, xIf_a, xChain_a, oNo_a, oAt_a, xSl_a, xCall_a, xSeq_a, xIt_a, xLc_a, gSet_a, gTupD_a, gsNil_a, gsCons_a, sNop_a, sBrk_a, sCnt_a, sSeq_a, sRet_a, sIf_a, sSet_a, sTgt_a, sAug_a, sApp_a, sExt_a, sPut_a, sPutK_a, pkO_s, sFor_a, sWhile_a, sPar_a, runD_a, b2_s, c2_s, sqO_nx, sqO_rt, sqO_bk, sqO_ct, ifO_t, ifO_f, stO_s, endO_nx, endO_rt, andO_t, andO_f, orO_t, orO_f, chO_s, chP_t, chP_f, slO_s, atO_i, lcO_s, forO_s, gsO_s, nxO_s, tgO_s, paO_s, apO_s, exO_s, plO_s, ptO_s, dB_b, tru_b, tru_n, tru_i, tru_l, tru_t, is_n, isn_n, nn_n, nn_i, nn_b, nn_t, nn_l, add_ii, add'_ii, sub_ii, neg_i, lt_ii, le_ii, gt_ii, ge_ii, ix_l, ix_t, ix_s, at0, at1, at2, sl_l, sl_t, len_l, len_t, len_s, abs_i, int_i, int_b, max_ii, min_ii, tup_s, lst_s, seq_l, seq_t, sum_s, wipe_n, wipe_c, mul_ii, fdiv_ii, mod_ii, add_ll, add_tt, setAll, mkT, mkL, oNot, List.getD_cons_zero, List.getD_cons_succ, List.length_cons, List.length_nil, List.set_cons_zero, List.set_cons_succ, List.map_cons, List.map_nil, List.replicate, List.cons_append, List.nil_append, List.append_nil, Option.bind_some, Option.map_some, List.all_cons, List.all_nil, if_true, if_false, reduceIte, Nat.reduceAdd, Nat.reduceSub, Nat.reduceLT, Nat.reduceLeDiff, Nat.reduceEqDiff, decide_true, decide_false, Bool.and_true, Bool.and_self, Bool.true_and, Bool.not_true, Bool.not_false, ne_eq, not_true_eq_false, not_false_eq_true, Nat.zero_add, Bool.false_eq_true, and_self, true_and, and_true, hb, q1, q2, sq, q4, q7], fun z => by cases z⟩
      | false => exact ⟨fun z => by (cases z), fun _ => ⟨_, by simp -implicitDefEqProofs only [l1_never_blind, xVar_a, xC_a, xBin_a, xUn_a, tOf_a, tTru_a, tNotP_a, tAndP_a, tOrP_a, tyes_a, tno_a, tYesP_a, xNil_a, xCons_a, xTup_a, xLst_a, xAnd_a, xOr_a, xIf_a, xChain_a, oNo_a, oAt_a, xSl_a, xCall_a, xSeq_a, xIt_a, xLc_a, gSet_a, gTupD_a, gsNil_a, gsCons_a, sNop_a, sBrk_a, sCnt_a, sSeq_a, sRet_a, sIf_a, sSet_a, sTgt_a, sAug_a, sApp_a, sExt_a, sPut_a, sPutK_a, pkO_s, sFor_a, sWhile_a, sPar_a, runD_a, b2_s, c2_s, sqO_nx, sqO_rt, sqO_bk, sqO_ct, ifO_t, ifO_f, stO_s, endO_nx, endO_rt, andO_t, andO_f, orO_t, orO_f, chO_s, chP_t, chP_f, slO_s, atO_i, lcO_s, forO_s, gsO_s, nxO_s, tgO_s, paO_s, apO_s, exO_s, plO_s, ptO_s, dB_b, tru_b, tru_n, tru_i, tru_l, tru_t, is_n, isn_n, nn_n, nn_i, nn_b, nn_t, nn_l, add_ii, add'_ii, sub_ii, neg_i, lt_ii, le_ii, gt_ii, ge_ii, ix_l, ix_t, ix_s, at0, at1, at2, sl_l, sl_t, len_l, len_t, len_s, abs_i, int_i, int_b, max_ii, min_ii, tup_s, lst_s, seq_l, seq_t, sum_s, wipe_n, wipe_c, mul_ii, fdiv_ii, mod_ii, add_ll, add_tt, setAll, mkT, mkL, oNot, List.getD_cons_zero, List.getD_cons_succ, List.length_cons, List.length_nil, List.set_cons_zero, List.set_cons_succ, List.map_cons, List.map_nil, List.replicate, List.cons_append, List.nil_append, List.append_nil, Option.bind_some, Option.map_some, List.all_cons, List.all_nil, if_true, if_false, reduceIte, Nat.reduceAdd, Nat.reduceSub, Nat.reduceLT, Nat.reduceLeDiff, Nat.reduceEqDiff, decide_true, decide_false, Bool.and_true, Bool.and_self, Bool.true_and, Bool.not_true, Bool.not_false, ne_eq, not_true_eq_false, not_false_eq_true, Nat.zero_add, Bool.false_eq_true, and_self, true_and, and_true, hb, q1, q2, sq, q4, q7], hI⟩⟩
    | false => exact ⟨fun z => by (cases z), fun _ => ⟨_, by simp -implicitDefEqProofs only [l1_never_blind, xVar_a, xC_a, xBin_a, xUn_a, tOf_a, tTru_a, tNotP_a, tAndP_a, tOrP_a, tyes_a, tno_a, tYesP_a, xNil_a, xCons_a, xTup_a, xLst_a, xAnd_a, xOr_a, xIf_a, xChain_a, oNo_a, oAt_a, xSl_a, xCall_a, xSeq_a, xIt_a, xLc_a, gSet_a, gTupD_a, gsNil_a, gsCons_a, sNop_a, sBrk_a, sCnt_a, sSeq_a, sRet_a, sIf_a, sSet_a, sTgt_a, sAug_a, sApp_a, sExt_a, sPut_a, sPutK_a, pkO_s, sFor_a, sWhile_a, sPar_a, runD_a, b2_s, c2_s, sqO_nx, sqO_rt, sqO_bk, sqO_ct, ifO_t, ifO_f, stO_s, endO_nx, endO_rt, andO_t, andO_f, orO_t, orO_f, chO_s, chP_t, chP_f, slO_s, atO_i, lcO_s, forO_s, gsO_s, nxO_s, tgO_s, paO_s, apO_s, exO_s, plO_s, ptO_s, dB_b, tru_b, tru_n, tru_i, tru_l, tru_t, is_n, isn_n, nn_n, nn_i, nn_b, nn_t, nn_l, add_ii, add'_ii, sub_ii, neg_i, lt_ii, le_ii, gt_ii, ge_ii, ix_l, ix_t, ix_s, at0, at1, at2, sl_l, sl_t, len_l, len_t, len_s, abs_i, int_i, int_b, max_ii, min_ii, tup_s, lst_s, seq_l, seq_t, sum_s, wipe_n, wipe_c, mul_ii, fdiv_ii, mod_ii, add_ll, add_tt, setAll, mkT, mkL, oNot, List.getD_cons_zero, List.getD_cons_succ, List.length_cons, List.length_nil, List.set_cons_zero, List.set_cons_succ, List.map_cons, List.map_nil, List.replicate, List.cons_append, List.nil_append, List.append_nil, Option.bind_some, Option.map_some, List.all_cons, List.all_nil, if_true, if_false, reduceIte, Nat.reduceAdd, Nat.reduceSub, Nat.reduceLT, Nat.reduceLeDiff, Nat.reduceEqDiff, decide_true, decide_false, Bool.and_true, Bool.and_self, Bool.true_and, Bool.not_true, Bool.not_false, ne_eq, not_true_eq_false, not_false_eq_true, Nat.zero_add, Bool.false_eq_true, and_self, true_and, and_true, hb, q1, q2], hI⟩⟩) [some (.int (n : Nat)), some (.tuple (W.map wD)), none, none, none, none] ⟨none, rfl⟩
  generalize W.map wD = WD at *
  generalize (LS W.length).map oD = LD at *
  generalize (SS W.length).map oD = SD at *
  rcases key with ⟨c, f1, f2⟩ | ⟨f1, ρ', f2, _⟩
  · rw [f1]
    simp -implicitDefEqProofs only [d_never_blind, g_never_blind, xVar_a, xC_a, xBin_a, xUn_a, tOf_a, tTru_a, tNotP_a, tAndP_a, tOrP_a, tyes_a, tno_a, tYesP_a, xNil_a, xCons_a, xTup_a, xLst_a, xAnd_a, xOr_a, xIf_a, xChain_a, oNo_a, oAt_a, xSl_a, xCall_a, xSeq_a, xIt_a, xLc_a, gSet_a, gTupD_a, gsNil_a, gsCons_a, sNop_a, sBrk_a, sCnt_a, sSeq_a, sRet_a, sIf_a, sSet_a, sTgt_a, sAug_a, sApp_a, sExt_a, sPut_a, sPutK_a, pkO_s, sFor_a, sWhile_a, sPar_a, runD_a, b2_s, c2_s, sqO_nx, sqO_rt, sqO_bk, sqO_ct, ifO_t, ifO_f, stO_s, endO_nx, endO_rt, andO_t, andO_f, orO_t, orO_f, chO_s, chP_t, chP_f, slO_s, atO_i, lcO_s, forO_s, gsO_s, nxO_s, tgO_s, paO_s, apO_s, exO_s, plO_s, ptO_s, dB_b, tru_b, tru_n, tru_i, tru_l, tru_t, is_n, isn_n, nn_n, nn_i, nn_b, nn_t, nn_l, add_ii, add'_ii, sub_ii, neg_i, lt_ii, le_ii, gt_ii, ge_ii, ix_l, ix_t, ix_s, at0, at1, at2, sl_l, sl_t, len_l, len_t, len_s, abs_i, int_i, int_b, max_ii, min_ii, tup_s, lst_s, seq_l, seq_t, sum_s, wipe_n, wipe_c, mul_ii, fdiv_ii, mod_ii, add_ll, add_tt, setAll, mkT, mkL, oNot, List.getD_cons_zero, List.getD_cons_succ, List.length_cons, List.length_nil, List.set_cons_zero, List.set_cons_succ, List.map_cons, List.map_nil, List.replicate, List.cons_append, List.nil_append, List.append_nil, Option.bind_some, Option.map_some, List.all_cons, List.all_nil, if_true, if_false, reduceIte, Nat.reduceAdd, Nat.reduceSub, Nat.reduceLT, Nat.reduceLeDiff, Nat.reduceEqDiff, decide_true, decide_false, Bool.and_true, Bool.and_self, Bool.true_and, Bool.not_true, Bool.not_false, ne_eq, not_true_eq_false, not_false_eq_true, Nat.zero_add, Bool.false_eq_true, and_self, true_and, and_true, hl, ha, hs, f2, rsD]
  · rw [f1]
    simp -implicitDefEqProofs only [d_never_blind, g_never_blind, xVar_a, xC_a, xBin_a, xUn_a, tOf_a, tTru_a, tNotP_a, tAndP_a, tOrP_a, tyes_a, tno_a, tYesP_a, xNil_a, xCons_a, xTup_a, xLst_a, xAnd_a, xOr_a, xIf_a, xChain_a, oNo_a, oAt_a, xSl_a, xCall_a, xSeq_a, xIt_a, xLc_a, gSet_a, gTupD_a, gsNil_a, gsCons_a, sNop_a, sBrk_a, sCnt_a, sSeq_a, sRet_a, sIf_a, sSet_a, sTgt_a, sAug_a, sApp_a, sExt_a, sPut_a, sPutK_a, pkO_s, sFor_a, sWhile_a, sPar_a, runD_a, b2_s, c2_s, sqO_nx, sqO_rt, sqO_bk, sqO_ct, ifO_t, ifO_f, stO_s, endO_nx, endO_rt, andO_t, andO_f, orO_t, orO_f, chO_s, chP_t, chP_f, slO_s, atO_i, lcO_s, forO_s, gsO_s, nxO_s, tgO_s, paO_s, apO_s, exO_s, plO_s, ptO_s, dB_b, tru_b, tru_n, tru_i, tru_l, tru_t, is_n, isn_n, nn_n, nn_i, nn_b, nn_t, nn_l, add_ii, add'_ii, sub_ii, neg_i, lt_ii, le_ii, gt_ii, ge_ii, ix_l, ix_t, ix_s, at0, at1, at2, sl_l, sl_t, len_l, len_t, len_s, abs_i, int_i, int_b, max_ii, min_ii, tup_s, lst_s, seq_l, seq_t, sum_s, wipe_n, wipe_c, mul_ii, fdiv_ii, mod_ii, add_ll, add_tt, setAll, mkT, mkL, oNot, List.getD_cons_zero, List.getD_cons_succ, List.length_cons, List.length_nil, List.set_cons_zero, List.set_cons_succ, List.map_cons, List.map_nil, List.replicate, List.cons_append, List.nil_append, List.append_nil, Option.bind_some, Option.map_some, List.all_cons, List.all_nil, if_true, if_false, reduceIte, Nat.reduceAdd, Nat.reduceSub, Nat.reduceLT, Nat.reduceLeDiff, Nat.reduceEqDiff, decide_true, decide_false, Bool.and_true, Bool.and_self, Bool.true_and, Bool.not_true, Bool.not_false, ne_eq, not_true_eq_false, not_false_eq_true, Nat.zero_add, Bool.false_eq_true, and_self, true_and, and_true, hl, ha, hs, f2, rsD]
theorem cn_wo (n : Nat) (W : List Wt) {c : List Nat} (hc : c.Nodup) {g : Nat} (hg : g ∈ c) (p : Nat) : cn n W (wo g c) p = cn n W c p - if sv n (W.getD g (0, 0)) p = true then 1 else 0 := by
  unfold cn wo
  have key : ∀ c : List Nat, c.Nodup → ((c.countP fun k => sv n (W.getD k (0, 0)) p : Nat) : Int) = (((c.filter fun x : Nat => !decide ((x : Int) = (g : Int))).countP fun k => sv n (W.getD k (0, 0)) p : Nat) : Int) + if g ∈ c ∧ sv n (W.getD g (0, 0)) p = true then 1 else 0 := fun c => by
    induction c with
    | nil => simp
    | cons a c ih =>
      intro hn
      obtain ⟨h1, h2⟩ := List.nodup_cons.mp hn
      have ih := ih h2
      by_cases ha : a = g
      · subst ha
        rw [if_neg (fun z => h1 z.1)] at ih
        simp only [List.countP_cons, decide_true, Bool.not_true, Bool.false_eq_true, not_false_eq_true, List.filter_cons_of_neg, List.mem_cons, true_or, true_and]
        split <;> omega
      · have hd : (!decide ((a : Int) = (g : Int))) = true := by
          rw [Bool.not_eq_true', decide_eq_false_iff_not]
          omega
        have hf : (a :: c).filter (fun x : Nat => !decide ((x : Int) = (g : Int))) = a :: c.filter (fun x : Nat => !decide ((x : Int) = (g : Int))) := List.filter_cons_of_pos hd
        rw [hf, List.countP_cons, List.countP_cons]
        have hm : (g ∈ a :: c ∧ sv n (W.getD g (0, 0)) p = true) ↔ (g ∈ c ∧ sv n (W.getD g (0, 0)) p = true) := by
          rw [List.mem_cons]
          exact ⟨fun z => ⟨z.1.resolve_left fun e => ha e.symm, z.2⟩, fun z => ⟨.inr z.1, z.2⟩⟩
        simp only [hm]
        split <;> omega
  have h := key c hc
  by_cases hv : sv n (W.getD g (0, 0)) p = true
  · rw [if_pos ⟨hg, hv⟩] at h
    rw [if_pos hv]
    omega
  · rw [if_neg (fun z => hv z.2)] at h
    rw [if_neg hv]
    omega
theorem cov_iff {n : Nat} {W : List Wt} {c : List Nat} {j : Int} : cov n W c j = true ↔ ∀ p, p < n → j < cn n W c p := by
  unfold cov
  rw [List.all_eq_true]
  exact ⟨fun h p hp => of_decide_eq_true (h p (List.mem_range.mpr hp)), fun h p hp => decide_eq_true (h p (List.mem_range.mp hp))⟩
theorem cn_pos {n : Nat} {W : List Wt} {c : List Nat} {p : Nat} : 0 < cn n W c p ↔ ∃ k ∈ c, sv n (W.getD k (0, 0)) p = true := by
  unfold cn
  rw [show (0 < ((c.countP fun k => sv n (W.getD k (0, 0)) p : Nat) : Int)) ↔ 0 < c.countP fun k => sv n (W.getD k (0, 0)) p by omega, List.countP_pos_iff]
theorem twice_eq {n : Nat} {W : List Wt} {c : List Nat} (hc : c.Nodup) : (cov n W c 0 && c.all fun g => cov n W (wo g c) 0) = cov n W c 1 := by
  rw [Bool.eq_iff_iff, Bool.and_eq_true, List.all_eq_true]
  constructor
  · rintro ⟨h1, h2⟩
    rw [cov_iff] at h1 ⊢
    intro p hp
    obtain ⟨g, hg, hv⟩ := cn_pos.mp (h1 p hp)
    have h3 := cov_iff.mp (h2 g hg) p hp
    rw [cn_wo n W hc hg p, if_pos hv] at h3
    omega
  · intro h
    rw [cov_iff] at h
    refine ⟨cov_iff.mpr fun p hp => by have := h p hp; omega, fun g hg => cov_iff.mpr fun p hp => ?_⟩
    have := h p hp
    rw [cn_wo n W hc hg p]
    split <;> omega
theorem find_congr {α : Type} {p q : α → Bool} : ∀ {l : List α}, (∀ x ∈ l, p x = q x) → l.find? p = l.find? q
  | [], _ => rfl
  | a :: l, h => by
    rw [List.find?_cons, List.find?_cons, h a (by simp), find_congr fun x hx => h x (List.mem_cons_of_mem _ hx)]
end K20

namespace K20
open PySem PySem.Spec PyProof.Rows L2 Pm
open PySem.W (Datum Tup maxOf maxD_map)
/-! the greatest of whole numbers -/
def most : List Int → Option Int
  | [] => none
  | x :: xs => some (maxOf x xs)
theorem most_none {l : List Int} : most l = none ↔ l = [] := by cases l <;> simp [most]
theorem most_spec {l : List Int} {m : Int} (h : most l = some m) : m ∈ l ∧ ∀ y ∈ l, y ≤ m := by
  cases l with
  | nil => cases h
  | cons x xs =>
    cases h
    obtain ⟨h1, h2⟩ := maxOf_spec xs x
    refine ⟨h1, fun y hy => ?_⟩
    have := of_decide_eq_false (h2 y hy)
    omega
theorem maxK_map {x : D} (l : List Int) (o : D) (hx : seqD x = some (l.map PyData.int)) : bMaxK [x] o = some ((most l).elim o PyData.int) := by
  show (seqD x).bind _ = _
  have ok : okCmp (l.map PyData.int) = true := okCmp_map (α := Int) (by decide) l
  rw [hx, Option.bind_some, if_pos ok]
  cases l with
  | nil => rfl
  | cons y ys =>
    have e := maxD_map (α := Int) y ys
    show some (PySem.W.maxD (PyData.int y) (ys.map PyData.int)) = some (PyData.int (maxOf y ys))
    exact congrArg some e
theorem maxD_l {x : D} (l : List Int) (hx : seqD x = some (l.map PyData.int)) : bMaxD [x] = (most l).map PyData.int := by
  show (seqD x).bind _ = _
  have ok : okCmp (l.map PyData.int) = true := okCmp_map (α := Int) (by decide) l
  rw [hx, Option.bind_some, if_pos ok]
  cases l with
  | nil => rfl
  | cons y ys =>
    have e := maxD_map (α := Int) y ys
    show some (PySem.W.maxD (PyData.int y) (ys.map PyData.int)) = some (PyData.int (maxOf y ys))
    exact congrArg some e
def rch (n : Nat) (w : Wt) (p : Nat) : Int := mnI w.2 n - ((p : Int) - w.1).fmod n
def gL (n : Nat) (W : List Wt) (p : Nat) : List Int := (W.filter fun w => sv n w p).map fun w => rch n w p
def go (n : Nat) (W : List Wt) (p : Nat) : Int := (most (gL n W p)).getD 0
theorem goes_on_eq {n : Nat} (hn : 0 < n) (W : List Wt) (p : Nat) : d_goes_on [.int (n : Nat), .tuple (W.map wD), .int (p : Nat)] = some (.int (go n W p)) := by
  have n0 : (n : Int) ≠ 0 := by omega
  have hmn : ∀ w : Wt, bMin2 [.int w.2, .int (n : Nat)] = some (.int (mnI w.2 n)) := fun _ => rfl
  have a1 : ∀ x y : D, atI [x, y] 1 = some y := fun _ _ => rfl
  have h1 : ∀ x3, lcL (gSet 3) (tOf (xBin oLt (xBin oMod (xBin oSub (xVar 2) (xBin oIx (xVar 3) (xC (.int 0)))) (xVar 0)) (xCall bMin2 (xCons (xBin oIx (xVar 3) (xC (.int 1))) (xCons (xVar 0) xNil))))) (xBin oSub (xCall bMin2 (xCons (xBin oIx (xVar 3) (xC (.int 1))) (xCons (xVar 0) xNil))) (xBin oMod (xBin oSub (xVar 2) (xBin oIx (xVar 3) (xC (.int 0)))) (xVar 0))) [some (.int (n : Nat)), some (.tuple (W.map wD)), some (.int (p : Nat)), x3] (W.map wD) = some ((gL n W p).map PyData.int) := fun x3 => by
    rw [gL, List.map_map]
    refine lcL_filter _ _ (fun w => sv n w p) _ fun w _ => ?_
    generalize W.map wD = WD at *
    refine ⟨[some (.int (n : Nat)), some (.tuple WD), some (.int (p : Nat)), some (wD w)], rfl, ?_, fun _ => ?_⟩
    · simp -implicitDefEqProofs only [xVar_a, xC_a, xBin_a, xUn_a, tOf_a, tTru_a, tNotP_a, tAndP_a, tOrP_a, tyes_a, tno_a, tYesP_a, xNil_a, xCons_a, xTup_a, xLst_a, xAnd_a, xOr_a, xIf_a, xChain_a, oNo_a, oAt_a, xSl_a, xCall_a, xSeq_a, xIt_a, xLc_a, gSet_a, gTupD_a, gsNil_a, gsCons_a, sNop_a, sBrk_a, sCnt_a, sSeq_a, sRet_a, sIf_a, sSet_a, sTgt_a, sAug_a, sApp_a, sExt_a, sPut_a, sPutK_a, pkO_s, sFor_a, sWhile_a, sPar_a, runD_a, b2_s, c2_s, sqO_nx, sqO_rt, sqO_bk, sqO_ct, ifO_t, ifO_f, stO_s, endO_nx, endO_rt, andO_t, andO_f, orO_t, orO_f, chO_s, chP_t, chP_f, slO_s, atO_i, lcO_s, forO_s, gsO_s, nxO_s, tgO_s, paO_s, apO_s, exO_s, plO_s, ptO_s, dB_b, tru_b, tru_n, tru_i, tru_l, tru_t, is_n, isn_n, nn_n, nn_i, nn_b, nn_t, nn_l, add_ii, add'_ii, sub_ii, neg_i, lt_ii, le_ii, gt_ii, ge_ii, ix_l, ix_t, ix_s, at0, at1, at2, sl_l, sl_t, len_l, len_t, len_s, abs_i, int_i, int_b, max_ii, min_ii, tup_s, lst_s, seq_l, seq_t, sum_s, wipe_n, wipe_c, mul_ii, fdiv_ii, mod_ii, add_ll, add_tt, setAll, mkT, mkL, oNot, List.getD_cons_zero, List.getD_cons_succ, List.length_cons, List.length_nil, List.set_cons_zero, List.set_cons_succ, List.map_cons, List.map_nil, List.replicate, List.cons_append, List.nil_append, List.append_nil, Option.bind_some, Option.map_some, List.all_cons, List.all_nil, if_true, if_false, reduceIte, Nat.reduceAdd, Nat.reduceSub, Nat.reduceLT, Nat.reduceLeDiff, Nat.reduceEqDiff, decide_true, decide_false, Bool.and_true, Bool.and_self, Bool.true_and, Bool.not_true, Bool.not_false, ne_eq, not_true_eq_false, not_false_eq_true, Nat.zero_add, Bool.false_eq_true, and_self, true_and, and_true, wD, mod_ii n0, sv, mnI]
      rfl
    · simp -implicitDefEqProofs only [Function.comp, xVar_a, xC_a, xBin_a, xUn_a, tOf_a, tTru_a, tNotP_a, tAndP_a, tOrP_a, tyes_a, tno_a, tYesP_a, xNil_a, xCons_a, xTup_a, xLst_a, xAnd_a, xOr_a, xIf_a, xChain_a, oNo_a, oAt_a, xSl_a, xCall_a, xSeq_a, xIt_a, xLc_a, gSet_a, gTupD_a, gsNil_a, gsCons_a, sNop_a, sBrk_a, sCnt_a, sSeq_a, sRet_a, sIf_a, sSet_a, sTgt_a, sAug_a, sApp_a, sExt_a, sPut_a, sPutK_a, pkO_s, sFor_a, sWhile_a, sPar_a, runD_a, b2_s, c2_s, sqO_nx, sqO_rt, sqO_bk, sqO_ct, ifO_t, ifO_f, stO_s, endO_nx, endO_rt, andO_t, andO_f, orO_t, orO_f, chO_s, chP_t, chP_f, slO_s, atO_i, lcO_s, forO_s, gsO_s, nxO_s, tgO_s, paO_s, apO_s, exO_s, plO_s, ptO_s, dB_b, tru_b, tru_n, tru_i, tru_l, tru_t, is_n, isn_n, nn_n, nn_i, nn_b, nn_t, nn_l, add_ii, add'_ii, sub_ii, neg_i, lt_ii, le_ii, gt_ii, ge_ii, ix_l, ix_t, ix_s, at0, at1, at2, sl_l, sl_t, len_l, len_t, len_s, abs_i, int_i, int_b, max_ii, min_ii, tup_s, lst_s, seq_l, seq_t, sum_s, wipe_n, wipe_c, mul_ii, fdiv_ii, mod_ii, add_ll, add_tt, setAll, mkT, mkL, oNot, List.getD_cons_zero, List.getD_cons_succ, List.length_cons, List.length_nil, List.set_cons_zero, List.set_cons_succ, List.map_cons, List.map_nil, List.replicate, List.cons_append, List.nil_append, List.append_nil, Option.bind_some, Option.map_some, List.all_cons, List.all_nil, if_true, if_false, reduceIte, Nat.reduceAdd, Nat.reduceSub, Nat.reduceLT, Nat.reduceLeDiff, Nat.reduceEqDiff, decide_true, decide_false, Bool.and_true, Bool.and_self, Bool.true_and, Bool.not_true, Bool.not_false, ne_eq, not_true_eq_false, not_false_eq_true, Nat.zero_add, Bool.false_eq_true, and_self, true_and, and_true, wD, mod_ii n0, rch, mnI]
  have h2 := maxK_map (x := .list ((gL n W p).map PyData.int)) (gL n W p) (.int 0) rfl
  have h3 : ((most (gL n W p)).elim (.int 0) PyData.int : D) = .int (go n W p) := by
    unfold go
    cases most (gL n W p) <;> rfl
  rw [h3] at h2
  have hK := fun ρ : PEnv => xCallK_a (ρ := ρ) bMaxK
  generalize W.map wD = WD at *
  generalize (gL n W p).map PyData.int = G at *
  simp -implicitDefEqProofs only [d_goes_on, g_goes_on, xVar_a, xC_a, xBin_a, xUn_a, tOf_a, tTru_a, tNotP_a, tAndP_a, tOrP_a, tyes_a, tno_a, tYesP_a, xNil_a, xCons_a, xTup_a, xLst_a, xAnd_a, xOr_a, xIf_a, xChain_a, oNo_a, oAt_a, xSl_a, xCall_a, xSeq_a, xIt_a, xLc_a, gSet_a, gTupD_a, gsNil_a, gsCons_a, sNop_a, sBrk_a, sCnt_a, sSeq_a, sRet_a, sIf_a, sSet_a, sTgt_a, sAug_a, sApp_a, sExt_a, sPut_a, sPutK_a, pkO_s, sFor_a, sWhile_a, sPar_a, runD_a, b2_s, c2_s, sqO_nx, sqO_rt, sqO_bk, sqO_ct, ifO_t, ifO_f, stO_s, endO_nx, endO_rt, andO_t, andO_f, orO_t, orO_f, chO_s, chP_t, chP_f, slO_s, atO_i, lcO_s, forO_s, gsO_s, nxO_s, tgO_s, paO_s, apO_s, exO_s, plO_s, ptO_s, dB_b, tru_b, tru_n, tru_i, tru_l, tru_t, is_n, isn_n, nn_n, nn_i, nn_b, nn_t, nn_l, add_ii, add'_ii, sub_ii, neg_i, lt_ii, le_ii, gt_ii, ge_ii, ix_l, ix_t, ix_s, at0, at1, at2, sl_l, sl_t, len_l, len_t, len_s, abs_i, int_i, int_b, max_ii, min_ii, tup_s, lst_s, seq_l, seq_t, sum_s, wipe_n, wipe_c, mul_ii, fdiv_ii, mod_ii, add_ll, add_tt, setAll, mkT, mkL, oNot, List.getD_cons_zero, List.getD_cons_succ, List.length_cons, List.length_nil, List.set_cons_zero, List.set_cons_succ, List.map_cons, List.map_nil, List.replicate, List.cons_append, List.nil_append, List.append_nil, Option.bind_some, Option.map_some, List.all_cons, List.all_nil, if_true, if_false, reduceIte, Nat.reduceAdd, Nat.reduceSub, Nat.reduceLT, Nat.reduceLeDiff, Nat.reduceEqDiff, decide_true, decide_false, Bool.and_true, Bool.and_self, Bool.true_and, Bool.not_true, Bool.not_false, ne_eq, not_true_eq_false, not_false_eq_true, Nat.zero_add, Bool.false_eq_true, and_self, true_and, and_true, hK, h1, h2]
theorem sv_lt {n : Nat} {w : Wt} {p : Nat} (h : sv n w p = true) : 0 < rch n w p := by
  have := of_decide_eq_true h
  unfold rch
  omega
theorem go_ge {n : Nat} {W : List Wt} {p : Nat} {w : Wt} (hw : w ∈ W) (h : sv n w p = true) : rch n w p ≤ go n W p := by
  have hm : rch n w p ∈ gL n W p := List.mem_map_of_mem (List.mem_filter.mpr ⟨hw, h⟩)
  unfold go
  cases e : most (gL n W p) with
  | none =>
    rw [most_none.mp e] at hm
    cases hm
  | some m => exact (most_spec e).2 _ hm
theorem go_get {n : Nat} {W : List Wt} {p : Nat} (h : go n W p ≠ 0) : ∃ w ∈ W, sv n w p = true ∧ go n W p = rch n w p := by
  unfold go at h ⊢
  cases e : most (gL n W p) with
  | none => rw [e] at h; exact absurd rfl h
  | some m =>
    obtain ⟨w, hw, e2⟩ := List.mem_map.mp (most_spec e).1
    obtain ⟨h1, h2⟩ := List.mem_filter.mp hw
    exact ⟨w, h1, h2, e2.symm⟩
theorem go_pos {n : Nat} {W : List Wt} {p : Nat} (h : go n W p ≠ 0) : 0 < go n W p := by
  obtain ⟨w, _, h2, e⟩ := go_get h
  rw [e]
  exact sv_lt h2
/-! the greedy way round -/
def at_ (n : Nat) (w : Wt) (s : Int) : Nat := ((w.1 + s).fmod n).toNat
def gs (n : Nat) (W : List Wt) (w : Wt) : Nat → Int → Nat → Nat
  | 0, _, c => c
  | f + 1, s, c => if s < n then gs n W w f (s + go n W (at_ n w s)) (c + 1) else c
def allG (n : Nat) (W : List Wt) : Bool := (List.range n).all fun p => !decide (go n W p = 0)
theorem at_lt {n : Nat} (hn : 0 < n) (w : Wt) (s : Int) : at_ n w s < n := by
  have := fmod_rng (w.1 + s) (m := (n : Int)) (by omega)
  unfold at_
  omega
theorem at_int {n : Nat} (hn : 0 < n) (w : Wt) (s : Int) : ((at_ n w s : Nat) : Int) = (w.1 + s).fmod n := by
  have := fmod_rng (w.1 + s) (m := (n : Int)) (by omega)
  unfold at_
  omega
theorem greedy_while {n : Nat} (hn : 0 < n) {W : List Wt} (hg : allG n W = true) (w : Wt) (x2 x6 : Option D) : ∀ (f : Nat) (s : Int) (c N : Nat), (n : Int) - s ≤ f → f < N →
    ∃ s', whileF (tOf (xBin oLt (xVar 4) (xVar 0))) l1_watches_greedy N [some (.int (n : Nat)), some (.tuple (W.map wD)), x2, some (wD w), some (.int s), some (.int (c : Nat)), x6] =
      some (.nx [some (.int (n : Nat)), some (.tuple (W.map wD)), x2, some (wD w), some (.int s'), some (.int (gs n W w f s c : Nat)), x6])
  | f, s, c, 0, _, h => by omega
  | 0, s, c, N + 1, hf, _ => by
    refine ⟨s, ?_⟩
    rw [whileF_succ]
    have hc : tOf (xBin oLt (xVar 4) (xVar 0)) [some (.int (n : Nat)), some (.tuple (W.map wD)), x2, some (wD w), some (.int s), some (.int (c : Nat)), x6] = some false := by
      generalize W.map wD = WD at *
      have : ¬ s < (n : Int) := by omega
      simp -implicitDefEqProofs only [xVar_a, xC_a, xBin_a, xUn_a, tOf_a, tTru_a, tNotP_a, tAndP_a, tOrP_a, tyes_a, tno_a, tYesP_a, xNil_a, xCons_a, xTup_a, xLst_a, xAnd_a, xOr_a, xIf_a, xChain_a, oNo_a, oAt_a, xSl_a, xCall_a, xSeq_a, xIt_a, xLc_a, gSet_a, gTupD_a, gsNil_a, gsCons_a, sNop_a, sBrk_a, sCnt_a, sSeq_a, sRet_a, sIf_a, sSet_a, sTgt_a, sAug_a, sApp_a, sExt_a, sPut_a, sPutK_a, pkO_s, sFor_a, sWhile_a, sPar_a, runD_a, b2_s, c2_s, sqO_nx, sqO_rt, sqO_bk, sqO_ct, ifO_t, ifO_f, stO_s, endO_nx, endO_rt, andO_t, andO_f, orO_t, orO_f, chO_s, chP_t, chP_f, slO_s, atO_i, lcO_s, forO_s, gsO_s, nxO_s, tgO_s, paO_s, apO_s, exO_s, plO_s, ptO_s, dB_b, tru_b, tru_n, tru_i, tru_l, tru_t, is_n, isn_n, nn_n, nn_i, nn_b, nn_t, nn_l, add_ii, add'_ii, sub_ii, neg_i, lt_ii, le_ii, gt_ii, ge_ii, ix_l, ix_t, ix_s, at0, at1, at2, sl_l, sl_t, len_l, len_t, len_s, abs_i, int_i, int_b, max_ii, min_ii, tup_s, lst_s, seq_l, seq_t, sum_s, wipe_n, wipe_c, mul_ii, fdiv_ii, mod_ii, add_ll, add_tt, setAll, mkT, mkL, oNot, List.getD_cons_zero, List.getD_cons_succ, List.length_cons, List.length_nil, List.set_cons_zero, List.set_cons_succ, List.map_cons, List.map_nil, List.replicate, List.cons_append, List.nil_append, List.append_nil, Option.bind_some, Option.map_some, List.all_cons, List.all_nil, if_true, if_false, reduceIte, Nat.reduceAdd, Nat.reduceSub, Nat.reduceLT, Nat.reduceLeDiff, Nat.reduceEqDiff, decide_true, decide_false, Bool.and_true, Bool.and_self, Bool.true_and, Bool.not_true, Bool.not_false, ne_eq, not_true_eq_false, not_false_eq_true, Nat.zero_add, Bool.false_eq_true, and_self, true_and, and_true, this]
    rw [hc, gs]
    rfl
  | f + 1, s, c, N + 1, hf, hN => by
    by_cases hs : s < (n : Int)
    · have hat := at_lt hn w s
      have hgo : go n W (at_ n w s) ≠ 0 := by
        have := (List.all_eq_true.mp hg) _ (List.mem_range.mpr hat)
        simpa using this
      have hp := go_pos hgo
      obtain ⟨s', ih⟩ := greedy_while hn hg w x2 x6 f (s + go n W (at_ n w s)) (c + 1) N (by omega) (by omega)
      refine ⟨s', ?_⟩
      rw [whileF_succ]
      have hc : tOf (xBin oLt (xVar 4) (xVar 0)) [some (.int (n : Nat)), some (.tuple (W.map wD)), x2, some (wD w), some (.int s), some (.int (c : Nat)), x6] = some true := by
        generalize W.map wD = WD at *
        simp -implicitDefEqProofs only [xVar_a, xC_a, xBin_a, xUn_a, tOf_a, tTru_a, tNotP_a, tAndP_a, tOrP_a, tyes_a, tno_a, tYesP_a, xNil_a, xCons_a, xTup_a, xLst_a, xAnd_a, xOr_a, xIf_a, xChain_a, oNo_a, oAt_a, xSl_a, xCall_a, xSeq_a, xIt_a, xLc_a, gSet_a, gTupD_a, gsNil_a, gsCons_a, sNop_a, sBrk_a, sCnt_a, sSeq_a, sRet_a, sIf_a, sSet_a, sTgt_a, sAug_a, sApp_a, sExt_a, sPut_a, sPutK_a, pkO_s, sFor_a, sWhile_a, sPar_a, runD_a, b2_s, c2_s, sqO_nx, sqO_rt, sqO_bk, sqO_ct, ifO_t, ifO_f, stO_s, endO_nx, endO_rt, andO_t, andO_f, orO_t, orO_f, chO_s, chP_t, chP_f, slO_s, atO_i, lcO_s, forO_s, gsO_s, nxO_s, tgO_s, paO_s, apO_s, exO_s, plO_s, ptO_s, dB_b, tru_b, tru_n, tru_i, tru_l, tru_t, is_n, isn_n, nn_n, nn_i, nn_b, nn_t, nn_l, add_ii, add'_ii, sub_ii, neg_i, lt_ii, le_ii, gt_ii, ge_ii, ix_l, ix_t, ix_s, at0, at1, at2, sl_l, sl_t, len_l, len_t, len_s, abs_i, int_i, int_b, max_ii, min_ii, tup_s, lst_s, seq_l, seq_t, sum_s, wipe_n, wipe_c, mul_ii, fdiv_ii, mod_ii, add_ll, add_tt, setAll, mkT, mkL, oNot, List.getD_cons_zero, List.getD_cons_succ, List.length_cons, List.length_nil, List.set_cons_zero, List.set_cons_succ, List.map_cons, List.map_nil, List.replicate, List.cons_append, List.nil_append, List.append_nil, Option.bind_some, Option.map_some, List.all_cons, List.all_nil, if_true, if_false, reduceIte, Nat.reduceAdd, Nat.reduceSub, Nat.reduceLT, Nat.reduceLeDiff, Nat.reduceEqDiff, decide_true, decide_false, Bool.and_true, Bool.and_self, Bool.true_and, Bool.not_true, Bool.not_false, ne_eq, not_true_eq_false, not_false_eq_true, Nat.zero_add, Bool.false_eq_true, and_self, true_and, and_true, hs]
      have hb : l1_watches_greedy [some (.int (n : Nat)), some (.tuple (W.map wD)), x2, some (wD w), some (.int s), some (.int (c : Nat)), x6] = some (.nx [some (.int (n : Nat)), some (.tuple (W.map wD)), x2, some (wD w), some (.int (s + go n W (at_ n w s))), some (.int ((c + 1 : Nat) : Int)), x6]) := by
        have hge := goes_on_eq hn W (at_ n w s)
        rw [at_int hn] at hge
        have n0 : (n : Int) ≠ 0 := by omega
        have e : ((c + 1 : Nat) : Int) = (c : Int) + 1 := by omega
        rw [e]
        generalize W.map wD = WD at *
        generalize go n W (at_ n w s) = G at *
        simp -implicitDefEqProofs only [l1_watches_greedy, xVar_a, xC_a, xBin_a, xUn_a, tOf_a, tTru_a, tNotP_a, tAndP_a, tOrP_a, tyes_a, tno_a, tYesP_a, xNil_a, xCons_a, xTup_a, xLst_a, xAnd_a, xOr_a, xIf_a, xChain_a, oNo_a, oAt_a, xSl_a, xCall_a, xSeq_a, xIt_a, xLc_a, gSet_a, gTupD_a, gsNil_a, gsCons_a, sNop_a, sBrk_a, sCnt_a, sSeq_a, sRet_a, sIf_a, sSet_a, sTgt_a, sAug_a, sApp_a, sExt_a, sPut_a, sPutK_a, pkO_s, sFor_a, sWhile_a, sPar_a, runD_a, b2_s, c2_s, sqO_nx, sqO_rt, sqO_bk, sqO_ct, ifO_t, ifO_f, stO_s, endO_nx, endO_rt, andO_t, andO_f, orO_t, orO_f, chO_s, chP_t, chP_f, slO_s, atO_i, lcO_s, forO_s, gsO_s, nxO_s, tgO_s, paO_s, apO_s, exO_s, plO_s, ptO_s, dB_b, tru_b, tru_n, tru_i, tru_l, tru_t, is_n, isn_n, nn_n, nn_i, nn_b, nn_t, nn_l, add_ii, add'_ii, sub_ii, neg_i, lt_ii, le_ii, gt_ii, ge_ii, ix_l, ix_t, ix_s, at0, at1, at2, sl_l, sl_t, len_l, len_t, len_s, abs_i, int_i, int_b, max_ii, min_ii, tup_s, lst_s, seq_l, seq_t, sum_s, wipe_n, wipe_c, mul_ii, fdiv_ii, mod_ii, add_ll, add_tt, setAll, mkT, mkL, oNot, List.getD_cons_zero, List.getD_cons_succ, List.length_cons, List.length_nil, List.set_cons_zero, List.set_cons_succ, List.map_cons, List.map_nil, List.replicate, List.cons_append, List.nil_append, List.append_nil, Option.bind_some, Option.map_some, List.all_cons, List.all_nil, if_true, if_false, reduceIte, Nat.reduceAdd, Nat.reduceSub, Nat.reduceLT, Nat.reduceLeDiff, Nat.reduceEqDiff, decide_true, decide_false, Bool.and_true, Bool.and_self, Bool.true_and, Bool.not_true, Bool.not_false, ne_eq, not_true_eq_false, not_false_eq_true, Nat.zero_add, Bool.false_eq_true, and_self, true_and, and_true, wD, mod_ii n0, hge]
      rw [hc, gs, if_pos hs, Option.bind_some, if_pos rfl, hb]
      exact ih
    · refine ⟨s, ?_⟩
      rw [whileF_succ]
      have hc : tOf (xBin oLt (xVar 4) (xVar 0)) [some (.int (n : Nat)), some (.tuple (W.map wD)), x2, some (wD w), some (.int s), some (.int (c : Nat)), x6] = some false := by
        generalize W.map wD = WD at *
        simp -implicitDefEqProofs only [xVar_a, xC_a, xBin_a, xUn_a, tOf_a, tTru_a, tNotP_a, tAndP_a, tOrP_a, tyes_a, tno_a, tYesP_a, xNil_a, xCons_a, xTup_a, xLst_a, xAnd_a, xOr_a, xIf_a, xChain_a, oNo_a, oAt_a, xSl_a, xCall_a, xSeq_a, xIt_a, xLc_a, gSet_a, gTupD_a, gsNil_a, gsCons_a, sNop_a, sBrk_a, sCnt_a, sSeq_a, sRet_a, sIf_a, sSet_a, sTgt_a, sAug_a, sApp_a, sExt_a, sPut_a, sPutK_a, pkO_s, sFor_a, sWhile_a, sPar_a, runD_a, b2_s, c2_s, sqO_nx, sqO_rt, sqO_bk, sqO_ct, ifO_t, ifO_f, stO_s, endO_nx, endO_rt, andO_t, andO_f, orO_t, orO_f, chO_s, chP_t, chP_f, slO_s, atO_i, lcO_s, forO_s, gsO_s, nxO_s, tgO_s, paO_s, apO_s, exO_s, plO_s, ptO_s, dB_b, tru_b, tru_n, tru_i, tru_l, tru_t, is_n, isn_n, nn_n, nn_i, nn_b, nn_t, nn_l, add_ii, add'_ii, sub_ii, neg_i, lt_ii, le_ii, gt_ii, ge_ii, ix_l, ix_t, ix_s, at0, at1, at2, sl_l, sl_t, len_l, len_t, len_s, abs_i, int_i, int_b, max_ii, min_ii, tup_s, lst_s, seq_l, seq_t, sum_s, wipe_n, wipe_c, mul_ii, fdiv_ii, mod_ii, add_ll, add_tt, setAll, mkT, mkL, oNot, List.getD_cons_zero, List.getD_cons_succ, List.length_cons, List.length_nil, List.set_cons_zero, List.set_cons_succ, List.map_cons, List.map_nil, List.replicate, List.cons_append, List.nil_append, List.append_nil, Option.bind_some, Option.map_some, List.all_cons, List.all_nil, if_true, if_false, reduceIte, Nat.reduceAdd, Nat.reduceSub, Nat.reduceLT, Nat.reduceLeDiff, Nat.reduceEqDiff, decide_true, decide_false, Bool.and_true, Bool.and_self, Bool.true_and, Bool.not_true, Bool.not_false, ne_eq, not_true_eq_false, not_false_eq_true, Nat.zero_add, Bool.false_eq_true, and_self, true_and, and_true, hs]
      rw [hc, gs, if_neg hs]
      rfl
def gc (n : Nat) (W : List Wt) (w : Wt) : Nat := gs n W w n (mnI w.2 n) 1
def grD (n : Nat) (W : List Wt) : D := if allG n W then ((least (W.map fun w => ((gc n W w : Nat) : Int))).elim (.int 0) PyData.int) else .none
theorem watches_greedy_eq {n : Nat} (hn : 0 < n) (hn2 : n ≤ 100) {W : List Wt} (hW : OkW W) (hl : W.length ≤ 100) : d_watches_greedy [.int (n : Nat), .tuple (W.map wD)] = some (grD n W) := by
  have hr := rg0 n (by omega)
  have h1 : ∀ x6, lcL (gSet 6) tYesP (xBin oEq (xCall (fun ds => if ds.length = 3 then (d_goes_on) ds else none) (xCons (xVar 0) (xCons (xVar 1) (xCons (xVar 6) xNil)))) (xC (.int 0))) [some (.int (n : Nat)), some (.tuple (W.map wD)), none, none, none, none, x6] ((List.range n).map fun k : Nat => PyData.int (k : Nat)) = some ((List.range n).map fun p => .bool (decide (go n W p = 0))) := fun x6 => by
    refine lcL_map _ _ _ fun p _ => ?_
    have hge := goes_on_eq hn W p
    generalize W.map wD = WD at *
    simp -implicitDefEqProofs only [xVar_a, xC_a, xBin_a, xUn_a, tOf_a, tTru_a, tNotP_a, tAndP_a, tOrP_a, tyes_a, tno_a, tYesP_a, xNil_a, xCons_a, xTup_a, xLst_a, xAnd_a, xOr_a, xIf_a, xChain_a, oNo_a, oAt_a, xSl_a, xCall_a, xSeq_a, xIt_a, xLc_a, gSet_a, gTupD_a, gsNil_a, gsCons_a, sNop_a, sBrk_a, sCnt_a, sSeq_a, sRet_a, sIf_a, sSet_a, sTgt_a, sAug_a, sApp_a, sExt_a, sPut_a, sPutK_a, pkO_s, sFor_a, sWhile_a, sPar_a, runD_a, b2_s, c2_s, sqO_nx, sqO_rt, sqO_bk, sqO_ct, ifO_t, ifO_f, stO_s, endO_nx, endO_rt, andO_t, andO_f, orO_t, orO_f, chO_s, chP_t, chP_f, slO_s, atO_i, lcO_s, forO_s, gsO_s, nxO_s, tgO_s, paO_s, apO_s, exO_s, plO_s, ptO_s, dB_b, tru_b, tru_n, tru_i, tru_l, tru_t, is_n, isn_n, nn_n, nn_i, nn_b, nn_t, nn_l, add_ii, add'_ii, sub_ii, neg_i, lt_ii, le_ii, gt_ii, ge_ii, ix_l, ix_t, ix_s, at0, at1, at2, sl_l, sl_t, len_l, len_t, len_s, abs_i, int_i, int_b, max_ii, min_ii, tup_s, lst_s, seq_l, seq_t, sum_s, wipe_n, wipe_c, mul_ii, fdiv_ii, mod_ii, add_ll, add_tt, setAll, mkT, mkL, oNot, List.getD_cons_zero, List.getD_cons_succ, List.length_cons, List.length_nil, List.set_cons_zero, List.set_cons_succ, List.map_cons, List.map_nil, List.replicate, List.cons_append, List.nil_append, List.append_nil, Option.bind_some, Option.map_some, List.all_cons, List.all_nil, if_true, if_false, reduceIte, Nat.reduceAdd, Nat.reduceSub, Nat.reduceLT, Nat.reduceLeDiff, Nat.reduceEqDiff, decide_true, decide_false, Bool.and_true, Bool.and_self, Bool.true_and, Bool.not_true, Bool.not_false, ne_eq, not_true_eq_false, not_false_eq_true, Nat.zero_add, Bool.false_eq_true, and_self, true_and, and_true, hge, eq_int]
  have h2 := bAny_map (List.range n) fun p => decide (go n W p = 0)
  have h3 : (List.range n).any (fun p => decide (go n W p = 0)) = !allG n W := by
    unfold allG
    rw [List.not_all_eq_any_not]
    simp
  rw [h3] at h2
  unfold grD
  cases hA : allG n W with
  | false =>
    rw [hA] at h2
    generalize W.map wD = WD at *
    generalize ((List.range n).map fun k : Nat => PyData.int (k : Nat)) = R at *
    generalize ((List.range n).map fun p => PyData.bool (decide (go n W p = 0))) = B at *
    simp -implicitDefEqProofs only [d_watches_greedy, g_watches_greedy, xVar_a, xC_a, xBin_a, xUn_a, tOf_a, tTru_a, tNotP_a, tAndP_a, tOrP_a, tyes_a, tno_a, tYesP_a, xNil_a, xCons_a, xTup_a, xLst_a, xAnd_a, xOr_a, xIf_a, xChain_a, oNo_a, oAt_a, xSl_a, xCall_a, xSeq_a, xIt_a, xLc_a, gSet_a, gTupD_a, gsNil_a, gsCons_a, sNop_a, sBrk_a, sCnt_a, sSeq_a, sRet_a, sIf_a, sSet_a, sTgt_a, sAug_a, sApp_a, sExt_a, sPut_a, sPutK_a, pkO_s, sFor_a, sWhile_a, sPar_a, runD_a, b2_s, c2_s, sqO_nx, sqO_rt, sqO_bk, sqO_ct, ifO_t, ifO_f, stO_s, endO_nx, endO_rt, andO_t, andO_f, orO_t, orO_f, chO_s, chP_t, chP_f, slO_s, atO_i, lcO_s, forO_s, gsO_s, nxO_s, tgO_s, paO_s, apO_s, exO_s, plO_s, ptO_s, dB_b, tru_b, tru_n, tru_i, tru_l, tru_t, is_n, isn_n, nn_n, nn_i, nn_b, nn_t, nn_l, add_ii, add'_ii, sub_ii, neg_i, lt_ii, le_ii, gt_ii, ge_ii, ix_l, ix_t, ix_s, at0, at1, at2, sl_l, sl_t, len_l, len_t, len_s, abs_i, int_i, int_b, max_ii, min_ii, tup_s, lst_s, seq_l, seq_t, sum_s, wipe_n, wipe_c, mul_ii, fdiv_ii, mod_ii, add_ll, add_tt, setAll, mkT, mkL, oNot, List.getD_cons_zero, List.getD_cons_succ, List.length_cons, List.length_nil, List.set_cons_zero, List.set_cons_succ, List.map_cons, List.map_nil, List.replicate, List.cons_append, List.nil_append, List.append_nil, Option.bind_some, Option.map_some, List.all_cons, List.all_nil, if_true, if_false, reduceIte, Nat.reduceAdd, Nat.reduceSub, Nat.reduceLT, Nat.reduceLeDiff, Nat.reduceEqDiff, decide_true, decide_false, Bool.and_true, Bool.and_self, Bool.true_and, Bool.not_true, Bool.not_false, ne_eq, not_true_eq_false, not_false_eq_true, Nat.zero_add, Bool.false_eq_true, and_self, true_and, and_true, hr, h1, h2]
  | true =>
    rw [hA] at h2
    obtain ⟨ρ', e, h⟩ := forL_inv (g := gSet 3) (b := l2_watches_greedy) wD
      (fun pre rest ρ => pre ++ rest = W ∧ ∃ x3 x4 x5, ρ = [some (.int (n : Nat)), some (.tuple (W.map wD)), some (.list (pre.map fun w => .int ((gc n W w : Nat) : Int))), x3, x4, x5, none]) (fun pre w rest ρ ⟨hq, x3, x4, x5, e⟩ => by
        subst e
        have hw := hW w (by rw [← hq]; simp)
        have hpl : (pre.map fun w => PyData.int ((gc n W w : Nat) : Int)).length < 16777216 := by
          have := congrArg List.length hq
          simp at this ⊢
          omega
        have hF : n < fuelN := by
          have h1 : Sm 1999 (n : Int) := by
            show (n : Int).natAbs ≤ 2 ^ 1999
            exact Nat.le_trans (show (n : Int).natAbs ≤ 2 ^ 10 by omega) (Nat.pow_le_pow_right (by decide) (by decide))
          have h2 : (n : Int).natAbs < fuelN := Nat.lt_of_le_of_lt h1 (Nat.pow_lt_pow_right (by decide) (by decide))
          omega
        have hm := mn_nat (n := n) hw
        obtain ⟨s', wh⟩ := greedy_while hn hA w (some (.list (pre.map fun w => .int ((gc n W w : Nat) : Int)))) none n (mnI w.2 n) 1 fuelN (by omega) hF
        have wh' : whileF (tOf (xBin oLt (xVar 4) (xVar 0))) l1_watches_greedy fuelN [some (.int (n : Nat)), some (.tuple (W.map wD)), some (.list (pre.map fun w => .int ((gc n W w : Nat) : Int))), some (wD w), some (.int (mnI w.2 n)), some (.int 1), none] =
          some (.nx [some (.int (n : Nat)), some (.tuple (W.map wD)), some (.list (pre.map fun w => .int ((gc n W w : Nat) : Int))), some (wD w), some (.int s'), some (.int (gc n W w : Nat)), none]) := wh
        clear wh
        refine ⟨_, [some (.int (n : Nat)), some (.tuple (W.map wD)), some (.list ((pre ++ [w]).map fun w => .int ((gc n W w : Nat) : Int))), some (wD w), some (.int s'), some (.int (gc n W w : Nat)), none], rfl, .inl ?_, by rw [List.append_assoc]; exact hq, _, _, _, rfl⟩
        rw [List.map_append, List.map_cons, List.map_nil]
        have a1 : ∀ x y : D, atI [x, y] 1 = some y := fun _ _ => rfl
        unfold mnI at wh'
        generalize W.map wD = WD at *
        generalize (pre.map fun w => PyData.int ((gc n W w : Nat) : Int)) = L at *
        unfold wD at *
        simp -implicitDefEqProofs only [l2_watches_greedy, xVar_a, xC_a, xBin_a, xUn_a, tOf_a, tTru_a, tNotP_a, tAndP_a, tOrP_a, tyes_a, tno_a, tYesP_a, xNil_a, xCons_a, xTup_a, xLst_a, xAnd_a, xOr_a, xIf_a, xChain_a, oNo_a, oAt_a, xSl_a, xCall_a, xSeq_a, xIt_a, xLc_a, gSet_a, gTupD_a, gsNil_a, gsCons_a, sNop_a, sBrk_a, sCnt_a, sSeq_a, sRet_a, sIf_a, sSet_a, sTgt_a, sAug_a, sApp_a, sExt_a, sPut_a, sPutK_a, pkO_s, sFor_a, sWhile_a, sPar_a, runD_a, b2_s, c2_s, sqO_nx, sqO_rt, sqO_bk, sqO_ct, ifO_t, ifO_f, stO_s, endO_nx, endO_rt, andO_t, andO_f, orO_t, orO_f, chO_s, chP_t, chP_f, slO_s, atO_i, lcO_s, forO_s, gsO_s, nxO_s, tgO_s, paO_s, apO_s, exO_s, plO_s, ptO_s, dB_b, tru_b, tru_n, tru_i, tru_l, tru_t, is_n, isn_n, nn_n, nn_i, nn_b, nn_t, nn_l, add_ii, add'_ii, sub_ii, neg_i, lt_ii, le_ii, gt_ii, ge_ii, ix_l, ix_t, ix_s, at0, at1, at2, sl_l, sl_t, len_l, len_t, len_s, abs_i, int_i, int_b, max_ii, min_ii, tup_s, lst_s, seq_l, seq_t, sum_s, wipe_n, wipe_c, mul_ii, fdiv_ii, mod_ii, add_ll, add_tt, setAll, mkT, mkL, oNot, List.getD_cons_zero, List.getD_cons_succ, List.length_cons, List.length_nil, List.set_cons_zero, List.set_cons_succ, List.map_cons, List.map_nil, List.replicate, List.cons_append, List.nil_append, List.append_nil, Option.bind_some, Option.map_some, List.all_cons, List.all_nil, if_true, if_false, reduceIte, Nat.reduceAdd, Nat.reduceSub, Nat.reduceLT, Nat.reduceLeDiff, Nat.reduceEqDiff, decide_true, decide_false, Bool.and_true, Bool.and_self, Bool.true_and, Bool.not_true, Bool.not_false, ne_eq, not_true_eq_false, not_false_eq_true, Nat.zero_add, Bool.false_eq_true, and_self, true_and, and_true, wh', hpl]) W [] [some (.int (n : Nat)), some (.tuple (W.map wD)), some (.list []), none, none, none, none] ⟨rfl, none, none, none, rfl⟩
    obtain ⟨_, x3, x4, x5, e'⟩ := h
    subst e'
    rw [List.nil_append] at e
    have h4 := minK_map (α := Int) (by decide) (x := .list (W.map fun w => .int ((gc n W w : Nat) : Int))) (W.map fun w => ((gc n W w : Nat) : Int)) (.int 0) (by rw [seq_l, List.map_map]; rfl)
    have hK := fun ρ : PEnv => xCallK_a (ρ := ρ) bMinK
    have h5 : ((least (W.map fun w => ((gc n W w : Nat) : Int))).elim (.int 0) Datum.toD : D) = (least (W.map fun w => ((gc n W w : Nat) : Int))).elim (.int 0) PyData.int := rfl
    rw [h5] at h4
    generalize (W.map fun w => PyData.int ((gc n W w : Nat) : Int)) = LL at *
    generalize W.map wD = WD at *
    generalize ((List.range n).map fun k : Nat => PyData.int (k : Nat)) = R at *
    generalize ((List.range n).map fun p => PyData.bool (decide (go n W p = 0))) = B at *
    generalize ((least (W.map fun w => ((gc n W w : Nat) : Int))).elim (.int 0) PyData.int : D) = ANS at *
    simp -implicitDefEqProofs only [d_watches_greedy, g_watches_greedy, xVar_a, xC_a, xBin_a, xUn_a, tOf_a, tTru_a, tNotP_a, tAndP_a, tOrP_a, tyes_a, tno_a, tYesP_a, xNil_a, xCons_a, xTup_a, xLst_a, xAnd_a, xOr_a, xIf_a, xChain_a, oNo_a, oAt_a, xSl_a, xCall_a, xSeq_a, xIt_a, xLc_a, gSet_a, gTupD_a, gsNil_a, gsCons_a, sNop_a, sBrk_a, sCnt_a, sSeq_a, sRet_a, sIf_a, sSet_a, sTgt_a, sAug_a, sApp_a, sExt_a, sPut_a, sPutK_a, pkO_s, sFor_a, sWhile_a, sPar_a, runD_a, b2_s, c2_s, sqO_nx, sqO_rt, sqO_bk, sqO_ct, ifO_t, ifO_f, stO_s, endO_nx, endO_rt, andO_t, andO_f, orO_t, orO_f, chO_s, chP_t, chP_f, slO_s, atO_i, lcO_s, forO_s, gsO_s, nxO_s, tgO_s, paO_s, apO_s, exO_s, plO_s, ptO_s, dB_b, tru_b, tru_n, tru_i, tru_l, tru_t, is_n, isn_n, nn_n, nn_i, nn_b, nn_t, nn_l, add_ii, add'_ii, sub_ii, neg_i, lt_ii, le_ii, gt_ii, ge_ii, ix_l, ix_t, ix_s, at0, at1, at2, sl_l, sl_t, len_l, len_t, len_s, abs_i, int_i, int_b, max_ii, min_ii, tup_s, lst_s, seq_l, seq_t, sum_s, wipe_n, wipe_c, mul_ii, fdiv_ii, mod_ii, add_ll, add_tt, setAll, mkT, mkL, oNot, List.getD_cons_zero, List.getD_cons_succ, List.length_cons, List.length_nil, List.set_cons_zero, List.set_cons_succ, List.map_cons, List.map_nil, List.replicate, List.cons_append, List.nil_append, List.append_nil, Option.bind_some, Option.map_some, List.all_cons, List.all_nil, if_true, if_false, reduceIte, Nat.reduceAdd, Nat.reduceSub, Nat.reduceLT, Nat.reduceLeDiff, Nat.reduceEqDiff, decide_true, decide_false, Bool.and_true, Bool.and_self, Bool.true_and, Bool.not_true, Bool.not_false, ne_eq, not_true_eq_false, not_false_eq_true, Nat.zero_add, Bool.false_eq_true, and_self, true_and, and_true, hr, h1, h2, e, hK, h4]
end K20

namespace K20
open PySem PySem.Spec PyProof.Rows L2 Pm
open PySem.W (Datum Tup)
theorem lsf1 (f : Nat → Bool) : (List.range 1).filter f ∈ LS 1 := by
  have e : List.range 1 = [0] := rfl
  rw [e]
  simp only [List.filter_cons, List.filter_nil]
  cases f 0 <;> decide
theorem lsr1 : ∀ c ∈ LS 1, c = (List.range 1).filter fun k => decide (k ∈ c) := by decide +kernel
theorem lsf2 (f : Nat → Bool) : (List.range 2).filter f ∈ LS 2 := by
  have e : List.range 2 = [0, 1] := rfl
  rw [e]
  simp only [List.filter_cons, List.filter_nil]
  cases f 0 <;> cases f 1 <;> decide
theorem lsr2 : ∀ c ∈ LS 2, c = (List.range 2).filter fun k => decide (k ∈ c) := by decide +kernel
theorem lsf3 (f : Nat → Bool) : (List.range 3).filter f ∈ LS 3 := by
  have e : List.range 3 = [0, 1, 2] := rfl
  rw [e]
  simp only [List.filter_cons, List.filter_nil]
  cases f 0 <;> cases f 1 <;> cases f 2 <;> decide
theorem lsr3 : ∀ c ∈ LS 3, c = (List.range 3).filter fun k => decide (k ∈ c) := by decide +kernel
theorem lsf4 (f : Nat → Bool) : (List.range 4).filter f ∈ LS 4 := by
  have e : List.range 4 = [0, 1, 2, 3] := rfl
  rw [e]
  simp only [List.filter_cons, List.filter_nil]
  cases f 0 <;> cases f 1 <;> cases f 2 <;> cases f 3 <;> decide
theorem lsr4 : ∀ c ∈ LS 4, c = (List.range 4).filter fun k => decide (k ∈ c) := by decide +kernel
theorem lsf5 (f : Nat → Bool) : (List.range 5).filter f ∈ LS 5 := by
  have e : List.range 5 = [0, 1, 2, 3, 4] := rfl
  rw [e]
  simp only [List.filter_cons, List.filter_nil]
  cases f 0 <;> cases f 1 <;> cases f 2 <;> cases f 3 <;> cases f 4 <;> decide
theorem lsr5 : ∀ c ∈ LS 5, c = (List.range 5).filter fun k => decide (k ∈ c) := by decide +kernel
theorem lsf {m : Nat} (h1 : 1 ≤ m) (h5 : m ≤ 5) (f : Nat → Bool) : (List.range m).filter f ∈ LS m := by
  obtain rfl | rfl | rfl | rfl | rfl : m = 1 ∨ m = 2 ∨ m = 3 ∨ m = 4 ∨ m = 5 := by omega
  · exact lsf1 f
  · exact lsf2 f
  · exact lsf3 f
  · exact lsf4 f
  · exact lsf5 f
theorem lsr {m : Nat} (h1 : 1 ≤ m) (h5 : m ≤ 5)  : ∀ c ∈ LS m, c = (List.range m).filter fun k => decide (k ∈ c) := by
  obtain rfl | rfl | rfl | rfl | rfl : m = 1 ∨ m = 2 ∨ m = 3 ∨ m = 4 ∨ m = 5 := by omega
  · exact lsr1
  · exact lsr2
  · exact lsr3
  · exact lsr4
  · exact lsr5
theorem nodup_len : ∀ (l D : List Nat), l.Nodup → (∀ x ∈ l, x ∈ D) → l.length ≤ D.length
  | [], D, _, _ => Nat.zero_le _
  | x :: l, D, hn, hs => by
    obtain ⟨h1, h2⟩ := List.nodup_cons.mp hn
    have hx := hs x (by simp)
    have ih := nodup_len l (D.erase x) h2 fun y hy => (List.mem_erase_of_ne (fun e => h1 (by rw [← e]; exact hy))).mpr (hs y (List.mem_cons_of_mem _ hy))
    rw [List.length_erase_of_mem hx] at ih
    have := List.length_pos_of_mem hx
    rw [List.length_cons]
    omega
/-! places seen from a start -/
theorem sub_mod (x a : Int) (n : Nat) : ((x % (n : Int)) - a) % (n : Int) = (x - a) % (n : Int) := by
  rw [Int.sub_emod, Int.emod_emod, ← Int.sub_emod]
theorem at_mod {n : Nat} (hn : 0 < n) (w : Wt) (t a : Int) : (((at_ n w t : Nat) : Int) - a).fmod n = (w.1 + t - a) % (n : Int) := by
  rw [at_int hn, fm_emod, fm_emod, sub_mod]
theorem sv_run {n : Nat} (hn : 0 < n) {w v : Wt} {s t : Int} (h : sv n v (at_ n w s) = true) (h1 : s ≤ t) (h2 : t < s + rch n v (at_ n w s)) : sv n v (at_ n w t) = true := by
  have hm := mnI_le v.2 n
  unfold rch at h2
  unfold sv at h ⊢
  rw [decide_eq_true_iff] at h ⊢
  rw [at_mod hn] at h h2 ⊢
  have e : w.1 + t - v.1 = (w.1 + s - v.1) + (t - s) := by omega
  have h0 := Int.emod_nonneg (w.1 + s - v.1) (show (n : Int) ≠ 0 by omega)
  rw [e, ← Int.emod_add_emod, Int.emod_eq_of_lt (by omega) (by omega)]
  omega
theorem sv_own {n : Nat} (hn : 0 < n) (w : Wt) {t : Int} (h0 : 0 ≤ t) (h1 : t < n) : sv n w (at_ n w t) = decide (t < mnI w.2 n) := by
  unfold sv
  rw [at_mod hn, show w.1 + t - w.1 = t by omega, Int.emod_eq_of_lt h0 h1]
theorem at_all {n : Nat} (hn : 0 < n) (w : Wt) {p : Nat} (hp : p < n) : ∃ t : Int, 0 ≤ t ∧ t < n ∧ at_ n w t = p := by
  have h0 := fmod_rng ((p : Int) - w.1) (m := (n : Int)) (by omega)
  refine ⟨((p : Int) - w.1).fmod n, h0.1, h0.2, ?_⟩
  have h := pl_of hn w hp
  unfold pl at h
  rw [show (((((p : Int) - w.1).fmod n).toNat : Nat) : Int) = ((p : Int) - w.1).fmod n by omega] at h
  exact h
theorem idx_of {α : Type} {l : List α} {x : α} (a : α) (h : x ∈ l) : ∃ j, j < l.length ∧ l.getD j a = x := by
  obtain ⟨j, hj, e⟩ := List.getElem_of_mem h
  exact ⟨j, hj, by simp [hj, e]⟩
/-- the greedy way gives a cover -/
theorem greedy_cover {n : Nat} (hn : 0 < n) {W : List Wt} (hg : allG n W = true) (w : Wt) : ∀ (f : Nat) (s : Int) (c : Nat) (js : List Nat), 0 ≤ s → (n : Int) - s ≤ f → js.length = c → (∀ j ∈ js, j < W.length) → (∀ t : Int, 0 ≤ t → t < s → t < n → ∃ j ∈ js, sv n (W.getD j (0, 0)) (at_ n w t) = true) →
    ∃ js' : List Nat, js'.length = gs n W w f s c ∧ (∀ j ∈ js', j < W.length) ∧ ∀ t : Int, 0 ≤ t → t < n → ∃ j ∈ js', sv n (W.getD j (0, 0)) (at_ n w t) = true
  | 0, s, c, js, h0, hf, hl, hj, hc => ⟨js, hl, hj, fun t t0 t1 => hc t t0 (by omega) t1⟩
  | f + 1, s, c, js, h0, hf, hl, hj, hc => by
    rw [gs]
    by_cases hs : s < (n : Int)
    · rw [if_pos hs]
      have hgo : go n W (at_ n w s) ≠ 0 := by
        have := (List.all_eq_true.mp hg) _ (List.mem_range.mpr (at_lt hn w s))
        simpa using this
      have hp := go_pos hgo
      obtain ⟨v, hv, sv1, e⟩ := go_get hgo
      obtain ⟨j, hj1, hj2⟩ := idx_of (0, 0) hv
      refine greedy_cover hn hg w f _ (c + 1) (js ++ [j]) (by omega) (by omega) (by simp [hl]) (fun i hi => ?_) fun t t0 t1 t2 => ?_
      · rcases List.mem_append.mp hi with hi | hi
        · exact hj i hi
        · rw [List.mem_singleton.mp hi]; exact hj1
      · by_cases ht : t < s
        · obtain ⟨i, hi, h⟩ := hc t t0 ht t2
          exact ⟨i, by simp [hi], h⟩
        · refine ⟨j, by simp, ?_⟩
          rw [hj2]
          exact sv_run hn sv1 (by omega) (by omega)
    · rw [if_neg hs]
      exact ⟨js, hl, hj, fun t t0 t1 => hc t t0 (by omega) t1⟩
theorem greedy_ge {n : Nat} (hn : 0 < n) {W : List Wt} (hW : OkW W) (h1 : 1 ≤ W.length) (h5 : W.length ≤ 5) (hg : allG n W = true) {w : Wt} (hw : w ∈ W) : ∃ c ∈ LS W.length, cov n W c 0 = true ∧ c.length ≤ gc n W w := by
  obtain ⟨j, hj1, hj2⟩ := idx_of (0, 0) hw
  have hm := mn_nat (n := n) (hW w hw)
  obtain ⟨js, l1, l2, l3⟩ := greedy_cover hn hg w n (mnI w.2 n) 1 [j] (by omega) (by omega) rfl (fun i hi => by rw [List.mem_singleton.mp hi]; exact hj1) fun t t0 t1 t2 => ⟨j, by simp, by rw [hj2, sv_own hn w t0 t2]; exact decide_eq_true t1⟩
  refine ⟨(List.range W.length).filter fun k => decide (k ∈ js), lsf h1 h5 _, cov_iff.mpr fun p hp => cn_pos.mpr ?_, ?_⟩
  · obtain ⟨t, t0, t1, e⟩ := at_all hn w hp
    obtain ⟨i, hi, h⟩ := l3 t t0 t1
    rw [e] at h
    exact ⟨i, List.mem_filter.mpr ⟨List.mem_range.mpr (l2 i hi), decide_eq_true hi⟩, h⟩
  · have := nodup_len ((List.range W.length).filter fun k => decide (k ∈ js)) js (List.nodup_range.filter _) fun x hx => of_decide_eq_true (List.mem_filter.mp hx).2
    unfold gc
    omega
theorem countP_less {α : Type} (p q : α → Bool) : ∀ (l : List α), (∀ x, p x = true → q x = true) → ∀ {k : α}, k ∈ l → p k = false → q k = true → l.countP p + 1 ≤ l.countP q
  | [], _, k, hk, _, _ => by cases hk
  | a :: l, h, k, hk, h1, h2 => by
    rw [List.countP_cons, List.countP_cons]
    rcases List.mem_cons.mp hk with rfl | hk
    · rw [h1, h2]
      have : l.countP p ≤ l.countP q := List.countP_mono_left fun x _ => h x
      simp
      omega
    · have ih := countP_less p q l h hk h1 h2
      by_cases hp : p a = true
      · rw [if_pos hp, if_pos (h a hp)]
        omega
      · rw [if_neg hp]
        split <;> omega
/-- a least cover has no needless watch -/
def Least (n : Nat) (W : List Wt) (c : List Nat) : Prop := c ∈ LS W.length ∧ cov n W c 0 = true ∧ ∀ c' ∈ LS W.length, cov n W c' 0 = true → c.length ≤ c'.length
theorem wo_mem {c : List Nat} {g k : Nat} : k ∈ wo g c ↔ k ∈ c ∧ k ≠ g := by
  unfold wo
  rw [List.mem_filter, Bool.not_eq_true', decide_eq_false_iff_not]
  exact ⟨fun h => ⟨h.1, fun e => h.2 (by rw [e])⟩, fun h => ⟨h.1, fun e => h.2 (by omega)⟩⟩
theorem wo_len {c : List Nat} (hc : c.Nodup) {g : Nat} (hg : g ∈ c) : (wo g c).length + 1 ≤ c.length := by
  have h := nodup_len (g :: wo g c) c (List.nodup_cons.mpr ⟨fun z => (wo_mem.mp z).2 rfl, hc.filter _⟩) fun x hx => by
    rcases List.mem_cons.mp hx with rfl | hx
    · exact hg
    · exact (wo_mem.mp hx).1
  simpa using h
theorem greedy_le {n : Nat} (hn : 0 < n) {W : List Wt} (hW : OkW W) (h1 : 1 ≤ W.length) (h5 : W.length ≤ 5) {c : List Nat} (hc : Least n W c) {k0 : Nat} (hk0 : k0 ∈ c) : ∀ (f : Nat) (s : Int) (cnt : Nat), mnI (W.getD k0 (0, 0)).2 n ≤ s →
    gs n W (W.getD k0 (0, 0)) f s cnt ≤ cnt + (wo k0 c).countP fun k => decide (s < ((W.getD k (0, 0)).1 - (W.getD k0 (0, 0)).1) % (n : Int) + mnI (W.getD k (0, 0)).2 n)
  | 0, s, cnt, _ => by rw [gs]; omega
  | f + 1, s, cnt, h0 => by
    obtain ⟨c1, c2, c3⟩ := hc
    have hcn := (ls_n h1 h5).2 c c1
    rw [gs]
    by_cases hs : s < (n : Int)
    · rw [if_pos hs]
      have hk0m := hcn.2.2 k0 hk0
      have hmn0 := mn_nat (n := n) (hW _ (getD_mem W k0 (0, 0) hk0m))
      have hs0 : 0 ≤ s := by omega
      obtain ⟨k, hk, hv⟩ := cn_pos.mp (cov_iff.mp c2 _ (at_lt hn (W.getD k0 (0, 0)) s))
      have hne : k ≠ k0 := fun e => by
        rw [e, sv_own hn _ hs0 hs] at hv
        have := of_decide_eq_true hv
        omega
      have hkU : k ∈ wo k0 c := wo_mem.mpr ⟨hk, hne⟩
      have hkm := hcn.2.2 k hk
      have hge := go_ge (getD_mem W k (0, 0) hkm) hv
      have hmk := mnI_le (W.getD k (0, 0)).2 n
      have ha0 := Int.emod_nonneg ((W.getD k (0, 0)).1 - (W.getD k0 (0, 0)).1) (show (n : Int) ≠ 0 by omega)
      have ha1 := Int.emod_lt_of_pos ((W.getD k (0, 0)).1 - (W.getD k0 (0, 0)).1) (show (0 : Int) < n by omega)
      have hr : ∀ t : Int, (((at_ n (W.getD k0 (0, 0)) t : Nat) : Int) - (W.getD k (0, 0)).1).fmod n = (t - ((W.getD k (0, 0)).1 - (W.getD k0 (0, 0)).1) % (n : Int)) % (n : Int) := fun t => by
        rw [at_mod hn]
        have e1 : (W.getD k0 (0, 0)).1 + t - (W.getD k (0, 0)).1 = t - ((W.getD k (0, 0)).1 - (W.getD k0 (0, 0)).1) := by omega
        rw [e1, Int.sub_emod t (((W.getD k (0, 0)).1 - (W.getD k0 (0, 0)).1) % (n : Int)), Int.emod_emod, ← Int.sub_emod]
      generalize hA : ((W.getD k (0, 0)).1 - (W.getD k0 (0, 0)).1) % (n : Int) = a at *
      by_cases hsa : a ≤ s
      · have e2 : rch n (W.getD k (0, 0)) (at_ n (W.getD k0 (0, 0)) s) = mnI (W.getD k (0, 0)).2 n - (s - a) := by
          unfold rch
          rw [hr, Int.emod_eq_of_lt (by omega) (by omega)]
        have hsE : s < a + mnI (W.getD k (0, 0)).2 n := by
          have := sv_lt hv
          omega
        have ih := greedy_le hn hW h1 h5 ⟨c1, c2, c3⟩ hk0 f (s + go n W (at_ n (W.getD k0 (0, 0)) s)) (cnt + 1) (by have := sv_lt hv; omega)
        have hcnt : (wo k0 c).countP (fun k => decide (s + go n W (at_ n (W.getD k0 (0, 0)) s) < ((W.getD k (0, 0)).1 - (W.getD k0 (0, 0)).1) % (n : Int) + mnI (W.getD k (0, 0)).2 n)) + 1 ≤ (wo k0 c).countP fun k => decide (s < ((W.getD k (0, 0)).1 - (W.getD k0 (0, 0)).1) % (n : Int) + mnI (W.getD k (0, 0)).2 n) := by
          refine countP_less _ _ (wo k0 c) (fun x h => ?_) hkU ?_ ?_
          · have := of_decide_eq_true h
            have := sv_lt hv
            exact decide_eq_true (by omega)
          · rw [hA]
            exact decide_eq_false (by omega)
          · rw [hA]
            exact decide_eq_true hsE
        omega
      · -- the watch k stands for k0's whole reach
        exfalso
        have hrs := hr s
        have e3 : (s - a) % (n : Int) = s - a + n := by
          rw [show s - a = (s - a + n) + (n : Int) * (-1) by omega, Int.add_mul_emod_self_left, Int.emod_eq_of_lt (by omega) (by omega)]
          omega
        rw [e3] at hrs
        have hv' := of_decide_eq_true hv
        rw [hrs] at hv'
        have hcov : cov n W (wo k0 c) 0 = true := cov_iff.mpr fun p hp => cn_pos.mpr (by
          obtain ⟨t, t0, t1, e⟩ := at_all hn (W.getD k0 (0, 0)) hp
          obtain ⟨i, hi, h⟩ := cn_pos.mp (cov_iff.mp c2 p hp)
          by_cases hi0 : i = k0
          · rw [hi0, ← e, sv_own hn _ t0 t1] at h
            have ht := of_decide_eq_true h
            refine ⟨k, hkU, ?_⟩
            rw [← e]
            unfold sv
            rw [hr t]
            have e4 : (t - a) % (n : Int) = t - a + n := by
              rw [show t - a = (t - a + n) + (n : Int) * (-1) by omega, Int.add_mul_emod_self_left, Int.emod_eq_of_lt (by omega) (by omega)]
              omega
            rw [e4]
            exact decide_eq_true (by omega)
          · exact ⟨i, wo_mem.mpr ⟨hi, hi0⟩, h⟩)
        have hls : wo k0 c ∈ LS W.length := by
          have e5 : wo k0 c = (List.range W.length).filter fun x => decide (x ∈ c) && !decide ((x : Int) = (k0 : Int)) := by
            unfold wo
            conv => lhs; rw [lsr h1 h5 c c1]
            rw [List.filter_filter]
            exact List.filter_congr fun x _ => by rw [Bool.and_comm]
          rw [e5]
          exact lsf h1 h5 _
        have := c3 _ hls hcov
        have := wo_len hcn.1 hk0
        omega
    · rw [if_neg hs]
      omega
end K20

namespace K20
open PySem PySem.Spec PyProof.Rows L2 Pm
open PySem.W (Datum Tup)
def bst (n : Nat) (W : List Wt) : Option (List Nat) := (SS W.length).find? fun c => cov n W c 0
theorem lt_int (a b : Int) : Pm.lt' a b = decide (a < b) := rfl
theorem bst_none {n : Nat} {W : List Wt} (h1 : 1 ≤ W.length) (h5 : W.length ≤ 5) : bst n W = none ↔ ∀ c ∈ LS W.length, cov n W c 0 = false := by
  unfold bst
  rw [List.find?_eq_none]
  have hq := ls_q h1 h5
  exact ⟨fun h c hc => by simpa using h c (hq.mem_iff.mpr hc), fun h c hc => by simp [h c (hq.mem_iff.mp hc)]⟩
theorem find_least {m : Nat} (h1 : 1 ≤ m) (h5 : m ≤ 5) {p : List Nat → Bool} {c : List Nat} (h : (SS m).find? p = some c) : c ∈ LS m ∧ p c = true ∧ ∀ c' ∈ LS m, p c' = true → c.length ≤ c'.length := by
  have hl := least_filter h1 h5 p
  rw [h, Option.map_some, least_iff] at hl
  have hc := (ls_q h1 h5).mem_iff.mp (List.mem_of_find?_eq_some h)
  refine ⟨hc, List.find?_some h, fun c' h1 h2 => ?_⟩
  have := hl.2 (sk c') (List.mem_map_of_mem (List.mem_filter.mpr ⟨h1, h2⟩))
  rw [pLt] at this
  by_cases e : (sk c').1 = (sk c).1
  · have e' : (c'.length : Int) = c.length := e
    omega
  · rw [if_neg e, lt_int] at this
    have t := of_decide_eq_false this
    have t' : ¬ ((c'.length : Int) < c.length) := t
    omega
theorem bst_some {n : Nat} {W : List Wt} (h1 : 1 ≤ W.length) (h5 : W.length ≤ 5) {c : List Nat} (h : bst n W = some c) : Least n W c := find_least h1 h5 h
theorem rng_ls {m : Nat} (h1 : 1 ≤ m) (h5 : m ≤ 5) : List.range m ∈ LS m := by
  have := lsf h1 h5 fun _ => true
  rwa [List.filter_eq_self.mpr fun _ _ => rfl] at this
theorem go_sees {n : Nat} {W : List Wt} {p : Nat} : go n W p ≠ 0 ↔ ∃ k ∈ List.range W.length, sv n (W.getD k (0, 0)) p = true := by
  constructor
  · intro h
    obtain ⟨w, hw, hv, _⟩ := go_get h
    obtain ⟨j, hj, e⟩ := idx_of (0, 0) hw
    exact ⟨j, List.mem_range.mpr hj, by rw [e]; exact hv⟩
  · rintro ⟨k, hk, hv⟩
    have h1 := go_ge (getD_mem W k (0, 0) (List.mem_range.mp hk)) hv
    have h2 := sv_lt hv
    omega
theorem allG_cov (n : Nat) (W : List Wt) : allG n W = cov n W (List.range W.length) 0 := by
  rw [Bool.eq_iff_iff, cov_iff]
  unfold allG
  rw [List.all_eq_true]
  constructor
  · intro h p hp
    have h := h p (List.mem_range.mpr hp)
    exact cn_pos.mpr (go_sees.mp (by simpa using h))
  · intro h p hp
    have := go_sees.mpr (cn_pos.mp (h p (List.mem_range.mp hp)))
    simpa using this
theorem allG_bst {n : Nat} {W : List Wt} (h1 : 1 ≤ W.length) (h5 : W.length ≤ 5) : allG n W = (bst n W).isSome := by
  rw [allG_cov]
  cases e : bst n W with
  | none => exact (bst_none h1 h5).mp e _ (rng_ls h1 h5)
  | some c =>
    obtain ⟨c1, c2, _⟩ := bst_some h1 h5 e
    refine cov_iff.mpr fun p hp => cn_pos.mpr ?_
    obtain ⟨k, hk, hv⟩ := cn_pos.mp (cov_iff.mp c2 p hp)
    exact ⟨k, List.mem_range.mpr (((ls_n h1 h5).2 c c1).2.2 k hk), hv⟩
def lnD : Option (List Nat) → D
  | none => .none
  | some c => .int (c.length : Nat)
theorem grD_eq {n : Nat} (hn : 0 < n) {W : List Wt} (hW : OkW W) (h1 : 1 ≤ W.length) (h5 : W.length ≤ 5) : grD n W = lnD (bst n W) := by
  unfold grD
  have ha := allG_bst (n := n) h1 h5
  cases e : bst n W with
  | none =>
    rw [e] at ha
    rw [ha]
    rfl
  | some c =>
    rw [e] at ha
    have ha : allG n W = true := ha
    rw [if_pos ha]
    have hL := bst_some h1 h5 e
    have hcn := (ls_n h1 h5).2 c hL.1
    obtain ⟨k0, hk0, _⟩ := cn_pos.mp (cov_iff.mp hL.2.1 0 hn)
    have hk0m := hcn.2.2 k0 hk0
    have g1 := greedy_le hn hW h1 h5 hL hk0 n (mnI (W.getD k0 (0, 0)).2 n) 1 (Int.le_refl _)
    have g2 := List.countP_le_length (p := fun k => decide (mnI (W.getD k0 (0, 0)).2 n < ((W.getD k (0, 0)).1 - (W.getD k0 (0, 0)).1) % (n : Int) + mnI (W.getD k (0, 0)).2 n)) (l := wo k0 c)
    have g3 := wo_len hcn.1 hk0
    have g4 : gc n W (W.getD k0 (0, 0)) ≤ c.length := by
      unfold gc
      omega
    cases e2 : least (W.map fun w => ((gc n W w : Nat) : Int)) with
    | none =>
      have := congrArg List.length (least_none.mp e2)
      rw [List.length_map, List.length_nil] at this
      omega
    | some m =>
      obtain ⟨l1, l2⟩ := least_iff.mp e2
      have l3 := l2 _ (List.mem_map_of_mem (f := fun w => ((gc n W w : Nat) : Int)) (getD_mem W k0 (0, 0) hk0m))
      rw [lt_int] at l3
      have l3 := of_decide_eq_false l3
      obtain ⟨w, hw, e3⟩ := List.mem_map.mp l1
      obtain ⟨c', q1, q2, q3⟩ := greedy_ge hn hW h1 h5 ha hw
      have q4 := hL.2.2 c' q1 q2
      have : m = (c.length : Nat) := by
        have l3 : ¬ (((gc n W (W.getD k0 (0, 0)) : Nat) : Int) < m) := l3
        have e3 : ((gc n W w : Nat) : Int) = m := e3
        omega
      rw [this]
      rfl
theorem min_cov {n : Nat} (hn : 0 < n) (W : List Wt) (c : List Nat) : ∃ m : Int, (cL n W c).min? = some m ∧ 0 ≤ m ∧ (∀ j, decide (j < m) = cov n W c j) := by
  cases e : (cL n W c).min? with
  | none =>
    have := congrArg List.length (List.min?_eq_none_iff.mp e)
    unfold cL at this
    rw [List.length_map, List.length_range, List.length_nil] at this
    omega
  | some m =>
    have h := List.min?_eq_some_iff.mp e
    obtain ⟨h1, h2⟩ := h
    refine ⟨m, rfl, ?_, fun j => ?_⟩
    · obtain ⟨p, _, rfl⟩ := List.mem_map.mp h1
      exact cn_nn n W c p
    · rw [Bool.eq_iff_iff, decide_eq_true_iff, cov_iff]
      obtain ⟨p, hp, e2⟩ := List.mem_map.mp h1
      constructor
      · intro hj q hq
        have := h2 _ (List.mem_map_of_mem (f := cn n W c) (List.mem_range.mpr hq))
        omega
      · intro hj
        have := hj p (List.mem_range.mp hp)
        omega
theorem like_oD (k : Nat) (o : List Nat) (h : o.length ≤ 1000) : d__law_like (k + 2) [oD o, oD o] = some (.bool true) := by
  refine like_tup _ _ (by rw [List.length_map]; omega) fun x hx => ?_
  obtain ⟨i, _, rfl⟩ := List.mem_map.mp hx
  exact like_int _ _
theorem like_rs (k : Nat) (o : Option (List Nat)) (h : ∀ c, o = some c → c.length ≤ 1000) : d__law_like (k + 2) [rsD o, rsD o] = some (.bool true) := by
  cases o with
  | none => exact like_none _
  | some c => exact like_oD k c (h c rfl)
theorem like_ln (k : Nat) (o : Option (List Nat)) : d__law_like (k + 2) [lnD o, lnD o] = some (.bool true) := by
  cases o with
  | none => exact like_none _
  | some c => exact like_int _ _
end K20

namespace K20
open PySem PySem.Spec PyProof.Rows L2 Pm
open PySem.W (Datum Tup)
theorem ne_same (t : Bool) : oNe (.bool t) (.bool t) = some (.bool false) := by
  cases t <;> simp [oNe, shp, SeqAt.shaped, PyData.eqv, PyData.canLay0, PyData.depth]
theorem flat_bool (b : Bool) : flat (.bool b) = true := rfl
theorem flat_int (i : Int) : flat (.int i) = true := rfl
theorem flatL_map {α : Type} (f : α → D) : ∀ (l : List α), (∀ x ∈ l, flat (f x) = true) → flatL (l.map f) = true
  | [], _ => rfl
  | x :: l, h => by
    rw [List.map_cons, flatL, h x (by simp), flatL_map f l fun y hy => h y (List.mem_cons_of_mem _ hy)]
    rfl
theorem flat_tm {α : Type} (f : α → D) (l : List α) (h : ∀ x ∈ l, flat (f x) = true) : flat (.tuple (l.map f)) = true := flatL_map f l h
theorem flat_oD (o : List Nat) : flat (oD o) = true := flat_tm _ _ fun _ _ => rfl
theorem flat_rs (o : Option (List Nat)) : flat (rsD o) = true := by
  cases o with
  | none => rfl
  | some c => exact flat_oD c
theorem oRgT_ij {i j : Int} (h : -(2 ^ 62) ≤ i ∧ i < 2 ^ 62 ∧ -(2 ^ 62) ≤ j ∧ j < 2 ^ 62 ∧ (j - i).toNat ≤ 2 ^ 24) : oRgT i j = some (rangeD i 1 (j - i).toNat) := if_pos h
theorem tupR1_eq (m : Nat) (h : m ≤ 100) : oTupR1 (.int (m : Nat)) = some (oD (List.range m)) := by
  show (oRgT 0 (m : Nat)).map PyData.tuple = _
  rw [oRgT_ij (by omega)]
  unfold rangeD oD
  rw [show ((m : Nat) - 0 : Int).toNat = m by omega]
  simp
theorem watched_loop {n : Nat} (hn : 0 < n) (hn2 : n ≤ 60) {W : List Wt} (h1 : 1 ≤ W.length) (h5 : W.length ≤ 5) (x1 x2 x3 x4 x5 x14 x15 x16 : Option D) :
    ∃ y6 y13, forL (gSet 6) l1__law_watched ((LS W.length).map oD) [some (.int (n : Nat)), x1, x2, x3, x4, x5, none, none, none, none, some (.list (W.map (siD n))), some (.list []), some (.list []), none, x14, x15, x16] =
      some (.nx [some (.int (n : Nat)), x1, x2, x3, x4, x5, y6, none, none, none, some (.list (W.map (siD n))), some (.list (((LS W.length).filter fun c => cov n W c 0).map kD)), some (.list (((LS W.length).filter fun c => cov n W c 1).map kD)), y13, x14, x15, x16]) := by
  have hL := ls_n h1 h5
  obtain ⟨ρ', e, h⟩ := forL_inv (g := gSet 6) (b := l1__law_watched) oD
    (fun pre rest ρ => pre ++ rest = LS W.length ∧ ∃ y6 y13, ρ = [some (.int (n : Nat)), x1, x2, x3, x4, x5, y6, none, none, none, some (.list (W.map (siD n))), some (.list ((pre.filter fun c => cov n W c 0).map kD)), some (.list ((pre.filter fun c => cov n W c 1).map kD)), y13, x14, x15, x16]) (fun pre c rest ρ ⟨hq, y6, y13, e⟩ => by
      subst e
      have hcm : c ∈ LS W.length := by rw [← hq]; simp
      have hlc := law_counts_eq hn hn2 (W := W) (ch := c) (hL.2 c hcm).2.2
      obtain ⟨m, m1, m0, m2⟩ := min_cov hn W c
      have hmin := bMinI_l m1
      have hpl : pre.length ≤ 32 := by
        have := congrArg List.length hq
        simp at this
        omega
      have l0 : ((pre.filter fun c => cov n W c 0).map kD).length < 16777216 := by
        have := List.length_filter_le (fun c => cov n W c 0) pre
        rw [List.length_map]
        omega
      have l1 : ((pre.filter fun c => cov n W c 1).map kD).length < 16777216 := by
        have := List.length_filter_le (fun c => cov n W c 1) pre
        rw [List.length_map]
        omega
      have q0 := m2 0
      have q1 := m2 1
      have hlen := oD_len c
      refine ⟨[some (.int (n : Nat)), x1, x2, x3, x4, x5, some (oD c), none, none, none, some (.list (W.map (siD n))), some (.list ((pre.filter fun c => cov n W c 0).map kD)), some (.list ((pre.filter fun c => cov n W c 1).map kD)), y13, x14, x15, x16], [some (.int (n : Nat)), x1, x2, x3, x4, x5, some (oD c), none, none, none, some (.list (W.map (siD n))), some (.list (((pre ++ [c]).filter fun c => cov n W c 0).map kD)), some (.list (((pre ++ [c]).filter fun c => cov n W c 1).map kD)), some (.int m), x14, x15, x16], rfl, .inl ?_, by rw [List.append_assoc]; exact hq, some (oD c), some (.int m), rfl⟩
      rw [List.filter_append, List.filter_append, List.map_append, List.map_append]
      have hk : kD c = .tuple [.int (c.length : Nat), oD c] := rfl
      have f0 : ([c].filter fun c => cov n W c 0).map kD = if cov n W c 0 then [kD c] else [] := by
        cases h : cov n W c 0 <;> simp [h]
      have f1 : ([c].filter fun c => cov n W c 1).map kD = if cov n W c 1 then [kD c] else [] := by
        cases h : cov n W c 1 <;> simp [h]
      rw [f0, f1, hk]
      generalize W.map (siD n) = WD at *
      generalize (cL n W c).map PyData.int = CC at *
      generalize (pre.filter fun c => cov n W c 0).map kD = P0 at *
      generalize (pre.filter fun c => cov n W c 1).map kD = P1 at *
      generalize cov n W c 0 = b0 at *
      generalize cov n W c 1 = b1 at *
      generalize oD c = C at *
      by_cases h0 : 0 < m
      · have e0 : b0 = true := by rw [← q0]; exact decide_eq_true h0
        subst e0
        by_cases h1 : 1 < m
        · have e1 : b1 = true := by rw [← q1]; exact decide_eq_true h1
          subst e1
          simp -implicitDefEqProofs only [l1__law_watched, xVar_a, xC_a, xBin_a, xUn_a, tOf_a, tTru_a, tNotP_a, tAndP_a, tOrP_a, tyes_a, tno_a, tYesP_a, xNil_a, xCons_a, xTup_a, xLst_a, xAnd_a, xOr_a, xIf_a, xChain_a, oNo_a, oAt_a, xSl_a, xCall_a, xSeq_a, xIt_a, xLc_a, gSet_a, gTupD_a, gsNil_a, gsCons_a, sNop_a, sBrk_a, sCnt_a, sSeq_a, sRet_a, sIf_a, sSet_a, sTgt_a, sAug_a, sApp_a, sExt_a, sPut_a, sPutK_a, pkO_s, sFor_a, sWhile_a, sPar_a, runD_a, b2_s, c2_s, sqO_nx, sqO_rt, sqO_bk, sqO_ct, ifO_t, ifO_f, stO_s, endO_nx, endO_rt, andO_t, andO_f, orO_t, orO_f, chO_s, chP_t, chP_f, slO_s, atO_i, lcO_s, forO_s, gsO_s, nxO_s, tgO_s, paO_s, apO_s, exO_s, plO_s, ptO_s, dB_b, tru_b, tru_n, tru_i, tru_l, tru_t, is_n, isn_n, nn_n, nn_i, nn_b, nn_t, nn_l, add_ii, add'_ii, sub_ii, neg_i, lt_ii, le_ii, gt_ii, ge_ii, ix_l, ix_t, ix_s, at0, at1, at2, sl_l, sl_t, len_l, len_t, len_s, abs_i, int_i, int_b, max_ii, min_ii, tup_s, lst_s, seq_l, seq_t, sum_s, wipe_n, wipe_c, mul_ii, fdiv_ii, mod_ii, add_ll, add_tt, setAll, mkT, mkL, oNot, List.getD_cons_zero, List.getD_cons_succ, List.length_cons, List.length_nil, List.set_cons_zero, List.set_cons_succ, List.map_cons, List.map_nil, List.replicate, List.cons_append, List.nil_append, List.append_nil, Option.bind_some, Option.map_some, List.all_cons, List.all_nil, if_true, if_false, reduceIte, Nat.reduceAdd, Nat.reduceSub, Nat.reduceLT, Nat.reduceLeDiff, Nat.reduceEqDiff, decide_true, decide_false, Bool.and_true, Bool.and_self, Bool.true_and, Bool.not_true, Bool.not_false, ne_eq, not_true_eq_false, not_false_eq_true, Nat.zero_add, Bool.false_eq_true, and_self, true_and, and_true, hlc, hmin, h0, h1, hlen, l0, l1]
        · have e1 : b1 = false := by rw [← q1]; exact decide_eq_false h1
          subst e1
          simp -implicitDefEqProofs only [l1__law_watched, xVar_a, xC_a, xBin_a, xUn_a, tOf_a, tTru_a, tNotP_a, tAndP_a, tOrP_a, tyes_a, tno_a, tYesP_a, xNil_a, xCons_a, xTup_a, xLst_a, xAnd_a, xOr_a, xIf_a, xChain_a, oNo_a, oAt_a, xSl_a, xCall_a, xSeq_a, xIt_a, xLc_a, gSet_a, gTupD_a, gsNil_a, gsCons_a, sNop_a, sBrk_a, sCnt_a, sSeq_a, sRet_a, sIf_a, sSet_a, sTgt_a, sAug_a, sApp_a, sExt_a, sPut_a, sPutK_a, pkO_s, sFor_a, sWhile_a, sPar_a, runD_a, b2_s, c2_s, sqO_nx, sqO_rt, sqO_bk, sqO_ct, ifO_t, ifO_f, stO_s, endO_nx, endO_rt, andO_t, andO_f, orO_t, orO_f, chO_s, chP_t, chP_f, slO_s, atO_i, lcO_s, forO_s, gsO_s, nxO_s, tgO_s, paO_s, apO_s, exO_s, plO_s, ptO_s, dB_b, tru_b, tru_n, tru_i, tru_l, tru_t, is_n, isn_n, nn_n, nn_i, nn_b, nn_t, nn_l, add_ii, add'_ii, sub_ii, neg_i, lt_ii, le_ii, gt_ii, ge_ii, ix_l, ix_t, ix_s, at0, at1, at2, sl_l, sl_t, len_l, len_t, len_s, abs_i, int_i, int_b, max_ii, min_ii, tup_s, lst_s, seq_l, seq_t, sum_s, wipe_n, wipe_c, mul_ii, fdiv_ii, mod_ii, add_ll, add_tt, setAll, mkT, mkL, oNot, List.getD_cons_zero, List.getD_cons_succ, List.length_cons, List.length_nil, List.set_cons_zero, List.set_cons_succ, List.map_cons, List.map_nil, List.replicate, List.cons_append, List.nil_append, List.append_nil, Option.bind_some, Option.map_some, List.all_cons, List.all_nil, if_true, if_false, reduceIte, Nat.reduceAdd, Nat.reduceSub, Nat.reduceLT, Nat.reduceLeDiff, Nat.reduceEqDiff, decide_true, decide_false, Bool.and_true, Bool.and_self, Bool.true_and, Bool.not_true, Bool.not_false, ne_eq, not_true_eq_false, not_false_eq_true, Nat.zero_add, Bool.false_eq_true, and_self, true_and, and_true, hlc, hmin, h0, h1, hlen, l0, List.append_nil, Bool.false_eq_true]
      · have e0 : b0 = false := by rw [← q0]; exact decide_eq_false h0
        subst e0
        have h1 : ¬ 1 < m := by omega
        have e1 : b1 = false := by rw [← q1]; exact decide_eq_false h1
        subst e1
        simp -implicitDefEqProofs only [l1__law_watched, xVar_a, xC_a, xBin_a, xUn_a, tOf_a, tTru_a, tNotP_a, tAndP_a, tOrP_a, tyes_a, tno_a, tYesP_a, xNil_a, xCons_a, xTup_a, xLst_a, xAnd_a, xOr_a, xIf_a, xChain_a, oNo_a, oAt_a, xSl_a, xCall_a, xSeq_a, xIt_a, xLc_a, gSet_a, gTupD_a, gsNil_a, gsCons_a, sNop_a, sBrk_a, sCnt_a, sSeq_a, sRet_a, sIf_a, sSet_a, sTgt_a, sAug_a, sApp_a, sExt_a, sPut_a, sPutK_a, pkO_s, sFor_a, sWhile_a, sPar_a, runD_a, b2_s, c2_s, sqO_nx, sqO_rt, sqO_bk, sqO_ct, ifO_t, ifO_f, stO_s, endO_nx, endO_rt, andO_t, andO_f, orO_t, orO_f, chO_s, chP_t, chP_f, slO_s, atO_i, lcO_s, forO_s, gsO_s, nxO_s, tgO_s, paO_s, apO_s, exO_s, plO_s, ptO_s, dB_b, tru_b, tru_n, tru_i, tru_l, tru_t, is_n, isn_n, nn_n, nn_i, nn_b, nn_t, nn_l, add_ii, add'_ii, sub_ii, neg_i, lt_ii, le_ii, gt_ii, ge_ii, ix_l, ix_t, ix_s, at0, at1, at2, sl_l, sl_t, len_l, len_t, len_s, abs_i, int_i, int_b, max_ii, min_ii, tup_s, lst_s, seq_l, seq_t, sum_s, wipe_n, wipe_c, mul_ii, fdiv_ii, mod_ii, add_ll, add_tt, setAll, mkT, mkL, oNot, List.getD_cons_zero, List.getD_cons_succ, List.length_cons, List.length_nil, List.set_cons_zero, List.set_cons_succ, List.map_cons, List.map_nil, List.replicate, List.cons_append, List.nil_append, List.append_nil, Option.bind_some, Option.map_some, List.all_cons, List.all_nil, if_true, if_false, reduceIte, Nat.reduceAdd, Nat.reduceSub, Nat.reduceLT, Nat.reduceLeDiff, Nat.reduceEqDiff, decide_true, decide_false, Bool.and_true, Bool.and_self, Bool.true_and, Bool.not_true, Bool.not_false, ne_eq, not_true_eq_false, not_false_eq_true, Nat.zero_add, Bool.false_eq_true, and_self, true_and, and_true, hlc, hmin, h0, h1, List.append_nil, Bool.false_eq_true]) (LS W.length) [] [some (.int (n : Nat)), x1, x2, x3, x4, x5, none, none, none, none, some (.list (W.map (siD n))), some (.list []), some (.list []), none, x14, x15, x16] ⟨rfl, none, none, rfl⟩
  obtain ⟨_, y6, y13, e'⟩ := h
  subst e'
  exact ⟨y6, y13, e⟩
theorem law_watched_eq {n : Nat} (hn : 0 < n) (hn2 : n ≤ 60) {W : List Wt} (hW : OkW W) (h1 : 1 ≤ W.length) (h5 : W.length ≤ 5) {ch : List Nat} (hc : ∀ k ∈ ch, k < W.length) :
    d__law_watched [.int (n : Nat), .tuple (W.map wD), oD ch] = some (.bool true) := by
  have c1 : ∀ x3 x4 x5 x6 x7 x8 x9 x10 x11 x12 x13 x14 x15 x16, lcL (gSet 14) tYesP (xCall (fun ds => if ds.length = 2 then (d__law_sees) ds else none) (xCons (xVar 0) (xCons (xVar 14) xNil))) [some (.int (n : Nat)), some (.tuple (W.map wD)), some (oD ch), x3, x4, x5, x6, x7, x8, x9, x10, x11, x12, x13, x14, x15, x16] (W.map wD) = some (W.map (siD n)) := fun x3 x4 x5 x6 x7 x8 x9 x10 x11 x12 x13 x14 x15 x16 => by
    refine lcL_map _ _ _ fun w hw => ?_
    have h := law_sees_eq hn hn2 (hW w hw)
    rw [siD]
    generalize W.map wD = WD at *
    generalize oD ch = CD at *
    generalize (si n w).map PyData.int = SI at *
    simp -implicitDefEqProofs only [xVar_a, xC_a, xBin_a, xUn_a, tOf_a, tTru_a, tNotP_a, tAndP_a, tOrP_a, tyes_a, tno_a, tYesP_a, xNil_a, xCons_a, xTup_a, xLst_a, xAnd_a, xOr_a, xIf_a, xChain_a, oNo_a, oAt_a, xSl_a, xCall_a, xSeq_a, xIt_a, xLc_a, gSet_a, gTupD_a, gsNil_a, gsCons_a, sNop_a, sBrk_a, sCnt_a, sSeq_a, sRet_a, sIf_a, sSet_a, sTgt_a, sAug_a, sApp_a, sExt_a, sPut_a, sPutK_a, pkO_s, sFor_a, sWhile_a, sPar_a, runD_a, b2_s, c2_s, sqO_nx, sqO_rt, sqO_bk, sqO_ct, ifO_t, ifO_f, stO_s, endO_nx, endO_rt, andO_t, andO_f, orO_t, orO_f, chO_s, chP_t, chP_f, slO_s, atO_i, lcO_s, forO_s, gsO_s, nxO_s, tgO_s, paO_s, apO_s, exO_s, plO_s, ptO_s, dB_b, tru_b, tru_n, tru_i, tru_l, tru_t, is_n, isn_n, nn_n, nn_i, nn_b, nn_t, nn_l, add_ii, add'_ii, sub_ii, neg_i, lt_ii, le_ii, gt_ii, ge_ii, ix_l, ix_t, ix_s, at0, at1, at2, sl_l, sl_t, len_l, len_t, len_s, abs_i, int_i, int_b, max_ii, min_ii, tup_s, lst_s, seq_l, seq_t, sum_s, wipe_n, wipe_c, mul_ii, fdiv_ii, mod_ii, add_ll, add_tt, setAll, mkT, mkL, oNot, List.getD_cons_zero, List.getD_cons_succ, List.length_cons, List.length_nil, List.set_cons_zero, List.set_cons_succ, List.map_cons, List.map_nil, List.replicate, List.cons_append, List.nil_append, List.append_nil, Option.bind_some, Option.map_some, List.all_cons, List.all_nil, if_true, if_false, reduceIte, Nat.reduceAdd, Nat.reduceSub, Nat.reduceLT, Nat.reduceLeDiff, Nat.reduceEqDiff, decide_true, decide_false, Bool.and_true, Bool.and_self, Bool.true_and, Bool.not_true, Bool.not_false, ne_eq, not_true_eq_false, not_false_eq_true, Nat.zero_add, Bool.false_eq_true, and_self, true_and, and_true, h]
  have hlc := law_counts_eq hn hn2 hc
  have hr := rg0 n (by omega)
  have c2 : ∀ x4 x5 x6 x7 x8 x9 x10 x11 x12 x13 x14 x15 x16, lcL (gSet 15) (tOf (xBin oEq (xBin oIx (xVar 3) (xVar 15)) (xC (.int 0)))) (xVar 15) [some (.int (n : Nat)), some (.tuple (W.map wD)), some (oD ch), some (.list ((cL n W ch).map PyData.int)), x4, x5, x6, x7, x8, x9, x10, x11, x12, x13, x14, x15, x16] ((List.range n).map fun k : Nat => PyData.int (k : Nat)) = some ((gaps n W ch).map fun k : Nat => PyData.int (k : Nat)) := fun x4 x5 x6 x7 x8 x9 x10 x11 x12 x13 x14 x15 x16 => by
    refine lcL_filter _ _ (fun p => decide (cn n W ch p = 0)) _ fun p hp => ?_
    have hat := rng_at (fun p => PyData.int (cn n W ch p)) (List.mem_range.mp hp)
    have e : (cL n W ch).map PyData.int = (List.range n).map fun p => PyData.int (cn n W ch p) := by
      unfold cL
      rw [List.map_map]
      rfl
    rw [e]
    generalize ((List.range n).map fun p => PyData.int (cn n W ch p)) = CC at *
    generalize W.map wD = WD at *
    generalize oD ch = CD at *
    exact ⟨[some (.int (n : Nat)), some (.tuple WD), some CD, some (.list CC), x4, x5, x6, x7, x8, x9, x10, x11, x12, x13, x14, some (.int (p : Nat)), x16], rfl, by simp -implicitDefEqProofs only [xVar_a, xC_a, xBin_a, xUn_a, tOf_a, tTru_a, tNotP_a, tAndP_a, tOrP_a, tyes_a, tno_a, tYesP_a, xNil_a, xCons_a, xTup_a, xLst_a, xAnd_a, xOr_a, xIf_a, xChain_a, oNo_a, oAt_a, xSl_a, xCall_a, xSeq_a, xIt_a, xLc_a, gSet_a, gTupD_a, gsNil_a, gsCons_a, sNop_a, sBrk_a, sCnt_a, sSeq_a, sRet_a, sIf_a, sSet_a, sTgt_a, sAug_a, sApp_a, sExt_a, sPut_a, sPutK_a, pkO_s, sFor_a, sWhile_a, sPar_a, runD_a, b2_s, c2_s, sqO_nx, sqO_rt, sqO_bk, sqO_ct, ifO_t, ifO_f, stO_s, endO_nx, endO_rt, andO_t, andO_f, orO_t, orO_f, chO_s, chP_t, chP_f, slO_s, atO_i, lcO_s, forO_s, gsO_s, nxO_s, tgO_s, paO_s, apO_s, exO_s, plO_s, ptO_s, dB_b, tru_b, tru_n, tru_i, tru_l, tru_t, is_n, isn_n, nn_n, nn_i, nn_b, nn_t, nn_l, add_ii, add'_ii, sub_ii, neg_i, lt_ii, le_ii, gt_ii, ge_ii, ix_l, ix_t, ix_s, at0, at1, at2, sl_l, sl_t, len_l, len_t, len_s, abs_i, int_i, int_b, max_ii, min_ii, tup_s, lst_s, seq_l, seq_t, sum_s, wipe_n, wipe_c, mul_ii, fdiv_ii, mod_ii, add_ll, add_tt, setAll, mkT, mkL, oNot, List.getD_cons_zero, List.getD_cons_succ, List.length_cons, List.length_nil, List.set_cons_zero, List.set_cons_succ, List.map_cons, List.map_nil, List.replicate, List.cons_append, List.nil_append, List.append_nil, Option.bind_some, Option.map_some, List.all_cons, List.all_nil, if_true, if_false, reduceIte, Nat.reduceAdd, Nat.reduceSub, Nat.reduceLT, Nat.reduceLeDiff, Nat.reduceEqDiff, decide_true, decide_false, Bool.and_true, Bool.and_self, Bool.true_and, Bool.not_true, Bool.not_false, ne_eq, not_true_eq_false, not_false_eq_true, Nat.zero_add, Bool.false_eq_true, and_self, true_and, and_true, hat, eq_int], fun _ => rfl⟩
  have s1 := seen_times_eq hn (by omega) hW hc
  have k1 : d__law_like 8 [.tuple ((cL n W ch).map PyData.int), .tuple ((cL n W ch).map PyData.int)] = some (.bool true) := like_ints 6 (cL n W ch) (by unfold cL; rw [List.length_map, List.length_range]; omega)
  have s2 := watch_gaps_eq hn hn2 hW hc
  have gl : (gaps n W ch).length ≤ n := by
    have := List.length_filter_le (fun p => decide (cn n W ch p = 0)) (List.range n)
    rw [List.length_range] at this
    exact this
  have k2 : d__law_like 8 [oD (gaps n W ch), oD (gaps n W ch)] = some (.bool true) := like_oD 6 (gaps n W ch) (by omega)
  have s3 := seen_by_all_eq hn hn2 hW hc
  have k3 : d__law_like 8 [.bool (cov n W ch 0), .bool (cov n W ch 0)] = some (.bool true) := like_bool 7 (cov n W ch 0)
  have g1 := gaps_cov n W ch
  have c3 : ∀ x5 x6 x7 x8 x9 x11 x12 x13 x14 x15 x16, lcL (gSet 16) tYesP (xTup (xCons (xVar 0) (xCons (xCall bTuple (xCons (xBin oIx (xVar 10) (xVar 16)) xNil)) xNil))) [some (.int (n : Nat)), some (.tuple (W.map wD)), some (oD ch), some (.list ((cL n W ch).map PyData.int)), some (oD (gaps n W ch)), x5, x6, x7, x8, x9, some (.list (W.map (siD n))), x11, x12, x13, x14, x15, x16] (ch.map fun k : Nat => PyData.int (k : Nat)) = some (ch.map fun k => bellD n (W.getD k (0, 0))) := fun x5 x6 x7 x8 x9 x11 x12 x13 x14 x15 x16 => by
    refine lcL_map _ _ _ fun k hk => ?_
    have i1 := at_map (siD n) W (0, 0) k (hc k hk)
    unfold bellD
    unfold siD at *
    generalize (W.map fun w => PyData.list ((si n w).map PyData.int)) = SD at *
    generalize W.map wD = WD at *
    generalize oD ch = CD at *
    generalize oD (gaps n W ch) = GD at *
    generalize (cL n W ch).map PyData.int = CC at *
    generalize (si n (W.getD k (0, 0))).map PyData.int = SI at *
    simp -implicitDefEqProofs only [xVar_a, xC_a, xBin_a, xUn_a, tOf_a, tTru_a, tNotP_a, tAndP_a, tOrP_a, tyes_a, tno_a, tYesP_a, xNil_a, xCons_a, xTup_a, xLst_a, xAnd_a, xOr_a, xIf_a, xChain_a, oNo_a, oAt_a, xSl_a, xCall_a, xSeq_a, xIt_a, xLc_a, gSet_a, gTupD_a, gsNil_a, gsCons_a, sNop_a, sBrk_a, sCnt_a, sSeq_a, sRet_a, sIf_a, sSet_a, sTgt_a, sAug_a, sApp_a, sExt_a, sPut_a, sPutK_a, pkO_s, sFor_a, sWhile_a, sPar_a, runD_a, b2_s, c2_s, sqO_nx, sqO_rt, sqO_bk, sqO_ct, ifO_t, ifO_f, stO_s, endO_nx, endO_rt, andO_t, andO_f, orO_t, orO_f, chO_s, chP_t, chP_f, slO_s, atO_i, lcO_s, forO_s, gsO_s, nxO_s, tgO_s, paO_s, apO_s, exO_s, plO_s, ptO_s, dB_b, tru_b, tru_n, tru_i, tru_l, tru_t, is_n, isn_n, nn_n, nn_i, nn_b, nn_t, nn_l, add_ii, add'_ii, sub_ii, neg_i, lt_ii, le_ii, gt_ii, ge_ii, ix_l, ix_t, ix_s, at0, at1, at2, sl_l, sl_t, len_l, len_t, len_s, abs_i, int_i, int_b, max_ii, min_ii, tup_s, lst_s, seq_l, seq_t, sum_s, wipe_n, wipe_c, mul_ii, fdiv_ii, mod_ii, add_ll, add_tt, setAll, mkT, mkL, oNot, List.getD_cons_zero, List.getD_cons_succ, List.length_cons, List.length_nil, List.set_cons_zero, List.set_cons_succ, List.map_cons, List.map_nil, List.replicate, List.cons_append, List.nil_append, List.append_nil, Option.bind_some, Option.map_some, List.all_cons, List.all_nil, if_true, if_false, reduceIte, Nat.reduceAdd, Nat.reduceSub, Nat.reduceLT, Nat.reduceLeDiff, Nat.reduceEqDiff, decide_true, decide_false, Bool.and_true, Bool.and_self, Bool.true_and, Bool.not_true, Bool.not_false, ne_eq, not_true_eq_false, not_false_eq_true, Nat.zero_add, Bool.false_eq_true, and_self, true_and, and_true, i1]
  have s4 := struck_in_eq hn hn2 hc
  have k4 : d__law_like 8 [.int ((n : Int) - (gaps n W ch).length), .int ((n : Int) - (gaps n W ch).length)] = some (.bool true) := like_int 7 ((n : Int) - (gaps n W ch).length)
  have hb := ls_b h1 h5
  have lp := fun x1 x2 x3 x4 x5 x14 x15 x16 => watched_loop hn hn2 h1 h5 x1 x2 x3 x4 x5 x14 x15 x16
  obtain ⟨y6, y13, lp⟩ := lp (some (.tuple (W.map wD))) (some (oD ch)) (some (.list ((cL n W ch).map PyData.int))) (some (oD (gaps n W ch))) (some (.tuple (ch.map fun k => bellD n (W.getD k (0, 0))))) none none none
  have t1 := least_set_eq h1 h5 fun c => cov n W c 0
  have t2 := least_set_eq h1 h5 fun c => cov n W c 1
  have s5 := watches_least_eq hn hn2 hW h1 h5
  have s6 := never_blind_eq hn hn2 hW h1 h5
  have e6 : (SS W.length).find? (fun c => cov n W c 0 && c.all fun g => cov n W (wo g c) 0) = (SS W.length).find? fun c => cov n W c 1 := find_congr fun c hc' => twice_eq (ss_mem h1 h5 hc').2.1
  rw [e6] at s6
  have lim : ∀ (p : List Nat → Bool) (c : List Nat), (SS W.length).find? p = some c → c.length ≤ 1000 := fun p c h => by
    have := (ss_mem h1 h5 (List.mem_of_find?_eq_some h)).2.2.1
    omega
  have k5 : d__law_like 8 [rsD ((SS W.length).find? fun c => cov n W c 0), rsD ((SS W.length).find? fun c => cov n W c 0)] = some (.bool true) := like_rs 6 ((SS W.length).find? fun c => cov n W c 0) (lim _)
  have k6 : d__law_like 8 [rsD ((SS W.length).find? fun c => cov n W c 1), rsD ((SS W.length).find? fun c => cov n W c 1)] = some (.bool true) := like_rs 6 ((SS W.length).find? fun c => cov n W c 1) (lim _)
  have s7 := watches_greedy_eq hn (by omega) hW (by omega)
  rw [grD_eq hn hW h1 h5] at s7
  have k7 : d__law_like 8 [lnD (bst n W), lnD (bst n W)] = some (.bool true) := like_ln 6 (bst n W)
  have hlw : (W.map wD).length = W.length := List.length_map ..
  have hra := rg0 W.length (by omega)
  have hlc2 := law_counts_eq hn hn2 (W := W) (ch := List.range W.length) fun k hk => List.mem_range.mp hk
  obtain ⟨m, m1, m0, m2⟩ := min_cov hn W (List.range W.length)
  have hmin := bMinI_l m1
  have m3 := m2 0
  rw [← allG_cov, allG_bst h1 h5] at m3
  have m4 : decide (m = 0) = !(bst n W).isSome := by
    rw [← m3, Bool.eq_iff_iff]
    simp
    omega
  have ebs : bst n W = (SS W.length).find? fun c => cov n W c 0 := rfl
  rw [← ebs] at t1 s5 k5
  have ht := tupR1_eq W.length (by omega)
  have hb1 := flat_bool
  have hne := ne_same
  have mm2 := mulOk_r 2 (b := (n : Int)) (by omega)
  have mm3 := mulOk_r 3 (b := (n : Int)) (by omega)
  have hGT : PyData.tuple ((gaps n W ch).map fun k : Nat => PyData.int (k : Nat)) = oD (gaps n W ch) := rfl
  have f3 := flat_oD (gaps n W ch)
  have f1 := flat_rs (bst n W)
  have f2 := flat_rs ((SS W.length).find? fun c => cov n W c 1)
  have hf := flat_int
  have sq : seqD (oD ch) = some (ch.map fun j => PyData.int (j : Nat)) := rfl
  have gl2 : bLen [oD (gaps n W ch)] = some (.int (gaps n W ch).length) := oD_len _
  have a1 : ∀ x y : D, atI [x, y] 1 = some y := fun _ _ => rfl
  have e7 : ∀ (x : D), oIs x .none = some (.bool (isNone x)) := fun _ => rfl
  have e8 : ∀ (x : D), oIsNot x .none = some (.bool (!isNone x)) := fun _ => rfl
  have e9 : isNone (rsD (bst n W)) = !(bst n W).isSome := by cases bst n W <;> rfl
  have e10 : ∀ c, bst n W = some c → bLen [rsD (bst n W)] = some (lnD (bst n W)) := fun c e => by rw [e]; exact oD_len c
  have e11 : bst n W = none → lnD (bst n W) = .none := fun e => by rw [e]; rfl
  generalize rsD ((SS W.length).find? fun c => cov n W c 1) = R2 at *
  generalize rsD (bst n W) = R1 at *
  generalize lnD (bst n W) = LN at *
  generalize oD (List.range W.length) = RD at *
  generalize (cL n W (List.range W.length)).map PyData.int = C8 at *
  generalize (((LS W.length).filter fun c => cov n W c 0).map kD) = F0 at *
  generalize (((LS W.length).filter fun c => cov n W c 1).map kD) = F1 at *
  generalize (LS W.length).map oD = LD at *
  generalize (cL n W ch).map PyData.int = CC at *
  generalize oD (gaps n W ch) = GD at *
  generalize ((gaps n W ch).map fun k : Nat => PyData.int (k : Nat)) = GL at *
  generalize (ch.map fun k => bellD n (W.getD k (0, 0))) = BD at *
  generalize oD ch = CD at *
  generalize (ch.map fun k : Nat => PyData.int (k : Nat)) = CL at *
  generalize ((List.range n).map fun k : Nat => PyData.int (k : Nat)) = RN at *
  generalize ((List.range W.length).map fun k : Nat => PyData.int (k : Nat)) = RW at *
  generalize W.map wD = WD at *
  generalize W.map (siD n) = SD at *
  generalize cov n W ch 0 = cv at *
  generalize ((gaps n W ch).length : Nat) = gg at *
  generalize W.length = ml at *
  cases hbst : bst n W with
  | none =>
    have e12 := e11 hbst
    rw [hbst] at m4 e9
    have m5 : m = 0 := of_decide_eq_true m4
    have e9 : isNone R1 = true := e9
    subst m5
    subst e12
    simp -implicitDefEqProofs only [d__law_watched, g__law_watched, xVar_a, xC_a, xBin_a, xUn_a, tOf_a, tTru_a, tNotP_a, tAndP_a, tOrP_a, tyes_a, tno_a, tYesP_a, xNil_a, xCons_a, xTup_a, xLst_a, xAnd_a, xOr_a, xIf_a, xChain_a, oNo_a, oAt_a, xSl_a, xCall_a, xSeq_a, xIt_a, xLc_a, gSet_a, gTupD_a, gsNil_a, gsCons_a, sNop_a, sBrk_a, sCnt_a, sSeq_a, sRet_a, sIf_a, sSet_a, sTgt_a, sAug_a, sApp_a, sExt_a, sPut_a, sPutK_a, pkO_s, sFor_a, sWhile_a, sPar_a, runD_a, b2_s, c2_s, sqO_nx, sqO_rt, sqO_bk, sqO_ct, ifO_t, ifO_f, stO_s, endO_nx, endO_rt, andO_t, andO_f, orO_t, orO_f, chO_s, chP_t, chP_f, slO_s, atO_i, lcO_s, forO_s, gsO_s, nxO_s, tgO_s, paO_s, apO_s, exO_s, plO_s, ptO_s, dB_b, tru_b, tru_n, tru_i, tru_l, tru_t, is_n, isn_n, nn_n, nn_i, nn_b, nn_t, nn_l, add_ii, add'_ii, sub_ii, neg_i, lt_ii, le_ii, gt_ii, ge_ii, ix_l, ix_t, ix_s, at0, at1, at2, sl_l, sl_t, len_l, len_t, len_s, abs_i, int_i, int_b, max_ii, min_ii, tup_s, lst_s, seq_l, seq_t, sum_s, wipe_n, wipe_c, mul_ii, fdiv_ii, mod_ii, add_ll, add_tt, setAll, mkT, mkL, oNot, List.getD_cons_zero, List.getD_cons_succ, List.length_cons, List.length_nil, List.set_cons_zero, List.set_cons_succ, List.map_cons, List.map_nil, List.replicate, List.cons_append, List.nil_append, List.append_nil, Option.bind_some, Option.map_some, List.all_cons, List.all_nil, if_true, if_false, reduceIte, Nat.reduceAdd, Nat.reduceSub, Nat.reduceLT, Nat.reduceLeDiff, Nat.reduceEqDiff, decide_true, decide_false, Bool.and_true, Bool.and_self, Bool.true_and, Bool.not_true, Bool.not_false, ne_eq, not_true_eq_false, not_false_eq_true, Nat.zero_add, Bool.false_eq_true, and_self, true_and, and_true, c1, hlc, hr, c2, s1, k1, s2, k2, hb1, gl2, eq_int, g1, s3, k3, sq, c3, s4, k4, hf, hlw, hb, lp, t1, f1, s5, k5, s6, t2, f2, k6, ht, hlc2, hmin, e7, e8, e9, s7, k7, hGT, f3, hne, mm2, mm3]
  | some c =>
    have e12 := e10 c hbst
    rw [hbst] at m4 e9
    have m5 : ¬ m = 0 := of_decide_eq_false m4
    have e9 : isNone R1 = false := e9
    simp -implicitDefEqProofs only [d__law_watched, g__law_watched, xVar_a, xC_a, xBin_a, xUn_a, tOf_a, tTru_a, tNotP_a, tAndP_a, tOrP_a, tyes_a, tno_a, tYesP_a, xNil_a, xCons_a, xTup_a, xLst_a, xAnd_a, xOr_a, xIf_a, xChain_a, oNo_a, oAt_a, xSl_a, xCall_a, xSeq_a, xIt_a, xLc_a, gSet_a, gTupD_a, gsNil_a, gsCons_a, sNop_a, sBrk_a, sCnt_a, sSeq_a, sRet_a, sIf_a, sSet_a, sTgt_a, sAug_a, sApp_a, sExt_a, sPut_a, sPutK_a, pkO_s, sFor_a, sWhile_a, sPar_a, runD_a, b2_s, c2_s, sqO_nx, sqO_rt, sqO_bk, sqO_ct, ifO_t, ifO_f, stO_s, endO_nx, endO_rt, andO_t, andO_f, orO_t, orO_f, chO_s, chP_t, chP_f, slO_s, atO_i, lcO_s, forO_s, gsO_s, nxO_s, tgO_s, paO_s, apO_s, exO_s, plO_s, ptO_s, dB_b, tru_b, tru_n, tru_i, tru_l, tru_t, is_n, isn_n, nn_n, nn_i, nn_b, nn_t, nn_l, add_ii, add'_ii, sub_ii, neg_i, lt_ii, le_ii, gt_ii, ge_ii, ix_l, ix_t, ix_s, at0, at1, at2, sl_l, sl_t, len_l, len_t, len_s, abs_i, int_i, int_b, max_ii, min_ii, tup_s, lst_s, seq_l, seq_t, sum_s, wipe_n, wipe_c, mul_ii, fdiv_ii, mod_ii, add_ll, add_tt, setAll, mkT, mkL, oNot, List.getD_cons_zero, List.getD_cons_succ, List.length_cons, List.length_nil, List.set_cons_zero, List.set_cons_succ, List.map_cons, List.map_nil, List.replicate, List.cons_append, List.nil_append, List.append_nil, Option.bind_some, Option.map_some, List.all_cons, List.all_nil, if_true, if_false, reduceIte, Nat.reduceAdd, Nat.reduceSub, Nat.reduceLT, Nat.reduceLeDiff, Nat.reduceEqDiff, decide_true, decide_false, Bool.and_true, Bool.and_self, Bool.true_and, Bool.not_true, Bool.not_false, ne_eq, not_true_eq_false, not_false_eq_true, Nat.zero_add, Bool.false_eq_true, and_self, true_and, and_true, c1, hlc, hr, c2, s1, k1, s2, k2, hb1, gl2, eq_int, g1, s3, k3, sq, c3, s4, k4, hf, hlw, hb, lp, t1, f1, s5, k5, s6, t2, f2, k6, ht, hlc2, hmin, e7, e8, e9, s7, k7, e12, m5, hGT, f3, hne, mm2, mm3]
end K20

namespace K20
open PySem PySem.Spec PyProof.Rows L2 Pm
open PySem.W (Datum Tup)
abbrev Pt := Int × Int
def ab (x : Int) : Int := if x < 0 then -x else x
theorem ab_nn (x : Int) : 0 ≤ ab x := by unfold ab; split <;> omega
def way (p q : Pt) : Int := ab (p.1 - q.1) + ab (p.2 - q.2)
theorem way_nn (p q : Pt) : 0 ≤ way p q := by
  have := ab_nn (p.1 - q.1)
  have := ab_nn (p.2 - q.2)
  unfold way
  omega
theorem at1p (x y : D) : atI [x, y] 1 = some y := rfl
theorem way_of_eq (p q : Pt) : d_way_of [wD p, wD q] = some (.int (way p q)) := by
  have a1 := at1p
  simp -implicitDefEqProofs only [d_way_of, g_way_of, wD, xVar_a, xC_a, xBin_a, xUn_a, tOf_a, tTru_a, tNotP_a, tAndP_a, tOrP_a, tyes_a, tno_a, tYesP_a, xNil_a, xCons_a, xTup_a, xLst_a, xAnd_a, xOr_a, xIf_a, xChain_a, oNo_a, oAt_a, xSl_a, xCall_a, xSeq_a, xIt_a, xLc_a, gSet_a, gTupD_a, gsNil_a, gsCons_a, sNop_a, sBrk_a, sCnt_a, sSeq_a, sRet_a, sIf_a, sSet_a, sTgt_a, sAug_a, sApp_a, sExt_a, sPut_a, sPutK_a, pkO_s, sFor_a, sWhile_a, sPar_a, runD_a, b2_s, c2_s, sqO_nx, sqO_rt, sqO_bk, sqO_ct, ifO_t, ifO_f, stO_s, endO_nx, endO_rt, andO_t, andO_f, orO_t, orO_f, chO_s, chP_t, chP_f, slO_s, atO_i, lcO_s, forO_s, gsO_s, nxO_s, tgO_s, paO_s, apO_s, exO_s, plO_s, ptO_s, dB_b, tru_b, tru_n, tru_i, tru_l, tru_t, is_n, isn_n, nn_n, nn_i, nn_b, nn_t, nn_l, add_ii, add'_ii, sub_ii, neg_i, lt_ii, le_ii, gt_ii, ge_ii, ix_l, ix_t, ix_s, at0, at1, at2, sl_l, sl_t, len_l, len_t, len_s, abs_i, int_i, int_b, max_ii, min_ii, tup_s, lst_s, seq_l, seq_t, sum_s, wipe_n, wipe_c, mul_ii, fdiv_ii, mod_ii, add_ll, add_tt, setAll, mkT, mkL, oNot, List.getD_cons_zero, List.getD_cons_succ, List.length_cons, List.length_nil, List.set_cons_zero, List.set_cons_succ, List.map_cons, List.map_nil, List.replicate, List.cons_append, List.nil_append, List.append_nil, Option.bind_some, Option.map_some, List.all_cons, List.all_nil, if_true, if_false, reduceIte, Nat.reduceAdd, Nat.reduceSub, Nat.reduceLT, Nat.reduceLeDiff, Nat.reduceEqDiff, decide_true, decide_false, Bool.and_true, Bool.and_self, Bool.true_and, Bool.not_true, Bool.not_false, ne_eq, not_true_eq_false, not_false_eq_true, Nat.zero_add, Bool.false_eq_true, and_self, true_and, and_true, way, ab]
theorem law_way_eq (p q : Pt) : d__law_way [wD p, wD q] = some (.int (way p q)) := by
  have a1 := at1p
  simp -implicitDefEqProofs only [d__law_way, g__law_way, wD, xVar_a, xC_a, xBin_a, xUn_a, tOf_a, tTru_a, tNotP_a, tAndP_a, tOrP_a, tyes_a, tno_a, tYesP_a, xNil_a, xCons_a, xTup_a, xLst_a, xAnd_a, xOr_a, xIf_a, xChain_a, oNo_a, oAt_a, xSl_a, xCall_a, xSeq_a, xIt_a, xLc_a, gSet_a, gTupD_a, gsNil_a, gsCons_a, sNop_a, sBrk_a, sCnt_a, sSeq_a, sRet_a, sIf_a, sSet_a, sTgt_a, sAug_a, sApp_a, sExt_a, sPut_a, sPutK_a, pkO_s, sFor_a, sWhile_a, sPar_a, runD_a, b2_s, c2_s, sqO_nx, sqO_rt, sqO_bk, sqO_ct, ifO_t, ifO_f, stO_s, endO_nx, endO_rt, andO_t, andO_f, orO_t, orO_f, chO_s, chP_t, chP_f, slO_s, atO_i, lcO_s, forO_s, gsO_s, nxO_s, tgO_s, paO_s, apO_s, exO_s, plO_s, ptO_s, dB_b, tru_b, tru_n, tru_i, tru_l, tru_t, is_n, isn_n, nn_n, nn_i, nn_b, nn_t, nn_l, add_ii, add'_ii, sub_ii, neg_i, lt_ii, le_ii, gt_ii, ge_ii, ix_l, ix_t, ix_s, at0, at1, at2, sl_l, sl_t, len_l, len_t, len_s, abs_i, int_i, int_b, max_ii, min_ii, tup_s, lst_s, seq_l, seq_t, sum_s, wipe_n, wipe_c, mul_ii, fdiv_ii, mod_ii, add_ll, add_tt, setAll, mkT, mkL, oNot, List.getD_cons_zero, List.getD_cons_succ, List.length_cons, List.length_nil, List.set_cons_zero, List.set_cons_succ, List.map_cons, List.map_nil, List.replicate, List.cons_append, List.nil_append, List.append_nil, Option.bind_some, Option.map_some, List.all_cons, List.all_nil, if_true, if_false, reduceIte, Nat.reduceAdd, Nat.reduceSub, Nat.reduceLT, Nat.reduceLeDiff, Nat.reduceEqDiff, decide_true, decide_false, Bool.and_true, Bool.and_self, Bool.true_and, Bool.not_true, Bool.not_false, ne_eq, not_true_eq_false, not_false_eq_true, Nat.zero_add, Bool.false_eq_true, and_self, true_and, and_true, way, ab]
def rc (P : List Pt) (R : Int) (q : Pt) : List Nat := (List.range P.length).filter fun k => decide (way (P.getD k (0, 0)) q ≤ R)
theorem enum_t {α : Type} (f : α → D) (xs : List α) (a : α) : oEnum [.tuple (xs.map f)] = some ((List.range xs.length).map fun k => .tuple [.int (k : Nat), f (xs.getD k a)]) := by
  show some (enumD (xs.map f)) = _
  congr 1
  unfold enumD
  apply List.ext_getElem?
  intro i
  by_cases h : i < xs.length
  · simp [h]
  · simp [h]
theorem hose_reach_eq (P Q : List Pt) (R : Int) : d_hose_reach [.tuple (P.map wD), .int R, .tuple (Q.map wD)] = some (.tuple (Q.map fun q => oD (rc P R q))) := by
  have he := enum_t wD P (0, 0)
  have h1 : ∀ x3 x4 x5, lcL (gSet 3) tYesP (xCall bTuple (xCons (xLc (xIt oEnum (xCons (xVar 0) xNil)) (gTupD 2 (gsCons (gSet 4) (gsCons (gSet 5) gsNil))) (tOf (xBin oLe (xCall (fun ds => if ds.length = 2 then (d_way_of) ds else none) (xCons (xVar 5) (xCons (xVar 3) xNil))) (xVar 1))) (xVar 4) [4, 5]) xNil)) [some (.tuple (P.map wD)), some (.int R), some (.tuple (Q.map wD)), x3, x4, x5] (Q.map wD) = some (Q.map fun q => oD (rc P R q)) := fun x3 x4 x5 => by
    refine lcL_map _ _ _ fun q _ => ?_
    have h2 : ∀ x4 x5, lcL (gTupD 2 (gsCons (gSet 4) (gsCons (gSet 5) gsNil))) (tOf (xBin oLe (xCall (fun ds => if ds.length = 2 then (d_way_of) ds else none) (xCons (xVar 5) (xCons (xVar 3) xNil))) (xVar 1))) (xVar 4) [some (.tuple (P.map wD)), some (.int R), some (.tuple (Q.map wD)), some (wD q), x4, x5] ((List.range P.length).map fun k => .tuple [.int (k : Nat), wD (P.getD k (0, 0))]) = some ((rc P R q).map fun k : Nat => PyData.int (k : Nat)) := fun x4 x5 => by
      refine lcL_filter _ _ (fun k => decide (way (P.getD k (0, 0)) q ≤ R)) _ fun k _ => ?_
      have hw := way_of_eq (P.getD k (0, 0)) q
      generalize P.map wD = PD at *
      generalize Q.map wD = QD at *
      generalize wD (P.getD k (0, 0)) = pk at *
      generalize wD q = qd at *
      exact ⟨[some (.tuple PD), some (.int R), some (.tuple QD), some qd, some (.int (k : Nat)), some pk], rfl, by simp -implicitDefEqProofs only [xVar_a, xC_a, xBin_a, xUn_a, tOf_a, tTru_a, tNotP_a, tAndP_a, tOrP_a, tyes_a, tno_a, tYesP_a, xNil_a, xCons_a, xTup_a, xLst_a, xAnd_a, xOr_a, xIf_a, xChain_a, oNo_a, oAt_a, xSl_a, xCall_a, xSeq_a, xIt_a, xLc_a, gSet_a, gTupD_a, gsNil_a, gsCons_a, sNop_a, sBrk_a, sCnt_a, sSeq_a, sRet_a, sIf_a, sSet_a, sTgt_a, sAug_a, sApp_a, sExt_a, sPut_a, sPutK_a, pkO_s, sFor_a, sWhile_a, sPar_a, runD_a, b2_s, c2_s, sqO_nx, sqO_rt, sqO_bk, sqO_ct, ifO_t, ifO_f, stO_s, endO_nx, endO_rt, andO_t, andO_f, orO_t, orO_f, chO_s, chP_t, chP_f, slO_s, atO_i, lcO_s, forO_s, gsO_s, nxO_s, tgO_s, paO_s, apO_s, exO_s, plO_s, ptO_s, dB_b, tru_b, tru_n, tru_i, tru_l, tru_t, is_n, isn_n, nn_n, nn_i, nn_b, nn_t, nn_l, add_ii, add'_ii, sub_ii, neg_i, lt_ii, le_ii, gt_ii, ge_ii, ix_l, ix_t, ix_s, at0, at1, at2, sl_l, sl_t, len_l, len_t, len_s, abs_i, int_i, int_b, max_ii, min_ii, tup_s, lst_s, seq_l, seq_t, sum_s, wipe_n, wipe_c, mul_ii, fdiv_ii, mod_ii, add_ll, add_tt, setAll, mkT, mkL, oNot, List.getD_cons_zero, List.getD_cons_succ, List.length_cons, List.length_nil, List.set_cons_zero, List.set_cons_succ, List.map_cons, List.map_nil, List.replicate, List.cons_append, List.nil_append, List.append_nil, Option.bind_some, Option.map_some, List.all_cons, List.all_nil, if_true, if_false, reduceIte, Nat.reduceAdd, Nat.reduceSub, Nat.reduceLT, Nat.reduceLeDiff, Nat.reduceEqDiff, decide_true, decide_false, Bool.and_true, Bool.and_self, Bool.true_and, Bool.not_true, Bool.not_false, ne_eq, not_true_eq_false, not_false_eq_true, Nat.zero_add, Bool.false_eq_true, and_self, true_and, and_true, hw], fun _ => rfl⟩
    unfold oD
    generalize ((List.range P.length).map fun k => PyData.tuple [.int (k : Nat), wD (P.getD k (0, 0))]) = EN at *
    generalize P.map wD = PD at *
    generalize Q.map wD = QD at *
    generalize ((rc P R q).map fun k : Nat => PyData.int (k : Nat)) = RQ at *
    simp -implicitDefEqProofs only [xVar_a, xC_a, xBin_a, xUn_a, tOf_a, tTru_a, tNotP_a, tAndP_a, tOrP_a, tyes_a, tno_a, tYesP_a, xNil_a, xCons_a, xTup_a, xLst_a, xAnd_a, xOr_a, xIf_a, xChain_a, oNo_a, oAt_a, xSl_a, xCall_a, xSeq_a, xIt_a, xLc_a, gSet_a, gTupD_a, gsNil_a, gsCons_a, sNop_a, sBrk_a, sCnt_a, sSeq_a, sRet_a, sIf_a, sSet_a, sTgt_a, sAug_a, sApp_a, sExt_a, sPut_a, sPutK_a, pkO_s, sFor_a, sWhile_a, sPar_a, runD_a, b2_s, c2_s, sqO_nx, sqO_rt, sqO_bk, sqO_ct, ifO_t, ifO_f, stO_s, endO_nx, endO_rt, andO_t, andO_f, orO_t, orO_f, chO_s, chP_t, chP_f, slO_s, atO_i, lcO_s, forO_s, gsO_s, nxO_s, tgO_s, paO_s, apO_s, exO_s, plO_s, ptO_s, dB_b, tru_b, tru_n, tru_i, tru_l, tru_t, is_n, isn_n, nn_n, nn_i, nn_b, nn_t, nn_l, add_ii, add'_ii, sub_ii, neg_i, lt_ii, le_ii, gt_ii, ge_ii, ix_l, ix_t, ix_s, at0, at1, at2, sl_l, sl_t, len_l, len_t, len_s, abs_i, int_i, int_b, max_ii, min_ii, tup_s, lst_s, seq_l, seq_t, sum_s, wipe_n, wipe_c, mul_ii, fdiv_ii, mod_ii, add_ll, add_tt, setAll, mkT, mkL, oNot, List.getD_cons_zero, List.getD_cons_succ, List.length_cons, List.length_nil, List.set_cons_zero, List.set_cons_succ, List.map_cons, List.map_nil, List.replicate, List.cons_append, List.nil_append, List.append_nil, Option.bind_some, Option.map_some, List.all_cons, List.all_nil, if_true, if_false, reduceIte, Nat.reduceAdd, Nat.reduceSub, Nat.reduceLT, Nat.reduceLeDiff, Nat.reduceEqDiff, decide_true, decide_false, Bool.and_true, Bool.and_self, Bool.true_and, Bool.not_true, Bool.not_false, ne_eq, not_true_eq_false, not_false_eq_true, Nat.zero_add, Bool.false_eq_true, and_self, true_and, and_true, he, h2]
  generalize (Q.map fun q => oD (rc P R q)) = RR at *
  generalize P.map wD = PD at *
  generalize Q.map wD = QD at *
  simp -implicitDefEqProofs only [d_hose_reach, g_hose_reach, xVar_a, xC_a, xBin_a, xUn_a, tOf_a, tTru_a, tNotP_a, tAndP_a, tOrP_a, tyes_a, tno_a, tYesP_a, xNil_a, xCons_a, xTup_a, xLst_a, xAnd_a, xOr_a, xIf_a, xChain_a, oNo_a, oAt_a, xSl_a, xCall_a, xSeq_a, xIt_a, xLc_a, gSet_a, gTupD_a, gsNil_a, gsCons_a, sNop_a, sBrk_a, sCnt_a, sSeq_a, sRet_a, sIf_a, sSet_a, sTgt_a, sAug_a, sApp_a, sExt_a, sPut_a, sPutK_a, pkO_s, sFor_a, sWhile_a, sPar_a, runD_a, b2_s, c2_s, sqO_nx, sqO_rt, sqO_bk, sqO_ct, ifO_t, ifO_f, stO_s, endO_nx, endO_rt, andO_t, andO_f, orO_t, orO_f, chO_s, chP_t, chP_f, slO_s, atO_i, lcO_s, forO_s, gsO_s, nxO_s, tgO_s, paO_s, apO_s, exO_s, plO_s, ptO_s, dB_b, tru_b, tru_n, tru_i, tru_l, tru_t, is_n, isn_n, nn_n, nn_i, nn_b, nn_t, nn_l, add_ii, add'_ii, sub_ii, neg_i, lt_ii, le_ii, gt_ii, ge_ii, ix_l, ix_t, ix_s, at0, at1, at2, sl_l, sl_t, len_l, len_t, len_s, abs_i, int_i, int_b, max_ii, min_ii, tup_s, lst_s, seq_l, seq_t, sum_s, wipe_n, wipe_c, mul_ii, fdiv_ii, mod_ii, add_ll, add_tt, setAll, mkT, mkL, oNot, List.getD_cons_zero, List.getD_cons_succ, List.length_cons, List.length_nil, List.set_cons_zero, List.set_cons_succ, List.map_cons, List.map_nil, List.replicate, List.cons_append, List.nil_append, List.append_nil, Option.bind_some, Option.map_some, List.all_cons, List.all_nil, if_true, if_false, reduceIte, Nat.reduceAdd, Nat.reduceSub, Nat.reduceLT, Nat.reduceLeDiff, Nat.reduceEqDiff, decide_true, decide_false, Bool.and_true, Bool.and_self, Bool.true_and, Bool.not_true, Bool.not_false, ne_eq, not_true_eq_false, not_false_eq_true, Nat.zero_add, Bool.false_eq_true, and_self, true_and, and_true, h1]
def hv (P : List Pt) (R : Int) (Q : List Pt) (k : Nat) (c : List Nat) : Bool := Q.all fun q => decide ((k : Int) ≤ ((rc P R q).countP fun x => decide (x ∈ c) : Nat))
theorem in_oD (x : Nat) (c : List Nat) : oIn (.int (x : Nat)) (oD c) = some (.bool (decide (x ∈ c))) := by
  have h := in_ints_t (x : Int) (c.map fun j : Nat => (j : Int))
  rw [List.map_map] at h
  have e : (c.map fun j : Nat => (j : Int)).contains (x : Int) = decide (x ∈ c) := by
    rw [Bool.eq_iff_iff, List.contains_iff_mem, decide_eq_true_iff, List.mem_map]
    exact ⟨fun ⟨j, h1, h2⟩ => by have : j = x := by omega
                                 rwa [← this], fun h => ⟨x, h, rfl⟩⟩
  rw [e] at h
  exact h
theorem hoses_least_eq (P Q : List Pt) (R : Int) (k : Nat) (h1 : 1 ≤ P.length) (h5 : P.length ≤ 5) :
    d_hoses_least [.tuple (P.map wD), .int R, .tuple (Q.map wD), .int (k : Nat)] = some (rsD ((SS P.length).find? (hv P R Q k))) := by
  have ha := ls_a h1 h5
  have hs := ls_ss h1 h5
  have hl : (P.map wD).length = P.length := List.length_map ..
  have hr := hose_reach_eq P Q R
  have key := forL_find (g := gSet 5) (b := l1_hoses_least) oD (hv P R Q k) (fun ρ => ∃ x5, ρ = [some (.tuple (P.map wD)), some (.int R), some (.tuple (Q.map wD)), some (.int (k : Nat)), some (.tuple (Q.map fun q => oD (rc P R q))), x5, none, none]) oD (SS P.length) (fun c hc ρ ⟨x5, e⟩ => by
    subst e
    have q1 : ∀ x6 x7, lcL (gSet 6) tYesP (xBin oGe (xCall bLen (xCons (xLc (xSeq (xVar 6)) (gSet 7) (tOf (xBin oIn (xVar 7) (xVar 5))) (xVar 7) [7]) xNil)) (xVar 3)) [some (.tuple (P.map wD)), some (.int R), some (.tuple (Q.map wD)), some (.int (k : Nat)), some (.tuple (Q.map fun q => oD (rc P R q))), some (oD c), x6, x7] (Q.map fun q => oD (rc P R q)) = some (Q.map fun q => .bool (decide ((k : Int) ≤ ((rc P R q).countP fun x => decide (x ∈ c) : Nat)))) := fun x6 x7 => by
      refine lcL_map _ _ _ fun q _ => ?_
      have q2 : ∀ x7, lcL (gSet 7) (tOf (xBin oIn (xVar 7) (xVar 5))) (xVar 7) [some (.tuple (P.map wD)), some (.int R), some (.tuple (Q.map wD)), some (.int (k : Nat)), some (.tuple (Q.map fun q => oD (rc P R q))), some (oD c), some (oD (rc P R q)), x7] ((rc P R q).map fun k : Nat => PyData.int (k : Nat)) = some (((rc P R q).filter fun x => decide (x ∈ c)).map fun k : Nat => PyData.int (k : Nat)) := fun x7 => by
        refine lcL_filter _ _ (fun x => decide (x ∈ c)) _ fun x _ => ?_
        have hi := in_oD x c
        generalize (Q.map fun q => oD (rc P R q)) = RR at *
        generalize P.map wD = PD at *
        generalize Q.map wD = QD at *
        generalize oD c = C at *
        generalize oD (rc P R q) = RC at *
        exact ⟨[some (.tuple PD), some (.int R), some (.tuple QD), some (.int (k : Nat)), some (.tuple RR), some C, some RC, some (.int (x : Nat))], rfl, by simp -implicitDefEqProofs only [xVar_a, xC_a, xBin_a, xUn_a, tOf_a, tTru_a, tNotP_a, tAndP_a, tOrP_a, tyes_a, tno_a, tYesP_a, xNil_a, xCons_a, xTup_a, xLst_a, xAnd_a, xOr_a, xIf_a, xChain_a, oNo_a, oAt_a, xSl_a, xCall_a, xSeq_a, xIt_a, xLc_a, gSet_a, gTupD_a, gsNil_a, gsCons_a, sNop_a, sBrk_a, sCnt_a, sSeq_a, sRet_a, sIf_a, sSet_a, sTgt_a, sAug_a, sApp_a, sExt_a, sPut_a, sPutK_a, pkO_s, sFor_a, sWhile_a, sPar_a, runD_a, b2_s, c2_s, sqO_nx, sqO_rt, sqO_bk, sqO_ct, ifO_t, ifO_f, stO_s, endO_nx, endO_rt, andO_t, andO_f, orO_t, orO_f, chO_s, chP_t, chP_f, slO_s, atO_i, lcO_s, forO_s, gsO_s, nxO_s, tgO_s, paO_s, apO_s, exO_s, plO_s, ptO_s, dB_b, tru_b, tru_n, tru_i, tru_l, tru_t, is_n, isn_n, nn_n, nn_i, nn_b, nn_t, nn_l, add_ii, add'_ii, sub_ii, neg_i, lt_ii, le_ii, gt_ii, ge_ii, ix_l, ix_t, ix_s, at0, at1, at2, sl_l, sl_t, len_l, len_t, len_s, abs_i, int_i, int_b, max_ii, min_ii, tup_s, lst_s, seq_l, seq_t, sum_s, wipe_n, wipe_c, mul_ii, fdiv_ii, mod_ii, add_ll, add_tt, setAll, mkT, mkL, oNot, List.getD_cons_zero, List.getD_cons_succ, List.length_cons, List.length_nil, List.set_cons_zero, List.set_cons_succ, List.map_cons, List.map_nil, List.replicate, List.cons_append, List.nil_append, List.append_nil, Option.bind_some, Option.map_some, List.all_cons, List.all_nil, if_true, if_false, reduceIte, Nat.reduceAdd, Nat.reduceSub, Nat.reduceLT, Nat.reduceLeDiff, Nat.reduceEqDiff, decide_true, decide_false, Bool.and_true, Bool.and_self, Bool.true_and, Bool.not_true, Bool.not_false, ne_eq, not_true_eq_false, not_false_eq_true, Nat.zero_add, Bool.false_eq_true, and_self, true_and, and_true, hi], fun _ => rfl⟩
      have sq : seqD (oD (rc P R q)) = some ((rc P R q).map fun k : Nat => PyData.int (k : Nat)) := rfl
      have hln : (((rc P R q).filter fun x => decide (x ∈ c)).map fun k : Nat => PyData.int (k : Nat)).length = (rc P R q).countP fun x => decide (x ∈ c) := by rw [List.length_map, List.countP_eq_length_filter]
      generalize (((rc P R q).filter fun x => decide (x ∈ c)).map fun k : Nat => PyData.int (k : Nat)) = FD at *
      generalize ((rc P R q).map fun k : Nat => PyData.int (k : Nat)) = RD at *
      generalize (Q.map fun q => oD (rc P R q)) = RR at *
      generalize P.map wD = PD at *
      generalize Q.map wD = QD at *
      generalize oD c = C at *
      generalize oD (rc P R q) = RC at *
      simp -implicitDefEqProofs only [xVar_a, xC_a, xBin_a, xUn_a, tOf_a, tTru_a, tNotP_a, tAndP_a, tOrP_a, tyes_a, tno_a, tYesP_a, xNil_a, xCons_a, xTup_a, xLst_a, xAnd_a, xOr_a, xIf_a, xChain_a, oNo_a, oAt_a, xSl_a, xCall_a, xSeq_a, xIt_a, xLc_a, gSet_a, gTupD_a, gsNil_a, gsCons_a, sNop_a, sBrk_a, sCnt_a, sSeq_a, sRet_a, sIf_a, sSet_a, sTgt_a, sAug_a, sApp_a, sExt_a, sPut_a, sPutK_a, pkO_s, sFor_a, sWhile_a, sPar_a, runD_a, b2_s, c2_s, sqO_nx, sqO_rt, sqO_bk, sqO_ct, ifO_t, ifO_f, stO_s, endO_nx, endO_rt, andO_t, andO_f, orO_t, orO_f, chO_s, chP_t, chP_f, slO_s, atO_i, lcO_s, forO_s, gsO_s, nxO_s, tgO_s, paO_s, apO_s, exO_s, plO_s, ptO_s, dB_b, tru_b, tru_n, tru_i, tru_l, tru_t, is_n, isn_n, nn_n, nn_i, nn_b, nn_t, nn_l, add_ii, add'_ii, sub_ii, neg_i, lt_ii, le_ii, gt_ii, ge_ii, ix_l, ix_t, ix_s, at0, at1, at2, sl_l, sl_t, len_l, len_t, len_s, abs_i, int_i, int_b, max_ii, min_ii, tup_s, lst_s, seq_l, seq_t, sum_s, wipe_n, wipe_c, mul_ii, fdiv_ii, mod_ii, add_ll, add_tt, setAll, mkT, mkL, oNot, List.getD_cons_zero, List.getD_cons_succ, List.length_cons, List.length_nil, List.set_cons_zero, List.set_cons_succ, List.map_cons, List.map_nil, List.replicate, List.cons_append, List.nil_append, List.append_nil, Option.bind_some, Option.map_some, List.all_cons, List.all_nil, if_true, if_false, reduceIte, Nat.reduceAdd, Nat.reduceSub, Nat.reduceLT, Nat.reduceLeDiff, Nat.reduceEqDiff, decide_true, decide_false, Bool.and_true, Bool.and_self, Bool.true_and, Bool.not_true, Bool.not_false, ne_eq, not_true_eq_false, not_false_eq_true, Nat.zero_add, Bool.false_eq_true, and_self, true_and, and_true, sq, q2, hln]
    have q3 := bAll_map Q fun q => decide ((k : Int) ≤ ((rc P R q).countP fun x => decide (x ∈ c) : Nat))
    have q4 : (Q.all fun q => decide ((k : Int) ≤ ((rc P R q).countP fun x => decide (x ∈ c) : Nat))) = hv P R Q k c := rfl
    rw [q4] at q3
    have hI : ∃ x5, ([some (.tuple (P.map wD)), some (.int R), some (.tuple (Q.map wD)), some (.int (k : Nat)), some (.tuple (Q.map fun q => oD (rc P R q))), some (oD c), none, none] : PEnv) = [some (.tuple (P.map wD)), some (.int R), some (.tuple (Q.map wD)), some (.int (k : Nat)), some (.tuple (Q.map fun q => oD (rc P R q))), x5, none, none] := ⟨_, rfl⟩
    refine ⟨[some (.tuple (P.map wD)), some (.int R), some (.tuple (Q.map wD)), some (.int (k : Nat)), some (.tuple (Q.map fun q => oD (rc P R q))), some (oD c), none, none], rfl, fun hp => ?_, fun hp => ⟨_, ?_, hI⟩⟩
    · rw [hp] at q3
      generalize (Q.map fun q => PyData.bool (decide ((k : Int) ≤ ((rc P R q).countP fun x => decide (x ∈ c) : Nat)))) = BB at *
      generalize (Q.map fun q => oD (rc P R q)) = RR at *
      generalize P.map wD = PD at *
      generalize Q.map wD = QD at *
      generalize oD c = C at *
      simp -implicitDefEqProofs only [l1_hoses_least, xVar_a, xC_a, xBin_a, xUn_a, tOf_a, tTru_a, tNotP_a, tAndP_a, tOrP_a, tyes_a, tno_a, tYesP_a, xNil_a, xCons_a, xTup_a, xLst_a, xAnd_a, xOr_a, xIf_a, xChain_a, oNo_a, oAt_a, xSl_a, xCall_a, xSeq_a, xIt_a, xLc_a, gSet_a, gTupD_a, gsNil_a, gsCons_a, sNop_a, sBrk_a, sCnt_a, sSeq_a, sRet_a, sIf_a, sSet_a, sTgt_a, sAug_a, sApp_a, sExt_a, sPut_a, sPutK_a, pkO_s, sFor_a, sWhile_a, sPar_a, runD_a, b2_s, c2_s, sqO_nx, sqO_rt, sqO_bk, sqO_ct, ifO_t, ifO_f, stO_s, endO_nx, endO_rt, andO_t, andO_f, orO_t, orO_f, chO_s, chP_t, chP_f, slO_s, atO_i, lcO_s, forO_s, gsO_s, nxO_s, tgO_s, paO_s, apO_s, exO_s, plO_s, ptO_s, dB_b, tru_b, tru_n, tru_i, tru_l, tru_t, is_n, isn_n, nn_n, nn_i, nn_b, nn_t, nn_l, add_ii, add'_ii, sub_ii, neg_i, lt_ii, le_ii, gt_ii, ge_ii, ix_l, ix_t, ix_s, at0, at1, at2, sl_l, sl_t, len_l, len_t, len_s, abs_i, int_i, int_b, max_ii, min_ii, tup_s, lst_s, seq_l, seq_t, sum_s, wipe_n, wipe_c, mul_ii, fdiv_ii, mod_ii, add_ll, add_tt, setAll, mkT, mkL, oNot, List.getD_cons_zero, List.getD_cons_succ, List.length_cons, List.length_nil, List.set_cons_zero, List.set_cons_succ, List.map_cons, List.map_nil, List.replicate, List.cons_append, List.nil_append, List.append_nil, Option.bind_some, Option.map_some, List.all_cons, List.all_nil, if_true, if_false, reduceIte, Nat.reduceAdd, Nat.reduceSub, Nat.reduceLT, Nat.reduceLeDiff, Nat.reduceEqDiff, decide_true, decide_false, Bool.and_true, Bool.and_self, Bool.true_and, Bool.not_true, Bool.not_false, ne_eq, not_true_eq_false, not_false_eq_true, Nat.zero_add, Bool.false_eq_true, and_self, true_and, and_true, q1, q3]
    · rw [hp] at q3
      clear hI
      generalize (Q.map fun q => PyData.bool (decide ((k : Int) ≤ ((rc P R q).countP fun x => decide (x ∈ c) : Nat)))) = BB at *
      generalize (Q.map fun q => oD (rc P R q)) = RR at *
      generalize P.map wD = PD at *
      generalize Q.map wD = QD at *
      generalize oD c = C at *
      simp -implicitDefEqProofs only [l1_hoses_least, xVar_a, xC_a, xBin_a, xUn_a, tOf_a, tTru_a, tNotP_a, tAndP_a, tOrP_a, tyes_a, tno_a, tYesP_a, xNil_a, xCons_a, xTup_a, xLst_a, xAnd_a, xOr_a, xIf_a, xChain_a, oNo_a, oAt_a, xSl_a, xCall_a, xSeq_a, xIt_a, xLc_a, gSet_a, gTupD_a, gsNil_a, gsCons_a, sNop_a, sBrk_a, sCnt_a, sSeq_a, sRet_a, sIf_a, sSet_a, sTgt_a, sAug_a, sApp_a, sExt_a, sPut_a, sPutK_a, pkO_s, sFor_a, sWhile_a, sPar_a, runD_a, b2_s, c2_s, sqO_nx, sqO_rt, sqO_bk, sqO_ct, ifO_t, ifO_f, stO_s, endO_nx, endO_rt, andO_t, andO_f, orO_t, orO_f, chO_s, chP_t, chP_f, slO_s, atO_i, lcO_s, forO_s, gsO_s, nxO_s, tgO_s, paO_s, apO_s, exO_s, plO_s, ptO_s, dB_b, tru_b, tru_n, tru_i, tru_l, tru_t, is_n, isn_n, nn_n, nn_i, nn_b, nn_t, nn_l, add_ii, add'_ii, sub_ii, neg_i, lt_ii, le_ii, gt_ii, ge_ii, ix_l, ix_t, ix_s, at0, at1, at2, sl_l, sl_t, len_l, len_t, len_s, abs_i, int_i, int_b, max_ii, min_ii, tup_s, lst_s, seq_l, seq_t, sum_s, wipe_n, wipe_c, mul_ii, fdiv_ii, mod_ii, add_ll, add_tt, setAll, mkT, mkL, oNot, List.getD_cons_zero, List.getD_cons_succ, List.length_cons, List.length_nil, List.set_cons_zero, List.set_cons_succ, List.map_cons, List.map_nil, List.replicate, List.cons_append, List.nil_append, List.append_nil, Option.bind_some, Option.map_some, List.all_cons, List.all_nil, if_true, if_false, reduceIte, Nat.reduceAdd, Nat.reduceSub, Nat.reduceLT, Nat.reduceLeDiff, Nat.reduceEqDiff, decide_true, decide_false, Bool.and_true, Bool.and_self, Bool.true_and, Bool.not_true, Bool.not_false, ne_eq, not_true_eq_false, not_false_eq_true, Nat.zero_add, Bool.false_eq_true, and_self, true_and, and_true, q1, q3]) [some (.tuple (P.map wD)), some (.int R), some (.tuple (Q.map wD)), some (.int (k : Nat)), some (.tuple (Q.map fun q => oD (rc P R q))), none, none, none] ⟨none, rfl⟩
  generalize (Q.map fun q => oD (rc P R q)) = RR at *
  generalize P.map wD = PD at *
  generalize Q.map wD = QD at *
  generalize (LS P.length).map oD = LD at *
  generalize (SS P.length).map oD = SD at *
  rcases key with ⟨c, f1, f2⟩ | ⟨f1, ρ', f2, _⟩
  · rw [f1]
    simp -implicitDefEqProofs only [d_hoses_least, g_hoses_least, xVar_a, xC_a, xBin_a, xUn_a, tOf_a, tTru_a, tNotP_a, tAndP_a, tOrP_a, tyes_a, tno_a, tYesP_a, xNil_a, xCons_a, xTup_a, xLst_a, xAnd_a, xOr_a, xIf_a, xChain_a, oNo_a, oAt_a, xSl_a, xCall_a, xSeq_a, xIt_a, xLc_a, gSet_a, gTupD_a, gsNil_a, gsCons_a, sNop_a, sBrk_a, sCnt_a, sSeq_a, sRet_a, sIf_a, sSet_a, sTgt_a, sAug_a, sApp_a, sExt_a, sPut_a, sPutK_a, pkO_s, sFor_a, sWhile_a, sPar_a, runD_a, b2_s, c2_s, sqO_nx, sqO_rt, sqO_bk, sqO_ct, ifO_t, ifO_f, stO_s, endO_nx, endO_rt, andO_t, andO_f, orO_t, orO_f, chO_s, chP_t, chP_f, slO_s, atO_i, lcO_s, forO_s, gsO_s, nxO_s, tgO_s, paO_s, apO_s, exO_s, plO_s, ptO_s, dB_b, tru_b, tru_n, tru_i, tru_l, tru_t, is_n, isn_n, nn_n, nn_i, nn_b, nn_t, nn_l, add_ii, add'_ii, sub_ii, neg_i, lt_ii, le_ii, gt_ii, ge_ii, ix_l, ix_t, ix_s, at0, at1, at2, sl_l, sl_t, len_l, len_t, len_s, abs_i, int_i, int_b, max_ii, min_ii, tup_s, lst_s, seq_l, seq_t, sum_s, wipe_n, wipe_c, mul_ii, fdiv_ii, mod_ii, add_ll, add_tt, setAll, mkT, mkL, oNot, List.getD_cons_zero, List.getD_cons_succ, List.length_cons, List.length_nil, List.set_cons_zero, List.set_cons_succ, List.map_cons, List.map_nil, List.replicate, List.cons_append, List.nil_append, List.append_nil, Option.bind_some, Option.map_some, List.all_cons, List.all_nil, if_true, if_false, reduceIte, Nat.reduceAdd, Nat.reduceSub, Nat.reduceLT, Nat.reduceLeDiff, Nat.reduceEqDiff, decide_true, decide_false, Bool.and_true, Bool.and_self, Bool.true_and, Bool.not_true, Bool.not_false, ne_eq, not_true_eq_false, not_false_eq_true, Nat.zero_add, Bool.false_eq_true, and_self, true_and, and_true, hl, hr, ha, hs, f2, rsD]
  · rw [f1]
    simp -implicitDefEqProofs only [d_hoses_least, g_hoses_least, xVar_a, xC_a, xBin_a, xUn_a, tOf_a, tTru_a, tNotP_a, tAndP_a, tOrP_a, tyes_a, tno_a, tYesP_a, xNil_a, xCons_a, xTup_a, xLst_a, xAnd_a, xOr_a, xIf_a, xChain_a, oNo_a, oAt_a, xSl_a, xCall_a, xSeq_a, xIt_a, xLc_a, gSet_a, gTupD_a, gsNil_a, gsCons_a, sNop_a, sBrk_a, sCnt_a, sSeq_a, sRet_a, sIf_a, sSet_a, sTgt_a, sAug_a, sApp_a, sExt_a, sPut_a, sPutK_a, pkO_s, sFor_a, sWhile_a, sPar_a, runD_a, b2_s, c2_s, sqO_nx, sqO_rt, sqO_bk, sqO_ct, ifO_t, ifO_f, stO_s, endO_nx, endO_rt, andO_t, andO_f, orO_t, orO_f, chO_s, chP_t, chP_f, slO_s, atO_i, lcO_s, forO_s, gsO_s, nxO_s, tgO_s, paO_s, apO_s, exO_s, plO_s, ptO_s, dB_b, tru_b, tru_n, tru_i, tru_l, tru_t, is_n, isn_n, nn_n, nn_i, nn_b, nn_t, nn_l, add_ii, add'_ii, sub_ii, neg_i, lt_ii, le_ii, gt_ii, ge_ii, ix_l, ix_t, ix_s, at0, at1, at2, sl_l, sl_t, len_l, len_t, len_s, abs_i, int_i, int_b, max_ii, min_ii, tup_s, lst_s, seq_l, seq_t, sum_s, wipe_n, wipe_c, mul_ii, fdiv_ii, mod_ii, add_ll, add_tt, setAll, mkT, mkL, oNot, List.getD_cons_zero, List.getD_cons_succ, List.length_cons, List.length_nil, List.set_cons_zero, List.set_cons_succ, List.map_cons, List.map_nil, List.replicate, List.cons_append, List.nil_append, List.append_nil, Option.bind_some, Option.map_some, List.all_cons, List.all_nil, if_true, if_false, reduceIte, Nat.reduceAdd, Nat.reduceSub, Nat.reduceLT, Nat.reduceLeDiff, Nat.reduceEqDiff, decide_true, decide_false, Bool.and_true, Bool.and_self, Bool.true_and, Bool.not_true, Bool.not_false, ne_eq, not_true_eq_false, not_false_eq_true, Nat.zero_add, Bool.false_eq_true, and_self, true_and, and_true, hl, hr, ha, hs, f2, rsD]
/-! the law's own hoses -/
theorem hv_eq {P : List Pt} (h1 : 1 ≤ P.length) (h5 : P.length ≤ 5) (R : Int) (Q : List Pt) (k : Nat) {c : List Nat} (hc : c ∈ LS P.length) : (Q.all fun q => decide ((k : Int) ≤ (c.countP fun x => decide (way (P.getD x (0, 0)) q ≤ R) : Nat))) = hv P R Q k c := by
  unfold hv
  congr 1
  funext q
  have e : c.countP (fun x => decide (way (P.getD x (0, 0)) q ≤ R)) = (rc P R q).countP fun x => decide (x ∈ c) := by
    conv => lhs; rw [lsr h1 h5 c hc]
    unfold rc
    rw [List.countP_filter, List.countP_filter]
    exact List.countP_congr fun x _ => by rw [Bool.and_comm]
  rw [e]
theorem law_hosed_eq (P Q : List Pt) (R : Int) (k : Nat) (h1 : 1 ≤ P.length) (h5 : P.length ≤ 5) :
    d__law_hosed [.tuple (P.map wD), .tuple (Q.map wD), .int R, .int (k : Nat)] = some (rsD ((SS P.length).find? (hv P R Q k))) := by
  have hL := ls_n h1 h5
  obtain ⟨ρ', e, h⟩ := forL_inv (g := gSet 5) (b := l1__law_hosed) oD
    (fun pre rest ρ => pre ++ rest = LS P.length ∧ ∃ x5, ρ = [some (.tuple (P.map wD)), some (.tuple (Q.map wD)), some (.int R), some (.int (k : Nat)), some (.list ((pre.filter (hv P R Q k)).map kD)), x5, none, none]) (fun pre c rest ρ ⟨hq, x5, e⟩ => by
      subst e
      have hcm : c ∈ LS P.length := by rw [← hq]; simp
      have hcn := (hL.2 c hcm).2.2
      have hpl : pre.length ≤ 32 := by
        have := congrArg List.length hq
        simp at this
        omega
      have l0 : ((pre.filter (hv P R Q k)).map kD).length < 16777216 := by
        have := List.length_filter_le (hv P R Q k) pre
        rw [List.length_map]
        omega
      have q1 : ∀ x6 x7, lcL (gSet 6) tYesP (xBin oGe (xCall bLen (xCons (xLc (xSeq (xVar 5)) (gSet 7) (tOf (xBin oLe (xCall (fun ds => if ds.length = 2 then (d__law_way) ds else none) (xCons (xBin oIx (xVar 0) (xVar 7)) (xCons (xVar 6) xNil))) (xVar 2))) (xVar 7) [7]) xNil)) (xVar 3)) [some (.tuple (P.map wD)), some (.tuple (Q.map wD)), some (.int R), some (.int (k : Nat)), some (.list ((pre.filter (hv P R Q k)).map kD)), some (oD c), x6, x7] (Q.map wD) = some (Q.map fun q => .bool (decide ((k : Int) ≤ (c.countP fun x => decide (way (P.getD x (0, 0)) q ≤ R) : Nat)))) := fun x6 x7 => by
        refine lcL_map _ _ _ fun q _ => ?_
        have q2 : ∀ x7, lcL (gSet 7) (tOf (xBin oLe (xCall (fun ds => if ds.length = 2 then (d__law_way) ds else none) (xCons (xBin oIx (xVar 0) (xVar 7)) (xCons (xVar 6) xNil))) (xVar 2))) (xVar 7) [some (.tuple (P.map wD)), some (.tuple (Q.map wD)), some (.int R), some (.int (k : Nat)), some (.list ((pre.filter (hv P R Q k)).map kD)), some (oD c), some (wD q), x7] (c.map fun j => PyData.int (j : Nat)) = some ((c.filter fun x => decide (way (P.getD x (0, 0)) q ≤ R)).map fun j : Nat => PyData.int (j : Nat)) := fun x7 => by
          refine lcL_filter _ _ (fun x => decide (way (P.getD x (0, 0)) q ≤ R)) _ fun x hx => ?_
          have i1 := at_map wD P (0, 0) x (hcn x hx)
          have hw := law_way_eq (P.getD x (0, 0)) q
          generalize ((pre.filter (hv P R Q k)).map kD) = FK at *
          generalize P.map wD = PD at *
          generalize Q.map wD = QD at *
          generalize oD c = C at *
          generalize wD (P.getD x (0, 0)) = pk at *
          generalize wD q = qd at *
          exact ⟨[some (.tuple PD), some (.tuple QD), some (.int R), some (.int (k : Nat)), some (.list FK), some C, some qd, some (.int (x : Nat))], rfl, by simp -implicitDefEqProofs only [xVar_a, xC_a, xBin_a, xUn_a, tOf_a, tTru_a, tNotP_a, tAndP_a, tOrP_a, tyes_a, tno_a, tYesP_a, xNil_a, xCons_a, xTup_a, xLst_a, xAnd_a, xOr_a, xIf_a, xChain_a, oNo_a, oAt_a, xSl_a, xCall_a, xSeq_a, xIt_a, xLc_a, gSet_a, gTupD_a, gsNil_a, gsCons_a, sNop_a, sBrk_a, sCnt_a, sSeq_a, sRet_a, sIf_a, sSet_a, sTgt_a, sAug_a, sApp_a, sExt_a, sPut_a, sPutK_a, pkO_s, sFor_a, sWhile_a, sPar_a, runD_a, b2_s, c2_s, sqO_nx, sqO_rt, sqO_bk, sqO_ct, ifO_t, ifO_f, stO_s, endO_nx, endO_rt, andO_t, andO_f, orO_t, orO_f, chO_s, chP_t, chP_f, slO_s, atO_i, lcO_s, forO_s, gsO_s, nxO_s, tgO_s, paO_s, apO_s, exO_s, plO_s, ptO_s, dB_b, tru_b, tru_n, tru_i, tru_l, tru_t, is_n, isn_n, nn_n, nn_i, nn_b, nn_t, nn_l, add_ii, add'_ii, sub_ii, neg_i, lt_ii, le_ii, gt_ii, ge_ii, ix_l, ix_t, ix_s, at0, at1, at2, sl_l, sl_t, len_l, len_t, len_s, abs_i, int_i, int_b, max_ii, min_ii, tup_s, lst_s, seq_l, seq_t, sum_s, wipe_n, wipe_c, mul_ii, fdiv_ii, mod_ii, add_ll, add_tt, setAll, mkT, mkL, oNot, List.getD_cons_zero, List.getD_cons_succ, List.length_cons, List.length_nil, List.set_cons_zero, List.set_cons_succ, List.map_cons, List.map_nil, List.replicate, List.cons_append, List.nil_append, List.append_nil, Option.bind_some, Option.map_some, List.all_cons, List.all_nil, if_true, if_false, reduceIte, Nat.reduceAdd, Nat.reduceSub, Nat.reduceLT, Nat.reduceLeDiff, Nat.reduceEqDiff, decide_true, decide_false, Bool.and_true, Bool.and_self, Bool.true_and, Bool.not_true, Bool.not_false, ne_eq, not_true_eq_false, not_false_eq_true, Nat.zero_add, Bool.false_eq_true, and_self, true_and, and_true, i1, hw], fun _ => rfl⟩
        have sq : seqD (oD c) = some (c.map fun j => PyData.int (j : Nat)) := rfl
        have hln : ((c.filter fun x => decide (way (P.getD x (0, 0)) q ≤ R)).map fun j : Nat => PyData.int (j : Nat)).length = c.countP fun x => decide (way (P.getD x (0, 0)) q ≤ R) := by rw [List.length_map, List.countP_eq_length_filter]
        generalize ((c.filter fun x => decide (way (P.getD x (0, 0)) q ≤ R)).map fun j : Nat => PyData.int (j : Nat)) = FD at *
        generalize ((pre.filter (hv P R Q k)).map kD) = FK at *
        generalize c.map (fun j => PyData.int (j : Nat)) = CC at *
        generalize P.map wD = PD at *
        generalize Q.map wD = QD at *
        generalize oD c = C at *
        generalize wD q = qd at *
        simp -implicitDefEqProofs only [xVar_a, xC_a, xBin_a, xUn_a, tOf_a, tTru_a, tNotP_a, tAndP_a, tOrP_a, tyes_a, tno_a, tYesP_a, xNil_a, xCons_a, xTup_a, xLst_a, xAnd_a, xOr_a, xIf_a, xChain_a, oNo_a, oAt_a, xSl_a, xCall_a, xSeq_a, xIt_a, xLc_a, gSet_a, gTupD_a, gsNil_a, gsCons_a, sNop_a, sBrk_a, sCnt_a, sSeq_a, sRet_a, sIf_a, sSet_a, sTgt_a, sAug_a, sApp_a, sExt_a, sPut_a, sPutK_a, pkO_s, sFor_a, sWhile_a, sPar_a, runD_a, b2_s, c2_s, sqO_nx, sqO_rt, sqO_bk, sqO_ct, ifO_t, ifO_f, stO_s, endO_nx, endO_rt, andO_t, andO_f, orO_t, orO_f, chO_s, chP_t, chP_f, slO_s, atO_i, lcO_s, forO_s, gsO_s, nxO_s, tgO_s, paO_s, apO_s, exO_s, plO_s, ptO_s, dB_b, tru_b, tru_n, tru_i, tru_l, tru_t, is_n, isn_n, nn_n, nn_i, nn_b, nn_t, nn_l, add_ii, add'_ii, sub_ii, neg_i, lt_ii, le_ii, gt_ii, ge_ii, ix_l, ix_t, ix_s, at0, at1, at2, sl_l, sl_t, len_l, len_t, len_s, abs_i, int_i, int_b, max_ii, min_ii, tup_s, lst_s, seq_l, seq_t, sum_s, wipe_n, wipe_c, mul_ii, fdiv_ii, mod_ii, add_ll, add_tt, setAll, mkT, mkL, oNot, List.getD_cons_zero, List.getD_cons_succ, List.length_cons, List.length_nil, List.set_cons_zero, List.set_cons_succ, List.map_cons, List.map_nil, List.replicate, List.cons_append, List.nil_append, List.append_nil, Option.bind_some, Option.map_some, List.all_cons, List.all_nil, if_true, if_false, reduceIte, Nat.reduceAdd, Nat.reduceSub, Nat.reduceLT, Nat.reduceLeDiff, Nat.reduceEqDiff, decide_true, decide_false, Bool.and_true, Bool.and_self, Bool.true_and, Bool.not_true, Bool.not_false, ne_eq, not_true_eq_false, not_false_eq_true, Nat.zero_add, Bool.false_eq_true, and_self, true_and, and_true, sq, q2, hln]
      have q3 := bAll_map Q fun q => decide ((k : Int) ≤ (c.countP fun x => decide (way (P.getD x (0, 0)) q ≤ R) : Nat))
      rw [hv_eq h1 h5 R Q k hcm] at q3
      have hlen := oD_len c
      refine ⟨[some (.tuple (P.map wD)), some (.tuple (Q.map wD)), some (.int R), some (.int (k : Nat)), some (.list ((pre.filter (hv P R Q k)).map kD)), some (oD c), none, none], [some (.tuple (P.map wD)), some (.tuple (Q.map wD)), some (.int R), some (.int (k : Nat)), some (.list (((pre ++ [c]).filter (hv P R Q k)).map kD)), some (oD c), none, none], rfl, .inl ?_, by rw [List.append_assoc]; exact hq, some (oD c), rfl⟩
      have hk : kD c = .tuple [.int (c.length : Nat), oD c] := rfl
      have f0 : ([c].filter (hv P R Q k)).map kD = if hv P R Q k c then [kD c] else [] := by
        cases h : hv P R Q k c <;> simp [h]
      rw [List.filter_append, List.map_append, f0, hk]
      generalize (Q.map fun q => PyData.bool (decide ((k : Int) ≤ (c.countP fun x => decide (way (P.getD x (0, 0)) q ≤ R) : Nat)))) = BB at *
      generalize ((pre.filter (hv P R Q k)).map kD) = FK at *
      generalize P.map wD = PD at *
      generalize Q.map wD = QD at *
      generalize oD c = C at *
      generalize hv P R Q k c = b at *
      cases b with
      | true => simp -implicitDefEqProofs only [l1__law_hosed, xVar_a, xC_a, xBin_a, xUn_a, tOf_a, tTru_a, tNotP_a, tAndP_a, tOrP_a, tyes_a, tno_a, tYesP_a, xNil_a, xCons_a, xTup_a, xLst_a, xAnd_a, xOr_a, xIf_a, xChain_a, oNo_a, oAt_a, xSl_a, xCall_a, xSeq_a, xIt_a, xLc_a, gSet_a, gTupD_a, gsNil_a, gsCons_a, sNop_a, sBrk_a, sCnt_a, sSeq_a, sRet_a, sIf_a, sSet_a, sTgt_a, sAug_a, sApp_a, sExt_a, sPut_a, sPutK_a, pkO_s, sFor_a, sWhile_a, sPar_a, runD_a, b2_s, c2_s, sqO_nx, sqO_rt, sqO_bk, sqO_ct, ifO_t, ifO_f, stO_s, endO_nx, endO_rt, andO_t, andO_f, orO_t, orO_f, chO_s, chP_t, chP_f, slO_s, atO_i, lcO_s, forO_s, gsO_s, nxO_s, tgO_s, paO_s, apO_s, exO_s, plO_s, ptO_s, dB_b, tru_b, tru_n, tru_i, tru_l, tru_t, is_n, isn_n, nn_n, nn_i, nn_b, nn_t, nn_l, add_ii, add'_ii, sub_ii, neg_i, lt_ii, le_ii, gt_ii, ge_ii, ix_l, ix_t, ix_s, at0, at1, at2, sl_l, sl_t, len_l, len_t, len_s, abs_i, int_i, int_b, max_ii, min_ii, tup_s, lst_s, seq_l, seq_t, sum_s, wipe_n, wipe_c, mul_ii, fdiv_ii, mod_ii, add_ll, add_tt, setAll, mkT, mkL, oNot, List.getD_cons_zero, List.getD_cons_succ, List.length_cons, List.length_nil, List.set_cons_zero, List.set_cons_succ, List.map_cons, List.map_nil, List.replicate, List.cons_append, List.nil_append, List.append_nil, Option.bind_some, Option.map_some, List.all_cons, List.all_nil, if_true, if_false, reduceIte, Nat.reduceAdd, Nat.reduceSub, Nat.reduceLT, Nat.reduceLeDiff, Nat.reduceEqDiff, decide_true, decide_false, Bool.and_true, Bool.and_self, Bool.true_and, Bool.not_true, Bool.not_false, ne_eq, not_true_eq_false, not_false_eq_true, Nat.zero_add, Bool.false_eq_true, and_self, true_and, and_true, q1, q3, hlen, l0]
      | false => simp -implicitDefEqProofs only [l1__law_hosed, xVar_a, xC_a, xBin_a, xUn_a, tOf_a, tTru_a, tNotP_a, tAndP_a, tOrP_a, tyes_a, tno_a, tYesP_a, xNil_a, xCons_a, xTup_a, xLst_a, xAnd_a, xOr_a, xIf_a, xChain_a, oNo_a, oAt_a, xSl_a, xCall_a, xSeq_a, xIt_a, xLc_a, gSet_a, gTupD_a, gsNil_a, gsCons_a, sNop_a, sBrk_a, sCnt_a, sSeq_a, sRet_a, sIf_a, sSet_a, sTgt_a, sAug_a, sApp_a, sExt_a, sPut_a, sPutK_a, pkO_s, sFor_a, sWhile_a, sPar_a, runD_a, b2_s, c2_s, sqO_nx, sqO_rt, sqO_bk, sqO_ct, ifO_t, ifO_f, stO_s, endO_nx, endO_rt, andO_t, andO_f, orO_t, orO_f, chO_s, chP_t, chP_f, slO_s, atO_i, lcO_s, forO_s, gsO_s, nxO_s, tgO_s, paO_s, apO_s, exO_s, plO_s, ptO_s, dB_b, tru_b, tru_n, tru_i, tru_l, tru_t, is_n, isn_n, nn_n, nn_i, nn_b, nn_t, nn_l, add_ii, add'_ii, sub_ii, neg_i, lt_ii, le_ii, gt_ii, ge_ii, ix_l, ix_t, ix_s, at0, at1, at2, sl_l, sl_t, len_l, len_t, len_s, abs_i, int_i, int_b, max_ii, min_ii, tup_s, lst_s, seq_l, seq_t, sum_s, wipe_n, wipe_c, mul_ii, fdiv_ii, mod_ii, add_ll, add_tt, setAll, mkT, mkL, oNot, List.getD_cons_zero, List.getD_cons_succ, List.length_cons, List.length_nil, List.set_cons_zero, List.set_cons_succ, List.map_cons, List.map_nil, List.replicate, List.cons_append, List.nil_append, List.append_nil, Option.bind_some, Option.map_some, List.all_cons, List.all_nil, if_true, if_false, reduceIte, Nat.reduceAdd, Nat.reduceSub, Nat.reduceLT, Nat.reduceLeDiff, Nat.reduceEqDiff, decide_true, decide_false, Bool.and_true, Bool.and_self, Bool.true_and, Bool.not_true, Bool.not_false, ne_eq, not_true_eq_false, not_false_eq_true, Nat.zero_add, Bool.false_eq_true, and_self, true_and, and_true, q1, q3, List.append_nil, Bool.false_eq_true]) (LS P.length) [] [some (.tuple (P.map wD)), some (.tuple (Q.map wD)), some (.int R), some (.int (k : Nat)), some (.list []), none, none, none] ⟨rfl, none, rfl⟩
  obtain ⟨_, x5, e'⟩ := h
  subst e'
  rw [List.nil_append] at e
  have hb := ls_b h1 h5
  have hl : (P.map wD).length = P.length := List.length_map ..
  have ht := least_set_eq h1 h5 (hv P R Q k)
  have hf := flat_rs ((SS P.length).find? (hv P R Q k))
  generalize rsD ((SS P.length).find? (hv P R Q k)) = RS at *
  generalize ((LS P.length).filter (hv P R Q k)).map kD = FK at *
  generalize (LS P.length).map oD = LD at *
  generalize P.map wD = PD at *
  generalize Q.map wD = QD at *
  simp -implicitDefEqProofs only [d__law_hosed, g__law_hosed, xVar_a, xC_a, xBin_a, xUn_a, tOf_a, tTru_a, tNotP_a, tAndP_a, tOrP_a, tyes_a, tno_a, tYesP_a, xNil_a, xCons_a, xTup_a, xLst_a, xAnd_a, xOr_a, xIf_a, xChain_a, oNo_a, oAt_a, xSl_a, xCall_a, xSeq_a, xIt_a, xLc_a, gSet_a, gTupD_a, gsNil_a, gsCons_a, sNop_a, sBrk_a, sCnt_a, sSeq_a, sRet_a, sIf_a, sSet_a, sTgt_a, sAug_a, sApp_a, sExt_a, sPut_a, sPutK_a, pkO_s, sFor_a, sWhile_a, sPar_a, runD_a, b2_s, c2_s, sqO_nx, sqO_rt, sqO_bk, sqO_ct, ifO_t, ifO_f, stO_s, endO_nx, endO_rt, andO_t, andO_f, orO_t, orO_f, chO_s, chP_t, chP_f, slO_s, atO_i, lcO_s, forO_s, gsO_s, nxO_s, tgO_s, paO_s, apO_s, exO_s, plO_s, ptO_s, dB_b, tru_b, tru_n, tru_i, tru_l, tru_t, is_n, isn_n, nn_n, nn_i, nn_b, nn_t, nn_l, add_ii, add'_ii, sub_ii, neg_i, lt_ii, le_ii, gt_ii, ge_ii, ix_l, ix_t, ix_s, at0, at1, at2, sl_l, sl_t, len_l, len_t, len_s, abs_i, int_i, int_b, max_ii, min_ii, tup_s, lst_s, seq_l, seq_t, sum_s, wipe_n, wipe_c, mul_ii, fdiv_ii, mod_ii, add_ll, add_tt, setAll, mkT, mkL, oNot, List.getD_cons_zero, List.getD_cons_succ, List.length_cons, List.length_nil, List.set_cons_zero, List.set_cons_succ, List.map_cons, List.map_nil, List.replicate, List.cons_append, List.nil_append, List.append_nil, Option.bind_some, Option.map_some, List.all_cons, List.all_nil, if_true, if_false, reduceIte, Nat.reduceAdd, Nat.reduceSub, Nat.reduceLT, Nat.reduceLeDiff, Nat.reduceEqDiff, decide_true, decide_false, Bool.and_true, Bool.and_self, Bool.true_and, Bool.not_true, Bool.not_false, ne_eq, not_true_eq_false, not_false_eq_true, Nat.zero_add, Bool.false_eq_true, and_self, true_and, and_true, hl, hb, e, ht, hf]
end K20

namespace K20
open PySem PySem.Spec PyProof.Rows L2 Pm
open PySem.W (Datum Tup)
def mw (P : List Pt) (c : List Nat) (q : Pt) : Int := (least (c.map fun k => way (P.getD k (0, 0)) q)).getD 0
def rw_ (P Q : List Pt) (c : List Nat) : Int := (most (Q.map fun q => mw P c q)).getD 0
def rk (P Q : List Pt) (c : List Nat) : Sk := (rw_ P Q c, tI c)
def rkD (P Q : List Pt) (c : List Nat) : D := .tuple [.int (rw_ P Q c), oD c]
theorem toD_rk (P Q : List Pt) (c : List Nat) : Datum.toD (rk P Q c) = rkD P Q c := by
  show PyData.tuple [.int (rw_ P Q c), Datum.toD (tI c)] = _
  rw [toD_tI]
  rfl
theorem rkD_map (P Q : List Pt) (l : List (List Nat)) : l.map (rkD P Q) = (l.map (rk P Q)).map Datum.toD := by
  rw [List.map_map]
  exact List.map_congr_left fun o _ => (toD_rk P Q o).symm
theorem any_none : ∀ l : List Int, ((l.map PyData.int).any fun z => PyData.eqv z .none) = false
  | [] => rfl
  | a :: l => by
    rw [List.map_cons, List.any_cons, any_none l]
    have e1 : PyData.eqv (.int a) .none = false := by rw [PyData.eqv]; all_goals (intros; simp_all)
    rw [e1]
    rfl
theorem shp_none : shp (.none : D) = true := by simp [shp, SeqAt.shaped, PyData.canLay0, PyData.depth]
theorem notin_none (l : List Int) : oNotIn .none (.list (l.map PyData.int)) = some (.bool true) := by
  show (if (shp (.none : D) && PyData.canLayAll0 (l.map PyData.int)) = true then some (PyData.bool (!(l.map PyData.int).any fun z => PyData.eqv z .none)) else none) = _
  rw [shp_none, lay_ints, any_none]
  rfl
def ofLen (m n : Nat) : List (List Nat) := (LS m).filter fun c => decide ((c.length : Int) = (n : Int))
theorem minK_ways {c : List Nat} (hc : c ≠ []) (f : Nat → Int) (o : D) : bMinK [.list (c.map fun k => .int (f k))] o = some (.int ((least (c.map f)).getD 0)) := by
  have h := minK_map (α := Int) (by decide) (x := .list (c.map fun k => .int (f k))) (c.map f) o (by rw [seq_l, List.map_map]; rfl)
  rw [h]
  cases e : least (c.map f) with
  | none =>
    have := List.map_eq_nil_iff.mp (least_none.mp e)
    exact absurd this hc
  | some m => rfl
theorem minD_ways {c : List Nat} (hc : c ≠ []) (f : Nat → Int) : bMinD [.list (c.map fun k => .int (f k))] = some (.int ((least (c.map f)).getD 0)) := by
  have h := minD_l (α := Int) (by decide) (x := .list (c.map fun k => .int (f k))) (c.map f) (by rw [seq_l, List.map_map]; rfl)
  rw [h]
  cases e : least (c.map f) with
  | none =>
    have := List.map_eq_nil_iff.mp (least_none.mp e)
    exact absurd this hc
  | some m => rfl
theorem maxK_l (l : List Int) : bMaxK [.list (l.map PyData.int)] (.int 0) = some (.int ((most l).getD 0)) := by
  rw [maxK_map (x := .list (l.map PyData.int)) l (.int 0) rfl]
  cases most l <;> rfl
theorem maxD_ne {l : List Int} (h : l ≠ []) : bMaxD [.list (l.map PyData.int)] = some (.int ((most l).getD 0)) := by
  rw [maxD_l (x := .list (l.map PyData.int)) l rfl]
  cases e : most l with
  | none => exact absurd (most_none.mp e) h
  | some m => rfl
theorem len_dec (c : List Nat) (n : Nat) : oEq (.int (c.length : Nat)) (.int (n : Nat)) = some (.bool (decide ((c.length : Int) = (n : Int)))) := eq_int _ _
theorem reach_needed_eq (P Q : List Pt) {n : Nat} (hn : 1 ≤ n) (h1 : 1 ≤ P.length) (h5 : P.length ≤ 5) :
    d_reach_needed [.tuple (P.map wD), .int (n : Nat), .tuple (Q.map wD)] = some ((least ((ofLen P.length n).map (rk P Q))).elim .none Datum.toD) := by
  have hL := ls_n h1 h5
  obtain ⟨ρ', e, h⟩ := forL_inv (g := gSet 4) (b := l1_reach_needed) oD
    (fun pre rest ρ => pre ++ rest = LS P.length ∧ ∃ x4 x5, ρ = [some (.tuple (P.map wD)), some (.int (n : Nat)), some (.tuple (Q.map wD)), some (.list ((pre.filter fun c => decide ((c.length : Int) = (n : Int))).map (rkD P Q))), x4, x5, none, none]) (fun pre c rest ρ ⟨hq, x4, x5, e⟩ => by
      subst e
      have hcm : c ∈ LS P.length := by rw [← hq]; simp
      have hcn := (hL.2 c hcm).2.2
      have hpl : pre.length ≤ 32 := by
        have := congrArg List.length hq
        simp at this
        omega
      have l0 : ((pre.filter fun c => decide ((c.length : Int) = (n : Int))).map (rkD P Q)).length < 16777216 := by
        have := List.length_filter_le (fun c : List Nat => decide ((c.length : Int) = (n : Int))) pre
        rw [List.length_map]
        omega
      have hlen := oD_len c
      have hle := len_dec c n
      have sq : seqD (oD c) = some (c.map fun j => PyData.int (j : Nat)) := rfl
      have hk : rkD P Q c = .tuple [.int (rw_ P Q c), oD c] := rfl
      have f0 : ([c].filter fun c => decide ((c.length : Int) = (n : Int))).map (rkD P Q) = if decide ((c.length : Int) = (n : Int)) then [rkD P Q c] else [] := by
        cases h : decide ((c.length : Int) = (n : Int)) <;> simp [h]
      by_cases hcl : (c.length : Int) = (n : Int)
      · have hc0 : c ≠ [] := fun z => by rw [z] at hcl; simp at hcl; omega
        have q1 : ∀ x5 x6 x7, lcL (gSet 6) tYesP (xCallK bMinK (xCons (xLc (xSeq (xVar 4)) (gSet 7) tYesP (xCall (fun ds => if ds.length = 2 then (d_way_of) ds else none) (xCons (xBin oIx (xVar 0) (xVar 7)) (xCons (xVar 6) xNil))) [7]) xNil) (xC .none)) [some (.tuple (P.map wD)), some (.int (n : Nat)), some (.tuple (Q.map wD)), some (.list ((pre.filter fun c => decide ((c.length : Int) = (n : Int))).map (rkD P Q))), some (oD c), x5, x6, x7] (Q.map wD) = some ((Q.map fun q => mw P c q).map PyData.int) := fun x5 x6 x7 => by
          rw [List.map_map]
          refine lcL_map _ _ _ fun q _ => ?_
          have q2 : ∀ x7, lcL (gSet 7) tYesP (xCall (fun ds => if ds.length = 2 then (d_way_of) ds else none) (xCons (xBin oIx (xVar 0) (xVar 7)) (xCons (xVar 6) xNil))) [some (.tuple (P.map wD)), some (.int (n : Nat)), some (.tuple (Q.map wD)), some (.list ((pre.filter fun c => decide ((c.length : Int) = (n : Int))).map (rkD P Q))), some (oD c), x5, some (wD q), x7] (c.map fun j => PyData.int (j : Nat)) = some (c.map fun k => .int (way (P.getD k (0, 0)) q)) := fun x7 => by
            refine lcL_map _ _ _ fun k hk' => ?_
            have i1 := at_map wD P (0, 0) k (hcn k hk')
            have hw := way_of_eq (P.getD k (0, 0)) q
            generalize ((pre.filter fun c => decide ((c.length : Int) = (n : Int))).map (rkD P Q)) = FK at *
            generalize P.map wD = PD at *
            generalize Q.map wD = QD at *
            generalize oD c = C at *
            generalize wD (P.getD k (0, 0)) = pk at *
            generalize wD q = qd at *
            simp -implicitDefEqProofs only [xVar_a, xC_a, xBin_a, xUn_a, tOf_a, tTru_a, tNotP_a, tAndP_a, tOrP_a, tyes_a, tno_a, tYesP_a, xNil_a, xCons_a, xTup_a, xLst_a, xAnd_a, xOr_a, xIf_a, xChain_a, oNo_a, oAt_a, xSl_a, xCall_a, xSeq_a, xIt_a, xLc_a, gSet_a, gTupD_a, gsNil_a, gsCons_a, sNop_a, sBrk_a, sCnt_a, sSeq_a, sRet_a, sIf_a, sSet_a, sTgt_a, sAug_a, sApp_a, sExt_a, sPut_a, sPutK_a, pkO_s, sFor_a, sWhile_a, sPar_a, runD_a, b2_s, c2_s, sqO_nx, sqO_rt, sqO_bk, sqO_ct, ifO_t, ifO_f, stO_s, endO_nx, endO_rt, andO_t, andO_f, orO_t, orO_f, chO_s, chP_t, chP_f, slO_s, atO_i, lcO_s, forO_s, gsO_s, nxO_s, tgO_s, paO_s, apO_s, exO_s, plO_s, ptO_s, dB_b, tru_b, tru_n, tru_i, tru_l, tru_t, is_n, isn_n, nn_n, nn_i, nn_b, nn_t, nn_l, add_ii, add'_ii, sub_ii, neg_i, lt_ii, le_ii, gt_ii, ge_ii, ix_l, ix_t, ix_s, at0, at1, at2, sl_l, sl_t, len_l, len_t, len_s, abs_i, int_i, int_b, max_ii, min_ii, tup_s, lst_s, seq_l, seq_t, sum_s, wipe_n, wipe_c, mul_ii, fdiv_ii, mod_ii, add_ll, add_tt, setAll, mkT, mkL, oNot, List.getD_cons_zero, List.getD_cons_succ, List.length_cons, List.length_nil, List.set_cons_zero, List.set_cons_succ, List.map_cons, List.map_nil, List.replicate, List.cons_append, List.nil_append, List.append_nil, Option.bind_some, Option.map_some, List.all_cons, List.all_nil, if_true, if_false, reduceIte, Nat.reduceAdd, Nat.reduceSub, Nat.reduceLT, Nat.reduceLeDiff, Nat.reduceEqDiff, decide_true, decide_false, Bool.and_true, Bool.and_self, Bool.true_and, Bool.not_true, Bool.not_false, ne_eq, not_true_eq_false, not_false_eq_true, Nat.zero_add, Bool.false_eq_true, and_self, true_and, and_true, i1, hw]
          have q3 := minK_ways hc0 (fun k => way (P.getD k (0, 0)) q) .none
          have hK := fun ρ : PEnv => xCallK_a (ρ := ρ) bMinK
          unfold mw
          generalize ((pre.filter fun c => decide ((c.length : Int) = (n : Int))).map (rkD P Q)) = FK at *
          generalize (c.map fun k => PyData.int (way (P.getD k (0, 0)) q)) = WW at *
          generalize c.map (fun j => PyData.int (j : Nat)) = CC at *
          generalize P.map wD = PD at *
          generalize Q.map wD = QD at *
          generalize oD c = C at *
          generalize wD q = qd at *
          simp -implicitDefEqProofs only [Function.comp, xVar_a, xC_a, xBin_a, xUn_a, tOf_a, tTru_a, tNotP_a, tAndP_a, tOrP_a, tyes_a, tno_a, tYesP_a, xNil_a, xCons_a, xTup_a, xLst_a, xAnd_a, xOr_a, xIf_a, xChain_a, oNo_a, oAt_a, xSl_a, xCall_a, xSeq_a, xIt_a, xLc_a, gSet_a, gTupD_a, gsNil_a, gsCons_a, sNop_a, sBrk_a, sCnt_a, sSeq_a, sRet_a, sIf_a, sSet_a, sTgt_a, sAug_a, sApp_a, sExt_a, sPut_a, sPutK_a, pkO_s, sFor_a, sWhile_a, sPar_a, runD_a, b2_s, c2_s, sqO_nx, sqO_rt, sqO_bk, sqO_ct, ifO_t, ifO_f, stO_s, endO_nx, endO_rt, andO_t, andO_f, orO_t, orO_f, chO_s, chP_t, chP_f, slO_s, atO_i, lcO_s, forO_s, gsO_s, nxO_s, tgO_s, paO_s, apO_s, exO_s, plO_s, ptO_s, dB_b, tru_b, tru_n, tru_i, tru_l, tru_t, is_n, isn_n, nn_n, nn_i, nn_b, nn_t, nn_l, add_ii, add'_ii, sub_ii, neg_i, lt_ii, le_ii, gt_ii, ge_ii, ix_l, ix_t, ix_s, at0, at1, at2, sl_l, sl_t, len_l, len_t, len_s, abs_i, int_i, int_b, max_ii, min_ii, tup_s, lst_s, seq_l, seq_t, sum_s, wipe_n, wipe_c, mul_ii, fdiv_ii, mod_ii, add_ll, add_tt, setAll, mkT, mkL, oNot, List.getD_cons_zero, List.getD_cons_succ, List.length_cons, List.length_nil, List.set_cons_zero, List.set_cons_succ, List.map_cons, List.map_nil, List.replicate, List.cons_append, List.nil_append, List.append_nil, Option.bind_some, Option.map_some, List.all_cons, List.all_nil, if_true, if_false, reduceIte, Nat.reduceAdd, Nat.reduceSub, Nat.reduceLT, Nat.reduceLeDiff, Nat.reduceEqDiff, decide_true, decide_false, Bool.and_true, Bool.and_self, Bool.true_and, Bool.not_true, Bool.not_false, ne_eq, not_true_eq_false, not_false_eq_true, Nat.zero_add, Bool.false_eq_true, and_self, true_and, and_true, hK, sq, q2, q3]
        have q4 := notin_none (Q.map fun q => mw P c q)
        have q5 := maxK_l (Q.map fun q => mw P c q)
        have q6 : (most (Q.map fun q => mw P c q)).getD 0 = rw_ P Q c := rfl
        rw [q6] at q5
        have hK := fun ρ : PEnv => xCallK_a (ρ := ρ) bMaxK
        refine ⟨[some (.tuple (P.map wD)), some (.int (n : Nat)), some (.tuple (Q.map wD)), some (.list ((pre.filter fun c => decide ((c.length : Int) = (n : Int))).map (rkD P Q))), some (oD c), x5, none, none], [some (.tuple (P.map wD)), some (.int (n : Nat)), some (.tuple (Q.map wD)), some (.list (((pre ++ [c]).filter fun c => decide ((c.length : Int) = (n : Int))).map (rkD P Q))), some (oD c), some (.list ((Q.map fun q => mw P c q).map PyData.int)), none, none], rfl, .inl ?_, by rw [List.append_assoc]; exact hq, some (oD c), _, rfl⟩
        rw [decide_eq_true hcl] at hle f0
        rw [List.filter_append, List.map_append, f0, hk]
        generalize ((Q.map fun q => mw P c q).map PyData.int) = MM at *
        generalize ((pre.filter fun c => decide ((c.length : Int) = (n : Int))).map (rkD P Q)) = FK at *
        generalize P.map wD = PD at *
        generalize Q.map wD = QD at *
        generalize oD c = C at *
        generalize rw_ P Q c = rr at *
        simp -implicitDefEqProofs only [l1_reach_needed, xVar_a, xC_a, xBin_a, xUn_a, tOf_a, tTru_a, tNotP_a, tAndP_a, tOrP_a, tyes_a, tno_a, tYesP_a, xNil_a, xCons_a, xTup_a, xLst_a, xAnd_a, xOr_a, xIf_a, xChain_a, oNo_a, oAt_a, xSl_a, xCall_a, xSeq_a, xIt_a, xLc_a, gSet_a, gTupD_a, gsNil_a, gsCons_a, sNop_a, sBrk_a, sCnt_a, sSeq_a, sRet_a, sIf_a, sSet_a, sTgt_a, sAug_a, sApp_a, sExt_a, sPut_a, sPutK_a, pkO_s, sFor_a, sWhile_a, sPar_a, runD_a, b2_s, c2_s, sqO_nx, sqO_rt, sqO_bk, sqO_ct, ifO_t, ifO_f, stO_s, endO_nx, endO_rt, andO_t, andO_f, orO_t, orO_f, chO_s, chP_t, chP_f, slO_s, atO_i, lcO_s, forO_s, gsO_s, nxO_s, tgO_s, paO_s, apO_s, exO_s, plO_s, ptO_s, dB_b, tru_b, tru_n, tru_i, tru_l, tru_t, is_n, isn_n, nn_n, nn_i, nn_b, nn_t, nn_l, add_ii, add'_ii, sub_ii, neg_i, lt_ii, le_ii, gt_ii, ge_ii, ix_l, ix_t, ix_s, at0, at1, at2, sl_l, sl_t, len_l, len_t, len_s, abs_i, int_i, int_b, max_ii, min_ii, tup_s, lst_s, seq_l, seq_t, sum_s, wipe_n, wipe_c, mul_ii, fdiv_ii, mod_ii, add_ll, add_tt, setAll, mkT, mkL, oNot, List.getD_cons_zero, List.getD_cons_succ, List.length_cons, List.length_nil, List.set_cons_zero, List.set_cons_succ, List.map_cons, List.map_nil, List.replicate, List.cons_append, List.nil_append, List.append_nil, Option.bind_some, Option.map_some, List.all_cons, List.all_nil, if_true, if_false, reduceIte, Nat.reduceAdd, Nat.reduceSub, Nat.reduceLT, Nat.reduceLeDiff, Nat.reduceEqDiff, decide_true, decide_false, Bool.and_true, Bool.and_self, Bool.true_and, Bool.not_true, Bool.not_false, ne_eq, not_true_eq_false, not_false_eq_true, Nat.zero_add, Bool.false_eq_true, and_self, true_and, and_true, hlen, hle, q1, q4, hK, q5, l0]
      · refine ⟨[some (.tuple (P.map wD)), some (.int (n : Nat)), some (.tuple (Q.map wD)), some (.list ((pre.filter fun c => decide ((c.length : Int) = (n : Int))).map (rkD P Q))), some (oD c), x5, none, none], [some (.tuple (P.map wD)), some (.int (n : Nat)), some (.tuple (Q.map wD)), some (.list (((pre ++ [c]).filter fun c => decide ((c.length : Int) = (n : Int))).map (rkD P Q))), some (oD c), x5, none, none], rfl, .inl ?_, by rw [List.append_assoc]; exact hq, some (oD c), _, rfl⟩
        rw [decide_eq_false hcl] at hle f0
        rw [List.filter_append, List.map_append, f0]
        generalize ((pre.filter fun c => decide ((c.length : Int) = (n : Int))).map (rkD P Q)) = FK at *
        generalize P.map wD = PD at *
        generalize Q.map wD = QD at *
        generalize oD c = C at *
        simp -implicitDefEqProofs only [l1_reach_needed, xVar_a, xC_a, xBin_a, xUn_a, tOf_a, tTru_a, tNotP_a, tAndP_a, tOrP_a, tyes_a, tno_a, tYesP_a, xNil_a, xCons_a, xTup_a, xLst_a, xAnd_a, xOr_a, xIf_a, xChain_a, oNo_a, oAt_a, xSl_a, xCall_a, xSeq_a, xIt_a, xLc_a, gSet_a, gTupD_a, gsNil_a, gsCons_a, sNop_a, sBrk_a, sCnt_a, sSeq_a, sRet_a, sIf_a, sSet_a, sTgt_a, sAug_a, sApp_a, sExt_a, sPut_a, sPutK_a, pkO_s, sFor_a, sWhile_a, sPar_a, runD_a, b2_s, c2_s, sqO_nx, sqO_rt, sqO_bk, sqO_ct, ifO_t, ifO_f, stO_s, endO_nx, endO_rt, andO_t, andO_f, orO_t, orO_f, chO_s, chP_t, chP_f, slO_s, atO_i, lcO_s, forO_s, gsO_s, nxO_s, tgO_s, paO_s, apO_s, exO_s, plO_s, ptO_s, dB_b, tru_b, tru_n, tru_i, tru_l, tru_t, is_n, isn_n, nn_n, nn_i, nn_b, nn_t, nn_l, add_ii, add'_ii, sub_ii, neg_i, lt_ii, le_ii, gt_ii, ge_ii, ix_l, ix_t, ix_s, at0, at1, at2, sl_l, sl_t, len_l, len_t, len_s, abs_i, int_i, int_b, max_ii, min_ii, tup_s, lst_s, seq_l, seq_t, sum_s, wipe_n, wipe_c, mul_ii, fdiv_ii, mod_ii, add_ll, add_tt, setAll, mkT, mkL, oNot, List.getD_cons_zero, List.getD_cons_succ, List.length_cons, List.length_nil, List.set_cons_zero, List.set_cons_succ, List.map_cons, List.map_nil, List.replicate, List.cons_append, List.nil_append, List.append_nil, Option.bind_some, Option.map_some, List.all_cons, List.all_nil, if_true, if_false, reduceIte, Nat.reduceAdd, Nat.reduceSub, Nat.reduceLT, Nat.reduceLeDiff, Nat.reduceEqDiff, decide_true, decide_false, Bool.and_true, Bool.and_self, Bool.true_and, Bool.not_true, Bool.not_false, ne_eq, not_true_eq_false, not_false_eq_true, Nat.zero_add, Bool.false_eq_true, and_self, true_and, and_true, hlen, hle, List.append_nil, Bool.false_eq_true]) (LS P.length) [] [some (.tuple (P.map wD)), some (.int (n : Nat)), some (.tuple (Q.map wD)), some (.list []), none, none, none, none] ⟨rfl, none, none, rfl⟩
  obtain ⟨_, x4, x5, e'⟩ := h
  subst e'
  rw [List.nil_append] at e
  have ha := ls_a h1 h5
  have hl : (P.map wD).length = P.length := List.length_map ..
  have q7 := minK_map (α := Sk) (by decide) (x := .list ((ofLen P.length n).map (rkD P Q))) ((ofLen P.length n).map (rk P Q)) .none (by rw [seq_l, rkD_map])
  unfold ofLen at *
  have hK := fun ρ : PEnv => xCallK_a (ρ := ρ) bMinK
  generalize ((least (((LS P.length).filter fun c => decide ((c.length : Int) = (n : Int))).map (rk P Q))).elim (.none : D) Datum.toD) = ANS at *
  generalize (((LS P.length).filter fun c => decide ((c.length : Int) = (n : Int))).map (rkD P Q)) = FK at *
  generalize (LS P.length).map oD = LD at *
  generalize P.map wD = PD at *
  generalize Q.map wD = QD at *
  simp -implicitDefEqProofs only [d_reach_needed, g_reach_needed, xVar_a, xC_a, xBin_a, xUn_a, tOf_a, tTru_a, tNotP_a, tAndP_a, tOrP_a, tyes_a, tno_a, tYesP_a, xNil_a, xCons_a, xTup_a, xLst_a, xAnd_a, xOr_a, xIf_a, xChain_a, oNo_a, oAt_a, xSl_a, xCall_a, xSeq_a, xIt_a, xLc_a, gSet_a, gTupD_a, gsNil_a, gsCons_a, sNop_a, sBrk_a, sCnt_a, sSeq_a, sRet_a, sIf_a, sSet_a, sTgt_a, sAug_a, sApp_a, sExt_a, sPut_a, sPutK_a, pkO_s, sFor_a, sWhile_a, sPar_a, runD_a, b2_s, c2_s, sqO_nx, sqO_rt, sqO_bk, sqO_ct, ifO_t, ifO_f, stO_s, endO_nx, endO_rt, andO_t, andO_f, orO_t, orO_f, chO_s, chP_t, chP_f, slO_s, atO_i, lcO_s, forO_s, gsO_s, nxO_s, tgO_s, paO_s, apO_s, exO_s, plO_s, ptO_s, dB_b, tru_b, tru_n, tru_i, tru_l, tru_t, is_n, isn_n, nn_n, nn_i, nn_b, nn_t, nn_l, add_ii, add'_ii, sub_ii, neg_i, lt_ii, le_ii, gt_ii, ge_ii, ix_l, ix_t, ix_s, at0, at1, at2, sl_l, sl_t, len_l, len_t, len_s, abs_i, int_i, int_b, max_ii, min_ii, tup_s, lst_s, seq_l, seq_t, sum_s, wipe_n, wipe_c, mul_ii, fdiv_ii, mod_ii, add_ll, add_tt, setAll, mkT, mkL, oNot, List.getD_cons_zero, List.getD_cons_succ, List.length_cons, List.length_nil, List.set_cons_zero, List.set_cons_succ, List.map_cons, List.map_nil, List.replicate, List.cons_append, List.nil_append, List.append_nil, Option.bind_some, Option.map_some, List.all_cons, List.all_nil, if_true, if_false, reduceIte, Nat.reduceAdd, Nat.reduceSub, Nat.reduceLT, Nat.reduceLeDiff, Nat.reduceEqDiff, decide_true, decide_false, Bool.and_true, Bool.and_self, Bool.true_and, Bool.not_true, Bool.not_false, ne_eq, not_true_eq_false, not_false_eq_true, Nat.zero_add, Bool.false_eq_true, and_self, true_and, and_true, hl, ha, e, hK, q7]
end K20

namespace K20
open PySem PySem.Spec PyProof.Rows L2 Pm
open PySem.W (Datum Tup)
theorem ext31 : ∀ c ∈ LS 3, c.length ≤ 1 → ∃ c' ∈ LS 3, c'.length = 1 ∧ ∀ x ∈ c, x ∈ c' := by decide +kernel
theorem ext32 : ∀ c ∈ LS 3, c.length ≤ 2 → ∃ c' ∈ LS 3, c'.length = 2 ∧ ∀ x ∈ c, x ∈ c' := by decide +kernel
theorem ext33 : ∀ c ∈ LS 3, c.length ≤ 3 → ∃ c' ∈ LS 3, c'.length = 3 ∧ ∀ x ∈ c, x ∈ c' := by decide +kernel
theorem ext41 : ∀ c ∈ LS 4, c.length ≤ 1 → ∃ c' ∈ LS 4, c'.length = 1 ∧ ∀ x ∈ c, x ∈ c' := by decide +kernel
theorem ext42 : ∀ c ∈ LS 4, c.length ≤ 2 → ∃ c' ∈ LS 4, c'.length = 2 ∧ ∀ x ∈ c, x ∈ c' := by decide +kernel
theorem ext43 : ∀ c ∈ LS 4, c.length ≤ 3 → ∃ c' ∈ LS 4, c'.length = 3 ∧ ∀ x ∈ c, x ∈ c' := by decide +kernel
theorem ext51 : ∀ c ∈ LS 5, c.length ≤ 1 → ∃ c' ∈ LS 5, c'.length = 1 ∧ ∀ x ∈ c, x ∈ c' := by decide +kernel
theorem ext52 : ∀ c ∈ LS 5, c.length ≤ 2 → ∃ c' ∈ LS 5, c'.length = 2 ∧ ∀ x ∈ c, x ∈ c' := by decide +kernel
theorem ext53 : ∀ c ∈ LS 5, c.length ≤ 3 → ∃ c' ∈ LS 5, c'.length = 3 ∧ ∀ x ∈ c, x ∈ c' := by decide +kernel
theorem ext {m k : Nat} (h3 : 3 ≤ m) (h5 : m ≤ 5) (k1 : 1 ≤ k) (k3 : k ≤ 3) : ∀ c ∈ LS m, c.length ≤ k → ∃ c' ∈ LS m, c'.length = k ∧ ∀ x ∈ c, x ∈ c' := by
  obtain rfl | rfl | rfl : m = 3 ∨ m = 4 ∨ m = 5 := by omega
  all_goals obtain rfl | rfl | rfl : k = 1 ∨ k = 2 ∨ k = 3 := by omega
  · exact ext31
  · exact ext32
  · exact ext33
  · exact ext41
  · exact ext42
  · exact ext43
  · exact ext51
  · exact ext52
  · exact ext53
theorem hv1 {P : List Pt} (h1 : 1 ≤ P.length) (h5 : P.length ≤ 5) {R : Int} {Q : List Pt} {c : List Nat} (hc : c ∈ LS P.length) : hv P R Q 1 c = true ↔ ∀ q ∈ Q, ∃ x ∈ c, way (P.getD x (0, 0)) q ≤ R := by
  rw [← hv_eq h1 h5 R Q 1 hc, List.all_eq_true]
  have key : ∀ q : Pt, decide (((1 : Nat) : Int) ≤ (c.countP fun x => decide (way (P.getD x (0, 0)) q ≤ R) : Nat)) = true ↔ ∃ x ∈ c, way (P.getD x (0, 0)) q ≤ R := fun q => by
    rw [decide_eq_true_iff, show (((1 : Nat) : Int) ≤ (c.countP fun x => decide (way (P.getD x (0, 0)) q ≤ R) : Nat)) ↔ 0 < c.countP fun x => decide (way (P.getD x (0, 0)) q ≤ R) by omega, List.countP_pos_iff]
    exact ⟨fun ⟨x, a, b⟩ => ⟨x, a, of_decide_eq_true b⟩, fun ⟨x, a, b⟩ => ⟨x, a, decide_eq_true b⟩⟩
  exact ⟨fun h q hq => (key q).mp (h q hq), fun h q hq => (key q).mpr (h q hq)⟩
theorem mw_le {P : List Pt} {c : List Nat} (hc : c ≠ []) (q : Pt) (R : Int) : mw P c q ≤ R ↔ ∃ x ∈ c, way (P.getD x (0, 0)) q ≤ R := by
  unfold mw
  cases e : least (c.map fun k => way (P.getD k (0, 0)) q) with
  | none => exact absurd (List.map_eq_nil_iff.mp (least_none.mp e)) hc
  | some m =>
    obtain ⟨l1, l2⟩ := least_iff.mp e
    show m ≤ R ↔ _
    constructor
    · intro h
      obtain ⟨x, hx, rfl⟩ := List.mem_map.mp l1
      exact ⟨x, hx, h⟩
    · rintro ⟨x, hx, h⟩
      have := l2 _ (List.mem_map_of_mem (f := fun k => way (P.getD k (0, 0)) q) hx)
      rw [lt_int] at this
      have t := of_decide_eq_false this
      have t' : ¬ way (P.getD x (0, 0)) q < m := t
      omega
theorem rw_le {P Q : List Pt} (hQ : Q ≠ []) (c : List Nat) (R : Int) : rw_ P Q c ≤ R ↔ ∀ q ∈ Q, mw P c q ≤ R := by
  unfold rw_
  cases e : most (Q.map fun q => mw P c q) with
  | none => exact absurd (List.map_eq_nil_iff.mp (most_none.mp e)) hQ
  | some m =>
    obtain ⟨l1, l2⟩ := most_spec e
    show m ≤ R ↔ _
    constructor
    · intro h q hq
      have := l2 _ (List.mem_map_of_mem (f := fun q => mw P c q) hq)
      have t : mw P c q ≤ m := this
      omega
    · intro h
      obtain ⟨q, hq, e2⟩ := List.mem_map.mp l1
      have := h q hq
      have t : mw P c q = m := e2
      omega
theorem rw_hv {P Q : List Pt} (h1 : 1 ≤ P.length) (h5 : P.length ≤ 5) (hQ : Q ≠ []) {c : List Nat} (hc : c ∈ LS P.length) (hc0 : c ≠ []) (R : Int) : rw_ P Q c ≤ R ↔ hv P R Q 1 c = true := by
  rw [rw_le hQ, hv1 h1 h5 hc]
  exact ⟨fun h q hq => (mw_le hc0 q R).mp (h q hq), fun h q hq => (mw_le hc0 q R).mpr (h q hq)⟩
theorem hoses_plain {P Q : List Pt} {k : Nat} (h3 : 3 ≤ P.length) (h5 : P.length ≤ 5) (k1 : 1 ≤ k) (k3 : k ≤ 3) (hQ : Q ≠ []) :
    ∃ c, least ((ofLen P.length k).map (rk P Q)) = some (rk P Q c) ∧ c ∈ LS P.length ∧ c.length = k ∧ (∃ c1, (SS P.length).find? (hv P (rw_ P Q c) Q 1) = some c1 ∧ c1.length ≤ k) ∧ ∀ c2, (SS P.length).find? (hv P (rw_ P Q c - 1) Q 1) = some c2 → k < c2.length := by
  have h1 : 1 ≤ P.length := by omega
  have mem : ∀ c, c ∈ ofLen P.length k ↔ c ∈ LS P.length ∧ c.length = k := fun c => by
    unfold ofLen
    rw [List.mem_filter, decide_eq_true_iff]
    exact ⟨fun h => ⟨h.1, by omega⟩, fun h => ⟨h.1, by omega⟩⟩
  have z0 : ([] : List Nat) ∈ LS P.length := by
    have := lsf h1 h5 fun _ => false
    rwa [List.filter_eq_nil_iff.mpr fun _ _ => by decide] at this
  cases e : least ((ofLen P.length k).map (rk P Q)) with
  | none =>
    obtain ⟨c', a, b, _⟩ := ext h3 h5 k1 k3 [] z0 (Nat.zero_le _)
    have hm := (mem c').mpr ⟨a, b⟩
    rw [List.map_eq_nil_iff.mp (least_none.mp e)] at hm
    cases hm
  | some m =>
    obtain ⟨l1, l2⟩ := least_iff.mp e
    obtain ⟨c, hc, rfl⟩ := List.mem_map.mp l1
    obtain ⟨c1, c2⟩ := (mem c).mp hc
    have hc0 : c ≠ [] := fun z => by rw [z] at c2; simp at c2; omega
    refine ⟨c, rfl, c1, c2, ?_, fun d hd => ?_⟩
    · have hcov := (rw_hv h1 h5 hQ c1 hc0 (rw_ P Q c)).mp (Int.le_refl _)
      cases f : (SS P.length).find? (hv P (rw_ P Q c) Q 1) with
      | none =>
        have := List.find?_eq_none.mp f c ((ls_q h1 h5).mem_iff.mpr c1)
        exact absurd hcov this
      | some d =>
        have := (find_least h1 h5 f).2.2 c c1 hcov
        exact ⟨d, rfl, by omega⟩
    · obtain ⟨d1, d2, d3⟩ := find_least h1 h5 hd
      by_cases hk : d.length ≤ k
      · exfalso
        obtain ⟨c', a, b, s⟩ := ext h3 h5 k1 k3 d d1 hk
        have hc0' : c' ≠ [] := fun z => by rw [z] at b; simp at b; omega
        have d2' := (hv1 h1 h5 d1).mp d2
        have hv' : hv P (rw_ P Q c - 1) Q 1 c' = true := (hv1 h1 h5 a).mpr fun q hq => by
          obtain ⟨x, hx, h⟩ := d2' q hq
          exact ⟨x, s x hx, h⟩
        have r := (rw_hv h1 h5 hQ a hc0' _).mpr hv'
        have l3 := l2 _ (List.mem_map_of_mem (f := rk P Q) ((mem c').mpr ⟨a, b⟩))
        rw [pLt] at l3
        have l4 : (if rw_ P Q c' = rw_ P Q c then Pm.lt' (tI c') (tI c) else Pm.lt' (rw_ P Q c') (rw_ P Q c)) = false := l3
        rw [if_neg (by omega), lt_int] at l4
        have := of_decide_eq_false l4
        omega
      · omega
end K20

namespace K20
open PySem PySem.Spec PyProof.Rows L2 Pm
open PySem.W (Datum Tup)
theorem hoses_c1 (P Q : List Pt) (R : Int) (x3 : Option D) (h5 : P.length ≤ 5) :
    ∀ x4 x5 x6 x7 x8 x9 x10 x11, lcL (gSet 10) tYesP (xCall bTuple (xCons (xLc (xIt oR1 (xCons (xCall bLen (xCons (xVar 0) xNil)) xNil)) (gSet 11) (tOf (xBin oLe (xCall (fun ds => if ds.length = 2 then (d__law_way) ds else none) (xCons (xBin oIx (xVar 0) (xVar 11)) (xCons (xVar 10) xNil))) (xVar 2))) (xVar 11) [11]) xNil)) [some (.tuple (P.map wD)), some (.tuple (Q.map wD)), some (.int R), x3, x4, x5, x6, x7, x8, x9, x10, x11] (Q.map wD) = some (Q.map fun q => oD (rc P R q)) := fun x4 x5 x6 x7 x8 x9 x10 x11 => by
  refine lcL_map _ _ _ fun q _ => ?_
  have h2 : ∀ x11, lcL (gSet 11) (tOf (xBin oLe (xCall (fun ds => if ds.length = 2 then (d__law_way) ds else none) (xCons (xBin oIx (xVar 0) (xVar 11)) (xCons (xVar 10) xNil))) (xVar 2))) (xVar 11) [some (.tuple (P.map wD)), some (.tuple (Q.map wD)), some (.int R), x3, x4, x5, x6, x7, x8, x9, some (wD q), x11] ((List.range P.length).map fun k : Nat => PyData.int (k : Nat)) = some ((rc P R q).map fun k : Nat => PyData.int (k : Nat)) := fun x11 => by
    refine lcL_filter _ _ (fun k => decide (way (P.getD k (0, 0)) q ≤ R)) _ fun k hk => ?_
    have i1 := at_map wD P (0, 0) k (List.mem_range.mp hk)
    have hw := law_way_eq (P.getD k (0, 0)) q
    generalize P.map wD = PD at *
    generalize Q.map wD = QD at *
    generalize wD (P.getD k (0, 0)) = pk at *
    generalize wD q = qd at *
    exact ⟨[some (.tuple PD), some (.tuple QD), some (.int R), x3, x4, x5, x6, x7, x8, x9, some qd, some (.int (k : Nat))], rfl, by simp -implicitDefEqProofs only [xVar_a, xC_a, xBin_a, xUn_a, tOf_a, tTru_a, tNotP_a, tAndP_a, tOrP_a, tyes_a, tno_a, tYesP_a, xNil_a, xCons_a, xTup_a, xLst_a, xAnd_a, xOr_a, xIf_a, xChain_a, oNo_a, oAt_a, xSl_a, xCall_a, xSeq_a, xIt_a, xLc_a, gSet_a, gTupD_a, gsNil_a, gsCons_a, sNop_a, sBrk_a, sCnt_a, sSeq_a, sRet_a, sIf_a, sSet_a, sTgt_a, sAug_a, sApp_a, sExt_a, sPut_a, sPutK_a, pkO_s, sFor_a, sWhile_a, sPar_a, runD_a, b2_s, c2_s, sqO_nx, sqO_rt, sqO_bk, sqO_ct, ifO_t, ifO_f, stO_s, endO_nx, endO_rt, andO_t, andO_f, orO_t, orO_f, chO_s, chP_t, chP_f, slO_s, atO_i, lcO_s, forO_s, gsO_s, nxO_s, tgO_s, paO_s, apO_s, exO_s, plO_s, ptO_s, dB_b, tru_b, tru_n, tru_i, tru_l, tru_t, is_n, isn_n, nn_n, nn_i, nn_b, nn_t, nn_l, add_ii, add'_ii, sub_ii, neg_i, lt_ii, le_ii, gt_ii, ge_ii, ix_l, ix_t, ix_s, at0, at1, at2, sl_l, sl_t, len_l, len_t, len_s, abs_i, int_i, int_b, max_ii, min_ii, tup_s, lst_s, seq_l, seq_t, sum_s, wipe_n, wipe_c, mul_ii, fdiv_ii, mod_ii, add_ll, add_tt, setAll, mkT, mkL, oNot, List.getD_cons_zero, List.getD_cons_succ, List.length_cons, List.length_nil, List.set_cons_zero, List.set_cons_succ, List.map_cons, List.map_nil, List.replicate, List.cons_append, List.nil_append, List.append_nil, Option.bind_some, Option.map_some, List.all_cons, List.all_nil, if_true, if_false, reduceIte, Nat.reduceAdd, Nat.reduceSub, Nat.reduceLT, Nat.reduceLeDiff, Nat.reduceEqDiff, decide_true, decide_false, Bool.and_true, Bool.and_self, Bool.true_and, Bool.not_true, Bool.not_false, ne_eq, not_true_eq_false, not_false_eq_true, Nat.zero_add, Bool.false_eq_true, and_self, true_and, and_true, i1, hw], fun _ => rfl⟩
  have hl : (P.map wD).length = P.length := List.length_map ..
  have hr := rg0 P.length (by omega)
  unfold oD
  generalize ((rc P R q).map fun k : Nat => PyData.int (k : Nat)) = RQ at *
  generalize ((List.range P.length).map fun k : Nat => PyData.int (k : Nat)) = RN at *
  generalize P.map wD = PD at *
  generalize Q.map wD = QD at *
  generalize wD q = qd at *
  simp -implicitDefEqProofs only [xVar_a, xC_a, xBin_a, xUn_a, tOf_a, tTru_a, tNotP_a, tAndP_a, tOrP_a, tyes_a, tno_a, tYesP_a, xNil_a, xCons_a, xTup_a, xLst_a, xAnd_a, xOr_a, xIf_a, xChain_a, oNo_a, oAt_a, xSl_a, xCall_a, xSeq_a, xIt_a, xLc_a, gSet_a, gTupD_a, gsNil_a, gsCons_a, sNop_a, sBrk_a, sCnt_a, sSeq_a, sRet_a, sIf_a, sSet_a, sTgt_a, sAug_a, sApp_a, sExt_a, sPut_a, sPutK_a, pkO_s, sFor_a, sWhile_a, sPar_a, runD_a, b2_s, c2_s, sqO_nx, sqO_rt, sqO_bk, sqO_ct, ifO_t, ifO_f, stO_s, endO_nx, endO_rt, andO_t, andO_f, orO_t, orO_f, chO_s, chP_t, chP_f, slO_s, atO_i, lcO_s, forO_s, gsO_s, nxO_s, tgO_s, paO_s, apO_s, exO_s, plO_s, ptO_s, dB_b, tru_b, tru_n, tru_i, tru_l, tru_t, is_n, isn_n, nn_n, nn_i, nn_b, nn_t, nn_l, add_ii, add'_ii, sub_ii, neg_i, lt_ii, le_ii, gt_ii, ge_ii, ix_l, ix_t, ix_s, at0, at1, at2, sl_l, sl_t, len_l, len_t, len_s, abs_i, int_i, int_b, max_ii, min_ii, tup_s, lst_s, seq_l, seq_t, sum_s, wipe_n, wipe_c, mul_ii, fdiv_ii, mod_ii, add_ll, add_tt, setAll, mkT, mkL, oNot, List.getD_cons_zero, List.getD_cons_succ, List.length_cons, List.length_nil, List.set_cons_zero, List.set_cons_succ, List.map_cons, List.map_nil, List.replicate, List.cons_append, List.nil_append, List.append_nil, Option.bind_some, Option.map_some, List.all_cons, List.all_nil, if_true, if_false, reduceIte, Nat.reduceAdd, Nat.reduceSub, Nat.reduceLT, Nat.reduceLeDiff, Nat.reduceEqDiff, decide_true, decide_false, Bool.and_true, Bool.and_self, Bool.true_and, Bool.not_true, Bool.not_false, ne_eq, not_true_eq_false, not_false_eq_true, Nat.zero_add, Bool.false_eq_true, and_self, true_and, and_true, hl, hr, h2]
theorem hoses_c2 (P Q : List Pt) (R : Int) (x3 x4 x5 x6 x7 x8 x9 x10 x11 : Option D) (h1 : 1 ≤ P.length) (h5 : P.length ≤ 5) :
    forL (gSet 5) l1__law_hoses [.int 1, .int 2] [some (.tuple (P.map wD)), some (.tuple (Q.map wD)), some (.int R), x3, x4, x5, x6, x7, x8, x9, x10, x11] = some (.nx [some (.tuple (P.map wD)), some (.tuple (Q.map wD)), some (.int R), x3, x4, some (.int 2), x6, x7, x8, x9, x10, x11]) := by
  have hb : ∀ (k : Nat), l1__law_hoses [some (.tuple (P.map wD)), some (.tuple (Q.map wD)), some (.int R), x3, x4, some (.int (k : Nat)), x6, x7, x8, x9, x10, x11] = some (.nx [some (.tuple (P.map wD)), some (.tuple (Q.map wD)), some (.int R), x3, x4, some (.int (k : Nat)), x6, x7, x8, x9, x10, x11]) := fun k => by
    have a := hoses_least_eq P Q R k h1 h5
    have b := law_hosed_eq P Q R k h1 h5
    have l : d__law_like 8 [rsD ((SS P.length).find? (hv P R Q k)), rsD ((SS P.length).find? (hv P R Q k))] = some (.bool true) := like_rs 6 _ fun c h => by
      have := (ss_mem h1 h5 (List.mem_of_find?_eq_some h)).2.2.1
      omega
    generalize rsD ((SS P.length).find? (hv P R Q k)) = RS at *
    generalize P.map wD = PD at *
    generalize Q.map wD = QD at *
    simp -implicitDefEqProofs only [l1__law_hoses, xVar_a, xC_a, xBin_a, xUn_a, tOf_a, tTru_a, tNotP_a, tAndP_a, tOrP_a, tyes_a, tno_a, tYesP_a, xNil_a, xCons_a, xTup_a, xLst_a, xAnd_a, xOr_a, xIf_a, xChain_a, oNo_a, oAt_a, xSl_a, xCall_a, xSeq_a, xIt_a, xLc_a, gSet_a, gTupD_a, gsNil_a, gsCons_a, sNop_a, sBrk_a, sCnt_a, sSeq_a, sRet_a, sIf_a, sSet_a, sTgt_a, sAug_a, sApp_a, sExt_a, sPut_a, sPutK_a, pkO_s, sFor_a, sWhile_a, sPar_a, runD_a, b2_s, c2_s, sqO_nx, sqO_rt, sqO_bk, sqO_ct, ifO_t, ifO_f, stO_s, endO_nx, endO_rt, andO_t, andO_f, orO_t, orO_f, chO_s, chP_t, chP_f, slO_s, atO_i, lcO_s, forO_s, gsO_s, nxO_s, tgO_s, paO_s, apO_s, exO_s, plO_s, ptO_s, dB_b, tru_b, tru_n, tru_i, tru_l, tru_t, is_n, isn_n, nn_n, nn_i, nn_b, nn_t, nn_l, add_ii, add'_ii, sub_ii, neg_i, lt_ii, le_ii, gt_ii, ge_ii, ix_l, ix_t, ix_s, at0, at1, at2, sl_l, sl_t, len_l, len_t, len_s, abs_i, int_i, int_b, max_ii, min_ii, tup_s, lst_s, seq_l, seq_t, sum_s, wipe_n, wipe_c, mul_ii, fdiv_ii, mod_ii, add_ll, add_tt, setAll, mkT, mkL, oNot, List.getD_cons_zero, List.getD_cons_succ, List.length_cons, List.length_nil, List.set_cons_zero, List.set_cons_succ, List.map_cons, List.map_nil, List.replicate, List.cons_append, List.nil_append, List.append_nil, Option.bind_some, Option.map_some, List.all_cons, List.all_nil, if_true, if_false, reduceIte, Nat.reduceAdd, Nat.reduceSub, Nat.reduceLT, Nat.reduceLeDiff, Nat.reduceEqDiff, decide_true, decide_false, Bool.and_true, Bool.and_self, Bool.true_and, Bool.not_true, Bool.not_false, ne_eq, not_true_eq_false, not_false_eq_true, Nat.zero_add, Bool.false_eq_true, and_self, true_and, and_true, a, b, l]
  have b1 := hb 1
  have b2 := hb 2
  have b1 : l1__law_hoses [some (.tuple (P.map wD)), some (.tuple (Q.map wD)), some (.int R), x3, x4, some (.int 1), x6, x7, x8, x9, x10, x11] = some (.nx [some (.tuple (P.map wD)), some (.tuple (Q.map wD)), some (.int R), x3, x4, some (.int 1), x6, x7, x8, x9, x10, x11]) := b1
  have b2 : l1__law_hoses [some (.tuple (P.map wD)), some (.tuple (Q.map wD)), some (.int R), x3, x4, some (.int 2), x6, x7, x8, x9, x10, x11] = some (.nx [some (.tuple (P.map wD)), some (.tuple (Q.map wD)), some (.int R), x3, x4, some (.int 2), x6, x7, x8, x9, x10, x11]) := b2
  have g1 : gSet 5 (.int 1) [some (.tuple (P.map wD)), some (.tuple (Q.map wD)), some (.int R), x3, x4, x5, x6, x7, x8, x9, x10, x11] = some [some (.tuple (P.map wD)), some (.tuple (Q.map wD)), some (.int R), x3, x4, some (.int 1), x6, x7, x8, x9, x10, x11] := rfl
  have g2 : gSet 5 (.int 2) [some (.tuple (P.map wD)), some (.tuple (Q.map wD)), some (.int R), x3, x4, some (.int 1), x6, x7, x8, x9, x10, x11] = some [some (.tuple (P.map wD)), some (.tuple (Q.map wD)), some (.int R), x3, x4, some (.int 2), x6, x7, x8, x9, x10, x11] := rfl
  simp only [forL, g1, b1, g2, b2, Option.bind_some]
theorem hoses_c3 (P Q : List Pt) (R : Int) (n : Nat) (x4 x5 x8 x9 : Option D) (hn : 1 ≤ n) (h1 : 1 ≤ P.length) (h5 : P.length ≤ 5) (hQ : Q ≠ []) :
    ∃ y7, forL (gSet 7) l2__law_hoses ((LS P.length).map oD) [some (.tuple (P.map wD)), some (.tuple (Q.map wD)), some (.int R), some (.int (n : Nat)), x4, x5, some (.list []), none, x8, x9, none, none] = some (.nx [some (.tuple (P.map wD)), some (.tuple (Q.map wD)), some (.int R), some (.int (n : Nat)), x4, x5, some (.list ((ofLen P.length n).map (rkD P Q))), y7, x8, x9, none, none]) := by
  have hL := ls_n h1 h5
  obtain ⟨ρ', e, h⟩ := forL_inv (g := gSet 7) (b := l2__law_hoses) oD
    (fun pre rest ρ => pre ++ rest = LS P.length ∧ ∃ x7, ρ = [some (.tuple (P.map wD)), some (.tuple (Q.map wD)), some (.int R), some (.int (n : Nat)), x4, x5, some (.list ((pre.filter fun c => decide ((c.length : Int) = (n : Int))).map (rkD P Q))), x7, x8, x9, none, none]) (fun pre c rest ρ ⟨hq, x7, e⟩ => by
      subst e
      have hcm : c ∈ LS P.length := by rw [← hq]; simp
      have hcn := (hL.2 c hcm).2.2
      have hpl : pre.length ≤ 32 := by
        have := congrArg List.length hq
        simp at this
        omega
      have l0 : ((pre.filter fun c => decide ((c.length : Int) = (n : Int))).map (rkD P Q)).length < 16777216 := by
        have := List.length_filter_le (fun c : List Nat => decide ((c.length : Int) = (n : Int))) pre
        rw [List.length_map]
        omega
      have hlen := oD_len c
      have hle := len_dec c n
      have sq : seqD (oD c) = some (c.map fun j => PyData.int (j : Nat)) := rfl
      have hk : rkD P Q c = .tuple [.int (rw_ P Q c), oD c] := rfl
      have f0 : ([c].filter fun c => decide ((c.length : Int) = (n : Int))).map (rkD P Q) = if decide ((c.length : Int) = (n : Int)) then [rkD P Q c] else [] := by
        cases h : decide ((c.length : Int) = (n : Int)) <;> simp [h]
      by_cases hcl : (c.length : Int) = (n : Int)
      · have hc0 : c ≠ [] := fun z => by rw [z] at hcl; simp at hcl; omega
        have q1 : ∀ x10 x11, lcL (gSet 10) tYesP (xCall bMinD (xCons (xLc (xSeq (xVar 7)) (gSet 11) tYesP (xCall (fun ds => if ds.length = 2 then (d__law_way) ds else none) (xCons (xBin oIx (xVar 0) (xVar 11)) (xCons (xVar 10) xNil))) [11]) xNil)) [some (.tuple (P.map wD)), some (.tuple (Q.map wD)), some (.int R), some (.int (n : Nat)), x4, x5, some (.list ((pre.filter fun c => decide ((c.length : Int) = (n : Int))).map (rkD P Q))), some (oD c), x8, x9, x10, x11] (Q.map wD) = some ((Q.map fun q => mw P c q).map PyData.int) := fun x10 x11 => by
          rw [List.map_map]
          refine lcL_map _ _ _ fun q _ => ?_
          have q2 : ∀ x11, lcL (gSet 11) tYesP (xCall (fun ds => if ds.length = 2 then (d__law_way) ds else none) (xCons (xBin oIx (xVar 0) (xVar 11)) (xCons (xVar 10) xNil))) [some (.tuple (P.map wD)), some (.tuple (Q.map wD)), some (.int R), some (.int (n : Nat)), x4, x5, some (.list ((pre.filter fun c => decide ((c.length : Int) = (n : Int))).map (rkD P Q))), some (oD c), x8, x9, some (wD q), x11] (c.map fun j => PyData.int (j : Nat)) = some (c.map fun k => .int (way (P.getD k (0, 0)) q)) := fun x11 => by
            refine lcL_map _ _ _ fun k hk' => ?_
            have i1 := at_map wD P (0, 0) k (hcn k hk')
            have hw := law_way_eq (P.getD k (0, 0)) q
            generalize ((pre.filter fun c => decide ((c.length : Int) = (n : Int))).map (rkD P Q)) = FK at *
            generalize P.map wD = PD at *
            generalize Q.map wD = QD at *
            generalize oD c = C at *
            generalize wD (P.getD k (0, 0)) = pk at *
            generalize wD q = qd at *
            simp -implicitDefEqProofs only [xVar_a, xC_a, xBin_a, xUn_a, tOf_a, tTru_a, tNotP_a, tAndP_a, tOrP_a, tyes_a, tno_a, tYesP_a, xNil_a, xCons_a, xTup_a, xLst_a, xAnd_a, xOr_a, xIf_a, xChain_a, oNo_a, oAt_a, xSl_a, xCall_a, xSeq_a, xIt_a, xLc_a, gSet_a, gTupD_a, gsNil_a, gsCons_a, sNop_a, sBrk_a, sCnt_a, sSeq_a, sRet_a, sIf_a, sSet_a, sTgt_a, sAug_a, sApp_a, sExt_a, sPut_a, sPutK_a, pkO_s, sFor_a, sWhile_a, sPar_a, runD_a, b2_s, c2_s, sqO_nx, sqO_rt, sqO_bk, sqO_ct, ifO_t, ifO_f, stO_s, endO_nx, endO_rt, andO_t, andO_f, orO_t, orO_f, chO_s, chP_t, chP_f, slO_s, atO_i, lcO_s, forO_s, gsO_s, nxO_s, tgO_s, paO_s, apO_s, exO_s, plO_s, ptO_s, dB_b, tru_b, tru_n, tru_i, tru_l, tru_t, is_n, isn_n, nn_n, nn_i, nn_b, nn_t, nn_l, add_ii, add'_ii, sub_ii, neg_i, lt_ii, le_ii, gt_ii, ge_ii, ix_l, ix_t, ix_s, at0, at1, at2, sl_l, sl_t, len_l, len_t, len_s, abs_i, int_i, int_b, max_ii, min_ii, tup_s, lst_s, seq_l, seq_t, sum_s, wipe_n, wipe_c, mul_ii, fdiv_ii, mod_ii, add_ll, add_tt, setAll, mkT, mkL, oNot, List.getD_cons_zero, List.getD_cons_succ, List.length_cons, List.length_nil, List.set_cons_zero, List.set_cons_succ, List.map_cons, List.map_nil, List.replicate, List.cons_append, List.nil_append, List.append_nil, Option.bind_some, Option.map_some, List.all_cons, List.all_nil, if_true, if_false, reduceIte, Nat.reduceAdd, Nat.reduceSub, Nat.reduceLT, Nat.reduceLeDiff, Nat.reduceEqDiff, decide_true, decide_false, Bool.and_true, Bool.and_self, Bool.true_and, Bool.not_true, Bool.not_false, ne_eq, not_true_eq_false, not_false_eq_true, Nat.zero_add, Bool.false_eq_true, and_self, true_and, and_true, i1, hw]
          have q3 := minD_ways hc0 (fun k => way (P.getD k (0, 0)) q)
          unfold mw
          generalize ((pre.filter fun c => decide ((c.length : Int) = (n : Int))).map (rkD P Q)) = FK at *
          generalize (c.map fun k => PyData.int (way (P.getD k (0, 0)) q)) = WW at *
          generalize c.map (fun j => PyData.int (j : Nat)) = CC at *
          generalize P.map wD = PD at *
          generalize Q.map wD = QD at *
          generalize oD c = C at *
          generalize wD q = qd at *
          simp -implicitDefEqProofs only [Function.comp, xVar_a, xC_a, xBin_a, xUn_a, tOf_a, tTru_a, tNotP_a, tAndP_a, tOrP_a, tyes_a, tno_a, tYesP_a, xNil_a, xCons_a, xTup_a, xLst_a, xAnd_a, xOr_a, xIf_a, xChain_a, oNo_a, oAt_a, xSl_a, xCall_a, xSeq_a, xIt_a, xLc_a, gSet_a, gTupD_a, gsNil_a, gsCons_a, sNop_a, sBrk_a, sCnt_a, sSeq_a, sRet_a, sIf_a, sSet_a, sTgt_a, sAug_a, sApp_a, sExt_a, sPut_a, sPutK_a, pkO_s, sFor_a, sWhile_a, sPar_a, runD_a, b2_s, c2_s, sqO_nx, sqO_rt, sqO_bk, sqO_ct, ifO_t, ifO_f, stO_s, endO_nx, endO_rt, andO_t, andO_f, orO_t, orO_f, chO_s, chP_t, chP_f, slO_s, atO_i, lcO_s, forO_s, gsO_s, nxO_s, tgO_s, paO_s, apO_s, exO_s, plO_s, ptO_s, dB_b, tru_b, tru_n, tru_i, tru_l, tru_t, is_n, isn_n, nn_n, nn_i, nn_b, nn_t, nn_l, add_ii, add'_ii, sub_ii, neg_i, lt_ii, le_ii, gt_ii, ge_ii, ix_l, ix_t, ix_s, at0, at1, at2, sl_l, sl_t, len_l, len_t, len_s, abs_i, int_i, int_b, max_ii, min_ii, tup_s, lst_s, seq_l, seq_t, sum_s, wipe_n, wipe_c, mul_ii, fdiv_ii, mod_ii, add_ll, add_tt, setAll, mkT, mkL, oNot, List.getD_cons_zero, List.getD_cons_succ, List.length_cons, List.length_nil, List.set_cons_zero, List.set_cons_succ, List.map_cons, List.map_nil, List.replicate, List.cons_append, List.nil_append, List.append_nil, Option.bind_some, Option.map_some, List.all_cons, List.all_nil, if_true, if_false, reduceIte, Nat.reduceAdd, Nat.reduceSub, Nat.reduceLT, Nat.reduceLeDiff, Nat.reduceEqDiff, decide_true, decide_false, Bool.and_true, Bool.and_self, Bool.true_and, Bool.not_true, Bool.not_false, ne_eq, not_true_eq_false, not_false_eq_true, Nat.zero_add, Bool.false_eq_true, and_self, true_and, and_true, sq, q2, q3]
        have q5 := maxD_ne (l := Q.map fun q => mw P c q) fun z => hQ (List.map_eq_nil_iff.mp z)
        have q6 : (most (Q.map fun q => mw P c q)).getD 0 = rw_ P Q c := rfl
        rw [q6] at q5
        refine ⟨[some (.tuple (P.map wD)), some (.tuple (Q.map wD)), some (.int R), some (.int (n : Nat)), x4, x5, some (.list ((pre.filter fun c => decide ((c.length : Int) = (n : Int))).map (rkD P Q))), some (oD c), x8, x9, none, none], [some (.tuple (P.map wD)), some (.tuple (Q.map wD)), some (.int R), some (.int (n : Nat)), x4, x5, some (.list (((pre ++ [c]).filter fun c => decide ((c.length : Int) = (n : Int))).map (rkD P Q))), some (oD c), x8, x9, none, none], rfl, .inl ?_, by rw [List.append_assoc]; exact hq, some (oD c), rfl⟩
        rw [decide_eq_true hcl] at hle f0
        rw [List.filter_append, List.map_append, f0, hk]
        generalize ((Q.map fun q => mw P c q).map PyData.int) = MM at *
        generalize ((pre.filter fun c => decide ((c.length : Int) = (n : Int))).map (rkD P Q)) = FK at *
        generalize P.map wD = PD at *
        generalize Q.map wD = QD at *
        generalize oD c = C at *
        generalize rw_ P Q c = rr at *
        simp -implicitDefEqProofs only [l2__law_hoses, xVar_a, xC_a, xBin_a, xUn_a, tOf_a, tTru_a, tNotP_a, tAndP_a, tOrP_a, tyes_a, tno_a, tYesP_a, xNil_a, xCons_a, xTup_a, xLst_a, xAnd_a, xOr_a, xIf_a, xChain_a, oNo_a, oAt_a, xSl_a, xCall_a, xSeq_a, xIt_a, xLc_a, gSet_a, gTupD_a, gsNil_a, gsCons_a, sNop_a, sBrk_a, sCnt_a, sSeq_a, sRet_a, sIf_a, sSet_a, sTgt_a, sAug_a, sApp_a, sExt_a, sPut_a, sPutK_a, pkO_s, sFor_a, sWhile_a, sPar_a, runD_a, b2_s, c2_s, sqO_nx, sqO_rt, sqO_bk, sqO_ct, ifO_t, ifO_f, stO_s, endO_nx, endO_rt, andO_t, andO_f, orO_t, orO_f, chO_s, chP_t, chP_f, slO_s, atO_i, lcO_s, forO_s, gsO_s, nxO_s, tgO_s, paO_s, apO_s, exO_s, plO_s, ptO_s, dB_b, tru_b, tru_n, tru_i, tru_l, tru_t, is_n, isn_n, nn_n, nn_i, nn_b, nn_t, nn_l, add_ii, add'_ii, sub_ii, neg_i, lt_ii, le_ii, gt_ii, ge_ii, ix_l, ix_t, ix_s, at0, at1, at2, sl_l, sl_t, len_l, len_t, len_s, abs_i, int_i, int_b, max_ii, min_ii, tup_s, lst_s, seq_l, seq_t, sum_s, wipe_n, wipe_c, mul_ii, fdiv_ii, mod_ii, add_ll, add_tt, setAll, mkT, mkL, oNot, List.getD_cons_zero, List.getD_cons_succ, List.length_cons, List.length_nil, List.set_cons_zero, List.set_cons_succ, List.map_cons, List.map_nil, List.replicate, List.cons_append, List.nil_append, List.append_nil, Option.bind_some, Option.map_some, List.all_cons, List.all_nil, if_true, if_false, reduceIte, Nat.reduceAdd, Nat.reduceSub, Nat.reduceLT, Nat.reduceLeDiff, Nat.reduceEqDiff, decide_true, decide_false, Bool.and_true, Bool.and_self, Bool.true_and, Bool.not_true, Bool.not_false, ne_eq, not_true_eq_false, not_false_eq_true, Nat.zero_add, Bool.false_eq_true, and_self, true_and, and_true, hlen, hle, q1, q5, l0]
      · refine ⟨[some (.tuple (P.map wD)), some (.tuple (Q.map wD)), some (.int R), some (.int (n : Nat)), x4, x5, some (.list ((pre.filter fun c => decide ((c.length : Int) = (n : Int))).map (rkD P Q))), some (oD c), x8, x9, none, none], [some (.tuple (P.map wD)), some (.tuple (Q.map wD)), some (.int R), some (.int (n : Nat)), x4, x5, some (.list (((pre ++ [c]).filter fun c => decide ((c.length : Int) = (n : Int))).map (rkD P Q))), some (oD c), x8, x9, none, none], rfl, .inl ?_, by rw [List.append_assoc]; exact hq, some (oD c), rfl⟩
        rw [decide_eq_false hcl] at hle f0
        rw [List.filter_append, List.map_append, f0]
        generalize ((pre.filter fun c => decide ((c.length : Int) = (n : Int))).map (rkD P Q)) = FK at *
        generalize P.map wD = PD at *
        generalize Q.map wD = QD at *
        generalize oD c = C at *
        simp -implicitDefEqProofs only [l2__law_hoses, xVar_a, xC_a, xBin_a, xUn_a, tOf_a, tTru_a, tNotP_a, tAndP_a, tOrP_a, tyes_a, tno_a, tYesP_a, xNil_a, xCons_a, xTup_a, xLst_a, xAnd_a, xOr_a, xIf_a, xChain_a, oNo_a, oAt_a, xSl_a, xCall_a, xSeq_a, xIt_a, xLc_a, gSet_a, gTupD_a, gsNil_a, gsCons_a, sNop_a, sBrk_a, sCnt_a, sSeq_a, sRet_a, sIf_a, sSet_a, sTgt_a, sAug_a, sApp_a, sExt_a, sPut_a, sPutK_a, pkO_s, sFor_a, sWhile_a, sPar_a, runD_a, b2_s, c2_s, sqO_nx, sqO_rt, sqO_bk, sqO_ct, ifO_t, ifO_f, stO_s, endO_nx, endO_rt, andO_t, andO_f, orO_t, orO_f, chO_s, chP_t, chP_f, slO_s, atO_i, lcO_s, forO_s, gsO_s, nxO_s, tgO_s, paO_s, apO_s, exO_s, plO_s, ptO_s, dB_b, tru_b, tru_n, tru_i, tru_l, tru_t, is_n, isn_n, nn_n, nn_i, nn_b, nn_t, nn_l, add_ii, add'_ii, sub_ii, neg_i, lt_ii, le_ii, gt_ii, ge_ii, ix_l, ix_t, ix_s, at0, at1, at2, sl_l, sl_t, len_l, len_t, len_s, abs_i, int_i, int_b, max_ii, min_ii, tup_s, lst_s, seq_l, seq_t, sum_s, wipe_n, wipe_c, mul_ii, fdiv_ii, mod_ii, add_ll, add_tt, setAll, mkT, mkL, oNot, List.getD_cons_zero, List.getD_cons_succ, List.length_cons, List.length_nil, List.set_cons_zero, List.set_cons_succ, List.map_cons, List.map_nil, List.replicate, List.cons_append, List.nil_append, List.append_nil, Option.bind_some, Option.map_some, List.all_cons, List.all_nil, if_true, if_false, reduceIte, Nat.reduceAdd, Nat.reduceSub, Nat.reduceLT, Nat.reduceLeDiff, Nat.reduceEqDiff, decide_true, decide_false, Bool.and_true, Bool.and_self, Bool.true_and, Bool.not_true, Bool.not_false, ne_eq, not_true_eq_false, not_false_eq_true, Nat.zero_add, Bool.false_eq_true, and_self, true_and, and_true, hlen, hle, List.append_nil, Bool.false_eq_true]) (LS P.length) [] [some (.tuple (P.map wD)), some (.tuple (Q.map wD)), some (.int R), some (.int (n : Nat)), x4, x5, some (.list []), none, x8, x9, none, none] ⟨rfl, none, rfl⟩
  obtain ⟨_, x7, e'⟩ := h
  subst e'
  rw [List.nil_append] at e
  exact ⟨x7, e⟩
theorem law_hoses_eq {P Q : List Pt} (R : Int) {k : Nat} (h3 : 3 ≤ P.length) (h5 : P.length ≤ 5) (k1 : 1 ≤ k) (k3 : k ≤ 3) (hQ : Q ≠ []) (hQl : Q.length ≤ 100) :
    d__law_hoses [.tuple (P.map wD), .tuple (Q.map wD), .int R, .int (k : Nat)] = some (.bool true) := by
  have h1 : 1 ≤ P.length := by omega
  have c1 := hoses_c1 P Q R (some (.int (k : Nat))) h5
  have r1 := hose_reach_eq P Q R
  have rl : ∀ q, (rc P R q).length ≤ 5 := fun q => by
    have := List.length_filter_le (fun k => decide (way (P.getD k (0, 0)) q ≤ R)) (List.range P.length)
    rw [List.length_range] at this
    exact Nat.le_trans this h5
  have r2 : d__law_like 8 [.tuple (Q.map fun q => oD (rc P R q)), .tuple (Q.map fun q => oD (rc P R q))] = some (.bool true) := like_tup 7 _ (by rw [List.length_map]; omega) fun x hx => by
    obtain ⟨q, _, rfl⟩ := List.mem_map.mp hx
    exact like_oD 5 _ (by have := rl q; omega)
  have r3 : flat (.tuple (Q.map fun q => oD (rc P R q))) = true := flat_tm _ _ fun q _ => flat_oD _
  have c2 := fun x4 x5 x6 x7 x8 x9 x10 x11 => hoses_c2 P Q R (some (.int (k : Nat))) x4 x5 x6 x7 x8 x9 x10 x11 h1 h5
  have c3 := fun x4 x5 x8 x9 => hoses_c3 P Q R k x4 x5 x8 x9 k1 h1 h5 hQ
  obtain ⟨y7, c3⟩ := c3 (some (.tuple (Q.map fun q => oD (rc P R q)))) (some (.int 2)) none none
  obtain ⟨c, p1, p2, p3, ⟨c4, p4, p5⟩, p6⟩ := hoses_plain h3 h5 k1 k3 hQ
  have m1 := minD_l (α := Sk) (by decide) (x := .list ((ofLen P.length k).map (rkD P Q))) ((ofLen P.length k).map (rk P Q)) (by rw [seq_l, rkD_map])
  have m2 := reach_needed_eq P Q (n := k) k1 h1 h5
  rw [p1] at m1 m2
  have e1 : ((some (rk P Q c)).map Datum.toD : Option D) = some (rkD P Q c) := congrArg some (toD_rk P Q c)
  have e2 : ((some (rk P Q c)).elim .none Datum.toD : D) = rkD P Q c := toD_rk P Q c
  rw [e1] at m1
  rw [e2] at m2
  have m3 : d__law_like 8 [rkD P Q c, rkD P Q c] = some (.bool true) := like_tup 7 _ (by simp only [List.length_cons, List.length_nil]; omega) fun x hx => by
    rcases List.mem_cons.mp hx with rfl | hx
    · exact like_int 6 _
    · rcases List.mem_cons.mp hx with rfl | hx
      · exact like_oD 5 c (by omega)
      · cases hx
  have m4 := reach_needed_eq P Q (n := P.length + 1) (by omega) h1 h5
  have e3 : ofLen P.length (P.length + 1) = [] := List.filter_eq_nil_iff.mpr fun d hd => by
    have := ((ls_n h1 h5).2 d hd).2.1
    rw [decide_eq_true_iff]
    omega
  rw [e3] at m4
  have m4 : d_reach_needed [.tuple (P.map wD), .int ((P.length : Int) + 1), .tuple (Q.map wD)] = some .none := m4
  have t1 := hoses_least_eq P Q (rw_ P Q c) 1 h1 h5
  have t1 : d_hoses_least [.tuple (P.map wD), .int (rw_ P Q c), .tuple (Q.map wD), .int 1] = some (rsD ((SS P.length).find? (hv P (rw_ P Q c) Q 1))) := t1
  rw [p4] at t1
  have t1 : d_hoses_least [.tuple (P.map wD), .int (rw_ P Q c), .tuple (Q.map wD), .int 1] = some (oD c4) := t1
  have t2 : d_hoses_least [.tuple (P.map wD), .int (rw_ P Q c - 1), .tuple (Q.map wD), .int 1] = some (rsD ((SS P.length).find? (hv P (rw_ P Q c - 1) Q 1))) := hoses_least_eq P Q (rw_ P Q c - 1) 1 h1 h5
  have hl : (P.map wD).length = P.length := List.length_map ..
  have hb := ls_b h1 h5
  have l4 := oD_len c4
  have e7 : ∀ (x : D), oIs x .none = some (.bool (isNone x)) := fun _ => rfl
  have e8 : ∀ (x : D), oIsNot x .none = some (.bool (!isNone x)) := fun _ => rfl
  have e9 : isNone (oD c4) = false := rfl
  have e10 : (c4.length : Int) ≤ (k : Int) := by omega
  have hk : rkD P Q c = .tuple [.int (rw_ P Q c), oD c] := rfl
  rw [hk] at m1 m2 m3
  have k2 : (2 : Nat) = 2 := rfl
  clear k2 p1 p2 p3 p4 e1 e2 hk
  have hb1 := flat_bool
  have en : isNone (.none : D) = true := rfl
  have sq12 : seqD (.tuple [.int 1, .int 2] : D) = some [.int 1, .int 2] := rfl
  by_cases hR : 0 < rw_ P Q c
  · cases f : (SS P.length).find? (hv P (rw_ P Q c - 1) Q 1) with
    | none =>
      rw [f] at t2
      have t2 : d_hoses_least [.tuple (P.map wD), .int (rw_ P Q c - 1), .tuple (Q.map wD), .int 1] = some .none := t2
      generalize (Q.map fun q => oD (rc P R q)) = RR at *
      generalize ((ofLen P.length k).map (rkD P Q)) = FK at *
      generalize (LS P.length).map oD = LD at *
      generalize oD c4 = C4 at *
      generalize oD c = C at *
      generalize rw_ P Q c = rr at *
      generalize P.map wD = PD at *
      generalize Q.map wD = QD at *
      simp -implicitDefEqProofs only [d__law_hoses, g__law_hoses, xVar_a, xC_a, xBin_a, xUn_a, tOf_a, tTru_a, tNotP_a, tAndP_a, tOrP_a, tyes_a, tno_a, tYesP_a, xNil_a, xCons_a, xTup_a, xLst_a, xAnd_a, xOr_a, xIf_a, xChain_a, oNo_a, oAt_a, xSl_a, xCall_a, xSeq_a, xIt_a, xLc_a, gSet_a, gTupD_a, gsNil_a, gsCons_a, sNop_a, sBrk_a, sCnt_a, sSeq_a, sRet_a, sIf_a, sSet_a, sTgt_a, sAug_a, sApp_a, sExt_a, sPut_a, sPutK_a, pkO_s, sFor_a, sWhile_a, sPar_a, runD_a, b2_s, c2_s, sqO_nx, sqO_rt, sqO_bk, sqO_ct, ifO_t, ifO_f, stO_s, endO_nx, endO_rt, andO_t, andO_f, orO_t, orO_f, chO_s, chP_t, chP_f, slO_s, atO_i, lcO_s, forO_s, gsO_s, nxO_s, tgO_s, paO_s, apO_s, exO_s, plO_s, ptO_s, dB_b, tru_b, tru_n, tru_i, tru_l, tru_t, is_n, isn_n, nn_n, nn_i, nn_b, nn_t, nn_l, add_ii, add'_ii, sub_ii, neg_i, lt_ii, le_ii, gt_ii, ge_ii, ix_l, ix_t, ix_s, at0, at1, at2, sl_l, sl_t, len_l, len_t, len_s, abs_i, int_i, int_b, max_ii, min_ii, tup_s, lst_s, seq_l, seq_t, sum_s, wipe_n, wipe_c, mul_ii, fdiv_ii, mod_ii, add_ll, add_tt, setAll, mkT, mkL, oNot, List.getD_cons_zero, List.getD_cons_succ, List.length_cons, List.length_nil, List.set_cons_zero, List.set_cons_succ, List.map_cons, List.map_nil, List.replicate, List.cons_append, List.nil_append, List.append_nil, Option.bind_some, Option.map_some, List.all_cons, List.all_nil, if_true, if_false, reduceIte, Nat.reduceAdd, Nat.reduceSub, Nat.reduceLT, Nat.reduceLeDiff, Nat.reduceEqDiff, decide_true, decide_false, Bool.and_true, Bool.and_self, Bool.true_and, Bool.not_true, Bool.not_false, ne_eq, not_true_eq_false, not_false_eq_true, Nat.zero_add, Bool.false_eq_true, and_self, true_and, and_true, c1, r1, r2, r3, hb1, en, c2, hl, hb, c3, m1, m2, m3, m4, t1, t2, l4, e7, e8, e9, e10, hR]
    | some c5 =>
      have p7 := p6 c5 f
      rw [f] at t2
      have t2 : d_hoses_least [.tuple (P.map wD), .int (rw_ P Q c - 1), .tuple (Q.map wD), .int 1] = some (oD c5) := t2
      have l5 := oD_len c5
      have e11 : isNone (oD c5) = false := rfl
      have e12 : (k : Int) < (c5.length : Int) := by omega
      generalize (Q.map fun q => oD (rc P R q)) = RR at *
      generalize ((ofLen P.length k).map (rkD P Q)) = FK at *
      generalize (LS P.length).map oD = LD at *
      generalize oD c4 = C4 at *
      generalize oD c5 = C5 at *
      generalize oD c = C at *
      generalize rw_ P Q c = rr at *
      generalize P.map wD = PD at *
      generalize Q.map wD = QD at *
      simp -implicitDefEqProofs only [d__law_hoses, g__law_hoses, xVar_a, xC_a, xBin_a, xUn_a, tOf_a, tTru_a, tNotP_a, tAndP_a, tOrP_a, tyes_a, tno_a, tYesP_a, xNil_a, xCons_a, xTup_a, xLst_a, xAnd_a, xOr_a, xIf_a, xChain_a, oNo_a, oAt_a, xSl_a, xCall_a, xSeq_a, xIt_a, xLc_a, gSet_a, gTupD_a, gsNil_a, gsCons_a, sNop_a, sBrk_a, sCnt_a, sSeq_a, sRet_a, sIf_a, sSet_a, sTgt_a, sAug_a, sApp_a, sExt_a, sPut_a, sPutK_a, pkO_s, sFor_a, sWhile_a, sPar_a, runD_a, b2_s, c2_s, sqO_nx, sqO_rt, sqO_bk, sqO_ct, ifO_t, ifO_f, stO_s, endO_nx, endO_rt, andO_t, andO_f, orO_t, orO_f, chO_s, chP_t, chP_f, slO_s, atO_i, lcO_s, forO_s, gsO_s, nxO_s, tgO_s, paO_s, apO_s, exO_s, plO_s, ptO_s, dB_b, tru_b, tru_n, tru_i, tru_l, tru_t, is_n, isn_n, nn_n, nn_i, nn_b, nn_t, nn_l, add_ii, add'_ii, sub_ii, neg_i, lt_ii, le_ii, gt_ii, ge_ii, ix_l, ix_t, ix_s, at0, at1, at2, sl_l, sl_t, len_l, len_t, len_s, abs_i, int_i, int_b, max_ii, min_ii, tup_s, lst_s, seq_l, seq_t, sum_s, wipe_n, wipe_c, mul_ii, fdiv_ii, mod_ii, add_ll, add_tt, setAll, mkT, mkL, oNot, List.getD_cons_zero, List.getD_cons_succ, List.length_cons, List.length_nil, List.set_cons_zero, List.set_cons_succ, List.map_cons, List.map_nil, List.replicate, List.cons_append, List.nil_append, List.append_nil, Option.bind_some, Option.map_some, List.all_cons, List.all_nil, if_true, if_false, reduceIte, Nat.reduceAdd, Nat.reduceSub, Nat.reduceLT, Nat.reduceLeDiff, Nat.reduceEqDiff, decide_true, decide_false, Bool.and_true, Bool.and_self, Bool.true_and, Bool.not_true, Bool.not_false, ne_eq, not_true_eq_false, not_false_eq_true, Nat.zero_add, Bool.false_eq_true, and_self, true_and, and_true, c1, r1, r2, r3, hb1, en, c2, hl, hb, c3, m1, m2, m3, m4, t1, t2, l4, l5, e7, e8, e9, e10, e11, e12, hR]
  · generalize (Q.map fun q => oD (rc P R q)) = RR at *
    generalize ((ofLen P.length k).map (rkD P Q)) = FK at *
    generalize (LS P.length).map oD = LD at *
    generalize oD c4 = C4 at *
    generalize oD c = C at *
    generalize rw_ P Q c = rr at *
    generalize P.map wD = PD at *
    generalize Q.map wD = QD at *
    simp -implicitDefEqProofs only [d__law_hoses, g__law_hoses, xVar_a, xC_a, xBin_a, xUn_a, tOf_a, tTru_a, tNotP_a, tAndP_a, tOrP_a, tyes_a, tno_a, tYesP_a, xNil_a, xCons_a, xTup_a, xLst_a, xAnd_a, xOr_a, xIf_a, xChain_a, oNo_a, oAt_a, xSl_a, xCall_a, xSeq_a, xIt_a, xLc_a, gSet_a, gTupD_a, gsNil_a, gsCons_a, sNop_a, sBrk_a, sCnt_a, sSeq_a, sRet_a, sIf_a, sSet_a, sTgt_a, sAug_a, sApp_a, sExt_a, sPut_a, sPutK_a, pkO_s, sFor_a, sWhile_a, sPar_a, runD_a, b2_s, c2_s, sqO_nx, sqO_rt, sqO_bk, sqO_ct, ifO_t, ifO_f, stO_s, endO_nx, endO_rt, andO_t, andO_f, orO_t, orO_f, chO_s, chP_t, chP_f, slO_s, atO_i, lcO_s, forO_s, gsO_s, nxO_s, tgO_s, paO_s, apO_s, exO_s, plO_s, ptO_s, dB_b, tru_b, tru_n, tru_i, tru_l, tru_t, is_n, isn_n, nn_n, nn_i, nn_b, nn_t, nn_l, add_ii, add'_ii, sub_ii, neg_i, lt_ii, le_ii, gt_ii, ge_ii, ix_l, ix_t, ix_s, at0, at1, at2, sl_l, sl_t, len_l, len_t, len_s, abs_i, int_i, int_b, max_ii, min_ii, tup_s, lst_s, seq_l, seq_t, sum_s, wipe_n, wipe_c, mul_ii, fdiv_ii, mod_ii, add_ll, add_tt, setAll, mkT, mkL, oNot, List.getD_cons_zero, List.getD_cons_succ, List.length_cons, List.length_nil, List.set_cons_zero, List.set_cons_succ, List.map_cons, List.map_nil, List.replicate, List.cons_append, List.nil_append, List.append_nil, Option.bind_some, Option.map_some, List.all_cons, List.all_nil, if_true, if_false, reduceIte, Nat.reduceAdd, Nat.reduceSub, Nat.reduceLT, Nat.reduceLeDiff, Nat.reduceEqDiff, decide_true, decide_false, Bool.and_true, Bool.and_self, Bool.true_and, Bool.not_true, Bool.not_false, ne_eq, not_true_eq_false, not_false_eq_true, Nat.zero_add, Bool.false_eq_true, and_self, true_and, and_true, c1, r1, r2, r3, hb1, en, c2, hl, hb, c3, m1, m2, m3, m4, t1, l4, e7, e8, e9, e10, hR]
end K20

namespace K20
open PySem PySem.Spec PyProof.Rows L2 Pm
open PySem.W (Datum Tup)
theorem sv_line {s x : Nat} {R : Int} (hs : s < 20) (hx : x < 20) (h0 : 0 ≤ R) (h8 : R ≤ 8) : sv 60 ((s : Int) + 20 - R, 2 * R + 1) (x + 20) = decide (ab ((s : Int) - x) ≤ R) := by
  have hm : mnI (2 * R + 1) (60 : Nat) = 2 * R + 1 := by
    unfold mnI
    rw [if_neg (by omega)]
  have e : (((x + 20 : Nat) : Int) - ((s : Int) + 20 - R)) = (x : Int) - s + R := by omega
  unfold sv
  simp only []
  rw [hm, e, fm_emod, Bool.eq_iff_iff, decide_eq_true_iff, decide_eq_true_iff]
  unfold ab
  by_cases h : 0 ≤ (x : Int) - s + R
  · rw [Int.emod_eq_of_lt h (by omega)]
    split <;> omega
  · rw [show (x : Int) - s + R = ((x : Int) - s + R + 60) + ((60 : Nat) : Int) * (-1) by omega, Int.add_mul_emod_self_left, Int.emod_eq_of_lt (by omega) (by omega)]
    split <;> omega
theorem way_line (s x : Nat) : way ((s : Int), 0) ((x : Int), 0) = ab ((s : Int) - x) := by
  show ab ((s : Int) - x) + ab 0 = _
  have : ab 0 = 0 := by decide
  omega
def lP (s : Nat → Nat) : List Pt := (List.range 3).map fun k => ((s k : Int), (0 : Int))
def lW (s : Nat → Nat) (R : Int) : List Wt := (List.range 3).map fun k => ((s k : Int) + 20 - R, 2 * R + 1)
def nr (s x : Nat → Nat) (R : Int) (k : Nat) : List Nat := (List.range 3).filter fun h => decide (ab ((s h : Int) - x k) ≤ R)
theorem rng_getD {α : Type} (f : Nat → α) (a : α) {n k : Nat} (h : k < n) : ((List.range n).map f).getD k a = f k := by simp [h]
theorem rc_line (s x : Nat → Nat) (R : Int) (k : Nat) : rc (lP s) R ((x k : Int), 0) = nr s x R k := by
  unfold rc nr
  have hl : (lP s).length = 3 := by simp [lP]
  rw [hl]
  refine List.filter_congr fun h hh => ?_
  unfold lP
  rw [rng_getD _ _ (List.mem_range.mp hh), way_line]
theorem cn_line {s x : Nat → Nat} {R : Int} (hs : ∀ k, s k < 20) (hx : ∀ k, x k < 20) (h0 : 0 ≤ R) (h8 : R ≤ 8) (ch : List Nat) (hc : ∀ k ∈ ch, k < 3) (k : Nat) : cn 60 (lW s R) ch (x k + 20) = ((ch.countP fun h => decide (ab ((s h : Int) - x k) ≤ R) : Nat) : Int) := by
  unfold cn
  congr 1
  refine List.countP_congr fun h hh => ?_
  unfold lW
  rw [rng_getD _ _ (hc h hh), sv_line (hs h) (hx k) h0 h8]
theorem lined_body {s x : Nat → Nat} {R : Int} (hs : ∀ k, s k < 20) (hx : ∀ k, x k < 20) (h0 : 0 ≤ R) (h8 : R ≤ 8) (x0 x4 x8 x9 : Option D) {k : Nat} (hk : k < 3) :
    l1__law_lined [x0, some (.int R), some (.list ((List.range 3).map fun k => .int (s k : Nat))), some (.tuple ((List.range 3).map fun k => wD ((x k : Int), 0))), x4, some (.tuple ((lW s R).map wD)), some (.tuple ((List.range 3).map fun k => oD (nr s x R k))), some (.int (k : Nat)), x8, x9, none] =
      some (.nx [x0, some (.int R), some (.list ((List.range 3).map fun k => .int (s k : Nat))), some (.tuple ((List.range 3).map fun k => wD ((x k : Int), 0))), x4, some (.tuple ((lW s R).map wD)), some (.tuple ((List.range 3).map fun k => oD (nr s x R k))), some (.int (k : Nat)), some (oD (nr s x R k)), x9, none]) := by
  have i1 := rng_at (fun k => wD ((x k : Int), 0)) hk
  have i0 := rng_at (fun k => wD ((x k : Int), 0)) (show 0 < 3 by decide)
  have i0 : atI ((List.range 3).map fun k => wD ((x k : Int), 0)) 0 = some (wD ((x 0 : Int), 0)) := i0
  have j1 := rng_at (fun k => oD (nr s x R k)) hk
  have j0 := rng_at (fun k => oD (nr s x R k)) (show 0 < 3 by decide)
  have j0 : atI ((List.range 3).map fun k => oD (nr s x R k)) 0 = some (oD (nr s x R 0)) := j0
  have hr : oR1 [.int 3] = some ((List.range 3).map fun k : Nat => PyData.int (k : Nat)) := rg0 3 (by decide)
  have c1 : ∀ x8 x9 x10, lcL (gSet 10) (tOf (xBin oLe (xCall bAbs (xCons (xBin oSub (xBin oIx (xVar 2) (xVar 10)) (xBin oIx (xBin oIx (xVar 3) (xVar 7)) (xC (.int 0)))) xNil)) (xVar 1))) (xVar 10) [x0, some (.int R), some (.list ((List.range 3).map fun k => .int (s k : Nat))), some (.tuple ((List.range 3).map fun k => wD ((x k : Int), 0))), x4, some (.tuple ((lW s R).map wD)), some (.tuple ((List.range 3).map fun k => oD (nr s x R k))), some (.int (k : Nat)), x8, x9, x10] ((List.range 3).map fun k : Nat => PyData.int (k : Nat)) = some ((nr s x R k).map fun k : Nat => PyData.int (k : Nat)) := fun x8 x9 x10 => by
    refine lcL_filter _ _ (fun h => decide (ab ((s h : Int) - x k) ≤ R)) _ fun h hh => ?_
    have i2 := rng_at (fun k => PyData.int (s k : Nat)) (List.mem_range.mp hh)
    generalize ((List.range 3).map fun k => PyData.int (s k : Nat)) = SD at *
    generalize ((List.range 3).map fun k => wD ((x k : Int), 0)) = XD at *
    generalize ((List.range 3).map fun k => oD (nr s x R k)) = RD at *
    generalize (lW s R).map wD = WD at *
    exact ⟨[x0, some (.int R), some (.list SD), some (.tuple XD), x4, some (.tuple WD), some (.tuple RD), some (.int (k : Nat)), x8, x9, some (.int (h : Nat))], rfl, by (simp -implicitDefEqProofs only [xVar_a, xC_a, xBin_a, xUn_a, tOf_a, tTru_a, tNotP_a, tAndP_a, tOrP_a, tyes_a, tno_a, tYesP_a, xNil_a, xCons_a, xTup_a, xLst_a, xAnd_a, xOr_a, xIf_a, xChain_a, oNo_a, oAt_a, xSl_a, xCall_a, xSeq_a, xIt_a, xLc_a, gSet_a, gTupD_a, gsNil_a, gsCons_a, sNop_a, sBrk_a, sCnt_a, sSeq_a, sRet_a, sIf_a, sSet_a, sTgt_a, sAug_a, sApp_a, sExt_a, sPut_a, sPutK_a, pkO_s, sFor_a, sWhile_a, sPar_a, runD_a, b2_s, c2_s, sqO_nx, sqO_rt, sqO_bk, sqO_ct, ifO_t, ifO_f, stO_s, endO_nx, endO_rt, andO_t, andO_f, orO_t, orO_f, chO_s, chP_t, chP_f, slO_s, atO_i, lcO_s, forO_s, gsO_s, nxO_s, tgO_s, paO_s, apO_s, exO_s, plO_s, ptO_s, dB_b, tru_b, tru_n, tru_i, tru_l, tru_t, is_n, isn_n, nn_n, nn_i, nn_b, nn_t, nn_l, add_ii, add'_ii, sub_ii, neg_i, lt_ii, le_ii, gt_ii, ge_ii, ix_l, ix_t, ix_s, at0, at1, at2, sl_l, sl_t, len_l, len_t, len_s, abs_i, int_i, int_b, max_ii, min_ii, tup_s, lst_s, seq_l, seq_t, sum_s, wipe_n, wipe_c, mul_ii, fdiv_ii, mod_ii, add_ll, add_tt, setAll, mkT, mkL, oNot, List.getD_cons_zero, List.getD_cons_succ, List.length_cons, List.length_nil, List.set_cons_zero, List.set_cons_succ, List.map_cons, List.map_nil, List.replicate, List.cons_append, List.nil_append, List.append_nil, Option.bind_some, Option.map_some, List.all_cons, List.all_nil, if_true, if_false, reduceIte, Nat.reduceAdd, Nat.reduceSub, Nat.reduceLT, Nat.reduceLeDiff, Nat.reduceEqDiff, decide_true, decide_false, Bool.and_true, Bool.and_self, Bool.true_and, Bool.not_true, Bool.not_false, ne_eq, not_true_eq_false, not_false_eq_true, Nat.zero_add, Bool.false_eq_true, and_self, true_and, and_true, i1, i2, wD, ab]; rfl), fun _ => rfl⟩
  have nl : (nr s x R k).length ≤ 3 := by
    have := List.length_filter_le (fun h => decide (ab ((s h : Int) - x k) ≤ R)) (List.range 3)
    rw [List.length_range] at this
    exact this
  have k1 : d__law_like 8 [oD (nr s x R k), oD (nr s x R k)] = some (.bool true) := like_oD 6 _ (by omega)
  have f1 := flat_oD (nr s x R k)
  have hW : OkW (lW s R) := fun w hw => by
    obtain ⟨h, _, rfl⟩ := List.mem_map.mp hw
    show 1 ≤ 2 * R + 1
    omega
  have hWl : (lW s R).length = 3 := by simp [lW]
  have q1 : d_seen_times [.int 60, .tuple ((lW s R).map wD), .tuple [.int 0, .int 1, .int 2]] = some (.tuple ((cL 60 (lW s R) [0, 1, 2]).map PyData.int)) := seen_times_eq (n := 60) (ch := [0, 1, 2]) (by decide) (by decide) hW (by rw [hWl]; decide)
  have q2 : d_seen_times [.int 60, .tuple ((lW s R).map wD), .tuple [.int (k : Nat)]] = some (.tuple ((cL 60 (lW s R) [k]).map PyData.int)) := seen_times_eq (n := 60) (ch := [k]) (by decide) (by decide) hW (by rw [hWl]; intro j hj; rw [List.mem_singleton.mp hj]; exact hk)
  have at60 : ∀ (ch : List Nat) (y : Nat), y < 20 → atI ((cL 60 (lW s R) ch).map PyData.int) ((y : Int) + 20) = some (.int (cn 60 (lW s R) ch (y + 20))) := fun ch y hy => by
    have := rng_at (fun p => PyData.int (cn 60 (lW s R) ch p)) (show y + 20 < 60 by omega)
    unfold cL
    rw [List.map_map]
    rw [show ((y : Int) + 20) = ((y + 20 : Nat) : Int) by omega]
    exact this
  have a1 := at60 [0, 1, 2] (x k) (hx k)
  have a2 := at60 [k] (x 0) (hx 0)
  have e1 : cn 60 (lW s R) [0, 1, 2] (x k + 20) = ((nr s x R k).length : Nat) := by
    rw [cn_line hs hx h0 h8 [0, 1, 2] (by decide) k]
    unfold nr
    rw [← List.countP_eq_length_filter]
    rfl
  have e2 : cn 60 (lW s R) [k] (x 0 + 20) = if decide (k ∈ nr s x R 0) then 1 else 0 := by
    rw [cn_line hs hx h0 h8 [k] (by intro j hj; rw [List.mem_singleton.mp hj]; exact hk) 0]
    rw [List.countP_singleton]
    have hm : k ∈ nr s x R 0 ↔ ab ((s k : Int) - x 0) ≤ R := by
      unfold nr
      rw [List.mem_filter, List.mem_range, decide_eq_true_iff]
      exact ⟨fun z => z.2, fun z => ⟨hk, z⟩⟩
    by_cases h : ab ((s k : Int) - x 0) ≤ R
    · rw [if_pos (decide_eq_true h), if_pos (decide_eq_true (hm.mpr h))]
      rfl
    · rw [if_neg (fun z => h (of_decide_eq_true z)), if_neg (fun z => h (hm.mp (of_decide_eq_true z)))]
      rfl
  rw [e1] at a1
  rw [e2] at a2
  have f2 : ∀ ch, flat (.tuple ((cL 60 (lW s R) ch).map PyData.int)) = true := fun ch => flat_tm _ _ fun _ _ => rfl
  have f3 := f2 [0, 1, 2]
  have f4 := f2 [k]
  have k2 := fun i => like_int 7 i
  have k2 : ∀ i : Int, d__law_like 8 [.int i, .int i] = some (.bool true) := k2
  have l1 := oD_len (nr s x R k)
  have n1 := in_oD k (nr s x R 0)
  have hoD : PyData.tuple ((nr s x R k).map fun k : Nat => PyData.int (k : Nat)) = oD (nr s x R k) := rfl
  have bi : ∀ b : Bool, bInt [.bool b] = some (.int (if b then 1 else 0)) := fun b => by cases b <;> rfl
  have hb1 := flat_bool
  generalize (cL 60 (lW s R) [0, 1, 2]).map PyData.int = CA at *
  generalize (cL 60 (lW s R) [k]).map PyData.int = CB at *
  generalize ((nr s x R k).map fun k : Nat => PyData.int (k : Nat)) = ND at *
  generalize ((List.range 3).map fun k => PyData.int (s k : Nat)) = SD at *
  generalize ((List.range 3).map fun k => wD ((x k : Int), 0)) = XD at *
  generalize ((List.range 3).map fun k => oD (nr s x R k)) = RD at *
  generalize ((List.range 3).map fun k : Nat => PyData.int (k : Nat)) = RN at *
  generalize (lW s R).map wD = WD at *
  generalize decide (k ∈ nr s x R 0) = kb at *
  generalize oD (nr s x R 0) = N0 at *
  generalize oD (nr s x R k) = NK at *
  generalize (nr s x R k).length = nn at *
  unfold wD at *
  simp -implicitDefEqProofs only [l1__law_lined, xVar_a, xC_a, xBin_a, xUn_a, tOf_a, tTru_a, tNotP_a, tAndP_a, tOrP_a, tyes_a, tno_a, tYesP_a, xNil_a, xCons_a, xTup_a, xLst_a, xAnd_a, xOr_a, xIf_a, xChain_a, oNo_a, oAt_a, xSl_a, xCall_a, xSeq_a, xIt_a, xLc_a, gSet_a, gTupD_a, gsNil_a, gsCons_a, sNop_a, sBrk_a, sCnt_a, sSeq_a, sRet_a, sIf_a, sSet_a, sTgt_a, sAug_a, sApp_a, sExt_a, sPut_a, sPutK_a, pkO_s, sFor_a, sWhile_a, sPar_a, runD_a, b2_s, c2_s, sqO_nx, sqO_rt, sqO_bk, sqO_ct, ifO_t, ifO_f, stO_s, endO_nx, endO_rt, andO_t, andO_f, orO_t, orO_f, chO_s, chP_t, chP_f, slO_s, atO_i, lcO_s, forO_s, gsO_s, nxO_s, tgO_s, paO_s, apO_s, exO_s, plO_s, ptO_s, dB_b, tru_b, tru_n, tru_i, tru_l, tru_t, is_n, isn_n, nn_n, nn_i, nn_b, nn_t, nn_l, add_ii, add'_ii, sub_ii, neg_i, lt_ii, le_ii, gt_ii, ge_ii, ix_l, ix_t, ix_s, at0, at1, at2, sl_l, sl_t, len_l, len_t, len_s, abs_i, int_i, int_b, max_ii, min_ii, tup_s, lst_s, seq_l, seq_t, sum_s, wipe_n, wipe_c, mul_ii, fdiv_ii, mod_ii, add_ll, add_tt, setAll, mkT, mkL, oNot, List.getD_cons_zero, List.getD_cons_succ, List.length_cons, List.length_nil, List.set_cons_zero, List.set_cons_succ, List.map_cons, List.map_nil, List.replicate, List.cons_append, List.nil_append, List.append_nil, Option.bind_some, Option.map_some, List.all_cons, List.all_nil, if_true, if_false, reduceIte, Nat.reduceAdd, Nat.reduceSub, Nat.reduceLT, Nat.reduceLeDiff, Nat.reduceEqDiff, decide_true, decide_false, Bool.and_true, Bool.and_self, Bool.true_and, Bool.not_true, Bool.not_false, ne_eq, not_true_eq_false, not_false_eq_true, Nat.zero_add, Bool.false_eq_true, and_self, true_and, and_true, hr, c1, hoD, j1, k1, f1, hb1, q1, q2, f3, f4, i1, i0, a1, a2, l1, k2, j0, n1, bi]
end K20

namespace K20
open PySem PySem.Spec PyProof.Rows L2 Pm
open PySem.W (Datum Tup)
def tw (r : List Int) (o k : Nat) : Nat := ((r.getD (o + k) 0).fmod 20).toNat
theorem tw_lt (r : List Int) (o k : Nat) : tw r o k < 20 := by
  have := fmod_rng (r.getD (o + k) 0) (m := 20) (by decide)
  unfold tw
  omega
theorem tw_int (r : List Int) (o k : Nat) : ((tw r o k : Nat) : Int) = (r.getD (o + k) 0).fmod 20 := by
  have := fmod_rng (r.getD (o + k) 0) (m := 20) (by decide)
  unfold tw
  omega
theorem row_off (r : List Int) (hr : r.length = 62) (o k : Nat) (h : o + k < 62) : atI (r.map PyData.int) ((o : Int) + (k : Nat)) = some (.int (r.getD (o + k) 0)) := by
  have := row_at r (o + k) (by omega)
  rwa [show ((o + k : Nat) : Int) = (o : Int) + (k : Nat) by omega] at this
theorem law_lined_eq {r : List Int} (hr : r.length = 62) {R : Int} (h0 : 0 ≤ R) (h8 : R ≤ 8) : d__law_lined [.list (r.map PyData.int), .int R] = some (.bool true) := by
  have n20 : (20 : Int) ≠ 0 := by decide
  have hr3 : oR1 [.int 3] = some ((List.range 3).map fun k : Nat => PyData.int (k : Nat)) := rg0 3 (by decide)
  have c1 : ∀ x2 x3 x4 x5 x6 x7 x8 x9 x10, lcL (gSet 7) tYesP (xBin oMod (xCall bInt (xCons (xBin oIx (xVar 0) (xBin oAdd (xC (.int 50)) (xVar 7))) xNil)) (xC (.int 20))) [some (.list (r.map PyData.int)), some (.int R), x2, x3, x4, x5, x6, x7, x8, x9, x10] ((List.range 3).map fun k : Nat => PyData.int (k : Nat)) = some ((List.range 3).map fun k => .int (tw r 50 k : Nat)) := fun x2 x3 x4 x5 x6 x7 x8 x9 x10 => by
    refine lcL_map _ _ _ fun k hk => ?_
    have hk := List.mem_range.mp hk
    have i1 : atI (r.map PyData.int) (50 + (k : Nat)) = some (.int (r.getD (50 + k) 0)) := row_off r hr 50 k (by omega)
    have e := tw_int r 50 k
    generalize r.map PyData.int = RD at *
    simp -implicitDefEqProofs only [xVar_a, xC_a, xBin_a, xUn_a, tOf_a, tTru_a, tNotP_a, tAndP_a, tOrP_a, tyes_a, tno_a, tYesP_a, xNil_a, xCons_a, xTup_a, xLst_a, xAnd_a, xOr_a, xIf_a, xChain_a, oNo_a, oAt_a, xSl_a, xCall_a, xSeq_a, xIt_a, xLc_a, gSet_a, gTupD_a, gsNil_a, gsCons_a, sNop_a, sBrk_a, sCnt_a, sSeq_a, sRet_a, sIf_a, sSet_a, sTgt_a, sAug_a, sApp_a, sExt_a, sPut_a, sPutK_a, pkO_s, sFor_a, sWhile_a, sPar_a, runD_a, b2_s, c2_s, sqO_nx, sqO_rt, sqO_bk, sqO_ct, ifO_t, ifO_f, stO_s, endO_nx, endO_rt, andO_t, andO_f, orO_t, orO_f, chO_s, chP_t, chP_f, slO_s, atO_i, lcO_s, forO_s, gsO_s, nxO_s, tgO_s, paO_s, apO_s, exO_s, plO_s, ptO_s, dB_b, tru_b, tru_n, tru_i, tru_l, tru_t, is_n, isn_n, nn_n, nn_i, nn_b, nn_t, nn_l, add_ii, add'_ii, sub_ii, neg_i, lt_ii, le_ii, gt_ii, ge_ii, ix_l, ix_t, ix_s, at0, at1, at2, sl_l, sl_t, len_l, len_t, len_s, abs_i, int_i, int_b, max_ii, min_ii, tup_s, lst_s, seq_l, seq_t, sum_s, wipe_n, wipe_c, mul_ii, fdiv_ii, mod_ii, add_ll, add_tt, setAll, mkT, mkL, oNot, List.getD_cons_zero, List.getD_cons_succ, List.length_cons, List.length_nil, List.set_cons_zero, List.set_cons_succ, List.map_cons, List.map_nil, List.replicate, List.cons_append, List.nil_append, List.append_nil, Option.bind_some, Option.map_some, List.all_cons, List.all_nil, if_true, if_false, reduceIte, Nat.reduceAdd, Nat.reduceSub, Nat.reduceLT, Nat.reduceLeDiff, Nat.reduceEqDiff, decide_true, decide_false, Bool.and_true, Bool.and_self, Bool.true_and, Bool.not_true, Bool.not_false, ne_eq, not_true_eq_false, not_false_eq_true, Nat.zero_add, Bool.false_eq_true, and_self, true_and, and_true, i1, mod_ii n20, e]
  have c2 : ∀ x2 x3 x4 x5 x6 x7 x8 x9 x10, lcL (gSet 7) tYesP (xTup (xCons (xBin oMod (xCall bInt (xCons (xBin oIx (xVar 0) (xBin oAdd (xC (.int 53)) (xVar 7))) xNil)) (xC (.int 20))) (xCons (xC (.int 0)) xNil))) [some (.list (r.map PyData.int)), some (.int R), x2, x3, x4, x5, x6, x7, x8, x9, x10] ((List.range 3).map fun k : Nat => PyData.int (k : Nat)) = some ((List.range 3).map fun k => wD ((tw r 53 k : Nat), 0)) := fun x2 x3 x4 x5 x6 x7 x8 x9 x10 => by
    refine lcL_map _ _ _ fun k hk => ?_
    have hk := List.mem_range.mp hk
    have i1 : atI (r.map PyData.int) (53 + (k : Nat)) = some (.int (r.getD (53 + k) 0)) := row_off r hr 53 k (by omega)
    have e := tw_int r 53 k
    generalize r.map PyData.int = RD at *
    simp -implicitDefEqProofs only [xVar_a, xC_a, xBin_a, xUn_a, tOf_a, tTru_a, tNotP_a, tAndP_a, tOrP_a, tyes_a, tno_a, tYesP_a, xNil_a, xCons_a, xTup_a, xLst_a, xAnd_a, xOr_a, xIf_a, xChain_a, oNo_a, oAt_a, xSl_a, xCall_a, xSeq_a, xIt_a, xLc_a, gSet_a, gTupD_a, gsNil_a, gsCons_a, sNop_a, sBrk_a, sCnt_a, sSeq_a, sRet_a, sIf_a, sSet_a, sTgt_a, sAug_a, sApp_a, sExt_a, sPut_a, sPutK_a, pkO_s, sFor_a, sWhile_a, sPar_a, runD_a, b2_s, c2_s, sqO_nx, sqO_rt, sqO_bk, sqO_ct, ifO_t, ifO_f, stO_s, endO_nx, endO_rt, andO_t, andO_f, orO_t, orO_f, chO_s, chP_t, chP_f, slO_s, atO_i, lcO_s, forO_s, gsO_s, nxO_s, tgO_s, paO_s, apO_s, exO_s, plO_s, ptO_s, dB_b, tru_b, tru_n, tru_i, tru_l, tru_t, is_n, isn_n, nn_n, nn_i, nn_b, nn_t, nn_l, add_ii, add'_ii, sub_ii, neg_i, lt_ii, le_ii, gt_ii, ge_ii, ix_l, ix_t, ix_s, at0, at1, at2, sl_l, sl_t, len_l, len_t, len_s, abs_i, int_i, int_b, max_ii, min_ii, tup_s, lst_s, seq_l, seq_t, sum_s, wipe_n, wipe_c, mul_ii, fdiv_ii, mod_ii, add_ll, add_tt, setAll, mkT, mkL, oNot, List.getD_cons_zero, List.getD_cons_succ, List.length_cons, List.length_nil, List.set_cons_zero, List.set_cons_succ, List.map_cons, List.map_nil, List.replicate, List.cons_append, List.nil_append, List.append_nil, Option.bind_some, Option.map_some, List.all_cons, List.all_nil, if_true, if_false, reduceIte, Nat.reduceAdd, Nat.reduceSub, Nat.reduceLT, Nat.reduceLeDiff, Nat.reduceEqDiff, decide_true, decide_false, Bool.and_true, Bool.and_self, Bool.true_and, Bool.not_true, Bool.not_false, ne_eq, not_true_eq_false, not_false_eq_true, Nat.zero_add, Bool.false_eq_true, and_self, true_and, and_true, i1, mod_ii n20, e, wD]
  have c3 : ∀ x3 x4 x5 x6 x7 x8 x9 x10, lcL (gSet 9) tYesP (xTup (xCons (xVar 9) (xCons (xC (.int 0)) xNil))) [some (.list (r.map PyData.int)), some (.int R), some (.list ((List.range 3).map fun k => .int (tw r 50 k : Nat))), x3, x4, x5, x6, x7, x8, x9, x10] ((List.range 3).map fun k => .int (tw r 50 k : Nat)) = some ((List.range 3).map fun k => wD ((tw r 50 k : Nat), 0)) := fun x3 x4 x5 x6 x7 x8 x9 x10 => by
    refine lcL_map _ _ _ fun k hk => ?_
    generalize r.map PyData.int = RD at *
    generalize ((List.range 3).map fun k => PyData.int (tw r 50 k : Nat)) = SD at *
    simp -implicitDefEqProofs only [xVar_a, xC_a, xBin_a, xUn_a, tOf_a, tTru_a, tNotP_a, tAndP_a, tOrP_a, tyes_a, tno_a, tYesP_a, xNil_a, xCons_a, xTup_a, xLst_a, xAnd_a, xOr_a, xIf_a, xChain_a, oNo_a, oAt_a, xSl_a, xCall_a, xSeq_a, xIt_a, xLc_a, gSet_a, gTupD_a, gsNil_a, gsCons_a, sNop_a, sBrk_a, sCnt_a, sSeq_a, sRet_a, sIf_a, sSet_a, sTgt_a, sAug_a, sApp_a, sExt_a, sPut_a, sPutK_a, pkO_s, sFor_a, sWhile_a, sPar_a, runD_a, b2_s, c2_s, sqO_nx, sqO_rt, sqO_bk, sqO_ct, ifO_t, ifO_f, stO_s, endO_nx, endO_rt, andO_t, andO_f, orO_t, orO_f, chO_s, chP_t, chP_f, slO_s, atO_i, lcO_s, forO_s, gsO_s, nxO_s, tgO_s, paO_s, apO_s, exO_s, plO_s, ptO_s, dB_b, tru_b, tru_n, tru_i, tru_l, tru_t, is_n, isn_n, nn_n, nn_i, nn_b, nn_t, nn_l, add_ii, add'_ii, sub_ii, neg_i, lt_ii, le_ii, gt_ii, ge_ii, ix_l, ix_t, ix_s, at0, at1, at2, sl_l, sl_t, len_l, len_t, len_s, abs_i, int_i, int_b, max_ii, min_ii, tup_s, lst_s, seq_l, seq_t, sum_s, wipe_n, wipe_c, mul_ii, fdiv_ii, mod_ii, add_ll, add_tt, setAll, mkT, mkL, oNot, List.getD_cons_zero, List.getD_cons_succ, List.length_cons, List.length_nil, List.set_cons_zero, List.set_cons_succ, List.map_cons, List.map_nil, List.replicate, List.cons_append, List.nil_append, List.append_nil, Option.bind_some, Option.map_some, List.all_cons, List.all_nil, if_true, if_false, reduceIte, Nat.reduceAdd, Nat.reduceSub, Nat.reduceLT, Nat.reduceLeDiff, Nat.reduceEqDiff, decide_true, decide_false, Bool.and_true, Bool.and_self, Bool.true_and, Bool.not_true, Bool.not_false, ne_eq, not_true_eq_false, not_false_eq_true, Nat.zero_add, Bool.false_eq_true, and_self, true_and, and_true, wD]
  have mm := mulOk_r 2 (b := R) (by omega)
  have c4 : ∀ x3 x4 x5 x6 x7 x8 x9 x10, lcL (gSet 9) tYesP (xTup (xCons (xBin oSub (xBin oAdd (xVar 9) (xC (.int 20))) (xVar 1)) (xCons (xBin oAdd (xBin oMul' (xC (.int 2)) (xVar 1)) (xC (.int 1))) xNil))) [some (.list (r.map PyData.int)), some (.int R), some (.list ((List.range 3).map fun k => .int (tw r 50 k : Nat))), x3, x4, x5, x6, x7, x8, x9, x10] ((List.range 3).map fun k => .int (tw r 50 k : Nat)) = some ((lW (tw r 50) R).map wD) := fun x3 x4 x5 x6 x7 x8 x9 x10 => by
    unfold lW
    rw [List.map_map]
    refine lcL_map _ _ _ fun k hk => ?_
    generalize r.map PyData.int = RD at *
    generalize ((List.range 3).map fun k => PyData.int (tw r 50 k : Nat)) = SD at *
    simp -implicitDefEqProofs only [Function.comp, xVar_a, xC_a, xBin_a, xUn_a, tOf_a, tTru_a, tNotP_a, tAndP_a, tOrP_a, tyes_a, tno_a, tYesP_a, xNil_a, xCons_a, xTup_a, xLst_a, xAnd_a, xOr_a, xIf_a, xChain_a, oNo_a, oAt_a, xSl_a, xCall_a, xSeq_a, xIt_a, xLc_a, gSet_a, gTupD_a, gsNil_a, gsCons_a, sNop_a, sBrk_a, sCnt_a, sSeq_a, sRet_a, sIf_a, sSet_a, sTgt_a, sAug_a, sApp_a, sExt_a, sPut_a, sPutK_a, pkO_s, sFor_a, sWhile_a, sPar_a, runD_a, b2_s, c2_s, sqO_nx, sqO_rt, sqO_bk, sqO_ct, ifO_t, ifO_f, stO_s, endO_nx, endO_rt, andO_t, andO_f, orO_t, orO_f, chO_s, chP_t, chP_f, slO_s, atO_i, lcO_s, forO_s, gsO_s, nxO_s, tgO_s, paO_s, apO_s, exO_s, plO_s, ptO_s, dB_b, tru_b, tru_n, tru_i, tru_l, tru_t, is_n, isn_n, nn_n, nn_i, nn_b, nn_t, nn_l, add_ii, add'_ii, sub_ii, neg_i, lt_ii, le_ii, gt_ii, ge_ii, ix_l, ix_t, ix_s, at0, at1, at2, sl_l, sl_t, len_l, len_t, len_s, abs_i, int_i, int_b, max_ii, min_ii, tup_s, lst_s, seq_l, seq_t, sum_s, wipe_n, wipe_c, mul_ii, fdiv_ii, mod_ii, add_ll, add_tt, setAll, mkT, mkL, oNot, List.getD_cons_zero, List.getD_cons_succ, List.length_cons, List.length_nil, List.set_cons_zero, List.set_cons_succ, List.map_cons, List.map_nil, List.replicate, List.cons_append, List.nil_append, List.append_nil, Option.bind_some, Option.map_some, List.all_cons, List.all_nil, if_true, if_false, reduceIte, Nat.reduceAdd, Nat.reduceSub, Nat.reduceLT, Nat.reduceLeDiff, Nat.reduceEqDiff, decide_true, decide_false, Bool.and_true, Bool.and_self, Bool.true_and, Bool.not_true, Bool.not_false, ne_eq, not_true_eq_false, not_false_eq_true, Nat.zero_add, Bool.false_eq_true, and_self, true_and, and_true, wD, mm]
  have q1 := hose_reach_eq (lP (tw r 50)) (lP (tw r 53)) R
  have e1 : (lP (tw r 50)).map wD = (List.range 3).map fun k => wD ((tw r 50 k : Nat), 0) := by unfold lP; rw [List.map_map]; rfl
  have e2 : (lP (tw r 53)).map wD = (List.range 3).map fun k => wD ((tw r 53 k : Nat), 0) := by unfold lP; rw [List.map_map]; rfl
  have e3 : ((lP (tw r 53)).map fun q => oD (rc (lP (tw r 50)) R q)) = (List.range 3).map fun k => oD (nr (tw r 50) (tw r 53) R k) := by
    conv => lhs; rw [show lP (tw r 53) = (List.range 3).map fun k => ((tw r 53 k : Int), (0 : Int)) from rfl]
    rw [List.map_map]
    refine List.map_congr_left fun k _ => ?_
    exact congrArg oD (rc_line (tw r 50) (tw r 53) R k)
  rw [e1, e2, e3] at q1
  have f1 : flat (.tuple ((List.range 3).map fun k => oD (nr (tw r 50) (tw r 53) R k))) = true := flat_tm _ _ fun _ _ => flat_oD _
  obtain ⟨ρ', e, h⟩ := forL_inv (g := gSet 7) (b := l1__law_lined) (fun k : Nat => PyData.int (k : Nat))
    (fun pre rest ρ => pre ++ rest = List.range 3 ∧ ∃ x7 x8, ρ = [some (.list (r.map PyData.int)), some (.int R), some (.list ((List.range 3).map fun k => .int (tw r 50 k : Nat))), some (.tuple ((List.range 3).map fun k => wD ((tw r 53 k : Int), 0))), some (.tuple ((List.range 3).map fun k => wD ((tw r 50 k : Int), 0))), some (.tuple ((lW (tw r 50) R).map wD)), some (.tuple ((List.range 3).map fun k => oD (nr (tw r 50) (tw r 53) R k))), x7, x8, none, none]) (fun pre k rest ρ ⟨hq, x7, x8, e⟩ => by
      subst e
      have hk : k ∈ List.range 3 := by rw [← hq]; simp
      exact ⟨_, _, rfl, .inl (lined_body (fun k => tw_lt r 50 k) (fun k => tw_lt r 53 k) h0 h8 _ _ x8 none (List.mem_range.mp hk)), by rw [List.append_assoc]; exact hq, _, _, rfl⟩) (List.range 3) [] [some (.list (r.map PyData.int)), some (.int R), some (.list ((List.range 3).map fun k => .int (tw r 50 k : Nat))), some (.tuple ((List.range 3).map fun k => wD ((tw r 53 k : Int), 0))), some (.tuple ((List.range 3).map fun k => wD ((tw r 50 k : Int), 0))), some (.tuple ((lW (tw r 50) R).map wD)), some (.tuple ((List.range 3).map fun k => oD (nr (tw r 50) (tw r 53) R k))), none, none, none, none] ⟨rfl, none, none, rfl⟩
  obtain ⟨_, x7, x8, e'⟩ := h
  subst e'
  clear e1 e2 e3
  generalize (lW (tw r 50) R).map wD = WD at *
  generalize ((List.range 3).map fun k => oD (nr (tw r 50) (tw r 53) R k)) = ND at *
  generalize ((List.range 3).map fun k => wD ((tw r 53 k : Nat), 0)) = XD at *
  generalize ((List.range 3).map fun k => wD ((tw r 50 k : Nat), 0)) = PD at *
  generalize ((List.range 3).map fun k => PyData.int (tw r 50 k : Nat)) = SD at *
  generalize ((List.range 3).map fun k : Nat => PyData.int (k : Nat)) = RN at *
  generalize r.map PyData.int = RD at *
  simp -implicitDefEqProofs only [d__law_lined, g__law_lined, xVar_a, xC_a, xBin_a, xUn_a, tOf_a, tTru_a, tNotP_a, tAndP_a, tOrP_a, tyes_a, tno_a, tYesP_a, xNil_a, xCons_a, xTup_a, xLst_a, xAnd_a, xOr_a, xIf_a, xChain_a, oNo_a, oAt_a, xSl_a, xCall_a, xSeq_a, xIt_a, xLc_a, gSet_a, gTupD_a, gsNil_a, gsCons_a, sNop_a, sBrk_a, sCnt_a, sSeq_a, sRet_a, sIf_a, sSet_a, sTgt_a, sAug_a, sApp_a, sExt_a, sPut_a, sPutK_a, pkO_s, sFor_a, sWhile_a, sPar_a, runD_a, b2_s, c2_s, sqO_nx, sqO_rt, sqO_bk, sqO_ct, ifO_t, ifO_f, stO_s, endO_nx, endO_rt, andO_t, andO_f, orO_t, orO_f, chO_s, chP_t, chP_f, slO_s, atO_i, lcO_s, forO_s, gsO_s, nxO_s, tgO_s, paO_s, apO_s, exO_s, plO_s, ptO_s, dB_b, tru_b, tru_n, tru_i, tru_l, tru_t, is_n, isn_n, nn_n, nn_i, nn_b, nn_t, nn_l, add_ii, add'_ii, sub_ii, neg_i, lt_ii, le_ii, gt_ii, ge_ii, ix_l, ix_t, ix_s, at0, at1, at2, sl_l, sl_t, len_l, len_t, len_s, abs_i, int_i, int_b, max_ii, min_ii, tup_s, lst_s, seq_l, seq_t, sum_s, wipe_n, wipe_c, mul_ii, fdiv_ii, mod_ii, add_ll, add_tt, setAll, mkT, mkL, oNot, List.getD_cons_zero, List.getD_cons_succ, List.length_cons, List.length_nil, List.set_cons_zero, List.set_cons_succ, List.map_cons, List.map_nil, List.replicate, List.cons_append, List.nil_append, List.append_nil, Option.bind_some, Option.map_some, List.all_cons, List.all_nil, if_true, if_false, reduceIte, Nat.reduceAdd, Nat.reduceSub, Nat.reduceLT, Nat.reduceLeDiff, Nat.reduceEqDiff, decide_true, decide_false, Bool.and_true, Bool.and_self, Bool.true_and, Bool.not_true, Bool.not_false, ne_eq, not_true_eq_false, not_false_eq_true, Nat.zero_add, Bool.false_eq_true, and_self, true_and, and_true, hr3, c1, c2, c3, c4, q1, f1, e]
end K20

namespace K20
open PySem PySem.Spec PyProof.Rows L2 Pm
open PySem.W (Datum Tup)
def boxD (a b : Int) (dx dy : Nat) : D := .tuple [.int a, .int b, .int (a + (dx : Nat)), .int (b + (dy : Nat))]
def bx (a b : Int) (dx dy : Nat) : List Pt := (List.range (dx + 1)).flatMap fun i => (List.range (dy + 1)).map fun j => (a + (i : Nat), b + (j : Nat))
theorem at3 (w x y z : D) : atI [w, x, y, z] 3 = some z := rfl
theorem rg_box (a : Int) (dx : Nat) (h : 0 ≤ a ∧ a ≤ 3 ∧ dx ≤ 3) : oR2 [.int a, .int (a + (dx : Nat) + 1)] = some ((List.range (dx + 1)).map fun t => .int (a + (t : Nat))) := by
  have := oR2_off a (dx + 1) (by omega)
  rwa [show a + ((dx + 1 : Nat) : Int) = a + (dx : Nat) + 1 by omega] at this
theorem bx_len (a b : Int) (dx dy : Nat) (h : dx ≤ 3 ∧ dy ≤ 3) : (bx a b dx dy).length ≤ 16 := by
  have := fl_len (fun i : Nat => (List.range (dy + 1)).map fun j : Nat => (a + (i : Nat), b + (j : Nat))) (dy + 1) (List.range (dx + 1)) fun x _ => by simp
  rw [List.length_range] at this
  have h2 : (dx + 1) * (dy + 1) ≤ 4 * 4 := Nat.mul_le_mul (by omega) (by omega)
  unfold bx
  omega
theorem box_places_eq {a b : Int} {dx dy : Nat} (ha : 0 ≤ a ∧ a ≤ 3 ∧ dx ≤ 3) (hb : 0 ≤ b ∧ b ≤ 3 ∧ dy ≤ 3) : d_box_places [boxD a b dx dy] = some (.list ((bx a b dx dy).map wD)) := by
  have r1 := rg_box a dx ha
  have r2 := rg_box b dy hb
  have h3 := at3
  have hit : (xIt oR2 (xCons (xBin oIx (xVar 0) (xC (.int 0))) (xCons (xBin oAdd (xBin oIx (xVar 0) (xC (.int 2))) (xC (.int 1))) xNil))) [some (boxD a b dx dy), none, none] = some ((List.range (dx + 1)).map fun t => .int (a + (t : Nat))) := by
    simp -implicitDefEqProofs only [xVar_a, xC_a, xBin_a, xUn_a, tOf_a, tTru_a, tNotP_a, tAndP_a, tOrP_a, tyes_a, tno_a, tYesP_a, xNil_a, xCons_a, xTup_a, xLst_a, xAnd_a, xOr_a, xIf_a, xChain_a, oNo_a, oAt_a, xSl_a, xCall_a, xSeq_a, xIt_a, xLc_a, gSet_a, gTupD_a, gsNil_a, gsCons_a, sNop_a, sBrk_a, sCnt_a, sSeq_a, sRet_a, sIf_a, sSet_a, sTgt_a, sAug_a, sApp_a, sExt_a, sPut_a, sPutK_a, pkO_s, sFor_a, sWhile_a, sPar_a, runD_a, b2_s, c2_s, sqO_nx, sqO_rt, sqO_bk, sqO_ct, ifO_t, ifO_f, stO_s, endO_nx, endO_rt, andO_t, andO_f, orO_t, orO_f, chO_s, chP_t, chP_f, slO_s, atO_i, lcO_s, forO_s, gsO_s, nxO_s, tgO_s, paO_s, apO_s, exO_s, plO_s, ptO_s, dB_b, tru_b, tru_n, tru_i, tru_l, tru_t, is_n, isn_n, nn_n, nn_i, nn_b, nn_t, nn_l, add_ii, add'_ii, sub_ii, neg_i, lt_ii, le_ii, gt_ii, ge_ii, ix_l, ix_t, ix_s, at0, at1, at2, sl_l, sl_t, len_l, len_t, len_s, abs_i, int_i, int_b, max_ii, min_ii, tup_s, lst_s, seq_l, seq_t, sum_s, wipe_n, wipe_c, mul_ii, fdiv_ii, mod_ii, add_ll, add_tt, setAll, mkT, mkL, oNot, List.getD_cons_zero, List.getD_cons_succ, List.length_cons, List.length_nil, List.set_cons_zero, List.set_cons_succ, List.map_cons, List.map_nil, List.replicate, List.cons_append, List.nil_append, List.append_nil, Option.bind_some, Option.map_some, List.all_cons, List.all_nil, if_true, if_false, reduceIte, Nat.reduceAdd, Nat.reduceSub, Nat.reduceLT, Nat.reduceLeDiff, Nat.reduceEqDiff, decide_true, decide_false, Bool.and_true, Bool.and_self, Bool.true_and, Bool.not_true, Bool.not_false, ne_eq, not_true_eq_false, not_false_eq_true, Nat.zero_add, Bool.false_eq_true, and_self, true_and, and_true, boxD, r1]
  have c1 : lc2L (gSet 1) tYesP (xIt oR2 (xCons (xBin oIx (xVar 0) (xC (.int 1))) (xCons (xBin oAdd (xBin oIx (xVar 0) (xC (.int 3))) (xC (.int 1))) xNil))) (gSet 2) tYesP (xTup (xCons (xVar 1) (xCons (xVar 2) xNil))) [2] (wipeP [some (boxD a b dx dy), none, none] [1, 2]) ((List.range (dx + 1)).map fun t => PyData.int (a + (t : Nat))) = some ((List.range (dx + 1)).flatMap fun i => ((List.range (dy + 1)).map fun j => (a + (i : Nat), b + (j : Nat))).map wD) := by
    refine lc2L_flat _ _ _ fun i _ => ?_
    refine ⟨[some (boxD a b dx dy), some (.int (a + (i : Nat))), none], (List.range (dy + 1)).map fun t => .int (b + (t : Nat)), rfl, ?_, ?_⟩
    · simp -implicitDefEqProofs only [xVar_a, xC_a, xBin_a, xUn_a, tOf_a, tTru_a, tNotP_a, tAndP_a, tOrP_a, tyes_a, tno_a, tYesP_a, xNil_a, xCons_a, xTup_a, xLst_a, xAnd_a, xOr_a, xIf_a, xChain_a, oNo_a, oAt_a, xSl_a, xCall_a, xSeq_a, xIt_a, xLc_a, gSet_a, gTupD_a, gsNil_a, gsCons_a, sNop_a, sBrk_a, sCnt_a, sSeq_a, sRet_a, sIf_a, sSet_a, sTgt_a, sAug_a, sApp_a, sExt_a, sPut_a, sPutK_a, pkO_s, sFor_a, sWhile_a, sPar_a, runD_a, b2_s, c2_s, sqO_nx, sqO_rt, sqO_bk, sqO_ct, ifO_t, ifO_f, stO_s, endO_nx, endO_rt, andO_t, andO_f, orO_t, orO_f, chO_s, chP_t, chP_f, slO_s, atO_i, lcO_s, forO_s, gsO_s, nxO_s, tgO_s, paO_s, apO_s, exO_s, plO_s, ptO_s, dB_b, tru_b, tru_n, tru_i, tru_l, tru_t, is_n, isn_n, nn_n, nn_i, nn_b, nn_t, nn_l, add_ii, add'_ii, sub_ii, neg_i, lt_ii, le_ii, gt_ii, ge_ii, ix_l, ix_t, ix_s, at0, at1, at2, sl_l, sl_t, len_l, len_t, len_s, abs_i, int_i, int_b, max_ii, min_ii, tup_s, lst_s, seq_l, seq_t, sum_s, wipe_n, wipe_c, mul_ii, fdiv_ii, mod_ii, add_ll, add_tt, setAll, mkT, mkL, oNot, List.getD_cons_zero, List.getD_cons_succ, List.length_cons, List.length_nil, List.set_cons_zero, List.set_cons_succ, List.map_cons, List.map_nil, List.replicate, List.cons_append, List.nil_append, List.append_nil, Option.bind_some, Option.map_some, List.all_cons, List.all_nil, if_true, if_false, reduceIte, Nat.reduceAdd, Nat.reduceSub, Nat.reduceLT, Nat.reduceLeDiff, Nat.reduceEqDiff, decide_true, decide_false, Bool.and_true, Bool.and_self, Bool.true_and, Bool.not_true, Bool.not_false, ne_eq, not_true_eq_false, not_false_eq_true, Nat.zero_add, Bool.false_eq_true, and_self, true_and, and_true, boxD, h3, r2]
    · rw [List.map_map]
      refine lcL_map _ _ _ fun j _ => ?_
      simp -implicitDefEqProofs only [Function.comp, xVar_a, xC_a, xBin_a, xUn_a, tOf_a, tTru_a, tNotP_a, tAndP_a, tOrP_a, tyes_a, tno_a, tYesP_a, xNil_a, xCons_a, xTup_a, xLst_a, xAnd_a, xOr_a, xIf_a, xChain_a, oNo_a, oAt_a, xSl_a, xCall_a, xSeq_a, xIt_a, xLc_a, gSet_a, gTupD_a, gsNil_a, gsCons_a, sNop_a, sBrk_a, sCnt_a, sSeq_a, sRet_a, sIf_a, sSet_a, sTgt_a, sAug_a, sApp_a, sExt_a, sPut_a, sPutK_a, pkO_s, sFor_a, sWhile_a, sPar_a, runD_a, b2_s, c2_s, sqO_nx, sqO_rt, sqO_bk, sqO_ct, ifO_t, ifO_f, stO_s, endO_nx, endO_rt, andO_t, andO_f, orO_t, orO_f, chO_s, chP_t, chP_f, slO_s, atO_i, lcO_s, forO_s, gsO_s, nxO_s, tgO_s, paO_s, apO_s, exO_s, plO_s, ptO_s, dB_b, tru_b, tru_n, tru_i, tru_l, tru_t, is_n, isn_n, nn_n, nn_i, nn_b, nn_t, nn_l, add_ii, add'_ii, sub_ii, neg_i, lt_ii, le_ii, gt_ii, ge_ii, ix_l, ix_t, ix_s, at0, at1, at2, sl_l, sl_t, len_l, len_t, len_s, abs_i, int_i, int_b, max_ii, min_ii, tup_s, lst_s, seq_l, seq_t, sum_s, wipe_n, wipe_c, mul_ii, fdiv_ii, mod_ii, add_ll, add_tt, setAll, mkT, mkL, oNot, List.getD_cons_zero, List.getD_cons_succ, List.length_cons, List.length_nil, List.set_cons_zero, List.set_cons_succ, List.map_cons, List.map_nil, List.replicate, List.cons_append, List.nil_append, List.append_nil, Option.bind_some, Option.map_some, List.all_cons, List.all_nil, if_true, if_false, reduceIte, Nat.reduceAdd, Nat.reduceSub, Nat.reduceLT, Nat.reduceLeDiff, Nat.reduceEqDiff, decide_true, decide_false, Bool.and_true, Bool.and_self, Bool.true_and, Bool.not_true, Bool.not_false, ne_eq, not_true_eq_false, not_false_eq_true, Nat.zero_add, Bool.false_eq_true, and_self, true_and, and_true, wD]
  have hlc := xLc2_a (ρ := [some (boxD a b dx dy), none, none]) (xIt oR2 (xCons (xBin oIx (xVar 0) (xC (.int 0))) (xCons (xBin oAdd (xBin oIx (xVar 0) (xC (.int 2))) (xC (.int 1))) xNil))) (gSet 1) tYesP (xIt oR2 (xCons (xBin oIx (xVar 0) (xC (.int 1))) (xCons (xBin oAdd (xBin oIx (xVar 0) (xC (.int 3))) (xC (.int 1))) xNil))) (gSet 2) tYesP (xTup (xCons (xVar 1) (xCons (xVar 2) xNil))) [1, 2] [2] _ hit
  have hbl := bx_len a b dx dy ⟨ha.2.2, hb.2.2⟩
  rw [c1, Option.bind_some, fl_map] at hlc
  rw [show (List.range (dx + 1)).flatMap (fun i => (List.range (dy + 1)).map fun j => (a + (i : Nat), b + (j : Nat))) = bx a b dx dy from rfl, if_pos (by rw [List.length_map]; omega)] at hlc
  generalize (bx a b dx dy).map wD = BD at *
  generalize boxD a b dx dy = bd at *
  simp -implicitDefEqProofs only [d_box_places, g_box_places, xVar_a, xC_a, xBin_a, xUn_a, tOf_a, tTru_a, tNotP_a, tAndP_a, tOrP_a, tyes_a, tno_a, tYesP_a, xNil_a, xCons_a, xTup_a, xLst_a, xAnd_a, xOr_a, xIf_a, xChain_a, oNo_a, oAt_a, xSl_a, xCall_a, xSeq_a, xIt_a, xLc_a, gSet_a, gTupD_a, gsNil_a, gsCons_a, sNop_a, sBrk_a, sCnt_a, sSeq_a, sRet_a, sIf_a, sSet_a, sTgt_a, sAug_a, sApp_a, sExt_a, sPut_a, sPutK_a, pkO_s, sFor_a, sWhile_a, sPar_a, runD_a, b2_s, c2_s, sqO_nx, sqO_rt, sqO_bk, sqO_ct, ifO_t, ifO_f, stO_s, endO_nx, endO_rt, andO_t, andO_f, orO_t, orO_f, chO_s, chP_t, chP_f, slO_s, atO_i, lcO_s, forO_s, gsO_s, nxO_s, tgO_s, paO_s, apO_s, exO_s, plO_s, ptO_s, dB_b, tru_b, tru_n, tru_i, tru_l, tru_t, is_n, isn_n, nn_n, nn_i, nn_b, nn_t, nn_l, add_ii, add'_ii, sub_ii, neg_i, lt_ii, le_ii, gt_ii, ge_ii, ix_l, ix_t, ix_s, at0, at1, at2, sl_l, sl_t, len_l, len_t, len_s, abs_i, int_i, int_b, max_ii, min_ii, tup_s, lst_s, seq_l, seq_t, sum_s, wipe_n, wipe_c, mul_ii, fdiv_ii, mod_ii, add_ll, add_tt, setAll, mkT, mkL, oNot, List.getD_cons_zero, List.getD_cons_succ, List.length_cons, List.length_nil, List.set_cons_zero, List.set_cons_succ, List.map_cons, List.map_nil, List.replicate, List.cons_append, List.nil_append, List.append_nil, Option.bind_some, Option.map_some, List.all_cons, List.all_nil, if_true, if_false, reduceIte, Nat.reduceAdd, Nat.reduceSub, Nat.reduceLT, Nat.reduceLeDiff, Nat.reduceEqDiff, decide_true, decide_false, Bool.and_true, Bool.and_self, Bool.true_and, Bool.not_true, Bool.not_false, ne_eq, not_true_eq_false, not_false_eq_true, Nat.zero_add, Bool.false_eq_true, and_self, true_and, and_true, hlc]
abbrev Ky := Int × Pt
def mx (Q : List Pt) (p : Pt) : Int := (most (Q.map fun q => way p q)).getD 0
def sm (Q : List Pt) (p : Pt) : Int := (Q.map fun q => way p q).sum
def kyD (k : Ky) : D := .tuple [.int k.1, wD k.2]
theorem toD_ky (k : Ky) : Datum.toD k = kyD k := rfl
def bes (f : Pt → Int) (B : List Pt) : Option Ky := least (B.map fun p => (f p, p))
theorem min_box (f : Pt → Int) (B : List Pt) : bMinD [.list (B.map fun p => kyD (f p, p))] = (bes f B).map kyD := by
  have h := minD_l (α := Ky) (by decide) (x := .list (B.map fun p => kyD (f p, p))) (B.map fun p => (f p, p)) (by rw [seq_l, List.map_map]; rfl)
  exact h
theorem ways_eq (Q : List Pt) (x0 x2 : Option D) (p : Pt) : ∀ x4, lcL (gSet 4) tYesP (xCall (fun ds => if ds.length = 2 then (d_way_of) ds else none) (xCons (xVar 3) (xCons (xVar 4) xNil))) [x0, some (.tuple (Q.map wD)), x2, some (wD p), x4] (Q.map wD) = some ((Q.map fun q => way p q).map PyData.int) := fun x4 => by
  rw [List.map_map]
  refine lcL_map _ _ _ fun q _ => ?_
  have hw := way_of_eq p q
  generalize Q.map wD = QD at *
  generalize wD p = pd at *
  generalize wD q = qd at *
  simp -implicitDefEqProofs only [Function.comp, xVar_a, xC_a, xBin_a, xUn_a, tOf_a, tTru_a, tNotP_a, tAndP_a, tOrP_a, tyes_a, tno_a, tYesP_a, xNil_a, xCons_a, xTup_a, xLst_a, xAnd_a, xOr_a, xIf_a, xChain_a, oNo_a, oAt_a, xSl_a, xCall_a, xSeq_a, xIt_a, xLc_a, gSet_a, gTupD_a, gsNil_a, gsCons_a, sNop_a, sBrk_a, sCnt_a, sSeq_a, sRet_a, sIf_a, sSet_a, sTgt_a, sAug_a, sApp_a, sExt_a, sPut_a, sPutK_a, pkO_s, sFor_a, sWhile_a, sPar_a, runD_a, b2_s, c2_s, sqO_nx, sqO_rt, sqO_bk, sqO_ct, ifO_t, ifO_f, stO_s, endO_nx, endO_rt, andO_t, andO_f, orO_t, orO_f, chO_s, chP_t, chP_f, slO_s, atO_i, lcO_s, forO_s, gsO_s, nxO_s, tgO_s, paO_s, apO_s, exO_s, plO_s, ptO_s, dB_b, tru_b, tru_n, tru_i, tru_l, tru_t, is_n, isn_n, nn_n, nn_i, nn_b, nn_t, nn_l, add_ii, add'_ii, sub_ii, neg_i, lt_ii, le_ii, gt_ii, ge_ii, ix_l, ix_t, ix_s, at0, at1, at2, sl_l, sl_t, len_l, len_t, len_s, abs_i, int_i, int_b, max_ii, min_ii, tup_s, lst_s, seq_l, seq_t, sum_s, wipe_n, wipe_c, mul_ii, fdiv_ii, mod_ii, add_ll, add_tt, setAll, mkT, mkL, oNot, List.getD_cons_zero, List.getD_cons_succ, List.length_cons, List.length_nil, List.set_cons_zero, List.set_cons_succ, List.map_cons, List.map_nil, List.replicate, List.cons_append, List.nil_append, List.append_nil, Option.bind_some, Option.map_some, List.all_cons, List.all_nil, if_true, if_false, reduceIte, Nat.reduceAdd, Nat.reduceSub, Nat.reduceLT, Nat.reduceLeDiff, Nat.reduceEqDiff, decide_true, decide_false, Bool.and_true, Bool.and_self, Bool.true_and, Bool.not_true, Bool.not_false, ne_eq, not_true_eq_false, not_false_eq_true, Nat.zero_add, Bool.false_eq_true, and_self, true_and, and_true, hw]
theorem best_place_eq {Q : List Pt} (hQ : Q ≠ []) {a b : Int} {dx dy : Nat} (ha : 0 ≤ a ∧ a ≤ 3 ∧ dx ≤ 3) (hb : 0 ≤ b ∧ b ≤ 3 ∧ dy ≤ 3) {k : Ky} (hk : bes (mx Q) (bx a b dx dy) = some k) :
    d_best_place [boxD a b dx dy, .tuple (Q.map wD)] = some (.tuple [wD k.2, .int k.1]) := by
  have h1 := box_places_eq ha hb
  have c1 : ∀ x2 x3 x4, lcL (gSet 3) tYesP (xTup (xCons (xCall bMaxD (xCons (xLc (xSeq (xVar 1)) (gSet 4) tYesP (xCall (fun ds => if ds.length = 2 then (d_way_of) ds else none) (xCons (xVar 3) (xCons (xVar 4) xNil))) [4]) xNil)) (xCons (xVar 3) xNil))) [some (boxD a b dx dy), some (.tuple (Q.map wD)), x2, x3, x4] ((bx a b dx dy).map wD) = some ((bx a b dx dy).map fun p => kyD (mx Q p, p)) := fun x2 x3 x4 => by
    refine lcL_map _ _ _ fun p _ => ?_
    have h2 := ways_eq Q (some (boxD a b dx dy)) x2 p
    have h3 := maxD_ne (l := Q.map fun q => way p q) fun z => hQ (List.map_eq_nil_iff.mp z)
    have h4 : (most (Q.map fun q => way p q)).getD 0 = mx Q p := rfl
    rw [h4] at h3
    unfold kyD
    simp only []
    generalize (Q.map fun q => way p q).map PyData.int = WW at *
    generalize Q.map wD = QD at *
    generalize boxD a b dx dy = bd at *
    generalize wD p = pd at *
    generalize mx Q p = m at *
    simp -implicitDefEqProofs only [xVar_a, xC_a, xBin_a, xUn_a, tOf_a, tTru_a, tNotP_a, tAndP_a, tOrP_a, tyes_a, tno_a, tYesP_a, xNil_a, xCons_a, xTup_a, xLst_a, xAnd_a, xOr_a, xIf_a, xChain_a, oNo_a, oAt_a, xSl_a, xCall_a, xSeq_a, xIt_a, xLc_a, gSet_a, gTupD_a, gsNil_a, gsCons_a, sNop_a, sBrk_a, sCnt_a, sSeq_a, sRet_a, sIf_a, sSet_a, sTgt_a, sAug_a, sApp_a, sExt_a, sPut_a, sPutK_a, pkO_s, sFor_a, sWhile_a, sPar_a, runD_a, b2_s, c2_s, sqO_nx, sqO_rt, sqO_bk, sqO_ct, ifO_t, ifO_f, stO_s, endO_nx, endO_rt, andO_t, andO_f, orO_t, orO_f, chO_s, chP_t, chP_f, slO_s, atO_i, lcO_s, forO_s, gsO_s, nxO_s, tgO_s, paO_s, apO_s, exO_s, plO_s, ptO_s, dB_b, tru_b, tru_n, tru_i, tru_l, tru_t, is_n, isn_n, nn_n, nn_i, nn_b, nn_t, nn_l, add_ii, add'_ii, sub_ii, neg_i, lt_ii, le_ii, gt_ii, ge_ii, ix_l, ix_t, ix_s, at0, at1, at2, sl_l, sl_t, len_l, len_t, len_s, abs_i, int_i, int_b, max_ii, min_ii, tup_s, lst_s, seq_l, seq_t, sum_s, wipe_n, wipe_c, mul_ii, fdiv_ii, mod_ii, add_ll, add_tt, setAll, mkT, mkL, oNot, List.getD_cons_zero, List.getD_cons_succ, List.length_cons, List.length_nil, List.set_cons_zero, List.set_cons_succ, List.map_cons, List.map_nil, List.replicate, List.cons_append, List.nil_append, List.append_nil, Option.bind_some, Option.map_some, List.all_cons, List.all_nil, if_true, if_false, reduceIte, Nat.reduceAdd, Nat.reduceSub, Nat.reduceLT, Nat.reduceLeDiff, Nat.reduceEqDiff, decide_true, decide_false, Bool.and_true, Bool.and_self, Bool.true_and, Bool.not_true, Bool.not_false, ne_eq, not_true_eq_false, not_false_eq_true, Nat.zero_add, Bool.false_eq_true, and_self, true_and, and_true, h2, h3]
  have h5 := min_box (mx Q) (bx a b dx dy)
  rw [hk] at h5
  have h5 : bMinD [.list ((bx a b dx dy).map fun p => kyD (mx Q p, p))] = some (.tuple [.int k.1, wD k.2]) := h5
  generalize ((bx a b dx dy).map fun p => kyD (mx Q p, p)) = KD at *
  generalize (bx a b dx dy).map wD = BD at *
  generalize Q.map wD = QD at *
  generalize boxD a b dx dy = bd at *
  generalize wD k.2 = pd at *
  simp -implicitDefEqProofs only [d_best_place, g_best_place, xVar_a, xC_a, xBin_a, xUn_a, tOf_a, tTru_a, tNotP_a, tAndP_a, tOrP_a, tyes_a, tno_a, tYesP_a, xNil_a, xCons_a, xTup_a, xLst_a, xAnd_a, xOr_a, xIf_a, xChain_a, oNo_a, oAt_a, xSl_a, xCall_a, xSeq_a, xIt_a, xLc_a, gSet_a, gTupD_a, gsNil_a, gsCons_a, sNop_a, sBrk_a, sCnt_a, sSeq_a, sRet_a, sIf_a, sSet_a, sTgt_a, sAug_a, sApp_a, sExt_a, sPut_a, sPutK_a, pkO_s, sFor_a, sWhile_a, sPar_a, runD_a, b2_s, c2_s, sqO_nx, sqO_rt, sqO_bk, sqO_ct, ifO_t, ifO_f, stO_s, endO_nx, endO_rt, andO_t, andO_f, orO_t, orO_f, chO_s, chP_t, chP_f, slO_s, atO_i, lcO_s, forO_s, gsO_s, nxO_s, tgO_s, paO_s, apO_s, exO_s, plO_s, ptO_s, dB_b, tru_b, tru_n, tru_i, tru_l, tru_t, is_n, isn_n, nn_n, nn_i, nn_b, nn_t, nn_l, add_ii, add'_ii, sub_ii, neg_i, lt_ii, le_ii, gt_ii, ge_ii, ix_l, ix_t, ix_s, at0, at1, at2, sl_l, sl_t, len_l, len_t, len_s, abs_i, int_i, int_b, max_ii, min_ii, tup_s, lst_s, seq_l, seq_t, sum_s, wipe_n, wipe_c, mul_ii, fdiv_ii, mod_ii, add_ll, add_tt, setAll, mkT, mkL, oNot, List.getD_cons_zero, List.getD_cons_succ, List.length_cons, List.length_nil, List.set_cons_zero, List.set_cons_succ, List.map_cons, List.map_nil, List.replicate, List.cons_append, List.nil_append, List.append_nil, Option.bind_some, Option.map_some, List.all_cons, List.all_nil, if_true, if_false, reduceIte, Nat.reduceAdd, Nat.reduceSub, Nat.reduceLT, Nat.reduceLeDiff, Nat.reduceEqDiff, decide_true, decide_false, Bool.and_true, Bool.and_self, Bool.true_and, Bool.not_true, Bool.not_false, ne_eq, not_true_eq_false, not_false_eq_true, Nat.zero_add, Bool.false_eq_true, and_self, true_and, and_true, h1, c1, h5]
theorem middle_place_eq {Q : List Pt} {a b : Int} {dx dy : Nat} (ha : 0 ≤ a ∧ a ≤ 3 ∧ dx ≤ 3) (hb : 0 ≤ b ∧ b ≤ 3 ∧ dy ≤ 3) {k : Ky} (hk : bes (sm Q) (bx a b dx dy) = some k) :
    d_middle_place [boxD a b dx dy, .tuple (Q.map wD)] = some (.tuple [wD k.2, .int k.1]) := by
  have h1 := box_places_eq ha hb
  have c1 : ∀ x2 x3 x4, lcL (gSet 3) tYesP (xTup (xCons (xCall bSum (xCons (xLc (xSeq (xVar 1)) (gSet 4) tYesP (xCall (fun ds => if ds.length = 2 then (d_way_of) ds else none) (xCons (xVar 3) (xCons (xVar 4) xNil))) [4]) xNil)) (xCons (xVar 3) xNil))) [some (boxD a b dx dy), some (.tuple (Q.map wD)), x2, x3, x4] ((bx a b dx dy).map wD) = some ((bx a b dx dy).map fun p => kyD (sm Q p, p)) := fun x2 x3 x4 => by
    refine lcL_map _ _ _ fun p _ => ?_
    have h2 := ways_eq Q (some (boxD a b dx dy)) x2 p
    have h3 : asInts ((Q.map fun q => way p q).map PyData.int) = some (Q.map fun q => way p q) := asInts_map _
    have h4 : (Q.map fun q => way p q).sum = sm Q p := rfl
    unfold kyD
    simp only []
    generalize hW : (Q.map fun q => way p q).map PyData.int = WW at *
    generalize Q.map wD = QD at *
    generalize boxD a b dx dy = bd at *
    generalize wD p = pd at *
    simp -implicitDefEqProofs only [xVar_a, xC_a, xBin_a, xUn_a, tOf_a, tTru_a, tNotP_a, tAndP_a, tOrP_a, tyes_a, tno_a, tYesP_a, xNil_a, xCons_a, xTup_a, xLst_a, xAnd_a, xOr_a, xIf_a, xChain_a, oNo_a, oAt_a, xSl_a, xCall_a, xSeq_a, xIt_a, xLc_a, gSet_a, gTupD_a, gsNil_a, gsCons_a, sNop_a, sBrk_a, sCnt_a, sSeq_a, sRet_a, sIf_a, sSet_a, sTgt_a, sAug_a, sApp_a, sExt_a, sPut_a, sPutK_a, pkO_s, sFor_a, sWhile_a, sPar_a, runD_a, b2_s, c2_s, sqO_nx, sqO_rt, sqO_bk, sqO_ct, ifO_t, ifO_f, stO_s, endO_nx, endO_rt, andO_t, andO_f, orO_t, orO_f, chO_s, chP_t, chP_f, slO_s, atO_i, lcO_s, forO_s, gsO_s, nxO_s, tgO_s, paO_s, apO_s, exO_s, plO_s, ptO_s, dB_b, tru_b, tru_n, tru_i, tru_l, tru_t, is_n, isn_n, nn_n, nn_i, nn_b, nn_t, nn_l, add_ii, add'_ii, sub_ii, neg_i, lt_ii, le_ii, gt_ii, ge_ii, ix_l, ix_t, ix_s, at0, at1, at2, sl_l, sl_t, len_l, len_t, len_s, abs_i, int_i, int_b, max_ii, min_ii, tup_s, lst_s, seq_l, seq_t, sum_s, wipe_n, wipe_c, mul_ii, fdiv_ii, mod_ii, add_ll, add_tt, setAll, mkT, mkL, oNot, List.getD_cons_zero, List.getD_cons_succ, List.length_cons, List.length_nil, List.set_cons_zero, List.set_cons_succ, List.map_cons, List.map_nil, List.replicate, List.cons_append, List.nil_append, List.append_nil, Option.bind_some, Option.map_some, List.all_cons, List.all_nil, if_true, if_false, reduceIte, Nat.reduceAdd, Nat.reduceSub, Nat.reduceLT, Nat.reduceLeDiff, Nat.reduceEqDiff, decide_true, decide_false, Bool.and_true, Bool.and_self, Bool.true_and, Bool.not_true, Bool.not_false, ne_eq, not_true_eq_false, not_false_eq_true, Nat.zero_add, Bool.false_eq_true, and_self, true_and, and_true, h2, h3, h4]
  have h5 := min_box (sm Q) (bx a b dx dy)
  rw [hk] at h5
  have h5 : bMinD [.list ((bx a b dx dy).map fun p => kyD (sm Q p, p))] = some (.tuple [.int k.1, wD k.2]) := h5
  generalize ((bx a b dx dy).map fun p => kyD (sm Q p, p)) = KD at *
  generalize (bx a b dx dy).map wD = BD at *
  generalize Q.map wD = QD at *
  generalize boxD a b dx dy = bd at *
  generalize wD k.2 = pd at *
  simp -implicitDefEqProofs only [d_middle_place, g_middle_place, xVar_a, xC_a, xBin_a, xUn_a, tOf_a, tTru_a, tNotP_a, tAndP_a, tOrP_a, tyes_a, tno_a, tYesP_a, xNil_a, xCons_a, xTup_a, xLst_a, xAnd_a, xOr_a, xIf_a, xChain_a, oNo_a, oAt_a, xSl_a, xCall_a, xSeq_a, xIt_a, xLc_a, gSet_a, gTupD_a, gsNil_a, gsCons_a, sNop_a, sBrk_a, sCnt_a, sSeq_a, sRet_a, sIf_a, sSet_a, sTgt_a, sAug_a, sApp_a, sExt_a, sPut_a, sPutK_a, pkO_s, sFor_a, sWhile_a, sPar_a, runD_a, b2_s, c2_s, sqO_nx, sqO_rt, sqO_bk, sqO_ct, ifO_t, ifO_f, stO_s, endO_nx, endO_rt, andO_t, andO_f, orO_t, orO_f, chO_s, chP_t, chP_f, slO_s, atO_i, lcO_s, forO_s, gsO_s, nxO_s, tgO_s, paO_s, apO_s, exO_s, plO_s, ptO_s, dB_b, tru_b, tru_n, tru_i, tru_l, tru_t, is_n, isn_n, nn_n, nn_i, nn_b, nn_t, nn_l, add_ii, add'_ii, sub_ii, neg_i, lt_ii, le_ii, gt_ii, ge_ii, ix_l, ix_t, ix_s, at0, at1, at2, sl_l, sl_t, len_l, len_t, len_s, abs_i, int_i, int_b, max_ii, min_ii, tup_s, lst_s, seq_l, seq_t, sum_s, wipe_n, wipe_c, mul_ii, fdiv_ii, mod_ii, add_ll, add_tt, setAll, mkT, mkL, oNot, List.getD_cons_zero, List.getD_cons_succ, List.length_cons, List.length_nil, List.set_cons_zero, List.set_cons_succ, List.map_cons, List.map_nil, List.replicate, List.cons_append, List.nil_append, List.append_nil, Option.bind_some, Option.map_some, List.all_cons, List.all_nil, if_true, if_false, reduceIte, Nat.reduceAdd, Nat.reduceSub, Nat.reduceLT, Nat.reduceLeDiff, Nat.reduceEqDiff, decide_true, decide_false, Bool.and_true, Bool.and_self, Bool.true_and, Bool.not_true, Bool.not_false, ne_eq, not_true_eq_false, not_false_eq_true, Nat.zero_add, Bool.false_eq_true, and_self, true_and, and_true, h1, c1, h5]
end K20

namespace K20
open PySem PySem.Spec PyProof.Rows L2 Pm
open PySem.W (Datum Tup)
theorem lways_eq (Q : List Pt) (x1 x3 x4 x6 x7 x8 : Option D) (x y : Int) : ∀ x9, lcL (gSet 9) tYesP (xCall (fun ds => if ds.length = 2 then (d__law_way) ds else none) (xCons (xTup (xCons (xVar 2) (xCons (xVar 5) xNil))) (xCons (xVar 9) xNil))) [some (.tuple (Q.map wD)), x1, some (.int x), x3, x4, some (.int y), x6, x7, x8, x9] (Q.map wD) = some ((Q.map fun q => way (x, y) q).map PyData.int) := fun x9 => by
  rw [List.map_map]
  refine lcL_map _ _ _ fun q _ => ?_
  have hw : d__law_way [.tuple [.int x, .int y], wD q] = some (.int (way (x, y) q)) := law_way_eq (x, y) q
  generalize Q.map wD = QD at *
  generalize wD q = qd at *
  simp -implicitDefEqProofs only [Function.comp, xVar_a, xC_a, xBin_a, xUn_a, tOf_a, tTru_a, tNotP_a, tAndP_a, tOrP_a, tyes_a, tno_a, tYesP_a, xNil_a, xCons_a, xTup_a, xLst_a, xAnd_a, xOr_a, xIf_a, xChain_a, oNo_a, oAt_a, xSl_a, xCall_a, xSeq_a, xIt_a, xLc_a, gSet_a, gTupD_a, gsNil_a, gsCons_a, sNop_a, sBrk_a, sCnt_a, sSeq_a, sRet_a, sIf_a, sSet_a, sTgt_a, sAug_a, sApp_a, sExt_a, sPut_a, sPutK_a, pkO_s, sFor_a, sWhile_a, sPar_a, runD_a, b2_s, c2_s, sqO_nx, sqO_rt, sqO_bk, sqO_ct, ifO_t, ifO_f, stO_s, endO_nx, endO_rt, andO_t, andO_f, orO_t, orO_f, chO_s, chP_t, chP_f, slO_s, atO_i, lcO_s, forO_s, gsO_s, nxO_s, tgO_s, paO_s, apO_s, exO_s, plO_s, ptO_s, dB_b, tru_b, tru_n, tru_i, tru_l, tru_t, is_n, isn_n, nn_n, nn_i, nn_b, nn_t, nn_l, add_ii, add'_ii, sub_ii, neg_i, lt_ii, le_ii, gt_ii, ge_ii, ix_l, ix_t, ix_s, at0, at1, at2, sl_l, sl_t, len_l, len_t, len_s, abs_i, int_i, int_b, max_ii, min_ii, tup_s, lst_s, seq_l, seq_t, sum_s, wipe_n, wipe_c, mul_ii, fdiv_ii, mod_ii, add_ll, add_tt, setAll, mkT, mkL, oNot, List.getD_cons_zero, List.getD_cons_succ, List.length_cons, List.length_nil, List.set_cons_zero, List.set_cons_succ, List.map_cons, List.map_nil, List.replicate, List.cons_append, List.nil_append, List.append_nil, Option.bind_some, Option.map_some, List.all_cons, List.all_nil, if_true, if_false, reduceIte, Nat.reduceAdd, Nat.reduceSub, Nat.reduceLT, Nat.reduceLeDiff, Nat.reduceEqDiff, decide_true, decide_false, Bool.and_true, Bool.and_self, Bool.true_and, Bool.not_true, Bool.not_false, ne_eq, not_true_eq_false, not_false_eq_true, Nat.zero_add, Bool.false_eq_true, and_self, true_and, and_true, hw]
theorem box_in {Q : List Pt} (hQ : Q ≠ []) (x1 x6 x7 : Option D) (x b : Int) (m : Nat) (acc : List Pt) (hm : m ≤ 4) (hl : acc.length ≤ 100) (x5 x8 : Option D) :
    ∃ y5 y8, forL (gSet 5) l1__law_boxed ((List.range m).map fun j => .int (b + (j : Nat))) [some (.tuple (Q.map wD)), x1, some (.int x), some (.list (acc.map fun p => kyD (mx Q p, p))), some (.list (acc.map fun p => kyD (sm Q p, p))), x5, x6, x7, x8, none] =
      some (.nx [some (.tuple (Q.map wD)), x1, some (.int x), some (.list ((acc ++ (List.range m).map fun j => (x, b + (j : Nat))).map fun p => kyD (mx Q p, p))), some (.list ((acc ++ (List.range m).map fun j => (x, b + (j : Nat))).map fun p => kyD (sm Q p, p))), y5, x6, x7, y8, none]) := by
  obtain ⟨ρ', e, h⟩ := forL_inv (g := gSet 5) (b := l1__law_boxed) (fun j : Nat => PyData.int (b + (j : Nat)))
    (fun pre rest ρ => pre ++ rest = List.range m ∧ ∃ y5 y8, ρ = [some (.tuple (Q.map wD)), x1, some (.int x), some (.list ((acc ++ pre.map fun j : Nat => (x, b + (j : Nat))).map fun p => kyD (mx Q p, p))), some (.list ((acc ++ pre.map fun j : Nat => (x, b + (j : Nat))).map fun p => kyD (sm Q p, p))), y5, x6, x7, y8, none]) (fun pre j rest ρ ⟨hq, y5, y8, e⟩ => by
      subst e
      have hpl : pre.length ≤ 4 := by
        have := congrArg List.length hq
        simp at this
        omega
      have l1 : ((acc ++ pre.map fun j : Nat => (x, b + (j : Nat))).map fun p => kyD (mx Q p, p)).length < 16777216 := by
        rw [List.length_map, List.length_append, List.length_map]
        omega
      have l2 : ((acc ++ pre.map fun j : Nat => (x, b + (j : Nat))).map fun p => kyD (sm Q p, p)).length < 16777216 := by
        rw [List.length_map, List.length_append, List.length_map]
        omega
      have h2 := fun x3 x4 x8 => lways_eq Q x1 x3 x4 x6 x7 x8 x (b + (j : Nat))
      have h3 := maxD_ne (l := Q.map fun q => way (x, b + (j : Nat)) q) fun z => hQ (List.map_eq_nil_iff.mp z)
      have h4 : (most (Q.map fun q => way (x, b + (j : Nat)) q)).getD 0 = mx Q (x, b + (j : Nat)) := rfl
      rw [h4] at h3
      have h5 : asInts ((Q.map fun q => way (x, b + (j : Nat)) q).map PyData.int) = some (Q.map fun q => way (x, b + (j : Nat)) q) := asInts_map _
      have h6 : (Q.map fun q => way (x, b + (j : Nat)) q).sum = sm Q (x, b + (j : Nat)) := rfl
      refine ⟨[some (.tuple (Q.map wD)), x1, some (.int x), some (.list ((acc ++ pre.map fun j : Nat => (x, b + (j : Nat))).map fun p => kyD (mx Q p, p))), some (.list ((acc ++ pre.map fun j : Nat => (x, b + (j : Nat))).map fun p => kyD (sm Q p, p))), some (.int (b + (j : Nat))), x6, x7, y8, none], _, rfl, .inl ?_, by rw [List.append_assoc]; exact hq, some (.int (b + (j : Nat))), some (.list ((Q.map fun q => way (x, b + (j : Nat)) q).map PyData.int)), rfl⟩
      rw [List.map_append (l₁ := pre), ← List.append_assoc, List.map_append (l₁ := acc ++ pre.map fun j : Nat => (x, b + (j : Nat))), List.map_append (l₁ := acc ++ pre.map fun j : Nat => (x, b + (j : Nat)))]
      have k1 : ([j].map fun j : Nat => (x, b + (j : Nat))).map (fun p => kyD (mx Q p, p)) = [.tuple [.int (mx Q (x, b + (j : Nat))), .tuple [.int x, .int (b + (j : Nat))]]] := rfl
      have k2 : ([j].map fun j : Nat => (x, b + (j : Nat))).map (fun p => kyD (sm Q p, p)) = [.tuple [.int (sm Q (x, b + (j : Nat))), .tuple [.int x, .int (b + (j : Nat))]]] := rfl
      rw [k1, k2]
      generalize ((acc ++ pre.map fun j : Nat => (x, b + (j : Nat))).map fun p => kyD (mx Q p, p)) = L1 at *
      generalize ((acc ++ pre.map fun j : Nat => (x, b + (j : Nat))).map fun p => kyD (sm Q p, p)) = L2 at *
      generalize mx Q (x, b + (j : Nat)) = M at *
      generalize Q.map wD = QD at *
      generalize hWW : (Q.map fun q => way (x, b + (j : Nat)) q).map PyData.int = WW at *
      simp -implicitDefEqProofs only [l1__law_boxed, xVar_a, xC_a, xBin_a, xUn_a, tOf_a, tTru_a, tNotP_a, tAndP_a, tOrP_a, tyes_a, tno_a, tYesP_a, xNil_a, xCons_a, xTup_a, xLst_a, xAnd_a, xOr_a, xIf_a, xChain_a, oNo_a, oAt_a, xSl_a, xCall_a, xSeq_a, xIt_a, xLc_a, gSet_a, gTupD_a, gsNil_a, gsCons_a, sNop_a, sBrk_a, sCnt_a, sSeq_a, sRet_a, sIf_a, sSet_a, sTgt_a, sAug_a, sApp_a, sExt_a, sPut_a, sPutK_a, pkO_s, sFor_a, sWhile_a, sPar_a, runD_a, b2_s, c2_s, sqO_nx, sqO_rt, sqO_bk, sqO_ct, ifO_t, ifO_f, stO_s, endO_nx, endO_rt, andO_t, andO_f, orO_t, orO_f, chO_s, chP_t, chP_f, slO_s, atO_i, lcO_s, forO_s, gsO_s, nxO_s, tgO_s, paO_s, apO_s, exO_s, plO_s, ptO_s, dB_b, tru_b, tru_n, tru_i, tru_l, tru_t, is_n, isn_n, nn_n, nn_i, nn_b, nn_t, nn_l, add_ii, add'_ii, sub_ii, neg_i, lt_ii, le_ii, gt_ii, ge_ii, ix_l, ix_t, ix_s, at0, at1, at2, sl_l, sl_t, len_l, len_t, len_s, abs_i, int_i, int_b, max_ii, min_ii, tup_s, lst_s, seq_l, seq_t, sum_s, wipe_n, wipe_c, mul_ii, fdiv_ii, mod_ii, add_ll, add_tt, setAll, mkT, mkL, oNot, List.getD_cons_zero, List.getD_cons_succ, List.length_cons, List.length_nil, List.set_cons_zero, List.set_cons_succ, List.map_cons, List.map_nil, List.replicate, List.cons_append, List.nil_append, List.append_nil, Option.bind_some, Option.map_some, List.all_cons, List.all_nil, if_true, if_false, reduceIte, Nat.reduceAdd, Nat.reduceSub, Nat.reduceLT, Nat.reduceLeDiff, Nat.reduceEqDiff, decide_true, decide_false, Bool.and_true, Bool.and_self, Bool.true_and, Bool.not_true, Bool.not_false, ne_eq, not_true_eq_false, not_false_eq_true, Nat.zero_add, Bool.false_eq_true, and_self, true_and, and_true, h2, h3, h5, h6, l1, l2]) (List.range m) [] [some (.tuple (Q.map wD)), x1, some (.int x), some (.list (acc.map fun p => kyD (mx Q p, p))), some (.list (acc.map fun p => kyD (sm Q p, p))), x5, x6, x7, x8, none] ⟨rfl, x5, x8, by rw [List.map_nil, List.append_nil]⟩
  obtain ⟨_, y5, y8, e'⟩ := h
  subst e'
  exact ⟨y5, y8, e⟩
theorem box_out {Q : List Pt} (hQ : Q ≠ []) {a b : Int} {dx dy : Nat} (ha : 0 ≤ a ∧ a ≤ 3 ∧ dx ≤ 3) (hb : 0 ≤ b ∧ b ≤ 3 ∧ dy ≤ 3) :
    ∃ y2 y5 y8, forL (gSet 2) l2__law_boxed ((List.range (dx + 1)).map fun i => .int (a + (i : Nat))) [some (.tuple (Q.map wD)), some (boxD a b dx dy), none, some (.list []), some (.list []), none, none, none, none, none] =
      some (.nx [some (.tuple (Q.map wD)), some (boxD a b dx dy), y2, some (.list ((bx a b dx dy).map fun p => kyD (mx Q p, p))), some (.list ((bx a b dx dy).map fun p => kyD (sm Q p, p))), y5, none, none, y8, none]) := by
  have r2 := rg_box b dy hb
  have h3 := at3
  obtain ⟨ρ', e, h⟩ := forL_inv (g := gSet 2) (b := l2__law_boxed) (fun i : Nat => PyData.int (a + (i : Nat)))
    (fun pre rest ρ => pre ++ rest = List.range (dx + 1) ∧ ∃ y2 y5 y8, ρ = [some (.tuple (Q.map wD)), some (boxD a b dx dy), y2, some (.list ((pre.flatMap fun i : Nat => (List.range (dy + 1)).map fun j => (a + (i : Nat), b + (j : Nat))).map fun p => kyD (mx Q p, p))), some (.list ((pre.flatMap fun i : Nat => (List.range (dy + 1)).map fun j => (a + (i : Nat), b + (j : Nat))).map fun p => kyD (sm Q p, p))), y5, none, none, y8, none]) (fun pre i rest ρ ⟨hq, y2, y5, y8, e⟩ => by
      subst e
      have hpl : pre.length ≤ 4 := by
        have := congrArg List.length hq
        simp at this
        omega
      have hfl := fl_len (fun i : Nat => (List.range (dy + 1)).map fun j : Nat => (a + (i : Nat), b + (j : Nat))) (dy + 1) pre fun x _ => by simp
      have h16 : pre.length * (dy + 1) ≤ 4 * 4 := Nat.mul_le_mul (by omega) (by omega)
      obtain ⟨z5, z8, hin⟩ := box_in hQ (some (boxD a b dx dy)) none none (a + (i : Nat)) b (dy + 1) (pre.flatMap fun i : Nat => (List.range (dy + 1)).map fun j => (a + (i : Nat), b + (j : Nat))) (by omega) (by omega) y5 y8
      refine ⟨[some (.tuple (Q.map wD)), some (boxD a b dx dy), some (.int (a + (i : Nat))), some (.list ((pre.flatMap fun i : Nat => (List.range (dy + 1)).map fun j => (a + (i : Nat), b + (j : Nat))).map fun p => kyD (mx Q p, p))), some (.list ((pre.flatMap fun i : Nat => (List.range (dy + 1)).map fun j => (a + (i : Nat), b + (j : Nat))).map fun p => kyD (sm Q p, p))), y5, none, none, y8, none], _, rfl, .inl ?_, by rw [List.append_assoc]; exact hq, some (.int (a + (i : Nat))), z5, z8, rfl⟩
      rw [List.flatMap_append, List.flatMap_cons, List.flatMap_nil, List.append_nil]
      generalize ((pre.flatMap fun i : Nat => (List.range (dy + 1)).map fun j => (a + (i : Nat), b + (j : Nat))) ++ (List.range (dy + 1)).map fun j => (a + (i : Nat), b + (j : Nat))) = A2 at *
      generalize (pre.flatMap fun i : Nat => (List.range (dy + 1)).map fun j => (a + (i : Nat), b + (j : Nat))) = A1 at *
      generalize (A1.map fun p => kyD (mx Q p, p)) = L1 at *
      generalize (A1.map fun p => kyD (sm Q p, p)) = L2 at *
      generalize (A2.map fun p => kyD (mx Q p, p)) = L3 at *
      generalize (A2.map fun p => kyD (sm Q p, p)) = L4 at *
      generalize Q.map wD = QD at *
      generalize ((List.range (dy + 1)).map fun j => PyData.int (b + (j : Nat))) = RY at *
      unfold boxD at *
      simp -implicitDefEqProofs only [l2__law_boxed, xVar_a, xC_a, xBin_a, xUn_a, tOf_a, tTru_a, tNotP_a, tAndP_a, tOrP_a, tyes_a, tno_a, tYesP_a, xNil_a, xCons_a, xTup_a, xLst_a, xAnd_a, xOr_a, xIf_a, xChain_a, oNo_a, oAt_a, xSl_a, xCall_a, xSeq_a, xIt_a, xLc_a, gSet_a, gTupD_a, gsNil_a, gsCons_a, sNop_a, sBrk_a, sCnt_a, sSeq_a, sRet_a, sIf_a, sSet_a, sTgt_a, sAug_a, sApp_a, sExt_a, sPut_a, sPutK_a, pkO_s, sFor_a, sWhile_a, sPar_a, runD_a, b2_s, c2_s, sqO_nx, sqO_rt, sqO_bk, sqO_ct, ifO_t, ifO_f, stO_s, endO_nx, endO_rt, andO_t, andO_f, orO_t, orO_f, chO_s, chP_t, chP_f, slO_s, atO_i, lcO_s, forO_s, gsO_s, nxO_s, tgO_s, paO_s, apO_s, exO_s, plO_s, ptO_s, dB_b, tru_b, tru_n, tru_i, tru_l, tru_t, is_n, isn_n, nn_n, nn_i, nn_b, nn_t, nn_l, add_ii, add'_ii, sub_ii, neg_i, lt_ii, le_ii, gt_ii, ge_ii, ix_l, ix_t, ix_s, at0, at1, at2, sl_l, sl_t, len_l, len_t, len_s, abs_i, int_i, int_b, max_ii, min_ii, tup_s, lst_s, seq_l, seq_t, sum_s, wipe_n, wipe_c, mul_ii, fdiv_ii, mod_ii, add_ll, add_tt, setAll, mkT, mkL, oNot, List.getD_cons_zero, List.getD_cons_succ, List.length_cons, List.length_nil, List.set_cons_zero, List.set_cons_succ, List.map_cons, List.map_nil, List.replicate, List.cons_append, List.nil_append, List.append_nil, Option.bind_some, Option.map_some, List.all_cons, List.all_nil, if_true, if_false, reduceIte, Nat.reduceAdd, Nat.reduceSub, Nat.reduceLT, Nat.reduceLeDiff, Nat.reduceEqDiff, decide_true, decide_false, Bool.and_true, Bool.and_self, Bool.true_and, Bool.not_true, Bool.not_false, ne_eq, not_true_eq_false, not_false_eq_true, Nat.zero_add, Bool.false_eq_true, and_self, true_and, and_true, h3, r2, hin]) (List.range (dx + 1)) [] [some (.tuple (Q.map wD)), some (boxD a b dx dy), none, some (.list []), some (.list []), none, none, none, none, none] ⟨rfl, none, none, none, rfl⟩
  obtain ⟨_, y2, y5, y8, e'⟩ := h
  subst e'
  exact ⟨y2, y5, y8, e⟩
theorem ofLen1 : ofLen 1 1 = [[0]] := by decide
theorem rw_one (p : Pt) (Q : List Pt) : rw_ [p] Q [0] = mx Q p := by
  unfold rw_ mx
  have e : (fun q => mw [p] [0] q) = fun q => way p q := by
    funext q
    rfl
  rw [e]
theorem law_boxed_eq {Q : List Pt} (hQ : Q ≠ []) {a b : Int} {dx dy : Nat} (ha : 0 ≤ a ∧ a ≤ 3 ∧ dx ≤ 3) (hb : 0 ≤ b ∧ b ≤ 3 ∧ dy ≤ 3) :
    d__law_boxed [.tuple (Q.map wD), boxD a b dx dy] = some (.bool true) := by
  have r1 := rg_box a dx ha
  obtain ⟨y2, y5, y8, lp⟩ := box_out hQ ha hb
  have hne : ∀ f : Pt → Int, ∃ k, bes f (bx a b dx dy) = some k ∧ f k.2 = k.1 := fun f => by
    cases e : bes f (bx a b dx dy) with
    | none =>
      have h := List.map_eq_nil_iff.mp (least_none.mp e)
      have hm : (a + (0 : Nat), b + (0 : Nat)) ∈ bx a b dx dy := List.mem_flatMap.mpr ⟨0, List.mem_range.mpr (by omega), List.mem_map.mpr ⟨0, List.mem_range.mpr (by omega), rfl⟩⟩
      rw [h] at hm
      cases hm
    | some k =>
      obtain ⟨p, hp, rfl⟩ := List.mem_map.mp (least_iff.mp e).1
      exact ⟨_, rfl, rfl⟩
  obtain ⟨k1, b1, b1'⟩ := hne (mx Q)
  obtain ⟨k2, b2, b2'⟩ := hne (sm Q)
  have s1 := best_place_eq hQ ha hb b1
  have s2 := middle_place_eq (Q := Q) ha hb b2
  have m1 := min_box (mx Q) (bx a b dx dy)
  have m2 := min_box (sm Q) (bx a b dx dy)
  rw [b1] at m1
  rw [b2] at m2
  have m1 : bMinD [.list ((bx a b dx dy).map fun p => kyD (mx Q p, p))] = some (.tuple [.int k1.1, wD k1.2]) := m1
  have m2 : bMinD [.list ((bx a b dx dy).map fun p => kyD (sm Q p, p))] = some (.tuple [.int k2.1, wD k2.2]) := m2
  have lw : ∀ p : Pt, d__law_like 7 [wD p, wD p] = some (.bool true) := fun p => like_tup 6 _ (by simp only [List.length_cons, List.length_nil]; omega) fun x hx => by
    rcases List.mem_cons.mp hx with rfl | hx
    · exact like_int 5 _
    · rcases List.mem_cons.mp hx with rfl | hx
      · exact like_int 5 _
      · cases hx
  have lk : ∀ k : Ky, d__law_like 8 [.tuple [wD k.2, .int k.1], .tuple [wD k.2, .int k.1]] = some (.bool true) := fun k => like_tup 7 _ (by simp only [List.length_cons, List.length_nil]; omega) fun x hx => by
    rcases List.mem_cons.mp hx with rfl | hx
    · exact lw _
    · rcases List.mem_cons.mp hx with rfl | hx
      · exact like_int 6 _
      · cases hx
  have n1 := reach_needed_eq [k1.2] Q (n := 1) (by decide) (by simp) (by simp)
  rw [show ([k1.2] : List Pt).length = 1 from rfl, ofLen1] at n1
  have n2 : ((least (([[0]] : List (List Nat)).map (rk [k1.2] Q))).elim .none Datum.toD : D) = .tuple [.int k1.1, .tuple [.int 0]] := by
    show Datum.toD (rk [k1.2] Q [0]) = _
    rw [toD_rk, rkD, rw_one, b1']
    rfl
  rw [n2] at n1
  have n1 : d_reach_needed [.tuple [wD k1.2], .int 1, .tuple (Q.map wD)] = some (.tuple [.int k1.1, .tuple [.int 0]]) := n1
  have n3 : d__law_like 8 [.tuple [.int k1.1, .tuple [.int 0]], .tuple [.int k1.1, .tuple [.int 0]]] = some (.bool true) := like_tup 7 _ (by simp only [List.length_cons, List.length_nil]; omega) fun x hx => by
    rcases List.mem_cons.mp hx with rfl | hx
    · exact like_int 6 _
    · rcases List.mem_cons.mp hx with rfl | hx
      · exact like_oD 5 [0] (by decide)
      · cases hx
  have lk1 := lk k1
  have lk2 := lk k2
  clear b1 b2 n2 lk b1' b2'
  have hbx0 : ∀ x : D, oIx (boxD a b dx dy) (.int 0) = some (.int a) := fun _ => rfl
  have hbx0 := hbx0 .none
  have hbx2 : oIx (boxD a b dx dy) (.int 2) = some (.int (a + (dx : Nat))) := rfl
  generalize ((bx a b dx dy).map fun p => kyD (mx Q p, p)) = KD at *
  generalize ((bx a b dx dy).map fun p => kyD (sm Q p, p)) = SD at *
  generalize ((List.range (dx + 1)).map fun i => PyData.int (a + (i : Nat))) = RX at *
  generalize Q.map wD = QD at *
  generalize boxD a b dx dy = bd at *
  generalize wD k1.2 = p1 at *
  generalize wD k2.2 = p2 at *
  simp -implicitDefEqProofs only [d__law_boxed, g__law_boxed, xVar_a, xC_a, xBin_a, xUn_a, tOf_a, tTru_a, tNotP_a, tAndP_a, tOrP_a, tyes_a, tno_a, tYesP_a, xNil_a, xCons_a, xTup_a, xLst_a, xAnd_a, xOr_a, xIf_a, xChain_a, oNo_a, oAt_a, xSl_a, xCall_a, xSeq_a, xIt_a, xLc_a, gSet_a, gTupD_a, gsNil_a, gsCons_a, sNop_a, sBrk_a, sCnt_a, sSeq_a, sRet_a, sIf_a, sSet_a, sTgt_a, sAug_a, sApp_a, sExt_a, sPut_a, sPutK_a, pkO_s, sFor_a, sWhile_a, sPar_a, runD_a, b2_s, c2_s, sqO_nx, sqO_rt, sqO_bk, sqO_ct, ifO_t, ifO_f, stO_s, endO_nx, endO_rt, andO_t, andO_f, orO_t, orO_f, chO_s, chP_t, chP_f, slO_s, atO_i, lcO_s, forO_s, gsO_s, nxO_s, tgO_s, paO_s, apO_s, exO_s, plO_s, ptO_s, dB_b, tru_b, tru_n, tru_i, tru_l, tru_t, is_n, isn_n, nn_n, nn_i, nn_b, nn_t, nn_l, add_ii, add'_ii, sub_ii, neg_i, lt_ii, le_ii, gt_ii, ge_ii, ix_l, ix_t, ix_s, at0, at1, at2, sl_l, sl_t, len_l, len_t, len_s, abs_i, int_i, int_b, max_ii, min_ii, tup_s, lst_s, seq_l, seq_t, sum_s, wipe_n, wipe_c, mul_ii, fdiv_ii, mod_ii, add_ll, add_tt, setAll, mkT, mkL, oNot, List.getD_cons_zero, List.getD_cons_succ, List.length_cons, List.length_nil, List.set_cons_zero, List.set_cons_succ, List.map_cons, List.map_nil, List.replicate, List.cons_append, List.nil_append, List.append_nil, Option.bind_some, Option.map_some, List.all_cons, List.all_nil, if_true, if_false, reduceIte, Nat.reduceAdd, Nat.reduceSub, Nat.reduceLT, Nat.reduceLeDiff, Nat.reduceEqDiff, decide_true, decide_false, Bool.and_true, Bool.and_self, Bool.true_and, Bool.not_true, Bool.not_false, ne_eq, not_true_eq_false, not_false_eq_true, Nat.zero_add, Bool.false_eq_true, and_self, true_and, and_true, hbx0, hbx2, r1, lp, m1, m2, s1, lk1, s2, lk2, n1, n3]
end K20

namespace K20
open PySem PySem.Spec PyProof.Rows L2 Pm
open PySem.W (Datum Tup)
def wl (r : List Int) (n : Int) (k : Nat) : Int := if (r.getD (12 + k) 0).fmod 7 = 0 then n - 1 + ((r.getD (12 + k) 0).fdiv 7).fmod 4 else 1 + (r.getD (7 + k) 0).fmod ((n + 3).fdiv 2)
def wt (r : List Int) (n : Int) (k : Nat) : Wt := ((r.getD (2 + k) 0).fmod n, wl r n k)
theorem law_loop {r : List Int} (hr : r.length = 62) {n : Int} (hn : 3 ≤ n ∧ n ≤ 8) {m : Nat} (hm : m ≤ 5) (x0 x4 x5 x6 x7 x10 x11 : Option D) :
    ∃ y2 y9, forL (gSet 2) l1_law ((List.range m).map fun k : Nat => PyData.int (k : Nat)) [x0, some (.list (r.map PyData.int)), none, some (.list []), x4, x5, x6, x7, some (.int n), none, x10, x11] =
      some (.nx [x0, some (.list (r.map PyData.int)), y2, some (.list ((List.range m).map fun k => wD (wt r n k))), x4, x5, x6, x7, some (.int n), y9, x10, x11]) := by
  have n0 : n ≠ 0 := by omega
  have n7 : (7 : Int) ≠ 0 := by decide
  have n4 : (4 : Int) ≠ 0 := by decide
  have hd : 3 ≤ (n + 3).fdiv 2 := by
    rw [Int.fdiv_eq_ediv_of_nonneg _ (by decide)]
    omega
  have nd : (n + 3).fdiv 2 ≠ 0 := by omega
  have d2 := divOk_lit (b := 2) (by decide) Sm.lit
  have d7 := divOk_lit (b := 7) (by decide) Sm.lit
  obtain ⟨ρ', e, h⟩ := forL_inv (g := gSet 2) (b := l1_law) (fun k : Nat => PyData.int (k : Nat))
    (fun pre rest ρ => pre ++ rest = List.range m ∧ ∃ y2 y9, ρ = [x0, some (.list (r.map PyData.int)), y2, some (.list (pre.map fun k => wD (wt r n k))), x4, x5, x6, x7, some (.int n), y9, x10, x11]) (fun pre k rest ρ ⟨hq, y2, y9, e⟩ => by
      subst e
      have hk : k < m := List.mem_range.mp (by rw [← hq]; simp)
      have hpl : pre.length ≤ 5 := by
        have := congrArg List.length hq
        simp at this
        omega
      have l1 : (pre.map fun k => wD (wt r n k)).length < 16777216 := by
        rw [List.length_map]
        omega
      have i1 : atI (r.map PyData.int) (7 + (k : Nat)) = some (.int (r.getD (7 + k) 0)) := row_off r hr 7 k (by omega)
      have i2 : atI (r.map PyData.int) (12 + (k : Nat)) = some (.int (r.getD (12 + k) 0)) := row_off r hr 12 k (by omega)
      have i3 : atI (r.map PyData.int) (2 + (k : Nat)) = some (.int (r.getD (2 + k) 0)) := row_off r hr 2 k (by omega)
      refine ⟨[x0, some (.list (r.map PyData.int)), some (.int (k : Nat)), some (.list (pre.map fun k => wD (wt r n k))), x4, x5, x6, x7, some (.int n), y9, x10, x11], _, rfl, .inl ?_, by rw [List.append_assoc]; exact hq, some (.int (k : Nat)), some (.int (wl r n k)), rfl⟩
      rw [List.map_append, List.map_cons, List.map_nil]
      generalize (pre.map fun k => wD (wt r n k)) = PD at *
      generalize r.map PyData.int = RD at *
      unfold wt wl
      by_cases h : (r.getD (12 + k) 0).fmod 7 = 0
      · simp -implicitDefEqProofs only [l1_law, xVar_a, xC_a, xBin_a, xUn_a, tOf_a, tTru_a, tNotP_a, tAndP_a, tOrP_a, tyes_a, tno_a, tYesP_a, xNil_a, xCons_a, xTup_a, xLst_a, xAnd_a, xOr_a, xIf_a, xChain_a, oNo_a, oAt_a, xSl_a, xCall_a, xSeq_a, xIt_a, xLc_a, gSet_a, gTupD_a, gsNil_a, gsCons_a, sNop_a, sBrk_a, sCnt_a, sSeq_a, sRet_a, sIf_a, sSet_a, sTgt_a, sAug_a, sApp_a, sExt_a, sPut_a, sPutK_a, pkO_s, sFor_a, sWhile_a, sPar_a, runD_a, b2_s, c2_s, sqO_nx, sqO_rt, sqO_bk, sqO_ct, ifO_t, ifO_f, stO_s, endO_nx, endO_rt, andO_t, andO_f, orO_t, orO_f, chO_s, chP_t, chP_f, slO_s, atO_i, lcO_s, forO_s, gsO_s, nxO_s, tgO_s, paO_s, apO_s, exO_s, plO_s, ptO_s, dB_b, tru_b, tru_n, tru_i, tru_l, tru_t, is_n, isn_n, nn_n, nn_i, nn_b, nn_t, nn_l, add_ii, add'_ii, sub_ii, neg_i, lt_ii, le_ii, gt_ii, ge_ii, ix_l, ix_t, ix_s, at0, at1, at2, sl_l, sl_t, len_l, len_t, len_s, abs_i, int_i, int_b, max_ii, min_ii, tup_s, lst_s, seq_l, seq_t, sum_s, wipe_n, wipe_c, mul_ii, fdiv_ii, mod_ii, add_ll, add_tt, setAll, mkT, mkL, oNot, List.getD_cons_zero, List.getD_cons_succ, List.length_cons, List.length_nil, List.set_cons_zero, List.set_cons_succ, List.map_cons, List.map_nil, List.replicate, List.cons_append, List.nil_append, List.append_nil, Option.bind_some, Option.map_some, List.all_cons, List.all_nil, if_true, if_false, reduceIte, Nat.reduceAdd, Nat.reduceSub, Nat.reduceLT, Nat.reduceLeDiff, Nat.reduceEqDiff, decide_true, decide_false, Bool.and_true, Bool.and_self, Bool.true_and, Bool.not_true, Bool.not_false, ne_eq, not_true_eq_false, not_false_eq_true, Nat.zero_add, Bool.false_eq_true, and_self, true_and, and_true, i1, i2, i3, fdiv_ii d2, fdiv_ii d7, mod_ii nd, mod_ii n7, mod_ii n4, mod_ii n0, eq_int, h, wD, l1]
      · simp -implicitDefEqProofs only [l1_law, xVar_a, xC_a, xBin_a, xUn_a, tOf_a, tTru_a, tNotP_a, tAndP_a, tOrP_a, tyes_a, tno_a, tYesP_a, xNil_a, xCons_a, xTup_a, xLst_a, xAnd_a, xOr_a, xIf_a, xChain_a, oNo_a, oAt_a, xSl_a, xCall_a, xSeq_a, xIt_a, xLc_a, gSet_a, gTupD_a, gsNil_a, gsCons_a, sNop_a, sBrk_a, sCnt_a, sSeq_a, sRet_a, sIf_a, sSet_a, sTgt_a, sAug_a, sApp_a, sExt_a, sPut_a, sPutK_a, pkO_s, sFor_a, sWhile_a, sPar_a, runD_a, b2_s, c2_s, sqO_nx, sqO_rt, sqO_bk, sqO_ct, ifO_t, ifO_f, stO_s, endO_nx, endO_rt, andO_t, andO_f, orO_t, orO_f, chO_s, chP_t, chP_f, slO_s, atO_i, lcO_s, forO_s, gsO_s, nxO_s, tgO_s, paO_s, apO_s, exO_s, plO_s, ptO_s, dB_b, tru_b, tru_n, tru_i, tru_l, tru_t, is_n, isn_n, nn_n, nn_i, nn_b, nn_t, nn_l, add_ii, add'_ii, sub_ii, neg_i, lt_ii, le_ii, gt_ii, ge_ii, ix_l, ix_t, ix_s, at0, at1, at2, sl_l, sl_t, len_l, len_t, len_s, abs_i, int_i, int_b, max_ii, min_ii, tup_s, lst_s, seq_l, seq_t, sum_s, wipe_n, wipe_c, mul_ii, fdiv_ii, mod_ii, add_ll, add_tt, setAll, mkT, mkL, oNot, List.getD_cons_zero, List.getD_cons_succ, List.length_cons, List.length_nil, List.set_cons_zero, List.set_cons_succ, List.map_cons, List.map_nil, List.replicate, List.cons_append, List.nil_append, List.append_nil, Option.bind_some, Option.map_some, List.all_cons, List.all_nil, if_true, if_false, reduceIte, Nat.reduceAdd, Nat.reduceSub, Nat.reduceLT, Nat.reduceLeDiff, Nat.reduceEqDiff, decide_true, decide_false, Bool.and_true, Bool.and_self, Bool.true_and, Bool.not_true, Bool.not_false, ne_eq, not_true_eq_false, not_false_eq_true, Nat.zero_add, Bool.false_eq_true, and_self, true_and, and_true, i1, i2, i3, fdiv_ii d2, fdiv_ii d7, mod_ii nd, mod_ii n7, mod_ii n4, mod_ii n0, eq_int, h, wD, l1]) (List.range m) [] [x0, some (.list (r.map PyData.int)), none, some (.list []), x4, x5, x6, x7, some (.int n), none, x10, x11] ⟨rfl, none, none, rfl⟩
  obtain ⟨_, y2, y9, e'⟩ := h
  subst e'
  exact ⟨y2, y9, e⟩
theorem wl_pos (r : List Int) {n : Int} (hn : 3 ≤ n ∧ n ≤ 8) (k : Nat) : 1 ≤ wl r n k := by
  have hd : 3 ≤ (n + 3).fdiv 2 := by
    rw [Int.fdiv_eq_ediv_of_nonneg _ (by decide)]
    omega
  have h1 := fmod_rng ((r.getD (12 + k) 0).fdiv 7) (m := 4) (by decide)
  have h2 := fmod_rng (r.getD (7 + k) 0) (m := (n + 3).fdiv 2) (by omega)
  unfold wl
  split <;> omega
end K20

namespace K20
open PySem PySem.Spec PyProof.Rows L2 Pm
open PySem.W (Datum Tup)
def pt7 (r : List Int) (o u k : Nat) : Pt := ((r.getD (o + k) 0).fmod 7, (r.getD (u + k) 0).fmod 7)
theorem pt_map (r : List Int) (o u m : Nat) : ((List.range m).map (pt7 r o u)).map wD = (List.range m).map fun k => .tuple [.int ((r.getD (o + k) 0).fmod 7), .int ((r.getD (u + k) 0).fmod 7)] := by
  rw [List.map_map]
  rfl
theorem law_ok (ns : List Int) : d_law [scr (ns.map PyData.int)] = some (.bool true) := by
  obtain ⟨r, hr, hrow⟩ := row_int ns
  have it : ∀ i : Nat, i < 62 → atI (r.map PyData.int) (i : Int) = some (.int (r.getD i 0)) := fun i hi => row_at r i (by omega)
  have n2 : (2 : Int) ≠ 0 := by decide
  have n3 : (3 : Int) ≠ 0 := by decide
  have n4 : (4 : Int) ≠ 0 := by decide
  have n6 : (6 : Int) ≠ 0 := by decide
  have n7 : (7 : Int) ≠ 0 := by decide
  have n9 : (9 : Int) ≠ 0 := by decide
  have i0 : atI (r.map PyData.int) 0 = some (.int (r.getD 0 0)) := it 0 (by decide)
  have i1 : atI (r.map PyData.int) 1 = some (.int (r.getD 1 0)) := it 1 (by decide)
  have i32 : atI (r.map PyData.int) 32 = some (.int (r.getD 32 0)) := it 32 (by decide)
  have i41 : atI (r.map PyData.int) 41 = some (.int (r.getD 41 0)) := it 41 (by decide)
  have i42 : atI (r.map PyData.int) 42 = some (.int (r.getD 42 0)) := it 42 (by decide)
  have i43 : atI (r.map PyData.int) 43 = some (.int (r.getD 43 0)) := it 43 (by decide)
  have i44 : atI (r.map PyData.int) 44 = some (.int (r.getD 44 0)) := it 44 (by decide)
  have i45 : atI (r.map PyData.int) 45 = some (.int (r.getD 45 0)) := it 45 (by decide)
  have i46 : atI (r.map PyData.int) 46 = some (.int (r.getD 46 0)) := it 46 (by decide)
  have i47 : atI (r.map PyData.int) 47 = some (.int (r.getD 47 0)) := it 47 (by decide)
  have i48 : atI (r.map PyData.int) 48 = some (.int (r.getD 48 0)) := it 48 (by decide)
  obtain ⟨m0, z0, y0⟩ := fmod_nat (r.getD 0 0) (m := 6) (by decide)
  obtain ⟨m1, z1, y1⟩ := fmod_nat (r.getD 1 0) (m := 4) (by decide)
  obtain ⟨m32, z32, y32⟩ := fmod_nat (r.getD 32 0) (m := 3) (by decide)
  obtain ⟨m41, z41, y41⟩ := fmod_nat (r.getD 41 0) (m := 3) (by decide)
  obtain ⟨m43, z43, y43⟩ := fmod_nat (r.getD 43 0) (m := 3) (by decide)
  obtain ⟨m44, z44, y44⟩ := fmod_nat (r.getD 44 0) (m := 4) (by decide)
  obtain ⟨m45, z45, y45⟩ := fmod_nat (r.getD 45 0) (m := 4) (by decide)
  obtain ⟨m46, z46, y46⟩ := fmod_nat (r.getD 46 0) (m := 4) (by decide)
  obtain ⟨m47, z47, y47⟩ := fmod_nat (r.getD 47 0) (m := 4) (by decide)
  have y48 := fmod_rng (r.getD 48 0) (m := 9) (by decide)
  -- the watches
  have rw1 : oR1 [.int (2 + (m1 : Int))] = some ((List.range (2 + m1)).map fun k : Nat => PyData.int (k : Nat)) := by
    have := rg0 (2 + m1) (by omega)
    rwa [show ((2 + m1 : Nat) : Int) = 2 + (m1 : Int) by omega] at this
  have hn : 3 ≤ 3 + (m0 : Int) ∧ 3 + (m0 : Int) ≤ 8 := by omega
  obtain ⟨y2, y9, lp⟩ := law_loop hr hn (m := 2 + m1) (by omega) (some (scr (ns.map PyData.int))) none none none none none none
  have eW : ((List.range (2 + m1)).map fun k => wD (wt r (3 + (m0 : Int)) k)) = ((List.range (2 + m1)).map (wt r (3 + (m0 : Int)))).map wD := by rw [List.map_map]; rfl
  rw [eW] at lp
  have wl1 : ((List.range (2 + m1)).map (wt r (3 + (m0 : Int)))).length = 2 + m1 := by simp
  have hW : OkW ((List.range (2 + m1)).map (wt r (3 + (m0 : Int)))) := fun w hw => by
    obtain ⟨k, _, rfl⟩ := List.mem_map.mp hw
    exact wl_pos r hn k
  have wl2 : (((List.range (2 + m1)).map (wt r (3 + (m0 : Int)))).map wD).length = 2 + m1 := by simp
  have rw2 := rg0 (2 + m1) (by omega)
  have c1 : ∀ x2 x4 x5 x6 x7 x8 x9 x10 x11, lcL (gSet 2) (tOf (xBin oGt (xBin oMod (xCall bInt (xCons (xBin oIx (xVar 1) (xBin oAdd (xC (.int 17)) (xVar 2))) xNil)) (xC (.int 3))) (xC (.int 0)))) (xVar 2) [some (scr (ns.map PyData.int)), some (.list (r.map PyData.int)), x2, some (.tuple (((List.range (2 + m1)).map (wt r (3 + (m0 : Int)))).map wD)), x4, x5, x6, x7, x8, x9, x10, x11] ((List.range (2 + m1)).map fun k : Nat => PyData.int (k : Nat)) = some (((List.range (2 + m1)).filter fun k => decide (0 < (r.getD (17 + k) 0).fmod 3)).map fun k : Nat => PyData.int (k : Nat)) := fun x2 x4 x5 x6 x7 x8 x9 x10 x11 => by
    refine lcL_filter _ _ (fun k => decide (0 < (r.getD (17 + k) 0).fmod 3)) _ fun k hk => ?_
    have hk := List.mem_range.mp hk
    have i1 : atI (r.map PyData.int) (17 + (k : Nat)) = some (.int (r.getD (17 + k) 0)) := row_off r hr 17 k (by omega)
    generalize (((List.range (2 + m1)).map (wt r (3 + (m0 : Int)))).map wD) = WD at *
    generalize r.map PyData.int = RD at *
    generalize scr (ns.map PyData.int) = SC at *
    exact ⟨[some SC, some (.list RD), some (.int (k : Nat)), some (.tuple WD), x4, x5, x6, x7, x8, x9, x10, x11], rfl, by simp -implicitDefEqProofs only [xVar_a, xC_a, xBin_a, xUn_a, tOf_a, tTru_a, tNotP_a, tAndP_a, tOrP_a, tyes_a, tno_a, tYesP_a, xNil_a, xCons_a, xTup_a, xLst_a, xAnd_a, xOr_a, xIf_a, xChain_a, oNo_a, oAt_a, xSl_a, xCall_a, xSeq_a, xIt_a, xLc_a, gSet_a, gTupD_a, gsNil_a, gsCons_a, sNop_a, sBrk_a, sCnt_a, sSeq_a, sRet_a, sIf_a, sSet_a, sTgt_a, sAug_a, sApp_a, sExt_a, sPut_a, sPutK_a, pkO_s, sFor_a, sWhile_a, sPar_a, runD_a, b2_s, c2_s, sqO_nx, sqO_rt, sqO_bk, sqO_ct, ifO_t, ifO_f, stO_s, endO_nx, endO_rt, andO_t, andO_f, orO_t, orO_f, chO_s, chP_t, chP_f, slO_s, atO_i, lcO_s, forO_s, gsO_s, nxO_s, tgO_s, paO_s, apO_s, exO_s, plO_s, ptO_s, dB_b, tru_b, tru_n, tru_i, tru_l, tru_t, is_n, isn_n, nn_n, nn_i, nn_b, nn_t, nn_l, add_ii, add'_ii, sub_ii, neg_i, lt_ii, le_ii, gt_ii, ge_ii, ix_l, ix_t, ix_s, at0, at1, at2, sl_l, sl_t, len_l, len_t, len_s, abs_i, int_i, int_b, max_ii, min_ii, tup_s, lst_s, seq_l, seq_t, sum_s, wipe_n, wipe_c, mul_ii, fdiv_ii, mod_ii, add_ll, add_tt, setAll, mkT, mkL, oNot, List.getD_cons_zero, List.getD_cons_succ, List.length_cons, List.length_nil, List.set_cons_zero, List.set_cons_succ, List.map_cons, List.map_nil, List.replicate, List.cons_append, List.nil_append, List.append_nil, Option.bind_some, Option.map_some, List.all_cons, List.all_nil, if_true, if_false, reduceIte, Nat.reduceAdd, Nat.reduceSub, Nat.reduceLT, Nat.reduceLeDiff, Nat.reduceEqDiff, decide_true, decide_false, Bool.and_true, Bool.and_self, Bool.true_and, Bool.not_true, Bool.not_false, ne_eq, not_true_eq_false, not_false_eq_true, Nat.zero_add, Bool.false_eq_true, and_self, true_and, and_true, i1, mod_ii n3], fun _ => rfl⟩
  have L1 := law_watched_eq (n := 3 + m0) (by omega) (by omega) hW (by omega) (by omega) (ch := (List.range (2 + m1)).filter fun k => decide (0 < (r.getD (17 + k) 0).fmod 3)) fun k hk => by
    rw [wl1]
    exact List.mem_range.mp (List.mem_filter.mp hk).1
  have L1 : d__law_watched [.int (3 + (m0 : Int)), .tuple (((List.range (2 + m1)).map (wt r (3 + (m0 : Int)))).map wD), .tuple (((List.range (2 + m1)).filter fun k => decide (0 < (r.getD (17 + k) 0).fmod 3)).map fun k : Nat => PyData.int (k : Nat))] = some (.bool true) := by
    rwa [show ((3 + m0 : Nat) : Int) = 3 + (m0 : Int) by omega] at L1
  -- the hoses
  have rh : oR1 [.int (3 + (m32 : Int))] = some ((List.range (3 + m32)).map fun k : Nat => PyData.int (k : Nat)) := by
    have := rg0 (3 + m32) (by omega)
    rwa [show ((3 + m32 : Nat) : Int) = 3 + (m32 : Int) by omega] at this
  have rp : oR1 [.int (2 + (m41 : Int))] = some ((List.range (2 + m41)).map fun k : Nat => PyData.int (k : Nat)) := by
    have := rg0 (2 + m41) (by omega)
    rwa [show ((2 + m41 : Nat) : Int) = 2 + (m41 : Int) by omega] at this
  have c2 : ∀ x0 x2 x3 x4 x5 x6 x7 x8 x9 x10 x11, lcL (gSet 2) tYesP (xTup (xCons (xBin oMod (xCall bInt (xCons (xBin oIx (xVar 1) (xBin oAdd (xC (.int 22)) (xVar 2))) xNil)) (xC (.int 7))) (xCons (xBin oMod (xCall bInt (xCons (xBin oIx (xVar 1) (xBin oAdd (xC (.int 27)) (xVar 2))) xNil)) (xC (.int 7))) xNil))) [x0, some (.list (r.map PyData.int)), x2, x3, x4, x5, x6, x7, x8, x9, x10, x11] ((List.range (3 + m32)).map fun k : Nat => PyData.int (k : Nat)) = some (((List.range (3 + m32)).map (pt7 r 22 27)).map wD) := fun x0 x2 x3 x4 x5 x6 x7 x8 x9 x10 x11 => by
    rw [pt_map]
    refine lcL_map _ _ _ fun k hk => ?_
    have hk := List.mem_range.mp hk
    have i1 : atI (r.map PyData.int) (22 + (k : Nat)) = some (.int (r.getD (22 + k) 0)) := row_off r hr 22 k (by omega)
    have i2 : atI (r.map PyData.int) (27 + (k : Nat)) = some (.int (r.getD (27 + k) 0)) := row_off r hr 27 k (by omega)
    generalize r.map PyData.int = RD at *
    simp -implicitDefEqProofs only [xVar_a, xC_a, xBin_a, xUn_a, tOf_a, tTru_a, tNotP_a, tAndP_a, tOrP_a, tyes_a, tno_a, tYesP_a, xNil_a, xCons_a, xTup_a, xLst_a, xAnd_a, xOr_a, xIf_a, xChain_a, oNo_a, oAt_a, xSl_a, xCall_a, xSeq_a, xIt_a, xLc_a, gSet_a, gTupD_a, gsNil_a, gsCons_a, sNop_a, sBrk_a, sCnt_a, sSeq_a, sRet_a, sIf_a, sSet_a, sTgt_a, sAug_a, sApp_a, sExt_a, sPut_a, sPutK_a, pkO_s, sFor_a, sWhile_a, sPar_a, runD_a, b2_s, c2_s, sqO_nx, sqO_rt, sqO_bk, sqO_ct, ifO_t, ifO_f, stO_s, endO_nx, endO_rt, andO_t, andO_f, orO_t, orO_f, chO_s, chP_t, chP_f, slO_s, atO_i, lcO_s, forO_s, gsO_s, nxO_s, tgO_s, paO_s, apO_s, exO_s, plO_s, ptO_s, dB_b, tru_b, tru_n, tru_i, tru_l, tru_t, is_n, isn_n, nn_n, nn_i, nn_b, nn_t, nn_l, add_ii, add'_ii, sub_ii, neg_i, lt_ii, le_ii, gt_ii, ge_ii, ix_l, ix_t, ix_s, at0, at1, at2, sl_l, sl_t, len_l, len_t, len_s, abs_i, int_i, int_b, max_ii, min_ii, tup_s, lst_s, seq_l, seq_t, sum_s, wipe_n, wipe_c, mul_ii, fdiv_ii, mod_ii, add_ll, add_tt, setAll, mkT, mkL, oNot, List.getD_cons_zero, List.getD_cons_succ, List.length_cons, List.length_nil, List.set_cons_zero, List.set_cons_succ, List.map_cons, List.map_nil, List.replicate, List.cons_append, List.nil_append, List.append_nil, Option.bind_some, Option.map_some, List.all_cons, List.all_nil, if_true, if_false, reduceIte, Nat.reduceAdd, Nat.reduceSub, Nat.reduceLT, Nat.reduceLeDiff, Nat.reduceEqDiff, decide_true, decide_false, Bool.and_true, Bool.and_self, Bool.true_and, Bool.not_true, Bool.not_false, ne_eq, not_true_eq_false, not_false_eq_true, Nat.zero_add, Bool.false_eq_true, and_self, true_and, and_true, i1, i2, mod_ii n7]
  have c3 : ∀ x0 x2 x3 x4 x5 x6 x7 x8 x9 x10 x11, lcL (gSet 2) tYesP (xTup (xCons (xBin oMod (xCall bInt (xCons (xBin oIx (xVar 1) (xBin oAdd (xC (.int 33)) (xVar 2))) xNil)) (xC (.int 7))) (xCons (xBin oMod (xCall bInt (xCons (xBin oIx (xVar 1) (xBin oAdd (xC (.int 37)) (xVar 2))) xNil)) (xC (.int 7))) xNil))) [x0, some (.list (r.map PyData.int)), x2, x3, x4, x5, x6, x7, x8, x9, x10, x11] ((List.range (2 + m41)).map fun k : Nat => PyData.int (k : Nat)) = some (((List.range (2 + m41)).map (pt7 r 33 37)).map wD) := fun x0 x2 x3 x4 x5 x6 x7 x8 x9 x10 x11 => by
    rw [pt_map]
    refine lcL_map _ _ _ fun k hk => ?_
    have hk := List.mem_range.mp hk
    have i1 : atI (r.map PyData.int) (33 + (k : Nat)) = some (.int (r.getD (33 + k) 0)) := row_off r hr 33 k (by omega)
    have i2 : atI (r.map PyData.int) (37 + (k : Nat)) = some (.int (r.getD (37 + k) 0)) := row_off r hr 37 k (by omega)
    generalize r.map PyData.int = RD at *
    simp -implicitDefEqProofs only [xVar_a, xC_a, xBin_a, xUn_a, tOf_a, tTru_a, tNotP_a, tAndP_a, tOrP_a, tyes_a, tno_a, tYesP_a, xNil_a, xCons_a, xTup_a, xLst_a, xAnd_a, xOr_a, xIf_a, xChain_a, oNo_a, oAt_a, xSl_a, xCall_a, xSeq_a, xIt_a, xLc_a, gSet_a, gTupD_a, gsNil_a, gsCons_a, sNop_a, sBrk_a, sCnt_a, sSeq_a, sRet_a, sIf_a, sSet_a, sTgt_a, sAug_a, sApp_a, sExt_a, sPut_a, sPutK_a, pkO_s, sFor_a, sWhile_a, sPar_a, runD_a, b2_s, c2_s, sqO_nx, sqO_rt, sqO_bk, sqO_ct, ifO_t, ifO_f, stO_s, endO_nx, endO_rt, andO_t, andO_f, orO_t, orO_f, chO_s, chP_t, chP_f, slO_s, atO_i, lcO_s, forO_s, gsO_s, nxO_s, tgO_s, paO_s, apO_s, exO_s, plO_s, ptO_s, dB_b, tru_b, tru_n, tru_i, tru_l, tru_t, is_n, isn_n, nn_n, nn_i, nn_b, nn_t, nn_l, add_ii, add'_ii, sub_ii, neg_i, lt_ii, le_ii, gt_ii, ge_ii, ix_l, ix_t, ix_s, at0, at1, at2, sl_l, sl_t, len_l, len_t, len_s, abs_i, int_i, int_b, max_ii, min_ii, tup_s, lst_s, seq_l, seq_t, sum_s, wipe_n, wipe_c, mul_ii, fdiv_ii, mod_ii, add_ll, add_tt, setAll, mkT, mkL, oNot, List.getD_cons_zero, List.getD_cons_succ, List.length_cons, List.length_nil, List.set_cons_zero, List.set_cons_succ, List.map_cons, List.map_nil, List.replicate, List.cons_append, List.nil_append, List.append_nil, Option.bind_some, Option.map_some, List.all_cons, List.all_nil, if_true, if_false, reduceIte, Nat.reduceAdd, Nat.reduceSub, Nat.reduceLT, Nat.reduceLeDiff, Nat.reduceEqDiff, decide_true, decide_false, Bool.and_true, Bool.and_self, Bool.true_and, Bool.not_true, Bool.not_false, ne_eq, not_true_eq_false, not_false_eq_true, Nat.zero_add, Bool.false_eq_true, and_self, true_and, and_true, i1, i2, mod_ii n7]
  have pl : ((List.range (3 + m32)).map (pt7 r 22 27)).length = 3 + m32 := by simp
  have ql : ((List.range (2 + m41)).map (pt7 r 33 37)).length = 2 + m41 := by simp
  have hQ : (List.range (2 + m41)).map (pt7 r 33 37) ≠ [] := fun z => by
    rw [z] at ql
    simp at ql
    omega
  have L2 := law_hoses_eq (P := (List.range (3 + m32)).map (pt7 r 22 27)) (Q := (List.range (2 + m41)).map (pt7 r 33 37)) (1 + (r.getD 42 0).fmod 7) (k := 1 + m43) (by omega) (by omega) (by omega) (by omega) hQ (by omega)
  rw [show ((1 + m43 : Nat) : Int) = 1 + (m43 : Int) by omega] at L2
  have L3 := law_lined_eq hr y48.1 (by omega)
  have L4 := law_boxed_eq hQ (a := (m44 : Int)) (b := (m45 : Int)) (dx := m46) (dy := m47) (by omega) (by omega)
  unfold boxD at L4
  have hb := flat_bool
  clear it hW
  generalize (((List.range (3 + m32)).map (pt7 r 22 27)).map wD) = PD at *
  generalize (((List.range (2 + m41)).map (pt7 r 33 37)).map wD) = QD at *
  generalize (((List.range (2 + m1)).map (wt r (3 + (m0 : Int)))).map wD) = WD at *
  generalize (((List.range (2 + m1)).filter fun k => decide (0 < (r.getD (17 + k) 0).fmod 3)).map fun k : Nat => PyData.int (k : Nat)) = CD at *
  generalize ((List.range (2 + m1)).map fun k : Nat => PyData.int (k : Nat)) = RW at *
  generalize ((List.range (3 + m32)).map fun k : Nat => PyData.int (k : Nat)) = RH at *
  generalize ((List.range (2 + m41)).map fun k : Nat => PyData.int (k : Nat)) = RP at *
  generalize r.map PyData.int = RD at *
  generalize scr (ns.map PyData.int) = SC at *
  simp -implicitDefEqProofs only [d_law, g_law, xVar_a, xC_a, xBin_a, xUn_a, tOf_a, tTru_a, tNotP_a, tAndP_a, tOrP_a, tyes_a, tno_a, tYesP_a, xNil_a, xCons_a, xTup_a, xLst_a, xAnd_a, xOr_a, xIf_a, xChain_a, oNo_a, oAt_a, xSl_a, xCall_a, xSeq_a, xIt_a, xLc_a, gSet_a, gTupD_a, gsNil_a, gsCons_a, sNop_a, sBrk_a, sCnt_a, sSeq_a, sRet_a, sIf_a, sSet_a, sTgt_a, sAug_a, sApp_a, sExt_a, sPut_a, sPutK_a, pkO_s, sFor_a, sWhile_a, sPar_a, runD_a, b2_s, c2_s, sqO_nx, sqO_rt, sqO_bk, sqO_ct, ifO_t, ifO_f, stO_s, endO_nx, endO_rt, andO_t, andO_f, orO_t, orO_f, chO_s, chP_t, chP_f, slO_s, atO_i, lcO_s, forO_s, gsO_s, nxO_s, tgO_s, paO_s, apO_s, exO_s, plO_s, ptO_s, dB_b, tru_b, tru_n, tru_i, tru_l, tru_t, is_n, isn_n, nn_n, nn_i, nn_b, nn_t, nn_l, add_ii, add'_ii, sub_ii, neg_i, lt_ii, le_ii, gt_ii, ge_ii, ix_l, ix_t, ix_s, at0, at1, at2, sl_l, sl_t, len_l, len_t, len_s, abs_i, int_i, int_b, max_ii, min_ii, tup_s, lst_s, seq_l, seq_t, sum_s, wipe_n, wipe_c, mul_ii, fdiv_ii, mod_ii, add_ll, add_tt, setAll, mkT, mkL, oNot, List.getD_cons_zero, List.getD_cons_succ, List.length_cons, List.length_nil, List.set_cons_zero, List.set_cons_succ, List.map_cons, List.map_nil, List.replicate, List.cons_append, List.nil_append, List.append_nil, Option.bind_some, Option.map_some, List.all_cons, List.all_nil, if_true, if_false, reduceIte, Nat.reduceAdd, Nat.reduceSub, Nat.reduceLT, Nat.reduceLeDiff, Nat.reduceEqDiff, decide_true, decide_false, Bool.and_true, Bool.and_self, Bool.true_and, Bool.not_true, Bool.not_false, ne_eq, not_true_eq_false, not_false_eq_true, Nat.zero_add, Bool.false_eq_true, and_self, true_and, and_true, hrow, i0, i1, i32, i41, i42, i43, i44, i45, i46, i47, i48, mod_ii n3, mod_ii n4, mod_ii n6, mod_ii n7, mod_ii n9, z0, z1, z32, z41, z43, z44, z45, z46, z47, rw1, lp, wl2, rw2, c1, L1, rh, rp, c2, c3, L2, L3, L4, hb]
end K20


theorem PySem.Challenge.cw_dockheld_k20_whole_watches_hoses_holds : PySem.Challenge.rw_dockheld_k20_whole_watches_hoses.Holds := by
  exact K20.holds_of fun ns _ => K20.law_ok ns

