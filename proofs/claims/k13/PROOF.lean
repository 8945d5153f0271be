import PyProof.Rows.All
import HandS.ForMost
import HandS.Deep
import HandS.TupAny
import HandS.Defaults
import HandS.Wide
import HandS.WideBits
import HandS.TupMul
import HandS.IsInst
import HandS.Flow
import PyProof.Rows.InDataRows
import HandS.Zip
import HandS.Rev
import HandS.RevRange
import KE.GoesEnum
import HandS.Style
import HandS.HeadEnd
import HandS.HeadHook1
import HandS.HeadHook2
import HandS.Conv
import KE.SortData
import HandS.DictComp
import KE.DataMinMax
import HandS.SortKw
import KE.DatumOrd
import HandS.SetFor
import HandS.Strs
import HandS.Head0
import HandS.Head1
import HandS.Head2
import PySem.Challenge.RW_dockheld_k13_whole_sure_pay
set_option Elab.async false
set_option linter.all false
set_option maxRecDepth 100000
set_option maxHeartbeats 0
set_option exponentiation.threshold 3000
/-! Pm: plain data for the values, a simulation of the layer's readings by plain functions over slots. -/
namespace Pm
open PySem PySem.Spec PyProof.Rows L2

abbrev D := PyData
abbrev PEnv := List (Option D)
abbrev Xp := PEnv → Option D

/-- a list of the written part -/
def KL (K : PySem.W.Frag) (a : Addr) (xs : List V) : Prop :=
  ∃ (o : Obj) (its : Array Value) (n : Nat), K.lookup a = some o ∧ o.cls = .type "list" ∧ o.dict = none ∧ o.data = .seq its n ∧ its.size ≤ sizeLine ∧ Vals xs its.toList

def keyD : Key → D
  | .inl i => .int i
  | .inr s => .str s

/-- the script itself -/
def scr (ds : List D) : D := .dict [(.none, .list ds)]

mutual
/-- v stands for d in H; the cells on the way keep off A -/
inductive Rp (K : PySem.W.Frag) (A : Addr → Prop) (H : Hp) : V → D → Prop
  | non : Rp K A H .non .none
  | bl (b : Bool) : Rp K A H (.bl b) (.bool b)
  | int (i : Int) : Rp K A H (.int i) (.int i)
  | str (x : Str) : Rp K A H (.str x) (.str x)
  | lst {a : Addr} {xs : List V} {ds : List D} : H a = some (.lst xs) → ¬ A a → RpL K A H xs ds → Rp K A H (.ref a) (.list ds)
  | scr {a : Addr} {xs : List V} {ds : List D} : Rd H a (.lst xs) → ¬ A a → RpL K A H xs ds → Rp K A H (.ref a) (.dict [(.none, .list ds)])
  | kl {a : Addr} {xs : List V} {ds : List D} : KL K a xs → RpL K A H xs ds → Rp K A H (.ref a) (.dict [(.none, .list ds)])
  | tup {a : Addr} {xs : List V} {ds : List D} : H a = some (.tup xs) → ¬ A a → RpL K A H xs ds → Rp K A H (.ref a) (.tuple ds)
  | dic {a : Addr} {ks : List (Key × V)} {ds : List D} {kd : List (D × D)} : H a = some (.dK ks) → ¬ A a → RpL K A H (ks.map (·.2)) ds → kd = (ks.map fun p => keyD p.1).zip ds → Rp K A H (.ref a) (.dict kd)
inductive RpL (K : PySem.W.Frag) (A : Addr → Prop) (H : Hp) : List V → List D → Prop
  | nil : RpL K A H [] []
  | cons {v : V} {vs : List V} {d : D} {ds : List D} : Rp K A H v d → RpL K A H vs ds → RpL K A H (v :: vs) (d :: ds)
end

/-- the cell at a is d, whatever is said of a itself -/
inductive Tp (K : PySem.W.Frag) (A : Addr → Prop) (H : Hp) : Addr → D → Prop
  | lst {a : Addr} {xs : List V} {ds : List D} : H a = some (.lst xs) → RpL K A H xs ds → Tp K A H a (.list ds)
  | dic {a : Addr} {ks : List (Key × V)} {ds : List D} {kd : List (D × D)} : H a = some (.dK ks) → RpL K A H (ks.map (·.2)) ds → kd = (ks.map fun p => keyD p.1).zip ds → Tp K A H a (.dict kd)

def isMut : D → Bool
  | .list _ => true
  | .dict _ => true
  | _ => false

section
variable {K : PySem.W.Frag} {A A' : Addr → Prop} {H H' : Hp} {v : V} {d : D} {vs : List V} {ds : List D} {a : Addr}

theorem rd_some {xs : HO} (h : Rd H a xs) : ∃ o, H a = some o := by
  rcases h with h | ⟨o, h⟩
  · exact ⟨_, h⟩
  · exact ⟨_, h⟩

mutual
theorem Rp.step (hk : ∀ a o, H a = some o → ¬ A a → H' a = some o) (ha : ∀ a, A' a → A a ∨ H a = none) : ∀ {v : V} {d : D}, Rp K A H v d → Rp K A' H' v d
  | _, _, .non => .non
  | _, _, .bl b => .bl b
  | _, _, .int i => .int i
  | _, _, .str x => .str x
  | _, _, .lst h n r => by
    refine .lst (hk _ _ h n) (fun z => ?_) (RpL.step hk ha r)
    rcases ha _ z with q | q
    · exact n q
    · rw [q] at h; cases h
  | _, _, .scr h n r => by
    refine .scr ?_ (fun z => ?_) (RpL.step hk ha r)
    · rcases h with h | ⟨o, h⟩
      · exact .inl (hk _ _ h n)
      · exact .inr ⟨o, hk _ _ h n⟩
    · obtain ⟨o, e⟩ := rd_some h
      rcases ha _ z with q | q
      · exact n q
      · rw [q] at e; cases e
  | _, _, .kl h r => .kl h (RpL.step hk ha r)
  | _, _, .tup h n r => by
    refine .tup (hk _ _ h n) (fun z => ?_) (RpL.step hk ha r)
    rcases ha _ z with q | q
    · exact n q
    · rw [q] at h; cases h
  | _, _, .dic h n r e => by
    refine .dic (hk _ _ h n) (fun z => ?_) (RpL.step hk ha r) e
    rcases ha _ z with q | q
    · exact n q
    · rw [q] at h; cases h
theorem RpL.step (hk : ∀ a o, H a = some o → ¬ A a → H' a = some o) (ha : ∀ a, A' a → A a ∨ H a = none) : ∀ {vs : List V} {ds : List D}, RpL K A H vs ds → RpL K A' H' vs ds
  | _, _, .nil => .nil
  | _, _, .cons h r => .cons (Rp.step hk ha h) (RpL.step hk ha r)
end
theorem Rp.mono (s : Same H H') (h : Rp K A H v d) : Rp K A H' v d := h.step (fun a o e _ => s a o e) fun _ z => .inl z
theorem RpL.mono (s : Same H H') (h : RpL K A H vs ds) : RpL K A H' vs ds := h.step (fun a o e _ => s a o e) fun _ z => .inl z
theorem Rp.anti (h : Rp K A H v d) (ha : ∀ a, A' a → A a) : Rp K A' H v d := h.step (fun _ _ e _ => e) fun a z => .inl (ha a z)
theorem RpL.anti (h : RpL K A H vs ds) (ha : ∀ a, A' a → A a) : RpL K A' H vs ds := h.step (fun _ _ e _ => e) fun a z => .inl (ha a z)
theorem Tp.step (h : Tp K A H a d) (hk : ∀ a o, H a = some o → ¬ A a → H' a = some o) (ha : ∀ a, A' a → A a ∨ H a = none) (h0 : ∀ o, H a = some o → H' a = some o) : Tp K A' H' a d := by
  cases h with
  | lst e r => exact .lst (h0 _ e) (r.step hk ha)
  | dic e r z => exact .dic (h0 _ e) (r.step hk ha) z
theorem Tp.mono (s : Same H H') (h : Tp K A H a d) : Tp K A H' a d := h.step (fun a o e _ => s a o e) (fun _ z => .inl z) fun o e => s _ o e
theorem Tp.rp (h : Tp K A H a d) (n : ¬ A a) : Rp K A H (.ref a) d := by
  cases h with
  | lst e r => exact .lst e n r
  | dic e r z => exact .dic e n r z
theorem Tp.some (h : Tp K A H a d) : ∃ o, H a = Option.some o ∧ ∀ xs, o ≠ .tup xs := by
  cases h with
  | lst e r => exact ⟨_, e, fun _ h => nomatch h⟩
  | dic e r z => exact ⟨_, e, fun _ h => nomatch h⟩
theorem RpL.length (h : RpL K A H vs ds) : vs.length = ds.length := by
  induction ds generalizing vs with
  | nil => cases h; rfl
  | cons d ds ih => cases h with | cons _ r => simp [ih r]
theorem RpL.app {vs' : List V} {ds' : List D} (h' : RpL K A H vs' ds') : ∀ {vs : List V} {ds : List D}, RpL K A H vs ds → RpL K A H (vs ++ vs') (ds ++ ds')
  | _, _, .nil => h'
  | _, _, .cons h r => .cons h (RpL.app h' r)
theorem RpL.one (h : Rp K A H v d) : RpL K A H [v] [d] := .cons h .nil
theorem RpL.get : ∀ {vs : List V} {ds : List D} {i : Nat} {d : D}, RpL K A H vs ds → ds[i]? = some d → ∃ v, vs[i]? = some v ∧ Rp K A H v d
  | _, _, _, _, .nil, e => by simp at e
  | _, _, 0, _, .cons h r, e => by simp at e; subst e; exact ⟨_, rfl, h⟩
  | _, _, i + 1, _, .cons h r, e => by
    obtain ⟨v, e', q⟩ := RpL.get (i := i) r (by simpa using e)
    exact ⟨v, by simpa using e', q⟩
theorem RpL.getV : ∀ {vs : List V} {ds : List D} {i : Nat} {v : V}, RpL K A H vs ds → vs[i]? = some v → ∃ d, ds[i]? = some d ∧ Rp K A H v d
  | _, _, _, _, .nil, e => by simp at e
  | _, _, 0, _, .cons h r, e => by simp at e; subst e; exact ⟨_, rfl, h⟩
  | _, _, i + 1, _, .cons h r, e => by
    obtain ⟨v, e', q⟩ := RpL.getV (i := i) r (by simpa using e)
    exact ⟨v, by simpa using e', q⟩
theorem RpL.set {v : V} {d : D} (h : Rp K A H v d) : ∀ {vs : List V} {ds : List D} (i : Nat), RpL K A H vs ds → RpL K A H (vs.set i v) (ds.set i d)
  | _, _, _, .nil => .nil
  | _, _, 0, .cons _ r => .cons h r
  | _, _, i + 1, .cons q r => .cons q (RpL.set h i r)
theorem RpL.take : ∀ {vs : List V} {ds : List D} (n : Nat), RpL K A H vs ds → RpL K A H (vs.take n) (ds.take n)
  | _, _, 0, _ => by simpa using RpL.nil
  | _, _, _ + 1, .nil => .nil
  | _, _, n + 1, .cons h r => .cons h (RpL.take n r)
theorem RpL.drop : ∀ {vs : List V} {ds : List D} (n : Nat), RpL K A H vs ds → RpL K A H (vs.drop n) (ds.drop n)
  | _, _, 0, r => r
  | _, _, _ + 1, .nil => .nil
  | _, _, n + 1, .cons _ r => RpL.drop n r
theorem RpL.eraseIdx : ∀ {vs : List V} {ds : List D} (n : Nat), RpL K A H vs ds → RpL K A H (vs.eraseIdx n) (ds.eraseIdx n)
  | _, _, _, .nil => .nil
  | _, _, 0, .cons _ r => r
  | _, _, n + 1, .cons h r => .cons h (RpL.eraseIdx n r)
theorem RpL.reverse : ∀ {vs : List V} {ds : List D}, RpL K A H vs ds → RpL K A H vs.reverse ds.reverse
  | _, _, .nil => .nil
  | _, _, .cons h r => by rw [List.reverse_cons, List.reverse_cons]; exact RpL.app (.one h) (RpL.reverse r)
theorem RpL.rep (h : RpL K A H vs ds) : ∀ n : Nat, RpL K A H (List.replicate n vs).flatten (List.replicate n ds).flatten
  | 0 => .nil
  | n + 1 => by rw [List.replicate_succ, List.replicate_succ]; exact RpL.app (RpL.rep h n) h
end

/-- no tuple -/
def NT (o : HO) : Prop := ∀ xs, o ≠ .tup xs
theorem NT.lst {xs : List V} : NT (.lst xs) := fun _ h => nomatch h
theorem NT.dK {xs : List (Key × V)} : NT (.dK xs) := fun _ h => nomatch h
/-! ### slots -/
def Av (A0 : Addr → Prop) (B : Nat → Option Addr) (a : Addr) : Prop := A0 a ∨ ∃ i, B i = some a

structure Sim (K : PySem.W.Frag) (H0 : Hp) (A0 : Addr → Prop) (G : List (V × D)) (O : List Nat) (σ : L2.St) (H : Hp) (ρ : PEnv) (B : Nat → Option Addr) : Prop where
  same : Same H0 H
  a0 : ∀ a, A0 a → ∃ o, H a = some o ∧ NT o
  len : ρ.length = σ.length
  bo : ∀ i a, B i = some a → i ∈ O
  inj : ∀ i j a, B i = some a → B j = some a → i = j
  fr : ∀ i a, B i = some a → H0 a = none ∧ ¬ A0 a ∧ ∃ o, H a = some o ∧ NT o
  ob : ∀ i d, i ∈ O → ρ[i]? = some (some d) → isMut d = true → ∃ a, B i = some a ∧ σ[i]? = some (some (.ref a)) ∧ Tp K (Av A0 B) H a d
  slot : ∀ i d, ρ[i]? = some (some d) → (∃ a, B i = some a ∧ σ[i]? = some (some (.ref a)) ∧ Tp K (Av A0 B) H a d) ∨ (B i = none ∧ ∃ v, σ[i]? = some (some v) ∧ Rp K (Av A0 B) H v d)
  gs : ∀ p ∈ G, Rp K (Av A0 B) H p.1 p.2

section
variable {K : PySem.W.Frag} {A0 A : Addr → Prop} {H0 H H' : Hp} {G : List (V × D)} {O O' : List Nat} {σ : L2.St} {ρ : PEnv} {B : Nat → Option Addr} {v : V} {d : D}
theorem Sim.tr (S : Sim K H0 A0 G O σ H ρ B) : ∀ a, Av A0 B a → ∃ o, H a = some o ∧ NT o := fun a h => by
  rcases h with h | ⟨i, h⟩
  · exact S.a0 a h
  · exact (S.fr i a h).2.2
theorem Sim.mono (S : Sim K H0 A0 G O σ H ρ B) (s : Same H H') : Sim K H0 A0 G O σ H' ρ B where
  same := S.same.trans s
  a0 := fun a h => let ⟨o, e, n⟩ := S.a0 a h; ⟨o, s _ _ e, n⟩
  len := S.len
  bo := S.bo
  inj := S.inj
  fr := fun i a h => let ⟨h1, h2, o, e, n⟩ := S.fr i a h; ⟨h1, h2, o, s _ _ e, n⟩
  ob := fun i d hi h m => let ⟨a, h1, h2, h3⟩ := S.ob i d hi h m; ⟨a, h1, h2, h3.mono s⟩
  slot := fun i d h => by
    rcases S.slot i d h with ⟨a, h1, h2, h3⟩ | ⟨h1, v, h2, h3⟩
    · exact .inl ⟨a, h1, h2, h3.mono s⟩
    · exact .inr ⟨h1, v, h2, h3.mono s⟩
  gs := fun p hp => (S.gs p hp).mono s
/-- a is not one of the tracked cells of A -/
theorem Sim.new (S : Sim K H0 A0 G O σ H ρ B) {a : Addr} (h : H a = none) : ¬ Av A0 B a := fun z => by
  obtain ⟨o, e, _⟩ := S.tr a z
  rw [h] at e; cases e
/-- fewer own slots -/
theorem Sim.weak (S : Sim K H0 A0 G O σ H ρ B) (h : ∀ i ∈ O', i ∈ O) : ∃ B', Sim K H0 A0 G O' σ H ρ B' := by
  let B' : Nat → Option Addr := fun i => if i ∈ O' then B i else none
  have sub : ∀ i a, B' i = some a → B i = some a ∧ i ∈ O' := fun i a e => by
    by_cases hi : i ∈ O'
    · exact ⟨by simpa [B', hi] using e, hi⟩
    · simp [B', hi] at e
  have an : ∀ a, Av A0 B' a → Av A0 B a := fun a z => by
    rcases z with z | ⟨i, z⟩
    · exact .inl z
    · exact .inr ⟨i, (sub i a z).1⟩
  have ans : ∀ a, Av A0 B' a → Av A0 B a ∨ H a = none := fun a z => .inl (an a z)
  refine ⟨B', ⟨S.same, S.a0, S.len, fun i a e => (sub i a e).2, fun i j a e e' => S.inj i j a (sub i a e).1 (sub j a e').1, fun i a e => S.fr i a (sub i a e).1, fun i d hi e m => ?_, fun i d e => ?_, fun p hp => (S.gs p hp).anti an⟩⟩
  · obtain ⟨a, h1, h2, h3⟩ := S.ob i d (h i hi) e m
    exact ⟨a, by simp [B', hi, h1], h2, h3.step (fun _ _ q _ => q) ans fun _ q => q⟩
  · rcases S.slot i d e with ⟨a, h1, h2, h3⟩ | ⟨h1, v, h2, h3⟩
    · by_cases hi : i ∈ O'
      · exact .inl ⟨a, by simp [B', hi, h1], h2, h3.step (fun _ _ q _ => q) ans fun _ q => q⟩
      · refine .inr ⟨by simp [B', hi], _, h2, (h3.step (fun _ _ q _ => q) ans fun _ q => q).rp fun z => ?_⟩
        rcases z with z | ⟨j, z⟩
        · exact (S.fr i a h1).2.1 z
        · obtain ⟨z1, z2⟩ := sub j a z
          have := S.inj i j a h1 z1
          subst this
          exact hi z2
    · refine .inr ⟨?_, v, h2, h3.anti an⟩
      by_cases hi : i ∈ O' <;> simp [B', hi, h1]
/-- the slots ts are nobody's own -/
def restr (ts : List Nat) (B : Nat → Option Addr) : Nat → Option Addr := fun j => if ts.contains j then none else B j
theorem restr_one (i j : Nat) (B : Nat → Option Addr) : restr [i] B j = if j = i then none else B j := by
  by_cases h : j = i
  · simp [restr, h]
  · have : ([i].contains j) = false := by simp [h]
    simp [restr, this, h]
theorem restr_sub {ts : List Nat} {B : Nat → Option Addr} {j : Nat} {a : Addr} (h : restr ts B j = some a) : B j = some a := by
  unfold restr at h
  split at h
  · cases h
  · exact h
theorem restr_av {ts : List Nat} {B : Nat → Option Addr} {A0 : Addr → Prop} {a : Addr} (h : Av A0 (restr ts B) a) : Av A0 B a := by
  rcases h with h | ⟨i, h⟩
  · exact .inl h
  · exact .inr ⟨i, restr_sub h⟩
theorem restr_app (ts us : List Nat) (B : Nat → Option Addr) : restr us (restr ts B) = restr (ts ++ us) B := by
  funext j
  unfold restr
  by_cases h1 : us.contains j <;> by_cases h2 : ts.contains j <;> simp_all
theorem restr_nil (B : Nat → Option Addr) : restr [] B = B := by
  funext j
  simp [restr]
/-- a slot takes a value that is not one's own -/
theorem Sim.setS (S : Sim K H0 A0 G O σ H ρ B) {i : Nat} (r : Rp K (Av A0 B) H v d) (hi : i < ρ.length) : Sim K H0 A0 G (O.filter (· != i)) (σ.set i (some v)) H (ρ.set i (some d)) (restr [i] B) := by
  have sub : ∀ j a, restr [i] B j = some a → B j = some a ∧ j ≠ i := fun j a e => by
    rw [restr_one] at e
    by_cases hj : j = i
    · simp [hj] at e
    · exact ⟨by simpa [hj] using e, hj⟩
  have an : ∀ a, Av A0 (restr [i] B) a → Av A0 B a := fun a z => restr_av z
  have ans : ∀ a, Av A0 (restr [i] B) a → Av A0 B a ∨ H a = none := fun a z => .inl (an a z)
  have hiσ : i < σ.length := by rw [← S.len]; exact hi
  refine ⟨S.same, S.a0, by simp [S.len], fun j a e => ?_, fun j k a e e' => S.inj j k a (sub j a e).1 (sub k a e').1, fun j a e => S.fr j a (sub j a e).1, fun j d' hj e m => ?_, fun j d' e => ?_, fun p hp => (S.gs p hp).anti an⟩
  · exact List.mem_filter.mpr ⟨S.bo j a (sub j a e).1, by simp [(sub j a e).2]⟩
  · obtain ⟨hj1, hj2⟩ := List.mem_filter.mp hj
    have hne : j ≠ i := by simpa using hj2
    rw [List.getElem?_set_ne (Ne.symm hne)] at e
    obtain ⟨a, h1, h2, h3⟩ := S.ob j d' hj1 e m
    exact ⟨a, by rw [restr_one, if_neg hne, h1], by rw [List.getElem?_set_ne (Ne.symm hne)]; exact h2, h3.step (fun _ _ q _ => q) ans fun _ q => q⟩
  · by_cases hne : j = i
    · subst hne
      rw [List.getElem?_set_self hi] at e
      cases e
      exact .inr ⟨by rw [restr_one, if_pos rfl], v, by rw [List.getElem?_set_self hiσ], r.anti an⟩
    · rw [List.getElem?_set_ne (Ne.symm hne)] at e
      rw [List.getElem?_set_ne (Ne.symm hne)]
      rcases S.slot j d' e with ⟨a, h1, h2, h3⟩ | ⟨h1, v, h2, h3⟩
      · exact .inl ⟨a, by rw [restr_one, if_neg hne, h1], h2, h3.step (fun _ _ q _ => q) ans fun _ q => q⟩
      · exact .inr ⟨by rw [restr_one, if_neg hne, h1], v, h2, h3.anti an⟩
/-- a slot takes a new cell as its own -/
theorem Sim.setF (S : Sim K H0 A0 G O σ H ρ B) (s : Same H H') {i : Nat} {a : Addr} (hn : H a = none) (r : Tp K (fun b => Av A0 B b ∨ b = a) H' a d) (hi : i < ρ.length) : ∃ B', Sim K H0 A0 G (i :: O) (σ.set i (some (.ref a))) H' (ρ.set i (some d)) B' := by
  let B' : Nat → Option Addr := fun j => if j = i then some a else B j
  have sub : ∀ j b, B' j = some b → (j = i ∧ b = a) ∨ (j ≠ i ∧ B j = some b) := fun j b e => by
    by_cases hj : j = i
    · simp [B', hj] at e; exact .inl ⟨hj, e.symm⟩
    · exact .inr ⟨hj, by simpa [B', hj] using e⟩
  have an : ∀ b, Av A0 B' b → Av A0 B b ∨ b = a := fun b z => by
    rcases z with z | ⟨j, z⟩
    · exact .inl (.inl z)
    · rcases sub j b z with ⟨_, q⟩ | ⟨_, q⟩
      · exact .inr q
      · exact .inl (.inr ⟨j, q⟩)
  have ans : ∀ b, Av A0 B' b → Av A0 B b ∨ H b = none := fun b z => by
    rcases an b z with z | z
    · exact .inl z
    · exact .inr (by rw [z]; exact hn)
  have kp : ∀ b o, H b = some o → ¬ Av A0 B b → H' b = some o := fun b o e _ => s b o e
  have hiσ : i < σ.length := by rw [← S.len]; exact hi
  have na : ¬ A0 a := fun z => by
    obtain ⟨o, e, _⟩ := S.a0 a z
    rw [hn] at e; cases e
  have nb : ∀ j, B j ≠ some a := fun j z => by
    obtain ⟨_, _, o, e, _⟩ := S.fr j a z
    rw [hn] at e; cases e
  refine ⟨B', ⟨S.same.trans s, fun b z => let ⟨o, e, n⟩ := S.a0 b z; ⟨o, s _ _ e, n⟩, by simp [S.len], fun j b e => ?_, fun j k b e e' => ?_, fun j b e => ?_, fun j d' hj e m => ?_, fun j d' e => ?_, fun p hp => (S.gs p hp).step kp ans⟩⟩
  · rcases sub j b e with ⟨q, _⟩ | ⟨_, q⟩
    · rw [q]; exact List.mem_cons_self
    · exact List.mem_cons_of_mem _ (S.bo j b q)
  · rcases sub j b e with ⟨q, q'⟩ | ⟨q, q'⟩
    · rcases sub k b e' with ⟨p, p'⟩ | ⟨p, p'⟩
      · rw [q, p]
      · rw [q'] at p'; exact absurd p' (nb k)
    · rcases sub k b e' with ⟨p, p'⟩ | ⟨p, p'⟩
      · rw [p'] at q'; exact absurd q' (nb j)
      · exact S.inj j k b q' p'
  · rcases sub j b e with ⟨q, q'⟩ | ⟨q, q'⟩
    · rw [q']
      refine ⟨?_, na, r.some⟩
      exact S.same.free hn
    · obtain ⟨h1, h2, o, h3, h4⟩ := S.fr j b q'
      exact ⟨h1, h2, o, s _ _ h3, h4⟩
  · by_cases hne : j = i
    · subst hne
      rw [List.getElem?_set_self hi] at e
      cases e
      exact ⟨a, by simp [B'], by rw [List.getElem?_set_self hiσ], r.step (fun _ _ q _ => q) (fun b z => .inl (an b z)) fun _ q => q⟩
    · rw [List.getElem?_set_ne (Ne.symm hne)] at e
      rw [List.getElem?_set_ne (Ne.symm hne)]
      rcases List.mem_cons.mp hj with hj | hj
      · exact absurd hj hne
      obtain ⟨b, h1, h2, h3⟩ := S.ob j d' hj e m
      exact ⟨b, by simp [B', hne, h1], h2, h3.step kp ans fun o q => s _ _ q⟩
  · by_cases hne : j = i
    · subst hne
      rw [List.getElem?_set_self hi] at e
      cases e
      exact .inl ⟨a, by simp [B'], by rw [List.getElem?_set_self hiσ], r.step (fun _ _ q _ => q) (fun b z => .inl (an b z)) fun _ q => q⟩
    · rw [List.getElem?_set_ne (Ne.symm hne)] at e
      rw [List.getElem?_set_ne (Ne.symm hne)]
      rcases S.slot j d' e with ⟨b, h1, h2, h3⟩ | ⟨h1, v, h2, h3⟩
      · exact .inl ⟨b, by simp [B', hne, h1], h2, h3.step kp ans fun o q => s _ _ q⟩
      · exact .inr ⟨by simp [B', hne, h1], v, h2, h3.step kp ans⟩
/-- an own cell is written -/
theorem Sim.write (S : Sim K H0 A0 G O σ H ρ B) {i : Nat} {a : Addr} {o : HO} (hb : B i = some a) (hs : σ[i]? = some (some (.ref a))) (r : Tp K (Av A0 B) (upd H a o) a d) (hi : i < ρ.length) : Sim K H0 A0 G O σ (upd H a o) (ρ.set i (some d)) B := by
  obtain ⟨f0, f1, o1, f2, f3⟩ := S.fr i a hb
  have nt : NT o := by
    obtain ⟨o', e, n⟩ := r.some
    rw [upd_same] at e
    cases e
    exact n
  have av : Av A0 B a := .inr ⟨i, hb⟩
  have kp : ∀ b q, H b = some q → ¬ Av A0 B b → upd H a o b = some q := fun b q e n => by
    rw [upd_ne (fun z => n (by rw [z]; exact av))]; exact e
  have kn : ∀ b q, H b = some q → b ≠ a → upd H a o b = some q := fun b q e n => by
    rw [upd_ne n]; exact e
  have ans : ∀ b, Av A0 B b → Av A0 B b ∨ H b = none := fun b z => .inl z
  have there : ∀ b, (∃ q, H b = some q ∧ NT q) → ∃ q, upd H a o b = some q ∧ NT q := fun b ⟨q, e, n⟩ => by
    by_cases hb : b = a
    · subst hb; exact ⟨o, upd_same, nt⟩
    · exact ⟨q, kn b q e hb, n⟩
  refine ⟨fun b q e => ?_, fun b z => there b (S.a0 b z), by simp [S.len], S.bo, S.inj, fun j b e => ?_, fun j d' hj e m => ?_, fun j d' e => ?_, fun p hp => (S.gs p hp).step kp ans⟩
  · exact kn b q (S.same b q e) (fun z => by rw [z, f0] at e; cases e)
  · obtain ⟨h1, h2, h3⟩ := S.fr j b e
    exact ⟨h1, h2, there b h3⟩
  · by_cases hne : j = i
    · subst hne
      rw [List.getElem?_set_self hi] at e
      cases e
      exact ⟨a, hb, hs, r⟩
    · rw [List.getElem?_set_ne (Ne.symm hne)] at e
      obtain ⟨b, h1, h2, h3⟩ := S.ob j d' hj e m
      refine ⟨b, h1, h2, h3.step kp ans fun q z => kn b q z fun w => hne ?_⟩
      rw [w] at h1
      exact S.inj j i a h1 hb
  · by_cases hne : j = i
    · subst hne
      rw [List.getElem?_set_self hi] at e
      cases e
      exact .inl ⟨a, hb, hs, r⟩
    · rw [List.getElem?_set_ne (Ne.symm hne)] at e
      rcases S.slot j d' e with ⟨b, h1, h2, h3⟩ | ⟨h1, v, h2, h3⟩
      · refine .inl ⟨b, h1, h2, h3.step kp ans fun q z => kn b q z fun w => hne ?_⟩
        rw [w] at h1
        exact S.inj j i a h1 hb
      · exact .inr ⟨h1, v, h2, h3.step kp ans⟩
/-- one more cell that is kept off (a comprehension's list) -/
theorem Sim.guard (S : Sim K H0 A0 G O σ H ρ B) {a : Addr} (hn : H a = none) (s : Same H H') (ht : ∃ o, H' a = some o ∧ NT o) : Sim K H0 (fun b => A0 b ∨ b = a) G O σ H' ρ B := by
  have kp : ∀ b o, H b = some o → ¬ Av A0 B b → H' b = some o := fun b o e _ => s b o e
  have ans : ∀ b, Av (fun b => A0 b ∨ b = a) B b → Av A0 B b ∨ H b = none := fun b z => by
    rcases z with (z | z) | z
    · exact .inl (.inl z)
    · exact .inr (by rw [z]; exact hn)
    · exact .inl (.inr z)
  refine ⟨S.same.trans s, fun b z => ?_, S.len, S.bo, S.inj, fun i b e => ?_, fun i d hi e m => ?_, fun i d e => ?_, fun p hp => (S.gs p hp).step kp ans⟩
  · rcases z with z | z
    · obtain ⟨o, e, n⟩ := S.a0 b z
      exact ⟨o, s _ _ e, n⟩
    · rw [z]; exact ht
  · obtain ⟨h1, h2, o, h3, h4⟩ := S.fr i b e
    refine ⟨h1, fun z => ?_, o, s _ _ h3, h4⟩
    rcases z with z | z
    · exact h2 z
    · rw [z, hn] at h3; cases h3
  · obtain ⟨b, h1, h2, h3⟩ := S.ob i d hi e m
    exact ⟨b, h1, h2, h3.step kp ans fun o q => s _ _ q⟩
  · rcases S.slot i d e with ⟨b, h1, h2, h3⟩ | ⟨h1, v, h2, h3⟩
    · exact .inl ⟨b, h1, h2, h3.step kp ans fun o q => s _ _ q⟩
    · exact .inr ⟨h1, v, h2, h3.step kp ans⟩
/-- one more ghost -/
theorem Sim.ghost (S : Sim K H0 A0 G O σ H ρ B) {G' : List (V × D)} (h : ∀ p ∈ G', Rp K (Av A0 B) H p.1 p.2) : Sim K H0 A0 (G' ++ G) O σ H ρ B :=
  ⟨S.same, S.a0, S.len, S.bo, S.inj, S.fr, S.ob, S.slot, fun p hp => (List.mem_append.mp hp).elim (h p) (S.gs p)⟩
theorem Sim.unghost {G' : List (V × D)} (S : Sim K H0 A0 (G' ++ G) O σ H ρ B) : Sim K H0 A0 G O σ H ρ B :=
  ⟨S.same, S.a0, S.len, S.bo, S.inj, S.fr, S.ob, S.slot, fun p hp => S.gs p (List.mem_append_right _ hp)⟩
/-- a slot is forgotten -/
theorem Sim.drop (S : Sim K H0 A0 G O σ H ρ B) (i : Nat) (hO : i ∉ O) : Sim K H0 A0 G O (σ.set i none) H (ρ.set i none) B := by
  have nb : ∀ j a, B j = some a → j ≠ i := fun j a e z => hO (z ▸ S.bo j a e)
  have ne : ∀ j d, (ρ.set i none)[j]? = some (some d) → j ≠ i ∧ ρ[j]? = some (some d) := fun j d e => by
    by_cases hj : j = i
    · subst hj
      by_cases hl : j < ρ.length
      · rw [List.getElem?_set_self hl] at e; cases e
      · rw [List.getElem?_eq_none (by simpa using hl)] at e; cases e
    · rw [List.getElem?_set_ne (Ne.symm hj)] at e
      exact ⟨hj, e⟩
  refine ⟨S.same, S.a0, by simp [S.len], S.bo, S.inj, S.fr, fun j d hj e m => ?_, fun j d e => ?_, S.gs⟩
  · obtain ⟨h, e⟩ := ne j d e
    rw [List.getElem?_set_ne (Ne.symm h)]
    exact S.ob j d hj e m
  · obtain ⟨h, e⟩ := ne j d e
    rw [List.getElem?_set_ne (Ne.symm h)]
    exact S.slot j d e
end
end Pm

namespace Pm
open PySem PySem.Spec PyProof.Rows L2

/-- weak, strong, fresh -/
inductive Md where | w | s | f
  deriving DecidableEq

def WRp (K : PySem.W.Frag) (A : Addr → Prop) (H : Hp) (v : V) (d : D) : Prop := Rp K A H v d ∨ ∃ a, v = V.ref a ∧ Tp K A H a d
def Res (K : PySem.W.Frag) (A : Addr → Prop) (He H' : Hp) : Md → V → D → Prop
  | .w, v, d => WRp K A H' v d
  | .s, v, d => Rp K A H' v d
  | .f, v, d => (∃ a, v = V.ref a ∧ He a = none ∧ Tp K (fun b => A b ∨ b = a) H' a d) ∨ (Rp K A H' v d ∧ isMut d = false)
/-- all that is kept off is tracked -/
def Tr (A : Addr → Prop) (H : Hp) : Prop := ∀ a, A a → ∃ o, H a = some o ∧ NT o

section
variable {K : PySem.W.Frag} {A A' : Addr → Prop} {H He H' H'' : Hp} {v : V} {d : D} {m : Md}
theorem Tr.mono (t : Tr A H) (s : Same H H') : Tr A H' := fun a h => let ⟨o, e, n⟩ := t a h; ⟨o, s _ _ e, n⟩
theorem Tr.no (t : Tr A H) {a : Addr} (h : H a = none) : ¬ A a := fun z => by
  obtain ⟨o, e, _⟩ := t a z
  rw [h] at e; cases e
theorem WRp.mono (s : Same H H') (h : WRp K A H v d) : WRp K A H' v d := by
  rcases h with h | ⟨a, e, h⟩
  · exact .inl (h.mono s)
  · exact .inr ⟨a, e, h.mono s⟩
theorem Res.mono (s : Same H' H'') (h : Res K A He H' m v d) : Res K A He H'' m v d := by
  cases m with
  | w => exact WRp.mono s h
  | s => exact Rp.mono s h
  | f =>
    rcases h with ⟨a, e, n, h⟩ | ⟨h, n⟩
    · exact .inl ⟨a, e, n, h.mono s⟩
    · exact .inr ⟨h.mono s, n⟩
theorem Res.back (s : Same He H) (h : Res K A H H' m v d) : Res K A He H' m v d := by
  cases m with
  | w => exact h
  | s => exact h
  | f =>
    rcases h with ⟨a, e, n, h⟩ | h
    · exact .inl ⟨a, e, s.free n, h⟩
    · exact .inr h
theorem Res.toW (h : Res K A He H' m v d) : WRp K A H' v d := by
  cases m with
  | w => exact h
  | s => exact .inl h
  | f =>
    rcases h with ⟨a, e, n, h⟩ | h
    · exact .inr ⟨a, e, h.step (fun _ _ q _ => q) (fun _ z => .inl (.inl z)) fun _ q => q⟩
    · exact .inl h.1
theorem Res.toS (t : Tr A He) (hm : m ≠ .w) (h : Res K A He H' m v d) : Rp K A H' v d := by
  cases m with
  | w => exact absurd rfl hm
  | s => exact h
  | f =>
    rcases h with ⟨a, e, n, h⟩ | h
    · subst e
      exact (h.step (fun _ _ q _ => q) (fun _ z => .inl (.inl z)) fun _ q => q : Tp K A H' a d).rp (t.no n)
    · exact h.1
/-- a value without a cell of its own to be written -/
theorem Res.flat (h : Rp K A H' v d) (n : isMut d = false) : Res K A He H' m v d := by
  cases m with
  | w => exact .inl h
  | s => exact h
  | f => exact .inr ⟨h, n⟩
theorem Res.int {i : Int} : Res K A He H' m (.int i) (.int i) := Res.flat (.int i) rfl
theorem Res.bl {b : Bool} : Res K A He H' m (.bl b) (.bool b) := Res.flat (.bl b) rfl
theorem Res.non : Res K A He H' m .non .none := Res.flat .non rfl
theorem Res.str {b : Str} : Res K A He H' m (.str b) (.str b) := Res.flat (.str b) rfl
/-- a new list, a new tuple -/
theorem Res.newL {p : Addr} {vs : List V} {ds : List D} (t : Tr A H) (hn : H p = none) (r : RpL K A H vs ds) (s : Same He H) : Res K A He (upd H p (.lst vs)) .f (.ref p) (.list ds) := by
  refine .inl ⟨p, rfl, s.free hn, .lst upd_same ?_⟩
  refine r.step (fun a o e _ => ?_) fun a z => ?_
  · rw [upd_ne (ne_of_none e hn)]; exact e
  · rcases z with z | z
    · exact .inl z
    · exact .inr (by rw [z]; exact hn)
theorem same_upd {p : Addr} {o : HO} (h : H p = none) : Same H (upd H p o) := fun b x e => by
  rw [upd_ne (ne_of_none e h)]; exact e
theorem Rp.newT {p : Addr} {vs : List V} {ds : List D} (t : Tr A H) (hn : H p = none) (r : RpL K A H vs ds) : Rp K A (upd H p (.tup vs)) (.ref p) (.tuple ds) :=
  .tup upd_same (t.no hn) (r.mono (same_upd hn))
theorem WRp.int {i : Int} (h : WRp K A H v (.int i)) : v = .int i := by
  rcases h with h | ⟨a, e, h⟩
  · cases h; rfl
  · cases h
theorem WRp.bl {i : Bool} (h : WRp K A H v (.bool i)) : v = .bl i := by
  rcases h with h | ⟨a, e, h⟩
  · cases h; rfl
  · cases h
theorem WRp.non (h : WRp K A H v .none) : v = .non := by
  rcases h with h | ⟨a, e, h⟩
  · cases h; rfl
  · cases h
theorem WRp.str {i : Str} (h : WRp K A H v (.str i)) : v = .str i := by
  rcases h with h | ⟨a, e, h⟩
  · cases h; rfl
  · cases h
theorem WRp.lst {ds : List D} (h : WRp K A H v (.list ds)) : ∃ a xs, v = .ref a ∧ H a = some (.lst xs) ∧ RpL K A H xs ds := by
  rcases h with h | ⟨a, e, h⟩
  · cases h with
    | lst h n r => exact ⟨_, _, rfl, h, r⟩
  · cases h with
    | lst h r => exact ⟨_, _, e, h, r⟩
theorem WRp.tup {ds : List D} (h : WRp K A H v (.tuple ds)) : ∃ a xs, v = .ref a ∧ H a = some (.tup xs) ∧ ¬ A a ∧ RpL K A H xs ds := by
  rcases h with h | ⟨a, e, h⟩
  · cases h with
    | tup h n r => exact ⟨_, _, rfl, h, n, r⟩
  · cases h
theorem WRp.scr {ds : List D} (h : WRp K A H v (.dict [(.none, .list ds)])) : ∃ a xs, v = .ref a ∧ SqL K H a xs ∧ RpL K A H xs ds := by
  rcases h with h | ⟨a, e, h⟩
  · cases h with
    | scr h n r => exact ⟨_, _, rfl, .inl h, r⟩
    | kl h r => exact ⟨_, _, rfl, .inr h, r⟩
    | dic h n r e =>
      rename_i ks ds'
      cases ks with
      | nil => simp at e
      | cons p ks =>
        cases ds' with
        | nil => simp at e
        | cons d' ds' =>
          simp only [List.map_cons, List.zip_cons_cons, List.cons.injEq, Prod.mk.injEq] at e
          obtain ⟨⟨e, _⟩, _⟩ := e
          obtain ⟨k, _⟩ := p
          cases k <;> cases e
  · cases h with
    | dic h r e =>
      rename_i ks ds'
      cases ks with
      | nil => simp at e
      | cons p ks =>
        cases ds' with
        | nil => simp at e
        | cons d' ds' =>
          simp only [List.map_cons, List.zip_cons_cons, List.cons.injEq, Prod.mk.injEq] at e
          obtain ⟨⟨e, _⟩, _⟩ := e
          obtain ⟨k, _⟩ := p
          cases k <;> cases e
end

/-! ### judgements -/
def simT (K : PySem.W.Frag) (O : List Nat) (m : Md) (f : Xp) : TE := fun σ H Q => ∃ H0 A0 G ρ B d, Sim K H0 A0 G O σ H ρ B ∧ f ρ = some d ∧ ∀ v H', Same H H' → Res K (Av A0 B) H H' m v d → Q v H'
structure SE (X : Cx) (O : List Nat) (m : Md) (e : Expr) (f : Xp) : Prop where
  pe : PE X e (simT X.K O m f)
def simTT (K : PySem.W.Frag) (O : List Nat) (f : PEnv → Option Bool) : TT := fun σ H Q => ∃ H0 A0 G ρ B b, Sim K H0 A0 G O σ H ρ B ∧ f ρ = some b ∧ ∀ H', Same H H' → Q b H'
structure ST (X : Cx) (O : List Nat) (e : Expr) (f : PEnv → Option Bool) : Prop where
  pt : PT X e (simTT X.K O f)
def ResL (K : PySem.W.Frag) (A : Addr → Prop) (H : Hp) (strong : Bool) (vs : List V) (ds : List D) : Prop := if strong then RpL K A H vs ds else Paired (WRp K A H) vs ds
def simA (K : PySem.W.Frag) (O : List Nat) (strong : Bool) (f : PEnv → Option (List D)) : TA := fun σ H Q => ∃ H0 A0 G ρ B ds, Sim K H0 A0 G O σ H ρ B ∧ f ρ = some ds ∧ ∀ vs H', Same H H' → ResL K (Av A0 B) H' strong vs ds → Q vs H'
structure SA (X : Cx) (O : List Nat) (strong : Bool) (es : List Expr) (f : PEnv → Option (List D)) : Prop where
  pa : PA X es (simA X.K O strong f)

theorem pe_imp {X : Cx} {e : Expr} {t t' : TE} (h : PE X e t) (hi : ∀ σ H Q, t' σ H Q → t σ H Q) : PE X e t' := ⟨fun pins s σ H Q I q => h.run pins s σ H Q I (hi _ _ _ q)⟩
theorem pt_imp {X : Cx} {e : Expr} {t t' : TT} (h : PT X e t) (hi : ∀ σ H Q, t' σ H Q → t σ H Q) : PT X e t' := ⟨fun pins s σ H Q I q => h.run pins s σ H Q I (hi _ _ _ q)⟩
theorem pa_imp {X : Cx} {e : List Expr} {t t' : TA} (h : PA X e t) (hi : ∀ σ H Q, t' σ H Q → t σ H Q) : PA X e t' := ⟨fun pos pins s σ H Q I q => h.run pos pins s σ H Q I (hi _ _ _ q)⟩
theorem ps_imp {X : Cx} {e : Stmt} {t t' : TS} (h : PS X e t) (hi : ∀ D σ H, t' D σ H → t D σ H) : PS X e t' := ⟨fun pins s σ H Q I q => h.run pins s σ H Q I (hi _ _ _ q)⟩
theorem pss_imp {X : Cx} {e : List Stmt} {t t' : TS} (h : PSs X e t) (hi : ∀ D σ H, t' D σ H → t D σ H) : PSs X e t' := ⟨fun pins s σ H Q I q => h.run pins s σ H Q I (hi _ _ _ q)⟩

/-! ### names, constants -/
def xVar (i : Nat) : Xp := fun ρ => ρ.getD i none
def xC (d : D) : Xp := fun _ => some d
theorem getD_some {ρ : PEnv} {i : Nat} {d : D} (h : ρ.getD i none = some d) : ρ[i]? = some (some d) := by
  rw [List.getD_eq_getElem?_getD] at h
  cases e : ρ[i]? with
  | none => rw [e] at h; cases h
  | some x => rw [e] at h; exact congrArg some h
section
variable {X : Cx} {O : List Nat} {m ma mb : Md} {a b c e : Expr} {es : List Expr} {fa fb fc f : Xp} {pos : Pos}
theorem se_var (i : Nat) {x : Str} (hN : X.N[i]? = some x := by rfl) (hv : Vis X.env.scope x := by first | exact Or.inl rfl | exact Or.inr (Or.inl rfl) | exact Or.inr (Or.inr rfl)) (ho : O.contains i = false := by rfl)
    (hd : (x == ("__debug__" : Str)) = false := by decide) (hcd : (x == ("__classdict__" : Str)) = false := by decide) : SE X O .s (.Name x pos) (xVar i) := by
  refine ⟨pe_imp (pe_var hN hv hd hcd) fun σ H Q h => ?_⟩
  obtain ⟨H0, A0, G, ρ, B, d, S, e, k⟩ := h
  rcases S.slot i d (getD_some e) with ⟨a, h1, _, _⟩ | ⟨_, v, h2, h3⟩
  · have := S.bo i a h1
    simp at ho
    exact absurd this ho
  · exact ⟨v, h2, k v H (Same.refl H) h3⟩
theorem se_varW (i : Nat) {x : Str} (hN : X.N[i]? = some x := by rfl) (hv : Vis X.env.scope x := by first | exact Or.inl rfl | exact Or.inr (Or.inl rfl) | exact Or.inr (Or.inr rfl))
    (hd : (x == ("__debug__" : Str)) = false := by decide) (hcd : (x == ("__classdict__" : Str)) = false := by decide) : SE X O .w (.Name x pos) (xVar i) := by
  refine ⟨pe_imp (pe_var hN hv hd hcd) fun σ H Q h => ?_⟩
  obtain ⟨H0, A0, G, ρ, B, d, S, e, k⟩ := h
  rcases S.slot i d (getD_some e) with ⟨a, h1, h2, h3⟩ | ⟨_, v, h2, h3⟩
  · exact ⟨_, h2, k _ H (Same.refl H) (.inr ⟨a, rfl, h3⟩)⟩
  · exact ⟨v, h2, k v H (Same.refl H) (.inl h3)⟩
theorem se_int {i j} : SE X O .f (.Constant (.int i) j pos) (xC (.int i)) :=
  ⟨pe_imp pe_int fun σ H Q ⟨H0, A0, G, ρ, B, d, S, e, k⟩ => by cases e; exact k _ H (Same.refl H) Res.int⟩
theorem se_bl {i j} : SE X O .f (.Constant (.bool i) j pos) (xC (.bool i)) :=
  ⟨pe_imp pe_bl fun σ H Q ⟨H0, A0, G, ρ, B, d, S, e, k⟩ => by cases e; exact k _ H (Same.refl H) Res.bl⟩
theorem se_non {j} : SE X O .f (.Constant .none j pos) (xC .none) :=
  ⟨pe_imp pe_non fun σ H Q ⟨H0, A0, G, ρ, B, d, S, e, k⟩ => by cases e; exact k _ H (Same.refl H) Res.non⟩
theorem se_str {i j} : SE X O .f (.Constant (.str i) j pos) (xC (.str i)) :=
  ⟨pe_imp pe_str fun σ H Q ⟨H0, A0, G, ρ, B, d, S, e, k⟩ => by cases e; exact k _ H (Same.refl H) Res.str⟩

/-! ### operators by values -/
def xBin (g : D → D → Option D) (fa fb : Xp) : Xp := fun ρ => (fa ρ).bind fun x => (fb ρ).bind fun y => g x y
def xUn (g : D → Option D) (fa : Xp) : Xp := fun ρ => (fa ρ).bind g
def rD (K : PySem.W.Frag) (m : Md) (g : D → D → Option D) : R2 := fun x y H Q => ∃ A dx dy d, Tr A H ∧ WRp K A H x dx ∧ WRp K A H y dy ∧ g dx dy = some d ∧ ∀ v H', Same H H' → Res K A H H' m v d → Q v H'
def rD1 (K : PySem.W.Frag) (m : Md) (g : D → Option D) : V → Hp → VK → Prop := fun x H Q => ∃ A dx d, Tr A H ∧ WRp K A H x dx ∧ g dx = some d ∧ ∀ v H', Same H H' → Res K A H H' m v d → Q v H'
theorem bind2 {α β : Type} {a : Option α} {b : α → Option β} {c : β} (h : a.bind b = some c) : ∃ x, a = some x ∧ b x = some c := Option.bind_eq_some_iff.mp h
theorem tOp_of {g : D → D → Option D} (σ : L2.St) (H : Hp) (Q : VK) (h : simT X.K O m (xBin g fa fb) σ H Q) : tOp (rD X.K m g) (simT X.K O ma fa) (simT X.K O mb fb) σ H Q := by
  obtain ⟨H0, A0, G, ρ, B, d, S, e, k⟩ := h
  obtain ⟨x, ex, e⟩ := bind2 e
  obtain ⟨y, ey, e⟩ := bind2 e
  refine ⟨H0, A0, G, ρ, B, x, S, ex, fun v H1 s1 r1 => ⟨H0, A0, G, ρ, B, y, S.mono s1, ey, fun u H2 s2 r2 => ?_⟩⟩
  exact ⟨Av A0 B, x, y, d, (S.mono (s1.trans s2)).tr, r1.toW.mono s2, r2.toW, e, fun z H3 s3 r3 => k z H3 ((s1.trans s2).trans s3) (r3.back (s1.trans s2))⟩
theorem se_op {op : Operator} {g : D → D → Option D} (ho : OpR X (binaryOp op) (rD X.K m g)) (ha : SE X O ma a fa) (hb : SE X O mb b fb) : SE X O m (.BinOp a op b pos) (xBin g fa fb) :=
  ⟨pe_imp (pe_op ho ha.pe hb.pe) tOp_of⟩
theorem se_cmp {op : CmpOp} {g : D → D → Option D} (ho : OpR X (compareOp op) (rD X.K m g)) (ha : SE X O ma a fa) (hb : SE X O mb b fb) (hm : behindInMarks op b = false := by first | exact nomark _ | rfl) : SE X O m (.Compare a [op] [b] pos) (xBin g fa fb) :=
  ⟨pe_imp (pe_cmpR ho ha.pe hb.pe hm) tOp_of⟩
/-- a comparison's answer as a test -/
def tB2 (g : D → D → Option D) (fa fb : Xp) : PEnv → Option Bool := fun ρ => (fa ρ).bind fun x => (fb ρ).bind fun y => (g x y).bind fun z => match z with | .bool b => some b | _ => none
def dB (d : D) : Option Bool := match d with | .bool b => some b | _ => none
theorem dB_some {d : D} {b : Bool} (h : dB d = some b) : d = .bool b := by
  cases d <;> simp_all [dB]
def tOf (f : Xp) : PEnv → Option Bool := fun ρ => (f ρ).bind dB
theorem st_cmp {op : CmpOp} {g : D → D → Option D} (ho : OpR X (compareOp op) (rD X.K .f g)) (ha : SE X O ma a fa) (hb : SE X O mb b fb) (hm : behindInMarks op b = false := by first | exact nomark _ | rfl) : ST X O (.Compare a [op] [b] pos) (tOf (xBin g fa fb)) := by
  refine ⟨pt_imp (pt_cmpR ho ha.pe hb.pe hm) fun σ H Q h => ?_⟩
  obtain ⟨H0, A0, G, ρ, B, b, S, e, k⟩ := h
  obtain ⟨d, ed, e⟩ := bind2 e
  have := dB_some e
  subst this
  refine tOp_of (m := .f) σ H _ ⟨H0, A0, G, ρ, B, _, S, ed, fun v H' s r => ?_⟩
  exact ⟨b, r.toW.bl, k H' s⟩
theorem se_un {op : UnaryOp} {g : D → Option D} (ho : UnR X (unaryOp op) (rD1 X.K m g)) (ha : SE X O ma a fa) : SE X O m (.UnaryOp op a pos) (xUn g fa) := by
  refine ⟨pe_imp (pe_un ho ha.pe) fun σ H Q h => ?_⟩
  obtain ⟨H0, A0, G, ρ, B, d, S, e, k⟩ := h
  obtain ⟨x, ex, e⟩ := bind2 e
  exact ⟨H0, A0, G, ρ, B, x, S, ex, fun v H1 s1 r1 => ⟨Av A0 B, x, d, (S.mono s1).tr, r1.toW, e, fun z H3 s3 r3 => k z H3 (s1.trans s3) (r3.back s1)⟩⟩

/-! ### tests -/
def tNotP (f : PEnv → Option Bool) : PEnv → Option Bool := fun ρ => (f ρ).map (!·)
def tAndP (f g : PEnv → Option Bool) : PEnv → Option Bool := fun ρ => (f ρ).bind fun b => if b then g ρ else some false
def tOrP (f g : PEnv → Option Bool) : PEnv → Option Bool := fun ρ => (f ρ).bind fun b => if b then some true else g ρ
theorem st_not {f : PEnv → Option Bool} (h : ST X O a f) : ST X O (.UnaryOp .Not a pos) (tNotP f) := by
  refine ⟨pt_imp (pt_not h.pt) fun σ H Q q => ?_⟩
  obtain ⟨H0, A0, G, ρ, B, b, S, e, k⟩ := q
  obtain ⟨x, ex, e⟩ := Option.map_eq_some_iff.mp e
  subst e
  exact ⟨H0, A0, G, ρ, B, x, S, ex, fun H' s => k H' s⟩
/-- and, or of tests -/
structure SW (X : Cx) (O : List Nat) (e : Expr) (f : PEnv → Option Bool) : Prop where
  pw : PW X e (simTT X.K O f)
theorem SW.st {f : PEnv → Option Bool} (h : SW X O a f) : ST X O a f := ⟨h.pw.pt⟩
theorem sw_and1 {f : PEnv → Option Bool} (h : ST X O a f) : SW X O (.BoolOp .And [a] pos) f := ⟨pw_and1 h.pt⟩
theorem sw_or1 {f : PEnv → Option Bool} (h : ST X O a f) : SW X O (.BoolOp .Or [a] pos) f := ⟨pw_or1 h.pt⟩
theorem pw_imp {e : Expr} {t t' : TT} (h : PW X e t) (hi : ∀ σ H Q, t' σ H Q → t σ H Q) : PW X e t' := ⟨fun w pins s σ H Q I q => h.run w pins s σ H Q I (hi _ _ _ q)⟩
theorem sw_and {f g : PEnv → Option Bool} (h : ST X O a f) (h' : SW X O (.BoolOp .And (b :: es) pos) g) : SW X O (.BoolOp .And (a :: b :: es) pos) (tAndP f g) := by
  refine ⟨pw_imp (pw_and h.pt h'.pw) fun σ H Q q => ?_⟩
  obtain ⟨H0, A0, G, ρ, B, b, S, e, k⟩ := q
  obtain ⟨x, ex, e⟩ := bind2 e
  refine ⟨H0, A0, G, ρ, B, x, S, ex, fun H1 s1 => ?_⟩
  cases x with
  | true => exact ⟨H0, A0, G, ρ, B, b, S.mono s1, e, fun H' s => k H' (s1.trans s)⟩
  | false => cases e; exact k H1 s1
theorem sw_or {f g : PEnv → Option Bool} (h : ST X O a f) (h' : SW X O (.BoolOp .Or (b :: es) pos) g) : SW X O (.BoolOp .Or (a :: b :: es) pos) (tOrP f g) := by
  refine ⟨pw_imp (pw_or h.pt h'.pw) fun σ H Q q => ?_⟩
  obtain ⟨H0, A0, G, ρ, B, b, S, e, k⟩ := q
  obtain ⟨x, ex, e⟩ := bind2 e
  refine ⟨H0, A0, G, ρ, B, x, S, ex, fun H1 s1 => ?_⟩
  cases x with
  | true => cases e; exact k H1 s1
  | false => exact ⟨H0, A0, G, ρ, B, b, S.mono s1, e, fun H' s => k H' (s1.trans s)⟩
/-- a value's truth -/
def oTru : D → Option Bool
  | .none => some false
  | .bool b => some b
  | .int i => some (i != 0)
  | .list xs => some (!xs.isEmpty)
  | .tuple xs => some (!xs.isEmpty)
  | .dict [] => some false
  | .dict ((.int _, _) :: _) => some true
  | .dict ((.str _, _) :: _) => some true
  | _ => none
theorem empty_of {K : PySem.W.Frag} {A : Addr → Prop} {H : Hp} {vs : List V} {ds : List D} (r : RpL K A H vs ds) : (!vs.isEmpty) = !ds.isEmpty := by
  cases r <;> rfl
theorem tru_of {K : PySem.W.Frag} {A : Addr → Prop} {H : Hp} {v : V} {d : D} {b : Bool} (h : WRp K A H v d) (e : oTru d = some b) : TruV K v H b := by
  have dict : ∀ {a : Addr} {ks : List (Key × V)} {ds : List D} {kd : List (D × D)}, H a = some (.dK ks) → RpL K A H (ks.map (·.2)) ds → kd = (ks.map fun p => keyD p.1).zip ds → oTru (.dict kd) = some b → TruV K (.ref a) H b := fun {a ks ds kd} h1 h2 h3 h4 => by
    refine .inr (.inr ⟨ks, h1, ?_⟩)
    subst h3
    cases ks with
    | nil => simp [oTru] at h4; simp [← h4]
    | cons p ks =>
      cases h2 with
      | cons h2 h2' =>
        obtain ⟨k, v⟩ := p
        cases k <;> simp [oTru, keyD] at h4 <;> simp [← h4]
  rcases h with h | ⟨a, z, h⟩
  · cases h with
    | non => cases e; exact rfl
    | bl c => cases e; exact rfl
    | int i => cases e; exact rfl
    | str x => cases e
    | lst h n r => cases e; exact .inl ⟨_, .inl (.inl h), (empty_of r).symm⟩
    | tup h n r => cases e; exact .inr (.inl ⟨_, .inl (.inl h), (empty_of r).symm⟩)
    | scr h n r => simp [oTru] at e
    | kl h r => simp [oTru] at e
    | dic h n r q => exact dict h r q e
  · subst z
    cases h with
    | lst h r => cases e; exact .inl ⟨_, .inl (.inl h), (empty_of r).symm⟩
    | dic h r q => exact dict h r q e
def tTru (f : Xp) : PEnv → Option Bool := fun ρ => (f ρ).bind oTru
theorem st_val (h : SE X O m a fa) (he : ∀ whole, isTrue a X.env whole = (do let v ← whole; standAt a.pos; holding [v] (truthy v)) := by intro _; rfl) : ST X O a (tTru fa) := by
  refine ⟨pt_imp (pt_truth h.pe he) fun σ H Q q => ?_⟩
  obtain ⟨H0, A0, G, ρ, B, b, S, e, k⟩ := q
  obtain ⟨x, ex, e⟩ := bind2 e
  exact ⟨H0, A0, G, ρ, B, x, S, ex, fun v H1 s1 r1 => ⟨b, tru_of r1.toW e, k H1 s1⟩⟩
/-- not as a value -/
def oNot (d : D) : Option D := (oTru d).map fun b => .bool (!b)
end
end Pm

namespace Pm
open PySem PySem.Spec PyProof.Rows L2

def shp (d : D) : Bool := SeqAt.shaped d
/-! ### what the operators do -/
def oAdd : D → D → Option D
  | .int a, .int b => some (.int (a + b))
  | .list a, .list b => if a.length + b.length ≤ 16777216 then some (.list (a ++ b)) else none
  | .tuple a, .tuple b => if a.length + b.length ≤ 16777216 then some (.tuple (a ++ b)) else none
  | .int a, .bool b => some (.int (a + (if b then 1 else 0)))
  | _, _ => none
def oSub : D → D → Option D
  | .int a, .int b => some (.int (a - b))
  | _, _ => none
def mulOk (a b : Int) : Bool := decide (a.natAbs < 2 ^ 63) || decide (b.natAbs < 2 ^ 63) || decide (a.natAbs.log2 + b.natAbs.log2 < 1000000)
def oMul : D → D → Option D
  | .int a, .int b => if mulOk a b then some (.int (a * b)) else none
  | .list a, .int k => if -(2 ^ 62) ≤ k ∧ k < 2 ^ 62 ∧ a.length * k.toNat ≤ 16777216 then some (.list (List.replicate k.toNat a).flatten) else none
  | .tuple a, .int k => if a ≠ [] ∧ 2 ≤ k ∧ k ≤ 1000 ∧ a.length ≤ 1000 then some (.tuple (List.replicate k.toNat a).flatten) else none
  | _, _ => none
def divOk (b : Int) : Bool := decide (b ≠ 0) && decide (b.natAbs.log2 < 9000)
def oFdiv : D → D → Option D
  | .int a, .int b => if divOk b then some (.int (a.fdiv b)) else none
  | _, _ => none
def oMod : D → D → Option D
  | .int a, .int b => if b ≠ 0 then some (.int (a.fmod b)) else none
  | _, _ => none
def oPow : D → D → Option D
  | .int a, .int b => if 0 ≤ b ∧ b ≤ 1000000 ∧ a.natAbs < 2 ^ 64 then some (.int (a ^ b.toNat)) else none
  | _, _ => none
def oShl : D → D → Option D
  | .int a, .int b => if 0 ≤ b ∧ b ≤ 1000000 ∧ a.natAbs < 2 ^ 64 then some (.int (a * 2 ^ b.toNat)) else none
  | _, _ => none
def oEq (x y : D) : Option D := if shp x && shp y then some (.bool (PyData.eqv x y)) else none
def oNe (x y : D) : Option D := if shp x && shp y then some (.bool (!PyData.eqv x y)) else none
def oLt : D → D → Option D
  | .int a, .int b => some (.bool (decide (a < b)))
  | _, _ => none
def oLe : D → D → Option D
  | .int a, .int b => some (.bool (decide (a ≤ b)))
  | _, _ => none
def oGt : D → D → Option D
  | .int a, .int b => some (.bool (decide (b < a)))
  | _, _ => none
def oGe : D → D → Option D
  | .int a, .int b => some (.bool (decide (b ≤ a)))
  | _, _ => none
def isNone : D → Bool
  | .none => true
  | _ => false
def oIs : D → D → Option D
  | x, .none => some (.bool (isNone x))
  | _, _ => none
def oIsNot : D → D → Option D
  | x, .none => some (.bool (!isNone x))
  | _, _ => none
def oIn : D → D → Option D
  | x, .list ys => if shp x && PyData.canLayAll0 ys then some (.bool (ys.any fun z => PyData.eqv z x)) else none
  | x, .tuple ys => if shp x && PyData.canLayAll0 ys then some (.bool (ys.any fun z => PyData.eqv z x)) else none
  | _, _ => none
def oNotIn : D → D → Option D
  | x, .list ys => if shp x && PyData.canLayAll0 ys then some (.bool (!ys.any fun z => PyData.eqv z x)) else none
  | x, .tuple ys => if shp x && PyData.canLayAll0 ys then some (.bool (!ys.any fun z => PyData.eqv z x)) else none
  | _, _ => none
def ixD (xs : List D) (i : Int) : Option D := atI xs i
def oIx : D → D → Option D
  | .list xs, .int i => atI xs i
  | .tuple xs, .int i => atI xs i
  | .dict [(.none, .list xs)], .int i => atI xs i
  | _, _ => none
def oNeg : D → Option D
  | .int i => some (.int (-i))
  | _ => none

section
variable {K : PySem.W.Frag} {A : Addr → Prop} {H H' : Hp} {v : V} {d : D} {vs : List V} {ds : List D}
mutual
theorem Rp.dp : ∀ {v : V} {d : D}, Rp K A H v d → d.canLay0 = true → Dp K H v d
  | _, _, .non, _ => .non
  | _, _, .bl b, _ => .bl b
  | _, _, .int i, _ => .int i
  | _, _, .str x, _ => .str x
  | _, _, .lst h n r, c => .lst (.inl (.inl h)) (RpL.dp r (by simpa [PyData.canLay0] using c))
  | _, _, .tup h n r, c => .tup (.inl (.inl h)) (RpL.dp r (by simpa [PyData.canLay0] using c))
  | _, _, .scr h n r, c => by simp [PyData.canLay0] at c
  | _, _, .kl h r, c => by simp [PyData.canLay0] at c
  | _, _, .dic h n r e, c => by simp [PyData.canLay0] at c
theorem RpL.dp : ∀ {vs : List V} {ds : List D}, RpL K A H vs ds → PyData.canLayAll0 ds = true → DpAll K H vs ds
  | _, _, .nil, _ => .nil
  | _, _, .cons h r, c => by
    simp only [PyData.canLayAll0, Bool.and_eq_true] at c
    exact .cons (Rp.dp h c.1) (RpL.dp r c.2)
end
theorem WRp.dpc (h : WRp K A H v d) (c : d.canLay0 = true) : Dp K H v d := by
  rcases h with h | ⟨a, e, h⟩
  · exact h.dp c
  · subst e
    cases h with
    | lst h r => exact .lst (.inl (.inl h)) (r.dp (by simpa [PyData.canLay0] using c))
    | dic h r e => simp [PyData.canLay0] at c
theorem WRp.dp (h : WRp K A H v d) (c : shp d = true) : Dp K H v d := h.dpc (SeqAt.canLay_of_shaped c)
theorem RpL.atI {i : Int} (r : RpL K A H vs ds) (h : L2.atI ds i = some d) : ∃ v, L2.atI vs i = some v ∧ Rp K A H v d := by
  unfold L2.atI at h ⊢
  rw [r.length]
  obtain ⟨j, e1, e2⟩ := Option.bind_eq_some_iff.mp h
  obtain ⟨v, e3, e4⟩ := r.get e2
  exact ⟨v, by rw [e1]; exact e3, e4⟩
theorem non_dec : Rp K A H v d → decide (v = V.non) = isNone d := by
  intro h
  cases h <;> rfl
theorem WRp.none_dec (h : WRp K A H v d) : decide (v = V.non) = isNone d := by
  rcases h with h | ⟨a, e, h⟩
  · exact non_dec h
  · subst e
    cases h <;> rfl
end
section
variable {X : Cx} {k : Nat}
theorem op_addD : OpR X (binaryOp .Add) (rD X.K .f oAdd) := by
  intro pins s σ H x y v u Q I rx ry ⟨A, dx, dy, d, tr, wx, wy, e, q⟩
  unfold oAdd at e
  split at e
  · cases e
    exact op_add pins s σ H x y v u Q I rx ry ⟨_, _, wx.int, wy.int, q _ H (Same.refl H) Res.int⟩
  · split at e
    · rename_i hz
      cases e
      obtain ⟨a, xs, rfl, ha, ra⟩ := wx.lst
      obtain ⟨b, ys, rfl, hb, rb⟩ := wy.lst
      refine op_cat pins s σ H _ _ v u Q I rx ry ⟨a, b, xs, ys, rfl, rfl, ha, hb, by rw [ra.length, rb.length]; exact hz, fun p hp => q _ _ (same_upd hp) (Res.newL tr hp (rb.app ra) (Same.refl H))⟩
    · cases e
  · split at e
    · rename_i hz
      cases e
      obtain ⟨a, xs, rfl, ha, na, ra⟩ := wx.tup
      obtain ⟨b, ys, rfl, hb, nb, rb⟩ := wy.tup
      refine op_catA pins s σ H _ _ v u Q I rx ry ⟨a, b, xs, ys, rfl, rfl, .of ha, .of hb, by rw [ra.length, rb.length]; exact hz, fun z => ?_, fun _ z => ?_, fun _ _ p hp => q _ _ (same_upd hp) (Res.flat (Rp.newT tr hp (rb.app ra)) rfl)⟩
      · subst z
        cases ra
        exact q _ H (Same.refl H) (Res.flat (.tup hb nb rb) rfl)
      · subst z
        cases rb
        exact q _ H (Same.refl H) (Res.flat (.tup ha na (by simpa using ra)) rfl)
    · cases e
  · cases e
    exact op_add_ib pins s σ H x y v u Q I rx ry ⟨_, _, wx.int, wy.bl, q _ H (Same.refl H) (by
      rename_i b
      cases b <;> exact Res.int)⟩
  · cases e
theorem op_subD : OpR X (binaryOp .Sub) (rD X.K .f oSub) := by
  intro pins s σ H x y v u Q I rx ry ⟨A, dx, dy, d, tr, wx, wy, e, q⟩
  unfold oSub at e
  split at e
  · cases e
    exact op_sub pins s σ H x y v u Q I rx ry ⟨_, _, wx.int, wy.int, q _ H (Same.refl H) Res.int⟩
  · cases e
theorem mul_case {a b : Int} (h : mulOk a b = true) : CMul a b ∨ CMulW a b := by
  unfold mulOk at h
  rw [Bool.or_eq_true, Bool.or_eq_true] at h
  rcases h with (h | h) | h
  · exact .inl (.inl (by have := of_decide_eq_true h; omega))
  · exact .inl (.inr (by have := of_decide_eq_true h; omega))
  · exact .inr (show a.natAbs.log2 + b.natAbs.log2 < 1000000 from of_decide_eq_true h)
theorem op_mulD : OpR X (binaryOp .Mult) (rD X.K .f oMul) := by
  intro pins s σ H x y v u Q I rx ry ⟨A, dx, dy, d, tr, wx, wy, e, q⟩
  unfold oMul at e
  split at e
  · split at e
    · rename_i hm
      cases e
      rcases mul_case hm with h | h
      · exact op_mul pins s σ H x y v u Q I rx ry ⟨_, _, wx.int, wy.int, h, q _ H (Same.refl H) Res.int⟩
      · exact op_mulW pins s σ H x y v u Q I rx ry ⟨_, _, wx.int, wy.int, h, q _ H (Same.refl H) Res.int⟩
    · cases e
  · split at e
    · rename_i hz
      cases e
      obtain ⟨a, xs, rfl, ha, ra⟩ := wx.lst
      refine op_rep pins s σ H _ _ v u Q I rx ry ⟨a, _, xs, rfl, wy.int, ha, by omega, by omega, by rw [ra.length]; exact hz.2.2, fun p hp => q _ _ (same_upd hp) (Res.newL tr hp (ra.rep _) (Same.refl H))⟩
    · cases e
  · split at e
    · rename_i hz
      cases e
      obtain ⟨a, xs, rfl, ha, na, ra⟩ := wx.tup
      refine op_repT pins s σ H _ _ v u Q I rx ry ⟨a, _, xs, rfl, wy.int, .of ha, fun z => ?_, hz.2.1, hz.2.2.1, by rw [ra.length]; exact hz.2.2.2, fun p hp => q _ _ (same_upd hp) (Res.flat (Rp.newT tr hp (ra.rep _)) rfl)⟩
      subst z
      cases ra
      exact hz.1 rfl
    · cases e
  · cases e
theorem op_fdivD : OpR X (binaryOp .FloorDiv) (rD X.K .f oFdiv) := by
  intro pins s σ H x y v u Q I rx ry ⟨A, dx, dy, d, tr, wx, wy, e, q⟩
  unfold oFdiv at e
  split at e
  · split at e
    · rename_i hz
      cases e
      unfold divOk at hz
      rw [Bool.and_eq_true] at hz
      have h1 := of_decide_eq_true hz.1
      have h2 := of_decide_eq_true hz.2
      exact (opI (C := fun i j => j ≠ 0 ∧ j.natAbs.log2 < 9000) fun i j _ _ _ _ _ hc q => floordiv_int hc.1 q (.inl (PyProof.noPylong_of_log2 hc.2))) pins s σ H x y v u Q I rx ry ⟨_, _, wx.int, wy.int, ⟨h1, h2⟩, q _ H (Same.refl H) Res.int⟩
    · cases e
  · cases e
theorem op_modD : OpR X (binaryOp .Mod) (rD X.K .f oMod) := by
  intro pins s σ H x y v u Q I rx ry ⟨A, dx, dy, d, tr, wx, wy, e, q⟩
  unfold oMod at e
  split at e
  · split at e
    · rename_i hz
      cases e
      exact op_modN pins s σ H x y v u Q I rx ry ⟨_, _, wx.int, wy.int, hz, q _ H (Same.refl H) Res.int⟩
    · cases e
  · cases e
theorem op_powD : OpR X (binaryOp .Pow) (rD X.K .f oPow) := by
  intro pins s σ H x y v u Q I rx ry ⟨A, dx, dy, d, tr, wx, wy, e, q⟩
  unfold oPow at e
  split at e
  · split at e
    · rename_i hz
      cases e
      exact op_pow pins s σ H x y v u Q I rx ry ⟨_, _, wx.int, wy.int, hz, q _ H (Same.refl H) Res.int⟩
    · cases e
  · cases e
theorem op_shlD : OpR X (binaryOp .LShift) (rD X.K .f oShl) := by
  intro pins s σ H x y v u Q I rx ry ⟨A, dx, dy, d, tr, wx, wy, e, q⟩
  unfold oShl at e
  split at e
  · split at e
    · rename_i hz
      cases e
      exact op_shl pins s σ H x y v u Q I rx ry ⟨_, _, wx.int, wy.int, hz, q _ H (Same.refl H) Res.int⟩
    · cases e
  · cases e
theorem op_eqP (hr : Room k X.A) : OpR X (compareOp .Eq) (rD X.K .f oEq) := by
  intro pins s σ H x y v u Q I rx ry ⟨A, dx, dy, d, tr, wx, wy, e, q⟩
  unfold oEq at e
  split at e
  · rename_i hz
    cases e
    rw [Bool.and_eq_true] at hz
    exact op_eqD hr.units pins s σ H x y v u Q I rx ry ⟨dx, dy, wx.dp hz.1, wy.dp hz.2, hz.1, hz.2, q _ H (Same.refl H) Res.bl⟩
  · cases e
theorem op_neP (hr : Room k X.A) : OpR X (compareOp .NotEq) (rD X.K .f oNe) := by
  intro pins s σ H x y v u Q I rx ry ⟨A, dx, dy, d, tr, wx, wy, e, q⟩
  unfold oNe at e
  split at e
  · rename_i hz
    cases e
    rw [Bool.and_eq_true] at hz
    exact op_neD hr.units pins s σ H x y v u Q I rx ry ⟨dx, dy, wx.dp hz.1, wy.dp hz.2, hz.1, hz.2, q _ H (Same.refl H) Res.bl⟩
  · cases e
theorem op_ltD : OpR X (compareOp .Lt) (rD X.K .f oLt) := by
  intro pins s σ H x y v u Q I rx ry ⟨A, dx, dy, d, tr, wx, wy, e, q⟩
  unfold oLt at e
  split at e
  · cases e
    exact op_lt pins s σ H x y v u Q I rx ry ⟨_, _, wx.int, wy.int, q _ H (Same.refl H) Res.bl⟩
  · cases e
theorem op_leD : OpR X (compareOp .LtE) (rD X.K .f oLe) := by
  intro pins s σ H x y v u Q I rx ry ⟨A, dx, dy, d, tr, wx, wy, e, q⟩
  unfold oLe at e
  split at e
  · cases e
    exact op_le pins s σ H x y v u Q I rx ry ⟨_, _, wx.int, wy.int, q _ H (Same.refl H) Res.bl⟩
  · cases e
theorem op_gtD : OpR X (compareOp .Gt) (rD X.K .f oGt) := by
  intro pins s σ H x y v u Q I rx ry ⟨A, dx, dy, d, tr, wx, wy, e, q⟩
  unfold oGt at e
  split at e
  · cases e
    exact op_gt pins s σ H x y v u Q I rx ry ⟨_, _, wx.int, wy.int, q _ H (Same.refl H) Res.bl⟩
  · cases e
theorem op_geD : OpR X (compareOp .GtE) (rD X.K .f oGe) := by
  intro pins s σ H x y v u Q I rx ry ⟨A, dx, dy, d, tr, wx, wy, e, q⟩
  unfold oGe at e
  split at e
  · cases e
    exact op_ge pins s σ H x y v u Q I rx ry ⟨_, _, wx.int, wy.int, q _ H (Same.refl H) Res.bl⟩
  · cases e
theorem op_isD : OpR X (compareOp .Is) (rD X.K .f oIs) := by
  intro pins s σ H x y v u Q I rx ry ⟨A, dx, dy, d, tr, wx, wy, e, q⟩
  unfold oIs at e
  split at e
  · cases e
    exact op_isN pins s σ H x y v u Q I rx ry ⟨wy.non, by rw [wx.none_dec]; exact q _ H (Same.refl H) Res.bl⟩
  · cases e
theorem op_isNotD : OpR X (compareOp .IsNot) (rD X.K .f oIsNot) := by
  intro pins s σ H x y v u Q I rx ry ⟨A, dx, dy, d, tr, wx, wy, e, q⟩
  unfold oIsNot at e
  split at e
  · cases e
    exact op_notN pins s σ H x y v u Q I rx ry ⟨wy.non, by rw [wx.none_dec]; exact q _ H (Same.refl H) Res.bl⟩
  · cases e
theorem hu65 {A : Around} (hr : Room k A) : A.units + 65 < cLine := by have := hr.un; omega
theorem op_inP (hr : Room k X.A) : OpR X (compareOp .In) (rD X.K .f oIn) := by
  intro pins s σ H x y v u Q I rx ry ⟨A, dx, dy, d, tr, wx, wy, e, q⟩
  unfold oIn at e
  split at e
  · split at e
    · rename_i hz
      cases e
      rw [Bool.and_eq_true] at hz
      obtain ⟨as, r1⟩ := Dp.reads I _ x v (wx.dp hz.1) rx
      obtain ⟨bs, r2⟩ := Dp.reads I _ y u (wy.dpc (by simpa [PyData.canLay0] using hz.2)) ry
      exact SeqAt.in_list_reads r2 r1 hz.2 (SeqAt.canLay_of_shaped hz.1) (room_in_shaped hz.1 (hu65 hr)) ⟨.bl _, H, I, rfl, q _ H (Same.refl H) Res.bl⟩
    · cases e
  · split at e
    · rename_i hz
      cases e
      rw [Bool.and_eq_true] at hz
      obtain ⟨as, r1⟩ := Dp.reads I _ x v (wx.dp hz.1) rx
      obtain ⟨bs, r2⟩ := Dp.reads I _ y u (wy.dpc (by simpa [PyData.canLay0] using hz.2)) ry
      exact SeqAt.in_tuple_reads r2 r1 hz.2 (SeqAt.canLay_of_shaped hz.1) (room_in_shaped hz.1 (hu65 hr)) ⟨.bl _, H, I, rfl, q _ H (Same.refl H) Res.bl⟩
    · cases e
  · cases e
theorem op_notInP (hr : Room k X.A) : OpR X (compareOp .NotIn) (rD X.K .f oNotIn) := by
  intro pins s σ H x y v u Q I rx ry ⟨A, dx, dy, d, tr, wx, wy, e, q⟩
  unfold oNotIn at e
  split at e
  · split at e
    · rename_i hz
      cases e
      rw [Bool.and_eq_true] at hz
      obtain ⟨as, r1⟩ := Dp.reads I _ x v (wx.dp hz.1) rx
      obtain ⟨bs, r2⟩ := Dp.reads I _ y u (wy.dpc (by simpa [PyData.canLay0] using hz.2)) ry
      exact SeqAt.notIn_list_reads r2 r1 hz.2 (SeqAt.canLay_of_shaped hz.1) (room_in_shaped hz.1 (hu65 hr)) ⟨.bl _, H, I, rfl, q _ H (Same.refl H) Res.bl⟩
    · cases e
  · split at e
    · rename_i hz
      cases e
      rw [Bool.and_eq_true] at hz
      obtain ⟨as, r1⟩ := Dp.reads I _ x v (wx.dp hz.1) rx
      obtain ⟨bs, r2⟩ := Dp.reads I _ y u (wy.dpc (by simpa [PyData.canLay0] using hz.2)) ry
      exact SeqAt.notIn_tuple_reads r2 r1 hz.2 (SeqAt.canLay_of_shaped hz.1) (room_in_shaped hz.1 (hu65 hr)) ⟨.bl _, H, I, rfl, q _ H (Same.refl H) Res.bl⟩
    · cases e
  · cases e
theorem un_negD : UnR X (unaryOp .USub) (rD1 X.K .f oNeg) := by
  intro pins s σ H x v Q I rx ⟨A, dx, d, tr, wx, e, q⟩
  unfold oNeg at e
  split at e
  · cases e
    exact un_neg pins s σ H x v Q I rx ⟨_, wx.int, q _ H (Same.refl H) Res.int⟩
  · cases e
end
end Pm

namespace Pm
open PySem PySem.Spec PyProof.Rows L2

/-! ### argument lists -/
abbrev XL := PEnv → Option (List D)
def xNil : XL := fun _ => some []
def xCons (f : Xp) (fs : XL) : XL := fun ρ => (f ρ).bind fun x => (fs ρ).bind fun xs => some (x :: xs)
section
variable {X : Cx} {O : List Nat} {m ma mb : Md} {st : Bool} {a b c e : Expr} {es : List Expr} {fa fb fc f : Xp} {fs : XL} {pos : Pos}
theorem sa_nil : SA X O st [] xNil := by
  refine ⟨pa_imp pa_nil fun σ H Q h => ?_⟩
  obtain ⟨H0, A0, G, ρ, B, ds, S, e, k⟩ := h
  cases e
  refine k [] H (Same.refl H) ?_
  cases st <;> exact .nil
theorem ResL.monoR {K : PySem.W.Frag} {A : Addr → Prop} {H H' : Hp} {vs : List V} {ds : List D} (s : Same H H') (h : ResL K A H st vs ds) : ResL K A H' st vs ds := by
  cases st with
  | true => exact RpL.mono s h
  | false => exact Paired.mapP h fun _ _ r => WRp.mono s r
theorem sa_cons (ha : SE X O m e f) (hr : SA X O st es fs) (hm : (st = true → m ≠ .w) := by first | exact fun _ => Md.noConfusion | exact fun h => Bool.noConfusion h) (hs : starEach (e :: es) X.env = (false, eval e X.env) :: starEach es X.env := by rfl) : SA X O st (e :: es) (xCons f fs) := by
  refine ⟨pa_imp (pa_cons ha.pe hr.pa hs) fun σ H Q h => ?_⟩
  obtain ⟨H0, A0, G, ρ, B, ds, S, e, k⟩ := h
  obtain ⟨x, ex, e⟩ := bind2 e
  obtain ⟨xs, exs, e⟩ := bind2 e
  cases e
  refine ⟨H0, A0, G, ρ, B, x, S, ex, fun v H1 s1 r1 => ⟨H0, A0, G, ρ, B, xs, S.mono s1, exs, fun vs H2 s2 r2 => k _ H2 (s1.trans s2) ?_⟩⟩
  cases st with
  | true => exact .cons ((r1.toS S.tr (hm rfl)).mono s2) r2
  | false => exact .cons (r1.toW.mono s2) r2
/-- their number is the written one -/
theorem SE.toS (h : SE X O .f e f) : SE X O .s e f := ⟨pe_imp h.pe fun σ H Q ⟨H0, A0, G, ρ, B, d, S, e, k⟩ => ⟨H0, A0, G, ρ, B, d, S, e, fun v H' s r => k v H' s (r.toS S.tr (by decide))⟩⟩
theorem SE.toW (h : SE X O m e f) : SE X O .w e f := ⟨pe_imp h.pe fun σ H Q ⟨H0, A0, G, ρ, B, d, S, e, k⟩ => ⟨H0, A0, G, ρ, B, d, S, e, fun v H' s r => k v H' s r.toW⟩⟩

/-! ### displays -/
def xTup (fs : XL) : Xp := fun ρ => (fs ρ).bind fun ds => if ds.length ≤ 1000 then some (.tuple ds) else none
def xLst (fs : XL) : Xp := fun ρ => (fs ρ).bind fun ds => if ds.length ≤ 1000 then some (.list ds) else none
theorem line1000 {n : Nat} (h : n ≤ 1000) : n ≤ sizeLine := Nat.le_of_lt (small1000 h)
theorem se_tup {x1} (h : SA X O true es fs) : SE X O .f (.Tuple es x1 pos) (xTup fs) := by
  refine ⟨pe_imp (pe_tup h.pa) fun σ H Q q => ?_⟩
  obtain ⟨H0, A0, G, ρ, B, d, S, e, k⟩ := q
  obtain ⟨x, ex, e⟩ := bind2 e
  split at e
  · rename_i hz
    cases e
    refine ⟨H0, A0, G, ρ, B, x, S, ex, fun vs H1 s1 (r1 : RpL _ _ _ _ _) => ⟨by rw [r1.length]; exact line1000 hz, fun p hp => ?_⟩⟩
    exact k _ _ (s1.trans (same_upd hp)) (Res.flat (Rp.newT (S.mono s1).tr hp r1) rfl)
  · cases e
theorem se_lst (h : SA X O true es fs) : SE X O .f (.List es pos) (xLst fs) := by
  refine ⟨pe_imp (pe_lst h.pa) fun σ H Q q => ?_⟩
  obtain ⟨H0, A0, G, ρ, B, d, S, e, k⟩ := q
  obtain ⟨x, ex, e⟩ := bind2 e
  split at e
  · rename_i hz
    cases e
    refine ⟨H0, A0, G, ρ, B, x, S, ex, fun vs H1 s1 (r1 : RpL _ _ _ _ _) => ⟨by rw [r1.length]; exact line1000 hz, fun p hp => ?_⟩⟩
    exact k _ _ (s1.trans (same_upd hp)) (Res.newL (S.mono s1).tr hp r1 s1)
  · cases e

/-! ### and, or, if, not as values -/
def xAnd (fa fb : Xp) : Xp := fun ρ => (fa ρ).bind fun x => (dB x).bind fun b => if b then fb ρ else some (.bool false)
def xOr (fa fb : Xp) : Xp := fun ρ => (fa ρ).bind fun x => (dB x).bind fun b => if b then some (.bool true) else fb ρ
def xIf (c : PEnv → Option Bool) (fa fb : Xp) : Xp := fun ρ => (c ρ).bind fun b => if b then fa ρ else fb ρ
theorem se_bone {op} (h : SE X O m a f) : SE X O m (.BoolOp op [a] pos) f := ⟨pe_one h.pe⟩
theorem se_and (ha : SE X O ma a fa) (hb : SE X O m (.BoolOp .And (b :: es) pos) fb) : SE X O m (.BoolOp .And (a :: b :: es) pos) (xAnd fa fb) := by
  refine ⟨pe_imp (pe_and ha.pe hb.pe) fun σ H Q q => ?_⟩
  obtain ⟨H0, A0, G, ρ, B, d, S, e, k⟩ := q
  obtain ⟨x, ex, e⟩ := bind2 e
  obtain ⟨c, ec, e⟩ := bind2 e
  have := dB_some ec
  subst this
  refine ⟨H0, A0, G, ρ, B, _, S, ex, fun v H1 s1 r1 => ⟨c, r1.toW.bl, ?_⟩⟩
  cases c with
  | true => exact ⟨H0, A0, G, ρ, B, d, S.mono s1, e, fun v H' s r => k v H' (s1.trans s) (r.back s1)⟩
  | false => cases e; exact k _ H1 s1 Res.bl
theorem se_or (ha : SE X O ma a fa) (hb : SE X O m (.BoolOp .Or (b :: es) pos) fb) : SE X O m (.BoolOp .Or (a :: b :: es) pos) (xOr fa fb) := by
  refine ⟨pe_imp (pe_or ha.pe hb.pe) fun σ H Q q => ?_⟩
  obtain ⟨H0, A0, G, ρ, B, d, S, e, k⟩ := q
  obtain ⟨x, ex, e⟩ := bind2 e
  obtain ⟨c, ec, e⟩ := bind2 e
  have := dB_some ec
  subst this
  refine ⟨H0, A0, G, ρ, B, _, S, ex, fun v H1 s1 r1 => ⟨c, r1.toW.bl, ?_⟩⟩
  cases c with
  | false => exact ⟨H0, A0, G, ρ, B, d, S.mono s1, e, fun v H' s r => k v H' (s1.trans s) (r.back s1)⟩
  | true => cases e; exact k _ H1 s1 Res.bl
theorem se_if {tc : PEnv → Option Bool} (hc : ST X O c tc) (ha : SE X O m a fa) (hb : SE X O m b fb) : SE X O m (.IfExp c a b pos) (xIf tc fa fb) := by
  refine ⟨pe_imp (pe_ifExp hc.pt ha.pe hb.pe) fun σ H Q q => ?_⟩
  obtain ⟨H0, A0, G, ρ, B, d, S, e, k⟩ := q
  obtain ⟨x, ex, e⟩ := bind2 e
  refine ⟨H0, A0, G, ρ, B, x, S, ex, fun H1 s1 => ?_⟩
  cases x with
  | true => exact ⟨H0, A0, G, ρ, B, d, S.mono s1, e, fun v H' s r => k v H' (s1.trans s) (r.back s1)⟩
  | false => exact ⟨H0, A0, G, ρ, B, d, S.mono s1, e, fun v H' s r => k v H' (s1.trans s) (r.back s1)⟩
theorem se_not (h : SE X O ma a fa) : SE X O m (.UnaryOp .Not a pos) (xUn oNot fa) := by
  refine ⟨pe_imp (pe_notT h.pe) fun σ H Q q => ?_⟩
  obtain ⟨H0, A0, G, ρ, B, d, S, e, k⟩ := q
  obtain ⟨x, ex, e⟩ := bind2 e
  obtain ⟨c, ec, e⟩ := Option.map_eq_some_iff.mp e
  subst e
  exact ⟨H0, A0, G, ρ, B, x, S, ex, fun v H1 s1 r1 => ⟨c, tru_of r1.toW ec, k _ H1 s1 Res.bl⟩⟩
/-- a op b op c -/
def xChain (g g' : D → D → Option D) (fa fb fc : Xp) : Xp := fun ρ => (fa ρ).bind fun x => (fb ρ).bind fun y => (g x y).bind fun z => (dB z).bind fun k => if k then (fc ρ).bind fun w => g' y w else some (.bool false)
variable {mc : Md}
theorem tChain_of {op op' : CmpOp} {g g' : D → D → Option D} (σ : L2.St) (H : Hp) (Q : VK) (h : simT X.K O .f (xChain g g' fa fb fc) σ H Q) :
    tChain (rD X.K .f g) (rD X.K .f g') (simT X.K O ma fa) (simT X.K O mb fb) (simT X.K O mc fc) σ H Q := by
  obtain ⟨H0, A0, G, ρ, B, d, S, e, k⟩ := h
  obtain ⟨x, ex, e⟩ := bind2 e
  obtain ⟨y, ey, e⟩ := bind2 e
  obtain ⟨z, ez, e⟩ := bind2 e
  obtain ⟨c, ec, e⟩ := bind2 e
  have := dB_some ec
  subst this
  refine ⟨H0, A0, G, ρ, B, x, S, ex, fun v H1 s1 r1 => ⟨H0, A0, G, ρ, B, y, S.mono s1, ey, fun u H2 s2 r2 => ⟨Av A0 B, x, y, _, (S.mono (s1.trans s2)).tr, r1.toW.mono s2, r2.toW, ez, fun z H3 s3 r3 => ⟨c, r3.toW.bl, ?_⟩⟩⟩⟩
  have s13 := (s1.trans s2).trans s3
  cases c with
  | false => cases e; exact k _ H3 s13 Res.bl
  | true =>
    replace e : ((fc ρ).bind fun w => g' y w) = some d := e
    obtain ⟨w, ew, e⟩ := bind2 e
    exact ⟨H0, A0, G, ρ, B, w, S.mono s13, ew, fun v' H4 s4 r4 => ⟨Av A0 B, y, w, d, (S.mono (s13.trans s4)).tr, r2.toW.mono (s3.trans s4), r4.toW, e, fun z H5 s5 r5 => k z H5 ((s13.trans s4).trans s5) (r5.back (s13.trans s4))⟩⟩
theorem se_chain {op op' : CmpOp} {g g' : D → D → Option D} (ho : OpR X (compareOp op) (rD X.K .f g)) (ho' : OpR X (compareOp op') (rD X.K .f g')) (ha : SE X O ma a fa) (hb : SE X O mb b fb) (hc : SE X O mc c fc)
    (hm : lastMarks [op, op'] [b, c] = false := by with_unfolding_all rfl) : SE X O .f (.Compare a [op, op'] [b, c] pos) (xChain g g' fa fb fc) :=
  ⟨pe_imp (pe_chain ho ho' ha.pe hb.pe hc.pe hm) (tChain_of (op := op) (op' := op'))⟩
theorem st_chain {op op' : CmpOp} {g g' : D → D → Option D} (ho : OpR X (compareOp op) (rD X.K .f g)) (ho' : OpR X (compareOp op') (rD X.K .f g')) (ha : SE X O ma a fa) (hb : SE X O mb b fb) (hc : SE X O mc c fc)
    (hm : lastMarks [op, op'] [b, c] = false := by with_unfolding_all rfl) : ST X O (.Compare a [op, op'] [b, c] pos) (tOf (xChain g g' fa fb fc)) := by
  refine ⟨pt_imp (pt_chain ho ho' ha.pe hb.pe hc.pe hm) fun σ H Q h => ?_⟩
  obtain ⟨H0, A0, G, ρ, B, b, S, e, k⟩ := h
  obtain ⟨d, ed, e⟩ := bind2 e
  have := dB_some e
  subst this
  exact tChain_of (op := op) (op' := op') σ H _ ⟨H0, A0, G, ρ, B, _, S, ed, fun v H' s r => ⟨b, r.toW.bl, k H' s⟩⟩

/-! ### subscripts -/
theorem ix_D : IxR X (rD X.K .s oIx) := by
  intro value slice pins s σ H x y v u Q I rx ry ⟨A, dx, dy, d, tr, wx, wy, e, q⟩ hs
  unfold oIx at e
  split at e
  · obtain ⟨p, xs, rfl, hp, r⟩ := wx.lst
    obtain ⟨z, ez, rz⟩ := r.atI e
    exact ix_list value slice pins s σ H _ y v u Q I rx ry ⟨p, xs, _, z, rfl, wy.int, .of hp, ez, q z H (Same.refl H) rz⟩ hs
  · obtain ⟨p, xs, rfl, hp, n, r⟩ := wx.tup
    obtain ⟨z, ez, rz⟩ := r.atI e
    exact ix_tup value slice pins s σ H _ y v u Q I rx ry ⟨p, xs, _, z, rfl, wy.int, .of hp, ez, q z H (Same.refl H) rz⟩ hs
  · obtain ⟨p, xs, rfl, hp, r⟩ := wx.scr
    obtain ⟨z, ez, rz⟩ := r.atI e
    exact ix_list value slice pins s σ H _ y v u Q I rx ry ⟨p, xs, _, z, rfl, wy.int, hp, ez, q z H (Same.refl H) rz⟩ hs
  · cases e
theorem se_ix (ha : SE X O ma a fa) (hb : SE X O mb b fb) (hs : PlainIx b := by exact fun _ _ => rfl) : SE X O .s (.Subscript a b pos) (xBin oIx fa fb) := ⟨pe_imp (pe_ix ix_D ha.pe hb.pe hs) tOp_of⟩
/-- slices -/
def cutD (xs : List D) (lo hi : Option Int) : List D := (xs.drop (HT.sIx xs.length 0 lo)).take (HT.sIx xs.length xs.length hi - HT.sIx xs.length 0 lo)
theorem RpL.cut {K : PySem.W.Frag} {A : Addr → Prop} {H : Hp} {vs : List V} {ds : List D} (r : RpL K A H vs ds) (lo hi : Option Int) : RpL K A H (cutV vs lo hi) (cutD ds lo hi) := by
  unfold cutV cutD
  rw [r.length]
  exact (r.drop _).take _
abbrev XO := PEnv → Option (Option Int)
def simO (K : PySem.W.Frag) (O : List Nat) (f : XO) : TO := fun σ H Q => ∃ H0 A0 G ρ B i, Sim K H0 A0 G O σ H ρ B ∧ f ρ = some i ∧ ∀ H', Same H H' → Q i H'
structure SO (X : Cx) (O : List Nat) (e : Option Expr) (f : XO) : Prop where
  po : PO X e (simO X.K O f)
def oNo : XO := fun _ => some none
def oAt (f : Xp) : XO := fun ρ => (f ρ).bind fun d => match d with | .int i => some (some i) | _ => none
theorem po_imp {e : Option Expr} {t t' : TO} (h : PO X e t) (hi : ∀ σ H Q, t' σ H Q → t σ H Q) : PO X e t' := ⟨fun pins s σ H Q I q => h.run pins s σ H Q I (hi _ _ _ q)⟩
theorem so_none : SO X O none oNo := ⟨po_imp po_none fun σ H Q ⟨H0, A0, G, ρ, B, i, S, e, k⟩ => by cases e; exact k H (Same.refl H)⟩
theorem so_some (h : SE X O m e f) : SO X O (some e) (oAt f) := by
  refine ⟨po_imp (po_some h.pe) fun σ H Q ⟨H0, A0, G, ρ, B, i, S, e, k⟩ => ?_⟩
  obtain ⟨x, ex, e⟩ := bind2 e
  split at e
  · cases e
    exact ⟨H0, A0, G, ρ, B, _, S, ex, fun v H1 s1 r1 => ⟨_, r1.toW.int, k H1 s1⟩⟩
  · cases e
def oSl : D → Option Int → Option Int → Option D
  | .list xs, lo, hi => some (.list (cutD xs lo hi))
  | .tuple xs, lo, hi => some (.tuple (cutD xs lo hi))
  | _, _, _ => none
def xSl (f : Xp) (lo hi : XO) : Xp := fun ρ => (f ρ).bind fun x => (lo ρ).bind fun i => (hi ρ).bind fun j => oSl x i j
theorem se_sl {lo hi : Option Expr} {flo fhi : XO} {p2 : Pos} (he : SE X O m e f) (hl : SO X O lo flo) (hh : SO X O hi fhi) : SE X O .f (.Subscript e (.Slice lo hi none p2) pos) (xSl f flo fhi) := by
  refine ⟨pe_imp (pe_slice (SlR.or sl_list sl_tupA) he.pe hl.po hh.po) fun σ H Q q => ?_⟩
  obtain ⟨H0, A0, G, ρ, B, d, S, e, k⟩ := q
  obtain ⟨x, ex, e⟩ := bind2 e
  obtain ⟨i, ei, e⟩ := bind2 e
  obtain ⟨j, ej, e⟩ := bind2 e
  refine ⟨H0, A0, G, ρ, B, x, S, ex, fun v H1 s1 r1 => ⟨H0, A0, G, ρ, B, i, S.mono s1, ei, fun H2 s2 => ⟨H0, A0, G, ρ, B, j, S.mono (s1.trans s2), ej, fun H3 s3 => ?_⟩⟩⟩
  have s13 := (s1.trans s2).trans s3
  have w := r1.toW.mono (s2.trans s3)
  unfold oSl at e
  split at e
  · cases e
    obtain ⟨p, xs, rfl, hp, r⟩ := w.lst
    exact .inl ⟨p, xs, rfl, .of hp, fun p hp => k _ _ (s13.trans (same_upd hp)) (Res.newL (S.mono s13).tr hp (r.cut _ _) s13)⟩
  · cases e
    obtain ⟨p, xs, rfl, hp, n, r⟩ := w.tup
    refine .inr ⟨p, xs, rfl, .of hp, fun z => ?_, fun z p hp => k _ _ (s13.trans (same_upd hp)) (Res.flat (Rp.newT (S.mono s13).tr hp (r.cut _ _)) rfl)⟩
    refine k _ _ s13 (Res.flat (.tup hp n ?_) rfl)
    have c := r.cut i j
    have hx : cutV xs i j = xs := by
      unfold cutV
      rw [z.1, z.2]
      simp
    rw [hx] at c
    exact c
  · cases e

/-! ### calls of built-ins by values -/
def rC (K : PySem.W.Frag) (m : Md) (g : List D → Option D) : List V → Hp → VK → Prop := fun vs H Q => ∃ A ds d, Tr A H ∧ Paired (WRp K A H) vs ds ∧ g ds = some d ∧ ∀ v H', Same H H' → Res K A H H' m v d → Q v H'
def xCall (g : List D → Option D) (fs : XL) : Xp := fun ρ => (fs ρ).bind g
theorem RpL.weak {K : PySem.W.Frag} {A : Addr → Prop} {H : Hp} {vs : List V} {ds : List D} (r : RpL K A H vs ds) : Paired (WRp K A H) vs ds := by
  induction ds generalizing vs with
  | nil => cases r; exact .nil
  | cons d ds ih => cases r with | cons h r => exact .cons (.inl h) (ih r)
theorem ResL.weak {K : PySem.W.Frag} {A : Addr → Prop} {H : Hp} {vs : List V} {ds : List D} (r : ResL K A H st vs ds) : Paired (WRp K A H) vs ds := by
  cases st with
  | true => exact RpL.weak r
  | false => exact r
theorem tCB_of {g : List D → Option D} (σ : L2.St) (H : Hp) (Q : VK) (q : simT X.K O m (xCall g fs) σ H Q) : tCB (rC X.K m g) (simA X.K O st fs) σ H Q := by
  obtain ⟨H0, A0, G, ρ, B, d, S, e, k⟩ := q
  obtain ⟨x, ex, e⟩ := bind2 e
  exact ⟨H0, A0, G, ρ, B, x, S, ex, fun vs H1 s1 r1 => ⟨Av A0 B, x, d, (S.mono s1).tr, r1.weak, e, fun v H' s r => k v H' (s1.trans s) (r.back s1)⟩⟩
theorem se_callB {x : Str} {p : Pos} {id : String} {g : List D → Option D} (hc : CallR X (.builtin id) (rC X.K m g)) (hm : X.mg x = none) (ha : SA X O st (e :: es) fs) (hg : Gl X x := by rfl) (hv : bootBuiltins x = some (.builtin id) := by rfl) (hn : x ≠ "__name__" := by decide) (hdb : (x == ("__debug__" : Str)) = false := by decide)
    (he : starEach (e :: es) X.env = (false, eval e X.env) :: starEach es X.env := by rfl) (hpl : (backTo pos (starEach es X.env)).any (·.1) = false := by rfl) : SE X O m (.Call (.Name x p) (e :: es) [] pos) (xCall g fs) :=
  ⟨pe_imp (pe_callB hc hg hm hv ha.pa hn hdb he hpl) tCB_of⟩
theorem se_callT {x : Str} {p : Pos} {id : String} {g : List D → Option D} (hc : CallR X (.type id) (rC X.K m g)) (hm : X.mg x = none) (ha : SA X O st (e :: es) fs) (hg : Gl X x := by rfl) (hv : bootBuiltins x = some (.type id) := by rfl) (hn : x ≠ "__name__" := by decide) (hdb : (x == ("__debug__" : Str)) = false := by decide)
    (he : starEach (e :: es) X.env = (false, eval e X.env) :: starEach es X.env := by rfl) (hpl : (backTo pos (starEach es X.env)).any (·.1) = false := by rfl) : SE X O m (.Call (.Name x p) (e :: es) [] pos) (xCall g fs) :=
  ⟨pe_imp (pe_callTy hc hg hm hv ha.pa hn hdb he hpl) tCB_of⟩

/-! ### calls of defs -/
mutual
def flat : D → Bool
  | .list _ => false
  | .dict _ => false
  | .tuple xs => flatL xs
  | .none => true
  | .bool _ => true
  | .int _ => true
  | .str _ => true
def flatL : List D → Bool
  | [] => true
  | x :: xs => flat x && flatL xs
end
mutual
theorem Rp.flatA {K : PySem.W.Frag} {A A' : Addr → Prop} {H : Hp} (t : Tr A' H) : ∀ {v : V} {d : D}, Rp K A H v d → flat d = true → Rp K A' H v d
  | _, _, .non, _ => .non
  | _, _, .bl b, _ => .bl b
  | _, _, .int i, _ => .int i
  | _, _, .str x, _ => .str x
  | _, _, .lst h n r, c => by simp [flat] at c
  | _, _, .tup h n r, c => .tup h (fun z => by
      obtain ⟨o, e, nt⟩ := t _ z
      rw [h] at e
      cases e
      exact nt _ rfl) (RpL.flatA t r (by simpa [flat] using c))
  | _, _, .scr h n r, c => by simp [flat] at c
  | _, _, .kl h r, c => by simp [flat] at c
  | _, _, .dic h n r e, c => by simp [flat] at c
theorem RpL.flatA {K : PySem.W.Frag} {A A' : Addr → Prop} {H : Hp} (t : Tr A' H) : ∀ {vs : List V} {ds : List D}, RpL K A H vs ds → flatL ds = true → RpL K A' H vs ds
  | _, _, .nil, _ => .nil
  | _, _, .cons h r, c => by
    simp only [flatL, Bool.and_eq_true] at c
    exact .cons (Rp.flatA t h c.1) (RpL.flatA t r c.2)
end
theorem flat_mut {d : D} (h : flat d = true) : isMut d = false := by
  cases d <;> simp_all [flat, isMut]
def spD (K : PySem.W.Frag) (n : Nat) (F : List D → Option D) : Sp := fun vs H Q _ => ∃ A ds d, Tr A H ∧ vs.length = n ∧ RpL K A H vs ds ∧ F ds = some d ∧ ∀ v H', Same H H' → Rp K A H' v d → Q v H'
/-- a def of the text, with its function -/
structure Def (P : Program) (w : World) (K : PySem.W.Frag) (mg : Str → Option Value) (base : Heap) (k : Nat) (x : Str) (ps : List Str) (F : List D → Option D) : Prop where
  ex : ∃ f fd, FnOk P w K mg base CX0 k f fd ps (spD K ps.length F) ∧ mg x = some (.ref f) ∧ PySem.W.keepIn K (.ref f) = true ∧ Binds K fd ps []
theorem Def.mono {P : Program} {w : World} {K : PySem.W.Frag} {mg : Str → Option Value} {base : Heap} {k k' : Nat} {x : Str} {ps : List Str} {F : List D → Option D} (h : Def P w K mg base k x ps F) (hk : k ≤ k') : Def P w K mg base k' x ps F :=
  let ⟨f, fd, h1, h2⟩ := h.ex; ⟨f, fd, h1.mono hk, h2⟩
variable {k j : Nat} {x : Str} {ps : List Str} {F : List D → Option D} {p : Pos}
theorem se_call (hd : Def X.prog X.w X.K X.mg X.base k x ps F) (hr : Room j X.A) (ha : SA X O true (e :: es) fs) (hk : k ≤ j := by decide) (hl : (e :: es).length = ps.length := by rfl) (hg : Gl X x := by rfl) (hdb : (x == ("__debug__" : Str)) = false := by decide)
    (he : starEach (e :: es) X.env = (false, eval e X.env) :: starEach es X.env := by rfl) (hpl : (backTo pos (starEach es X.env)).any (·.1) = false := by rfl) : SE X O .s (.Call (.Name x p) (e :: es) [] pos) (xCall (fun ds => if ds.length = ps.length then F ds else none) fs) := by
  obtain ⟨f, fd, hF, hm, kp, hb⟩ := hd.ex
  refine ⟨pe_imp (pe_call hF (hr.mono hk) hg hm kp hb .nil pass0 ha.pa hdb he hpl) fun σ H Q q => ?_⟩
  obtain ⟨H0, A0, G, ρ, B, d, S, e, k⟩ := q
  obtain ⟨ds, ex, e⟩ := bind2 e
  split at e
  · rename_i hz
    refine ⟨H0, A0, G, ρ, B, ds, S, ex, fun vs H1 s1 (r1 : RpL _ _ _ _ _) => ⟨Av A0 B, ds, d, (S.mono s1).tr, ?_, ?_, e, fun v H' s r => k v H' (s1.trans s) r⟩⟩
    · rw [List.append_nil, r1.length, hz]
    · rw [List.append_nil]; exact r1
  · cases e
theorem WRp.rp0 {K : PySem.W.Frag} {A : Addr → Prop} {H : Hp} {v : V} {d : D} (h : WRp K A H v d) : Rp K (fun _ => False) H v d := by
  rcases h with h | ⟨a, e, h⟩
  · exact h.anti fun _ z => z.elim
  · subst e
    exact (h.step (fun _ _ q _ => q) (fun _ z => z.elim) fun _ q => q : Tp K (fun _ => False) H a d).rp fun z => z
theorem weak_rp0 {K : PySem.W.Frag} {A : Addr → Prop} {H : Hp} : ∀ {vs : List V} {ds : List D}, Paired (WRp K A H) vs ds → RpL K (fun _ => False) H vs ds
  | _, _, .nil => .nil
  | _, _, .cons h r => .cons h.rp0 (weak_rp0 r)
/-- a call to which one's own lists go: what comes back holds no list -/
theorem se_callW (hd : Def X.prog X.w X.K X.mg X.base k x ps F) (hr : Room j X.A) (ha : SA X O false (e :: es) fs) (hk : k ≤ j := by decide) (hg : Gl X x := by rfl) (hdb : (x == ("__debug__" : Str)) = false := by decide)
    (he : starEach (e :: es) X.env = (false, eval e X.env) :: starEach es X.env := by rfl) (hpl : (backTo pos (starEach es X.env)).any (·.1) = false := by rfl) : SE X O .f (.Call (.Name x p) (e :: es) [] pos) (xCall (fun ds => if ds.length = ps.length then (F ds).bind fun d => if flat d then some d else none else none) fs) := by
  obtain ⟨f, fd, hF, hm, kp, hb⟩ := hd.ex
  refine ⟨pe_imp (pe_call hF (hr.mono hk) hg hm kp hb .nil pass0 ha.pa hdb he hpl) fun σ H Q q => ?_⟩
  obtain ⟨H0, A0, G, ρ, B, d, S, e, k⟩ := q
  obtain ⟨ds, ex, e⟩ := bind2 e
  split at e
  · rename_i hz
    obtain ⟨d', e', e⟩ := bind2 e
    split at e
    · rename_i hf
      cases e
      refine ⟨H0, A0, G, ρ, B, ds, S, ex, fun vs H1 s1 r1 => ⟨fun _ => False, ds, d, fun _ z => z.elim, ?_, ?_, e', fun v H' s r => k v H' (s1.trans s) (Res.flat (r.flatA (S.mono (s1.trans s)).tr hf) (flat_mut hf))⟩⟩
      · rw [List.append_nil, (weak_rp0 r1).length, hz]
      · rw [List.append_nil]; exact weak_rp0 r1
    · cases e
  · cases e
end
end Pm

namespace Pm
open PySem PySem.Spec PyProof.Rows L2

/-! ### what the built-ins do -/
def seqD : D → Option (List D)
  | .list xs => some xs
  | .tuple xs => some xs
  | _ => none
def asInts : List D → Option (List Int)
  | [] => some []
  | .int i :: r => (asInts r).map (i :: ·)
  | _ => none
def asBools : List D → Option (List Bool)
  | [] => some []
  | .bool i :: r => (asBools r).map (i :: ·)
  | _ => none
def bLen : List D → Option D
  | [.list xs] => some (.int xs.length)
  | [.tuple xs] => some (.int xs.length)
  | [.dict [(.none, .list xs)]] => some (.int xs.length)
  | _ => none
def bAbs : List D → Option D
  | [.int i] => some (.int (if i < 0 then -i else i))
  | _ => none
def bInt : List D → Option D
  | [.int i] => some (.int i)
  | [.bool b] => some (.int (if b then 1 else 0))
  | _ => none
def bMax2 : List D → Option D
  | [.int i, .int j] => some (.int (if j > i then j else i))
  | _ => none
def bMin2 : List D → Option D
  | [.int i, .int j] => some (.int (if j < i then j else i))
  | _ => none
def bSum : List D → Option D
  | [x] => (seqD x).bind fun xs => (asInts xs).map fun ns => .int ns.sum
  | _ => none
def bAll : List D → Option D
  | [x] => (seqD x).bind fun xs => (asBools xs).map fun ns => .bool (ns.all id)
  | _ => none
def bAny : List D → Option D
  | [x] => (seqD x).bind fun xs => (asBools xs).map fun ns => .bool (ns.any id)
  | _ => none
def bTuple : List D → Option D
  | [x] => (seqD x).map .tuple
  | _ => none
def bList : List D → Option D
  | [x] => (seqD x).map .list
  | _ => none

section
variable {K : PySem.W.Frag} {A : Addr → Prop} {H H' : Hp} {v : V} {d : D} {vs : List V} {ds : List D}
theorem p1 {F : V → D → Prop} {x : D} (h : Paired F vs [x]) : ∃ v, vs = [v] ∧ F v x := by
  cases h with
  | cons a r => cases r; exact ⟨_, rfl, a⟩
theorem p2 {F : V → D → Prop} {x y : D} (h : Paired F vs [x, y]) : ∃ v u, vs = [v, u] ∧ F v x ∧ F u y := by
  cases h with
  | cons a r =>
    cases r with
    | cons b r => cases r; exact ⟨_, _, rfl, a, b⟩
theorem WRp.seq {xs : List D} (h : WRp K A H v d) (e : seqD d = some xs) : ∃ a vs, v = .ref a ∧ (H a = some (.lst vs) ∨ H a = some (.tup vs)) ∧ RpL K A H vs xs := by
  unfold seqD at e
  split at e
  · cases e
    obtain ⟨a, vs, e1, e2, e3⟩ := h.lst
    exact ⟨a, vs, e1, .inl e2, e3⟩
  · cases e
    obtain ⟨a, vs, e1, e2, _, e3⟩ := h.tup
    exact ⟨a, vs, e1, .inr e2, e3⟩
  · cases e
theorem RpL.ints : ∀ {vs : List V} {ds : List D} {ns : List Int}, RpL K A H vs ds → asInts ds = some ns → vs = ns.map V.int
  | _, _, _, .nil, e => by cases e; rfl
  | _, _, ns, .cons h r, e => by
    cases h with
    | int i =>
      simp only [asInts] at e
      obtain ⟨ms, e1, e2⟩ := Option.map_eq_some_iff.mp e
      subst e2
      rw [RpL.ints r e1]
      rfl
    | _ => simp [asInts] at e
theorem RpL.bools : ∀ {vs : List V} {ds : List D} {ns : List Bool}, RpL K A H vs ds → asBools ds = some ns → vs = ns.map V.bl
  | _, _, _, .nil, e => by cases e; rfl
  | _, _, ns, .cons h r, e => by
    cases h with
    | bl i =>
      simp only [asBools] at e
      obtain ⟨ms, e1, e2⟩ := Option.map_eq_some_iff.mp e
      subst e2
      rw [RpL.bools r e1]
      rfl
    | _ => simp [asBools] at e
end

/-! ### a list or a tuple, walked -/
section
variable {X : Cx} {pins : List (Addr × Obj)} {σ : L2.St} {H : Hp} {s : Shared}
/-- the iterator of a list or a tuple -/
theorem sq_iter {A : Around} {E : Value → Shared → Prop} {a : Addr} {xs : List V} {Q : Value → Shared → Prop} (hh : A.handled = none) (I : Inv X pins σ H s) (h : H a = some (.lst xs) ∨ H a = some (.tup xs))
    (k : ∀ (its : List Value) (J : Addr) (fp wr : List Addr) (St : Nat → Heap → Prop) (h₂ : Heap), Vals xs its → Walks X.prog X.w A J fp wr its.length (fun i v => its[i]? = some v) St → St 0 h₂ → (∀ b ∈ fp, b < h₂.objs.size) →
      (∀ h' : Heap, (∀ b o, b ∉ wr → h₂.get? b = some o → h'.get? b = some o) → ∀ b o, s.heap.get? b = some o → h'.get? b = some o) → Q (.ref J) { s with heap := h₂ }) :
    wpAny (model X.prog X.w) A (pyIter (.ref a)) Q E s := by
  have fin : ∀ (o : Obj) (h' : Heap), (∀ b q, b ∉ [s.heap.objs.size] → (s.heap.push o).get? b = some q → h'.get? b = some q) → ∀ b q, s.heap.get? b = some q → h'.get? b = some q := fun o h' hk b q e =>
    hk b q (fun z => by
      have z' : b = s.heap.objs.size := by simpa using z
      exact absurd (z' ▸ Heap.lt_size e) (Nat.lt_irrefl _)) (Heap.get?_push_of_some _ e)
  have small : ∀ (o : Obj) (l : Addr), l < s.heap.objs.size → ∀ b ∈ [s.heap.objs.size, l], b < (s.heap.push o).objs.size := fun o l hl b hb => by
    rw [Heap.size_push]
    have z : b = s.heap.objs.size ∨ b = l := by simpa using hb
    rcases z with z | z
    · rw [z]; exact Nat.lt_succ_self _
    · rw [z]; exact Nat.lt_succ_of_lt hl
  rcases h with h | h
  · obtain ⟨its, rv, p, hz⟩ := I.list (.of h)
    have hlt : a < s.heap.objs.size := p.lt
    refine wpAny_pyIter_list p.isList ?_
    have W := Walks.list (prog := X.prog) (w := X.w) hh s.heap.objs.size a (Nat.ne_of_lt hlt) its.toArray
    refine k its _ [s.heap.objs.size, a] [s.heap.objs.size] (fun i h => h.IsListIter s.heap.objs.size a i ∧ h.IsList a its.toArray) _ rv (by simpa using W) ⟨⟨_, Heap.get?_push_size _ rfl, rfl, rfl⟩, p.isList.push _⟩ (small _ _ hlt) (fin _)
  · obtain ⟨its, rv, p, hz⟩ := I.tuple (.of h)
    have hlt : a < s.heap.objs.size := p.lt
    refine wpAny_pyIter_tuple (show s.heap.IsTuple a its.toArray from p) ?_
    have W := Walks.tuple (prog := X.prog) (w := X.w) hh s.heap.objs.size a (Nat.ne_of_lt hlt) its.toArray
    obtain ⟨o, ho, r⟩ := id p
    refine k its _ [s.heap.objs.size, a] [s.heap.objs.size] (fun i h => h.IsTupleIter s.heap.objs.size a i ∧ h.IsTuple a its.toArray) _ rv (by simpa using W) ⟨⟨_, Heap.get?_push_size _ rfl, rfl, rfl⟩, ⟨o, Heap.get?_push_of_some _ ho, r⟩⟩ (small _ _ hlt) (fin _)
end

section
variable {X : Cx} {k : Nat}
theorem ref1 {a : Addr} {us : List Value} (r : Vals [V.ref a] us) : us = [Value.ref a] := Vals.ref1 r
theorem cb_len : CallR X (.builtin "len") (rC X.K .f bLen) := by
  intro pins s σ H vs us Q I r ⟨A, ds, d, tr, w, e, q⟩
  unfold bLen at e
  split at e
  · cases e
    obtain ⟨v, rfl, w1⟩ := p1 w
    obtain ⟨a, xs, rfl, ha, ra⟩ := w1.lst
    exact call_len_seq pins s σ H _ us Q I r ⟨a, xs, rfl, .inl (.of ha), by rw [ra.length]; exact q _ H (Same.refl H) Res.int⟩
  · cases e
    obtain ⟨v, rfl, w1⟩ := p1 w
    obtain ⟨a, xs, rfl, ha, _, ra⟩ := w1.tup
    exact call_len_seq pins s σ H _ us Q I r ⟨a, xs, rfl, .inr (.of ha), by rw [ra.length]; exact q _ H (Same.refl H) Res.int⟩
  · cases e
    obtain ⟨v, rfl, w1⟩ := p1 w
    obtain ⟨a, xs, rfl, ha, ra⟩ := w1.scr
    exact call_len_seq pins s σ H _ us Q I r ⟨a, xs, rfl, .inl ha, by rw [ra.length]; exact q _ H (Same.refl H) Res.int⟩
  · cases e
theorem cb_abs : CallR X (.builtin "abs") (rC X.K .f bAbs) := by
  intro pins s σ H vs us Q I r ⟨A, ds, d, tr, w, e, q⟩
  unfold bAbs at e
  split at e
  · cases e
    obtain ⟨v, rfl, w1⟩ := p1 w
    exact call_abs pins s σ H _ us Q I r ⟨_, by rw [w1.int], q _ H (Same.refl H) Res.int⟩
  · cases e
theorem cb_int : CallR X (.type "int") (rC X.K .f bInt) := by
  intro pins s σ H vs us Q I r ⟨A, ds, d, tr, w, e, q⟩
  unfold bInt at e
  split at e
  · cases e
    obtain ⟨v, rfl, w1⟩ := p1 w
    exact call_int1 pins s σ H _ us Q I r (.inl ⟨_, by rw [w1.int], q _ H (Same.refl H) Res.int⟩)
  · cases e
    obtain ⟨v, rfl, w1⟩ := p1 w
    exact call_int1 pins s σ H _ us Q I r (.inr ⟨_, by rw [w1.bl], q _ H (Same.refl H) Res.int⟩)
  · cases e
theorem cb_max2 (hc : X.calm = true := by rfl) : CallR X (.builtin "max") (rC X.K .f bMax2) := by
  intro pins s σ H vs us Q I r ⟨A, ds, d, tr, w, e, q⟩
  unfold bMax2 at e
  split at e
  · cases e
    obtain ⟨v, u, rfl, w1, w2⟩ := p2 w
    exact call_max2 hc pins s σ H _ us Q I r ⟨_, _, by rw [w1.int, w2.int], q _ H (Same.refl H) Res.int⟩
  · cases e
theorem cb_min2 (hc : X.calm = true := by rfl) : CallR X (.builtin "min") (rC X.K .f bMin2) := by
  intro pins s σ H vs us Q I r ⟨A, ds, d, tr, w, e, q⟩
  unfold bMin2 at e
  split at e
  · cases e
    obtain ⟨v, u, rfl, w1, w2⟩ := p2 w
    exact call_min2 hc pins s σ H _ us Q I r ⟨_, _, by rw [w1.int, w2.int], q _ H (Same.refl H) Res.int⟩
  · cases e
theorem intsAt {its : List Value} {ns : List Int} (r : Vals (ns.map V.int) its) (i : Nat) (v : Value) (h : its[i]? = some v) : ∃ t, v = .int (ns.getD i 0) t := by
  have hi := r.length
  rw [List.length_map] at hi
  have hlt : i < ns.length := by rw [hi]; exact (List.getElem?_eq_some_iff.mp h).1
  obtain ⟨u, e, q⟩ := r.get (i := i) (x := .int ns[i]) (by simp [hlt])
  rw [h] at e
  cases e
  obtain ⟨t, rfl⟩ := q
  exact ⟨t, by simp [hlt]⟩
theorem preSum_all (ns : List Int) : preSum (fun i => ns.getD i 0) ns.length = ns.sum := by
  have h : ∀ k, k ≤ ns.length → preSum (fun i => ns.getD i 0) k = (ns.take k).sum := by
    intro k
    induction k with
    | zero => intro _; rfl
    | succ k ih =>
      intro hk
      show preSum (fun i => ns.getD i 0) k + ns.getD k 0 = _
      rw [ih (by omega), List.take_succ, List.sum_append, List.getElem?_eq_getElem (by omega)]
      simp [List.getD_eq_getElem?_getD, List.getElem?_eq_getElem (show k < ns.length by omega)]
  rw [h _ (Nat.le_refl _), List.take_length]
theorem cb_sum (hc : X.calm = true := by rfl) : CallR X (.builtin "sum") (rC X.K .f bSum) := by
  intro pins s σ H vs us Q I r ⟨A, ds, d, tr, w, e, q⟩
  unfold bSum at e
  split at e
  · obtain ⟨v, rfl, w1⟩ := p1 w
    obtain ⟨xs, e1, e⟩ := bind2 e
    obtain ⟨ns, e2, e⟩ := Option.map_eq_some_iff.mp e
    subst e
    obtain ⟨a, vs, rfl, ha, ra⟩ := w1.seq e1
    rw [ref1 r]
    have hv := ra.ints e2
    subst hv
    refine call_sum_walkG (sq_iter (show X.A.in1.handled = none from I.ok.hd hc) I ha fun its J fp wr St h₂ rv W st hfp kp => ?_)
    have hl := rv.length
    rw [List.length_map] at hl
    refine ⟨_, _, _, _, _, _, fun i => ns.getD i 0, rfl, W, st, hfp, fun i v h => intsAt rv i v h, fun h' tk t' hk => ?_⟩
    rw [← hl, preSum_all]
    exact ⟨.int _, H, I.kept (kp h' hk), ⟨_, rfl⟩, q _ H (Same.refl H) Res.int⟩
  · cases e
theorem truths {prog : Program} {w : World} {A : Around} {bs : List Bool} {its : List Value} (e : its = bs.map Value.bool) : TruthOf prog w A (fun i v => its[i]? = some v) (fun i => bs.getD i false) := by
  have := truth_bools (prog := prog) (w := w) (A := A) e
  simpa using this
theorem cb_all (hc : X.calm = true := by rfl) : CallR X (.builtin "all") (rC X.K .f bAll) := by
  intro pins s σ H vs us Q I r ⟨A, ds, d, tr, w, e, q⟩
  unfold bAll at e
  split at e
  · obtain ⟨v, rfl, w1⟩ := p1 w
    obtain ⟨xs, e1, e⟩ := bind2 e
    obtain ⟨ns, e2, e⟩ := Option.map_eq_some_iff.mp e
    subst e
    obtain ⟨a, vs, rfl, ha, ra⟩ := w1.seq e1
    rw [ref1 r]
    have hv := ra.bools e2
    subst hv
    refine call_all_walk (sq_iter (show X.A.in1.handled = none from I.ok.hd hc) I ha fun its J fp wr St h₂ rv W st hfp kp => ?_)
    have hl := rv.length
    rw [List.length_map] at hl
    refine ⟨_, _, _, _, _, _, _, rfl, W, st, truths rv.bls, fun h' tk hk => ?_⟩
    rw [← hl, L2.all_range]
    exact ⟨.bl _, H, I.kept (kp h' hk), rfl, q _ H (Same.refl H) Res.bl⟩
  · cases e
theorem cb_any (hc : X.calm = true := by rfl) : CallR X (.builtin "any") (rC X.K .f bAny) := by
  intro pins s σ H vs us Q I r ⟨A, ds, d, tr, w, e, q⟩
  unfold bAny at e
  split at e
  · obtain ⟨v, rfl, w1⟩ := p1 w
    obtain ⟨xs, e1, e⟩ := bind2 e
    obtain ⟨ns, e2, e⟩ := Option.map_eq_some_iff.mp e
    subst e
    obtain ⟨a, vs, rfl, ha, ra⟩ := w1.seq e1
    rw [ref1 r]
    have hv := ra.bools e2
    subst hv
    refine call_any_walk (sq_iter (show X.A.in1.handled = none from I.ok.hd hc) I ha fun its J fp wr St h₂ rv W st hfp kp => ?_)
    have hl := rv.length
    rw [List.length_map] at hl
    refine ⟨_, _, _, _, _, _, _, rfl, W, st, truths rv.bls, fun h' tk hk => ?_⟩
    rw [← hl, L2.any_range]
    exact ⟨.bl _, H, I.kept (kp h' hk), rfl, q _ H (Same.refl H) Res.bl⟩
  · cases e
theorem cb_tuple : CallR X (.type "tuple") (rC X.K .f bTuple) := by
  intro pins s σ H vs us Q I r ⟨A, ds, d, tr, w, e, q⟩
  unfold bTuple at e
  split at e
  · obtain ⟨v, rfl, w1⟩ := p1 w
    obtain ⟨xs, e1, e⟩ := Option.map_eq_some_iff.mp e
    subst e
    unfold seqD at e1
    split at e1
    · cases e1
      obtain ⟨a, ys, rfl, ha, ra⟩ := w1.lst
      exact call_tuple_of pins s σ H _ us Q I r ⟨a, ys, rfl, .inl ⟨.of ha, fun l hl => q _ _ (same_upd hl) (Res.flat (Rp.newT tr hl ra) rfl)⟩⟩
    · cases e1
      obtain ⟨a, ys, rfl, ha, na, ra⟩ := w1.tup
      exact call_tuple_of pins s σ H _ us Q I r ⟨a, ys, rfl, .inr ⟨.of ha, q _ H (Same.refl H) (Res.flat (.tup ha na ra) rfl)⟩⟩
    · cases e1
  · cases e
theorem cb_list : CallR X (.type "list") (rC X.K .f bList) := by
  intro pins s σ H vs us Q I r ⟨A, ds, d, tr, w, e, q⟩
  unfold bList at e
  split at e
  · obtain ⟨v, rfl, w1⟩ := p1 w
    obtain ⟨xs, e1, e⟩ := Option.map_eq_some_iff.mp e
    subst e
    obtain ⟨a, ys, rfl, ha, ra⟩ := w1.seq e1
    refine call_list_of pins s σ H _ us Q I r ⟨a, ys, rfl, ha.elim (fun h => .inl (.of h)) (fun h => .inr (.of h)), fun l hl => q _ _ (same_upd hl) (Res.newL tr hl ra (Same.refl H))⟩
  · cases e

/-! ### isinstance of a written built-in type -/
def tyName : D → String
  | .none => "NoneType"
  | .bool _ => "bool"
  | .int _ => "int"
  | .str _ => "str"
  | .list _ => "list"
  | .tuple _ => "tuple"
  | .dict _ => "dict"
def oIsi (T : String) (d : D) : Option D := match d with
  | .dict _ => none
  | _ => (kitB (tyName d) T).map .bool
theorem WRp.ty {K : PySem.W.Frag} {A : Addr → Prop} {H : Hp} {v : V} {d : D} (w : WRp K A H v d) (h : ∀ kvs, d ≠ .dict kvs) : TyX K H v (.type (tyName d)) := by
  rcases w with w | ⟨a, e, w⟩
  · cases w with
    | non => exact .base .non
    | bl b => exact .base (.bl b)
    | int i => exact .base (.int i)
    | str x => exact .base (.str x)
    | lst e n r => exact .base (.lst e)
    | tup e n r => exact .base (.tup e)
    | scr e n r => exact absurd rfl (h _)
    | kl e r => exact absurd rfl (h _)
    | dic e n r q => exact absurd rfl (h _)
  · subst e
    cases w with
    | lst e r => exact .base (.lst e)
    | dic e r q => exact absurd rfl (h _)
section
variable {O : List Nat} {m : Md} {a : Expr} {fa : Xp} {p pos pt : Pos} {x T' : Str} {T : String}
theorem se_isi (T : String) (ha : SE X O m a fa) (hm : X.mg "isinstance" = none) (hmT : X.mg T' = none) (hg : Gl X "isinstance" := by rfl) (hgT : Gl X T' := by rfl) (hvT : bootBuiltins T' = some (.type T) := by rfl) (hnT : T' ≠ "__name__" := by decide) (hdT : (T' == ("__debug__" : Str)) = false := by decide)
    (hs : starEach (a :: [Expr.Name T' pt]) X.env = (false, eval a X.env) :: starEach [Expr.Name T' pt] X.env := by rfl) (hs2 : starEach [Expr.Name T' pt] X.env = (false, eval (.Name T' pt) X.env) :: starEach [] X.env := by rfl)
    (hpl : (backTo pos (starEach [Expr.Name T' pt] X.env)).any (·.1) = false := by rfl) : SE X O .f (.Call (.Name "isinstance" p) [a, .Name T' pt] [] pos) (xUn (oIsi T) fa) := by
  have hT : PE X (.Name T' pt) (tC (.ty T)) := pe_bltn hgT hmT hvT rfl hnT hdT
  refine ⟨pe_imp (pe_callB call_isi hg hm (by decide +kernel) (pa_cons ha.pe (pa_cons hT pa_nil hs2) hs) (by decide) (by decide) hs hpl) fun σ H Q q => ?_⟩
  obtain ⟨H0, A0, G, ρ, B, d, S, e, k⟩ := q
  obtain ⟨y, ey, e⟩ := bind2 e
  unfold oIsi at e
  split at e
  · cases e
  · rename_i hnd
    obtain ⟨b, eb, e⟩ := Option.map_eq_some_iff.mp e
    subst e
    refine ⟨H0, A0, G, ρ, B, y, S, ey, fun v H1 s1 r1 => ?_⟩
    exact ⟨v, .ty T, .type (tyName y), .type T, b, rfl, .ty T, r1.toW.ty hnd, kit_ty eb, k _ H1 s1 Res.bl⟩
end
end
end Pm

namespace Pm
open PySem PySem.Spec PyProof.Rows L2

/-! ### what is walked -/
structure Yl (K : PySem.W.Frag) (J : It) (gs : List (V × D)) (ds : List D) : Prop where
  go : ∀ A H i d, Tr A H → (∀ p ∈ gs, WRp K A H p.1 p.2) → ds[i]? = some d → J.go i H ∧ ∀ x H', J.yld i H x H' → Same H H' ∧ Rp K A H' x d
  stop : ∀ A H, Tr A H → (∀ p ∈ gs, WRp K A H p.1 p.2) → J.stop ds.length H
def strongR (K : PySem.W.Frag) (A : Addr → Prop) (H : Hp) (st : Bool) (v : V) (d : D) : Prop := if st then Rp K A H v d else WRp K A H v d
def simI (K : PySem.W.Frag) (O : List Nat) (st : Bool) (f : XL) : TI := fun σ H R => ∃ H0 A0 G ρ B ds, Sim K H0 A0 G O σ H ρ B ∧ f ρ = some ds ∧
  ∀ J H' gs, Same H H' → Yl K J gs ds → (∀ p ∈ gs, strongR K (Av A0 B) H' st p.1 p.2) → ds.length ≤ 16777216 → R J H'
structure SI (X : Cx) (O : List Nat) (st : Bool) (tg iter : Expr) (f : XL) : Prop where
  pi : PI X tg iter (simI X.K O st f)
theorem pi_imp {X : Cx} {tg e : Expr} {t t' : TI} (h : PI X tg e t) (hi : ∀ σ H Q, t' σ H Q → t σ H Q) : PI X tg e t' := ⟨fun pins s σ H Q I q => h.run pins s σ H Q I (hi _ _ _ q)⟩
theorem pi_or {X : Cx} {tg e : Expr} {t t' : TI} (h : PI X tg e t) (h' : PI X tg e t') : PI X tg e (fun σ H R => t σ H R ∨ t' σ H R) :=
  ⟨fun pins s σ H Q I q => q.elim (h.run pins s σ H Q I) (h'.run pins s σ H Q I)⟩
/-- lists and tuples are no longer than the line -/
def HpOk (H : Hp) : Prop := ∀ a xs, (H a = some (.lst xs) ∨ H a = some (.tup xs)) → xs.length ≤ 16777216
theorem hpok {X : Cx} {pins : List (Addr × Obj)} {σ : L2.St} {H : Hp} {s : Shared} (I : Inv X pins σ H s) : HpOk H := fun a xs h => by
  rcases h with h | h
  · have z : xs.length ≤ sizeLine := (I.hok a _ h).1
    exact z
  · have z : xs.length ≤ sizeLine := (I.hok a _ h).1
    exact z
theorem pe_ok {X : Cx} {e : Expr} {t : TE} (h : PE X e t) : PE X e (fun σ H Q => t σ H fun v H' => HpOk H' → Q v H') :=
  ⟨fun pins s σ H Q I q => thn (h.run pins s σ H _ I q) fun u s' ⟨v, H', I', r, q'⟩ => ⟨v, H', I', r, q' (hpok I')⟩⟩
theorem pa_ok {X : Cx} {e : List Expr} {t : TA} (h : PA X e t) : PA X e (fun σ H Q => t σ H fun v H' => HpOk H' → Q v H') :=
  ⟨fun pos pins s σ H Q I q => thn (h.run pos pins s σ H _ I q) fun u s' ⟨v, H', I', r, q'⟩ => ⟨v, H', I', r, q' (hpok I')⟩⟩
section
variable {X : Cx} {O : List Nat} {m ma mb mc : Md} {st : Bool} {a b c e tg : Expr} {es : List Expr} {fa fb fc f : Xp} {fs : XL} {pos p : Pos}
def xSeq (f : Xp) : XL := fun ρ => (f ρ).bind seqD
def mdS : Md → Bool
  | .w => false
  | _ => true
theorem Res.sR {K : PySem.W.Frag} {A : Addr → Prop} {He H' : Hp} {v : V} {d : D} (t : Tr A He) (h : Res K A He H' m v d) : strongR K A H' (mdS m) v d := by
  cases m with
  | w => exact h
  | s => exact h
  | f => exact h.toS t (by decide)
theorem strongR.w {K : PySem.W.Frag} {A : Addr → Prop} {H' : Hp} {v : V} {d : D} (h : strongR K A H' st v d) : WRp K A H' v d := by
  cases st with
  | true => exact .inl h
  | false => exact h
/-- a tracked list has one content -/
theorem sql_one {K : PySem.W.Frag} {H : Hp} {a : Addr} {xs ys : List V} (h : H a = some (.lst xs)) (h' : Rd H a (.lst ys)) : ys = xs := by
  rcases h' with h' | ⟨o, h'⟩
  · rw [h] at h'; cases h'; rfl
  · rw [h] at h'; cases h'
theorem si_seq (h : SE X O m e f) : SI X O (mdS m) tg e (xSeq f) := by
  refine ⟨pi_imp (pi_or (pi_list (pe_ok h.pe)) (pi_tup (pe_ok h.pe))) fun σ H R q => ?_⟩
  obtain ⟨H0, A0, G, ρ, B, ds, S, e, k⟩ := q
  obtain ⟨d, ed, e⟩ := bind2 e
  unfold seqD at e
  split at e
  · cases e
    refine .inl ⟨H0, A0, G, ρ, B, _, S, ed, fun v H1 s1 r1 ok => ?_⟩
    obtain ⟨a, xs, rfl, ha, ra⟩ := r1.toW.lst
    refine ⟨a, rfl, ⟨xs, .of ha⟩, k _ H1 [(.ref a, .list ds)] s1 ⟨fun A H i d t g e => ?_, fun A H t g => ?_⟩ (fun p hp => ?_) (by rw [← ra.length]; exact ok a xs (.inl ha))⟩
    · obtain ⟨b, ys, eb, hb, rb⟩ := (g _ (List.mem_singleton.mpr rfl)).lst
      cases eb
      obtain ⟨y, ey, ry⟩ := rb.get e
      refine ⟨⟨ys, y, .of hb, ey⟩, fun x H' hy => ?_⟩
      obtain ⟨rfl, hy⟩ := hy
      have := hy ys (.of hb)
      rw [ey] at this
      cases this
      exact ⟨Same.refl _, ry⟩
    · obtain ⟨b, ys, eb, hb, rb⟩ := (g _ (List.mem_singleton.mpr rfl)).lst
      cases eb
      exact ⟨ys, .of hb, by rw [rb.length]; exact Nat.le_refl _⟩
    · rw [List.mem_singleton.mp hp]
      exact r1.sR S.tr
  · cases e
    refine .inr ⟨H0, A0, G, ρ, B, _, S, ed, fun v H1 s1 r1 ok => ?_⟩
    obtain ⟨a, xs, rfl, ha, na, ra⟩ := r1.toW.tup
    refine ⟨a, rfl, ⟨xs, .of ha⟩, k _ H1 [(.ref a, .tuple ds)] s1 ⟨fun A H i d t g e => ?_, fun A H t g => ?_⟩ (fun p hp => ?_) (by rw [← ra.length]; exact ok a xs (.inr ha))⟩
    · obtain ⟨b, ys, eb, hb, nb, rb⟩ := (g _ (List.mem_singleton.mpr rfl)).tup
      cases eb
      obtain ⟨y, ey, ry⟩ := rb.get e
      refine ⟨⟨ys, y, .of hb, ey⟩, fun x H' hy => ?_⟩
      obtain ⟨rfl, hy⟩ := hy
      have := hy ys (.of hb)
      rw [ey] at this
      cases this
      exact ⟨Same.refl _, ry⟩
    · obtain ⟨b, ys, eb, hb, nb, rb⟩ := (g _ (List.mem_singleton.mpr rfl)).tup
      cases eb
      exact ⟨ys, .of hb, by rw [rb.length]; exact Nat.le_refl _⟩
    · rw [List.mem_singleton.mp hp]
      exact r1.sR S.tr
  · cases e
/-- lo, lo + c, .. -/
def rangeD (lo c : Int) (n : Nat) : List D := (List.range n).map fun i => .int (lo + (i : Nat) * c)
theorem rangeD_len (lo c : Int) (n : Nat) : (rangeD lo c n).length = n := by simp [rangeD]
theorem rangeD_get {lo c : Int} {n i : Nat} {d : D} (h : (rangeD lo c n)[i]? = some d) : i < n ∧ d = .int (lo + (i : Nat) * c) := by
  have hl : i < n := by
    have := (List.getElem?_eq_some_iff.mp h).1
    rwa [rangeD_len] at this
  refine ⟨hl, ?_⟩
  unfold rangeD at h
  rw [List.getElem?_map, List.getElem?_range hl] at h
  cases h
  rfl
def oR1 : List D → Option (List D)
  | [.int j] => if j ≤ 16777216 ∧ -(2 ^ 62) ≤ j then some (rangeD 0 1 j.toNat) else none
  | _ => none
def oR2 : List D → Option (List D)
  | [.int i, .int j] => if -(2 ^ 60) ≤ i ∧ i < 2 ^ 60 ∧ -(2 ^ 60) ≤ j ∧ j < 2 ^ 60 ∧ j - i ≤ 16777216 then some (rangeD i 1 (j - i).toNat) else none
  | _ => none
def oR3 : List D → Option (List D)
  | [.int i, .int j, .int (-1)] => if -(2 ^ 60) ≤ i ∧ i < 2 ^ 60 ∧ -(2 ^ 60) ≤ j ∧ j < 2 ^ 60 ∧ i - j ≤ 16777216 then some (rangeD i (-1) (i - j).toNat) else none
  | [.int i, .int j, .int c] => if RgOk i j c then some (rangeD i c (rgN i j c)) else none
  | _ => none
where
  rgN (i j c : Int) : Nat := (Builtin.Range.rangeSize i j c).toNat
  RgOk (i j c : Int) : Bool := decide (c ≠ 0) && decide (c.natAbs < 1073741824) && Builtin.Range.small i j c && decide (0 ≤ Builtin.Range.rangeSize i j c) && decide (Builtin.Range.rangeSize i j c ≤ 16777216)
def xIt (g : List D → Option (List D)) (fs : XL) : XL := fun ρ => (fs ρ).bind g
theorem yl_r {K : PySem.W.Frag} (lo : Int) (n : Nat) : Yl K (Itr lo n) [] (rangeD lo 1 n) where
  go := fun A H i d t g e => by
    obtain ⟨h1, h2⟩ := rangeD_get e
    subst h2
    refine ⟨h1, fun x H' hy => ?_⟩
    obtain ⟨rfl, rfl⟩ := hy
    refine ⟨Same.refl _, ?_⟩
    rw [Int.mul_one]
    exact .int _
  stop := fun A H t g => by
    rw [rangeD_len]
    exact Nat.le_refl _
theorem yl_c {K : PySem.W.Frag} (lo c : Int) (n : Nat) : Yl K (Itc lo c n) [] (rangeD lo c n) where
  go := fun A H i d t g e => by
    obtain ⟨h1, h2⟩ := rangeD_get e
    subst h2
    refine ⟨h1, fun x H' hy => ?_⟩
    obtain ⟨rfl, rfl⟩ := hy
    exact ⟨Same.refl _, .int _⟩
  stop := fun A H t g => by
    rw [rangeD_len]
    exact Nat.le_refl _
theorem p3 {F : V → D → Prop} {vs : List V} {x y z : D} (h : Paired F vs [x, y, z]) : ∃ v u w, vs = [v, u, w] ∧ F v x ∧ F u y ∧ F w z := by
  cases h with
  | cons a r =>
    obtain ⟨u, w, rfl, h1, h2⟩ := p2 r
    exact ⟨_, _, _, rfl, a, h1, h2⟩
theorem si_r1 (hm : X.mg "range" = none) (ha : SA X O st [a] fs) (hg : Gl X "range" := by rfl) (hs : starEach [a] X.env = [(false, eval a X.env)] := by rfl) : SI X O true tg (.Call (.Name "range" p) [a] [] pos) (xIt oR1 fs) := by
  refine ⟨pi_imp (pi_range1 hg hm ha.pa hs) fun σ H R q => ?_⟩
  obtain ⟨H0, A0, G, ρ, B, ds, S, e, k⟩ := q
  obtain ⟨d, ed, e⟩ := bind2 e
  unfold oR1 at e
  split at e
  · split at e
    · rename_i hz
      cases e
      refine ⟨H0, A0, G, ρ, B, _, S, ed, fun vs H1 s1 r1 => ?_⟩
      obtain ⟨v, rfl, w⟩ := p1 r1.weak
      exact ⟨_, by rw [w.int], hz.2, by omega, k _ H1 [] s1 (yl_r _ _) (fun p hp => nomatch hp) (by rw [rangeD_len]; omega)⟩
    · cases e
  · cases e
theorem si_r2 (hm : X.mg "range" = none) (ha : SA X O st [a, b] fs) (hg : Gl X "range" := by rfl) (hs : starEach [a, b] X.env = [(false, eval a X.env), (false, eval b X.env)] := by rfl) (hs2 : starEach [b] X.env = [(false, eval b X.env)] := by rfl) : SI X O true tg (.Call (.Name "range" p) [a, b] [] pos) (xIt oR2 fs) := by
  refine ⟨pi_imp (pi_range2 hg hm ha.pa hs hs2) fun σ H R q => ?_⟩
  obtain ⟨H0, A0, G, ρ, B, ds, S, e, k⟩ := q
  obtain ⟨d, ed, e⟩ := bind2 e
  unfold oR2 at e
  split at e
  · split at e
    · rename_i hz
      cases e
      refine ⟨H0, A0, G, ρ, B, _, S, ed, fun vs H1 s1 r1 => ?_⟩
      obtain ⟨v, u, rfl, w, w'⟩ := p2 r1.weak
      exact ⟨_, _, by rw [w.int, w'.int], ⟨by omega, by omega, by omega, by omega⟩, k _ H1 [] s1 (yl_r _ _) (fun p hp => nomatch hp) (by rw [rangeD_len]; omega)⟩
    · cases e
  · cases e
theorem si_r3 (hm : X.mg "range" = none) (ha : SA X O st [a, b, c] fs) (hg : Gl X "range" := by rfl) (hs : starEach [a, b, c] X.env = (false, eval a X.env) :: starEach [b, c] X.env := by rfl) (hpl : (backTo pos (starEach [b, c] X.env)).any (·.1) = false := by rfl) : SI X O true tg (.Call (.Name "range" p) [a, b, c] [] pos) (xIt oR3 fs) := by
  refine ⟨pi_imp (pi_range3 hg hm ha.pa hs hpl) fun σ H R q => ?_⟩
  obtain ⟨H0, A0, G, ρ, B, ds, S, e, k⟩ := q
  obtain ⟨d, ed, e⟩ := bind2 e
  unfold oR3 at e
  split at e
  · split at e
    · rename_i hz
      cases e
      refine ⟨H0, A0, G, ρ, B, _, S, ed, fun vs H1 s1 r1 => ?_⟩
      obtain ⟨v, u, w, rfl, w1, w2, w3⟩ := p3 r1.weak
      exact ⟨_, _, _, _, by rw [w1.int, w2.int, w3.int], RgC.neg (by omega) (by omega) (by omega) (by omega), k _ H1 [] s1 (yl_c _ _ _) (fun p hp => nomatch hp) (by rw [rangeD_len]; omega)⟩
    · cases e
  · split at e
    · rename_i hz
      cases e
      refine ⟨H0, A0, G, ρ, B, _, S, ed, fun vs H1 s1 r1 => ?_⟩
      obtain ⟨v, u, w, rfl, w1, w2, w3⟩ := p3 r1.weak
      unfold oR3.RgOk at hz
      simp only [Bool.and_eq_true, decide_eq_true_eq] at hz
      obtain ⟨⟨⟨⟨z1, z2⟩, z3⟩, z4⟩, z5⟩ := hz
      refine ⟨_, _, _, oR3.rgN _ _ _, by rw [w1.int, w2.int, w3.int], ⟨z1, z2, z3, ?_⟩, k _ H1 [] s1 (yl_c _ _ _) (fun p hp => nomatch hp) ?_⟩
      · unfold oR3.rgN
        omega
      · rw [rangeD_len]
        unfold oR3.rgN
        omega
    · cases e
  · cases e
/-- enumerate of a list -/
def enumD (xs : List D) : List D := (List.range xs.length).zipWith (fun i x => .tuple [.int (i : Nat), x]) xs
theorem enumD_len (xs : List D) : (enumD xs).length = xs.length := by simp [enumD]
theorem enumD_get {xs : List D} {i : Nat} {d : D} (h : (enumD xs)[i]? = some d) : ∃ x, xs[i]? = some x ∧ d = .tuple [.int (i : Nat), x] := by
  have hl : i < xs.length := by
    have := (List.getElem?_eq_some_iff.mp h).1
    rwa [enumD_len] at this
  refine ⟨xs[i], List.getElem?_eq_getElem hl, ?_⟩
  unfold enumD at h
  rw [List.getElem?_zipWith, List.getElem?_range hl, List.getElem?_eq_getElem hl] at h
  cases h
  rfl
theorem sqOne {K : PySem.W.Frag} {H : Hp} {a : Addr} {xs : List V} (h : H a = some (.lst xs)) {P : List V → Prop} (p : ∀ ys, SqL K H a ys → P ys) : P xs := p xs (.of h)
end
end Pm

/-! enumerate of a tuple, as a Turn -/
namespace Pm
open PySem PySem.Spec PyProof.Rows L2
set_option maxHeartbeats 1000000 in
theorem meets_enum1 {v : Value} {ob : Obj} {Hy : Heap → Prop} (Bg : Begins v ob Hy) :
    Meets (Builtin.«enumerate.__new__» ⟨[.type "enumerate", v], []⟩) (fun _ R s => Hy s.heap ∧
      R (.ok (.ret (.ref (s.heap.push ob).objs.size))) { s with heap := (s.heap.push ob).push { cls := .type "enumerate", data := .fields #[.none, .bool false, .ref s.heap.objs.size, rawInt 0, .none, .none] } }) :=
  .of_wp fun prog w A R s z => by
    obtain ⟨hp, gs, dr, tks, ost⟩ := s; obtain ⟨z1, z⟩ := z
    have hsub := sub_enumerate
    have run : ∀ {A' : Around} {E : Value → Shared → Prop} {Q : Value → Shared → Prop}, Q (.ref hp.objs.size) ⟨hp.push ob, gs, dr, tks, ost⟩ → wpAny (model prog w) A' (pyIter v) Q E ⟨hp, gs, dr, tks, ost⟩ :=
      fun q => Bg.iter prog w _ _ ⟨hp, gs, dr, tks, ost⟩ _ z1 q
    wp_walk using run
    refine wpAny_stack_any fun stk => wpAny_pure ?_
    split
    · rename_i cc _ _ _ _ _
      cases (cc == Value.type "enumerate") <;> (wp_walk using run) <;> exact ⟨_, rfl, z⟩
    · wp_walk using run
      exact ⟨_, rfl, z⟩
section
variable {prog : Program} {w : World} {A : Around} {E : Value → Shared → Prop} {s : Shared}
theorem enum_one {v : Value} {ob : Obj} {Hy : Heap → Prop} {Q : Value → Shared → Prop} (Bg : Begins v ob Hy) (z1 : Hy s.heap)
    (k : ∀ hh, IsEnum hh (s.heap.objs.size + 1) s.heap.objs.size 0 .none → hh.get? s.heap.objs.size = some ob → (∀ b o, s.heap.get? b = some o → hh.get? b = some o) → Q (.ref (s.heap.objs.size + 1)) { s with heap := hh }) :
    wpAny (model prog w) A (call (.type "enumerate") [v]) Q E s := by
  refine callType_new F.called_enumerate (by decide) (F.typeCall_enumerate_1 _) (F.newCall_enumerate_1 _) (fun obj => F.args_object_init_2 obj _) F.entry_enumerate_new (meets_enum1 Bg) ⟨z1, ?_⟩
  have sz : (s.heap.push ob).objs.size = s.heap.objs.size + 1 := Heap.size_push ..
  have ie : IsEnum ((s.heap.push ob).push { cls := .type "enumerate", data := .fields #[.none, .bool false, .ref s.heap.objs.size, rawInt 0, .none, .none] }) (s.heap.objs.size + 1) s.heap.objs.size 0 .none := by
    rw [← sz]
    exact Heap.get?_push_size _ rfl
  show _ ∧ _
  rw [sz]
  exact ⟨⟨_, ie, rfl⟩, k _ ie (Heap.get?_push_of_some _ (Heap.get?_push_size _ Bg.free)) fun b o x => Heap.get?_push_of_some _ (Heap.get?_push_of_some _ x)⟩
end
/-- the tuple at a, each item in a new pair -/
def ItE (K : PySem.W.Frag) (a : Addr) : It where
  go := fun i H => ∃ (xs : List V) (x : V), SqT K H a xs ∧ xs[i]? = some x
  yld := fun i H v H' => ∃ T x, v = .ref T ∧ H T = none ∧ H' = upd H T (.tup [.int (i : Nat), x]) ∧ ∀ xs, SqT K H a xs → xs[i]? = some x
  stop := fun i H => ∃ xs : List V, SqT K H a xs ∧ xs.length ≤ i
theorem turn_enumTup {P : Program} {w : World} {K : PySem.W.Frag} {elts : List Expr} {kk : Nat} {tpos : Pos} (a e it : Addr) :
    Turn P w K (.Tuple elts kk tpos) (ItE K a) [e, it] e (fun i h => (∃ old, IsEnum h e it ((0 : Int) + ((i : Nat) : Int)) old) ∧ h.IsTupleIter it a i ∧ e ≠ it ∧ a ≠ it) where
  mem := List.mem_cons_self
  obj := by
    intro i h ⟨⟨old, he⟩, ⟨o, ho, hc, hd⟩, _⟩ b hb
    have hb' : b = e ∨ b = it := by simpa using hb
    rcases hb' with rfl | rfl
    · exact ⟨_, he, fun v q => nomatch q⟩
    · exact ⟨o, ho, fun v q => by rw [hd] at q; cases q⟩
  keep := by
    intro i h h' ⟨⟨old, he⟩, hi, hne⟩ k
    exact ⟨⟨old, k e (by simp) _ he⟩, hi.at fun o q => k it (by simp) o q, hne⟩
  item := by
    intro X hP hw hK hc i pins s σ H E I hf st hg
    subst hP hw hK
    obtain ⟨⟨old, he⟩, hit, hne, hat⟩ := st
    obtain ⟨xs, x, hq, hx⟩ := hg
    obtain ⟨its, rv, p, hz⟩ := I.tuple hq
    obtain ⟨u, hu, ru⟩ := rv.get hx
    have hi : i < its.length := (List.getElem?_eq_some_iff.mp hu).1
    have el : e < s.heap.objs.size := Heap.lt_size he
    have il : it < s.heap.objs.size := by
      obtain ⟨_, q, _⟩ := hit
      exact Heap.lt_size q
    have nef : e ∉ [it, a] := fun z => by
      have z' : e = it ∨ e = a := by simpa using z
      rcases z' with z' | z'
      · exact hne z'
      · obtain ⟨o, ho, hcl, _⟩ := p
        rw [← z'] at ho
        have := he.symm.trans ho
        cases this
        exact absurd (Value.type.inj hcl) (by decide)
    have Dr := Draws.tuple (prog := X.prog) (w := X.w) (A := X.A.in1) (I.ok.hd hc) it a hat its.toArray
    refine wpAny_pyNext_enum_itemC Dr he ⟨hit, p⟩ (by simpa using hi) hne nef fun y h' tk hy ho st' hT hsz hk => ?_
    have ey : y = u := by
      have hy' : its[i]? = some y := by simpa using hy
      rw [hu] at hy'
      exact (Option.some.inj hy').symm
    subst ey
    refine ⟨_, rfl, wpAny_letOwnedTupleGo_enum (s := { s with heap := h', toks := tk + 1 }) ho fun h'' he' sb => ?_⟩
    have hT2 : h''.get? s.heap.objs.size = some { cls := .type "tuple", data := .seq #[.int ((0 : Int) + ((i : Nat) : Int)) tk, y] } := (sb.2 _ (Nat.ne_of_gt el)).trans hT
    have ob : ObjOk X.prog X.w (upd H s.heap.objs.size (.tup [.int (i : Nat), x])) h'' s.heap.objs.size (.tup [.int (i : Nat), x]) :=
      ⟨by show 2 ≤ sizeLine; decide, [.int ((0 : Int) + ((i : Nat) : Int)) tk, y], .cons ⟨tk, by rw [Int.zero_add]⟩ (.cons ru .nil), ⟨_, hT2, rfl, _, rfl⟩⟩
    have J : Inv X pins σ (upd H s.heap.objs.size (.tup [.int (i : Nat), x])) { s with heap := h'', toks := tk + 1 } :=
      I.turnedNew (ch := [e, it]) (fun b q hb e1 => (sb.2 b (fun z => hb (by simp [z]))).trans (hk b q (fun z => hb (by simp [z])) (fun z => hb (by simp [z])) e1)) hf (Nat.le_refl _) ob
    refine ⟨.ref s.heap.objs.size, _, J, rfl, ⟨_, x, rfl, I.hok.fresh (Nat.le_refl _), rfl, fun ys hy => by rw [I.tuple_inj hy hq]; exact hx⟩, ⟨⟨y, ?_⟩, st'.1.at fun o q => (sb.2 it (Ne.symm hne)).trans q, hne, hat⟩, fun b hb => ?_⟩
    · have e1 : (0 : Int) + ((i + 1 : Nat) : Int) = (0 : Int) + (i : Int) + 1 := by omega
      rw [e1]
      exact he'
    · have lb : b < s.heap.objs.size := by
        have z : b = e ∨ b = it := by simpa using hb
        rcases z with rfl | rfl
        · exact el
        · exact il
      rw [upd_ne (Nat.ne_of_lt lb)]
      exact (hf b hb).1
  done := by
    intro X hP hw hK hc i pins s σ H E I hf st hg
    subst hP hw hK
    obtain ⟨⟨old, he⟩, hit, hne, hat⟩ := st
    obtain ⟨xs, hq, hx⟩ := hg
    obtain ⟨its, rv, p, hz⟩ := I.tuple hq
    obtain ⟨f0, f1, f2, f3, f4, f5⟩ := hf it (by simp)
    have hl := rv.length
    have hh : X.A.in1.in1.handled = none := I.ok.hd hc
    refine wpAny_pyNext_enum_endD (n := i) (St := fun j h => j = i ∧ h.IsTupleIter it a i ∧ h.IsTuple a its.toArray) (P := fun _ _ => True) (fp := [it, a]) ?_ he ⟨rfl, hit, p⟩ fun h' eb => ⟨rfl, I.turned (t' := s.toks) (fun b o hb q => eb b o hb q) f0 f1 f3 f4 f5⟩
    refine ⟨fun _ _ st => let ⟨o, ho, _⟩ := st.2.1; ⟨o, ho⟩, fun _ _ _ st hk => ⟨st.1, st.2.1.at fun o e => hk it (by simp) o e, st.2.2.at fun o e => hk a (by simp) o e⟩, ?_, ?_⟩
    · intro j s' Q E' hj st' hQ
      exact absurd st'.1 (Nat.ne_of_lt hj)
    · intro s' Q E' st' hE
      exact wpAny_nextOf_tuple_end hh st'.2.1 st'.2.2 (by simp; omega) hE
  self := fun A i s Q E st h => let ⟨⟨_, he⟩, _⟩ := st; wpAny_pyIter_enum he h
end Pm

namespace Pm
open PySem PySem.Spec PyProof.Rows L2
section
variable {X : Cx} {O : List Nat} {m ma mb mc : Md} {st : Bool} {a b c e tg : Expr} {es : List Expr} {fa fb fc f : Xp} {fs : XL} {pos p : Pos}
def iEnumT (K : PySem.W.Frag) (ta : TA) : TI := fun σ H R => ta σ H fun vs H1 => ∃ a xs, vs = [.ref a] ∧ SqT K H1 a xs ∧ R (ItE K a) H1
theorem pi_enumT {ta : TA} {tpos : Pos} {elts : List Expr} {kk : Nat} (hg : Gl X "enumerate") (hm : X.mg "enumerate" = none) (ha : PA X [e] ta) (hs : starEach [e] X.env = [(false, eval e X.env)] := by rfl) : PI X (.Tuple elts kk tpos) (.Call (.Name "enumerate" p) [e] [] pos) (iEnumT X.K ta) := by
  refine ⟨fun pins s σ H R I h => ?_⟩
  refine Call_ (ld_blt I hg hm boot_enumerate (callWith_type1 (thn (ha.run pos pins s σ H _ I h) fun us s1 q1 => ?_) hs rfl))
  obtain ⟨vs, H1, I1, r1, t, xs, ex, hq, q⟩ := q1
  subst ex
  rw [Vals.ref1 r1]
  obtain ⟨its, rv, pt, hz⟩ := I1.tuple hq
  refine enum_one (begins_tuple t its.toArray) pt fun h' he hit hk => wpAny_pyIter_enum he ?_
  have I2 : Inv X pins σ H1 { s1 with heap := h' } := I1.kept (t' := s1.toks) hk
  refine ⟨s1.heap.objs.size + 1, [s1.heap.objs.size + 1, s1.heap.objs.size], _, _, H1, rfl, I2, turn_enumTup t (s1.heap.objs.size + 1) s1.heap.objs.size, ⟨⟨.none, ?_⟩, ⟨_, hit, rfl, rfl⟩, Nat.succ_ne_self _, Nat.ne_of_lt pt.lt⟩, fun b hb => ?_, q⟩
  · exact he
  · have le : s1.heap.objs.size ≤ b := by
      have z : b = s1.heap.objs.size + 1 ∨ b = s1.heap.objs.size := by simpa using hb
      rcases z with rfl | rfl
      · exact Nat.le_succ _
      · exact Nat.le_refl _
    exact I1.fpOk le (I1.hok.fresh le)
def oEnum : List D → Option (List D)
  | [x] => (seqD x).map enumD
  | _ => none
theorem rp_pair {K : PySem.W.Frag} {A : Addr → Prop} {H : Hp} {T : Addr} {v u : V} {d d' : D} (t : Tr A H) (hT : H T = none) (r : Rp K A H v d) (r' : Rp K A H u d') : Rp K A (upd H T (.tup [v, u])) (.ref T) (.tuple [d, d']) :=
  Rp.newT t hT (.cons r (.cons r' .nil))
theorem rsL {K : PySem.W.Frag} {A : Addr → Prop} {H : Hp} {vs : List V} {x : D} (h : ResL K A H st vs [x]) : ∃ v, vs = [v] ∧ strongR K A H st v x := by
  cases st with
  | true =>
    cases h with
    | cons a r => cases r; exact ⟨_, rfl, a⟩
  | false =>
    cases h with
    | cons a r => cases r; exact ⟨_, rfl, a⟩
theorem rsL2 {K : PySem.W.Frag} {A : Addr → Prop} {H : Hp} {vs : List V} {x y : D} (h : ResL K A H st vs [x, y]) : ∃ v u, vs = [v, u] ∧ strongR K A H st v x ∧ strongR K A H st u y := by
  cases st with
  | true =>
    cases h with
    | cons a r =>
      cases r with
      | cons b r => cases r; exact ⟨_, _, rfl, a, b⟩
  | false =>
    cases h with
    | cons a r =>
      cases r with
      | cons b r => cases r; exact ⟨_, _, rfl, a, b⟩
theorem si_enum {tpos : Pos} {elts : List Expr} {kk : Nat} (hm : X.mg "enumerate" = none) (ha : SA X O st [a] fs) (hg : Gl X "enumerate" := by rfl) (hs : starEach [a] X.env = [(false, eval a X.env)] := by rfl) : SI X O st (.Tuple elts kk tpos) (.Call (.Name "enumerate" p) [a] [] pos) (xIt oEnum fs) := by
  refine ⟨pi_imp (pi_or (pi_enum hg hm (pa_ok ha.pa) hs) (pi_enumT hg hm (pa_ok ha.pa) hs)) fun σ H R q => ?_⟩
  obtain ⟨H0, A0, G, ρ, B, ds, S, e, k⟩ := q
  obtain ⟨d, ed, e⟩ := bind2 e
  unfold oEnum at e
  split at e
  · rename_i x
    obtain ⟨xs, ex, e⟩ := Option.map_eq_some_iff.mp e
    subst e
    unfold seqD at ex
    split at ex
    · cases ex
      refine .inl ⟨H0, A0, G, ρ, B, _, S, ed, fun vs H1 s1 r1 ok => ?_⟩
      obtain ⟨v, rfl, sr⟩ := rsL r1
      obtain ⟨t, ys, rfl, ht, rt⟩ := sr.w.lst
      refine ⟨t, ys, rfl, .of ht, k _ H1 [(.ref t, .list xs)] s1 ⟨fun A H i d tr g e => ?_, fun A H tr g => ?_⟩ (fun p hp => by rw [List.mem_singleton.mp hp]; exact sr) (by rw [enumD_len, ← rt.length]; exact ok t ys (.inl ht))⟩
      · obtain ⟨z, ez, rfl⟩ := enumD_get e
        obtain ⟨b, ys, eb, hb, rb⟩ := (g _ (List.mem_singleton.mpr rfl)).lst
        cases eb
        obtain ⟨y, ey, ry⟩ := rb.get ez
        refine ⟨⟨ys, y, .of hb, ey⟩, fun x H' hy => ?_⟩
        obtain ⟨T, u, rfl, hT, rfl, hu⟩ := hy
        have := hu ys (.of hb)
        rw [ey] at this
        cases this
        exact ⟨same_upd hT, rp_pair tr hT (.int _) ry⟩
      · obtain ⟨b, ys, eb, hb, rb⟩ := (g _ (List.mem_singleton.mpr rfl)).lst
        cases eb
        exact ⟨ys, .of hb, by rw [enumD_len, rb.length]; exact Nat.le_refl _⟩
    · cases ex
      refine .inr ⟨H0, A0, G, ρ, B, _, S, ed, fun vs H1 s1 r1 ok => ?_⟩
      obtain ⟨v, rfl, sr⟩ := rsL r1
      obtain ⟨t, ys, rfl, ht, nt, rt⟩ := sr.w.tup
      refine ⟨t, ys, rfl, .of ht, k _ H1 [(.ref t, .tuple xs)] s1 ⟨fun A H i d tr g e => ?_, fun A H tr g => ?_⟩ (fun p hp => by rw [List.mem_singleton.mp hp]; exact sr) (by rw [enumD_len, ← rt.length]; exact ok t ys (.inr ht))⟩
      · obtain ⟨z, ez, rfl⟩ := enumD_get e
        obtain ⟨b, ys, eb, hb, nb, rb⟩ := (g _ (List.mem_singleton.mpr rfl)).tup
        cases eb
        obtain ⟨y, ey, ry⟩ := rb.get ez
        refine ⟨⟨ys, y, .of hb, ey⟩, fun x H' hy => ?_⟩
        obtain ⟨T, u, rfl, hT, rfl, hu⟩ := hy
        have := hu ys (.of hb)
        rw [ey] at this
        cases this
        exact ⟨same_upd hT, rp_pair tr hT (.int _) ry⟩
      · obtain ⟨b, ys, eb, hb, nb, rb⟩ := (g _ (List.mem_singleton.mpr rfl)).tup
        cases eb
        exact ⟨ys, .of hb, by rw [enumD_len, rb.length]; exact Nat.le_refl _⟩
    · cases ex
  · cases e
/-- zip of two lists, of two tuples -/
def zipD (xs ys : List D) : List D := xs.zipWith (fun x y => .tuple [x, y]) ys
theorem zipD_get {xs ys : List D} {i : Nat} {d : D} (h : (zipD xs ys)[i]? = some d) : ∃ x y, xs[i]? = some x ∧ ys[i]? = some y ∧ d = .tuple [x, y] := by
  unfold zipD at h
  rw [List.getElem?_zipWith] at h
  cases e : xs[i]? with
  | none => rw [e] at h; cases ys[i]? <;> cases h
  | some x =>
    cases e' : ys[i]? with
    | none => rw [e, e'] at h; cases h
    | some y => rw [e, e'] at h; cases h; exact ⟨x, y, rfl, rfl, rfl⟩
theorem zipD_len (xs ys : List D) : (zipD xs ys).length = min xs.length ys.length := by simp [zipD]
def oZip : List D → Option (List D)
  | [.list xs, .list ys] => some (zipD xs ys)
  | [.tuple xs, .tuple ys] => some (zipD xs ys)
  | _ => none
theorem si_zip {tpos : Pos} {elts : List Expr} {kk : Nat} (hm : X.mg "zip" = none) (ha : SA X O st [a, b] fs) (hg : Gl X "zip" := by rfl)
    (hs : starEach [a, b] X.env = (false, eval a X.env) :: starEach [b] X.env := by rfl) (hpl : (backTo pos (starEach [b] X.env)).any (·.1) = false := by rfl) : SI X O st (.Tuple elts kk tpos) (.Call (.Name "zip" p) [a, b] [] pos) (xIt oZip fs) := by
  refine ⟨pi_imp (RZ.pi_zipA hg hm (pa_ok ha.pa) hs hpl) fun σ H R q => ?_⟩
  obtain ⟨H0, A0, G, ρ, B, ds, S, e, k⟩ := q
  obtain ⟨d, ed, e⟩ := bind2 e
  refine ⟨H0, A0, G, ρ, B, _, S, ed, fun vs H1 s1 r1 ok => ?_⟩
  unfold oZip at e
  split at e
  · cases e
    rename_i xs ys
    obtain ⟨v, u, rfl, sr, sr'⟩ := rsL2 r1
    obtain ⟨t, vs, rfl, ht, rt⟩ := sr.w.lst
    obtain ⟨t', vs', rfl, ht', rt'⟩ := sr'.w.lst
    refine ⟨t, t', vs, vs', rfl, .inl ⟨.of ht, .of ht', k _ H1 [(.ref t, .list xs), (.ref t', .list ys)] s1 ⟨fun A H i d tr g e => ?_, fun A H tr g => ?_⟩ (fun p hp => ?_) ?_⟩⟩
    · obtain ⟨x, y, ex, ey, rfl⟩ := zipD_get e
      obtain ⟨b, zs, eb, hb, rb⟩ := (g _ (List.mem_cons_self)).lst
      obtain ⟨b', zs', eb', hb', rb'⟩ := (g _ (List.mem_cons_of_mem _ List.mem_cons_self)).lst
      cases eb
      cases eb'
      obtain ⟨x1, ex1, rx1⟩ := rb.get ex
      obtain ⟨y1, ey1, ry1⟩ := rb'.get ey
      refine ⟨⟨zs, zs', x1, y1, .of hb, .of hb', ex1, ey1⟩, fun z H' hy => ?_⟩
      obtain ⟨T, u, w, rfl, hT, rfl, hu, hw⟩ := hy
      have e1 := hu zs (.of hb)
      have e2 := hw zs' (.of hb')
      rw [ex1] at e1
      rw [ey1] at e2
      cases e1
      cases e2
      exact ⟨same_upd hT, rp_pair tr hT rx1 ry1⟩
    · obtain ⟨b, zs, eb, hb, rb⟩ := (g _ (List.mem_cons_self)).lst
      obtain ⟨b', zs', eb', hb', rb'⟩ := (g _ (List.mem_cons_of_mem _ List.mem_cons_self)).lst
      cases eb
      cases eb'
      refine ⟨zs, zs', .of hb, .of hb', ?_⟩
      rw [zipD_len, rb.length, rb'.length]
      omega
    · have z : p = (.ref t, .list xs) ∨ p = (.ref t', .list ys) := by simpa using hp
      rcases z with rfl | rfl
      · exact sr
      · exact sr'
    · rw [zipD_len, ← rt.length]
      have := ok t vs (.inl ht)
      omega
  · cases e
    rename_i xs ys
    obtain ⟨v, u, rfl, sr, sr'⟩ := rsL2 r1
    obtain ⟨t, vs, rfl, ht, nt, rt⟩ := sr.w.tup
    obtain ⟨t', vs', rfl, ht', nt', rt'⟩ := sr'.w.tup
    refine ⟨t, t', vs, vs', rfl, .inr ⟨.of ht, .of ht', k _ H1 [(.ref t, .tuple xs), (.ref t', .tuple ys)] s1 ⟨fun A H i d tr g e => ?_, fun A H tr g => ?_⟩ (fun p hp => ?_) ?_⟩⟩
    · obtain ⟨x, y, ex, ey, rfl⟩ := zipD_get e
      obtain ⟨b, zs, eb, hb, nb, rb⟩ := (g _ (List.mem_cons_self)).tup
      obtain ⟨b', zs', eb', hb', nb', rb'⟩ := (g _ (List.mem_cons_of_mem _ List.mem_cons_self)).tup
      cases eb
      cases eb'
      obtain ⟨x1, ex1, rx1⟩ := rb.get ex
      obtain ⟨y1, ey1, ry1⟩ := rb'.get ey
      refine ⟨⟨zs, zs', x1, y1, .of hb, .of hb', ex1, ey1⟩, fun z H' hy => ?_⟩
      obtain ⟨T, u, w, rfl, hT, rfl, hu, hw⟩ := hy
      have e1 := hu zs (.of hb)
      have e2 := hw zs' (.of hb')
      rw [ex1] at e1
      rw [ey1] at e2
      cases e1
      cases e2
      exact ⟨same_upd hT, rp_pair tr hT rx1 ry1⟩
    · obtain ⟨b, zs, eb, hb, nb, rb⟩ := (g _ (List.mem_cons_self)).tup
      obtain ⟨b', zs', eb', hb', nb', rb'⟩ := (g _ (List.mem_cons_of_mem _ List.mem_cons_self)).tup
      cases eb
      cases eb'
      refine ⟨zs, zs', .of hb, .of hb', ?_⟩
      rw [zipD_len, rb.length, rb'.length]
      omega
    · have z : p = (.ref t, .tuple xs) ∨ p = (.ref t', .tuple ys) := by simpa using hp
      rcases z with rfl | rfl
      · exact sr
      · exact sr'
    · rw [zipD_len, ← rt.length]
      have := ok t vs (.inr ht)
      omega
  · cases e
end

end Pm

namespace Pm
open PySem PySem.Spec PyProof.Rows L2

/-! ### targets -/
abbrev XG := D → PEnv → Option PEnv
/-- the slots out of ts stand -/
def Ch (ts : List Nat) (σ σ' : L2.St) : Prop := σ'.length = σ.length ∧ ∀ i, ts.contains i = false → σ'[i]? = σ[i]?
def simG (K : PySem.W.Frag) (O O' ts : List Nat) (g : XG) : TG := fun v σ H Q => ∃ H0 A0 G ρ B d ρ', Sim K H0 A0 G O σ H ρ B ∧ Rp K (Av A0 B) H v d ∧ g d ρ = some ρ' ∧
  ∀ σ', Ch ts σ σ' → Sim K H0 A0 G O' σ' H ρ' (restr ts B) → Q σ' H
structure SG (X : Cx) (O O' ts : List Nat) (tg : Expr) (g : XG) : Prop where
  pg : PG X tg (simG X.K O O' ts g)
def simGs (K : PySem.W.Frag) (O O' ts : List Nat) (g : List D → PEnv → Option PEnv) : TGs := fun vs σ H Q => ∃ H0 A0 G ρ B ds ρ', Sim K H0 A0 G O σ H ρ B ∧ RpL K (Av A0 B) H vs ds ∧ g ds ρ = some ρ' ∧
  ∀ σ', Ch ts σ σ' → Sim K H0 A0 G O' σ' H ρ' (restr ts B) → Q σ' H
structure SGs (X : Cx) (O O' ts : List Nat) (tgs : List Expr) (g : List D → PEnv → Option PEnv) : Prop where
  pgs : PGs X tgs (simGs X.K O O' ts g)
theorem pg_imp {X : Cx} {e : Expr} {t t' : TG} (h : PG X e t) (hi : ∀ v σ H Q, t' v σ H Q → t v σ H Q) : PG X e t' := ⟨fun pins s σ H v u Q I r q => h.run pins s σ H v u Q I r (hi _ _ _ _ q)⟩
theorem pgs_imp {X : Cx} {e : List Expr} {t t' : TGs} (h : PGs X e t) (hi : ∀ v σ H Q, t' v σ H Q → t v σ H Q) : PGs X e t' := ⟨fun pins s σ H v u Q I r q => h.run pins s σ H v u Q I r (hi _ _ _ _ q)⟩
def gSet (i : Nat) : XG := fun d ρ => if i < ρ.length then some (ρ.set i (some d)) else none
def gTupD (n : Nat) (g : List D → PEnv → Option PEnv) : XG := fun d ρ => match d with
  | .tuple ds => if ds.length = n then g ds ρ else none
  | _ => none
def gsNil : List D → PEnv → Option PEnv := fun ds ρ => match ds with
  | [] => some ρ
  | _ => none
def gsCons (g : XG) (gs : List D → PEnv → Option PEnv) : List D → PEnv → Option PEnv := fun ds ρ => match ds with
  | d :: ds => (g d ρ).bind fun ρ' => gs ds ρ'
  | _ => none
theorem Ch.refl (ts : List Nat) (σ : L2.St) : Ch ts σ σ := ⟨rfl, fun _ _ => rfl⟩
theorem Ch.trans {ts us : List Nat} {σ σ' σ'' : L2.St} (h : Ch ts σ σ') (h' : Ch us σ' σ'') : Ch (ts ++ us) σ σ'' := by
  refine ⟨h'.1.trans h.1, fun i z => ?_⟩
  have e : ts.contains i = false ∧ us.contains i = false := by
    simpa [List.contains_eq_mem, not_or] using z
  exact (h'.2 i e.2).trans (h.2 i e.1)
theorem Ch.set (i : Nat) (x : Option V) (σ : L2.St) : Ch [i] σ (σ.set i x) := by
  refine ⟨List.length_set, fun j z => ?_⟩
  have e : j ≠ i := by simpa using z
  exact List.getElem?_set_ne (Ne.symm e)
section
variable {X : Cx} {O O' O'' ts us : List Nat} {tg : Expr} {tgs : List Expr} {g : XG} {gs : List D → PEnv → Option PEnv} {pos : Pos}
theorem sg_name (i : Nat) {x : Str} (hN : X.N.Nodup) (hi : X.N[i]? = some x := by rfl) (hx : Loc X.env.scope x := by first | exact Or.inl rfl | exact Or.inr rfl) (hf : X.fn x = true ∨ X.env.scope.names.lookup x = some .local := by first | exact .inl rfl | exact .inr rfl) (hO : O.filter (· != i) = O' := by rfl) : SG X O O' [i] (.Name x pos) (gSet i) := by
  refine ⟨pg_imp (pg_name hN hi hx hf) fun v σ H Q h => ?_⟩
  obtain ⟨H0, A0, G, ρ, B, d, ρ', S, r, e, k⟩ := h
  unfold gSet at e
  split at e
  · rename_i hl
    cases e
    have S' := S.setS r hl
    rw [hO] at S'
    exact k _ (Ch.set i _ σ) S'
  · cases e
theorem sgs_nil : SGs X O O [] [] gsNil := by
  refine ⟨pgs_imp pgs_nil fun v σ H Q h => ?_⟩
  obtain ⟨H0, A0, G, ρ, B, ds, ρ', S, r, e, k⟩ := h
  unfold gsNil at e
  split at e
  · cases e
    cases r
    exact ⟨rfl, k σ (Ch.refl _ _) (by rw [restr_nil]; exact S)⟩
  · cases e
theorem sgs_cons (h : SG X O O' ts tg g) (h' : SGs X O' O'' us tgs gs) (hs : (assignEach (tg :: tgs) X.env).map (·.2) = assign tg X.env :: (assignEach tgs X.env).map (·.2) := by rfl) : SGs X O O'' (ts ++ us) (tg :: tgs) (gsCons g gs) := by
  refine ⟨pgs_imp (pgs_cons h.pg h'.pgs hs) fun v σ H Q q => ?_⟩
  obtain ⟨H0, A0, G, ρ, B, ds, ρ', S, r, e, k⟩ := q
  unfold gsCons at e
  split at e
  · obtain ⟨ρ1, e1, e⟩ := bind2 e
    cases r with
    | cons r1 r2 =>
      refine ⟨_, _, rfl, H0, A0, G, ρ, B, _, ρ1, S, r1, e1, fun σ1 c1 S1 => ?_⟩
      refine ⟨H0, A0, G, ρ1, _, _, ρ', S1, r2.anti fun a z => restr_av z, e, fun σ2 c2 S2 => k σ2 (c1.trans c2) ?_⟩
      rw [restr_app] at S2
      exact S2
  · cases e
theorem sg_tup {k n : Nat} (hc : X.calm = true) (h : SGs X O O' ts tgs gs) (hn : (assignEach tgs X.env).length = n := by rfl) (hst : (assignEach tgs X.env).findIdx? (·.1) = none := by rfl) : SG X O O' ts (.Tuple tgs k pos) (gTupD n gs) := by
  refine ⟨pg_imp (pg_tup hc h.pgs hn hst) fun v σ H Q q => ?_⟩
  obtain ⟨H0, A0, G, ρ, B, d, ρ', S, r, e, k⟩ := q
  unfold gTupD at e
  split at e
  · split at e
    · rename_i hz
      cases r with
      | tup ht nt rt => exact ⟨_, _, rfl, .of ht, by rw [rt.length, hz], H0, A0, G, ρ, B, _, ρ', S, rt, e, k⟩
    · cases e
  · cases e
end

/-! ### comprehensions -/
def wipeP (ρ : PEnv) : List Nat → PEnv
  | [] => ρ
  | v :: vs => (wipeP ρ vs).set v none
theorem wipe_get (σ : L2.St) (i : Nat) : ∀ vs : List Nat, (wipe σ vs)[i]? = if vs.contains i then (if i < σ.length then some none else none) else σ[i]?
  | [] => by simp [wipe]
  | v :: vs => by
    unfold wipe
    by_cases h : v = i
    · subst h
      have hc : (v :: vs).contains v = true := by simp
      rw [hc, if_pos rfl]
      by_cases hl : v < σ.length
      · rw [List.getElem?_set_self (by rw [wipe_length]; exact hl), if_pos hl]
      · rw [if_neg hl, List.getElem?_eq_none (by rw [List.length_set, wipe_length]; omega)]
    · rw [List.getElem?_set_ne h, wipe_get σ i vs]
      have : (v :: vs).contains i = vs.contains i := by
        have h' : ¬ i = v := fun z => h z.symm
        simp [List.contains_cons, h']
      rw [this]
theorem wipe_eq {ts vs : List Nat} {σ σ2 : L2.St} (c : Ch ts (wipe σ vs) σ2) (h : ∀ i, ts.contains i = true → vs.contains i = true) : wipe σ2 vs = wipe σ vs := by
  apply List.ext_getElem?
  intro i
  have hl : σ2.length = σ.length := by rw [c.1, wipe_length]
  rw [wipe_get, wipe_get, hl]
  by_cases hv : vs.contains i = true
  · rw [if_pos hv, if_pos hv]
  · rw [if_neg hv, if_neg hv]
    have ht : ts.contains i = false := by
      cases e : ts.contains i with
      | false => rfl
      | true => exact absurd (h i e) hv
    rw [c.2 i ht, wipe_get, if_neg hv]
theorem Sim.wipe {K : PySem.W.Frag} {H0 H : Hp} {A0 : Addr → Prop} {G : List (V × D)} {O : List Nat} {σ : L2.St} {ρ : PEnv} {B : Nat → Option Addr} (S : Sim K H0 A0 G O σ H ρ B) : ∀ vs : List Nat, (∀ i ∈ vs, i ∉ O) → Sim K H0 A0 G O (wipe σ vs) H (wipeP ρ vs) B
  | [], _ => S
  | v :: vs, h => (S.wipe vs fun i hi => h i (List.mem_cons_of_mem _ hi)).drop v (h v List.mem_cons_self)
theorem restr_same {K : PySem.W.Frag} {H0 H : Hp} {A0 : Addr → Prop} {G : List (V × D)} {O : List Nat} {σ : L2.St} {ρ : PEnv} {B : Nat → Option Addr} (S : Sim K H0 A0 G O σ H ρ B) {ts : List Nat} (h : ∀ i, ts.contains i = true → i ∉ O) : restr ts B = B := by
  funext j
  unfold restr
  split
  · rename_i hj
    cases e : B j with
    | none => rfl
    | some a => exact absurd (S.bo j a e) (h j hj)
  · rfl
/-- the items made from one source -/
def lcL (g : XG) (t : PEnv → Option Bool) (f : Xp) (ρ : PEnv) : List D → Option (List D)
  | [] => some []
  | d :: ds => (g d ρ).bind fun ρ1 => (t ρ1).bind fun b => if b then (f ρ1).bind fun y => (lcL g t f ρ ds).bind fun ys => some (y :: ys) else lcL g t f ρ ds
def xLc (it : XL) (g : XG) (t : PEnv → Option Bool) (f : Xp) (own : List Nat) : Xp := fun ρ => (it ρ).bind fun ds => (lcL g t f (wipeP ρ own) ds).map .list
structure STs (X : Cx) (O : List Nat) (ifs : List Expr) (f : PEnv → Option Bool) : Prop where
  pts : PTs X ifs (simTT X.K O f)
def tYesP : PEnv → Option Bool := fun _ => some true
theorem pts_imp {X : Cx} {e : List Expr} {t t' : TT} (h : PTs X e t) (hi : ∀ σ H Q, t' σ H Q → t σ H Q) : PTs X e t' := ⟨fun pins s σ H Q I q => h.run pins s σ H Q I (hi _ _ _ q)⟩
theorem sts_nil {X : Cx} {O : List Nat} : STs X O [] tYesP := ⟨pts_imp pts_nil fun σ H Q ⟨H0, A0, G, ρ, B, b, S, e, k⟩ => by cases e; exact k H (Same.refl H)⟩
theorem sts_one {X : Cx} {O : List Nat} {c : Expr} {f : PEnv → Option Bool} (h : ST X O c f) : STs X O [c] f := ⟨pts_one h.pt⟩
theorem WRp.step {K : PySem.W.Frag} {A A' : Addr → Prop} {H H' : Hp} {v : V} {d : D} (h : WRp K A H v d) (s : Same H H') (ha : ∀ a, A' a → A a ∨ H a = none) : WRp K A' H' v d := by
  rcases h with h | ⟨a, e, h⟩
  · exact .inl (h.step (fun a o e _ => s a o e) ha)
  · exact .inr ⟨a, e, h.step (fun a o e _ => s a o e) ha fun o e => s _ o e⟩
abbrev Gd (A0 : Addr → Prop) (a : Addr) : Addr → Prop := fun b => A0 b ∨ b = a
theorem gd_av {A0 : Addr → Prop} {B : Nat → Option Addr} {a b : Addr} (h : Av (Gd A0 a) B b) : Av A0 B b ∨ b = a := by
  rcases h with (h | h) | h
  · exact .inl (.inl h)
  · exact .inr h
  · exact .inl (.inr h)
section
variable {X : Cx} {O ts : List Nat} {st : Bool} {m : Md} {tg iter elt : Expr} {ifs : List Expr} {scope : Scope} {own : List (Str × Nat)} {it : XL} {g : XG} {t : PEnv → Option Bool} {f : Xp} {pos : Pos}
theorem lc_of (hm : m ≠ .w) (hts : ∀ i, ts.contains i = true → (own.map (·.2)).contains i = true) (hO : ∀ i ∈ own.map (·.2), i ∉ O) (σ : L2.St) (H : Hp) (Q : VK) (q : simT X.K O .f (xLc it g t f (own.map (·.2))) σ H Q) :
    tLc (simI X.K O st it) (simG X.K O O ts g) (simTT X.K O t) (simT X.K O m f) (own.map (·.2)) σ H Q := by
  obtain ⟨H0, A0, G, ρ, B, d, S, e, k⟩ := q
  obtain ⟨ds, eds, e⟩ := bind2 e
  obtain ⟨ys, eys, e⟩ := Option.map_eq_some_iff.mp e
  subst e
  refine ⟨H0, A0, G, ρ, B, ds, S, eds, fun J H1 gs s1 yl gr hz Dn hD => ?_⟩
  have hts' : ∀ i, ts.contains i = true → i ∉ O := fun i hi => hO i (by simpa using hts i hi)
  -- what stands between two turns
  refine ⟨fun i n Hc => n = ds.length - i ∧ i ≤ ds.length ∧ Same H1 Hc ∧ ∃ vs pre post, Hc Dn = some (.lst vs) ∧ RpL X.K (Av (Gd A0 Dn) B) Hc vs pre ∧ pre.length ≤ i ∧ lcL g t f (wipeP ρ (own.map (·.2))) (ds.drop i) = some post ∧ ys = pre ++ post,
    ⟨ds.length, rfl, Nat.zero_le _, same_upd hD, [], [], ys, upd_same, .nil, Nat.le_refl _, eys, rfl⟩, ?_⟩
  rintro i n Hc ⟨rfl, hi, sc, vs, pre, post, hDc, rpre, hpl, epost, rfl⟩
  have Sg : Sim X.K H0 (Gd A0 Dn) G O σ Hc ρ B := (S.mono s1).guard hD sc ⟨_, hDc, NT.lst⟩
  have gw : ∀ p ∈ gs, WRp X.K (Av (Gd A0 Dn) B) Hc p.1 p.2 := fun p hp => (gr p hp).w.step sc fun a z => by
    rcases gd_av z with z | z
    · exact .inl z
    · exact .inr (by rw [z]; exact hD)
  by_cases hlt : i < ds.length
  · have ed : ds[i]? = some ds[i] := List.getElem?_eq_getElem hlt
    rw [List.drop_eq_getElem_cons hlt] at epost
    obtain ⟨hgo, hy⟩ := yl.go _ Hc i _ Sg.tr gw ed
    simp only [lcL] at epost
    obtain ⟨ρ1, eρ1, epost⟩ := bind2 epost
    obtain ⟨b, eb, epost⟩ := bind2 epost
    refine .inr ⟨hgo, fun H' => i + 1 ≤ ds.length ∧ Same H1 H' ∧ ∃ vs pre' post', H' Dn = some (.lst vs) ∧ RpL X.K (Av (Gd A0 Dn) B) H' vs pre' ∧ pre'.length ≤ i + 1 ∧ lcL g t f (wipeP ρ (own.map (·.2))) (ds.drop (i + 1)) = some post' ∧ pre ++ post = pre' ++ post', fun H' hN => ?_, fun x H' hx => ?_⟩
    · obtain ⟨h1, h2, h3⟩ := hN
      exact ⟨ds.length - (i + 1), by omega, rfl, h1, h2, h3⟩
    · obtain ⟨s2, rx⟩ := hy x H' hx
      refine ⟨H0, Gd A0 Dn, G, wipeP ρ (own.map (·.2)), B, _, ρ1, (Sg.mono s2).wipe _ hO, rx, eρ1, fun σ2 c2 S2 => ?_⟩
      rw [restr_same Sg hts'] at S2
      refine ⟨wipe_eq c2 hts, H0, Gd A0 Dn, G, ρ1, B, b, S2, eb, fun H3 s3 => ?_⟩
      cases b with
      | true =>
        rw [if_pos rfl]
        rw [if_pos rfl] at epost
        obtain ⟨y, ey, epost⟩ := bind2 epost
        obtain ⟨zs, ezs, epost⟩ := bind2 epost
        cases epost
        refine ⟨H0, Gd A0 Dn, G, ρ1, B, y, S2.mono s3, ey, fun v H4 s4 r4 => ?_⟩
        have r4' := r4.toS (S2.mono s3).tr hm
        have s24 := (s2.trans s3).trans s4
        have avD : Av (Gd A0 Dn) B Dn := .inl (.inr rfl)
        have kp : ∀ a o, H4 a = some o → ¬ Av (Gd A0 Dn) B a → upd H4 Dn (.lst (vs ++ [v])) a = some o := fun a o e n => by
          rw [upd_ne (fun z => n (by rw [z]; exact avD))]
          exact e
        refine ⟨vs, s24 _ _ hDc, ?_, by omega, fun a o e => ?_, vs ++ [v], pre ++ [y], zs, upd_same, ?_, by simp; omega, ezs, by simp⟩
        · rw [rpre.length]
          have : (16777216 : Nat) = sizeLine := rfl
          omega
        · have hne : a ≠ Dn := fun z => by rw [z, hD] at e; cases e
          rw [upd_ne hne]
          exact s24 _ _ (sc _ _ e)
        · exact RpL.app (.one (r4'.step kp fun _ z => .inl z)) ((rpre.mono s24).step kp fun _ z => .inl z)
      | false =>
        rw [if_neg Bool.false_ne_true]
        rw [if_neg Bool.false_ne_true] at epost
        have s23 := s2.trans s3
        exact ⟨by omega, sc.trans s23, vs, pre, post, s23 _ _ hDc, rpre.mono s23, by omega, epost, rfl⟩
  · have e : i = ds.length := by omega
    subst e
    refine .inl ⟨yl.stop _ Hc Sg.tr gw, ?_⟩
    rw [List.drop_length] at epost
    cases epost
    rw [List.append_nil] at k
    have hHD : H Dn = none := s1.free hD
    refine k _ Hc (s1.trans sc) (.inl ⟨Dn, rfl, hHD, .lst hDc (rpre.anti fun a z => ?_)⟩)
    rcases z with z | z
    · rcases z with z | z
      · exact .inl (.inl z)
      · exact .inr z
    · exact .inl (.inr z)
abbrev InBlk (X : Cx) (scope : Scope) (P : Cx → Prop) : Prop := ∀ (s : Shared) (H : Hp) (C : Addr) (cl : List (Str × Addr)) (fp : List Addr), P (X.blk s H scope (compEnvC scope cl C X.env) fp)
theorem se_lc (hN : X.N.Nodup) (hi : SI X O st tg iter it) (ok : BlkOk X.N X.env.scope scope own) (hg : InBlk X scope fun Y => SG Y O O ts tg g) (ht : InBlk X scope fun Y => STs Y O ifs t) (he : InBlk X scope fun Y => SE Y O m elt f)
    (hm : m ≠ .w := by decide) (hts : ts.all (fun i => (own.map (·.2)).contains i) = true := by rfl) (hO : (own.map (·.2)).all (fun i => !O.contains i) = true := by rfl) (hc : X.calm = true := by rfl) (hs : ∀ x, foldedSetIterable iter X.env x = pure x := by intro _; rfl) :
    SE X O .f (.ListComp elt [⟨tg, iter, ifs, 0⟩] scope pos) (xLc it g t f (own.map (·.2))) :=
  ⟨pe_imp (pe_lc hc hN hi.pi ok (fun s H C cl fp => (hg s H C cl fp).pg) (fun s H C cl fp => (ht s H C cl fp).pts) (fun s H C cl fp => (he s H C cl fp).pe) hs)
    (lc_of hm (fun i hi => by simpa using List.all_eq_true.mp hts i (by simpa using hi)) (fun i hi => by simpa using List.all_eq_true.mp hO i hi))⟩
end
end Pm

namespace Pm
open PySem PySem.Spec PyProof.Rows L2

/-! ### statements -/
inductive Out where
  | nx (ρ : PEnv) | rt (d : D) | bk (ρ : PEnv) | ct (ρ : PEnv)
abbrev XS := PEnv → Option Out
def PostS (K : PySem.W.Frag) (H0 : Hp) (A0 : Addr → Prop) (G : List (V × D)) (Ob Oc O' : List Nat) (D : Ends) : Out → Prop
  | .nx ρ => ∀ σ H B, Sim K H0 A0 G O' σ H ρ B → D.nx σ H
  | .rt d => ∀ v H, Same H0 H → Rp K A0 H v d → D.rt v H
  | .bk ρ => ∀ σ H B, Sim K H0 A0 G Ob σ H ρ B → D.bk σ H
  | .ct ρ => ∀ σ H B, Sim K H0 A0 G Oc σ H ρ B → D.ct σ H
def simS (K : PySem.W.Frag) (O Ob Oc O' : List Nat) (g : XS) : TS := fun D σ H => ∃ H0 A0 G ρ B o, Sim K H0 A0 G O σ H ρ B ∧ g ρ = some o ∧ PostS K H0 A0 G Ob Oc O' D o
structure SS (X : Cx) (O Ob Oc O' : List Nat) (st : Stmt) (g : XS) : Prop where
  ps : PS X st (simS X.K O Ob Oc O' g)
structure SSs (X : Cx) (O Ob Oc O' : List Nat) (st : List Stmt) (g : XS) : Prop where
  pss : PSs X st (simS X.K O Ob Oc O' g)
def sNop : XS := fun ρ => some (.nx ρ)
def sSeq (g h : XS) : XS := fun ρ => (g ρ).bind fun o => match o with
  | .nx ρ' => h ρ'
  | o => some o
section
variable {X : Cx} {O O1 O2 Ob Oc O' : List Nat} {m ma mb : Md} {st : Stmt} {sts : List Stmt} {g h : XS} {e a b c : Expr} {f fa fb : Xp} {pos pos' : Pos}
theorem sub_of (h : O1.all (fun i => O.contains i) = true) : ∀ i ∈ O1, i ∈ O := fun i hi => by simpa using List.all_eq_true.mp h i hi
theorem SS.weak (s : SS X O1 Ob Oc O' st g) (h : O1.all (fun i => O.contains i) = true := by rfl) : SS X O Ob Oc O' st g := by
  refine ⟨ps_imp s.ps fun D σ H q => ?_⟩
  obtain ⟨H0, A0, G, ρ, B, o, S, e, k⟩ := q
  obtain ⟨B', S'⟩ := S.weak (sub_of h)
  exact ⟨H0, A0, G, ρ, B', o, S', e, k⟩
theorem SSs.weak (s : SSs X O1 Ob Oc O' sts g) (h : O1.all (fun i => O.contains i) = true := by rfl) : SSs X O Ob Oc O' sts g := by
  refine ⟨pss_imp s.pss fun D σ H q => ?_⟩
  obtain ⟨H0, A0, G, ρ, B, o, S, e, k⟩ := q
  obtain ⟨B', S'⟩ := S.weak (sub_of h)
  exact ⟨H0, A0, G, ρ, B', o, S', e, k⟩
/-- an empty block; the own slots may be fewer behind it -/
theorem ss_nil (h : O'.all (fun i => O.contains i) = true := by rfl) : SSs X O Ob Oc O' [] sNop := by
  refine ⟨pss_imp pss_nil fun D σ H q => ?_⟩
  obtain ⟨H0, A0, G, ρ, B, o, S, e, k⟩ := q
  cases e
  obtain ⟨B', S'⟩ := S.weak (sub_of h)
  exact k σ H B' S'
theorem ss_cons (h1 : SS X O Ob Oc O1 st g) (h2 : SSs X O1 Ob Oc O' sts h) : SSs X O Ob Oc O' (st :: sts) (sSeq g h) := by
  refine ⟨pss_imp (pss_cons h1.ps h2.pss) fun D σ H q => ?_⟩
  obtain ⟨H0, A0, G, ρ, B, o, S, e, k⟩ := q
  obtain ⟨o1, e1, e⟩ := bind2 e
  refine ⟨H0, A0, G, ρ, B, o1, S, e1, ?_⟩
  cases o1 with
  | nx ρ1 => exact fun σ1 H1 B1 S1 => ⟨H0, A0, G, ρ1, B1, o, S1, e, k⟩
  | rt d => cases e; exact k
  | bk ρ1 => cases e; exact k
  | ct ρ1 => cases e; exact k
theorem ss_last (h1 : SS X O Ob Oc O' st g) : SSs X O Ob Oc O' [st] g := ⟨pss_one h1.ps⟩
def sBrk : XS := fun ρ => some (.bk ρ)
def sCnt : XS := fun ρ => some (.ct ρ)
theorem ss_pass (h : O'.all (fun i => O.contains i) = true := by rfl) : SS X O Ob Oc O' (.Pass pos) sNop := by
  refine ⟨ps_imp ps_pass fun D σ H q => ?_⟩
  obtain ⟨H0, A0, G, ρ, B, o, S, e, k⟩ := q
  cases e
  obtain ⟨B', S'⟩ := S.weak (sub_of h)
  exact k σ H B' S'
theorem ss_break (h : Ob.all (fun i => O.contains i) = true := by rfl) : SS X O Ob Oc O' (.Break pos) sBrk := by
  refine ⟨ps_imp ps_break fun D σ H q => ?_⟩
  obtain ⟨H0, A0, G, ρ, B, o, S, e, k⟩ := q
  cases e
  obtain ⟨B', S'⟩ := S.weak (sub_of h)
  exact k σ H B' S'
theorem ss_cont (h : Oc.all (fun i => O.contains i) = true := by rfl) : SS X O Ob Oc O' (.Continue pos) sCnt := by
  refine ⟨ps_imp ps_continue fun D σ H q => ?_⟩
  obtain ⟨H0, A0, G, ρ, B, o, S, e, k⟩ := q
  cases e
  obtain ⟨B', S'⟩ := S.weak (sub_of h)
  exact k σ H B' S'
def sRet (f : Xp) : XS := fun ρ => (f ρ).map .rt
theorem ss_ret (he : SE X O m e f) (hm : m ≠ .w := by decide) : SS X O Ob Oc O' (.Return (some e) pos) (sRet f) := by
  refine ⟨ps_imp (ps_ret he.pe) fun D σ H q => ?_⟩
  obtain ⟨H0, A0, G, ρ, B, o, S, e, k⟩ := q
  obtain ⟨d, ed, e⟩ := Option.map_eq_some_iff.mp e
  subst e
  exact ⟨H0, A0, G, ρ, B, d, S, ed, fun v H' s r => k v H' (S.same.trans s) ((r.toS S.tr hm).anti fun a z => .inl z)⟩
theorem ss_retN : SS X O Ob Oc O' (.Return none pos) (sRet (xC .none)) := by
  refine ⟨ps_imp ps_retN fun D σ H q => ?_⟩
  obtain ⟨H0, A0, G, ρ, B, o, S, e, k⟩ := q
  cases e
  exact k .non H S.same .non
def sIf (c : PEnv → Option Bool) (g h : XS) : XS := fun ρ => (c ρ).bind fun b => if b then g ρ else h ρ
theorem ss_if {c : Expr} {tc : PEnv → Option Bool} {p q : List Stmt} (hc : ST X O c tc) (hp : SSs X O Ob Oc O' p g) (hq : SSs X O Ob Oc O' q h) : SS X O Ob Oc O' (.If c p q pos) (sIf tc g h) := by
  refine ⟨ps_imp (ps_if hc.pt hp.pss hq.pss) fun D σ H q => ?_⟩
  obtain ⟨H0, A0, G, ρ, B, o, S, e, k⟩ := q
  obtain ⟨b, eb, e⟩ := bind2 e
  refine ⟨H0, A0, G, ρ, B, b, S, eb, fun H1 s1 => ?_⟩
  cases b with
  | true => exact ⟨H0, A0, G, ρ, B, o, S.mono s1, e, k⟩
  | false => exact ⟨H0, A0, G, ρ, B, o, S.mono s1, e, k⟩

/-! ### a name takes a value -/
def sSet (i : Nat) (f : Xp) : XS := fun ρ => (f ρ).bind fun d => if i < ρ.length then some (.nx (ρ.set i (some d))) else none
theorem Sim.grow {K : PySem.W.Frag} {H0 H : Hp} {A0 : Addr → Prop} {G : List (V × D)} {σ : L2.St} {ρ : PEnv} {B : Nat → Option Addr} {i : Nat} (S : Sim K H0 A0 G (O.filter (· != i)) σ H ρ B) (h : ∀ d, ρ[i]? = some (some d) → isMut d = false) : Sim K H0 A0 G (i :: O) σ H ρ B := by
  refine ⟨S.same, S.a0, S.len, fun j a e => List.mem_cons_of_mem _ (List.mem_filter.mp (S.bo j a e)).1, S.inj, S.fr, fun j d hj e m => ?_, S.slot, S.gs⟩
  by_cases hji : j = i
  · subst hji
    rw [h d e] at m
    cases m
  · rcases List.mem_cons.mp hj with hj | hj
    · exact absurd hj hji
    · exact S.ob j d (List.mem_filter.mpr ⟨hj, by simpa using hji⟩) e m
theorem setf_of {D : Ends} {i : Nat} (σ : L2.St) (H : Hp) (q : simS X.K O Ob Oc (i :: O) (sSet i f) D σ H) : tAsg (simT X.K O .f f) (gName i) D σ H := by
  obtain ⟨H0, A0, G, ρ, B, o, S, e, k⟩ := q
  obtain ⟨d, ed, e⟩ := bind2 e
  split at e
  · rename_i hl
    cases e
    refine ⟨H0, A0, G, ρ, B, d, S, ed, fun v H1 s1 r1 => ?_⟩
    rcases r1 with ⟨a, rfl, hn, r1⟩ | ⟨r1, nm⟩
    · obtain ⟨B', S'⟩ := S.setF s1 hn r1 hl
      exact k _ H1 B' S'
    · have S' := (S.mono s1).setS r1 hl
      refine k _ H1 _ (S'.grow fun d' e' => ?_)
      rw [List.getElem?_set_self hl] at e'
      cases e'
      exact nm
  · cases e
theorem ss_setF (i : Nat) {x : Str} {O' : List Nat} (hN : X.N.Nodup) (he : SE X O .f e f) (hi : X.N[i]? = some x := by rfl) (hx : Loc X.env.scope x := by first | exact Or.inl rfl | exact Or.inr rfl) (hs : swapsWith e (some (.Name x pos')) pos.line X.env = pure false := by rfl) (hf : X.fn x = true ∨ X.env.scope.names.lookup x = some .local := by first | exact .inl rfl | exact .inr rfl)
    (hO : i :: O = O' := by rfl) : SS X O Ob Oc O' (.Assign [.Name x pos'] e pos) (sSet i f) := by
  subst hO
  exact ⟨ps_imp (ps_set hN hi hx he.pe hs hf) fun D σ H q => setf_of σ H q⟩
theorem ss_setS (i : Nat) {x : Str} (hN : X.N.Nodup) (he : SE X O m e f) (hm : m ≠ .w := by decide) (hi : X.N[i]? = some x := by rfl) (hx : Loc X.env.scope x := by first | exact Or.inl rfl | exact Or.inr rfl) (hs : swapsWith e (some (.Name x pos')) pos.line X.env = pure false := by rfl) (hf : X.fn x = true ∨ X.env.scope.names.lookup x = some .local := by first | exact .inl rfl | exact .inr rfl)
    (hO : O.filter (· != i) = O' := by rfl) : SS X O Ob Oc O' (.Assign [.Name x pos'] e pos) (sSet i f) := by
  refine ⟨ps_imp (ps_set hN hi hx he.pe hs hf) fun D σ H q => ?_⟩
  obtain ⟨H0, A0, G, ρ, B, o, S, e, k⟩ := q
  obtain ⟨d, ed, e⟩ := bind2 e
  split at e
  · rename_i hl
    cases e
    refine ⟨H0, A0, G, ρ, B, d, S, ed, fun v H1 s1 r1 => ?_⟩
    have S' := (S.mono s1).setS ((r1.toS S.tr hm)) hl
    rw [hO] at S'
    exact k _ H1 _ S'
  · cases e
/-- x = [..] -/
theorem ss_setLc (i : Nat) {y : Str} {py : Pos} {ts : List Nat} {sf : Bool} {tg iter elt : Expr} {ifs : List Expr} {scope : Scope} {own : List (Str × Nat)} {it : XL} {gg : D → PEnv → Option PEnv} {t : PEnv → Option Bool} {spos : Pos} {O' : List Nat}
    (hN : X.N.Nodup) (hi : SI X O sf tg iter it) (ok : BlkOk X.N X.env.scope scope own) (hg : InBlk X scope fun Y => SG Y O O ts tg gg) (ht : InBlk X scope fun Y => STs Y O ifs t) (he : InBlk X scope fun Y => SE Y O m elt f)
    (hm : m ≠ .w := by decide) (hy : X.N[i]? = some y := by rfl) (hyl : X.env.scope.names.lookup y = some .local := by rfl) (hsw : swapsWith (.ListComp elt [⟨tg, iter, ifs, 0⟩] scope pos) (some (.Name y py)) spos.line X.env = pure true := by exact sw_true rfl rfl rfl (by decide +kernel))
    (hts : ts.all (fun i => (own.map (·.2)).contains i) = true := by rfl) (hO : (own.map (·.2)).all (fun i => !O.contains i) = true := by rfl) (hc : X.calm = true := by rfl) (hs : ∀ x, foldedSetIterable iter X.env x = pure x := by intro _; rfl) (hO' : i :: O = O' := by rfl) :
    SS X O Ob Oc O' (.Assign [.Name y py] (.ListComp elt [⟨tg, iter, ifs, 0⟩] scope pos) spos) (sSet i (xLc it gg t f (own.map (·.2)))) := by
  subst hO'
  refine ⟨ps_imp (ps_setLc (wi := simI X.K O sf it) (g := simG X.K O O ts gg) (tt := simTT X.K O t) (te := simT X.K O m f) hc hN hy hyl hsw hi.pi ok (fun s H C cl fp => (hg s H C cl fp).pg) (fun s H C cl fp => (ht s H C cl fp).pts) (fun s H C cl fp => (he s H C cl fp).pe) hs) fun D σ H q => ?_⟩
  exact lc_of hm (fun i hi => by simpa using List.all_eq_true.mp hts i (by simpa using hi)) (fun i hi => by simpa using List.all_eq_true.mp hO i hi) σ H _ (setf_of σ H q)
/-- a, b = e -/
def sTgt (g : D → PEnv → Option PEnv) (f : Xp) : XS := fun ρ => (f ρ).bind fun d => (g d ρ).map .nx
theorem ss_tgt {tg : Expr} {ts : List Nat} {gg : D → PEnv → Option PEnv} (he : SE X O m e f) (hg : SG X O O' ts tg gg) (hm : m ≠ .w := by decide) (hs : swapsWithSole [tg] e pos.line X.env = pure false := by rfl) (hw : swappedStores [tg] e X.env = pure none := by rfl)
    (h1 : (assignEach [tg] X.env).map (·.2) = [assign tg X.env] := by rfl) : SS X O Ob Oc O' (.Assign [tg] e pos) (sTgt gg f) := by
  refine ⟨ps_imp (ps_asg he.pe hg.pg hs hw h1) fun D σ H q => ?_⟩
  obtain ⟨H0, A0, G, ρ, B, o, S, e, k⟩ := q
  obtain ⟨d, ed, e⟩ := bind2 e
  obtain ⟨ρ', eρ, e⟩ := Option.map_eq_some_iff.mp e
  subst e
  refine ⟨H0, A0, G, ρ, B, d, S, ed, fun v H1 s1 r1 => ?_⟩
  exact ⟨H0, A0, G, ρ, B, d, ρ', S.mono s1, (r1.toS S.tr hm), eρ, fun σ' _ S' => k σ' H1 _ S'⟩
/-- x op= e -/
def sAug (i : Nat) (g : D → D → Option D) (f : Xp) : XS := fun ρ => (xVar i ρ).bind fun x => (f ρ).bind fun y => (g x y).bind fun z => if i < ρ.length then some (.nx (ρ.set i (some z))) else none
theorem ss_aug (i : Nat) {x : Str} {op : Operator} {g : D → D → Option D} (hN : X.N.Nodup) (ho : OpR X (inplaceOp op) (rD X.K .f g)) (he : SE X O m e f) (hni : O.contains i = false := by rfl) (hi : X.N[i]? = some x := by rfl) (hx : Loc X.env.scope x := by first | exact Or.inl rfl | exact Or.inr rfl) (hf : X.fn x = true ∨ X.env.scope.names.lookup x = some .local := by first | exact .inl rfl | exact .inr rfl) :
    SS X O Ob Oc (O.filter (· != i)) (.AugAssign (.Name x pos') op e pos) (sAug i g f) := by
  refine ⟨ps_imp (ps_aug hN hi hx he.pe (ti := rD X.K .f g) ho hf) fun D σ H q => ?_⟩
  obtain ⟨H0, A0, G, ρ, B, o, S, e, k⟩ := q
  obtain ⟨d, ed, e⟩ := bind2 e
  obtain ⟨y, ey, e⟩ := bind2 e
  obtain ⟨z, ez, e⟩ := bind2 e
  split at e
  · rename_i hl
    cases e
    rcases S.slot i d (getD_some ed) with ⟨a, h1, _, _⟩ | ⟨_, v, h2, h3⟩
    · have := S.bo i a h1
      simp at hni
      exact absurd this hni
    refine ⟨v, h2, H0, A0, G, ρ, B, y, S, ey, fun u H1 s1 r1 => ⟨Av A0 B, d, y, z, (S.mono s1).tr, .inl (h3.mono s1), r1.toW, ez, fun w H2 s2 r2 => ?_⟩⟩
    have S2 := S.mono (s1.trans s2)
    exact k _ H2 _ (S2.setS (r2.toS (S.mono s1).tr (by decide)) hl)
  · cases e

/-! ### an own list changes -/
def sApp (i : Nat) (f : Xp) : XS := fun ρ => (xVar i ρ).bind fun x => (f ρ).bind fun y => match x with
  | .list xs => if xs.length < 16777216 ∧ i < ρ.length then some (.nx (ρ.set i (some (.list (xs ++ [y]))))) else none
  | _ => none
theorem own_of {K : PySem.W.Frag} {H0 H : Hp} {A0 : Addr → Prop} {G : List (V × D)} {σ : L2.St} {ρ : PEnv} {B : Nat → Option Addr} {i : Nat} {xs : List D} (S : Sim K H0 A0 G O σ H ρ B) (hi : O.contains i = true) (e : xVar i ρ = some (.list xs)) : ∃ a vs, B i = some a ∧ σ[i]? = some (some (.ref a)) ∧ H a = some (.lst vs) ∧ RpL K (Av A0 B) H vs xs := by
  obtain ⟨a, h1, h2, h3⟩ := S.ob i _ (by simpa using hi) (getD_some e) rfl
  cases h3 with
  | lst h r => exact ⟨a, _, h1, h2, h, r⟩
theorem upd_lst {K : PySem.W.Frag} {H : Hp} {A : Addr → Prop} {a : Addr} {vs : List V} {ds : List D} (ha : A a) (r : RpL K A H vs ds) : Tp K A (upd H a (.lst vs)) a (.list ds) := by
  refine .lst upd_same (r.step (fun b o e n => ?_) fun _ z => .inl z)
  rw [upd_ne (fun z => n (by rw [z]; exact ha))]
  exact e
theorem ss_app (i : Nat) {x : Str} {apos p1 cpos : Pos} (he : SE X O m e f) (hm : m ≠ .w := by decide) (hO : O.contains i = true := by rfl) (hN : X.N[i]? = some x := by rfl) (hv : Vis X.env.scope x := by first | exact Or.inl rfl | exact Or.inr (Or.inl rfl) | exact Or.inr (Or.inr rfl))
    (hd : (x == ("__debug__" : Str)) = false := by decide) (hcd : (x == ("__classdict__" : Str)) = false := by decide) (hbase : attributeBase (.Name x p1) "append" X.env (eval (.Name x p1) X.env) = eval (.Name x p1) X.env := by rfl)
    (hfew : ((backTo cpos (starEach (e :: []) X.env)).all (fun x => !x.1) && (backToKw cpos (keywordEach [] X.env)).all (fun x => x.1.isSome) && decide ((e :: ([] : List Expr)).length + ([] : List Keyword).length + (if ([] : List Keyword).isEmpty then 0 else 1) < 30)) = true := by rfl)
    (hline : (apos.endLine == cpos.line) = true := by rfl) (hs : starEach (e :: []) X.env = (false, eval e X.env) :: starEach [] X.env := by rfl) (hplain : (backTo cpos (starEach [] X.env)).any (·.1) = false := by rfl)
    (hsw : swapsWith (.Call (.Attribute (.Name x p1) "append" apos) [e] [] cpos) none pos.line X.env = pure false := by rfl) : SS X O Ob Oc O (.Expr (.Call (.Attribute (.Name x p1) "append" apos) [e] [] cpos) pos) (sApp i f) := by
  refine ⟨ps_imp (ps_expr (pe_bm PySem.F.plainAttrs_list PySem.F.slot_list_append PySem.F.type_list_append mt_append (pe_var hN hv hd hcd) (pa_cons he.pe pa_nil hs) hbase hfew hline hs hplain) hsw) fun D σ H q => ?_⟩
  obtain ⟨H0, A0, G, ρ, B, o, S, e, k⟩ := q
  obtain ⟨d, ed, e⟩ := bind2 e
  obtain ⟨y, ey, e⟩ := bind2 e
  split at e
  · split at e
    · rename_i hz
      cases e
      obtain ⟨a, vs, hB, hσ, ha, ra⟩ := own_of S hO ed
      refine ⟨.ref a, hσ, .inl ⟨rfl, _, .of ha⟩, H0, A0, G, ρ, B, y, S, ey, fun v H1 s1 r1 => ?_⟩
      have S1 := S.mono s1
      refine ⟨a, vs, v, rfl, rfl, s1 _ _ ha, by rw [ra.length]; exact hz.1, ?_⟩
      have av : Av A0 B a := .inr ⟨i, hB⟩
      exact k _ _ B (S1.write hB hσ (upd_lst av (RpL.app (.one (r1.toS S.tr hm)) (ra.mono s1))) hz.2)
    · cases e
  · cases e
def sExt (i : Nat) (f : Xp) : XS := fun ρ => (xVar i ρ).bind fun x => (f ρ).bind fun y => match x, y with
  | .list xs, .list ys => if xs.length + ys.length ≤ 16777216 ∧ i < ρ.length then some (.nx (ρ.set i (some (.list (xs ++ ys))))) else none
  | _, _ => none
theorem ss_ext (i : Nat) {x : Str} {apos p1 cpos : Pos} (he : SE X O m e f) (hO : O.contains i = true := by rfl) (hN : X.N[i]? = some x := by rfl) (hv : Vis X.env.scope x := by first | exact Or.inl rfl | exact Or.inr (Or.inl rfl) | exact Or.inr (Or.inr rfl))
    (hd : (x == ("__debug__" : Str)) = false := by decide) (hcd : (x == ("__classdict__" : Str)) = false := by decide) (hbase : attributeBase (.Name x p1) "extend" X.env (eval (.Name x p1) X.env) = eval (.Name x p1) X.env := by rfl)
    (hfew : ((backTo cpos (starEach (e :: []) X.env)).all (fun x => !x.1) && (backToKw cpos (keywordEach [] X.env)).all (fun x => x.1.isSome) && decide ((e :: ([] : List Expr)).length + ([] : List Keyword).length + (if ([] : List Keyword).isEmpty then 0 else 1) < 30)) = true := by rfl)
    (hline : (apos.endLine == cpos.line) = true := by rfl) (hs : starEach (e :: []) X.env = (false, eval e X.env) :: starEach [] X.env := by rfl) (hplain : (backTo cpos (starEach [] X.env)).any (·.1) = false := by rfl)
    (hsw : swapsWith (.Call (.Attribute (.Name x p1) "extend" apos) [e] [] cpos) none pos.line X.env = pure false := by rfl) : SS X O Ob Oc O (.Expr (.Call (.Attribute (.Name x p1) "extend" apos) [e] [] cpos) pos) (sExt i f) := by
  refine ⟨ps_imp (ps_expr (pe_bm PySem.F.plainAttrs_list PySem.F.slot_list_extend PySem.F.type_list_extend mt_extend (pe_var hN hv hd hcd) (pa_cons he.pe pa_nil hs) hbase hfew hline hs hplain) hsw) fun D σ H q => ?_⟩
  obtain ⟨H0, A0, G, ρ, B, o, S, e, k⟩ := q
  obtain ⟨d, ed, e⟩ := bind2 e
  obtain ⟨y, ey, e⟩ := bind2 e
  split at e
  · split at e
    · rename_i hz
      cases e
      obtain ⟨a, vs, hB, hσ, ha, ra⟩ := own_of S hO ed
      refine ⟨.ref a, hσ, .inl ⟨rfl, _, .of ha⟩, H0, A0, G, ρ, B, _, S, ey, fun v H1 s1 r1 => ?_⟩
      have S1 := S.mono s1
      obtain ⟨b, zs, rfl, hb, rb⟩ := r1.toW.lst
      refine ⟨a, b, vs, zs, rfl, rfl, s1 _ _ ha, hb, by rw [ra.length, rb.length]; exact hz.1, ?_⟩
      have av : Av A0 B a := .inr ⟨i, hB⟩
      exact k _ _ B (S1.write hB hσ (upd_lst av (RpL.app rb (ra.mono s1))) hz.2)
    · cases e
  · cases e
/-- x[j] = e -/
def sPut (i : Nat) (fj f : Xp) : XS := fun ρ => (f ρ).bind fun y => (xVar i ρ).bind fun x => (fj ρ).bind fun j => match x, j with
  | .list xs, .int j => (ixN xs.length j).bind fun n => if i < ρ.length then some (.nx (ρ.set i (some (.list (xs.set n y))))) else none
  | _, _ => none
theorem ss_put (i : Nat) {x : Str} {p1 p2 : Pos} {j : Expr} {fj : Xp} (he : SE X O m e f) (hj : SE X O mb j fj) (hm : m ≠ .w := by decide) (hO : O.contains i = true := by rfl) (hN : X.N[i]? = some x := by rfl) (hv : Vis X.env.scope x := by first | exact Or.inl rfl | exact Or.inr (Or.inl rfl) | exact Or.inr (Or.inr rfl))
    (hd : (x == ("__debug__" : Str)) = false := by decide) (hcd : (x == ("__classdict__" : Str)) = false := by decide)
    (ha : ∀ v, assign (.Subscript (.Name x p1) j p2) X.env v = (do
      let ov ← holding [v] (eval (.Name x p1) X.env)
      let iv ← holding [v, ov] (eval j X.env)
      standAt p2
      holding [v, ov, iv] (setItem ov iv v)
      release [v, ov, iv] []) := by intro _; rfl)
    (hs : swapsWithSole [.Subscript (.Name x p1) j p2] e pos.line X.env = pure false := by rfl) (hw : swappedStores [.Subscript (.Name x p1) j p2] e X.env = pure none := by rfl)
    (h1 : (assignEach [.Subscript (.Name x p1) j p2] X.env).map (·.2) = [assign (.Subscript (.Name x p1) j p2) X.env] := by rfl) : SS X O Ob Oc O (.Assign [.Subscript (.Name x p1) j p2] e pos) (sPut i fj f) := by
  refine ⟨ps_imp (ps_asg he.pe (pg_sub (pe_var hN hv hd hcd) hj.pe set_list ha) hs hw h1) fun D σ H q => ?_⟩
  obtain ⟨H0, A0, G, ρ, B, o, S, e, k⟩ := q
  obtain ⟨y, ey, e⟩ := bind2 e
  obtain ⟨d, ed, e⟩ := bind2 e
  obtain ⟨z, ez, e⟩ := bind2 e
  split at e
  · obtain ⟨n, en, e⟩ := bind2 e
    split at e
    · rename_i hz
      cases e
      obtain ⟨a, vs, hB, hσ, ha, ra⟩ := own_of S hO ed
      refine ⟨H0, A0, G, ρ, B, y, S, ey, fun v H1 s1 r1 => ⟨.ref a, hσ, H0, A0, G, ρ, B, _, S.mono s1, ez, fun u H2 s2 r2 => ?_⟩⟩
      have s12 := s1.trans s2
      have S1 := S.mono s12
      refine ⟨a, vs, _, n, rfl, r2.toW.int, s12 _ _ ha, by rw [ra.length]; exact en, ?_⟩
      have av : Av A0 B a := .inr ⟨i, hB⟩
      exact k _ _ B (S1.write hB hσ (upd_lst av (RpL.set ((r1.toS S.tr hm).mono s2) n (ra.mono s12))) hz)
    · cases e
  · cases e

/-! ### loops -/
def forL (g : D → PEnv → Option PEnv) (b : XS) : List D → XS
  | [], ρ => some (.nx ρ)
  | d :: ds, ρ => (g d ρ).bind fun ρ1 => (b ρ1).bind fun o => match o with
    | .nx ρ2 => forL g b ds ρ2
    | .ct ρ2 => forL g b ds ρ2
    | .bk ρ2 => some (.nx ρ2)
    | .rt d => some (.rt d)
def sFor (it : XL) (g : D → PEnv → Option PEnv) (b : XS) : XS := fun ρ => (it ρ).bind fun ds => forL g b ds ρ
theorem ss_for {tg iter : Expr} {body : List Stmt} {ts : List Nat} {it : XL} {gg : D → PEnv → Option PEnv} (hi : SI X O true tg iter it) (hg : SG X O O1 ts tg gg) (hb : SSs X O1 O' O O body g)
    (hsub : O'.all (fun i => O.contains i) = true := by rfl) (hp : PassesOwn (model X.prog X.w) X.A X.env X.xe := by exact PassesOwn.never) (hc : X.calm = true := by rfl) (hs : ∀ x, foldedSetIterable iter X.env x = pure x := by intro _; rfl) : SS X O Ob Oc O' (.For tg iter body [] pos) (sFor it gg g) := by
  refine ⟨ps_imp (ps_for hp hc hi.pi hg.pg hb.pss hs) fun D σ H q => ?_⟩
  obtain ⟨H0, A0, G, ρ, B, o, S, e, k⟩ := q
  obtain ⟨ds, eds, e⟩ := bind2 e
  refine ⟨H0, A0, G, ρ, B, ds, S, eds, fun J H1 gs s1 yl gr hz => ?_⟩
  have Sg := (S.mono s1).ghost (G' := gs) fun p hp => gr p hp
  refine ⟨fun i n σi Hi => n = ds.length - i ∧ i ≤ ds.length ∧ ∃ ρi Bi, Sim X.K H0 A0 (gs ++ G) O σi Hi ρi Bi ∧ forL gg g (ds.drop i) ρi = some o, ⟨ds.length, rfl, Nat.zero_le _, ρ, B, Sg, e⟩, ?_⟩
  rintro i n σi Hi ⟨rfl, hi, ρi, Bi, Si, ei⟩
  have gw : ∀ p ∈ gs, WRp X.K (Av A0 Bi) Hi p.1 p.2 := fun p hp => .inl (Si.gs p (List.mem_append_left _ hp))
  by_cases hlt : i < ds.length
  · have ed : ds[i]? = some ds[i] := List.getElem?_eq_getElem hlt
    rw [List.drop_eq_getElem_cons hlt] at ei
    simp only [forL] at ei
    obtain ⟨ρ1, eρ1, ei⟩ := bind2 ei
    obtain ⟨o1, eo1, ei⟩ := bind2 ei
    obtain ⟨hgo, hy⟩ := yl.go _ Hi i _ Si.tr gw ed
    refine .inr ⟨hgo, fun σ' H' => i + 1 ≤ ds.length ∧ ∃ ρ' B', Sim X.K H0 A0 (gs ++ G) O σ' H' ρ' B' ∧ forL gg g (ds.drop (i + 1)) ρ' = some o, fun σ' H' hN => ⟨ds.length - (i + 1), by omega, rfl, hN.1, hN.2⟩, fun x H' hx => ?_⟩
    obtain ⟨s2, rx⟩ := hy x H' hx
    refine ⟨H0, A0, gs ++ G, ρi, Bi, _, ρ1, Si.mono s2, rx, eρ1, fun σ2 _ S2 => ⟨H0, A0, gs ++ G, ρ1, _, o1, S2, eo1, ?_⟩⟩
    cases o1 with
    | nx ρ2 => exact fun σ3 H3 B3 S3 => ⟨by omega, ρ2, B3, S3, ei⟩
    | ct ρ2 => exact fun σ3 H3 B3 S3 => ⟨by omega, ρ2, B3, S3, ei⟩
    | bk ρ2 => cases ei; exact fun σ3 H3 B3 S3 => k σ3 H3 B3 S3.unghost
    | rt d => cases ei; exact k
  · have e' : i = ds.length := by omega
    subst e'
    rw [List.drop_length] at ei
    cases ei
    obtain ⟨B', S'⟩ := Si.unghost.weak (sub_of hsub)
    exact .inl ⟨yl.stop _ Hi Si.tr gw, k σi Hi B' S'⟩
def whileF (c : PEnv → Option Bool) (b : XS) : Nat → XS
  | 0, _ => none
  | n + 1, ρ => (c ρ).bind fun t => if t then (b ρ).bind fun o => match o with
      | .nx ρ2 => whileF c b n ρ2
      | .ct ρ2 => whileF c b n ρ2
      | .bk ρ2 => some (.nx ρ2)
      | .rt d => some (.rt d)
    else some (.nx ρ)
/-- at most so many turns -/
def fuelN : Nat := 2 ^ 2000
def sWhile (c : PEnv → Option Bool) (b : XS) : XS := whileF c b fuelN
theorem ss_while {c : Expr} {body : List Stmt} {tc : PEnv → Option Bool} (hc : ST X O c tc) (hb : SSs X O O' O O body g) (hsub : O'.all (fun i => O.contains i) = true := by rfl) (hp : PassesOwn (model X.prog X.w) X.A X.env X.xe := by exact PassesOwn.never) : SS X O Ob Oc O' (.While c body [] pos) (sWhile tc g) := by
  refine ⟨ps_imp (ps_while hp hc.pt hb.pss) fun D σ H q => ?_⟩
  obtain ⟨H0, A0, G, ρ, B, o, S, e, k⟩ := q
  refine ⟨fun n σi Hi => ∃ ρi Bi, Sim X.K H0 A0 G O σi Hi ρi Bi ∧ whileF tc g n ρi = some o, ⟨fuelN, ρ, B, S, e⟩, ?_⟩
  rintro n σi Hi ⟨ρi, Bi, Si, ei⟩
  cases n with
  | zero => cases ei
  | succ n =>
    simp only [whileF] at ei
    obtain ⟨t, et, ei⟩ := bind2 ei
    refine ⟨H0, A0, G, ρi, Bi, t, Si, et, fun H1 s1 => ?_⟩
    cases t with
    | true =>
      rw [if_pos rfl] at ei ⊢
      obtain ⟨o1, eo1, ei⟩ := bind2 ei
      refine ⟨fun σ' H' => ∃ ρ' B', Sim X.K H0 A0 G O σ' H' ρ' B' ∧ whileF tc g n ρ' = some o, fun σ' H' hN => ⟨n, Nat.lt_succ_self _, hN⟩, H0, A0, G, ρi, Bi, o1, Si.mono s1, eo1, ?_⟩
      cases o1 with
      | nx ρ2 => exact fun σ3 H3 B3 S3 => ⟨ρ2, B3, S3, ei⟩
      | ct ρ2 => exact fun σ3 H3 B3 S3 => ⟨ρ2, B3, S3, ei⟩
      | bk ρ2 => cases ei; exact k
      | rt d => cases ei; exact k
    | false =>
      rw [if_neg Bool.false_ne_true] at ei ⊢
      cases ei
      obtain ⟨B', S'⟩ := (Si.mono s1).weak (sub_of hsub)
      exact k σi H1 B' S'
end

/-! ### a def's body -/
def runD (n N : Nat) (g : XS) : List D → Option D := fun ds => (g (ds.map some ++ List.replicate (N - n) none)).bind fun o => match o with
  | .nx _ => some .none
  | .rt d => some d
  | _ => none
theorem sim_start {K : PySem.W.Frag} {A : Addr → Prop} {H : Hp} {vs : List V} {ds : List D} {N : List Str} {n : Nat} (t : Tr A H) (r : RpL K A H vs ds) (hn : vs.length = n) : Sim K H A [] [] (start N vs) H (ds.map some ++ List.replicate (N.length - n) none) (fun _ => none) := by
  refine ⟨Same.refl H, t, ?_, fun i a e => (nomatch e), fun i j a e => (nomatch e), fun i a e => (nomatch e), fun i d hi => (nomatch hi), fun i d e => ?_, fun p hp => (nomatch hp)⟩
  · unfold L2.start
    simp [r.length, hn.symm]
  · refine .inr ⟨rfl, ?_⟩
    by_cases hi : i < ds.length
    · rw [List.getElem?_append_left (by simpa using hi), List.getElem?_map] at e
      rw [List.getElem?_eq_getElem hi] at e
      cases e
      obtain ⟨v, ev, rv⟩ := r.get (List.getElem?_eq_getElem hi)
      refine ⟨v, ?_, rv.anti fun a z => ?_⟩
      · unfold L2.start
        rw [List.getElem?_append_left (by rw [List.length_map, r.length]; exact hi), List.getElem?_map, ev]
        rfl
      · rcases z with z | ⟨j, z⟩
        · exact z
        · cases z
    · rw [List.getElem?_append_right (by simpa using hi), List.getElem?_replicate] at e
      split at e <;> cases e
theorem fn_ok {P : Program} {w : World} {K : PySem.W.Frag} {mg : Str → Option Value} {base : Heap} {x qual : Str} {st : Stmt} {f : Addr} {fd : FuncData} {N ps : List Str} {k : Nat} {O' : List Nat} {g : XS} (F : Fun K x qual st f fd) (S : FnScope N ps (defScope st))
    (hb : ∀ (cdv : Value) (A : Around) (outer : List Env) (s : Shared) (H : Hp) (E : XK), Room k (A.deeper (envOfC qual (defScope st) s.heap.objs.size f cdv)) → SSs (cxOf CX0 P w K mg base N qual (defScope st) f cdv A outer s H E).nox [] [] [] O' (defBody st) g) :
    FnOk P w K mg base CX0 (k + 1) f fd ps (spD K ps.length (runD ps.length N.length g)) := by
  refine F.ok S (fun vs H Q E h => ?_) (fun cdv A outer s H vs Q E hr h => ?_)
  · obtain ⟨A, ds, d, t, hn, _⟩ := h
    exact hn
  · obtain ⟨A', ds, d, t, hn, r, e, q⟩ := h
    obtain ⟨o, eo, e⟩ := bind2 e
    refine ⟨_, (hb cdv A outer s H E hr).pss, H, A', [], _, fun _ => none, o, sim_start t r hn, eo, ?_⟩
    cases o with
    | nx ρ => cases e; exact fun σ' H' B' S' => q .non H' S'.same .non
    | rt d' => cases e; exact fun v H' s' r' => q v H' s' r'
    | bk ρ => cases e
    | ct ρ => cases e
theorem def_ok {P : Program} {w : World} {K : PySem.W.Frag} {mg : Str → Option Value} {base : Heap} {x : Str} {f : Addr} {fd : FuncData} {ps : List Str} {k : Nat} {F : List D → Option D} (h : FnOk P w K mg base CX0 k f fd ps (spD K ps.length F)) (hm : mg x = some (.ref f)) (kp : PySem.W.keepIn K (.ref f) = true) (hb : Binds K fd ps []) : Def P w K mg base k x ps F := ⟨⟨f, fd, h, hm, kp, hb⟩⟩
end Pm

namespace Pm
open PySem PySem.Spec PyProof.Rows L2

/-! ### several names at once -/
def oAdd' : D → D → Option D
  | .int a, .int b => some (.int (a + b))
  | _, _ => none
section
variable {K : PySem.W.Frag} {A0 A : Addr → Prop} {H0 H H' : Hp} {G : List (V × D)} {O : List Nat} {σ : L2.St} {ρ : PEnv} {B : Nat → Option Addr} {v : V} {d : D}
/-- a guarded cell becomes a slot's own -/
theorem Sim.adopt (S : Sim K H0 (Gd A0 a) G O σ H ρ B) {i : Nat} (na : ¬ A0 a) (h0 : H0 a = none) (r : Tp K (Av (Gd A0 a) B) H a d) (hi : i < ρ.length) :
    Sim K H0 A0 G (i :: O) (σ.set i (some (.ref a))) H (ρ.set i (some d)) (fun j => if j = i then some a else B j) := by
  have hiσ : i < σ.length := by rw [← S.len]; exact hi
  have nb : ∀ j, B j ≠ some a := fun j z => (S.fr j a z).2.1 (.inr rfl)
  have sub : ∀ j b, (if j = i then some a else B j) = some b → (j = i ∧ b = a) ∨ (j ≠ i ∧ B j = some b) := fun j b e => by
    by_cases hj : j = i
    · simp [hj] at e; exact .inl ⟨hj, e.symm⟩
    · exact .inr ⟨hj, by simpa [hj] using e⟩
  have an : ∀ b, Av A0 (fun j => if j = i then some a else B j) b → Av (Gd A0 a) B b := fun b z => by
    rcases z with z | ⟨j, z⟩
    · exact .inl (.inl z)
    · rcases sub j b z with ⟨_, q⟩ | ⟨_, q⟩
      · exact .inl (.inr q)
      · exact .inr ⟨j, q⟩
  have ans : ∀ b, Av A0 (fun j => if j = i then some a else B j) b → Av (Gd A0 a) B b ∨ H b = none := fun b z => .inl (an b z)
  refine ⟨S.same, fun b z => S.a0 b (.inl z), by simp [S.len], fun j b e => ?_, fun j k b e e' => ?_, fun j b e => ?_, fun j d' hj e m => ?_, fun j d' e => ?_, fun p hp => (S.gs p hp).anti an⟩
  · rcases sub j b e with ⟨q, _⟩ | ⟨_, q⟩
    · rw [q]; exact List.mem_cons_self
    · exact List.mem_cons_of_mem _ (S.bo j b q)
  · rcases sub j b e with ⟨q, q'⟩ | ⟨q, q'⟩
    · rcases sub k b e' with ⟨p, p'⟩ | ⟨p, p'⟩
      · rw [q, p]
      · rw [q'] at p'; exact absurd p' (nb k)
    · rcases sub k b e' with ⟨p, p'⟩ | ⟨p, p'⟩
      · rw [p'] at q'; exact absurd q' (nb j)
      · exact S.inj j k b q' p'
  · rcases sub j b e with ⟨q, q'⟩ | ⟨q, q'⟩
    · rw [q']
      exact ⟨h0, na, r.some⟩
    · obtain ⟨h1, h2, h3⟩ := S.fr j b q'
      exact ⟨h1, fun z => h2 (.inl z), h3⟩
  · by_cases hne : j = i
    · subst hne
      rw [List.getElem?_set_self hi] at e
      cases e
      exact ⟨a, by simp, by rw [List.getElem?_set_self hiσ], r.step (fun _ _ q _ => q) ans fun _ q => q⟩
    · rw [List.getElem?_set_ne (Ne.symm hne)] at e
      rw [List.getElem?_set_ne (Ne.symm hne)]
      rcases List.mem_cons.mp hj with hj | hj
      · exact absurd hj hne
      obtain ⟨b, h1, h2, h3⟩ := S.ob j d' hj e m
      exact ⟨b, by simp [hne, h1], h2, h3.step (fun _ _ q _ => q) ans fun _ q => q⟩
  · by_cases hne : j = i
    · subst hne
      rw [List.getElem?_set_self hi] at e
      cases e
      exact .inl ⟨a, by simp, by rw [List.getElem?_set_self hiσ], r.step (fun _ _ q _ => q) ans fun _ q => q⟩
    · rw [List.getElem?_set_ne (Ne.symm hne)] at e
      rw [List.getElem?_set_ne (Ne.symm hne)]
      rcases S.slot j d' e with ⟨b, h1, h2, h3⟩ | ⟨h1, v, h2, h3⟩
      · exact .inl ⟨b, by simp [hne, h1], h2, h3.step (fun _ _ q _ => q) ans fun _ q => q⟩
      · exact .inr ⟨by simp [hne, h1], v, h2, h3.anti an⟩
theorem Sim.unguard (S : Sim K H0 (Gd A0 a) G O σ H ρ B) : Sim K H0 A0 G O σ H ρ B := by
  have an : ∀ b, Av A0 B b → Av (Gd A0 a) B b := fun b z => by
    rcases z with z | z
    · exact .inl (.inl z)
    · exact .inr z
  have ans : ∀ b, Av A0 B b → Av (Gd A0 a) B b ∨ H b = none := fun b z => .inl (an b z)
  refine ⟨S.same, fun b z => S.a0 b (.inl z), S.len, S.bo, S.inj, fun j b e => let ⟨h1, h2, h3⟩ := S.fr j b e; ⟨h1, fun z => h2 (.inl z), h3⟩, fun j d' hj e m => ?_, fun j d' e => ?_, fun p hp => (S.gs p hp).anti an⟩
  · obtain ⟨b, h1, h2, h3⟩ := S.ob j d' hj e m
    exact ⟨b, h1, h2, h3.step (fun _ _ q _ => q) ans fun _ q => q⟩
  · rcases S.slot j d' e with ⟨b, h1, h2, h3⟩ | ⟨h1, v, h2, h3⟩
    · exact .inl ⟨b, h1, h2, h3.step (fun _ _ q _ => q) ans fun _ q => q⟩
    · exact .inr ⟨h1, v, h2, h3.anti an⟩
end
abbrev Gl (A0 : Addr → Prop) (L : List Addr) : Addr → Prop := fun b => A0 b ∨ b ∈ L
theorem gl_nil (A0 : Addr → Prop) : Gl A0 [] = A0 := by
  funext b
  simp [Gl]
theorem gl_cons (A0 : Addr → Prop) (a : Addr) (L : List Addr) : Gl (Gd A0 a) L = Gl A0 (a :: L) := by
  funext b
  simp [Gl, Gd, or_assoc]
theorem gl_swap (A0 : Addr → Prop) (a : Addr) (L : List Addr) : Gd (Gl A0 L) a = Gl A0 (a :: L) := by
  funext b
  simp only [Gl, Gd, List.mem_cons]
  exact propext ⟨fun h => h.elim (fun h => h.elim .inl fun h => .inr (.inr h)) fun h => .inr (.inl h), fun h => h.elim (fun h => .inl (.inl h)) fun h => h.elim .inr fun h => .inl (.inr h)⟩
/-- values in a row: the new ones stand at L -/
inductive Pn (K : PySem.W.Frag) (A : Addr → Prop) (H : Hp) : List Addr → List Md → List V → List D → Prop where
  | nil : Pn K A H [] [] [] []
  | own {a : Addr} {L : List Addr} {ms : List Md} {vs : List V} {d : D} {ds : List D} : Tp K A H a d → Pn K A H L ms vs ds → Pn K A H (a :: L) (.f :: ms) (.ref a :: vs) (d :: ds)
  | val {m : Md} {v : V} {L : List Addr} {ms : List Md} {vs : List V} {d : D} {ds : List D} : Rp K A H v d → (m = .f → isMut d = false) → Pn K A H L ms vs ds → Pn K A H L (m :: ms) (v :: vs) (d :: ds)
theorem Pn.anti {K : PySem.W.Frag} {A A' : Addr → Prop} {H : Hp} {L : List Addr} {ms : List Md} {vs : List V} {ds : List D} (h : Pn K A H L ms vs ds) (ha : ∀ a, A' a → A a) : Pn K A' H L ms vs ds := by
  induction h with
  | nil => exact .nil
  | own t _ ih => exact .own (t.step (fun _ _ q _ => q) (fun a z => .inl (ha a z)) fun _ q => q) ih
  | val r n _ ih => exact .val (r.anti ha) n ih
theorem Pn.mono {K : PySem.W.Frag} {A : Addr → Prop} {H H' : Hp} {L : List Addr} {ms : List Md} {vs : List V} {ds : List D} (h : Pn K A H L ms vs ds) (s : Same H H') : Pn K A H' L ms vs ds := by
  induction h with
  | nil => exact .nil
  | own t _ ih => exact .own (t.mono s) ih
  | val r n _ ih => exact .val (r.mono s) n ih
theorem Pn.len {K : PySem.W.Frag} {A : Addr → Prop} {H : Hp} {L : List Addr} {ms : List Md} {vs : List V} {ds : List D} (h : Pn K A H L ms vs ds) : vs.length = ms.length ∧ ds.length = ms.length := by
  induction h with
  | nil => exact ⟨rfl, rfl⟩
  | own _ _ ih => simp [ih.1, ih.2]
  | val _ _ _ ih => simp [ih.1, ih.2]
def simAM (K : PySem.W.Frag) (O : List Nat) (ms : List Md) (f : XL) : TA := fun σ H Q => ∃ H0 A0 G ρ B ds, Sim K H0 A0 G O σ H ρ B ∧ f ρ = some ds ∧
  ∀ vs H' L, Same H H' → Sim K H0 (Gl A0 L) G O σ H' ρ B → (∀ a ∈ L, H a = none ∧ ¬ A0 a) → L.Nodup → Pn K (Av (Gl A0 L) B) H' L ms vs ds → Q vs H'
structure SAM (X : Cx) (O : List Nat) (ms : List Md) (es : List Expr) (f : XL) : Prop where
  pa : PA X es (simAM X.K O ms f)
def ownL : List Nat → List Md → List Nat → List Nat
  | i :: is, m :: ms, O => ownL is ms (if m = .f then i :: O else O.filter (· != i))
  | _, _, O => O
def setAll {α : Type} : List Nat → List α → List (Option α) → List (Option α)
  | i :: is, v :: vs, σ => setAll is vs (σ.set i (some v))
  | _, _, σ => σ
theorem assign_all {K : PySem.W.Frag} {H0 H : Hp} {A0 : Addr → Prop} {G : List (V × D)} : ∀ (is : List Nat) {O : List Nat} {σ : L2.St} {ρ : PEnv} {B : Nat → Option Addr} {L : List Addr} {ms : List Md} {vs : List V} {ds : List D},
    Sim K H0 (Gl A0 L) G O σ H ρ B → Pn K (Av (Gl A0 L) B) H L ms vs ds → (∀ a ∈ L, H0 a = none ∧ ¬ A0 a) → L.Nodup → (∀ i ∈ is, i < ρ.length) → is.length = ms.length →
    ∃ B', Sim K H0 A0 G (ownL is ms O) (setAll is vs σ) H (setAll is ds ρ) B'
  | [], O, σ, ρ, B, L, ms, vs, ds, S, p, hL, nd, hi, hl => by
    cases p with
    | nil => rw [gl_nil] at S; exact ⟨B, S⟩
    | own _ _ => simp at hl
    | val _ _ _ => simp at hl
  | i :: is, O, σ, ρ, B, L, ms, vs, ds, S, p, hL, nd, hi, hl => by
    cases p with
    | nil => simp at hl
    | @own a L' ms' vs' d ds' t p' =>
      have hia := hi i List.mem_cons_self
      rw [← gl_swap] at S
      have hn := List.nodup_cons.mp nd
      obtain ⟨h0, n0⟩ := hL a List.mem_cons_self
      have t' : Tp K (Av (Gd (Gl A0 L') a) B) H a d := by rw [gl_swap]; exact t
      have S1 := S.adopt (i := i) (fun z => by
        rcases z with z | z
        · exact n0 z
        · exact hn.1 z) h0 t' hia
      have e : ownL (i :: is) (.f :: ms') O = ownL is ms' (i :: O) := by simp [ownL]
      rw [e]
      refine assign_all is S1 (p'.anti fun c z => ?_) (fun b hb => hL b (List.mem_cons_of_mem _ hb)) hn.2 (fun j hj => by rw [List.length_set]; exact hi j (List.mem_cons_of_mem _ hj)) (by simpa using hl)
      rcases z with (z | z) | ⟨l, z⟩
      · exact .inl (.inl z)
      · exact .inl (.inr (List.mem_cons_of_mem _ z))
      · by_cases hli : l = i
        · simp [hli] at z
          exact .inl (.inr (by rw [z]; exact List.mem_cons_self))
        · simp [hli] at z
          exact .inr ⟨l, z⟩
    | @val m v L' ms' vs' d ds' r n p' =>
      have hia := hi i List.mem_cons_self
      have S1 := S.setS r hia
      have p2 := p'.anti (A' := Av (Gl A0 L) (restr [i] B)) fun c z => restr_av z
      have hi' : ∀ j ∈ is, j < (ρ.set i (some d)).length := fun j hj => by rw [List.length_set]; exact hi j (List.mem_cons_of_mem _ hj)
      by_cases hm : m = .f
      · have S2 := S1.grow fun d' e' => by
          rw [List.getElem?_set_self hia] at e'
          cases e'
          exact n hm
        have e : ownL (i :: is) (m :: ms') O = ownL is ms' (i :: O) := by simp [ownL, hm]
        rw [e]
        exact assign_all is S2 p2 hL nd hi' (by simpa using hl)
      · have e : ownL (i :: is) (m :: ms') O = ownL is ms' (O.filter (· != i)) := by simp [ownL, hm]
        rw [e]
        exact assign_all is S1 p2 hL nd hi' (by simpa using hl)
def sPar (is : List Nat) (fs : XL) : XS := fun ρ => (fs ρ).bind fun ds => if is.all (fun i => decide (i < ρ.length)) && decide (ds.length = is.length) then some (.nx (setAll is ds ρ)) else none
section
variable {X : Cx} {O O1 O2 Ob Oc O' : List Nat} {m ma mb : Md} {ms : List Md} {st : Stmt} {sts : List Stmt} {g h : XS} {e a b c : Expr} {es : List Expr} {f fa fb : Xp} {fs : XL} {pos pos' : Pos}
theorem sam_nil : SAM X O [] [] xNil := by
  refine ⟨pa_imp pa_nil fun σ H Q h => ?_⟩
  obtain ⟨H0, A0, G, ρ, B, ds, S, e, k⟩ := h
  cases e
  exact k [] H [] (Same.refl H) (by rw [gl_nil]; exact S) (fun a h => (nomatch h)) .nil .nil
theorem sam_cons (ha : SE X O m e f) (hr : SAM X O ms es fs) (hm : m ≠ .w := by decide) (hs : starEach (e :: es) X.env = (false, eval e X.env) :: starEach es X.env := by rfl) : SAM X O (m :: ms) (e :: es) (xCons f fs) := by
  refine ⟨pa_imp (pa_cons ha.pe hr.pa hs) fun σ H Q h => ?_⟩
  obtain ⟨H0, A0, G, ρ, B, ds, S, e, k⟩ := h
  obtain ⟨x, ex, e⟩ := bind2 e
  obtain ⟨xs, exs, e⟩ := bind2 e
  cases e
  refine ⟨H0, A0, G, ρ, B, x, S, ex, fun v H1 s1 r1 => ?_⟩
  by_cases hfa : m = .f ∧ ∃ a, v = V.ref a ∧ H a = none ∧ Tp X.K (fun b => Av A0 B b ∨ b = a) H1 a x
  · obtain ⟨rfl, a, rfl, hn, ra⟩ := hfa
    have naA : ¬ Av A0 B a := S.new hn
    have Sg := S.guard hn s1 ra.some
    refine ⟨H0, Gd A0 a, G, ρ, B, xs, Sg, exs, fun vs H2 L s2 S2 hL nd p => k _ H2 (a :: L) (s1.trans s2) (by rw [← gl_cons]; exact S2) (fun b hb => ?_) (List.nodup_cons.mpr ⟨fun z => ?_, nd⟩) (.own ?_ (by rw [← gl_cons]; exact p))⟩
    · rcases List.mem_cons.mp hb with rfl | hb
      · exact ⟨hn, fun z => naA (.inl z)⟩
      · obtain ⟨h1, h2⟩ := hL b hb
        exact ⟨s1.free h1, fun z => h2 (.inl z)⟩
    · exact (hL a z).2 (.inr rfl)
    · refine ra.step (fun c o e _ => s2 c o e) (fun c z => ?_) fun o e => s2 _ o e
      rcases z with (z | z) | z
      · exact .inl (.inl (.inl z))
      · rcases List.mem_cons.mp z with z | z
        · exact .inl (.inr z)
        · exact .inr (hL c z).1
      · exact .inl (.inl (.inr z))
  · have rb : Rp X.K (Av A0 B) H1 v x ∧ (m = .f → isMut x = false) := by
      cases m with
      | w => exact absurd rfl hm
      | s => exact ⟨r1, fun z => nomatch z⟩
      | f =>
        rcases r1 with ⟨b, e1, e2, e3⟩ | ⟨e1, e2⟩
        · exact absurd ⟨rfl, b, e1, e2, e3⟩ hfa
        · exact ⟨e1, fun _ => e2⟩
    refine ⟨H0, A0, G, ρ, B, xs, S.mono s1, exs, fun vs H2 L s2 S2 hL nd p => k _ H2 L (s1.trans s2) S2 (fun b hb => ⟨s1.free (hL b hb).1, (hL b hb).2⟩) nd (.val (rb.1.step (fun c o e _ => s2 c o e) fun c z => ?_) rb.2 p)⟩
    rcases z with (z | z) | z
    · exact .inl (.inl z)
    · exact .inr (hL c z).1
    · exact .inl (.inr z)
/-- behind the values: the names are set -/
theorem par_end {is : List Nat} {o : Out} {D : Ends} {K : PySem.W.Frag} {H0 H H1 : Hp} {A0 : Addr → Prop} {G : List (V × Pm.D)} {σ : L2.St} {ρ : PEnv} {B : Nat → Option Addr} {ds : List Pm.D} {vs : List V} {L : List Addr} (S0 : Same H0 H) (hO : ownL is ms O = O') (hl : is.length = ms.length)
    (e : (if is.all (fun i => decide (i < ρ.length)) && decide (ds.length = is.length) then some (Out.nx (setAll is ds ρ)) else none) = some o) (k : PostS K H0 A0 G Ob Oc O' D o)
    (S : Sim K H0 (Gl A0 L) G O σ H1 ρ B) (hL : ∀ a ∈ L, H a = none ∧ ¬ A0 a) (nd : L.Nodup) (p : Pn K (Av (Gl A0 L) B) H1 L ms vs ds) : D.nx (setAll is vs σ) H1 := by
  split at e
  · rename_i hz
    cases e
    simp only [Bool.and_eq_true, decide_eq_true_eq, List.all_eq_true] at hz
    obtain ⟨B', S'⟩ := assign_all is S p (fun a ha => ⟨S0.free (hL a ha).1, (hL a ha).2⟩) nd (fun i hi => hz.1 i hi) hl
    rw [hO] at S'
    exact k _ H1 B' S'
  · cases e
theorem ss_par (i j : Nat) {x y : Str} {px py pt : Pos} {kt k2 : Nat} {pt2 : Pos} (hN : X.N.Nodup) (ha : SAM X O [ma, mb] [a, b] fs) (hij : i ≠ j := by decide) (hi : X.N[i]? = some x := by rfl) (hj : X.N[j]? = some y := by rfl) (hx : X.env.scope.names.lookup x = some .local := by rfl) (hy : X.env.scope.names.lookup y = some .local := by rfl)
    (hw : swappedStores [.Tuple [.Name x px, .Name y py] kt pt] (.Tuple [a, b] k2 pt2) X.env = pure (some [x, y]) := by rfl) (hs : swapsWithSole [.Tuple [.Name x px, .Name y py] kt pt] (.Tuple [a, b] k2 pt2) pos.line X.env = pure false := by rfl) (hc : X.calm = true := by rfl) (hO : ownL [i, j] [ma, mb] O = O' := by rfl) :
    SS X O Ob Oc O' (.Assign [.Tuple [.Name x px, .Name y py] kt pt] (.Tuple [a, b] k2 pt2) pos) (sPar [i, j] fs) := by
  refine ⟨ps_imp (L2.ps_par hc hN hi hj hij hx hy ha.pa hw hs) fun D σ H q => ?_⟩
  obtain ⟨H0, A0, G, ρ, B, o, S, e, k⟩ := q
  obtain ⟨ds, eds, e⟩ := bind2 e
  refine ⟨H0, A0, G, ρ, B, ds, S, eds, fun vs H1 L s1 S1 hL nd p => ?_⟩
  have hl := p.len.1
  match vs, hl with
  | [v, w], _ => exact ⟨v, w, rfl, par_end (is := [i, j]) S.same hO rfl e k S1 hL nd p⟩
theorem ss_par3 (i j l : Nat) {mc : Md} {x y z : Str} {px py pz pt : Pos} {kt k2 : Nat} {pt2 : Pos} (hN : X.N.Nodup) (ha : SAM X O [ma, mb, mc] [a, b, c] fs) (hij : i ≠ j := by decide) (hil : i ≠ l := by decide) (hjl : j ≠ l := by decide) (hi : X.N[i]? = some x := by rfl) (hj : X.N[j]? = some y := by rfl) (hlz : X.N[l]? = some z := by rfl)
    (hx : X.env.scope.names.lookup x = some .local := by rfl) (hy : X.env.scope.names.lookup y = some .local := by rfl) (hz : X.env.scope.names.lookup z = some .local := by rfl)
    (hw : swappedStores [.Tuple [.Name x px, .Name y py, .Name z pz] kt pt] (.Tuple [a, b, c] k2 pt2) X.env = pure (some [x, y, z]) := by rfl) (hs : swapsWithSole [.Tuple [.Name x px, .Name y py, .Name z pz] kt pt] (.Tuple [a, b, c] k2 pt2) pos.line X.env = pure false := by rfl) (hc : X.calm = true := by rfl) (hO : ownL [i, j, l] [ma, mb, mc] O = O' := by rfl) :
    SS X O Ob Oc O' (.Assign [.Tuple [.Name x px, .Name y py, .Name z pz] kt pt] (.Tuple [a, b, c] k2 pt2) pos) (sPar [i, j, l] fs) := by
  refine ⟨ps_imp (ps_par3 hc hN hi hj hlz hij hil hjl hx hy hz ha.pa hw hs) fun D σ H q => ?_⟩
  obtain ⟨H0, A0, G, ρ, B, o, S, e, k⟩ := q
  obtain ⟨ds, eds, e⟩ := bind2 e
  refine ⟨H0, A0, G, ρ, B, ds, S, eds, fun vs H1 L s1 S1 hL nd p => ?_⟩
  have hl := p.len.1
  match vs, hl with
  | [u, v, w], _ => exact ⟨u, v, w, rfl, par_end (is := [i, j, l]) S.same hO rfl e k S1 hL nd p⟩
/-- any number of names, by a tuple that is taken apart -/
def gNames : List Nat → TGs
  | [] => gNil
  | i :: is => gCons (gName i) (gNames is)
theorem gNames_of {is : List Nat} {vs : List V} {σ : L2.St} {H : Hp} {Q : L2.St → Hp → Prop} (hl : vs.length = is.length) (h : Q (setAll is vs σ) H) : gNames is vs σ H Q := by
  induction is generalizing vs σ with
  | nil =>
    cases vs with
    | nil => exact ⟨rfl, h⟩
    | cons v vs => simp at hl
  | cons i is ih =>
    cases vs with
    | nil => simp at hl
    | cons v vs => exact ⟨v, vs, rfl, ih (by simpa using hl) h⟩
theorem ss_parT (is : List Nat) {tgs : List Expr} {kt k2 : Nat} {pt pt2 : Pos} (ha : SAM X O ms es fs) (hg : PGs X tgs (gNames is)) (hl : is.length = ms.length := by rfl) (hn : (assignEach tgs X.env).length = is.length := by rfl) (hst : (assignEach tgs X.env).findIdx? (·.1) = none := by rfl) (hsz : ms.length ≤ 1000 := by decide)
    (hw : swappedStores [.Tuple tgs kt pt] (.Tuple es k2 pt2) X.env = pure none := by rfl) (hs : swapsWithSole [.Tuple tgs kt pt] (.Tuple es k2 pt2) pos.line X.env = pure false := by rfl) (hc : X.calm = true := by rfl) (hO : ownL is ms O = O' := by rfl)
    (h1 : (assignEach [.Tuple tgs kt pt] X.env).map (·.2) = [assign (.Tuple tgs kt pt) X.env] := by rfl) : SS X O Ob Oc O' (.Assign [.Tuple tgs kt pt] (.Tuple es k2 pt2) pos) (sPar is fs) := by
  refine ⟨ps_imp (ps_asg (pe_tup ha.pa) (pg_tup hc hg hn hst) hs hw h1) fun D σ H q => ?_⟩
  obtain ⟨H0, A0, G, ρ, B, o, S, e, k⟩ := q
  obtain ⟨ds, eds, e⟩ := bind2 e
  refine ⟨H0, A0, G, ρ, B, ds, S, eds, fun vs H1 L s1 S1 hL nd p => ⟨by rw [p.len.1]; exact line1000 hsz, fun t ht => ?_⟩⟩
  have st := same_upd (o := .tup vs) ht
  refine ⟨t, vs, rfl, .of upd_same, by rw [p.len.1, hl], gNames_of (by rw [p.len.1, hl]) (par_end (is := is) S.same hO hl e k (S1.mono st) hL nd (p.mono st))⟩

/-! ### more operators in place -/
theorem iop_addD : OpR X (inplaceOp .Add) (rD X.K .f oAdd') := by
  intro pins s σ H x y v u Q I rx ry ⟨A, dx, dy, d, tr, wx, wy, e, q⟩
  unfold oAdd' at e
  split at e
  · cases e
    exact iop_add pins s σ H x y v u Q I rx ry ⟨_, _, wx.int, wy.int, q _ H (Same.refl H) Res.int⟩
  · cases e
theorem iop_subD : OpR X (inplaceOp .Sub) (rD X.K .f oSub) := by
  intro pins s σ H x y v u Q I rx ry ⟨A, dx, dy, d, tr, wx, wy, e, q⟩
  unfold oSub at e
  split at e
  · cases e
    exact iop_sub pins s σ H x y v u Q I rx ry ⟨_, _, wx.int, wy.int, q _ H (Same.refl H) Res.int⟩
  · cases e
end
end Pm

namespace Pm
open PySem PySem.Spec PyProof.Rows L2

/-! ### a comprehension over two sources -/
def lc2L (g : D → PEnv → Option PEnv) (t : PEnv → Option Bool) (it1 : XL) (g1 : D → PEnv → Option PEnv) (t1 : PEnv → Option Bool) (f : Xp) (vs1 : List Nat) (ρ : PEnv) : List D → Option (List D)
  | [] => some []
  | d :: ds => (g d ρ).bind fun ρ1 => (t ρ1).bind fun b => if b then (it1 ρ1).bind fun es => (lcL g1 t1 f (wipeP ρ1 vs1) es).bind fun ys => (lc2L g t it1 g1 t1 f vs1 ρ ds).bind fun zs => some (ys ++ zs) else lc2L g t it1 g1 t1 f vs1 ρ ds
def xLc2 (it : XL) (g : D → PEnv → Option PEnv) (t : PEnv → Option Bool) (it1 : XL) (g1 : D → PEnv → Option PEnv) (t1 : PEnv → Option Bool) (f : Xp) (own vs1 : List Nat) : Xp := fun ρ => (it ρ).bind fun ds => (lc2L g t it1 g1 t1 f vs1 (wipeP ρ own) ds).bind fun ys => if ys.length ≤ 16777216 then some (.list ys) else none
/-- the guarded cells alone may change -/
theorem Sim.monoG {K : PySem.W.Frag} {H0 H H' : Hp} {A0 : Addr → Prop} {G : List (V × D)} {O : List Nat} {σ : L2.St} {ρ : PEnv} {B : Nat → Option Addr} (S : Sim K H0 A0 G O σ H ρ B) (hk : ∀ a o, H a = some o → ¬ A0 a → H' a = some o) (ht : ∀ a, A0 a → ∃ o, H' a = some o ∧ NT o) (h0 : Same H0 H') : Sim K H0 A0 G O σ H' ρ B := by
  have st : ∀ a o, H a = some o → ¬ Av A0 B a → H' a = some o := fun a o e n => hk a o e fun z => n (.inl z)
  have bA : ∀ i a, B i = some a → ¬ A0 a := fun i a e => (S.fr i a e).2.1
  have kp : ∀ {a : Addr} {d : D} {i : Nat}, B i = some a → Tp K (Av A0 B) H a d → Tp K (Av A0 B) H' a d := fun {a d i} hb h => h.step st (fun _ z => .inl z) fun o e => hk a o e (bA i a hb)
  refine ⟨h0, ht, S.len, S.bo, S.inj, fun i a e => ?_, fun i d hi e mm => ?_, fun i d e => ?_, fun p hp => (S.gs p hp).step st fun _ z => .inl z⟩
  · obtain ⟨h1, h2, o, h3, h4⟩ := S.fr i a e
    exact ⟨h1, h2, o, hk a o h3 h2, h4⟩
  · obtain ⟨a, h1, h2, h3⟩ := S.ob i d hi e mm
    exact ⟨a, h1, h2, kp h1 h3⟩
  · rcases S.slot i d e with ⟨a, h1, h2, h3⟩ | ⟨h1, v, h2, h3⟩
    · exact .inl ⟨a, h1, h2, kp h1 h3⟩
    · exact .inr ⟨h1, v, h2, h3.step st fun _ z => .inl z⟩
section
variable {X : Cx} {O ts us : List Nat} {st : Bool} {m : Md} {tg iter elt tg1 iter1 : Expr} {ifs ifs1 : List Expr} {scope : Scope} {own : List (Str × Nat)} {vs1 : List Nat} {it it1 : XL} {g g1 : D → PEnv → Option PEnv} {t t1 : PEnv → Option Bool} {f : Xp} {pos : Pos}
theorem lc2_of (hm : m ≠ .w) (hts : ∀ i, ts.contains i = true → (own.map (·.2)).contains i = true) (hus : ∀ i, us.contains i = true → vs1.contains i = true) (hO : ∀ i ∈ own.map (·.2), i ∉ O) (hO1 : ∀ i ∈ vs1, i ∉ O) (σ : L2.St) (H : Hp) (Q : VK)
    (q : simT X.K O .f (xLc2 it g t it1 g1 t1 f (own.map (·.2)) vs1) σ H Q) :
    tLc2 (simI X.K O st it) (simG X.K O O ts g) (simTT X.K O t) (simI X.K O true it1) (simG X.K O O us g1) (simTT X.K O t1) (simT X.K O m f) (own.map (·.2)) vs1 σ H Q := by
  obtain ⟨H0, A0, G, ρ, B, d, S, e, k⟩ := q
  obtain ⟨ds, eds, e⟩ := bind2 e
  obtain ⟨ys, eys, e⟩ := bind2 e
  split at e
  rotate_left
  · cases e
  rename_i hys
  cases e
  refine ⟨H0, A0, G, ρ, B, ds, S, eds, fun J H1 gs s1 yl gr hz Dn hD => ?_⟩
  have hts' : ∀ i, ts.contains i = true → i ∉ O := fun i hi => hO i (by simpa using hts i hi)
  have hus' : ∀ i, us.contains i = true → i ∉ O := fun i hi => hO1 i (by simpa using hus i hi)
  have avD : Av (Gd A0 Dn) B Dn := .inl (.inr rfl)
  refine ⟨fun i n Hc => n = ds.length - i ∧ i ≤ ds.length ∧ Same H1 Hc ∧ ∃ vs pre post, Hc Dn = some (.lst vs) ∧ RpL X.K (Av (Gd A0 Dn) B) Hc vs pre ∧ lc2L g t it1 g1 t1 f vs1 (wipeP ρ (own.map (·.2))) (ds.drop i) = some post ∧ ys = pre ++ post,
    ⟨ds.length, rfl, Nat.zero_le _, same_upd hD, [], [], ys, upd_same, .nil, eys, rfl⟩, ?_⟩
  rintro i n Hc ⟨rfl, hi, sc, vs, pre, post, hDc, rpre, epost, eyp⟩
  have Sg : Sim X.K H0 (Gd A0 Dn) G O σ Hc ρ B := (S.mono s1).guard hD sc ⟨_, hDc, NT.lst⟩
  have gw : ∀ p ∈ gs, WRp X.K (Av (Gd A0 Dn) B) Hc p.1 p.2 := fun p hp => (gr p hp).w.step sc fun a z => by
    rcases gd_av z with z | z
    · exact .inl z
    · exact .inr (by rw [z]; exact hD)
  by_cases hlt : i < ds.length
  · have ed : ds[i]? = some ds[i] := List.getElem?_eq_getElem hlt
    rw [List.drop_eq_getElem_cons hlt] at epost
    obtain ⟨hgo, hy⟩ := yl.go _ Hc i _ Sg.tr gw ed
    simp only [lc2L] at epost
    obtain ⟨ρ1, eρ1, epost⟩ := bind2 epost
    obtain ⟨b, eb, epost⟩ := bind2 epost
    refine .inr ⟨hgo, fun H' => i + 1 ≤ ds.length ∧ Same H1 H' ∧ ∃ vs pre' post', H' Dn = some (.lst vs) ∧ RpL X.K (Av (Gd A0 Dn) B) H' vs pre' ∧ lc2L g t it1 g1 t1 f vs1 (wipeP ρ (own.map (·.2))) (ds.drop (i + 1)) = some post' ∧ ys = pre' ++ post', fun H' hN => ?_, fun x H' hx => ?_⟩
    · obtain ⟨h1, h2, h3⟩ := hN
      exact ⟨ds.length - (i + 1), by omega, rfl, h1, h2, h3⟩
    · obtain ⟨s2, rx⟩ := hy x H' hx
      refine ⟨H0, Gd A0 Dn, G, wipeP ρ (own.map (·.2)), B, _, ρ1, (Sg.mono s2).wipe _ hO, rx, eρ1, fun σ2 c2 S2 => ?_⟩
      rw [restr_same Sg hts'] at S2
      refine ⟨wipe_eq c2 hts, H0, Gd A0 Dn, G, ρ1, B, b, S2, eb, fun H3 s3 => ?_⟩
      cases b with
      | true =>
        rw [if_pos rfl]
        rw [if_pos rfl] at epost
        obtain ⟨es, ees, epost⟩ := bind2 epost
        obtain ⟨zs, ezs, epost⟩ := bind2 epost
        obtain ⟨ws, ews, epost⟩ := bind2 epost
        cases epost
        refine ⟨H0, Gd A0 Dn, G, ρ1, B, es, S2.mono s3, ees, fun J1 H4 gs1 s4 yl1 gr1 hz1 => ?_⟩
        have s24 := (s2.trans s3).trans s4
        have hD4 : H4 Dn = some (.lst vs) := s24 _ _ hDc
        have S4 := (S2.mono s3).mono s4
        have hdn : H Dn = none := s1.free hD
        -- the inner loop: the new list is written between its turns
        refine ⟨fun j n Hj => n = es.length - j ∧ j ≤ es.length ∧ (∀ a o, H4 a = some o → ¬ Gd A0 Dn a → Hj a = some o) ∧ Same H1 Hj ∧ ∃ us pre1 post1, Hj Dn = some (.lst us) ∧ RpL X.K (Av (Gd A0 Dn) B) Hj us pre1 ∧ lcL g1 t1 f (wipeP ρ1 vs1) (es.drop j) = some post1 ∧ ys = pre1 ++ (post1 ++ ws) ∧ (∀ a, A0 a → ∃ o, Hj a = some o ∧ NT o),
          ⟨es.length, rfl, Nat.zero_le _, fun a o e _ => e, sc.trans s24, vs, pre, zs, hD4, rpre.mono s24, ezs, eyp, fun a z => S4.a0 a (.inl z)⟩, ?_⟩
        rintro j n Hj ⟨rfl, hj, sj, s1j, us', pre1, post1, hDj, rp1, ep1, ey1, a0j⟩
        have stepj : ∀ a o, H4 a = some o → ¬ Av (Gd A0 Dn) B a → Hj a = some o := fun a o e n => sj a o e fun z => n (.inl z)
        have thr : ∀ a, Gd A0 Dn a → ∃ o, Hj a = some o ∧ NT o := fun a z => by
          rcases z with z | z
          · exact a0j a z
          · rw [z]; exact ⟨_, hDj, NT.lst⟩
        have Sj : Sim X.K H0 (Gd A0 Dn) G O σ2 Hj ρ1 B := S4.monoG sj thr fun a o e => s1j a o (s1 a o (S.same a o e))
        have gw1 : ∀ p ∈ gs1, WRp X.K (Av (Gd A0 Dn) B) Hj p.1 p.2 := fun p hp => .inl ((gr1 p hp : Rp _ _ _ _ _).step stepj fun _ z => .inl z)
        have hysl : ys.length ≤ 16777216 := hys
        by_cases hltj : j < es.length
        · have edj : es[j]? = some es[j] := List.getElem?_eq_getElem hltj
          rw [List.drop_eq_getElem_cons hltj] at ep1
          obtain ⟨hgo1, hy1⟩ := yl1.go _ Hj j _ Sj.tr gw1 edj
          simp only [lcL] at ep1
          obtain ⟨ρ2, eρ2, ep1⟩ := bind2 ep1
          obtain ⟨b1, eb1, ep1⟩ := bind2 ep1
          refine .inr ⟨hgo1, fun H' => j + 1 ≤ es.length ∧ (∀ a o, H4 a = some o → ¬ Gd A0 Dn a → H' a = some o) ∧ Same H1 H' ∧ ∃ us pre1 post1, H' Dn = some (.lst us) ∧ RpL X.K (Av (Gd A0 Dn) B) H' us pre1 ∧ lcL g1 t1 f (wipeP ρ1 vs1) (es.drop (j + 1)) = some post1 ∧ ys = pre1 ++ (post1 ++ ws) ∧ (∀ a, A0 a → ∃ o, H' a = some o ∧ NT o), fun H' hN => ?_, fun x1 H5 hx1 => ?_⟩
          · obtain ⟨h1, h2⟩ := hN
            exact ⟨es.length - (j + 1), by omega, rfl, h1, h2⟩
          · obtain ⟨s5, rx1⟩ := hy1 x1 H5 hx1
            refine ⟨H0, Gd A0 Dn, G, wipeP ρ1 vs1, B, _, ρ2, (Sj.mono s5).wipe _ hO1, rx1, eρ2, fun σ3 c3 S5 => ?_⟩
            rw [restr_same Sj hus'] at S5
            refine ⟨wipe_eq c3 hus, H0, Gd A0 Dn, G, ρ2, B, b1, S5, eb1, fun H6 s6 => ?_⟩
            cases b1 with
            | true =>
              rw [if_pos rfl]
              rw [if_pos rfl] at ep1
              obtain ⟨y, ey, ep1⟩ := bind2 ep1
              obtain ⟨p2, ep2, ep1⟩ := bind2 ep1
              cases ep1
              refine ⟨H0, Gd A0 Dn, G, ρ2, B, y, S5.mono s6, ey, fun v H7 s7 r7 => ?_⟩
              have r7' := r7.toS (S5.mono s6).tr hm
              have s57 := (s5.trans s6).trans s7
              have kp : ∀ a o, H7 a = some o → ¬ Av (Gd A0 Dn) B a → upd H7 Dn (.lst (us' ++ [v])) a = some o := fun a o e n => by
                rw [upd_ne (fun z => n (by rw [z]; exact avD))]
                exact e
              have hne : ∀ a, ¬ Gd A0 Dn a → a ≠ Dn := fun a n z => n (.inr z)
              have hpl : pre1.length < ys.length := by
                rw [ey1]
                simp only [List.length_append, List.length_cons]
                omega
              refine ⟨us', s57 _ _ hDj, ?_, by omega, fun a o e n => ?_, fun a o e => ?_, us' ++ [v], pre1 ++ [y], p2, upd_same, ?_, ep2, by simp [ey1], fun a z => ?_⟩
              · rw [rp1.length]
                have : (16777216 : Nat) = sizeLine := rfl
                omega
              · rw [upd_ne (hne a n)]
                exact s57 _ _ (sj a o e n)
              · have hne : a ≠ Dn := fun z => by rw [z, hD] at e; cases e
                rw [upd_ne hne]
                exact s57 _ _ (s1j _ _ e)
              · exact RpL.app (.one (r7'.step kp fun _ z => .inl z)) ((rp1.mono s57).step kp fun _ z => .inl z)
              · obtain ⟨o, e, nt⟩ := a0j a z
                by_cases ha : a = Dn
                · rw [ha]; exact ⟨_, upd_same, NT.lst⟩
                · exact ⟨o, by rw [upd_ne ha]; exact s57 _ _ e, nt⟩
            | false =>
              rw [if_neg Bool.false_ne_true]
              rw [if_neg Bool.false_ne_true] at ep1
              have s56 := s5.trans s6
              exact ⟨by omega, fun a o e n => s56 _ _ (sj a o e n), s1j.trans s56, us', pre1, post1, s56 _ _ hDj, rp1.mono s56, ep1, ey1, fun a z => let ⟨o, e, nt⟩ := a0j a z; ⟨o, s56 _ _ e, nt⟩⟩
        · have e : j = es.length := by omega
          subst e
          rw [List.drop_length] at ep1
          cases ep1
          exact .inl ⟨yl1.stop _ Hj Sj.tr gw1, by omega, s1j, us', pre1, ws, hDj, rp1, ews, by simpa using ey1⟩
      | false =>
        rw [if_neg Bool.false_ne_true]
        rw [if_neg Bool.false_ne_true] at epost
        have s23 := s2.trans s3
        exact ⟨by omega, sc.trans s23, vs, pre, post, s23 _ _ hDc, rpre.mono s23, epost, eyp⟩
  · have e : i = ds.length := by omega
    subst e
    refine .inl ⟨yl.stop _ Hc Sg.tr gw, ?_⟩
    rw [List.drop_length] at epost
    cases epost
    rw [List.append_nil] at eyp
    subst eyp
    have hHD : H Dn = none := s1.free hD
    refine k _ Hc (s1.trans sc) (.inl ⟨Dn, rfl, hHD, .lst hDc (rpre.anti fun a z => ?_)⟩)
    rcases z with z | z
    · rcases z with z | z
      · exact .inl (.inl z)
      · exact .inr z
    · exact .inl (.inr z)
theorem se_lc2 (hN : X.N.Nodup) (hi : SI X O st tg iter it) (ok : BlkOk X.N X.env.scope scope own) (hg : InBlk X scope fun Y => SG Y O O ts tg g) (ht : InBlk X scope fun Y => STs Y O ifs t) (hi1 : InBlk X scope fun Y => SI Y O true tg1 iter1 it1) (hg1 : InBlk X scope fun Y => SG Y O O us tg1 g1) (ht1 : InBlk X scope fun Y => STs Y O ifs1 t1) (he : InBlk X scope fun Y => SE Y O m elt f)
    (hm : m ≠ .w := by decide) (hv : vs1.all (fun i => (own.map (·.2)).contains i) = true := by rfl) (hts : ts.all (fun i => (own.map (·.2)).contains i) = true := by rfl) (hus : us.all (fun i => vs1.contains i) = true := by rfl) (hO : (own.map (·.2)).all (fun i => !O.contains i) = true := by rfl) (hc : X.calm = true := by rfl) (hs : ∀ x, foldedSetIterable iter X.env x = pure x := by intro _; rfl) (hs1 : ∀ env x, foldedSetIterable iter1 env x = pure x := by intro _ _; rfl) :
    SE X O .f (.ListComp elt [⟨tg, iter, ifs, 0⟩, ⟨tg1, iter1, ifs1, 0⟩] scope pos) (xLc2 it g t it1 g1 t1 f (own.map (·.2)) vs1) := by
  have hv' : ∀ i ∈ vs1, i ∈ own.map (·.2) := fun i hi => by simpa using List.all_eq_true.mp hv i hi
  have hO' : ∀ i ∈ own.map (·.2), i ∉ O := fun i hi => by simpa using List.all_eq_true.mp hO i hi
  exact ⟨pe_imp (pe_lc2 (wi := simI X.K O st it) (g := simG X.K O O ts g) (tt := simTT X.K O t) (wi1 := simI X.K O true it1) (g1 := simG X.K O O us g1) (tt1 := simTT X.K O t1) (te := simT X.K O m f) hc hN hi.pi ok hv' (fun s H C cl fp => (hg s H C cl fp).pg) (fun s H C cl fp => (ht s H C cl fp).pts) (fun s H C cl fp => (hi1 s H C cl fp).pi) (fun s H C cl fp => (hg1 s H C cl fp).pg) (fun s H C cl fp => (ht1 s H C cl fp).pts) (fun s H C cl fp => (he s H C cl fp).pe) hs hs1)
    (lc2_of hm (fun i hi => by simpa using List.all_eq_true.mp hts i (by simpa using hi)) (fun i hi => by simpa using List.all_eq_true.mp hus i (by simpa using hi)) hO' fun i hi => hO' i (hv' i hi))⟩
theorem ss_setLc2 (i : Nat) {y : Str} {py : Pos} {Ob Oc O' : List Nat} {spos : Pos} (hN : X.N.Nodup) (hi : SI X O st tg iter it) (ok : BlkOk X.N X.env.scope scope own) (hg : InBlk X scope fun Y => SG Y O O ts tg g) (ht : InBlk X scope fun Y => STs Y O ifs t) (hi1 : InBlk X scope fun Y => SI Y O true tg1 iter1 it1) (hg1 : InBlk X scope fun Y => SG Y O O us tg1 g1) (ht1 : InBlk X scope fun Y => STs Y O ifs1 t1) (he : InBlk X scope fun Y => SE Y O m elt f)
    (hm : m ≠ .w := by decide) (hy : X.N[i]? = some y := by rfl) (hyl : X.env.scope.names.lookup y = some .local := by rfl) (hsw : swapsWith (.ListComp elt [⟨tg, iter, ifs, 0⟩, ⟨tg1, iter1, ifs1, 0⟩] scope pos) (some (.Name y py)) spos.line X.env = pure true := by exact sw_true rfl rfl rfl (by decide +kernel))
    (hv : vs1.all (fun i => (own.map (·.2)).contains i) = true := by rfl) (hts : ts.all (fun i => (own.map (·.2)).contains i) = true := by rfl) (hus : us.all (fun i => vs1.contains i) = true := by rfl) (hO : (own.map (·.2)).all (fun i => !O.contains i) = true := by rfl) (hc : X.calm = true := by rfl) (hs : ∀ x, foldedSetIterable iter X.env x = pure x := by intro _; rfl) (hs1 : ∀ env x, foldedSetIterable iter1 env x = pure x := by intro _ _; rfl) (hO2 : i :: O = O' := by rfl) :
    SS X O Ob Oc O' (.Assign [.Name y py] (.ListComp elt [⟨tg, iter, ifs, 0⟩, ⟨tg1, iter1, ifs1, 0⟩] scope pos) spos) (sSet i (xLc2 it g t it1 g1 t1 f (own.map (·.2)) vs1)) := by
  subst hO2
  have hv' : ∀ i ∈ vs1, i ∈ own.map (·.2) := fun i hi => by simpa using List.all_eq_true.mp hv i hi
  have hO' : ∀ i ∈ own.map (·.2), i ∉ O := fun i hi => by simpa using List.all_eq_true.mp hO i hi
  refine ⟨ps_imp (ps_setLc2 (wi := simI X.K O st it) (g := simG X.K O O ts g) (tt := simTT X.K O t) (wi1 := simI X.K O true it1) (g1 := simG X.K O O us g1) (tt1 := simTT X.K O t1) (te := simT X.K O m f) hc hN hy hyl hsw hi.pi ok hv' (fun s H C cl fp => (hg s H C cl fp).pg) (fun s H C cl fp => (ht s H C cl fp).pts) (fun s H C cl fp => (hi1 s H C cl fp).pi) (fun s H C cl fp => (hg1 s H C cl fp).pg) (fun s H C cl fp => (ht1 s H C cl fp).pts) (fun s H C cl fp => (he s H C cl fp).pe) hs hs1) fun D σ H q => ?_⟩
  exact lc2_of hm (fun i hi => by simpa using List.all_eq_true.mp hts i (by simpa using hi)) (fun i hi => by simpa using List.all_eq_true.mp hus i (by simpa using hi)) hO' (fun i hi => hO' i (hv' i hi)) σ H _ (setf_of σ H q)
end
end Pm

namespace Pm
open PySem PySem.Spec PyProof.Rows L2

/-! ### dicts whose keys are ints -/
def isKeyI (i : Int) : D → Bool
  | .int j => j == i
  | _ => false
def dGetD (kd : List (D × D)) (i : Int) : Option D := (kd.find? fun p => isKeyI i p.1).map (·.2)
def dHasD (kd : List (D × D)) (i : Int) : Bool := kd.any fun p => isKeyI i p.1
def dPutD (kd : List (D × D)) (i : Int) (v : D) : List (D × D) := if dHasD kd i then kd.map (fun p => if isKeyI i p.1 then (p.1, v) else p) else kd ++ [(.int i, v)]
theorem keyD_is (k : Key) (i : Int) : isKeyI i (keyD k) = decide (k = Sum.inl i) := by
  cases k with
  | inl j =>
    simp only [keyD, isKeyI]
    by_cases h : j = i <;> simp [h]
  | inr s => simp [keyD, isKeyI]
section
variable {K : PySem.W.Frag} {A : Addr → Prop} {H : Hp}
theorem dget_some {i : Int} {d : D} : ∀ {ks : List (Key × V)} {ds : List D}, RpL K A H (ks.map (·.2)) ds → dGetD ((ks.map fun p => keyD p.1).zip ds) i = some d → ∃ v, valV ks (Sum.inl i) = some v ∧ Rp K A H v d
  | [], ds, r, e => by simp [dGetD] at e
  | (k, v) :: ks, ds, r, e => by
    cases r with
    | cons h r =>
      simp only [dGetD, List.map_cons, List.zip_cons_cons, List.find?_cons, keyD_is] at e
      by_cases hk : k = Sum.inl i
      · rw [decide_eq_true hk] at e
        cases e
        exact ⟨v, valV_pos hk, h⟩
      · rw [decide_eq_false hk] at e
        obtain ⟨w, e1, e2⟩ := dget_some r e
        exact ⟨w, by rw [valV_neg hk]; exact e1, e2⟩
theorem dhas_eq {i : Int} : ∀ {ks : List (Key × V)} {ds : List D}, RpL K A H (ks.map (·.2)) ds → dHasD ((ks.map fun p => keyD p.1).zip ds) i = (valV ks (Sum.inl i)).isSome
  | [], ds, r => by cases r; rfl
  | (k, v) :: ks, ds, r => by
    cases r with
    | cons h r =>
      simp only [dHasD, List.map_cons, List.zip_cons_cons, List.any_cons, keyD_is]
      by_cases hk : k = Sum.inl i
      · rw [decide_eq_true hk, valV_pos hk]
        rfl
      · rw [decide_eq_false hk, valV_neg hk, Bool.false_or]
        exact dhas_eq r
theorem dput_map {i : Int} {v : V} {d : D} (hv : Rp K A H v d) : ∀ {ks : List (Key × V)} {ds : List D}, RpL K A H (ks.map (·.2)) ds → ∃ ds', RpL K A H ((ks.map fun kv => if kv.1 = Sum.inl i then (kv.1, v) else kv).map (·.2)) ds' ∧
    ((ks.map fun p => keyD p.1).zip ds).map (fun p => if isKeyI i p.1 then (p.1, d) else p) = ((ks.map fun kv => if kv.1 = Sum.inl i then (kv.1, v) else kv).map fun p => keyD p.1).zip ds'
  | [], ds, r => by cases r; exact ⟨[], .nil, rfl⟩
  | (k, w) :: ks, ds, r => by
    cases r with
    | @cons _ _ d0 ds0 h r =>
      obtain ⟨ds', r', e⟩ := dput_map hv r
      simp only [List.map_cons, List.zip_cons_cons, keyD_is]
      by_cases hk : k = Sum.inl i
      · refine ⟨d :: ds', ?_, ?_⟩
        · rw [if_pos hk]; exact .cons hv r'
        · rw [if_pos hk, decide_eq_true hk, if_pos rfl, e]; rfl
      · refine ⟨d0 :: ds', ?_, ?_⟩
        · rw [if_neg hk]; exact .cons h r'
        · rw [if_neg hk, decide_eq_false hk, if_neg Bool.false_ne_true, e]; rfl
theorem dput_ok {i : Int} {v : V} {d : D} (hv : Rp K A H v d) {ks : List (Key × V)} {ds : List D} (r : RpL K A H (ks.map (·.2)) ds) : ∃ ds', RpL K A H ((putK ks (Sum.inl i) v).map (·.2)) ds' ∧
    dPutD ((ks.map fun p => keyD p.1).zip ds) i d = ((putK ks (Sum.inl i) v).map fun p => keyD p.1).zip ds' := by
  unfold dPutD putK
  rw [dhas_eq r, valV_any]
  by_cases hh : (valV ks (Sum.inl i)).isSome = true
  · rw [if_pos hh, if_pos hh]
    exact dput_map hv r
  · rw [if_neg hh, if_neg hh]
    refine ⟨ds ++ [d], ?_, ?_⟩
    · rw [List.map_append]
      exact RpL.app (.one hv) r
    · rw [List.map_append]
      have hl : (ks.map fun p => keyD p.1).length = ds.length := by
        have := r.length
        simpa using this
      rw [List.zip_append hl]
      rfl
/-- a value that stands for a dict -/
theorem WRp.dict {v : V} {kd : List (D × D)} (h : WRp K A H v (.dict kd)) (hs : ∀ xs, kd ≠ [(.none, .list xs)]) : ∃ a ks ds, v = .ref a ∧ H a = some (.dK ks) ∧ RpL K A H (ks.map (·.2)) ds ∧ kd = (ks.map fun p => keyD p.1).zip ds := by
  rcases h with h | ⟨a, e, h⟩
  · cases h with
    | scr h n r => exact absurd rfl (hs _)
    | kl h r => exact absurd rfl (hs _)
    | dic h n r e => exact ⟨_, _, _, rfl, h, r, e⟩
  · cases h with
    | dic h r z => exact ⟨_, _, _, e, h, r, z⟩
end
def oIxK : D → D → Option D
  | .dict kd, .int i => if (kd.any fun p => isNone p.1) then none else dGetD kd i
  | _, _ => none
def oInK : D → D → Option D
  | .int i, .dict kd => if (kd.any fun p => isNone p.1) then none else some (.bool (dHasD kd i))
  | _, _ => none
def oNotInK : D → D → Option D
  | .int i, .dict kd => if (kd.any fun p => isNone p.1) then none else some (.bool (!dHasD kd i))
  | _, _ => none
theorem no_scr {kd : List (D × D)} (h : ¬ (kd.any fun p => isNone p.1) = true) : ∀ xs, kd ≠ [(.none, .list xs)] := fun xs e => by
  subst e
  exact h rfl
section
variable {X : Cx} {O Ob Oc : List Nat} {m ma mb : Md} {k : Nat} {a b e : Expr} {fa fb f : Xp} {pos p1 p2 : Pos}
theorem hu1 {A : Around} (hr : Room k A) : A.units + 1 < cLine := by have := hr.un; omega
theorem se_new : SE X O .f (.Dict [] [] pos) (xC (.dict [])) := by
  refine ⟨pe_imp pe_dnewK fun σ H Q q => ?_⟩
  obtain ⟨H0, A0, G, ρ, B, d, S, e, k⟩ := q
  cases e
  exact fun p hp => k _ _ (same_upd hp) (.inl ⟨p, rfl, hp, .dic (ks := []) (ds := []) upd_same .nil rfl⟩)
theorem se_dget (hr : Room k X.A) (ha : SE X O ma a fa) (hb : SE X O mb b fb) (hs : NoSl b := by exact fun _ _ => rfl) : SE X O .s (.Subscript a b pos) (xBin oIxK fa fb) := by
  refine ⟨pe_imp (pe_dget (hu1 hr) ha.pe hb.pe hs) fun σ H Q q => ?_⟩
  obtain ⟨H0, A0, G, ρ, B, d, S, e, k⟩ := q
  obtain ⟨x, ex, e⟩ := bind2 e
  obtain ⟨y, ey, e⟩ := bind2 e
  refine ⟨H0, A0, G, ρ, B, x, S, ex, fun v H1 s1 r1 => ⟨H0, A0, G, ρ, B, y, S.mono s1, ey, fun u H2 s2 r2 => ?_⟩⟩
  unfold oIxK at e
  split at e
  · split at e
    · cases e
    · rename_i hn
      obtain ⟨t, ks, ds, rfl, ht, rt, ek⟩ := (r1.toW.mono s2).dict (no_scr hn)
      rw [ek] at e
      obtain ⟨w, ew, rw'⟩ := dget_some rt e
      exact ⟨t, w, rfl, by rw [← ew, r2.toW.int]; exact DGet.k (k := Sum.inl _) ht, k _ H2 (s1.trans s2) rw'⟩
  · cases e
theorem se_dset_dummy : True := trivial
theorem tIn_of {g : D → D → Option D} (σ : L2.St) (H : Hp) (Q : VK) (hg : ∀ x y z, g x y = some z → ∃ i kd, x = .int i ∧ y = .dict kd ∧ ¬ (kd.any fun p => isNone p.1) = true ∧ z = .bool (dHasD kd i)) (q : simT X.K O .f (xBin g fa fb) σ H Q) : tDIn (simT X.K O ma fa) (simT X.K O mb fb) σ H Q := by
  obtain ⟨H0, A0, G, ρ, B, d, S, e, k⟩ := q
  obtain ⟨x, ex, e⟩ := bind2 e
  obtain ⟨y, ey, e⟩ := bind2 e
  obtain ⟨i, kd, rfl, rfl, hn, rfl⟩ := hg _ _ _ e
  refine ⟨H0, A0, G, ρ, B, _, S, ex, fun v H1 s1 r1 => ⟨H0, A0, G, ρ, B, _, S.mono s1, ey, fun u H2 s2 r2 => ?_⟩⟩
  obtain ⟨t, ks, ds, rfl, ht, rt, ek⟩ := r2.toW.dict (no_scr hn)
  refine ⟨t, valV ks (Sum.inl i), rfl, by rw [r1.toW.int]; exact DGet.k (k := Sum.inl _) ht, k _ H2 (s1.trans s2) ?_⟩
  rw [ek, dhas_eq rt]
  exact Res.bl
theorem tNotIn_of {g : D → D → Option D} (σ : L2.St) (H : Hp) (Q : VK) (hg : ∀ x y z, g x y = some z → ∃ i kd, x = .int i ∧ y = .dict kd ∧ ¬ (kd.any fun p => isNone p.1) = true ∧ z = .bool (!dHasD kd i)) (q : simT X.K O .f (xBin g fa fb) σ H Q) : tDNotIn (simT X.K O ma fa) (simT X.K O mb fb) σ H Q := by
  obtain ⟨H0, A0, G, ρ, B, d, S, e, k⟩ := q
  obtain ⟨x, ex, e⟩ := bind2 e
  obtain ⟨y, ey, e⟩ := bind2 e
  obtain ⟨i, kd, rfl, rfl, hn, rfl⟩ := hg _ _ _ e
  refine ⟨H0, A0, G, ρ, B, _, S, ex, fun v H1 s1 r1 => ⟨H0, A0, G, ρ, B, _, S.mono s1, ey, fun u H2 s2 r2 => ?_⟩⟩
  obtain ⟨t, ks, ds, rfl, ht, rt, ek⟩ := r2.toW.dict (no_scr hn)
  refine ⟨t, valV ks (Sum.inl i), rfl, by rw [r1.toW.int]; exact DGet.k (k := Sum.inl _) ht, k _ H2 (s1.trans s2) ?_⟩
  rw [ek, dhas_eq rt]
  exact Res.bl
theorem inK_shape {x y z : D} (h : oInK x y = some z) : ∃ i kd, x = .int i ∧ y = .dict kd ∧ ¬ (kd.any fun p => isNone p.1) = true ∧ z = .bool (dHasD kd i) := by
  unfold oInK at h
  split at h
  · split at h
    · cases h
    · rename_i hn
      cases h
      exact ⟨_, _, rfl, rfl, hn, rfl⟩
  · cases h
theorem notInK_shape {x y z : D} (h : oNotInK x y = some z) : ∃ i kd, x = .int i ∧ y = .dict kd ∧ ¬ (kd.any fun p => isNone p.1) = true ∧ z = .bool (!dHasD kd i) := by
  unfold oNotInK at h
  split at h
  · split at h
    · cases h
    · rename_i hn
      cases h
      exact ⟨_, _, rfl, rfl, hn, rfl⟩
  · cases h
theorem se_din (hr : Room k X.A) (ha : SE X O ma a fa) (hb : SE X O mb b fb) (hm : behindInMarks .In b = false := by rfl) : SE X O .f (.Compare a [.In] [b] pos) (xBin oInK fa fb) := ⟨pe_imp (pe_cmp (pc_din (hu1 hr) ha.pe hb.pe) hm) fun σ H Q q => tIn_of σ H Q (fun _ _ _ => inK_shape) q⟩
theorem se_dnotin (hr : Room k X.A) (ha : SE X O ma a fa) (hb : SE X O mb b fb) (hm : behindInMarks .NotIn b = false := by rfl) : SE X O .f (.Compare a [.NotIn] [b] pos) (xBin oNotInK fa fb) := ⟨pe_imp (pe_cmp (pc_dnotin (hu1 hr) ha.pe hb.pe) hm) fun σ H Q q => tNotIn_of σ H Q (fun _ _ _ => notInK_shape) q⟩
theorem tB_of {g : D → D → Option D} {t : TE} (σ : L2.St) (H : Hp) (Q : Bool → Hp → Prop) (ht : ∀ Q, simT X.K O .f (xBin g fa fb) σ H Q → t σ H Q) (q : simTT X.K O (tOf (xBin g fa fb)) σ H Q) : tB t σ H Q := by
  obtain ⟨H0, A0, G, ρ, B, b, S, e, k⟩ := q
  obtain ⟨d, ed, e⟩ := bind2 e
  have := dB_some e
  subst this
  exact ht _ ⟨H0, A0, G, ρ, B, _, S, ed, fun v H' s r => ⟨b, r.toW.bl, k H' s⟩⟩
theorem st_din (hr : Room k X.A) (ha : SE X O ma a fa) (hb : SE X O mb b fb) (hm : behindInMarks .In b = false := by rfl) : ST X O (.Compare a [.In] [b] pos) (tOf (xBin oInK fa fb)) := ⟨pt_imp (pt_cmp (pc_din (hu1 hr) ha.pe hb.pe) hm) fun σ H Q q => tB_of σ H Q (fun Q q => tIn_of σ H Q (fun _ _ _ => inK_shape) q) q⟩
theorem st_dnotin (hr : Room k X.A) (ha : SE X O ma a fa) (hb : SE X O mb b fb) (hm : behindInMarks .NotIn b = false := by rfl) : ST X O (.Compare a [.NotIn] [b] pos) (tOf (xBin oNotInK fa fb)) := ⟨pt_imp (pt_cmp (pc_dnotin (hu1 hr) ha.pe hb.pe) hm) fun σ H Q q => tB_of σ H Q (fun Q q => tNotIn_of σ H Q (fun _ _ _ => notInK_shape) q) q⟩
/-- x[j] = e, a dict -/
def sPutK (i : Nat) (fj f : Xp) : XS := fun ρ => (f ρ).bind fun y => (xVar i ρ).bind fun x => (fj ρ).bind fun j => match x, j with
  | .dict kd, .int j => if kd.length < 16777216 ∧ i < ρ.length then some (.nx (ρ.set i (some (.dict (dPutD kd j y))))) else none
  | _, _ => none
theorem ownK_of {K : PySem.W.Frag} {H0 H : Hp} {A0 : Addr → Prop} {G : List (V × D)} {σ : L2.St} {ρ : PEnv} {B : Nat → Option Addr} {i : Nat} {kd : List (D × D)} (S : Sim K H0 A0 G O σ H ρ B) (hi : O.contains i = true) (e : xVar i ρ = some (.dict kd)) : ∃ a ks ds, B i = some a ∧ σ[i]? = some (some (.ref a)) ∧ H a = some (.dK ks) ∧ RpL K (Av A0 B) H (ks.map (·.2)) ds ∧ kd = (ks.map fun p => keyD p.1).zip ds := by
  obtain ⟨a, h1, h2, h3⟩ := S.ob i _ (by simpa using hi) (getD_some e) rfl
  cases h3 with
  | dic h r z => exact ⟨a, _, _, h1, h2, h, r, z⟩
theorem ss_putK (i : Nat) {x : Str} {j : Expr} {fj : Xp} (hr : Room k X.A) (he : SE X O m e f) (hj : SE X O mb j fj) (hm : m ≠ .w := by decide) (hO : O.contains i = true := by rfl) (hN : X.N[i]? = some x := by rfl) (hv : Vis X.env.scope x := by first | exact Or.inl rfl | exact Or.inr (Or.inl rfl) | exact Or.inr (Or.inr rfl))
    (hd : (x == ("__debug__" : Str)) = false := by decide) (hcd : (x == ("__classdict__" : Str)) = false := by decide) (hs : swapsWith e (some (.Subscript (.Name x p1) j p2)) pos.line X.env = pure false := by rfl) : SS X O Ob Oc O (.Assign [.Subscript (.Name x p1) j p2] e pos) (sPutK i fj f) := by
  refine ⟨ps_imp (ps_dput (hu1 hr) (pe_var hN hv hd hcd) hj.pe he.pe hs) fun D σ H q => ?_⟩
  obtain ⟨H0, A0, G, ρ, B, o, S, e, k⟩ := q
  obtain ⟨y, ey, e⟩ := bind2 e
  obtain ⟨d, ed, e⟩ := bind2 e
  obtain ⟨z, ez, e⟩ := bind2 e
  split at e
  · split at e
    · rename_i hz
      cases e
      obtain ⟨a, ks, ds, hB, hσ, ha, ra, ek⟩ := ownK_of S hO ed
      refine ⟨H0, A0, G, ρ, B, y, S, ey, fun v H1 s1 r1 => ⟨.ref a, hσ, H0, A0, G, ρ, B, _, S.mono s1, ez, fun u H2 s2 r2 => ?_⟩⟩
      have s12 := s1.trans s2
      have S1 := S.mono s12
      have av : Av A0 B a := .inr ⟨i, hB⟩
      have hlen : ks.length < sizeLine := by
        have e1 : ks.length = ds.length := by simpa using ra.length
        have e2 := hz.1
        rw [ek, List.length_zip, List.length_map, e1, Nat.min_self] at e2
        rw [e1]
        exact e2
      obtain ⟨ds', r', e'⟩ := dput_ok (i := _) ((r1.toS S.tr hm).mono s2) (ra.mono s12)
      refine ⟨a, _, rfl, by rw [r2.toW.int]; exact DPut.k (k := Sum.inl _) (s12 _ _ ha) hlen, ?_⟩
      rw [ek] at k
      refine k _ _ B (S1.write hB hσ (.dic upd_same (r'.step (fun b o e n => ?_) fun _ z => .inl z) e') hz.2)
      rw [upd_ne (fun z => n (by rw [z]; exact av))]
      exact e
    · cases e
  · cases e

/-! ### the least and the greatest of ints -/
def bMinI : List D → Option D
  | [x] => (seqD x).bind fun xs => (asInts xs).bind fun ns => ns.min?.map .int
  | _ => none
def bMaxI : List D → Option D
  | [x] => (seqD x).bind fun xs => (asInts xs).bind fun ns => ns.max?.map .int
  | _ => none
theorem cb_minI (hc : X.calm = true := by rfl) : CallR X (.builtin "min") (rC X.K .f bMinI) := by
  intro pins s σ H vs us Q I r ⟨A, ds, d, tr, w, e, q⟩
  unfold bMinI at e
  split at e
  · obtain ⟨v, rfl, w1⟩ := p1 w
    obtain ⟨xs, e1, e⟩ := bind2 e
    obtain ⟨ns, e2, e⟩ := bind2 e
    obtain ⟨mn, e3, e⟩ := Option.map_eq_some_iff.mp e
    subst e
    obtain ⟨a, vs, rfl, ha, ra⟩ := w1.seq e1
    rw [ref1 r]
    have hv := ra.ints e2
    subst hv
    refine call_min_walk (sq_iter (show X.A.in1.handled = none from I.ok.hd hc) I ha fun its J fp wr St h₂ rv W st hfp kp => ?_)
    have hl := rv.length
    rw [List.length_map] at hl
    have hne : 0 < ns.length := by
      cases ns with
      | nil => simp at e3
      | cons _ _ => simp
    refine ⟨_, _, _, _, _, _, _, rfl, W, st, hfp, by omega, CmpOf.ints_lt (fun i => ns.getD i 0) (fun i v h => intsAt rv i v h), fun v h' tk hv hk => ?_⟩
    obtain ⟨t, rfl⟩ := intsAt rv _ _ hv
    obtain ⟨b1, b2⟩ := argBest_lt (fun i => ns.getD i 0) (its.length - 1)
    refine ⟨.int mn, H, I.kept (kp h' hk), ⟨t, ?_⟩, q _ H (Same.refl H) Res.int⟩
    congr 1
    rw [List.min?_eq_some_iff] at e3
    refine Int.le_antisymm ?_ ?_
    · obtain ⟨i, hi, e4⟩ := List.mem_iff_getElem.mp e3.1
      have := b2 i (by omega)
      simp only [List.getD_eq_getElem?_getD, List.getElem?_eq_getElem hi, Option.getD_some] at this
      rw [e4] at this
      simpa [List.getD_eq_getElem?_getD] using this
    · have hb : argBest (fun i j => decide (ns.getD i 0 < ns.getD j 0)) (its.length - 1) < ns.length := by
        have h1 : argBest (fun i j => decide (ns.getD i 0 < ns.getD j 0)) (its.length - 1) ≤ its.length - 1 := b1
        omega
      exact e3.2 _ (by rw [List.getD_eq_getElem?_getD, List.getElem?_eq_getElem hb]; exact List.getElem_mem hb)
  · cases e
end
end Pm

namespace Pm
open PySem PySem.Spec PyProof.Rows L2
/-! ### a def behind the top -/
abbrev FnP (K : PySem.W.Frag) (x : Str) (st : Stmt) (f : Addr) (fd : FuncData) : Prop := FunD K x x (defArgs st) (defBody st) (defScope st) [] [] f fd
theorem fnp_ok {P : Program} {w : World} {K : PySem.W.Frag} {mg : Str → Option Value} {base : Heap} {x : Str} {st : Stmt} {f : Addr} {fd : FuncData} {N ps : List Str} {k : Nat} {O' : List Nat} {g : XS} (F : FnP K x st f fd) (S : FnScope N ps (defScope st))
    (hb : ∀ (cdv : Value) (A : Around) (outer : List Env) (s : Shared) (H : Hp) (E : XK), Room k (A.deeper (envOfC x (defScope st) s.heap.objs.size f cdv)) → SSs (cxOf CX0 P w K mg base N x (defScope st) f cdv A outer s H E).nox [] [] [] O' (defBody st) g) :
    FnOk P w K mg base CX0 (k + 1) f fd ps (spD K ps.length (runD ps.length N.length g)) := by
  refine F.ok S (fun vs H Q E h => ?_) (fun cdv A outer s H vs Q E hr h => ?_)
  · obtain ⟨A, ds, d, t, hn, _⟩ := h
    exact hn
  · obtain ⟨A', ds, d, t, hn, r, e, q⟩ := h
    obtain ⟨o, eo, e⟩ := bind2 e
    refine ⟨_, PSs.nox (hb cdv A outer s H E hr).pss, H, A', [], _, fun _ => none, o, sim_start t r hn, eo, ?_⟩
    cases o with
    | nx ρ => cases e; exact fun σ' H' B' S' => q .non H' S'.same .non
    | rt d' => cases e; exact fun v H' s' r' => q v H' s' r'
    | bk ρ => cases e
    | ct ρ => cases e
/-- a def that is never called keeps every promise -/
theorem fn_none {P : Program} {w : World} {K : PySem.W.Frag} {mg : Str → Option Value} {base : Heap} {x : Str} {st : Stmt} {f : Addr} {fd : FuncData} {N ps : List Str} {k : Nat} (F : FnP K x st f fd) (S : FnScope N ps (defScope st)) : FnOk P w K mg base CX0 (k + 1) f fd ps (spD K ps.length fun _ => none) := by
  refine F.ok S (fun vs H Q E h => ?_) (fun cdv A outer s H vs Q E hr h => ?_)
  · obtain ⟨A, ds, d, t, hn, _⟩ := h
    exact hn
  · obtain ⟨A', ds, d, t, hn, r, e, q⟩ := h
    cases e
theorem rpl_ints {K : PySem.W.Frag} {A : Addr → Prop} {H : Hp} : ∀ ns : List Int, RpL K A H (ns.map V.int) (ns.map PyData.int)
  | [] => .nil
  | n :: ns => .cons (.int n) (rpl_ints ns)
/-- what the end asks of the law's def -/
theorem sp_law {K : PySem.W.Frag} {F : List D → Option D} {n : Nat} (hF : ∀ ns : List Int, ns.length ≤ n → F [scr (ns.map PyData.int)] = some (.bool true)) (H : Hp) (a : Addr) (ns : List Int) (hl : ns.length ≤ n) (_ : Only H) (hS : SqL K H a (ns.map V.int)) :
    spD K 1 F [.ref a] H (fun v _ => v = .bl true) fun _ _ _ => False := by
  refine ⟨fun _ => False, [scr (ns.map PyData.int)], .bool true, fun _ z => z.elim, rfl, .cons ?_ .nil, hF ns hl, fun v H' s r => ?_⟩
  · rcases hS with h | h
    · exact .scr h id (rpl_ints ns)
    · exact .kl h (rpl_ints ns)
  · cases r
    rfl
end Pm

/-! Pm: ranges laid out at once. -/
namespace Pm
open PySem PySem.Spec PyProof.Rows L2
def oRgT (lo hi : Int) : Option (List D) := if -(2 ^ 62) ≤ lo ∧ lo < 2 ^ 62 ∧ -(2 ^ 62) ≤ hi ∧ hi < 2 ^ 62 ∧ (hi - lo).toNat ≤ 2 ^ 24 then some (rangeD lo 1 (hi - lo).toNat) else none
def oTupR1 : D → Option D
  | .int n => (oRgT 0 n).map .tuple
  | _ => none
def oLstR1 : D → Option D
  | .int n => (oRgT 0 n).map .list
  | _ => none
def oTupR2 : D → D → Option D
  | .int a, .int n => (oRgT a n).map .tuple
  | _, _ => none
def oLstR2 : D → D → Option D
  | .int a, .int n => (oRgT a n).map .list
  | _, _ => none
theorem rpl_rg {K : PySem.W.Frag} {A : Addr → Prop} {H : Hp} (a b : Int) : RpL K A H (rgV a b) (rangeD a 1 (b - a).toNat) := by
  unfold rgV rangeD
  induction List.range (b - a).toNat with
  | nil => exact .nil
  | cons i r ih =>
    refine .cons ?_ ih
    have e : a + (i : Nat) * 1 = a + (i : Nat) := by rw [Int.mul_one]
    show Rp K A H (V.int (a + (i : Nat))) (PyData.int (a + (i : Nat) * 1))
    rw [e]
    exact .int _
section
variable {X : Cx} {O : List Nat} {m m' : Md} {a b : Expr} {fa fb : Xp} {p p2 pos pos2 : Pos}
theorem se_tupR1 (h1 : X.mg "tuple" = none) (h2 : X.mg "range" = none) (ha : SE X O m a fa) (hc : X.calm = true := by rfl) (hg : L2.Gl X "tuple" := by rfl) (hg2 : L2.Gl X "range" := by rfl) (na : starEach [a] X.env = (false, eval a X.env) :: starEach [] X.env := by rfl)
    (na2 : starEach [Expr.Call (.Name "range" p) [a] [] pos] X.env = (false, eval (Expr.Call (.Name "range" p) [a] [] pos) X.env) :: starEach [] X.env := by rfl) : SE X O .f (.Call (.Name "tuple" p2) [.Call (.Name "range" p) [a] [] pos] [] pos2) (xUn oTupR1 fa) := by
  refine ⟨pe_imp (pe_tupRg hc hg h1 (prg_1 hg2 h2 ha.pe na) na2) fun σ H Q q => ?_⟩
  obtain ⟨H0, A0, G, ρ, B, d, S, e, k⟩ := q
  obtain ⟨y, ey, e⟩ := bind2 e
  refine ⟨H0, A0, G, ρ, B, y, S, ey, fun v H1 s1 r1 => ?_⟩
  unfold oTupR1 at e
  split at e
  · obtain ⟨ds, e1, e⟩ := Option.map_eq_some_iff.mp e
    subst e
    unfold oRgT at e1
    split at e1
    · rename_i hz
      cases e1
      exact ⟨_, r1.toW.int, ⟨hz.1, hz.2.1, hz.2.2.1, hz.2.2.2.1, hz.2.2.2.2⟩, fun q hq => k _ _ (s1.trans (same_upd hq)) (Res.flat (Rp.newT (S.mono s1).tr hq (rpl_rg _ _)) rfl)⟩
    · cases e1
  · cases e
theorem se_lstR1 (h1 : X.mg "list" = none) (h2 : X.mg "range" = none) (ha : SE X O m a fa) (hc : X.calm = true := by rfl) (hg : L2.Gl X "list" := by rfl) (hg2 : L2.Gl X "range" := by rfl) (na : starEach [a] X.env = (false, eval a X.env) :: starEach [] X.env := by rfl)
    (na2 : starEach [Expr.Call (.Name "range" p) [a] [] pos] X.env = (false, eval (Expr.Call (.Name "range" p) [a] [] pos) X.env) :: starEach [] X.env := by rfl) : SE X O .f (.Call (.Name "list" p2) [.Call (.Name "range" p) [a] [] pos] [] pos2) (xUn oLstR1 fa) := by
  refine ⟨pe_imp (pe_listRg hc hg h1 (prg_1 hg2 h2 ha.pe na) na2) fun σ H Q q => ?_⟩
  obtain ⟨H0, A0, G, ρ, B, d, S, e, k⟩ := q
  obtain ⟨y, ey, e⟩ := bind2 e
  refine ⟨H0, A0, G, ρ, B, y, S, ey, fun v H1 s1 r1 => ?_⟩
  unfold oLstR1 at e
  split at e
  · obtain ⟨ds, e1, e⟩ := Option.map_eq_some_iff.mp e
    subst e
    unfold oRgT at e1
    split at e1
    · rename_i hz
      cases e1
      exact ⟨_, r1.toW.int, ⟨hz.1, hz.2.1, hz.2.2.1, hz.2.2.2.1, hz.2.2.2.2⟩, fun q hq => k _ _ (s1.trans (same_upd hq)) (Res.newL (S.mono s1).tr hq (rpl_rg _ _) s1)⟩
    · cases e1
  · cases e
end
section
variable {X : Cx} {O : List Nat} {e : Expr} {es : List Expr} {fs : XL} {pos p : Pos} {k j : Nat} {x : Str} {ps : List Str} {F : List D → Option D} {P : Program} {w : World} {K : PySem.W.Frag} {mg : Str → Option Value} {base : Heap} {A : Around}
/-- a call of a def of the text, the context's parts by name -/
theorem se_callD (hd : Def P w K mg base k x ps F) (hr : Room j A) (ha : SA X O true (e :: es) fs) (hk : k ≤ j := by decide) (hX : X.prog = P ∧ X.w = w ∧ X.K = K ∧ X.mg = mg ∧ X.base = base ∧ X.A = A := by exact ⟨rfl, rfl, rfl, rfl, rfl, rfl⟩) (hl : (e :: es).length = ps.length := by rfl) (hg : L2.Gl X x := by rfl) (hdb : (x == ("__debug__" : Str)) = false := by decide)
    (he : starEach (e :: es) X.env = (false, eval e X.env) :: starEach es X.env := by rfl) (hpl : (backTo pos (starEach es X.env)).any (·.1) = false := by rfl) : SE X O .s (.Call (.Name x p) (e :: es) [] pos) (xCall (fun ds => if ds.length = ps.length then F ds else none) fs) := by
  obtain ⟨rfl, rfl, rfl, rfl, rfl, rfl⟩ := hX
  exact se_call hd hr ha hk hl hg hdb he hpl
theorem se_callWD (hd : Def P w K mg base k x ps F) (hr : Room j A) (ha : SA X O false (e :: es) fs) (hk : k ≤ j := by decide) (hX : X.prog = P ∧ X.w = w ∧ X.K = K ∧ X.mg = mg ∧ X.base = base ∧ X.A = A := by exact ⟨rfl, rfl, rfl, rfl, rfl, rfl⟩) (hg : L2.Gl X x := by rfl) (hdb : (x == ("__debug__" : Str)) = false := by decide)
    (he : starEach (e :: es) X.env = (false, eval e X.env) :: starEach es X.env := by rfl) (hpl : (backTo pos (starEach es X.env)).any (·.1) = false := by rfl) : SE X O .f (.Call (.Name x p) (e :: es) [] pos) (xCall (fun ds => if ds.length = ps.length then (F ds).bind fun d => if flat d then some d else none else none) fs) := by
  obtain ⟨rfl, rfl, rfl, rfl, rfl, rfl⟩ := hX
  exact se_callW hd hr ha hk hg hdb he hpl
end
end Pm

/-! Pm: a tuple taken once. -/
namespace Pm
open PySem PySem.Spec PyProof.Rows L2
theorem tuple_mul1 (l : Addr) (items : Array Value) (n : Nat) (dd : Option Addr) (sl : Array (Option Value)) (x : Int) (u : Tok) (c0 : (decide (x < -(2 ^ 63)) || decide (x ≥ 2 ^ 63)) = false) (c1 : (items.isEmpty || x == 1) = true) :
    Meets (Builtin.«tuple.__mul__» ⟨[.ref l, .int x u], []⟩) (fun _ R s => s.heap.get? l = some { cls := .type "tuple", dict := dd, data := .seq items n, slots := sl } ∧
      R (.ok (.ret (Value.ref l))) s) :=
  .of_wp fun prog w A R s h => by
    obtain ⟨hp, g, d, tk, os⟩ := s
    obtain ⟨hl, h⟩ := h
    have f1 := AutoSeq1.idx_int
    wp_walk using wpAny_loadPart' hl
    repeat (first
      | (refine wpAny_ite_false (decide_eq_false (by rw [c0]; exact Bool.false_ne_true)) ?_; wp_walk using wpAny_loadPart' hl)
      | (refine wpAny_ite_true (decide_eq_true c1) ?_; wp_walk using wpAny_loadPart' hl))
    exact ⟨_, rfl, h⟩
theorem tuple_mul0 (l : Addr) (items : Array Value) (n : Nat) (dd : Option Addr) (sl : Array (Option Value)) (x : Int) (u : Tok) (c0 : (decide (x < -(2 ^ 63)) || decide (x ≥ 2 ^ 63)) = false) (c1 : (items.isEmpty || x == 1) = false) (c2 : (decide (x ≤ 0) || items.isEmpty) = true) :
    Meets (Builtin.«tuple.__mul__» ⟨[.ref l, .int x u], []⟩) (fun _ R s => s.heap.get? l = some { cls := .type "tuple", dict := dd, data := .seq items n, slots := sl } ∧
      R (.ok (.ret (Value.ref s.heap.objs.size))) { s with heap := s.heap.push { cls := Value.type "tuple", data := Data.seq #[] }, toks := s.toks }) :=
  .of_wp fun prog w A R s h => by
    obtain ⟨hp, g, d, tk, os⟩ := s
    obtain ⟨hl, h⟩ := h
    have f1 := AutoSeq1.idx_int
    wp_walk using wpAny_loadPart' hl
    repeat (first
      | (refine wpAny_ite_false (decide_eq_false (by rw [c0]; exact Bool.false_ne_true)) ?_; wp_walk using wpAny_loadPart' hl)
      | (refine wpAny_ite_false (decide_eq_false (by rw [c1]; exact Bool.false_ne_true)) ?_; wp_walk using wpAny_loadPart' hl)
      | (refine wpAny_ite_true (decide_eq_true c2) ?_; wp_walk using wpAny_loadPart' hl))
    exact ⟨_, rfl, h⟩
def rRepS (K : PySem.W.Frag) : R2 := fun x y H Q => ∃ l k xs, x = .ref l ∧ y = .int k ∧ SqT K H l xs ∧ -(2 ^ 62) ≤ k ∧ k ≤ 1000 ∧ (xs = [] ∨ k = 1) ∧ Q (.ref l) H
def rRep0 (K : PySem.W.Frag) : R2 := fun x y H Q => ∃ l k xs, x = .ref l ∧ y = .int k ∧ SqT K H l xs ∧ -(2 ^ 62) ≤ k ∧ k ≤ 0 ∧ xs ≠ [] ∧ ∀ p, H p = none → Q (.ref p) (upd H p (.tup []))
section
variable {X : Cx}
theorem op_repS : OpR X (binaryOp .Mult) (rRepS X.K) := by
  intro pins s σ H x y v u Q I rx ry h
  obtain ⟨l, k, xs, rfl, rfl, hT, h1, h2, hz, q⟩ := h
  cases rx
  obtain ⟨t, rfl⟩ := ry
  obtain ⟨its, r, ⟨⟨cls, dd, data, sl⟩, ho, hc, n, hd⟩, hs⟩ := I.tuple hT
  simp only at hc hd
  subst hc hd
  have c0 : (decide (k < -(2 ^ 63)) || decide (k ≥ 2 ^ 63)) = false := by
    rw [decide_eq_false (by omega), decide_eq_false (by omega)] <;> rfl
  have c1 : (its.toArray.isEmpty || k == 1) = true := by
    rcases hz with hz | hz
    · subst hz
      cases r
      rfl
    · rw [hz, Bool.or_eq_true]
      exact .inr rfl
  exact wpAny_binaryOp_repeat_ref (T := "tuple") (U := "int") (by decide) ⟨_, ho, rfl⟩ (fun s' => typeIs_int s' k t) noFill_tuple_mul F.fills_int_mul F.slot_int_rmul repeat_tuple F.slot_int_index.lookup
    (call_meets F.slot_int_rmul (typeIs_int s k t) F.entry_int_rmul (F.args_int_rmul_2 _ _) (int_rmul_tuple k t l its.toArray n dd sl)
      ⟨ho, rfl, ⟨_, ho, rfl⟩, call_meets F.slot_tuple_mul ⟨_, ho, rfl⟩ F.entry_tuple_mul (F.args_tuple_mul_2 _ _) (tuple_mul1 l its.toArray n dd sl k t c0 c1) ⟨ho, ⟨.ref l, H, I, rfl, q⟩⟩⟩)
theorem op_rep0 : OpR X (binaryOp .Mult) (rRep0 X.K) := by
  intro pins s σ H x y v u Q I rx ry h
  obtain ⟨l, k, xs, rfl, rfl, hT, h1, h2, hz, q⟩ := h
  cases rx
  obtain ⟨t, rfl⟩ := ry
  obtain ⟨its, r, ⟨⟨cls, dd, data, sl⟩, ho, hc, n, hd⟩, hs⟩ := I.tuple hT
  simp only at hc hd
  subst hc hd
  have c0 : (decide (k < -(2 ^ 63)) || decide (k ≥ 2 ^ 63)) = false := by
    rw [decide_eq_false (by omega), decide_eq_false (by omega)] <;> rfl
  have hi : its.toArray.isEmpty = false := by
    cases r with
    | nil => exact absurd rfl hz
    | cons => rfl
  have c1 : (its.toArray.isEmpty || k == 1) = false := by
    rw [hi, Bool.false_or]
    exact beq_eq_false_iff_ne.mpr (by omega)
  have c2 : (decide (k ≤ 0) || its.toArray.isEmpty) = true := by
    rw [decide_eq_true h2, Bool.true_or]
  refine wpAny_binaryOp_repeat_ref (T := "tuple") (U := "int") (by decide) ⟨_, ho, rfl⟩ (fun s' => typeIs_int s' k t) noFill_tuple_mul F.fills_int_mul F.slot_int_rmul repeat_tuple F.slot_int_index.lookup
    (call_meets F.slot_int_rmul (typeIs_int s k t) F.entry_int_rmul (F.args_int_rmul_2 _ _) (int_rmul_tuple k t l its.toArray n dd sl)
      ⟨ho, rfl, ⟨_, ho, rfl⟩, call_meets F.slot_tuple_mul ⟨_, ho, rfl⟩ F.entry_tuple_mul (F.args_tuple_mul_2 _ _) (tuple_mul0 l its.toArray n dd sl k t c0 c1 c2) ⟨ho, ?_⟩⟩)
  refine ⟨.ref s.heap.objs.size, _, I.laid (t' := s.toks) (o := .tup []) (fun b ob q => Heap.get?_push_of_some _ q) (Nat.le_refl _) ?_, rfl, q _ (I.hok.fresh (Nat.le_refl _))⟩
  exact ⟨Nat.zero_le _, [], .nil, IsTup.new _ _⟩
end
/-- the product, tuples any number of times -/
def oMul' : D → D → Option D
  | .tuple a, .int k => if -(2 ^ 62) ≤ k ∧ k ≤ 1000 ∧ a.length ≤ 1000 then some (.tuple (List.replicate k.toNat a).flatten) else none
  | x, y => oMul x y
theorem op_mulD' {X : Cx} : OpR X (binaryOp .Mult) (rD X.K .f oMul') := by
  intro pins s σ H x y v u Q I rx ry h
  obtain ⟨A, dx, dy, d, tr, wx, wy, e, q⟩ := id h
  unfold oMul' at e
  split at e
  · rename_i a k
    split at e
    · rename_i hz
      cases e
      obtain ⟨l, xs, rfl, ha, na, ra⟩ := wx.tup
      by_cases h1 : xs = [] ∨ k = 1
      · refine op_repS pins s σ H _ _ v u Q I rx ry ⟨l, k, xs, rfl, wy.int, .of ha, hz.1, hz.2.1, h1, ?_⟩
        have e : (List.replicate k.toNat a).flatten = a := by
          rcases h1 with h1 | h1
          · subst h1
            cases ra
            simp
          · subst h1
            simp
        rw [e] at q
        exact q _ H (Same.refl H) (Res.flat (.tup ha na ra) rfl)
      · have h2 : xs ≠ [] := fun z => h1 (.inl z)
        by_cases h3 : k ≤ 0
        · refine op_rep0 pins s σ H _ _ v u Q I rx ry ⟨l, k, xs, rfl, wy.int, .of ha, hz.1, h3, h2, fun p hp => ?_⟩
          have e : (List.replicate k.toNat a).flatten = [] := by
            rw [Int.toNat_of_nonpos h3]
            rfl
          rw [e] at q
          exact q _ _ (same_upd hp) (Res.flat (Rp.newT tr hp .nil) rfl)
        · have h4 : k ≠ 1 := fun z => h1 (.inr z)
          exact op_repT pins s σ H _ _ v u Q I rx ry ⟨l, k, xs, rfl, wy.int, .of ha, h2, by omega, hz.2.1, by rw [ra.length]; exact hz.2.2, fun p hp => q _ _ (same_upd hp) (Res.flat (Rp.newT tr hp (ra.rep _)) rfl)⟩
    · cases e
  · exact op_mulD pins s σ H x y v u Q I rx ry ⟨A, dx, dy, d, tr, wx, wy, e, q⟩
end Pm

/-! Pm: plain facts for reading the printed functions. -/
namespace Pm
open PySem PySem.Spec PyProof.Rows L2
/-! ### loops -/
theorem whileF_succ (c : PEnv → Option Bool) (b : XS) (n : Nat) (ρ : PEnv) : whileF c b (n + 1) ρ = (c ρ).bind fun t => if t then (b ρ).bind fun o => match o with
      | .nx ρ2 => whileF c b n ρ2
      | .ct ρ2 => whileF c b n ρ2
      | .bk ρ2 => some (.nx ρ2)
      | .rt d => some (.rt d)
    else some (.nx ρ) := rfl
/-- a loop that goes on n turns and ends -/
theorem whileF_run {c : PEnv → Option Bool} {b : XS} {f : Nat → PEnv} {n N : Nat} (hN : n < N) (ht : ∀ i, i < n → c (f i) = some true) (hb : ∀ i, i < n → b (f i) = some (.nx (f (i + 1)))) (he : c (f n) = some false) : whileF c b N (f 0) = some (.nx (f n)) := by
  suffices h : ∀ k i, i + k = n → ∀ N, k < N → whileF c b N (f i) = some (.nx (f n)) from h n 0 (by omega) N hN
  intro k
  induction k with
  | zero =>
    intro i hi N hN
    obtain ⟨N, rfl⟩ : ∃ M, N = M + 1 := ⟨N - 1, by omega⟩
    have : i = n := by omega
    subst this
    simp [whileF_succ, he]
  | succ k ih =>
    intro i hi N hN
    obtain ⟨N, rfl⟩ : ∃ M, N = M + 1 := ⟨N - 1, by omega⟩
    simp [whileF_succ, ht i (by omega), hb i (by omega)]
    exact ih (i + 1) (by omega) N (by omega)
theorem forL_nil (g : D → PEnv → Option PEnv) (b : XS) (ρ : PEnv) : forL g b [] ρ = some (.nx ρ) := rfl
/-- a loop whose turns fold -/
theorem forL_fold {α : Type} {g : D → PEnv → Option PEnv} {b : XS} (f : α → PEnv) (st : α → D → α) (P : α → List D → Prop) (hb : ∀ a d ds, P a (d :: ds) → (g d (f a)).bind b = some (.nx (f (st a d))) ∧ P (st a d) ds) :
    ∀ (ds : List D) (a : α), P a ds → forL g b ds (f a) = some (.nx (f (ds.foldl st a)))
  | [], a, _ => rfl
  | d :: ds, a, h => by
    obtain ⟨h1, h2⟩ := hb a d ds h
    obtain ⟨ρ1, e1, e2⟩ := bind2 h1
    simp only [forL, e1, e2, Option.bind_some, List.foldl_cons]
    exact forL_fold f st P hb ds _ h2
/-- a loop by an invariant over what is done and what is left -/
theorem forL_inv {β : Type} {g : D → PEnv → Option PEnv} {b : XS} (enc : β → D) (I : List β → List β → PEnv → Prop)
    (hb : ∀ pre x rest ρ, I pre (x :: rest) ρ → ∃ ρ1 ρ2, g (enc x) ρ = some ρ1 ∧ (b ρ1 = some (.nx ρ2) ∨ b ρ1 = some (.ct ρ2)) ∧ I (pre ++ [x]) rest ρ2) :
    ∀ (xs pre : List β) (ρ : PEnv), I pre xs ρ → ∃ ρ', forL g b (xs.map enc) ρ = some (.nx ρ') ∧ I (pre ++ xs) [] ρ'
  | [], pre, ρ, h => ⟨ρ, rfl, by rwa [List.append_nil]⟩
  | x :: xs, pre, ρ, h => by
    obtain ⟨ρ1, ρ2, e1, e2, h2⟩ := hb pre x xs ρ h
    obtain ⟨ρ', e3, h3⟩ := forL_inv enc I hb xs (pre ++ [x]) ρ2 h2
    refine ⟨ρ', ?_, by rwa [List.append_assoc] at h3⟩
    rcases e2 with e2 | e2
    · simp only [List.map_cons, forL, e1, e2, Option.bind_some, e3]
    · simp only [List.map_cons, forL, e1, e2, Option.bind_some, e3]
/-- the same where a turn may end the def -/
theorem forL_inv' {β : Type} {g : D → PEnv → Option PEnv} {b : XS} (enc : β → D) (I : List β → List β → PEnv → Prop) (R : D → Prop)
    (hb : ∀ pre x rest ρ, I pre (x :: rest) ρ → ∃ ρ1, g (enc x) ρ = some ρ1 ∧ ((∃ ρ2, (b ρ1 = some (.nx ρ2) ∨ b ρ1 = some (.ct ρ2)) ∧ I (pre ++ [x]) rest ρ2) ∨ ∃ d, b ρ1 = some (.rt d) ∧ R d)) :
    ∀ (xs pre : List β) (ρ : PEnv), I pre xs ρ → (∃ ρ', forL g b (xs.map enc) ρ = some (.nx ρ') ∧ I (pre ++ xs) [] ρ') ∨ ∃ d, forL g b (xs.map enc) ρ = some (.rt d) ∧ R d
  | [], pre, ρ, h => .inl ⟨ρ, rfl, by rwa [List.append_nil]⟩
  | x :: xs, pre, ρ, h => by
    obtain ⟨ρ1, e1, h | ⟨d, e2, h2⟩⟩ := hb pre x xs ρ h
    · obtain ⟨ρ2, e2, h2⟩ := h
      rcases forL_inv' enc I R hb xs (pre ++ [x]) ρ2 h2 with ⟨ρ', e3, h3⟩ | ⟨d, e3, h3⟩
      · refine .inl ⟨ρ', ?_, by rwa [List.append_assoc] at h3⟩
        rcases e2 with e2 | e2
        · simp only [List.map_cons, forL, e1, e2, Option.bind_some, e3]
        · simp only [List.map_cons, forL, e1, e2, Option.bind_some, e3]
      · refine .inr ⟨d, ?_, h3⟩
        rcases e2 with e2 | e2
        · simp only [List.map_cons, forL, e1, e2, Option.bind_some, e3]
        · simp only [List.map_cons, forL, e1, e2, Option.bind_some, e3]
    · exact .inr ⟨d, by simp only [List.map_cons, forL, e1, e2, Option.bind_some], h2⟩
/-! ### comprehensions -/
theorem lcL_map {α : Type} {g : XG} {f : Xp} {ρ : PEnv} (enc h : α → D) : ∀ (xs : List α), (∀ x ∈ xs, (g (enc x) ρ).bind f = some (h x)) → lcL g tYesP f ρ (xs.map enc) = some (xs.map h)
  | [], _ => rfl
  | x :: xs, hx => by
    obtain ⟨ρ1, e1, e2⟩ := bind2 (hx x (List.mem_cons_self ..))
    have := lcL_map (g := g) (f := f) (ρ := ρ) enc h xs fun y hy => hx y (List.mem_cons_of_mem _ hy)
    simp only [List.map_cons, lcL, e1, e2, tYesP, Option.bind_some, if_true, this]
theorem lcL_filter {α : Type} {g : XG} {t : PEnv → Option Bool} {f : Xp} {ρ : PEnv} (enc h : α → D) (p : α → Bool) : ∀ (xs : List α), (∀ x ∈ xs, ∃ ρ1, g (enc x) ρ = some ρ1 ∧ t ρ1 = some (p x) ∧ (p x = true → f ρ1 = some (h x))) → lcL g t f ρ (xs.map enc) = some ((xs.filter p).map h)
  | [], _ => rfl
  | x :: xs, hx => by
    obtain ⟨ρ1, e1, e2, e3⟩ := hx x (List.mem_cons_self ..)
    have := lcL_filter (g := g) (t := t) (f := f) (ρ := ρ) enc h p xs fun y hy => hx y (List.mem_cons_of_mem _ hy)
    by_cases hp : p x = true
    · simp only [List.map_cons, lcL, e1, e2, hp, e3 hp, Option.bind_some, if_true, this, List.filter_cons_of_pos]
    · simp only [List.map_cons, lcL, e1, e2, hp, Option.bind_some, if_false, this, List.filter_cons_of_neg, Bool.false_eq_true, not_false_eq_true]
/-! ### places, ranges -/
theorem atI_nat {α : Type} (xs : List α) (i : Nat) (h : i < xs.length) : atI xs (i : Int) = some xs[i] := by
  unfold atI ixN
  simp [h]
theorem cut_init (xs : List D) : cutD xs none (some (-1)) = xs.dropLast := by
  unfold cutD
  rw [HT.sIx_none, List.drop_zero, Nat.sub_zero, List.dropLast_eq_take]
  congr 1
  unfold HT.sIx
  simp
  omega
theorem asInts_map (xs : List Int) : asInts (xs.map PyData.int) = some xs := by
  induction xs with
  | nil => rfl
  | cons x xs ih => simp [asInts, ih]
theorem asBools_map (xs : List Bool) : asBools (xs.map PyData.bool) = some xs := by
  induction xs with
  | nil => rfl
  | cons x xs ih => simp [asBools, ih]
theorem oR1_nat (n : Nat) (h : n ≤ 16777216) : oR1 [.int n] = some ((List.range n).map fun i => PyData.int (i : Nat)) := by
  show (if (n : Int) ≤ 16777216 ∧ -(2 ^ 62) ≤ (n : Int) then some (rangeD 0 1 (n : Int).toNat) else none) = _
  rw [if_pos (by constructor <;> omega)]
  unfold rangeD
  simp
/-! ### sizes -/
theorem log2_lt_of {n k : Nat} (hk : 0 < k) (h : n < 2 ^ k) : n.log2 < k := by
  by_cases h0 : n = 0
  · subst h0
    simpa using hk
  · exact (Nat.log2_lt h0).mpr h
/-- small enough for every product and quotient -/
def Sm (k : Nat) (a : Int) : Prop := a.natAbs ≤ 2 ^ k
theorem Sm.mul {j k : Nat} {a b : Int} (h1 : Sm j a) (h2 : Sm k b) : Sm (j + k) (a * b) := by
  unfold Sm at *
  rw [Int.natAbs_mul, Nat.pow_add]
  exact Nat.mul_le_mul h1 h2
theorem Sm.mono {j k : Nat} {a : Int} (h : Sm j a) (hk : j ≤ k) : Sm k a := Nat.le_trans h (Nat.pow_le_pow_right (by decide) hk)
theorem Sm.add {k : Nat} {a b : Int} (h1 : Sm k a) (h2 : Sm k b) : Sm (k + 1) (a + b) := by
  unfold Sm at *
  have := Int.natAbs_add_le a b
  rw [Nat.pow_succ]
  omega
theorem Sm.le {k : Nat} {a b : Int} (h : Sm k a) (hb : b.natAbs ≤ a.natAbs) : Sm k b := Nat.le_trans hb h
theorem Sm.lit {k : Nat} {a : Int} (h : a.natAbs ≤ 1024 := by decide) (hk : 10 ≤ k := by omega) : Sm k a := Nat.le_trans h (Nat.pow_le_pow_right (n := 2) (by decide) hk)
theorem Sm.zero {k : Nat} : Sm k 0 := Nat.zero_le _
theorem Sm.neg {k : Nat} {a : Int} (h : Sm k a) : Sm k (-a) := by
  unfold Sm at *
  rwa [Int.natAbs_neg]
theorem Sm.sub {k : Nat} {a b : Int} (h1 : Sm k a) (h2 : Sm k b) : Sm (k + 1) (a - b) := h1.add h2.neg
theorem Sm.mulOk {j k : Nat} {a b : Int} (h1 : Sm j a) (h2 : Sm k b) (hj : j ≤ 4000) (hk : k ≤ 4000) : mulOk a b = true := by
  have l1 : a.natAbs.log2 < j + 1 := log2_lt_of (by omega) (Nat.lt_of_le_of_lt h1 (Nat.pow_lt_pow_right (by decide) (by omega)))
  have l2 : b.natAbs.log2 < k + 1 := log2_lt_of (by omega) (Nat.lt_of_le_of_lt h2 (Nat.pow_lt_pow_right (by decide) (by omega)))
  unfold Pm.mulOk
  rw [Bool.or_eq_true]
  exact .inr (decide_eq_true (by omega))
theorem Sm.divOk {k : Nat} {a : Int} (h : Sm k a) (h0 : a ≠ 0) (hk : k ≤ 8000) : divOk a = true := by
  have l1 : a.natAbs.log2 < k + 1 := log2_lt_of (by omega) (Nat.lt_of_le_of_lt h (Nat.pow_lt_pow_right (by decide) (by omega)))
  unfold Pm.divOk
  rw [Bool.and_eq_true]
  exact ⟨decide_eq_true h0, decide_eq_true (by omega)⟩
/-! ### fractions in lowest terms -/
/-- p / q in lowest terms, the lower part positive -/
def fr (p q : Int) : D := .tuple [.int (p / (Int.gcd p q : Int)), .int (q / (Int.gcd p q : Int))]
theorem gcd_pos_of {p q : Int} (hq : 0 < q) : 0 < Int.gcd p q := Int.gcd_pos_of_ne_zero_right p (by omega)
theorem fr_scale {p q c : Int} (hq : 0 < q) (hc : 0 < c) : fr (p * c) (q * c) = fr p q := by
  unfold fr
  have g : Int.gcd (p * c) (q * c) = Int.gcd p q * c.natAbs := Int.gcd_mul_right p c q
  have e : ((c.natAbs : Nat) : Int) = c := Int.natAbs_of_nonneg (by omega)
  rw [g, Int.natCast_mul, e, Int.mul_ediv_mul_of_pos_left _ _ hc, Int.mul_ediv_mul_of_pos_left _ _ hc]
/-- its parts: p = p' g, q = q' g -/
theorem fr_parts (p : Int) {q : Int} (hq : 0 < q) : ∃ p' q' g : Int, fr p q = .tuple [.int p', .int q'] ∧ p = p' * g ∧ q = q' * g ∧ 0 < g ∧ 0 < q' ∧ p'.natAbs ≤ p.natAbs ∧ q'.natAbs ≤ q.natAbs := by
  have hg := gcd_pos_of (p := p) hq
  have hg' : 0 < (Int.gcd p q : Int) := by omega
  have d1 : (Int.gcd p q : Int) ∣ p := Int.gcd_dvd_left p q
  have d2 : (Int.gcd p q : Int) ∣ q := Int.gcd_dvd_right p q
  have e1 := Int.ediv_mul_cancel d1
  have e2 := Int.ediv_mul_cancel d2
  have n1 : (p / (Int.gcd p q : Int)).natAbs ≤ p.natAbs := by
    have := congrArg Int.natAbs e1
    rw [Int.natAbs_mul] at this
    rw [← this]
    exact Nat.le_mul_of_pos_right _ (by simpa using hg)
  have n2 : (q / (Int.gcd p q : Int)).natAbs ≤ q.natAbs := by
    have := congrArg Int.natAbs e2
    rw [Int.natAbs_mul] at this
    rw [← this]
    exact Nat.le_mul_of_pos_right _ (by simpa using hg)
  refine ⟨_, _, _, rfl, e1.symm, e2.symm, hg', ?_, n1, n2⟩
  exact Int.ediv_pos_of_pos_of_dvd hq (by omega) d2
theorem fr_eq {p q r s : Int} (hq : 0 < q) (hs : 0 < s) (h : p * s = r * q) : fr p q = fr r s := by
  rw [← fr_scale (p := p) hq hs, ← fr_scale (p := r) hs hq, h, Int.mul_comm q s]
theorem fr_inj {p q r s : Int} (hq : 0 < q) (hs : 0 < s) (h : fr p q = fr r s) : p * s = r * q := by
  obtain ⟨p1, q1, g, e1, rfl, rfl, _⟩ := fr_parts p hq
  obtain ⟨r1, s1, k, e2, rfl, rfl, _⟩ := fr_parts r hs
  rw [e1, e2] at h
  injection h with h
  injection h with h1 h
  injection h with h2 h
  injection h1 with h1
  injection h2 with h2
  subst h1 h2
  grind
end Pm

/-! Pm: the printed functions, read one step at a time. -/
namespace Pm
open PySem PySem.Spec PyProof.Rows L2
section
variable (ρ : PEnv)
def b2 (g : D → D → Option D) : Option D → Option D → Option D
  | some x, some y => g x y
  | _, _ => none
def c2 : Option D → Option (List D) → Option (List D)
  | some x, some xs => some (x :: xs)
  | _, _ => none
def sqO : Option Out → XS → Option Out
  | some (.nx ρ), h => h ρ
  | x, _ => x
def ifO {α : Type} : Option Bool → (PEnv → Option α) → (PEnv → Option α) → PEnv → Option α
  | some true, g, _, ρ => g ρ
  | some false, _, h, ρ => h ρ
  | none, _, _, _ => none
def stO (i : Nat) : Option D → PEnv → Option Out
  | some d, ρ => if i < ρ.length then some (.nx (ρ.set i (some d))) else none
  | none, _ => none
def endO : Option Out → Option D
  | some (.nx _) => some .none
  | some (.rt d) => some d
  | _ => none
def andO : Option D → Xp → PEnv → Option D
  | some (.bool true), f, ρ => f ρ
  | some (.bool false), _, _ => some (.bool false)
  | _, _, _ => none
def orO : Option D → Xp → PEnv → Option D
  | some (.bool true), _, _ => some (.bool true)
  | some (.bool false), f, ρ => f ρ
  | _, _, _ => none
def tyes : PEnv → Option Bool := fun _ => some true
def tno : PEnv → Option Bool := fun _ => some false
def mkT (ds : List D) : Option D := if ds.length ≤ 1000 then some (.tuple ds) else none
def mkL (ds : List D) : Option D := if ds.length ≤ 1000 then some (.list ds) else none
def chP (g' : D → D → Option D) (y : D) (fc : Xp) (ρ : PEnv) : Option D → Option D
  | some (.bool true) => b2 g' (some y) (fc ρ)
  | some (.bool false) => some (.bool false)
  | _ => none
def chO (g g' : D → D → Option D) : Option D → Option D → Xp → PEnv → Option D
  | some x, some y, fc, ρ => chP g' y fc ρ (g x y)
  | _, _, _, _ => none
def slO : Option D → Option (Option Int) → Option (Option Int) → Option D
  | some x, some i, some j => oSl x i j
  | _, _, _ => none
def atO : Option D → Option (Option Int)
  | some (.int i) => some (some i)
  | _ => none
def lcO (g : XG) (t : PEnv → Option Bool) (f : Xp) (ρ : PEnv) : Option (List D) → Option D
  | some ds => (lcL g t f ρ ds).map .list
  | none => none
def forO (g : D → PEnv → Option PEnv) (b : XS) (ρ : PEnv) : Option (List D) → Option Out
  | some ds => forL g b ds ρ
  | none => none
def gsO (gs : List D → PEnv → Option PEnv) (ds : List D) : Option PEnv → Option PEnv
  | some ρ => gs ds ρ
  | none => none
def nxO : Option PEnv → Option Out
  | some ρ => some (.nx ρ)
  | none => none
def tgO (g : D → PEnv → Option PEnv) : Option D → PEnv → Option Out
  | some d, ρ => nxO (g d ρ)
  | none, _ => none
def paO (is : List Nat) : Option (List D) → PEnv → Option Out
  | some ds, ρ => if is.all (fun i => decide (i < ρ.length)) && decide (ds.length = is.length) then some (.nx (setAll is ds ρ)) else none
  | none, _ => none
def apO (i : Nat) : Option D → Option D → PEnv → Option Out
  | some (.list xs), some y, ρ => if xs.length < 16777216 ∧ i < ρ.length then some (.nx (ρ.set i (some (.list (xs ++ [y]))))) else none
  | _, _, _ => none
def exO (i : Nat) : Option D → Option D → PEnv → Option Out
  | some (.list xs), some (.list ys), ρ => if xs.length + ys.length ≤ 16777216 ∧ i < ρ.length then some (.nx (ρ.set i (some (.list (xs ++ ys))))) else none
  | _, _, _ => none
def plO (i : Nat) (xs : List D) (y : D) (ρ : PEnv) : Option Nat → Option Out
  | some n => if i < ρ.length then some (.nx (ρ.set i (some (.list (xs.set n y))))) else none
  | none => none
def ptO (i : Nat) : Option D → Option D → Option D → PEnv → Option Out
  | some y, some (.list xs), some (.int j), ρ => plO i xs y ρ (ixN xs.length j)
  | _, _, _, _ => none
def pkO (i : Nat) : Option D → Option D → Option D → PEnv → Option Out
  | some y, some (.dict kd), some (.int j), ρ => if kd.length < 16777216 ∧ i < ρ.length then some (.nx (ρ.set i (some (.dict (dPutD kd j y))))) else none
  | _, _, _, _ => none
theorem xVar_a (i : Nat) : xVar i ρ = ρ.getD i none := rfl
theorem xC_a (d : D) : xC d ρ = some d := rfl
theorem xBin_a (g : D → D → Option D) (fa fb : Xp) : xBin g fa fb ρ = b2 g (fa ρ) (fb ρ) := by
  unfold xBin
  cases fa ρ <;> cases fb ρ <;> rfl
theorem xUn_a (g : D → Option D) (fa : Xp) : xUn g fa ρ = (fa ρ).bind g := rfl
theorem tOf_a (f : Xp) : tOf f ρ = (f ρ).bind dB := rfl
theorem tTru_a (f : Xp) : tTru f ρ = (f ρ).bind oTru := rfl
theorem tNotP_a (f : PEnv → Option Bool) : tNotP f ρ = (f ρ).map (!·) := rfl
theorem tAndP_a (f g : PEnv → Option Bool) : tAndP f g ρ = ifO (f ρ) g tno ρ := by
  unfold tAndP
  cases f ρ with
  | none => rfl
  | some b => cases b <;> rfl
theorem tOrP_a (f g : PEnv → Option Bool) : tOrP f g ρ = ifO (f ρ) tyes g ρ := by
  unfold tOrP
  cases f ρ with
  | none => rfl
  | some b => cases b <;> rfl
theorem tyes_a : tyes ρ = some true := rfl
theorem tno_a : tno ρ = some false := rfl
theorem tYesP_a : tYesP ρ = some true := rfl
theorem xNil_a : xNil ρ = some [] := rfl
theorem xCons_a (f : Xp) (fs : XL) : xCons f fs ρ = c2 (f ρ) (fs ρ) := by
  unfold xCons
  cases f ρ <;> cases fs ρ <;> rfl
theorem xTup_a (fs : XL) : xTup fs ρ = (fs ρ).bind mkT := rfl
theorem xLst_a (fs : XL) : xLst fs ρ = (fs ρ).bind mkL := rfl
theorem xAnd_a (fa fb : Xp) : xAnd fa fb ρ = andO (fa ρ) fb ρ := by
  unfold xAnd
  cases fa ρ with
  | none => rfl
  | some d => cases d with
    | bool b => cases b <;> rfl
    | _ => rfl
theorem xOr_a (fa fb : Xp) : xOr fa fb ρ = orO (fa ρ) fb ρ := by
  unfold xOr
  cases fa ρ with
  | none => rfl
  | some d => cases d with
    | bool b => cases b <;> rfl
    | _ => rfl
theorem xIf_a (c : PEnv → Option Bool) (fa fb : Xp) : xIf c fa fb ρ = ifO (c ρ) fa fb ρ := by
  unfold xIf
  cases c ρ with
  | none => rfl
  | some b => cases b <;> rfl
theorem xChain_a (g g' : D → D → Option D) (fa fb fc : Xp) : xChain g g' fa fb fc ρ = chO g g' (fa ρ) (fb ρ) fc ρ := by
  unfold xChain
  cases fa ρ with
  | none => rfl
  | some x => cases fb ρ with
    | none => rfl
    | some y =>
      simp only [Option.bind_some, chO]
      cases g x y with
      | none => rfl
      | some z => cases z with
        | bool b => cases b <;> (simp only [Option.bind_some, dB, chP]; cases fc ρ <;> rfl)
        | _ => rfl
theorem oNo_a : oNo ρ = some none := rfl
theorem oAt_a (f : Xp) : oAt f ρ = atO (f ρ) := by
  unfold oAt
  cases f ρ with
  | none => rfl
  | some d => cases d <;> rfl
theorem xSl_a (f : Xp) (lo hi : XO) : xSl f lo hi ρ = slO (f ρ) (lo ρ) (hi ρ) := by
  unfold xSl
  cases f ρ <;> cases lo ρ <;> cases hi ρ <;> rfl
theorem xCall_a (g : List D → Option D) (fs : XL) : xCall g fs ρ = (fs ρ).bind g := rfl
theorem xSeq_a (f : Xp) : xSeq f ρ = (f ρ).bind seqD := rfl
theorem xIt_a (g : List D → Option (List D)) (fs : XL) : xIt g fs ρ = (fs ρ).bind g := rfl
theorem xLc_a (it : XL) (g : XG) (t : PEnv → Option Bool) (f : Xp) (own : List Nat) : xLc it g t f own ρ = lcO g t f (wipeP ρ own) (it ρ) := by
  unfold xLc
  cases it ρ <;> rfl
theorem gSet_a (i : Nat) (d : D) : gSet i d ρ = if i < ρ.length then some (ρ.set i (some d)) else none := rfl
theorem gTupD_a (n : Nat) (g : List D → PEnv → Option PEnv) (ds : List D) : gTupD n g (.tuple ds) ρ = if ds.length = n then g ds ρ else none := rfl
theorem gsNil_a : gsNil [] ρ = some ρ := rfl
theorem gsCons_a (g : XG) (gs : List D → PEnv → Option PEnv) (d : D) (ds : List D) : gsCons g gs (d :: ds) ρ = gsO gs ds (g d ρ) := by
  show (g d ρ).bind (fun ρ' => gs ds ρ') = _
  cases g d ρ <;> rfl
theorem sNop_a : sNop ρ = some (.nx ρ) := rfl
theorem sBrk_a : sBrk ρ = some (.bk ρ) := rfl
theorem sCnt_a : sCnt ρ = some (.ct ρ) := rfl
theorem sSeq_a (g h : XS) : sSeq g h ρ = sqO (g ρ) h := by
  unfold sSeq
  cases g ρ with
  | none => rfl
  | some o => cases o <;> rfl
theorem sRet_a (f : Xp) : sRet f ρ = (f ρ).map .rt := rfl
theorem sIf_a (c : PEnv → Option Bool) (g h : XS) : sIf c g h ρ = ifO (c ρ) g h ρ := by
  unfold sIf
  cases c ρ with
  | none => rfl
  | some b => cases b <;> rfl
theorem sSet_a (i : Nat) (f : Xp) : sSet i f ρ = stO i (f ρ) ρ := by
  unfold sSet
  cases f ρ <;> rfl
theorem sTgt_a (g : D → PEnv → Option PEnv) (f : Xp) : sTgt g f ρ = tgO g (f ρ) ρ := by
  unfold sTgt
  cases f ρ with
  | none => rfl
  | some d =>
    show (g d ρ).map .nx = nxO (g d ρ)
    cases g d ρ <;> rfl
theorem sAug_a (i : Nat) (g : D → D → Option D) (f : Xp) : sAug i g f ρ = stO i (b2 g (ρ.getD i none) (f ρ)) ρ := by
  unfold sAug
  rw [xVar_a]
  cases ρ.getD i none with
  | none => rfl
  | some x => cases f ρ with
    | none => rfl
    | some y =>
      simp only [Option.bind_some, b2]
      cases g x y <;> rfl
theorem sApp_a (i : Nat) (f : Xp) : sApp i f ρ = apO i (ρ.getD i none) (f ρ) ρ := by
  unfold sApp
  rw [xVar_a]
  cases ρ.getD i none with
  | none => rfl
  | some x => cases f ρ with
    | none => cases x <;> rfl
    | some y => cases x <;> rfl
theorem sExt_a (i : Nat) (f : Xp) : sExt i f ρ = exO i (ρ.getD i none) (f ρ) ρ := by
  unfold sExt
  rw [xVar_a]
  cases ρ.getD i none with
  | none => rfl
  | some x => cases f ρ with
    | none => cases x <;> rfl
    | some y => cases x <;> cases y <;> rfl
theorem sPut_a (i : Nat) (fj f : Xp) : sPut i fj f ρ = ptO i (f ρ) (ρ.getD i none) (fj ρ) ρ := by
  unfold sPut
  rw [xVar_a]
  cases f ρ with
  | none => rfl
  | some y => cases ρ.getD i none with
    | none => rfl
    | some x => cases fj ρ with
      | none => cases x <;> rfl
      | some j => cases x with
        | list xs => cases j with
          | int j =>
            show (ixN xs.length j).bind _ = plO i xs y ρ (ixN xs.length j)
            cases ixN xs.length j <;> rfl
          | _ => rfl
        | _ => rfl
theorem sPutK_a (i : Nat) (fj f : Xp) : sPutK i fj f ρ = pkO i (f ρ) (ρ.getD i none) (fj ρ) ρ := by
  unfold sPutK
  rw [xVar_a]
  cases f ρ with
  | none => rfl
  | some y => cases ρ.getD i none with
    | none => rfl
    | some x => cases fj ρ with
      | none => cases x <;> rfl
      | some j => cases x <;> cases j <;> rfl
theorem pkO_s (i : Nat) (kd : List (D × D)) (y : D) (j : Int) : pkO i (some y) (some (.dict kd)) (some (.int j)) ρ = if kd.length < 16777216 ∧ i < ρ.length then some (.nx (ρ.set i (some (.dict (dPutD kd j y))))) else none := rfl
theorem xLc2_a (it : XL) (g : XG) (t : PEnv → Option Bool) (it1 : XL) (g1 : XG) (t1 : PEnv → Option Bool) (f : Xp) (own vs1 : List Nat) (ds : List D) (h : it ρ = some ds) : xLc2 it g t it1 g1 t1 f own vs1 ρ = (lc2L g t it1 g1 t1 f vs1 (wipeP ρ own) ds).bind fun ys => if ys.length ≤ 16777216 then some (.list ys) else none := by
  unfold xLc2
  rw [h]
  rfl
theorem sFor_a (it : XL) (g : D → PEnv → Option PEnv) (b : XS) : sFor it g b ρ = forO g b ρ (it ρ) := by
  unfold sFor
  cases it ρ <;> rfl
theorem sWhile_a (c : PEnv → Option Bool) (b : XS) : sWhile c b ρ = whileF c b fuelN ρ := rfl
theorem sPar_a (is : List Nat) (fs : XL) : sPar is fs ρ = paO is (fs ρ) ρ := by
  unfold sPar
  cases fs ρ <;> rfl
theorem runD_a (n N : Nat) (g : XS) (ds : List D) : runD n N g ds = endO (g (ds.map some ++ List.replicate (N - n) none)) := by
  unfold runD
  cases g (ds.map some ++ List.replicate (N - n) none) with
  | none => rfl
  | some o => cases o <;> rfl
theorem b2_s (g : D → D → Option D) (x y : D) : b2 g (some x) (some y) = g x y := rfl
theorem c2_s (x : D) (xs : List D) : c2 (some x) (some xs) = some (x :: xs) := rfl
theorem sqO_nx (h : XS) : sqO (some (.nx ρ)) h = h ρ := rfl
theorem sqO_rt (d : D) (h : XS) : sqO (some (.rt d)) h = some (.rt d) := rfl
theorem sqO_bk (h : XS) : sqO (some (.bk ρ)) h = some (.bk ρ) := rfl
theorem sqO_ct (h : XS) : sqO (some (.ct ρ)) h = some (.ct ρ) := rfl
section
variable {α : Type}
theorem ifO_t (g h : PEnv → Option α) : ifO (some true) g h ρ = g ρ := rfl
theorem ifO_f (g h : PEnv → Option α) : ifO (some false) g h ρ = h ρ := rfl
end
theorem stO_s (i : Nat) (d : D) : stO i (some d) ρ = if i < ρ.length then some (.nx (ρ.set i (some d))) else none := rfl
theorem endO_nx  : endO (some (.nx ρ)) = some .none := rfl
theorem endO_rt (d : D) : endO (some (.rt d)) = some d := rfl
theorem andO_t (f : Xp) : andO (some (.bool true)) f ρ = f ρ := rfl
theorem andO_f (f : Xp) : andO (some (.bool false)) f ρ = some (.bool false) := rfl
theorem orO_t (f : Xp) : orO (some (.bool true)) f ρ = some (.bool true) := rfl
theorem orO_f (f : Xp) : orO (some (.bool false)) f ρ = f ρ := rfl
theorem chO_s (g g' : D → D → Option D) (x y : D) (f : Xp) : chO g g' (some x) (some y) f ρ = chP g' y f ρ (g x y) := rfl
theorem chP_t (g' : D → D → Option D) (y : D) (f : Xp) : chP g' y f ρ (some (.bool true)) = b2 g' (some y) (f ρ) := rfl
theorem chP_f (g' : D → D → Option D) (y : D) (f : Xp) : chP g' y f ρ (some (.bool false)) = some (.bool false) := rfl
theorem slO_s (x : D) (i j : Option Int) : slO (some x) (some i) (some j) = oSl x i j := rfl
theorem atO_i (i : Int) : atO (some (.int i)) = some (some i) := rfl
theorem lcO_s (g : XG) (t : PEnv → Option Bool) (f : Xp) (ds : List D) : lcO g t f ρ (some ds) = (lcL g t f ρ ds).map .list := rfl
theorem forO_s (g : XG) (b : XS) (ds : List D) : forO g b ρ (some ds) = forL g b ds ρ := rfl
theorem gsO_s (gs : List D → PEnv → Option PEnv) (ds : List D) : gsO gs ds (some ρ) = gs ds ρ := rfl
theorem nxO_s  : nxO (some ρ) = some (.nx ρ) := rfl
theorem tgO_s (g : XG) (d : D) : tgO g (some d) ρ = nxO (g d ρ) := rfl
theorem paO_s (is : List Nat) (ds : List D) : paO is (some ds) ρ = if is.all (fun i => decide (i < ρ.length)) && decide (ds.length = is.length) then some (.nx (setAll is ds ρ)) else none := rfl
theorem apO_s (i : Nat) (xs : List D) (y : D) : apO i (some (.list xs)) (some y) ρ = if xs.length < 16777216 ∧ i < ρ.length then some (.nx (ρ.set i (some (.list (xs ++ [y]))))) else none := rfl
theorem exO_s (i : Nat) (xs ys : List D) : exO i (some (.list xs)) (some (.list ys)) ρ = if xs.length + ys.length ≤ 16777216 ∧ i < ρ.length then some (.nx (ρ.set i (some (.list (xs ++ ys))))) else none := rfl
theorem plO_s (i : Nat) (xs : List D) (y : D) (n : Nat) : plO i xs y ρ (some n) = if i < ρ.length then some (.nx (ρ.set i (some (.list (xs.set n y))))) else none := rfl
theorem ptO_s (i : Nat) (xs : List D) (y : D) (j : Int) : ptO i (some y) (some (.list xs)) (some (.int j)) ρ = plO i xs y ρ (ixN xs.length j) := rfl
section
variable (a b : Int) (t : Bool) (xs ys : List D) (x y z : D)
theorem dB_b  : dB (.bool t) = some t := rfl
theorem tru_b  : oTru (.bool t) = some t := rfl
theorem tru_n  : oTru .none = some false := rfl
theorem tru_i  : oTru (.int a) = some (a != 0) := rfl
theorem tru_l  : oTru (.list xs) = some (!xs.isEmpty) := rfl
theorem tru_t  : oTru (.tuple xs) = some (!xs.isEmpty) := rfl
theorem is_n  : oIs x .none = some (.bool (isNone x)) := rfl
theorem isn_n  : oIsNot x .none = some (.bool (!isNone x)) := rfl
theorem nn_n  : isNone .none = true := rfl
theorem nn_i  : isNone (.int a) = false := rfl
theorem nn_b  : isNone (.bool t) = false := rfl
theorem nn_t  : isNone (.tuple xs) = false := rfl
theorem nn_l  : isNone (.list xs) = false := rfl
theorem add_ii  : oAdd (.int a) (.int b) = some (.int (a + b)) := rfl
theorem add'_ii  : oAdd' (.int a) (.int b) = some (.int (a + b)) := rfl
theorem sub_ii  : oSub (.int a) (.int b) = some (.int (a - b)) := rfl
theorem neg_i  : oNeg (.int a) = some (.int (-a)) := rfl
theorem lt_ii  : oLt (.int a) (.int b) = some (.bool (decide (a < b))) := rfl
theorem le_ii  : oLe (.int a) (.int b) = some (.bool (decide (a ≤ b))) := rfl
theorem gt_ii  : oGt (.int a) (.int b) = some (.bool (decide (b < a))) := rfl
theorem ge_ii  : oGe (.int a) (.int b) = some (.bool (decide (b ≤ a))) := rfl
theorem ix_l  : oIx (.list xs) (.int a) = atI xs a := rfl
theorem ix_t  : oIx (.tuple xs) (.int a) = atI xs a := rfl
theorem ix_s  : oIx (scr xs) (.int a) = atI xs a := rfl
theorem at0 : atI (x :: xs) 0 = some x := by
  unfold atI ixN
  simp
theorem at1 : atI (x :: y :: xs) 1 = some y := by
  unfold atI ixN
  rw [if_pos (by decide), if_pos (by simp only [List.length_cons]; omega)]
  rfl
theorem at2 : atI (x :: y :: z :: xs) 2 = some z := by
  unfold atI ixN
  rw [if_pos (by decide), if_pos (by simp only [List.length_cons]; omega)]
  rfl
theorem sl_l (lo hi : Option Int) : oSl (.list xs) lo hi = some (.list (cutD xs lo hi)) := rfl
theorem sl_t (lo hi : Option Int) : oSl (.tuple xs) lo hi = some (.tuple (cutD xs lo hi)) := rfl
theorem len_l  : bLen [.list xs] = some (.int xs.length) := rfl
theorem len_t  : bLen [.tuple xs] = some (.int xs.length) := rfl
theorem len_s  : bLen [scr xs] = some (.int xs.length) := rfl
theorem abs_i  : bAbs [.int a] = some (.int (if a < 0 then -a else a)) := rfl
theorem int_i  : bInt [.int a] = some (.int a) := rfl
theorem int_b  : bInt [.bool t] = some (.int (if t then 1 else 0)) := rfl
theorem max_ii  : bMax2 [.int a, .int b] = some (.int (if b > a then b else a)) := rfl
theorem min_ii  : bMin2 [.int a, .int b] = some (.int (if b < a then b else a)) := rfl
theorem tup_s  : bTuple [x] = (seqD x).map .tuple := rfl
theorem lst_s  : bList [x] = (seqD x).map .list := rfl
theorem seq_l  : seqD (.list xs) = some xs := rfl
theorem seq_t  : seqD (.tuple xs) = some xs := rfl
theorem sum_s  : bSum [x] = (seqD x).bind fun xs => (asInts xs).map fun ns => .int ns.sum := rfl
theorem wipe_n (ρ : PEnv) : wipeP ρ [] = ρ := rfl
theorem wipe_c (ρ : PEnv) (v : Nat) (vs : List Nat) : wipeP ρ (v :: vs) = (wipeP ρ vs).set v none := rfl
variable {a b : Int} {xs ys : List D}
theorem mul_ii (h : mulOk a b = true) : oMul' (.int a) (.int b) = some (.int (a * b)) := if_pos h
theorem fdiv_ii (h : divOk b = true) : oFdiv (.int a) (.int b) = some (.int (a.fdiv b)) := if_pos h
theorem mod_ii (h : b ≠ 0) : oMod (.int a) (.int b) = some (.int (a.fmod b)) := if_pos h
theorem add_ll (h : xs.length + ys.length ≤ 16777216) : oAdd (.list xs) (.list ys) = some (.list (xs ++ ys)) := if_pos h
theorem add_tt (h : xs.length + ys.length ≤ 16777216) : oAdd (.tuple xs) (.tuple ys) = some (.tuple (xs ++ ys)) := if_pos h
end
end
end Pm

/-! Pm: sorted of data, the greatest of ints, dict comprehensions. -/
namespace Pm
open PySem PySem.Spec PyProof.Rows L2
/-! ### the greatest of ints -/
section
variable {X : Cx}
theorem cb_maxI (hc : X.calm = true := by rfl) : CallR X (.builtin "max") (rC X.K .f bMaxI) := by
  intro pins s σ H vs us Q I r ⟨A, ds, d, tr, w, e, q⟩
  unfold bMaxI at e
  split at e
  · obtain ⟨v, rfl, w1⟩ := p1 w
    obtain ⟨xs, e1, e⟩ := bind2 e
    obtain ⟨ns, e2, e⟩ := bind2 e
    obtain ⟨mn, e3, e⟩ := Option.map_eq_some_iff.mp e
    subst e
    obtain ⟨a, vs, rfl, ha, ra⟩ := w1.seq e1
    rw [ref1 r]
    have hv := ra.ints e2
    subst hv
    refine call_max_walk (sq_iter (show X.A.in1.handled = none from I.ok.hd hc) I ha fun its J fp wr St h₂ rv W st hfp kp => ?_)
    have hl := rv.length
    rw [List.length_map] at hl
    have hne : 0 < ns.length := by
      cases ns with
      | nil => simp at e3
      | cons _ _ => simp
    refine ⟨_, _, _, _, _, _, _, rfl, W, st, hfp, by omega, CmpOf.ints_gt (fun i => ns.getD i 0) (fun i v h => intsAt rv i v h), fun v h' tk hv hk => ?_⟩
    obtain ⟨t, rfl⟩ := intsAt rv _ _ hv
    obtain ⟨b1, b2⟩ := argBest_gt (fun i => ns.getD i 0) (its.length - 1)
    refine ⟨.int mn, H, I.kept (kp h' hk), ⟨t, ?_⟩, q _ H (Same.refl H) Res.int⟩
    congr 1
    rw [List.max?_eq_some_iff] at e3
    refine Int.le_antisymm ?_ ?_
    · have hb : argBest (fun i j => decide (ns.getD i 0 > ns.getD j 0)) (its.length - 1) < ns.length := by
        have h1 : argBest (fun i j => decide (ns.getD i 0 > ns.getD j 0)) (its.length - 1) ≤ its.length - 1 := b1
        omega
      exact e3.2 _ (by rw [List.getD_eq_getElem?_getD, List.getElem?_eq_getElem hb]; exact List.getElem_mem hb)
    · obtain ⟨i, hi, e4⟩ := List.mem_iff_getElem.mp e3.1
      have := b2 i (by omega)
      simp only [List.getD_eq_getElem?_getD, List.getElem?_eq_getElem hi, Option.getD_some] at this
      rw [e4] at this
      simpa [List.getD_eq_getElem?_getD] using this
  · cases e
/-! ### sorted, of data -/
/-- data that sorted takes -/
def okSort (ds : List D) : Bool := (ds.all fun x => ds.all fun y => PySem.W.alike x y) && (ds.all fun x => shp x && decide (x.depth ≤ 20)) && decide (ds.length ≤ 16777216) &&
  ((ds.all fun x => match x with | .tuple (_ :: _) => true | _ => false) || ds.all fun x => match x with | .none => false | .tuple _ => false | _ => true)
def bSorted : List D → Option D
  | [x] => (seqD x).bind fun ds => if okSort ds then some (.list (ds.mergeSort (PySem.W.dataLe false id))) else none
  | _ => none
theorem okSort_facts {ds : List D} (h : okSort ds = true) : PySem.W.AllAlike ds ∧ (∀ x ∈ ds, shp x = true ∧ x.depth ≤ 20) ∧ ds.length ≤ 16777216 ∧ PySem.W.Sortable ds := by
  unfold okSort at h
  rw [Bool.and_eq_true, Bool.and_eq_true, Bool.and_eq_true] at h
  obtain ⟨⟨⟨h1, h2⟩, h3⟩, h4⟩ := h
  refine ⟨fun d hd d' hd' => ?_, fun x hx => ?_, of_decide_eq_true h3, ?_⟩
  · exact List.all_eq_true.mp (List.all_eq_true.mp h1 d hd) d' hd'
  · have := List.all_eq_true.mp h2 x hx
    rw [Bool.and_eq_true, decide_eq_true_eq] at this
    exact this
  · rw [Bool.or_eq_true] at h4
    rcases h4 with h4 | h4
    · refine .inl fun d hd => ?_
      have := List.all_eq_true.mp h4 d hd
      split at this
      · exact ⟨_, _, rfl⟩
      · cases this
    · refine .inr fun d hd => ?_
      have := List.all_eq_true.mp h4 d hd
      split at this
      · cases this
      · cases this
      · next h1 h2 => exact ⟨h1, h2⟩
theorem zip_each {K : PySem.W.Frag} {A : Addr → Prop} {H : Hp} : ∀ {vs : List V} {us : List Value} {ds : List D}, Vals vs us → RpL K A H vs ds → PySem.W.EachIs (fun u (p : V × D) => RelV p.1 u ∧ Rp K A H p.1 p.2) us (vs.zip ds)
  | _, _, _, .nil, .nil => .nil
  | _, _, _, .cons h r, .cons h' r' => .cons ⟨h, h'⟩ (zip_each r r')
theorem each_out {K : PySem.W.Frag} {A : Addr → Prop} {H : Hp} : ∀ {us : List Value} {ps : List (V × D)}, PySem.W.EachIs (fun u (p : V × D) => RelV p.1 u ∧ Rp K A H p.1 p.2) us ps → Vals (ps.map Prod.fst) us ∧ RpL K A H (ps.map Prod.fst) (ps.map Prod.snd)
  | _, _, .nil => ⟨.nil, .nil⟩
  | _, _, .cons h r => ⟨.cons h.1 (each_out r).1, .cons h.2 (each_out r).2⟩
theorem each_mono {α β : Type} {R S : α → β → Prop} (h : ∀ a b, R a b → S a b) : ∀ {as : List α} {bs : List β}, PySem.W.EachIs R as bs → PySem.W.EachIs S as bs
  | _, _, .nil => .nil
  | _, _, .cons a r => .cons (h _ _ a) (each_mono h r)
theorem each_mem {α β : Type} {R S : α → β → Prop} : ∀ {as : List α} {bs : List β}, PySem.W.EachIs R as bs → (∀ a b, b ∈ bs → R a b → S a b) → PySem.W.EachIs S as bs
  | _, _, .nil, _ => .nil
  | _, _, .cons a r, h => .cons (h _ _ (by simp) a) (each_mem r fun a b hb hr => h a b (List.mem_cons_of_mem _ hb) hr)
end
section
open PySem.W PySem.Calls
variable {prog : Program} {w : World} {A : Around} {E : Value → Shared → Prop} {s : Shared} {β : Type} {R : Value → β → Prop} {enc : β → D} {us : List Value} {bs : List β}
/-- the heap in which the items are told off -/
def tookH (h : Heap) (us : List Value) : Heap := (h.push (seqObj "list" #[] 0)).update h.objs.size (Obj.mapSeq fun z => z ++ us.toArray)
theorem tookH_size (h : Heap) (us : List Value) : (tookH h us).objs.size = h.objs.size + 1 := by
  unfold tookH
  rw [Heap.size_update, size_push']
theorem tookH_old {h : Heap} {us : List Value} {b : Addr} {u : Obj} (hb : h.get? b = some u) : (tookH h us).get? b = some u := by
  unfold tookH
  rw [Heap.get?_update_ne _ _ _ _ (Nat.ne_of_lt (Heap.lt_size hb))]
  exact Heap.get?_push_of_some _ hb
theorem took_seq {l : Addr} {T : String} {o : Obj} {n : Nat} {Q : List Value → Shared → Prop} (hT : T = "list" ∨ T = "tuple") (ho : s.heap.get? l = some o) (hc : o.cls = .type T) (hd : o.data = .seq us.toArray n) (hsz : us.length ≤ sizeLine)
    (hQ : Q us { s with heap := tookH s.heap us }) : wpAny (model prog w) A (collect (.ref l)) Q E s := by
  unfold collect
  apply wpAny_bind
  apply wpAny_runValue
  apply codeAny_builtin entry_proto_collect'
  show wpAny _ _ (do again (.builtin "list.__iadd__" ⟨[← newList [], .ref l], []⟩)) _ _ _
  apply wpAny_bind
  apply wpAny_newList
  · apply wpAny_pure
    refine ⟨Code.quiet_builtin _ (by decide +kernel), ?_⟩
    apply codeAny_builtin entry_list_iadd'
    show wpAny _ _ (Builtin.List.listExtendWith (.ref s.heap.objs.size) (.ref l) _) _ _ { s with heap := s.heap.push (seqObj "list" #[] 0) }
    unfold Builtin.List.listExtendWith
    have g1 := Heap.get?_push_of_some (seqObj "list" #[] 0) ho
    have g2 : (s.heap.push (seqObj "list" #[] 0)).get? s.heap.objs.size = some (seqObj "list" #[] 0) := Heap.get?_push_size _ rfl
    refine wpAny_bind (wpAny_typeOf (T := T) ⟨o, g1, hc⟩ ?_)
    have hb : (Builtin.List.listSameRef (.ref s.heap.objs.size) (.ref l) || Value.type T == Value.type "list" || Value.type T == Value.type "tuple") = true := by
      rcases hT with rfl | rfl
      · simp
      · simp
    rw [if_pos hb]
    apply wpAny_bind
    apply listItems_at g1 hd
    apply wpAny_bind
    apply listItems_at g2 rfl
    rw [if_neg (by simp)]
    apply wpAny_bind
    refine listUpdate_at (xs := #[]) (n := 0) g2 rfl ?_ (Nat.zero_le _) (by show ((#[] : Array Value) ++ us.toArray).size ≤ sizeLine + 1; simp only [Array.size_append, List.size_toArray, List.length_nil]; omega)
    apply wpAny_pure
    show wpAny (model prog w) A (do
      let o ← load s.heap.objs.size
      match o.data with
      | .seq zs _ => pure zs.toList
      | _ => unsupported "internal:collect") Q E { s with heap := tookH s.heap us }
    apply wpAny_bind
    refine wpAny_load (get?_update_seq g2 _) ?_
    show wpAny _ _ (pure ((#[] : Array Value) ++ us.toArray).toList) Q E _
    rw [show ((#[] : Array Value) ++ us.toArray).toList = us by simp]
    exact wpAny_pure hQ
  · exact Nat.zero_le _
/-- sorted(xs), xs a list or a tuple that reads as data -/
theorem sorted_seq {l : Addr} {T : String} {o : Obj} {n : Nat} {Q : Value → Shared → Prop} (hT : T = "list" ∨ T = "tuple") (ho : s.heap.get? l = some o) (hc : o.cls = .type T) (hd : o.data = .seq us.toArray n)
    (e : EachIs R us bs) (er : EachIs (fun v b => ∃ as, Reads s.heap v (enc b) as) us bs) (hal : AllAlike (bs.map enc)) (hk : Sortable (bs.map enc)) (hL : bs.length ≤ sizeLine) (hu : ∀ b, b ∈ bs → A.units + 2 + (enc b).depth < cLine)
    (hQ : ∀ (h' : Heap) (d : Addr) (out : List Value) (m : Nat), (∀ b u, s.heap.get? b = some u → h'.get? b = some u) → s.heap.objs.size ≤ d → h'.get? d = some (seqObj "list" out.toArray m) → EachIs R out (bs.mergeSort (dataLe false enc)) → Q (.ref d) { s with heap := h' }) :
    wpAny (model prog w) A (call (.builtin "sorted") [.ref l]) Q E s := by
  have hsz : us.length ≤ sizeLine := by rw [e.length]; exact hL
  refine Calls.call_function_entry kind_sorted plain_sorted entry_sorted (args_sorted1 _) ?_
  unfold Builtin.«sorted»
  apply wpAny_bind (m := checkCount "sorted" 1 1 _)
  apply wpAny_pure
  refine wpAny_bind (took_seq hT ho hc hd hsz ?_)
  refine wpAny_bind (wpAny_newList ?_ hsz)
  generalize hh1 : tookH s.heap us = h1
  have k1 : ∀ b u, s.heap.get? b = some u → h1.get? b = some u := fun b u hb => by rw [← hh1]; exact tookH_old hb
  have hge : s.heap.objs.size ≤ h1.objs.size := by rw [← hh1, tookH_size]; omega
  have hs2 : (h1.push (seqObj "list" us.toArray 0)).get? h1.objs.size = some (seqObj "list" us.toArray 0) := Heap.get?_push_size _ rfl
  have k2 : ∀ b u, s.heap.get? b = some u → (h1.push (seqObj "list" us.toArray 0)).get? b = some u := fun b u hb => Heap.get?_push_of_some _ (k1 b u hb)
  have hlt : ∀ b u, s.heap.get? b = some u → b < h1.objs.size := fun b u hb => Heap.lt_size (k1 b u hb)
  have er2 : EachIs (fun v b => ∃ as, Reads (sortingHeap (h1.push (seqObj "list" us.toArray 0)) h1.objs.size us) v (enc b) as) us bs := each_mono (fun v b ⟨as, r⟩ => ⟨as, PyProof.Rows.Reads.keeps (fun b u hb => sortingHeap_old (Nat.ne_of_lt (hlt b u hb)) (k2 b u hb)) r⟩) er
  have hS := SortsAt.data (prog := prog) (w := w) (A := A.in1.in1) (s := { s with heap := sortingHeap (h1.push (seqObj "list" us.toArray 0)) h1.objs.size us }) (each_map (R := fun v d => ∃ as, Reads (sortingHeap (h1.push (seqObj "list" us.toArray 0)) h1.objs.size us) v d as) enc er2) hal hk (bound_map fun b hb => hu b hb)
  refine wpAny_bind (wpAny_holding ?_)
  refine wpAny_call_entry slot_list_sort ⟨_, hs2, rfl⟩ entry_list_sort ?_ (args_list_sort _)
  refine list_sort_vals (s := { s with heap := h1.push (seqObj "list" us.toArray 0) }) hs2 hS hsz ⟨.none, rfl, ?_⟩
  apply wpAny_pure
  obtain ⟨m, hm⟩ := sortedHeap_at (vs := us) (out := (sortVals (dataKind (sortingHeap (h1.push (seqObj "list" us.toArray 0)) h1.objs.size us) (bs.map enc)) false us us).toArray) hs2
  refine ⟨_, rfl, hQ _ _ _ m (fun b u hb => ?_) hge hm (sortVals_data false e er2 hal)⟩
  have q := k2 b u hb
  rw [← q]
  exact sortedHeap_old (Nat.ne_of_lt (hlt b u hb)) (Heap.lt_size q)
end
section
variable {X : Cx}
theorem cb_sorted (hu : X.A.units + 65 < cLine) : CallR X (.builtin "sorted") (rC X.K .f bSorted) := by
  intro pins s σ H vs us Q I r ⟨A, ds, d, tr, w, e, q⟩
  unfold bSorted at e
  split at e
  · obtain ⟨v, rfl, w1⟩ := p1 w
    obtain ⟨xs, e1, e⟩ := bind2 e
    split at e
    · next hok =>
      cases e
      obtain ⟨hal, hsh, hlen, hsb⟩ := okSort_facts hok
      obtain ⟨a, ys, rfl, ha, ra⟩ := w1.seq e1
      rw [ref1 r]
      obtain ⟨its, T, o, n, rv, hT, ho, hc, hd, hz⟩ : ∃ (its : List Value) (T : String) (o : Obj) (n : Nat), Vals ys its ∧ (T = "list" ∨ T = "tuple") ∧ s.heap.get? a = some o ∧ o.cls = .type T ∧ o.data = .seq its.toArray n ∧ ys.length ≤ sizeLine := by
        rcases ha with ha | ha
        · obtain ⟨its, rv, hl, hz⟩ := I.list (.of ha)
          obtain ⟨o, ho, hc, n, hd⟩ := hl.isList
          exact ⟨its, "list", o, n, rv, .inl rfl, ho, hc, hd, hz⟩
        · obtain ⟨its, rv, hl, hz⟩ := I.tuple (.of ha)
          obtain ⟨o, ho, hc, n, hd⟩ := hl
          exact ⟨its, "tuple", o, n, rv, .inr rfl, ho, hc, hd, hz⟩
      have hyl := ra.length
      have hme : (ys.zip xs).map Prod.snd = xs := List.map_snd_zip (by omega)
      have hE := zip_each rv ra
      refine sorted_seq (β := V × D) (enc := Prod.snd) (bs := ys.zip xs) (R := fun u (p : V × D) => RelV p.1 u ∧ Rp X.K A H p.1 p.2) hT ho hc hd hE (each_mem hE fun u p hp hr => ?_) (by rw [hme]; exact hal) (by rw [hme]; exact hsb) (by rw [List.length_zip]; omega) (fun p hp => ?_) fun h' d out m hk hp he eo => ?_
      · have hm : p.2 ∈ xs := (List.of_mem_zip (a := p.1) (b := p.2) hp).2
        exact Dp.reads I _ p.1 u ((WRp.dp (.inl hr.2) (hsh _ hm).1)) hr.1
      · have hm : p.2 ∈ xs := (List.of_mem_zip (a := p.1) (b := p.2) hp).2
        have := (hsh _ hm).2
        omega
      · obtain ⟨v1, r1⟩ := each_out eo
        have hsm : ((ys.zip xs).mergeSort (PySem.W.dataLe false Prod.snd)).map Prod.snd = xs.mergeSort (PySem.W.dataLe false id) := by
          have := PySem.W.sort_maps (r := PySem.W.dataLe false Prod.snd) (s := PySem.W.dataLe false id) (Prod.snd : V × D → D) (l := ys.zip xs) (fun _ _ _ _ => rfl)
          rw [this, hme]
        rw [hsm] at r1
        have hlo : (((ys.zip xs).mergeSort (PySem.W.dataLe false Prod.snd)).map Prod.fst).length ≤ sizeLine := by
          rw [List.length_map, List.length_mergeSort, List.length_zip]
          omega
        have hp' : H d = none := I.hok.fresh hp
        exact ⟨.ref d, upd H d (.lst (((ys.zip xs).mergeSort (PySem.W.dataLe false Prod.snd)).map Prod.fst)), I.laid (t' := s.toks) hk hp ⟨hlo, out, m, v1, he⟩, rfl, q _ _ (same_upd hp') (Res.newL tr hp' r1 (Same.refl H))⟩
    · cases e
  · cases e
end
end Pm

/-! Pm: {k: v for ..} with ints for keys, d.get(k, x). -/
namespace Pm
open PySem PySem.Spec PyProof.Rows L2
def dcK (kd : List (D × D)) (v : D) : D → Option (List (D × D))
  | .int i => some (dPutD kd i v)
  | _ => none
def dcL (g : XG) (t : PEnv → Option Bool) (fk fv : Xp) (ρ : PEnv) : List D → List (D × D) → Option (List (D × D))
  | [], kd => some kd
  | x :: xs, kd => (g x ρ).bind fun ρ1 => (t ρ1).bind fun b => if b then (fk ρ1).bind fun k => (fv ρ1).bind fun v => (dcK kd v k).bind fun kd2 => dcL g t fk fv ρ xs kd2 else dcL g t fk fv ρ xs kd
def xDc (it : XL) (g : XG) (t : PEnv → Option Bool) (fk fv : Xp) (own : List Nat) : Xp := fun ρ => (it ρ).bind fun ds => (if ds.length ≤ 16777216 then dcL g t fk fv (wipeP ρ own) ds [] else none).map .dict
theorem dcK_some {kd kd2 : List (D × D)} {v k : D} (h : dcK kd v k = some kd2) : ∃ i, k = .int i ∧ kd2 = dPutD kd i v := by
  unfold dcK at h
  split at h
  · next i => cases h; exact ⟨i, rfl, rfl⟩
  · cases h
theorem dputD_len (kd : List (D × D)) (i : Int) (v : D) : (dPutD kd i v).length ≤ kd.length + 1 := by
  unfold dPutD
  split
  · rw [List.length_map]; omega
  · rw [List.length_append, List.length_singleton]; omega
section
variable {X : Cx} {O ts : List Nat} {st : Bool} {m mk : Md} {tg iter kx vx : Expr} {ifs : List Expr} {scope : Scope} {own : List (Str × Nat)} {it : XL} {g : XG} {t : PEnv → Option Bool} {fk fv : Xp} {pos : Pos}
theorem dc_of (hm : m ≠ .w) (hts : ∀ i, ts.contains i = true → (own.map (·.2)).contains i = true) (hO : ∀ i ∈ own.map (·.2), i ∉ O) (σ : L2.St) (H : Hp) (Q : VK) (q : simT X.K O .f (xDc it g t fk fv (own.map (·.2))) σ H Q) :
    tDc (simI X.K O st it) (simG X.K O O ts g) (simTT X.K O t) (simT X.K O mk fk) (simT X.K O m fv) (own.map (·.2)) σ H Q := by
  obtain ⟨H0, A0, G, ρ, B, d, S, e, k⟩ := q
  obtain ⟨ds, eds, e⟩ := bind2 e
  obtain ⟨ys, eys, e⟩ := Option.map_eq_some_iff.mp e
  subst e
  split at eys
  case isFalse => cases eys
  case isTrue hsz =>
  refine ⟨H0, A0, G, ρ, B, ds, S, eds, fun J H1 gs s1 yl gr hz Dn hD => ?_⟩
  have hts' : ∀ i, ts.contains i = true → i ∉ O := fun i hi => hO i (by simpa using hts i hi)
  refine ⟨fun i n Hc => n = ds.length - i ∧ i ≤ ds.length ∧ Same H1 Hc ∧ ∃ ks dv kd, Hc Dn = some (.dK ks) ∧ RpL X.K (Av (Gd A0 Dn) B) Hc (ks.map (·.2)) dv ∧ kd = (ks.map fun p => keyD p.1).zip dv ∧ ks.length ≤ i ∧ dcL g t fk fv (wipeP ρ (own.map (·.2))) (ds.drop i) kd = some ys,
    ⟨ds.length, rfl, Nat.zero_le _, same_upd hD, [], [], [], upd_same, .nil, rfl, Nat.le_refl _, eys⟩, ?_⟩
  rintro i n Hc ⟨rfl, hi, sc, ks, dv, kd, hDc, rdv, ekd, hkl, epost⟩
  have Sg : Sim X.K H0 (Gd A0 Dn) G O σ Hc ρ B := (S.mono s1).guard hD sc ⟨_, hDc, NT.dK⟩
  have gw : ∀ p ∈ gs, WRp X.K (Av (Gd A0 Dn) B) Hc p.1 p.2 := fun p hp => (gr p hp).w.step sc fun a z => by
    rcases gd_av z with z | z
    · exact .inl z
    · exact .inr (by rw [z]; exact hD)
  by_cases hlt : i < ds.length
  · have ed : ds[i]? = some ds[i] := List.getElem?_eq_getElem hlt
    rw [List.drop_eq_getElem_cons hlt] at epost
    obtain ⟨hgo, hy⟩ := yl.go _ Hc i _ Sg.tr gw ed
    simp only [dcL] at epost
    obtain ⟨ρ1, eρ1, epost⟩ := bind2 epost
    obtain ⟨b, eb, epost⟩ := bind2 epost
    refine .inr ⟨hgo, fun H' => i + 1 ≤ ds.length ∧ Same H1 H' ∧ ∃ ks dv kd, H' Dn = some (.dK ks) ∧ RpL X.K (Av (Gd A0 Dn) B) H' (ks.map (·.2)) dv ∧ kd = (ks.map fun p => keyD p.1).zip dv ∧ ks.length ≤ i + 1 ∧ dcL g t fk fv (wipeP ρ (own.map (·.2))) (ds.drop (i + 1)) kd = some ys, fun H' hN => ?_, fun x H' hx => ?_⟩
    · obtain ⟨h1, h2, h3⟩ := hN
      exact ⟨ds.length - (i + 1), by omega, rfl, h1, h2, h3⟩
    · obtain ⟨s2, rx⟩ := hy x H' hx
      refine ⟨H0, Gd A0 Dn, G, wipeP ρ (own.map (·.2)), B, _, ρ1, (Sg.mono s2).wipe _ hO, rx, eρ1, fun σ2 c2 S2 => ?_⟩
      rw [restr_same Sg hts'] at S2
      refine ⟨wipe_eq c2 hts, H0, Gd A0 Dn, G, ρ1, B, b, S2, eb, fun H3 s3 => ?_⟩
      cases b with
      | true =>
        rw [if_pos rfl]
        rw [if_pos rfl] at epost
        obtain ⟨kk, ek, epost⟩ := bind2 epost
        obtain ⟨y, ey, epost⟩ := bind2 epost
        obtain ⟨kd2, ekd2, epost⟩ := bind2 epost
        refine ⟨H0, Gd A0 Dn, G, ρ1, B, kk, S2.mono s3, ek, fun kv H4 s4 r4 => ⟨H0, Gd A0 Dn, G, ρ1, B, y, (S2.mono s3).mono s4, ey, fun v H5 s5 r5 => ?_⟩⟩
        obtain ⟨ki, rfl, rfl⟩ := dcK_some ekd2
        · have r5' := r5.toS ((S2.mono s3).mono s4).tr hm
          have s25 := ((s2.trans s3).trans s4).trans s5
          have avD : Av (Gd A0 Dn) B Dn := .inl (.inr rfl)
          obtain ⟨ds', rr', ee'⟩ := dput_ok (i := ki) r5' (rdv.mono s25)
          have hlen := length_putK ks (Sum.inl ki) v
          refine ⟨ks, Sum.inl ki, r4.toW.int, s25 _ _ hDc, ?_, by omega, fun a o e => ?_, putK ks (Sum.inl ki) v, ds', _, upd_same, rr'.step (fun a o e n => ?_) fun _ z => .inl z, ee', by omega, by rw [← ekd]; exact epost⟩
          · have : (16777216 : Nat) = sizeLine := rfl
            omega
          · have hne : a ≠ Dn := fun z => by rw [z, hD] at e; cases e
            rw [upd_ne hne]
            exact s25 _ _ (sc _ _ e)
          · rw [upd_ne (fun z => n (by rw [z]; exact avD))]
            exact e
      | false =>
        rw [if_neg Bool.false_ne_true]
        rw [if_neg Bool.false_ne_true] at epost
        have s23 := s2.trans s3
        exact ⟨by omega, sc.trans s23, ks, dv, kd, s23 _ _ hDc, rdv.mono s23, ekd, by omega, epost⟩
  · have e : i = ds.length := by omega
    subst e
    refine .inl ⟨yl.stop _ Hc Sg.tr gw, ?_⟩
    rw [List.drop_length] at epost
    cases epost
    have hHD : H Dn = none := s1.free hD
    refine k _ Hc (s1.trans sc) (.inl ⟨Dn, rfl, hHD, .dic hDc (rdv.anti fun a z => ?_) ekd⟩)
    rcases z with z | z
    · rcases z with z | z
      · exact .inl (.inl z)
      · exact .inr z
    · exact .inl (.inr z)
theorem se_dc (hN : X.N.Nodup) (hi : SI X O st tg iter it) (ok : BlkOk X.N X.env.scope scope own) (hg : InBlk X scope fun Y => SG Y O O ts tg g) (ht : InBlk X scope fun Y => STs Y O ifs t) (hk : InBlk X scope fun Y => SE Y O mk kx fk) (he : InBlk X scope fun Y => SE Y O m vx fv)
    (hm : m ≠ .w := by decide) (hts : ts.all (fun i => (own.map (·.2)).contains i) = true := by rfl) (hO : (own.map (·.2)).all (fun i => !O.contains i) = true := by rfl) (hc : X.calm = true := by rfl) (hs : ∀ x, foldedSetIterable iter X.env x = pure x := by intro _; rfl) :
    SE X O .f (.DictComp kx vx [⟨tg, iter, ifs, 0⟩] scope pos) (xDc it g t fk fv (own.map (·.2))) :=
  ⟨pe_imp (pe_dc hc hN hi.pi ok (fun s H C cl fp => (hg s H C cl fp).pg) (fun s H C cl fp => (ht s H C cl fp).pts) (fun s H C cl fp => (hk s H C cl fp).pe) (fun s H C cl fp => (he s H C cl fp).pe) hs)
    (dc_of hm (fun i hi => by simpa using List.all_eq_true.mp hts i (by simpa using hi)) (fun i hi => by simpa using List.all_eq_true.mp hO i hi))⟩
end
/-! ### d.get(k, x) -/
def oGet2 : D → D → D → Option D
  | .dict kd, .int i, d => if (kd.any fun p => isNone p.1) then none else some ((dGetD kd i).getD d)
  | _, _, _ => none
def xGet2 (fo fe ff : Xp) : Xp := fun ρ => (fo ρ).bind fun x => (fe ρ).bind fun y => (ff ρ).bind fun z => oGet2 x y z
theorem dget_none {K : PySem.W.Frag} {A : Addr → Prop} {H : Hp} {i : Int} {ks : List (Key × V)} {ds : List D} (r : RpL K A H (ks.map (·.2)) ds) (h : dGetD ((ks.map fun p => keyD p.1).zip ds) i = none) : valV ks (Sum.inl i) = none := by
  have e := dhas_eq (i := i) r
  unfold dGetD at h
  rw [Option.map_eq_none_iff, List.find?_eq_none] at h
  have : dHasD ((ks.map fun p => keyD p.1).zip ds) i = false := by
    unfold dHasD
    rw [List.any_eq_false]
    exact h
  rw [this] at e
  cases hv : valV ks (Sum.inl i) with
  | none => rfl
  | some w => rw [hv] at e; cases e
section
variable {X : Cx} {O : List Nat} {m ma mb : Md} {k : Nat} {o a b : Expr} {fo fa fb : Xp} {apos cpos : Pos}
theorem se_dget2 (hr : Room k X.A) (ho : SE X O m o fo) (ha : SE X O ma a fa) (hb : SE X O mb b fb) (M : M2 X o "get" apos a b cpos) (hmb : mb ≠ .w := by decide) : SE X O .s (.Call (.Attribute o "get" apos) [a, b] [] cpos) (xGet2 fo fa fb) := by
  refine ⟨pe_imp (pe_dget2 (hu1 hr) ho.pe ha.pe hb.pe M) fun σ H Q q => ?_⟩
  obtain ⟨H0, A0, G, ρ, B, d, S, e, k⟩ := q
  obtain ⟨x, ex, e⟩ := bind2 e
  obtain ⟨y, ey, e⟩ := bind2 e
  obtain ⟨z, ez, e⟩ := bind2 e
  unfold oGet2 at e
  split at e
  · split at e
    · cases e
    · rename_i hn
      cases e
      refine ⟨H0, A0, G, ρ, B, _, S, ex, fun v H1 s1 r1 => ?_⟩
      obtain ⟨t, ks, ds, rfl, ht, rt, ek⟩ := r1.toW.dict (no_scr hn)
      refine ⟨t, rfl, .inl ⟨ks, .inl ht⟩, H0, A0, G, ρ, B, _, S.mono s1, ey, fun u H2 s2 r2 => ⟨H0, A0, G, ρ, B, _, (S.mono s1).mono s2, ez, fun w H3 s3 r3 => ?_⟩⟩
      have ht3 := s3 _ _ (s2 _ _ ht)
      have rt3 := (rt.mono s2).mono s3
      refine ⟨valV ks (Sum.inl _), by rw [r2.toW.int]; exact DGet.k (k := Sum.inl _) ht3, ?_⟩
      rw [ek] at k
      cases hv : dGetD ((ks.map fun p => keyD p.1).zip ds) _ with
      | none =>
        rw [hv] at k
        rw [dget_none rt3 hv]
        exact k _ H3 ((s1.trans s2).trans s3) (r3.toS ((S.mono s1).mono s2).tr hmb)
      | some d' =>
        rw [hv] at k
        obtain ⟨w', ew, rw'⟩ := dget_some rt3 hv
        rw [ew]
        exact k _ H3 ((s1.trans s2).trans s3) rw'
  · cases e
end
end Pm

/-! Pm: zip of a list and a tuple, in any mix. -/
namespace Pm
open PySem PySem.Spec PyProof.Rows L2
/-- a list, or a tuple -/
def SqB (b : Bool) (K : PySem.W.Frag) (H : Hp) (l : Addr) (vs : List V) : Prop := if b = true then SqL K H l vs else SqT K H l vs
def ItB (b : Bool) (h : Heap) (it l : Addr) (n : Nat) : Prop := if b = true then h.IsListIter it l n else h.IsTupleIter it l n
def OfB (b : Bool) (h : Heap) (l : Addr) (us : Array Value) : Prop := if b = true then h.IsList l us else h.IsTuple l us
def itO (b : Bool) (l : Addr) : Obj := if b = true then { cls := .type "list_iterator", data := .fields #[.ref l, .int 0 0] } else { cls := .type "tuple_iterator", data := .fields #[.ref l, .int 0 0] }
theorem ItB.obj {b : Bool} {h : Heap} {it l : Addr} {n : Nat} (st : ItB b h it l n) : ∃ o, h.get? it = some o ∧ ∀ v, o.data ≠ .cell v := by
  cases b with
  | true =>
    obtain ⟨o, e1, _, d1⟩ := (st : h.IsListIter it l n)
    exact ⟨o, e1, fun v q => by rw [d1] at q; cases q⟩
  | false =>
    obtain ⟨o, e1, _, d1⟩ := (st : h.IsTupleIter it l n)
    exact ⟨o, e1, fun v q => by rw [d1] at q; cases q⟩
theorem ItB.keep {b : Bool} {h h' : Heap} {it l : Addr} {n : Nat} (st : ItB b h it l n) (k : ∀ o, h.get? it = some o → h'.get? it = some o) : ItB b h' it l n := by
  cases b with
  | true => exact Heap.IsListIter.at (h := h) st fun o q => k o q
  | false => exact Heap.IsTupleIter.at (h := h) st fun o q => k o q
theorem draws_b {prog : Program} {w : World} {A : Around} (b : Bool) (hh : A.handled = none) (it l : Addr) (hne : l ≠ it) (us : Array Value) : Draws prog w A it [it, l] us.size (fun i v => us[i]? = some v) (fun i h => ItB b h it l i ∧ OfB b h l us) := by
  cases b with
  | true => exact Draws.list hh it l hne us
  | false => exact Draws.tuple hh it l hne us
theorem begins_b (b : Bool) (l : Addr) (us : Array Value) : Begins (.ref l) (itO b l) fun h => OfB b h l us := by
  cases b with
  | true => exact begins_list l us
  | false => exact begins_tuple l us
theorem itO_at {b : Bool} {h : Heap} {it l : Addr} (e : h.get? it = some (itO b l)) : ItB b h it l 0 := by
  cases b with
  | true => exact ⟨_, e, rfl, rfl⟩
  | false => exact ⟨_, e, rfl, rfl⟩
section
variable {X : Cx} {pins : List (Addr × Obj)} {σ : L2.St} {H : Hp} {s : Shared} {l : Addr}
theorem inv_b (I : Inv X pins σ H s) {b : Bool} {vs : List V} (h : SqB b X.K H l vs) : ∃ its : List Value, Vals vs its ∧ OfB b s.heap l its.toArray ∧ l < s.heap.objs.size := by
  cases b with
  | true =>
    obtain ⟨its, rv, p, _⟩ := I.list (show SqL X.K H l vs from h)
    exact ⟨its, rv, p.isList, p.lt⟩
  | false =>
    obtain ⟨its, rv, p, _⟩ := I.tuple (show SqT X.K H l vs from h)
    obtain ⟨o, ho, _⟩ := id p
    exact ⟨its, rv, p, Heap.lt_size ho⟩
theorem inv_binj (I : Inv X pins σ H s) {b : Bool} {vs ws : List V} (h : SqB b X.K H l vs) (h' : SqB b X.K H l ws) : vs = ws := by
  cases b with
  | true => exact I.list_inj h h'
  | false => exact I.tuple_inj h h'
end
def ItzM (b1 b2 : Bool) (K : PySem.W.Frag) (p q : Addr) : It where
  go := fun i H => ∃ (vs ws : List V) (x y : V), SqB b1 K H p vs ∧ SqB b2 K H q ws ∧ vs[i]? = some x ∧ ws[i]? = some y
  yld := fun i H v H' => ∃ T x y, v = .ref T ∧ H T = none ∧ H' = upd H T (.tup [x, y]) ∧ (∀ vs, SqB b1 K H p vs → vs[i]? = some x) ∧ ∀ ws, SqB b2 K H q ws → ws[i]? = some y
  stop := fun i H => ∃ vs ws : List V, SqB b1 K H p vs ∧ SqB b2 K H q ws ∧ i ≤ vs.length ∧ i ≤ ws.length ∧ (i = vs.length ∨ i = ws.length)
theorem turn_zipM {P : Program} {w : World} {K : PySem.W.Frag} {es : List Expr} {kk : Nat} {tpos : Pos} {b1 b2 : Bool} {p q z TI TO j1 j2 : Addr} (S : ZipSep2 z TI TO j1 j2 [j1, p] [j2, q]) (n1 : p ≠ j1) (n2 : q ≠ j2) :
    Turn P w K (.Tuple es kk tpos) (ItzM b1 b2 K p q) [z, TI, TO, j1, j2] z (fun i h => IsZip h z TI TO .none ∧ IsTupOf2 h TI (.ref j1) (.ref j2) ∧ (∃ x y, IsTupOf2 h TO x y) ∧ ItB b1 h j1 p i ∧ ItB b2 h j2 q i) where
  mem := List.mem_cons_self
  obj := fun i h st c hc => by
    obtain ⟨hz, hI, ⟨x, y, hO⟩, st1, st2⟩ := st
    simp only [List.mem_cons, List.not_mem_nil, or_false] at hc
    rcases hc with rfl | rfl | rfl | rfl | rfl
    · exact ⟨_, hz, fun v e => nomatch e⟩
    · exact ⟨_, hI, fun v e => nomatch e⟩
    · exact ⟨_, hO, fun v e => nomatch e⟩
    · exact st1.obj
    · exact st2.obj
  keep := fun i h h' st k => by
    obtain ⟨hz, hI, ⟨x, y, hO⟩, st1, st2⟩ := st
    refine ⟨k z (by simp) _ hz, k TI (by simp) _ hI, ⟨x, y, k TO (by simp) _ hO⟩, ?_, ?_⟩
    · exact st1.keep fun o e => k j1 (by simp) o e
    · exact st2.keep fun o e => k j2 (by simp) o e
  item := by
    intro X hP hw hK hc i pins s σ H E I hf st hg
    subst hP hw hK
    obtain ⟨hz, hI, ⟨x0, y0, hO⟩, st1, st2⟩ := st
    obtain ⟨vs, ws, x, y, g1, g2, e1, e2⟩ := hg
    obtain ⟨us, rv, pl, _⟩ := inv_b I g1
    obtain ⟨us2, rv2, pl2, _⟩ := inv_b I g2
    obtain ⟨u, hu, ru⟩ := rv.get e1
    obtain ⟨u2, hu2, ru2⟩ := rv2.get e2
    have hzl : z < s.heap.objs.size := Heap.lt_size hz
    have hh : X.A.in1.handled = none := I.ok.hd hc
    have D1 := draws_b (prog := X.prog) (w := X.w) (A := X.A.in1) b1 hh j1 p n1 us.toArray
    have D2 := draws_b (prog := X.prog) (w := X.w) (A := X.A.in1) b2 hh j2 q n2 us2.toArray
    have l1 : i < us.toArray.size := by have := (List.getElem?_eq_some_iff.mp hu).1; simpa using this
    have l2 : i < us2.toArray.size := by have := (List.getElem?_eq_some_iff.mp hu2).1; simpa using this
    refine wpAny_pyNext_zipD2_item S D1 D2 hz hI hO ⟨st1, pl⟩ ⟨st2, pl2⟩ l1 l2 fun a1 a2 h' tk q1 q2 z' O' t1 t2 hT hsz hk => ?_
    have ea1 : a1 = u := by
      rw [List.getElem?_toArray, hu] at q1
      exact (Option.some.inj q1).symm
    have ea2 : a2 = u2 := by
      rw [List.getElem?_toArray, hu2] at q2
      exact (Option.some.inj q2).symm
    subst ea1 ea2
    refine ⟨_, rfl, wpAny_letOwnedTupleGo_zip (s := { s with heap := h', toks := tk }) z' fun h2 z2 sb => ?_⟩
    have hT2 : h2.get? s.heap.objs.size = some { cls := .type "tuple", data := .seq #[a1, a2] } := by
      rw [← hT]
      exact sb.2 _ (Nat.ne_of_gt hzl)
    have hnew : ObjOk X.prog X.w (upd H s.heap.objs.size (.tup [x, y])) h2 s.heap.objs.size (.tup [x, y]) := by
      refine ⟨?_, [a1, a2], .cons ru (.cons ru2 .nil), ⟨_, hT2, rfl, _, rfl⟩⟩
      show 2 ≤ sizeLine
      decide
    have I2 : Inv X pins σ (upd H s.heap.objs.size (.tup [x, y])) { s with heap := h2, toks := tk } := by
      refine I.turnedNew (t' := tk) (ch := [z, TI, TO, j1, j2]) (fun c o hb e => ?_) hf (Nat.le_refl _) hnew
      simp only [List.mem_cons, List.not_mem_nil, or_false, not_or] at hb
      rw [← hk c o hb.1 hb.2.2.1 hb.2.2.2.1 hb.2.2.2.2 e]
      exact sb.2 c hb.1
    have up : ∀ c o, c ≠ z → h'.get? c = some o → h2.get? c = some o := fun c o hcz e => by rw [← e]; exact sb.2 c hcz
    refine ⟨.ref s.heap.objs.size, _, I2, rfl, ⟨_, x, y, rfl, I.hok.fresh (Nat.le_refl _), rfl, fun ls hls => ?_, fun ls hls => ?_⟩, ⟨z2, ?_, ⟨a1, a2, up _ _ S.TOz O'⟩, ?_, ?_⟩, fun c hcm => ?_⟩
    · rw [inv_binj I hls g1]
      exact e1
    · rw [inv_binj I hls g2]
      exact e2
    · exact up _ _ S.TIz (hk _ _ S.TIz S.TITO S.TIi1 S.TIi2 hI)
    · exact t1.1.keep fun o e => up _ o S.zi1.symm e
    · exact t2.1.keep fun o e => up _ o S.zi2.symm e
    · have hlt : c < s.heap.objs.size := by
        simp only [List.mem_cons, List.not_mem_nil, or_false] at hcm
        rcases hcm with rfl | rfl | rfl | rfl | rfl
        · exact hzl
        · exact Heap.lt_size hI
        · exact Heap.lt_size hO
        · obtain ⟨o, e, _⟩ := st1.obj
          exact Heap.lt_size e
        · obtain ⟨o, e, _⟩ := st2.obj
          exact Heap.lt_size e
      rw [upd_ne (Nat.ne_of_lt hlt)]
      exact (hf c hcm).1
  done := by
    intro X hP hw hK hc i pins s σ H E I hf st hg
    subst hP hw hK
    obtain ⟨hz, hI, ⟨x0, y0, hO⟩, st1, st2⟩ := st
    obtain ⟨vs, ws, g1, g2, m1, m2, hend⟩ := hg
    obtain ⟨us, rv, pl, _⟩ := inv_b I g1
    obtain ⟨us2, rv2, pl2, _⟩ := inv_b I g2
    have hh : X.A.in1.handled = none := I.ok.hd hc
    have D1 := draws_b (prog := X.prog) (w := X.w) (A := X.A.in1) b1 hh j1 p n1 us.toArray
    have D2 := draws_b (prog := X.prog) (w := X.w) (A := X.A.in1) b2 hh j2 q n2 us2.toArray
    have k1 := rv.length
    have k2 := rv2.length
    refine wpAny_pyNext_zipD2_end S D1 D2 hz hI hO ⟨st1, pl⟩ ⟨st2, pl2⟩ (by simp; omega) (by simp; omega) (by simp; omega) fun h' tk hk => ⟨rfl, ?_⟩
    refine I.turnedL (t' := tk) (ch := [z, TI, TO, j1, j2]) (fun c o hb e => ?_) hf
    simp only [List.mem_cons, List.not_mem_nil, or_false, not_or] at hb
    exact hk c o hb.1 hb.2.2.1 hb.2.2.2.1 hb.2.2.2.2 e
  self := fun A i s Q E st h => wpAny_pyIter_zip st.1 h
def iZipM (K : PySem.W.Frag) (ta : TA) : TI := fun σ H R => ta σ H fun vs H1 => ∃ b1 b2 p q xs ys, vs = [.ref p, .ref q] ∧ SqB b1 K H1 p xs ∧ SqB b2 K H1 q ys ∧ R (ItzM b1 b2 K p q) H1
theorem pi_zipM {X : Cx} {e e2 : Expr} {ta : TA} {p pos tpos : Pos} {es : List Expr} {kk : Nat} (hg : L2.Gl X "zip") (hm : X.mg "zip" = none) (ha : PA X [e, e2] ta)
    (hs : starEach [e, e2] X.env = (false, eval e X.env) :: starEach [e2] X.env := by rfl) (hpl : (backTo pos (starEach [e2] X.env)).any (·.1) = false := by rfl) :
    PI X (.Tuple es kk tpos) (.Call (.Name "zip" p) [e, e2] [] pos) (iZipM X.K ta) := by
  refine ⟨fun pins s σ H R I h => ?_⟩
  refine Call_ (ld_blt I hg hm PyProof.Rows.boot_zip (PyProof.Rows.callWith_type1 (thn (ha.run pos pins s σ H _ I h) fun us s1 ⟨vs, H1, I1, r1, q1⟩ => ?_) hs hpl))
  obtain ⟨b1, b2, l, m, xs, ys, rfl, g1, g2, k⟩ := q1
  obtain ⟨u1, u2, rfl, r, r'⟩ := vals2 r1
  obtain rfl : u1 = Value.ref l := r
  obtain rfl : u2 = Value.ref m := r'
  obtain ⟨ws, rv, pl, lt1⟩ := inv_b I1 g1
  obtain ⟨ws2, rv2, pl2, lt2⟩ := inv_b I1 g2
  refine zip_begins2 (begins_b b1 l ws.toArray) (begins_b b2 m ws2.toArray) pl pl2 fun h' hz hTI hTO o1 o2 hsz hk => wpAny_pyIter_zip hz ?_
  have I2 : Inv X pins σ H1 { s1 with heap := h' } := I1.kept (t' := s1.toks) hk
  have sep := zip_sep2 (N := s1.heap.objs.size) (fp1 := [l]) (fp2 := [m]) (by simpa using lt1) (by simpa using lt2)
  refine ⟨s1.heap.objs.size + 4, [s1.heap.objs.size + 4, s1.heap.objs.size + 2, s1.heap.objs.size + 3, s1.heap.objs.size, s1.heap.objs.size + 1], _, _, H1, rfl, I2, turn_zipM sep (Nat.ne_of_lt lt1) (Nat.ne_of_lt (Nat.lt_succ_of_lt lt2)), ⟨hz, hTI, ⟨_, _, hTO⟩, itO_at o1, itO_at o2⟩, fun c hcm => ?_, k⟩
  have hle : s1.heap.objs.size ≤ c := by
    simp only [List.mem_cons, List.not_mem_nil, or_false] at hcm
    rcases hcm with rfl | rfl | rfl | rfl | rfl <;> first | exact Nat.le_refl _ | exact Nat.le_add_right _ _
  exact I1.fpOk hle (I1.hok.fresh hle)
/-! ### as a rule -/
def isL : D → Bool
  | .list _ => true
  | _ => false
theorem WRp.seqB {K : PySem.W.Frag} {A : Addr → Prop} {H : Hp} {v : V} {d : D} {xs : List D} (h : WRp K A H v d) (e : seqD d = some xs) : ∃ a vs, v = .ref a ∧ SqB (isL d) K H a vs ∧ RpL K A H vs xs ∧ (H a = some (.lst vs) ∨ H a = some (.tup vs)) := by
  unfold seqD at e
  split at e
  · cases e
    obtain ⟨a, ys, rfl, ha, ra⟩ := h.lst
    exact ⟨a, ys, rfl, (.of ha : SqL K H a ys), ra, .inl ha⟩
  · cases e
    obtain ⟨a, ys, rfl, ha, na, ra⟩ := h.tup
    exact ⟨a, ys, rfl, (.of ha : SqT K H a ys), ra, .inr ha⟩
  · cases e
def oZipM : List D → Option (List D)
  | [x, y] => (seqD x).bind fun xs => (seqD y).bind fun ys => some (zipD xs ys)
  | _ => none
section
variable {X : Cx} {O : List Nat} {st : Bool} {a b : Expr} {fs : XL} {p pos : Pos}
theorem si_zipM {tpos : Pos} {elts : List Expr} {kk : Nat} (hm : X.mg "zip" = none) (ha : SA X O st [a, b] fs) (hg : L2.Gl X "zip" := by rfl)
    (hs : starEach [a, b] X.env = (false, eval a X.env) :: starEach [b] X.env := by rfl) (hpl : (backTo pos (starEach [b] X.env)).any (·.1) = false := by rfl) : SI X O st (.Tuple elts kk tpos) (.Call (.Name "zip" p) [a, b] [] pos) (xIt oZipM fs) := by
  refine ⟨pi_imp (pi_zipM hg hm (pa_ok ha.pa) hs hpl) fun σ H R q => ?_⟩
  obtain ⟨H0, A0, G, ρ, B, ds, S, e, k⟩ := q
  obtain ⟨d, ed, e⟩ := bind2 e
  refine ⟨H0, A0, G, ρ, B, _, S, ed, fun vs H1 s1 r1 ok => ?_⟩
  unfold oZipM at e
  split at e
  · rename_i x y
    obtain ⟨xs, ex, e⟩ := bind2 e
    obtain ⟨ys, ey, e⟩ := bind2 e
    cases e
    obtain ⟨v, u, rfl, sr, sr'⟩ := rsL2 r1
    obtain ⟨t, ws, rfl, qt, rt, ht⟩ := sr.w.seqB ex
    obtain ⟨t', ws', rfl, qt', rt', ht'⟩ := sr'.w.seqB ey
    refine ⟨isL x, isL y, t, t', ws, ws', rfl, qt, qt', k _ H1 [(.ref t, x), (.ref t', y)] s1 ⟨fun A H i d tr g e => ?_, fun A H tr g => ?_⟩ (fun p hp => ?_) ?_⟩
    · obtain ⟨x1, y1, ex1, ey1, rfl⟩ := zipD_get e
      obtain ⟨b, zs, eb, hb, rb, _⟩ := (g _ (List.mem_cons_self)).seqB ex
      obtain ⟨b', zs', eb', hb', rb', _⟩ := (g _ (List.mem_cons_of_mem _ List.mem_cons_self)).seqB ey
      cases eb
      cases eb'
      obtain ⟨x2, ex2, rx2⟩ := rb.get ex1
      obtain ⟨y2, ey2, ry2⟩ := rb'.get ey1
      refine ⟨⟨zs, zs', x2, y2, hb, hb', ex2, ey2⟩, fun z H' hy => ?_⟩
      obtain ⟨T, u, w, rfl, hT, rfl, hu, hw⟩ := hy
      have e1 := hu zs hb
      have e2 := hw zs' hb'
      rw [ex2] at e1
      rw [ey2] at e2
      cases e1
      cases e2
      exact ⟨same_upd hT, rp_pair tr hT rx2 ry2⟩
    · obtain ⟨b, zs, eb, hb, rb, _⟩ := (g _ (List.mem_cons_self)).seqB ex
      obtain ⟨b', zs', eb', hb', rb', _⟩ := (g _ (List.mem_cons_of_mem _ List.mem_cons_self)).seqB ey
      cases eb
      cases eb'
      refine ⟨zs, zs', hb, hb', ?_⟩
      rw [zipD_len, rb.length, rb'.length]
      omega
    · have z : p = (.ref t, x) ∨ p = (.ref t', y) := by simpa using hp
      rcases z with rfl | rfl
      · exact sr
      · exact sr'
    · rw [zipD_len, ← rt.length]
      have := ok t ws ht
      omega
  · cases e
end
end Pm

/-! Pm: the least and the greatest of data, with default=. -/
namespace Pm
open PySem PySem.Spec PyProof.Rows L2
/-- data that can be compared with one another -/
def okCmp (ds : List D) : Bool := (ds.all fun x => ds.all fun y => PySem.W.alike x y) && ds.all fun x => shp x && decide (x.depth ≤ 20) && (match x with | .none => false | _ => true)
def pickD (f : D → List D → D) (o : Option D) : List D → Option D
  | [] => o
  | y :: ys => some (f y ys)
def bMinD : List D → Option D
  | [x] => (seqD x).bind fun ds => if okCmp ds then pickD PySem.W.minD none ds else none
  | _ => none
def bMaxD : List D → Option D
  | [x] => (seqD x).bind fun ds => if okCmp ds then pickD PySem.W.maxD none ds else none
  | _ => none
def bMinK (xs : List D) (o : D) : Option D :=
  match xs with
  | [x] => (seqD x).bind fun ds => if okCmp ds then pickD PySem.W.minD (some o) ds else none
  | _ => none
def bMaxK (xs : List D) (o : D) : Option D :=
  match xs with
  | [x] => (seqD x).bind fun ds => if okCmp ds then pickD PySem.W.maxD (some o) ds else none
  | _ => none
theorem okCmp_facts {ds : List D} (h : okCmp ds = true) : PySem.W.AlikeAll ds ∧ ∀ x ∈ ds, shp x = true ∧ x.depth ≤ 20 := by
  unfold okCmp at h
  rw [Bool.and_eq_true] at h
  obtain ⟨h1, h2⟩ := h
  have h2 := List.all_eq_true.mp h2
  refine ⟨⟨fun d hd d' hd' => List.all_eq_true.mp (List.all_eq_true.mp h1 d hd) d' hd', fun x hx e => ?_⟩, fun x hx => ?_⟩
  · have := h2 x hx
    subst e
    simp at this
  · have := h2 x hx
    rw [Bool.and_eq_true, Bool.and_eq_true, decide_eq_true_eq] at this
    exact this.1
theorem depth_all : ∀ {ds : List D}, (∀ x ∈ ds, x.depth ≤ 20) → PyData.depthAll ds ≤ 20
  | [], _ => Nat.zero_le _
  | x :: xs, h => by
    unfold PyData.depthAll
    exact Nat.max_le.mpr ⟨h x (by simp), depth_all fun y hy => h y (List.mem_cons_of_mem _ hy)⟩
theorem reads_all {X : Cx} {pins : List (Addr × Obj)} {s : Shared} {σ : L2.St} {A : Addr → Prop} {H : Hp} (I : Inv X pins σ H s) : ∀ {vs : List V} {us : List Value} {ds : List D}, Vals vs us → RpL X.K A H vs ds → (∀ x ∈ ds, shp x = true) → ∃ as, ReadsAll s.heap us ds as
  | _, _, _, .nil, .nil, _ => ⟨_, .nil⟩
  | _, _, _, .cons h r, .cons h' r', hs => by
    obtain ⟨as, e⟩ := reads_all I r r' fun x hx => hs x (List.mem_cons_of_mem _ hx)
    obtain ⟨bs, e'⟩ := Dp.reads I _ _ _ (WRp.dp (.inl h') (hs _ (by simp))) h
    exact ⟨_, .cons e' e⟩
/-- iter(l) of a list or a tuple -/
theorem iter_any {prog : Program} {w : World} {A : Around} {E : Value → Shared → Prop} {s : Shared} {l : Addr} {vs : Array Value} {Q : Value → Shared → Prop} (hh : A.handled = none) (hl : s.heap.IsList l vs ∨ s.heap.IsTuple l vs)
    (h : ∀ (fp : List Addr) (St : Nat → Shared → Prop) (s₂ : Shared) (o : Obj), s₂ = { s with heap := s.heap.push o } → WalksS prog w A s.heap.objs.size fp [s.heap.objs.size] (fun a b => b = a) vs.size (fun i v => vs[i]? = some v) St → St 0 s₂ → (∀ b ∈ fp, b < s₂.heap.objs.size) →
      (∀ b o, s.heap.get? b = some o → b ∉ [s.heap.objs.size]) → (∀ b o, s.heap.get? b = some o → s₂.heap.get? b = some o) → Q (.ref s.heap.objs.size) s₂) :
    wpAny (model prog w) A (pyIter (.ref l)) Q E s := by
  rcases hl with hl | hl
  · exact PySem.W.iter_listW hh hl fun s₂ e W st hfp hw hk => h _ _ s₂ _ e W st hfp hw hk
  · exact PySem.W.iter_tupleW hh hl fun s₂ e W st hfp hw hk => h _ _ s₂ _ e W st hfp hw hk
section
variable {prog : Program} {w : World} {A : Around} {E : Value → Shared → Prop} {s : Shared}
theorem min_pick {l : Addr} {vs : Array Value} {x : D} {xs : List D} {as : List Addr} {Q : Value → Shared → Prop} (hh : A.handled = none) (hl : s.heap.IsList l vs ∨ s.heap.IsTuple l vs) (hr : ReadsAll s.heap vs.toList (x :: xs) as) (ha : PySem.W.AlikeAll (x :: xs)) (hu : A.units + 1 + PyData.depthAll (x :: xs) < cLine)
    (h : ∀ (i : Nat) v h' tk, vs[i]? = some v → (x :: xs).getD i .none = PySem.W.minD x xs → (∀ b o, s.heap.get? b = some o → h'.get? b = some o) → Q v { s with heap := h', toks := tk }) :
    wpAny (model prog w) A (call (.builtin "min") [.ref l]) Q E s := by
  have hn : vs.size = xs.length + 1 := PySem.W.readsAll_len hr
  refine PySem.call_min_walkH (iter_any (A := A.in1) hh hl fun fp St s₂ o e W st hfp hw hk => ?_)
  refine ⟨_, _, _, _, _, _, _, s.heap, _, rfl, W, st, hfp, by omega, hw, hk, PySem.W.cmpIn_lt (A := A.in1) hr ha (by show A.units + 1 + _ < _; exact hu), fun v s' hP m => ?_⟩
  obtain ⟨h', tk, rfl, hk'⟩ := PySem.W.moved_old e rfl m
  have e1 : vs.size - 1 = xs.length := by omega
  have e2 := (PySem.W.argBest_fold PySem.W.dataLt PyData.none x xs xs.length (Nat.le_refl _)).2
  rw [List.take_length, ← e1] at e2
  exact h _ v h' tk hP e2 hk'
theorem max_pick {l : Addr} {vs : Array Value} {x : D} {xs : List D} {as : List Addr} {Q : Value → Shared → Prop} (hh : A.handled = none) (hl : s.heap.IsList l vs ∨ s.heap.IsTuple l vs) (hr : ReadsAll s.heap vs.toList (x :: xs) as) (ha : PySem.W.AlikeAll (x :: xs)) (hu : A.units + 1 + PyData.depthAll (x :: xs) < cLine)
    (h : ∀ (i : Nat) v h' tk, vs[i]? = some v → (x :: xs).getD i .none = PySem.W.maxD x xs → (∀ b o, s.heap.get? b = some o → h'.get? b = some o) → Q v { s with heap := h', toks := tk }) :
    wpAny (model prog w) A (call (.builtin "max") [.ref l]) Q E s := by
  have hn : vs.size = xs.length + 1 := PySem.W.readsAll_len hr
  refine PySem.call_max_walkH (iter_any (A := A.in1) hh hl fun fp St s₂ o e W st hfp hw hk => ?_)
  refine ⟨_, _, _, _, _, _, _, s.heap, _, rfl, W, st, hfp, by omega, hw, hk, PySem.W.cmpIn_gt (A := A.in1) hr ha (by show A.units + 1 + _ < _; exact hu), fun v s' hP m => ?_⟩
  obtain ⟨h', tk, rfl, hk'⟩ := PySem.W.moved_old e rfl m
  have e1 : vs.size - 1 = xs.length := by omega
  have e2 := (PySem.W.argBest_fold (fun a b => PySem.W.dataLt b a) PyData.none x xs xs.length (Nat.le_refl _)).2
  rw [List.take_length, ← e1] at e2
  exact h _ v h' tk hP e2 hk'
theorem min_pickD {l : Addr} {vs : Array Value} {xs : List D} {as : List Addr} {d : Value} {Q : Value → Shared → Prop} (hh : A.handled = none) (hl : s.heap.IsList l vs ∨ s.heap.IsTuple l vs) (hr : ReadsAll s.heap vs.toList xs as) (ha : PySem.W.AlikeAll xs) (hu : A.units + 1 + PyData.depthAll xs < cLine)
    (h0 : xs = [] → ∀ h' tk, (∀ b o, s.heap.get? b = some o → h'.get? b = some o) → Q d { s with heap := h', toks := tk })
    (h : ∀ (y : D) (ys : List D) (i : Nat) v h' tk, xs = y :: ys → vs[i]? = some v → (y :: ys).getD i .none = PySem.W.minD y ys → (∀ b o, s.heap.get? b = some o → h'.get? b = some o) → Q v { s with heap := h', toks := tk }) :
    wpAny (model prog w) A (call (.builtin "min") [.ref l] [(Str.ofString "default", d)]) Q E s := by
  have hn : vs.size = xs.length := PySem.W.readsAll_len hr
  refine PySem.call_min_walkD (iter_any (A := A.in1) hh hl fun fp St s₂ o e W st hfp hw hk => ?_)
  refine ⟨_, _, _, _, _, _, _, s.heap, (fun i j => PySem.W.dataLt (xs.getD i .none) (xs.getD j .none)), rfl, W, st, hfp, hw, hk, fun hz s' m => ?_, fun hp => ⟨PySem.W.cmpIn_lt (A := A.in1) hr ha (by show A.units + 1 + _ < _; exact hu), fun v s' hP m => ?_⟩⟩
  · obtain ⟨h', tk, rfl, hk'⟩ := PySem.W.moved_old e rfl m
    exact h0 (List.eq_nil_of_length_eq_zero (by omega)) h' tk hk'
  · obtain ⟨h', tk, rfl, hk'⟩ := PySem.W.moved_old e rfl m
    cases xs with
    | nil => exact absurd hp (by rw [hn]; exact Nat.lt_irrefl 0)
    | cons y ys =>
      have e1 : vs.size - 1 = ys.length := by rw [hn]; rfl
      have e2 := (PySem.W.argBest_fold PySem.W.dataLt PyData.none y ys ys.length (Nat.le_refl _)).2
      rw [List.take_length, ← e1] at e2
      exact h y ys _ v h' tk rfl hP e2 hk'
theorem max_pickD {l : Addr} {vs : Array Value} {xs : List D} {as : List Addr} {d : Value} {Q : Value → Shared → Prop} (hh : A.handled = none) (hl : s.heap.IsList l vs ∨ s.heap.IsTuple l vs) (hr : ReadsAll s.heap vs.toList xs as) (ha : PySem.W.AlikeAll xs) (hu : A.units + 1 + PyData.depthAll xs < cLine)
    (h0 : xs = [] → ∀ h' tk, (∀ b o, s.heap.get? b = some o → h'.get? b = some o) → Q d { s with heap := h', toks := tk })
    (h : ∀ (y : D) (ys : List D) (i : Nat) v h' tk, xs = y :: ys → vs[i]? = some v → (y :: ys).getD i .none = PySem.W.maxD y ys → (∀ b o, s.heap.get? b = some o → h'.get? b = some o) → Q v { s with heap := h', toks := tk }) :
    wpAny (model prog w) A (call (.builtin "max") [.ref l] [(Str.ofString "default", d)]) Q E s := by
  have hn : vs.size = xs.length := PySem.W.readsAll_len hr
  refine PySem.call_max_walkD (iter_any (A := A.in1) hh hl fun fp St s₂ o e W st hfp hw hk => ?_)
  refine ⟨_, _, _, _, _, _, _, s.heap, (fun i j => PySem.W.dataLt (xs.getD j .none) (xs.getD i .none)), rfl, W, st, hfp, hw, hk, fun hz s' m => ?_, fun hp => ⟨PySem.W.cmpIn_gt (A := A.in1) hr ha (by show A.units + 1 + _ < _; exact hu), fun v s' hP m => ?_⟩⟩
  · obtain ⟨h', tk, rfl, hk'⟩ := PySem.W.moved_old e rfl m
    exact h0 (List.eq_nil_of_length_eq_zero (by omega)) h' tk hk'
  · obtain ⟨h', tk, rfl, hk'⟩ := PySem.W.moved_old e rfl m
    cases xs with
    | nil => exact absurd hp (by rw [hn]; exact Nat.lt_irrefl 0)
    | cons y ys =>
      have e1 : vs.size - 1 = ys.length := by rw [hn]; rfl
      have e2 := (PySem.W.argBest_fold (fun a b => PySem.W.dataLt b a) PyData.none y ys ys.length (Nat.le_refl _)).2
      rw [List.take_length, ← e1] at e2
      exact h y ys _ v h' tk rfl hP e2 hk'
end
section
variable {X : Cx}
/-- the heap's list or tuple behind a walked name -/
theorem seq_its {pins : List (Addr × Obj)} {s : Shared} {σ : L2.St} {H : Hp} {a : Addr} {ys : List V} (I : Inv X pins σ H s) (ha : H a = some (.lst ys) ∨ H a = some (.tup ys)) : ∃ its : List Value, Vals ys its ∧ (s.heap.IsList a its.toArray ∨ s.heap.IsTuple a its.toArray) := by
  rcases ha with ha | ha
  · obtain ⟨its, rv, hl, hz⟩ := I.list (.of ha)
    exact ⟨its, rv, .inl hl.isList⟩
  · obtain ⟨its, rv, hl, hz⟩ := I.tuple (.of ha)
    exact ⟨its, rv, .inr hl⟩
theorem its_pick {A : Addr → Prop} {H : Hp} {ys : List V} {its : List Value} {ds : List D} {i : Nat} {v : Value} {d : D} (rv : Vals ys its) (ra : RpL X.K A H ys ds) (h : its.toArray[i]? = some v) (e : ds.getD i .none = d) : ∃ x, RelV x v ∧ Rp X.K A H x d := by
  have h' : its[i]? = some v := by simpa using h
  have hi : i < its.length := (List.getElem?_eq_some_iff.mp h').1
  have l1 := rv.length
  have l2 := ra.length
  have hd : ds[i]? = some d := by
    rw [List.getD_eq_getElem?_getD] at e
    rw [List.getElem?_eq_getElem (by omega), Option.getD_some] at e
    rw [List.getElem?_eq_getElem (by omega), e]
  obtain ⟨x, e1, e2⟩ := ra.get hd
  obtain ⟨u, e3, e4⟩ := rv.get e1
  rw [h'] at e3
  cases e3
  exact ⟨x, e4, e2⟩
theorem cb_minD (hu : X.A.units + 65 < cLine) (hc : X.calm = true := by rfl) : CallR X (.builtin "min") (rC X.K .s bMinD) := by
  intro pins s σ H vs us Q I r ⟨A, ds, d, tr, w, e, q⟩
  unfold bMinD at e
  split at e
  · obtain ⟨v, rfl, w1⟩ := p1 w
    obtain ⟨xs, e1, e⟩ := bind2 e
    split at e
    · next hok =>
      obtain ⟨hal, hsh⟩ := okCmp_facts hok
      obtain ⟨a, ys, rfl, ha, ra⟩ := w1.seq e1
      rw [ref1 r]
      obtain ⟨its, rv, hl⟩ := seq_its I ha
      obtain ⟨as, rd⟩ := reads_all I rv ra fun x hx => (hsh x hx).1
      cases xs with
      | nil => cases e
      | cons y zs =>
        cases e
        have hdp := depth_all fun x hx => (hsh x hx).2
        refine min_pick (I.ok.hd hc) hl rd hal (by omega) fun i v h' tk hv he hk => ?_
        obtain ⟨x, rx, px⟩ := its_pick rv ra hv he
        exact ⟨x, H, I.kept hk, rx, q _ H (Same.refl H) px⟩
    · cases e
  · cases e
theorem cb_maxD (hu : X.A.units + 65 < cLine) (hc : X.calm = true := by rfl) : CallR X (.builtin "max") (rC X.K .s bMaxD) := by
  intro pins s σ H vs us Q I r ⟨A, ds, d, tr, w, e, q⟩
  unfold bMaxD at e
  split at e
  · obtain ⟨v, rfl, w1⟩ := p1 w
    obtain ⟨xs, e1, e⟩ := bind2 e
    split at e
    · next hok =>
      obtain ⟨hal, hsh⟩ := okCmp_facts hok
      obtain ⟨a, ys, rfl, ha, ra⟩ := w1.seq e1
      rw [ref1 r]
      obtain ⟨its, rv, hl⟩ := seq_its I ha
      obtain ⟨as, rd⟩ := reads_all I rv ra fun x hx => (hsh x hx).1
      cases xs with
      | nil => cases e
      | cons y zs =>
        cases e
        have hdp := depth_all fun x hx => (hsh x hx).2
        refine max_pick (I.ok.hd hc) hl rd hal (by omega) fun i v h' tk hv he hk => ?_
        obtain ⟨x, rx, px⟩ := its_pick rv ra hv he
        exact ⟨x, H, I.kept hk, rx, q _ H (Same.refl H) px⟩
    · cases e
  · cases e
/-! ### default= -/
def rCK (K : PySem.W.Frag) (g : List D → D → Option D) : List V → List V → Hp → VK → Prop := fun vs zs H Q => ∃ A ds z x d, Tr A H ∧ Paired (WRp K A H) vs ds ∧ zs = [z] ∧ Rp K A H z x ∧ g ds x = some d ∧ ∀ v H', Same H H' → Res K A H H' .s v d → Q v H'
def xCallK (g : List D → D → Option D) (fs : XL) (fd : Xp) : Xp := fun ρ => (fs ρ).bind fun ds => (fd ρ).bind fun x => g ds x
theorem weak_mono {K : PySem.W.Frag} {A : Addr → Prop} {H H' : Hp} (s : Same H H') {vs : List V} {ds : List D} (w : Paired (WRp K A H) vs ds) : Paired (WRp K A H') vs ds := by
  induction w with
  | nil => exact .nil
  | cons h r ih => exact .cons (WRp.mono s h) ih
theorem vals_one {z : V} {ws : List Value} (h : Vals [z] ws) : ∃ w, ws = [w] ∧ RelV z w := by
  cases h with
  | cons h r => cases r with | nil => exact ⟨_, rfl, h⟩
theorem cb_minK (hu : X.A.units + 65 < cLine) (hc : X.calm = true := by rfl) : CallRK X (.builtin "min") [Str.ofString "default"] (rCK X.K bMinK) := by
  intro pins s σ H vs zs us ws Q I r rz ⟨A, ds, z, o, d, tr, w, ez, pz, e, q⟩
  subst ez
  obtain ⟨w0, rfl, rw0⟩ := vals_one rz
  unfold bMinK at e
  split at e
  · obtain ⟨v, rfl, w1⟩ := p1 w
    obtain ⟨xs, e1, e⟩ := bind2 e
    split at e
    · next hok =>
      obtain ⟨hal, hsh⟩ := okCmp_facts hok
      obtain ⟨a, ys, rfl, ha, ra⟩ := w1.seq e1
      rw [ref1 r]
      obtain ⟨its, rv, hl⟩ := seq_its I ha
      obtain ⟨as, rd⟩ := reads_all I rv ra fun x hx => (hsh x hx).1
      have hdp := depth_all fun x hx => (hsh x hx).2
      refine min_pickD (I.ok.hd hc) hl rd hal (by omega) (fun hz h' tk hk => ?_) fun y zs i v h' tk hxs hv he hk => ?_
      · subst hz
        cases e
        exact ⟨z, H, I.kept hk, rw0, q _ H (Same.refl H) pz⟩
      · subst hxs
        cases e
        obtain ⟨x, rx, px⟩ := its_pick rv ra hv he
        exact ⟨x, H, I.kept hk, rx, q _ H (Same.refl H) px⟩
    · cases e
  · cases e
theorem cb_maxK (hu : X.A.units + 65 < cLine) (hc : X.calm = true := by rfl) : CallRK X (.builtin "max") [Str.ofString "default"] (rCK X.K bMaxK) := by
  intro pins s σ H vs zs us ws Q I r rz ⟨A, ds, z, o, d, tr, w, ez, pz, e, q⟩
  subst ez
  obtain ⟨w0, rfl, rw0⟩ := vals_one rz
  unfold bMaxK at e
  split at e
  · obtain ⟨v, rfl, w1⟩ := p1 w
    obtain ⟨xs, e1, e⟩ := bind2 e
    split at e
    · next hok =>
      obtain ⟨hal, hsh⟩ := okCmp_facts hok
      obtain ⟨a, ys, rfl, ha, ra⟩ := w1.seq e1
      rw [ref1 r]
      obtain ⟨its, rv, hl⟩ := seq_its I ha
      obtain ⟨as, rd⟩ := reads_all I rv ra fun x hx => (hsh x hx).1
      have hdp := depth_all fun x hx => (hsh x hx).2
      refine max_pickD (I.ok.hd hc) hl rd hal (by omega) (fun hz h' tk hk => ?_) fun y zs i v h' tk hxs hv he hk => ?_
      · subst hz
        cases e
        exact ⟨z, H, I.kept hk, rw0, q _ H (Same.refl H) pz⟩
      · subst hxs
        cases e
        obtain ⟨x, rx, px⟩ := its_pick rv ra hv he
        exact ⟨x, H, I.kept hk, rx, q _ H (Same.refl H) px⟩
    · cases e
  · cases e
variable {O : List Nat} {st : Bool} {e eo : Expr} {es : List Expr} {fs : XL} {fo : Xp} {pos kpos : Pos} {m : Md}
theorem se_callK {x : Str} {p : Pos} {id : String} {ks : Str} {g : List D → D → Option D} (hc : CallRK X (.builtin id) [ks] (rCK X.K g)) (hm : X.mg x = none) (ha : SA X O st (e :: es) fs) (ho : SE X O m eo fo) (hmw : m ≠ .w := by decide) (hg : L2.Gl X x := by rfl) (hv : bootBuiltins x = some (.builtin id) := by rfl) (hn : x ≠ "__name__" := by decide) (hdb : (x == ("__debug__" : Str)) = false := by decide)
    (he : backTo pos (starEach (e :: es) X.env) = (false, eval e X.env) :: backTo pos (starEach es X.env) := by rfl) (hpl : (backTo pos (starEach (e :: es) X.env)).any (·.1) = false := by rfl)
    (hall : (backToKw pos (keywordEach [⟨some ks, eo, kpos⟩] X.env)).all (·.1.isSome) = true := by rfl) (hnone : (backToKw pos (keywordEach [⟨some ks, eo, kpos⟩] X.env)).any (·.1.isNone) = false := by rfl) (hks : (backToKw pos (keywordEach [⟨some ks, eo, kpos⟩] X.env)).filterMap (·.1) = [ks] := by rfl) :
    SE X O .s (.Call (.Name x p) (e :: es) [⟨some ks, eo, kpos⟩] pos) (xCallK g fs fo) := by
  refine ⟨pe_imp (pe_callBK hc hg hm hv ha.pa (pk_cons ho.pe pk_nil) hn hdb he hpl hall hnone hks) fun σ H Q q => ?_⟩
  obtain ⟨H0, A0, G, ρ, B, d, S, e, k⟩ := q
  obtain ⟨ds, ex, e⟩ := bind2 e
  obtain ⟨x, eo, e⟩ := bind2 e
  exact ⟨H0, A0, G, ρ, B, ds, S, ex, fun vs H1 s1 r1 => ⟨H0, A0, G, ρ, B, x, S.mono s1, eo, fun z H2 s2 r2 => ⟨Av A0 B, ds, z, x, d, (S.mono (s1.trans s2)).tr, (weak_mono s2 (ResL.weak r1)), rfl, r2.toS (S.mono s1).tr hmw, e, fun v H' s r => k v H' ((s1.trans s2).trans s) r⟩⟩⟩
end
end Pm

/-! Pm: the least of typed data, for the plain mathematics. -/
namespace Pm
open PySem PySem.Spec PySem.W PyProof.Rows L2
abbrev lt' {α : Type} [DecidableEq α] [DatumOrd α] (a b : α) : Bool := DatumOrd.lt a b
/-- a linear order of data that may be laid and compared -/
class LinD (α : Type) [DecidableEq α] [DatumOrd α] : Prop where
  tri : ∀ a b : α, lt' a b = false → lt' b a = false → a = b
  trans : ∀ a b c : α, lt' a b = false → lt' b c = false → lt' a c = false
  asym : ∀ a b : α, lt' a b = false ∨ lt' b a = false
  lay : ∀ a : α, (Datum.toD a).canLay0 = true
instance : LinD Int where
  tri a b h1 h2 := by
    have h1 := of_decide_eq_false h1
    have h2 := of_decide_eq_false h2
    omega
  trans a b c h1 h2 := by
    have h1 := of_decide_eq_false h1
    have h2 := of_decide_eq_false h2
    exact decide_eq_false (by omega)
  asym a b := by
    by_cases h : a < b
    · exact .inr (decide_eq_false (by omega))
    · exact .inl (decide_eq_false h)
  lay a := by show (PyData.int a).canLay0 = true; simp [PyData.canLay0]
section
variable {α β : Type} [DecidableEq α] [DatumOrd α] [LinD α] [DecidableEq β] [DatumOrd β] [LinD β]
theorem lt_irr (a : α) : lt' a a = false := (DatumOrd.lt_eq a a).symm.trans (dataLt_self _)
theorem lLt_cc (x y : α) (xs ys : List α) : listLt (x :: xs) (y :: ys) = if x = y then listLt xs ys else lt' x y := rfl
theorem lLt_tri : ∀ xs ys : List α, listLt xs ys = false → listLt ys xs = false → xs = ys
  | [], [], _, _ => rfl
  | [], _ :: _, h, _ => by cases h
  | _ :: _, [], _, h => by cases h
  | x :: xs, y :: ys, h1, h2 => by
    rw [lLt_cc] at h1 h2
    by_cases h : x = y
    · subst h
      rw [if_pos rfl] at h1 h2
      rw [lLt_tri xs ys h1 h2]
    · rw [if_neg h] at h1
      rw [if_neg (Ne.symm h)] at h2
      exact absurd (LinD.tri _ _ h1 h2) h
theorem lLt_trans : ∀ xs ys zs : List α, listLt xs ys = false → listLt ys zs = false → listLt xs zs = false
  | [], ys, zs, h1, h2 => by
    have : ys = [] := by
      cases ys with
      | nil => rfl
      | cons _ _ => cases h1
    subst this
    exact h2
  | x :: xs, [], zs, h1, h2 => by
    have : zs = [] := by
      cases zs with
      | nil => rfl
      | cons _ _ => cases h2
    subst this
    rfl
  | x :: xs, y :: ys, [], _, _ => rfl
  | x :: xs, y :: ys, z :: zs, h1, h2 => by
    rw [lLt_cc] at h1 h2 ⊢
    by_cases h : x = y
    · subst h
      rw [if_pos rfl] at h1
      by_cases h' : x = z
      · subst h'
        rw [if_pos rfl] at h2 ⊢
        exact lLt_trans xs ys zs h1 h2
      · rw [if_neg h'] at h2 ⊢
        exact h2
    · rw [if_neg h] at h1
      by_cases h' : y = z
      · subst h'
        rw [if_neg h]
        exact h1
      · rw [if_neg h'] at h2
        by_cases h'' : x = z
        · subst h''
          exact absurd (LinD.tri _ _ h1 h2) h
        · rw [if_neg h'']
          exact LinD.trans _ _ _ h1 h2
theorem lLt_asym : ∀ xs ys : List α, listLt xs ys = false ∨ listLt ys xs = false
  | [], ys => .inr (by cases ys <;> rfl)
  | _ :: _, [] => .inl rfl
  | x :: xs, y :: ys => by
    rw [lLt_cc, lLt_cc]
    by_cases h : x = y
    · subst h
      rw [if_pos rfl, if_pos rfl]
      exact lLt_asym xs ys
    · rw [if_neg h, if_neg (Ne.symm h)]
      exact LinD.asym x y
theorem layAll_map : ∀ xs : List α, PyData.canLayAll0 (xs.map Datum.toD) = true
  | [] => by simp [PyData.canLayAll0]
  | x :: xs => by
    rw [List.map_cons, PyData.canLayAll0, LinD.lay x, layAll_map xs]
    rfl
instance : LinD (Tup α) where
  tri a b h1 h2 := by
    cases a
    cases b
    exact congrArg Tup.mk (lLt_tri _ _ h1 h2)
  trans a b c h1 h2 := lLt_trans _ _ _ h1 h2
  asym a b := lLt_asym _ _
  lay a := by
    show (PyData.tuple (a.items.map Datum.toD)).canLay0 = true
    rw [PyData.canLay0]
    exact layAll_map _
theorem pLt (p q : α × β) : lt' p q = if p.1 = q.1 then lt' p.2 q.2 else lt' p.1 q.1 := rfl
instance : LinD (α × β) where
  tri p q h1 h2 := by
    rw [pLt] at h1 h2
    by_cases h : p.1 = q.1
    · rw [if_pos h] at h1
      rw [if_pos h.symm] at h2
      exact Prod.ext h (LinD.tri _ _ h1 h2)
    · rw [if_neg h] at h1
      rw [if_neg (Ne.symm h)] at h2
      exact absurd (LinD.tri _ _ h1 h2) h
  trans p q r h1 h2 := by
    rw [pLt] at h1 h2 ⊢
    by_cases h : p.1 = q.1
    · rw [if_pos h] at h1
      rw [h]
      by_cases h' : q.1 = r.1
      · rw [if_pos h'] at h2 ⊢
        exact LinD.trans _ _ _ h1 h2
      · rw [if_neg h'] at h2 ⊢
        exact h2
    · rw [if_neg h] at h1
      by_cases h' : q.1 = r.1
      · rw [← h', if_neg h]
        exact h1
      · rw [if_neg h'] at h2
        by_cases h'' : p.1 = r.1
        · rw [← h''] at h2
          exact absurd (LinD.tri _ _ h1 h2) h
        · rw [if_neg h'']
          exact LinD.trans _ _ _ h1 h2
  asym p q := by
    rw [pLt, pLt]
    by_cases h : p.1 = q.1
    · rw [if_pos h, if_pos h.symm]
      exact LinD.asym _ _
    · rw [if_neg h, if_neg (Ne.symm h)]
      exact LinD.asym _ _
  lay p := by
    show (PyData.tuple [Datum.toD p.1, Datum.toD p.2]).canLay0 = true
    rw [PyData.canLay0, PyData.canLayAll0, LinD.lay, PyData.canLayAll0, LinD.lay, PyData.canLayAll0]
    rfl
/-! ### the least -/
theorem minOf_spec : ∀ (xs : List α) (x : α), minOf x xs ∈ x :: xs ∧ ∀ y ∈ x :: xs, lt' y (minOf x xs) = false
  | [], x => ⟨by simp [minOf], fun y hy => by
      have : y = x := by simpa using hy
      subst this
      exact lt_irr _⟩
  | z :: zs, x => by
    have e : minOf x (z :: zs) = minOf (if lt' z x = true then z else x) zs := rfl
    rw [e]
    by_cases h : lt' z x = true
    · rw [if_pos h]
      obtain ⟨h1, h2⟩ := minOf_spec zs z
      refine ⟨List.mem_cons_of_mem _ h1, fun y hy => ?_⟩
      rcases List.mem_cons.mp hy with rfl | hy
      · refine LinD.trans _ z _ ?_ (h2 z (by simp))
        rcases LinD.asym z y with h' | h'
        · rw [h'] at h; cases h
        · exact h'
      · exact h2 y hy
    · rw [if_neg h]
      obtain ⟨h1, h2⟩ := minOf_spec zs x
      have h : lt' z x = false := by simpa using h
      refine ⟨?_, fun y hy => ?_⟩
      · rcases List.mem_cons.mp h1 with h1 | h1
        · rw [h1]; simp
        · exact List.mem_cons_of_mem _ (List.mem_cons_of_mem _ h1)
      · rcases List.mem_cons.mp hy with rfl | hy
        · exact h2 _ (by simp)
        · rcases List.mem_cons.mp hy with rfl | hy
          · exact LinD.trans _ x _ h (h2 x (by simp))
          · exact h2 y (List.mem_cons_of_mem _ hy)
theorem maxOf_spec : ∀ (xs : List α) (x : α), maxOf x xs ∈ x :: xs ∧ ∀ y ∈ x :: xs, lt' (maxOf x xs) y = false
  | [], x => ⟨by simp [maxOf], fun y hy => by
      have : y = x := by simpa using hy
      subst this
      exact lt_irr _⟩
  | z :: zs, x => by
    have e : maxOf x (z :: zs) = maxOf (if lt' x z = true then z else x) zs := rfl
    rw [e]
    by_cases h : lt' x z = true
    · rw [if_pos h]
      obtain ⟨h1, h2⟩ := maxOf_spec zs z
      refine ⟨List.mem_cons_of_mem _ h1, fun y hy => ?_⟩
      rcases List.mem_cons.mp hy with rfl | hy
      · refine LinD.trans _ z _ (h2 z (by simp)) ?_
        rcases LinD.asym y z with h' | h'
        · rw [h'] at h; cases h
        · exact h'
      · exact h2 y hy
    · rw [if_neg h]
      obtain ⟨h1, h2⟩ := maxOf_spec zs x
      have h : lt' x z = false := by simpa using h
      refine ⟨?_, fun y hy => ?_⟩
      · rcases List.mem_cons.mp h1 with h1 | h1
        · rw [h1]; simp
        · exact List.mem_cons_of_mem _ (List.mem_cons_of_mem _ h1)
      · rcases List.mem_cons.mp hy with rfl | hy
        · exact h2 _ (by simp)
        · rcases List.mem_cons.mp hy with rfl | hy
          · exact LinD.trans _ x _ (h2 x (by simp)) h
          · exact h2 y (List.mem_cons_of_mem _ hy)
def least : List α → Option α
  | [] => none
  | x :: xs => some (minOf x xs)
theorem least_iff {l : List α} {m : α} : least l = some m ↔ m ∈ l ∧ ∀ y ∈ l, lt' y m = false := by
  cases l with
  | nil => simp [least]
  | cons x xs =>
    obtain ⟨h1, h2⟩ := minOf_spec xs x
    constructor
    · intro h
      cases h
      exact ⟨h1, h2⟩
    · intro ⟨h3, h4⟩
      exact congrArg some (LinD.tri _ _ (h4 _ h1) (h2 _ h3))
theorem least_none {l : List α} : least l = none ↔ l = [] := by
  cases l <;> simp [least]
theorem least_mem {l l' : List α} (h : ∀ a, a ∈ l ↔ a ∈ l') : least l = least l' := by
  cases e : least l with
  | none =>
    rw [least_none] at e
    subst e
    symm
    rw [least_none]
    cases l' with
    | nil => rfl
    | cons x xs => exact absurd ((h x).mpr (by simp)) (by simp)
  | some m =>
    symm
    rw [least_iff] at e ⊢
    exact ⟨(h m).mp e.1, fun y hy => e.2 y ((h y).mpr hy)⟩
/-- data in a list or a tuple -/
theorem okCmp_map (hd : Datum.depth α ≤ 20) (l : List α) : okCmp (l.map Datum.toD) = true := by
  have hA := alikeAll_datum l
  unfold okCmp
  rw [Bool.and_eq_true, List.all_eq_true, List.all_eq_true]
  refine ⟨fun x hx => List.all_eq_true.mpr fun y hy => hA.1 x hx y hy, fun x hx => ?_⟩
  obtain ⟨a, _, rfl⟩ := List.mem_map.mp hx
  have h1 := Datum.depth_le a
  have h2 := DatumOrd.notNone a
  rw [Bool.and_eq_true, Bool.and_eq_true, decide_eq_true_eq]
  refine ⟨⟨?_, by omega⟩, ?_⟩
  · unfold shp SeqAt.shaped
    rw [LinD.lay a, Bool.true_and]
    exact decide_eq_true (by omega)
  · generalize Datum.toD a = d at h2
    cases d <;> first | rfl | exact absurd rfl h2
theorem minK_map (hd : Datum.depth α ≤ 20) {x : D} (l : List α) (o : D) (hx : seqD x = some (l.map Datum.toD)) : bMinK [x] o = some ((least l).elim o Datum.toD) := by
  show (seqD x).bind _ = _
  rw [hx, Option.bind_some, if_pos (okCmp_map hd l)]
  cases l with
  | nil => rfl
  | cons y ys =>
    show some (minD (Datum.toD y) (ys.map Datum.toD)) = _
    rw [minD_map]
    rfl
theorem minD_l (hd : Datum.depth α ≤ 20) {x : D} (l : List α) (hx : seqD x = some (l.map Datum.toD)) : bMinD [x] = (least l).map Datum.toD := by
  show (seqD x).bind _ = _
  rw [hx, Option.bind_some, if_pos (okCmp_map hd l)]
  cases l with
  | nil => rfl
  | cons y ys =>
    show some (minD (Datum.toD y) (ys.map Datum.toD)) = _
    rw [minD_map]
    rfl
def leB (a b : α) : Bool := !lt' b a
theorem dataLe_lt (a b : α) : dataLe false (Datum.toD : α → D) a b = leB a b := by
  show (!PyProof.Rows.lexLt itemOrd (keyToks (Datum.toD b)) (keyToks (Datum.toD a))) = !lt' b a
  rw [show PyProof.Rows.lexLt itemOrd (keyToks (Datum.toD b)) (keyToks (Datum.toD a)) = dataLt (Datum.toD b) (Datum.toD a) from rfl, DatumOrd.lt_eq]
theorem okSort_map (hd : Datum.depth α ≤ 20) (l : List α) (hl : l.length ≤ 16777216) (ht : (∀ a : α, ∃ y ys, Datum.toD a = PyData.tuple (y :: ys)) ∨ ∀ a : α, ∀ ys, Datum.toD a ≠ PyData.tuple ys) : okSort (l.map Datum.toD) = true := by
  have hA := alikeAll_datum l
  unfold okSort
  rw [Bool.and_eq_true, Bool.and_eq_true, Bool.and_eq_true]
  refine ⟨⟨⟨?_, ?_⟩, ?_⟩, ?_⟩
  · rw [List.all_eq_true]
    exact fun x hx => List.all_eq_true.mpr fun y hy => hA.1 x hx y hy
  · rw [List.all_eq_true]
    intro x hx
    obtain ⟨a, _, rfl⟩ := List.mem_map.mp hx
    have h1 := Datum.depth_le a
    rw [Bool.and_eq_true, decide_eq_true_eq]
    refine ⟨?_, by omega⟩
    unfold shp SeqAt.shaped
    rw [LinD.lay a, Bool.true_and]
    exact decide_eq_true (by omega)
  · rw [List.length_map]
    exact decide_eq_true hl
  · rw [Bool.or_eq_true]
    rcases ht with ht | ht
    · refine .inl ?_
      rw [List.all_map, List.all_eq_true]
      intro a _
      obtain ⟨y, ys, e⟩ := ht a
      rw [Function.comp, e]
    · refine .inr ?_
      rw [List.all_map, List.all_eq_true]
      intro a _
      have h1 := ht a
      have h2 := DatumOrd.notNone a
      rw [Function.comp]
      generalize Datum.toD a = d at h1 h2
      cases d <;> first | rfl | exact absurd rfl h2 | exact absurd rfl (h1 _)
theorem sorted_map (hd : Datum.depth α ≤ 20) {x : D} (l : List α) (hl : l.length ≤ 16777216) (ht : (∀ a : α, ∃ y ys, Datum.toD a = PyData.tuple (y :: ys)) ∨ ∀ a : α, ∀ ys, Datum.toD a ≠ PyData.tuple ys) (hx : seqD x = some (l.map Datum.toD)) :
    ∃ l' : List α, l'.Perm l ∧ l'.Pairwise (fun a b => lt' b a = false) ∧ l'.head? = least l ∧ bSorted [x] = some (.list (l'.map Datum.toD)) := by
  have hp : (l.mergeSort leB).Perm l := List.mergeSort_perm _ _
  have hs : (l.mergeSort leB).Pairwise (fun a b : α => leB a b = true) := List.pairwise_mergeSort (fun a b c h1 h2 => by
    unfold leB at *
    simp only [Bool.not_eq_true'] at *
    exact LinD.trans c b a h2 h1) (fun a b => by
    unfold leB
    rcases LinD.asym a b with h | h
    · rw [h]; simp
    · rw [h]; simp) l
  have hs' : (l.mergeSort leB).Pairwise (fun a b : α => lt' b a = false) := hs.imp fun h => by
    unfold leB at h
    simpa using h
  refine ⟨l.mergeSort leB, hp, hs', ?_, ?_⟩
  · cases e : l.mergeSort leB with
    | nil =>
      rw [e] at hp
      have : l = [] := List.Perm.eq_nil hp.symm
      subst this
      rfl
    | cons y ys =>
      rw [e] at hp hs'
      symm
      show least l = some y
      rw [least_iff]
      refine ⟨hp.mem_iff.mp (by simp), fun z hz => ?_⟩
      have hz := hp.mem_iff.mpr hz
      rcases List.mem_cons.mp hz with rfl | hz
      · exact lt_irr _
      · exact (List.pairwise_cons.mp hs').1 z hz
  · show (seqD x).bind _ = _
    rw [hx, Option.bind_some, if_pos (okSort_map hd l hl ht), PySem.W.sort_maps (r := leB) (s := PySem.W.dataLe false id) (Datum.toD : α → D) (fun a _ b _ => (dataLe_lt a b).symm)]
end
theorem xCallK_a {ρ : PEnv} (g : List D → D → Option D) (fs : XL) (fd : Xp) : xCallK g fs fd ρ = (fs ρ).bind fun ds => (fd ρ).bind fun x => g ds x := rfl
end Pm

/-! Pm: sorted(set(xs)), xs a tuple of ints. -/
namespace Pm
open PySem PySem.Spec PyProof.Rows L2
/-- the members once -/
def dd : List Int → List Int
  | [] => []
  | x :: xs => if x ∈ xs then dd xs else x :: dd xs
theorem mem_dd {a : Int} : ∀ {l : List Int}, a ∈ dd l ↔ a ∈ l
  | [] => Iff.rfl
  | x :: xs => by
    unfold dd
    split
    · next h =>
      rw [mem_dd, List.mem_cons]
      exact ⟨.inr, fun h' => h'.elim (fun e => e ▸ h) id⟩
    · rw [List.mem_cons, List.mem_cons, mem_dd]
theorem nodup_dd : ∀ l : List Int, (dd l).Nodup
  | [] => List.nodup_nil
  | x :: xs => by
    unfold dd
    split
    · exact nodup_dd xs
    · next h => exact List.nodup_cons.mpr ⟨fun h' => h (mem_dd.mp h'), nodup_dd xs⟩
/-- the members once, rising -/
def risen (ns : List Int) : List Int := (dd ns).mergeSort fun a b => decide (a ≤ b)
theorem risen_mem {ns : List Int} {k : Int} : k ∈ risen ns ↔ k ∈ ns := by
  unfold risen
  rw [(List.mergeSort_perm _ _).mem_iff, mem_dd]
theorem risen_lt (ns : List Int) : (risen ns).Pairwise (· < ·) := by
  unfold risen
  have h1 : ((dd ns).mergeSort fun a b => decide (a ≤ b)).Pairwise (fun a b : Int => decide (a ≤ b) = true) := List.pairwise_mergeSort (fun a b c h1 h2 => by
    rw [decide_eq_true_eq] at *
    omega) (fun a b => by
    rw [Bool.or_eq_true, decide_eq_true_eq, decide_eq_true_eq]
    omega) _
  have h2 : ((dd ns).mergeSort fun a b => decide (a ≤ b)).Nodup := (List.mergeSort_perm _ _).nodup_iff.mpr (nodup_dd _)
  refine lt_of_le_nodup _ (h1.imp fun h => by simpa using h) h2
theorem rising_eq : ∀ {a b : List Int}, a.Pairwise (· < ·) → b.Pairwise (· < ·) → (∀ k, k ∈ a ↔ k ∈ b) → a = b
  | [], [], _, _, _ => rfl
  | [], y :: ys, _, _, h => absurd ((h y).mpr (by simp)) (by simp)
  | x :: xs, [], _, _, h => absurd ((h x).mp (by simp)) (by simp)
  | x :: xs, y :: ys, ha, hb, h => by
    obtain ⟨a1, a2⟩ := List.pairwise_cons.mp ha
    obtain ⟨b1, b2⟩ := List.pairwise_cons.mp hb
    have hxy : x = y := by
      have h1 := (h x).mp (by simp)
      have h2 := (h y).mpr (by simp)
      rcases List.mem_cons.mp h1 with h1 | h1
      · exact h1
      · rcases List.mem_cons.mp h2 with h2 | h2
        · exact h2.symm
        · have := b1 x h1
          have := a1 y h2
          omega
    subst hxy
    refine congrArg (x :: ·) (rising_eq a2 b2 fun k => ?_)
    have hk := h k
    rw [List.mem_cons, List.mem_cons] at hk
    constructor
    · intro hm
      rcases hk.mp (.inr hm) with e | e
      · subst e
        exact absurd (a1 _ hm) (Int.lt_irrefl _)
      · exact e
    · intro hm
      rcases hk.mpr (.inr hm) with e | e
      · subst e
        exact absurd (b1 _ hm) (Int.lt_irrefl _)
      · exact e
def bSrtSet : List D → Option D
  | [.tuple ds] => (asInts ds).bind fun ns => if ns.length < 64 then some (.list ((risen ns).map PyData.int)) else none
  | _ => none
def rSetT (w : World) : List V → Hp → VK → Prop := fun xs H Q => ∃ (a : Addr) (ns : List Int), xs = [V.ref a] ∧ H a = some (.tup (ns.map V.int)) ∧ ns.length < 64 ∧
  ∀ (p : Addr) (c : Nat), H p = none → c ≤ ns.length → Q (.ref p) (upd H p (SetO w p (fun j => decide (j ∈ ns)) c))
section
variable {X : Cx}
theorem cr_setT (hc : X.calm = true) : CallR X (.type "set") (rSetT X.w) := by
  intro pins s σ H xs us Q I r ⟨a, ns, e1, ha, hl, q⟩
  subst e1
  rw [Vals.ref1 r]
  obtain ⟨its, rv, hl2, hz⟩ := I.tuple (.of ha)
  have hi := rv.ints
  refine call_set_tupI (items := its.toArray) ns (I.ok.hd hc) hl2 hi (by unfold scanBound; omega) fun h' tk c R hcn hk => ?_
  exact ⟨.ref _, upd H s.heap.objs.size (SetO X.w s.heap.objs.size (fun j => decide (j ∈ ns)) c), I.laid (t' := tk) hk (Nat.le_refl _) (setO_new R), rfl, q _ c (I.hok.fresh (Nat.le_refl _)) hcn⟩
theorem rp_ints {K : PySem.W.Frag} {A : Addr → Prop} {H : Hp} : ∀ ns : List Int, RpL K A H (ns.map V.int) (ns.map PyData.int)
  | [] => .nil
  | n :: ns => .cons (.int n) (rp_ints ns)
variable {O : List Nat} {st : Bool} {e : Expr} {fs : XL} {p p2 pos pos2 : Pos}
theorem se_sset (hm : X.mg "sorted" = none) (hm2 : X.mg "set" = none) (ha : SA X O st [e] fs) (hc : X.calm = true := by rfl) (hg : L2.Gl X "sorted" := by rfl) (hg2 : L2.Gl X "set" := by rfl)
    (he : starEach [e] X.env = (false, eval e X.env) :: starEach [] X.env := by rfl) (hpl : (backTo pos2 (starEach [] X.env)).any (·.1) = false := by rfl)
    (he' : starEach [.Call (.Name "set" p2) [e] [] pos2] X.env = (false, eval (.Call (.Name "set" p2) [e] [] pos2) X.env) :: starEach [] X.env := by rfl) (hpl' : (backTo pos (starEach [] X.env)).any (·.1) = false := by rfl) :
    SE X O .f (.Call (.Name "sorted" p) [.Call (.Name "set" p2) [e] [] pos2] [] pos) (xCall bSrtSet fs) := by
  refine ⟨pe_imp (pe_callB (cr_sortedSet hc) hg hm rfl (pa_cons (pe_callTy (cr_setT hc) hg2 hm2 rfl ha.pa (by decide) (by decide) he hpl) pa_nil he') (by decide) (by decide) he' hpl') fun σ H Q q => ?_⟩
  obtain ⟨H0, A0, G, ρ, B, d, S, e, k⟩ := q
  obtain ⟨ds, ex, e⟩ := bind2 e
  refine ⟨H0, A0, G, ρ, B, ds, S, ex, fun vs H1 s1 r1 => ?_⟩
  have w := r1.weak
  unfold bSrtSet at e
  split at e
  · next ds =>
    obtain ⟨ns, e1, e⟩ := bind2 e
    split at e
    · next h64 =>
      cases e
      obtain ⟨v, rfl, w1⟩ := p1 w
      obtain ⟨a, xs, rfl, hp, _, ra⟩ := w1.tup
      have hv := ra.ints e1
      subst hv
      refine ⟨a, ns, rfl, hp, h64, fun p' c hn hcn => ⟨p', _, c, rfl, upd_same, by omega, fun ns' p'' h1 h2 h3 hn2 => ?_⟩⟩
      have en : ns' = risen ns := rising_eq h1 (risen_lt ns) fun j => by
        rw [h2 j, risen_mem]
        simp
      subst en
      have sm := (s1.trans (same_upd (o := SetO X.w p' (fun j => decide (j ∈ ns)) c) hn))
      exact k _ _ (sm.trans (same_upd hn2)) (Res.newL (S.mono sm).tr hn2 (rp_ints _) sm)
    · cases e
  · cases e
end
end Pm

/-! Pm: sorted of tuples of which the first is empty. -/
namespace Pm
open PySem PySem.Spec PyProof.Rows L2
/-- all are tuples, and the first is empty -/
def SortableE (ds : List D) : Prop := ds.head? = some (.tuple []) ∧ ∀ d ∈ ds, ∃ xs, d = .tuple xs
def okSortE (ds : List D) : Bool := (ds.all fun x => ds.all fun y => PySem.W.alike x y) && (ds.all fun x => shp x && decide (x.depth ≤ 20)) && decide (ds.length ≤ 16777216) &&
  ((match ds.head? with | some (.tuple []) => true | _ => false) && ds.all fun x => match x with | .tuple _ => true | _ => false)
def bSortedE : List D → Option D
  | [x] => (seqD x).bind fun ds => if okSortE ds then some (.list (ds.mergeSort (PySem.W.dataLe false id))) else none
  | _ => none
theorem okSortE_facts {ds : List D} (h : okSortE ds = true) : PySem.W.AllAlike ds ∧ (∀ x ∈ ds, shp x = true ∧ x.depth ≤ 20) ∧ ds.length ≤ 16777216 ∧ SortableE ds := by
  unfold okSortE at h
  rw [Bool.and_eq_true, Bool.and_eq_true, Bool.and_eq_true, Bool.and_eq_true] at h
  obtain ⟨⟨⟨h1, h2⟩, h3⟩, h4, h5⟩ := h
  refine ⟨fun d hd d' hd' => ?_, fun x hx => ?_, of_decide_eq_true h3, ?_, fun d hd => ?_⟩
  · exact List.all_eq_true.mp (List.all_eq_true.mp h1 d hd) d' hd'
  · have := List.all_eq_true.mp h2 x hx
    rw [Bool.and_eq_true, decide_eq_true_eq] at this
    exact this
  · split at h4
    · assumption
    · cases h4
  · have := List.all_eq_true.mp h5 d hd
    split at this
    · exact ⟨_, rfl⟩
    · cases this
section
open PySem.W PySem.SeqAt
variable {prog : Program} {w : World} {A : Around} {E : Value → Shared → Prop} {s : Shared}
theorem call_tuple_ltE {Q : Value → Shared → Prop} {l b : Addr} {items items2 : Array Value} {e r : Nat → Bool} (hl : s.heap.IsTuple l items) (hb : s.heap.IsTuple b items2)
    (he : ∀ j (h1 : j < items.size) (h2 : j < items2.size), EqAt A.in1 s items[j] items2[j] (e j)) (hr : ∀ j (h1 : j < items.size) (h2 : j < items2.size), e j = false → RcLt A.in1 s items[j] items2[j] (r j))
    (h : Q (.bool (firstLt e r (decide (items.size < items2.size)) (List.range (min items.size items2.size)))) s) : wpAny (model prog w) A (call (.builtin "tuple.__lt__") [.ref l, .ref b]) Q E s := by
  obtain ⟨⟨cls, dd, data, sl⟩, ho, hc, n, hd⟩ := id hl
  obtain ⟨⟨cls2, dd2, data2, sl2⟩, ho2, hc2, n2, hd2⟩ := id hb
  simp only at hc hd hc2 hd2
  subst hc hd hc2 hd2
  exact call_meets F.slot_tuple_lt ⟨_, ho, rfl⟩ F.entry_tuple_lt (F.args_tuple_lt_2 _ _) (tuple_ltAt l b items items2 n n2 dd dd2 sl sl2 e r) ⟨ho, ho2, he, hr, h⟩
theorem oneLt_tup {xs ys : List D} {a b : Value} {as bs : List Addr} {Q : Bool → Shared → Prop} (ra : Reads s.heap a (.tuple xs) as) (rb : Reads s.heap b (.tuple ys) bs) (h : alike (.tuple xs) (.tuple ys) = true)
    (hu : A.units + min (PyData.tuple xs).depth (PyData.tuple ys).depth < cLine) (hq : Q (dataLt (.tuple xs) (.tuple ys)) s) : wpAny (model prog w) A (oneLt' true a b) Q E s := by
  have hal : alikeAll xs ys = true := by simpa [alike] using h
  cases ra with
  | @tuple l o vs n _ as₁ h1 h2 h3 h4 =>
    cases rb with
    | @tuple l' o' vs' n' _ bs₁ k1 k2 k3 k4 =>
      have n1 : vs.size = xs.length := by simpa using ReadsAll.length _ _ _ h4
      have n2 : vs'.size = ys.length := by simpa using ReadsAll.length _ _ _ k4
      rw [dataLt_tuple, ← firstLt_toks xs ys hal, ← n1, ← n2] at hq
      rw [oneLt'_eq]
      simp only [if_true]
      refine wpAny_bind (wpAny_cRoomFor (room_here hu) ?_)
      refine wpAny_bind (wpAny_callSpecialIfBound?_slot (T := "tuple") ⟨_, h1, h2⟩ F.slot_tuple_lt (call_tuple_ltE (e := pairEq xs ys) (r := fun j => dataLt (xs.getD j .none) (ys.getD j .none)) ⟨_, h1, h2, _, h3⟩ ⟨_, k1, k2, _, k3⟩ (fun j j1 j2 => ?_) (fun j j1 j2 hj => ?_) ?_))
      · have := eqAt_alikeAll xs ys A.in1 s vs.toList vs'.toList _ _ h4 k4 hal (room_in hu) j (by simpa using j1) (by simpa using j2)
        simpa using this
      · have := rcLt_alikeAll xs ys A.in1 s vs.toList vs'.toList _ _ h4 k4 hal (room_in hu) j (by simpa using j1) (by simpa using j2) hj
        simpa using this
      · exact wpAny_truthy_bool hq
/-- what each tuple begins with -/
theorem firstsE {M : Model} : ∀ {vs : List Value} {ds : List D} {Q : List (Option Value) → Shared → Prop}, EachIs (fun v d => ∃ as, Reads s.heap v d as) vs ds → (∀ d ∈ ds, ∃ xs, d = .tuple xs) →
    (∀ fs : List (Option Value), fs.length = vs.length → (ds.head? = some (.tuple []) → fs.head? = some none) → Q fs s) → wpAny M A (vs.mapM firstOfTuple') Q E s
  | _, _, Q, .nil, _, h => by rw [List.mapM_nil]; exact wpAny_pure (h [] rfl fun e => by cases e)
  | _, _, Q, .cons (a := v) (b := d) r rs, ht, h => by
    obtain ⟨xs, rfl⟩ := ht d (by simp)
    obtain ⟨as, r⟩ := r
    cases r with
    | @tuple l o vs' n _ as₁ h1 h2 h3 h4 =>
      rw [List.mapM_cons]
      refine wpAny_bind ?_
      rw [kas_first_eq]
      refine wpAny_bind (Looks.here (show Looks M s.heap (typeOf (.ref l)) o.cls from (Looks.ld h1).andThen .now) ?_)
      rw [h2, if_neg (by first | decide | simp)]
      refine wpAny_bind (PyProof.Rows.listItems_at h1 h3 (wpAny_pure ?_))
      refine wpAny_bind (firstsE rs (fun d hd => ht d (List.mem_cons_of_mem _ hd)) fun fs hl hh => wpAny_pure (h _ (by simp [hl]) fun e => ?_))
      have e' : xs = [] := by simpa using e
      subst e'
      have n1 : vs'.size = 0 := by simpa using SeqAt.ReadsAll.length _ _ _ h4
      have : vs'[0]? = none := by simp [n1]
      rw [List.head?_cons, this]
theorem tup_kindE {vs : List Value} {ds : List D} {Q : SortKind → Shared → Prop} (e : EachIs (fun v d => ∃ as, Reads s.heap v d as) vs ds) (hk : SortableE ds) (h : Q oneType' s) : wpAny (model prog w) A (keyKind' vs.toArray) Q E s := by
  rw [keyKind'_eq, List.mapM_toArray, map_eq_pure_bind]
  refine wpAny_bind (wpAny_bind (firstsE e hk.2 fun fs hl hh => wpAny_pure ?_))
  have hf := hh hk.1
  obtain ⟨fr, rfl⟩ : ∃ fr, fs = none :: fr := by
    cases fs with
    | nil => cases hf
    | cons f fr =>
      have : f = none := by simpa using hf
      subst this
      exact ⟨fr, rfl⟩
  rw [if_neg (by simp), if_neg (by simp)]
  rw [oneTypeOnly'_eq, List.mapM_toArray, map_eq_pure_bind]
  have hT : ∀ v ∈ vs, Looks (model prog w) s.heap (typeOf v) (Value.type "tuple") := fun v hv => by
    obtain ⟨d, hd, as, r⟩ := e.left v hv
    obtain ⟨xs, rfl⟩ := hk.2 d hd
    exact looks_reads r
  refine wpAny_bind (wpAny_bind (wpAny_bind (kas_mapM (r := Value.type "tuple") _ (fun v hv Q' hq => (hT v hv).here hq) (wpAny_pure ?_))))
  obtain ⟨v₁, rest, rfl⟩ : ∃ v₁ rest, vs = v₁ :: rest := by
    cases vs with
    | nil => simp at hl
    | cons v r => exact ⟨v, r, rfl⟩
  have hall : ((List.map (fun _ => Value.type "tuple") (v₁ :: rest)).toArray.all fun x => x == Value.type "tuple") = true := by
    simp only [List.all_toArray, List.all_map, List.all_eq_true]
    intro _ _
    exact beq_self_eq_true _
  have h0 : (List.map (fun _ => Value.type "tuple") (v₁ :: rest)).toArray[0]? = some (Value.type "tuple") := by simp
  rw [h0]
  simp only [hall, if_true]
  exact wpAny_pure (wpAny_pure h)
theorem dataE {vs : List Value} {ds : List D} (e : EachIs (fun v d => ∃ as, Reads s.heap v d as) vs ds) (hal : AllAlike ds) (hk : SortableE ds) (hu : ∀ d, d ∈ ds → A.units + d.depth < cLine) : SortsAt prog w A s (dataKind s.heap ds) vs := by
  have room : ∀ {d d' : PyData}, d ∈ ds → A.units + min d.depth d'.depth < cLine := fun {d d'} hd => Nat.lt_of_le_of_lt (Nat.add_le_add_left (Nat.min_le_left _ _) _) (hu d hd)
  refine ⟨fun v hv => ?_, oneType', ?_, fun h2 E Q hq => tup_kindE e hk hq⟩
  · obtain ⟨d, hd, as, r⟩ := e.left v hv
    exact ⟨_, dataKind_some hal hd r⟩
  · intro E x y a b Q ha hb hq
    obtain ⟨d, as, hd, ra, rfl⟩ := dataKind_inv ha
    obtain ⟨d', as', hd', rb, rfl⟩ := dataKind_inv hb
    rw [keyLt'_oneType]
    obtain ⟨xs, rfl⟩ := hk.2 d hd
    obtain ⟨ys, rfl⟩ := hk.2 d' hd'
    exact oneLt_tup ra rb (hal _ hd _ hd') (room hd) hq
end
section
open PySem.W PySem.Calls
variable {prog : Program} {w : World} {A : Around} {E : Value → Shared → Prop} {s : Shared} {β : Type} {R : Value → β → Prop} {enc : β → D} {us : List Value} {bs : List β}
/-- sorted(xs), xs a list or a tuple that reads as data -/
theorem sorted_seqE {l : Addr} {T : String} {o : Obj} {n : Nat} {Q : Value → Shared → Prop} (hT : T = "list" ∨ T = "tuple") (ho : s.heap.get? l = some o) (hc : o.cls = .type T) (hd : o.data = .seq us.toArray n)
    (e : EachIs R us bs) (er : EachIs (fun v b => ∃ as, Reads s.heap v (enc b) as) us bs) (hal : AllAlike (bs.map enc)) (hk : SortableE (bs.map enc)) (hL : bs.length ≤ sizeLine) (hu : ∀ b, b ∈ bs → A.units + 2 + (enc b).depth < cLine)
    (hQ : ∀ (h' : Heap) (d : Addr) (out : List Value) (m : Nat), (∀ b u, s.heap.get? b = some u → h'.get? b = some u) → s.heap.objs.size ≤ d → h'.get? d = some (seqObj "list" out.toArray m) → EachIs R out (bs.mergeSort (dataLe false enc)) → Q (.ref d) { s with heap := h' }) :
    wpAny (model prog w) A (call (.builtin "sorted") [.ref l]) Q E s := by
  have hsz : us.length ≤ sizeLine := by rw [e.length]; exact hL
  refine Calls.call_function_entry kind_sorted plain_sorted entry_sorted (args_sorted1 _) ?_
  unfold Builtin.«sorted»
  apply wpAny_bind (m := checkCount "sorted" 1 1 _)
  apply wpAny_pure
  refine wpAny_bind (took_seq hT ho hc hd hsz ?_)
  refine wpAny_bind (wpAny_newList ?_ hsz)
  generalize hh1 : tookH s.heap us = h1
  have k1 : ∀ b u, s.heap.get? b = some u → h1.get? b = some u := fun b u hb => by rw [← hh1]; exact tookH_old hb
  have hge : s.heap.objs.size ≤ h1.objs.size := by rw [← hh1, tookH_size]; omega
  have hs2 : (h1.push (seqObj "list" us.toArray 0)).get? h1.objs.size = some (seqObj "list" us.toArray 0) := Heap.get?_push_size _ rfl
  have k2 : ∀ b u, s.heap.get? b = some u → (h1.push (seqObj "list" us.toArray 0)).get? b = some u := fun b u hb => Heap.get?_push_of_some _ (k1 b u hb)
  have hlt : ∀ b u, s.heap.get? b = some u → b < h1.objs.size := fun b u hb => Heap.lt_size (k1 b u hb)
  have er2 : EachIs (fun v b => ∃ as, Reads (sortingHeap (h1.push (seqObj "list" us.toArray 0)) h1.objs.size us) v (enc b) as) us bs := each_mono (fun v b ⟨as, r⟩ => ⟨as, PyProof.Rows.Reads.keeps (fun b u hb => sortingHeap_old (Nat.ne_of_lt (hlt b u hb)) (k2 b u hb)) r⟩) er
  have hS := dataE (prog := prog) (w := w) (A := A.in1.in1) (s := { s with heap := sortingHeap (h1.push (seqObj "list" us.toArray 0)) h1.objs.size us }) (each_map (R := fun v d => ∃ as, Reads (sortingHeap (h1.push (seqObj "list" us.toArray 0)) h1.objs.size us) v d as) enc er2) hal hk (bound_map fun b hb => hu b hb)
  refine wpAny_bind (wpAny_holding ?_)
  refine wpAny_call_entry slot_list_sort ⟨_, hs2, rfl⟩ entry_list_sort ?_ (args_list_sort _)
  refine list_sort_vals (s := { s with heap := h1.push (seqObj "list" us.toArray 0) }) hs2 hS hsz ⟨.none, rfl, ?_⟩
  apply wpAny_pure
  obtain ⟨m, hm⟩ := sortedHeap_at (vs := us) (out := (sortVals (dataKind (sortingHeap (h1.push (seqObj "list" us.toArray 0)) h1.objs.size us) (bs.map enc)) false us us).toArray) hs2
  refine ⟨_, rfl, hQ _ _ _ m (fun b u hb => ?_) hge hm (sortVals_data false e er2 hal)⟩
  have q := k2 b u hb
  rw [← q]
  exact sortedHeap_old (Nat.ne_of_lt (hlt b u hb)) (Heap.lt_size q)
end
section
variable {X : Cx}
theorem cb_sortedE (hu : X.A.units + 65 < cLine) : CallR X (.builtin "sorted") (rC X.K .f bSortedE) := by
  intro pins s σ H vs us Q I r ⟨A, ds, d, tr, w, e, q⟩
  unfold bSortedE at e
  split at e
  · obtain ⟨v, rfl, w1⟩ := p1 w
    obtain ⟨xs, e1, e⟩ := bind2 e
    split at e
    · next hok =>
      cases e
      obtain ⟨hal, hsh, hlen, hsb⟩ := okSortE_facts hok
      obtain ⟨a, ys, rfl, ha, ra⟩ := w1.seq e1
      rw [ref1 r]
      obtain ⟨its, T, o, n, rv, hT, ho, hc, hd, hz⟩ : ∃ (its : List Value) (T : String) (o : Obj) (n : Nat), Vals ys its ∧ (T = "list" ∨ T = "tuple") ∧ s.heap.get? a = some o ∧ o.cls = .type T ∧ o.data = .seq its.toArray n ∧ ys.length ≤ sizeLine := by
        rcases ha with ha | ha
        · obtain ⟨its, rv, hl, hz⟩ := I.list (.of ha)
          obtain ⟨o, ho, hc, n, hd⟩ := hl.isList
          exact ⟨its, "list", o, n, rv, .inl rfl, ho, hc, hd, hz⟩
        · obtain ⟨its, rv, hl, hz⟩ := I.tuple (.of ha)
          obtain ⟨o, ho, hc, n, hd⟩ := hl
          exact ⟨its, "tuple", o, n, rv, .inr rfl, ho, hc, hd, hz⟩
      have hyl := ra.length
      have hme : (ys.zip xs).map Prod.snd = xs := List.map_snd_zip (by omega)
      have hE := zip_each rv ra
      refine sorted_seqE (β := V × D) (enc := Prod.snd) (bs := ys.zip xs) (R := fun u (p : V × D) => RelV p.1 u ∧ Rp X.K A H p.1 p.2) hT ho hc hd hE (each_mem hE fun u p hp hr => ?_) (by rw [hme]; exact hal) (by rw [hme]; exact hsb) (by rw [List.length_zip]; omega) (fun p hp => ?_) fun h' d out m hk hp he eo => ?_
      · have hm : p.2 ∈ xs := (List.of_mem_zip (a := p.1) (b := p.2) hp).2
        exact Dp.reads I _ p.1 u ((WRp.dp (.inl hr.2) (hsh _ hm).1)) hr.1
      · have hm : p.2 ∈ xs := (List.of_mem_zip (a := p.1) (b := p.2) hp).2
        have := (hsh _ hm).2
        omega
      · obtain ⟨v1, r1⟩ := each_out eo
        have hsm : ((ys.zip xs).mergeSort (PySem.W.dataLe false Prod.snd)).map Prod.snd = xs.mergeSort (PySem.W.dataLe false id) := by
          have := PySem.W.sort_maps (r := PySem.W.dataLe false Prod.snd) (s := PySem.W.dataLe false id) (Prod.snd : V × D → D) (l := ys.zip xs) (fun _ _ _ _ => rfl)
          rw [this, hme]
        rw [hsm] at r1
        have hlo : (((ys.zip xs).mergeSort (PySem.W.dataLe false Prod.snd)).map Prod.fst).length ≤ sizeLine := by
          rw [List.length_map, List.length_mergeSort, List.length_zip]
          omega
        have hp' : H d = none := I.hok.fresh hp
        exact ⟨.ref d, upd H d (.lst (((ys.zip xs).mergeSort (PySem.W.dataLe false Prod.snd)).map Prod.fst)), I.laid (t' := s.toks) hk hp ⟨hlo, out, m, v1, he⟩, rfl, q _ _ (same_upd hp') (Res.newL tr hp' r1 (Same.refl H))⟩
    · cases e
  · cases e
end
end Pm

/-! Pm: xs[j] op= e, xs one's own list. -/
namespace Pm
open PySem PySem.Spec PyProof.Rows L2
def rGetLs : V → V → Hp → VK → Prop := fun o i H Q => ∃ (p : Addr) (xs : List V) (k : Int) (z : V), o = .ref p ∧ i = .int k ∧ H p = some (.lst xs) ∧ L2.atI xs k = some z ∧ Q z H
theorem get_list {X : Cx} : PGet X rGetLs := by
  intro pins s σ H o i ov iv Q I ro ri h
  obtain ⟨p, xs, k, z, rfl, rfl, hq, he, q⟩ := h
  cases ro
  obtain ⟨t, rfl⟩ := ri
  obtain ⟨its, r, pl, hz⟩ := I.list (.of hq)
  obtain ⟨j, h1, h2, h3, h4, h5⟩ := atI_get he
  obtain ⟨w, ew, rw'⟩ := r.get h2
  have hl := r.length
  have hn := line63
  have fin : EP X pins σ Q w s := ⟨z, H, I, rw', q⟩
  by_cases h0 : 0 ≤ k
  · have hj : k.toNat = j := by
      rw [seqIndex_of h0 h5] at h1
      exact Option.some.inj h1
    exact wpAny_getItem_list pl.isList h0 (by omega) (by rw [hj]; simpa using ew) fin
  · have hj : (k + (its.toArray.size : Int)).toNat = j := by
      rw [seqIndex_neg (by omega) h4] at h1
      rw [List.size_toArray, ← hl]
      exact Option.some.inj h1
    exact wpAny_getItem_list_neg pl.isList (by omega) (by rw [List.size_toArray] <;> omega) (by omega) (by rw [hj]; simpa using ew) fin
def sAugI (i : Nat) (fj f : Xp) (g : D → D → Option D) : XS := fun ρ => (xVar i ρ).bind fun o => (fj ρ).bind fun z => match o, z with
  | .list xs, .int j => (L2.atI xs j).bind fun old => (f ρ).bind fun y => (g old y).bind fun new => (ixN xs.length j).bind fun n => if i < ρ.length then some (.nx (ρ.set i (some (.list (xs.set n new))))) else none
  | _, _ => none
section
variable {X : Cx} {O : List Nat} {Ob Oc : List Nat} {m mb : Md} {e : Expr} {f : Xp} {pos p1 p2 : Pos}
theorem ss_augI (i : Nat) {x : Str} {j : Expr} {fj : Xp} {op : Operator} {g : D → D → Option D} (ho : OpR X (inplaceOp op) (rD X.K .f g)) (hj : SE X O mb j fj) (he : SE X O m e f) (hO : O.contains i = true := by rfl) (hN : X.N[i]? = some x := by rfl) (hv : Vis X.env.scope x := by first | exact Or.inl rfl | exact Or.inr (Or.inl rfl) | exact Or.inr (Or.inr rfl))
    (hd : (x == ("__debug__" : Str)) = false := by decide) (hcd : (x == ("__classdict__" : Str)) = false := by decide)
    (ha : ∀ ov iv new, augStore j ov iv new = (do holding [new, ov, iv] (setItem ov iv new); release [new, ov, iv] []; pure .next) := by intros; rfl) :
    SS X O Ob Oc O (.AugAssign (.Subscript (.Name x p1) j p2) op e pos) (sAugI i fj f g) := by
  refine ⟨ps_imp (ps_augS (pe_var hN hv hd hcd) hj.pe get_list he.pe (tip := rD X.K .f g) ho set_list ha) fun D σ H q => ?_⟩
  obtain ⟨H0, A0, G, ρ, B, o, S, e, k⟩ := q
  obtain ⟨d, ed, e⟩ := bind2 e
  obtain ⟨z, ez, e⟩ := bind2 e
  split at e
  · next xs jj =>
    obtain ⟨old, eo, e⟩ := bind2 e
    obtain ⟨y, ey, e⟩ := bind2 e
    obtain ⟨new, en', e⟩ := bind2 e
    obtain ⟨n, en, e⟩ := bind2 e
    split at e
    · rename_i hz
      cases e
      obtain ⟨a, vs, hB, hσ, hal, ra⟩ := own_of S hO ed
      refine ⟨.ref a, hσ, H0, A0, G, ρ, B, _, S, ez, fun u H1 s1 r1 => ?_⟩
      have S1 := S.mono s1
      have ra1 := ra.mono s1
      obtain ⟨ov, eov, rov⟩ := ra1.atI eo
      refine ⟨a, vs, _, ov, rfl, r1.toW.int, s1 _ _ hal, eov, H0, A0, G, ρ, B, y, S1, ey, fun w H2 s2 r2 => ?_⟩
      have S2 := S1.mono s2
      refine ⟨Av A0 B, old, y, new, S2.tr, .inl (rov.mono s2), r2.toW, en', fun nv H3 s3 r3 => ?_⟩
      have S3 := S2.mono s3
      have s13 := (s1.trans s2).trans s3
      refine ⟨a, vs, _, n, rfl, r1.toW.int, s13 _ _ hal, by rw [ra.length]; exact en, ?_⟩
      have av : Av A0 B a := .inr ⟨i, hB⟩
      exact k _ _ B (S3.write hB hσ (upd_lst av (RpL.set (r3.toS S2.tr (by decide)) n (ra.mono s13))) hz)
    · cases e
  · cases e
end
theorem sAugI_a {ρ : PEnv} (i : Nat) (fj f : Xp) (g : D → D → Option D) (xs : List D) (j : Int) (h1 : ρ.getD i none = some (.list xs)) (h2 : fj ρ = some (.int j)) : sAugI i fj f g ρ = ((L2.atI xs j).bind fun old => (f ρ).bind fun y => (g old y).bind fun new => (ixN xs.length j).bind fun n => if i < ρ.length then some (.nx (ρ.set i (some (.list (xs.set n new))))) else none) := by
  unfold sAugI
  rw [show xVar i ρ = ρ.getD i none from rfl, h1, h2]
  rfl
end Pm


/-! the walk of dockheld_k13_whole_sure_pay, printed by gen.py -/
namespace K13
open PySem PySem.Spec PyProof.Rows L2 Pm
def topS (i : Nat) : Stmt := PySem.Challenge.pw_dockheld_k13_whole_sure_pay.main.body.getD i (.Pass ⟨0, 0, 0, 0⟩)
section
variable {P : Program} {w : World} {K : PySem.W.Frag} {mg : Str → Option Value} {base : Heap}
/-! ### divisor -/
abbrev s_divisor : Stmt := topS 1
theorem sc_divisor : FnScope ["first", "second"] ["first", "second"] (defScope s_divisor) := ⟨rfl, rfl, rfl, by decide +kernel, rfl, by decide +kernel, by decide +kernel⟩
def l1_divisor : XS :=
  (sSeq (sPar [0, 1] (xCons (xVar 1) (xCons (xBin oMod (xVar 0) (xVar 1)) xNil)))
  sNop)
def g_divisor : XS :=
  (sSeq (sPar [0, 1] (xCons (xCall bAbs (xCons (xVar 0) xNil)) (xCons (xCall bAbs (xCons (xVar 1) xNil)) xNil)))
  (sSeq (sWhile (tOf (xBin oGt (xVar 1) (xC (.int 0)))) l1_divisor)
  (sRet (xVar 0))))
def d_divisor : List D → Option D := runD 2 2 g_divisor
theorem ok_divisor {f : Addr} {fd : FuncData} (F : FnP K "divisor" s_divisor f fd) (b_abs : mg "abs" = none) : FnOk P w K mg base CX0 1 f fd ["first", "second"] (spD K 2 d_divisor) := by
  have nd := sc_divisor.nd
  refine fnp_ok (k := 0) (O' := []) F sc_divisor fun cdv A outer s H E hr => ?_
  exact (by exact ss_cons (by exact ss_par 0 1 nd (by exact sam_cons (by exact se_callB (st := false) cb_abs b_abs (by exact sa_cons (by exact se_var 0) sa_nil)) (by exact sam_cons (by exact se_callB (st := false) cb_abs b_abs (by exact sa_cons (by exact se_var 1) sa_nil)) sam_nil))) (by exact ss_cons (by exact SS.weak (O1 := [1]) (by exact ss_while (O' := [1]) (by exact st_cmp op_gtD (by exact se_varW 1) se_int) (by exact ss_cons (by exact SS.weak (O1 := []) (by exact ss_par 0 1 nd (by exact sam_cons (by exact se_var 1) (by exact sam_cons (by exact se_op op_modD (by exact se_var 0) (by exact se_var 1)) sam_nil)))) ss_nil))) (by exact ss_last (by exact ss_ret (by exact se_var 0)))))
/-! ### lowest -/
abbrev s_lowest : Stmt := topS 2
theorem sc_lowest : FnScope ["a", "b", "common"] ["a", "b"] (defScope s_lowest) := ⟨rfl, rfl, rfl, by decide +kernel, rfl, by decide +kernel, by decide +kernel⟩
def g_lowest : XS :=
  (sSeq (sSet 2 (xIf (tOf (xBin oGt (xVar 1) (xC (.int 0)))) (xCall (fun ds => if ds.length = 2 then (d_divisor) ds else none) (xCons (xVar 0) (xCons (xVar 1) xNil))) (xUn oNeg (xCall (fun ds => if ds.length = 2 then (d_divisor) ds else none) (xCons (xVar 0) (xCons (xVar 1) xNil))))))
  (sRet (xTup (xCons (xBin oFdiv (xVar 0) (xVar 2)) (xCons (xBin oFdiv (xVar 1) (xVar 2)) xNil)))))
def d_lowest : List D → Option D := runD 2 3 g_lowest
theorem ok_lowest {f : Addr} {fd : FuncData} (F : FnP K "lowest" s_lowest f fd) (D_divisor : Def P w K mg base 1 "divisor" ["first", "second"] (d_divisor)) : FnOk P w K mg base CX0 2 f fd ["a", "b"] (spD K 2 d_lowest) := by
  have nd := sc_lowest.nd
  refine fnp_ok (k := 1) (O' := []) F sc_lowest fun cdv A outer s H E hr => ?_
  exact (by exact ss_cons (by exact ss_setS 2 nd (by exact se_if (by exact st_cmp op_gtD (by exact se_var 1) se_int) (by exact se_callD D_divisor hr (by exact sa_cons (by exact se_var 0) (by exact sa_cons (by exact se_var 1) sa_nil))) (by exact SE.toS (by exact se_un un_negD (by exact se_callD D_divisor hr (by exact sa_cons (by exact se_var 0) (by exact sa_cons (by exact se_var 1) sa_nil))))))) (by exact ss_last (by exact ss_ret (by exact se_tup (by exact sa_cons (by exact se_op op_fdivD (by exact se_var 0) (by exact se_var 2)) (by exact sa_cons (by exact se_op op_fdivD (by exact se_var 1) (by exact se_var 2)) sa_nil))))))
/-! ### plus -/
abbrev s_plus : Stmt := topS 3
theorem sc_plus : FnScope ["first", "second"] ["first", "second"] (defScope s_plus) := ⟨rfl, rfl, rfl, by decide +kernel, rfl, by decide +kernel, by decide +kernel⟩
def g_plus : XS :=
  (sRet (xCall (fun ds => if ds.length = 2 then (d_lowest) ds else none) (xCons (xBin oAdd (xBin oMul' (xBin oIx (xVar 0) (xC (.int 0))) (xBin oIx (xVar 1) (xC (.int 1)))) (xBin oMul' (xBin oIx (xVar 1) (xC (.int 0))) (xBin oIx (xVar 0) (xC (.int 1))))) (xCons (xBin oMul' (xBin oIx (xVar 0) (xC (.int 1))) (xBin oIx (xVar 1) (xC (.int 1)))) xNil))))
def d_plus : List D → Option D := runD 2 2 g_plus
theorem ok_plus {f : Addr} {fd : FuncData} (F : FnP K "plus" s_plus f fd) (D_lowest : Def P w K mg base 2 "lowest" ["a", "b"] (d_lowest)) : FnOk P w K mg base CX0 3 f fd ["first", "second"] (spD K 2 d_plus) := by
  have nd := sc_plus.nd
  refine fnp_ok (k := 2) (O' := []) F sc_plus fun cdv A outer s H E hr => ?_
  exact (by exact ss_last (by exact ss_ret (by exact se_callD D_lowest hr (by exact sa_cons (by exact se_op op_addD (by exact se_op op_mulD' (by exact se_ix (by exact se_var 0) se_int) (by exact se_ix (by exact se_var 1) se_int)) (by exact se_op op_mulD' (by exact se_ix (by exact se_var 1) se_int) (by exact se_ix (by exact se_var 0) se_int))) (by exact sa_cons (by exact se_op op_mulD' (by exact se_ix (by exact se_var 0) se_int) (by exact se_ix (by exact se_var 1) se_int)) sa_nil)))))
/-! ### times -/
abbrev s_times : Stmt := topS 4
theorem sc_times : FnScope ["first", "second"] ["first", "second"] (defScope s_times) := ⟨rfl, rfl, rfl, by decide +kernel, rfl, by decide +kernel, by decide +kernel⟩
def g_times : XS :=
  (sRet (xCall (fun ds => if ds.length = 2 then (d_lowest) ds else none) (xCons (xBin oMul' (xBin oIx (xVar 0) (xC (.int 0))) (xBin oIx (xVar 1) (xC (.int 0)))) (xCons (xBin oMul' (xBin oIx (xVar 0) (xC (.int 1))) (xBin oIx (xVar 1) (xC (.int 1)))) xNil))))
def d_times : List D → Option D := runD 2 2 g_times
theorem ok_times {f : Addr} {fd : FuncData} (F : FnP K "times" s_times f fd) (D_lowest : Def P w K mg base 2 "lowest" ["a", "b"] (d_lowest)) : FnOk P w K mg base CX0 3 f fd ["first", "second"] (spD K 2 d_times) := by
  have nd := sc_times.nd
  refine fnp_ok (k := 2) (O' := []) F sc_times fun cdv A outer s H E hr => ?_
  exact (by exact ss_last (by exact ss_ret (by exact se_callD D_lowest hr (by exact sa_cons (by exact se_op op_mulD' (by exact se_ix (by exact se_var 0) se_int) (by exact se_ix (by exact se_var 1) se_int)) (by exact sa_cons (by exact se_op op_mulD' (by exact se_ix (by exact se_var 0) se_int) (by exact se_ix (by exact se_var 1) se_int)) sa_nil)))))
/-! ### all_orders -/
abbrev s_all_orders : Stmt := topS 5
theorem sc_all_orders : FnScope ["n", "rows", "_", "row", "index"] ["n"] (defScope s_all_orders) := ⟨rfl, rfl, rfl, by decide +kernel, rfl, by decide +kernel, by decide +kernel⟩
def l1_all_orders : XS :=
  (sSeq (sSet 1 (xLc2 (xSeq (xVar 1)) (gSet 3) tYesP (xIt oR1 (xCons (xVar 0) xNil)) (gSet 4) (tOf (xBin oNotIn (xVar 4) (xVar 3))) (xBin oAdd (xVar 3) (xTup (xCons (xVar 4) xNil))) [3, 4] [4]))
  sNop)
def g_all_orders : XS :=
  (sSeq (sSet 1 (xLst (xCons (xTup xNil) xNil)))
  (sSeq (sFor (xIt oR1 (xCons (xVar 0) xNil)) (gSet 2) l1_all_orders)
  (sRet (xVar 1))))
def d_all_orders : List D → Option D := runD 1 5 g_all_orders
theorem ok_all_orders {f : Addr} {fd : FuncData} (F : FnP K "all_orders" s_all_orders f fd) (b_range : mg "range" = none) : FnOk P w K mg base CX0 1 f fd ["n"] (spD K 1 d_all_orders) := by
  have nd := sc_all_orders.nd
  refine fnp_ok (k := 0) (O' := []) F sc_all_orders fun cdv A outer s H E hr => ?_
  exact (by exact ss_cons (by exact ss_setF 1 nd (by exact se_lst (by exact sa_cons (by exact se_tup sa_nil) sa_nil))) (by exact ss_cons (by exact ss_for (O' := [1]) (by exact si_r1 (st := false) b_range (by exact sa_cons (by exact se_var 0) sa_nil)) (by exact sg_name 2 nd) (by exact ss_cons (by exact ss_setLc2 1 (vs1 := [4]) nd (by exact si_seq (m := .w) (by exact se_varW 1)) (blkOk_by (own := [("row", 3), ("index", 4)]) rfl) (fun _ _ _ _ _ => (by exact sg_name 3 nd)) (fun _ _ _ _ _ => sts_nil) (fun _ _ _ _ _ => (by exact si_r1 (st := false) b_range (by exact sa_cons (by exact se_var 0) sa_nil))) (fun _ _ _ _ _ => (by exact sg_name 4 nd)) (fun _ _ _ _ _ => (by exact sts_one (by exact st_cmp (op_notInP hr) (by exact se_var 4) (by exact se_var 3)))) (fun _ _ _ _ _ => (by exact se_op op_addD (by exact se_var 3) (by exact se_tup (by exact sa_cons (by exact se_var 4) sa_nil))))) ss_nil)) (by exact ss_last (by exact SS.weak (O1 := []) (by exact ss_ret (by exact se_var 1))))))
/-! ### all_rows -/
abbrev s_all_rows : Stmt := topS 6
theorem sc_all_rows : FnScope ["count", "most", "rows", "_", "row", "number"] ["count", "most"] (defScope s_all_rows) := ⟨rfl, rfl, rfl, by decide +kernel, rfl, by decide +kernel, by decide +kernel⟩
def l1_all_rows : XS :=
  (sSeq (sSet 2 (xLc2 (xSeq (xVar 2)) (gSet 4) tYesP (xIt oR1 (xCons (xVar 1) xNil)) (gSet 5) tYesP (xBin oAdd (xVar 4) (xTup (xCons (xVar 5) xNil))) [4, 5] [5]))
  sNop)
def g_all_rows : XS :=
  (sSeq (sSet 2 (xLst (xCons (xTup xNil) xNil)))
  (sSeq (sFor (xIt oR1 (xCons (xVar 0) xNil)) (gSet 3) l1_all_rows)
  (sRet (xVar 2))))
def d_all_rows : List D → Option D := runD 2 6 g_all_rows
theorem ok_all_rows {f : Addr} {fd : FuncData} (F : FnP K "all_rows" s_all_rows f fd) (b_range : mg "range" = none) : FnOk P w K mg base CX0 1 f fd ["count", "most"] (spD K 2 d_all_rows) := by
  have nd := sc_all_rows.nd
  refine fnp_ok (k := 0) (O' := []) F sc_all_rows fun cdv A outer s H E hr => ?_
  exact (by exact ss_cons (by exact ss_setF 2 nd (by exact se_lst (by exact sa_cons (by exact se_tup sa_nil) sa_nil))) (by exact ss_cons (by exact ss_for (O' := [2]) (by exact si_r1 (st := false) b_range (by exact sa_cons (by exact se_var 0) sa_nil)) (by exact sg_name 3 nd) (by exact ss_cons (by exact ss_setLc2 2 (vs1 := [5]) nd (by exact si_seq (m := .w) (by exact se_varW 2)) (blkOk_by (own := [("row", 4), ("number", 5)]) rfl) (fun _ _ _ _ _ => (by exact sg_name 4 nd)) (fun _ _ _ _ _ => sts_nil) (fun _ _ _ _ _ => (by exact si_r1 (st := false) b_range (by exact sa_cons (by exact se_var 1) sa_nil))) (fun _ _ _ _ _ => (by exact sg_name 5 nd)) (fun _ _ _ _ _ => sts_nil) (fun _ _ _ _ _ => (by exact se_op op_addD (by exact se_var 4) (by exact se_tup (by exact sa_cons (by exact se_var 5) sa_nil))))) ss_nil)) (by exact ss_last (by exact SS.weak (O1 := []) (by exact ss_ret (by exact se_var 2))))))
/-! ### whole -/
abbrev s_whole : Stmt := topS 8
theorem sc_whole : FnScope ["number"] ["number"] (defScope s_whole) := ⟨rfl, rfl, rfl, by decide +kernel, rfl, by decide +kernel, by decide +kernel⟩
def g_whole : XS :=
  (sRet (xTup (xCons (xVar 0) (xCons (xC (.int 1)) xNil))))
def d_whole : List D → Option D := runD 1 1 g_whole
theorem ok_whole {f : Addr} {fd : FuncData} (F : FnP K "whole" s_whole f fd) : FnOk P w K mg base CX0 1 f fd ["number"] (spD K 1 d_whole) := by
  have nd := sc_whole.nd
  refine fnp_ok (k := 0) (O' := []) F sc_whole fun cdv A outer s H E hr => ?_
  exact (by exact ss_last (by exact ss_ret (by exact se_tup (by exact sa_cons (by exact se_var 0) (by exact sa_cons se_int sa_nil)))))
/-! ### ends_in -/
abbrev s_ends_in : Stmt := topS 10
theorem sc_ends_in : FnScope ["ships", "works", "order", "index", "day", "found"] ["ships", "works", "order"] (defScope s_ends_in) := ⟨rfl, rfl, rfl, by decide +kernel, rfl, by decide +kernel, by decide +kernel⟩
def l1_ends_in : XS :=
  (sSeq (sSet 4 (xBin oAdd (xCall bMax2 (xCons (xVar 4) (xCons (xBin oIx (xBin oIx (xVar 0) (xVar 3)) (xC (.int 0))) xNil))) (xBin oIx (xVar 1) (xVar 3))))
  (sSeq (sPutK 5 (xVar 3) (xBin oSub (xVar 4) (xC (.int 1))))
  sNop))
def g_ends_in : XS :=
  (sSeq (sPar [4, 5] (xCons (xC (.int 0)) (xCons (xC (.dict [])) xNil)))
  (sSeq (sFor (xSeq (xVar 2)) (gSet 3) l1_ends_in)
  (sRet (xVar 5))))
def d_ends_in : List D → Option D := runD 3 6 g_ends_in
theorem ok_ends_in {f : Addr} {fd : FuncData} (F : FnP K "ends_in" s_ends_in f fd) (b_max : mg "max" = none) : FnOk P w K mg base CX0 1 f fd ["ships", "works", "order"] (spD K 3 d_ends_in) := by
  have nd := sc_ends_in.nd
  refine fnp_ok (k := 0) (O' := []) F sc_ends_in fun cdv A outer s H E hr => ?_
  exact (by exact ss_cons (by exact ss_par 4 5 nd (by exact sam_cons se_int (by exact sam_cons se_new sam_nil))) (by exact ss_cons (by exact ss_for (O' := [5, 4]) (by exact si_seq (m := .s) (by exact se_var 2)) (by exact sg_name 3 nd) (by exact ss_cons (by exact ss_setF 4 nd (by exact se_op op_addD (by exact se_callB (st := false) cb_max2 b_max (by exact sa_cons (by exact se_varW 4) (by exact sa_cons (by exact se_ix (by exact se_ix (by exact se_var 0) (by exact se_var 3)) se_int) sa_nil))) (by exact se_ix (by exact se_var 1) (by exact se_var 3)))) (by exact ss_cons (by exact ss_putK 5 hr (by exact se_op op_subD (by exact se_varW 4) se_int) (by exact se_var 3)) ss_nil))) (by exact ss_last (by exact SS.weak (O1 := [4]) (by exact ss_ret (by exact se_var 5))))))
/-! ### keeps_with -/
abbrev s_keeps_with : Stmt := topS 11
theorem sc_keeps_with : FnScope ["ships", "works", "order", "ends", "index"] ["ships", "works", "order"] (defScope s_keeps_with) := ⟨rfl, rfl, rfl, by decide +kernel, rfl, by decide +kernel, by decide +kernel⟩
def g_keeps_with : XS :=
  (sSeq (sSet 3 (xCall (fun ds => if ds.length = 3 then (d_ends_in) ds else none) (xCons (xVar 0) (xCons (xVar 1) (xCons (xVar 2) xNil)))))
  (sRet (xCall bAll (xCons (xLc (xSeq (xVar 2)) (gSet 4) tYesP (xBin oLe (xBin oIxK (xVar 3) (xVar 4)) (xBin oIx (xBin oIx (xVar 0) (xVar 4)) (xC (.int 3)))) [4]) xNil))))
def d_keeps_with : List D → Option D := runD 3 5 g_keeps_with
theorem ok_keeps_with {f : Addr} {fd : FuncData} (F : FnP K "keeps_with" s_keeps_with f fd) (D_ends_in : Def P w K mg base 1 "ends_in" ["ships", "works", "order"] (d_ends_in)) (b_all : mg "all" = none) : FnOk P w K mg base CX0 2 f fd ["ships", "works", "order"] (spD K 3 d_keeps_with) := by
  have nd := sc_keeps_with.nd
  refine fnp_ok (k := 1) (O' := []) F sc_keeps_with fun cdv A outer s H E hr => ?_
  exact (by exact ss_cons (by exact ss_setS 3 nd (by exact se_callD D_ends_in hr (by exact sa_cons (by exact se_var 0) (by exact sa_cons (by exact se_var 1) (by exact sa_cons (by exact se_var 2) sa_nil))))) (by exact ss_last (by exact ss_ret (by exact se_callB (st := false) cb_all b_all (by exact sa_cons (by exact se_lc nd (by exact si_seq (m := .s) (by exact se_var 2)) (blkOk_by (own := [("index", 4)]) rfl) (fun _ _ _ _ _ => (by exact sg_name 4 nd)) (fun _ _ _ _ _ => sts_nil) (fun _ _ _ _ _ => (by exact se_cmp op_leD (by exact se_dget hr (by exact se_var 3) (by exact se_var 4)) (by exact se_ix (by exact se_ix (by exact se_var 0) (by exact se_var 4)) se_int)))) sa_nil)))))
/-! ### keeps_surely -/
abbrev s_keeps_surely : Stmt := topS 12
theorem sc_keeps_surely : FnScope ["ships", "order", "ship"] ["ships", "order"] (defScope s_keeps_surely) := ⟨rfl, rfl, rfl, by decide +kernel, rfl, by decide +kernel, by decide +kernel⟩
def g_keeps_surely : XS :=
  (sRet (xCall (fun ds => if ds.length = 3 then (d_keeps_with) ds else none) (xCons (xVar 0) (xCons (xLc (xSeq (xVar 0)) (gSet 2) tYesP (xBin oIx (xVar 2) (xC (.int 2))) [2]) (xCons (xVar 1) xNil)))))
def d_keeps_surely : List D → Option D := runD 2 3 g_keeps_surely
theorem ok_keeps_surely {f : Addr} {fd : FuncData} (F : FnP K "keeps_surely" s_keeps_surely f fd) (D_keeps_with : Def P w K mg base 2 "keeps_with" ["ships", "works", "order"] (d_keeps_with)) : FnOk P w K mg base CX0 3 f fd ["ships", "order"] (spD K 2 d_keeps_surely) := by
  have nd := sc_keeps_surely.nd
  refine fnp_ok (k := 2) (O' := []) F sc_keeps_surely fun cdv A outer s H E hr => ?_
  exact (by exact ss_last (by exact ss_ret (by exact se_callD D_keeps_with hr (by exact sa_cons (by exact se_var 0) (by exact sa_cons (by exact se_lc nd (by exact si_seq (m := .s) (by exact se_var 0)) (blkOk_by (own := [("ship", 2)]) rfl) (fun _ _ _ _ _ => (by exact sg_name 2 nd)) (fun _ _ _ _ _ => sts_nil) (fun _ _ _ _ _ => (by exact se_ix (by exact se_var 2) se_int))) (by exact sa_cons (by exact se_var 1) sa_nil))))))
/-! ### may_keep -/
abbrev s_may_keep : Stmt := topS 13
theorem sc_may_keep : FnScope ["ships", "order", "ship"] ["ships", "order"] (defScope s_may_keep) := ⟨rfl, rfl, rfl, by decide +kernel, rfl, by decide +kernel, by decide +kernel⟩
def g_may_keep : XS :=
  (sRet (xCall (fun ds => if ds.length = 3 then (d_keeps_with) ds else none) (xCons (xVar 0) (xCons (xLc (xSeq (xVar 0)) (gSet 2) tYesP (xBin oIx (xVar 2) (xC (.int 1))) [2]) (xCons (xVar 1) xNil)))))
def d_may_keep : List D → Option D := runD 2 3 g_may_keep
theorem ok_may_keep {f : Addr} {fd : FuncData} (F : FnP K "may_keep" s_may_keep f fd) (D_keeps_with : Def P w K mg base 2 "keeps_with" ["ships", "works", "order"] (d_keeps_with)) : FnOk P w K mg base CX0 3 f fd ["ships", "order"] (spD K 2 d_may_keep) := by
  have nd := sc_may_keep.nd
  refine fnp_ok (k := 2) (O' := []) F sc_may_keep fun cdv A outer s H E hr => ?_
  exact (by exact ss_last (by exact ss_ret (by exact se_callD D_keeps_with hr (by exact sa_cons (by exact se_var 0) (by exact sa_cons (by exact se_lc nd (by exact si_seq (m := .s) (by exact se_var 0)) (blkOk_by (own := [("ship", 2)]) rfl) (fun _ _ _ _ _ => (by exact sg_name 2 nd)) (fun _ _ _ _ _ => sts_nil) (fun _ _ _ _ _ => (by exact se_ix (by exact se_var 2) se_int))) (by exact sa_cons (by exact se_var 1) sa_nil))))))
/-! ### sure_orders -/
abbrev s_sure_orders : Stmt := topS 14
theorem sc_sure_orders : FnScope ["ships", "order"] ["ships"] (defScope s_sure_orders) := ⟨rfl, rfl, rfl, by decide +kernel, rfl, by decide +kernel, by decide +kernel⟩
def g_sure_orders : XS :=
  (sRet (xCall bTuple (xCons (xCall bSorted (xCons (xLc (xSeq (xCall (fun ds => if ds.length = 1 then (d_all_orders) ds else none) (xCons (xCall bLen (xCons (xVar 0) xNil)) xNil))) (gSet 1) (tTru (xCall (fun ds => if ds.length = 2 then (d_keeps_surely) ds else none) (xCons (xVar 0) (xCons (xVar 1) xNil)))) (xVar 1) [1]) xNil)) xNil)))
def d_sure_orders : List D → Option D := runD 1 2 g_sure_orders
theorem ok_sure_orders {f : Addr} {fd : FuncData} (F : FnP K "sure_orders" s_sure_orders f fd) (D_all_orders : Def P w K mg base 1 "all_orders" ["n"] (d_all_orders)) (D_keeps_surely : Def P w K mg base 3 "keeps_surely" ["ships", "order"] (d_keeps_surely)) (b_len : mg "len" = none) (b_sorted : mg "sorted" = none) (b_tuple : mg "tuple" = none) : FnOk P w K mg base CX0 4 f fd ["ships"] (spD K 1 d_sure_orders) := by
  have nd := sc_sure_orders.nd
  refine fnp_ok (k := 3) (O' := []) F sc_sure_orders fun cdv A outer s H E hr => ?_
  exact (by exact ss_last (by exact ss_ret (by exact se_callT (st := false) cb_tuple b_tuple (by exact sa_cons (by exact se_callB (st := false) (cb_sorted (hu65 hr)) b_sorted (by exact sa_cons (by exact se_lc nd (by exact si_seq (m := .s) (by exact se_callD D_all_orders hr (by exact sa_cons (by exact se_callB (st := false) cb_len b_len (by exact sa_cons (by exact se_var 0) sa_nil)) sa_nil))) (blkOk_by (own := [("order", 1)]) rfl) (fun _ _ _ _ _ => (by exact sg_name 1 nd)) (fun _ _ _ _ _ => (by exact sts_one (by exact st_val (by exact se_callD D_keeps_surely hr (by exact sa_cons (by exact se_var 0) (by exact sa_cons (by exact se_var 1) sa_nil)))))) (fun _ _ _ _ _ => (by exact se_var 1))) sa_nil)) sa_nil))))
/-! ### sure_plan -/
abbrev s_sure_plan : Stmt := topS 15
theorem sc_sure_plan : FnScope ["ships", "order", "ends", "ship", "index"] ["ships", "order"] (defScope s_sure_plan) := ⟨rfl, rfl, rfl, by decide +kernel, rfl, by decide +kernel, by decide +kernel⟩
def g_sure_plan : XS :=
  (sSeq (sSet 2 (xCall (fun ds => if ds.length = 3 then (d_ends_in) ds else none) (xCons (xVar 0) (xCons (xLc (xSeq (xVar 0)) (gSet 3) tYesP (xBin oIx (xVar 3) (xC (.int 2))) [3]) (xCons (xVar 1) xNil)))))
  (sRet (xCall bTuple (xCons (xLc (xIt oR1 (xCons (xCall bLen (xCons (xVar 0) xNil)) xNil)) (gSet 4) tYesP (xBin oSub (xBin oAdd (xBin oIxK (xVar 2) (xVar 4)) (xC (.int 1))) (xBin oIx (xBin oIx (xVar 0) (xVar 4)) (xC (.int 2)))) [4]) xNil))))
def d_sure_plan : List D → Option D := runD 2 5 g_sure_plan
theorem ok_sure_plan {f : Addr} {fd : FuncData} (F : FnP K "sure_plan" s_sure_plan f fd) (D_ends_in : Def P w K mg base 1 "ends_in" ["ships", "works", "order"] (d_ends_in)) (b_len : mg "len" = none) (b_range : mg "range" = none) (b_tuple : mg "tuple" = none) : FnOk P w K mg base CX0 2 f fd ["ships", "order"] (spD K 2 d_sure_plan) := by
  have nd := sc_sure_plan.nd
  refine fnp_ok (k := 1) (O' := []) F sc_sure_plan fun cdv A outer s H E hr => ?_
  exact (by exact ss_cons (by exact ss_setS 2 nd (by exact se_callD D_ends_in hr (by exact sa_cons (by exact se_var 0) (by exact sa_cons (by exact se_lc nd (by exact si_seq (m := .s) (by exact se_var 0)) (blkOk_by (own := [("ship", 3)]) rfl) (fun _ _ _ _ _ => (by exact sg_name 3 nd)) (fun _ _ _ _ _ => sts_nil) (fun _ _ _ _ _ => (by exact se_ix (by exact se_var 3) se_int))) (by exact sa_cons (by exact se_var 1) sa_nil))))) (by exact ss_last (by exact ss_ret (by exact se_callT (st := false) cb_tuple b_tuple (by exact sa_cons (by exact se_lc nd (by exact si_r1 (st := false) b_range (by exact sa_cons (by exact se_callB (st := false) cb_len b_len (by exact sa_cons (by exact se_var 0) sa_nil)) sa_nil)) (blkOk_by (own := [("index", 4)]) rfl) (fun _ _ _ _ _ => (by exact sg_name 4 nd)) (fun _ _ _ _ _ => sts_nil) (fun _ _ _ _ _ => (by exact se_op op_subD (by exact se_op op_addD (by exact se_dget hr (by exact se_var 2) (by exact se_var 4)) se_int) (by exact se_ix (by exact se_ix (by exact se_var 0) (by exact se_var 4)) se_int)))) sa_nil)))))
/-! ### longer -/
abbrev s_longer : Stmt := topS 16
theorem sc_longer : FnScope ["ships", "index", "more", "place", "ship"] ["ships", "index", "more"] (defScope s_longer) := ⟨rfl, rfl, rfl, by decide +kernel, rfl, by decide +kernel, by decide +kernel⟩
def g_longer : XS :=
  (sRet (xLc (xIt oEnum (xCons (xVar 0) xNil)) (gTupD 2 (gsCons (gSet 3) (gsCons (gSet 4) gsNil))) tYesP (xBin oAdd (xBin oIx (xVar 4) (xC (.int 2))) (xBin oMul' (xVar 2) (xCall bInt (xCons (xBin oEq (xVar 3) (xVar 1)) xNil)))) [3, 4]))
def d_longer : List D → Option D := runD 3 5 g_longer
theorem ok_longer {f : Addr} {fd : FuncData} (F : FnP K "longer" s_longer f fd) (b_enumerate : mg "enumerate" = none) (b_int : mg "int" = none) : FnOk P w K mg base CX0 1 f fd ["ships", "index", "more"] (spD K 3 d_longer) := by
  have nd := sc_longer.nd
  refine fnp_ok (k := 0) (O' := []) F sc_longer fun cdv A outer s H E hr => ?_
  exact (by exact ss_last (by exact ss_ret (by exact se_lc nd (by exact si_enum (st := false) b_enumerate (by exact sa_cons (by exact se_var 0) sa_nil)) (blkOk_by (own := [("place", 3), ("ship", 4)]) rfl) (fun _ _ _ _ _ => (by exact sg_tup rfl (by exact sgs_cons (by exact sg_name 3 nd) (by exact sgs_cons (by exact sg_name 4 nd) sgs_nil)))) (fun _ _ _ _ _ => sts_nil) (fun _ _ _ _ _ => (by exact se_op op_addD (by exact se_ix (by exact se_var 4) se_int) (by exact se_op op_mulD' (by exact se_var 2) (by exact se_callT (st := false) cb_int b_int (by exact sa_cons (by exact se_cmp (op_eqP hr) (by exact se_var 3) (by exact se_var 1)) sa_nil))))))))
/-! ### spare_days -/
abbrev s_spare_days : Stmt := topS 17
theorem sc_spare_days : FnScope ["ships", "order", "found", "index", "more"] ["ships", "order"] (defScope s_spare_days) := ⟨rfl, rfl, rfl, by decide +kernel, rfl, by decide +kernel, by decide +kernel⟩
def l1_spare_days : XS :=
  (sSeq (sAug 4 oAdd' (xC (.int 1)))
  sNop)
def l2_spare_days : XS :=
  (sSeq (sSet 4 (xC (.int 0)))
  (sSeq (sWhile (tTru (xCall (fun ds => if ds.length = 3 then (d_keeps_with) ds else none) (xCons (xVar 0) (xCons (xCall (fun ds => if ds.length = 3 then (d_longer) ds else none) (xCons (xVar 0) (xCons (xVar 3) (xCons (xBin oAdd (xVar 4) (xC (.int 1))) xNil)))) (xCons (xVar 1) xNil))))) l1_spare_days)
  (sSeq (sApp 2 (xVar 4))
  sNop)))
def g_spare_days : XS :=
  (sSeq (sIf (tNotP (tTru (xCall (fun ds => if ds.length = 2 then (d_keeps_surely) ds else none) (xCons (xVar 0) (xCons (xVar 1) xNil))))) (sRet (xC .none)) sNop)
  (sSeq (sSet 2 (xLst xNil))
  (sSeq (sFor (xIt oR1 (xCons (xCall bLen (xCons (xVar 0) xNil)) xNil)) (gSet 3) l2_spare_days)
  (sRet (xCall bTuple (xCons (xVar 2) xNil))))))
def d_spare_days : List D → Option D := runD 2 5 g_spare_days
theorem ok_spare_days {f : Addr} {fd : FuncData} (F : FnP K "spare_days" s_spare_days f fd) (D_keeps_with : Def P w K mg base 2 "keeps_with" ["ships", "works", "order"] (d_keeps_with)) (D_keeps_surely : Def P w K mg base 3 "keeps_surely" ["ships", "order"] (d_keeps_surely)) (D_longer : Def P w K mg base 1 "longer" ["ships", "index", "more"] (d_longer)) (b_len : mg "len" = none) (b_range : mg "range" = none) (b_tuple : mg "tuple" = none) : FnOk P w K mg base CX0 4 f fd ["ships", "order"] (spD K 2 d_spare_days) := by
  have nd := sc_spare_days.nd
  refine fnp_ok (k := 3) (O' := []) F sc_spare_days fun cdv A outer s H E hr => ?_
  exact (by exact ss_cons (by exact ss_if (O' := []) (by exact st_not (by exact st_val (by exact se_callD D_keeps_surely hr (by exact sa_cons (by exact se_var 0) (by exact sa_cons (by exact se_var 1) sa_nil))))) (by exact ss_last (by exact ss_ret se_non)) ss_nil) (by exact ss_cons (by exact ss_setF 2 nd (by exact se_lst sa_nil)) (by exact ss_cons (by exact ss_for (O' := [2]) (by exact si_r1 (st := false) b_range (by exact sa_cons (by exact se_callB (st := false) cb_len b_len (by exact sa_cons (by exact se_var 0) sa_nil)) sa_nil)) (by exact sg_name 3 nd) (by exact ss_cons (by exact ss_setF 4 nd se_int) (by exact ss_cons (by exact SS.weak (O1 := [2]) (by exact ss_while (O' := [2]) (by exact st_val (by exact se_callD D_keeps_with hr (by exact sa_cons (by exact se_var 0) (by exact sa_cons (by exact se_callD D_longer hr (by exact sa_cons (by exact se_var 0) (by exact sa_cons (by exact se_var 3) (by exact sa_cons (by exact se_op op_addD (by exact se_var 4) se_int) sa_nil)))) (by exact sa_cons (by exact se_var 1) sa_nil))))) (by exact ss_cons (by exact ss_aug 4 nd iop_addD se_int) ss_nil))) (by exact ss_cons (by exact ss_app 2 (by exact se_var 4)) ss_nil)))) (by exact ss_last (by exact ss_ret (by exact se_callT (st := false) cb_tuple b_tuple (by exact sa_cons (by exact se_varW 2) sa_nil)))))))
/-! ### end_bounds -/
abbrev s_end_bounds : Stmt := topS 18
theorem sc_end_bounds : FnScope ["ships", "order", "low", "high", "ship", "index"] ["ships", "order"] (defScope s_end_bounds) := ⟨rfl, rfl, rfl, by decide +kernel, rfl, by decide +kernel, by decide +kernel⟩
def g_end_bounds : XS :=
  (sSeq (sSet 2 (xCall (fun ds => if ds.length = 3 then (d_ends_in) ds else none) (xCons (xVar 0) (xCons (xLc (xSeq (xVar 0)) (gSet 4) tYesP (xBin oIx (xVar 4) (xC (.int 1))) [4]) (xCons (xVar 1) xNil)))))
  (sSeq (sSet 3 (xCall (fun ds => if ds.length = 3 then (d_ends_in) ds else none) (xCons (xVar 0) (xCons (xLc (xSeq (xVar 0)) (gSet 4) tYesP (xBin oIx (xVar 4) (xC (.int 2))) [4]) (xCons (xVar 1) xNil)))))
  (sRet (xCall bTuple (xCons (xLc (xIt oR1 (xCons (xCall bLen (xCons (xVar 0) xNil)) xNil)) (gSet 5) tYesP (xTup (xCons (xBin oIxK (xVar 2) (xVar 5)) (xCons (xBin oIxK (xVar 3) (xVar 5)) xNil))) [5]) xNil)))))
def d_end_bounds : List D → Option D := runD 2 6 g_end_bounds
theorem ok_end_bounds {f : Addr} {fd : FuncData} (F : FnP K "end_bounds" s_end_bounds f fd) (D_ends_in : Def P w K mg base 1 "ends_in" ["ships", "works", "order"] (d_ends_in)) (b_len : mg "len" = none) (b_range : mg "range" = none) (b_tuple : mg "tuple" = none) : FnOk P w K mg base CX0 2 f fd ["ships", "order"] (spD K 2 d_end_bounds) := by
  have nd := sc_end_bounds.nd
  refine fnp_ok (k := 1) (O' := []) F sc_end_bounds fun cdv A outer s H E hr => ?_
  exact (by exact ss_cons (by exact ss_setS 2 nd (by exact se_callD D_ends_in hr (by exact sa_cons (by exact se_var 0) (by exact sa_cons (by exact se_lc nd (by exact si_seq (m := .s) (by exact se_var 0)) (blkOk_by (own := [("ship", 4)]) rfl) (fun _ _ _ _ _ => (by exact sg_name 4 nd)) (fun _ _ _ _ _ => sts_nil) (fun _ _ _ _ _ => (by exact se_ix (by exact se_var 4) se_int))) (by exact sa_cons (by exact se_var 1) sa_nil))))) (by exact ss_cons (by exact ss_setS 3 nd (by exact se_callD D_ends_in hr (by exact sa_cons (by exact se_var 0) (by exact sa_cons (by exact se_lc nd (by exact si_seq (m := .s) (by exact se_var 0)) (blkOk_by (own := [("ship", 4)]) rfl) (fun _ _ _ _ _ => (by exact sg_name 4 nd)) (fun _ _ _ _ _ => sts_nil) (fun _ _ _ _ _ => (by exact se_ix (by exact se_var 4) se_int))) (by exact sa_cons (by exact se_var 1) sa_nil))))) (by exact ss_last (by exact ss_ret (by exact se_callT (st := false) cb_tuple b_tuple (by exact sa_cons (by exact se_lc nd (by exact si_r1 (st := false) b_range (by exact sa_cons (by exact se_callB (st := false) cb_len b_len (by exact sa_cons (by exact se_var 0) sa_nil)) sa_nil)) (blkOk_by (own := [("index", 5)]) rfl) (fun _ _ _ _ _ => (by exact sg_name 5 nd)) (fun _ _ _ _ _ => sts_nil) (fun _ _ _ _ _ => (by exact se_tup (by exact sa_cons (by exact se_dget hr (by exact se_var 2) (by exact se_var 5)) (by exact sa_cons (by exact se_dget hr (by exact se_var 3) (by exact se_var 5)) sa_nil))))) sa_nil))))))
/-! ### chance_kept -/
abbrev s_chance_kept : Stmt := topS 19
theorem sc_chance_kept : FnScope ["ships", "weights", "order", "rows", "found", "ship", "row", "total", "works", "part", "step", "weight"] ["ships", "weights", "order"] (defScope s_chance_kept) := ⟨rfl, rfl, rfl, by decide +kernel, rfl, by decide +kernel, by decide +kernel⟩
def l1_chance_kept : XS :=
  (sSeq (sSet 7 (xCall bSum (xCons (xVar 6) xNil)))
  (sSeq (sSet 3 (xLc2 (xSeq (xVar 3)) (gTupD 2 (gsCons (gSet 8) (gsCons (gSet 9) gsNil))) tYesP (xIt oEnum (xCons (xVar 6) xNil)) (gTupD 2 (gsCons (gSet 10) (gsCons (gSet 11) gsNil))) tYesP (xTup (xCons (xBin oAdd (xVar 8) (xTup (xCons (xBin oAdd (xBin oIx (xVar 5) (xC (.int 1))) (xVar 10)) xNil))) (xCons (xCall (fun ds => if ds.length = 2 then (d_times) ds else none) (xCons (xVar 9) (xCons (xCall (fun ds => if ds.length = 2 then ((d_lowest) ds).bind fun d => if flat d then some d else none else none) (xCons (xVar 11) (xCons (xVar 7) xNil))) xNil))) xNil))) [8, 9, 10, 11] [10, 11]))
  sNop))
def l2_chance_kept : XS :=
  (sSeq (sSet 4 (xIf (tTru (xCall (fun ds => if ds.length = 3 then (d_keeps_with) ds else none) (xCons (xVar 0) (xCons (xVar 8) (xCons (xVar 2) xNil))))) (xCall (fun ds => if ds.length = 2 then (d_plus) ds else none) (xCons (xVar 4) (xCons (xVar 9) xNil))) (xVar 4)))
  sNop)
def g_chance_kept : XS :=
  (sSeq (sSet 3 (xLst (xCons (xTup (xCons (xTup xNil) (xCons (xCall (fun ds => if ds.length = 1 then (d_whole) ds else none) (xCons (xC (.int 1)) xNil)) xNil))) xNil)))
  (sSeq (sFor (xIt oZipM (xCons (xVar 0) (xCons (xVar 1) xNil))) (gTupD 2 (gsCons (gSet 5) (gsCons (gSet 6) gsNil))) l1_chance_kept)
  (sSeq (sSet 4 (xCall (fun ds => if ds.length = 1 then (d_whole) ds else none) (xCons (xC (.int 0)) xNil)))
  (sSeq (sFor (xSeq (xVar 3)) (gTupD 2 (gsCons (gSet 8) (gsCons (gSet 9) gsNil))) l2_chance_kept)
  (sRet (xVar 4))))))
def d_chance_kept : List D → Option D := runD 3 12 g_chance_kept
theorem ok_chance_kept {f : Addr} {fd : FuncData} (F : FnP K "chance_kept" s_chance_kept f fd) (D_lowest : Def P w K mg base 2 "lowest" ["a", "b"] (d_lowest)) (D_plus : Def P w K mg base 3 "plus" ["first", "second"] (d_plus)) (D_times : Def P w K mg base 3 "times" ["first", "second"] (d_times)) (D_whole : Def P w K mg base 1 "whole" ["number"] (d_whole)) (D_keeps_with : Def P w K mg base 2 "keeps_with" ["ships", "works", "order"] (d_keeps_with)) (b_enumerate : mg "enumerate" = none) (b_sum : mg "sum" = none) (b_zip : mg "zip" = none) : FnOk P w K mg base CX0 4 f fd ["ships", "weights", "order"] (spD K 3 d_chance_kept) := by
  have nd := sc_chance_kept.nd
  refine fnp_ok (k := 3) (O' := []) F sc_chance_kept fun cdv A outer s H E hr => ?_
  exact (by exact ss_cons (by exact ss_setF 3 nd (by exact se_lst (by exact sa_cons (by exact se_tup (by exact sa_cons (by exact se_tup sa_nil) (by exact sa_cons (by exact se_callD D_whole hr (by exact sa_cons se_int sa_nil)) sa_nil))) sa_nil))) (by exact ss_cons (by exact ss_for (O' := [3]) (by exact si_zipM (st := true) b_zip (by exact sa_cons (by exact se_var 0) (by exact sa_cons (by exact se_var 1) sa_nil))) (by exact sg_tup rfl (by exact sgs_cons (by exact sg_name 5 nd) (by exact sgs_cons (by exact sg_name 6 nd) sgs_nil))) (by exact ss_cons (by exact ss_setF 7 nd (by exact se_callB (st := false) cb_sum b_sum (by exact sa_cons (by exact se_var 6) sa_nil))) (by exact ss_cons (by exact ss_setLc2 3 (vs1 := [10, 11]) nd (by exact si_seq (m := .w) (by exact se_varW 3)) (blkOk_by (own := [("works", 8), ("part", 9), ("step", 10), ("weight", 11)]) rfl) (fun _ _ _ _ _ => (by exact sg_tup rfl (by exact sgs_cons (by exact sg_name 8 nd) (by exact sgs_cons (by exact sg_name 9 nd) sgs_nil)))) (fun _ _ _ _ _ => sts_nil) (fun _ _ _ _ _ => (by exact si_enum (st := true) b_enumerate (by exact sa_cons (by exact se_var 6) sa_nil))) (fun _ _ _ _ _ => (by exact sg_tup rfl (by exact sgs_cons (by exact sg_name 10 nd) (by exact sgs_cons (by exact sg_name 11 nd) sgs_nil)))) (fun _ _ _ _ _ => sts_nil) (fun _ _ _ _ _ => (by exact se_tup (by exact sa_cons (by exact se_op op_addD (by exact se_var 8) (by exact se_tup (by exact sa_cons (by exact se_op op_addD (by exact se_ix (by exact se_var 5) se_int) (by exact se_var 10)) sa_nil))) (by exact sa_cons (by exact se_callD D_times hr (by exact sa_cons (by exact se_var 9) (by exact sa_cons (by exact se_callWD D_lowest hr (by exact sa_cons (by exact se_var 11) (by exact sa_cons (by exact se_varW 7) sa_nil))) sa_nil))) sa_nil))))) ss_nil))) (by exact ss_cons (by exact ss_setS 4 nd (by exact se_callD D_whole hr (by exact sa_cons se_int sa_nil))) (by exact ss_cons (by exact SS.weak (O1 := []) (by exact ss_for (O' := []) (by exact si_seq (m := .s) (by exact se_var 3)) (by exact sg_tup rfl (by exact sgs_cons (by exact sg_name 8 nd) (by exact sgs_cons (by exact sg_name 9 nd) sgs_nil))) (by exact ss_cons (by exact ss_setS 4 nd (by exact se_if (by exact st_val (by exact se_callD D_keeps_with hr (by exact sa_cons (by exact se_var 0) (by exact sa_cons (by exact se_var 8) (by exact sa_cons (by exact se_var 2) sa_nil))))) (by exact se_callD D_plus hr (by exact sa_cons (by exact se_var 4) (by exact sa_cons (by exact se_var 9) sa_nil))) (by exact se_var 4))) ss_nil))) (by exact ss_last (by exact ss_ret (by exact se_var 4)))))))
/-! ### late_pay -/
abbrev s_late_pay : Stmt := topS 21
theorem sc_late_pay : FnScope ["works", "order", "index", "day", "found", "days", "promised", "rate", "cap"] ["works", "order"] (defScope s_late_pay) := ⟨rfl, rfl, rfl, by decide +kernel, rfl, by decide +kernel, by decide +kernel⟩
def l1_late_pay : XS :=
  (sSeq (sTgt (gTupD 4 (gsCons (gSet 5) (gsCons (gSet 6) (gsCons (gSet 7) (gsCons (gSet 8) gsNil))))) (xBin oIx (xVar 0) (xVar 2)))
  (sSeq (sAug 3 oAdd' (xVar 5))
  (sSeq (sPut 4 (xVar 2) (xCall bMin2 (xCons (xVar 8) (xCons (xBin oMul' (xCall bMax2 (xCons (xC (.int 0)) (xCons (xBin oSub (xBin oSub (xVar 3) (xC (.int 1))) (xVar 6)) xNil))) (xVar 7)) xNil))))
  sNop)))
def g_late_pay : XS :=
  (sSeq (sPar [3, 4] (xCons (xC (.int 0)) (xCons (xBin oMul' (xLst (xCons (xC (.int 0)) xNil)) (xCall bLen (xCons (xVar 0) xNil))) xNil)))
  (sSeq (sFor (xSeq (xVar 1)) (gSet 2) l1_late_pay)
  (sRet (xCall bTuple (xCons (xVar 4) xNil)))))
def d_late_pay : List D → Option D := runD 2 9 g_late_pay
theorem ok_late_pay {f : Addr} {fd : FuncData} (F : FnP K "late_pay" s_late_pay f fd) (b_len : mg "len" = none) (b_max : mg "max" = none) (b_min : mg "min" = none) (b_tuple : mg "tuple" = none) : FnOk P w K mg base CX0 1 f fd ["works", "order"] (spD K 2 d_late_pay) := by
  have nd := sc_late_pay.nd
  refine fnp_ok (k := 0) (O' := []) F sc_late_pay fun cdv A outer s H E hr => ?_
  exact (by exact ss_cons (by exact ss_par 3 4 nd (by exact sam_cons se_int (by exact sam_cons (by exact se_op op_mulD' (by exact se_lst (by exact sa_cons se_int sa_nil)) (by exact se_callB (st := false) cb_len b_len (by exact sa_cons (by exact se_var 0) sa_nil))) sam_nil))) (by exact ss_cons (by exact SS.weak (O1 := [4]) (by exact ss_for (O' := [4]) (by exact si_seq (m := .s) (by exact se_var 1)) (by exact sg_name 2 nd) (by exact ss_cons (by exact ss_tgt (by exact se_ix (by exact se_var 0) (by exact se_var 2)) (by exact sg_tup rfl (by exact sgs_cons (by exact sg_name 5 nd) (by exact sgs_cons (by exact sg_name 6 nd) (by exact sgs_cons (by exact sg_name 7 nd) (by exact sgs_cons (by exact sg_name 8 nd) sgs_nil)))))) (by exact ss_cons (by exact ss_aug 3 nd iop_addD (by exact se_var 5)) (by exact ss_cons (by exact ss_put 4 (by exact se_callB (st := false) cb_min2 b_min (by exact sa_cons (by exact se_var 8) (by exact sa_cons (by exact se_op op_mulD' (by exact se_callB (st := false) cb_max2 b_max (by exact sa_cons se_int (by exact sa_cons (by exact se_op op_subD (by exact se_op op_subD (by exact se_var 3) se_int) (by exact se_var 6)) sa_nil))) (by exact se_var 7)) sa_nil))) (by exact se_var 2)) ss_nil))))) (by exact ss_last (by exact ss_ret (by exact se_callT (st := false) cb_tuple b_tuple (by exact sa_cons (by exact se_varW 4) sa_nil))))))
/-! ### least_paid -/
abbrev s_least_paid : Stmt := topS 22
theorem sc_least_paid : FnScope ["works", "order"] ["works"] (defScope s_least_paid) := ⟨rfl, rfl, rfl, by decide +kernel, rfl, by decide +kernel, by decide +kernel⟩
def g_least_paid : XS :=
  (sRet (xCall bMinD (xCons (xLc (xSeq (xCall (fun ds => if ds.length = 1 then (d_all_orders) ds else none) (xCons (xCall bLen (xCons (xVar 0) xNil)) xNil))) (gSet 1) tYesP (xTup (xCons (xCall bSum (xCons (xCall (fun ds => if ds.length = 2 then (d_late_pay) ds else none) (xCons (xVar 0) (xCons (xVar 1) xNil))) xNil)) (xCons (xVar 1) xNil))) [1]) xNil)))
def d_least_paid : List D → Option D := runD 1 2 g_least_paid
theorem ok_least_paid {f : Addr} {fd : FuncData} (F : FnP K "least_paid" s_least_paid f fd) (D_all_orders : Def P w K mg base 1 "all_orders" ["n"] (d_all_orders)) (D_late_pay : Def P w K mg base 1 "late_pay" ["works", "order"] (d_late_pay)) (b_len : mg "len" = none) (b_min : mg "min" = none) (b_sum : mg "sum" = none) : FnOk P w K mg base CX0 2 f fd ["works"] (spD K 1 d_least_paid) := by
  have nd := sc_least_paid.nd
  refine fnp_ok (k := 1) (O' := []) F sc_least_paid fun cdv A outer s H E hr => ?_
  exact (by exact ss_last (by exact ss_ret (by exact se_callB (st := false) (cb_minD (hu65 hr)) b_min (by exact sa_cons (by exact se_lc nd (by exact si_seq (m := .s) (by exact se_callD D_all_orders hr (by exact sa_cons (by exact se_callB (st := false) cb_len b_len (by exact sa_cons (by exact se_var 0) sa_nil)) sa_nil))) (blkOk_by (own := [("order", 1)]) rfl) (fun _ _ _ _ _ => (by exact sg_name 1 nd)) (fun _ _ _ _ _ => sts_nil) (fun _ _ _ _ _ => (by exact se_tup (by exact sa_cons (by exact se_callB (st := false) cb_sum b_sum (by exact sa_cons (by exact se_callD D_late_pay hr (by exact sa_cons (by exact se_var 0) (by exact sa_cons (by exact se_var 1) sa_nil))) sa_nil)) (by exact sa_cons (by exact se_var 1) sa_nil))))) sa_nil))))
/-! ### sums_least -/
abbrev s_sums_least : Stmt := topS 24
theorem sc_sums_least : FnScope ["docks", "works", "found", "free", "place", "days"] ["docks", "works"] (defScope s_sums_least) := ⟨rfl, rfl, rfl, by decide +kernel, rfl, by decide +kernel, by decide +kernel⟩
def l1_sums_least : XS :=
  (sSeq (sAugI 3 (xBin oMod (xVar 4) (xVar 0)) (xVar 5) oAdd')
  (sSeq (sAug 2 oAdd' (xBin oIx (xVar 3) (xBin oMod (xVar 4) (xVar 0))))
  sNop))
def g_sums_least : XS :=
  (sSeq (sPar [2, 3] (xCons (xC (.int 0)) (xCons (xBin oMul' (xLst (xCons (xC (.int 0)) xNil)) (xVar 0)) xNil)))
  (sSeq (sFor (xIt oEnum (xCons (xCall bSorted (xCons (xVar 1) xNil)) xNil)) (gTupD 2 (gsCons (gSet 4) (gsCons (gSet 5) gsNil))) l1_sums_least)
  (sRet (xVar 2))))
def d_sums_least : List D → Option D := runD 2 6 g_sums_least
theorem ok_sums_least {f : Addr} {fd : FuncData} (F : FnP K "sums_least" s_sums_least f fd) (b_enumerate : mg "enumerate" = none) (b_sorted : mg "sorted" = none) : FnOk P w K mg base CX0 1 f fd ["docks", "works"] (spD K 2 d_sums_least) := by
  have nd := sc_sums_least.nd
  refine fnp_ok (k := 0) (O' := []) F sc_sums_least fun cdv A outer s H E hr => ?_
  exact (by exact ss_cons (by exact ss_par 2 3 nd (by exact sam_cons se_int (by exact sam_cons (by exact se_op op_mulD' (by exact se_lst (by exact sa_cons se_int sa_nil)) (by exact se_var 0)) sam_nil))) (by exact ss_cons (by exact SS.weak (O1 := [3]) (by exact ss_for (O' := [3]) (by exact si_enum (st := true) b_enumerate (by exact sa_cons (by exact se_callB (st := false) (cb_sorted (hu65 hr)) b_sorted (by exact sa_cons (by exact se_var 1) sa_nil)) sa_nil)) (by exact sg_tup rfl (by exact sgs_cons (by exact sg_name 4 nd) (by exact sgs_cons (by exact sg_name 5 nd) sgs_nil))) (by exact ss_cons (by exact ss_augI 3 iop_addD (by exact se_op op_modD (by exact se_var 4) (by exact se_var 0)) (by exact se_var 5)) (by exact ss_cons (by exact ss_aug 2 nd iop_addD (by exact se_ix (by exact se_varW 3) (by exact se_op op_modD (by exact se_var 4) (by exact se_var 0)))) ss_nil)))) (by exact ss_last (by exact ss_ret (by exact se_var 2)))))
/-! ### can_be_done -/
abbrev s_can_be_done : Stmt := topS 25
theorem sc_can_be_done : FnScope ["works", "order", "day", "index"] ["works", "order"] (defScope s_can_be_done) := ⟨rfl, rfl, rfl, by decide +kernel, rfl, by decide +kernel, by decide +kernel⟩
def l1_can_be_done : XS :=
  (sSeq (sAug 2 oAdd' (xBin oIx (xBin oIx (xVar 0) (xVar 3)) (xC (.int 0))))
  (sSeq (sIf (tOf (xBin oGt (xBin oSub (xVar 2) (xC (.int 1))) (xBin oIx (xBin oIx (xVar 0) (xVar 3)) (xC (.int 1))))) (sRet (xC (.bool false))) sNop)
  sNop))
def g_can_be_done : XS :=
  (sSeq (sSet 2 (xC (.int 0)))
  (sSeq (sFor (xSeq (xVar 1)) (gSet 3) l1_can_be_done)
  (sRet (xC (.bool true)))))
def d_can_be_done : List D → Option D := runD 2 4 g_can_be_done
theorem ok_can_be_done {f : Addr} {fd : FuncData} (F : FnP K "can_be_done" s_can_be_done f fd) : FnOk P w K mg base CX0 1 f fd ["works", "order"] (spD K 2 d_can_be_done) := by
  have nd := sc_can_be_done.nd
  refine fnp_ok (k := 0) (O' := []) F sc_can_be_done fun cdv A outer s H E hr => ?_
  exact (by exact ss_cons (by exact ss_setF 2 nd se_int) (by exact ss_cons (by exact SS.weak (O1 := []) (by exact ss_for (O' := []) (by exact si_seq (m := .s) (by exact se_var 1)) (by exact sg_name 3 nd) (by exact ss_cons (by exact ss_aug 2 nd iop_addD (by exact se_ix (by exact se_ix (by exact se_var 0) (by exact se_var 3)) se_int)) (by exact ss_cons (by exact ss_if (O' := []) (by exact st_cmp op_gtD (by exact se_op op_subD (by exact se_var 2) se_int) (by exact se_ix (by exact se_ix (by exact se_var 0) (by exact se_var 3)) se_int)) (by exact ss_last (by exact ss_ret se_bl)) ss_nil) ss_nil)))) (by exact ss_last (by exact ss_ret se_bl))))
/-! ### one_dock -/
abbrev s_one_dock : Stmt := topS 26
theorem sc_one_dock : FnScope ["works", "chosen", "order", "promised", "index"] ["works", "chosen"] (defScope s_one_dock) := ⟨rfl, rfl, rfl, by decide +kernel, rfl, by decide +kernel, by decide +kernel⟩
def g_one_dock : XS :=
  (sSeq (sSet 2 (xLc (xSeq (xCall bSorted (xCons (xLc (xSeq (xVar 1)) (gSet 4) tYesP (xTup (xCons (xBin oIx (xBin oIx (xVar 0) (xVar 4)) (xC (.int 1))) (xCons (xVar 4) xNil))) [4]) xNil))) (gTupD 2 (gsCons (gSet 3) (gsCons (gSet 4) gsNil))) tYesP (xVar 4) [3, 4]))
  (sRet (xCall (fun ds => if ds.length = 2 then ((d_can_be_done) ds).bind fun d => if flat d then some d else none else none) (xCons (xVar 0) (xCons (xVar 2) xNil)))))
def d_one_dock : List D → Option D := runD 2 5 g_one_dock
theorem ok_one_dock {f : Addr} {fd : FuncData} (F : FnP K "one_dock" s_one_dock f fd) (D_can_be_done : Def P w K mg base 1 "can_be_done" ["works", "order"] (d_can_be_done)) (b_sorted : mg "sorted" = none) : FnOk P w K mg base CX0 2 f fd ["works", "chosen"] (spD K 2 d_one_dock) := by
  have nd := sc_one_dock.nd
  refine fnp_ok (k := 1) (O' := []) F sc_one_dock fun cdv A outer s H E hr => ?_
  exact (by exact ss_cons (by exact ss_setLc 2 nd (by exact si_seq (m := .f) (by exact se_callB (st := false) (cb_sorted (hu65 hr)) b_sorted (by exact sa_cons (by exact se_lc nd (by exact si_seq (m := .s) (by exact se_var 1)) (blkOk_by (own := [("index", 4)]) rfl) (fun _ _ _ _ _ => (by exact sg_name 4 nd)) (fun _ _ _ _ _ => sts_nil) (fun _ _ _ _ _ => (by exact se_tup (by exact sa_cons (by exact se_ix (by exact se_ix (by exact se_var 0) (by exact se_var 4)) se_int) (by exact sa_cons (by exact se_var 4) sa_nil))))) sa_nil))) (blkOk_by (own := [("promised", 3), ("index", 4)]) rfl) (fun _ _ _ _ _ => (by exact sg_tup rfl (by exact sgs_cons (by exact sg_name 3 nd) (by exact sgs_cons (by exact sg_name 4 nd) sgs_nil)))) (fun _ _ _ _ _ => sts_nil) (fun _ _ _ _ _ => (by exact se_var 4))) (by exact ss_last (by exact ss_ret (by exact se_callWD D_can_be_done hr (by exact sa_cons (by exact se_var 0) (by exact sa_cons (by exact se_varW 2) sa_nil))))))
/-! ### docks_needed -/
abbrev s_docks_needed : Stmt := topS 27
theorem sc_docks_needed : FnScope ["works", "docks", "row", "parts", "days", "promised", "dock", "chosen", "index", "own"] ["works"] (defScope s_docks_needed) := ⟨rfl, rfl, rfl, by decide +kernel, rfl, by decide +kernel, by decide +kernel⟩
def l1_docks_needed : XS :=
  (sSeq (sSet 3 (xLc (xIt oR1 (xCons (xVar 1) xNil)) (gSet 6) tYesP (xLc (xIt oEnum (xCons (xVar 2) xNil)) (gTupD 2 (gsCons (gSet 8) (gsCons (gSet 9) gsNil))) (tOf (xBin oEq (xVar 9) (xVar 6))) (xVar 8) [8, 9]) [6]))
  (sSeq (sIf (tTru (xCall bAll (xCons (xLc (xSeq (xVar 3)) (gSet 7) tYesP (xCall (fun ds => if ds.length = 2 then (d_one_dock) ds else none) (xCons (xVar 0) (xCons (xVar 7) xNil))) [7]) xNil))) (sRet (xVar 1)) sNop)
  sNop))
def l2_docks_needed : XS :=
  (sSeq (sFor (xSeq (xCall (fun ds => if ds.length = 2 then (d_all_rows) ds else none) (xCons (xCall bLen (xCons (xVar 0) xNil)) (xCons (xVar 1) xNil)))) (gSet 2) l1_docks_needed)
  sNop)
def g_docks_needed : XS :=
  (sSeq (sIf (tTru (xCall bAny (xCons (xLc (xSeq (xVar 0)) (gTupD 2 (gsCons (gSet 4) (gsCons (gSet 5) gsNil))) tYesP (xBin oGt (xBin oSub (xVar 4) (xC (.int 1))) (xVar 5)) [4, 5]) xNil))) (sRet (xC .none)) sNop)
  (sSeq (sFor (xIt oR1 (xCons (xBin oAdd (xCall bLen (xCons (xVar 0) xNil)) (xC (.int 1))) xNil)) (gSet 1) l2_docks_needed)
  (sRet (xC .none))))
def d_docks_needed : List D → Option D := runD 1 10 g_docks_needed
theorem ok_docks_needed {f : Addr} {fd : FuncData} (F : FnP K "docks_needed" s_docks_needed f fd) (D_all_rows : Def P w K mg base 1 "all_rows" ["count", "most"] (d_all_rows)) (D_one_dock : Def P w K mg base 2 "one_dock" ["works", "chosen"] (d_one_dock)) (b_all : mg "all" = none) (b_any : mg "any" = none) (b_enumerate : mg "enumerate" = none) (b_len : mg "len" = none) (b_range : mg "range" = none) : FnOk P w K mg base CX0 3 f fd ["works"] (spD K 1 d_docks_needed) := by
  have nd := sc_docks_needed.nd
  refine fnp_ok (k := 2) (O' := []) F sc_docks_needed fun cdv A outer s H E hr => ?_
  exact (by exact ss_cons (by exact ss_if (O' := []) (by exact st_val (by exact se_callB (st := false) cb_any b_any (by exact sa_cons (by exact se_lc nd (by exact si_seq (m := .s) (by exact se_var 0)) (blkOk_by (own := [("days", 4), ("promised", 5)]) rfl) (fun _ _ _ _ _ => (by exact sg_tup rfl (by exact sgs_cons (by exact sg_name 4 nd) (by exact sgs_cons (by exact sg_name 5 nd) sgs_nil)))) (fun _ _ _ _ _ => sts_nil) (fun _ _ _ _ _ => (by exact se_cmp op_gtD (by exact se_op op_subD (by exact se_var 4) se_int) (by exact se_var 5)))) sa_nil))) (by exact ss_last (by exact ss_ret se_non)) ss_nil) (by exact ss_cons (by exact ss_for (O' := []) (by exact si_r1 (st := false) b_range (by exact sa_cons (by exact se_op op_addD (by exact se_callB (st := false) cb_len b_len (by exact sa_cons (by exact se_var 0) sa_nil)) se_int) sa_nil)) (by exact sg_name 1 nd) (by exact ss_cons (by exact ss_for (O' := []) (by exact si_seq (m := .s) (by exact se_callD D_all_rows hr (by exact sa_cons (by exact se_callB (st := false) cb_len b_len (by exact sa_cons (by exact se_var 0) sa_nil)) (by exact sa_cons (by exact se_var 1) sa_nil)))) (by exact sg_name 2 nd) (by exact ss_cons (by exact ss_setLc 3 nd (by exact si_r1 (st := false) b_range (by exact sa_cons (by exact se_var 1) sa_nil)) (blkOk_by (own := [("dock", 6)]) rfl) (fun _ _ _ _ _ => (by exact sg_name 6 nd)) (fun _ _ _ _ _ => sts_nil) (fun _ _ _ _ _ => (by exact se_lc nd (by exact si_enum (st := false) b_enumerate (by exact sa_cons (by exact se_var 2) sa_nil)) (blkOk_by (own := [("index", 8), ("own", 9)]) rfl) (fun _ _ _ _ _ => (by exact sg_tup rfl (by exact sgs_cons (by exact sg_name 8 nd) (by exact sgs_cons (by exact sg_name 9 nd) sgs_nil)))) (fun _ _ _ _ _ => (by exact sts_one (by exact st_cmp (op_eqP hr) (by exact se_var 9) (by exact se_var 6)))) (fun _ _ _ _ _ => (by exact se_var 8))))) (by exact ss_cons (by exact ss_if (O' := [3]) (by exact st_val (by exact se_callB (st := false) cb_all b_all (by exact sa_cons (by exact se_lc nd (by exact si_seq (m := .w) (by exact se_varW 3)) (blkOk_by (own := [("chosen", 7)]) rfl) (fun _ _ _ _ _ => (by exact sg_name 7 nd)) (fun _ _ _ _ _ => sts_nil) (fun _ _ _ _ _ => (by exact se_callD D_one_dock hr (by exact sa_cons (by exact se_var 0) (by exact sa_cons (by exact se_var 7) sa_nil))))) sa_nil))) (by exact ss_last (by exact ss_ret (by exact se_var 1))) ss_nil) ss_nil))) ss_nil)) (by exact ss_last (by exact ss_ret se_non))))
/-! ### _law_mixed -/
abbrev s__law_mixed : Stmt := topS 29
theorem sc__law_mixed : FnScope ["script", "k", "cell", "first", "second", "third"] ["script", "k"] (defScope s__law_mixed) := ⟨rfl, rfl, rfl, by decide +kernel, rfl, by decide +kernel, by decide +kernel⟩
def g__law_mixed : XS :=
  (sSeq (sSet 2 (xC (.int 0)))
  (sSeq (sIf (tOf (xBin oGt (xCall bLen (xCons (xVar 0) xNil)) (xC (.int 0)))) (sSeq (sSet 2 (xBin oIx (xVar 0) (xBin oMod (xVar 1) (xCall bLen (xCons (xVar 0) xNil)))))
  sNop) sNop)
  (sSeq (sSet 3 (xBin oMod (xCall bInt (xCons (xBin oAdd (xBin oAdd (xBin oMul' (xVar 2) (xC (.int 48271))) (xBin oMul' (xVar 1) (xC (.int 69621)))) (xC (.int 8191))) xNil)) (xC (.int 2147483647))))
  (sSeq (sSet 4 (xBin oMod (xCall bInt (xCons (xBin oAdd (xBin oAdd (xBin oMul' (xVar 3) (xVar 3)) (xBin oFdiv (xVar 3) (xC (.int 7)))) (xBin oMul' (xVar 1) (xC (.int 16807)))) xNil)) (xC (.int 2147483629))))
  (sSeq (sSet 5 (xBin oMod (xCall bInt (xCons (xBin oAdd (xBin oAdd (xBin oMul' (xVar 4) (xVar 4)) (xBin oFdiv (xVar 4) (xC (.int 11)))) (xC (.int 40692))) xNil)) (xC (.int 2147483563))))
  (sRet (xBin oMod (xBin oFdiv (xVar 5) (xC (.int 5))) (xC (.int 1000003)))))))))
def d__law_mixed : List D → Option D := runD 2 6 g__law_mixed
theorem ok__law_mixed {f : Addr} {fd : FuncData} (F : FnP K "_law_mixed" s__law_mixed f fd) (b_int : mg "int" = none) (b_len : mg "len" = none) : FnOk P w K mg base CX0 1 f fd ["script", "k"] (spD K 2 d__law_mixed) := by
  have nd := sc__law_mixed.nd
  refine fnp_ok (k := 0) (O' := []) F sc__law_mixed fun cdv A outer s H E hr => ?_
  exact (by exact ss_cons (by exact ss_setF 2 nd se_int) (by exact ss_cons (by exact ss_if (O' := []) (by exact st_cmp op_gtD (by exact se_callB (st := false) cb_len b_len (by exact sa_cons (by exact se_var 0) sa_nil)) se_int) (by exact ss_cons (by exact ss_setS 2 nd (by exact se_ix (by exact se_var 0) (by exact se_op op_modD (by exact se_var 1) (by exact se_callB (st := false) cb_len b_len (by exact sa_cons (by exact se_var 0) sa_nil))))) ss_nil) ss_nil) (by exact ss_cons (by exact ss_setF 3 nd (by exact se_op op_modD (by exact se_callT (st := false) cb_int b_int (by exact sa_cons (by exact se_op op_addD (by exact se_op op_addD (by exact se_op op_mulD' (by exact se_var 2) se_int) (by exact se_op op_mulD' (by exact se_var 1) se_int)) se_int) sa_nil)) se_int)) (by exact ss_cons (by exact ss_setF 4 nd (by exact se_op op_modD (by exact se_callT (st := false) cb_int b_int (by exact sa_cons (by exact se_op op_addD (by exact se_op op_addD (by exact se_op op_mulD' (by exact se_varW 3) (by exact se_varW 3)) (by exact se_op op_fdivD (by exact se_varW 3) se_int)) (by exact se_op op_mulD' (by exact se_var 1) se_int)) sa_nil)) se_int)) (by exact ss_cons (by exact ss_setF 5 nd (by exact se_op op_modD (by exact se_callT (st := false) cb_int b_int (by exact sa_cons (by exact se_op op_addD (by exact se_op op_addD (by exact se_op op_mulD' (by exact se_varW 4) (by exact se_varW 4)) (by exact se_op op_fdivD (by exact se_varW 4) se_int)) se_int) sa_nil)) se_int)) (by exact ss_last (by exact ss_ret (by exact se_op op_modD (by exact se_op op_fdivD (by exact se_varW 5) se_int) se_int))))))))
/-! ### _law_row -/
abbrev s__law_row : Stmt := topS 30
theorem sc__law_row : FnScope ["script", "many", "big", "row", "k"] ["script", "many"] (defScope s__law_row) := ⟨rfl, rfl, rfl, by decide +kernel, rfl, by decide +kernel, by decide +kernel⟩
def l1__law_row : XS :=
  (sSeq (sIf (tOf (xBin oGt (xVar 2) (xC (.int 0)))) (sSeq (sApp 3 (xBin oMod (xCall bInt (xCons (xVar 2) xNil)) (xC (.int 1000))))
  (sSeq (sSet 2 (xBin oFdiv (xVar 2) (xC (.int 1000))))
  sNop)) (sSeq (sApp 3 (xCall (fun ds => if ds.length = 2 then (d__law_mixed) ds else none) (xCons (xVar 0) (xCons (xVar 4) xNil))))
  sNop))
  sNop)
def g__law_row : XS :=
  (sSeq (sSet 2 (xC (.int 0)))
  (sSeq (sIf (tAndP (tOf (xBin oGt (xCall bLen (xCons (xVar 0) xNil)) (xC (.int 0)))) (tOf (xBin oGe (xBin oIx (xVar 0) (xC (.int 0))) (xBin oPow (xC (.int 10)) (xC (.int 18)))))) (sSeq (sSet 2 (xBin oIx (xVar 0) (xC (.int 0))))
  sNop) sNop)
  (sSeq (sSet 3 (xLst xNil))
  (sSeq (sFor (xIt oR1 (xCons (xVar 1) xNil)) (gSet 4) l1__law_row)
  (sRet (xVar 3))))))
def d__law_row : List D → Option D := runD 2 5 g__law_row
theorem ok__law_row {f : Addr} {fd : FuncData} (F : FnP K "_law_row" s__law_row f fd) (D__law_mixed : Def P w K mg base 1 "_law_mixed" ["script", "k"] (d__law_mixed)) (b_int : mg "int" = none) (b_len : mg "len" = none) (b_range : mg "range" = none) : FnOk P w K mg base CX0 2 f fd ["script", "many"] (spD K 2 d__law_row) := by
  have nd := sc__law_row.nd
  refine fnp_ok (k := 1) (O' := []) F sc__law_row fun cdv A outer s H E hr => ?_
  exact (by exact ss_cons (by exact ss_setF 2 nd se_int) (by exact ss_cons (by exact ss_if (O' := []) (by exact SW.st (by exact sw_and (by exact st_cmp op_gtD (by exact se_callB (st := false) cb_len b_len (by exact sa_cons (by exact se_var 0) sa_nil)) se_int) (by exact sw_and1 (by exact st_cmp op_geD (by exact se_ix (by exact se_var 0) se_int) (by exact se_op op_powD se_int se_int))))) (by exact ss_cons (by exact ss_setS 2 nd (by exact se_ix (by exact se_var 0) se_int)) ss_nil) ss_nil) (by exact ss_cons (by exact ss_setF 3 nd (by exact se_lst sa_nil)) (by exact ss_cons (by exact ss_for (O' := [3]) (by exact si_r1 (st := false) b_range (by exact sa_cons (by exact se_var 1) sa_nil)) (by exact sg_name 4 nd) (by exact ss_cons (by exact ss_if (O' := [3]) (by exact st_cmp op_gtD (by exact se_var 2) se_int) (by exact ss_cons (by exact ss_app 3 (by exact se_op op_modD (by exact se_callT (st := false) cb_int b_int (by exact sa_cons (by exact se_var 2) sa_nil)) se_int)) (by exact ss_cons (by exact ss_setF 2 nd (by exact se_op op_fdivD (by exact se_var 2) se_int)) ss_nil)) (by exact ss_cons (by exact ss_app 3 (by exact se_callD D__law_mixed hr (by exact sa_cons (by exact se_var 0) (by exact sa_cons (by exact se_var 4) sa_nil)))) ss_nil)) ss_nil)) (by exact ss_last (by exact SS.weak (O1 := []) (by exact ss_ret (by exact se_var 3))))))))
/-! ### _law_is_int -/
abbrev s__law_is_int : Stmt := topS 31
theorem sc__law_is_int : FnScope ["value"] ["value"] (defScope s__law_is_int) := ⟨rfl, rfl, rfl, by decide +kernel, rfl, by decide +kernel, by decide +kernel⟩
def g__law_is_int : XS :=
  (sRet (xAnd (xUn (oIsi "int") (xVar 0)) (xUn oNot (xUn (oIsi "bool") (xVar 0)))))
def d__law_is_int : List D → Option D := runD 1 1 g__law_is_int
theorem ok__law_is_int {f : Addr} {fd : FuncData} (F : FnP K "_law_is_int" s__law_is_int f fd) (b_bool : mg "bool" = none) (b_int : mg "int" = none) (b_isinstance : mg "isinstance" = none) : FnOk P w K mg base CX0 1 f fd ["value"] (spD K 1 d__law_is_int) := by
  have nd := sc__law_is_int.nd
  refine fnp_ok (k := 0) (O' := []) F sc__law_is_int fun cdv A outer s H E hr => ?_
  exact (by exact ss_last (by exact ss_ret (by exact se_and (by exact se_isi "int" (by exact se_var 0) b_isinstance b_int) (by exact se_bone (by exact se_not (m := .f) (by exact se_isi "bool" (by exact se_var 0) b_isinstance b_bool))))))
/-! ### _law_like -/
abbrev s__law_like : Stmt := topS 32
theorem sc__law_like : FnScope ["value", "due", "k"] ["value", "due"] (defScope s__law_like) := ⟨rfl, rfl, rfl, by decide +kernel, rfl, by decide +kernel, by decide +kernel⟩
def g__law_like (d__law_like : List D → Option D) : XS :=
  (sSeq (sIf (tOf (xBin oIs (xVar 1) (xC .none))) (sRet (xBin oIs (xVar 0) (xC .none))) sNop)
  (sSeq (sIf (tTru (xUn (oIsi "bool") (xVar 1))) (sRet (xAnd (xUn (oIsi "bool") (xVar 0)) (xBin oEq (xVar 0) (xVar 1)))) sNop)
  (sSeq (sIf (tTru (xUn (oIsi "tuple") (xVar 1))) (sSeq (sIf (tOrP (tNotP (tTru (xUn (oIsi "tuple") (xVar 0)))) (tOf (xBin oNe (xCall bLen (xCons (xVar 0) xNil)) (xCall bLen (xCons (xVar 1) xNil))))) (sRet (xC (.bool false))) sNop)
  (sRet (xCall bAll (xCons (xLc (xIt oR1 (xCons (xCall bLen (xCons (xVar 1) xNil)) xNil)) (gSet 2) tYesP (xCall (fun ds => if ds.length = 2 then d__law_like ds else none) (xCons (xBin oIx (xVar 0) (xVar 2)) (xCons (xBin oIx (xVar 1) (xVar 2)) xNil))) [2]) xNil)))) sNop)
  (sSeq (sIf (tTru (xUn (oIsi "str") (xVar 1))) (sRet (xAnd (xUn (oIsi "str") (xVar 0)) (xBin oEq (xVar 0) (xVar 1)))) sNop)
  (sRet (xAnd (xCall (fun ds => if ds.length = 1 then (d__law_is_int) ds else none) (xCons (xVar 0) xNil)) (xBin oEq (xVar 0) (xVar 1))))))))
def d__law_like : Nat → List D → Option D
  | 0 => fun _ => none
  | n + 1 => runD 2 3 (g__law_like (d__law_like n))
theorem ok__law_like {f : Addr} {fd : FuncData} (F : FnP K "_law_like" s__law_like f fd) (hm : mg "_law_like" = some (.ref f)) (kp : PySem.W.keepIn K (.ref f) = true) (hb : Binds K fd ["value", "due"] []) (D__law_is_int : Def P w K mg base 1 "_law_is_int" ["value"] (d__law_is_int)) (b_all : mg "all" = none) (b_bool : mg "bool" = none) (b_isinstance : mg "isinstance" = none) (b_len : mg "len" = none) (b_range : mg "range" = none) (b_str : mg "str" = none) (b_tuple : mg "tuple" = none) : ∀ n, FnOk P w K mg base CX0 (2 + n) f fd ["value", "due"] (spD K 2 (d__law_like n)) := by
  intro n
  induction n with
  | zero => exact fn_none F sc__law_like
  | succ n ih =>
    have nd := sc__law_like.nd
    have D__law_like : Def P w K mg base (2 + n) "_law_like" ["value", "due"] (d__law_like n) := def_ok ih hm kp hb
    refine fnp_ok (k := 2 + n) (O' := []) F sc__law_like fun cdv A outer s H E hr => ?_
    exact (by exact ss_cons (by exact ss_if (O' := []) (by exact st_cmp op_isD (by exact se_var 1) se_non) (by exact ss_last (by exact ss_ret (by exact se_cmp op_isD (by exact se_var 0) se_non))) ss_nil) (by exact ss_cons (by exact ss_if (O' := []) (by exact st_val (by exact se_isi "bool" (by exact se_var 1) b_isinstance b_bool)) (by exact ss_last (by exact ss_ret (by exact se_and (by exact se_isi "bool" (by exact se_var 0) b_isinstance b_bool) (by exact se_bone (by exact se_cmp (op_eqP hr) (by exact se_var 0) (by exact se_var 1)))))) ss_nil) (by exact ss_cons (by exact ss_if (O' := []) (by exact st_val (by exact se_isi "tuple" (by exact se_var 1) b_isinstance b_tuple)) (by exact ss_cons (by exact ss_if (O' := []) (by exact SW.st (by exact sw_or (by exact st_not (by exact st_val (by exact se_isi "tuple" (by exact se_var 0) b_isinstance b_tuple))) (by exact sw_or1 (by exact st_cmp (op_neP hr) (by exact se_callB (st := false) cb_len b_len (by exact sa_cons (by exact se_var 0) sa_nil)) (by exact se_callB (st := false) cb_len b_len (by exact sa_cons (by exact se_var 1) sa_nil)))))) (by exact ss_last (by exact ss_ret se_bl)) ss_nil) (by exact ss_last (by exact ss_ret (by exact se_callB (st := false) cb_all b_all (by exact sa_cons (by exact se_lc nd (by exact si_r1 (st := false) b_range (by exact sa_cons (by exact se_callB (st := false) cb_len b_len (by exact sa_cons (by exact se_var 1) sa_nil)) sa_nil)) (blkOk_by (own := [("k", 2)]) rfl) (fun _ _ _ _ _ => (by exact sg_name 2 nd)) (fun _ _ _ _ _ => sts_nil) (fun _ _ _ _ _ => (by exact se_callD (hk := by omega) D__law_like hr (by exact sa_cons (by exact se_ix (by exact se_var 0) (by exact se_var 2)) (by exact sa_cons (by exact se_ix (by exact se_var 1) (by exact se_var 2)) sa_nil))))) sa_nil))))) ss_nil) (by exact ss_cons (by exact ss_if (O' := []) (by exact st_val (by exact se_isi "str" (by exact se_var 1) b_isinstance b_str)) (by exact ss_last (by exact ss_ret (by exact se_and (by exact se_isi "str" (by exact se_var 0) b_isinstance b_str) (by exact se_bone (by exact se_cmp (op_eqP hr) (by exact se_var 0) (by exact se_var 1)))))) ss_nil) (by exact ss_last (by exact ss_ret (by exact se_and (by exact se_callD (hk := by omega) D__law_is_int hr (by exact sa_cons (by exact se_var 0) sa_nil)) (by exact se_bone (by exact se_cmp (op_eqP hr) (by exact se_var 0) (by exact se_var 1))))))))))
/-! ### _law_orders -/
abbrev s__law_orders : Stmt := topS 33
theorem sc__law_orders : FnScope ["count", "rows", "turn", "grown", "row", "one"] ["count"] (defScope s__law_orders) := ⟨rfl, rfl, rfl, by decide +kernel, rfl, by decide +kernel, by decide +kernel⟩
def l1__law_orders : XS :=
  (sSeq (sExt 3 (xLc (xIt oR1 (xCons (xVar 0) xNil)) (gSet 5) (tOf (xBin oNotIn (xVar 5) (xVar 4))) (xBin oAdd (xVar 4) (xTup (xCons (xVar 5) xNil))) [5]))
  sNop)
def l2__law_orders : XS :=
  (sSeq (sSet 3 (xLst xNil))
  (sSeq (sFor (xSeq (xVar 1)) (gSet 4) l1__law_orders)
  (sSeq (sSet 1 (xVar 3))
  sNop)))
def g__law_orders : XS :=
  (sSeq (sSet 1 (xLst (xCons (xTup xNil) xNil)))
  (sSeq (sFor (xIt oR1 (xCons (xVar 0) xNil)) (gSet 2) l2__law_orders)
  (sRet (xVar 1))))
def d__law_orders : List D → Option D := runD 1 6 g__law_orders
theorem ok__law_orders {f : Addr} {fd : FuncData} (F : FnP K "_law_orders" s__law_orders f fd) (b_range : mg "range" = none) : FnOk P w K mg base CX0 1 f fd ["count"] (spD K 1 d__law_orders) := by
  have nd := sc__law_orders.nd
  refine fnp_ok (k := 0) (O' := []) F sc__law_orders fun cdv A outer s H E hr => ?_
  exact (by exact ss_cons (by exact ss_setF 1 nd (by exact se_lst (by exact sa_cons (by exact se_tup sa_nil) sa_nil))) (by exact ss_cons (by exact SS.weak (O1 := []) (by exact ss_for (O' := []) (by exact si_r1 (st := false) b_range (by exact sa_cons (by exact se_var 0) sa_nil)) (by exact sg_name 2 nd) (by exact ss_cons (by exact ss_setF 3 nd (by exact se_lst sa_nil)) (by exact ss_cons (by exact ss_for (O' := [3]) (by exact si_seq (m := .s) (by exact se_var 1)) (by exact sg_name 4 nd) (by exact ss_cons (by exact ss_ext 3 (by exact se_lc nd (by exact si_r1 (st := false) b_range (by exact sa_cons (by exact se_var 0) sa_nil)) (blkOk_by (own := [("one", 5)]) rfl) (fun _ _ _ _ _ => (by exact sg_name 5 nd)) (fun _ _ _ _ _ => (by exact sts_one (by exact st_cmp (op_notInP hr) (by exact se_var 5) (by exact se_var 4)))) (fun _ _ _ _ _ => (by exact se_op op_addD (by exact se_var 4) (by exact se_tup (by exact sa_cons (by exact se_var 5) sa_nil)))))) ss_nil)) (by exact ss_cons (by exact SS.weak (O1 := []) (by exact ss_setS 1 nd (by exact se_var 3))) ss_nil))))) (by exact ss_last (by exact ss_ret (by exact se_var 1)))))
/-! ### _law_common -/
abbrev s__law_common : Stmt := topS 34
theorem sc__law_common : FnScope ["first", "second"] ["first", "second"] (defScope s__law_common) := ⟨rfl, rfl, rfl, by decide +kernel, rfl, by decide +kernel, by decide +kernel⟩
def l1__law_common : XS :=
  (sSeq (sPar [0, 1] (xCons (xVar 1) (xCons (xBin oMod (xCall bInt (xCons (xVar 0) xNil)) (xVar 1)) xNil)))
  sNop)
def g__law_common : XS :=
  (sSeq (sPar [0, 1] (xCons (xCall bAbs (xCons (xVar 0) xNil)) (xCons (xCall bAbs (xCons (xVar 1) xNil)) xNil)))
  (sSeq (sWhile (tOf (xBin oGt (xVar 1) (xC (.int 0)))) l1__law_common)
  (sRet (xVar 0))))
def d__law_common : List D → Option D := runD 2 2 g__law_common
theorem ok__law_common {f : Addr} {fd : FuncData} (F : FnP K "_law_common" s__law_common f fd) (b_abs : mg "abs" = none) (b_int : mg "int" = none) : FnOk P w K mg base CX0 1 f fd ["first", "second"] (spD K 2 d__law_common) := by
  have nd := sc__law_common.nd
  refine fnp_ok (k := 0) (O' := []) F sc__law_common fun cdv A outer s H E hr => ?_
  exact (by exact ss_cons (by exact ss_par 0 1 nd (by exact sam_cons (by exact se_callB (st := false) cb_abs b_abs (by exact sa_cons (by exact se_var 0) sa_nil)) (by exact sam_cons (by exact se_callB (st := false) cb_abs b_abs (by exact sa_cons (by exact se_var 1) sa_nil)) sam_nil))) (by exact ss_cons (by exact SS.weak (O1 := [1]) (by exact ss_while (O' := [1]) (by exact st_cmp op_gtD (by exact se_varW 1) se_int) (by exact ss_cons (by exact SS.weak (O1 := []) (by exact ss_par 0 1 nd (by exact sam_cons (by exact se_var 1) (by exact sam_cons (by exact se_op op_modD (by exact se_callT (st := false) cb_int b_int (by exact sa_cons (by exact se_var 0) sa_nil)) (by exact se_var 1)) sam_nil)))) ss_nil))) (by exact ss_last (by exact ss_ret (by exact se_var 0)))))
/-! ### _law_ratio -/
abbrev s__law_ratio : Stmt := topS 35
theorem sc__law_ratio : FnScope ["a", "b", "shared"] ["a", "b"] (defScope s__law_ratio) := ⟨rfl, rfl, rfl, by decide +kernel, rfl, by decide +kernel, by decide +kernel⟩
def g__law_ratio : XS :=
  (sSeq (sSet 2 (xCall (fun ds => if ds.length = 2 then (d__law_common) ds else none) (xCons (xVar 0) (xCons (xVar 1) xNil))))
  (sSeq (sIf (tOf (xBin oLt (xVar 1) (xC (.int 0)))) (sSeq (sSet 2 (xUn oNeg (xVar 2)))
  sNop) sNop)
  (sRet (xTup (xCons (xBin oFdiv (xVar 0) (xVar 2)) (xCons (xBin oFdiv (xVar 1) (xVar 2)) xNil))))))
def d__law_ratio : List D → Option D := runD 2 3 g__law_ratio
theorem ok__law_ratio {f : Addr} {fd : FuncData} (F : FnP K "_law_ratio" s__law_ratio f fd) (D__law_common : Def P w K mg base 1 "_law_common" ["first", "second"] (d__law_common)) : FnOk P w K mg base CX0 2 f fd ["a", "b"] (spD K 2 d__law_ratio) := by
  have nd := sc__law_ratio.nd
  refine fnp_ok (k := 1) (O' := []) F sc__law_ratio fun cdv A outer s H E hr => ?_
  exact (by exact ss_cons (by exact ss_setS 2 nd (by exact se_callD D__law_common hr (by exact sa_cons (by exact se_var 0) (by exact sa_cons (by exact se_var 1) sa_nil)))) (by exact ss_cons (by exact ss_if (O' := []) (by exact st_cmp op_ltD (by exact se_var 1) se_int) (by exact ss_cons (by exact ss_setF 2 nd (by exact se_un un_negD (by exact se_var 2))) ss_nil) ss_nil) (by exact ss_last (by exact ss_ret (by exact se_tup (by exact sa_cons (by exact se_op op_fdivD (by exact se_var 0) (by exact se_var 2)) (by exact sa_cons (by exact se_op op_fdivD (by exact se_var 1) (by exact se_var 2)) sa_nil)))))))
/-! ### _law_tuples -/
abbrev s__law_tuples : Stmt := topS 36
theorem sc__law_tuples : FnScope ["count", "most", "rows", "turn", "grown", "one", "k"] ["count", "most"] (defScope s__law_tuples) := ⟨rfl, rfl, rfl, by decide +kernel, rfl, by decide +kernel, by decide +kernel⟩
def l1__law_tuples : XS :=
  (sSeq (sExt 4 (xLc (xIt oR1 (xCons (xVar 1) xNil)) (gSet 6) tYesP (xBin oAdd (xVar 5) (xTup (xCons (xVar 6) xNil))) [6]))
  sNop)
def l2__law_tuples : XS :=
  (sSeq (sSet 4 (xLst xNil))
  (sSeq (sFor (xSeq (xVar 2)) (gSet 5) l1__law_tuples)
  (sSeq (sSet 2 (xVar 4))
  sNop)))
def g__law_tuples : XS :=
  (sSeq (sSet 2 (xLst (xCons (xTup xNil) xNil)))
  (sSeq (sFor (xIt oR1 (xCons (xVar 0) xNil)) (gSet 3) l2__law_tuples)
  (sRet (xVar 2))))
def d__law_tuples : List D → Option D := runD 2 7 g__law_tuples
theorem ok__law_tuples {f : Addr} {fd : FuncData} (F : FnP K "_law_tuples" s__law_tuples f fd) (b_range : mg "range" = none) : FnOk P w K mg base CX0 1 f fd ["count", "most"] (spD K 2 d__law_tuples) := by
  have nd := sc__law_tuples.nd
  refine fnp_ok (k := 0) (O' := []) F sc__law_tuples fun cdv A outer s H E hr => ?_
  exact (by exact ss_cons (by exact ss_setF 2 nd (by exact se_lst (by exact sa_cons (by exact se_tup sa_nil) sa_nil))) (by exact ss_cons (by exact SS.weak (O1 := []) (by exact ss_for (O' := []) (by exact si_r1 (st := false) b_range (by exact sa_cons (by exact se_var 0) sa_nil)) (by exact sg_name 3 nd) (by exact ss_cons (by exact ss_setF 4 nd (by exact se_lst sa_nil)) (by exact ss_cons (by exact ss_for (O' := [4]) (by exact si_seq (m := .s) (by exact se_var 2)) (by exact sg_name 5 nd) (by exact ss_cons (by exact ss_ext 4 (by exact se_lc nd (by exact si_r1 (st := false) b_range (by exact sa_cons (by exact se_var 1) sa_nil)) (blkOk_by (own := [("k", 6)]) rfl) (fun _ _ _ _ _ => (by exact sg_name 6 nd)) (fun _ _ _ _ _ => sts_nil) (fun _ _ _ _ _ => (by exact se_op op_addD (by exact se_var 5) (by exact se_tup (by exact sa_cons (by exact se_var 6) sa_nil)))))) ss_nil)) (by exact ss_cons (by exact SS.weak (O1 := []) (by exact ss_setS 2 nd (by exact se_var 4))) ss_nil))))) (by exact ss_last (by exact ss_ret (by exact se_var 2)))))
/-! ### _law_ends -/
abbrev s__law_ends : Stmt := topS 37
theorem sc__law_ends : FnScope ["days", "order", "k", "now", "ends"] ["days", "order"] (defScope s__law_ends) := ⟨rfl, rfl, rfl, by decide +kernel, rfl, by decide +kernel, by decide +kernel⟩
def l1__law_ends : XS :=
  (sSeq (sSet 3 (xBin oAdd (xVar 3) (xBin oIx (xVar 0) (xVar 2))))
  (sSeq (sPut 4 (xVar 2) (xBin oSub (xVar 3) (xC (.int 1))))
  sNop))
def g__law_ends : XS :=
  (sSeq (sPar [3, 4] (xCons (xC (.int 0)) (xCons (xBin oMul' (xLst (xCons (xC (.int 0)) xNil)) (xCall bLen (xCons (xVar 0) xNil))) xNil)))
  (sSeq (sFor (xSeq (xVar 1)) (gSet 2) l1__law_ends)
  (sRet (xVar 4))))
def d__law_ends : List D → Option D := runD 2 5 g__law_ends
theorem ok__law_ends {f : Addr} {fd : FuncData} (F : FnP K "_law_ends" s__law_ends f fd) (b_len : mg "len" = none) : FnOk P w K mg base CX0 1 f fd ["days", "order"] (spD K 2 d__law_ends) := by
  have nd := sc__law_ends.nd
  refine fnp_ok (k := 0) (O' := []) F sc__law_ends fun cdv A outer s H E hr => ?_
  exact (by exact ss_cons (by exact ss_par 3 4 nd (by exact sam_cons se_int (by exact sam_cons (by exact se_op op_mulD' (by exact se_lst (by exact sa_cons se_int sa_nil)) (by exact se_callB (st := false) cb_len b_len (by exact sa_cons (by exact se_var 0) sa_nil))) sam_nil))) (by exact ss_cons (by exact ss_for (O' := [4, 3]) (by exact si_seq (m := .s) (by exact se_var 1)) (by exact sg_name 2 nd) (by exact ss_cons (by exact ss_setF 3 nd (by exact se_op op_addD (by exact se_varW 3) (by exact se_ix (by exact se_var 0) (by exact se_var 2)))) (by exact ss_cons (by exact ss_put 4 (by exact se_op op_subD (by exact se_varW 3) se_int) (by exact se_var 2)) ss_nil))) (by exact ss_last (by exact SS.weak (O1 := [3]) (by exact ss_ret (by exact se_var 4))))))
/-! ### _law_kept -/
abbrev s__law_kept : Stmt := topS 38
theorem sc__law_kept : FnScope ["days", "promised", "order", "ends", "k"] ["days", "promised", "order"] (defScope s__law_kept) := ⟨rfl, rfl, rfl, by decide +kernel, rfl, by decide +kernel, by decide +kernel⟩
def g__law_kept : XS :=
  (sSeq (sSet 3 (xCall (fun ds => if ds.length = 2 then (d__law_ends) ds else none) (xCons (xVar 0) (xCons (xVar 2) xNil))))
  (sRet (xCall bAll (xCons (xLc (xIt oR1 (xCons (xCall bLen (xCons (xVar 0) xNil)) xNil)) (gSet 4) tYesP (xBin oLe (xBin oIx (xVar 3) (xVar 4)) (xBin oIx (xVar 1) (xVar 4))) [4]) xNil))))
def d__law_kept : List D → Option D := runD 3 5 g__law_kept
theorem ok__law_kept {f : Addr} {fd : FuncData} (F : FnP K "_law_kept" s__law_kept f fd) (D__law_ends : Def P w K mg base 1 "_law_ends" ["days", "order"] (d__law_ends)) (b_all : mg "all" = none) (b_len : mg "len" = none) (b_range : mg "range" = none) : FnOk P w K mg base CX0 2 f fd ["days", "promised", "order"] (spD K 3 d__law_kept) := by
  have nd := sc__law_kept.nd
  refine fnp_ok (k := 1) (O' := []) F sc__law_kept fun cdv A outer s H E hr => ?_
  exact (by exact ss_cons (by exact ss_setS 3 nd (by exact se_callD D__law_ends hr (by exact sa_cons (by exact se_var 0) (by exact sa_cons (by exact se_var 2) sa_nil)))) (by exact ss_last (by exact ss_ret (by exact se_callB (st := false) cb_all b_all (by exact sa_cons (by exact se_lc nd (by exact si_r1 (st := false) b_range (by exact sa_cons (by exact se_callB (st := false) cb_len b_len (by exact sa_cons (by exact se_var 0) sa_nil)) sa_nil)) (blkOk_by (own := [("k", 4)]) rfl) (fun _ _ _ _ _ => (by exact sg_name 4 nd)) (fun _ _ _ _ _ => sts_nil) (fun _ _ _ _ _ => (by exact se_cmp op_leD (by exact se_ix (by exact se_var 3) (by exact se_var 4)) (by exact se_ix (by exact se_var 1) (by exact se_var 4))))) sa_nil)))))
/-! ### _law_owed -/
abbrev s__law_owed : Stmt := topS 39
theorem sc__law_owed : FnScope ["works", "order", "ends", "owed", "k", "days", "promised", "rate", "cap", "work"] ["works", "order"] (defScope s__law_owed) := ⟨rfl, rfl, rfl, by decide +kernel, rfl, by decide +kernel, by decide +kernel⟩
def l1__law_owed : XS :=
  (sSeq (sTgt (gTupD 4 (gsCons (gSet 5) (gsCons (gSet 6) (gsCons (gSet 7) (gsCons (gSet 8) gsNil))))) (xBin oIx (xVar 0) (xVar 4)))
  (sSeq (sApp 3 (xCall bMin2 (xCons (xVar 8) (xCons (xBin oMul' (xCall bMax2 (xCons (xC (.int 0)) (xCons (xBin oSub (xBin oIx (xVar 2) (xVar 4)) (xVar 6)) xNil))) (xVar 7)) xNil))))
  sNop))
def g__law_owed : XS :=
  (sSeq (sSet 2 (xCall (fun ds => if ds.length = 2 then (d__law_ends) ds else none) (xCons (xLc (xSeq (xVar 0)) (gSet 9) tYesP (xBin oIx (xVar 9) (xC (.int 0))) [9]) (xCons (xVar 1) xNil))))
  (sSeq (sSet 3 (xLst xNil))
  (sSeq (sFor (xIt oR1 (xCons (xCall bLen (xCons (xVar 0) xNil)) xNil)) (gSet 4) l1__law_owed)
  (sRet (xCall bTuple (xCons (xVar 3) xNil))))))
def d__law_owed : List D → Option D := runD 2 10 g__law_owed
theorem ok__law_owed {f : Addr} {fd : FuncData} (F : FnP K "_law_owed" s__law_owed f fd) (D__law_ends : Def P w K mg base 1 "_law_ends" ["days", "order"] (d__law_ends)) (b_len : mg "len" = none) (b_max : mg "max" = none) (b_min : mg "min" = none) (b_range : mg "range" = none) (b_tuple : mg "tuple" = none) : FnOk P w K mg base CX0 2 f fd ["works", "order"] (spD K 2 d__law_owed) := by
  have nd := sc__law_owed.nd
  refine fnp_ok (k := 1) (O' := []) F sc__law_owed fun cdv A outer s H E hr => ?_
  exact (by exact ss_cons (by exact ss_setS 2 nd (by exact se_callD D__law_ends hr (by exact sa_cons (by exact se_lc nd (by exact si_seq (m := .s) (by exact se_var 0)) (blkOk_by (own := [("work", 9)]) rfl) (fun _ _ _ _ _ => (by exact sg_name 9 nd)) (fun _ _ _ _ _ => sts_nil) (fun _ _ _ _ _ => (by exact se_ix (by exact se_var 9) se_int))) (by exact sa_cons (by exact se_var 1) sa_nil)))) (by exact ss_cons (by exact ss_setF 3 nd (by exact se_lst sa_nil)) (by exact ss_cons (by exact ss_for (O' := [3]) (by exact si_r1 (st := false) b_range (by exact sa_cons (by exact se_callB (st := false) cb_len b_len (by exact sa_cons (by exact se_var 0) sa_nil)) sa_nil)) (by exact sg_name 4 nd) (by exact ss_cons (by exact ss_tgt (by exact se_ix (by exact se_var 0) (by exact se_var 4)) (by exact sg_tup rfl (by exact sgs_cons (by exact sg_name 5 nd) (by exact sgs_cons (by exact sg_name 6 nd) (by exact sgs_cons (by exact sg_name 7 nd) (by exact sgs_cons (by exact sg_name 8 nd) sgs_nil)))))) (by exact ss_cons (by exact ss_app 3 (by exact se_callB (st := false) cb_min2 b_min (by exact sa_cons (by exact se_var 8) (by exact sa_cons (by exact se_op op_mulD' (by exact se_callB (st := false) cb_max2 b_max (by exact sa_cons se_int (by exact sa_cons (by exact se_op op_subD (by exact se_ix (by exact se_var 2) (by exact se_var 4)) (by exact se_var 6)) sa_nil))) (by exact se_var 7)) sa_nil)))) ss_nil))) (by exact ss_last (by exact ss_ret (by exact se_callT (st := false) cb_tuple b_tuple (by exact sa_cons (by exact se_varW 3) sa_nil)))))))
/-! ### _law_chances -/
abbrev s__law_chances : Stmt := topS 40
theorem sc__law_chances : FnScope ["ships", "weights", "promised", "order", "k", "rows", "top", "under", "grown", "days", "part", "j"] ["ships", "weights", "promised", "order"] (defScope s__law_chances) := ⟨rfl, rfl, rfl, by decide +kernel, rfl, by decide +kernel, by decide +kernel⟩
def l1__law_chances : XS :=
  (sSeq (sExt 8 (xLc (xIt oR1 (xCons (xCall bLen (xCons (xBin oIx (xVar 1) (xVar 4)) xNil)) xNil)) (gSet 11) tYesP (xTup (xCons (xBin oAdd (xVar 9) (xTup (xCons (xBin oAdd (xBin oIx (xBin oIx (xVar 0) (xVar 4)) (xC (.int 1))) (xVar 11)) xNil))) (xCons (xBin oMul' (xVar 10) (xBin oIx (xBin oIx (xVar 1) (xVar 4)) (xVar 11))) xNil))) [11]))
  sNop)
def l2__law_chances : XS :=
  (sSeq (sSet 8 (xLst xNil))
  (sSeq (sFor (xSeq (xVar 5)) (gTupD 2 (gsCons (gSet 9) (gsCons (gSet 10) gsNil))) l1__law_chances)
  (sSeq (sSet 5 (xVar 8))
  (sSeq (sSet 7 (xBin oMul' (xVar 7) (xCall bSum (xCons (xBin oIx (xVar 1) (xVar 4)) xNil))))
  sNop))))
def l3__law_chances : XS :=
  (sSeq (sIf (tTru (xCall (fun ds => if ds.length = 3 then (d__law_kept) ds else none) (xCons (xVar 9) (xCons (xVar 2) (xCons (xVar 3) xNil))))) (sSeq (sSet 6 (xBin oAdd (xVar 6) (xVar 10)))
  sNop) sNop)
  sNop)
def g__law_chances : XS :=
  (sSeq (sPar [5, 6, 7] (xCons (xLst (xCons (xTup (xCons (xTup xNil) (xCons (xC (.int 1)) xNil))) xNil)) (xCons (xC (.int 0)) (xCons (xC (.int 1)) xNil))))
  (sSeq (sFor (xIt oR1 (xCons (xCall bLen (xCons (xVar 0) xNil)) xNil)) (gSet 4) l2__law_chances)
  (sSeq (sFor (xSeq (xVar 5)) (gTupD 2 (gsCons (gSet 9) (gsCons (gSet 10) gsNil))) l3__law_chances)
  (sRet (xCall (fun ds => if ds.length = 2 then ((d__law_ratio) ds).bind fun d => if flat d then some d else none else none) (xCons (xVar 6) (xCons (xVar 7) xNil)))))))
def d__law_chances : List D → Option D := runD 4 12 g__law_chances
theorem ok__law_chances {f : Addr} {fd : FuncData} (F : FnP K "_law_chances" s__law_chances f fd) (D__law_ratio : Def P w K mg base 2 "_law_ratio" ["a", "b"] (d__law_ratio)) (D__law_kept : Def P w K mg base 2 "_law_kept" ["days", "promised", "order"] (d__law_kept)) (b_len : mg "len" = none) (b_range : mg "range" = none) (b_sum : mg "sum" = none) : FnOk P w K mg base CX0 3 f fd ["ships", "weights", "promised", "order"] (spD K 4 d__law_chances) := by
  have nd := sc__law_chances.nd
  refine fnp_ok (k := 2) (O' := []) F sc__law_chances fun cdv A outer s H E hr => ?_
  exact (by exact ss_cons (by exact ss_par3 5 6 7 nd (by exact sam_cons (by exact se_lst (by exact sa_cons (by exact se_tup (by exact sa_cons (by exact se_tup sa_nil) (by exact sa_cons se_int sa_nil))) sa_nil)) (by exact sam_cons se_int (by exact sam_cons se_int sam_nil)))) (by exact ss_cons (by exact SS.weak (O1 := [7, 6]) (by exact ss_for (O' := [7, 6]) (by exact si_r1 (st := false) b_range (by exact sa_cons (by exact se_callB (st := false) cb_len b_len (by exact sa_cons (by exact se_var 0) sa_nil)) sa_nil)) (by exact sg_name 4 nd) (by exact ss_cons (by exact ss_setF 8 nd (by exact se_lst sa_nil)) (by exact ss_cons (by exact ss_for (O' := [8, 7, 6]) (by exact si_seq (m := .s) (by exact se_var 5)) (by exact sg_tup rfl (by exact sgs_cons (by exact sg_name 9 nd) (by exact sgs_cons (by exact sg_name 10 nd) sgs_nil))) (by exact ss_cons (by exact ss_ext 8 (by exact se_lc nd (by exact si_r1 (st := false) b_range (by exact sa_cons (by exact se_callB (st := false) cb_len b_len (by exact sa_cons (by exact se_ix (by exact se_var 1) (by exact se_var 4)) sa_nil)) sa_nil)) (blkOk_by (own := [("j", 11)]) rfl) (fun _ _ _ _ _ => (by exact sg_name 11 nd)) (fun _ _ _ _ _ => sts_nil) (fun _ _ _ _ _ => (by exact se_tup (by exact sa_cons (by exact se_op op_addD (by exact se_var 9) (by exact se_tup (by exact sa_cons (by exact se_op op_addD (by exact se_ix (by exact se_ix (by exact se_var 0) (by exact se_var 4)) se_int) (by exact se_var 11)) sa_nil))) (by exact sa_cons (by exact se_op op_mulD' (by exact se_var 10) (by exact se_ix (by exact se_ix (by exact se_var 1) (by exact se_var 4)) (by exact se_var 11))) sa_nil)))))) ss_nil)) (by exact ss_cons (by exact SS.weak (O1 := [7, 6]) (by exact ss_setS 5 nd (by exact se_var 8))) (by exact ss_cons (by exact ss_setF 7 nd (by exact se_op op_mulD' (by exact se_varW 7) (by exact se_callB (st := false) cb_sum b_sum (by exact sa_cons (by exact se_ix (by exact se_var 1) (by exact se_var 4)) sa_nil)))) ss_nil)))))) (by exact ss_cons (by exact ss_for (O' := [7, 6]) (by exact si_seq (m := .s) (by exact se_var 5)) (by exact sg_tup rfl (by exact sgs_cons (by exact sg_name 9 nd) (by exact sgs_cons (by exact sg_name 10 nd) sgs_nil))) (by exact ss_cons (by exact ss_if (O' := [6, 7, 6]) (by exact st_val (by exact se_callD D__law_kept hr (by exact sa_cons (by exact se_var 9) (by exact sa_cons (by exact se_var 2) (by exact sa_cons (by exact se_var 3) sa_nil))))) (by exact ss_cons (by exact ss_setF 6 nd (by exact se_op op_addD (by exact se_varW 6) (by exact se_var 10))) ss_nil) ss_nil) ss_nil)) (by exact ss_last (by exact ss_ret (by exact se_callWD D__law_ratio hr (by exact sa_cons (by exact se_varW 6) (by exact sa_cons (by exact se_varW 7) sa_nil))))))))
/-! ### _law_spare -/
abbrev s__law_spare : Stmt := topS 41
theorem sc__law_spare : FnScope ["highs", "promised", "order", "spare", "k", "most", "more", "j"] ["highs", "promised", "order"] (defScope s__law_spare) := ⟨rfl, rfl, rfl, by decide +kernel, rfl, by decide +kernel, by decide +kernel⟩
def l1__law_spare : XS :=
  (sSeq (sIf (tNotP (tTru (xCall (fun ds => if ds.length = 3 then (d__law_kept) ds else none) (xCons (xLc (xIt oR1 (xCons (xCall bLen (xCons (xVar 0) xNil)) xNil)) (gSet 7) tYesP (xBin oAdd (xBin oIx (xVar 0) (xVar 7)) (xBin oMul' (xVar 6) (xCall bInt (xCons (xBin oEq (xVar 7) (xVar 4)) xNil)))) [7]) (xCons (xVar 1) (xCons (xVar 2) xNil)))))) sBrk sNop)
  (sSeq (sSet 5 (xVar 6))
  sNop))
def l2__law_spare : XS :=
  (sSeq (sSet 5 (xC (.int 0)))
  (sSeq (sFor (xIt oR2 (xCons (xC (.int 1)) (xCons (xC (.int 40)) xNil))) (gSet 6) l1__law_spare)
  (sSeq (sApp 3 (xVar 5))
  sNop)))
def g__law_spare : XS :=
  (sSeq (sIf (tNotP (tTru (xCall (fun ds => if ds.length = 3 then (d__law_kept) ds else none) (xCons (xVar 0) (xCons (xVar 1) (xCons (xVar 2) xNil)))))) (sRet (xC .none)) sNop)
  (sSeq (sSet 3 (xLst xNil))
  (sSeq (sFor (xIt oR1 (xCons (xCall bLen (xCons (xVar 0) xNil)) xNil)) (gSet 4) l2__law_spare)
  (sRet (xCall bTuple (xCons (xVar 3) xNil))))))
def d__law_spare : List D → Option D := runD 3 8 g__law_spare
theorem ok__law_spare {f : Addr} {fd : FuncData} (F : FnP K "_law_spare" s__law_spare f fd) (D__law_kept : Def P w K mg base 2 "_law_kept" ["days", "promised", "order"] (d__law_kept)) (b_int : mg "int" = none) (b_len : mg "len" = none) (b_range : mg "range" = none) (b_tuple : mg "tuple" = none) : FnOk P w K mg base CX0 3 f fd ["highs", "promised", "order"] (spD K 3 d__law_spare) := by
  have nd := sc__law_spare.nd
  refine fnp_ok (k := 2) (O' := []) F sc__law_spare fun cdv A outer s H E hr => ?_
  exact (by exact ss_cons (by exact ss_if (O' := []) (by exact st_not (by exact st_val (by exact se_callD D__law_kept hr (by exact sa_cons (by exact se_var 0) (by exact sa_cons (by exact se_var 1) (by exact sa_cons (by exact se_var 2) sa_nil)))))) (by exact ss_last (by exact ss_ret se_non)) ss_nil) (by exact ss_cons (by exact ss_setF 3 nd (by exact se_lst sa_nil)) (by exact ss_cons (by exact ss_for (O' := [3]) (by exact si_r1 (st := false) b_range (by exact sa_cons (by exact se_callB (st := false) cb_len b_len (by exact sa_cons (by exact se_var 0) sa_nil)) sa_nil)) (by exact sg_name 4 nd) (by exact ss_cons (by exact ss_setF 5 nd se_int) (by exact ss_cons (by exact SS.weak (O1 := [3]) (by exact ss_for (O' := [3]) (by exact si_r2 (st := false) b_range (by exact sa_cons se_int (by exact sa_cons se_int sa_nil))) (by exact sg_name 6 nd) (by exact ss_cons (by exact ss_if (O' := [3]) (by exact st_not (by exact st_val (by exact se_callD D__law_kept hr (by exact sa_cons (by exact se_lc nd (by exact si_r1 (st := false) b_range (by exact sa_cons (by exact se_callB (st := false) cb_len b_len (by exact sa_cons (by exact se_var 0) sa_nil)) sa_nil)) (blkOk_by (own := [("j", 7)]) rfl) (fun _ _ _ _ _ => (by exact sg_name 7 nd)) (fun _ _ _ _ _ => sts_nil) (fun _ _ _ _ _ => (by exact se_op op_addD (by exact se_ix (by exact se_var 0) (by exact se_var 7)) (by exact se_op op_mulD' (by exact se_var 6) (by exact se_callT (st := false) cb_int b_int (by exact sa_cons (by exact se_cmp (op_eqP hr) (by exact se_var 7) (by exact se_var 4)) sa_nil)))))) (by exact sa_cons (by exact se_var 1) (by exact sa_cons (by exact se_var 2) sa_nil)))))) (by exact ss_last ss_break) ss_nil) (by exact ss_cons (by exact ss_setS 5 nd (by exact se_var 6)) ss_nil)))) (by exact ss_cons (by exact ss_app 3 (by exact se_var 5)) ss_nil)))) (by exact ss_last (by exact ss_ret (by exact se_callT (st := false) cb_tuple b_tuple (by exact sa_cons (by exact se_varW 3) sa_nil)))))))
/-! ### _law_unsure -/
abbrev s__law_unsure : Stmt := topS 42
theorem sc__law_unsure : FnScope ["row", "n", "lows", "promised", "highs", "k", "every", "good", "order", "ships", "weights", "low", "high", "j"] ["row", "n", "lows", "promised"] (defScope s__law_unsure) := ⟨rfl, rfl, rfl, by decide +kernel, rfl, by decide +kernel, by decide +kernel⟩
def l1__law_unsure : XS :=
  (sSeq (sApp 10 (xCall bTuple (xCons (xLc (xIt oR1 (xCons (xBin oAdd (xBin oSub (xBin oIx (xVar 4) (xVar 5)) (xBin oIx (xVar 2) (xVar 5))) (xC (.int 1))) xNil)) (gSet 13) tYesP (xBin oAdd (xC (.int 1)) (xBin oMod (xCall bInt (xCons (xBin oIx (xVar 0) (xBin oAdd (xBin oAdd (xC (.int 21)) (xBin oMul' (xC (.int 3)) (xVar 5))) (xVar 13))) xNil)) (xC (.int 4)))) [13]) xNil)))
  sNop)
def g__law_unsure : XS :=
  (sSeq (sSet 4 (xLc (xIt oR1 (xCons (xVar 1) xNil)) (gSet 5) tYesP (xBin oAdd (xBin oIx (xVar 2) (xVar 5)) (xBin oMod (xCall bInt (xCons (xBin oIx (xVar 0) (xBin oAdd (xC (.int 17)) (xVar 5))) xNil)) (xC (.int 3)))) [5]))
  (sSeq (sPar [9, 10] (xCons (xCall bTuple (xCons (xLc (xIt oR1 (xCons (xVar 1) xNil)) (gSet 5) tYesP (xTup (xCons (xC (.int 0)) (xCons (xBin oIx (xVar 2) (xVar 5)) (xCons (xBin oIx (xVar 4) (xVar 5)) (xCons (xBin oIx (xVar 3) (xVar 5)) xNil))))) [5]) xNil)) (xCons (xLst xNil) xNil)))
  (sSeq (sFor (xIt oR1 (xCons (xVar 1) xNil)) (gSet 5) l1__law_unsure)
  (sSeq (sSet 6 (xCall (fun ds => if ds.length = 1 then (d__law_orders) ds else none) (xCons (xVar 1) xNil)))
  (sSeq (sSet 7 (xLc (xSeq (xVar 6)) (gSet 8) (tTru (xCall (fun ds => if ds.length = 3 then ((d__law_kept) ds).bind fun d => if flat d then some d else none else none) (xCons (xVar 4) (xCons (xVar 3) (xCons (xVar 8) xNil))))) (xVar 8) [8]))
  (sSeq (sIf (tNotP (tTru (xCall (fun ds => if ds.length = 2 then (d__law_like 8) ds else none) (xCons (xCall (fun ds => if ds.length = 1 then ((d_sure_orders) ds).bind fun d => if flat d then some d else none else none) (xCons (xVar 9) xNil)) (xCons (xCall bTuple (xCons (xVar 7) xNil)) xNil))))) (sRet (xC (.bool false))) sNop)
  (sSeq (sSet 8 (xBin oIx (xVar 6) (xBin oMod (xCall bInt (xCons (xBin oIx (xVar 0) (xC (.int 33))) xNil)) (xCall bLen (xCons (xVar 6) xNil)))))
  (sSeq (sIf (tAndP (tOf (xBin oGt (xCall bLen (xCons (xVar 7) xNil)) (xC (.int 0)))) (tOf (xBin oEq (xBin oMod (xCall bInt (xCons (xBin oIx (xVar 0) (xC (.int 34))) xNil)) (xC (.int 2))) (xC (.int 0))))) (sSeq (sSet 8 (xBin oIx (xVar 7) (xBin oMod (xCall bInt (xCons (xBin oIx (xVar 0) (xC (.int 33))) xNil)) (xCall bLen (xCons (xVar 7) xNil)))))
  sNop) sNop)
  (sSeq (sPar [11, 12] (xCons (xCall (fun ds => if ds.length = 2 then (d__law_ends) ds else none) (xCons (xVar 2) (xCons (xVar 8) xNil))) (xCons (xCall (fun ds => if ds.length = 2 then (d__law_ends) ds else none) (xCons (xVar 4) (xCons (xVar 8) xNil))) xNil)))
  (sSeq (sIf (tNotP (tTru (xCall (fun ds => if ds.length = 2 then (d__law_like 8) ds else none) (xCons (xCall (fun ds => if ds.length = 2 then ((d_keeps_surely) ds).bind fun d => if flat d then some d else none else none) (xCons (xVar 9) (xCons (xVar 8) xNil))) (xCons (xBin oIn (xVar 8) (xVar 7)) xNil))))) (sRet (xC (.bool false))) sNop)
  (sSeq (sIf (tNotP (tTru (xCall (fun ds => if ds.length = 2 then (d__law_like 8) ds else none) (xCons (xCall (fun ds => if ds.length = 2 then ((d_may_keep) ds).bind fun d => if flat d then some d else none else none) (xCons (xVar 9) (xCons (xVar 8) xNil))) (xCons (xCall (fun ds => if ds.length = 3 then (d__law_kept) ds else none) (xCons (xVar 2) (xCons (xVar 3) (xCons (xVar 8) xNil)))) xNil))))) (sRet (xC (.bool false))) sNop)
  (sSeq (sIf (tNotP (tTru (xCall (fun ds => if ds.length = 2 then (d__law_like 8) ds else none) (xCons (xCall (fun ds => if ds.length = 2 then ((d_end_bounds) ds).bind fun d => if flat d then some d else none else none) (xCons (xVar 9) (xCons (xVar 8) xNil))) (xCons (xCall bTuple (xCons (xLc (xIt oR1 (xCons (xVar 1) xNil)) (gSet 5) tYesP (xTup (xCons (xBin oIx (xVar 11) (xVar 5)) (xCons (xBin oIx (xVar 12) (xVar 5)) xNil))) [5]) xNil)) xNil))))) (sRet (xC (.bool false))) sNop)
  (sSeq (sIf (tNotP (tTru (xCall (fun ds => if ds.length = 2 then (d__law_like 8) ds else none) (xCons (xCall (fun ds => if ds.length = 2 then ((d_sure_plan) ds).bind fun d => if flat d then some d else none else none) (xCons (xVar 9) (xCons (xVar 8) xNil))) (xCons (xCall bTuple (xCons (xLc (xIt oR1 (xCons (xVar 1) xNil)) (gSet 5) tYesP (xBin oSub (xBin oAdd (xBin oIx (xVar 12) (xVar 5)) (xC (.int 1))) (xBin oIx (xVar 4) (xVar 5))) [5]) xNil)) xNil))))) (sRet (xC (.bool false))) sNop)
  (sSeq (sIf (tNotP (tTru (xCall (fun ds => if ds.length = 2 then (d__law_like 8) ds else none) (xCons (xCall (fun ds => if ds.length = 2 then ((d_spare_days) ds).bind fun d => if flat d then some d else none else none) (xCons (xVar 9) (xCons (xVar 8) xNil))) (xCons (xCall (fun ds => if ds.length = 3 then (d__law_spare) ds else none) (xCons (xVar 4) (xCons (xVar 3) (xCons (xVar 8) xNil)))) xNil))))) (sRet (xC (.bool false))) sNop)
  (sRet (xCall (fun ds => if ds.length = 2 then (d__law_like 8) ds else none) (xCons (xCall (fun ds => if ds.length = 3 then ((d_chance_kept) ds).bind fun d => if flat d then some d else none else none) (xCons (xVar 9) (xCons (xCall bTuple (xCons (xVar 10) xNil)) (xCons (xVar 8) xNil)))) (xCons (xCall (fun ds => if ds.length = 4 then ((d__law_chances) ds).bind fun d => if flat d then some d else none else none) (xCons (xVar 9) (xCons (xVar 10) (xCons (xVar 3) (xCons (xVar 8) xNil))))) xNil))))))))))))))))))
def d__law_unsure : List D → Option D := runD 4 14 g__law_unsure
theorem ok__law_unsure {f : Addr} {fd : FuncData} (F : FnP K "_law_unsure" s__law_unsure f fd) (D_keeps_surely : Def P w K mg base 3 "keeps_surely" ["ships", "order"] (d_keeps_surely)) (D_may_keep : Def P w K mg base 3 "may_keep" ["ships", "order"] (d_may_keep)) (D_sure_orders : Def P w K mg base 4 "sure_orders" ["ships"] (d_sure_orders)) (D_sure_plan : Def P w K mg base 2 "sure_plan" ["ships", "order"] (d_sure_plan)) (D_spare_days : Def P w K mg base 4 "spare_days" ["ships", "order"] (d_spare_days)) (D_end_bounds : Def P w K mg base 2 "end_bounds" ["ships", "order"] (d_end_bounds)) (D_chance_kept : Def P w K mg base 4 "chance_kept" ["ships", "weights", "order"] (d_chance_kept)) (D__law_like : Def P w K mg base 10 "_law_like" ["value", "due"] (d__law_like 8)) (D__law_orders : Def P w K mg base 1 "_law_orders" ["count"] (d__law_orders)) (D__law_ends : Def P w K mg base 1 "_law_ends" ["days", "order"] (d__law_ends)) (D__law_kept : Def P w K mg base 2 "_law_kept" ["days", "promised", "order"] (d__law_kept)) (D__law_chances : Def P w K mg base 3 "_law_chances" ["ships", "weights", "promised", "order"] (d__law_chances)) (D__law_spare : Def P w K mg base 3 "_law_spare" ["highs", "promised", "order"] (d__law_spare)) (b_int : mg "int" = none) (b_len : mg "len" = none) (b_range : mg "range" = none) (b_tuple : mg "tuple" = none) : FnOk P w K mg base CX0 11 f fd ["row", "n", "lows", "promised"] (spD K 4 d__law_unsure) := by
  have nd := sc__law_unsure.nd
  refine fnp_ok (k := 10) (O' := []) F sc__law_unsure fun cdv A outer s H E hr => ?_
  exact (by exact ss_cons (by exact ss_setF 4 nd (by exact se_lc nd (by exact si_r1 (st := false) b_range (by exact sa_cons (by exact se_var 1) sa_nil)) (blkOk_by (own := [("k", 5)]) rfl) (fun _ _ _ _ _ => (by exact sg_name 5 nd)) (fun _ _ _ _ _ => sts_nil) (fun _ _ _ _ _ => (by exact se_op op_addD (by exact se_ix (by exact se_var 2) (by exact se_var 5)) (by exact se_op op_modD (by exact se_callT (st := false) cb_int b_int (by exact sa_cons (by exact se_ix (by exact se_var 0) (by exact se_op op_addD se_int (by exact se_var 5))) sa_nil)) se_int))))) (by exact ss_cons (by exact ss_par 9 10 nd (by exact sam_cons (by exact se_callT (st := false) cb_tuple b_tuple (by exact sa_cons (by exact se_lc nd (by exact si_r1 (st := false) b_range (by exact sa_cons (by exact se_var 1) sa_nil)) (blkOk_by (own := [("k", 5)]) rfl) (fun _ _ _ _ _ => (by exact sg_name 5 nd)) (fun _ _ _ _ _ => sts_nil) (fun _ _ _ _ _ => (by exact se_tup (by exact sa_cons se_int (by exact sa_cons (by exact se_ix (by exact se_var 2) (by exact se_var 5)) (by exact sa_cons (by exact se_ix (by exact se_varW 4) (by exact se_var 5)) (by exact sa_cons (by exact se_ix (by exact se_var 3) (by exact se_var 5)) sa_nil))))))) sa_nil)) (by exact sam_cons (by exact se_lst sa_nil) sam_nil))) (by exact ss_cons (by exact ss_for (O' := [10, 9, 4]) (by exact si_r1 (st := false) b_range (by exact sa_cons (by exact se_var 1) sa_nil)) (by exact sg_name 5 nd) (by exact ss_cons (by exact ss_app 10 (by exact se_callT (st := false) cb_tuple b_tuple (by exact sa_cons (by exact se_lc nd (by exact si_r1 (st := false) b_range (by exact sa_cons (by exact se_op op_addD (by exact se_op op_subD (by exact se_ix (by exact se_varW 4) (by exact se_var 5)) (by exact se_ix (by exact se_var 2) (by exact se_var 5))) se_int) sa_nil)) (blkOk_by (own := [("j", 13)]) rfl) (fun _ _ _ _ _ => (by exact sg_name 13 nd)) (fun _ _ _ _ _ => sts_nil) (fun _ _ _ _ _ => (by exact se_op op_addD se_int (by exact se_op op_modD (by exact se_callT (st := false) cb_int b_int (by exact sa_cons (by exact se_ix (by exact se_var 0) (by exact se_op op_addD (by exact se_op op_addD se_int (by exact se_op op_mulD' se_int (by exact se_var 5))) (by exact se_var 13))) sa_nil)) se_int)))) sa_nil))) ss_nil)) (by exact ss_cons (by exact ss_setS 6 nd (by exact se_callD D__law_orders hr (by exact sa_cons (by exact se_var 1) sa_nil))) (by exact ss_cons (by exact ss_setLc 7 nd (by exact si_seq (m := .s) (by exact se_var 6)) (blkOk_by (own := [("order", 8)]) rfl) (fun _ _ _ _ _ => (by exact sg_name 8 nd)) (fun _ _ _ _ _ => (by exact sts_one (by exact st_val (by exact se_callWD D__law_kept hr (by exact sa_cons (by exact se_varW 4) (by exact sa_cons (by exact se_var 3) (by exact sa_cons (by exact se_var 8) sa_nil))))))) (fun _ _ _ _ _ => (by exact se_var 8))) (by exact ss_cons (by exact ss_if (O' := [7, 10, 9, 4]) (by exact st_not (by exact st_val (by exact se_callD D__law_like hr (by exact sa_cons (by exact se_callWD D_sure_orders hr (by exact sa_cons (by exact se_varW 9) sa_nil)) (by exact sa_cons (by exact se_callT (st := false) cb_tuple b_tuple (by exact sa_cons (by exact se_varW 7) sa_nil)) sa_nil))))) (by exact ss_last (by exact ss_ret se_bl)) ss_nil) (by exact ss_cons (by exact ss_setS 8 nd (by exact se_ix (by exact se_var 6) (by exact se_op op_modD (by exact se_callT (st := false) cb_int b_int (by exact sa_cons (by exact se_ix (by exact se_var 0) se_int) sa_nil)) (by exact se_callB (st := false) cb_len b_len (by exact sa_cons (by exact se_var 6) sa_nil))))) (by exact ss_cons (by exact ss_if (O' := [7, 10, 9, 4]) (by exact SW.st (by exact sw_and (by exact st_cmp op_gtD (by exact se_callB (st := false) cb_len b_len (by exact sa_cons (by exact se_varW 7) sa_nil)) se_int) (by exact sw_and1 (by exact st_cmp (op_eqP hr) (by exact se_op op_modD (by exact se_callT (st := false) cb_int b_int (by exact sa_cons (by exact se_ix (by exact se_var 0) se_int) sa_nil)) se_int) se_int)))) (by exact ss_cons (by exact ss_setS 8 nd (by exact se_ix (by exact se_varW 7) (by exact se_op op_modD (by exact se_callT (st := false) cb_int b_int (by exact sa_cons (by exact se_ix (by exact se_var 0) se_int) sa_nil)) (by exact se_callB (st := false) cb_len b_len (by exact sa_cons (by exact se_varW 7) sa_nil))))) ss_nil) ss_nil) (by exact ss_cons (by exact SS.weak (O1 := [7, 10, 9]) (by exact ss_parT [11, 12] (by exact sam_cons (by exact se_callD D__law_ends hr (by exact sa_cons (by exact se_var 2) (by exact sa_cons (by exact se_var 8) sa_nil))) (by exact sam_cons (by exact se_callD D__law_ends hr (by exact sa_cons (by exact se_var 4) (by exact sa_cons (by exact se_var 8) sa_nil))) sam_nil)) (pgs_cons (pg_name (i := 11) nd rfl (by first | exact .inl rfl | exact .inr rfl)) (pgs_cons (pg_name (i := 12) nd rfl (by first | exact .inl rfl | exact .inr rfl)) pgs_nil)))) (by exact ss_cons (by exact ss_if (O' := [7, 10, 9]) (by exact st_not (by exact st_val (by exact se_callD D__law_like hr (by exact sa_cons (by exact se_callWD D_keeps_surely hr (by exact sa_cons (by exact se_varW 9) (by exact sa_cons (by exact se_var 8) sa_nil))) (by exact sa_cons (by exact se_cmp (op_inP hr) (by exact se_var 8) (by exact se_varW 7)) sa_nil))))) (by exact ss_last (by exact ss_ret se_bl)) ss_nil) (by exact ss_cons (by exact ss_if (O' := [7, 10, 9]) (by exact st_not (by exact st_val (by exact se_callD D__law_like hr (by exact sa_cons (by exact se_callWD D_may_keep hr (by exact sa_cons (by exact se_varW 9) (by exact sa_cons (by exact se_var 8) sa_nil))) (by exact sa_cons (by exact se_callD D__law_kept hr (by exact sa_cons (by exact se_var 2) (by exact sa_cons (by exact se_var 3) (by exact sa_cons (by exact se_var 8) sa_nil)))) sa_nil))))) (by exact ss_last (by exact ss_ret se_bl)) ss_nil) (by exact ss_cons (by exact ss_if (O' := [7, 10, 9]) (by exact st_not (by exact st_val (by exact se_callD D__law_like hr (by exact sa_cons (by exact se_callWD D_end_bounds hr (by exact sa_cons (by exact se_varW 9) (by exact sa_cons (by exact se_var 8) sa_nil))) (by exact sa_cons (by exact se_callT (st := false) cb_tuple b_tuple (by exact sa_cons (by exact se_lc nd (by exact si_r1 (st := false) b_range (by exact sa_cons (by exact se_var 1) sa_nil)) (blkOk_by (own := [("k", 5)]) rfl) (fun _ _ _ _ _ => (by exact sg_name 5 nd)) (fun _ _ _ _ _ => sts_nil) (fun _ _ _ _ _ => (by exact se_tup (by exact sa_cons (by exact se_ix (by exact se_var 11) (by exact se_var 5)) (by exact sa_cons (by exact se_ix (by exact se_var 12) (by exact se_var 5)) sa_nil))))) sa_nil)) sa_nil))))) (by exact ss_last (by exact ss_ret se_bl)) ss_nil) (by exact ss_cons (by exact ss_if (O' := [7, 10, 9]) (by exact st_not (by exact st_val (by exact se_callD D__law_like hr (by exact sa_cons (by exact se_callWD D_sure_plan hr (by exact sa_cons (by exact se_varW 9) (by exact sa_cons (by exact se_var 8) sa_nil))) (by exact sa_cons (by exact se_callT (st := false) cb_tuple b_tuple (by exact sa_cons (by exact se_lc nd (by exact si_r1 (st := false) b_range (by exact sa_cons (by exact se_var 1) sa_nil)) (blkOk_by (own := [("k", 5)]) rfl) (fun _ _ _ _ _ => (by exact sg_name 5 nd)) (fun _ _ _ _ _ => sts_nil) (fun _ _ _ _ _ => (by exact se_op op_subD (by exact se_op op_addD (by exact se_ix (by exact se_var 12) (by exact se_var 5)) se_int) (by exact se_ix (by exact se_var 4) (by exact se_var 5))))) sa_nil)) sa_nil))))) (by exact ss_last (by exact ss_ret se_bl)) ss_nil) (by exact ss_cons (by exact ss_if (O' := [7, 10, 9]) (by exact st_not (by exact st_val (by exact se_callD D__law_like hr (by exact sa_cons (by exact se_callWD D_spare_days hr (by exact sa_cons (by exact se_varW 9) (by exact sa_cons (by exact se_var 8) sa_nil))) (by exact sa_cons (by exact se_callD D__law_spare hr (by exact sa_cons (by exact se_var 4) (by exact sa_cons (by exact se_var 3) (by exact sa_cons (by exact se_var 8) sa_nil)))) sa_nil))))) (by exact ss_last (by exact ss_ret se_bl)) ss_nil) (by exact ss_last (by exact ss_ret (by exact se_callD D__law_like hr (by exact sa_cons (by exact se_callWD D_chance_kept hr (by exact sa_cons (by exact se_varW 9) (by exact sa_cons (by exact se_callT (st := false) cb_tuple b_tuple (by exact sa_cons (by exact se_varW 10) sa_nil)) (by exact sa_cons (by exact se_var 8) sa_nil)))) (by exact sa_cons (by exact se_callWD D__law_chances hr (by exact sa_cons (by exact se_varW 9) (by exact sa_cons (by exact se_varW 10) (by exact sa_cons (by exact se_var 3) (by exact sa_cons (by exact se_var 8) sa_nil))))) sa_nil)))))))))))))))))))
/-! ### _law_docks -/
abbrev s__law_docks : Stmt := topS 43
theorem sc__law_docks : FnScope ["days", "promised", "n", "count", "spots", "fits", "dock", "k", "now", "last", "j"] ["days", "promised"] (defScope s__law_docks) := ⟨rfl, rfl, rfl, by decide +kernel, rfl, by decide +kernel, by decide +kernel⟩
def l1__law_docks : XS :=
  (sSeq (sSet 8 (xBin oAdd (xVar 8) (xBin oIx (xVar 0) (xVar 7))))
  (sSeq (sSet 5 (xAnd (xVar 5) (xBin oLe (xBin oSub (xVar 8) (xC (.int 1))) (xVar 9))))
  sNop))
def l2__law_docks : XS :=
  (sSeq (sSet 8 (xC (.int 0)))
  (sSeq (sFor (xSeq (xCall bSorted (xCons (xLc (xIt oR1 (xCons (xVar 2) xNil)) (gSet 10) (tOf (xBin oEq (xBin oIx (xVar 4) (xVar 10)) (xVar 6))) (xTup (xCons (xBin oIx (xVar 1) (xVar 10)) (xCons (xVar 10) xNil))) [10]) xNil))) (gTupD 2 (gsCons (gSet 9) (gsCons (gSet 7) gsNil))) l1__law_docks)
  sNop))
def l3__law_docks : XS :=
  (sSeq (sSet 5 (xC (.bool true)))
  (sSeq (sFor (xIt oR1 (xCons (xVar 3) xNil)) (gSet 6) l2__law_docks)
  (sSeq (sIf (tTru (xVar 5)) (sRet (xVar 3)) sNop)
  sNop)))
def l4__law_docks : XS :=
  (sSeq (sFor (xSeq (xCall (fun ds => if ds.length = 2 then (d__law_tuples) ds else none) (xCons (xVar 2) (xCons (xVar 3) xNil)))) (gSet 4) l3__law_docks)
  sNop)
def g__law_docks : XS :=
  (sSeq (sSet 2 (xCall bLen (xCons (xVar 0) xNil)))
  (sSeq (sIf (tTru (xCall bAny (xCons (xLc (xIt oR1 (xCons (xVar 2) xNil)) (gSet 7) tYesP (xBin oGt (xBin oSub (xBin oIx (xVar 0) (xVar 7)) (xC (.int 1))) (xBin oIx (xVar 1) (xVar 7))) [7]) xNil))) (sRet (xC .none)) sNop)
  (sSeq (sFor (xIt oR2 (xCons (xC (.int 1)) (xCons (xBin oAdd (xVar 2) (xC (.int 1))) xNil))) (gSet 3) l4__law_docks)
  (sRet (xC .none)))))
def d__law_docks : List D → Option D := runD 2 11 g__law_docks
theorem ok__law_docks {f : Addr} {fd : FuncData} (F : FnP K "_law_docks" s__law_docks f fd) (D__law_tuples : Def P w K mg base 1 "_law_tuples" ["count", "most"] (d__law_tuples)) (b_any : mg "any" = none) (b_len : mg "len" = none) (b_range : mg "range" = none) (b_sorted : mg "sorted" = none) : FnOk P w K mg base CX0 2 f fd ["days", "promised"] (spD K 2 d__law_docks) := by
  have nd := sc__law_docks.nd
  refine fnp_ok (k := 1) (O' := []) F sc__law_docks fun cdv A outer s H E hr => ?_
  exact (by exact ss_cons (by exact ss_setF 2 nd (by exact se_callB (st := false) cb_len b_len (by exact sa_cons (by exact se_var 0) sa_nil))) (by exact ss_cons (by exact ss_if (O' := [2]) (by exact st_val (by exact se_callB (st := false) cb_any b_any (by exact sa_cons (by exact se_lc nd (by exact si_r1 (st := false) b_range (by exact sa_cons (by exact se_varW 2) sa_nil)) (blkOk_by (own := [("k", 7)]) rfl) (fun _ _ _ _ _ => (by exact sg_name 7 nd)) (fun _ _ _ _ _ => sts_nil) (fun _ _ _ _ _ => (by exact se_cmp op_gtD (by exact se_op op_subD (by exact se_ix (by exact se_var 0) (by exact se_var 7)) se_int) (by exact se_ix (by exact se_var 1) (by exact se_var 7))))) sa_nil))) (by exact ss_last (by exact ss_ret se_non)) ss_nil) (by exact ss_cons (by exact SS.weak (O1 := []) (by exact ss_for (O' := []) (by exact si_r2 (st := false) b_range (by exact sa_cons se_int (by exact sa_cons (by exact se_op op_addD (by exact se_var 2) se_int) sa_nil))) (by exact sg_name 3 nd) (by exact ss_cons (by exact ss_for (O' := []) (by exact si_seq (m := .s) (by exact se_callD D__law_tuples hr (by exact sa_cons (by exact se_var 2) (by exact sa_cons (by exact se_var 3) sa_nil)))) (by exact sg_name 4 nd) (by exact ss_cons (by exact ss_setF 5 nd se_bl) (by exact ss_cons (by exact ss_for (O' := [5]) (by exact si_r1 (st := false) b_range (by exact sa_cons (by exact se_var 3) sa_nil)) (by exact sg_name 6 nd) (by exact ss_cons (by exact ss_setF 8 nd se_int) (by exact ss_cons (by exact ss_for (O' := [8, 5]) (by exact si_seq (m := .f) (by exact se_callB (st := false) (cb_sorted (hu65 hr)) b_sorted (by exact sa_cons (by exact se_lc nd (by exact si_r1 (st := false) b_range (by exact sa_cons (by exact se_var 2) sa_nil)) (blkOk_by (own := [("j", 10)]) rfl) (fun _ _ _ _ _ => (by exact sg_name 10 nd)) (fun _ _ _ _ _ => (by exact sts_one (by exact st_cmp (op_eqP hr) (by exact se_ix (by exact se_var 4) (by exact se_var 10)) (by exact se_var 6)))) (fun _ _ _ _ _ => (by exact se_tup (by exact sa_cons (by exact se_ix (by exact se_var 1) (by exact se_var 10)) (by exact sa_cons (by exact se_var 10) sa_nil))))) sa_nil))) (by exact sg_tup rfl (by exact sgs_cons (by exact sg_name 9 nd) (by exact sgs_cons (by exact sg_name 7 nd) sgs_nil))) (by exact ss_cons (by exact ss_setF 8 nd (by exact se_op op_addD (by exact se_varW 8) (by exact se_ix (by exact se_var 0) (by exact se_var 7)))) (by exact ss_cons (by exact SS.weak (O1 := [8, 8]) (by exact ss_setF 5 nd (by exact se_and (by exact se_var 5) (by exact se_bone (by exact se_cmp op_leD (by exact se_op op_subD (by exact se_varW 8) se_int) (by exact se_var 9)))))) ss_nil))) ss_nil))) (by exact ss_cons (by exact ss_if (O' := [5]) (by exact st_val (by exact se_varW 5)) (by exact ss_last (by exact ss_ret (by exact se_var 3))) ss_nil) ss_nil)))) ss_nil))) (by exact ss_last (by exact ss_ret se_non)))))
/-! ### _law_late -/
abbrev s__law_late : Stmt := topS 44
theorem sc__law_late : FnScope ["row", "n", "days", "promised", "rates", "caps", "order", "by_promise", "needed", "total", "works", "every", "exact", "ships", "keys", "owed", "sure", "plain", "rising", "k", "turn", "last"] ["row", "n", "days", "promised"] (defScope s__law_late) := ⟨rfl, rfl, rfl, by decide +kernel, rfl, by decide +kernel, by decide +kernel⟩
def l1__law_late : XS :=
  (sSeq (sSet 15 (xCall (fun ds => if ds.length = 2 then ((d__law_owed) ds).bind fun d => if flat d then some d else none else none) (xCons (xVar 10) (xCons (xVar 6) xNil))))
  (sSeq (sApp 14 (xTup (xCons (xCall bSum (xCons (xVar 15) xNil)) (xCons (xVar 6) xNil))))
  (sSeq (sSet 16 (xCall (fun ds => if ds.length = 3 then (d__law_kept) ds else none) (xCons (xVar 2) (xCons (xVar 3) (xCons (xVar 6) xNil)))))
  (sSeq (sIf (tOrP (tNotP (tTru (xCall (fun ds => if ds.length = 2 then ((d__law_like 8) ds).bind fun d => if flat d then some d else none else none) (xCons (xCall (fun ds => if ds.length = 2 then ((d_late_pay) ds).bind fun d => if flat d then some d else none else none) (xCons (xVar 10) (xCons (xVar 6) xNil))) (xCons (xVar 15) xNil))))) (tOf (xBin oNe (xVar 16) (xBin oEq (xCall bSum (xCons (xVar 15) xNil)) (xC (.int 0)))))) (sRet (xC (.bool false))) sNop)
  (sSeq (sIf (tNotP (tTru (xCall (fun ds => if ds.length = 2 then (d__law_like 8) ds else none) (xCons (xCall (fun ds => if ds.length = 2 then ((d_keeps_surely) ds).bind fun d => if flat d then some d else none else none) (xCons (xVar 13) (xCons (xVar 6) xNil))) (xCons (xVar 16) xNil))))) (sRet (xC (.bool false))) sNop)
  (sSeq (sExt 12 (xLc (xIt oR1 (xCons (xCall bInt (xCons (xVar 16) xNil)) xNil)) (gSet 20) tYesP (xVar 6) [20]))
  sNop))))))
def g__law_late : XS :=
  (sSeq (sSet 4 (xLc (xIt oR1 (xCons (xVar 1) xNil)) (gSet 19) tYesP (xBin oAdd (xC (.int 1)) (xBin oMod (xCall bInt (xCons (xBin oIx (xVar 0) (xBin oAdd (xC (.int 35)) (xVar 19))) xNil)) (xC (.int 5)))) [19]))
  (sSeq (sSet 5 (xLc (xIt oR1 (xCons (xVar 1) xNil)) (gSet 19) tYesP (xBin oAdd (xC (.int 1)) (xBin oMod (xCall bInt (xCons (xBin oIx (xVar 0) (xBin oAdd (xC (.int 39)) (xVar 19))) xNil)) (xC (.int 30)))) [19]))
  (sSeq (sPar [10, 11, 12] (xCons (xCall bTuple (xCons (xLc (xIt oR1 (xCons (xVar 1) xNil)) (gSet 19) tYesP (xTup (xCons (xBin oIx (xVar 2) (xVar 19)) (xCons (xBin oIx (xVar 3) (xVar 19)) (xCons (xBin oIx (xVar 4) (xVar 19)) (xCons (xBin oIx (xVar 5) (xVar 19)) xNil))))) [19]) xNil)) (xCons (xCall (fun ds => if ds.length = 1 then (d__law_orders) ds else none) (xCons (xVar 1) xNil)) (xCons (xLst xNil) xNil))))
  (sSeq (sPar [13, 14] (xCons (xCall bTuple (xCons (xLc (xIt oR1 (xCons (xVar 1) xNil)) (gSet 19) tYesP (xTup (xCons (xC (.int 0)) (xCons (xBin oIx (xVar 2) (xVar 19)) (xCons (xBin oIx (xVar 2) (xVar 19)) (xCons (xBin oIx (xVar 3) (xVar 19)) xNil))))) [19]) xNil)) (xCons (xLst xNil) xNil)))
  (sSeq (sFor (xSeq (xVar 11)) (gSet 6) l1__law_late)
  (sSeq (sIf (tOrP (tNotP (tTru (xCall (fun ds => if ds.length = 2 then (d__law_like 8) ds else none) (xCons (xCall (fun ds => if ds.length = 1 then ((d_least_paid) ds).bind fun d => if flat d then some d else none else none) (xCons (xVar 10) xNil)) (xCons (xCall bMinD (xCons (xVar 14) xNil)) xNil))))) (tOf (xBin oNe (xBin oEq (xBin oIx (xCall bMinD (xCons (xVar 14) xNil)) (xC (.int 0))) (xC (.int 0))) (xBin oGt (xCall bLen (xCons (xVar 12) xNil)) (xC (.int 0)))))) (sRet (xC (.bool false))) sNop)
  (sSeq (sIf (tOrP (tNotP (tTru (xCall (fun ds => if ds.length = 2 then (d__law_like 8) ds else none) (xCons (xCall (fun ds => if ds.length = 1 then ((d_sure_orders) ds).bind fun d => if flat d then some d else none else none) (xCons (xVar 13) xNil)) (xCons (xCall bTuple (xCons (xVar 12) xNil)) xNil))))) (tAndP (tOf (xBin oGt (xCall bLen (xCons (xVar 12) xNil)) (xC (.int 0)))) (tOf (xBin oNe (xBin oIx (xCall bMinD (xCons (xVar 14) xNil)) (xC (.int 1))) (xBin oIx (xVar 12) (xC (.int 0))))))) (sRet (xC (.bool false))) sNop)
  (sSeq (sSet 7 (xCall bTuple (xCons (xLc (xSeq (xCall bSorted (xCons (xLc (xIt oR1 (xCons (xVar 1) xNil)) (gSet 19) tYesP (xTup (xCons (xBin oIx (xVar 3) (xVar 19)) (xCons (xVar 19) xNil))) [19]) xNil))) (gTupD 2 (gsCons (gSet 21) (gsCons (gSet 19) gsNil))) tYesP (xVar 19) [21, 19]) xNil)))
  (sSeq (sIf (tNotP (tTru (xCall (fun ds => if ds.length = 2 then (d__law_like 8) ds else none) (xCons (xCall (fun ds => if ds.length = 2 then ((d_keeps_surely) ds).bind fun d => if flat d then some d else none else none) (xCons (xVar 13) (xCons (xVar 7) xNil))) (xCons (xBin oGt (xCall bLen (xCons (xVar 12) xNil)) (xC (.int 0))) xNil))))) (sRet (xC (.bool false))) sNop)
  (sSeq (sSet 8 (xCall (fun ds => if ds.length = 2 then (d__law_docks) ds else none) (xCons (xVar 2) (xCons (xVar 3) xNil))))
  (sSeq (sIf (tNotP (tTru (xCall (fun ds => if ds.length = 2 then (d__law_like 8) ds else none) (xCons (xCall (fun ds => if ds.length = 1 then (d_docks_needed) ds else none) (xCons (xCall bTuple (xCons (xLc (xIt oR1 (xCons (xVar 1) xNil)) (gSet 19) tYesP (xTup (xCons (xBin oIx (xVar 2) (xVar 19)) (xCons (xBin oIx (xVar 3) (xVar 19)) xNil))) [19]) xNil)) xNil)) (xCons (xVar 8) xNil))))) (sRet (xC (.bool false))) sNop)
  (sSeq (sIf (tOf (xBin oNe (xBin oEq (xVar 8) (xC (.int 1))) (xBin oGt (xCall bLen (xCons (xVar 12) xNil)) (xC (.int 0))))) (sRet (xC (.bool false))) sNop)
  (sSeq (sPar [17, 18] (xCons (xCall bTuple (xCons (xLc (xIt oR1 (xCons (xVar 1) xNil)) (gSet 19) tYesP (xTup (xCons (xBin oIx (xVar 2) (xVar 19)) (xCons (xC (.int 0)) (xCons (xC (.int 1)) (xCons (xC (.int 99)) xNil))))) [19]) xNil)) (xCons (xCall bSorted (xCons (xVar 2) xNil)) xNil)))
  (sSeq (sSet 9 (xCall bSum (xCons (xLc (xIt oR1 (xCons (xVar 1) xNil)) (gSet 19) tYesP (xCall bSum (xCons (xSl (xVar 18) oNo (oAt (xBin oAdd (xVar 19) (xC (.int 1))))) xNil)) [19]) xNil)))
  (sRet (xAnd (xCall (fun ds => if ds.length = 2 then ((d__law_like 8) ds).bind fun d => if flat d then some d else none else none) (xCons (xCall (fun ds => if ds.length = 2 then (d_sums_least) ds else none) (xCons (xC (.int 1)) (xCons (xCall bTuple (xCons (xVar 2) xNil)) xNil))) (xCons (xVar 9) xNil))) (xCall (fun ds => if ds.length = 2 then (d__law_like 8) ds else none) (xCons (xBin oIx (xCall (fun ds => if ds.length = 1 then ((d_least_paid) ds).bind fun d => if flat d then some d else none else none) (xCons (xVar 17) xNil)) (xC (.int 0))) (xCons (xBin oSub (xVar 9) (xVar 1)) xNil)))))))))))))))))))
def d__law_late : List D → Option D := runD 4 22 g__law_late
theorem ok__law_late {f : Addr} {fd : FuncData} (F : FnP K "_law_late" s__law_late f fd) (D_keeps_surely : Def P w K mg base 3 "keeps_surely" ["ships", "order"] (d_keeps_surely)) (D_sure_orders : Def P w K mg base 4 "sure_orders" ["ships"] (d_sure_orders)) (D_late_pay : Def P w K mg base 1 "late_pay" ["works", "order"] (d_late_pay)) (D_least_paid : Def P w K mg base 2 "least_paid" ["works"] (d_least_paid)) (D_sums_least : Def P w K mg base 1 "sums_least" ["docks", "works"] (d_sums_least)) (D_docks_needed : Def P w K mg base 3 "docks_needed" ["works"] (d_docks_needed)) (D__law_like : Def P w K mg base 10 "_law_like" ["value", "due"] (d__law_like 8)) (D__law_orders : Def P w K mg base 1 "_law_orders" ["count"] (d__law_orders)) (D__law_kept : Def P w K mg base 2 "_law_kept" ["days", "promised", "order"] (d__law_kept)) (D__law_owed : Def P w K mg base 2 "_law_owed" ["works", "order"] (d__law_owed)) (D__law_docks : Def P w K mg base 2 "_law_docks" ["days", "promised"] (d__law_docks)) (b_int : mg "int" = none) (b_len : mg "len" = none) (b_min : mg "min" = none) (b_range : mg "range" = none) (b_sorted : mg "sorted" = none) (b_sum : mg "sum" = none) (b_tuple : mg "tuple" = none) : FnOk P w K mg base CX0 11 f fd ["row", "n", "days", "promised"] (spD K 4 d__law_late) := by
  have nd := sc__law_late.nd
  refine fnp_ok (k := 10) (O' := []) F sc__law_late fun cdv A outer s H E hr => ?_
  exact (by exact ss_cons (by exact ss_setF 4 nd (by exact se_lc nd (by exact si_r1 (st := false) b_range (by exact sa_cons (by exact se_var 1) sa_nil)) (blkOk_by (own := [("k", 19)]) rfl) (fun _ _ _ _ _ => (by exact sg_name 19 nd)) (fun _ _ _ _ _ => sts_nil) (fun _ _ _ _ _ => (by exact se_op op_addD se_int (by exact se_op op_modD (by exact se_callT (st := false) cb_int b_int (by exact sa_cons (by exact se_ix (by exact se_var 0) (by exact se_op op_addD se_int (by exact se_var 19))) sa_nil)) se_int))))) (by exact ss_cons (by exact ss_setF 5 nd (by exact se_lc nd (by exact si_r1 (st := false) b_range (by exact sa_cons (by exact se_var 1) sa_nil)) (blkOk_by (own := [("k", 19)]) rfl) (fun _ _ _ _ _ => (by exact sg_name 19 nd)) (fun _ _ _ _ _ => sts_nil) (fun _ _ _ _ _ => (by exact se_op op_addD se_int (by exact se_op op_modD (by exact se_callT (st := false) cb_int b_int (by exact sa_cons (by exact se_ix (by exact se_var 0) (by exact se_op op_addD se_int (by exact se_var 19))) sa_nil)) se_int))))) (by exact ss_cons (by exact ss_par3 10 11 12 nd (by exact sam_cons (by exact se_callT (st := false) cb_tuple b_tuple (by exact sa_cons (by exact se_lc nd (by exact si_r1 (st := false) b_range (by exact sa_cons (by exact se_var 1) sa_nil)) (blkOk_by (own := [("k", 19)]) rfl) (fun _ _ _ _ _ => (by exact sg_name 19 nd)) (fun _ _ _ _ _ => sts_nil) (fun _ _ _ _ _ => (by exact se_tup (by exact sa_cons (by exact se_ix (by exact se_var 2) (by exact se_var 19)) (by exact sa_cons (by exact se_ix (by exact se_var 3) (by exact se_var 19)) (by exact sa_cons (by exact se_ix (by exact se_varW 4) (by exact se_var 19)) (by exact sa_cons (by exact se_ix (by exact se_varW 5) (by exact se_var 19)) sa_nil))))))) sa_nil)) (by exact sam_cons (by exact se_callD D__law_orders hr (by exact sa_cons (by exact se_var 1) sa_nil)) (by exact sam_cons (by exact se_lst sa_nil) sam_nil)))) (by exact ss_cons (by exact ss_par 13 14 nd (by exact sam_cons (by exact se_callT (st := false) cb_tuple b_tuple (by exact sa_cons (by exact se_lc nd (by exact si_r1 (st := false) b_range (by exact sa_cons (by exact se_var 1) sa_nil)) (blkOk_by (own := [("k", 19)]) rfl) (fun _ _ _ _ _ => (by exact sg_name 19 nd)) (fun _ _ _ _ _ => sts_nil) (fun _ _ _ _ _ => (by exact se_tup (by exact sa_cons se_int (by exact sa_cons (by exact se_ix (by exact se_var 2) (by exact se_var 19)) (by exact sa_cons (by exact se_ix (by exact se_var 2) (by exact se_var 19)) (by exact sa_cons (by exact se_ix (by exact se_var 3) (by exact se_var 19)) sa_nil))))))) sa_nil)) (by exact sam_cons (by exact se_lst sa_nil) sam_nil))) (by exact ss_cons (by exact ss_for (O' := [14, 13, 12, 10, 5, 4]) (by exact si_seq (m := .s) (by exact se_var 11)) (by exact sg_name 6 nd) (by exact ss_cons (by exact ss_setF 15 nd (by exact se_callWD D__law_owed hr (by exact sa_cons (by exact se_varW 10) (by exact sa_cons (by exact se_var 6) sa_nil)))) (by exact ss_cons (by exact ss_app 14 (by exact se_tup (by exact sa_cons (by exact se_callB (st := false) cb_sum b_sum (by exact sa_cons (by exact se_varW 15) sa_nil)) (by exact sa_cons (by exact se_var 6) sa_nil)))) (by exact ss_cons (by exact ss_setS 16 nd (by exact se_callD D__law_kept hr (by exact sa_cons (by exact se_var 2) (by exact sa_cons (by exact se_var 3) (by exact sa_cons (by exact se_var 6) sa_nil))))) (by exact ss_cons (by exact ss_if (O' := [15, 14, 13, 12, 10, 5, 4]) (by exact SW.st (by exact sw_or (by exact st_not (by exact st_val (by exact se_callWD D__law_like hr (by exact sa_cons (by exact se_callWD D_late_pay hr (by exact sa_cons (by exact se_varW 10) (by exact sa_cons (by exact se_var 6) sa_nil))) (by exact sa_cons (by exact se_varW 15) sa_nil))))) (by exact sw_or1 (by exact st_cmp (op_neP hr) (by exact se_var 16) (by exact se_cmp (op_eqP hr) (by exact se_callB (st := false) cb_sum b_sum (by exact sa_cons (by exact se_varW 15) sa_nil)) se_int))))) (by exact ss_last (by exact ss_ret se_bl)) ss_nil) (by exact ss_cons (by exact ss_if (O' := [15, 14, 13, 12, 10, 5, 4]) (by exact st_not (by exact st_val (by exact se_callD D__law_like hr (by exact sa_cons (by exact se_callWD D_keeps_surely hr (by exact sa_cons (by exact se_varW 13) (by exact sa_cons (by exact se_var 6) sa_nil))) (by exact sa_cons (by exact se_var 16) sa_nil))))) (by exact ss_last (by exact ss_ret se_bl)) ss_nil) (by exact ss_cons (by exact ss_ext 12 (by exact se_lc nd (by exact si_r1 (st := false) b_range (by exact sa_cons (by exact se_callT (st := false) cb_int b_int (by exact sa_cons (by exact se_var 16) sa_nil)) sa_nil)) (blkOk_by (own := [("turn", 20)]) rfl) (fun _ _ _ _ _ => (by exact sg_name 20 nd)) (fun _ _ _ _ _ => sts_nil) (fun _ _ _ _ _ => (by exact se_var 6)))) ss_nil))))))) (by exact ss_cons (by exact ss_if (O' := [14, 13, 12, 10, 5, 4]) (by exact SW.st (by exact sw_or (by exact st_not (by exact st_val (by exact se_callD D__law_like hr (by exact sa_cons (by exact se_callWD D_least_paid hr (by exact sa_cons (by exact se_varW 10) sa_nil)) (by exact sa_cons (by exact se_callB (st := false) (cb_minD (hu65 hr)) b_min (by exact sa_cons (by exact se_varW 14) sa_nil)) sa_nil))))) (by exact sw_or1 (by exact st_cmp (op_neP hr) (by exact se_cmp (op_eqP hr) (by exact se_ix (by exact se_callB (st := false) (cb_minD (hu65 hr)) b_min (by exact sa_cons (by exact se_varW 14) sa_nil)) se_int) se_int) (by exact se_cmp op_gtD (by exact se_callB (st := false) cb_len b_len (by exact sa_cons (by exact se_varW 12) sa_nil)) se_int))))) (by exact ss_last (by exact ss_ret se_bl)) ss_nil) (by exact ss_cons (by exact ss_if (O' := [14, 13, 12, 10, 5, 4]) (by exact SW.st (by exact sw_or (by exact st_not (by exact st_val (by exact se_callD D__law_like hr (by exact sa_cons (by exact se_callWD D_sure_orders hr (by exact sa_cons (by exact se_varW 13) sa_nil)) (by exact sa_cons (by exact se_callT (st := false) cb_tuple b_tuple (by exact sa_cons (by exact se_varW 12) sa_nil)) sa_nil))))) (by exact sw_or1 (by exact SW.st (by exact sw_and (by exact st_cmp op_gtD (by exact se_callB (st := false) cb_len b_len (by exact sa_cons (by exact se_varW 12) sa_nil)) se_int) (by exact sw_and1 (by exact st_cmp (op_neP hr) (by exact se_ix (by exact se_callB (st := false) (cb_minD (hu65 hr)) b_min (by exact sa_cons (by exact se_varW 14) sa_nil)) se_int) (by exact se_ix (by exact se_varW 12) se_int)))))))) (by exact ss_last (by exact ss_ret se_bl)) ss_nil) (by exact ss_cons (by exact ss_setF 7 nd (by exact se_callT (st := false) cb_tuple b_tuple (by exact sa_cons (by exact se_lc nd (by exact si_seq (m := .f) (by exact se_callB (st := false) (cb_sorted (hu65 hr)) b_sorted (by exact sa_cons (by exact se_lc nd (by exact si_r1 (st := false) b_range (by exact sa_cons (by exact se_var 1) sa_nil)) (blkOk_by (own := [("k", 19)]) rfl) (fun _ _ _ _ _ => (by exact sg_name 19 nd)) (fun _ _ _ _ _ => sts_nil) (fun _ _ _ _ _ => (by exact se_tup (by exact sa_cons (by exact se_ix (by exact se_var 3) (by exact se_var 19)) (by exact sa_cons (by exact se_var 19) sa_nil))))) sa_nil))) (blkOk_by (own := [("last", 21), ("k", 19)]) rfl) (fun _ _ _ _ _ => (by exact sg_tup rfl (by exact sgs_cons (by exact sg_name 21 nd) (by exact sgs_cons (by exact sg_name 19 nd) sgs_nil)))) (fun _ _ _ _ _ => sts_nil) (fun _ _ _ _ _ => (by exact se_var 19))) sa_nil))) (by exact ss_cons (by exact ss_if (O' := [7, 14, 13, 12, 10, 5, 4]) (by exact st_not (by exact st_val (by exact se_callD D__law_like hr (by exact sa_cons (by exact se_callWD D_keeps_surely hr (by exact sa_cons (by exact se_varW 13) (by exact sa_cons (by exact se_varW 7) sa_nil))) (by exact sa_cons (by exact se_cmp op_gtD (by exact se_callB (st := false) cb_len b_len (by exact sa_cons (by exact se_varW 12) sa_nil)) se_int) sa_nil))))) (by exact ss_last (by exact ss_ret se_bl)) ss_nil) (by exact ss_cons (by exact ss_setS 8 nd (by exact se_callD D__law_docks hr (by exact sa_cons (by exact se_var 2) (by exact sa_cons (by exact se_var 3) sa_nil)))) (by exact ss_cons (by exact ss_if (O' := [7, 14, 13, 12, 10, 5, 4]) (by exact st_not (by exact st_val (by exact se_callD D__law_like hr (by exact sa_cons (by exact se_callD D_docks_needed hr (by exact sa_cons (by exact se_callT (st := false) cb_tuple b_tuple (by exact sa_cons (by exact se_lc nd (by exact si_r1 (st := false) b_range (by exact sa_cons (by exact se_var 1) sa_nil)) (blkOk_by (own := [("k", 19)]) rfl) (fun _ _ _ _ _ => (by exact sg_name 19 nd)) (fun _ _ _ _ _ => sts_nil) (fun _ _ _ _ _ => (by exact se_tup (by exact sa_cons (by exact se_ix (by exact se_var 2) (by exact se_var 19)) (by exact sa_cons (by exact se_ix (by exact se_var 3) (by exact se_var 19)) sa_nil))))) sa_nil)) sa_nil)) (by exact sa_cons (by exact se_var 8) sa_nil))))) (by exact ss_last (by exact ss_ret se_bl)) ss_nil) (by exact ss_cons (by exact ss_if (O' := [7, 14, 13, 12, 10, 5, 4]) (by exact st_cmp (op_neP hr) (by exact se_cmp (op_eqP hr) (by exact se_var 8) se_int) (by exact se_cmp op_gtD (by exact se_callB (st := false) cb_len b_len (by exact sa_cons (by exact se_varW 12) sa_nil)) se_int)) (by exact ss_last (by exact ss_ret se_bl)) ss_nil) (by exact ss_cons (by exact ss_parT [17, 18] (by exact sam_cons (by exact se_callT (st := false) cb_tuple b_tuple (by exact sa_cons (by exact se_lc nd (by exact si_r1 (st := false) b_range (by exact sa_cons (by exact se_var 1) sa_nil)) (blkOk_by (own := [("k", 19)]) rfl) (fun _ _ _ _ _ => (by exact sg_name 19 nd)) (fun _ _ _ _ _ => sts_nil) (fun _ _ _ _ _ => (by exact se_tup (by exact sa_cons (by exact se_ix (by exact se_var 2) (by exact se_var 19)) (by exact sa_cons se_int (by exact sa_cons se_int (by exact sa_cons se_int sa_nil))))))) sa_nil)) (by exact sam_cons (by exact se_callB (st := false) (cb_sorted (hu65 hr)) b_sorted (by exact sa_cons (by exact se_var 2) sa_nil)) sam_nil)) (pgs_cons (pg_name (i := 17) nd rfl (by first | exact .inl rfl | exact .inr rfl)) (pgs_cons (pg_name (i := 18) nd rfl (by first | exact .inl rfl | exact .inr rfl)) pgs_nil))) (by exact ss_cons (by exact ss_setF 9 nd (by exact se_callB (st := false) cb_sum b_sum (by exact sa_cons (by exact se_lc nd (by exact si_r1 (st := false) b_range (by exact sa_cons (by exact se_var 1) sa_nil)) (blkOk_by (own := [("k", 19)]) rfl) (fun _ _ _ _ _ => (by exact sg_name 19 nd)) (fun _ _ _ _ _ => sts_nil) (fun _ _ _ _ _ => (by exact se_callB (st := false) cb_sum b_sum (by exact sa_cons (by exact se_sl (by exact se_varW 18) so_none (by exact so_some (by exact se_op op_addD (by exact se_var 19) se_int))) sa_nil)))) sa_nil))) (by exact ss_last (by exact ss_ret (by exact se_and (by exact se_callWD D__law_like hr (by exact sa_cons (by exact se_callD D_sums_least hr (by exact sa_cons se_int (by exact sa_cons (by exact se_callT (st := false) cb_tuple b_tuple (by exact sa_cons (by exact se_var 2) sa_nil)) sa_nil))) (by exact sa_cons (by exact se_varW 9) sa_nil))) (by exact se_bone (by exact se_callD D__law_like hr (by exact sa_cons (by exact se_ix (by exact se_callWD D_least_paid hr (by exact sa_cons (by exact se_varW 17) sa_nil)) se_int) (by exact sa_cons (by exact se_op op_subD (by exact se_varW 9) (by exact se_var 1)) sa_nil)))))))))))))))))))))
/-! ### law -/
abbrev s_law : Stmt := topS 45
theorem sc_law : FnScope ["script", "row", "n", "days", "promised", "looser", "now", "k", "one"] ["script"] (defScope s_law) := ⟨rfl, rfl, rfl, by decide +kernel, rfl, by decide +kernel, by decide +kernel⟩
def l1_law : XS :=
  (sSeq (sSet 6 (xBin oAdd (xVar 6) (xBin oIx (xVar 3) (xVar 7))))
  (sSeq (sPut 4 (xVar 7) (xBin oSub (xBin oAdd (xBin oSub (xVar 6) (xC (.int 1))) (xBin oMod (xCall bInt (xCons (xBin oIx (xVar 1) (xBin oAdd (xC (.int 5)) (xVar 7))) xNil)) (xC (.int 4)))) (xCall bInt (xCons (xBin oEq (xBin oMod (xCall bInt (xCons (xBin oIx (xVar 1) (xC (.int 10))) xNil)) (xC (.int 8))) (xVar 7)) xNil))))
  sNop))
def g_law : XS :=
  (sSeq (sSet 1 (xCall (fun ds => if ds.length = 2 then (d__law_row) ds else none) (xCons (xVar 0) (xCons (xC (.int 44)) xNil))))
  (sSeq (sSet 2 (xBin oAdd (xC (.int 1)) (xBin oMod (xCall bInt (xCons (xBin oIx (xVar 1) (xC (.int 0))) xNil)) (xC (.int 4)))))
  (sSeq (sSet 3 (xLc (xIt oR1 (xCons (xVar 2) xNil)) (gSet 7) tYesP (xBin oAdd (xC (.int 1)) (xBin oMod (xCall bInt (xCons (xBin oIx (xVar 1) (xBin oAdd (xC (.int 1)) (xVar 7))) xNil)) (xC (.int 4)))) [7]))
  (sSeq (sSet 4 (xLc (xIt oR1 (xCons (xVar 2) xNil)) (gSet 7) tYesP (xBin oAdd (xBin oSub (xBin oIx (xVar 3) (xVar 7)) (xC (.int 1))) (xBin oMod (xCall bInt (xCons (xBin oIx (xVar 1) (xBin oAdd (xC (.int 5)) (xVar 7))) xNil)) (xBin oAdd (xC (.int 1)) (xBin oMul' (xC (.int 3)) (xVar 2))))) [7]))
  (sSeq (sIf (tOf (xBin oEq (xBin oMod (xCall bInt (xCons (xBin oIx (xVar 1) (xC (.int 9))) xNil)) (xC (.int 2))) (xC (.int 0)))) (sSeq (sSet 6 (xC (.int 0)))
  (sSeq (sFor (xIt oR1 (xCons (xVar 2) xNil)) (gSet 7) l1_law)
  sNop)) sNop)
  (sSeq (sSet 4 (xLc (xSeq (xVar 4)) (gSet 8) tYesP (xCall bMax2 (xCons (xC (.int 0)) (xCons (xVar 8) xNil))) [8]))
  (sSeq (sIf (tNotP (tTru (xCall (fun ds => if ds.length = 4 then ((d__law_late) ds).bind fun d => if flat d then some d else none else none) (xCons (xVar 1) (xCons (xVar 2) (xCons (xVar 3) (xCons (xVar 4) xNil))))))) (sRet (xC (.bool false))) sNop)
  (sSeq (sSet 5 (xLc (xIt oR1 (xCons (xVar 2) xNil)) (gSet 7) tYesP (xBin oAdd (xBin oIx (xVar 4) (xVar 7)) (xBin oMod (xCall bInt (xCons (xBin oIx (xVar 1) (xBin oAdd (xC (.int 13)) (xVar 7))) xNil)) (xC (.int 5)))) [7]))
  (sRet (xCall (fun ds => if ds.length = 4 then ((d__law_unsure) ds).bind fun d => if flat d then some d else none else none) (xCons (xVar 1) (xCons (xVar 2) (xCons (xVar 3) (xCons (xVar 5) xNil))))))))))))))
def d_law : List D → Option D := runD 1 9 g_law
theorem ok_law {f : Addr} {fd : FuncData} (F : FnP K "law" s_law f fd) (D__law_row : Def P w K mg base 2 "_law_row" ["script", "many"] (d__law_row)) (D__law_unsure : Def P w K mg base 11 "_law_unsure" ["row", "n", "lows", "promised"] (d__law_unsure)) (D__law_late : Def P w K mg base 11 "_law_late" ["row", "n", "days", "promised"] (d__law_late)) (b_int : mg "int" = none) (b_max : mg "max" = none) (b_range : mg "range" = none) : FnOk P w K mg base CX0 12 f fd ["script"] (spD K 1 d_law) := by
  have nd := sc_law.nd
  refine fnp_ok (k := 11) (O' := []) F sc_law fun cdv A outer s H E hr => ?_
  exact (by exact ss_cons (by exact ss_setS 1 nd (by exact se_callD D__law_row hr (by exact sa_cons (by exact se_var 0) (by exact sa_cons se_int sa_nil)))) (by exact ss_cons (by exact ss_setF 2 nd (by exact se_op op_addD se_int (by exact se_op op_modD (by exact se_callT (st := false) cb_int b_int (by exact sa_cons (by exact se_ix (by exact se_var 1) se_int) sa_nil)) se_int))) (by exact ss_cons (by exact ss_setF 3 nd (by exact se_lc nd (by exact si_r1 (st := false) b_range (by exact sa_cons (by exact se_varW 2) sa_nil)) (blkOk_by (own := [("k", 7)]) rfl) (fun _ _ _ _ _ => (by exact sg_name 7 nd)) (fun _ _ _ _ _ => sts_nil) (fun _ _ _ _ _ => (by exact se_op op_addD se_int (by exact se_op op_modD (by exact se_callT (st := false) cb_int b_int (by exact sa_cons (by exact se_ix (by exact se_var 1) (by exact se_op op_addD se_int (by exact se_var 7))) sa_nil)) se_int))))) (by exact ss_cons (by exact ss_setF 4 nd (by exact se_lc nd (by exact si_r1 (st := false) b_range (by exact sa_cons (by exact se_varW 2) sa_nil)) (blkOk_by (own := [("k", 7)]) rfl) (fun _ _ _ _ _ => (by exact sg_name 7 nd)) (fun _ _ _ _ _ => sts_nil) (fun _ _ _ _ _ => (by exact se_op op_addD (by exact se_op op_subD (by exact se_ix (by exact se_varW 3) (by exact se_var 7)) se_int) (by exact se_op op_modD (by exact se_callT (st := false) cb_int b_int (by exact sa_cons (by exact se_ix (by exact se_var 1) (by exact se_op op_addD se_int (by exact se_var 7))) sa_nil)) (by exact se_op op_addD se_int (by exact se_op op_mulD' se_int (by exact se_varW 2)))))))) (by exact ss_cons (by exact ss_if (O' := [4, 3, 2]) (by exact st_cmp (op_eqP hr) (by exact se_op op_modD (by exact se_callT (st := false) cb_int b_int (by exact sa_cons (by exact se_ix (by exact se_var 1) se_int) sa_nil)) se_int) se_int) (by exact ss_cons (by exact ss_setF 6 nd se_int) (by exact ss_cons (by exact ss_for (O' := [6, 4, 3, 2]) (by exact si_r1 (st := false) b_range (by exact sa_cons (by exact se_varW 2) sa_nil)) (by exact sg_name 7 nd) (by exact ss_cons (by exact ss_setF 6 nd (by exact se_op op_addD (by exact se_varW 6) (by exact se_ix (by exact se_varW 3) (by exact se_var 7)))) (by exact ss_cons (by exact ss_put 4 (by exact se_op op_subD (by exact se_op op_addD (by exact se_op op_subD (by exact se_varW 6) se_int) (by exact se_op op_modD (by exact se_callT (st := false) cb_int b_int (by exact sa_cons (by exact se_ix (by exact se_var 1) (by exact se_op op_addD se_int (by exact se_var 7))) sa_nil)) se_int)) (by exact se_callT (st := false) cb_int b_int (by exact sa_cons (by exact se_cmp (op_eqP hr) (by exact se_op op_modD (by exact se_callT (st := false) cb_int b_int (by exact sa_cons (by exact se_ix (by exact se_var 1) se_int) sa_nil)) se_int) (by exact se_var 7)) sa_nil))) (by exact se_var 7)) ss_nil))) ss_nil)) ss_nil) (by exact ss_cons (by exact ss_setF 4 nd (by exact se_lc nd (by exact si_seq (m := .w) (by exact se_varW 4)) (blkOk_by (own := [("one", 8)]) rfl) (fun _ _ _ _ _ => (by exact sg_name 8 nd)) (fun _ _ _ _ _ => sts_nil) (fun _ _ _ _ _ => (by exact se_callB (st := false) cb_max2 b_max (by exact sa_cons se_int (by exact sa_cons (by exact se_var 8) sa_nil)))))) (by exact ss_cons (by exact ss_if (O' := [4, 4, 3, 2]) (by exact st_not (by exact st_val (by exact se_callWD D__law_late hr (by exact sa_cons (by exact se_var 1) (by exact sa_cons (by exact se_varW 2) (by exact sa_cons (by exact se_varW 3) (by exact sa_cons (by exact se_varW 4) sa_nil))))))) (by exact ss_last (by exact ss_ret se_bl)) ss_nil) (by exact ss_cons (by exact ss_setLc 5 nd (by exact si_r1 (st := false) b_range (by exact sa_cons (by exact se_varW 2) sa_nil)) (blkOk_by (own := [("k", 7)]) rfl) (fun _ _ _ _ _ => (by exact sg_name 7 nd)) (fun _ _ _ _ _ => sts_nil) (fun _ _ _ _ _ => (by exact se_op op_addD (by exact se_ix (by exact se_varW 4) (by exact se_var 7)) (by exact se_op op_modD (by exact se_callT (st := false) cb_int b_int (by exact sa_cons (by exact se_ix (by exact se_var 1) (by exact se_op op_addD se_int (by exact se_var 7))) sa_nil)) se_int)))) (by exact ss_last (by exact ss_ret (by exact se_callWD D__law_unsure hr (by exact sa_cons (by exact se_var 1) (by exact sa_cons (by exact se_varW 2) (by exact sa_cons (by exact se_varW 3) (by exact sa_cons (by exact se_varW 5) sa_nil)))))))))))))))
end
/-! ### the head -/
def h_divisor : He.DefD := ⟨("divisor", none), "divisor", "divisor", defArgs s_divisor, defBody s_divisor, defScope s_divisor, [], []⟩
def h_lowest : He.DefD := ⟨("lowest", none), "lowest", "lowest", defArgs s_lowest, defBody s_lowest, defScope s_lowest, [], []⟩
def h_plus : He.DefD := ⟨("plus", none), "plus", "plus", defArgs s_plus, defBody s_plus, defScope s_plus, [], []⟩
def h_times : He.DefD := ⟨("times", none), "times", "times", defArgs s_times, defBody s_times, defScope s_times, [], []⟩
def h_all_orders : He.DefD := ⟨("all_orders", none), "all_orders", "all_orders", defArgs s_all_orders, defBody s_all_orders, defScope s_all_orders, [], []⟩
def h_all_rows : He.DefD := ⟨("all_rows", none), "all_rows", "all_rows", defArgs s_all_rows, defBody s_all_rows, defScope s_all_rows, [], []⟩
def h_whole : He.DefD := ⟨("whole", none), "whole", "whole", defArgs s_whole, defBody s_whole, defScope s_whole, [], []⟩
def h_ends_in : He.DefD := ⟨("ends_in", none), "ends_in", "ends_in", defArgs s_ends_in, defBody s_ends_in, defScope s_ends_in, [], []⟩
def h_keeps_with : He.DefD := ⟨("keeps_with", none), "keeps_with", "keeps_with", defArgs s_keeps_with, defBody s_keeps_with, defScope s_keeps_with, [], []⟩
def h_keeps_surely : He.DefD := ⟨("keeps_surely", none), "keeps_surely", "keeps_surely", defArgs s_keeps_surely, defBody s_keeps_surely, defScope s_keeps_surely, [], []⟩
def h_may_keep : He.DefD := ⟨("may_keep", none), "may_keep", "may_keep", defArgs s_may_keep, defBody s_may_keep, defScope s_may_keep, [], []⟩
def h_sure_orders : He.DefD := ⟨("sure_orders", none), "sure_orders", "sure_orders", defArgs s_sure_orders, defBody s_sure_orders, defScope s_sure_orders, [], []⟩
def h_sure_plan : He.DefD := ⟨("sure_plan", none), "sure_plan", "sure_plan", defArgs s_sure_plan, defBody s_sure_plan, defScope s_sure_plan, [], []⟩
def h_longer : He.DefD := ⟨("longer", none), "longer", "longer", defArgs s_longer, defBody s_longer, defScope s_longer, [], []⟩
def h_spare_days : He.DefD := ⟨("spare_days", none), "spare_days", "spare_days", defArgs s_spare_days, defBody s_spare_days, defScope s_spare_days, [], []⟩
def h_end_bounds : He.DefD := ⟨("end_bounds", none), "end_bounds", "end_bounds", defArgs s_end_bounds, defBody s_end_bounds, defScope s_end_bounds, [], []⟩
def h_chance_kept : He.DefD := ⟨("chance_kept", none), "chance_kept", "chance_kept", defArgs s_chance_kept, defBody s_chance_kept, defScope s_chance_kept, [], []⟩
def h_late_pay : He.DefD := ⟨("late_pay", none), "late_pay", "late_pay", defArgs s_late_pay, defBody s_late_pay, defScope s_late_pay, [], []⟩
def h_least_paid : He.DefD := ⟨("least_paid", none), "least_paid", "least_paid", defArgs s_least_paid, defBody s_least_paid, defScope s_least_paid, [], []⟩
def h_sums_least : He.DefD := ⟨("sums_least", none), "sums_least", "sums_least", defArgs s_sums_least, defBody s_sums_least, defScope s_sums_least, [], []⟩
def h_can_be_done : He.DefD := ⟨("can_be_done", none), "can_be_done", "can_be_done", defArgs s_can_be_done, defBody s_can_be_done, defScope s_can_be_done, [], []⟩
def h_one_dock : He.DefD := ⟨("one_dock", none), "one_dock", "one_dock", defArgs s_one_dock, defBody s_one_dock, defScope s_one_dock, [], []⟩
def h_docks_needed : He.DefD := ⟨("docks_needed", none), "docks_needed", "docks_needed", defArgs s_docks_needed, defBody s_docks_needed, defScope s_docks_needed, [], []⟩
def h__law_mixed : He.DefD := ⟨("_law_mixed", none), "_law_mixed", "_law_mixed", defArgs s__law_mixed, defBody s__law_mixed, defScope s__law_mixed, [], []⟩
def h__law_row : He.DefD := ⟨("_law_row", none), "_law_row", "_law_row", defArgs s__law_row, defBody s__law_row, defScope s__law_row, [], []⟩
def h__law_is_int : He.DefD := ⟨("_law_is_int", none), "_law_is_int", "_law_is_int", defArgs s__law_is_int, defBody s__law_is_int, defScope s__law_is_int, [], []⟩
def h__law_like : He.DefD := ⟨("_law_like", none), "_law_like", "_law_like", defArgs s__law_like, defBody s__law_like, defScope s__law_like, [], []⟩
def h__law_orders : He.DefD := ⟨("_law_orders", none), "_law_orders", "_law_orders", defArgs s__law_orders, defBody s__law_orders, defScope s__law_orders, [], []⟩
def h__law_common : He.DefD := ⟨("_law_common", none), "_law_common", "_law_common", defArgs s__law_common, defBody s__law_common, defScope s__law_common, [], []⟩
def h__law_ratio : He.DefD := ⟨("_law_ratio", none), "_law_ratio", "_law_ratio", defArgs s__law_ratio, defBody s__law_ratio, defScope s__law_ratio, [], []⟩
def h__law_tuples : He.DefD := ⟨("_law_tuples", none), "_law_tuples", "_law_tuples", defArgs s__law_tuples, defBody s__law_tuples, defScope s__law_tuples, [], []⟩
def h__law_ends : He.DefD := ⟨("_law_ends", none), "_law_ends", "_law_ends", defArgs s__law_ends, defBody s__law_ends, defScope s__law_ends, [], []⟩
def h__law_kept : He.DefD := ⟨("_law_kept", none), "_law_kept", "_law_kept", defArgs s__law_kept, defBody s__law_kept, defScope s__law_kept, [], []⟩
def h__law_owed : He.DefD := ⟨("_law_owed", none), "_law_owed", "_law_owed", defArgs s__law_owed, defBody s__law_owed, defScope s__law_owed, [], []⟩
def h__law_chances : He.DefD := ⟨("_law_chances", none), "_law_chances", "_law_chances", defArgs s__law_chances, defBody s__law_chances, defScope s__law_chances, [], []⟩
def h__law_spare : He.DefD := ⟨("_law_spare", none), "_law_spare", "_law_spare", defArgs s__law_spare, defBody s__law_spare, defScope s__law_spare, [], []⟩
def h__law_unsure : He.DefD := ⟨("_law_unsure", none), "_law_unsure", "_law_unsure", defArgs s__law_unsure, defBody s__law_unsure, defScope s__law_unsure, [], []⟩
def h__law_docks : He.DefD := ⟨("_law_docks", none), "_law_docks", "_law_docks", defArgs s__law_docks, defBody s__law_docks, defScope s__law_docks, [], []⟩
def h__law_late : He.DefD := ⟨("_law_late", none), "_law_late", "_law_late", defArgs s__law_late, defBody s__law_late, defScope s__law_late, [], []⟩
def h_law : He.DefD := ⟨("law", none), "law", "law", defArgs s_law, defBody s_law, defScope s_law, [], []⟩
def fn0 : List He.DefD := [h_divisor, h_lowest, h_plus, h_times, h_all_orders, h_all_rows, h_whole, h_ends_in, h_keeps_with, h_keeps_surely, h_may_keep, h_sure_orders, h_sure_plan, h_longer, h_spare_days, h_end_bounds, h_chance_kept, h_late_pay, h_least_paid, h_sums_least, h_can_be_done, h_one_dock, h_docks_needed, h__law_mixed, h__law_row, h__law_is_int, h__law_like, h__law_orders, h__law_common, h__law_ratio]
def fn1 : List He.DefD := [h__law_tuples, h__law_ends, h__law_kept, h__law_owed, h__law_chances, h__law_spare, h__law_unsure, h__law_docks, h__law_late, h_law]
def fn : List He.DefD := fn0 ++ fn1
def fa0 : List He.Fa := [.glo "divisor", .glo "lowest", .glo "plus", .glo "times", .glo "all_orders", .glo "all_rows", .glo "whole", .glo "ends_in", .glo "keeps_with", .glo "keeps_surely", .glo "may_keep", .glo "sure_orders", .glo "sure_plan", .glo "longer", .glo "spare_days", .glo "end_bounds", .glo "chance_kept", .glo "late_pay", .glo "least_paid", .glo "sums_least", .glo "can_be_done", .glo "one_dock", .glo "docks_needed", .glo "_law_mixed", .glo "_law_row", .glo "_law_is_int", .glo "_law_like", .glo "_law_orders", .glo "_law_common", .glo "_law_ratio"]
def fa1 : List He.Fa := [.glo "_law_tuples", .glo "_law_ends", .glo "_law_kept", .glo "_law_owed", .glo "_law_chances", .glo "_law_spare", .glo "_law_unsure", .glo "_law_docks", .glo "_law_late", .glo "law", .free "abs", .free "all", .free "any", .free "bool", .free "enumerate", .free "int", .free "isinstance", .free "len", .free "max", .free "min", .free "range", .free "sorted", .free "str", .free "sum", .free "tuple", .free "zip"]
def fa : List He.Fa := fa0 ++ fa1
def loo0 : List PySem.Str := ["divisor", "lowest", "plus", "times", "all_orders", "all_rows", "whole", "ends_in", "keeps_with", "keeps_surely", "may_keep", "sure_orders", "sure_plan", "longer", "spare_days", "end_bounds", "chance_kept", "late_pay", "least_paid", "sums_least", "can_be_done", "one_dock", "docks_needed", "_law_mixed", "_law_row", "_law_is_int", "_law_like", "_law_orders", "_law_common", "_law_ratio"]
def loo1 : List PySem.Str := ["_law_tuples", "_law_ends", "_law_kept", "_law_owed", "_law_chances", "_law_spare", "_law_unsure", "_law_docks", "_law_late"]
def loo : List PySem.Str := loo0 ++ loo1
abbrev R : PySem.W.OpenRow := PySem.W.OpenLaw.row PySem.Challenge.rw_dockheld_k13_whole_sure_pay
abbrev hk : PySem.W.Hook := He.hookD 4 fa fn
def ob (s : PySem.W.SharedT) : He.AlD := He.obsDG 4 fa fn (HandSHeadRun.getT s)
theorem ob_eq (s : PySem.W.SharedT) : ob s = hk.obs s.abs := He.obsDG_eq (HandSHeadRun.getT_eq s)
theorem run (w : World) : HandSHeadRun.RunEq R (PySem.W.view R.prog [45]) hk ob 20000 loo w := by
  intro os
  kernel_rfl
theorem facts {P : Program} {w : World} {K : PySem.W.Frag} {h : Heap} {mg : Str → Option Value} {f : Addr} (X : K.In h) (G : h.Ns mainGlobals mg) (hfa : mg ("law" : Str) = some (.ref f)) (c : He.SaysD fa fn K) :
    ∃ fd : FuncData, (∀ (s : Shared) (v : Value), BindsTo s fd ⟨[v], []⟩ [("script", v)]) ∧ ∀ base : Heap, K.In base → base.Ns mainGlobals mg → FnOk P w K mg base CX0 12 f fd ["script"] (spD K 1 d_law) := by
  obtain ⟨fd_divisor, F_divisor⟩ := c.def_ 0 (d := h_divisor) rfl
  obtain ⟨fd_lowest, F_lowest⟩ := c.def_ 1 (d := h_lowest) rfl
  obtain ⟨fd_plus, F_plus⟩ := c.def_ 2 (d := h_plus) rfl
  obtain ⟨fd_times, F_times⟩ := c.def_ 3 (d := h_times) rfl
  obtain ⟨fd_all_orders, F_all_orders⟩ := c.def_ 4 (d := h_all_orders) rfl
  obtain ⟨fd_all_rows, F_all_rows⟩ := c.def_ 5 (d := h_all_rows) rfl
  obtain ⟨fd_whole, F_whole⟩ := c.def_ 6 (d := h_whole) rfl
  obtain ⟨fd_ends_in, F_ends_in⟩ := c.def_ 7 (d := h_ends_in) rfl
  obtain ⟨fd_keeps_with, F_keeps_with⟩ := c.def_ 8 (d := h_keeps_with) rfl
  obtain ⟨fd_keeps_surely, F_keeps_surely⟩ := c.def_ 9 (d := h_keeps_surely) rfl
  obtain ⟨fd_may_keep, F_may_keep⟩ := c.def_ 10 (d := h_may_keep) rfl
  obtain ⟨fd_sure_orders, F_sure_orders⟩ := c.def_ 11 (d := h_sure_orders) rfl
  obtain ⟨fd_sure_plan, F_sure_plan⟩ := c.def_ 12 (d := h_sure_plan) rfl
  obtain ⟨fd_longer, F_longer⟩ := c.def_ 13 (d := h_longer) rfl
  obtain ⟨fd_spare_days, F_spare_days⟩ := c.def_ 14 (d := h_spare_days) rfl
  obtain ⟨fd_end_bounds, F_end_bounds⟩ := c.def_ 15 (d := h_end_bounds) rfl
  obtain ⟨fd_chance_kept, F_chance_kept⟩ := c.def_ 16 (d := h_chance_kept) rfl
  obtain ⟨fd_late_pay, F_late_pay⟩ := c.def_ 17 (d := h_late_pay) rfl
  obtain ⟨fd_least_paid, F_least_paid⟩ := c.def_ 18 (d := h_least_paid) rfl
  obtain ⟨fd_sums_least, F_sums_least⟩ := c.def_ 19 (d := h_sums_least) rfl
  obtain ⟨fd_can_be_done, F_can_be_done⟩ := c.def_ 20 (d := h_can_be_done) rfl
  obtain ⟨fd_one_dock, F_one_dock⟩ := c.def_ 21 (d := h_one_dock) rfl
  obtain ⟨fd_docks_needed, F_docks_needed⟩ := c.def_ 22 (d := h_docks_needed) rfl
  obtain ⟨fd__law_mixed, F__law_mixed⟩ := c.def_ 23 (d := h__law_mixed) rfl
  obtain ⟨fd__law_row, F__law_row⟩ := c.def_ 24 (d := h__law_row) rfl
  obtain ⟨fd__law_is_int, F__law_is_int⟩ := c.def_ 25 (d := h__law_is_int) rfl
  obtain ⟨fd__law_like, F__law_like⟩ := c.def_ 26 (d := h__law_like) rfl
  obtain ⟨fd__law_orders, F__law_orders⟩ := c.def_ 27 (d := h__law_orders) rfl
  obtain ⟨fd__law_common, F__law_common⟩ := c.def_ 28 (d := h__law_common) rfl
  obtain ⟨fd__law_ratio, F__law_ratio⟩ := c.def_ 29 (d := h__law_ratio) rfl
  obtain ⟨fd__law_tuples, F__law_tuples⟩ := c.def_ 30 (d := h__law_tuples) rfl
  obtain ⟨fd__law_ends, F__law_ends⟩ := c.def_ 31 (d := h__law_ends) rfl
  obtain ⟨fd__law_kept, F__law_kept⟩ := c.def_ 32 (d := h__law_kept) rfl
  obtain ⟨fd__law_owed, F__law_owed⟩ := c.def_ 33 (d := h__law_owed) rfl
  obtain ⟨fd__law_chances, F__law_chances⟩ := c.def_ 34 (d := h__law_chances) rfl
  obtain ⟨fd__law_spare, F__law_spare⟩ := c.def_ 35 (d := h__law_spare) rfl
  obtain ⟨fd__law_unsure, F__law_unsure⟩ := c.def_ 36 (d := h__law_unsure) rfl
  obtain ⟨fd__law_docks, F__law_docks⟩ := c.def_ 37 (d := h__law_docks) rfl
  obtain ⟨fd__law_late, F__law_late⟩ := c.def_ 38 (d := h__law_late) rfl
  obtain ⟨fd_law, F_law⟩ := c.def_ 39 (d := h_law) rfl
  have e := hfa.symm.trans (He.glo_ok X G (c.fact 39 (f := .glo "law") rfl))
  cases e
  refine ⟨fd_law, fun s v => FunD.bindsA (ps := ["script"]) F_law (fun _ _ _ _ _ _ us hl => match us, hl with | [_], _ => rfl) s [v] rfl, fun base _ _ => ?_⟩
  have b_abs : mg "abs" = none := He.free_ok X G (c.fact 40 (f := .free "abs") rfl)
  have b_all : mg "all" = none := He.free_ok X G (c.fact 41 (f := .free "all") rfl)
  have b_any : mg "any" = none := He.free_ok X G (c.fact 42 (f := .free "any") rfl)
  have b_bool : mg "bool" = none := He.free_ok X G (c.fact 43 (f := .free "bool") rfl)
  have b_enumerate : mg "enumerate" = none := He.free_ok X G (c.fact 44 (f := .free "enumerate") rfl)
  have b_int : mg "int" = none := He.free_ok X G (c.fact 45 (f := .free "int") rfl)
  have b_isinstance : mg "isinstance" = none := He.free_ok X G (c.fact 46 (f := .free "isinstance") rfl)
  have b_len : mg "len" = none := He.free_ok X G (c.fact 47 (f := .free "len") rfl)
  have b_max : mg "max" = none := He.free_ok X G (c.fact 48 (f := .free "max") rfl)
  have b_min : mg "min" = none := He.free_ok X G (c.fact 49 (f := .free "min") rfl)
  have b_range : mg "range" = none := He.free_ok X G (c.fact 50 (f := .free "range") rfl)
  have b_sorted : mg "sorted" = none := He.free_ok X G (c.fact 51 (f := .free "sorted") rfl)
  have b_str : mg "str" = none := He.free_ok X G (c.fact 52 (f := .free "str") rfl)
  have b_sum : mg "sum" = none := He.free_ok X G (c.fact 53 (f := .free "sum") rfl)
  have b_tuple : mg "tuple" = none := He.free_ok X G (c.fact 54 (f := .free "tuple") rfl)
  have b_zip : mg "zip" = none := He.free_ok X G (c.fact 55 (f := .free "zip") rfl)
  have D_divisor : Def P w K mg base 1 "divisor" ["first", "second"] d_divisor := def_ok (ok_divisor F_divisor b_abs) (He.glo_ok X G (c.fact 0 (f := .glo "divisor") rfl)) F_divisor.kp (F_divisor.bindsN (ps := ["first", "second"]) fun _ _ _ _ _ _ us hl => match us, hl with | [_, _], _ => rfl)
  have D_lowest : Def P w K mg base 2 "lowest" ["a", "b"] d_lowest := def_ok (ok_lowest F_lowest D_divisor) (He.glo_ok X G (c.fact 1 (f := .glo "lowest") rfl)) F_lowest.kp (F_lowest.bindsN (ps := ["a", "b"]) fun _ _ _ _ _ _ us hl => match us, hl with | [_, _], _ => rfl)
  have D_plus : Def P w K mg base 3 "plus" ["first", "second"] d_plus := def_ok (ok_plus F_plus D_lowest) (He.glo_ok X G (c.fact 2 (f := .glo "plus") rfl)) F_plus.kp (F_plus.bindsN (ps := ["first", "second"]) fun _ _ _ _ _ _ us hl => match us, hl with | [_, _], _ => rfl)
  have D_times : Def P w K mg base 3 "times" ["first", "second"] d_times := def_ok (ok_times F_times D_lowest) (He.glo_ok X G (c.fact 3 (f := .glo "times") rfl)) F_times.kp (F_times.bindsN (ps := ["first", "second"]) fun _ _ _ _ _ _ us hl => match us, hl with | [_, _], _ => rfl)
  have D_all_orders : Def P w K mg base 1 "all_orders" ["n"] d_all_orders := def_ok (ok_all_orders F_all_orders b_range) (He.glo_ok X G (c.fact 4 (f := .glo "all_orders") rfl)) F_all_orders.kp (F_all_orders.bindsN (ps := ["n"]) fun _ _ _ _ _ _ us hl => match us, hl with | [_], _ => rfl)
  have D_all_rows : Def P w K mg base 1 "all_rows" ["count", "most"] d_all_rows := def_ok (ok_all_rows F_all_rows b_range) (He.glo_ok X G (c.fact 5 (f := .glo "all_rows") rfl)) F_all_rows.kp (F_all_rows.bindsN (ps := ["count", "most"]) fun _ _ _ _ _ _ us hl => match us, hl with | [_, _], _ => rfl)
  have D_whole : Def P w K mg base 1 "whole" ["number"] d_whole := def_ok (ok_whole F_whole) (He.glo_ok X G (c.fact 6 (f := .glo "whole") rfl)) F_whole.kp (F_whole.bindsN (ps := ["number"]) fun _ _ _ _ _ _ us hl => match us, hl with | [_], _ => rfl)
  have D_ends_in : Def P w K mg base 1 "ends_in" ["ships", "works", "order"] d_ends_in := def_ok (ok_ends_in F_ends_in b_max) (He.glo_ok X G (c.fact 7 (f := .glo "ends_in") rfl)) F_ends_in.kp (F_ends_in.bindsN (ps := ["ships", "works", "order"]) fun _ _ _ _ _ _ us hl => match us, hl with | [_, _, _], _ => rfl)
  have D_keeps_with : Def P w K mg base 2 "keeps_with" ["ships", "works", "order"] d_keeps_with := def_ok (ok_keeps_with F_keeps_with D_ends_in b_all) (He.glo_ok X G (c.fact 8 (f := .glo "keeps_with") rfl)) F_keeps_with.kp (F_keeps_with.bindsN (ps := ["ships", "works", "order"]) fun _ _ _ _ _ _ us hl => match us, hl with | [_, _, _], _ => rfl)
  have D_keeps_surely : Def P w K mg base 3 "keeps_surely" ["ships", "order"] d_keeps_surely := def_ok (ok_keeps_surely F_keeps_surely D_keeps_with) (He.glo_ok X G (c.fact 9 (f := .glo "keeps_surely") rfl)) F_keeps_surely.kp (F_keeps_surely.bindsN (ps := ["ships", "order"]) fun _ _ _ _ _ _ us hl => match us, hl with | [_, _], _ => rfl)
  have D_may_keep : Def P w K mg base 3 "may_keep" ["ships", "order"] d_may_keep := def_ok (ok_may_keep F_may_keep D_keeps_with) (He.glo_ok X G (c.fact 10 (f := .glo "may_keep") rfl)) F_may_keep.kp (F_may_keep.bindsN (ps := ["ships", "order"]) fun _ _ _ _ _ _ us hl => match us, hl with | [_, _], _ => rfl)
  have D_sure_orders : Def P w K mg base 4 "sure_orders" ["ships"] d_sure_orders := def_ok (ok_sure_orders F_sure_orders D_all_orders D_keeps_surely b_len b_sorted b_tuple) (He.glo_ok X G (c.fact 11 (f := .glo "sure_orders") rfl)) F_sure_orders.kp (F_sure_orders.bindsN (ps := ["ships"]) fun _ _ _ _ _ _ us hl => match us, hl with | [_], _ => rfl)
  have D_sure_plan : Def P w K mg base 2 "sure_plan" ["ships", "order"] d_sure_plan := def_ok (ok_sure_plan F_sure_plan D_ends_in b_len b_range b_tuple) (He.glo_ok X G (c.fact 12 (f := .glo "sure_plan") rfl)) F_sure_plan.kp (F_sure_plan.bindsN (ps := ["ships", "order"]) fun _ _ _ _ _ _ us hl => match us, hl with | [_, _], _ => rfl)
  have D_longer : Def P w K mg base 1 "longer" ["ships", "index", "more"] d_longer := def_ok (ok_longer F_longer b_enumerate b_int) (He.glo_ok X G (c.fact 13 (f := .glo "longer") rfl)) F_longer.kp (F_longer.bindsN (ps := ["ships", "index", "more"]) fun _ _ _ _ _ _ us hl => match us, hl with | [_, _, _], _ => rfl)
  have D_spare_days : Def P w K mg base 4 "spare_days" ["ships", "order"] d_spare_days := def_ok (ok_spare_days F_spare_days D_keeps_with D_keeps_surely D_longer b_len b_range b_tuple) (He.glo_ok X G (c.fact 14 (f := .glo "spare_days") rfl)) F_spare_days.kp (F_spare_days.bindsN (ps := ["ships", "order"]) fun _ _ _ _ _ _ us hl => match us, hl with | [_, _], _ => rfl)
  have D_end_bounds : Def P w K mg base 2 "end_bounds" ["ships", "order"] d_end_bounds := def_ok (ok_end_bounds F_end_bounds D_ends_in b_len b_range b_tuple) (He.glo_ok X G (c.fact 15 (f := .glo "end_bounds") rfl)) F_end_bounds.kp (F_end_bounds.bindsN (ps := ["ships", "order"]) fun _ _ _ _ _ _ us hl => match us, hl with | [_, _], _ => rfl)
  have D_chance_kept : Def P w K mg base 4 "chance_kept" ["ships", "weights", "order"] d_chance_kept := def_ok (ok_chance_kept F_chance_kept D_lowest D_plus D_times D_whole D_keeps_with b_enumerate b_sum b_zip) (He.glo_ok X G (c.fact 16 (f := .glo "chance_kept") rfl)) F_chance_kept.kp (F_chance_kept.bindsN (ps := ["ships", "weights", "order"]) fun _ _ _ _ _ _ us hl => match us, hl with | [_, _, _], _ => rfl)
  have D_late_pay : Def P w K mg base 1 "late_pay" ["works", "order"] d_late_pay := def_ok (ok_late_pay F_late_pay b_len b_max b_min b_tuple) (He.glo_ok X G (c.fact 17 (f := .glo "late_pay") rfl)) F_late_pay.kp (F_late_pay.bindsN (ps := ["works", "order"]) fun _ _ _ _ _ _ us hl => match us, hl with | [_, _], _ => rfl)
  have D_least_paid : Def P w K mg base 2 "least_paid" ["works"] d_least_paid := def_ok (ok_least_paid F_least_paid D_all_orders D_late_pay b_len b_min b_sum) (He.glo_ok X G (c.fact 18 (f := .glo "least_paid") rfl)) F_least_paid.kp (F_least_paid.bindsN (ps := ["works"]) fun _ _ _ _ _ _ us hl => match us, hl with | [_], _ => rfl)
  have D_sums_least : Def P w K mg base 1 "sums_least" ["docks", "works"] d_sums_least := def_ok (ok_sums_least F_sums_least b_enumerate b_sorted) (He.glo_ok X G (c.fact 19 (f := .glo "sums_least") rfl)) F_sums_least.kp (F_sums_least.bindsN (ps := ["docks", "works"]) fun _ _ _ _ _ _ us hl => match us, hl with | [_, _], _ => rfl)
  have D_can_be_done : Def P w K mg base 1 "can_be_done" ["works", "order"] d_can_be_done := def_ok (ok_can_be_done F_can_be_done) (He.glo_ok X G (c.fact 20 (f := .glo "can_be_done") rfl)) F_can_be_done.kp (F_can_be_done.bindsN (ps := ["works", "order"]) fun _ _ _ _ _ _ us hl => match us, hl with | [_, _], _ => rfl)
  have D_one_dock : Def P w K mg base 2 "one_dock" ["works", "chosen"] d_one_dock := def_ok (ok_one_dock F_one_dock D_can_be_done b_sorted) (He.glo_ok X G (c.fact 21 (f := .glo "one_dock") rfl)) F_one_dock.kp (F_one_dock.bindsN (ps := ["works", "chosen"]) fun _ _ _ _ _ _ us hl => match us, hl with | [_, _], _ => rfl)
  have D_docks_needed : Def P w K mg base 3 "docks_needed" ["works"] d_docks_needed := def_ok (ok_docks_needed F_docks_needed D_all_rows D_one_dock b_all b_any b_enumerate b_len b_range) (He.glo_ok X G (c.fact 22 (f := .glo "docks_needed") rfl)) F_docks_needed.kp (F_docks_needed.bindsN (ps := ["works"]) fun _ _ _ _ _ _ us hl => match us, hl with | [_], _ => rfl)
  have D__law_mixed : Def P w K mg base 1 "_law_mixed" ["script", "k"] d__law_mixed := def_ok (ok__law_mixed F__law_mixed b_int b_len) (He.glo_ok X G (c.fact 23 (f := .glo "_law_mixed") rfl)) F__law_mixed.kp (F__law_mixed.bindsN (ps := ["script", "k"]) fun _ _ _ _ _ _ us hl => match us, hl with | [_, _], _ => rfl)
  have D__law_row : Def P w K mg base 2 "_law_row" ["script", "many"] d__law_row := def_ok (ok__law_row F__law_row D__law_mixed b_int b_len b_range) (He.glo_ok X G (c.fact 24 (f := .glo "_law_row") rfl)) F__law_row.kp (F__law_row.bindsN (ps := ["script", "many"]) fun _ _ _ _ _ _ us hl => match us, hl with | [_, _], _ => rfl)
  have D__law_is_int : Def P w K mg base 1 "_law_is_int" ["value"] d__law_is_int := def_ok (ok__law_is_int F__law_is_int b_bool b_int b_isinstance) (He.glo_ok X G (c.fact 25 (f := .glo "_law_is_int") rfl)) F__law_is_int.kp (F__law_is_int.bindsN (ps := ["value"]) fun _ _ _ _ _ _ us hl => match us, hl with | [_], _ => rfl)
  have D__law_like : Def P w K mg base 10 "_law_like" ["value", "due"] (d__law_like 8) := def_ok (ok__law_like F__law_like (He.glo_ok X G (c.fact 26 (f := .glo "_law_like") rfl)) F__law_like.kp (F__law_like.bindsN (ps := ["value", "due"]) fun _ _ _ _ _ _ us hl => match us, hl with | [_, _], _ => rfl) D__law_is_int b_all b_bool b_isinstance b_len b_range b_str b_tuple 8) (He.glo_ok X G (c.fact 26 (f := .glo "_law_like") rfl)) F__law_like.kp (F__law_like.bindsN (ps := ["value", "due"]) fun _ _ _ _ _ _ us hl => match us, hl with | [_, _], _ => rfl)
  have D__law_orders : Def P w K mg base 1 "_law_orders" ["count"] d__law_orders := def_ok (ok__law_orders F__law_orders b_range) (He.glo_ok X G (c.fact 27 (f := .glo "_law_orders") rfl)) F__law_orders.kp (F__law_orders.bindsN (ps := ["count"]) fun _ _ _ _ _ _ us hl => match us, hl with | [_], _ => rfl)
  have D__law_common : Def P w K mg base 1 "_law_common" ["first", "second"] d__law_common := def_ok (ok__law_common F__law_common b_abs b_int) (He.glo_ok X G (c.fact 28 (f := .glo "_law_common") rfl)) F__law_common.kp (F__law_common.bindsN (ps := ["first", "second"]) fun _ _ _ _ _ _ us hl => match us, hl with | [_, _], _ => rfl)
  have D__law_ratio : Def P w K mg base 2 "_law_ratio" ["a", "b"] d__law_ratio := def_ok (ok__law_ratio F__law_ratio D__law_common) (He.glo_ok X G (c.fact 29 (f := .glo "_law_ratio") rfl)) F__law_ratio.kp (F__law_ratio.bindsN (ps := ["a", "b"]) fun _ _ _ _ _ _ us hl => match us, hl with | [_, _], _ => rfl)
  have D__law_tuples : Def P w K mg base 1 "_law_tuples" ["count", "most"] d__law_tuples := def_ok (ok__law_tuples F__law_tuples b_range) (He.glo_ok X G (c.fact 30 (f := .glo "_law_tuples") rfl)) F__law_tuples.kp (F__law_tuples.bindsN (ps := ["count", "most"]) fun _ _ _ _ _ _ us hl => match us, hl with | [_, _], _ => rfl)
  have D__law_ends : Def P w K mg base 1 "_law_ends" ["days", "order"] d__law_ends := def_ok (ok__law_ends F__law_ends b_len) (He.glo_ok X G (c.fact 31 (f := .glo "_law_ends") rfl)) F__law_ends.kp (F__law_ends.bindsN (ps := ["days", "order"]) fun _ _ _ _ _ _ us hl => match us, hl with | [_, _], _ => rfl)
  have D__law_kept : Def P w K mg base 2 "_law_kept" ["days", "promised", "order"] d__law_kept := def_ok (ok__law_kept F__law_kept D__law_ends b_all b_len b_range) (He.glo_ok X G (c.fact 32 (f := .glo "_law_kept") rfl)) F__law_kept.kp (F__law_kept.bindsN (ps := ["days", "promised", "order"]) fun _ _ _ _ _ _ us hl => match us, hl with | [_, _, _], _ => rfl)
  have D__law_owed : Def P w K mg base 2 "_law_owed" ["works", "order"] d__law_owed := def_ok (ok__law_owed F__law_owed D__law_ends b_len b_max b_min b_range b_tuple) (He.glo_ok X G (c.fact 33 (f := .glo "_law_owed") rfl)) F__law_owed.kp (F__law_owed.bindsN (ps := ["works", "order"]) fun _ _ _ _ _ _ us hl => match us, hl with | [_, _], _ => rfl)
  have D__law_chances : Def P w K mg base 3 "_law_chances" ["ships", "weights", "promised", "order"] d__law_chances := def_ok (ok__law_chances F__law_chances D__law_ratio D__law_kept b_len b_range b_sum) (He.glo_ok X G (c.fact 34 (f := .glo "_law_chances") rfl)) F__law_chances.kp (F__law_chances.bindsN (ps := ["ships", "weights", "promised", "order"]) fun _ _ _ _ _ _ us hl => match us, hl with | [_, _, _, _], _ => rfl)
  have D__law_spare : Def P w K mg base 3 "_law_spare" ["highs", "promised", "order"] d__law_spare := def_ok (ok__law_spare F__law_spare D__law_kept b_int b_len b_range b_tuple) (He.glo_ok X G (c.fact 35 (f := .glo "_law_spare") rfl)) F__law_spare.kp (F__law_spare.bindsN (ps := ["highs", "promised", "order"]) fun _ _ _ _ _ _ us hl => match us, hl with | [_, _, _], _ => rfl)
  have D__law_unsure : Def P w K mg base 11 "_law_unsure" ["row", "n", "lows", "promised"] d__law_unsure := def_ok (ok__law_unsure F__law_unsure D_keeps_surely D_may_keep D_sure_orders D_sure_plan D_spare_days D_end_bounds D_chance_kept D__law_like D__law_orders D__law_ends D__law_kept D__law_chances D__law_spare b_int b_len b_range b_tuple) (He.glo_ok X G (c.fact 36 (f := .glo "_law_unsure") rfl)) F__law_unsure.kp (F__law_unsure.bindsN (ps := ["row", "n", "lows", "promised"]) fun _ _ _ _ _ _ us hl => match us, hl with | [_, _, _, _], _ => rfl)
  have D__law_docks : Def P w K mg base 2 "_law_docks" ["days", "promised"] d__law_docks := def_ok (ok__law_docks F__law_docks D__law_tuples b_any b_len b_range b_sorted) (He.glo_ok X G (c.fact 37 (f := .glo "_law_docks") rfl)) F__law_docks.kp (F__law_docks.bindsN (ps := ["days", "promised"]) fun _ _ _ _ _ _ us hl => match us, hl with | [_, _], _ => rfl)
  have D__law_late : Def P w K mg base 11 "_law_late" ["row", "n", "days", "promised"] d__law_late := def_ok (ok__law_late F__law_late D_keeps_surely D_sure_orders D_late_pay D_least_paid D_sums_least D_docks_needed D__law_like D__law_orders D__law_kept D__law_owed D__law_docks b_int b_len b_min b_range b_sorted b_sum b_tuple) (He.glo_ok X G (c.fact 38 (f := .glo "_law_late") rfl)) F__law_late.kp (F__law_late.bindsN (ps := ["row", "n", "days", "promised"]) fun _ _ _ _ _ _ us hl => match us, hl with | [_, _, _, _], _ => rfl)
  exact ok_law F_law D__law_row D__law_unsure D__law_late b_int b_max b_range
/-- THE LAW from its plain function -/
theorem holds_of (hF : ∀ ns : List Int, ns.length ≤ 63 → d_law [scr (ns.map PyData.int)] = some (.bool true)) : PySem.Challenge.rw_dockheld_k13_whole_sure_pay.Holds := by
  w_on; o_law
  refine HandSHeadRun.head_any (r := PySem.W.OpenLaw.row PySem.Challenge.rw_dockheld_k13_whole_sure_pay) (q := PySem.W.view (PySem.W.OpenLaw.row PySem.Challenge.rw_dockheld_k13_whole_sure_pay).prog [45]) (H := hk) (ob := ob) (M := 20000) (loose := loo) (d := HandSHeadRun.topDef (PySem.W.OpenLaw.row PySem.Challenge.rw_dockheld_k13_whole_sure_pay).prog 45) (kwd := []) ob_eq
    (by kernel_rfl) (fun s => by kernel_rfl) run (by kernel_rfl) (by kernel_rfl) (by kernel_rfl) (by rfl) (by first | assumption | decide +kernel) (by decide +kernel) ⟨rfl, rfl, rfl, rfl, rfl, by decide +kernel⟩ ?hw ?hc
  case hw => w_witness2
  case hc =>
    refine L2.walk_ofE (l := PySem.Challenge.rw_dockheld_k13_whole_sure_pay) (n := 63) (k := 12) (x := "script") (CX := L2.CX0) rfl (by decide) (by kernel_rfl) ⟨rfl, by decide, by decide⟩ ?F (fun _ _ _ _ z => z)
    intro w mg fa h Y G hmg0
    obtain ⟨K, KX, c⟩ := Y
    have hmg : mg ("law" : PySem.Str) = some (.ref fa) := by
      have e : (HandSHeadRun.topDef (PySem.W.OpenLaw.row PySem.Challenge.rw_dockheld_k13_whole_sure_pay).prog 45).name = ("law" : PySem.Str) := by kernel_rfl
      rw [← e]
      exact hmg0
    obtain ⟨fd, hb, hF2⟩ := facts (P := (PySem.Challenge.rw_dockheld_k13_whole_sure_pay).prog) (w := w) KX G hmg c
    exact ⟨K, fd, spD K 1 d_law, KX, hb, sp_law hF, hF2⟩
end K13

namespace K13
open PySem PySem.Spec PyProof.Rows L2 Pm
theorem divisor_loop : ∀ (N y : Nat), y < N → ∀ x : Nat, whileF (tOf (xBin oGt (xVar 1) (xC (.int 0)))) (sSeq (sPar [0, 1] (xCons (xVar 1) (xCons (xBin oMod (xVar 0) (xVar 1)) xNil))) sNop) N [some (.int x), some (.int y)] = some (.nx [some (.int (Nat.gcd x y : Nat)), some (.int 0)]) := by
  intro N
  induction N with
  | zero => intro y h; omega
  | succ N ih =>
    intro y hy x
    rw [whileF_succ]
    by_cases h0 : y = 0
    · subst h0
      simp [tOf, xBin, xVar, xC, oGt, dB]
    · have hp : 0 < y := by omega
      have e : ((x : Int).fmod (y : Int)) = ((x % y : Nat) : Int) := by
        rw [Int.fmod_eq_emod_of_nonneg _ (by omega)]
        rfl
      have hlt : x % y < y := Nat.mod_lt _ hp
      simp [tOf, xBin, xVar, xC, oGt, dB, hp, sSeq, sPar, xCons, xNil, oMod, h0, setAll, sNop, e]
      rw [← Int.natCast_emod, ih (x % y) (by omega) y, Nat.gcd_comm y, ← Nat.gcd_rec, Nat.gcd_comm]
theorem abs_eq (a : Int) : (if a < 0 then -a else a) = (a.natAbs : Int) := by split <;> omega
theorem Sm.fuel {b : Int} (hb : Sm 1999 b) : b.natAbs < fuelN := Nat.lt_of_le_of_lt hb (Nat.pow_lt_pow_right (by decide) (by decide))
theorem divisor_eq (a b : Int) (hb : Sm 1999 b) : d_divisor [.int a, .int b] = some (.int (Int.gcd a b : Nat)) := by
  have := divisor_loop fuelN b.natAbs (Sm.fuel hb) a.natAbs
  simp -implicitDefEqProofs only [d_divisor, g_divisor, xVar_a, xC_a, xBin_a, xUn_a, tOf_a, tTru_a, tNotP_a, tAndP_a, tOrP_a, tyes_a, tno_a, tYesP_a, xNil_a, xCons_a, xTup_a, xLst_a, xAnd_a, xOr_a, xIf_a, xChain_a, oNo_a, oAt_a, xSl_a, xCall_a, xSeq_a, xIt_a, xLc_a, gSet_a, gTupD_a, gsNil_a, gsCons_a, sNop_a, sBrk_a, sCnt_a, sSeq_a, sRet_a, sIf_a, sSet_a, sTgt_a, sAug_a, sApp_a, sExt_a, sPut_a, sPutK_a, pkO_s, sFor_a, sWhile_a, sPar_a, runD_a, b2_s, c2_s, sqO_nx, sqO_rt, sqO_bk, sqO_ct, ifO_t, ifO_f, stO_s, endO_nx, endO_rt, andO_t, andO_f, orO_t, orO_f, chO_s, chP_t, chP_f, slO_s, atO_i, lcO_s, forO_s, gsO_s, nxO_s, tgO_s, paO_s, apO_s, exO_s, plO_s, ptO_s, dB_b, tru_b, tru_n, tru_i, tru_l, tru_t, is_n, isn_n, nn_n, nn_i, nn_b, nn_t, nn_l, add_ii, add'_ii, sub_ii, neg_i, lt_ii, le_ii, gt_ii, ge_ii, ix_l, ix_t, ix_s, at0, at1, at2, sl_l, sl_t, len_l, len_t, len_s, abs_i, int_i, int_b, max_ii, min_ii, tup_s, lst_s, seq_l, seq_t, sum_s, wipe_n, wipe_c, mul_ii, fdiv_ii, mod_ii, add_ll, add_tt, setAll, mkT, mkL, oNot, List.getD_cons_zero, List.getD_cons_succ, List.length_cons, List.length_nil, List.set_cons_zero, List.set_cons_succ, List.map_cons, List.map_nil, List.replicate, List.cons_append, List.nil_append, List.append_nil, Option.bind_some, Option.map_some, List.all_cons, List.all_nil, if_true, if_false, reduceIte, Nat.reduceAdd, Nat.reduceSub, Nat.reduceLT, Nat.reduceLeDiff, Nat.reduceEqDiff, decide_true, decide_false, Bool.and_true, Bool.and_self, Bool.true_and, Bool.not_true, Bool.not_false, ne_eq, not_true_eq_false, not_false_eq_true, Nat.zero_add, Bool.false_eq_true, and_self, true_and, and_true, abs_eq, l1_divisor, this, Int.gcd]
theorem lowest_eq (a b : Int) (h0 : 0 < b) (hb : Sm 1999 b) : d_lowest [.int a, .int b] = some (fr a b) := by
  have hg := gcd_pos_of (p := a) h0
  have hs : Sm 1999 (Int.gcd a b : Int) := by
    show (Int.gcd a b : Int).natAbs ≤ 2 ^ 1999
    have : Int.gcd a b ≤ b.natAbs := Int.gcd_le_natAbs_right a (by omega)
    simpa using Nat.le_trans this hb
  have hd := hs.divOk (by omega) (by omega)
  have f1 : a.fdiv (Int.gcd a b : Int) = a / (Int.gcd a b : Int) := Int.fdiv_eq_ediv_of_nonneg _ (by omega)
  have f2 : b.fdiv (Int.gcd a b : Int) = b / (Int.gcd a b : Int) := Int.fdiv_eq_ediv_of_nonneg _ (by omega)
  simp [d_lowest, runD, g_lowest, sSeq, sSet, xIf, tOf, xBin, xVar, xC, oGt, dB, h0, xCall, xCons, xNil, divisor_eq a b hb, sRet, xTup, oFdiv, hd, f1, f2, fr]
theorem ix0 (a b : D) : oIx (.tuple [a, b]) (.int 0) = some a := rfl
theorem ix1 (a b : D) : oIx (.tuple [a, b]) (.int 1) = some b := rfl
theorem plus_eq {p q r s : Int} (hq : 0 < q) (hs : 0 < s) (b1 : Sm 900 p) (b2 : Sm 900 q) (b3 : Sm 900 r) (b4 : Sm 900 s) : d_plus [fr p q, fr r s] = some (fr (p * s + r * q) (q * s)) := by
  obtain ⟨p', q', g, e1, rfl, rfl, hg, hq', n1, n2⟩ := fr_parts p hq
  obtain ⟨r', s', k, e2, rfl, rfl, hk, hs', n3, n4⟩ := fr_parts r hs
  have m1 := (b1.le n1).mulOk (b4.le n4) (by omega) (by omega)
  have m2 := (b3.le n3).mulOk (b2.le n2) (by omega) (by omega)
  have m3 := (b2.le n2).mulOk (b4.le n4) (by omega) (by omega)
  have hp : 0 < q' * s' := Int.mul_pos hq' hs'
  have hl := lowest_eq (p' * s' + r' * q') (q' * s') hp (((b2.le n2).mul (b4.le n4)).mono (by omega))
  have hf : fr (p' * g * (s' * k) + r' * k * (q' * g)) (q' * g * (s' * k)) = fr (p' * s' + r' * q') (q' * s') := by
    have a1 : p' * g * (s' * k) + r' * k * (q' * g) = (p' * s' + r' * q') * (g * k) := by grind
    have a2 : q' * g * (s' * k) = (q' * s') * (g * k) := by grind
    rw [a1, a2, fr_scale hp (Int.mul_pos hg hk)]
  rw [hf, e1, e2]
  simp [d_plus, runD, g_plus, sRet, xCall, xCons, xNil, xBin, xVar, xC, ix0, ix1, oMul', oMul, m1, m2, m3, oAdd, hl]
theorem times_eq {p q r s : Int} (hq : 0 < q) (hs : 0 < s) (b1 : Sm 900 p) (b2 : Sm 900 q) (b3 : Sm 900 r) (b4 : Sm 900 s) : d_times [fr p q, fr r s] = some (fr (p * r) (q * s)) := by
  obtain ⟨p', q', g, e1, rfl, rfl, hg, hq', n1, n2⟩ := fr_parts p hq
  obtain ⟨r', s', k, e2, rfl, rfl, hk, hs', n3, n4⟩ := fr_parts r hs
  have m1 := (b1.le n1).mulOk (b3.le n3) (by omega) (by omega)
  have m3 := (b2.le n2).mulOk (b4.le n4) (by omega) (by omega)
  have hp : 0 < q' * s' := Int.mul_pos hq' hs'
  have hl := lowest_eq (p' * r') (q' * s') hp (((b2.le n2).mul (b4.le n4)).mono (by omega))
  have hf : fr (p' * g * (r' * k)) (q' * g * (s' * k)) = fr (p' * r') (q' * s') := by
    have a1 : p' * g * (r' * k) = (p' * r') * (g * k) := by grind
    have a2 : q' * g * (s' * k) = (q' * s') * (g * k) := by grind
    rw [a1, a2, fr_scale hp (Int.mul_pos hg hk)]
  rw [hf, e1, e2]
  simp [d_times, runD, g_times, sRet, xCall, xCons, xNil, xBin, xVar, xC, ix0, ix1, oMul', oMul, m1, m3, hl]
theorem fr_one (n : Int) : fr n 1 = .tuple [.int n, .int 1] := by simp [fr]
theorem whole_eq (n : Int) : d_whole [.int n] = some (fr n 1) := by
  rw [fr_one]
  rfl
end K13

namespace K13
open PySem PySem.Spec PyProof.Rows L2 Pm
theorem eq_int (i j : Int) : oEq (.int i) (.int j) = some (.bool (decide (i = j))) := by
  simp [oEq, shp, SeqAt.shaped, PyData.eqv, PyData.canLay0, PyData.depth]
  rfl
theorem ne_int (i j : Int) : oNe (.int i) (.int j) = some (.bool (!decide (i = j))) := by
  simp [oNe, shp, SeqAt.shaped, PyData.eqv, PyData.canLay0, PyData.depth]
  rfl
theorem k_isi1 : kitB "int" "bool" = some false := by kernel_rfl
theorem isi1 (i : Int) : oIsi "bool" (.int i) = some (.bool false) := by
  show (kitB "int" "bool").map PyData.bool = _
  rw [k_isi1]
  rfl
theorem k_isi2 : kitB "int" "tuple" = some false := by kernel_rfl
theorem isi2 (i : Int) : oIsi "tuple" (.int i) = some (.bool false) := by
  show (kitB "int" "tuple").map PyData.bool = _
  rw [k_isi2]
  rfl
theorem k_isi3 : kitB "int" "str" = some false := by kernel_rfl
theorem isi3 (i : Int) : oIsi "str" (.int i) = some (.bool false) := by
  show (kitB "int" "str").map PyData.bool = _
  rw [k_isi3]
  rfl
theorem k_isi0 : kitB "int" "int" = some true := by kernel_rfl
theorem isi0 (i : Int) : oIsi "int" (.int i) = some (.bool true) := by
  show (kitB "int" "int").map PyData.bool = _
  rw [k_isi0]
  rfl
theorem k_isb1 : kitB "bool" "bool" = some true := by kernel_rfl
theorem isb1 (i : Bool) : oIsi "bool" (.bool i) = some (.bool true) := by
  show (kitB "bool" "bool").map PyData.bool = _
  rw [k_isb1]
  rfl
theorem k_ist1 : kitB "tuple" "bool" = some false := by kernel_rfl
theorem ist1 (i : List D) : oIsi "bool" (.tuple i) = some (.bool false) := by
  show (kitB "tuple" "bool").map PyData.bool = _
  rw [k_ist1]
  rfl
theorem k_ist2 : kitB "tuple" "tuple" = some true := by kernel_rfl
theorem ist2 (i : List D) : oIsi "tuple" (.tuple i) = some (.bool true) := by
  show (kitB "tuple" "tuple").map PyData.bool = _
  rw [k_ist2]
  rfl
theorem asBools_rep (n : Nat) : asBools (List.replicate n (PyData.bool true)) = some (List.replicate n true) := by
  have := asBools_map (List.replicate n true)
  rwa [List.map_replicate] at this
theorem asBools_rng (n : Nat) : asBools ((List.range n).map fun _ => PyData.bool true) = some (List.replicate n true) := by
  rw [List.map_const', List.length_range, asBools_rep]
theorem is_int_int (i : Int) : d__law_is_int [.int i] = some (.bool true) := by
  simp [d__law_is_int, runD, g__law_is_int, sRet, xAnd, xUn, xVar, isi0, isi1, dB, oNot, oTru]
theorem like_none (n : Nat) : d__law_like (n + 1) [.none, .none] = some (.bool true) := by
  simp [d__law_like, runD, g__law_like, sSeq, sIf, tOf, xBin, xVar, xC, oIs, isNone, dB, sRet]
theorem like_bool (n : Nat) (b : Bool) : d__law_like (n + 1) [.bool b, .bool b] = some (.bool true) := by
  have e : oEq (.bool b) (.bool b) = some (.bool true) := by
    simp [oEq, shp, SeqAt.shaped, PyData.eqv, PyData.canLay0, PyData.depth]
  simp [d__law_like, runD, g__law_like, sSeq, sIf, tOf, xBin, xVar, xC, oIs, isNone, dB, tTru, xUn, isb1, oTru, sNop, sRet, xAnd, e]
theorem like_int (n : Nat) (i : Int) : d__law_like (n + 1) [.int i, .int i] = some (.bool true) := by
  simp [d__law_like, runD, g__law_like, sSeq, sIf, tOf, xBin, xVar, xC, oIs, isNone, dB, tTru, xUn, isi1, isi2, isi3, oTru, sNop, sRet, xAnd, xCall, xCons, xNil, is_int_int, eq_int]
theorem like_tup (n : Nat) (xs : List D) (hl : xs.length ≤ 16777216) (h : ∀ x ∈ xs, d__law_like n [x, x] = some (.bool true)) : d__law_like (n + 1) [.tuple xs, .tuple xs] = some (.bool true) := by
  have hr := oR1_nat xs.length hl
  have hm : lcL (gSet 2) tYesP (xCall (fun ds => if ds.length = 2 then d__law_like n ds else none) (xCons (xBin oIx (xVar 0) (xVar 2)) (xCons (xBin oIx (xVar 1) (xVar 2)) xNil))) [some (.tuple xs), some (.tuple xs), none] ((List.range xs.length).map fun i => PyData.int (i : Nat)) = some ((List.range xs.length).map fun _ => PyData.bool true) := by
    refine lcL_map _ _ _ fun i hi => ?_
    have hi' : i < xs.length := by simpa using hi
    simp [gSet, xCall, xCons, xNil, xBin, xVar, oIx, atI_nat xs i hi', h]
  simp [d__law_like, runD, g__law_like, sSeq, sIf, tOf, xBin, xVar, xC, oIs, isNone, dB, tTru, xUn, ist1, ist2, oTru, sNop, sRet, xCall, xCons, xNil, tOrP, tNotP, bLen, ne_int, xLc, xIt, hr, wipeP, hm, bAll, seqD, asBools_rng]
theorem like_fr (n : Nat) (p q : Int) : d__law_like (n + 2) [fr p q, fr p q] = some (.bool true) := by
  refine like_tup _ _ (by simp) fun x hx => ?_
  simp at hx
  rcases hx with rfl | rfl <;> exact like_int _ _
end K13

namespace K13
open PySem PySem.Spec PyProof.Rows L2 Pm
theorem common_loop : ∀ (N y : Nat), y < N → ∀ x : Nat, whileF (tOf (xBin oGt (xVar 1) (xC (.int 0)))) (sSeq (sPar [0, 1] (xCons (xVar 1) (xCons (xBin oMod (xCall bInt (xCons (xVar 0) xNil)) (xVar 1)) xNil))) sNop) N [some (.int x), some (.int y)] = some (.nx [some (.int (Nat.gcd x y : Nat)), some (.int 0)]) := by
  intro N
  induction N with
  | zero => intro y h; omega
  | succ N ih =>
    intro y hy x
    rw [whileF_succ]
    by_cases h0 : y = 0
    · subst h0
      simp [tOf, xBin, xVar, xC, oGt, dB]
    · have hp : 0 < y := by omega
      have e : ((x : Int).fmod (y : Int)) = ((x % y : Nat) : Int) := by
        rw [Int.fmod_eq_emod_of_nonneg _ (by omega)]
        rfl
      have hlt : x % y < y := Nat.mod_lt _ hp
      simp [tOf, xBin, xVar, xC, oGt, dB, hp, sSeq, sPar, xCons, xNil, xCall, bInt, oMod, h0, setAll, sNop, e]
      rw [← Int.natCast_emod, ih (x % y) (by omega) y, Nat.gcd_comm y, ← Nat.gcd_rec, Nat.gcd_comm]
theorem common_eq (a b : Int) (hb : Sm 1999 b) : d__law_common [.int a, .int b] = some (.int (Int.gcd a b : Nat)) := by
  have := common_loop fuelN b.natAbs (Sm.fuel hb) a.natAbs
  simp -implicitDefEqProofs only [d__law_common, g__law_common, xVar_a, xC_a, xBin_a, xUn_a, tOf_a, tTru_a, tNotP_a, tAndP_a, tOrP_a, tyes_a, tno_a, tYesP_a, xNil_a, xCons_a, xTup_a, xLst_a, xAnd_a, xOr_a, xIf_a, xChain_a, oNo_a, oAt_a, xSl_a, xCall_a, xSeq_a, xIt_a, xLc_a, gSet_a, gTupD_a, gsNil_a, gsCons_a, sNop_a, sBrk_a, sCnt_a, sSeq_a, sRet_a, sIf_a, sSet_a, sTgt_a, sAug_a, sApp_a, sExt_a, sPut_a, sPutK_a, pkO_s, sFor_a, sWhile_a, sPar_a, runD_a, b2_s, c2_s, sqO_nx, sqO_rt, sqO_bk, sqO_ct, ifO_t, ifO_f, stO_s, endO_nx, endO_rt, andO_t, andO_f, orO_t, orO_f, chO_s, chP_t, chP_f, slO_s, atO_i, lcO_s, forO_s, gsO_s, nxO_s, tgO_s, paO_s, apO_s, exO_s, plO_s, ptO_s, dB_b, tru_b, tru_n, tru_i, tru_l, tru_t, is_n, isn_n, nn_n, nn_i, nn_b, nn_t, nn_l, add_ii, add'_ii, sub_ii, neg_i, lt_ii, le_ii, gt_ii, ge_ii, ix_l, ix_t, ix_s, at0, at1, at2, sl_l, sl_t, len_l, len_t, len_s, abs_i, int_i, int_b, max_ii, min_ii, tup_s, lst_s, seq_l, seq_t, sum_s, wipe_n, wipe_c, mul_ii, fdiv_ii, mod_ii, add_ll, add_tt, setAll, mkT, mkL, oNot, List.getD_cons_zero, List.getD_cons_succ, List.length_cons, List.length_nil, List.set_cons_zero, List.set_cons_succ, List.map_cons, List.map_nil, List.replicate, List.cons_append, List.nil_append, List.append_nil, Option.bind_some, Option.map_some, List.all_cons, List.all_nil, if_true, if_false, reduceIte, Nat.reduceAdd, Nat.reduceSub, Nat.reduceLT, Nat.reduceLeDiff, Nat.reduceEqDiff, decide_true, decide_false, Bool.and_true, Bool.and_self, Bool.true_and, Bool.not_true, Bool.not_false, ne_eq, not_true_eq_false, not_false_eq_true, Nat.zero_add, Bool.false_eq_true, and_self, true_and, and_true, abs_eq, l1__law_common, this, Int.gcd]
theorem ratio_eq (a b : Int) (h0 : 0 < b) (hb : Sm 1999 b) : d__law_ratio [.int a, .int b] = some (fr a b) := by
  have hg := gcd_pos_of (p := a) h0
  have hs : Sm 1999 (Int.gcd a b : Int) := by
    show (Int.gcd a b : Int).natAbs ≤ 2 ^ 1999
    have : Int.gcd a b ≤ b.natAbs := Int.gcd_le_natAbs_right a (by omega)
    simpa using Nat.le_trans this hb
  have hd := hs.divOk (by omega) (by omega)
  have f1 : a.fdiv (Int.gcd a b : Int) = a / (Int.gcd a b : Int) := Int.fdiv_eq_ediv_of_nonneg _ (by omega)
  have f2 : b.fdiv (Int.gcd a b : Int) = b / (Int.gcd a b : Int) := Int.fdiv_eq_ediv_of_nonneg _ (by omega)
  have hn : ¬ b < 0 := by omega
  simp [d__law_ratio, runD, g__law_ratio, sSeq, sSet, sIf, tOf, xBin, xVar, xC, oLt, dB, hn, xCall, xCons, xNil, common_eq a b hb, sRet, xTup, oFdiv, hd, f1, f2, fr, sNop]
end K13

namespace K13
open PySem PySem.Spec PyProof.Rows L2 Pm
theorem row_at (r : List Int) (i : Nat) (h : i < r.length) : atI (r.map PyData.int) (i : Int) = some (.int (r.getD i 0)) := by
  rw [atI_nat _ i (by simpa using h)]
  simp [h]
theorem fmod_rng (x : Int) {m : Int} (hm : 0 < m) : 0 ≤ x.fmod m ∧ x.fmod m < m := ⟨Int.fmod_nonneg_of_pos _ hm, Int.fmod_lt_of_pos _ hm⟩
theorem fmod_nat (x : Int) {m : Int} (hm : 0 < m) : ∃ k : Nat, x.fmod m = (k : Int) ∧ (k : Int) < m := by
  obtain ⟨h1, h2⟩ := fmod_rng x hm
  obtain ⟨k, hk⟩ := Int.eq_ofNat_of_zero_le h1
  exact ⟨k, hk, by omega⟩
theorem rg0 (n : Nat) (h : n ≤ 1000) : oR1 [.int (n : Int)] = some ((List.range n).map fun k : Nat => PyData.int (k : Nat)) := oR1_nat n (by omega)
theorem bMaxI_l {B : List Int} {m : Int} (h : B.max? = some m) : bMaxI [.list (B.map PyData.int)] = some (.int m) := by
  unfold bMaxI
  simp only [seq_l, Option.bind_some, asInts_map, h, Option.map_some]
theorem bMinI_l {B : List Int} {m : Int} (h : B.min? = some m) : bMinI [.list (B.map PyData.int)] = some (.int m) := by
  unfold bMinI
  simp only [seq_l, Option.bind_some, asInts_map, h, Option.map_some]
theorem lay_ints : ∀ l : List Int, PyData.canLayAll0 (l.map PyData.int) = true
  | [] => rfl
  | a :: l => by
    simp only [List.map_cons, PyData.canLayAll0, PyData.canLay0, Bool.true_and]
    exact lay_ints l
theorem any_ints (p : Int) : ∀ l : List Int, ((l.map PyData.int).any fun z => PyData.eqv z (.int p)) = l.contains p
  | [] => rfl
  | a :: l => by
    rw [List.map_cons, List.any_cons, any_ints p l, List.contains_cons]
    have e : PyData.eqv (.int a) (.int p) = (p == a) := by
      have e1 : PyData.eqv (.int a) (.int p) = (a == p) := by rw [PyData.eqv]
      rw [e1]
      exact BEq.comm
    rw [e]
theorem shp_int (p : Int) : shp (.int p) = true := by simp [shp, SeqAt.shaped, PyData.canLay0, PyData.depth]
theorem notin_ints (p : Int) (l : List Int) : oNotIn (.int p) (.list (l.map PyData.int)) = some (.bool (!l.contains p)) := by
  show (if (shp (.int p) && PyData.canLayAll0 (l.map PyData.int)) = true then some (PyData.bool (!(l.map PyData.int).any fun z => PyData.eqv z (.int p))) else none) = _
  rw [shp_int, lay_ints, any_ints]
  rfl
theorem in_ints (p : Int) (l : List Int) : oIn (.int p) (.list (l.map PyData.int)) = some (.bool (l.contains p)) := by
  show (if (shp (.int p) && PyData.canLayAll0 (l.map PyData.int)) = true then some (PyData.bool ((l.map PyData.int).any fun z => PyData.eqv z (.int p))) else none) = _
  rw [shp_int, lay_ints, any_ints]
  rfl
theorem mulOk_r (a : Int) {b : Int} (h : b.natAbs < 2 ^ 63) : mulOk a b = true := by
  unfold mulOk
  rw [decide_eq_true h]
  simp
theorem mulOk_lt {a b m : Int} (h0 : 0 ≤ a) (h : a < m) (hm : m ≤ 2147483647) : mulOk a b = true := by
  unfold mulOk
  rw [decide_eq_true (show a.natAbs < 2 ^ 63 by omega)]
  simp
theorem divOk_lit {b : Int} (h : b ≠ 0) (h2 : Sm 20 b) : divOk b = true := h2.divOk h (by omega)
def mix1 (c k : Int) : Int := (c * 48271 + k * 69621 + 8191).fmod 2147483647
def mix2 (c k : Int) : Int := (mix1 c k * mix1 c k + (mix1 c k).fdiv 7 + k * 16807).fmod 2147483629
def mix3 (c k : Int) : Int := (mix2 c k * mix2 c k + (mix2 c k).fdiv 11 + 40692).fmod 2147483563
theorem mixed_int (ns : List Int) (k : Nat) : ∃ v : Int, d__law_mixed [scr (ns.map PyData.int), .int k] = some (.int v) := by
  obtain ⟨c, hc⟩ : ∃ c : Int, (if 0 < ns.length then oIx (scr (ns.map PyData.int)) (.int ((k : Int).fmod ns.length)) else some (.int 0)) = some (.int c) := by
    by_cases h : 0 < ns.length
    · have h1 := fmod_rng (k : Int) (m := (ns.length : Int)) (by omega)
      obtain ⟨j, hj⟩ := Int.eq_ofNat_of_zero_le h1.1
      rw [if_pos h, hj]
      have h2 := h1.2
      rw [hj] at h2
      exact ⟨_, row_at ns j (by omega)⟩
    · exact ⟨0, if_neg h⟩
  have m1 := mulOk_r c (b := 48271) (by decide)
  have m2 := mulOk_r (k : Int) (b := 69621) (by decide)
  have m3 := mulOk_r (k : Int) (b := 16807) (by decide)
  have n1 : (2147483647 : Int) ≠ 0 := by decide
  have n2 : (2147483629 : Int) ≠ 0 := by decide
  have n3 : (2147483563 : Int) ≠ 0 := by decide
  have n4 : (1000003 : Int) ≠ 0 := by decide
  have d1 := divOk_lit (b := 7) (by decide) Sm.lit
  have d2 := divOk_lit (b := 11) (by decide) Sm.lit
  have d3 := divOk_lit (b := 5) (by decide) Sm.lit
  have r1 := fmod_rng (c * 48271 + (k : Int) * 69621 + 8191) (m := 2147483647) (by decide)
  have m4 : ∀ x, mulOk ((c * 48271 + (k : Int) * 69621 + 8191).fmod 2147483647) x = true := fun x => mulOk_lt r1.1 r1.2 (by decide)
  have r2 := fun x : Int => fmod_rng x (m := 2147483629) (by decide)
  have m5 : ∀ x y : Int, mulOk (x.fmod 2147483629) y = true := fun x y => mulOk_lt (r2 x).1 (r2 x).2 (by decide)
  by_cases h : 0 < ns.length
  · have h' : (0 : Int) < (ns.length : Int) := by omega
    have hn : (ns.length : Int) ≠ 0 := by omega
    rw [if_pos h, ix_s] at hc
    refine ⟨((mix3 c k).fdiv 5).fmod 1000003, ?_⟩
    simp only [mix3, mix2, mix1]
    simp -implicitDefEqProofs only [d__law_mixed, g__law_mixed, xVar_a, xC_a, xBin_a, xUn_a, tOf_a, tTru_a, tNotP_a, tAndP_a, tOrP_a, tyes_a, tno_a, tYesP_a, xNil_a, xCons_a, xTup_a, xLst_a, xAnd_a, xOr_a, xIf_a, xChain_a, oNo_a, oAt_a, xSl_a, xCall_a, xSeq_a, xIt_a, xLc_a, gSet_a, gTupD_a, gsNil_a, gsCons_a, sNop_a, sBrk_a, sCnt_a, sSeq_a, sRet_a, sIf_a, sSet_a, sTgt_a, sAug_a, sApp_a, sExt_a, sPut_a, sPutK_a, pkO_s, sFor_a, sWhile_a, sPar_a, runD_a, b2_s, c2_s, sqO_nx, sqO_rt, sqO_bk, sqO_ct, ifO_t, ifO_f, stO_s, endO_nx, endO_rt, andO_t, andO_f, orO_t, orO_f, chO_s, chP_t, chP_f, slO_s, atO_i, lcO_s, forO_s, gsO_s, nxO_s, tgO_s, paO_s, apO_s, exO_s, plO_s, ptO_s, dB_b, tru_b, tru_n, tru_i, tru_l, tru_t, is_n, isn_n, nn_n, nn_i, nn_b, nn_t, nn_l, add_ii, add'_ii, sub_ii, neg_i, lt_ii, le_ii, gt_ii, ge_ii, ix_l, ix_t, ix_s, at0, at1, at2, sl_l, sl_t, len_l, len_t, len_s, abs_i, int_i, int_b, max_ii, min_ii, tup_s, lst_s, seq_l, seq_t, sum_s, wipe_n, wipe_c, mul_ii, fdiv_ii, mod_ii, add_ll, add_tt, setAll, mkT, mkL, oNot, List.getD_cons_zero, List.getD_cons_succ, List.length_cons, List.length_nil, List.set_cons_zero, List.set_cons_succ, List.map_cons, List.map_nil, List.replicate, List.cons_append, List.nil_append, List.append_nil, Option.bind_some, Option.map_some, List.all_cons, List.all_nil, if_true, if_false, reduceIte, Nat.reduceAdd, Nat.reduceSub, Nat.reduceLT, Nat.reduceLeDiff, Nat.reduceEqDiff, decide_true, decide_false, Bool.and_true, Bool.and_self, Bool.true_and, Bool.not_true, Bool.not_false, ne_eq, not_true_eq_false, not_false_eq_true, Nat.zero_add, Bool.false_eq_true, and_self, true_and, and_true, List.length_map, h', mod_ii hn, hc, m1, m2, m3, m4, m5, mod_ii n1, mod_ii n2, mod_ii n3, mod_ii n4, fdiv_ii d1, fdiv_ii d2, fdiv_ii d3]
  · have h' : ¬ (0 : Int) < (ns.length : Int) := by omega
    rw [if_neg h] at hc
    cases hc
    refine ⟨((mix3 0 k).fdiv 5).fmod 1000003, ?_⟩
    simp only [mix3, mix2, mix1]
    simp -implicitDefEqProofs only [d__law_mixed, g__law_mixed, xVar_a, xC_a, xBin_a, xUn_a, tOf_a, tTru_a, tNotP_a, tAndP_a, tOrP_a, tyes_a, tno_a, tYesP_a, xNil_a, xCons_a, xTup_a, xLst_a, xAnd_a, xOr_a, xIf_a, xChain_a, oNo_a, oAt_a, xSl_a, xCall_a, xSeq_a, xIt_a, xLc_a, gSet_a, gTupD_a, gsNil_a, gsCons_a, sNop_a, sBrk_a, sCnt_a, sSeq_a, sRet_a, sIf_a, sSet_a, sTgt_a, sAug_a, sApp_a, sExt_a, sPut_a, sPutK_a, pkO_s, sFor_a, sWhile_a, sPar_a, runD_a, b2_s, c2_s, sqO_nx, sqO_rt, sqO_bk, sqO_ct, ifO_t, ifO_f, stO_s, endO_nx, endO_rt, andO_t, andO_f, orO_t, orO_f, chO_s, chP_t, chP_f, slO_s, atO_i, lcO_s, forO_s, gsO_s, nxO_s, tgO_s, paO_s, apO_s, exO_s, plO_s, ptO_s, dB_b, tru_b, tru_n, tru_i, tru_l, tru_t, is_n, isn_n, nn_n, nn_i, nn_b, nn_t, nn_l, add_ii, add'_ii, sub_ii, neg_i, lt_ii, le_ii, gt_ii, ge_ii, ix_l, ix_t, ix_s, at0, at1, at2, sl_l, sl_t, len_l, len_t, len_s, abs_i, int_i, int_b, max_ii, min_ii, tup_s, lst_s, seq_l, seq_t, sum_s, wipe_n, wipe_c, mul_ii, fdiv_ii, mod_ii, add_ll, add_tt, setAll, mkT, mkL, oNot, List.getD_cons_zero, List.getD_cons_succ, List.length_cons, List.length_nil, List.set_cons_zero, List.set_cons_succ, List.map_cons, List.map_nil, List.replicate, List.cons_append, List.nil_append, List.append_nil, Option.bind_some, Option.map_some, List.all_cons, List.all_nil, if_true, if_false, reduceIte, Nat.reduceAdd, Nat.reduceSub, Nat.reduceLT, Nat.reduceLeDiff, Nat.reduceEqDiff, decide_true, decide_false, Bool.and_true, Bool.and_self, Bool.true_and, Bool.not_true, Bool.not_false, ne_eq, not_true_eq_false, not_false_eq_true, Nat.zero_add, Bool.false_eq_true, and_self, true_and, and_true, List.length_map, h', m1, m2, m3, m4, m5, mod_ii n1, mod_ii n2, mod_ii n3, mod_ii n4, fdiv_ii d1, fdiv_ii d2, fdiv_ii d3]
theorem row_int (ns : List Int) : ∃ r : List Int, r.length = 44 ∧ d__law_row [scr (ns.map PyData.int), .int 44] = some (.list (r.map PyData.int)) := by
  have hr : oR1 [.int 44] = some (List.map (fun i => PyData.int (i : Nat)) (List.range 44)) := oR1_nat 44 (by omega)
  have n1 : (1000 : Int) ≠ 0 := by decide
  have d1 := divOk_lit (b := 1000) (by decide) Sm.lit
  have key : ∀ big : Int, ∃ r : List Int, r.length = 44 ∧ ∃ x y, forL (gSet 4) l1__law_row (List.map (fun i => PyData.int (i : Nat)) (List.range 44)) [some (scr (ns.map PyData.int)), some (.int 44), some (.int big), some (.list []), none] = some (.nx [some (scr (ns.map PyData.int)), some (.int 44), x, some (.list (r.map PyData.int)), y]) := fun big => by
    obtain ⟨ρ', e, h⟩ := forL_inv (g := gSet 4) (b := l1__law_row) (fun i : Nat => PyData.int (i : Nat))
      (fun pre rest ρ => pre.length + rest.length = 44 ∧ ∃ (r : List Int) (big : Int) (j : Option D), r.length = pre.length ∧ ρ = [some (scr (ns.map PyData.int)), some (.int 44), some (.int big), some (.list (r.map PyData.int)), j]) (fun pre x rest ρ ⟨hl, r, big, j, hrl, e⟩ => by
        subst e
        have hx : (r.map PyData.int).length < 16777216 := by rw [List.length_map]; simp at hl; omega
        obtain ⟨v, hv⟩ := mixed_int ns x
        by_cases hb : 0 < big
        · refine ⟨_, [some (scr (ns.map PyData.int)), some (.int 44), some (.int (big.fdiv 1000)), some (.list ((r ++ [big.fmod 1000]).map PyData.int)), some (.int x)], rfl, .inl ?_, by simp at hl ⊢; omega, r ++ [big.fmod 1000], big.fdiv 1000, some (.int x), by simp; omega, rfl⟩
          simp -implicitDefEqProofs only [l1__law_row, xVar_a, xC_a, xBin_a, xUn_a, tOf_a, tTru_a, tNotP_a, tAndP_a, tOrP_a, tyes_a, tno_a, tYesP_a, xNil_a, xCons_a, xTup_a, xLst_a, xAnd_a, xOr_a, xIf_a, xChain_a, oNo_a, oAt_a, xSl_a, xCall_a, xSeq_a, xIt_a, xLc_a, gSet_a, gTupD_a, gsNil_a, gsCons_a, sNop_a, sBrk_a, sCnt_a, sSeq_a, sRet_a, sIf_a, sSet_a, sTgt_a, sAug_a, sApp_a, sExt_a, sPut_a, sPutK_a, pkO_s, sFor_a, sWhile_a, sPar_a, runD_a, b2_s, c2_s, sqO_nx, sqO_rt, sqO_bk, sqO_ct, ifO_t, ifO_f, stO_s, endO_nx, endO_rt, andO_t, andO_f, orO_t, orO_f, chO_s, chP_t, chP_f, slO_s, atO_i, lcO_s, forO_s, gsO_s, nxO_s, tgO_s, paO_s, apO_s, exO_s, plO_s, ptO_s, dB_b, tru_b, tru_n, tru_i, tru_l, tru_t, is_n, isn_n, nn_n, nn_i, nn_b, nn_t, nn_l, add_ii, add'_ii, sub_ii, neg_i, lt_ii, le_ii, gt_ii, ge_ii, ix_l, ix_t, ix_s, at0, at1, at2, sl_l, sl_t, len_l, len_t, len_s, abs_i, int_i, int_b, max_ii, min_ii, tup_s, lst_s, seq_l, seq_t, sum_s, wipe_n, wipe_c, mul_ii, fdiv_ii, mod_ii, add_ll, add_tt, setAll, mkT, mkL, oNot, List.getD_cons_zero, List.getD_cons_succ, List.length_cons, List.length_nil, List.set_cons_zero, List.set_cons_succ, List.map_cons, List.map_nil, List.replicate, List.cons_append, List.nil_append, List.append_nil, Option.bind_some, Option.map_some, List.all_cons, List.all_nil, if_true, if_false, reduceIte, Nat.reduceAdd, Nat.reduceSub, Nat.reduceLT, Nat.reduceLeDiff, Nat.reduceEqDiff, decide_true, decide_false, Bool.and_true, Bool.and_self, Bool.true_and, Bool.not_true, Bool.not_false, ne_eq, not_true_eq_false, not_false_eq_true, Nat.zero_add, Bool.false_eq_true, and_self, true_and, and_true, hb, mod_ii n1, fdiv_ii d1, hx, List.map_append]
        · refine ⟨_, [some (scr (ns.map PyData.int)), some (.int 44), some (.int big), some (.list ((r ++ [v]).map PyData.int)), some (.int x)], rfl, .inl ?_, by simp at hl ⊢; omega, r ++ [v], big, some (.int x), by simp; omega, rfl⟩
          simp -implicitDefEqProofs only [l1__law_row, xVar_a, xC_a, xBin_a, xUn_a, tOf_a, tTru_a, tNotP_a, tAndP_a, tOrP_a, tyes_a, tno_a, tYesP_a, xNil_a, xCons_a, xTup_a, xLst_a, xAnd_a, xOr_a, xIf_a, xChain_a, oNo_a, oAt_a, xSl_a, xCall_a, xSeq_a, xIt_a, xLc_a, gSet_a, gTupD_a, gsNil_a, gsCons_a, sNop_a, sBrk_a, sCnt_a, sSeq_a, sRet_a, sIf_a, sSet_a, sTgt_a, sAug_a, sApp_a, sExt_a, sPut_a, sPutK_a, pkO_s, sFor_a, sWhile_a, sPar_a, runD_a, b2_s, c2_s, sqO_nx, sqO_rt, sqO_bk, sqO_ct, ifO_t, ifO_f, stO_s, endO_nx, endO_rt, andO_t, andO_f, orO_t, orO_f, chO_s, chP_t, chP_f, slO_s, atO_i, lcO_s, forO_s, gsO_s, nxO_s, tgO_s, paO_s, apO_s, exO_s, plO_s, ptO_s, dB_b, tru_b, tru_n, tru_i, tru_l, tru_t, is_n, isn_n, nn_n, nn_i, nn_b, nn_t, nn_l, add_ii, add'_ii, sub_ii, neg_i, lt_ii, le_ii, gt_ii, ge_ii, ix_l, ix_t, ix_s, at0, at1, at2, sl_l, sl_t, len_l, len_t, len_s, abs_i, int_i, int_b, max_ii, min_ii, tup_s, lst_s, seq_l, seq_t, sum_s, wipe_n, wipe_c, mul_ii, fdiv_ii, mod_ii, add_ll, add_tt, setAll, mkT, mkL, oNot, List.getD_cons_zero, List.getD_cons_succ, List.length_cons, List.length_nil, List.set_cons_zero, List.set_cons_succ, List.map_cons, List.map_nil, List.replicate, List.cons_append, List.nil_append, List.append_nil, Option.bind_some, Option.map_some, List.all_cons, List.all_nil, if_true, if_false, reduceIte, Nat.reduceAdd, Nat.reduceSub, Nat.reduceLT, Nat.reduceLeDiff, Nat.reduceEqDiff, decide_true, decide_false, Bool.and_true, Bool.and_self, Bool.true_and, Bool.not_true, Bool.not_false, ne_eq, not_true_eq_false, not_false_eq_true, Nat.zero_add, Bool.false_eq_true, and_self, true_and, and_true, hb, hv, hx, List.map_append]) (List.range 44) [] [some (scr (ns.map PyData.int)), some (.int 44), some (.int big), some (.list []), none] ⟨by simp, [], big, none, rfl, rfl⟩
    obtain ⟨_, r, big', j, hrl, e'⟩ := h
    subst e'
    exact ⟨r, by simpa using hrl, _, _, e⟩
  have pw : oPow (.int 10) (.int 18) = some (.int 1000000000000000000) := by
    show (if (0 : Int) ≤ 18 ∧ (18 : Int) ≤ 1000000 ∧ (10 : Int).natAbs < 2 ^ 64 then some (PyData.int (10 ^ (18 : Int).toNat)) else none) = _
    rw [if_pos (by decide)]
    rfl
  cases ns with
  | nil =>
    obtain ⟨r, h1, x, y, h2⟩ := key 0
    refine ⟨r, h1, ?_⟩
    have e0 : ¬ (0 : Int) < ((0 : Nat) : Int) := by decide
    simp only [List.map_nil] at h2
    simp -implicitDefEqProofs only [d__law_row, g__law_row, xVar_a, xC_a, xBin_a, xUn_a, tOf_a, tTru_a, tNotP_a, tAndP_a, tOrP_a, tyes_a, tno_a, tYesP_a, xNil_a, xCons_a, xTup_a, xLst_a, xAnd_a, xOr_a, xIf_a, xChain_a, oNo_a, oAt_a, xSl_a, xCall_a, xSeq_a, xIt_a, xLc_a, gSet_a, gTupD_a, gsNil_a, gsCons_a, sNop_a, sBrk_a, sCnt_a, sSeq_a, sRet_a, sIf_a, sSet_a, sTgt_a, sAug_a, sApp_a, sExt_a, sPut_a, sPutK_a, pkO_s, sFor_a, sWhile_a, sPar_a, runD_a, b2_s, c2_s, sqO_nx, sqO_rt, sqO_bk, sqO_ct, ifO_t, ifO_f, stO_s, endO_nx, endO_rt, andO_t, andO_f, orO_t, orO_f, chO_s, chP_t, chP_f, slO_s, atO_i, lcO_s, forO_s, gsO_s, nxO_s, tgO_s, paO_s, apO_s, exO_s, plO_s, ptO_s, dB_b, tru_b, tru_n, tru_i, tru_l, tru_t, is_n, isn_n, nn_n, nn_i, nn_b, nn_t, nn_l, add_ii, add'_ii, sub_ii, neg_i, lt_ii, le_ii, gt_ii, ge_ii, ix_l, ix_t, ix_s, at0, at1, at2, sl_l, sl_t, len_l, len_t, len_s, abs_i, int_i, int_b, max_ii, min_ii, tup_s, lst_s, seq_l, seq_t, sum_s, wipe_n, wipe_c, mul_ii, fdiv_ii, mod_ii, add_ll, add_tt, setAll, mkT, mkL, oNot, List.getD_cons_zero, List.getD_cons_succ, List.length_cons, List.length_nil, List.set_cons_zero, List.set_cons_succ, List.map_cons, List.map_nil, List.replicate, List.cons_append, List.nil_append, List.append_nil, Option.bind_some, Option.map_some, List.all_cons, List.all_nil, if_true, if_false, reduceIte, Nat.reduceAdd, Nat.reduceSub, Nat.reduceLT, Nat.reduceLeDiff, Nat.reduceEqDiff, decide_true, decide_false, Bool.and_true, Bool.and_self, Bool.true_and, Bool.not_true, Bool.not_false, ne_eq, not_true_eq_false, not_false_eq_true, Nat.zero_add, Bool.false_eq_true, and_self, true_and, and_true, e0, hr, h2]
  | cons c cs =>
    have e0 : (0 : Int) < ((cs.length + 1 : Nat) : Int) := by omega
    have hc : atI (PyData.int c :: cs.map PyData.int) 0 = some (.int c) := at0 _ _
    by_cases hb : (1000000000000000000 : Int) ≤ c
    · obtain ⟨r, h1, x, y, h2⟩ := key c
      refine ⟨r, h1, ?_⟩
      simp only [List.map_cons] at h2
      simp -implicitDefEqProofs only [d__law_row, g__law_row, xVar_a, xC_a, xBin_a, xUn_a, tOf_a, tTru_a, tNotP_a, tAndP_a, tOrP_a, tyes_a, tno_a, tYesP_a, xNil_a, xCons_a, xTup_a, xLst_a, xAnd_a, xOr_a, xIf_a, xChain_a, oNo_a, oAt_a, xSl_a, xCall_a, xSeq_a, xIt_a, xLc_a, gSet_a, gTupD_a, gsNil_a, gsCons_a, sNop_a, sBrk_a, sCnt_a, sSeq_a, sRet_a, sIf_a, sSet_a, sTgt_a, sAug_a, sApp_a, sExt_a, sPut_a, sPutK_a, pkO_s, sFor_a, sWhile_a, sPar_a, runD_a, b2_s, c2_s, sqO_nx, sqO_rt, sqO_bk, sqO_ct, ifO_t, ifO_f, stO_s, endO_nx, endO_rt, andO_t, andO_f, orO_t, orO_f, chO_s, chP_t, chP_f, slO_s, atO_i, lcO_s, forO_s, gsO_s, nxO_s, tgO_s, paO_s, apO_s, exO_s, plO_s, ptO_s, dB_b, tru_b, tru_n, tru_i, tru_l, tru_t, is_n, isn_n, nn_n, nn_i, nn_b, nn_t, nn_l, add_ii, add'_ii, sub_ii, neg_i, lt_ii, le_ii, gt_ii, ge_ii, ix_l, ix_t, ix_s, at0, at1, at2, sl_l, sl_t, len_l, len_t, len_s, abs_i, int_i, int_b, max_ii, min_ii, tup_s, lst_s, seq_l, seq_t, sum_s, wipe_n, wipe_c, mul_ii, fdiv_ii, mod_ii, add_ll, add_tt, setAll, mkT, mkL, oNot, List.getD_cons_zero, List.getD_cons_succ, List.length_cons, List.length_nil, List.set_cons_zero, List.set_cons_succ, List.map_cons, List.map_nil, List.replicate, List.cons_append, List.nil_append, List.append_nil, Option.bind_some, Option.map_some, List.all_cons, List.all_nil, if_true, if_false, reduceIte, Nat.reduceAdd, Nat.reduceSub, Nat.reduceLT, Nat.reduceLeDiff, Nat.reduceEqDiff, decide_true, decide_false, Bool.and_true, Bool.and_self, Bool.true_and, Bool.not_true, Bool.not_false, ne_eq, not_true_eq_false, not_false_eq_true, Nat.zero_add, Bool.false_eq_true, and_self, true_and, and_true, List.length_map, e0, hc, pw, hb, hr, h2]
    · obtain ⟨r, h1, x, y, h2⟩ := key 0
      refine ⟨r, h1, ?_⟩
      simp only [List.map_cons] at h2
      simp -implicitDefEqProofs only [d__law_row, g__law_row, xVar_a, xC_a, xBin_a, xUn_a, tOf_a, tTru_a, tNotP_a, tAndP_a, tOrP_a, tyes_a, tno_a, tYesP_a, xNil_a, xCons_a, xTup_a, xLst_a, xAnd_a, xOr_a, xIf_a, xChain_a, oNo_a, oAt_a, xSl_a, xCall_a, xSeq_a, xIt_a, xLc_a, gSet_a, gTupD_a, gsNil_a, gsCons_a, sNop_a, sBrk_a, sCnt_a, sSeq_a, sRet_a, sIf_a, sSet_a, sTgt_a, sAug_a, sApp_a, sExt_a, sPut_a, sPutK_a, pkO_s, sFor_a, sWhile_a, sPar_a, runD_a, b2_s, c2_s, sqO_nx, sqO_rt, sqO_bk, sqO_ct, ifO_t, ifO_f, stO_s, endO_nx, endO_rt, andO_t, andO_f, orO_t, orO_f, chO_s, chP_t, chP_f, slO_s, atO_i, lcO_s, forO_s, gsO_s, nxO_s, tgO_s, paO_s, apO_s, exO_s, plO_s, ptO_s, dB_b, tru_b, tru_n, tru_i, tru_l, tru_t, is_n, isn_n, nn_n, nn_i, nn_b, nn_t, nn_l, add_ii, add'_ii, sub_ii, neg_i, lt_ii, le_ii, gt_ii, ge_ii, ix_l, ix_t, ix_s, at0, at1, at2, sl_l, sl_t, len_l, len_t, len_s, abs_i, int_i, int_b, max_ii, min_ii, tup_s, lst_s, seq_l, seq_t, sum_s, wipe_n, wipe_c, mul_ii, fdiv_ii, mod_ii, add_ll, add_tt, setAll, mkT, mkL, oNot, List.getD_cons_zero, List.getD_cons_succ, List.length_cons, List.length_nil, List.set_cons_zero, List.set_cons_succ, List.map_cons, List.map_nil, List.replicate, List.cons_append, List.nil_append, List.append_nil, Option.bind_some, Option.map_some, List.all_cons, List.all_nil, if_true, if_false, reduceIte, Nat.reduceAdd, Nat.reduceSub, Nat.reduceLT, Nat.reduceLeDiff, Nat.reduceEqDiff, decide_true, decide_false, Bool.and_true, Bool.and_self, Bool.true_and, Bool.not_true, Bool.not_false, ne_eq, not_true_eq_false, not_false_eq_true, Nat.zero_add, Bool.false_eq_true, and_self, true_and, and_true, List.length_map, e0, hc, pw, hb, hr, h2]

theorem forL_find {β : Type} {g : D → PEnv → Option PEnv} {b : XS} (en : β → D) (P : β → Bool) (I : PEnv → Prop) (ret : β → D) : ∀ (xs : List β), (∀ x ∈ xs, ∀ ρ, I ρ → ∃ ρ1, g (en x) ρ = some ρ1 ∧ (P x = true → b ρ1 = some (.rt (ret x))) ∧ (P x = false → ∃ ρ2, b ρ1 = some (.nx ρ2) ∧ I ρ2)) →
    ∀ ρ, I ρ → (∃ x, xs.find? P = some x ∧ forL g b (xs.map en) ρ = some (.rt (ret x))) ∨ (xs.find? P = none ∧ ∃ ρ', forL g b (xs.map en) ρ = some (.nx ρ') ∧ I ρ')
  | [], _, ρ, h => .inr ⟨rfl, ρ, rfl, h⟩
  | x :: xs, hb, ρ, h => by
    obtain ⟨ρ1, e1, h1, h2⟩ := hb x (List.mem_cons_self ..) ρ h
    cases hp : P x with
    | true =>
      exact .inl ⟨x, by rw [List.find?_cons_of_pos hp], by simp only [List.map_cons, forL, e1, h1 hp, Option.bind_some]⟩
    | false =>
      obtain ⟨ρ2, e2, h3⟩ := h2 hp
      have hn : xs.find? P = (x :: xs).find? P := by rw [List.find?_cons_of_neg (by rw [hp]; decide)]
      rcases forL_find en P I ret xs (fun y hy => hb y (List.mem_cons_of_mem _ hy)) ρ2 h3 with ⟨z, z1, z2⟩ | ⟨z1, ρ', z2, z3⟩
      · exact .inl ⟨z, by rw [← hn, z1], by simp only [List.map_cons, forL, e1, e2, Option.bind_some, z2]⟩
      · exact .inr ⟨by rw [← hn, z1], ρ', by simp only [List.map_cons, forL, e1, e2, Option.bind_some, z2], z3⟩
theorem forL_fl {α β : Type} {g : D → PEnv → Option PEnv} {b : XS} {N : Nat} (en : α → D) (eb : β → D) (f : α → List β) (E : List D → PEnv → Prop) : ∀ (xs : List α) (acc : List D) (ρ : PEnv),
    (∀ x ∈ xs, ∀ acc ρ, acc.length + (f x).length ≤ N → E acc ρ → ∃ ρ1 ρ2, g (en x) ρ = some ρ1 ∧ b ρ1 = some (.nx ρ2) ∧ E (acc ++ (f x).map eb) ρ2) → acc.length + (xs.flatMap f).length ≤ N → E acc ρ →
    ∃ ρ', forL g b (xs.map en) ρ = some (.nx ρ') ∧ E (acc ++ (xs.flatMap f).map eb) ρ'
  | [], acc, ρ, _, _, h => ⟨ρ, rfl, by simpa using h⟩
  | x :: xs, acc, ρ, hb, hN, h => by
    rw [List.flatMap_cons, List.length_append] at hN
    obtain ⟨ρ1, ρ2, e1, e2, h2⟩ := hb x (by simp) acc ρ (by omega) h
    obtain ⟨ρ', e3, h3⟩ := forL_fl en eb f E xs (acc ++ (f x).map eb) ρ2 (fun y hy => hb y (List.mem_cons_of_mem _ hy)) (by rw [List.length_append, List.length_map]; omega) h2
    refine ⟨ρ', ?_, ?_⟩
    · simp only [List.map_cons, forL, e1, e2, Option.bind_some, e3]
    · rw [List.flatMap_cons, List.map_append, ← List.append_assoc]
      exact h3
def sqD (b : Bool) (xs : List D) : D := if b then .list xs else .tuple xs
theorem seq_q (b : Bool) (xs : List D) : seqD (sqD b xs) = some xs := by cases b <;> rfl
theorem len_q (b : Bool) (xs : List D) : bLen [sqD b xs] = some (.int xs.length) := by cases b <;> rfl
theorem ix_q (b : Bool) (xs : List D) (i : Int) : oIx (sqD b xs) (.int i) = atI xs i := by cases b <;> rfl
theorem lc2L_flat {α : Type} {g : XG} {it1 : XL} {g1 : XG} {t1 : PEnv → Option Bool} {f : Xp} {vs1 : List Nat} {ρ : PEnv} (enc : α → D) (h : α → List D) : ∀ (xs : List α), (∀ x ∈ xs, ∃ ρ1 es, g (enc x) ρ = some ρ1 ∧ it1 ρ1 = some es ∧ lcL g1 t1 f (wipeP ρ1 vs1) es = some (h x)) → lc2L g tYesP it1 g1 t1 f vs1 ρ (xs.map enc) = some (xs.flatMap h)
  | [], _ => rfl
  | x :: xs, hx => by
    obtain ⟨ρ1, es, e1, e2, e3⟩ := hx x (List.mem_cons_self ..)
    have := lc2L_flat (g := g) (it1 := it1) (g1 := g1) (t1 := t1) (f := f) (vs1 := vs1) (ρ := ρ) enc h xs fun y hy => hx y (List.mem_cons_of_mem _ hy)
    simp only [List.map_cons, lc2L, e1, e2, e3, tYesP, Option.bind_some, if_true, this, List.flatMap_cons]
theorem zipD_m {α β : Type} (f : α → D) (g : β → D) (A : List α) (B : List β) : zipD (A.map f) (B.map g) = (A.zip B).map fun p => .tuple [f p.1, g p.2] := by
  unfold zipD
  induction A generalizing B with
  | nil => simp
  | cons s A ih => cases B with
    | nil => simp
    | cons t B => simp [ih]
theorem fl_map {α β γ : Type} (f : α → List β) (g : β → γ) : ∀ l : List α, (l.flatMap fun x => (f x).map g) = (l.flatMap f).map g
  | [] => rfl
  | x :: l => by rw [List.flatMap_cons, List.flatMap_cons, List.map_append, fl_map f g l]
theorem sum_fl {α : Type} (f : α → List Int) : ∀ l : List α, (l.flatMap f).sum = (l.map fun x => (f x).sum).sum
  | [] => rfl
  | x :: l => by rw [List.flatMap_cons, List.sum_append, List.map_cons, List.sum_cons, sum_fl f l]
theorem fl_filter {α : Type} (p : α → Bool) : ∀ l : List α, (l.flatMap fun x => if p x then [x] else []) = l.filter p
  | [] => rfl
  | x :: l => by
    rw [List.flatMap_cons, fl_filter p l]
    by_cases h : p x = true
    · rw [if_pos h, List.filter_cons_of_pos h]; rfl
    · rw [if_neg h, List.filter_cons_of_neg h]; rfl
theorem fl_len {α β : Type} (f : α → List β) (k : Nat) : ∀ l : List α, (∀ x ∈ l, (f x).length ≤ k) → (l.flatMap f).length ≤ l.length * k := by
  intro l
  induction l with
  | nil => simp
  | cons x l ih =>
    intro h
    rw [List.flatMap_cons, List.length_append, List.length_cons, Nat.succ_mul]
    have h1 := h x (by simp)
    have h2 := ih fun y hy => h y (List.mem_cons_of_mem _ hy)
    omega
theorem like_ints (k : Nat) (l : List Int) (h : l.length ≤ 1000) : d__law_like (k + 2) [.tuple (l.map PyData.int), .tuple (l.map PyData.int)] = some (.bool true) := by
  refine like_tup _ _ (by rw [List.length_map]; omega) fun x hx => ?_
  obtain ⟨i, _, rfl⟩ := List.mem_map.mp hx
  exact like_int _ _
theorem len_fm {α β : Type} (f : α → Option β) : ∀ l : List α, (l.flatMap fun s => (f s).toList).length ≤ l.length := by
  intro l
  induction l with
  | nil => simp
  | cons x l ih =>
    rw [List.flatMap_cons, List.length_append, List.length_cons]
    have : (f x).toList.length ≤ 1 := by cases f x <;> simp
    omega
end K13

namespace K13
open PySem PySem.Spec PyProof.Rows L2 Pm
abbrev Ship := Int × Int × Int × Int
def shD (s : Ship) : D := .tuple [.int s.1, .int s.2.1, .int s.2.2.1, .int s.2.2.2]
def mx (d a : Int) : Int := if a > d then a else d
def stp (S : List Ship) (w : List Int) (d : Int) (j : Nat) : Int := mx d (S.getD j (0, 0, 0, 0)).1 + w.getD j 0
def ends0 (S : List Ship) (w : List Int) (d : Int) : List Nat → List (Nat × Int)
  | [] => []
  | j :: r => (j, stp S w d j - 1) :: ends0 S w (stp S w d j) r
theorem ends0_fst (S : List Ship) (w : List Int) : ∀ (o : List Nat) (d : Int), (ends0 S w d o).map (·.1) = o
  | [], _ => rfl
  | j :: r, d => by simp [ends0, ends0_fst S w r]
def encK (kd : List (Nat × Int)) : List (D × D) := kd.map fun p => (PyData.int (p.1 : Nat), PyData.int p.2)
theorem has_encK (kd : List (Nat × Int)) (x : Nat) (h : x ∉ kd.map (·.1)) : dHasD (encK kd) (x : Int) = false := by
  induction kd with
  | nil => rfl
  | cons p kd ih =>
    simp only [List.map_cons, List.mem_cons, not_or] at h
    have h1 : isKeyI (x : Int) (PyData.int (p.1 : Nat)) = false := by
      simp only [isKeyI]
      exact beq_eq_false_iff_ne.mpr (by omega)
    have h2 := ih h.2
    unfold dHasD at h2 ⊢
    simp only [encK, List.map_cons, List.any_cons, h1, Bool.false_or]
    exact h2
theorem put_encK (kd : List (Nat × Int)) (x : Nat) (y : Int) (h : x ∉ kd.map (·.1)) : dPutD (encK kd) (x : Int) (.int y) = encK (kd ++ [(x, y)]) := by
  unfold dPutD
  rw [has_encK kd x h]
  simp [encK]
theorem get_encK (kd : List (Nat × Int)) (hn : (kd.map (·.1)).Nodup) : ∀ p ∈ kd, dGetD (encK kd) (p.1 : Int) = some (.int p.2) := by
  induction kd with
  | nil => intro p hp; cases hp
  | cons q kd ih =>
    intro p hp
    rw [List.map_cons, List.nodup_cons] at hn
    rcases List.mem_cons.mp hp with e | hp
    · subst e
      have h1 : isKeyI (p.1 : Int) (PyData.int (p.1 : Nat)) = true := by
        simp only [isKeyI]
        exact beq_self_eq_true _
      simp only [dGetD, encK, List.map_cons, List.find?_cons, h1]
      rfl
    · have hne : p.1 ≠ q.1 := fun e => hn.1 (by rw [← e]; exact List.mem_map_of_mem hp)
      have h1 : isKeyI (p.1 : Int) (PyData.int (q.1 : Nat)) = false := by
        simp only [isKeyI]
        exact beq_eq_false_iff_ne.mpr (by omega)
      have h2 := ih hn.2 p hp
      unfold dGetD at h2 ⊢
      simp only [encK, List.map_cons, List.find?_cons, h1]
      exact h2
theorem none_encK (kd : List (Nat × Int)) : ((encK kd).any fun p => isNone p.1) = false := by
  induction kd with
  | nil => rfl
  | cons p kd ih => simp only [encK, List.map_cons, List.any_cons, nn_i, Bool.false_or] at ih ⊢; exact ih
theorem at_map {α : Type} (f : α → D) (xs : List α) (d : α) (j : Nat) (h : j < xs.length) : atI (xs.map f) (j : Int) = some (f (xs.getD j d)) := by
  rw [atI_nat _ j (by simpa using h)]
  simp [h]
theorem ends_in_eq (b : Bool) (S : List Ship) (w : List Int) (o : List Nat) (hS : ∀ j ∈ o, j < S.length) (hw : ∀ j ∈ o, j < w.length) (hn : o.Nodup) (ho : o.length ≤ 1000) :
    d_ends_in [.tuple (S.map shD), sqD b (w.map PyData.int), .tuple (o.map fun j => PyData.int (j : Nat))] = some (.dict (encK (ends0 S w 0 o))) := by
  obtain ⟨ρ', e, h⟩ := forL_inv (g := gSet 3) (b := l1_ends_in) (fun j : Nat => PyData.int (j : Nat))
    (fun pre rest ρ => pre ++ rest = o ∧ ∃ kd d jv, kd.map (·.1) = pre ∧ kd ++ ends0 S w d rest = ends0 S w 0 o ∧ ρ = [some (.tuple (S.map shD)), some (sqD b (w.map PyData.int)), some (.tuple (o.map fun j => PyData.int (j : Nat))), jv, some (.int d), some (.dict (encK kd))]) (fun pre x rest ρ ⟨hp, kd, d, jv, hk, he, e⟩ => by
      subst e
      have hx : x ∈ o := by rw [← hp]; simp
      have hd : x ∉ kd.map (·.1) := by
        rw [hk]
        rw [← hp] at hn
        have := (List.nodup_append.mp hn).2.2
        exact fun hm => this x hm x (by simp) rfl
      have i1 := at_map shD S (0, 0, 0, 0) x (hS x hx)
      have i2 := at_map PyData.int w 0 x (hw x hx)
      have hl : kd.length < 16777216 := by
        have := congrArg List.length hk
        have h2 := congrArg List.length hp
        simp at this h2
        omega
      have hl' : (encK kd).length < 16777216 := by rw [encK, List.length_map]; exact hl
      refine ⟨_, [some (.tuple (S.map shD)), some (sqD b (w.map PyData.int)), some (.tuple (o.map fun j => PyData.int (j : Nat))), some (.int x), some (.int (stp S w d x)), some (.dict (encK (kd ++ [(x, stp S w d x - 1)])))], rfl, .inl ?_, by rw [List.append_assoc]; exact hp, kd ++ [(x, stp S w d x - 1)], stp S w d x, some (.int x), by rw [List.map_append, hk]; rfl, by rw [List.append_assoc]; exact he, rfl⟩
      have hput := put_encK kd x (stp S w d x - 1) hd
      rw [← hput]
      simp -implicitDefEqProofs only [l1_ends_in, xVar_a, xC_a, xBin_a, xUn_a, tOf_a, tTru_a, tNotP_a, tAndP_a, tOrP_a, tyes_a, tno_a, tYesP_a, xNil_a, xCons_a, xTup_a, xLst_a, xAnd_a, xOr_a, xIf_a, xChain_a, oNo_a, oAt_a, xSl_a, xCall_a, xSeq_a, xIt_a, xLc_a, gSet_a, gTupD_a, gsNil_a, gsCons_a, sNop_a, sBrk_a, sCnt_a, sSeq_a, sRet_a, sIf_a, sSet_a, sTgt_a, sAug_a, sApp_a, sExt_a, sPut_a, sPutK_a, pkO_s, sFor_a, sWhile_a, sPar_a, runD_a, b2_s, c2_s, sqO_nx, sqO_rt, sqO_bk, sqO_ct, ifO_t, ifO_f, stO_s, endO_nx, endO_rt, andO_t, andO_f, orO_t, orO_f, chO_s, chP_t, chP_f, slO_s, atO_i, lcO_s, forO_s, gsO_s, nxO_s, tgO_s, paO_s, apO_s, exO_s, plO_s, ptO_s, dB_b, tru_b, tru_n, tru_i, tru_l, tru_t, is_n, isn_n, nn_n, nn_i, nn_b, nn_t, nn_l, add_ii, add'_ii, sub_ii, neg_i, lt_ii, le_ii, gt_ii, ge_ii, ix_l, ix_t, ix_s, at0, at1, at2, sl_l, sl_t, len_l, len_t, len_s, abs_i, int_i, int_b, max_ii, min_ii, tup_s, lst_s, seq_l, seq_t, sum_s, wipe_n, wipe_c, mul_ii, fdiv_ii, mod_ii, add_ll, add_tt, setAll, mkT, mkL, oNot, List.getD_cons_zero, List.getD_cons_succ, List.length_cons, List.length_nil, List.set_cons_zero, List.set_cons_succ, List.map_cons, List.map_nil, List.replicate, List.cons_append, List.nil_append, List.append_nil, Option.bind_some, Option.map_some, List.all_cons, List.all_nil, if_true, if_false, reduceIte, Nat.reduceAdd, Nat.reduceSub, Nat.reduceLT, Nat.reduceLeDiff, Nat.reduceEqDiff, decide_true, decide_false, Bool.and_true, Bool.and_self, Bool.true_and, Bool.not_true, Bool.not_false, ne_eq, not_true_eq_false, not_false_eq_true, Nat.zero_add, Bool.false_eq_true, and_self, true_and, and_true, ix_q, i1, i2, hl', shD, stp, mx]) o [] [some (.tuple (S.map shD)), some (sqD b (w.map PyData.int)), some (.tuple (o.map fun j => PyData.int (j : Nat))), none, some (.int 0), some (.dict [])] ⟨rfl, [], 0, none, rfl, rfl, rfl⟩
  obtain ⟨_, kd, d, jv, _, he, e'⟩ := h
  rw [ends0, List.append_nil] at he
  subst e' he
  simp -implicitDefEqProofs only [d_ends_in, g_ends_in, xVar_a, xC_a, xBin_a, xUn_a, tOf_a, tTru_a, tNotP_a, tAndP_a, tOrP_a, tyes_a, tno_a, tYesP_a, xNil_a, xCons_a, xTup_a, xLst_a, xAnd_a, xOr_a, xIf_a, xChain_a, oNo_a, oAt_a, xSl_a, xCall_a, xSeq_a, xIt_a, xLc_a, gSet_a, gTupD_a, gsNil_a, gsCons_a, sNop_a, sBrk_a, sCnt_a, sSeq_a, sRet_a, sIf_a, sSet_a, sTgt_a, sAug_a, sApp_a, sExt_a, sPut_a, sPutK_a, pkO_s, sFor_a, sWhile_a, sPar_a, runD_a, b2_s, c2_s, sqO_nx, sqO_rt, sqO_bk, sqO_ct, ifO_t, ifO_f, stO_s, endO_nx, endO_rt, andO_t, andO_f, orO_t, orO_f, chO_s, chP_t, chP_f, slO_s, atO_i, lcO_s, forO_s, gsO_s, nxO_s, tgO_s, paO_s, apO_s, exO_s, plO_s, ptO_s, dB_b, tru_b, tru_n, tru_i, tru_l, tru_t, is_n, isn_n, nn_n, nn_i, nn_b, nn_t, nn_l, add_ii, add'_ii, sub_ii, neg_i, lt_ii, le_ii, gt_ii, ge_ii, ix_l, ix_t, ix_s, at0, at1, at2, sl_l, sl_t, len_l, len_t, len_s, abs_i, int_i, int_b, max_ii, min_ii, tup_s, lst_s, seq_l, seq_t, sum_s, wipe_n, wipe_c, mul_ii, fdiv_ii, mod_ii, add_ll, add_tt, setAll, mkT, mkL, oNot, List.getD_cons_zero, List.getD_cons_succ, List.length_cons, List.length_nil, List.set_cons_zero, List.set_cons_succ, List.map_cons, List.map_nil, List.replicate, List.cons_append, List.nil_append, List.append_nil, Option.bind_some, Option.map_some, List.all_cons, List.all_nil, if_true, if_false, reduceIte, Nat.reduceAdd, Nat.reduceSub, Nat.reduceLT, Nat.reduceLeDiff, Nat.reduceEqDiff, decide_true, decide_false, Bool.and_true, Bool.and_self, Bool.true_and, Bool.not_true, Bool.not_false, ne_eq, not_true_eq_false, not_false_eq_true, Nat.zero_add, Bool.false_eq_true, and_self, true_and, and_true, e]
def keeps0 (S : List Ship) (w : List Int) (o : List Nat) : Bool := (ends0 S w 0 o).all fun p => decide (p.2 ≤ (S.getD p.1 (0, 0, 0, 0)).2.2.2)
theorem at3 (x y z u : D) (xs : List D) : atI (x :: y :: z :: u :: xs) 3 = some u := by
  unfold atI ixN
  rw [if_pos (by decide), if_pos (by simp only [List.length_cons]; omega)]
  rfl
theorem keeps_eq (b : Bool) (S : List Ship) (w : List Int) (o : List Nat) (hS : ∀ j ∈ o, j < S.length) (hw : ∀ j ∈ o, j < w.length) (hn : o.Nodup) (ho : o.length ≤ 1000) :
    d_keeps_with [.tuple (S.map shD), sqD b (w.map PyData.int), .tuple (o.map fun j => PyData.int (j : Nat))] = some (.bool (keeps0 S w o)) := by
  have h1 := ends_in_eq b S w o hS hw hn ho
  have hm : lcL (gSet 4) tYesP (xBin oLe (xBin oIxK (xVar 3) (xVar 4)) (xBin oIx (xBin oIx (xVar 0) (xVar 4)) (xC (.int 3)))) [some (.tuple (S.map shD)), some (sqD b (w.map PyData.int)), some (.tuple (o.map fun j => PyData.int (j : Nat))), some (.dict (encK (ends0 S w 0 o))), none] (o.map fun j => PyData.int (j : Nat)) = some ((ends0 S w 0 o).map fun p => PyData.bool (decide (p.2 ≤ (S.getD p.1 (0, 0, 0, 0)).2.2.2))) := by
    have e : (o.map fun j => PyData.int (j : Nat)) = (ends0 S w 0 o).map fun p => PyData.int (p.1 : Nat) := by
      conv => lhs; rw [← ends0_fst S w o 0]
      rw [List.map_map]
      rfl
    conv => lhs; arg 5; rw [e]
    refine lcL_map _ _ _ fun p hp => ?_
    have hpo : p.1 ∈ o := by
      rw [← ends0_fst S w o 0]
      exact List.mem_map_of_mem hp
    have hg := get_encK (ends0 S w 0 o) (by rw [ends0_fst]; exact hn) p hp
    have hk : oIxK (.dict (encK (ends0 S w 0 o))) (.int (p.1 : Nat)) = some (.int p.2) := by
      show (if ((encK (ends0 S w 0 o)).any fun p => isNone p.1) then none else dGetD _ _) = _
      rw [none_encK, if_neg Bool.false_ne_true, hg]
    have i1 := at_map shD S (0, 0, 0, 0) p.1 (hS p.1 hpo)
    simp -implicitDefEqProofs only [xVar_a, xC_a, xBin_a, xUn_a, tOf_a, tTru_a, tNotP_a, tAndP_a, tOrP_a, tyes_a, tno_a, tYesP_a, xNil_a, xCons_a, xTup_a, xLst_a, xAnd_a, xOr_a, xIf_a, xChain_a, oNo_a, oAt_a, xSl_a, xCall_a, xSeq_a, xIt_a, xLc_a, gSet_a, gTupD_a, gsNil_a, gsCons_a, sNop_a, sBrk_a, sCnt_a, sSeq_a, sRet_a, sIf_a, sSet_a, sTgt_a, sAug_a, sApp_a, sExt_a, sPut_a, sPutK_a, pkO_s, sFor_a, sWhile_a, sPar_a, runD_a, b2_s, c2_s, sqO_nx, sqO_rt, sqO_bk, sqO_ct, ifO_t, ifO_f, stO_s, endO_nx, endO_rt, andO_t, andO_f, orO_t, orO_f, chO_s, chP_t, chP_f, slO_s, atO_i, lcO_s, forO_s, gsO_s, nxO_s, tgO_s, paO_s, apO_s, exO_s, plO_s, ptO_s, dB_b, tru_b, tru_n, tru_i, tru_l, tru_t, is_n, isn_n, nn_n, nn_i, nn_b, nn_t, nn_l, add_ii, add'_ii, sub_ii, neg_i, lt_ii, le_ii, gt_ii, ge_ii, ix_l, ix_t, ix_s, at0, at1, at2, sl_l, sl_t, len_l, len_t, len_s, abs_i, int_i, int_b, max_ii, min_ii, tup_s, lst_s, seq_l, seq_t, sum_s, wipe_n, wipe_c, mul_ii, fdiv_ii, mod_ii, add_ll, add_tt, setAll, mkT, mkL, oNot, List.getD_cons_zero, List.getD_cons_succ, List.length_cons, List.length_nil, List.set_cons_zero, List.set_cons_succ, List.map_cons, List.map_nil, List.replicate, List.cons_append, List.nil_append, List.append_nil, Option.bind_some, Option.map_some, List.all_cons, List.all_nil, if_true, if_false, reduceIte, Nat.reduceAdd, Nat.reduceSub, Nat.reduceLT, Nat.reduceLeDiff, Nat.reduceEqDiff, decide_true, decide_false, Bool.and_true, Bool.and_self, Bool.true_and, Bool.not_true, Bool.not_false, ne_eq, not_true_eq_false, not_false_eq_true, Nat.zero_add, Bool.false_eq_true, and_self, true_and, and_true, hk, i1, shD, at3]
  have hb := asBools_map ((ends0 S w 0 o).map fun p => decide (p.2 ≤ (S.getD p.1 (0, 0, 0, 0)).2.2.2))
  rw [List.map_map] at hb
  have hb' : bAll [.list ((ends0 S w 0 o).map fun p => PyData.bool (decide (p.2 ≤ (S.getD p.1 (0, 0, 0, 0)).2.2.2)))] = some (.bool (keeps0 S w o)) := by
    show (asBools ((ends0 S w 0 o).map fun p => PyData.bool (decide (p.2 ≤ (S.getD p.1 (0, 0, 0, 0)).2.2.2)))).map _ = _
    have e2 : ((ends0 S w 0 o).map fun p => PyData.bool (decide (p.2 ≤ (S.getD p.1 (0, 0, 0, 0)).2.2.2))) = (ends0 S w 0 o).map (PyData.bool ∘ fun p => decide (p.2 ≤ (S.getD p.1 (0, 0, 0, 0)).2.2.2)) := rfl
    rw [e2, hb]
    simp [keeps0, List.all_map, Function.comp_def]
  simp -implicitDefEqProofs only [d_keeps_with, g_keeps_with, xVar_a, xC_a, xBin_a, xUn_a, tOf_a, tTru_a, tNotP_a, tAndP_a, tOrP_a, tyes_a, tno_a, tYesP_a, xNil_a, xCons_a, xTup_a, xLst_a, xAnd_a, xOr_a, xIf_a, xChain_a, oNo_a, oAt_a, xSl_a, xCall_a, xSeq_a, xIt_a, xLc_a, gSet_a, gTupD_a, gsNil_a, gsCons_a, sNop_a, sBrk_a, sCnt_a, sSeq_a, sRet_a, sIf_a, sSet_a, sTgt_a, sAug_a, sApp_a, sExt_a, sPut_a, sPutK_a, pkO_s, sFor_a, sWhile_a, sPar_a, runD_a, b2_s, c2_s, sqO_nx, sqO_rt, sqO_bk, sqO_ct, ifO_t, ifO_f, stO_s, endO_nx, endO_rt, andO_t, andO_f, orO_t, orO_f, chO_s, chP_t, chP_f, slO_s, atO_i, lcO_s, forO_s, gsO_s, nxO_s, tgO_s, paO_s, apO_s, exO_s, plO_s, ptO_s, dB_b, tru_b, tru_n, tru_i, tru_l, tru_t, is_n, isn_n, nn_n, nn_i, nn_b, nn_t, nn_l, add_ii, add'_ii, sub_ii, neg_i, lt_ii, le_ii, gt_ii, ge_ii, ix_l, ix_t, ix_s, at0, at1, at2, sl_l, sl_t, len_l, len_t, len_s, abs_i, int_i, int_b, max_ii, min_ii, tup_s, lst_s, seq_l, seq_t, sum_s, wipe_n, wipe_c, mul_ii, fdiv_ii, mod_ii, add_ll, add_tt, setAll, mkT, mkL, oNot, List.getD_cons_zero, List.getD_cons_succ, List.length_cons, List.length_nil, List.set_cons_zero, List.set_cons_succ, List.map_cons, List.map_nil, List.replicate, List.cons_append, List.nil_append, List.append_nil, Option.bind_some, Option.map_some, List.all_cons, List.all_nil, if_true, if_false, reduceIte, Nat.reduceAdd, Nat.reduceSub, Nat.reduceLT, Nat.reduceLeDiff, Nat.reduceEqDiff, decide_true, decide_false, Bool.and_true, Bool.and_self, Bool.true_and, Bool.not_true, Bool.not_false, ne_eq, not_true_eq_false, not_false_eq_true, Nat.zero_add, Bool.false_eq_true, and_self, true_and, and_true, h1, hm, hb']
end K13

namespace K13
open PySem PySem.Spec PyProof.Rows L2 Pm
def oD (o : List Nat) : D := .tuple (o.map fun j => PyData.int (j : Nat))
def ORD : Nat → List (List Nat)
  | 1 => [[0]]
  | 2 => [[0, 1], [1, 0]]
  | 3 => [[0, 1, 2], [0, 2, 1], [1, 0, 2], [1, 2, 0], [2, 0, 1], [2, 1, 0]]
  | 4 => [[0, 1, 2, 3], [0, 1, 3, 2], [0, 2, 1, 3], [0, 2, 3, 1], [0, 3, 1, 2], [0, 3, 2, 1], [1, 0, 2, 3], [1, 0, 3, 2], [1, 2, 0, 3], [1, 2, 3, 0], [1, 3, 0, 2], [1, 3, 2, 0], [2, 0, 1, 3], [2, 0, 3, 1], [2, 1, 0, 3], [2, 1, 3, 0], [2, 3, 0, 1], [2, 3, 1, 0], [3, 0, 1, 2], [3, 0, 2, 1], [3, 1, 0, 2], [3, 1, 2, 0], [3, 2, 0, 1], [3, 2, 1, 0]]
  | _ => []
theorem or_a1 : d_all_orders [.int (1 : Nat)] = some (.list ((ORD 1).map oD)) := by kernel_rfl
theorem or_b1 : d__law_orders [.int (1 : Nat)] = some (.list ((ORD 1).map oD)) := by kernel_rfl
theorem or_l1 : ((ORD 1).length ≤ 24 ∧ 1 ≤ (ORD 1).length) := by decide +kernel
theorem or_p1 : ∀ o ∈ ORD 1, o.Perm (List.range 1) := by decide +kernel
theorem or_q1 : ∀ a : Fin 1, [a.1].Nodup → [a.1] ∈ ORD 1 := by decide +kernel
theorem or_a2 : d_all_orders [.int (2 : Nat)] = some (.list ((ORD 2).map oD)) := by kernel_rfl
theorem or_b2 : d__law_orders [.int (2 : Nat)] = some (.list ((ORD 2).map oD)) := by kernel_rfl
theorem or_l2 : ((ORD 2).length ≤ 24 ∧ 1 ≤ (ORD 2).length) := by decide +kernel
theorem or_p2 : ∀ o ∈ ORD 2, o.Perm (List.range 2) := by decide +kernel
theorem or_q2 : ∀ a : Fin 2, ∀ b : Fin 2, [a.1, b.1].Nodup → [a.1, b.1] ∈ ORD 2 := by decide +kernel
theorem or_a3 : d_all_orders [.int (3 : Nat)] = some (.list ((ORD 3).map oD)) := by kernel_rfl
theorem or_b3 : d__law_orders [.int (3 : Nat)] = some (.list ((ORD 3).map oD)) := by kernel_rfl
theorem or_l3 : ((ORD 3).length ≤ 24 ∧ 1 ≤ (ORD 3).length) := by decide +kernel
theorem or_p3 : ∀ o ∈ ORD 3, o.Perm (List.range 3) := by decide +kernel
theorem or_q3 : ∀ a : Fin 3, ∀ b : Fin 3, ∀ c : Fin 3, [a.1, b.1, c.1].Nodup → [a.1, b.1, c.1] ∈ ORD 3 := by decide +kernel
theorem or_a4 : d_all_orders [.int (4 : Nat)] = some (.list ((ORD 4).map oD)) := by kernel_rfl
theorem or_b4 : d__law_orders [.int (4 : Nat)] = some (.list ((ORD 4).map oD)) := by kernel_rfl
theorem or_l4 : ((ORD 4).length ≤ 24 ∧ 1 ≤ (ORD 4).length) := by decide +kernel
theorem or_p4 : ∀ o ∈ ORD 4, o.Perm (List.range 4) := by decide +kernel
theorem or_q4 : ∀ a : Fin 4, ∀ b : Fin 4, ∀ c : Fin 4, ∀ d : Fin 4, [a.1, b.1, c.1, d.1].Nodup → [a.1, b.1, c.1, d.1] ∈ ORD 4 := by decide +kernel
theorem or_a {n : Nat} (h1 : 1 ≤ n) (h4 : n ≤ 4) : d_all_orders [.int (n : Nat)] = some (.list ((ORD n).map oD)) := by
  obtain rfl | rfl | rfl | rfl : n = 1 ∨ n = 2 ∨ n = 3 ∨ n = 4 := by omega
  · exact or_a1
  · exact or_a2
  · exact or_a3
  · exact or_a4
theorem or_b {n : Nat} (h1 : 1 ≤ n) (h4 : n ≤ 4) : d__law_orders [.int (n : Nat)] = some (.list ((ORD n).map oD)) := by
  obtain rfl | rfl | rfl | rfl : n = 1 ∨ n = 2 ∨ n = 3 ∨ n = 4 := by omega
  · exact or_b1
  · exact or_b2
  · exact or_b3
  · exact or_b4
theorem or_l {n : Nat} (h1 : 1 ≤ n) (h4 : n ≤ 4) : (ORD n).length ≤ 24 ∧ 1 ≤ (ORD n).length := by
  obtain rfl | rfl | rfl | rfl : n = 1 ∨ n = 2 ∨ n = 3 ∨ n = 4 := by omega
  · exact or_l1
  · exact or_l2
  · exact or_l3
  · exact or_l4
theorem or_p {n : Nat} (h1 : 1 ≤ n) (h4 : n ≤ 4) : ∀ o ∈ ORD n, o.Perm (List.range n) := by
  obtain rfl | rfl | rfl | rfl : n = 1 ∨ n = 2 ∨ n = 3 ∨ n = 4 := by omega
  · exact or_p1
  · exact or_p2
  · exact or_p3
  · exact or_p4
theorem or_q {n : Nat} (h1 : 1 ≤ n) (h4 : n ≤ 4) {o : List Nat} (p : o.Perm (List.range n)) : o ∈ ORD n := by
  have hl : o.length = n := by rw [p.length_eq, List.length_range]
  have hn : o.Nodup := p.nodup_iff.mpr List.nodup_range
  have hm : ∀ x ∈ o, x < n := fun x hx => List.mem_range.mp (p.mem_iff.mp hx)
  obtain rfl | rfl | rfl | rfl : n = 1 ∨ n = 2 ∨ n = 3 ∨ n = 4 := by omega
  · match o, hl with
    | [a], _ => exact or_q1 ⟨a, hm a (by simp)⟩ hn
  · match o, hl with
    | [a, b], _ => exact or_q2 ⟨a, hm a (by simp)⟩ ⟨b, hm b (by simp)⟩ hn
  · match o, hl with
    | [a, b, c], _ => exact or_q3 ⟨a, hm a (by simp)⟩ ⟨b, hm b (by simp)⟩ ⟨c, hm c (by simp)⟩ hn
  · match o, hl with
    | [a, b, c, d], _ => exact or_q4 ⟨a, hm a (by simp)⟩ ⟨b, hm b (by simp)⟩ ⟨c, hm c (by simp)⟩ ⟨d, hm d (by simp)⟩ hn
theorem set_rng {α : Type} (f : Nat → α) (n j : Nat) (v : α) : ((List.range n).map f).set j v = (List.range n).map fun k => if k = j then v else f k := by
  apply List.ext_getElem (by simp)
  intro i h1 h2
  simp only [List.getElem_set, List.getElem_map, List.getElem_range]
  by_cases h : i = j
  · rw [if_pos h.symm, if_pos h]
  · rw [if_neg (fun e => h e.symm), if_neg h]
theorem ixN_nat (n x : Nat) (h : x < n) : ixN n (x : Int) = some x := by
  unfold ixN
  rw [if_pos (by omega), if_pos (by omega)]
  simp
theorem rep_l (x : D) (m : Nat) (hm : m ≤ 100) : oMul' (.list [x]) (.int (m : Int)) = some (.list (List.replicate m x)) := by
  have h : [x].length * m ≤ 16777216 := by
    simp only [List.length_cons, List.length_nil]
    omega
  have h2 : -(2 ^ 62) ≤ (m : Int) := by omega
  have h3 : (m : Int) < 2 ^ 62 := by omega
  simp only [oMul', oMul, h, h2, h3, true_and, if_true, Int.toNat_natCast, List.flatten_replicate_singleton]
def ev (w : List Int) (d : Int) : List Nat → Nat → Int
  | [], _ => 0
  | j :: r, k => if j = k then d + w.getD j 0 - 1 else ev w (d + w.getD j 0) r k
def tm (w : List Int) (d : Int) (o : List Nat) : Int := o.foldl (fun d j => d + w.getD j 0) d
theorem tm_snoc (w : List Int) (d : Int) (a : List Nat) (j : Nat) : tm w d (a ++ [j]) = tm w d a + w.getD j 0 := by simp [tm]
theorem ev_append (w : List Int) : ∀ (a : List Nat) (d : Int) (r : List Nat) (k : Nat), k ∉ a → ev w d (a ++ r) k = ev w (tm w d a) r k
  | [], _, _, _, _ => rfl
  | j :: a, d, r, k, h => by
    simp only [List.mem_cons, not_or] at h
    rw [List.cons_append, ev, if_neg (fun e => h.1 e.symm), ev_append w a _ r k h.2]
    rfl
theorem ev_mid (w : List Int) (a : List Nat) (d : Int) (r : List Nat) (k : Nat) (h : k ∉ a) : ev w d (a ++ k :: r) k = tm w d a + w.getD k 0 - 1 := by
  rw [ev_append w a d _ k h, ev, if_pos rfl]
theorem law_ends_eq (b : Bool) (w : List Int) (o : List Nat) (n : Nat) (hw : w.length = n) (hn : n ≤ 100) (ho : o.Perm (List.range n)) :
    d__law_ends [sqD b (w.map PyData.int), oD o] = some (.list ((List.range n).map fun k => PyData.int (ev w 0 o k))) := by
  have hnd : o.Nodup := ho.nodup_iff.mpr List.nodup_range
  have hlt : ∀ x ∈ o, x < n := fun x hx => List.mem_range.mp (ho.mem_iff.mp hx)
  obtain ⟨ρ', e, h⟩ := forL_inv (g := gSet 2) (b := l1__law_ends) (fun j : Nat => PyData.int (j : Nat))
    (fun pre rest ρ => pre ++ rest = o ∧ ∃ jv, ρ = [some (sqD b (w.map PyData.int)), some (oD o), jv, some (.int (tm w 0 pre)), some (.list ((List.range n).map fun k => PyData.int (if k ∈ pre then ev w 0 o k else 0)))]) (fun pre x rest ρ ⟨hp, jv, e⟩ => by
      subst e
      have hx : x ∈ o := by rw [← hp]; simp
      have hxp : x ∉ pre := by
        rw [← hp] at hnd
        have := (List.nodup_append.mp hnd).2.2
        exact fun hm => this x hm x (by simp) rfl
      have hxn := hlt x hx
      have i1 := at_map PyData.int w 0 x (by omega)
      have hE : ev w 0 o x = tm w 0 pre + w.getD x 0 - 1 := by rw [← hp]; exact ev_mid w pre 0 rest x hxp
      have hset : ((List.range n).map fun k => PyData.int (if k ∈ pre then ev w 0 o k else 0)).set x (.int (tm w 0 pre + w.getD x 0 - 1)) = (List.range n).map fun k => PyData.int (if k ∈ pre ++ [x] then ev w 0 o k else 0) := by
        rw [set_rng]
        refine List.map_congr_left fun k _ => ?_
        by_cases hk : k = x
        · subst hk
          simp [hE]
        · simp [hk]
      have hlen : ((List.range n).map fun k => PyData.int (if k ∈ pre then ev w 0 o k else 0)).length = n := by simp
      refine ⟨_, [some (sqD b (w.map PyData.int)), some (oD o), some (.int x), some (.int (tm w 0 (pre ++ [x]))), some (.list ((List.range n).map fun k => PyData.int (if k ∈ pre ++ [x] then ev w 0 o k else 0)))], rfl, .inl ?_, by rw [List.append_assoc]; exact hp, some (.int x), rfl⟩
      rw [tm_snoc]
      have hix := ixN_nat n x hxn
      generalize ((List.range n).map fun k => PyData.int (if k ∈ pre then ev w 0 o k else 0)) = L at *
      generalize ((List.range n).map fun k => PyData.int (if k ∈ pre ++ [x] then ev w 0 o k else 0)) = L' at *
      simp -implicitDefEqProofs only [l1__law_ends, xVar_a, xC_a, xBin_a, xUn_a, tOf_a, tTru_a, tNotP_a, tAndP_a, tOrP_a, tyes_a, tno_a, tYesP_a, xNil_a, xCons_a, xTup_a, xLst_a, xAnd_a, xOr_a, xIf_a, xChain_a, oNo_a, oAt_a, xSl_a, xCall_a, xSeq_a, xIt_a, xLc_a, gSet_a, gTupD_a, gsNil_a, gsCons_a, sNop_a, sBrk_a, sCnt_a, sSeq_a, sRet_a, sIf_a, sSet_a, sTgt_a, sAug_a, sApp_a, sExt_a, sPut_a, sPutK_a, pkO_s, sFor_a, sWhile_a, sPar_a, runD_a, b2_s, c2_s, sqO_nx, sqO_rt, sqO_bk, sqO_ct, ifO_t, ifO_f, stO_s, endO_nx, endO_rt, andO_t, andO_f, orO_t, orO_f, chO_s, chP_t, chP_f, slO_s, atO_i, lcO_s, forO_s, gsO_s, nxO_s, tgO_s, paO_s, apO_s, exO_s, plO_s, ptO_s, dB_b, tru_b, tru_n, tru_i, tru_l, tru_t, is_n, isn_n, nn_n, nn_i, nn_b, nn_t, nn_l, add_ii, add'_ii, sub_ii, neg_i, lt_ii, le_ii, gt_ii, ge_ii, ix_l, ix_t, ix_s, at0, at1, at2, sl_l, sl_t, len_l, len_t, len_s, abs_i, int_i, int_b, max_ii, min_ii, tup_s, lst_s, seq_l, seq_t, sum_s, wipe_n, wipe_c, mul_ii, fdiv_ii, mod_ii, add_ll, add_tt, setAll, mkT, mkL, oNot, List.getD_cons_zero, List.getD_cons_succ, List.length_cons, List.length_nil, List.set_cons_zero, List.set_cons_succ, List.map_cons, List.map_nil, List.replicate, List.cons_append, List.nil_append, List.append_nil, Option.bind_some, Option.map_some, List.all_cons, List.all_nil, if_true, if_false, reduceIte, Nat.reduceAdd, Nat.reduceSub, Nat.reduceLT, Nat.reduceLeDiff, Nat.reduceEqDiff, decide_true, decide_false, Bool.and_true, Bool.and_self, Bool.true_and, Bool.not_true, Bool.not_false, ne_eq, not_true_eq_false, not_false_eq_true, Nat.zero_add, Bool.false_eq_true, and_self, true_and, and_true, ix_q, i1, hlen, hix, hset]) o [] [some (sqD b (w.map PyData.int)), some (oD o), none, some (.int 0), some (.list ((List.range n).map fun k => PyData.int (if k ∈ ([] : List Nat) then ev w 0 o k else 0)))] ⟨rfl, none, rfl⟩
  obtain ⟨_, jv, e'⟩ := h
  subst e'
  have e0 : ((List.range n).map fun k => PyData.int (if k ∈ ([] : List Nat) then ev w 0 o k else 0)) = List.replicate n (.int 0) := by
    simp [List.map_const']
  have e1 : ((List.range n).map fun k => PyData.int (if k ∈ o then ev w 0 o k else 0)) = (List.range n).map fun k => PyData.int (ev w 0 o k) := by
    refine List.map_congr_left fun k hk => ?_
    rw [if_pos (ho.mem_iff.mpr hk)]
  rw [e0, List.nil_append, e1] at e
  have r1 := rep_l (.int 0) n hn
  have hl : (w.map PyData.int).length = n := by simpa using hw
  have sq : seqD (oD o) = some (o.map fun j => PyData.int (j : Nat)) := rfl
  generalize w.map PyData.int = W at *
  simp -implicitDefEqProofs only [d__law_ends, g__law_ends, xVar_a, xC_a, xBin_a, xUn_a, tOf_a, tTru_a, tNotP_a, tAndP_a, tOrP_a, tyes_a, tno_a, tYesP_a, xNil_a, xCons_a, xTup_a, xLst_a, xAnd_a, xOr_a, xIf_a, xChain_a, oNo_a, oAt_a, xSl_a, xCall_a, xSeq_a, xIt_a, xLc_a, gSet_a, gTupD_a, gsNil_a, gsCons_a, sNop_a, sBrk_a, sCnt_a, sSeq_a, sRet_a, sIf_a, sSet_a, sTgt_a, sAug_a, sApp_a, sExt_a, sPut_a, sPutK_a, pkO_s, sFor_a, sWhile_a, sPar_a, runD_a, b2_s, c2_s, sqO_nx, sqO_rt, sqO_bk, sqO_ct, ifO_t, ifO_f, stO_s, endO_nx, endO_rt, andO_t, andO_f, orO_t, orO_f, chO_s, chP_t, chP_f, slO_s, atO_i, lcO_s, forO_s, gsO_s, nxO_s, tgO_s, paO_s, apO_s, exO_s, plO_s, ptO_s, dB_b, tru_b, tru_n, tru_i, tru_l, tru_t, is_n, isn_n, nn_n, nn_i, nn_b, nn_t, nn_l, add_ii, add'_ii, sub_ii, neg_i, lt_ii, le_ii, gt_ii, ge_ii, ix_l, ix_t, ix_s, at0, at1, at2, sl_l, sl_t, len_l, len_t, len_s, abs_i, int_i, int_b, max_ii, min_ii, tup_s, lst_s, seq_l, seq_t, sum_s, wipe_n, wipe_c, mul_ii, fdiv_ii, mod_ii, add_ll, add_tt, setAll, mkT, mkL, oNot, List.getD_cons_zero, List.getD_cons_succ, List.length_cons, List.length_nil, List.set_cons_zero, List.set_cons_succ, List.map_cons, List.map_nil, List.replicate, List.cons_append, List.nil_append, List.append_nil, Option.bind_some, Option.map_some, List.all_cons, List.all_nil, if_true, if_false, reduceIte, Nat.reduceAdd, Nat.reduceSub, Nat.reduceLT, Nat.reduceLeDiff, Nat.reduceEqDiff, decide_true, decide_false, Bool.and_true, Bool.and_self, Bool.true_and, Bool.not_true, Bool.not_false, ne_eq, not_true_eq_false, not_false_eq_true, Nat.zero_add, Bool.false_eq_true, and_self, true_and, and_true, len_q, hl, r1, sq, e]
theorem bAll_map {α : Type} (l : List α) (f : α → Bool) : bAll [.list (l.map fun x => PyData.bool (f x))] = some (.bool (l.all f)) := by
  have hb := asBools_map (l.map f)
  rw [List.map_map] at hb
  show (asBools (l.map fun x => PyData.bool (f x))).map _ = _
  have e2 : (l.map fun x => PyData.bool (f x)) = l.map (PyData.bool ∘ f) := rfl
  rw [e2, hb]
  simp [List.all_map, Function.comp_def]
def kp (w p : List Int) (d : Int) : List Nat → Bool
  | [] => true
  | j :: r => decide (d + w.getD j 0 - 1 ≤ p.getD j 0) && kp w p (d + w.getD j 0) r
theorem kp_ev (w p : List Int) : ∀ (o : List Nat) (d : Int), o.Nodup → (kp w p d o = true ↔ ∀ k ∈ o, ev w d o k ≤ p.getD k 0)
  | [], _, _ => by simp [kp]
  | j :: r, d, hn => by
    rw [List.nodup_cons] at hn
    have ih := kp_ev w p r (d + w.getD j 0) hn.2
    rw [kp, Bool.and_eq_true, ih, decide_eq_true_iff]
    constructor
    · intro h k hk
      rw [ev]
      split
      · next e => rw [← e]; exact h.1
      · next e =>
        rcases List.mem_cons.mp hk with rfl | hk
        · exact absurd rfl e
        · exact h.2 k hk
    · intro h
      refine ⟨?_, fun k hk => ?_⟩
      · have := h j (List.mem_cons_self ..)
        rwa [ev, if_pos rfl] at this
      · have := h k (List.mem_cons_of_mem _ hk)
        rwa [ev, if_neg (fun e => hn.1 (by rw [e]; exact hk))] at this
theorem law_kept_eq (b : Bool) (w p : List Int) (o : List Nat) (n : Nat) (hw : w.length = n) (hp : p.length = n) (hn : n ≤ 100) (ho : o.Perm (List.range n)) :
    d__law_kept [sqD b (w.map PyData.int), .list (p.map PyData.int), oD o] = some (.bool (kp w p 0 o)) := by
  have h1 := law_ends_eq b w o n hw hn ho
  have hnd : o.Nodup := ho.nodup_iff.mpr List.nodup_range
  have hr := rg0 n (by omega)
  have hm : lcL (gSet 4) tYesP (xBin oLe (xBin oIx (xVar 3) (xVar 4)) (xBin oIx (xVar 1) (xVar 4))) [some (sqD b (w.map PyData.int)), some (.list (p.map PyData.int)), some (oD o), some (.list ((List.range n).map fun k => PyData.int (ev w 0 o k))), none] ((List.range n).map fun k : Nat => PyData.int (k : Nat)) = some ((List.range n).map fun k => PyData.bool (decide (ev w 0 o k ≤ p.getD k 0))) := by
    refine lcL_map _ _ _ fun k hk => ?_
    have hk' : k < n := by simpa using hk
    have i1 := at_map PyData.int p 0 k (by omega)
    have i2 := at_map (fun k => PyData.int (ev w 0 o k)) (List.range n) 0 k (by simpa using hk')
    rw [show (List.range n).getD k 0 = k by simp [hk']] at i2
    simp -implicitDefEqProofs only [xVar_a, xC_a, xBin_a, xUn_a, tOf_a, tTru_a, tNotP_a, tAndP_a, tOrP_a, tyes_a, tno_a, tYesP_a, xNil_a, xCons_a, xTup_a, xLst_a, xAnd_a, xOr_a, xIf_a, xChain_a, oNo_a, oAt_a, xSl_a, xCall_a, xSeq_a, xIt_a, xLc_a, gSet_a, gTupD_a, gsNil_a, gsCons_a, sNop_a, sBrk_a, sCnt_a, sSeq_a, sRet_a, sIf_a, sSet_a, sTgt_a, sAug_a, sApp_a, sExt_a, sPut_a, sPutK_a, pkO_s, sFor_a, sWhile_a, sPar_a, runD_a, b2_s, c2_s, sqO_nx, sqO_rt, sqO_bk, sqO_ct, ifO_t, ifO_f, stO_s, endO_nx, endO_rt, andO_t, andO_f, orO_t, orO_f, chO_s, chP_t, chP_f, slO_s, atO_i, lcO_s, forO_s, gsO_s, nxO_s, tgO_s, paO_s, apO_s, exO_s, plO_s, ptO_s, dB_b, tru_b, tru_n, tru_i, tru_l, tru_t, is_n, isn_n, nn_n, nn_i, nn_b, nn_t, nn_l, add_ii, add'_ii, sub_ii, neg_i, lt_ii, le_ii, gt_ii, ge_ii, ix_l, ix_t, ix_s, at0, at1, at2, sl_l, sl_t, len_l, len_t, len_s, abs_i, int_i, int_b, max_ii, min_ii, tup_s, lst_s, seq_l, seq_t, sum_s, wipe_n, wipe_c, mul_ii, fdiv_ii, mod_ii, add_ll, add_tt, setAll, mkT, mkL, oNot, List.getD_cons_zero, List.getD_cons_succ, List.length_cons, List.length_nil, List.set_cons_zero, List.set_cons_succ, List.map_cons, List.map_nil, List.replicate, List.cons_append, List.nil_append, List.append_nil, Option.bind_some, Option.map_some, List.all_cons, List.all_nil, if_true, if_false, reduceIte, Nat.reduceAdd, Nat.reduceSub, Nat.reduceLT, Nat.reduceLeDiff, Nat.reduceEqDiff, decide_true, decide_false, Bool.and_true, Bool.and_self, Bool.true_and, Bool.not_true, Bool.not_false, ne_eq, not_true_eq_false, not_false_eq_true, Nat.zero_add, Bool.false_eq_true, and_self, true_and, and_true, i1, i2]
  have hl : (w.map PyData.int).length = n := by simpa using hw
  have hb := bAll_map (List.range n) fun k => decide (ev w 0 o k ≤ p.getD k 0)
  have hk : (List.range n).all (fun k => decide (ev w 0 o k ≤ p.getD k 0)) = kp w p 0 o := by
    rw [Bool.eq_iff_iff, kp_ev w p o 0 hnd, List.all_eq_true]
    constructor
    · exact fun h k hk => of_decide_eq_true (h k (ho.mem_iff.mp hk))
    · exact fun h k hk => decide_eq_true (h k (ho.mem_iff.mpr hk))
  rw [hk] at hb
  generalize w.map PyData.int = W at *
  generalize p.map PyData.int = PP at *
  generalize (List.range n).map (fun k : Nat => PyData.int (k : Nat)) = R at *
  generalize ((List.range n).map fun k => PyData.int (ev w 0 o k)) = E at *
  generalize ((List.range n).map fun k => PyData.bool (decide (ev w 0 o k ≤ p.getD k 0))) = B at *
  simp -implicitDefEqProofs only [d__law_kept, g__law_kept, xVar_a, xC_a, xBin_a, xUn_a, tOf_a, tTru_a, tNotP_a, tAndP_a, tOrP_a, tyes_a, tno_a, tYesP_a, xNil_a, xCons_a, xTup_a, xLst_a, xAnd_a, xOr_a, xIf_a, xChain_a, oNo_a, oAt_a, xSl_a, xCall_a, xSeq_a, xIt_a, xLc_a, gSet_a, gTupD_a, gsNil_a, gsCons_a, sNop_a, sBrk_a, sCnt_a, sSeq_a, sRet_a, sIf_a, sSet_a, sTgt_a, sAug_a, sApp_a, sExt_a, sPut_a, sPutK_a, pkO_s, sFor_a, sWhile_a, sPar_a, runD_a, b2_s, c2_s, sqO_nx, sqO_rt, sqO_bk, sqO_ct, ifO_t, ifO_f, stO_s, endO_nx, endO_rt, andO_t, andO_f, orO_t, orO_f, chO_s, chP_t, chP_f, slO_s, atO_i, lcO_s, forO_s, gsO_s, nxO_s, tgO_s, paO_s, apO_s, exO_s, plO_s, ptO_s, dB_b, tru_b, tru_n, tru_i, tru_l, tru_t, is_n, isn_n, nn_n, nn_i, nn_b, nn_t, nn_l, add_ii, add'_ii, sub_ii, neg_i, lt_ii, le_ii, gt_ii, ge_ii, ix_l, ix_t, ix_s, at0, at1, at2, sl_l, sl_t, len_l, len_t, len_s, abs_i, int_i, int_b, max_ii, min_ii, tup_s, lst_s, seq_l, seq_t, sum_s, wipe_n, wipe_c, mul_ii, fdiv_ii, mod_ii, add_ll, add_tt, setAll, mkT, mkL, oNot, List.getD_cons_zero, List.getD_cons_succ, List.length_cons, List.length_nil, List.set_cons_zero, List.set_cons_succ, List.map_cons, List.map_nil, List.replicate, List.cons_append, List.nil_append, List.append_nil, Option.bind_some, Option.map_some, List.all_cons, List.all_nil, if_true, if_false, reduceIte, Nat.reduceAdd, Nat.reduceSub, Nat.reduceLT, Nat.reduceLeDiff, Nat.reduceEqDiff, decide_true, decide_false, Bool.and_true, Bool.and_self, Bool.true_and, Bool.not_true, Bool.not_false, ne_eq, not_true_eq_false, not_false_eq_true, Nat.zero_add, Bool.false_eq_true, and_self, true_and, and_true, h1, len_q, hl, hr, hm, hb]
def prm (S : List Ship) : List Int := S.map fun s => s.2.2.2
theorem getD_map {α β : Type} (f : α → β) (l : List α) (k : Nat) (a : α) (b : β) (h : f a = b) : (l.map f).getD k b = f (l.getD k a) := by
  by_cases hk : k < l.length
  · simp [hk]
  · simp [hk, h]
theorem keeps0_kp (S : List Ship) (w : List Int) (hS : ∀ s ∈ S, s.1 = 0) (hw : ∀ x ∈ w, 0 ≤ x) : ∀ (o : List Nat) (d : Int), 0 ≤ d → ((ends0 S w d o).all fun p => decide (p.2 ≤ (S.getD p.1 (0, 0, 0, 0)).2.2.2)) = kp w (prm S) d o
  | [], _, _ => rfl
  | j :: r, d, hd => by
    have h0 : (S.getD j (0, 0, 0, 0)).1 = 0 := by
      by_cases hj : j < S.length
      · have : S.getD j (0, 0, 0, 0) ∈ S := by simp [hj]
        exact hS _ this
      · simp [hj]
    have h1 : 0 ≤ w.getD j 0 := by
      by_cases hj : j < w.length
      · have : w.getD j 0 ∈ w := by simp [hj]
        exact hw _ this
      · simp [hj]
    have hst : stp S w d j = d + w.getD j 0 := by
      unfold stp mx
      rw [h0, if_neg (by omega)]
    have hp : (prm S).getD j 0 = (S.getD j (0, 0, 0, 0)).2.2.2 := getD_map (fun s : Ship => s.2.2.2) S j (0, 0, 0, 0) 0 rfl
    rw [ends0, List.all_cons, hst, keeps0_kp S w hS hw r _ (by omega), kp, hp]
theorem ends0_ev (S : List Ship) (w : List Int) (hS : ∀ s ∈ S, s.1 = 0) (hw : ∀ x ∈ w, 0 ≤ x) : ∀ (o : List Nat) (d : Int), 0 ≤ d → ∀ k ∈ o, (k, ev w d o k) ∈ ends0 S w d o
  | [], _, _, k, hk => by cases hk
  | j :: r, d, hd, k, hk => by
    have h0 : (S.getD j (0, 0, 0, 0)).1 = 0 := by
      by_cases hj : j < S.length
      · have : S.getD j (0, 0, 0, 0) ∈ S := by simp [hj]
        exact hS _ this
      · simp [hj]
    have h1 : 0 ≤ w.getD j 0 := by
      by_cases hj : j < w.length
      · have : w.getD j 0 ∈ w := by simp [hj]
        exact hw _ this
      · simp [hj]
    have hst : stp S w d j = d + w.getD j 0 := by
      unfold stp mx
      rw [h0, if_neg (by omega)]
    rw [ends0, ev, hst]
    by_cases e : j = k
    · rw [if_pos e, e]
      exact List.mem_cons_self ..
    · rw [if_neg e]
      exact List.mem_cons_of_mem _ (ends0_ev S w hS hw r _ (by omega) k ((List.mem_cons.mp hk).resolve_left fun e' => e e'.symm))
end K13

namespace K13
open PySem PySem.Spec PyProof.Rows L2 Pm
theorem sum_nonneg : ∀ {l : List Int}, (∀ r ∈ l, 0 ≤ r) → 0 ≤ l.sum
  | [], _ => by simp
  | a :: l, h => by
    have := h a (by simp)
    have := sum_nonneg fun r hr => h r (List.mem_cons_of_mem _ hr)
    simp
    omega
theorem mem_le_sum : ∀ {l : List Int}, (∀ r ∈ l, 0 ≤ r) → ∀ r ∈ l, r ≤ l.sum
  | a :: l, h, r, hr => by
    have h1 := h a (by simp)
    have h2 : ∀ r ∈ l, 0 ≤ r := fun r hr => h r (List.mem_cons_of_mem _ hr)
    have h3 := sum_nonneg h2
    simp
    rcases List.mem_cons.mp hr with e | hr
    · subst e; omega
    · have := mem_le_sum h2 r hr; omega
theorem Sm.int {k : Nat} {q : Int} (hq : 0 ≤ q) (b : Sm k q) : q ≤ 2 ^ k := by
  unfold Sm at b
  have e := Int.natAbs_of_nonneg hq
  have : ((q.natAbs : Nat) : Int) ≤ ((2 ^ k : Nat) : Int) := by omega
  rw [e, Int.natCast_pow] at this
  exact this
theorem flat_fr (p q : Int) : flat (fr p q) = true := rfl
theorem Sm.of_le {k : Nat} {a : Int} (h0 : 0 ≤ a) (h : a ≤ 2 ^ k) : Sm k a := by
  unfold Sm
  have : (a.natAbs : Int) ≤ ((2 ^ k : Nat) : Int) := by
    rw [Int.natAbs_of_nonneg h0, Int.natCast_pow]
    exact h
  omega
theorem sum_ints (xs : List Int) : bSum [.list (xs.map PyData.int)] = some (.int xs.sum) := by
  rw [sum_s, seq_l, Option.bind_some, asInts_map]
  rfl
theorem enum_map (W : List Int) : enumD (W.map PyData.int) = (List.range W.length).map fun i => .tuple [.int (i : Nat), .int (W.getD i 0)] := by
  unfold enumD
  apply List.ext_getElem?
  intro i
  by_cases h : i < W.length
  · simp [h]
  · simp [h]
theorem zip_map (S : List Ship) (Ws : List (List Int)) (f : List Int → D) : zipD (S.map shD) (Ws.map f) = (S.zip Ws).map fun q => .tuple [shD q.1, f q.2] := by
  unfold zipD
  induction S generalizing Ws with
  | nil => simp
  | cons s S ih => cases Ws with
    | nil => simp
    | cons W Ws => simp [ih]
def wD (W : List Int) : D := .tuple (W.map PyData.int)
abbrev Rw := List Int × Int
def enX (T : Int) (p : Rw) : D := .tuple [.tuple (p.1.map PyData.int), fr p.2 T]
def stepX (lo : Int) (W : List Int) (X : List Rw) : List Rw := X.flatMap fun p => (List.range W.length).map fun i => (p.1 ++ [lo + (i : Nat)], p.2 * W.getD i 0)
def stepXT (a : List Rw × Int) (q : Ship × List Int) : List Rw × Int := (stepX q.1.2.1 q.2 a.1, a.2 * q.2.sum)
theorem sum_range (W : List Int) (P : Int) : (((List.range W.length).map fun i => P * W.getD i 0).sum) = P * W.sum := by
  have : ((List.range W.length).map fun i => W.getD i 0) = W := by
    apply List.ext_getElem?
    intro i
    by_cases h : i < W.length
    · simp [h]
    · simp [h]
  conv => rhs; rw [← this]
  induction List.range W.length with
  | nil => simp
  | cons a l ih => rw [List.map_cons, List.sum_cons, List.map_cons, List.sum_cons, ih, Int.mul_add]
theorem stepX_sum (lo : Int) (W : List Int) : ∀ X : List Rw, ((stepX lo W X).map (·.2)).sum = (X.map (·.2)).sum * W.sum
  | [] => by simp [stepX]
  | p :: X => by
    have ih := stepX_sum lo W X
    have h := sum_range W p.2
    unfold stepX at ih ⊢
    rw [List.flatMap_cons, List.map_append, List.sum_append, ih, List.map_map]
    have e : (((fun x : Rw => x.2) ∘ fun i : Nat => (p.1 ++ [lo + (i : Nat)], p.2 * W.getD i 0))) = fun i : Nat => p.2 * W.getD i 0 := rfl
    rw [e, h, List.map_cons, List.sum_cons, Int.add_mul]
structure GX (m : Nat) (a : List Rw × Int) : Prop where
  len : ∀ p ∈ a.1, p.1.length = m
  pos : ∀ p ∈ a.1, 0 ≤ p.2
  sum : (a.1.map (·.2)).sum = a.2
  tp : 0 < a.2
  ts : Sm (10 * m) a.2
  cnt : a.1.length ≤ 4 ^ m
theorem GX.step {m : Nat} {a : List Rw × Int} (g : GX m a) (q : Ship × List Int) (h0 : ∀ x ∈ q.2, 0 ≤ x) (h1 : 0 < q.2.sum) (h2 : Sm 10 q.2.sum) (h3 : q.2.length ≤ 4) : GX (m + 1) (stepXT a q) := by
  have hmem : ∀ p ∈ (stepXT a q).1, ∃ p0 ∈ a.1, ∃ i, i < q.2.length ∧ p = (p0.1 ++ [q.1.2.1 + (i : Nat)], p0.2 * q.2.getD i 0) := fun p hp => by
    simp only [stepXT, stepX, List.mem_flatMap, List.mem_map, List.mem_range] at hp
    obtain ⟨p0, hp0, i, hi, e⟩ := hp
    exact ⟨p0, hp0, i, hi, e.symm⟩
  refine ⟨fun p hp => ?_, fun p hp => ?_, ?_, Int.mul_pos g.tp h1, ?_, ?_⟩
  · obtain ⟨p0, hp0, i, hi, rfl⟩ := hmem p hp
    simp [g.len p0 hp0]
  · obtain ⟨p0, hp0, i, hi, rfl⟩ := hmem p hp
    refine Int.mul_nonneg (g.pos p0 hp0) (h0 _ ?_)
    simp [hi]
  · show ((stepX q.1.2.1 q.2 a.1).map (·.2)).sum = a.2 * q.2.sum
    rw [stepX_sum, g.sum]
  · exact (g.ts.mul h2).mono (by omega)
  · show (stepX q.1.2.1 q.2 a.1).length ≤ 4 ^ (m + 1)
    have : ∀ X : List Rw, (stepX q.1.2.1 q.2 X).length = X.length * q.2.length := fun X => by
      induction X with
      | nil => simp [stepX]
      | cons p X ih =>
        unfold stepX at ih ⊢
        rw [List.flatMap_cons, List.length_append, ih]
        simp [Nat.add_mul, Nat.add_comm]
    rw [this, Nat.pow_succ]
    exact Nat.mul_le_mul g.cnt h3
theorem kept_loop1 (S : List Ship) (Ws : List (List Int)) (hW : ∀ W ∈ Ws, (∀ x ∈ W, 0 ≤ x) ∧ 0 < W.sum ∧ Sm 10 W.sum ∧ W.length ≤ 4) (hl : (S.zip Ws).length ≤ 8) (x0 x1 x2 : Option D) :
    ∃ j5 j6 j7, GX (S.zip Ws).length ((S.zip Ws).foldl stepXT ([([], 1)], 1)) ∧ forL (gTupD 2 (gsCons (gSet 5) (gsCons (gSet 6) gsNil))) l1_chance_kept ((S.zip Ws).map fun q => .tuple [shD q.1, wD q.2]) [x0, x1, x2, some (.list [.tuple [.tuple [], fr 1 1]]), none, none, none, none, none, none, none, none] =
      some (.nx [x0, x1, x2, some (.list (((S.zip Ws).foldl stepXT ([([], 1)], 1)).1.map (enX ((S.zip Ws).foldl stepXT ([([], 1)], 1)).2))), none, j5, j6, j7, none, none, none, none]) := by
  obtain ⟨ρ', e, h⟩ := forL_inv (g := gTupD 2 (gsCons (gSet 5) (gsCons (gSet 6) gsNil))) (b := l1_chance_kept) (fun q : Ship × List Int => .tuple [shD q.1, wD q.2])
    (fun pre rest ρ => pre ++ rest = S.zip Ws ∧ ∃ j5 j6 j7, GX pre.length (pre.foldl stepXT ([([], 1)], 1)) ∧ ρ = [x0, x1, x2, some (.list ((pre.foldl stepXT ([([], 1)], 1)).1.map (enX (pre.foldl stepXT ([([], 1)], 1)).2))), none, j5, j6, j7, none, none, none, none]) (fun pre q rest ρ ⟨hp, j5, j6, j7, gx, e⟩ => by
      subst e
      have hq : q.2 ∈ Ws := by
        have : q ∈ S.zip Ws := by rw [← hp]; simp
        exact (List.of_mem_zip (a := q.1) (b := q.2) this).2
      obtain ⟨w1, w2, w3, w4⟩ := hW q.2 hq
      have hlen : pre.length ≤ 7 := by
        have := congrArg List.length hp
        simp only [List.length_append, List.length_cons] at this
        omega
      have gx' := gx.step q w1 w2 w3 w4
      generalize hA : pre.foldl stepXT ([([], 1)], 1) = A at *
      have hfold : (pre ++ [q]).foldl stepXT ([([], 1)], 1) = stepXT A q := by rw [List.foldl_append, hA]; rfl
      have hs := sum_ints q.2
      have hs' : bSum [.tuple (q.2.map PyData.int)] = some (.int q.2.sum) := hs
      have c1 : lc2L (gTupD 2 (gsCons (gSet 8) (gsCons (gSet 9) gsNil))) tYesP (xIt oEnum (xCons (xVar 6) xNil)) (gTupD 2 (gsCons (gSet 10) (gsCons (gSet 11) gsNil))) tYesP (xTup (xCons (xBin oAdd (xVar 8) (xTup (xCons (xBin oAdd (xBin oIx (xVar 5) (xC (.int 1))) (xVar 10)) xNil))) (xCons (xCall (fun ds => if ds.length = 2 then (d_times) ds else none) (xCons (xVar 9) (xCons (xCall (fun ds => if ds.length = 2 then ((d_lowest) ds).bind fun d => if flat d then some d else none else none) (xCons (xVar 11) (xCons (xVar 7) xNil))) xNil))) xNil))) [10, 11]
          [x0, x1, x2, some (.list (A.1.map (enX A.2))), none, some (shD q.1), some (wD q.2), some (.int q.2.sum), none, none, none, none] (A.1.map (enX A.2)) = some (A.1.flatMap fun p => (List.range q.2.length).map fun i => enX (A.2 * q.2.sum) (p.1 ++ [q.1.2.1 + (i : Nat)], p.2 * q.2.getD i 0)) := by
        refine lc2L_flat (enX A.2) _ _ fun p hp => ?_
        have hp2 := gx.pos p hp
        have hpl := gx.len p hp
        have hps : p.2 ≤ A.2 := by
          have := mem_le_sum (l := A.1.map (·.2)) (fun r hr => by obtain ⟨y, hy, rfl⟩ := List.mem_map.mp hr; exact gx.pos y hy) p.2 (List.mem_map_of_mem hp)
          rw [gx.sum] at this
          exact this
        have sA := gx.ts
        have sp : Sm (10 * pre.length) p.2 := Sm.of_le hp2 (Int.le_trans hps (Sm.int (by have := gx.tp; omega) sA))
        refine ⟨[x0, x1, x2, some (.list (A.1.map (enX A.2))), none, some (shD q.1), some (wD q.2), some (.int q.2.sum), some (.tuple (p.1.map PyData.int)), some (fr p.2 A.2), none, none], (List.range q.2.length).map fun i => .tuple [.int (i : Nat), .int (q.2.getD i 0)], rfl, ?_, ?_⟩
        · rw [← enum_map]
          rfl
        · refine lcL_map _ _ _ fun i hi => ?_
          have hi' : i < q.2.length := by simpa using hi
          have hm : q.2.getD i 0 ∈ q.2 := by simp [hi']
          have hx := w1 _ hm
          have hxs := mem_le_sum w1 _ hm
          have sx : Sm 10 (q.2.getD i 0) := Sm.of_le hx (Int.le_trans hxs (Sm.int (by omega) w3))
          have t1 := lowest_eq (q.2.getD i 0) q.2.sum w2 (w3.mono (by omega))
          have t2 := times_eq (p := p.2) (q := A.2) (r := q.2.getD i 0) (s := q.2.sum) gx.tp w2 (sp.mono (by omega)) (sA.mono (by omega)) (sx.mono (by omega)) (w3.mono (by omega))
          have t3 : oAdd (.tuple (p.1.map PyData.int)) (.tuple [.int (q.1.2.1 + (i : Nat))]) = some (.tuple (p.1.map PyData.int ++ [.int (q.1.2.1 + (i : Nat))])) := add_tt (by simp; omega)
          simp -implicitDefEqProofs only [xVar_a, xC_a, xBin_a, xUn_a, tOf_a, tTru_a, tNotP_a, tAndP_a, tOrP_a, tyes_a, tno_a, tYesP_a, xNil_a, xCons_a, xTup_a, xLst_a, xAnd_a, xOr_a, xIf_a, xChain_a, oNo_a, oAt_a, xSl_a, xCall_a, xSeq_a, xIt_a, xLc_a, gSet_a, gTupD_a, gsNil_a, gsCons_a, sNop_a, sBrk_a, sCnt_a, sSeq_a, sRet_a, sIf_a, sSet_a, sTgt_a, sAug_a, sApp_a, sExt_a, sPut_a, sPutK_a, pkO_s, sFor_a, sWhile_a, sPar_a, runD_a, b2_s, c2_s, sqO_nx, sqO_rt, sqO_bk, sqO_ct, ifO_t, ifO_f, stO_s, endO_nx, endO_rt, andO_t, andO_f, orO_t, orO_f, chO_s, chP_t, chP_f, slO_s, atO_i, lcO_s, forO_s, gsO_s, nxO_s, tgO_s, paO_s, apO_s, exO_s, plO_s, ptO_s, dB_b, tru_b, tru_n, tru_i, tru_l, tru_t, is_n, isn_n, nn_n, nn_i, nn_b, nn_t, nn_l, add_ii, add'_ii, sub_ii, neg_i, lt_ii, le_ii, gt_ii, ge_ii, ix_l, ix_t, ix_s, at0, at1, at2, sl_l, sl_t, len_l, len_t, len_s, abs_i, int_i, int_b, max_ii, min_ii, tup_s, lst_s, seq_l, seq_t, sum_s, wipe_n, wipe_c, mul_ii, fdiv_ii, mod_ii, add_ll, add_tt, setAll, mkT, mkL, oNot, List.getD_cons_zero, List.getD_cons_succ, List.length_cons, List.length_nil, List.set_cons_zero, List.set_cons_succ, List.map_cons, List.map_nil, List.replicate, List.cons_append, List.nil_append, List.append_nil, Option.bind_some, Option.map_some, List.all_cons, List.all_nil, if_true, if_false, reduceIte, Nat.reduceAdd, Nat.reduceSub, Nat.reduceLT, Nat.reduceLeDiff, Nat.reduceEqDiff, decide_true, decide_false, Bool.and_true, Bool.and_self, Bool.true_and, Bool.not_true, Bool.not_false, ne_eq, not_true_eq_false, not_false_eq_true, Nat.zero_add, Bool.false_eq_true, and_self, true_and, and_true, shD, t1, t2, t3, flat_fr, enX, List.map_append]
      have c2 : (A.1.flatMap fun p => (List.range q.2.length).map fun i => enX (A.2 * q.2.sum) (p.1 ++ [q.1.2.1 + (i : Nat)], p.2 * q.2.getD i 0)) = (stepXT A q).1.map (enX (stepXT A q).2) := by
        simp only [stepXT, stepX, List.map_flatMap, List.map_map, Function.comp_def]
      rw [c2] at c1
      have c3 : ((stepXT A q).1.map (enX (stepXT A q).2)).length ≤ 16777216 := by
        rw [List.length_map]
        refine Nat.le_trans gx'.cnt (Nat.le_trans (Nat.pow_le_pow_right (by decide) (show pre.length + 1 ≤ 8 by omega)) (by decide))
      refine ⟨[x0, x1, x2, some (.list (A.1.map (enX A.2))), none, some (shD q.1), some (wD q.2), j7, none, none, none, none], [x0, x1, x2, some (.list ((stepXT A q).1.map (enX (stepXT A q).2))), none, some (shD q.1), some (wD q.2), some (.int q.2.sum), none, none, none, none], rfl, .inl ?_, by rw [List.append_assoc]; exact hp, some (shD q.1), some (wD q.2), some (.int q.2.sum), by rw [hfold, List.length_append]; exact gx', by rw [hfold]⟩
      have hit : xSeq (xVar 3) [x0, x1, x2, some (.list (A.1.map (enX A.2))), none, some (shD q.1), some (wD q.2), some (.int q.2.sum), none, none, none, none] = some (A.1.map (enX A.2)) := rfl
      have hlc := xLc2_a [x0, x1, x2, some (.list (A.1.map (enX A.2))), none, some (shD q.1), some (wD q.2), some (.int q.2.sum), none, none, none, none] (xSeq (xVar 3)) (gTupD 2 (gsCons (gSet 8) (gsCons (gSet 9) gsNil))) tYesP (xIt oEnum (xCons (xVar 6) xNil)) (gTupD 2 (gsCons (gSet 10) (gsCons (gSet 11) gsNil))) tYesP (xTup (xCons (xBin oAdd (xVar 8) (xTup (xCons (xBin oAdd (xBin oIx (xVar 5) (xC (.int 1))) (xVar 10)) xNil))) (xCons (xCall (fun ds => if ds.length = 2 then (d_times) ds else none) (xCons (xVar 9) (xCons (xCall (fun ds => if ds.length = 2 then ((d_lowest) ds).bind fun d => if flat d then some d else none else none) (xCons (xVar 11) (xCons (xVar 7) xNil))) xNil))) xNil))) [8, 9, 10, 11] [10, 11] _ hit
      have hw : wipeP [x0, x1, x2, some (.list (A.1.map (enX A.2))), none, some (shD q.1), some (wD q.2), some (.int q.2.sum), none, none, none, none] [8, 9, 10, 11] = [x0, x1, x2, some (.list (A.1.map (enX A.2))), none, some (shD q.1), some (wD q.2), some (.int q.2.sum), none, none, none, none] := rfl
      rw [hw, c1, Option.bind_some, if_pos c3] at hlc
      have hwd : bSum [wD q.2] = some (.int q.2.sum) := hs'
      simp -implicitDefEqProofs only [l1_chance_kept, xVar_a, xC_a, xBin_a, xUn_a, tOf_a, tTru_a, tNotP_a, tAndP_a, tOrP_a, tyes_a, tno_a, tYesP_a, xNil_a, xCons_a, xTup_a, xLst_a, xAnd_a, xOr_a, xIf_a, xChain_a, oNo_a, oAt_a, xSl_a, xCall_a, xSeq_a, xIt_a, xLc_a, gSet_a, gTupD_a, gsNil_a, gsCons_a, sNop_a, sBrk_a, sCnt_a, sSeq_a, sRet_a, sIf_a, sSet_a, sTgt_a, sAug_a, sApp_a, sExt_a, sPut_a, sPutK_a, pkO_s, sFor_a, sWhile_a, sPar_a, runD_a, b2_s, c2_s, sqO_nx, sqO_rt, sqO_bk, sqO_ct, ifO_t, ifO_f, stO_s, endO_nx, endO_rt, andO_t, andO_f, orO_t, orO_f, chO_s, chP_t, chP_f, slO_s, atO_i, lcO_s, forO_s, gsO_s, nxO_s, tgO_s, paO_s, apO_s, exO_s, plO_s, ptO_s, dB_b, tru_b, tru_n, tru_i, tru_l, tru_t, is_n, isn_n, nn_n, nn_i, nn_b, nn_t, nn_l, add_ii, add'_ii, sub_ii, neg_i, lt_ii, le_ii, gt_ii, ge_ii, ix_l, ix_t, ix_s, at0, at1, at2, sl_l, sl_t, len_l, len_t, len_s, abs_i, int_i, int_b, max_ii, min_ii, tup_s, lst_s, seq_l, seq_t, sum_s, wipe_n, wipe_c, mul_ii, fdiv_ii, mod_ii, add_ll, add_tt, setAll, mkT, mkL, oNot, List.getD_cons_zero, List.getD_cons_succ, List.length_cons, List.length_nil, List.set_cons_zero, List.set_cons_succ, List.map_cons, List.map_nil, List.replicate, List.cons_append, List.nil_append, List.append_nil, Option.bind_some, Option.map_some, List.all_cons, List.all_nil, if_true, if_false, reduceIte, Nat.reduceAdd, Nat.reduceSub, Nat.reduceLT, Nat.reduceLeDiff, Nat.reduceEqDiff, decide_true, decide_false, Bool.and_true, Bool.and_self, Bool.true_and, Bool.not_true, Bool.not_false, ne_eq, not_true_eq_false, not_false_eq_true, Nat.zero_add, Bool.false_eq_true, and_self, true_and, and_true, hwd, hlc]) (S.zip Ws) [] [x0, x1, x2, some (.list [.tuple [.tuple [], fr 1 1]]), none, none, none, none, none, none, none, none] ⟨rfl, none, none, none, ⟨by simp, by simp, by simp, by simp, (show (1 : Int).natAbs ≤ 2 ^ (10 * 0) by decide), by simp⟩, rfl⟩
  obtain ⟨_, j5, j6, j7, gx, e'⟩ := h
  subst e'
  rw [List.nil_append] at e gx
  exact ⟨j5, j6, j7, gx, e⟩
def goodSum (S : List Ship) (o : List Nat) (X : List Rw) : Int := ((X.filter fun p => keeps0 S p.1 o).map (·.2)).sum
theorem kept_loop2 (S : List Ship) (o : List Nat) (X : List Rw) (T : Int) (hT : 0 < T) (sT : Sm 400 T) (h0 : ∀ p ∈ X, 0 ≤ p.2) (hs : (X.map (·.2)).sum = T) (hk : ∀ p ∈ X, d_keeps_with [.tuple (S.map shD), .tuple (p.1.map PyData.int), .tuple (o.map fun j => PyData.int (j : Nat))] = some (.bool (keeps0 S p.1 o))) (x1 x3 j5 j6 j7 : Option D) :
    ∃ j8 j9, forL (gTupD 2 (gsCons (gSet 8) (gsCons (gSet 9) gsNil))) l2_chance_kept (X.map (enX T)) [some (.tuple (S.map shD)), x1, some (.tuple (o.map fun j => PyData.int (j : Nat))), x3, some (fr 0 1), j5, j6, j7, none, none, none, none] =
      some (.nx [some (.tuple (S.map shD)), x1, some (.tuple (o.map fun j => PyData.int (j : Nat))), x3, some (fr (goodSum S o X) T), j5, j6, j7, j8, j9, none, none]) := by
  obtain ⟨ρ', e, h⟩ := forL_inv (g := gTupD 2 (gsCons (gSet 8) (gsCons (gSet 9) gsNil))) (b := l2_chance_kept) (enX T)
    (fun pre rest ρ => pre ++ rest = X ∧ 0 ≤ goodSum S o pre ∧ goodSum S o pre + (rest.map (·.2)).sum ≤ T ∧ ∃ j8 j9, ρ = [some (.tuple (S.map shD)), x1, some (.tuple (o.map fun j => PyData.int (j : Nat))), x3, some (fr (goodSum S o pre) T), j5, j6, j7, j8, j9, none, none]) (fun pre p rest ρ ⟨hp, g0, g1, j8, j9, e⟩ => by
      subst e
      have hm : p ∈ X := by rw [← hp]; simp
      have hp0 := h0 p hm
      have hr0 : 0 ≤ (rest.map (·.2)).sum := sum_nonneg fun r hr => by
        obtain ⟨y, hy, rfl⟩ := List.mem_map.mp hr
        exact h0 y (by rw [← hp]; simp [hy])
      have hk' := hk p hm
      rw [List.map_cons, List.sum_cons] at g1
      have hTi := Sm.int (by omega) sT
      have sp : Sm 400 p.2 := Sm.of_le hp0 (by omega)
      have sg : Sm 400 (goodSum S o pre) := Sm.of_le g0 (by omega)
      have t := plus_eq (p := goodSum S o pre) (q := T) (r := p.2) (s := T) hT hT (sg.mono (by omega)) (sT.mono (by omega)) (sp.mono (by omega)) (sT.mono (by omega))
      rw [fr_eq (r := goodSum S o pre + p.2) (s := T) (Int.mul_pos hT hT) hT (by grind)] at t
      by_cases hc : keeps0 S p.1 o = true
      · have hg : goodSum S o (pre ++ [p]) = goodSum S o pre + p.2 := by simp [goodSum, hc]
        refine ⟨_, [some (.tuple (S.map shD)), x1, some (.tuple (o.map fun j => PyData.int (j : Nat))), x3, some (fr (goodSum S o (pre ++ [p])) T), j5, j6, j7, some (.tuple (p.1.map PyData.int)), some (fr p.2 T), none, none], rfl, .inl ?_, by rw [List.append_assoc]; exact hp, by rw [hg]; omega, by rw [hg]; omega, _, _, rfl⟩
        rw [hg]
        simp -implicitDefEqProofs only [l2_chance_kept, xVar_a, xC_a, xBin_a, xUn_a, tOf_a, tTru_a, tNotP_a, tAndP_a, tOrP_a, tyes_a, tno_a, tYesP_a, xNil_a, xCons_a, xTup_a, xLst_a, xAnd_a, xOr_a, xIf_a, xChain_a, oNo_a, oAt_a, xSl_a, xCall_a, xSeq_a, xIt_a, xLc_a, gSet_a, gTupD_a, gsNil_a, gsCons_a, sNop_a, sBrk_a, sCnt_a, sSeq_a, sRet_a, sIf_a, sSet_a, sTgt_a, sAug_a, sApp_a, sExt_a, sPut_a, sPutK_a, pkO_s, sFor_a, sWhile_a, sPar_a, runD_a, b2_s, c2_s, sqO_nx, sqO_rt, sqO_bk, sqO_ct, ifO_t, ifO_f, stO_s, endO_nx, endO_rt, andO_t, andO_f, orO_t, orO_f, chO_s, chP_t, chP_f, slO_s, atO_i, lcO_s, forO_s, gsO_s, nxO_s, tgO_s, paO_s, apO_s, exO_s, plO_s, ptO_s, dB_b, tru_b, tru_n, tru_i, tru_l, tru_t, is_n, isn_n, nn_n, nn_i, nn_b, nn_t, nn_l, add_ii, add'_ii, sub_ii, neg_i, lt_ii, le_ii, gt_ii, ge_ii, ix_l, ix_t, ix_s, at0, at1, at2, sl_l, sl_t, len_l, len_t, len_s, abs_i, int_i, int_b, max_ii, min_ii, tup_s, lst_s, seq_l, seq_t, sum_s, wipe_n, wipe_c, mul_ii, fdiv_ii, mod_ii, add_ll, add_tt, setAll, mkT, mkL, oNot, List.getD_cons_zero, List.getD_cons_succ, List.length_cons, List.length_nil, List.set_cons_zero, List.set_cons_succ, List.map_cons, List.map_nil, List.replicate, List.cons_append, List.nil_append, List.append_nil, Option.bind_some, Option.map_some, List.all_cons, List.all_nil, if_true, if_false, reduceIte, Nat.reduceAdd, Nat.reduceSub, Nat.reduceLT, Nat.reduceLeDiff, Nat.reduceEqDiff, decide_true, decide_false, Bool.and_true, Bool.and_self, Bool.true_and, Bool.not_true, Bool.not_false, ne_eq, not_true_eq_false, not_false_eq_true, Nat.zero_add, Bool.false_eq_true, and_self, true_and, and_true, hk', hc, t]
      · have hc' : keeps0 S p.1 o = false := by simpa using hc
        have hg : goodSum S o (pre ++ [p]) = goodSum S o pre := by simp [goodSum, hc']
        refine ⟨_, [some (.tuple (S.map shD)), x1, some (.tuple (o.map fun j => PyData.int (j : Nat))), x3, some (fr (goodSum S o (pre ++ [p])) T), j5, j6, j7, some (.tuple (p.1.map PyData.int)), some (fr p.2 T), none, none], rfl, .inl ?_, by rw [List.append_assoc]; exact hp, by rw [hg]; omega, by rw [hg]; omega, _, _, rfl⟩
        rw [hg]
        simp -implicitDefEqProofs only [l2_chance_kept, xVar_a, xC_a, xBin_a, xUn_a, tOf_a, tTru_a, tNotP_a, tAndP_a, tOrP_a, tyes_a, tno_a, tYesP_a, xNil_a, xCons_a, xTup_a, xLst_a, xAnd_a, xOr_a, xIf_a, xChain_a, oNo_a, oAt_a, xSl_a, xCall_a, xSeq_a, xIt_a, xLc_a, gSet_a, gTupD_a, gsNil_a, gsCons_a, sNop_a, sBrk_a, sCnt_a, sSeq_a, sRet_a, sIf_a, sSet_a, sTgt_a, sAug_a, sApp_a, sExt_a, sPut_a, sPutK_a, pkO_s, sFor_a, sWhile_a, sPar_a, runD_a, b2_s, c2_s, sqO_nx, sqO_rt, sqO_bk, sqO_ct, ifO_t, ifO_f, stO_s, endO_nx, endO_rt, andO_t, andO_f, orO_t, orO_f, chO_s, chP_t, chP_f, slO_s, atO_i, lcO_s, forO_s, gsO_s, nxO_s, tgO_s, paO_s, apO_s, exO_s, plO_s, ptO_s, dB_b, tru_b, tru_n, tru_i, tru_l, tru_t, is_n, isn_n, nn_n, nn_i, nn_b, nn_t, nn_l, add_ii, add'_ii, sub_ii, neg_i, lt_ii, le_ii, gt_ii, ge_ii, ix_l, ix_t, ix_s, at0, at1, at2, sl_l, sl_t, len_l, len_t, len_s, abs_i, int_i, int_b, max_ii, min_ii, tup_s, lst_s, seq_l, seq_t, sum_s, wipe_n, wipe_c, mul_ii, fdiv_ii, mod_ii, add_ll, add_tt, setAll, mkT, mkL, oNot, List.getD_cons_zero, List.getD_cons_succ, List.length_cons, List.length_nil, List.set_cons_zero, List.set_cons_succ, List.map_cons, List.map_nil, List.replicate, List.cons_append, List.nil_append, List.append_nil, Option.bind_some, Option.map_some, List.all_cons, List.all_nil, if_true, if_false, reduceIte, Nat.reduceAdd, Nat.reduceSub, Nat.reduceLT, Nat.reduceLeDiff, Nat.reduceEqDiff, decide_true, decide_false, Bool.and_true, Bool.and_self, Bool.true_and, Bool.not_true, Bool.not_false, ne_eq, not_true_eq_false, not_false_eq_true, Nat.zero_add, Bool.false_eq_true, and_self, true_and, and_true, hk', hc']) X [] [some (.tuple (S.map shD)), x1, some (.tuple (o.map fun j => PyData.int (j : Nat))), x3, some (fr 0 1), j5, j6, j7, none, none, none, none] ⟨rfl, by simp [goodSum], by simp [goodSum, hs], none, none, by rw [show fr 0 1 = fr 0 T from fr_eq (by decide) hT (by omega)]; simp [goodSum]⟩
  obtain ⟨_, _, _, j8, j9, e'⟩ := h
  subst e'
  exact ⟨j8, j9, e⟩
theorem chance_kept_eq (S : List Ship) (Ws : List (List Int)) (o : List Nat) (hl : S.length = Ws.length) (hl8 : S.length ≤ 8) (hW : ∀ W ∈ Ws, (∀ x ∈ W, 0 ≤ x) ∧ 0 < W.sum ∧ Sm 10 W.sum ∧ W.length ≤ 4) (ho : ∀ j ∈ o, j < S.length) (hn : o.Nodup) (hol : o.length ≤ 1000) :
    d_chance_kept [.tuple (S.map shD), .tuple (Ws.map wD), .tuple (o.map fun j => PyData.int (j : Nat))] = some (fr (goodSum S o ((S.zip Ws).foldl stepXT ([([], 1)], 1)).1) ((S.zip Ws).foldl stepXT ([([], 1)], 1)).2) := by
  have hz : (S.zip Ws).length = S.length := by rw [List.length_zip]; omega
  obtain ⟨j5, j6, j7, gx, e1⟩ := kept_loop1 S Ws hW (by omega) (some (.tuple (S.map shD))) (some (.tuple (Ws.map wD))) (some (.tuple (o.map fun j => PyData.int (j : Nat))))
  generalize (S.zip Ws).foldl stepXT ([([], 1)], 1) = A at *
  obtain ⟨j8, j9, e2⟩ := kept_loop2 S o A.1 A.2 gx.tp (gx.ts.mono (by omega)) gx.pos gx.sum (fun p hp => keeps_eq false S p.1 o ho (fun j hj => by have := gx.len p hp; have := ho j hj; omega) hn hol) (some (.tuple (Ws.map wD))) (some (.list (A.1.map (enX A.2)))) j5 j6 j7
  have hzip : oZipM [.tuple (S.map shD), .tuple (Ws.map wD)] = some ((S.zip Ws).map fun q => .tuple [shD q.1, wD q.2]) := by rw [← zip_map]; rfl
  have w1 := whole_eq 1
  have w0 := whole_eq 0
  simp -implicitDefEqProofs only [d_chance_kept, g_chance_kept, xVar_a, xC_a, xBin_a, xUn_a, tOf_a, tTru_a, tNotP_a, tAndP_a, tOrP_a, tyes_a, tno_a, tYesP_a, xNil_a, xCons_a, xTup_a, xLst_a, xAnd_a, xOr_a, xIf_a, xChain_a, oNo_a, oAt_a, xSl_a, xCall_a, xSeq_a, xIt_a, xLc_a, gSet_a, gTupD_a, gsNil_a, gsCons_a, sNop_a, sBrk_a, sCnt_a, sSeq_a, sRet_a, sIf_a, sSet_a, sTgt_a, sAug_a, sApp_a, sExt_a, sPut_a, sPutK_a, pkO_s, sFor_a, sWhile_a, sPar_a, runD_a, b2_s, c2_s, sqO_nx, sqO_rt, sqO_bk, sqO_ct, ifO_t, ifO_f, stO_s, endO_nx, endO_rt, andO_t, andO_f, orO_t, orO_f, chO_s, chP_t, chP_f, slO_s, atO_i, lcO_s, forO_s, gsO_s, nxO_s, tgO_s, paO_s, apO_s, exO_s, plO_s, ptO_s, dB_b, tru_b, tru_n, tru_i, tru_l, tru_t, is_n, isn_n, nn_n, nn_i, nn_b, nn_t, nn_l, add_ii, add'_ii, sub_ii, neg_i, lt_ii, le_ii, gt_ii, ge_ii, ix_l, ix_t, ix_s, at0, at1, at2, sl_l, sl_t, len_l, len_t, len_s, abs_i, int_i, int_b, max_ii, min_ii, tup_s, lst_s, seq_l, seq_t, sum_s, wipe_n, wipe_c, mul_ii, fdiv_ii, mod_ii, add_ll, add_tt, setAll, mkT, mkL, oNot, List.getD_cons_zero, List.getD_cons_succ, List.length_cons, List.length_nil, List.set_cons_zero, List.set_cons_succ, List.map_cons, List.map_nil, List.replicate, List.cons_append, List.nil_append, List.append_nil, Option.bind_some, Option.map_some, List.all_cons, List.all_nil, if_true, if_false, reduceIte, Nat.reduceAdd, Nat.reduceSub, Nat.reduceLT, Nat.reduceLeDiff, Nat.reduceEqDiff, decide_true, decide_false, Bool.and_true, Bool.and_self, Bool.true_and, Bool.not_true, Bool.not_false, ne_eq, not_true_eq_false, not_false_eq_true, Nat.zero_add, Bool.false_eq_true, and_self, true_and, and_true, w1, w0, hzip, e1, e2]
end K13

namespace K13
open PySem PySem.Spec PyProof.Rows L2 Pm
def hi2 (S : List Ship) : List Int := S.map fun s => s.2.2.1
def lo1 (S : List Ship) : List Int := S.map fun s => s.2.1
structure OkS (n : Nat) (S : List Ship) : Prop where
  len : S.length = n
  z : ∀ s ∈ S, s.1 = 0
  lo : ∀ s ∈ S, 0 ≤ s.2.1
  hi : ∀ s ∈ S, 0 ≤ s.2.2.1
theorem OkS.h0 {n : Nat} {S : List Ship} (h : OkS n S) : ∀ x ∈ hi2 S, 0 ≤ x := fun x hx => by
  obtain ⟨s, hs, rfl⟩ := List.mem_map.mp hx
  exact h.hi s hs
theorem OkS.l0 {n : Nat} {S : List Ship} (h : OkS n S) : ∀ x ∈ lo1 S, 0 ≤ x := fun x hx => by
  obtain ⟨s, hs, rfl⟩ := List.mem_map.mp hx
  exact h.lo s hs
theorem pr_lt {o : List Nat} {n : Nat} (ho : o.Perm (List.range n)) : ∀ x ∈ o, x < n := fun x hx => List.mem_range.mp (ho.mem_iff.mp hx)
theorem pr_nd {o : List Nat} {n : Nat} (ho : o.Perm (List.range n)) : o.Nodup := ho.nodup_iff.mpr List.nodup_range
theorem pr_len {o : List Nat} {n : Nat} (ho : o.Perm (List.range n)) : o.length = n := by rw [ho.length_eq, List.length_range]
theorem kw_eq (b : Bool) {S : List Ship} {w : List Int} {o : List Nat} {n : Nat} (hS : OkS n S) (hn : n ≤ 100) (hw : w.length = n) (hw0 : ∀ x ∈ w, 0 ≤ x) (ho : o.Perm (List.range n)) :
    d_keeps_with [.tuple (S.map shD), sqD b (w.map PyData.int), oD o] = some (.bool (kp w (prm S) 0 o)) := by
  have h := keeps_eq b S w o (fun j hj => by rw [hS.len]; exact pr_lt ho j hj) (fun j hj => by rw [hw]; exact pr_lt ho j hj) (pr_nd ho) (by rw [pr_len ho]; omega)
  have e : keeps0 S w o = kp w (prm S) 0 o := keeps0_kp S w hS.z hw0 o 0 (Int.le_refl 0)
  rw [e] at h
  exact h
theorem keeps_surely_eq {S : List Ship} {o : List Nat} {n : Nat} (hS : OkS n S) (hn : n ≤ 100) (ho : o.Perm (List.range n)) :
    d_keeps_surely [.tuple (S.map shD), oD o] = some (.bool (kp (hi2 S) (prm S) 0 o)) := by
  have h := kw_eq true hS hn (w := hi2 S) (by simp [hi2, hS.len]) hS.h0 ho
  have hm : lcL (gSet 2) tYesP (xBin oIx (xVar 2) (xC (.int 2))) [some (.tuple (S.map shD)), some (oD o), none] (S.map shD) = some (S.map fun s => .int s.2.2.1) :=
    lcL_map _ _ _ fun s _ => by simp -implicitDefEqProofs only [xVar_a, xC_a, xBin_a, xUn_a, tOf_a, tTru_a, tNotP_a, tAndP_a, tOrP_a, tyes_a, tno_a, tYesP_a, xNil_a, xCons_a, xTup_a, xLst_a, xAnd_a, xOr_a, xIf_a, xChain_a, oNo_a, oAt_a, xSl_a, xCall_a, xSeq_a, xIt_a, xLc_a, gSet_a, gTupD_a, gsNil_a, gsCons_a, sNop_a, sBrk_a, sCnt_a, sSeq_a, sRet_a, sIf_a, sSet_a, sTgt_a, sAug_a, sApp_a, sExt_a, sPut_a, sPutK_a, pkO_s, sFor_a, sWhile_a, sPar_a, runD_a, b2_s, c2_s, sqO_nx, sqO_rt, sqO_bk, sqO_ct, ifO_t, ifO_f, stO_s, endO_nx, endO_rt, andO_t, andO_f, orO_t, orO_f, chO_s, chP_t, chP_f, slO_s, atO_i, lcO_s, forO_s, gsO_s, nxO_s, tgO_s, paO_s, apO_s, exO_s, plO_s, ptO_s, dB_b, tru_b, tru_n, tru_i, tru_l, tru_t, is_n, isn_n, nn_n, nn_i, nn_b, nn_t, nn_l, add_ii, add'_ii, sub_ii, neg_i, lt_ii, le_ii, gt_ii, ge_ii, ix_l, ix_t, ix_s, at0, at1, at2, sl_l, sl_t, len_l, len_t, len_s, abs_i, int_i, int_b, max_ii, min_ii, tup_s, lst_s, seq_l, seq_t, sum_s, wipe_n, wipe_c, mul_ii, fdiv_ii, mod_ii, add_ll, add_tt, setAll, mkT, mkL, oNot, List.getD_cons_zero, List.getD_cons_succ, List.length_cons, List.length_nil, List.set_cons_zero, List.set_cons_succ, List.map_cons, List.map_nil, List.replicate, List.cons_append, List.nil_append, List.append_nil, Option.bind_some, Option.map_some, List.all_cons, List.all_nil, if_true, if_false, reduceIte, Nat.reduceAdd, Nat.reduceSub, Nat.reduceLT, Nat.reduceLeDiff, Nat.reduceEqDiff, decide_true, decide_false, Bool.and_true, Bool.and_self, Bool.true_and, Bool.not_true, Bool.not_false, ne_eq, not_true_eq_false, not_false_eq_true, Nat.zero_add, Bool.false_eq_true, and_self, true_and, and_true, shD]
  have e : (S.map fun s => PyData.int s.2.2.1) = (hi2 S).map PyData.int := by rw [hi2, List.map_map]; rfl
  rw [e] at hm
  have h' : d_keeps_with [.tuple (S.map shD), .list ((hi2 S).map PyData.int), oD o] = some (.bool (kp (hi2 S) (prm S) 0 o)) := h
  generalize S.map shD = SD at *
  generalize (hi2 S).map PyData.int = HD at *
  simp -implicitDefEqProofs only [d_keeps_surely, g_keeps_surely, xVar_a, xC_a, xBin_a, xUn_a, tOf_a, tTru_a, tNotP_a, tAndP_a, tOrP_a, tyes_a, tno_a, tYesP_a, xNil_a, xCons_a, xTup_a, xLst_a, xAnd_a, xOr_a, xIf_a, xChain_a, oNo_a, oAt_a, xSl_a, xCall_a, xSeq_a, xIt_a, xLc_a, gSet_a, gTupD_a, gsNil_a, gsCons_a, sNop_a, sBrk_a, sCnt_a, sSeq_a, sRet_a, sIf_a, sSet_a, sTgt_a, sAug_a, sApp_a, sExt_a, sPut_a, sPutK_a, pkO_s, sFor_a, sWhile_a, sPar_a, runD_a, b2_s, c2_s, sqO_nx, sqO_rt, sqO_bk, sqO_ct, ifO_t, ifO_f, stO_s, endO_nx, endO_rt, andO_t, andO_f, orO_t, orO_f, chO_s, chP_t, chP_f, slO_s, atO_i, lcO_s, forO_s, gsO_s, nxO_s, tgO_s, paO_s, apO_s, exO_s, plO_s, ptO_s, dB_b, tru_b, tru_n, tru_i, tru_l, tru_t, is_n, isn_n, nn_n, nn_i, nn_b, nn_t, nn_l, add_ii, add'_ii, sub_ii, neg_i, lt_ii, le_ii, gt_ii, ge_ii, ix_l, ix_t, ix_s, at0, at1, at2, sl_l, sl_t, len_l, len_t, len_s, abs_i, int_i, int_b, max_ii, min_ii, tup_s, lst_s, seq_l, seq_t, sum_s, wipe_n, wipe_c, mul_ii, fdiv_ii, mod_ii, add_ll, add_tt, setAll, mkT, mkL, oNot, List.getD_cons_zero, List.getD_cons_succ, List.length_cons, List.length_nil, List.set_cons_zero, List.set_cons_succ, List.map_cons, List.map_nil, List.replicate, List.cons_append, List.nil_append, List.append_nil, Option.bind_some, Option.map_some, List.all_cons, List.all_nil, if_true, if_false, reduceIte, Nat.reduceAdd, Nat.reduceSub, Nat.reduceLT, Nat.reduceLeDiff, Nat.reduceEqDiff, decide_true, decide_false, Bool.and_true, Bool.and_self, Bool.true_and, Bool.not_true, Bool.not_false, ne_eq, not_true_eq_false, not_false_eq_true, Nat.zero_add, Bool.false_eq_true, and_self, true_and, and_true, hm, h']
theorem may_keep_eq {S : List Ship} {o : List Nat} {n : Nat} (hS : OkS n S) (hn : n ≤ 100) (ho : o.Perm (List.range n)) :
    d_may_keep [.tuple (S.map shD), oD o] = some (.bool (kp (lo1 S) (prm S) 0 o)) := by
  have h := kw_eq true hS hn (w := lo1 S) (by simp [lo1, hS.len]) hS.l0 ho
  have hm : lcL (gSet 2) tYesP (xBin oIx (xVar 2) (xC (.int 1))) [some (.tuple (S.map shD)), some (oD o), none] (S.map shD) = some (S.map fun s => .int s.2.1) :=
    lcL_map _ _ _ fun s _ => by simp -implicitDefEqProofs only [xVar_a, xC_a, xBin_a, xUn_a, tOf_a, tTru_a, tNotP_a, tAndP_a, tOrP_a, tyes_a, tno_a, tYesP_a, xNil_a, xCons_a, xTup_a, xLst_a, xAnd_a, xOr_a, xIf_a, xChain_a, oNo_a, oAt_a, xSl_a, xCall_a, xSeq_a, xIt_a, xLc_a, gSet_a, gTupD_a, gsNil_a, gsCons_a, sNop_a, sBrk_a, sCnt_a, sSeq_a, sRet_a, sIf_a, sSet_a, sTgt_a, sAug_a, sApp_a, sExt_a, sPut_a, sPutK_a, pkO_s, sFor_a, sWhile_a, sPar_a, runD_a, b2_s, c2_s, sqO_nx, sqO_rt, sqO_bk, sqO_ct, ifO_t, ifO_f, stO_s, endO_nx, endO_rt, andO_t, andO_f, orO_t, orO_f, chO_s, chP_t, chP_f, slO_s, atO_i, lcO_s, forO_s, gsO_s, nxO_s, tgO_s, paO_s, apO_s, exO_s, plO_s, ptO_s, dB_b, tru_b, tru_n, tru_i, tru_l, tru_t, is_n, isn_n, nn_n, nn_i, nn_b, nn_t, nn_l, add_ii, add'_ii, sub_ii, neg_i, lt_ii, le_ii, gt_ii, ge_ii, ix_l, ix_t, ix_s, at0, at1, at2, sl_l, sl_t, len_l, len_t, len_s, abs_i, int_i, int_b, max_ii, min_ii, tup_s, lst_s, seq_l, seq_t, sum_s, wipe_n, wipe_c, mul_ii, fdiv_ii, mod_ii, add_ll, add_tt, setAll, mkT, mkL, oNot, List.getD_cons_zero, List.getD_cons_succ, List.length_cons, List.length_nil, List.set_cons_zero, List.set_cons_succ, List.map_cons, List.map_nil, List.replicate, List.cons_append, List.nil_append, List.append_nil, Option.bind_some, Option.map_some, List.all_cons, List.all_nil, if_true, if_false, reduceIte, Nat.reduceAdd, Nat.reduceSub, Nat.reduceLT, Nat.reduceLeDiff, Nat.reduceEqDiff, decide_true, decide_false, Bool.and_true, Bool.and_self, Bool.true_and, Bool.not_true, Bool.not_false, ne_eq, not_true_eq_false, not_false_eq_true, Nat.zero_add, Bool.false_eq_true, and_self, true_and, and_true, shD]
  have e : (S.map fun s => PyData.int s.2.1) = (lo1 S).map PyData.int := by rw [lo1, List.map_map]; rfl
  rw [e] at hm
  have h' : d_keeps_with [.tuple (S.map shD), .list ((lo1 S).map PyData.int), oD o] = some (.bool (kp (lo1 S) (prm S) 0 o)) := h
  generalize S.map shD = SD at *
  generalize (lo1 S).map PyData.int = HD at *
  simp -implicitDefEqProofs only [d_may_keep, g_may_keep, xVar_a, xC_a, xBin_a, xUn_a, tOf_a, tTru_a, tNotP_a, tAndP_a, tOrP_a, tyes_a, tno_a, tYesP_a, xNil_a, xCons_a, xTup_a, xLst_a, xAnd_a, xOr_a, xIf_a, xChain_a, oNo_a, oAt_a, xSl_a, xCall_a, xSeq_a, xIt_a, xLc_a, gSet_a, gTupD_a, gsNil_a, gsCons_a, sNop_a, sBrk_a, sCnt_a, sSeq_a, sRet_a, sIf_a, sSet_a, sTgt_a, sAug_a, sApp_a, sExt_a, sPut_a, sPutK_a, pkO_s, sFor_a, sWhile_a, sPar_a, runD_a, b2_s, c2_s, sqO_nx, sqO_rt, sqO_bk, sqO_ct, ifO_t, ifO_f, stO_s, endO_nx, endO_rt, andO_t, andO_f, orO_t, orO_f, chO_s, chP_t, chP_f, slO_s, atO_i, lcO_s, forO_s, gsO_s, nxO_s, tgO_s, paO_s, apO_s, exO_s, plO_s, ptO_s, dB_b, tru_b, tru_n, tru_i, tru_l, tru_t, is_n, isn_n, nn_n, nn_i, nn_b, nn_t, nn_l, add_ii, add'_ii, sub_ii, neg_i, lt_ii, le_ii, gt_ii, ge_ii, ix_l, ix_t, ix_s, at0, at1, at2, sl_l, sl_t, len_l, len_t, len_s, abs_i, int_i, int_b, max_ii, min_ii, tup_s, lst_s, seq_l, seq_t, sum_s, wipe_n, wipe_c, mul_ii, fdiv_ii, mod_ii, add_ll, add_tt, setAll, mkT, mkL, oNot, List.getD_cons_zero, List.getD_cons_succ, List.length_cons, List.length_nil, List.set_cons_zero, List.set_cons_succ, List.map_cons, List.map_nil, List.replicate, List.cons_append, List.nil_append, List.append_nil, Option.bind_some, Option.map_some, List.all_cons, List.all_nil, if_true, if_false, reduceIte, Nat.reduceAdd, Nat.reduceSub, Nat.reduceLT, Nat.reduceLeDiff, Nat.reduceEqDiff, decide_true, decide_false, Bool.and_true, Bool.and_self, Bool.true_and, Bool.not_true, Bool.not_false, ne_eq, not_true_eq_false, not_false_eq_true, Nat.zero_add, Bool.false_eq_true, and_self, true_and, and_true, hm, h']
end K13

namespace K13
open PySem PySem.Spec PyProof.Rows L2 Pm
open PySem.W (Datum Tup)
def tI (o : List Nat) : Tup Int := ⟨o.map fun j : Nat => (j : Int)⟩
theorem toD_tI (o : List Nat) : Datum.toD (tI o) = oD o := by
  show PyData.tuple ((o.map fun j : Nat => (j : Int)).map Datum.toD) = _
  rw [List.map_map]
  rfl
theorem or_s1 : ((ORD 1).map tI).Pairwise fun a b : Tup Int => Pm.lt' b a = false := by decide +kernel
theorem or_s2 : ((ORD 2).map tI).Pairwise fun a b : Tup Int => Pm.lt' b a = false := by decide +kernel
theorem or_s3 : ((ORD 3).map tI).Pairwise fun a b : Tup Int => Pm.lt' b a = false := by decide +kernel
theorem or_s4 : ((ORD 4).map tI).Pairwise fun a b : Tup Int => Pm.lt' b a = false := by decide +kernel
theorem or_s {n : Nat} (h1 : 1 ≤ n) (h4 : n ≤ 4) : ((ORD n).map tI).Pairwise fun a b : Tup Int => Pm.lt' b a = false := by
  obtain rfl | rfl | rfl | rfl : n = 1 ∨ n = 2 ∨ n = 3 ∨ n = 4 := by omega
  · exact or_s1
  · exact or_s2
  · exact or_s3
  · exact or_s4
theorem perm_sorted {α : Type} [DecidableEq α] [PySem.W.DatumOrd α] [LinD α] : ∀ {a b : List α}, a.Perm b → a.Pairwise (fun x y => Pm.lt' y x = false) → b.Pairwise (fun x y => Pm.lt' y x = false) → a = b
  | [], b, h, _, _ => (List.Perm.nil_eq h)
  | x :: xs, [], h, _, _ => absurd h.length_eq (by simp)
  | x :: xs, y :: ys, h, h1, h2 => by
    obtain ⟨a1, a2⟩ := List.pairwise_cons.mp h1
    obtain ⟨b1, b2⟩ := List.pairwise_cons.mp h2
    have e : x = y := by
      have m1 : x ∈ y :: ys := h.mem_iff.mp (by simp)
      have m2 : y ∈ x :: xs := h.mem_iff.mpr (by simp)
      rcases List.mem_cons.mp m1 with e | m1
      · exact e
      · rcases List.mem_cons.mp m2 with e | m2
        · exact e.symm
        · exact LinD.tri _ _ (b1 x m1) (a1 y m2)
    subst e
    rw [perm_sorted ((List.perm_cons x).mp h) a2 b2]
theorem okSort_tup (l : List (List Nat)) (hne : ∀ o ∈ l, o ≠ []) (hl : l.length ≤ 1000) : okSort (l.map oD) = true := by
  have e : l.map oD = (l.map tI).map Datum.toD := by
    rw [List.map_map]
    exact List.map_congr_left fun o _ => (toD_tI o).symm
  have hA := PySem.W.alikeAll_datum (l.map tI)
  rw [← e] at hA
  unfold okSort
  rw [Bool.and_eq_true, Bool.and_eq_true, Bool.and_eq_true]
  refine ⟨⟨⟨?_, ?_⟩, ?_⟩, ?_⟩
  · rw [List.all_eq_true]
    exact fun x hx => List.all_eq_true.mpr fun y hy => hA.1 x hx y hy
  · rw [List.all_eq_true]
    intro x hx
    obtain ⟨a, _, rfl⟩ := List.mem_map.mp hx
    have h1 := Datum.depth_le (tI a)
    have h2 : Datum.depth (Tup Int) ≤ 20 := by decide
    rw [Bool.and_eq_true, decide_eq_true_eq, ← toD_tI]
    refine ⟨?_, by omega⟩
    unfold shp SeqAt.shaped
    rw [LinD.lay (tI a), Bool.true_and]
    exact decide_eq_true (by omega)
  · rw [List.length_map]
    exact decide_eq_true (by omega)
  · rw [Bool.or_eq_true]
    refine .inl ?_
    rw [List.all_map, List.all_eq_true]
    intro o ho
    have := hne o ho
    cases o with
    | nil => exact absurd rfl this
    | cons a b => rfl
theorem sorted_tup (l : List (List Nat)) (hne : ∀ o ∈ l, o ≠ []) (hl : l.length ≤ 1000) (hs : (l.map tI).Pairwise fun a b : Tup Int => Pm.lt' b a = false) : bSorted [.list (l.map oD)] = some (.list (l.map oD)) := by
  have e : l.map oD = (l.map tI).map Datum.toD := by
    rw [List.map_map]
    exact List.map_congr_left fun o _ => (toD_tI o).symm
  have hm : (l.map tI).mergeSort leB = l.map tI := by
    refine perm_sorted (List.mergeSort_perm _ _) ?_ hs
    have h := List.pairwise_mergeSort (le := (leB : Tup Int → Tup Int → Bool)) (fun a b c h1 h2 => by
      unfold leB at *
      simp only [Bool.not_eq_true'] at *
      exact LinD.trans c b a h2 h1) (fun a b => by
      unfold leB
      rcases LinD.asym a b with h | h
      · rw [h]; simp
      · rw [h]; simp) (l.map tI)
    exact h.imp fun h => by
      unfold leB at h
      simpa using h
  have ok := okSort_tup l hne hl
  show (seqD (.list (l.map oD))).bind (fun ds => if okSort ds then some (PyData.list (ds.mergeSort (PySem.W.dataLe false id))) else none) = _
  rw [seq_l, Option.bind_some, if_pos ok, e, ← PySem.W.sort_maps (r := leB) (s := PySem.W.dataLe false id) (Datum.toD : Tup Int → D) (fun a _ b _ => (dataLe_lt a b).symm), hm]
def good (w p : List Int) (n : Nat) : List (List Nat) := (ORD n).filter (kp w p 0)
theorem good_sorted (w p : List Int) {n : Nat} (h1 : 1 ≤ n) (h4 : n ≤ 4) : ((good w p n).map tI).Pairwise fun a b : Tup Int => Pm.lt' b a = false :=
  (or_s h1 h4).sublist ((List.filter_sublist (p := kp w p 0) (l := ORD n)).map tI)
theorem good_mem {w p : List Int} {n : Nat} {o : List Nat} : o ∈ good w p n ↔ o ∈ ORD n ∧ kp w p 0 o = true := List.mem_filter
theorem good_len (w p : List Int) {n : Nat} (h1 : 1 ≤ n) (h4 : n ≤ 4) : (good w p n).length ≤ 24 := Nat.le_trans (List.length_filter_le ..) (or_l h1 h4).1
theorem ord_ne {n : Nat} (h1 : 1 ≤ n) (h4 : n ≤ 4) : ∀ o ∈ ORD n, o ≠ [] := fun o ho e => by
  have := pr_len (or_p h1 h4 o ho)
  rw [e] at this
  simp at this
  omega
theorem sure_orders_eq {S : List Ship} {n : Nat} (hS : OkS n S) (h1 : 1 ≤ n) (h4 : n ≤ 4) : d_sure_orders [.tuple (S.map shD)] = some (.tuple ((good (hi2 S) (prm S) n).map oD)) := by
  have ha := or_a h1 h4
  have hc : lcL (gSet 1) (tTru (xCall (fun ds => if ds.length = 2 then (d_keeps_surely) ds else none) (xCons (xVar 0) (xCons (xVar 1) xNil)))) (xVar 1) [some (.tuple (S.map shD)), none] ((ORD n).map oD) = some ((good (hi2 S) (prm S) n).map oD) := by
    refine lcL_filter _ _ (kp (hi2 S) (prm S) 0) _ fun o ho => ?_
    have hk := keeps_surely_eq hS (by omega) (or_p h1 h4 o ho)
    generalize S.map shD = SD at *
    exact ⟨[some (.tuple SD), some (oD o)], rfl, by simp -implicitDefEqProofs only [xVar_a, xC_a, xBin_a, xUn_a, tOf_a, tTru_a, tNotP_a, tAndP_a, tOrP_a, tyes_a, tno_a, tYesP_a, xNil_a, xCons_a, xTup_a, xLst_a, xAnd_a, xOr_a, xIf_a, xChain_a, oNo_a, oAt_a, xSl_a, xCall_a, xSeq_a, xIt_a, xLc_a, gSet_a, gTupD_a, gsNil_a, gsCons_a, sNop_a, sBrk_a, sCnt_a, sSeq_a, sRet_a, sIf_a, sSet_a, sTgt_a, sAug_a, sApp_a, sExt_a, sPut_a, sPutK_a, pkO_s, sFor_a, sWhile_a, sPar_a, runD_a, b2_s, c2_s, sqO_nx, sqO_rt, sqO_bk, sqO_ct, ifO_t, ifO_f, stO_s, endO_nx, endO_rt, andO_t, andO_f, orO_t, orO_f, chO_s, chP_t, chP_f, slO_s, atO_i, lcO_s, forO_s, gsO_s, nxO_s, tgO_s, paO_s, apO_s, exO_s, plO_s, ptO_s, dB_b, tru_b, tru_n, tru_i, tru_l, tru_t, is_n, isn_n, nn_n, nn_i, nn_b, nn_t, nn_l, add_ii, add'_ii, sub_ii, neg_i, lt_ii, le_ii, gt_ii, ge_ii, ix_l, ix_t, ix_s, at0, at1, at2, sl_l, sl_t, len_l, len_t, len_s, abs_i, int_i, int_b, max_ii, min_ii, tup_s, lst_s, seq_l, seq_t, sum_s, wipe_n, wipe_c, mul_ii, fdiv_ii, mod_ii, add_ll, add_tt, setAll, mkT, mkL, oNot, List.getD_cons_zero, List.getD_cons_succ, List.length_cons, List.length_nil, List.set_cons_zero, List.set_cons_succ, List.map_cons, List.map_nil, List.replicate, List.cons_append, List.nil_append, List.append_nil, Option.bind_some, Option.map_some, List.all_cons, List.all_nil, if_true, if_false, reduceIte, Nat.reduceAdd, Nat.reduceSub, Nat.reduceLT, Nat.reduceLeDiff, Nat.reduceEqDiff, decide_true, decide_false, Bool.and_true, Bool.and_self, Bool.true_and, Bool.not_true, Bool.not_false, ne_eq, not_true_eq_false, not_false_eq_true, Nat.zero_add, Bool.false_eq_true, and_self, true_and, and_true, hk], fun _ => rfl⟩
  have hs := sorted_tup (good (hi2 S) (prm S) n) (fun o ho => ord_ne h1 h4 o (good_mem.mp ho).1) (Nat.le_trans (good_len _ _ h1 h4) (by omega)) (good_sorted _ _ h1 h4)
  have hl : (S.map shD).length = n := by simpa using hS.len
  generalize S.map shD = SD at *
  simp -implicitDefEqProofs only [d_sure_orders, g_sure_orders, xVar_a, xC_a, xBin_a, xUn_a, tOf_a, tTru_a, tNotP_a, tAndP_a, tOrP_a, tyes_a, tno_a, tYesP_a, xNil_a, xCons_a, xTup_a, xLst_a, xAnd_a, xOr_a, xIf_a, xChain_a, oNo_a, oAt_a, xSl_a, xCall_a, xSeq_a, xIt_a, xLc_a, gSet_a, gTupD_a, gsNil_a, gsCons_a, sNop_a, sBrk_a, sCnt_a, sSeq_a, sRet_a, sIf_a, sSet_a, sTgt_a, sAug_a, sApp_a, sExt_a, sPut_a, sPutK_a, pkO_s, sFor_a, sWhile_a, sPar_a, runD_a, b2_s, c2_s, sqO_nx, sqO_rt, sqO_bk, sqO_ct, ifO_t, ifO_f, stO_s, endO_nx, endO_rt, andO_t, andO_f, orO_t, orO_f, chO_s, chP_t, chP_f, slO_s, atO_i, lcO_s, forO_s, gsO_s, nxO_s, tgO_s, paO_s, apO_s, exO_s, plO_s, ptO_s, dB_b, tru_b, tru_n, tru_i, tru_l, tru_t, is_n, isn_n, nn_n, nn_i, nn_b, nn_t, nn_l, add_ii, add'_ii, sub_ii, neg_i, lt_ii, le_ii, gt_ii, ge_ii, ix_l, ix_t, ix_s, at0, at1, at2, sl_l, sl_t, len_l, len_t, len_s, abs_i, int_i, int_b, max_ii, min_ii, tup_s, lst_s, seq_l, seq_t, sum_s, wipe_n, wipe_c, mul_ii, fdiv_ii, mod_ii, add_ll, add_tt, setAll, mkT, mkL, oNot, List.getD_cons_zero, List.getD_cons_succ, List.length_cons, List.length_nil, List.set_cons_zero, List.set_cons_succ, List.map_cons, List.map_nil, List.replicate, List.cons_append, List.nil_append, List.append_nil, Option.bind_some, Option.map_some, List.all_cons, List.all_nil, if_true, if_false, reduceIte, Nat.reduceAdd, Nat.reduceSub, Nat.reduceLT, Nat.reduceLeDiff, Nat.reduceEqDiff, decide_true, decide_false, Bool.and_true, Bool.and_self, Bool.true_and, Bool.not_true, Bool.not_false, ne_eq, not_true_eq_false, not_false_eq_true, Nat.zero_add, Bool.false_eq_true, and_self, true_and, and_true, hl, ha, hc, hs]
theorem ends_kw (b : Bool) {S : List Ship} {w : List Int} {o : List Nat} {n : Nat} (hS : OkS n S) (hn : n ≤ 100) (hw : w.length = n) (hw0 : ∀ x ∈ w, 0 ≤ x) (ho : o.Perm (List.range n)) :
    ∃ kd, d_ends_in [.tuple (S.map shD), sqD b (w.map PyData.int), oD o] = some (.dict kd) ∧ ∀ k, k < n → oIxK (.dict kd) (.int (k : Nat)) = some (.int (ev w 0 o k)) := by
  have h := ends_in_eq b S w o (fun j hj => by rw [hS.len]; exact pr_lt ho j hj) (fun j hj => by rw [hw]; exact pr_lt ho j hj) (pr_nd ho) (by rw [pr_len ho]; omega)
  refine ⟨_, h, fun k hk => ?_⟩
  have hk' : k ∈ o := ho.mem_iff.mpr (List.mem_range.mpr hk)
  have hg := get_encK (ends0 S w 0 o) (by rw [ends0_fst]; exact pr_nd ho) _ (ends0_ev S w hS.z hw0 o 0 (Int.le_refl 0) k hk')
  show (if ((encK (ends0 S w 0 o)).any fun p => isNone p.1) then none else dGetD _ _) = _
  rw [none_encK, if_neg Bool.false_ne_true, hg]
theorem lc_hi (S : List Ship) (a b c : Option D) (i : Nat) (l : List (Option D)) : (S.map fun s => PyData.int s.2.2.1) = (hi2 S).map PyData.int := by rw [hi2, List.map_map]; rfl
theorem lc_lo (S : List Ship) : (S.map fun s => PyData.int s.2.1) = (lo1 S).map PyData.int := by rw [lo1, List.map_map]; rfl
theorem sure_plan_eq {S : List Ship} {o : List Nat} {n : Nat} (hS : OkS n S) (hn : n ≤ 100) (ho : o.Perm (List.range n)) :
    d_sure_plan [.tuple (S.map shD), oD o] = some (.tuple ((List.range n).map fun k => PyData.int (ev (hi2 S) 0 o k + 1 - (hi2 S).getD k 0))) := by
  obtain ⟨kd, h, hg⟩ := ends_kw true hS hn (w := hi2 S) (by simp [hi2, hS.len]) hS.h0 ho
  have hm : lcL (gSet 3) tYesP (xBin oIx (xVar 3) (xC (.int 2))) [some (.tuple (S.map shD)), some (oD o), none, none, none] (S.map shD) = some ((hi2 S).map PyData.int) := by
    rw [hi2, List.map_map]
    exact lcL_map _ _ _ fun s _ => by simp -implicitDefEqProofs only [xVar_a, xC_a, xBin_a, xUn_a, tOf_a, tTru_a, tNotP_a, tAndP_a, tOrP_a, tyes_a, tno_a, tYesP_a, xNil_a, xCons_a, xTup_a, xLst_a, xAnd_a, xOr_a, xIf_a, xChain_a, oNo_a, oAt_a, xSl_a, xCall_a, xSeq_a, xIt_a, xLc_a, gSet_a, gTupD_a, gsNil_a, gsCons_a, sNop_a, sBrk_a, sCnt_a, sSeq_a, sRet_a, sIf_a, sSet_a, sTgt_a, sAug_a, sApp_a, sExt_a, sPut_a, sPutK_a, pkO_s, sFor_a, sWhile_a, sPar_a, runD_a, b2_s, c2_s, sqO_nx, sqO_rt, sqO_bk, sqO_ct, ifO_t, ifO_f, stO_s, endO_nx, endO_rt, andO_t, andO_f, orO_t, orO_f, chO_s, chP_t, chP_f, slO_s, atO_i, lcO_s, forO_s, gsO_s, nxO_s, tgO_s, paO_s, apO_s, exO_s, plO_s, ptO_s, dB_b, tru_b, tru_n, tru_i, tru_l, tru_t, is_n, isn_n, nn_n, nn_i, nn_b, nn_t, nn_l, add_ii, add'_ii, sub_ii, neg_i, lt_ii, le_ii, gt_ii, ge_ii, ix_l, ix_t, ix_s, at0, at1, at2, sl_l, sl_t, len_l, len_t, len_s, abs_i, int_i, int_b, max_ii, min_ii, tup_s, lst_s, seq_l, seq_t, sum_s, wipe_n, wipe_c, mul_ii, fdiv_ii, mod_ii, add_ll, add_tt, setAll, mkT, mkL, oNot, List.getD_cons_zero, List.getD_cons_succ, List.length_cons, List.length_nil, List.set_cons_zero, List.set_cons_succ, List.map_cons, List.map_nil, List.replicate, List.cons_append, List.nil_append, List.append_nil, Option.bind_some, Option.map_some, List.all_cons, List.all_nil, if_true, if_false, reduceIte, Nat.reduceAdd, Nat.reduceSub, Nat.reduceLT, Nat.reduceLeDiff, Nat.reduceEqDiff, decide_true, decide_false, Bool.and_true, Bool.and_self, Bool.true_and, Bool.not_true, Bool.not_false, ne_eq, not_true_eq_false, not_false_eq_true, Nat.zero_add, Bool.false_eq_true, and_self, true_and, and_true, shD, Function.comp]
  have h' : d_ends_in [.tuple (S.map shD), .list ((hi2 S).map PyData.int), oD o] = some (.dict kd) := h
  have hr := rg0 n (by omega)
  have hl : (S.map shD).length = n := by simpa using hS.len
  have h2 : lcL (gSet 4) tYesP (xBin oSub (xBin oAdd (xBin oIxK (xVar 2) (xVar 4)) (xC (.int 1))) (xBin oIx (xBin oIx (xVar 0) (xVar 4)) (xC (.int 2)))) [some (.tuple (S.map shD)), some (oD o), some (.dict kd), none, none] ((List.range n).map fun k : Nat => PyData.int (k : Nat)) = some ((List.range n).map fun k => PyData.int (ev (hi2 S) 0 o k + 1 - (hi2 S).getD k 0)) := by
    refine lcL_map _ _ _ fun k hk => ?_
    have hk' : k < n := by simpa using hk
    have i1 := at_map shD S (0, 0, 0, 0) k (by rw [hS.len]; exact hk')
    have e1 : (hi2 S).getD k 0 = (S.getD k (0, 0, 0, 0)).2.2.1 := getD_map (fun s : Ship => s.2.2.1) S k (0, 0, 0, 0) 0 rfl
    have g1 := hg k hk'
    rw [e1]
    generalize S.map shD = SD at *
    simp -implicitDefEqProofs only [xVar_a, xC_a, xBin_a, xUn_a, tOf_a, tTru_a, tNotP_a, tAndP_a, tOrP_a, tyes_a, tno_a, tYesP_a, xNil_a, xCons_a, xTup_a, xLst_a, xAnd_a, xOr_a, xIf_a, xChain_a, oNo_a, oAt_a, xSl_a, xCall_a, xSeq_a, xIt_a, xLc_a, gSet_a, gTupD_a, gsNil_a, gsCons_a, sNop_a, sBrk_a, sCnt_a, sSeq_a, sRet_a, sIf_a, sSet_a, sTgt_a, sAug_a, sApp_a, sExt_a, sPut_a, sPutK_a, pkO_s, sFor_a, sWhile_a, sPar_a, runD_a, b2_s, c2_s, sqO_nx, sqO_rt, sqO_bk, sqO_ct, ifO_t, ifO_f, stO_s, endO_nx, endO_rt, andO_t, andO_f, orO_t, orO_f, chO_s, chP_t, chP_f, slO_s, atO_i, lcO_s, forO_s, gsO_s, nxO_s, tgO_s, paO_s, apO_s, exO_s, plO_s, ptO_s, dB_b, tru_b, tru_n, tru_i, tru_l, tru_t, is_n, isn_n, nn_n, nn_i, nn_b, nn_t, nn_l, add_ii, add'_ii, sub_ii, neg_i, lt_ii, le_ii, gt_ii, ge_ii, ix_l, ix_t, ix_s, at0, at1, at2, sl_l, sl_t, len_l, len_t, len_s, abs_i, int_i, int_b, max_ii, min_ii, tup_s, lst_s, seq_l, seq_t, sum_s, wipe_n, wipe_c, mul_ii, fdiv_ii, mod_ii, add_ll, add_tt, setAll, mkT, mkL, oNot, List.getD_cons_zero, List.getD_cons_succ, List.length_cons, List.length_nil, List.set_cons_zero, List.set_cons_succ, List.map_cons, List.map_nil, List.replicate, List.cons_append, List.nil_append, List.append_nil, Option.bind_some, Option.map_some, List.all_cons, List.all_nil, if_true, if_false, reduceIte, Nat.reduceAdd, Nat.reduceSub, Nat.reduceLT, Nat.reduceLeDiff, Nat.reduceEqDiff, decide_true, decide_false, Bool.and_true, Bool.and_self, Bool.true_and, Bool.not_true, Bool.not_false, ne_eq, not_true_eq_false, not_false_eq_true, Nat.zero_add, Bool.false_eq_true, and_self, true_and, and_true, g1, i1, shD]
  generalize S.map shD = SD at *
  generalize (hi2 S).map PyData.int = HD at *
  generalize (List.range n).map (fun k : Nat => PyData.int (k : Nat)) = R at *
  simp -implicitDefEqProofs only [d_sure_plan, g_sure_plan, xVar_a, xC_a, xBin_a, xUn_a, tOf_a, tTru_a, tNotP_a, tAndP_a, tOrP_a, tyes_a, tno_a, tYesP_a, xNil_a, xCons_a, xTup_a, xLst_a, xAnd_a, xOr_a, xIf_a, xChain_a, oNo_a, oAt_a, xSl_a, xCall_a, xSeq_a, xIt_a, xLc_a, gSet_a, gTupD_a, gsNil_a, gsCons_a, sNop_a, sBrk_a, sCnt_a, sSeq_a, sRet_a, sIf_a, sSet_a, sTgt_a, sAug_a, sApp_a, sExt_a, sPut_a, sPutK_a, pkO_s, sFor_a, sWhile_a, sPar_a, runD_a, b2_s, c2_s, sqO_nx, sqO_rt, sqO_bk, sqO_ct, ifO_t, ifO_f, stO_s, endO_nx, endO_rt, andO_t, andO_f, orO_t, orO_f, chO_s, chP_t, chP_f, slO_s, atO_i, lcO_s, forO_s, gsO_s, nxO_s, tgO_s, paO_s, apO_s, exO_s, plO_s, ptO_s, dB_b, tru_b, tru_n, tru_i, tru_l, tru_t, is_n, isn_n, nn_n, nn_i, nn_b, nn_t, nn_l, add_ii, add'_ii, sub_ii, neg_i, lt_ii, le_ii, gt_ii, ge_ii, ix_l, ix_t, ix_s, at0, at1, at2, sl_l, sl_t, len_l, len_t, len_s, abs_i, int_i, int_b, max_ii, min_ii, tup_s, lst_s, seq_l, seq_t, sum_s, wipe_n, wipe_c, mul_ii, fdiv_ii, mod_ii, add_ll, add_tt, setAll, mkT, mkL, oNot, List.getD_cons_zero, List.getD_cons_succ, List.length_cons, List.length_nil, List.set_cons_zero, List.set_cons_succ, List.map_cons, List.map_nil, List.replicate, List.cons_append, List.nil_append, List.append_nil, Option.bind_some, Option.map_some, List.all_cons, List.all_nil, if_true, if_false, reduceIte, Nat.reduceAdd, Nat.reduceSub, Nat.reduceLT, Nat.reduceLeDiff, Nat.reduceEqDiff, decide_true, decide_false, Bool.and_true, Bool.and_self, Bool.true_and, Bool.not_true, Bool.not_false, ne_eq, not_true_eq_false, not_false_eq_true, Nat.zero_add, Bool.false_eq_true, and_self, true_and, and_true, hm, h', hl, hr, h2]
theorem end_bounds_eq {S : List Ship} {o : List Nat} {n : Nat} (hS : OkS n S) (hn : n ≤ 100) (ho : o.Perm (List.range n)) :
    d_end_bounds [.tuple (S.map shD), oD o] = some (.tuple ((List.range n).map fun k => .tuple [.int (ev (lo1 S) 0 o k), .int (ev (hi2 S) 0 o k)])) := by
  obtain ⟨kd, h, hg⟩ := ends_kw true hS hn (w := hi2 S) (by simp [hi2, hS.len]) hS.h0 ho
  obtain ⟨kd2, hb, hg2⟩ := ends_kw true hS hn (w := lo1 S) (by simp [lo1, hS.len]) hS.l0 ho
  have hm1 : ∀ x, lcL (gSet 4) tYesP (xBin oIx (xVar 4) (xC (.int 1))) [some (.tuple (S.map shD)), some (oD o), x, none, none, none] (S.map shD) = some ((lo1 S).map PyData.int) := fun x => by
    rw [lo1, List.map_map]
    exact lcL_map _ _ _ fun s _ => by simp -implicitDefEqProofs only [xVar_a, xC_a, xBin_a, xUn_a, tOf_a, tTru_a, tNotP_a, tAndP_a, tOrP_a, tyes_a, tno_a, tYesP_a, xNil_a, xCons_a, xTup_a, xLst_a, xAnd_a, xOr_a, xIf_a, xChain_a, oNo_a, oAt_a, xSl_a, xCall_a, xSeq_a, xIt_a, xLc_a, gSet_a, gTupD_a, gsNil_a, gsCons_a, sNop_a, sBrk_a, sCnt_a, sSeq_a, sRet_a, sIf_a, sSet_a, sTgt_a, sAug_a, sApp_a, sExt_a, sPut_a, sPutK_a, pkO_s, sFor_a, sWhile_a, sPar_a, runD_a, b2_s, c2_s, sqO_nx, sqO_rt, sqO_bk, sqO_ct, ifO_t, ifO_f, stO_s, endO_nx, endO_rt, andO_t, andO_f, orO_t, orO_f, chO_s, chP_t, chP_f, slO_s, atO_i, lcO_s, forO_s, gsO_s, nxO_s, tgO_s, paO_s, apO_s, exO_s, plO_s, ptO_s, dB_b, tru_b, tru_n, tru_i, tru_l, tru_t, is_n, isn_n, nn_n, nn_i, nn_b, nn_t, nn_l, add_ii, add'_ii, sub_ii, neg_i, lt_ii, le_ii, gt_ii, ge_ii, ix_l, ix_t, ix_s, at0, at1, at2, sl_l, sl_t, len_l, len_t, len_s, abs_i, int_i, int_b, max_ii, min_ii, tup_s, lst_s, seq_l, seq_t, sum_s, wipe_n, wipe_c, mul_ii, fdiv_ii, mod_ii, add_ll, add_tt, setAll, mkT, mkL, oNot, List.getD_cons_zero, List.getD_cons_succ, List.length_cons, List.length_nil, List.set_cons_zero, List.set_cons_succ, List.map_cons, List.map_nil, List.replicate, List.cons_append, List.nil_append, List.append_nil, Option.bind_some, Option.map_some, List.all_cons, List.all_nil, if_true, if_false, reduceIte, Nat.reduceAdd, Nat.reduceSub, Nat.reduceLT, Nat.reduceLeDiff, Nat.reduceEqDiff, decide_true, decide_false, Bool.and_true, Bool.and_self, Bool.true_and, Bool.not_true, Bool.not_false, ne_eq, not_true_eq_false, not_false_eq_true, Nat.zero_add, Bool.false_eq_true, and_self, true_and, and_true, shD, Function.comp]
  have hm2 : ∀ x, lcL (gSet 4) tYesP (xBin oIx (xVar 4) (xC (.int 2))) [some (.tuple (S.map shD)), some (oD o), x, none, none, none] (S.map shD) = some ((hi2 S).map PyData.int) := fun x => by
    rw [hi2, List.map_map]
    exact lcL_map _ _ _ fun s _ => by simp -implicitDefEqProofs only [xVar_a, xC_a, xBin_a, xUn_a, tOf_a, tTru_a, tNotP_a, tAndP_a, tOrP_a, tyes_a, tno_a, tYesP_a, xNil_a, xCons_a, xTup_a, xLst_a, xAnd_a, xOr_a, xIf_a, xChain_a, oNo_a, oAt_a, xSl_a, xCall_a, xSeq_a, xIt_a, xLc_a, gSet_a, gTupD_a, gsNil_a, gsCons_a, sNop_a, sBrk_a, sCnt_a, sSeq_a, sRet_a, sIf_a, sSet_a, sTgt_a, sAug_a, sApp_a, sExt_a, sPut_a, sPutK_a, pkO_s, sFor_a, sWhile_a, sPar_a, runD_a, b2_s, c2_s, sqO_nx, sqO_rt, sqO_bk, sqO_ct, ifO_t, ifO_f, stO_s, endO_nx, endO_rt, andO_t, andO_f, orO_t, orO_f, chO_s, chP_t, chP_f, slO_s, atO_i, lcO_s, forO_s, gsO_s, nxO_s, tgO_s, paO_s, apO_s, exO_s, plO_s, ptO_s, dB_b, tru_b, tru_n, tru_i, tru_l, tru_t, is_n, isn_n, nn_n, nn_i, nn_b, nn_t, nn_l, add_ii, add'_ii, sub_ii, neg_i, lt_ii, le_ii, gt_ii, ge_ii, ix_l, ix_t, ix_s, at0, at1, at2, sl_l, sl_t, len_l, len_t, len_s, abs_i, int_i, int_b, max_ii, min_ii, tup_s, lst_s, seq_l, seq_t, sum_s, wipe_n, wipe_c, mul_ii, fdiv_ii, mod_ii, add_ll, add_tt, setAll, mkT, mkL, oNot, List.getD_cons_zero, List.getD_cons_succ, List.length_cons, List.length_nil, List.set_cons_zero, List.set_cons_succ, List.map_cons, List.map_nil, List.replicate, List.cons_append, List.nil_append, List.append_nil, Option.bind_some, Option.map_some, List.all_cons, List.all_nil, if_true, if_false, reduceIte, Nat.reduceAdd, Nat.reduceSub, Nat.reduceLT, Nat.reduceLeDiff, Nat.reduceEqDiff, decide_true, decide_false, Bool.and_true, Bool.and_self, Bool.true_and, Bool.not_true, Bool.not_false, ne_eq, not_true_eq_false, not_false_eq_true, Nat.zero_add, Bool.false_eq_true, and_self, true_and, and_true, shD, Function.comp]
  have h' : d_ends_in [.tuple (S.map shD), .list ((hi2 S).map PyData.int), oD o] = some (.dict kd) := h
  have hb' : d_ends_in [.tuple (S.map shD), .list ((lo1 S).map PyData.int), oD o] = some (.dict kd2) := hb
  have hr := rg0 n (by omega)
  have hl : (S.map shD).length = n := by simpa using hS.len
  have h2 : lcL (gSet 5) tYesP (xTup (xCons (xBin oIxK (xVar 2) (xVar 5)) (xCons (xBin oIxK (xVar 3) (xVar 5)) xNil))) [some (.tuple (S.map shD)), some (oD o), some (.dict kd2), some (.dict kd), none, none] ((List.range n).map fun k : Nat => PyData.int (k : Nat)) = some ((List.range n).map fun k => .tuple [.int (ev (lo1 S) 0 o k), .int (ev (hi2 S) 0 o k)]) := by
    refine lcL_map _ _ _ fun k hk => ?_
    have hk' : k < n := by simpa using hk
    have g1 := hg k hk'
    have g2 := hg2 k hk'
    simp -implicitDefEqProofs only [xVar_a, xC_a, xBin_a, xUn_a, tOf_a, tTru_a, tNotP_a, tAndP_a, tOrP_a, tyes_a, tno_a, tYesP_a, xNil_a, xCons_a, xTup_a, xLst_a, xAnd_a, xOr_a, xIf_a, xChain_a, oNo_a, oAt_a, xSl_a, xCall_a, xSeq_a, xIt_a, xLc_a, gSet_a, gTupD_a, gsNil_a, gsCons_a, sNop_a, sBrk_a, sCnt_a, sSeq_a, sRet_a, sIf_a, sSet_a, sTgt_a, sAug_a, sApp_a, sExt_a, sPut_a, sPutK_a, pkO_s, sFor_a, sWhile_a, sPar_a, runD_a, b2_s, c2_s, sqO_nx, sqO_rt, sqO_bk, sqO_ct, ifO_t, ifO_f, stO_s, endO_nx, endO_rt, andO_t, andO_f, orO_t, orO_f, chO_s, chP_t, chP_f, slO_s, atO_i, lcO_s, forO_s, gsO_s, nxO_s, tgO_s, paO_s, apO_s, exO_s, plO_s, ptO_s, dB_b, tru_b, tru_n, tru_i, tru_l, tru_t, is_n, isn_n, nn_n, nn_i, nn_b, nn_t, nn_l, add_ii, add'_ii, sub_ii, neg_i, lt_ii, le_ii, gt_ii, ge_ii, ix_l, ix_t, ix_s, at0, at1, at2, sl_l, sl_t, len_l, len_t, len_s, abs_i, int_i, int_b, max_ii, min_ii, tup_s, lst_s, seq_l, seq_t, sum_s, wipe_n, wipe_c, mul_ii, fdiv_ii, mod_ii, add_ll, add_tt, setAll, mkT, mkL, oNot, List.getD_cons_zero, List.getD_cons_succ, List.length_cons, List.length_nil, List.set_cons_zero, List.set_cons_succ, List.map_cons, List.map_nil, List.replicate, List.cons_append, List.nil_append, List.append_nil, Option.bind_some, Option.map_some, List.all_cons, List.all_nil, if_true, if_false, reduceIte, Nat.reduceAdd, Nat.reduceSub, Nat.reduceLT, Nat.reduceLeDiff, Nat.reduceEqDiff, decide_true, decide_false, Bool.and_true, Bool.and_self, Bool.true_and, Bool.not_true, Bool.not_false, ne_eq, not_true_eq_false, not_false_eq_true, Nat.zero_add, Bool.false_eq_true, and_self, true_and, and_true, g1, g2]
  generalize S.map shD = SD at *
  generalize (hi2 S).map PyData.int = HD at *
  generalize (lo1 S).map PyData.int = LD at *
  generalize (List.range n).map (fun k : Nat => PyData.int (k : Nat)) = R at *
  simp -implicitDefEqProofs only [d_end_bounds, g_end_bounds, xVar_a, xC_a, xBin_a, xUn_a, tOf_a, tTru_a, tNotP_a, tAndP_a, tOrP_a, tyes_a, tno_a, tYesP_a, xNil_a, xCons_a, xTup_a, xLst_a, xAnd_a, xOr_a, xIf_a, xChain_a, oNo_a, oAt_a, xSl_a, xCall_a, xSeq_a, xIt_a, xLc_a, gSet_a, gTupD_a, gsNil_a, gsCons_a, sNop_a, sBrk_a, sCnt_a, sSeq_a, sRet_a, sIf_a, sSet_a, sTgt_a, sAug_a, sApp_a, sExt_a, sPut_a, sPutK_a, pkO_s, sFor_a, sWhile_a, sPar_a, runD_a, b2_s, c2_s, sqO_nx, sqO_rt, sqO_bk, sqO_ct, ifO_t, ifO_f, stO_s, endO_nx, endO_rt, andO_t, andO_f, orO_t, orO_f, chO_s, chP_t, chP_f, slO_s, atO_i, lcO_s, forO_s, gsO_s, nxO_s, tgO_s, paO_s, apO_s, exO_s, plO_s, ptO_s, dB_b, tru_b, tru_n, tru_i, tru_l, tru_t, is_n, isn_n, nn_n, nn_i, nn_b, nn_t, nn_l, add_ii, add'_ii, sub_ii, neg_i, lt_ii, le_ii, gt_ii, ge_ii, ix_l, ix_t, ix_s, at0, at1, at2, sl_l, sl_t, len_l, len_t, len_s, abs_i, int_i, int_b, max_ii, min_ii, tup_s, lst_s, seq_l, seq_t, sum_s, wipe_n, wipe_c, mul_ii, fdiv_ii, mod_ii, add_ll, add_tt, setAll, mkT, mkL, oNot, List.getD_cons_zero, List.getD_cons_succ, List.length_cons, List.length_nil, List.set_cons_zero, List.set_cons_succ, List.map_cons, List.map_nil, List.replicate, List.cons_append, List.nil_append, List.append_nil, Option.bind_some, Option.map_some, List.all_cons, List.all_nil, if_true, if_false, reduceIte, Nat.reduceAdd, Nat.reduceSub, Nat.reduceLT, Nat.reduceLeDiff, Nat.reduceEqDiff, decide_true, decide_false, Bool.and_true, Bool.and_self, Bool.true_and, Bool.not_true, Bool.not_false, ne_eq, not_true_eq_false, not_false_eq_true, Nat.zero_add, Bool.false_eq_true, and_self, true_and, and_true, hm1, hm2, h', hb', hl, hr, h2]
end K13

namespace K13
open PySem PySem.Spec PyProof.Rows L2 Pm
open PySem.W (Datum Tup)
def dyW (W : List Ship) : List Int := W.map fun q => q.1
def lt0 (q : Ship) (e : Int) : Int := if e - q.2.1 > 0 then e - q.2.1 else 0
def pay (q : Ship) (e : Int) : Int := if lt0 q e * q.2.2.1 < q.2.2.2 then lt0 q e * q.2.2.1 else q.2.2.2
structure OkW (n : Nat) (W : List Ship) : Prop where
  len : W.length = n
  dy : ∀ q ∈ W, 0 ≤ q.1
  rt : ∀ q ∈ W, 1 ≤ q.2.2.1 ∧ q.2.2.1 ≤ 1000
  cp : ∀ q ∈ W, 1 ≤ q.2.2.2
theorem getD_mem {α : Type} (l : List α) (k : Nat) (a : α) (h : k < l.length) : l.getD k a ∈ l := by simp [h]
def PO (W : List Ship) (o : List Nat) (n : Nat) : List Int := (List.range n).map fun k => pay (W.getD k (0, 0, 0, 0)) (ev (dyW W) 0 o k)
theorem dyW_at (W : List Ship) (k : Nat) : (dyW W).getD k 0 = (W.getD k (0, 0, 0, 0)).1 := getD_map (fun q : Ship => q.1) W k (0, 0, 0, 0) 0 rfl
theorem late_pay_eq {W : List Ship} {o : List Nat} {n : Nat} (hW : OkW n W) (hn : n ≤ 100) (ho : o.Perm (List.range n)) :
    d_late_pay [.tuple (W.map shD), oD o] = some (.tuple ((PO W o n).map PyData.int)) := by
  have hnd := pr_nd ho
  have hlt := pr_lt ho
  obtain ⟨ρ', e, h⟩ := forL_inv (g := gSet 2) (b := l1_late_pay) (fun j : Nat => PyData.int (j : Nat))
    (fun pre rest ρ => pre ++ rest = o ∧ ∃ jv x5 x6 x7 x8, ρ = [some (.tuple (W.map shD)), some (oD o), jv, some (.int (tm (dyW W) 0 pre)), some (.list ((List.range n).map fun k => PyData.int (if k ∈ pre then pay (W.getD k (0, 0, 0, 0)) (ev (dyW W) 0 o k) else 0))), x5, x6, x7, x8]) (fun pre x rest ρ ⟨hp, jv, x5, x6, x7, x8, e⟩ => by
      subst e
      have hx : x ∈ o := by rw [← hp]; simp
      have hxp : x ∉ pre := by
        rw [← hp] at hnd
        have := (List.nodup_append.mp hnd).2.2
        exact fun hm => this x hm x (by simp) rfl
      have hxn := hlt x hx
      have i1 := at_map shD W (0, 0, 0, 0) x (by rw [hW.len]; exact hxn)
      have hE : ev (dyW W) 0 o x = tm (dyW W) 0 pre + (W.getD x (0, 0, 0, 0)).1 - 1 := by rw [← dyW_at, ← hp]; exact ev_mid (dyW W) pre 0 rest x hxp
      have hrt := hW.rt _ (getD_mem W x (0, 0, 0, 0) (by rw [hW.len]; exact hxn))
      have hset : ((List.range n).map fun k => PyData.int (if k ∈ pre then pay (W.getD k (0, 0, 0, 0)) (ev (dyW W) 0 o k) else 0)).set x (.int (pay (W.getD x (0, 0, 0, 0)) (tm (dyW W) 0 pre + (W.getD x (0, 0, 0, 0)).1 - 1))) = (List.range n).map fun k => PyData.int (if k ∈ pre ++ [x] then pay (W.getD k (0, 0, 0, 0)) (ev (dyW W) 0 o k) else 0) := by
        rw [set_rng]
        refine List.map_congr_left fun k _ => ?_
        by_cases hk : k = x
        · subst hk
          simp [hE]
        · simp [hk]
      have hlen : ((List.range n).map fun k => PyData.int (if k ∈ pre then pay (W.getD k (0, 0, 0, 0)) (ev (dyW W) 0 o k) else 0)).length = n := by simp
      refine ⟨_, [some (.tuple (W.map shD)), some (oD o), some (.int x), some (.int (tm (dyW W) 0 (pre ++ [x]))), some (.list ((List.range n).map fun k => PyData.int (if k ∈ pre ++ [x] then pay (W.getD k (0, 0, 0, 0)) (ev (dyW W) 0 o k) else 0))), some (.int (W.getD x (0, 0, 0, 0)).1), some (.int (W.getD x (0, 0, 0, 0)).2.1), some (.int (W.getD x (0, 0, 0, 0)).2.2.1), some (.int (W.getD x (0, 0, 0, 0)).2.2.2)], rfl, .inl ?_, by rw [List.append_assoc]; exact hp, some (.int x), _, _, _, _, rfl⟩
      rw [tm_snoc, dyW_at]
      have hix := ixN_nat n x hxn
      generalize ((List.range n).map fun k => PyData.int (if k ∈ pre then pay (W.getD k (0, 0, 0, 0)) (ev (dyW W) 0 o k) else 0)) = L at *
      generalize ((List.range n).map fun k => PyData.int (if k ∈ pre ++ [x] then pay (W.getD k (0, 0, 0, 0)) (ev (dyW W) 0 o k) else 0)) = L' at *
      generalize W.getD x (0, 0, 0, 0) = q at *
      generalize tm (dyW W) 0 pre = T at *
      have mo : mulOk (lt0 q (T + q.1 - 1)) q.2.2.1 = true := mulOk_r _ (by omega)
      unfold lt0 at mo
      unfold pay lt0 at hset
      generalize W.map shD = WD at *
      simp -implicitDefEqProofs only [l1_late_pay, xVar_a, xC_a, xBin_a, xUn_a, tOf_a, tTru_a, tNotP_a, tAndP_a, tOrP_a, tyes_a, tno_a, tYesP_a, xNil_a, xCons_a, xTup_a, xLst_a, xAnd_a, xOr_a, xIf_a, xChain_a, oNo_a, oAt_a, xSl_a, xCall_a, xSeq_a, xIt_a, xLc_a, gSet_a, gTupD_a, gsNil_a, gsCons_a, sNop_a, sBrk_a, sCnt_a, sSeq_a, sRet_a, sIf_a, sSet_a, sTgt_a, sAug_a, sApp_a, sExt_a, sPut_a, sPutK_a, pkO_s, sFor_a, sWhile_a, sPar_a, runD_a, b2_s, c2_s, sqO_nx, sqO_rt, sqO_bk, sqO_ct, ifO_t, ifO_f, stO_s, endO_nx, endO_rt, andO_t, andO_f, orO_t, orO_f, chO_s, chP_t, chP_f, slO_s, atO_i, lcO_s, forO_s, gsO_s, nxO_s, tgO_s, paO_s, apO_s, exO_s, plO_s, ptO_s, dB_b, tru_b, tru_n, tru_i, tru_l, tru_t, is_n, isn_n, nn_n, nn_i, nn_b, nn_t, nn_l, add_ii, add'_ii, sub_ii, neg_i, lt_ii, le_ii, gt_ii, ge_ii, ix_l, ix_t, ix_s, at0, at1, at2, sl_l, sl_t, len_l, len_t, len_s, abs_i, int_i, int_b, max_ii, min_ii, tup_s, lst_s, seq_l, seq_t, sum_s, wipe_n, wipe_c, mul_ii, fdiv_ii, mod_ii, add_ll, add_tt, setAll, mkT, mkL, oNot, List.getD_cons_zero, List.getD_cons_succ, List.length_cons, List.length_nil, List.set_cons_zero, List.set_cons_succ, List.map_cons, List.map_nil, List.replicate, List.cons_append, List.nil_append, List.append_nil, Option.bind_some, Option.map_some, List.all_cons, List.all_nil, if_true, if_false, reduceIte, Nat.reduceAdd, Nat.reduceSub, Nat.reduceLT, Nat.reduceLeDiff, Nat.reduceEqDiff, decide_true, decide_false, Bool.and_true, Bool.and_self, Bool.true_and, Bool.not_true, Bool.not_false, ne_eq, not_true_eq_false, not_false_eq_true, Nat.zero_add, Bool.false_eq_true, and_self, true_and, and_true, i1, shD, mo, hlen, hix, hset]) o [] [some (.tuple (W.map shD)), some (oD o), none, some (.int 0), some (.list ((List.range n).map fun k => PyData.int (if k ∈ ([] : List Nat) then pay (W.getD k (0, 0, 0, 0)) (ev (dyW W) 0 o k) else 0))), none, none, none, none] ⟨rfl, none, none, none, none, none, rfl⟩
  obtain ⟨_, jv, x5, x6, x7, x8, e'⟩ := h
  subst e'
  have e0 : ((List.range n).map fun k => PyData.int (if k ∈ ([] : List Nat) then pay (W.getD k (0, 0, 0, 0)) (ev (dyW W) 0 o k) else 0)) = List.replicate n (.int 0) := by
    simp [List.map_const']
  have e1 : ((List.range n).map fun k => PyData.int (if k ∈ o then pay (W.getD k (0, 0, 0, 0)) (ev (dyW W) 0 o k) else 0)) = (PO W o n).map PyData.int := by
    rw [PO, List.map_map]
    refine List.map_congr_left fun k hk => ?_
    rw [if_pos (ho.mem_iff.mpr hk)]
    rfl
  rw [e0, List.nil_append, e1] at e
  have r1 := rep_l (.int 0) n hn
  have hl : (W.map shD).length = n := by simpa using hW.len
  have sq : seqD (oD o) = some (o.map fun j => PyData.int (j : Nat)) := rfl
  generalize W.map shD = WD at *
  generalize (PO W o n).map PyData.int = PD at *
  simp -implicitDefEqProofs only [d_late_pay, g_late_pay, xVar_a, xC_a, xBin_a, xUn_a, tOf_a, tTru_a, tNotP_a, tAndP_a, tOrP_a, tyes_a, tno_a, tYesP_a, xNil_a, xCons_a, xTup_a, xLst_a, xAnd_a, xOr_a, xIf_a, xChain_a, oNo_a, oAt_a, xSl_a, xCall_a, xSeq_a, xIt_a, xLc_a, gSet_a, gTupD_a, gsNil_a, gsCons_a, sNop_a, sBrk_a, sCnt_a, sSeq_a, sRet_a, sIf_a, sSet_a, sTgt_a, sAug_a, sApp_a, sExt_a, sPut_a, sPutK_a, pkO_s, sFor_a, sWhile_a, sPar_a, runD_a, b2_s, c2_s, sqO_nx, sqO_rt, sqO_bk, sqO_ct, ifO_t, ifO_f, stO_s, endO_nx, endO_rt, andO_t, andO_f, orO_t, orO_f, chO_s, chP_t, chP_f, slO_s, atO_i, lcO_s, forO_s, gsO_s, nxO_s, tgO_s, paO_s, apO_s, exO_s, plO_s, ptO_s, dB_b, tru_b, tru_n, tru_i, tru_l, tru_t, is_n, isn_n, nn_n, nn_i, nn_b, nn_t, nn_l, add_ii, add'_ii, sub_ii, neg_i, lt_ii, le_ii, gt_ii, ge_ii, ix_l, ix_t, ix_s, at0, at1, at2, sl_l, sl_t, len_l, len_t, len_s, abs_i, int_i, int_b, max_ii, min_ii, tup_s, lst_s, seq_l, seq_t, sum_s, wipe_n, wipe_c, mul_ii, fdiv_ii, mod_ii, add_ll, add_tt, setAll, mkT, mkL, oNot, List.getD_cons_zero, List.getD_cons_succ, List.length_cons, List.length_nil, List.set_cons_zero, List.set_cons_succ, List.map_cons, List.map_nil, List.replicate, List.cons_append, List.nil_append, List.append_nil, Option.bind_some, Option.map_some, List.all_cons, List.all_nil, if_true, if_false, reduceIte, Nat.reduceAdd, Nat.reduceSub, Nat.reduceLT, Nat.reduceLeDiff, Nat.reduceEqDiff, decide_true, decide_false, Bool.and_true, Bool.and_self, Bool.true_and, Bool.not_true, Bool.not_false, ne_eq, not_true_eq_false, not_false_eq_true, Nat.zero_add, Bool.false_eq_true, and_self, true_and, and_true, hl, r1, sq, e]
theorem law_owed_eq {W : List Ship} {o : List Nat} {n : Nat} (hW : OkW n W) (hn : n ≤ 100) (ho : o.Perm (List.range n)) :
    d__law_owed [.tuple (W.map shD), oD o] = some (.tuple ((PO W o n).map PyData.int)) := by
  have h := law_ends_eq true (dyW W) o n (by simp [dyW, hW.len]) hn ho
  have h' : d__law_ends [.list ((dyW W).map PyData.int), oD o] = some (.list ((List.range n).map fun k => PyData.int (ev (dyW W) 0 o k))) := h
  have hm : lcL (gSet 9) tYesP (xBin oIx (xVar 9) (xC (.int 0))) [some (.tuple (W.map shD)), some (oD o), none, none, none, none, none, none, none, none] (W.map shD) = some ((dyW W).map PyData.int) := by
    rw [dyW, List.map_map]
    exact lcL_map _ _ _ fun s _ => by simp -implicitDefEqProofs only [xVar_a, xC_a, xBin_a, xUn_a, tOf_a, tTru_a, tNotP_a, tAndP_a, tOrP_a, tyes_a, tno_a, tYesP_a, xNil_a, xCons_a, xTup_a, xLst_a, xAnd_a, xOr_a, xIf_a, xChain_a, oNo_a, oAt_a, xSl_a, xCall_a, xSeq_a, xIt_a, xLc_a, gSet_a, gTupD_a, gsNil_a, gsCons_a, sNop_a, sBrk_a, sCnt_a, sSeq_a, sRet_a, sIf_a, sSet_a, sTgt_a, sAug_a, sApp_a, sExt_a, sPut_a, sPutK_a, pkO_s, sFor_a, sWhile_a, sPar_a, runD_a, b2_s, c2_s, sqO_nx, sqO_rt, sqO_bk, sqO_ct, ifO_t, ifO_f, stO_s, endO_nx, endO_rt, andO_t, andO_f, orO_t, orO_f, chO_s, chP_t, chP_f, slO_s, atO_i, lcO_s, forO_s, gsO_s, nxO_s, tgO_s, paO_s, apO_s, exO_s, plO_s, ptO_s, dB_b, tru_b, tru_n, tru_i, tru_l, tru_t, is_n, isn_n, nn_n, nn_i, nn_b, nn_t, nn_l, add_ii, add'_ii, sub_ii, neg_i, lt_ii, le_ii, gt_ii, ge_ii, ix_l, ix_t, ix_s, at0, at1, at2, sl_l, sl_t, len_l, len_t, len_s, abs_i, int_i, int_b, max_ii, min_ii, tup_s, lst_s, seq_l, seq_t, sum_s, wipe_n, wipe_c, mul_ii, fdiv_ii, mod_ii, add_ll, add_tt, setAll, mkT, mkL, oNot, List.getD_cons_zero, List.getD_cons_succ, List.length_cons, List.length_nil, List.set_cons_zero, List.set_cons_succ, List.map_cons, List.map_nil, List.replicate, List.cons_append, List.nil_append, List.append_nil, Option.bind_some, Option.map_some, List.all_cons, List.all_nil, if_true, if_false, reduceIte, Nat.reduceAdd, Nat.reduceSub, Nat.reduceLT, Nat.reduceLeDiff, Nat.reduceEqDiff, decide_true, decide_false, Bool.and_true, Bool.and_self, Bool.true_and, Bool.not_true, Bool.not_false, ne_eq, not_true_eq_false, not_false_eq_true, Nat.zero_add, Bool.false_eq_true, and_self, true_and, and_true, shD, Function.comp]
  obtain ⟨ρ', e, hi⟩ := forL_inv (g := gSet 4) (b := l1__law_owed) (fun j : Nat => PyData.int (j : Nat))
    (fun pre rest ρ => pre ++ rest = List.range n ∧ ∃ jv x5 x6 x7 x8, ρ = [some (.tuple (W.map shD)), some (oD o), some (.list ((List.range n).map fun k => PyData.int (ev (dyW W) 0 o k))), some (.list (pre.map fun k => PyData.int (pay (W.getD k (0, 0, 0, 0)) (ev (dyW W) 0 o k)))), jv, x5, x6, x7, x8, none]) (fun pre x rest ρ ⟨hp, jv, x5, x6, x7, x8, e⟩ => by
      subst e
      have hx : x ∈ List.range n := by rw [← hp]; simp
      have hxn := List.mem_range.mp hx
      have hpl : (pre.map fun k => PyData.int (pay (W.getD k (0, 0, 0, 0)) (ev (dyW W) 0 o k))).length < 16777216 := by
        have := congrArg List.length hp
        simp at this ⊢
        omega
      have i1 := at_map shD W (0, 0, 0, 0) x (by rw [hW.len]; exact hxn)
      have i2 := at_map (fun k => PyData.int (ev (dyW W) 0 o k)) (List.range n) 0 x (by simpa using hxn)
      rw [show (List.range n).getD x 0 = x by simp [hxn]] at i2
      have hrt := hW.rt _ (getD_mem W x (0, 0, 0, 0) (by rw [hW.len]; exact hxn))
      refine ⟨_, [some (.tuple (W.map shD)), some (oD o), some (.list ((List.range n).map fun k => PyData.int (ev (dyW W) 0 o k))), some (.list ((pre ++ [x]).map fun k => PyData.int (pay (W.getD k (0, 0, 0, 0)) (ev (dyW W) 0 o k)))), some (.int x), some (.int (W.getD x (0, 0, 0, 0)).1), some (.int (W.getD x (0, 0, 0, 0)).2.1), some (.int (W.getD x (0, 0, 0, 0)).2.2.1), some (.int (W.getD x (0, 0, 0, 0)).2.2.2), none], rfl, .inl ?_, by rw [List.append_assoc]; exact hp, some (.int x), _, _, _, _, rfl⟩
      rw [List.map_append, List.map_cons, List.map_nil]
      generalize (pre.map fun k => PyData.int (pay (W.getD k (0, 0, 0, 0)) (ev (dyW W) 0 o k))) = L at *
      generalize ((List.range n).map fun k => PyData.int (ev (dyW W) 0 o k)) = E at *
      generalize W.getD x (0, 0, 0, 0) = q at *
      generalize ev (dyW W) 0 o x = T at *
      have mo : mulOk (lt0 q T) q.2.2.1 = true := mulOk_r _ (by omega)
      unfold lt0 at mo
      generalize W.map shD = WD at *
      simp -implicitDefEqProofs only [l1__law_owed, xVar_a, xC_a, xBin_a, xUn_a, tOf_a, tTru_a, tNotP_a, tAndP_a, tOrP_a, tyes_a, tno_a, tYesP_a, xNil_a, xCons_a, xTup_a, xLst_a, xAnd_a, xOr_a, xIf_a, xChain_a, oNo_a, oAt_a, xSl_a, xCall_a, xSeq_a, xIt_a, xLc_a, gSet_a, gTupD_a, gsNil_a, gsCons_a, sNop_a, sBrk_a, sCnt_a, sSeq_a, sRet_a, sIf_a, sSet_a, sTgt_a, sAug_a, sApp_a, sExt_a, sPut_a, sPutK_a, pkO_s, sFor_a, sWhile_a, sPar_a, runD_a, b2_s, c2_s, sqO_nx, sqO_rt, sqO_bk, sqO_ct, ifO_t, ifO_f, stO_s, endO_nx, endO_rt, andO_t, andO_f, orO_t, orO_f, chO_s, chP_t, chP_f, slO_s, atO_i, lcO_s, forO_s, gsO_s, nxO_s, tgO_s, paO_s, apO_s, exO_s, plO_s, ptO_s, dB_b, tru_b, tru_n, tru_i, tru_l, tru_t, is_n, isn_n, nn_n, nn_i, nn_b, nn_t, nn_l, add_ii, add'_ii, sub_ii, neg_i, lt_ii, le_ii, gt_ii, ge_ii, ix_l, ix_t, ix_s, at0, at1, at2, sl_l, sl_t, len_l, len_t, len_s, abs_i, int_i, int_b, max_ii, min_ii, tup_s, lst_s, seq_l, seq_t, sum_s, wipe_n, wipe_c, mul_ii, fdiv_ii, mod_ii, add_ll, add_tt, setAll, mkT, mkL, oNot, List.getD_cons_zero, List.getD_cons_succ, List.length_cons, List.length_nil, List.set_cons_zero, List.set_cons_succ, List.map_cons, List.map_nil, List.replicate, List.cons_append, List.nil_append, List.append_nil, Option.bind_some, Option.map_some, List.all_cons, List.all_nil, if_true, if_false, reduceIte, Nat.reduceAdd, Nat.reduceSub, Nat.reduceLT, Nat.reduceLeDiff, Nat.reduceEqDiff, decide_true, decide_false, Bool.and_true, Bool.and_self, Bool.true_and, Bool.not_true, Bool.not_false, ne_eq, not_true_eq_false, not_false_eq_true, Nat.zero_add, Bool.false_eq_true, and_self, true_and, and_true, i1, i2, shD, mo, hpl, pay, lt0]
      rfl) (List.range n) [] [some (.tuple (W.map shD)), some (oD o), some (.list ((List.range n).map fun k => PyData.int (ev (dyW W) 0 o k))), some (.list []), none, none, none, none, none, none] ⟨rfl, none, none, none, none, none, rfl⟩
  obtain ⟨_, jv, x5, x6, x7, x8, e'⟩ := hi
  subst e'
  have e1 : ((List.range n).map fun k => PyData.int (pay (W.getD k (0, 0, 0, 0)) (ev (dyW W) 0 o k))) = (PO W o n).map PyData.int := by
    rw [PO, List.map_map]
    rfl
  rw [List.nil_append, e1] at e
  have hr := rg0 n (by omega)
  have hl : (W.map shD).length = n := by simpa using hW.len
  generalize W.map shD = WD at *
  generalize (PO W o n).map PyData.int = PD at *
  generalize (dyW W).map PyData.int = DD at *
  generalize ((List.range n).map fun k => PyData.int (ev (dyW W) 0 o k)) = E at *
  generalize (List.range n).map (fun k : Nat => PyData.int (k : Nat)) = R at *
  simp -implicitDefEqProofs only [d__law_owed, g__law_owed, xVar_a, xC_a, xBin_a, xUn_a, tOf_a, tTru_a, tNotP_a, tAndP_a, tOrP_a, tyes_a, tno_a, tYesP_a, xNil_a, xCons_a, xTup_a, xLst_a, xAnd_a, xOr_a, xIf_a, xChain_a, oNo_a, oAt_a, xSl_a, xCall_a, xSeq_a, xIt_a, xLc_a, gSet_a, gTupD_a, gsNil_a, gsCons_a, sNop_a, sBrk_a, sCnt_a, sSeq_a, sRet_a, sIf_a, sSet_a, sTgt_a, sAug_a, sApp_a, sExt_a, sPut_a, sPutK_a, pkO_s, sFor_a, sWhile_a, sPar_a, runD_a, b2_s, c2_s, sqO_nx, sqO_rt, sqO_bk, sqO_ct, ifO_t, ifO_f, stO_s, endO_nx, endO_rt, andO_t, andO_f, orO_t, orO_f, chO_s, chP_t, chP_f, slO_s, atO_i, lcO_s, forO_s, gsO_s, nxO_s, tgO_s, paO_s, apO_s, exO_s, plO_s, ptO_s, dB_b, tru_b, tru_n, tru_i, tru_l, tru_t, is_n, isn_n, nn_n, nn_i, nn_b, nn_t, nn_l, add_ii, add'_ii, sub_ii, neg_i, lt_ii, le_ii, gt_ii, ge_ii, ix_l, ix_t, ix_s, at0, at1, at2, sl_l, sl_t, len_l, len_t, len_s, abs_i, int_i, int_b, max_ii, min_ii, tup_s, lst_s, seq_l, seq_t, sum_s, wipe_n, wipe_c, mul_ii, fdiv_ii, mod_ii, add_ll, add_tt, setAll, mkT, mkL, oNot, List.getD_cons_zero, List.getD_cons_succ, List.length_cons, List.length_nil, List.set_cons_zero, List.set_cons_succ, List.map_cons, List.map_nil, List.replicate, List.cons_append, List.nil_append, List.append_nil, Option.bind_some, Option.map_some, List.all_cons, List.all_nil, if_true, if_false, reduceIte, Nat.reduceAdd, Nat.reduceSub, Nat.reduceLT, Nat.reduceLeDiff, Nat.reduceEqDiff, decide_true, decide_false, Bool.and_true, Bool.and_self, Bool.true_and, Bool.not_true, Bool.not_false, ne_eq, not_true_eq_false, not_false_eq_true, Nat.zero_add, Bool.false_eq_true, and_self, true_and, and_true, hm, h', hl, hr, e]
def sPO (W : List Ship) (o : List Nat) (n : Nat) : Int := (PO W o n).sum
def kyD (W : List Ship) (n : Nat) (o : List Nat) : D := .tuple [.int (sPO W o n), oD o]
theorem sum_t (xs : List Int) : bSum [.tuple (xs.map PyData.int)] = some (.int xs.sum) := by
  rw [sum_s, seq_t, Option.bind_some, asInts_map]
  rfl
theorem least_paid_eq {W : List Ship} {n : Nat} (hW : OkW n W) (h1 : 1 ≤ n) (h4 : n ≤ 4) :
    d_least_paid [.tuple (W.map shD)] = bMinD [.list ((ORD n).map (kyD W n))] := by
  have ha := or_a h1 h4
  have hm : lcL (gSet 1) tYesP (xTup (xCons (xCall bSum (xCons (xCall (fun ds => if ds.length = 2 then (d_late_pay) ds else none) (xCons (xVar 0) (xCons (xVar 1) xNil))) xNil)) (xCons (xVar 1) xNil))) [some (.tuple (W.map shD)), none] ((ORD n).map oD) = some ((ORD n).map (kyD W n)) := by
    refine lcL_map _ _ _ fun o ho => ?_
    have h := late_pay_eq hW (by omega) (or_p h1 h4 o ho)
    have hs := asInts_map (PO W o n)
    generalize W.map shD = WD at *
    generalize (PO W o n).map PyData.int = PD at *
    simp -implicitDefEqProofs only [xVar_a, xC_a, xBin_a, xUn_a, tOf_a, tTru_a, tNotP_a, tAndP_a, tOrP_a, tyes_a, tno_a, tYesP_a, xNil_a, xCons_a, xTup_a, xLst_a, xAnd_a, xOr_a, xIf_a, xChain_a, oNo_a, oAt_a, xSl_a, xCall_a, xSeq_a, xIt_a, xLc_a, gSet_a, gTupD_a, gsNil_a, gsCons_a, sNop_a, sBrk_a, sCnt_a, sSeq_a, sRet_a, sIf_a, sSet_a, sTgt_a, sAug_a, sApp_a, sExt_a, sPut_a, sPutK_a, pkO_s, sFor_a, sWhile_a, sPar_a, runD_a, b2_s, c2_s, sqO_nx, sqO_rt, sqO_bk, sqO_ct, ifO_t, ifO_f, stO_s, endO_nx, endO_rt, andO_t, andO_f, orO_t, orO_f, chO_s, chP_t, chP_f, slO_s, atO_i, lcO_s, forO_s, gsO_s, nxO_s, tgO_s, paO_s, apO_s, exO_s, plO_s, ptO_s, dB_b, tru_b, tru_n, tru_i, tru_l, tru_t, is_n, isn_n, nn_n, nn_i, nn_b, nn_t, nn_l, add_ii, add'_ii, sub_ii, neg_i, lt_ii, le_ii, gt_ii, ge_ii, ix_l, ix_t, ix_s, at0, at1, at2, sl_l, sl_t, len_l, len_t, len_s, abs_i, int_i, int_b, max_ii, min_ii, tup_s, lst_s, seq_l, seq_t, sum_s, wipe_n, wipe_c, mul_ii, fdiv_ii, mod_ii, add_ll, add_tt, setAll, mkT, mkL, oNot, List.getD_cons_zero, List.getD_cons_succ, List.length_cons, List.length_nil, List.set_cons_zero, List.set_cons_succ, List.map_cons, List.map_nil, List.replicate, List.cons_append, List.nil_append, List.append_nil, Option.bind_some, Option.map_some, List.all_cons, List.all_nil, if_true, if_false, reduceIte, Nat.reduceAdd, Nat.reduceSub, Nat.reduceLT, Nat.reduceLeDiff, Nat.reduceEqDiff, decide_true, decide_false, Bool.and_true, Bool.and_self, Bool.true_and, Bool.not_true, Bool.not_false, ne_eq, not_true_eq_false, not_false_eq_true, Nat.zero_add, Bool.false_eq_true, and_self, true_and, and_true, h, kyD, sPO, hs]
  have hl : (W.map shD).length = n := by simpa using hW.len
  generalize W.map shD = WD at *
  generalize (ORD n).map (kyD W n) = KD at *
  simp -implicitDefEqProofs only [d_least_paid, g_least_paid, xVar_a, xC_a, xBin_a, xUn_a, tOf_a, tTru_a, tNotP_a, tAndP_a, tOrP_a, tyes_a, tno_a, tYesP_a, xNil_a, xCons_a, xTup_a, xLst_a, xAnd_a, xOr_a, xIf_a, xChain_a, oNo_a, oAt_a, xSl_a, xCall_a, xSeq_a, xIt_a, xLc_a, gSet_a, gTupD_a, gsNil_a, gsCons_a, sNop_a, sBrk_a, sCnt_a, sSeq_a, sRet_a, sIf_a, sSet_a, sTgt_a, sAug_a, sApp_a, sExt_a, sPut_a, sPutK_a, pkO_s, sFor_a, sWhile_a, sPar_a, runD_a, b2_s, c2_s, sqO_nx, sqO_rt, sqO_bk, sqO_ct, ifO_t, ifO_f, stO_s, endO_nx, endO_rt, andO_t, andO_f, orO_t, orO_f, chO_s, chP_t, chP_f, slO_s, atO_i, lcO_s, forO_s, gsO_s, nxO_s, tgO_s, paO_s, apO_s, exO_s, plO_s, ptO_s, dB_b, tru_b, tru_n, tru_i, tru_l, tru_t, is_n, isn_n, nn_n, nn_i, nn_b, nn_t, nn_l, add_ii, add'_ii, sub_ii, neg_i, lt_ii, le_ii, gt_ii, ge_ii, ix_l, ix_t, ix_s, at0, at1, at2, sl_l, sl_t, len_l, len_t, len_s, abs_i, int_i, int_b, max_ii, min_ii, tup_s, lst_s, seq_l, seq_t, sum_s, wipe_n, wipe_c, mul_ii, fdiv_ii, mod_ii, add_ll, add_tt, setAll, mkT, mkL, oNot, List.getD_cons_zero, List.getD_cons_succ, List.length_cons, List.length_nil, List.set_cons_zero, List.set_cons_succ, List.map_cons, List.map_nil, List.replicate, List.cons_append, List.nil_append, List.append_nil, Option.bind_some, Option.map_some, List.all_cons, List.all_nil, if_true, if_false, reduceIte, Nat.reduceAdd, Nat.reduceSub, Nat.reduceLT, Nat.reduceLeDiff, Nat.reduceEqDiff, decide_true, decide_false, Bool.and_true, Bool.and_self, Bool.true_and, Bool.not_true, Bool.not_false, ne_eq, not_true_eq_false, not_false_eq_true, Nat.zero_add, Bool.false_eq_true, and_self, true_and, and_true, hl, ha, hm]
  cases bMinD [PyData.list KD] <;> rfl
abbrev Ky := Int × Tup Int
def ky (W : List Ship) (n : Nat) (o : List Nat) : Ky := (sPO W o n, tI o)
theorem toD_ky (W : List Ship) (n : Nat) (o : List Nat) : Datum.toD (ky W n o) = kyD W n o := by
  show PyData.tuple [.int (sPO W o n), Datum.toD (tI o)] = _
  rw [toD_tI]
  rfl
theorem min_ky (W : List Ship) (n : Nat) (l : List (List Nat)) : bMinD [.list (l.map (kyD W n))] = (least (l.map (ky W n))).map Datum.toD := by
  refine minD_l (α := Ky) (by decide) (l.map (ky W n)) ?_
  rw [seq_l, List.map_map]
  congr 1
  exact List.map_congr_left fun o _ => (toD_ky W n o).symm
end K13

namespace K13
open PySem PySem.Spec PyProof.Rows L2 Pm
open PySem.W (Datum Tup)
def TUP : Nat → Nat → List (List Nat)
  | 0, _ => [[]]
  | n + 1, c => (TUP n c).flatMap fun r => (List.range c).map fun k => r ++ [k]
theorem tup_len : ∀ (n c : Nat), ∀ r ∈ TUP n c, r.length = n
  | 0, _, r, h => by simp [TUP] at h; simp [h]
  | n + 1, c, r, h => by
    simp only [TUP, List.mem_flatMap, List.mem_map] at h
    obtain ⟨r0, h0, k, _, rfl⟩ := h
    simp [tup_len n c r0 h0]
theorem tp_a10 : d_all_rows [.int (1 : Nat), .int (0 : Nat)] = some (.list ((TUP 1 0).map oD)) := by kernel_rfl
theorem tp_b10 : d__law_tuples [.int (1 : Nat), .int (0 : Nat)] = some (.list ((TUP 1 0).map oD)) := by kernel_rfl
theorem tp_a11 : d_all_rows [.int (1 : Nat), .int (1 : Nat)] = some (.list ((TUP 1 1).map oD)) := by kernel_rfl
theorem tp_b11 : d__law_tuples [.int (1 : Nat), .int (1 : Nat)] = some (.list ((TUP 1 1).map oD)) := by kernel_rfl
theorem tp_a20 : d_all_rows [.int (2 : Nat), .int (0 : Nat)] = some (.list ((TUP 2 0).map oD)) := by kernel_rfl
theorem tp_b20 : d__law_tuples [.int (2 : Nat), .int (0 : Nat)] = some (.list ((TUP 2 0).map oD)) := by kernel_rfl
theorem tp_a21 : d_all_rows [.int (2 : Nat), .int (1 : Nat)] = some (.list ((TUP 2 1).map oD)) := by kernel_rfl
theorem tp_b21 : d__law_tuples [.int (2 : Nat), .int (1 : Nat)] = some (.list ((TUP 2 1).map oD)) := by kernel_rfl
theorem tp_a22 : d_all_rows [.int (2 : Nat), .int (2 : Nat)] = some (.list ((TUP 2 2).map oD)) := by kernel_rfl
theorem tp_b22 : d__law_tuples [.int (2 : Nat), .int (2 : Nat)] = some (.list ((TUP 2 2).map oD)) := by kernel_rfl
theorem tp_a30 : d_all_rows [.int (3 : Nat), .int (0 : Nat)] = some (.list ((TUP 3 0).map oD)) := by kernel_rfl
theorem tp_b30 : d__law_tuples [.int (3 : Nat), .int (0 : Nat)] = some (.list ((TUP 3 0).map oD)) := by kernel_rfl
theorem tp_a31 : d_all_rows [.int (3 : Nat), .int (1 : Nat)] = some (.list ((TUP 3 1).map oD)) := by kernel_rfl
theorem tp_b31 : d__law_tuples [.int (3 : Nat), .int (1 : Nat)] = some (.list ((TUP 3 1).map oD)) := by kernel_rfl
theorem tp_a32 : d_all_rows [.int (3 : Nat), .int (2 : Nat)] = some (.list ((TUP 3 2).map oD)) := by kernel_rfl
theorem tp_b32 : d__law_tuples [.int (3 : Nat), .int (2 : Nat)] = some (.list ((TUP 3 2).map oD)) := by kernel_rfl
theorem tp_a33 : d_all_rows [.int (3 : Nat), .int (3 : Nat)] = some (.list ((TUP 3 3).map oD)) := by kernel_rfl
theorem tp_b33 : d__law_tuples [.int (3 : Nat), .int (3 : Nat)] = some (.list ((TUP 3 3).map oD)) := by kernel_rfl
theorem tp_a40 : d_all_rows [.int (4 : Nat), .int (0 : Nat)] = some (.list ((TUP 4 0).map oD)) := by kernel_rfl
theorem tp_b40 : d__law_tuples [.int (4 : Nat), .int (0 : Nat)] = some (.list ((TUP 4 0).map oD)) := by kernel_rfl
theorem tp_a41 : d_all_rows [.int (4 : Nat), .int (1 : Nat)] = some (.list ((TUP 4 1).map oD)) := by kernel_rfl
theorem tp_b41 : d__law_tuples [.int (4 : Nat), .int (1 : Nat)] = some (.list ((TUP 4 1).map oD)) := by kernel_rfl
theorem tp_a42 : d_all_rows [.int (4 : Nat), .int (2 : Nat)] = some (.list ((TUP 4 2).map oD)) := by kernel_rfl
theorem tp_b42 : d__law_tuples [.int (4 : Nat), .int (2 : Nat)] = some (.list ((TUP 4 2).map oD)) := by kernel_rfl
theorem tp_a43 : d_all_rows [.int (4 : Nat), .int (3 : Nat)] = some (.list ((TUP 4 3).map oD)) := by kernel_rfl
theorem tp_b43 : d__law_tuples [.int (4 : Nat), .int (3 : Nat)] = some (.list ((TUP 4 3).map oD)) := by kernel_rfl
theorem tp_a44 : d_all_rows [.int (4 : Nat), .int (4 : Nat)] = some (.list ((TUP 4 4).map oD)) := by kernel_rfl
theorem tp_b44 : d__law_tuples [.int (4 : Nat), .int (4 : Nat)] = some (.list ((TUP 4 4).map oD)) := by kernel_rfl
theorem tp_a {n c : Nat} (h1 : 1 ≤ n) (h4 : n ≤ 4) (hc : c ≤ n) : d_all_rows [.int (n : Nat), .int (c : Nat)] = some (.list ((TUP n c).map oD)) := by
  obtain rfl | rfl | rfl | rfl : n = 1 ∨ n = 2 ∨ n = 3 ∨ n = 4 := by omega
  · obtain rfl | rfl : c = 0 ∨ c = 1 := by omega
    · exact tp_a10
    · exact tp_a11
  · obtain rfl | rfl | rfl : c = 0 ∨ c = 1 ∨ c = 2 := by omega
    · exact tp_a20
    · exact tp_a21
    · exact tp_a22
  · obtain rfl | rfl | rfl | rfl : c = 0 ∨ c = 1 ∨ c = 2 ∨ c = 3 := by omega
    · exact tp_a30
    · exact tp_a31
    · exact tp_a32
    · exact tp_a33
  · obtain rfl | rfl | rfl | rfl | rfl : c = 0 ∨ c = 1 ∨ c = 2 ∨ c = 3 ∨ c = 4 := by omega
    · exact tp_a40
    · exact tp_a41
    · exact tp_a42
    · exact tp_a43
    · exact tp_a44
theorem tp_b {n c : Nat} (h1 : 1 ≤ n) (h4 : n ≤ 4) (hc : c ≤ n) : d__law_tuples [.int (n : Nat), .int (c : Nat)] = some (.list ((TUP n c).map oD)) := by
  obtain rfl | rfl | rfl | rfl : n = 1 ∨ n = 2 ∨ n = 3 ∨ n = 4 := by omega
  · obtain rfl | rfl : c = 0 ∨ c = 1 := by omega
    · exact tp_b10
    · exact tp_b11
  · obtain rfl | rfl | rfl : c = 0 ∨ c = 1 ∨ c = 2 := by omega
    · exact tp_b20
    · exact tp_b21
    · exact tp_b22
  · obtain rfl | rfl | rfl | rfl : c = 0 ∨ c = 1 ∨ c = 2 ∨ c = 3 := by omega
    · exact tp_b30
    · exact tp_b31
    · exact tp_b32
    · exact tp_b33
  · obtain rfl | rfl | rfl | rfl | rfl : c = 0 ∨ c = 1 ∨ c = 2 ∨ c = 3 ∨ c = 4 := by omega
    · exact tp_b40
    · exact tp_b41
    · exact tp_b42
    · exact tp_b43
    · exact tp_b44
end K13

namespace K13
open PySem PySem.Spec PyProof.Rows L2 Pm
open PySem.W (Datum Tup)
def fP (p : List Int) (k : Nat) : Int × Int := (p.getD k 0, (k : Int))
def pD (p : List Int) (k : Nat) : D := .tuple [.int (p.getD k 0), .int (k : Nat)]
theorem lt_int_f {a b : Int} (h : Pm.lt' b a = false) : a ≤ b := by
  have := of_decide_eq_false h
  omega
theorem srt_ex (p : List Int) (c : List Nat) (hc : c.length ≤ 1000) : ∃ e : List Nat, e.Perm c ∧ e.Pairwise (fun a b => p.getD a 0 ≤ p.getD b 0) ∧ bSorted [.list (c.map (pD p))] = some (.list (e.map (pD p))) := by
  obtain ⟨l', hp, hs, _, hb⟩ := sorted_map (α := Int × Int) (by decide) (x := .list (c.map (pD p))) (c.map (fP p)) (by simp; omega) (.inl fun a => ⟨_, _, rfl⟩) (by
    rw [seq_l, List.map_map]
    rfl)
  have hq : ∀ q ∈ l', fP p q.2.toNat = q := fun q hq => by
    obtain ⟨k, _, rfl⟩ := List.mem_map.mp (hp.mem_iff.mp hq)
    simp [fP]
  have hl : (l'.map fun q => q.2.toNat).map (fP p) = l' := by
    rw [List.map_map]
    conv => rhs; rw [← List.map_id l']
    exact List.map_congr_left fun q h => hq q h
  refine ⟨l'.map fun q => q.2.toNat, ?_, ?_, ?_⟩
  · have := hp.map fun q : Int × Int => q.2.toNat
    rw [List.map_map] at this
    have e : (c.map ((fun q : Int × Int => q.2.toNat) ∘ fP p)) = c := by
      conv => rhs; rw [← List.map_id c]
      exact List.map_congr_left fun k _ => by simp [fP]
    rw [e] at this
    exact this
  · rw [← hl] at hs
    rw [List.pairwise_map] at hs
    refine hs.imp fun {a b} h => ?_
    unfold fP at h
    rw [pLt] at h
    dsimp only at h
    split at h
    · next e => omega
    · exact lt_int_f h
  · rw [hb]
    conv => lhs; rw [← hl]
    rw [List.map_map]
    rfl
open Classical in
noncomputable def srt (p : List Int) (c : List Nat) : List Nat := if h : c.length ≤ 1000 then (srt_ex p c h).choose else c
theorem srt_spec (p : List Int) (c : List Nat) (hc : c.length ≤ 1000) : (srt p c).Perm c ∧ (srt p c).Pairwise (fun a b => p.getD a 0 ≤ p.getD b 0) ∧ bSorted [.list (c.map (pD p))] = some (.list ((srt p c).map (pD p))) := by
  unfold srt
  rw [dif_pos hc]
  exact (srt_ex p c hc).choose_spec
/-! the docks -/
def w2 (w p : List Int) (k : Nat) : D := .tuple [.int (w.getD k 0), .int (p.getD k 0)]
def W2 (w p : List Int) (n : Nat) : D := .tuple ((List.range n).map (w2 w p))
theorem w2_at (w p : List Int) {n k : Nat} (h : k < n) : atI ((List.range n).map (w2 w p)) (k : Int) = some (w2 w p k) := by
  have := at_map (w2 w p) (List.range n) 0 k (by simpa using h)
  rw [this]
  simp [h]
theorem cbd_loop (w p : List Int) (n : Nat) (x1 : Option D) : ∀ (e : List Nat) (d : Int) (kv : Option D), (∀ j ∈ e, j < n) →
    (kp w p d e = true ∧ ∃ d' kv', forL (gSet 3) l1_can_be_done (e.map fun j => PyData.int (j : Nat)) [some (W2 w p n), x1, some (.int d), kv] = some (.nx [some (W2 w p n), x1, d', kv'])) ∨
    (kp w p d e = false ∧ forL (gSet 3) l1_can_be_done (e.map fun j => PyData.int (j : Nat)) [some (W2 w p n), x1, some (.int d), kv] = some (.rt (.bool false)))
  | [], d, kv, _ => .inl ⟨rfl, some (.int d), kv, rfl⟩
  | j :: e, d, kv, h => by
    have hj := w2_at w p (h j (by simp))
    have ih := cbd_loop w p n x1 e (d + w.getD j 0) (some (.int j)) fun k hk => h k (List.mem_cons_of_mem _ hk)
    have hg : gSet 3 (.int (j : Nat)) [some (W2 w p n), x1, some (.int d), kv] = some [some (W2 w p n), x1, some (.int d), some (.int (j : Nat))] := rfl
    have hW : W2 w p n = .tuple ((List.range n).map (w2 w p)) := rfl
    rw [kp]
    by_cases hc : p.getD j 0 < d + w.getD j 0 - 1
    · refine .inr ⟨by rw [decide_eq_false (by omega), Bool.false_and], ?_⟩
      have hb : l1_can_be_done [some (W2 w p n), x1, some (.int d), some (.int (j : Nat))] = some (.rt (.bool false)) := by
        rw [hW]
        generalize (List.range n).map (w2 w p) = WL at *
        simp -implicitDefEqProofs only [l1_can_be_done, xVar_a, xC_a, xBin_a, xUn_a, tOf_a, tTru_a, tNotP_a, tAndP_a, tOrP_a, tyes_a, tno_a, tYesP_a, xNil_a, xCons_a, xTup_a, xLst_a, xAnd_a, xOr_a, xIf_a, xChain_a, oNo_a, oAt_a, xSl_a, xCall_a, xSeq_a, xIt_a, xLc_a, gSet_a, gTupD_a, gsNil_a, gsCons_a, sNop_a, sBrk_a, sCnt_a, sSeq_a, sRet_a, sIf_a, sSet_a, sTgt_a, sAug_a, sApp_a, sExt_a, sPut_a, sPutK_a, pkO_s, sFor_a, sWhile_a, sPar_a, runD_a, b2_s, c2_s, sqO_nx, sqO_rt, sqO_bk, sqO_ct, ifO_t, ifO_f, stO_s, endO_nx, endO_rt, andO_t, andO_f, orO_t, orO_f, chO_s, chP_t, chP_f, slO_s, atO_i, lcO_s, forO_s, gsO_s, nxO_s, tgO_s, paO_s, apO_s, exO_s, plO_s, ptO_s, dB_b, tru_b, tru_n, tru_i, tru_l, tru_t, is_n, isn_n, nn_n, nn_i, nn_b, nn_t, nn_l, add_ii, add'_ii, sub_ii, neg_i, lt_ii, le_ii, gt_ii, ge_ii, ix_l, ix_t, ix_s, at0, at1, at2, sl_l, sl_t, len_l, len_t, len_s, abs_i, int_i, int_b, max_ii, min_ii, tup_s, lst_s, seq_l, seq_t, sum_s, wipe_n, wipe_c, mul_ii, fdiv_ii, mod_ii, add_ll, add_tt, setAll, mkT, mkL, oNot, List.getD_cons_zero, List.getD_cons_succ, List.length_cons, List.length_nil, List.set_cons_zero, List.set_cons_succ, List.map_cons, List.map_nil, List.replicate, List.cons_append, List.nil_append, List.append_nil, Option.bind_some, Option.map_some, List.all_cons, List.all_nil, if_true, if_false, reduceIte, Nat.reduceAdd, Nat.reduceSub, Nat.reduceLT, Nat.reduceLeDiff, Nat.reduceEqDiff, decide_true, decide_false, Bool.and_true, Bool.and_self, Bool.true_and, Bool.not_true, Bool.not_false, ne_eq, not_true_eq_false, not_false_eq_true, Nat.zero_add, Bool.false_eq_true, and_self, true_and, and_true, hj, w2, hc]
      simp only [List.map_cons, forL, hg, Option.bind_some, hb]
    · have hb : l1_can_be_done [some (W2 w p n), x1, some (.int d), some (.int (j : Nat))] = some (.nx [some (W2 w p n), x1, some (.int (d + w.getD j 0)), some (.int (j : Nat))]) := by
        rw [hW]
        generalize (List.range n).map (w2 w p) = WL at *
        simp -implicitDefEqProofs only [l1_can_be_done, xVar_a, xC_a, xBin_a, xUn_a, tOf_a, tTru_a, tNotP_a, tAndP_a, tOrP_a, tyes_a, tno_a, tYesP_a, xNil_a, xCons_a, xTup_a, xLst_a, xAnd_a, xOr_a, xIf_a, xChain_a, oNo_a, oAt_a, xSl_a, xCall_a, xSeq_a, xIt_a, xLc_a, gSet_a, gTupD_a, gsNil_a, gsCons_a, sNop_a, sBrk_a, sCnt_a, sSeq_a, sRet_a, sIf_a, sSet_a, sTgt_a, sAug_a, sApp_a, sExt_a, sPut_a, sPutK_a, pkO_s, sFor_a, sWhile_a, sPar_a, runD_a, b2_s, c2_s, sqO_nx, sqO_rt, sqO_bk, sqO_ct, ifO_t, ifO_f, stO_s, endO_nx, endO_rt, andO_t, andO_f, orO_t, orO_f, chO_s, chP_t, chP_f, slO_s, atO_i, lcO_s, forO_s, gsO_s, nxO_s, tgO_s, paO_s, apO_s, exO_s, plO_s, ptO_s, dB_b, tru_b, tru_n, tru_i, tru_l, tru_t, is_n, isn_n, nn_n, nn_i, nn_b, nn_t, nn_l, add_ii, add'_ii, sub_ii, neg_i, lt_ii, le_ii, gt_ii, ge_ii, ix_l, ix_t, ix_s, at0, at1, at2, sl_l, sl_t, len_l, len_t, len_s, abs_i, int_i, int_b, max_ii, min_ii, tup_s, lst_s, seq_l, seq_t, sum_s, wipe_n, wipe_c, mul_ii, fdiv_ii, mod_ii, add_ll, add_tt, setAll, mkT, mkL, oNot, List.getD_cons_zero, List.getD_cons_succ, List.length_cons, List.length_nil, List.set_cons_zero, List.set_cons_succ, List.map_cons, List.map_nil, List.replicate, List.cons_append, List.nil_append, List.append_nil, Option.bind_some, Option.map_some, List.all_cons, List.all_nil, if_true, if_false, reduceIte, Nat.reduceAdd, Nat.reduceSub, Nat.reduceLT, Nat.reduceLeDiff, Nat.reduceEqDiff, decide_true, decide_false, Bool.and_true, Bool.and_self, Bool.true_and, Bool.not_true, Bool.not_false, ne_eq, not_true_eq_false, not_false_eq_true, Nat.zero_add, Bool.false_eq_true, and_self, true_and, and_true, hj, w2, hc]
      rw [decide_eq_true (by omega), Bool.true_and]
      rcases ih with ⟨i1, d', kv', i2⟩ | ⟨i1, i2⟩
      · exact .inl ⟨i1, d', kv', by simp only [List.map_cons, forL, hg, Option.bind_some, hb, i2]⟩
      · exact .inr ⟨i1, by simp only [List.map_cons, forL, hg, Option.bind_some, hb, i2]⟩
theorem can_be_done_eq (w p : List Int) (n : Nat) (e : List Nat) (h : ∀ j ∈ e, j < n) : d_can_be_done [W2 w p n, .list (e.map fun j => PyData.int (j : Nat))] = some (.bool (kp w p 0 e)) := by
  rcases cbd_loop w p n (some (.list (e.map fun j => PyData.int (j : Nat)))) e 0 none h with ⟨i1, d', kv', i2⟩ | ⟨i1, i2⟩
  · rw [i1]
    generalize W2 w p n = WL at *
    generalize e.map (fun j => PyData.int (j : Nat)) = E at *
    simp -implicitDefEqProofs only [d_can_be_done, g_can_be_done, xVar_a, xC_a, xBin_a, xUn_a, tOf_a, tTru_a, tNotP_a, tAndP_a, tOrP_a, tyes_a, tno_a, tYesP_a, xNil_a, xCons_a, xTup_a, xLst_a, xAnd_a, xOr_a, xIf_a, xChain_a, oNo_a, oAt_a, xSl_a, xCall_a, xSeq_a, xIt_a, xLc_a, gSet_a, gTupD_a, gsNil_a, gsCons_a, sNop_a, sBrk_a, sCnt_a, sSeq_a, sRet_a, sIf_a, sSet_a, sTgt_a, sAug_a, sApp_a, sExt_a, sPut_a, sPutK_a, pkO_s, sFor_a, sWhile_a, sPar_a, runD_a, b2_s, c2_s, sqO_nx, sqO_rt, sqO_bk, sqO_ct, ifO_t, ifO_f, stO_s, endO_nx, endO_rt, andO_t, andO_f, orO_t, orO_f, chO_s, chP_t, chP_f, slO_s, atO_i, lcO_s, forO_s, gsO_s, nxO_s, tgO_s, paO_s, apO_s, exO_s, plO_s, ptO_s, dB_b, tru_b, tru_n, tru_i, tru_l, tru_t, is_n, isn_n, nn_n, nn_i, nn_b, nn_t, nn_l, add_ii, add'_ii, sub_ii, neg_i, lt_ii, le_ii, gt_ii, ge_ii, ix_l, ix_t, ix_s, at0, at1, at2, sl_l, sl_t, len_l, len_t, len_s, abs_i, int_i, int_b, max_ii, min_ii, tup_s, lst_s, seq_l, seq_t, sum_s, wipe_n, wipe_c, mul_ii, fdiv_ii, mod_ii, add_ll, add_tt, setAll, mkT, mkL, oNot, List.getD_cons_zero, List.getD_cons_succ, List.length_cons, List.length_nil, List.set_cons_zero, List.set_cons_succ, List.map_cons, List.map_nil, List.replicate, List.cons_append, List.nil_append, List.append_nil, Option.bind_some, Option.map_some, List.all_cons, List.all_nil, if_true, if_false, reduceIte, Nat.reduceAdd, Nat.reduceSub, Nat.reduceLT, Nat.reduceLeDiff, Nat.reduceEqDiff, decide_true, decide_false, Bool.and_true, Bool.and_self, Bool.true_and, Bool.not_true, Bool.not_false, ne_eq, not_true_eq_false, not_false_eq_true, Nat.zero_add, Bool.false_eq_true, and_self, true_and, and_true, i2]
  · rw [i1]
    generalize W2 w p n = WL at *
    generalize e.map (fun j => PyData.int (j : Nat)) = E at *
    simp -implicitDefEqProofs only [d_can_be_done, g_can_be_done, xVar_a, xC_a, xBin_a, xUn_a, tOf_a, tTru_a, tNotP_a, tAndP_a, tOrP_a, tyes_a, tno_a, tYesP_a, xNil_a, xCons_a, xTup_a, xLst_a, xAnd_a, xOr_a, xIf_a, xChain_a, oNo_a, oAt_a, xSl_a, xCall_a, xSeq_a, xIt_a, xLc_a, gSet_a, gTupD_a, gsNil_a, gsCons_a, sNop_a, sBrk_a, sCnt_a, sSeq_a, sRet_a, sIf_a, sSet_a, sTgt_a, sAug_a, sApp_a, sExt_a, sPut_a, sPutK_a, pkO_s, sFor_a, sWhile_a, sPar_a, runD_a, b2_s, c2_s, sqO_nx, sqO_rt, sqO_bk, sqO_ct, ifO_t, ifO_f, stO_s, endO_nx, endO_rt, andO_t, andO_f, orO_t, orO_f, chO_s, chP_t, chP_f, slO_s, atO_i, lcO_s, forO_s, gsO_s, nxO_s, tgO_s, paO_s, apO_s, exO_s, plO_s, ptO_s, dB_b, tru_b, tru_n, tru_i, tru_l, tru_t, is_n, isn_n, nn_n, nn_i, nn_b, nn_t, nn_l, add_ii, add'_ii, sub_ii, neg_i, lt_ii, le_ii, gt_ii, ge_ii, ix_l, ix_t, ix_s, at0, at1, at2, sl_l, sl_t, len_l, len_t, len_s, abs_i, int_i, int_b, max_ii, min_ii, tup_s, lst_s, seq_l, seq_t, sum_s, wipe_n, wipe_c, mul_ii, fdiv_ii, mod_ii, add_ll, add_tt, setAll, mkT, mkL, oNot, List.getD_cons_zero, List.getD_cons_succ, List.length_cons, List.length_nil, List.set_cons_zero, List.set_cons_succ, List.map_cons, List.map_nil, List.replicate, List.cons_append, List.nil_append, List.append_nil, Option.bind_some, Option.map_some, List.all_cons, List.all_nil, if_true, if_false, reduceIte, Nat.reduceAdd, Nat.reduceSub, Nat.reduceLT, Nat.reduceLeDiff, Nat.reduceEqDiff, decide_true, decide_false, Bool.and_true, Bool.and_self, Bool.true_and, Bool.not_true, Bool.not_false, ne_eq, not_true_eq_false, not_false_eq_true, Nat.zero_add, Bool.false_eq_true, and_self, true_and, and_true, i2]
theorem one_dock_eq (w p : List Int) (n : Nat) (c : List Nat) (hc : ∀ j ∈ c, j < n) (hl : c.length ≤ 1000) : d_one_dock [W2 w p n, .list (c.map fun j => PyData.int (j : Nat))] = some (.bool (kp w p 0 (srt p c))) := by
  obtain ⟨s1, s2, s3⟩ := srt_spec p c hl
  have h1 : lcL (gSet 4) tYesP (xTup (xCons (xBin oIx (xBin oIx (xVar 0) (xVar 4)) (xC (.int 1))) (xCons (xVar 4) xNil))) [some (W2 w p n), some (.list (c.map fun j => PyData.int (j : Nat))), none, none, none] (c.map fun j => PyData.int (j : Nat)) = some (c.map (pD p)) := by
    refine lcL_map _ _ _ fun k hk => ?_
    have hj := w2_at w p (hc k hk)
    have hW : W2 w p n = .tuple ((List.range n).map (w2 w p)) := rfl
    rw [hW]
    generalize (List.range n).map (w2 w p) = WL at *
    simp -implicitDefEqProofs only [xVar_a, xC_a, xBin_a, xUn_a, tOf_a, tTru_a, tNotP_a, tAndP_a, tOrP_a, tyes_a, tno_a, tYesP_a, xNil_a, xCons_a, xTup_a, xLst_a, xAnd_a, xOr_a, xIf_a, xChain_a, oNo_a, oAt_a, xSl_a, xCall_a, xSeq_a, xIt_a, xLc_a, gSet_a, gTupD_a, gsNil_a, gsCons_a, sNop_a, sBrk_a, sCnt_a, sSeq_a, sRet_a, sIf_a, sSet_a, sTgt_a, sAug_a, sApp_a, sExt_a, sPut_a, sPutK_a, pkO_s, sFor_a, sWhile_a, sPar_a, runD_a, b2_s, c2_s, sqO_nx, sqO_rt, sqO_bk, sqO_ct, ifO_t, ifO_f, stO_s, endO_nx, endO_rt, andO_t, andO_f, orO_t, orO_f, chO_s, chP_t, chP_f, slO_s, atO_i, lcO_s, forO_s, gsO_s, nxO_s, tgO_s, paO_s, apO_s, exO_s, plO_s, ptO_s, dB_b, tru_b, tru_n, tru_i, tru_l, tru_t, is_n, isn_n, nn_n, nn_i, nn_b, nn_t, nn_l, add_ii, add'_ii, sub_ii, neg_i, lt_ii, le_ii, gt_ii, ge_ii, ix_l, ix_t, ix_s, at0, at1, at2, sl_l, sl_t, len_l, len_t, len_s, abs_i, int_i, int_b, max_ii, min_ii, tup_s, lst_s, seq_l, seq_t, sum_s, wipe_n, wipe_c, mul_ii, fdiv_ii, mod_ii, add_ll, add_tt, setAll, mkT, mkL, oNot, List.getD_cons_zero, List.getD_cons_succ, List.length_cons, List.length_nil, List.set_cons_zero, List.set_cons_succ, List.map_cons, List.map_nil, List.replicate, List.cons_append, List.nil_append, List.append_nil, Option.bind_some, Option.map_some, List.all_cons, List.all_nil, if_true, if_false, reduceIte, Nat.reduceAdd, Nat.reduceSub, Nat.reduceLT, Nat.reduceLeDiff, Nat.reduceEqDiff, decide_true, decide_false, Bool.and_true, Bool.and_self, Bool.true_and, Bool.not_true, Bool.not_false, ne_eq, not_true_eq_false, not_false_eq_true, Nat.zero_add, Bool.false_eq_true, and_self, true_and, and_true, hj, w2, pD]
  have h2 : ∀ x2 x3 x4, lcL (gTupD 2 (gsCons (gSet 3) (gsCons (gSet 4) gsNil))) tYesP (xVar 4) [some (W2 w p n), some (.list (c.map fun j => PyData.int (j : Nat))), x2, x3, x4] ((srt p c).map (pD p)) = some ((srt p c).map fun j => PyData.int (j : Nat)) := fun x2 x3 x4 => by
    refine lcL_map _ _ _ fun k hk => ?_
    simp -implicitDefEqProofs only [xVar_a, xC_a, xBin_a, xUn_a, tOf_a, tTru_a, tNotP_a, tAndP_a, tOrP_a, tyes_a, tno_a, tYesP_a, xNil_a, xCons_a, xTup_a, xLst_a, xAnd_a, xOr_a, xIf_a, xChain_a, oNo_a, oAt_a, xSl_a, xCall_a, xSeq_a, xIt_a, xLc_a, gSet_a, gTupD_a, gsNil_a, gsCons_a, sNop_a, sBrk_a, sCnt_a, sSeq_a, sRet_a, sIf_a, sSet_a, sTgt_a, sAug_a, sApp_a, sExt_a, sPut_a, sPutK_a, pkO_s, sFor_a, sWhile_a, sPar_a, runD_a, b2_s, c2_s, sqO_nx, sqO_rt, sqO_bk, sqO_ct, ifO_t, ifO_f, stO_s, endO_nx, endO_rt, andO_t, andO_f, orO_t, orO_f, chO_s, chP_t, chP_f, slO_s, atO_i, lcO_s, forO_s, gsO_s, nxO_s, tgO_s, paO_s, apO_s, exO_s, plO_s, ptO_s, dB_b, tru_b, tru_n, tru_i, tru_l, tru_t, is_n, isn_n, nn_n, nn_i, nn_b, nn_t, nn_l, add_ii, add'_ii, sub_ii, neg_i, lt_ii, le_ii, gt_ii, ge_ii, ix_l, ix_t, ix_s, at0, at1, at2, sl_l, sl_t, len_l, len_t, len_s, abs_i, int_i, int_b, max_ii, min_ii, tup_s, lst_s, seq_l, seq_t, sum_s, wipe_n, wipe_c, mul_ii, fdiv_ii, mod_ii, add_ll, add_tt, setAll, mkT, mkL, oNot, List.getD_cons_zero, List.getD_cons_succ, List.length_cons, List.length_nil, List.set_cons_zero, List.set_cons_succ, List.map_cons, List.map_nil, List.replicate, List.cons_append, List.nil_append, List.append_nil, Option.bind_some, Option.map_some, List.all_cons, List.all_nil, if_true, if_false, reduceIte, Nat.reduceAdd, Nat.reduceSub, Nat.reduceLT, Nat.reduceLeDiff, Nat.reduceEqDiff, decide_true, decide_false, Bool.and_true, Bool.and_self, Bool.true_and, Bool.not_true, Bool.not_false, ne_eq, not_true_eq_false, not_false_eq_true, Nat.zero_add, Bool.false_eq_true, and_self, true_and, and_true, pD]
  have h3 := can_be_done_eq w p n (srt p c) fun j hj => hc j (s1.mem_iff.mp hj)
  generalize W2 w p n = WL at *
  generalize c.map (fun j => PyData.int (j : Nat)) = C at *
  generalize c.map (pD p) = CP at *
  generalize (srt p c).map (pD p) = SP at *
  generalize (srt p c).map (fun j => PyData.int (j : Nat)) = SI at *
  have hf : flat (.bool (kp w p 0 (srt p c))) = true := rfl
  simp -implicitDefEqProofs only [d_one_dock, g_one_dock, xVar_a, xC_a, xBin_a, xUn_a, tOf_a, tTru_a, tNotP_a, tAndP_a, tOrP_a, tyes_a, tno_a, tYesP_a, xNil_a, xCons_a, xTup_a, xLst_a, xAnd_a, xOr_a, xIf_a, xChain_a, oNo_a, oAt_a, xSl_a, xCall_a, xSeq_a, xIt_a, xLc_a, gSet_a, gTupD_a, gsNil_a, gsCons_a, sNop_a, sBrk_a, sCnt_a, sSeq_a, sRet_a, sIf_a, sSet_a, sTgt_a, sAug_a, sApp_a, sExt_a, sPut_a, sPutK_a, pkO_s, sFor_a, sWhile_a, sPar_a, runD_a, b2_s, c2_s, sqO_nx, sqO_rt, sqO_bk, sqO_ct, ifO_t, ifO_f, stO_s, endO_nx, endO_rt, andO_t, andO_f, orO_t, orO_f, chO_s, chP_t, chP_f, slO_s, atO_i, lcO_s, forO_s, gsO_s, nxO_s, tgO_s, paO_s, apO_s, exO_s, plO_s, ptO_s, dB_b, tru_b, tru_n, tru_i, tru_l, tru_t, is_n, isn_n, nn_n, nn_i, nn_b, nn_t, nn_l, add_ii, add'_ii, sub_ii, neg_i, lt_ii, le_ii, gt_ii, ge_ii, ix_l, ix_t, ix_s, at0, at1, at2, sl_l, sl_t, len_l, len_t, len_s, abs_i, int_i, int_b, max_ii, min_ii, tup_s, lst_s, seq_l, seq_t, sum_s, wipe_n, wipe_c, mul_ii, fdiv_ii, mod_ii, add_ll, add_tt, setAll, mkT, mkL, oNot, List.getD_cons_zero, List.getD_cons_succ, List.length_cons, List.length_nil, List.set_cons_zero, List.set_cons_succ, List.map_cons, List.map_nil, List.replicate, List.cons_append, List.nil_append, List.append_nil, Option.bind_some, Option.map_some, List.all_cons, List.all_nil, if_true, if_false, reduceIte, Nat.reduceAdd, Nat.reduceSub, Nat.reduceLT, Nat.reduceLeDiff, Nat.reduceEqDiff, decide_true, decide_false, Bool.and_true, Bool.and_self, Bool.true_and, Bool.not_true, Bool.not_false, ne_eq, not_true_eq_false, not_false_eq_true, Nat.zero_add, Bool.false_eq_true, and_self, true_and, and_true, h1, s3, h2, h3, hf]
end K13

namespace K13
open PySem PySem.Spec PyProof.Rows L2 Pm
open PySem.W (Datum Tup)
def own (r : List Nat) (d i : Nat) : Bool := decide (((r.getD i 0 : Nat) : Int) = (d : Int))
def ch (r : List Nat) (n d : Nat) : List Nat := (List.range n).filter (own r d)
theorem ch_lt (r : List Nat) (n d : Nat) : ∀ j ∈ ch r n d, j < n := fun j hj => List.mem_range.mp (List.mem_filter.mp hj).1
theorem ch_len (r : List Nat) (n d : Nat) : (ch r n d).length ≤ n := by
  have := List.length_filter_le (own r d) (List.range n)
  rwa [List.length_range] at this
noncomputable def fitB (w p : List Int) (n c : Nat) (r : List Nat) : Bool := (List.range c).all fun d => kp w p 0 (srt p (ch r n d))
theorem enum_oD (r : List Nat) : oEnum [oD r] = some ((List.range r.length).map fun i => .tuple [.int (i : Nat), .int (r.getD i 0 : Nat)]) := by
  show some (enumD (r.map fun j => PyData.int (j : Nat))) = _
  congr 1
  unfold enumD
  apply List.ext_getElem?
  intro i
  by_cases h : i < r.length
  · simp [h]
  · simp [h]
theorem parts_eq (w p : List Int) (n c : Nat) (r : List Nat) (hr : r.length = n) (hc : c ≤ 1000) (x3 x4 x5 x6 x7 x8 x9 : Option D) :
    xLc (xIt oR1 (xCons (xVar 1) xNil)) (gSet 6) tYesP (xLc (xIt oEnum (xCons (xVar 2) xNil)) (gTupD 2 (gsCons (gSet 8) (gsCons (gSet 9) gsNil))) (tOf (xBin oEq (xVar 9) (xVar 6))) (xVar 8) [8, 9]) [6] [some (W2 w p n), some (.int (c : Nat)), some (oD r), x3, x4, x5, x6, x7, x8, x9] = some (.list ((List.range c).map fun d => .list ((ch r n d).map fun j => PyData.int (j : Nat)))) := by
  have hrg := rg0 c hc
  have hen := enum_oD r
  rw [hr] at hen
  have h1 : lcL (gSet 6) tYesP (xLc (xIt oEnum (xCons (xVar 2) xNil)) (gTupD 2 (gsCons (gSet 8) (gsCons (gSet 9) gsNil))) (tOf (xBin oEq (xVar 9) (xVar 6))) (xVar 8) [8, 9]) [some (W2 w p n), some (.int (c : Nat)), some (oD r), x3, x4, x5, none, x7, x8, x9] ((List.range c).map fun d : Nat => PyData.int (d : Nat)) = some ((List.range c).map fun d => .list ((ch r n d).map fun j => PyData.int (j : Nat))) := by
    refine lcL_map _ _ _ fun d hd => ?_
    have h2 : lcL (gTupD 2 (gsCons (gSet 8) (gsCons (gSet 9) gsNil))) (tOf (xBin oEq (xVar 9) (xVar 6))) (xVar 8) [some (W2 w p n), some (.int (c : Nat)), some (oD r), x3, x4, x5, some (.int (d : Nat)), x7, none, none] ((List.range n).map fun i => .tuple [.int (i : Nat), .int (r.getD i 0 : Nat)]) = some ((ch r n d).map fun j => PyData.int (j : Nat)) := by
      refine lcL_filter _ _ (own r d) _ fun i hi => ?_
      generalize W2 w p n = WD at *
      generalize oD r = RD at *
      exact ⟨[some WD, some (.int (c : Nat)), some RD, x3, x4, x5, some (.int (d : Nat)), x7, some (.int (i : Nat)), some (.int (r.getD i 0 : Nat))], rfl, by simp -implicitDefEqProofs only [xVar_a, xC_a, xBin_a, xUn_a, tOf_a, tTru_a, tNotP_a, tAndP_a, tOrP_a, tyes_a, tno_a, tYesP_a, xNil_a, xCons_a, xTup_a, xLst_a, xAnd_a, xOr_a, xIf_a, xChain_a, oNo_a, oAt_a, xSl_a, xCall_a, xSeq_a, xIt_a, xLc_a, gSet_a, gTupD_a, gsNil_a, gsCons_a, sNop_a, sBrk_a, sCnt_a, sSeq_a, sRet_a, sIf_a, sSet_a, sTgt_a, sAug_a, sApp_a, sExt_a, sPut_a, sPutK_a, pkO_s, sFor_a, sWhile_a, sPar_a, runD_a, b2_s, c2_s, sqO_nx, sqO_rt, sqO_bk, sqO_ct, ifO_t, ifO_f, stO_s, endO_nx, endO_rt, andO_t, andO_f, orO_t, orO_f, chO_s, chP_t, chP_f, slO_s, atO_i, lcO_s, forO_s, gsO_s, nxO_s, tgO_s, paO_s, apO_s, exO_s, plO_s, ptO_s, dB_b, tru_b, tru_n, tru_i, tru_l, tru_t, is_n, isn_n, nn_n, nn_i, nn_b, nn_t, nn_l, add_ii, add'_ii, sub_ii, neg_i, lt_ii, le_ii, gt_ii, ge_ii, ix_l, ix_t, ix_s, at0, at1, at2, sl_l, sl_t, len_l, len_t, len_s, abs_i, int_i, int_b, max_ii, min_ii, tup_s, lst_s, seq_l, seq_t, sum_s, wipe_n, wipe_c, mul_ii, fdiv_ii, mod_ii, add_ll, add_tt, setAll, mkT, mkL, oNot, List.getD_cons_zero, List.getD_cons_succ, List.length_cons, List.length_nil, List.set_cons_zero, List.set_cons_succ, List.map_cons, List.map_nil, List.replicate, List.cons_append, List.nil_append, List.append_nil, Option.bind_some, Option.map_some, List.all_cons, List.all_nil, if_true, if_false, reduceIte, Nat.reduceAdd, Nat.reduceSub, Nat.reduceLT, Nat.reduceLeDiff, Nat.reduceEqDiff, decide_true, decide_false, Bool.and_true, Bool.and_self, Bool.true_and, Bool.not_true, Bool.not_false, ne_eq, not_true_eq_false, not_false_eq_true, Nat.zero_add, Bool.false_eq_true, and_self, true_and, and_true, eq_int, own], fun _ => rfl⟩
    generalize W2 w p n = WD at *
    generalize oD r = RD at *
    generalize ((List.range n).map fun i => PyData.tuple [.int (i : Nat), .int (r.getD i 0 : Nat)]) = EN at *
    simp -implicitDefEqProofs only [xVar_a, xC_a, xBin_a, xUn_a, tOf_a, tTru_a, tNotP_a, tAndP_a, tOrP_a, tyes_a, tno_a, tYesP_a, xNil_a, xCons_a, xTup_a, xLst_a, xAnd_a, xOr_a, xIf_a, xChain_a, oNo_a, oAt_a, xSl_a, xCall_a, xSeq_a, xIt_a, xLc_a, gSet_a, gTupD_a, gsNil_a, gsCons_a, sNop_a, sBrk_a, sCnt_a, sSeq_a, sRet_a, sIf_a, sSet_a, sTgt_a, sAug_a, sApp_a, sExt_a, sPut_a, sPutK_a, pkO_s, sFor_a, sWhile_a, sPar_a, runD_a, b2_s, c2_s, sqO_nx, sqO_rt, sqO_bk, sqO_ct, ifO_t, ifO_f, stO_s, endO_nx, endO_rt, andO_t, andO_f, orO_t, orO_f, chO_s, chP_t, chP_f, slO_s, atO_i, lcO_s, forO_s, gsO_s, nxO_s, tgO_s, paO_s, apO_s, exO_s, plO_s, ptO_s, dB_b, tru_b, tru_n, tru_i, tru_l, tru_t, is_n, isn_n, nn_n, nn_i, nn_b, nn_t, nn_l, add_ii, add'_ii, sub_ii, neg_i, lt_ii, le_ii, gt_ii, ge_ii, ix_l, ix_t, ix_s, at0, at1, at2, sl_l, sl_t, len_l, len_t, len_s, abs_i, int_i, int_b, max_ii, min_ii, tup_s, lst_s, seq_l, seq_t, sum_s, wipe_n, wipe_c, mul_ii, fdiv_ii, mod_ii, add_ll, add_tt, setAll, mkT, mkL, oNot, List.getD_cons_zero, List.getD_cons_succ, List.length_cons, List.length_nil, List.set_cons_zero, List.set_cons_succ, List.map_cons, List.map_nil, List.replicate, List.cons_append, List.nil_append, List.append_nil, Option.bind_some, Option.map_some, List.all_cons, List.all_nil, if_true, if_false, reduceIte, Nat.reduceAdd, Nat.reduceSub, Nat.reduceLT, Nat.reduceLeDiff, Nat.reduceEqDiff, decide_true, decide_false, Bool.and_true, Bool.and_self, Bool.true_and, Bool.not_true, Bool.not_false, ne_eq, not_true_eq_false, not_false_eq_true, Nat.zero_add, Bool.false_eq_true, and_self, true_and, and_true, hen, h2]
  generalize W2 w p n = WD at *
  generalize oD r = RD at *
  generalize ((List.range c).map fun d : Nat => PyData.int (d : Nat)) = CD at *
  simp -implicitDefEqProofs only [xVar_a, xC_a, xBin_a, xUn_a, tOf_a, tTru_a, tNotP_a, tAndP_a, tOrP_a, tyes_a, tno_a, tYesP_a, xNil_a, xCons_a, xTup_a, xLst_a, xAnd_a, xOr_a, xIf_a, xChain_a, oNo_a, oAt_a, xSl_a, xCall_a, xSeq_a, xIt_a, xLc_a, gSet_a, gTupD_a, gsNil_a, gsCons_a, sNop_a, sBrk_a, sCnt_a, sSeq_a, sRet_a, sIf_a, sSet_a, sTgt_a, sAug_a, sApp_a, sExt_a, sPut_a, sPutK_a, pkO_s, sFor_a, sWhile_a, sPar_a, runD_a, b2_s, c2_s, sqO_nx, sqO_rt, sqO_bk, sqO_ct, ifO_t, ifO_f, stO_s, endO_nx, endO_rt, andO_t, andO_f, orO_t, orO_f, chO_s, chP_t, chP_f, slO_s, atO_i, lcO_s, forO_s, gsO_s, nxO_s, tgO_s, paO_s, apO_s, exO_s, plO_s, ptO_s, dB_b, tru_b, tru_n, tru_i, tru_l, tru_t, is_n, isn_n, nn_n, nn_i, nn_b, nn_t, nn_l, add_ii, add'_ii, sub_ii, neg_i, lt_ii, le_ii, gt_ii, ge_ii, ix_l, ix_t, ix_s, at0, at1, at2, sl_l, sl_t, len_l, len_t, len_s, abs_i, int_i, int_b, max_ii, min_ii, tup_s, lst_s, seq_l, seq_t, sum_s, wipe_n, wipe_c, mul_ii, fdiv_ii, mod_ii, add_ll, add_tt, setAll, mkT, mkL, oNot, List.getD_cons_zero, List.getD_cons_succ, List.length_cons, List.length_nil, List.set_cons_zero, List.set_cons_succ, List.map_cons, List.map_nil, List.replicate, List.cons_append, List.nil_append, List.append_nil, Option.bind_some, Option.map_some, List.all_cons, List.all_nil, if_true, if_false, reduceIte, Nat.reduceAdd, Nat.reduceSub, Nat.reduceLT, Nat.reduceLeDiff, Nat.reduceEqDiff, decide_true, decide_false, Bool.and_true, Bool.and_self, Bool.true_and, Bool.not_true, Bool.not_false, ne_eq, not_true_eq_false, not_false_eq_true, Nat.zero_add, Bool.false_eq_true, and_self, true_and, and_true, hrg, h1]
theorem row_step (w p : List Int) (n c : Nat) (r : List Nat) (hr : r.length = n) (hn : n ≤ 100) (hc : c ≤ 100) (x3 x4 x5 x6 x7 x8 x9 : Option D) :
    l1_docks_needed [some (W2 w p n), some (.int (c : Nat)), some (oD r), x3, x4, x5, x6, x7, x8, x9] = if fitB w p n c r then some (.rt (.int (c : Nat))) else some (.nx [some (W2 w p n), some (.int (c : Nat)), some (oD r), some (.list ((List.range c).map fun d => .list ((ch r n d).map fun j => PyData.int (j : Nat)))), x4, x5, x6, x7, x8, x9]) := by
  have h1 := parts_eq w p n c r hr (by omega) x3 x4 x5 x6 x7 x8 x9
  have h2 : lcL (gSet 7) tYesP (xCall (fun ds => if ds.length = 2 then (d_one_dock) ds else none) (xCons (xVar 0) (xCons (xVar 7) xNil))) [some (W2 w p n), some (.int (c : Nat)), some (oD r), some (.list ((List.range c).map fun d => .list ((ch r n d).map fun j => PyData.int (j : Nat)))), x4, x5, x6, none, x8, x9] ((List.range c).map fun d => .list ((ch r n d).map fun j => PyData.int (j : Nat))) = some ((List.range c).map fun d => PyData.bool (kp w p 0 (srt p (ch r n d)))) := by
    refine lcL_map _ _ _ fun d hd => ?_
    have h3 := one_dock_eq w p n (ch r n d) (ch_lt r n d) (by have := ch_len r n d; omega)
    generalize W2 w p n = WD at *
    generalize oD r = RD at *
    generalize ((List.range c).map fun d => PyData.list ((ch r n d).map fun j => PyData.int (j : Nat))) = PP at *
    generalize ((ch r n d).map fun j => PyData.int (j : Nat)) = CC at *
    simp -implicitDefEqProofs only [xVar_a, xC_a, xBin_a, xUn_a, tOf_a, tTru_a, tNotP_a, tAndP_a, tOrP_a, tyes_a, tno_a, tYesP_a, xNil_a, xCons_a, xTup_a, xLst_a, xAnd_a, xOr_a, xIf_a, xChain_a, oNo_a, oAt_a, xSl_a, xCall_a, xSeq_a, xIt_a, xLc_a, gSet_a, gTupD_a, gsNil_a, gsCons_a, sNop_a, sBrk_a, sCnt_a, sSeq_a, sRet_a, sIf_a, sSet_a, sTgt_a, sAug_a, sApp_a, sExt_a, sPut_a, sPutK_a, pkO_s, sFor_a, sWhile_a, sPar_a, runD_a, b2_s, c2_s, sqO_nx, sqO_rt, sqO_bk, sqO_ct, ifO_t, ifO_f, stO_s, endO_nx, endO_rt, andO_t, andO_f, orO_t, orO_f, chO_s, chP_t, chP_f, slO_s, atO_i, lcO_s, forO_s, gsO_s, nxO_s, tgO_s, paO_s, apO_s, exO_s, plO_s, ptO_s, dB_b, tru_b, tru_n, tru_i, tru_l, tru_t, is_n, isn_n, nn_n, nn_i, nn_b, nn_t, nn_l, add_ii, add'_ii, sub_ii, neg_i, lt_ii, le_ii, gt_ii, ge_ii, ix_l, ix_t, ix_s, at0, at1, at2, sl_l, sl_t, len_l, len_t, len_s, abs_i, int_i, int_b, max_ii, min_ii, tup_s, lst_s, seq_l, seq_t, sum_s, wipe_n, wipe_c, mul_ii, fdiv_ii, mod_ii, add_ll, add_tt, setAll, mkT, mkL, oNot, List.getD_cons_zero, List.getD_cons_succ, List.length_cons, List.length_nil, List.set_cons_zero, List.set_cons_succ, List.map_cons, List.map_nil, List.replicate, List.cons_append, List.nil_append, List.append_nil, Option.bind_some, Option.map_some, List.all_cons, List.all_nil, if_true, if_false, reduceIte, Nat.reduceAdd, Nat.reduceSub, Nat.reduceLT, Nat.reduceLeDiff, Nat.reduceEqDiff, decide_true, decide_false, Bool.and_true, Bool.and_self, Bool.true_and, Bool.not_true, Bool.not_false, ne_eq, not_true_eq_false, not_false_eq_true, Nat.zero_add, Bool.false_eq_true, and_self, true_and, and_true, h3]
  have h4 := bAll_map (List.range c) fun d => kp w p 0 (srt p (ch r n d))
  have h5 : (List.range c).all (fun d => kp w p 0 (srt p (ch r n d))) = fitB w p n c r := rfl
  rw [h5] at h4
  generalize W2 w p n = WD at *
  generalize oD r = RD at *
  generalize ((List.range c).map fun d => PyData.list ((ch r n d).map fun j => PyData.int (j : Nat))) = PP at *
  generalize ((List.range c).map fun d => PyData.bool (kp w p 0 (srt p (ch r n d)))) = BB at *
  cases hf : fitB w p n c r with
  | true =>
    rw [hf] at h4
    simp -implicitDefEqProofs only [l1_docks_needed, sSeq_a, sSet_a, h1, xVar_a, xC_a, xBin_a, xUn_a, tOf_a, tTru_a, tNotP_a, tAndP_a, tOrP_a, tyes_a, tno_a, tYesP_a, xNil_a, xCons_a, xTup_a, xLst_a, xAnd_a, xOr_a, xIf_a, xChain_a, oNo_a, oAt_a, xSl_a, xCall_a, xSeq_a, xIt_a, xLc_a, gSet_a, gTupD_a, gsNil_a, gsCons_a, sNop_a, sBrk_a, sCnt_a, sSeq_a, sRet_a, sIf_a, sSet_a, sTgt_a, sAug_a, sApp_a, sExt_a, sPut_a, sPutK_a, pkO_s, sFor_a, sWhile_a, sPar_a, runD_a, b2_s, c2_s, sqO_nx, sqO_rt, sqO_bk, sqO_ct, ifO_t, ifO_f, stO_s, endO_nx, endO_rt, andO_t, andO_f, orO_t, orO_f, chO_s, chP_t, chP_f, slO_s, atO_i, lcO_s, forO_s, gsO_s, nxO_s, tgO_s, paO_s, apO_s, exO_s, plO_s, ptO_s, dB_b, tru_b, tru_n, tru_i, tru_l, tru_t, is_n, isn_n, nn_n, nn_i, nn_b, nn_t, nn_l, add_ii, add'_ii, sub_ii, neg_i, lt_ii, le_ii, gt_ii, ge_ii, ix_l, ix_t, ix_s, at0, at1, at2, sl_l, sl_t, len_l, len_t, len_s, abs_i, int_i, int_b, max_ii, min_ii, tup_s, lst_s, seq_l, seq_t, sum_s, wipe_n, wipe_c, mul_ii, fdiv_ii, mod_ii, add_ll, add_tt, setAll, mkT, mkL, oNot, List.getD_cons_zero, List.getD_cons_succ, List.length_cons, List.length_nil, List.set_cons_zero, List.set_cons_succ, List.map_cons, List.map_nil, List.replicate, List.cons_append, List.nil_append, List.append_nil, Option.bind_some, Option.map_some, List.all_cons, List.all_nil, if_true, if_false, reduceIte, Nat.reduceAdd, Nat.reduceSub, Nat.reduceLT, Nat.reduceLeDiff, Nat.reduceEqDiff, decide_true, decide_false, Bool.and_true, Bool.and_self, Bool.true_and, Bool.not_true, Bool.not_false, ne_eq, not_true_eq_false, not_false_eq_true, Nat.zero_add, Bool.false_eq_true, and_self, true_and, and_true, h2, h4]
  | false =>
    rw [hf] at h4
    simp -implicitDefEqProofs only [l1_docks_needed, sSeq_a, sSet_a, h1, xVar_a, xC_a, xBin_a, xUn_a, tOf_a, tTru_a, tNotP_a, tAndP_a, tOrP_a, tyes_a, tno_a, tYesP_a, xNil_a, xCons_a, xTup_a, xLst_a, xAnd_a, xOr_a, xIf_a, xChain_a, oNo_a, oAt_a, xSl_a, xCall_a, xSeq_a, xIt_a, xLc_a, gSet_a, gTupD_a, gsNil_a, gsCons_a, sNop_a, sBrk_a, sCnt_a, sSeq_a, sRet_a, sIf_a, sSet_a, sTgt_a, sAug_a, sApp_a, sExt_a, sPut_a, sPutK_a, pkO_s, sFor_a, sWhile_a, sPar_a, runD_a, b2_s, c2_s, sqO_nx, sqO_rt, sqO_bk, sqO_ct, ifO_t, ifO_f, stO_s, endO_nx, endO_rt, andO_t, andO_f, orO_t, orO_f, chO_s, chP_t, chP_f, slO_s, atO_i, lcO_s, forO_s, gsO_s, nxO_s, tgO_s, paO_s, apO_s, exO_s, plO_s, ptO_s, dB_b, tru_b, tru_n, tru_i, tru_l, tru_t, is_n, isn_n, nn_n, nn_i, nn_b, nn_t, nn_l, add_ii, add'_ii, sub_ii, neg_i, lt_ii, le_ii, gt_ii, ge_ii, ix_l, ix_t, ix_s, at0, at1, at2, sl_l, sl_t, len_l, len_t, len_s, abs_i, int_i, int_b, max_ii, min_ii, tup_s, lst_s, seq_l, seq_t, sum_s, wipe_n, wipe_c, mul_ii, fdiv_ii, mod_ii, add_ll, add_tt, setAll, mkT, mkL, oNot, List.getD_cons_zero, List.getD_cons_succ, List.length_cons, List.length_nil, List.set_cons_zero, List.set_cons_succ, List.map_cons, List.map_nil, List.replicate, List.cons_append, List.nil_append, List.append_nil, Option.bind_some, Option.map_some, List.all_cons, List.all_nil, if_true, if_false, reduceIte, Nat.reduceAdd, Nat.reduceSub, Nat.reduceLT, Nat.reduceLeDiff, Nat.reduceEqDiff, decide_true, decide_false, Bool.and_true, Bool.and_self, Bool.true_and, Bool.not_true, Bool.not_false, ne_eq, not_true_eq_false, not_false_eq_true, Nat.zero_add, Bool.false_eq_true, and_self, true_and, and_true, h2, h4]
noncomputable def ndF (w p : List Int) (n c : Nat) : Bool := (TUP n c).any (fitB w p n c)
def bad1 (w p : List Int) (n : Nat) : Bool := (List.range n).any fun k => decide (p.getD k 0 < w.getD k 0 - 1)
def oIN : Option Nat → D
  | none => .none
  | some c => .int (c : Nat)
noncomputable def ndd (w p : List Int) (n : Nat) : Option Nat := if bad1 w p n then none else (List.range (n + 1)).find? (ndF w p n)
theorem bAny_map {α : Type} (l : List α) (f : α → Bool) : bAny [.list (l.map fun x => PyData.bool (f x))] = some (.bool (l.any f)) := by
  have hb := asBools_map (l.map f)
  rw [List.map_map] at hb
  show (asBools (l.map fun x => PyData.bool (f x))).map _ = _
  have e2 : (l.map fun x => PyData.bool (f x)) = l.map (PyData.bool ∘ f) := rfl
  rw [e2, hb]
  simp [List.any_map, Function.comp_def]
theorem find_any {α : Type} (f : α → Bool) (l : List α) : (l.find? f = none ↔ l.any f = false) := by
  rw [List.find?_eq_none, List.any_eq_false]
theorem docks_needed_eq (w p : List Int) {n : Nat} (h1 : 1 ≤ n) (h4 : n ≤ 4) : d_docks_needed [W2 w p n] = some (oIN (ndd w p n)) := by
  have hW : W2 w p n = .tuple ((List.range n).map (w2 w p)) := rfl
  have ha : ∀ x1 x2 x3 x6 x7 x8 x9, lcL (gTupD 2 (gsCons (gSet 4) (gsCons (gSet 5) gsNil))) tYesP (xBin oGt (xBin oSub (xVar 4) (xC (.int 1))) (xVar 5)) [some (W2 w p n), x1, x2, x3, none, none, x6, x7, x8, x9] ((List.range n).map (w2 w p)) = some ((List.range n).map fun k => PyData.bool (decide (p.getD k 0 < w.getD k 0 - 1))) := fun x1 x2 x3 x6 x7 x8 x9 => by
    refine lcL_map _ _ _ fun k hk => ?_
    generalize W2 w p n = WD at *
    simp -implicitDefEqProofs only [xVar_a, xC_a, xBin_a, xUn_a, tOf_a, tTru_a, tNotP_a, tAndP_a, tOrP_a, tyes_a, tno_a, tYesP_a, xNil_a, xCons_a, xTup_a, xLst_a, xAnd_a, xOr_a, xIf_a, xChain_a, oNo_a, oAt_a, xSl_a, xCall_a, xSeq_a, xIt_a, xLc_a, gSet_a, gTupD_a, gsNil_a, gsCons_a, sNop_a, sBrk_a, sCnt_a, sSeq_a, sRet_a, sIf_a, sSet_a, sTgt_a, sAug_a, sApp_a, sExt_a, sPut_a, sPutK_a, pkO_s, sFor_a, sWhile_a, sPar_a, runD_a, b2_s, c2_s, sqO_nx, sqO_rt, sqO_bk, sqO_ct, ifO_t, ifO_f, stO_s, endO_nx, endO_rt, andO_t, andO_f, orO_t, orO_f, chO_s, chP_t, chP_f, slO_s, atO_i, lcO_s, forO_s, gsO_s, nxO_s, tgO_s, paO_s, apO_s, exO_s, plO_s, ptO_s, dB_b, tru_b, tru_n, tru_i, tru_l, tru_t, is_n, isn_n, nn_n, nn_i, nn_b, nn_t, nn_l, add_ii, add'_ii, sub_ii, neg_i, lt_ii, le_ii, gt_ii, ge_ii, ix_l, ix_t, ix_s, at0, at1, at2, sl_l, sl_t, len_l, len_t, len_s, abs_i, int_i, int_b, max_ii, min_ii, tup_s, lst_s, seq_l, seq_t, sum_s, wipe_n, wipe_c, mul_ii, fdiv_ii, mod_ii, add_ll, add_tt, setAll, mkT, mkL, oNot, List.getD_cons_zero, List.getD_cons_succ, List.length_cons, List.length_nil, List.set_cons_zero, List.set_cons_succ, List.map_cons, List.map_nil, List.replicate, List.cons_append, List.nil_append, List.append_nil, Option.bind_some, Option.map_some, List.all_cons, List.all_nil, if_true, if_false, reduceIte, Nat.reduceAdd, Nat.reduceSub, Nat.reduceLT, Nat.reduceLeDiff, Nat.reduceEqDiff, decide_true, decide_false, Bool.and_true, Bool.and_self, Bool.true_and, Bool.not_true, Bool.not_false, ne_eq, not_true_eq_false, not_false_eq_true, Nat.zero_add, Bool.false_eq_true, and_self, true_and, and_true, w2]
  have hb := bAny_map (List.range n) fun k => decide (p.getD k 0 < w.getD k 0 - 1)
  have hb' : (List.range n).any (fun k => decide (p.getD k 0 < w.getD k 0 - 1)) = bad1 w p n := rfl
  rw [hb'] at hb
  have hr := rg0 (n + 1) (by omega)
  have hl : ((List.range n).map (w2 w p)).length = n := by simp
  have hr' : oR1 [.int ((n : Int) + 1)] = some ((List.range (n + 1)).map fun k : Nat => PyData.int (k : Nat)) := by
    have : ((n + 1 : Nat) : Int) = (n : Int) + 1 := by omega
    rw [← this]
    exact hr
  have key := forL_find (g := gSet 1) (b := l2_docks_needed) (fun c : Nat => PyData.int (c : Nat)) (ndF w p n) (fun ρ => ∃ x1 x2 x3 x4 x5 x6 x7 x8 x9, ρ = [some (W2 w p n), x1, x2, x3, x4, x5, x6, x7, x8, x9]) (fun c => .int (c : Nat)) (List.range (n + 1)) (fun c hc ρ ⟨x1, x2, x3, x4, x5, x6, x7, x8, x9, e⟩ => by
    subst e
    have hcn : c ≤ n := by have := List.mem_range.mp hc; omega
    have ht := tp_a h1 h4 hcn
    refine ⟨[some (W2 w p n), some (.int (c : Nat)), x2, x3, x4, x5, x6, x7, x8, x9], rfl, ?_⟩
    have inner := forL_find (g := gSet 2) (b := l1_docks_needed) oD (fitB w p n c) (fun ρ => ∃ x2 x3 x4 x5 x6 x7 x8 x9, ρ = [some (W2 w p n), some (.int (c : Nat)), x2, x3, x4, x5, x6, x7, x8, x9]) (fun _ => .int (c : Nat)) (TUP n c) (fun r hr ρ ⟨x2, x3, x4, x5, x6, x7, x8, x9, e⟩ => by
      subst e
      have hs := row_step w p n c r (tup_len n c r hr) (by omega) (by omega) x3 x4 x5 x6 x7 x8 x9
      refine ⟨[some (W2 w p n), some (.int (c : Nat)), some (oD r), x3, x4, x5, x6, x7, x8, x9], rfl, fun hf => by rw [hs, hf]; rfl, fun hf => ?_⟩
      rw [hs, hf]
      exact ⟨_, rfl, _, _, _, _, _, _, _, _, rfl⟩) [some (W2 w p n), some (.int (c : Nat)), x2, x3, x4, x5, x6, x7, x8, x9] ⟨x2, x3, x4, x5, x6, x7, x8, x9, rfl⟩
    have hlen : bLen [W2 w p n] = some (.int (n : Nat)) := by
      rw [hW, len_t, hl]
    rcases inner with ⟨r, f1, f2⟩ | ⟨f1, ρ', f2, y2, y3, y4, y5, y6, y7, y8, y9, rfl⟩
    · have hN : ndF w p n c = true := by
        rw [ndF, List.any_eq_true]
        exact ⟨r, List.mem_of_find?_eq_some f1, List.find?_some f1⟩
      refine ⟨fun _ => ?_, fun hf => by rw [hN] at hf; cases hf⟩
      generalize W2 w p n = WD at *
      generalize (TUP n c).map oD = TD at *
      simp -implicitDefEqProofs only [l2_docks_needed, xVar_a, xC_a, xBin_a, xUn_a, tOf_a, tTru_a, tNotP_a, tAndP_a, tOrP_a, tyes_a, tno_a, tYesP_a, xNil_a, xCons_a, xTup_a, xLst_a, xAnd_a, xOr_a, xIf_a, xChain_a, oNo_a, oAt_a, xSl_a, xCall_a, xSeq_a, xIt_a, xLc_a, gSet_a, gTupD_a, gsNil_a, gsCons_a, sNop_a, sBrk_a, sCnt_a, sSeq_a, sRet_a, sIf_a, sSet_a, sTgt_a, sAug_a, sApp_a, sExt_a, sPut_a, sPutK_a, pkO_s, sFor_a, sWhile_a, sPar_a, runD_a, b2_s, c2_s, sqO_nx, sqO_rt, sqO_bk, sqO_ct, ifO_t, ifO_f, stO_s, endO_nx, endO_rt, andO_t, andO_f, orO_t, orO_f, chO_s, chP_t, chP_f, slO_s, atO_i, lcO_s, forO_s, gsO_s, nxO_s, tgO_s, paO_s, apO_s, exO_s, plO_s, ptO_s, dB_b, tru_b, tru_n, tru_i, tru_l, tru_t, is_n, isn_n, nn_n, nn_i, nn_b, nn_t, nn_l, add_ii, add'_ii, sub_ii, neg_i, lt_ii, le_ii, gt_ii, ge_ii, ix_l, ix_t, ix_s, at0, at1, at2, sl_l, sl_t, len_l, len_t, len_s, abs_i, int_i, int_b, max_ii, min_ii, tup_s, lst_s, seq_l, seq_t, sum_s, wipe_n, wipe_c, mul_ii, fdiv_ii, mod_ii, add_ll, add_tt, setAll, mkT, mkL, oNot, List.getD_cons_zero, List.getD_cons_succ, List.length_cons, List.length_nil, List.set_cons_zero, List.set_cons_succ, List.map_cons, List.map_nil, List.replicate, List.cons_append, List.nil_append, List.append_nil, Option.bind_some, Option.map_some, List.all_cons, List.all_nil, if_true, if_false, reduceIte, Nat.reduceAdd, Nat.reduceSub, Nat.reduceLT, Nat.reduceLeDiff, Nat.reduceEqDiff, decide_true, decide_false, Bool.and_true, Bool.and_self, Bool.true_and, Bool.not_true, Bool.not_false, ne_eq, not_true_eq_false, not_false_eq_true, Nat.zero_add, Bool.false_eq_true, and_self, true_and, and_true, hlen, ht, f2]
    · have hN : ndF w p n c = false := (find_any _ _).mp f1
      refine ⟨fun hf => by (rw [hN] at hf; cases hf), fun _ => ⟨[some (W2 w p n), some (.int (c : Nat)), y2, y3, y4, y5, y6, y7, y8, y9], ?_, _, _, _, _, _, _, _, _, _, rfl⟩⟩
      generalize W2 w p n = WD at *
      generalize (TUP n c).map oD = TD at *
      simp -implicitDefEqProofs only [l2_docks_needed, xVar_a, xC_a, xBin_a, xUn_a, tOf_a, tTru_a, tNotP_a, tAndP_a, tOrP_a, tyes_a, tno_a, tYesP_a, xNil_a, xCons_a, xTup_a, xLst_a, xAnd_a, xOr_a, xIf_a, xChain_a, oNo_a, oAt_a, xSl_a, xCall_a, xSeq_a, xIt_a, xLc_a, gSet_a, gTupD_a, gsNil_a, gsCons_a, sNop_a, sBrk_a, sCnt_a, sSeq_a, sRet_a, sIf_a, sSet_a, sTgt_a, sAug_a, sApp_a, sExt_a, sPut_a, sPutK_a, pkO_s, sFor_a, sWhile_a, sPar_a, runD_a, b2_s, c2_s, sqO_nx, sqO_rt, sqO_bk, sqO_ct, ifO_t, ifO_f, stO_s, endO_nx, endO_rt, andO_t, andO_f, orO_t, orO_f, chO_s, chP_t, chP_f, slO_s, atO_i, lcO_s, forO_s, gsO_s, nxO_s, tgO_s, paO_s, apO_s, exO_s, plO_s, ptO_s, dB_b, tru_b, tru_n, tru_i, tru_l, tru_t, is_n, isn_n, nn_n, nn_i, nn_b, nn_t, nn_l, add_ii, add'_ii, sub_ii, neg_i, lt_ii, le_ii, gt_ii, ge_ii, ix_l, ix_t, ix_s, at0, at1, at2, sl_l, sl_t, len_l, len_t, len_s, abs_i, int_i, int_b, max_ii, min_ii, tup_s, lst_s, seq_l, seq_t, sum_s, wipe_n, wipe_c, mul_ii, fdiv_ii, mod_ii, add_ll, add_tt, setAll, mkT, mkL, oNot, List.getD_cons_zero, List.getD_cons_succ, List.length_cons, List.length_nil, List.set_cons_zero, List.set_cons_succ, List.map_cons, List.map_nil, List.replicate, List.cons_append, List.nil_append, List.append_nil, Option.bind_some, Option.map_some, List.all_cons, List.all_nil, if_true, if_false, reduceIte, Nat.reduceAdd, Nat.reduceSub, Nat.reduceLT, Nat.reduceLeDiff, Nat.reduceEqDiff, decide_true, decide_false, Bool.and_true, Bool.and_self, Bool.true_and, Bool.not_true, Bool.not_false, ne_eq, not_true_eq_false, not_false_eq_true, Nat.zero_add, Bool.false_eq_true, and_self, true_and, and_true, hlen, ht, f2]) [some (W2 w p n), none, none, none, none, none, none, none, none, none] ⟨_, _, _, _, _, _, _, _, _, rfl⟩
  rw [ndd]
  rw [hW] at key ha ⊢
  generalize (List.range n).map (w2 w p) = WD at *
  generalize (List.range (n + 1)).map (fun k : Nat => PyData.int (k : Nat)) = RD at *
  generalize ((List.range n).map fun k => PyData.bool (decide (p.getD k 0 < w.getD k 0 - 1))) = BD at *
  cases hbad : bad1 w p n with
  | true =>
    rw [hbad] at hb
    simp -implicitDefEqProofs only [d_docks_needed, g_docks_needed, xVar_a, xC_a, xBin_a, xUn_a, tOf_a, tTru_a, tNotP_a, tAndP_a, tOrP_a, tyes_a, tno_a, tYesP_a, xNil_a, xCons_a, xTup_a, xLst_a, xAnd_a, xOr_a, xIf_a, xChain_a, oNo_a, oAt_a, xSl_a, xCall_a, xSeq_a, xIt_a, xLc_a, gSet_a, gTupD_a, gsNil_a, gsCons_a, sNop_a, sBrk_a, sCnt_a, sSeq_a, sRet_a, sIf_a, sSet_a, sTgt_a, sAug_a, sApp_a, sExt_a, sPut_a, sPutK_a, pkO_s, sFor_a, sWhile_a, sPar_a, runD_a, b2_s, c2_s, sqO_nx, sqO_rt, sqO_bk, sqO_ct, ifO_t, ifO_f, stO_s, endO_nx, endO_rt, andO_t, andO_f, orO_t, orO_f, chO_s, chP_t, chP_f, slO_s, atO_i, lcO_s, forO_s, gsO_s, nxO_s, tgO_s, paO_s, apO_s, exO_s, plO_s, ptO_s, dB_b, tru_b, tru_n, tru_i, tru_l, tru_t, is_n, isn_n, nn_n, nn_i, nn_b, nn_t, nn_l, add_ii, add'_ii, sub_ii, neg_i, lt_ii, le_ii, gt_ii, ge_ii, ix_l, ix_t, ix_s, at0, at1, at2, sl_l, sl_t, len_l, len_t, len_s, abs_i, int_i, int_b, max_ii, min_ii, tup_s, lst_s, seq_l, seq_t, sum_s, wipe_n, wipe_c, mul_ii, fdiv_ii, mod_ii, add_ll, add_tt, setAll, mkT, mkL, oNot, List.getD_cons_zero, List.getD_cons_succ, List.length_cons, List.length_nil, List.set_cons_zero, List.set_cons_succ, List.map_cons, List.map_nil, List.replicate, List.cons_append, List.nil_append, List.append_nil, Option.bind_some, Option.map_some, List.all_cons, List.all_nil, if_true, if_false, reduceIte, Nat.reduceAdd, Nat.reduceSub, Nat.reduceLT, Nat.reduceLeDiff, Nat.reduceEqDiff, decide_true, decide_false, Bool.and_true, Bool.and_self, Bool.true_and, Bool.not_true, Bool.not_false, ne_eq, not_true_eq_false, not_false_eq_true, Nat.zero_add, Bool.false_eq_true, and_self, true_and, and_true, ha, hb, oIN]
  | false =>
    rw [hbad] at hb
    rcases key with ⟨c, f1, f2⟩ | ⟨f1, ρ', f2, _⟩
    · rw [if_neg (by decide), f1]
      simp -implicitDefEqProofs only [d_docks_needed, g_docks_needed, xVar_a, xC_a, xBin_a, xUn_a, tOf_a, tTru_a, tNotP_a, tAndP_a, tOrP_a, tyes_a, tno_a, tYesP_a, xNil_a, xCons_a, xTup_a, xLst_a, xAnd_a, xOr_a, xIf_a, xChain_a, oNo_a, oAt_a, xSl_a, xCall_a, xSeq_a, xIt_a, xLc_a, gSet_a, gTupD_a, gsNil_a, gsCons_a, sNop_a, sBrk_a, sCnt_a, sSeq_a, sRet_a, sIf_a, sSet_a, sTgt_a, sAug_a, sApp_a, sExt_a, sPut_a, sPutK_a, pkO_s, sFor_a, sWhile_a, sPar_a, runD_a, b2_s, c2_s, sqO_nx, sqO_rt, sqO_bk, sqO_ct, ifO_t, ifO_f, stO_s, endO_nx, endO_rt, andO_t, andO_f, orO_t, orO_f, chO_s, chP_t, chP_f, slO_s, atO_i, lcO_s, forO_s, gsO_s, nxO_s, tgO_s, paO_s, apO_s, exO_s, plO_s, ptO_s, dB_b, tru_b, tru_n, tru_i, tru_l, tru_t, is_n, isn_n, nn_n, nn_i, nn_b, nn_t, nn_l, add_ii, add'_ii, sub_ii, neg_i, lt_ii, le_ii, gt_ii, ge_ii, ix_l, ix_t, ix_s, at0, at1, at2, sl_l, sl_t, len_l, len_t, len_s, abs_i, int_i, int_b, max_ii, min_ii, tup_s, lst_s, seq_l, seq_t, sum_s, wipe_n, wipe_c, mul_ii, fdiv_ii, mod_ii, add_ll, add_tt, setAll, mkT, mkL, oNot, List.getD_cons_zero, List.getD_cons_succ, List.length_cons, List.length_nil, List.set_cons_zero, List.set_cons_succ, List.map_cons, List.map_nil, List.replicate, List.cons_append, List.nil_append, List.append_nil, Option.bind_some, Option.map_some, List.all_cons, List.all_nil, if_true, if_false, reduceIte, Nat.reduceAdd, Nat.reduceSub, Nat.reduceLT, Nat.reduceLeDiff, Nat.reduceEqDiff, decide_true, decide_false, Bool.and_true, Bool.and_self, Bool.true_and, Bool.not_true, Bool.not_false, ne_eq, not_true_eq_false, not_false_eq_true, Nat.zero_add, Bool.false_eq_true, and_self, true_and, and_true, ha, hb, hl, hr', f2, oIN]
    · rw [if_neg (by decide), f1]
      simp -implicitDefEqProofs only [d_docks_needed, g_docks_needed, xVar_a, xC_a, xBin_a, xUn_a, tOf_a, tTru_a, tNotP_a, tAndP_a, tOrP_a, tyes_a, tno_a, tYesP_a, xNil_a, xCons_a, xTup_a, xLst_a, xAnd_a, xOr_a, xIf_a, xChain_a, oNo_a, oAt_a, xSl_a, xCall_a, xSeq_a, xIt_a, xLc_a, gSet_a, gTupD_a, gsNil_a, gsCons_a, sNop_a, sBrk_a, sCnt_a, sSeq_a, sRet_a, sIf_a, sSet_a, sTgt_a, sAug_a, sApp_a, sExt_a, sPut_a, sPutK_a, pkO_s, sFor_a, sWhile_a, sPar_a, runD_a, b2_s, c2_s, sqO_nx, sqO_rt, sqO_bk, sqO_ct, ifO_t, ifO_f, stO_s, endO_nx, endO_rt, andO_t, andO_f, orO_t, orO_f, chO_s, chP_t, chP_f, slO_s, atO_i, lcO_s, forO_s, gsO_s, nxO_s, tgO_s, paO_s, apO_s, exO_s, plO_s, ptO_s, dB_b, tru_b, tru_n, tru_i, tru_l, tru_t, is_n, isn_n, nn_n, nn_i, nn_b, nn_t, nn_l, add_ii, add'_ii, sub_ii, neg_i, lt_ii, le_ii, gt_ii, ge_ii, ix_l, ix_t, ix_s, at0, at1, at2, sl_l, sl_t, len_l, len_t, len_s, abs_i, int_i, int_b, max_ii, min_ii, tup_s, lst_s, seq_l, seq_t, sum_s, wipe_n, wipe_c, mul_ii, fdiv_ii, mod_ii, add_ll, add_tt, setAll, mkT, mkL, oNot, List.getD_cons_zero, List.getD_cons_succ, List.length_cons, List.length_nil, List.set_cons_zero, List.set_cons_succ, List.map_cons, List.map_nil, List.replicate, List.cons_append, List.nil_append, List.append_nil, Option.bind_some, Option.map_some, List.all_cons, List.all_nil, if_true, if_false, reduceIte, Nat.reduceAdd, Nat.reduceSub, Nat.reduceLT, Nat.reduceLeDiff, Nat.reduceEqDiff, decide_true, decide_false, Bool.and_true, Bool.and_self, Bool.true_and, Bool.not_true, Bool.not_false, ne_eq, not_true_eq_false, not_false_eq_true, Nat.zero_add, Bool.false_eq_true, and_self, true_and, and_true, ha, hb, hl, hr', f2, oIN]
end K13

namespace K13
open PySem PySem.Spec PyProof.Rows L2 Pm
open PySem.W (Datum Tup)
theorem ld_loop (w p : List Int) (A1 x2 x3 x4 x6 x10 : Option D) : ∀ (e : List Nat) (d : Int) (b : Bool) (x7 x9 : Option D), (∀ j ∈ e, j < w.length) →
    ∃ y7 y9, forL (gTupD 2 (gsCons (gSet 9) (gsCons (gSet 7) gsNil))) l1__law_docks (e.map (pD p)) [some (.list (w.map PyData.int)), A1, x2, x3, x4, some (.bool b), x6, x7, some (.int d), x9, x10] =
      some (.nx [some (.list (w.map PyData.int)), A1, x2, x3, x4, some (.bool (b && kp w p d e)), x6, y7, some (.int (tm w d e)), y9, x10])
  | [], d, b, x7, x9, _ => ⟨x7, x9, by rw [kp, Bool.and_true]; rfl⟩
  | j :: e, d, b, x7, x9, h => by
    have i1 := at_map PyData.int w 0 j (h j (by simp))
    obtain ⟨y7, y9, ih⟩ := ld_loop w p A1 x2 x3 x4 x6 x10 e (d + w.getD j 0) (b && decide (d + w.getD j 0 - 1 ≤ p.getD j 0)) (some (.int (j : Nat))) (some (.int (p.getD j 0))) fun k hk => h k (List.mem_cons_of_mem _ hk)
    refine ⟨y7, y9, ?_⟩
    have hg : gTupD 2 (gsCons (gSet 9) (gsCons (gSet 7) gsNil)) (pD p j) [some (.list (w.map PyData.int)), A1, x2, x3, x4, some (.bool b), x6, x7, some (.int d), x9, x10] = some [some (.list (w.map PyData.int)), A1, x2, x3, x4, some (.bool b), x6, some (.int (j : Nat)), some (.int d), some (.int (p.getD j 0)), x10] := rfl
    have hb : l1__law_docks [some (.list (w.map PyData.int)), A1, x2, x3, x4, some (.bool b), x6, some (.int (j : Nat)), some (.int d), some (.int (p.getD j 0)), x10] = some (.nx [some (.list (w.map PyData.int)), A1, x2, x3, x4, some (.bool (b && decide (d + w.getD j 0 - 1 ≤ p.getD j 0))), x6, some (.int (j : Nat)), some (.int (d + w.getD j 0)), some (.int (p.getD j 0)), x10]) := by
      generalize w.map PyData.int = WD at *
      cases b with
      | true => simp -implicitDefEqProofs only [l1__law_docks, xVar_a, xC_a, xBin_a, xUn_a, tOf_a, tTru_a, tNotP_a, tAndP_a, tOrP_a, tyes_a, tno_a, tYesP_a, xNil_a, xCons_a, xTup_a, xLst_a, xAnd_a, xOr_a, xIf_a, xChain_a, oNo_a, oAt_a, xSl_a, xCall_a, xSeq_a, xIt_a, xLc_a, gSet_a, gTupD_a, gsNil_a, gsCons_a, sNop_a, sBrk_a, sCnt_a, sSeq_a, sRet_a, sIf_a, sSet_a, sTgt_a, sAug_a, sApp_a, sExt_a, sPut_a, sPutK_a, pkO_s, sFor_a, sWhile_a, sPar_a, runD_a, b2_s, c2_s, sqO_nx, sqO_rt, sqO_bk, sqO_ct, ifO_t, ifO_f, stO_s, endO_nx, endO_rt, andO_t, andO_f, orO_t, orO_f, chO_s, chP_t, chP_f, slO_s, atO_i, lcO_s, forO_s, gsO_s, nxO_s, tgO_s, paO_s, apO_s, exO_s, plO_s, ptO_s, dB_b, tru_b, tru_n, tru_i, tru_l, tru_t, is_n, isn_n, nn_n, nn_i, nn_b, nn_t, nn_l, add_ii, add'_ii, sub_ii, neg_i, lt_ii, le_ii, gt_ii, ge_ii, ix_l, ix_t, ix_s, at0, at1, at2, sl_l, sl_t, len_l, len_t, len_s, abs_i, int_i, int_b, max_ii, min_ii, tup_s, lst_s, seq_l, seq_t, sum_s, wipe_n, wipe_c, mul_ii, fdiv_ii, mod_ii, add_ll, add_tt, setAll, mkT, mkL, oNot, List.getD_cons_zero, List.getD_cons_succ, List.length_cons, List.length_nil, List.set_cons_zero, List.set_cons_succ, List.map_cons, List.map_nil, List.replicate, List.cons_append, List.nil_append, List.append_nil, Option.bind_some, Option.map_some, List.all_cons, List.all_nil, if_true, if_false, reduceIte, Nat.reduceAdd, Nat.reduceSub, Nat.reduceLT, Nat.reduceLeDiff, Nat.reduceEqDiff, decide_true, decide_false, Bool.and_true, Bool.and_self, Bool.true_and, Bool.not_true, Bool.not_false, ne_eq, not_true_eq_false, not_false_eq_true, Nat.zero_add, Bool.false_eq_true, and_self, true_and, and_true, i1]
      | false => simp -implicitDefEqProofs only [l1__law_docks, xVar_a, xC_a, xBin_a, xUn_a, tOf_a, tTru_a, tNotP_a, tAndP_a, tOrP_a, tyes_a, tno_a, tYesP_a, xNil_a, xCons_a, xTup_a, xLst_a, xAnd_a, xOr_a, xIf_a, xChain_a, oNo_a, oAt_a, xSl_a, xCall_a, xSeq_a, xIt_a, xLc_a, gSet_a, gTupD_a, gsNil_a, gsCons_a, sNop_a, sBrk_a, sCnt_a, sSeq_a, sRet_a, sIf_a, sSet_a, sTgt_a, sAug_a, sApp_a, sExt_a, sPut_a, sPutK_a, pkO_s, sFor_a, sWhile_a, sPar_a, runD_a, b2_s, c2_s, sqO_nx, sqO_rt, sqO_bk, sqO_ct, ifO_t, ifO_f, stO_s, endO_nx, endO_rt, andO_t, andO_f, orO_t, orO_f, chO_s, chP_t, chP_f, slO_s, atO_i, lcO_s, forO_s, gsO_s, nxO_s, tgO_s, paO_s, apO_s, exO_s, plO_s, ptO_s, dB_b, tru_b, tru_n, tru_i, tru_l, tru_t, is_n, isn_n, nn_n, nn_i, nn_b, nn_t, nn_l, add_ii, add'_ii, sub_ii, neg_i, lt_ii, le_ii, gt_ii, ge_ii, ix_l, ix_t, ix_s, at0, at1, at2, sl_l, sl_t, len_l, len_t, len_s, abs_i, int_i, int_b, max_ii, min_ii, tup_s, lst_s, seq_l, seq_t, sum_s, wipe_n, wipe_c, mul_ii, fdiv_ii, mod_ii, add_ll, add_tt, setAll, mkT, mkL, oNot, List.getD_cons_zero, List.getD_cons_succ, List.length_cons, List.length_nil, List.set_cons_zero, List.set_cons_succ, List.map_cons, List.map_nil, List.replicate, List.cons_append, List.nil_append, List.append_nil, Option.bind_some, Option.map_some, List.all_cons, List.all_nil, if_true, if_false, reduceIte, Nat.reduceAdd, Nat.reduceSub, Nat.reduceLT, Nat.reduceLeDiff, Nat.reduceEqDiff, decide_true, decide_false, Bool.and_true, Bool.and_self, Bool.true_and, Bool.not_true, Bool.not_false, ne_eq, not_true_eq_false, not_false_eq_true, Nat.zero_add, Bool.false_eq_true, and_self, true_and, and_true, i1, Bool.false_and]
    have hk : (b && kp w p d (j :: e)) = (b && decide (d + w.getD j 0 - 1 ≤ p.getD j 0) && kp w p (d + w.getD j 0) e) := by rw [kp, Bool.and_assoc]
    rw [hk]
    simp only [List.map_cons, forL, hg, Option.bind_some, hb]
    exact ih
theorem ld_dock (w p : List Int) (n c : Nat) (r : List Nat) (hn : n ≤ 100) (hw : w.length = n) (hp : p.length = n) (hr : r.length = n) (x3 x6 x7 x8 x9 x10 : Option D) (b : Bool) (d : Nat) :
    ∃ y7 y8 y9, l2__law_docks [some (.list (w.map PyData.int)), some (.list (p.map PyData.int)), some (.int (n : Nat)), x3, some (oD r), some (.bool b), some (.int (d : Nat)), x7, x8, x9, x10] =
      some (.nx [some (.list (w.map PyData.int)), some (.list (p.map PyData.int)), some (.int (n : Nat)), x3, some (oD r), some (.bool (b && kp w p 0 (srt p (ch r n d)))), some (.int (d : Nat)), y7, y8, y9, x10]) := by
  obtain ⟨s1, s2, s3⟩ := srt_spec p (ch r n d) (by have := ch_len r n d; omega)
  obtain ⟨y7, y9, e⟩ := ld_loop w p (some (.list (p.map PyData.int))) (some (.int (n : Nat))) x3 (some (oD r)) (some (.int (d : Nat))) x10 (srt p (ch r n d)) 0 b x7 x9 fun j hj => by
    rw [hw]
    exact ch_lt r n d j (s1.mem_iff.mp hj)
  have h1 : lcL (gSet 10) (tOf (xBin oEq (xBin oIx (xVar 4) (xVar 10)) (xVar 6))) (xTup (xCons (xBin oIx (xVar 1) (xVar 10)) (xCons (xVar 10) xNil))) [some (.list (w.map PyData.int)), some (.list (p.map PyData.int)), some (.int (n : Nat)), x3, some (oD r), some (.bool b), some (.int (d : Nat)), x7, some (.int 0), x9, none] ((List.range n).map fun k : Nat => PyData.int (k : Nat)) = some ((ch r n d).map (pD p)) := by
    refine lcL_filter _ _ (own r d) _ fun i hi => ?_
    have hin := List.mem_range.mp hi
    have i1 := at_map PyData.int p 0 i (by omega)
    have i2 := at_map (fun j : Nat => PyData.int (j : Nat)) r 0 i (by omega)
    have hR : oD r = .tuple (r.map fun j => PyData.int (j : Nat)) := rfl
    rw [hR]
    generalize w.map PyData.int = WD at *
    generalize p.map PyData.int = PD at *
    generalize (r.map fun j => PyData.int (j : Nat)) = RD at *
    exact ⟨[some (.list WD), some (.list PD), some (.int (n : Nat)), x3, some (.tuple RD), some (.bool b), some (.int (d : Nat)), x7, some (.int 0), x9, some (.int (i : Nat))], rfl, by simp -implicitDefEqProofs only [xVar_a, xC_a, xBin_a, xUn_a, tOf_a, tTru_a, tNotP_a, tAndP_a, tOrP_a, tyes_a, tno_a, tYesP_a, xNil_a, xCons_a, xTup_a, xLst_a, xAnd_a, xOr_a, xIf_a, xChain_a, oNo_a, oAt_a, xSl_a, xCall_a, xSeq_a, xIt_a, xLc_a, gSet_a, gTupD_a, gsNil_a, gsCons_a, sNop_a, sBrk_a, sCnt_a, sSeq_a, sRet_a, sIf_a, sSet_a, sTgt_a, sAug_a, sApp_a, sExt_a, sPut_a, sPutK_a, pkO_s, sFor_a, sWhile_a, sPar_a, runD_a, b2_s, c2_s, sqO_nx, sqO_rt, sqO_bk, sqO_ct, ifO_t, ifO_f, stO_s, endO_nx, endO_rt, andO_t, andO_f, orO_t, orO_f, chO_s, chP_t, chP_f, slO_s, atO_i, lcO_s, forO_s, gsO_s, nxO_s, tgO_s, paO_s, apO_s, exO_s, plO_s, ptO_s, dB_b, tru_b, tru_n, tru_i, tru_l, tru_t, is_n, isn_n, nn_n, nn_i, nn_b, nn_t, nn_l, add_ii, add'_ii, sub_ii, neg_i, lt_ii, le_ii, gt_ii, ge_ii, ix_l, ix_t, ix_s, at0, at1, at2, sl_l, sl_t, len_l, len_t, len_s, abs_i, int_i, int_b, max_ii, min_ii, tup_s, lst_s, seq_l, seq_t, sum_s, wipe_n, wipe_c, mul_ii, fdiv_ii, mod_ii, add_ll, add_tt, setAll, mkT, mkL, oNot, List.getD_cons_zero, List.getD_cons_succ, List.length_cons, List.length_nil, List.set_cons_zero, List.set_cons_succ, List.map_cons, List.map_nil, List.replicate, List.cons_append, List.nil_append, List.append_nil, Option.bind_some, Option.map_some, List.all_cons, List.all_nil, if_true, if_false, reduceIte, Nat.reduceAdd, Nat.reduceSub, Nat.reduceLT, Nat.reduceLeDiff, Nat.reduceEqDiff, decide_true, decide_false, Bool.and_true, Bool.and_self, Bool.true_and, Bool.not_true, Bool.not_false, ne_eq, not_true_eq_false, not_false_eq_true, Nat.zero_add, Bool.false_eq_true, and_self, true_and, and_true, i2, eq_int, own], fun _ => by simp -implicitDefEqProofs only [xVar_a, xC_a, xBin_a, xUn_a, tOf_a, tTru_a, tNotP_a, tAndP_a, tOrP_a, tyes_a, tno_a, tYesP_a, xNil_a, xCons_a, xTup_a, xLst_a, xAnd_a, xOr_a, xIf_a, xChain_a, oNo_a, oAt_a, xSl_a, xCall_a, xSeq_a, xIt_a, xLc_a, gSet_a, gTupD_a, gsNil_a, gsCons_a, sNop_a, sBrk_a, sCnt_a, sSeq_a, sRet_a, sIf_a, sSet_a, sTgt_a, sAug_a, sApp_a, sExt_a, sPut_a, sPutK_a, pkO_s, sFor_a, sWhile_a, sPar_a, runD_a, b2_s, c2_s, sqO_nx, sqO_rt, sqO_bk, sqO_ct, ifO_t, ifO_f, stO_s, endO_nx, endO_rt, andO_t, andO_f, orO_t, orO_f, chO_s, chP_t, chP_f, slO_s, atO_i, lcO_s, forO_s, gsO_s, nxO_s, tgO_s, paO_s, apO_s, exO_s, plO_s, ptO_s, dB_b, tru_b, tru_n, tru_i, tru_l, tru_t, is_n, isn_n, nn_n, nn_i, nn_b, nn_t, nn_l, add_ii, add'_ii, sub_ii, neg_i, lt_ii, le_ii, gt_ii, ge_ii, ix_l, ix_t, ix_s, at0, at1, at2, sl_l, sl_t, len_l, len_t, len_s, abs_i, int_i, int_b, max_ii, min_ii, tup_s, lst_s, seq_l, seq_t, sum_s, wipe_n, wipe_c, mul_ii, fdiv_ii, mod_ii, add_ll, add_tt, setAll, mkT, mkL, oNot, List.getD_cons_zero, List.getD_cons_succ, List.length_cons, List.length_nil, List.set_cons_zero, List.set_cons_succ, List.map_cons, List.map_nil, List.replicate, List.cons_append, List.nil_append, List.append_nil, Option.bind_some, Option.map_some, List.all_cons, List.all_nil, if_true, if_false, reduceIte, Nat.reduceAdd, Nat.reduceSub, Nat.reduceLT, Nat.reduceLeDiff, Nat.reduceEqDiff, decide_true, decide_false, Bool.and_true, Bool.and_self, Bool.true_and, Bool.not_true, Bool.not_false, ne_eq, not_true_eq_false, not_false_eq_true, Nat.zero_add, Bool.false_eq_true, and_self, true_and, and_true, i1, pD]⟩
  have hrg := rg0 n (by omega)
  refine ⟨y7, some (.int (tm w 0 (srt p (ch r n d)))), y9, ?_⟩
  generalize w.map PyData.int = WD at *
  generalize p.map PyData.int = PD at *
  generalize oD r = RD at *
  generalize ((List.range n).map fun k : Nat => PyData.int (k : Nat)) = RG at *
  generalize (ch r n d).map (pD p) = CP at *
  generalize (srt p (ch r n d)).map (pD p) = SP at *
  simp -implicitDefEqProofs only [l2__law_docks, xVar_a, xC_a, xBin_a, xUn_a, tOf_a, tTru_a, tNotP_a, tAndP_a, tOrP_a, tyes_a, tno_a, tYesP_a, xNil_a, xCons_a, xTup_a, xLst_a, xAnd_a, xOr_a, xIf_a, xChain_a, oNo_a, oAt_a, xSl_a, xCall_a, xSeq_a, xIt_a, xLc_a, gSet_a, gTupD_a, gsNil_a, gsCons_a, sNop_a, sBrk_a, sCnt_a, sSeq_a, sRet_a, sIf_a, sSet_a, sTgt_a, sAug_a, sApp_a, sExt_a, sPut_a, sPutK_a, pkO_s, sFor_a, sWhile_a, sPar_a, runD_a, b2_s, c2_s, sqO_nx, sqO_rt, sqO_bk, sqO_ct, ifO_t, ifO_f, stO_s, endO_nx, endO_rt, andO_t, andO_f, orO_t, orO_f, chO_s, chP_t, chP_f, slO_s, atO_i, lcO_s, forO_s, gsO_s, nxO_s, tgO_s, paO_s, apO_s, exO_s, plO_s, ptO_s, dB_b, tru_b, tru_n, tru_i, tru_l, tru_t, is_n, isn_n, nn_n, nn_i, nn_b, nn_t, nn_l, add_ii, add'_ii, sub_ii, neg_i, lt_ii, le_ii, gt_ii, ge_ii, ix_l, ix_t, ix_s, at0, at1, at2, sl_l, sl_t, len_l, len_t, len_s, abs_i, int_i, int_b, max_ii, min_ii, tup_s, lst_s, seq_l, seq_t, sum_s, wipe_n, wipe_c, mul_ii, fdiv_ii, mod_ii, add_ll, add_tt, setAll, mkT, mkL, oNot, List.getD_cons_zero, List.getD_cons_succ, List.length_cons, List.length_nil, List.set_cons_zero, List.set_cons_succ, List.map_cons, List.map_nil, List.replicate, List.cons_append, List.nil_append, List.append_nil, Option.bind_some, Option.map_some, List.all_cons, List.all_nil, if_true, if_false, reduceIte, Nat.reduceAdd, Nat.reduceSub, Nat.reduceLT, Nat.reduceLeDiff, Nat.reduceEqDiff, decide_true, decide_false, Bool.and_true, Bool.and_self, Bool.true_and, Bool.not_true, Bool.not_false, ne_eq, not_true_eq_false, not_false_eq_true, Nat.zero_add, Bool.false_eq_true, and_self, true_and, and_true, hrg, h1, s3, e]
theorem ld_row (w p : List Int) (n c : Nat) (r : List Nat) (hn : n ≤ 100) (hw : w.length = n) (hp : p.length = n) (hr : r.length = n) (hc : c ≤ 100) (x5 x6 x7 x8 x9 x10 : Option D) :
    ∃ y5 y6 y7 y8 y9, l3__law_docks [some (.list (w.map PyData.int)), some (.list (p.map PyData.int)), some (.int (n : Nat)), some (.int (c : Nat)), some (oD r), x5, x6, x7, x8, x9, x10] =
      if fitB w p n c r then some (.rt (.int (c : Nat))) else some (.nx [some (.list (w.map PyData.int)), some (.list (p.map PyData.int)), some (.int (n : Nat)), some (.int (c : Nat)), some (oD r), y5, y6, y7, y8, y9, x10]) := by
  obtain ⟨ρ', e, h⟩ := forL_inv (g := gSet 6) (b := l2__law_docks) (fun d : Nat => PyData.int (d : Nat))
    (fun pre rest ρ => ∃ y6 y7 y8 y9, ρ = [some (.list (w.map PyData.int)), some (.list (p.map PyData.int)), some (.int (n : Nat)), some (.int (c : Nat)), some (oD r), some (.bool (pre.all fun d => kp w p 0 (srt p (ch r n d)))), y6, y7, y8, y9, x10]) (fun pre d rest ρ ⟨y6, y7, y8, y9, e⟩ => by
      subst e
      obtain ⟨z7, z8, z9, e⟩ := ld_dock w p n c r hn hw hp hr (some (.int (c : Nat))) none y7 y8 y9 x10 (pre.all fun d => kp w p 0 (srt p (ch r n d))) d
      refine ⟨_, _, rfl, .inl e, some (.int (d : Nat)), z7, z8, z9, ?_⟩
      rw [List.all_append, List.all_cons, List.all_nil, Bool.and_true]) (List.range c) [] [some (.list (w.map PyData.int)), some (.list (p.map PyData.int)), some (.int (n : Nat)), some (.int (c : Nat)), some (oD r), some (.bool true), x6, x7, x8, x9, x10] ⟨x6, x7, x8, x9, rfl⟩
  obtain ⟨y6, y7, y8, y9, e'⟩ := h
  subst e'
  have hf : (List.range c).all (fun d => kp w p 0 (srt p (ch r n d))) = fitB w p n c r := rfl
  rw [List.nil_append, hf] at e
  have hrg := rg0 c (by omega)
  refine ⟨some (.bool (fitB w p n c r)), y6, y7, y8, y9, ?_⟩
  generalize w.map PyData.int = WD at *
  generalize p.map PyData.int = PD at *
  generalize oD r = RD at *
  generalize ((List.range c).map fun k : Nat => PyData.int (k : Nat)) = RG at *
  cases hb : fitB w p n c r with
  | true =>
    rw [hb] at e
    simp -implicitDefEqProofs only [l3__law_docks, xVar_a, xC_a, xBin_a, xUn_a, tOf_a, tTru_a, tNotP_a, tAndP_a, tOrP_a, tyes_a, tno_a, tYesP_a, xNil_a, xCons_a, xTup_a, xLst_a, xAnd_a, xOr_a, xIf_a, xChain_a, oNo_a, oAt_a, xSl_a, xCall_a, xSeq_a, xIt_a, xLc_a, gSet_a, gTupD_a, gsNil_a, gsCons_a, sNop_a, sBrk_a, sCnt_a, sSeq_a, sRet_a, sIf_a, sSet_a, sTgt_a, sAug_a, sApp_a, sExt_a, sPut_a, sPutK_a, pkO_s, sFor_a, sWhile_a, sPar_a, runD_a, b2_s, c2_s, sqO_nx, sqO_rt, sqO_bk, sqO_ct, ifO_t, ifO_f, stO_s, endO_nx, endO_rt, andO_t, andO_f, orO_t, orO_f, chO_s, chP_t, chP_f, slO_s, atO_i, lcO_s, forO_s, gsO_s, nxO_s, tgO_s, paO_s, apO_s, exO_s, plO_s, ptO_s, dB_b, tru_b, tru_n, tru_i, tru_l, tru_t, is_n, isn_n, nn_n, nn_i, nn_b, nn_t, nn_l, add_ii, add'_ii, sub_ii, neg_i, lt_ii, le_ii, gt_ii, ge_ii, ix_l, ix_t, ix_s, at0, at1, at2, sl_l, sl_t, len_l, len_t, len_s, abs_i, int_i, int_b, max_ii, min_ii, tup_s, lst_s, seq_l, seq_t, sum_s, wipe_n, wipe_c, mul_ii, fdiv_ii, mod_ii, add_ll, add_tt, setAll, mkT, mkL, oNot, List.getD_cons_zero, List.getD_cons_succ, List.length_cons, List.length_nil, List.set_cons_zero, List.set_cons_succ, List.map_cons, List.map_nil, List.replicate, List.cons_append, List.nil_append, List.append_nil, Option.bind_some, Option.map_some, List.all_cons, List.all_nil, if_true, if_false, reduceIte, Nat.reduceAdd, Nat.reduceSub, Nat.reduceLT, Nat.reduceLeDiff, Nat.reduceEqDiff, decide_true, decide_false, Bool.and_true, Bool.and_self, Bool.true_and, Bool.not_true, Bool.not_false, ne_eq, not_true_eq_false, not_false_eq_true, Nat.zero_add, Bool.false_eq_true, and_self, true_and, and_true, hrg, e]
  | false =>
    rw [hb] at e
    simp -implicitDefEqProofs only [l3__law_docks, xVar_a, xC_a, xBin_a, xUn_a, tOf_a, tTru_a, tNotP_a, tAndP_a, tOrP_a, tyes_a, tno_a, tYesP_a, xNil_a, xCons_a, xTup_a, xLst_a, xAnd_a, xOr_a, xIf_a, xChain_a, oNo_a, oAt_a, xSl_a, xCall_a, xSeq_a, xIt_a, xLc_a, gSet_a, gTupD_a, gsNil_a, gsCons_a, sNop_a, sBrk_a, sCnt_a, sSeq_a, sRet_a, sIf_a, sSet_a, sTgt_a, sAug_a, sApp_a, sExt_a, sPut_a, sPutK_a, pkO_s, sFor_a, sWhile_a, sPar_a, runD_a, b2_s, c2_s, sqO_nx, sqO_rt, sqO_bk, sqO_ct, ifO_t, ifO_f, stO_s, endO_nx, endO_rt, andO_t, andO_f, orO_t, orO_f, chO_s, chP_t, chP_f, slO_s, atO_i, lcO_s, forO_s, gsO_s, nxO_s, tgO_s, paO_s, apO_s, exO_s, plO_s, ptO_s, dB_b, tru_b, tru_n, tru_i, tru_l, tru_t, is_n, isn_n, nn_n, nn_i, nn_b, nn_t, nn_l, add_ii, add'_ii, sub_ii, neg_i, lt_ii, le_ii, gt_ii, ge_ii, ix_l, ix_t, ix_s, at0, at1, at2, sl_l, sl_t, len_l, len_t, len_s, abs_i, int_i, int_b, max_ii, min_ii, tup_s, lst_s, seq_l, seq_t, sum_s, wipe_n, wipe_c, mul_ii, fdiv_ii, mod_ii, add_ll, add_tt, setAll, mkT, mkL, oNot, List.getD_cons_zero, List.getD_cons_succ, List.length_cons, List.length_nil, List.set_cons_zero, List.set_cons_succ, List.map_cons, List.map_nil, List.replicate, List.cons_append, List.nil_append, List.append_nil, Option.bind_some, Option.map_some, List.all_cons, List.all_nil, if_true, if_false, reduceIte, Nat.reduceAdd, Nat.reduceSub, Nat.reduceLT, Nat.reduceLeDiff, Nat.reduceEqDiff, decide_true, decide_false, Bool.and_true, Bool.and_self, Bool.true_and, Bool.not_true, Bool.not_false, ne_eq, not_true_eq_false, not_false_eq_true, Nat.zero_add, Bool.false_eq_true, and_self, true_and, and_true, hrg, e]
theorem oR2_ij {i j : Int} (h : -(2 ^ 60) ≤ i ∧ i < 2 ^ 60 ∧ -(2 ^ 60) ≤ j ∧ j < 2 ^ 60 ∧ j - i ≤ 16777216) : oR2 [.int i, .int j] = some (rangeD i 1 (j - i).toNat) := if_pos h
theorem law_docks_eq (w p : List Int) {n : Nat} (h1 : 1 ≤ n) (h4 : n ≤ 4) (hw : w.length = n) (hp : p.length = n) : d__law_docks [.list (w.map PyData.int), .list (p.map PyData.int)] = some (oIN (if bad1 w p n then none else (List.range n).findSome? fun k => if ndF w p n (k + 1) then some (k + 1) else none)) := by
  have ha : lcL (gSet 7) tYesP (xBin oGt (xBin oSub (xBin oIx (xVar 0) (xVar 7)) (xC (.int 1))) (xBin oIx (xVar 1) (xVar 7))) [some (.list (w.map PyData.int)), some (.list (p.map PyData.int)), some (.int (n : Nat)), none, none, none, none, none, none, none, none] ((List.range n).map fun k : Nat => PyData.int (k : Nat)) = some ((List.range n).map fun k => PyData.bool (decide (p.getD k 0 < w.getD k 0 - 1))) := by
    refine lcL_map _ _ _ fun k hk => ?_
    have hk' := List.mem_range.mp hk
    have i1 := at_map PyData.int p 0 k (by omega)
    have i2 := at_map PyData.int w 0 k (by omega)
    generalize w.map PyData.int = WD at *
    generalize p.map PyData.int = PD at *
    simp -implicitDefEqProofs only [xVar_a, xC_a, xBin_a, xUn_a, tOf_a, tTru_a, tNotP_a, tAndP_a, tOrP_a, tyes_a, tno_a, tYesP_a, xNil_a, xCons_a, xTup_a, xLst_a, xAnd_a, xOr_a, xIf_a, xChain_a, oNo_a, oAt_a, xSl_a, xCall_a, xSeq_a, xIt_a, xLc_a, gSet_a, gTupD_a, gsNil_a, gsCons_a, sNop_a, sBrk_a, sCnt_a, sSeq_a, sRet_a, sIf_a, sSet_a, sTgt_a, sAug_a, sApp_a, sExt_a, sPut_a, sPutK_a, pkO_s, sFor_a, sWhile_a, sPar_a, runD_a, b2_s, c2_s, sqO_nx, sqO_rt, sqO_bk, sqO_ct, ifO_t, ifO_f, stO_s, endO_nx, endO_rt, andO_t, andO_f, orO_t, orO_f, chO_s, chP_t, chP_f, slO_s, atO_i, lcO_s, forO_s, gsO_s, nxO_s, tgO_s, paO_s, apO_s, exO_s, plO_s, ptO_s, dB_b, tru_b, tru_n, tru_i, tru_l, tru_t, is_n, isn_n, nn_n, nn_i, nn_b, nn_t, nn_l, add_ii, add'_ii, sub_ii, neg_i, lt_ii, le_ii, gt_ii, ge_ii, ix_l, ix_t, ix_s, at0, at1, at2, sl_l, sl_t, len_l, len_t, len_s, abs_i, int_i, int_b, max_ii, min_ii, tup_s, lst_s, seq_l, seq_t, sum_s, wipe_n, wipe_c, mul_ii, fdiv_ii, mod_ii, add_ll, add_tt, setAll, mkT, mkL, oNot, List.getD_cons_zero, List.getD_cons_succ, List.length_cons, List.length_nil, List.set_cons_zero, List.set_cons_succ, List.map_cons, List.map_nil, List.replicate, List.cons_append, List.nil_append, List.append_nil, Option.bind_some, Option.map_some, List.all_cons, List.all_nil, if_true, if_false, reduceIte, Nat.reduceAdd, Nat.reduceSub, Nat.reduceLT, Nat.reduceLeDiff, Nat.reduceEqDiff, decide_true, decide_false, Bool.and_true, Bool.and_self, Bool.true_and, Bool.not_true, Bool.not_false, ne_eq, not_true_eq_false, not_false_eq_true, Nat.zero_add, Bool.false_eq_true, and_self, true_and, and_true, i1, i2]
  have hb := bAny_map (List.range n) fun k => decide (p.getD k 0 < w.getD k 0 - 1)
  have hb' : (List.range n).any (fun k => decide (p.getD k 0 < w.getD k 0 - 1)) = bad1 w p n := rfl
  rw [hb'] at hb
  have hr := rg0 n (by omega)
  have hl : (w.map PyData.int).length = n := by simpa using hw
  have hr2 : oR2 [.int 1, .int ((n : Int) + 1)] = some ((List.range n).map fun k : Nat => PyData.int ((k + 1 : Nat) : Int)) := by
    rw [oR2_ij (by omega)]
    have e : ((n : Int) + 1 - 1).toNat = n := by omega
    rw [e]
    unfold rangeD
    congr 1
    refine List.map_congr_left fun k _ => ?_
    congr 1
    omega
  have key := forL_find (g := gSet 3) (b := l4__law_docks) (fun k : Nat => PyData.int ((k + 1 : Nat) : Int)) (fun k => ndF w p n (k + 1)) (fun ρ => ∃ x3 x4 x5 x6 x7 x8 x9 x10, ρ = [some (.list (w.map PyData.int)), some (.list (p.map PyData.int)), some (.int (n : Nat)), x3, x4, x5, x6, x7, x8, x9, x10]) (fun k => .int ((k + 1 : Nat) : Int)) (List.range n) (fun c hc ρ ⟨x3, x4, x5, x6, x7, x8, x9, x10, e⟩ => by
    subst e
    have hcn : c + 1 ≤ n := by have := List.mem_range.mp hc; omega
    have ht := tp_b h1 h4 hcn
    refine ⟨[some (.list (w.map PyData.int)), some (.list (p.map PyData.int)), some (.int (n : Nat)), some (.int ((c + 1 : Nat) : Int)), x4, x5, x6, x7, x8, x9, x10], rfl, ?_⟩
    have inner := forL_find (g := gSet 4) (b := l3__law_docks) oD (fitB w p n (c + 1)) (fun ρ => ∃ x4 x5 x6 x7 x8 x9 x10, ρ = [some (.list (w.map PyData.int)), some (.list (p.map PyData.int)), some (.int (n : Nat)), some (.int ((c + 1 : Nat) : Int)), x4, x5, x6, x7, x8, x9, x10]) (fun _ => .int ((c + 1 : Nat) : Int)) (TUP n (c + 1)) (fun r hr ρ ⟨x4, x5, x6, x7, x8, x9, x10, e⟩ => by
      subst e
      obtain ⟨y5, y6, y7, y8, y9, hs⟩ := ld_row w p n (c + 1) r (by omega) hw hp (tup_len n (c + 1) r hr) (by omega) x5 x6 x7 x8 x9 x10
      refine ⟨[some (.list (w.map PyData.int)), some (.list (p.map PyData.int)), some (.int (n : Nat)), some (.int ((c + 1 : Nat) : Int)), some (oD r), x5, x6, x7, x8, x9, x10], rfl, fun hf => by rw [hs, hf]; rfl, fun hf => ?_⟩
      rw [hs, hf]
      exact ⟨_, rfl, _, _, _, _, _, _, _, rfl⟩) [some (.list (w.map PyData.int)), some (.list (p.map PyData.int)), some (.int (n : Nat)), some (.int ((c + 1 : Nat) : Int)), x4, x5, x6, x7, x8, x9, x10] ⟨x4, x5, x6, x7, x8, x9, x10, rfl⟩
    generalize ((c + 1 : Nat) : Int) = c1 at *
    rcases inner with ⟨r, f1, f2⟩ | ⟨f1, ρ', f2, y4, y5, y6, y7, y8, y9, y10, rfl⟩
    · have hN : ndF w p n (c + 1) = true := by
        rw [ndF, List.any_eq_true]
        exact ⟨r, List.mem_of_find?_eq_some f1, List.find?_some f1⟩
      refine ⟨fun _ => ?_, fun hf => by (rw [hN] at hf; cases hf)⟩
      generalize w.map PyData.int = WD at *
      generalize p.map PyData.int = PD at *
      generalize (TUP n (c + 1)).map oD = TD at *
      simp -implicitDefEqProofs only [l4__law_docks, xVar_a, xC_a, xBin_a, xUn_a, tOf_a, tTru_a, tNotP_a, tAndP_a, tOrP_a, tyes_a, tno_a, tYesP_a, xNil_a, xCons_a, xTup_a, xLst_a, xAnd_a, xOr_a, xIf_a, xChain_a, oNo_a, oAt_a, xSl_a, xCall_a, xSeq_a, xIt_a, xLc_a, gSet_a, gTupD_a, gsNil_a, gsCons_a, sNop_a, sBrk_a, sCnt_a, sSeq_a, sRet_a, sIf_a, sSet_a, sTgt_a, sAug_a, sApp_a, sExt_a, sPut_a, sPutK_a, pkO_s, sFor_a, sWhile_a, sPar_a, runD_a, b2_s, c2_s, sqO_nx, sqO_rt, sqO_bk, sqO_ct, ifO_t, ifO_f, stO_s, endO_nx, endO_rt, andO_t, andO_f, orO_t, orO_f, chO_s, chP_t, chP_f, slO_s, atO_i, lcO_s, forO_s, gsO_s, nxO_s, tgO_s, paO_s, apO_s, exO_s, plO_s, ptO_s, dB_b, tru_b, tru_n, tru_i, tru_l, tru_t, is_n, isn_n, nn_n, nn_i, nn_b, nn_t, nn_l, add_ii, add'_ii, sub_ii, neg_i, lt_ii, le_ii, gt_ii, ge_ii, ix_l, ix_t, ix_s, at0, at1, at2, sl_l, sl_t, len_l, len_t, len_s, abs_i, int_i, int_b, max_ii, min_ii, tup_s, lst_s, seq_l, seq_t, sum_s, wipe_n, wipe_c, mul_ii, fdiv_ii, mod_ii, add_ll, add_tt, setAll, mkT, mkL, oNot, List.getD_cons_zero, List.getD_cons_succ, List.length_cons, List.length_nil, List.set_cons_zero, List.set_cons_succ, List.map_cons, List.map_nil, List.replicate, List.cons_append, List.nil_append, List.append_nil, Option.bind_some, Option.map_some, List.all_cons, List.all_nil, if_true, if_false, reduceIte, Nat.reduceAdd, Nat.reduceSub, Nat.reduceLT, Nat.reduceLeDiff, Nat.reduceEqDiff, decide_true, decide_false, Bool.and_true, Bool.and_self, Bool.true_and, Bool.not_true, Bool.not_false, ne_eq, not_true_eq_false, not_false_eq_true, Nat.zero_add, Bool.false_eq_true, and_self, true_and, and_true, ht, f2]
    · have hN : ndF w p n (c + 1) = false := (find_any _ _).mp f1
      refine ⟨fun hf => by (rw [hN] at hf; cases hf), fun _ => ⟨[some (.list (w.map PyData.int)), some (.list (p.map PyData.int)), some (.int (n : Nat)), some (.int c1), y4, y5, y6, y7, y8, y9, y10], ?_, _, _, _, _, _, _, _, _, rfl⟩⟩
      generalize w.map PyData.int = WD at *
      generalize p.map PyData.int = PD at *
      generalize (TUP n (c + 1)).map oD = TD at *
      simp -implicitDefEqProofs only [l4__law_docks, xVar_a, xC_a, xBin_a, xUn_a, tOf_a, tTru_a, tNotP_a, tAndP_a, tOrP_a, tyes_a, tno_a, tYesP_a, xNil_a, xCons_a, xTup_a, xLst_a, xAnd_a, xOr_a, xIf_a, xChain_a, oNo_a, oAt_a, xSl_a, xCall_a, xSeq_a, xIt_a, xLc_a, gSet_a, gTupD_a, gsNil_a, gsCons_a, sNop_a, sBrk_a, sCnt_a, sSeq_a, sRet_a, sIf_a, sSet_a, sTgt_a, sAug_a, sApp_a, sExt_a, sPut_a, sPutK_a, pkO_s, sFor_a, sWhile_a, sPar_a, runD_a, b2_s, c2_s, sqO_nx, sqO_rt, sqO_bk, sqO_ct, ifO_t, ifO_f, stO_s, endO_nx, endO_rt, andO_t, andO_f, orO_t, orO_f, chO_s, chP_t, chP_f, slO_s, atO_i, lcO_s, forO_s, gsO_s, nxO_s, tgO_s, paO_s, apO_s, exO_s, plO_s, ptO_s, dB_b, tru_b, tru_n, tru_i, tru_l, tru_t, is_n, isn_n, nn_n, nn_i, nn_b, nn_t, nn_l, add_ii, add'_ii, sub_ii, neg_i, lt_ii, le_ii, gt_ii, ge_ii, ix_l, ix_t, ix_s, at0, at1, at2, sl_l, sl_t, len_l, len_t, len_s, abs_i, int_i, int_b, max_ii, min_ii, tup_s, lst_s, seq_l, seq_t, sum_s, wipe_n, wipe_c, mul_ii, fdiv_ii, mod_ii, add_ll, add_tt, setAll, mkT, mkL, oNot, List.getD_cons_zero, List.getD_cons_succ, List.length_cons, List.length_nil, List.set_cons_zero, List.set_cons_succ, List.map_cons, List.map_nil, List.replicate, List.cons_append, List.nil_append, List.append_nil, Option.bind_some, Option.map_some, List.all_cons, List.all_nil, if_true, if_false, reduceIte, Nat.reduceAdd, Nat.reduceSub, Nat.reduceLT, Nat.reduceLeDiff, Nat.reduceEqDiff, decide_true, decide_false, Bool.and_true, Bool.and_self, Bool.true_and, Bool.not_true, Bool.not_false, ne_eq, not_true_eq_false, not_false_eq_true, Nat.zero_add, Bool.false_eq_true, and_self, true_and, and_true, ht, f2]) [some (.list (w.map PyData.int)), some (.list (p.map PyData.int)), some (.int (n : Nat)), none, none, none, none, none, none, none, none] ⟨_, _, _, _, _, _, _, _, rfl⟩
  have hfs : ∀ l : List Nat, (l.findSome? fun k => if ndF w p n (k + 1) then some (k + 1) else none) = (l.find? fun k => ndF w p n (k + 1)).map (· + 1) := fun l => by
    induction l with
    | nil => rfl
    | cons a l ih =>
      by_cases h : ndF w p n (a + 1) = true
      · simp [List.findSome?_cons, h]
      · simp only [Bool.not_eq_true] at h
        simp [List.findSome?_cons, h, ih]
  rw [hfs]
  generalize w.map PyData.int = WD at *
  generalize p.map PyData.int = PD at *
  generalize ((List.range n).map fun k : Nat => PyData.int (k : Nat)) = RG at *
  generalize ((List.range n).map fun k : Nat => PyData.int ((k + 1 : Nat) : Int)) = RG2 at *
  generalize ((List.range n).map fun k => PyData.bool (decide (p.getD k 0 < w.getD k 0 - 1))) = BD at *
  cases hbad : bad1 w p n with
  | true =>
    rw [hbad] at hb
    simp -implicitDefEqProofs only [d__law_docks, g__law_docks, xVar_a, xC_a, xBin_a, xUn_a, tOf_a, tTru_a, tNotP_a, tAndP_a, tOrP_a, tyes_a, tno_a, tYesP_a, xNil_a, xCons_a, xTup_a, xLst_a, xAnd_a, xOr_a, xIf_a, xChain_a, oNo_a, oAt_a, xSl_a, xCall_a, xSeq_a, xIt_a, xLc_a, gSet_a, gTupD_a, gsNil_a, gsCons_a, sNop_a, sBrk_a, sCnt_a, sSeq_a, sRet_a, sIf_a, sSet_a, sTgt_a, sAug_a, sApp_a, sExt_a, sPut_a, sPutK_a, pkO_s, sFor_a, sWhile_a, sPar_a, runD_a, b2_s, c2_s, sqO_nx, sqO_rt, sqO_bk, sqO_ct, ifO_t, ifO_f, stO_s, endO_nx, endO_rt, andO_t, andO_f, orO_t, orO_f, chO_s, chP_t, chP_f, slO_s, atO_i, lcO_s, forO_s, gsO_s, nxO_s, tgO_s, paO_s, apO_s, exO_s, plO_s, ptO_s, dB_b, tru_b, tru_n, tru_i, tru_l, tru_t, is_n, isn_n, nn_n, nn_i, nn_b, nn_t, nn_l, add_ii, add'_ii, sub_ii, neg_i, lt_ii, le_ii, gt_ii, ge_ii, ix_l, ix_t, ix_s, at0, at1, at2, sl_l, sl_t, len_l, len_t, len_s, abs_i, int_i, int_b, max_ii, min_ii, tup_s, lst_s, seq_l, seq_t, sum_s, wipe_n, wipe_c, mul_ii, fdiv_ii, mod_ii, add_ll, add_tt, setAll, mkT, mkL, oNot, List.getD_cons_zero, List.getD_cons_succ, List.length_cons, List.length_nil, List.set_cons_zero, List.set_cons_succ, List.map_cons, List.map_nil, List.replicate, List.cons_append, List.nil_append, List.append_nil, Option.bind_some, Option.map_some, List.all_cons, List.all_nil, if_true, if_false, reduceIte, Nat.reduceAdd, Nat.reduceSub, Nat.reduceLT, Nat.reduceLeDiff, Nat.reduceEqDiff, decide_true, decide_false, Bool.and_true, Bool.and_self, Bool.true_and, Bool.not_true, Bool.not_false, ne_eq, not_true_eq_false, not_false_eq_true, Nat.zero_add, Bool.false_eq_true, and_self, true_and, and_true, hl, hr, ha, hb, oIN]
  | false =>
    rw [hbad] at hb
    rcases key with ⟨c, f1, f2⟩ | ⟨f1, ρ', f2, _⟩
    · rw [if_neg (by decide), f1]
      simp -implicitDefEqProofs only [d__law_docks, g__law_docks, xVar_a, xC_a, xBin_a, xUn_a, tOf_a, tTru_a, tNotP_a, tAndP_a, tOrP_a, tyes_a, tno_a, tYesP_a, xNil_a, xCons_a, xTup_a, xLst_a, xAnd_a, xOr_a, xIf_a, xChain_a, oNo_a, oAt_a, xSl_a, xCall_a, xSeq_a, xIt_a, xLc_a, gSet_a, gTupD_a, gsNil_a, gsCons_a, sNop_a, sBrk_a, sCnt_a, sSeq_a, sRet_a, sIf_a, sSet_a, sTgt_a, sAug_a, sApp_a, sExt_a, sPut_a, sPutK_a, pkO_s, sFor_a, sWhile_a, sPar_a, runD_a, b2_s, c2_s, sqO_nx, sqO_rt, sqO_bk, sqO_ct, ifO_t, ifO_f, stO_s, endO_nx, endO_rt, andO_t, andO_f, orO_t, orO_f, chO_s, chP_t, chP_f, slO_s, atO_i, lcO_s, forO_s, gsO_s, nxO_s, tgO_s, paO_s, apO_s, exO_s, plO_s, ptO_s, dB_b, tru_b, tru_n, tru_i, tru_l, tru_t, is_n, isn_n, nn_n, nn_i, nn_b, nn_t, nn_l, add_ii, add'_ii, sub_ii, neg_i, lt_ii, le_ii, gt_ii, ge_ii, ix_l, ix_t, ix_s, at0, at1, at2, sl_l, sl_t, len_l, len_t, len_s, abs_i, int_i, int_b, max_ii, min_ii, tup_s, lst_s, seq_l, seq_t, sum_s, wipe_n, wipe_c, mul_ii, fdiv_ii, mod_ii, add_ll, add_tt, setAll, mkT, mkL, oNot, List.getD_cons_zero, List.getD_cons_succ, List.length_cons, List.length_nil, List.set_cons_zero, List.set_cons_succ, List.map_cons, List.map_nil, List.replicate, List.cons_append, List.nil_append, List.append_nil, Option.bind_some, Option.map_some, List.all_cons, List.all_nil, if_true, if_false, reduceIte, Nat.reduceAdd, Nat.reduceSub, Nat.reduceLT, Nat.reduceLeDiff, Nat.reduceEqDiff, decide_true, decide_false, Bool.and_true, Bool.and_self, Bool.true_and, Bool.not_true, Bool.not_false, ne_eq, not_true_eq_false, not_false_eq_true, Nat.zero_add, Bool.false_eq_true, and_self, true_and, and_true, hl, hr, ha, hb, hr2, f2, oIN]
    · rw [if_neg (by decide), f1]
      simp -implicitDefEqProofs only [d__law_docks, g__law_docks, xVar_a, xC_a, xBin_a, xUn_a, tOf_a, tTru_a, tNotP_a, tAndP_a, tOrP_a, tyes_a, tno_a, tYesP_a, xNil_a, xCons_a, xTup_a, xLst_a, xAnd_a, xOr_a, xIf_a, xChain_a, oNo_a, oAt_a, xSl_a, xCall_a, xSeq_a, xIt_a, xLc_a, gSet_a, gTupD_a, gsNil_a, gsCons_a, sNop_a, sBrk_a, sCnt_a, sSeq_a, sRet_a, sIf_a, sSet_a, sTgt_a, sAug_a, sApp_a, sExt_a, sPut_a, sPutK_a, pkO_s, sFor_a, sWhile_a, sPar_a, runD_a, b2_s, c2_s, sqO_nx, sqO_rt, sqO_bk, sqO_ct, ifO_t, ifO_f, stO_s, endO_nx, endO_rt, andO_t, andO_f, orO_t, orO_f, chO_s, chP_t, chP_f, slO_s, atO_i, lcO_s, forO_s, gsO_s, nxO_s, tgO_s, paO_s, apO_s, exO_s, plO_s, ptO_s, dB_b, tru_b, tru_n, tru_i, tru_l, tru_t, is_n, isn_n, nn_n, nn_i, nn_b, nn_t, nn_l, add_ii, add'_ii, sub_ii, neg_i, lt_ii, le_ii, gt_ii, ge_ii, ix_l, ix_t, ix_s, at0, at1, at2, sl_l, sl_t, len_l, len_t, len_s, abs_i, int_i, int_b, max_ii, min_ii, tup_s, lst_s, seq_l, seq_t, sum_s, wipe_n, wipe_c, mul_ii, fdiv_ii, mod_ii, add_ll, add_tt, setAll, mkT, mkL, oNot, List.getD_cons_zero, List.getD_cons_succ, List.length_cons, List.length_nil, List.set_cons_zero, List.set_cons_succ, List.map_cons, List.map_nil, List.replicate, List.cons_append, List.nil_append, List.append_nil, Option.bind_some, Option.map_some, List.all_cons, List.all_nil, if_true, if_false, reduceIte, Nat.reduceAdd, Nat.reduceSub, Nat.reduceLT, Nat.reduceLeDiff, Nat.reduceEqDiff, decide_true, decide_false, Bool.and_true, Bool.and_self, Bool.true_and, Bool.not_true, Bool.not_false, ne_eq, not_true_eq_false, not_false_eq_true, Nat.zero_add, Bool.false_eq_true, and_self, true_and, and_true, hl, hr, ha, hb, hr2, f2, oIN, Option.map_none]
theorem ndd_law (w p : List Int) {n : Nat} (h1 : 1 ≤ n) : (if bad1 w p n then none else (List.range n).findSome? fun k => if ndF w p n (k + 1) then some (k + 1) else none) = ndd w p n := by
  have h0 : ndF w p n 0 = false := by
    obtain ⟨m, rfl⟩ : ∃ m, n = m + 1 := ⟨n - 1, by omega⟩
    simp [ndF, TUP]
  have e : (List.range (n + 1)).find? (ndF w p n) = (List.range n).findSome? fun k => if ndF w p n (k + 1) then some (k + 1) else none := by
    rw [List.range_succ_eq_map, List.find?_cons_of_neg (by rw [h0]; decide)]
    generalize List.range n = l
    induction l with
    | nil => rfl
    | cons a l ih =>
      rw [List.map_cons, List.findSome?_cons]
      cases h : ndF w p n (a + 1) with
      | true =>
        rw [List.find?_cons_of_pos h]
        rfl
      | false =>
        rw [List.find?_cons_of_neg (by rw [h]; decide), ih]
        rfl
  rw [ndd, e]
end K13

namespace K13
open PySem PySem.Spec PyProof.Rows L2 Pm
open PySem.W (Datum Tup)
/-! the order by promised days keeps all if some order does -/
theorem tm_shift (w : List Int) : ∀ (a : List Nat) (d c : Int), tm w (d + c) a = tm w d a + c
  | [], _, _ => rfl
  | j :: a, d, c => by
    show tm w (d + c + w.getD j 0) a = tm w (d + w.getD j 0) a + c
    rw [← tm_shift w a]
    congr 1
    omega
theorem kp_append (w p : List Int) : ∀ (a : List Nat) (d : Int) (r : List Nat), kp w p d (a ++ r) = (kp w p d a && kp w p (tm w d a) r)
  | [], _, _ => by rw [kp, Bool.true_and]; rfl
  | j :: a, d, r => by
    rw [List.cons_append, kp, kp, kp_append w p a, Bool.and_assoc]
    rfl
theorem tm_ge {w : List Int} (hw : ∀ k, 0 ≤ w.getD k 0) : ∀ (a : List Nat) (d : Int), d ≤ tm w d a
  | [], _ => Int.le_refl _
  | j :: a, d => by
    have := tm_ge hw a (d + w.getD j 0)
    have := hw j
    show d ≤ tm w (d + w.getD j 0) a
    omega
theorem kp_le {w : List Int} (p : List Int) (hw : ∀ k, 0 ≤ w.getD k 0) (U : Int) : ∀ (a : List Nat) (d : Int), (∀ k ∈ a, U ≤ p.getD k 0) → tm w d a - 1 ≤ U → kp w p d a = true
  | [], _, _, _ => rfl
  | j :: a, d, h, ht => by
    have h1 := tm_ge hw a (d + w.getD j 0)
    have h2 : tm w d (j :: a) = tm w (d + w.getD j 0) a := rfl
    rw [h2] at ht
    have h3 := h j (by simp)
    rw [kp, kp_le p hw U a _ (fun k hk => h k (List.mem_cons_of_mem _ hk)) ht, Bool.and_true]
    exact decide_eq_true (by omega)
theorem edd {w : List Int} (p : List Int) (hw : ∀ k, 0 ≤ w.getD k 0) : ∀ (e o : List Nat) (d : Int), o.Perm e → e.Pairwise (fun a b => p.getD a 0 ≤ p.getD b 0) → kp w p d o = true → kp w p d e = true
  | [], _, _, _, _, _ => rfl
  | x :: e, o, d, hp, hs, hk => by
    obtain ⟨a, b, rfl⟩ := List.append_of_mem (hp.mem_iff.mpr (List.mem_cons_self ..))
    have hp' : (a ++ b).Perm e := (List.perm_cons x).mp ((List.perm_middle (a := x) (l₁ := a) (l₂ := b)).symm.trans hp)
    obtain ⟨s1, s2⟩ := List.pairwise_cons.mp hs
    rw [kp_append, kp, Bool.and_eq_true, Bool.and_eq_true, decide_eq_true_iff] at hk
    obtain ⟨k1, k2, k3⟩ := hk
    have h1 := tm_ge hw a d
    have h2 := tm_shift w a d (w.getD x 0)
    rw [kp, decide_eq_true (by omega), Bool.true_and]
    refine edd p hw e (a ++ b) _ hp' s2 ?_
    rw [kp_append, Bool.and_eq_true]
    refine ⟨kp_le p hw (p.getD x 0) a _ (fun k hk => s1 k (hp'.mem_iff.mp (by simp [hk]))) (by omega), ?_⟩
    rw [h2]
    exact k3
theorem ev_ge {w : List Int} (hw : ∀ k, 0 ≤ w.getD k 0) : ∀ (o : List Nat) (d : Int), 0 ≤ d → ∀ k ∈ o, w.getD k 0 - 1 ≤ ev w d o k
  | [], _, _, k, hk => by cases hk
  | j :: r, d, hd, k, hk => by
    rw [ev]
    split
    · next e => rw [e]; omega
    · next e => exact ev_ge hw r _ (by have := hw j; omega) k ((List.mem_cons.mp hk).resolve_left fun e' => e e'.symm)
theorem tup1 {n : Nat} (h1 : 1 ≤ n) (h4 : n ≤ 4) : TUP n 1 = [List.replicate n 0] ∧ ch (List.replicate n 0) n 0 = List.range n := by
  obtain rfl | rfl | rfl | rfl : n = 1 ∨ n = 2 ∨ n = 3 ∨ n = 4 := by omega
  · decide +kernel
  · decide +kernel
  · decide +kernel
  · decide +kernel
theorem ndF1 (w p : List Int) {n : Nat} (h1 : 1 ≤ n) (h4 : n ≤ 4) : ndF w p n 1 = kp w p 0 (srt p (List.range n)) := by
  obtain ⟨e1, e2⟩ := tup1 h1 h4
  unfold ndF fitB
  rw [e1]
  simp [e2]
theorem good_ne {w : List Int} (p : List Int) (hw : ∀ k, 0 ≤ w.getD k 0) {n : Nat} (h1 : 1 ≤ n) (h4 : n ≤ 4) : kp w p 0 (srt p (List.range n)) = decide ((good w p n).length > 0) := by
  obtain ⟨s1, s2, _⟩ := srt_spec p (List.range n) (by simp; omega)
  rw [Bool.eq_iff_iff, decide_eq_true_iff]
  constructor
  · intro h
    exact List.length_pos_of_mem (good_mem.mpr ⟨or_q h1 h4 s1, h⟩)
  · intro h
    obtain ⟨o, ho⟩ := List.exists_mem_of_length_pos h
    obtain ⟨g1, g2⟩ := good_mem.mp ho
    exact edd p hw _ o 0 ((or_p h1 h4 o g1).trans s1.symm) s2 g2
theorem ndd1 {w : List Int} (p : List Int) (hw : ∀ k, 0 ≤ w.getD k 0) {n : Nat} (h1 : 1 ≤ n) (h4 : n ≤ 4) : (ndd w p n = some 1) ↔ (good w p n).length > 0 := by
  have hg := good_ne p hw h1 h4
  rw [← ndF1 w p h1 h4] at hg
  have hc : (List.range n).findSome? (fun k => if ndF w p n (k + 1) then some (k + 1) else none) = some 1 ↔ ndF w p n 1 = true := by
    obtain ⟨m, rfl⟩ : ∃ m, n = m + 1 := ⟨n - 1, by omega⟩
    rw [List.range_succ_eq_map, List.findSome?_cons]
    cases h : ndF w p (m + 1) (0 + 1) with
    | true => simp
    | false =>
      simp only [Bool.false_eq_true, if_false, iff_false]
      intro hh
      obtain ⟨k, hk, hk2⟩ := List.exists_of_findSome?_eq_some hh
      obtain ⟨j, _, rfl⟩ := List.mem_map.mp hk
      split at hk2
      · have := Option.some.inj hk2
        simp at this
      · cases hk2
  rw [← ndd_law w p h1]
  by_cases hb : bad1 w p n = true
  · rw [if_pos hb]
    refine ⟨fun h => (by cases h), fun h => ?_⟩
    obtain ⟨o, ho⟩ := List.exists_mem_of_length_pos h
    obtain ⟨g1, g2⟩ := good_mem.mp ho
    have hp := or_p h1 h4 o g1
    rw [kp_ev w p o 0 (pr_nd hp)] at g2
    unfold bad1 at hb
    obtain ⟨k, hk, hk2⟩ := List.any_eq_true.mp hb
    have hko := hp.mem_iff.mpr hk
    have h3 := g2 k hko
    have h4 := ev_ge hw o 0 (Int.le_refl 0) k hko
    have h5 := of_decide_eq_true hk2
    omega
  · rw [if_neg hb, hc, hg, decide_eq_true_iff]
/-! the least sum of ends -/
def csv : Int → List Int → Int
  | _, [] => 0
  | d, x :: r => (d + x) + csv (d + x) r
theorem csv_append : ∀ (a : List Int) (d : Int) (r : List Int), csv d (a ++ r) = csv d a + csv (d + a.sum) r
  | [], d, r => by simp [csv]
  | x :: a, d, r => by
    rw [List.cons_append, csv, csv, csv_append a, List.sum_cons]
    have : d + (x + a.sum) = d + x + a.sum := by omega
    rw [this]
    omega
theorem csv_shift : ∀ (a : List Int) (d c : Int), csv (d + c) a = csv d a + c * a.length
  | [], d, c => by simp [csv]
  | x :: a, d, c => by
    have e : d + c + x = d + x + c := by omega
    rw [csv, csv, e, csv_shift a (d + x) c, List.length_cons, Int.natCast_add, Int.mul_add]
    omega
theorem sum_ge : ∀ (a : List Int) (x : Int), (∀ y ∈ a, x ≤ y) → x * a.length ≤ a.sum
  | [], x, _ => by simp
  | y :: a, x, h => by
    have h1 := sum_ge a x fun z hz => h z (List.mem_cons_of_mem _ hz)
    have h2 := h y (by simp)
    rw [List.length_cons, List.sum_cons, Int.natCast_add, Int.mul_add]
    omega
theorem spt : ∀ (R V : List Int) (d : Int), V.Perm R → R.Pairwise (· ≤ ·) → csv d R ≤ csv d V
  | [], V, d, hp, _ => by rw [hp.eq_nil]; exact Int.le_refl _
  | x :: R, V, d, hp, hs => by
    obtain ⟨a, b, rfl⟩ := List.append_of_mem (hp.mem_iff.mpr (List.mem_cons_self ..))
    have hp' : (a ++ b).Perm R := (List.perm_cons x).mp ((List.perm_middle (a := x) (l₁ := a) (l₂ := b)).symm.trans hp)
    obtain ⟨s1, s2⟩ := List.pairwise_cons.mp hs
    have ih := spt R (a ++ b) (d + x) hp' s2
    rw [csv_append, csv_shift a d x] at ih
    have h1 := sum_ge a x fun y hy => s1 y (hp'.mem_iff.mp (by simp [hy]))
    rw [csv, csv_append, csv]
    have e : d + x + a.sum = d + a.sum + x := by omega
    rw [e] at ih
    omega
theorem ev_sum (w : List Int) : ∀ (o : List Nat) (d : Int), o.Nodup → (o.map fun k => ev w d o k).sum = csv d (o.map fun k => w.getD k 0) - o.length
  | [], d, _ => by simp [csv]
  | j :: r, d, hn => by
    obtain ⟨n1, n2⟩ := List.nodup_cons.mp hn
    have ih := ev_sum w r (d + w.getD j 0) n2
    have e : (r.map fun k => ev w d (j :: r) k) = r.map fun k => ev w (d + w.getD j 0) r k := by
      refine List.map_congr_left fun k hk => ?_
      rw [ev, if_neg (fun e => n1 (by rw [e]; exact hk))]
    rw [List.map_cons, List.sum_cons, e, ih, ev, if_pos rfl, List.map_cons, csv, List.length_cons]
    omega
theorem perm_sum {a b : List Int} (h : a.Perm b) : a.sum = b.sum := by
  induction h with
  | nil => rfl
  | cons x _ ih => simp [ih]
  | swap x y l => simp; omega
  | trans _ _ h1 h2 => rw [h1, h2]
end K13

namespace K13
open PySem PySem.Spec PyProof.Rows L2 Pm
open PySem.W (Datum Tup)
theorem cut_upto (xs : List D) (n : Nat) : Pm.cutD xs none (some (n : Int)) = xs.take n := by
  unfold Pm.cutD
  rw [HT.sIx_none, List.drop_zero, Nat.sub_zero, HT.sIx_nat]
  rw [← List.take_take, List.take_length]
theorem sorted_ints (w : List Int) (hl : w.length ≤ 1000) : ∃ R : List Int, R.Perm w ∧ R.Pairwise (· ≤ ·) ∧ ∀ b, bSorted [sqD b (w.map PyData.int)] = some (.list (R.map PyData.int)) := by
  obtain ⟨l', hp, hs, _, hb⟩ := sorted_map (α := Int) (by decide) (x := .list (w.map PyData.int)) w (by omega) (.inr fun a ys h => by
    have h' : PyData.int a = PyData.tuple ys := h
    cases h') rfl
  refine ⟨l', hp, hs.imp fun {a b} h => lt_int_f h, fun b => ?_⟩
  cases b with
  | true => exact hb
  | false => exact hb
theorem csv_snoc (a : List Int) (x : Int) : csv 0 (a ++ [x]) = csv 0 a + (a.sum + x) := by
  rw [csv_append, csv, csv]
  omega
theorem sums_least_eq (w R : List Int) (hl : R.length ≤ 1000) (hs : bSorted [.tuple (w.map PyData.int)] = some (.list (R.map PyData.int))) : d_sums_least [.int 1, .tuple (w.map PyData.int)] = some (.int (csv 0 R)) := by
  have he : oEnum [.list (R.map PyData.int)] = some ((List.range R.length).map fun i => .tuple [.int (i : Nat), .int (R.getD i 0)]) := by
    show some (enumD (R.map PyData.int)) = _
    rw [enum_map]
  obtain ⟨ρ', e, h⟩ := forL_inv (g := gTupD 2 (gsCons (gSet 4) (gsCons (gSet 5) gsNil))) (b := l1_sums_least) (fun i : Nat => .tuple [.int (i : Nat), .int (R.getD i 0)])
    (fun pre rest ρ => pre ++ rest = List.range R.length ∧ ∃ x4 x5, ρ = [some (.int 1), some (.tuple (w.map PyData.int)), some (.int (csv 0 (pre.map fun i => R.getD i 0))), some (.list [.int (pre.map fun i => R.getD i 0).sum]), x4, x5]) (fun pre i rest ρ ⟨hp, x4, x5, e⟩ => by
      subst e
      refine ⟨[some (.int 1), some (.tuple (w.map PyData.int)), some (.int (csv 0 (pre.map fun i => R.getD i 0))), some (.list [.int (pre.map fun i => R.getD i 0).sum]), some (.int (i : Nat)), some (.int (R.getD i 0))], [some (.int 1), some (.tuple (w.map PyData.int)), some (.int (csv 0 ((pre ++ [i]).map fun i => R.getD i 0))), some (.list [.int ((pre ++ [i]).map fun i => R.getD i 0).sum]), some (.int (i : Nat)), some (.int (R.getD i 0))], rfl, .inl ?_, by rw [List.append_assoc]; exact hp, _, _, rfl⟩
      have m1 : (i : Int).fmod 1 = 0 := Int.fmod_one ..
      have n1 : (1 : Int) ≠ 0 := by decide
      rw [List.map_append, List.map_cons, List.map_nil, csv_snoc, List.sum_append]
      generalize w.map PyData.int = WD at *
      generalize (pre.map fun i => R.getD i 0) = Q at *
      have hA := sAugI_a (ρ := [some (.int 1), some (.tuple WD), some (.int (csv 0 Q)), some (.list [.int Q.sum]), some (.int (i : Nat)), some (.int (R.getD i 0))]) 3 (xBin oMod (xVar 4) (xVar 0)) (xVar 5) oAdd' [.int Q.sum] 0 rfl (by
        simp -implicitDefEqProofs only [xVar_a, xC_a, xBin_a, xUn_a, tOf_a, tTru_a, tNotP_a, tAndP_a, tOrP_a, tyes_a, tno_a, tYesP_a, xNil_a, xCons_a, xTup_a, xLst_a, xAnd_a, xOr_a, xIf_a, xChain_a, oNo_a, oAt_a, xSl_a, xCall_a, xSeq_a, xIt_a, xLc_a, gSet_a, gTupD_a, gsNil_a, gsCons_a, sNop_a, sBrk_a, sCnt_a, sSeq_a, sRet_a, sIf_a, sSet_a, sTgt_a, sAug_a, sApp_a, sExt_a, sPut_a, sPutK_a, pkO_s, sFor_a, sWhile_a, sPar_a, runD_a, b2_s, c2_s, sqO_nx, sqO_rt, sqO_bk, sqO_ct, ifO_t, ifO_f, stO_s, endO_nx, endO_rt, andO_t, andO_f, orO_t, orO_f, chO_s, chP_t, chP_f, slO_s, atO_i, lcO_s, forO_s, gsO_s, nxO_s, tgO_s, paO_s, apO_s, exO_s, plO_s, ptO_s, dB_b, tru_b, tru_n, tru_i, tru_l, tru_t, is_n, isn_n, nn_n, nn_i, nn_b, nn_t, nn_l, add_ii, add'_ii, sub_ii, neg_i, lt_ii, le_ii, gt_ii, ge_ii, ix_l, ix_t, ix_s, at0, at1, at2, sl_l, sl_t, len_l, len_t, len_s, abs_i, int_i, int_b, max_ii, min_ii, tup_s, lst_s, seq_l, seq_t, sum_s, wipe_n, wipe_c, mul_ii, fdiv_ii, mod_ii, add_ll, add_tt, setAll, mkT, mkL, oNot, List.getD_cons_zero, List.getD_cons_succ, List.length_cons, List.length_nil, List.set_cons_zero, List.set_cons_succ, List.map_cons, List.map_nil, List.replicate, List.cons_append, List.nil_append, List.append_nil, Option.bind_some, Option.map_some, List.all_cons, List.all_nil, if_true, if_false, reduceIte, Nat.reduceAdd, Nat.reduceSub, Nat.reduceLT, Nat.reduceLeDiff, Nat.reduceEqDiff, decide_true, decide_false, Bool.and_true, Bool.and_self, Bool.true_and, Bool.not_true, Bool.not_false, ne_eq, not_true_eq_false, not_false_eq_true, Nat.zero_add, Bool.false_eq_true, and_self, true_and, and_true, mod_ii n1, m1])
      have i0 : ixN 1 (0 : Int) = some 0 := rfl
      have hsum : [R.getD i 0].sum = R.getD i 0 := by simp
      rw [hsum]
      simp -implicitDefEqProofs only [l1_sums_least, hA, xVar_a, xC_a, xBin_a, xUn_a, tOf_a, tTru_a, tNotP_a, tAndP_a, tOrP_a, tyes_a, tno_a, tYesP_a, xNil_a, xCons_a, xTup_a, xLst_a, xAnd_a, xOr_a, xIf_a, xChain_a, oNo_a, oAt_a, xSl_a, xCall_a, xSeq_a, xIt_a, xLc_a, gSet_a, gTupD_a, gsNil_a, gsCons_a, sNop_a, sBrk_a, sCnt_a, sSeq_a, sRet_a, sIf_a, sSet_a, sTgt_a, sAug_a, sApp_a, sExt_a, sPut_a, sPutK_a, pkO_s, sFor_a, sWhile_a, sPar_a, runD_a, b2_s, c2_s, sqO_nx, sqO_rt, sqO_bk, sqO_ct, ifO_t, ifO_f, stO_s, endO_nx, endO_rt, andO_t, andO_f, orO_t, orO_f, chO_s, chP_t, chP_f, slO_s, atO_i, lcO_s, forO_s, gsO_s, nxO_s, tgO_s, paO_s, apO_s, exO_s, plO_s, ptO_s, dB_b, tru_b, tru_n, tru_i, tru_l, tru_t, is_n, isn_n, nn_n, nn_i, nn_b, nn_t, nn_l, add_ii, add'_ii, sub_ii, neg_i, lt_ii, le_ii, gt_ii, ge_ii, ix_l, ix_t, ix_s, at0, at1, at2, sl_l, sl_t, len_l, len_t, len_s, abs_i, int_i, int_b, max_ii, min_ii, tup_s, lst_s, seq_l, seq_t, sum_s, wipe_n, wipe_c, mul_ii, fdiv_ii, mod_ii, add_ll, add_tt, setAll, mkT, mkL, oNot, List.getD_cons_zero, List.getD_cons_succ, List.length_cons, List.length_nil, List.set_cons_zero, List.set_cons_succ, List.map_cons, List.map_nil, List.replicate, List.cons_append, List.nil_append, List.append_nil, Option.bind_some, Option.map_some, List.all_cons, List.all_nil, if_true, if_false, reduceIte, Nat.reduceAdd, Nat.reduceSub, Nat.reduceLT, Nat.reduceLeDiff, Nat.reduceEqDiff, decide_true, decide_false, Bool.and_true, Bool.and_self, Bool.true_and, Bool.not_true, Bool.not_false, ne_eq, not_true_eq_false, not_false_eq_true, Nat.zero_add, Bool.false_eq_true, and_self, true_and, and_true, i0, mod_ii n1, m1]) (List.range R.length) [] [some (.int 1), some (.tuple (w.map PyData.int)), some (.int 0), some (.list [.int 0]), none, none] ⟨rfl, none, none, rfl⟩
  obtain ⟨_, x4, x5, e'⟩ := h
  subst e'
  have hR : ((List.range R.length).map fun i => R.getD i 0) = R := by
    apply List.ext_getElem?
    intro i
    by_cases h : i < R.length
    · simp [h]
    · simp [h]
  rw [List.nil_append, hR] at e
  have r1 : oMul' (.list [.int 0]) (.int 1) = some (.list [.int 0]) := rep_l (.int 0) 1 (by omega)
  generalize w.map PyData.int = WD at *
  generalize R.map PyData.int = RD at *
  simp -implicitDefEqProofs only [d_sums_least, g_sums_least, xVar_a, xC_a, xBin_a, xUn_a, tOf_a, tTru_a, tNotP_a, tAndP_a, tOrP_a, tyes_a, tno_a, tYesP_a, xNil_a, xCons_a, xTup_a, xLst_a, xAnd_a, xOr_a, xIf_a, xChain_a, oNo_a, oAt_a, xSl_a, xCall_a, xSeq_a, xIt_a, xLc_a, gSet_a, gTupD_a, gsNil_a, gsCons_a, sNop_a, sBrk_a, sCnt_a, sSeq_a, sRet_a, sIf_a, sSet_a, sTgt_a, sAug_a, sApp_a, sExt_a, sPut_a, sPutK_a, pkO_s, sFor_a, sWhile_a, sPar_a, runD_a, b2_s, c2_s, sqO_nx, sqO_rt, sqO_bk, sqO_ct, ifO_t, ifO_f, stO_s, endO_nx, endO_rt, andO_t, andO_f, orO_t, orO_f, chO_s, chP_t, chP_f, slO_s, atO_i, lcO_s, forO_s, gsO_s, nxO_s, tgO_s, paO_s, apO_s, exO_s, plO_s, ptO_s, dB_b, tru_b, tru_n, tru_i, tru_l, tru_t, is_n, isn_n, nn_n, nn_i, nn_b, nn_t, nn_l, add_ii, add'_ii, sub_ii, neg_i, lt_ii, le_ii, gt_ii, ge_ii, ix_l, ix_t, ix_s, at0, at1, at2, sl_l, sl_t, len_l, len_t, len_s, abs_i, int_i, int_b, max_ii, min_ii, tup_s, lst_s, seq_l, seq_t, sum_s, wipe_n, wipe_c, mul_ii, fdiv_ii, mod_ii, add_ll, add_tt, setAll, mkT, mkL, oNot, List.getD_cons_zero, List.getD_cons_succ, List.length_cons, List.length_nil, List.set_cons_zero, List.set_cons_succ, List.map_cons, List.map_nil, List.replicate, List.cons_append, List.nil_append, List.append_nil, Option.bind_some, Option.map_some, List.all_cons, List.all_nil, if_true, if_false, reduceIte, Nat.reduceAdd, Nat.reduceSub, Nat.reduceLT, Nat.reduceLeDiff, Nat.reduceEqDiff, decide_true, decide_false, Bool.and_true, Bool.and_self, Bool.true_and, Bool.not_true, Bool.not_false, ne_eq, not_true_eq_false, not_false_eq_true, Nat.zero_add, Bool.false_eq_true, and_self, true_and, and_true, r1, hs, he, e]
theorem total_csv : ∀ (R : List Int) (d : Int), ((List.range R.length).map fun k => d + (R.take (k + 1)).sum).sum = csv d R
  | [], _ => rfl
  | x :: R, d => by
    rw [List.length_cons, List.range_succ_eq_map, List.map_cons, List.sum_cons, List.map_map, csv, ← total_csv R (d + x)]
    have e : ((List.range R.length).map ((fun k => d + ((x :: R).take (k + 1)).sum) ∘ Nat.succ)) = (List.range R.length).map fun k => d + x + (R.take (k + 1)).sum := by
      refine List.map_congr_left fun k _ => ?_
      simp only [Function.comp, Nat.succ_eq_add_one, List.take_succ_cons, List.sum_cons]
      omega
    rw [e]
    simp
/-! the plain works -/
theorem ev_le {w : List Int} (hw : ∀ k, 0 ≤ w.getD k 0) : ∀ (o : List Nat) (d : Int), ∀ k ∈ o, ev w d o k ≤ tm w d o - 1
  | [], d, k, hk => by cases hk
  | j :: r, d, k, hk => by
    have h2 : tm w d (j :: r) = tm w (d + w.getD j 0) r := rfl
    have h1 := tm_ge hw r (d + w.getD j 0)
    rw [ev, h2]
    split
    · omega
    · next e => exact ev_le hw r _ k ((List.mem_cons.mp hk).resolve_left fun e' => e e'.symm)
theorem tm_sum (w : List Int) : ∀ (o : List Nat) (d : Int), tm w d o = d + (o.map fun k => w.getD k 0).sum
  | [], d => by simp [tm]
  | j :: r, d => by
    have h2 : tm w d (j :: r) = tm w (d + w.getD j 0) r := rfl
    rw [h2, tm_sum w r, List.map_cons, List.sum_cons]
    omega
theorem rng_get (w : List Int) {n : Nat} (hw : w.length = n) : ((List.range n).map fun k => w.getD k 0) = w := by
  subst hw
  apply List.ext_getElem?
  intro i
  by_cases h : i < w.length
  · simp [h]
  · simp [h]
theorem perm_w (w : List Int) {n : Nat} (hw : w.length = n) {o : List Nat} (ho : o.Perm (List.range n)) : (o.map fun k => w.getD k 0).Perm w := by
  have := ho.map fun k => w.getD k 0
  rwa [rng_get w hw] at this
def WP (w : List Int) (n : Nat) : List Ship := (List.range n).map fun k => (w.getD k 0, 0, 1, 99)
structure OkD (n : Nat) (w : List Int) : Prop where
  len : w.length = n
  ge : ∀ x ∈ w, 1 ≤ x
  le : ∀ x ∈ w, x ≤ 10
theorem OkD.nn {n : Nat} {w : List Int} (h : OkD n w) : ∀ k, 0 ≤ w.getD k 0 := fun k => by
  by_cases hk : k < w.length
  · have := h.ge _ (getD_mem w k 0 hk)
    omega
  · simp [hk]
theorem OkD.at {n : Nat} {w : List Int} (h : OkD n w) {k : Nat} (hk : k < n) : 1 ≤ w.getD k 0 ∧ w.getD k 0 ≤ 10 :=
  ⟨h.ge _ (getD_mem w k 0 (by rw [h.len]; exact hk)), h.le _ (getD_mem w k 0 (by rw [h.len]; exact hk))⟩
theorem sum_le : ∀ (a : List Int), (∀ y ∈ a, y ≤ 10) → a.sum ≤ 10 * a.length
  | [], _ => by simp
  | y :: a, h => by
    have h1 := sum_le a fun z hz => h z (List.mem_cons_of_mem _ hz)
    have h2 := h y (by simp)
    rw [List.length_cons, List.sum_cons]
    omega
theorem dyW_WP {w : List Int} {n : Nat} (hw : w.length = n) : dyW (WP w n) = w := by
  rw [dyW, WP, List.map_map]
  exact rng_get w hw
theorem okWP {w : List Int} {n : Nat} (h : OkD n w) : OkW n (WP w n) := by
  refine ⟨by simp [WP], fun q hq => ?_, fun q hq => ?_, fun q hq => ?_⟩
  · obtain ⟨k, _, rfl⟩ := List.mem_map.mp hq
    exact h.nn k
  · obtain ⟨k, _, rfl⟩ := List.mem_map.mp hq
    exact ⟨show (1 : Int) ≤ 1 by decide, show (1 : Int) ≤ 1000 by decide⟩
  · obtain ⟨k, _, rfl⟩ := List.mem_map.mp hq
    show (1 : Int) ≤ 99
    decide
theorem map_at {α : Type} (f : Nat → α) {n k : Nat} (h : k < n) (a : α) : ((List.range n).map f).getD k a = f k := by simp [h]
theorem pay_plain {e x : Int} (h0 : 0 ≤ e) (h1 : e ≤ 90) : pay (x, 0, 1, 99) e = e := by
  unfold pay lt0
  dsimp only
  by_cases h : e - 0 > 0
  · rw [if_pos h, if_pos (by omega)]
    omega
  · rw [if_neg h, if_pos (by omega)]
    omega
theorem sPO_plain {w : List Int} {n : Nat} (h : OkD n w) (h4 : n ≤ 4) {o : List Nat} (ho : o.Perm (List.range n)) : sPO (WP w n) o n = csv 0 (o.map fun k => w.getD k 0) - n := by
  have e1 : PO (WP w n) o n = (List.range n).map fun k => ev w 0 o k := by
    unfold PO
    rw [dyW_WP h.len]
    refine List.map_congr_left fun k hk => ?_
    have hk' := List.mem_range.mp hk
    have hko := ho.mem_iff.mpr hk
    rw [show (WP w n).getD k (0, 0, 0, 0) = (w.getD k 0, 0, 1, 99) from map_at _ hk' _]
    have g1 := ev_ge h.nn o 0 (Int.le_refl 0) k hko
    have g2 := ev_le h.nn o 0 k hko
    have g3 := h.at hk'
    rw [tm_sum, perm_sum (perm_w w h.len ho)] at g2
    have g4 := sum_le w h.le
    rw [h.len] at g4
    exact pay_plain (by omega) (by omega)
  unfold sPO
  rw [e1, perm_sum ((ho.map fun k => ev w 0 o k).symm), ev_sum w o 0 (pr_nd ho), pr_len ho]
theorem plain_least {w R : List Int} {n : Nat} (h : OkD n w) (h1 : 1 ≤ n) (h4 : n ≤ 4) (hp : R.Perm w) (hs : R.Pairwise (· ≤ ·)) :
    ∃ o, o ∈ ORD n ∧ d_least_paid [.tuple ((WP w n).map shD)] = some (.tuple [.int (csv 0 R - n), oD o]) := by
  have hl := least_paid_eq (okWP h) h1 h4
  rw [min_ky] at hl
  cases hm : least ((ORD n).map (ky (WP w n) n)) with
  | none =>
    have := least_none.mp hm
    have h2 := or_l h1 h4
    rw [List.map_eq_nil_iff] at this
    rw [this] at h2
    simp at h2
  | some m =>
    obtain ⟨m1, m2⟩ := least_iff.mp hm
    obtain ⟨o, ho, rfl⟩ := List.mem_map.mp m1
    refine ⟨o, ho, ?_⟩
    have hpo := or_p h1 h4 o ho
    obtain ⟨s1, s2, _⟩ := srt_spec w (List.range n) (by simp; omega)
    have hE : ((srt w (List.range n)).map fun k => w.getD k 0) = R := by
      refine perm_sorted (α := Int) ((perm_w w h.len s1).trans hp.symm) ?_ ?_
      · rw [List.pairwise_map]
        exact s2.imp fun {a b} h => decide_eq_false (by omega)
      · exact hs.imp fun {a b} h => decide_eq_false (by omega)
    have g1 := sPO_plain h h4 s1
    rw [hE] at g1
    have g2 := sPO_plain h h4 hpo
    have g3 := spt R _ 0 ((perm_w w h.len hpo).trans hp.symm) hs
    have g4 := m2 (ky (WP w n) n (srt w (List.range n))) (List.mem_map_of_mem (or_q h1 h4 s1))
    have g5 : sPO (WP w n) o n ≤ sPO (WP w n) (srt w (List.range n)) n := by
      unfold ky at g4
      rw [pLt] at g4
      dsimp only at g4
      split at g4
      · next e => omega
      · exact lt_int_f g4
    rw [hl, hm, Option.map_some, toD_ky, kyD]
    have : sPO (WP w n) o n = csv 0 R - n := by omega
    rw [this]
end K13

namespace K13
open PySem PySem.Spec PyProof.Rows L2 Pm
open PySem.W (Datum Tup)
theorem tI_inj {a b : List Nat} (h : tI a = tI b) : a = b := by
  have h1 : a.map (fun j : Nat => (j : Int)) = b.map (fun j : Nat => (j : Int)) := congrArg Tup.items h
  have h2 := congrArg (List.map Int.toNat) h1
  rw [List.map_map, List.map_map] at h2
  simpa [Function.comp_def] using h2
theorem shp_oD (o : List Nat) : shp (oD o) = true := by
  have h2 : Datum.depth (Tup Int) ≤ 20 := by decide
  have h1 := Datum.depth_le (tI o)
  unfold shp SeqAt.shaped
  rw [← toD_tI, LinD.lay (tI o), Bool.true_and]
  exact decide_eq_true (by omega)
theorem eqv_oD (a b : List Nat) : PyData.eqv (oD a) (oD b) = decide (a = b) := by
  have h : PyData.eqv (Datum.toD (tI a)) (Datum.toD (tI b)) = decide (tI a = tI b) := Datum.eqv (tI a) (tI b)
  rw [toD_tI, toD_tI] at h
  rw [h]
  by_cases e : a = b
  · subst e; simp
  · rw [decide_eq_false e, decide_eq_false (fun e' => e (tI_inj e'))]
theorem ne_oD (o : List Nat) : oNe (oD o) (oD o) = some (.bool false) := by
  show (if (shp (oD o) && shp (oD o)) = true then some (PyData.bool (!PyData.eqv (oD o) (oD o))) else none) = _
  rw [shp_oD, eqv_oD]
  simp
theorem lay_oD (l : List (List Nat)) : PyData.canLayAll0 (l.map oD) = true := by
  have e : l.map oD = (l.map tI).map Datum.toD := by
    rw [List.map_map]
    exact List.map_congr_left fun o _ => (toD_tI o).symm
  rw [e]
  exact layAll_map _
theorem in_oD (o : List Nat) (l : List (List Nat)) : oIn (oD o) (.list (l.map oD)) = some (.bool (decide (o ∈ l))) := by
  have ha : ((l.map oD).any fun z => PyData.eqv z (oD o)) = decide (o ∈ l) := by
    rw [List.any_map]
    have : ((fun z => PyData.eqv z (oD o)) ∘ oD) = fun x : List Nat => decide (x = o) := by
      funext x
      exact eqv_oD x o
    rw [this]
    induction l with
    | nil => rfl
    | cons x l ih =>
      rw [List.any_cons, ih]
      by_cases h : x = o
      · subst h; simp
      · have h' : ¬ o = x := fun e => h e.symm
        simp [h, h']
  show (if (shp (oD o) && PyData.canLayAll0 (l.map oD)) = true then some (PyData.bool ((l.map oD).any fun z => PyData.eqv z (oD o))) else none) = _
  rw [shp_oD, lay_oD, ha]
  rfl
theorem ne_same (t : Bool) : oNe (.bool t) (.bool t) = some (.bool false) := by
  cases t <;> simp [oNe, shp, SeqAt.shaped, PyData.eqv, PyData.canLay0, PyData.depth]
theorem eq_none_i (i : Int) : oEq .none (.int i) = some (.bool false) := by
  simp [oEq, shp, SeqAt.shaped, PyData.eqv, PyData.canLay0, PyData.depth]
theorem flat_bool (b : Bool) : flat (.bool b) = true := rfl
theorem flatL_map {α : Type} (f : α → D) : ∀ l : List α, (∀ x ∈ l, flat (f x) = true) → flatL (l.map f) = true
  | [], _ => rfl
  | a :: l, h => by
    rw [List.map_cons, flatL, h a (by simp), flatL_map f l fun x hx => h x (List.mem_cons_of_mem _ hx)]
    rfl
theorem flat_tm {α : Type} (f : α → D) (l : List α) (h : ∀ x ∈ l, flat (f x) = true) : flat (.tuple (l.map f)) = true := flatL_map f l h
theorem flat_ints (l : List Int) : flat (.tuple (l.map PyData.int)) = true := flat_tm _ _ fun _ _ => rfl
theorem flat_oD (o : List Nat) : flat (oD o) = true := flat_tm _ _ fun _ _ => rfl
theorem flat_kyD (W : List Ship) (n : Nat) (o : List Nat) : flat (kyD W n o) = true := by
  unfold kyD
  rw [flat, flatL, flatL, flatL, flat_oD]
  rfl
theorem like_oD (k : Nat) (o : List Nat) (h : o.length ≤ 1000) : d__law_like (k + 2) [oD o, oD o] = some (.bool true) :=
  like_tup _ _ (by simp; omega) fun x hx => by
    obtain ⟨j, _, rfl⟩ := List.mem_map.mp hx
    exact like_int _ _
theorem like_kyD (k : Nat) (W : List Ship) (n : Nat) (o : List Nat) (h : o.length ≤ 1000) : d__law_like (k + 3) [kyD W n o, kyD W n o] = some (.bool true) :=
  like_tup _ _ (by simp) fun x hx => by
    simp only [List.mem_cons, List.mem_nil_iff, or_false] at hx
    rcases hx with rfl | rfl
    · exact like_int _ _
    · exact like_oD k o h
theorem sum_zero : ∀ {l : List Int}, (∀ r ∈ l, 0 ≤ r) → (l.sum = 0 ↔ ∀ r ∈ l, r = 0)
  | [], _ => by simp
  | a :: l, h => by
    have h1 := h a (by simp)
    have h2 := sum_nonneg fun r hr => h r (List.mem_cons_of_mem _ hr)
    have ih := sum_zero fun r hr => h r (List.mem_cons_of_mem _ hr)
    rw [List.sum_cons]
    constructor
    · intro e r hr
      rcases List.mem_cons.mp hr with rfl | hr
      · omega
      · exact ih.mp (by omega) r hr
    · intro e
      have := e a (by simp)
      have := ih.mpr fun r hr => e r (List.mem_cons_of_mem _ hr)
      omega
theorem pay_nn {q : Ship} (h1 : 1 ≤ q.2.2.1) (h2 : 1 ≤ q.2.2.2) (e : Int) : 0 ≤ pay q e ∧ (pay q e = 0 ↔ e ≤ q.2.1) := by
  unfold pay
  have h0 : 0 ≤ lt0 q e ∧ (lt0 q e = 0 ↔ e ≤ q.2.1) := by
    unfold lt0
    split <;> omega
  have h3 : 0 ≤ lt0 q e * q.2.2.1 := Int.mul_nonneg h0.1 (by omega)
  have h4 : lt0 q e * q.2.2.1 = 0 ↔ lt0 q e = 0 := by
    rw [Int.mul_eq_zero]
    omega
  split <;> omega
def prW (W : List Ship) : List Int := W.map fun q => q.2.1
theorem sPO_zero {W : List Ship} {n : Nat} (hW : OkW n W) {o : List Nat} (ho : o.Perm (List.range n)) : 0 ≤ sPO W o n ∧ (sPO W o n = 0 ↔ kp (dyW W) (prW W) 0 o = true) := by
  have hq : ∀ k, k < n → 1 ≤ (W.getD k (0, 0, 0, 0)).2.2.1 ∧ 1 ≤ (W.getD k (0, 0, 0, 0)).2.2.2 := fun k hk => by
    have hm := getD_mem W k (0, 0, 0, 0) (by rw [hW.len]; exact hk)
    exact ⟨(hW.rt _ hm).1, hW.cp _ hm⟩
  have hnn : ∀ r ∈ PO W o n, 0 ≤ r := fun r hr => by
    obtain ⟨k, hk, rfl⟩ := List.mem_map.mp hr
    obtain ⟨q1, q2⟩ := hq k (List.mem_range.mp hk)
    exact (pay_nn q1 q2 _).1
  refine ⟨sum_nonneg hnn, ?_⟩
  unfold sPO
  rw [sum_zero hnn, kp_ev _ _ o 0 (pr_nd ho)]
  constructor
  · intro h k hk
    have hk' := pr_lt ho k hk
    obtain ⟨q1, q2⟩ := hq k hk'
    have := h _ (List.mem_map_of_mem (List.mem_range.mpr hk'))
    have := (pay_nn q1 q2 _).2.mp this
    rw [prW, getD_map (fun q : Ship => q.2.1) W k (0, 0, 0, 0) 0 rfl]
    exact this
  · intro h r hr
    obtain ⟨k, hk, rfl⟩ := List.mem_map.mp hr
    obtain ⟨q1, q2⟩ := hq k (List.mem_range.mp hk)
    have := h k (ho.mem_iff.mpr hk)
    rw [prW, getD_map (fun q : Ship => q.2.1) W k (0, 0, 0, 0) 0 rfl] at this
    exact (pay_nn q1 q2 _).2.mpr this
/-- the least key -/
theorem least_ky {W : List Ship} {n : Nat} (hW : OkW n W) (h1 : 1 ≤ n) (h4 : n ≤ 4) : ∃ o ∈ ORD n, bMinD [.list ((ORD n).map (kyD W n))] = some (kyD W n o) ∧
    (sPO W o n = 0 ↔ (good (dyW W) (prW W) n).length > 0) ∧ ∀ g0 G, good (dyW W) (prW W) n = g0 :: G → o = g0 := by
  rw [min_ky]
  cases hm : least ((ORD n).map (ky W n)) with
  | none =>
    have := least_none.mp hm
    have h2 := or_l h1 h4
    rw [List.map_eq_nil_iff] at this
    rw [this] at h2
    simp at h2
  | some m =>
    obtain ⟨m1, m2⟩ := least_iff.mp hm
    obtain ⟨o, ho, rfl⟩ := List.mem_map.mp m1
    have hz := sPO_zero hW (or_p h1 h4 o ho)
    have hle : ∀ o' ∈ ORD n, sPO W o n ≤ sPO W o' n := fun o' ho' => by
      have g4 := m2 (ky W n o') (List.mem_map_of_mem ho')
      unfold ky at g4
      rw [pLt] at g4
      dsimp only at g4
      split at g4
      · next e => omega
      · exact lt_int_f g4
    refine ⟨o, ho, by rw [Option.map_some, toD_ky], ?_, fun g0 G hG => ?_⟩
    · constructor
      · intro h
        exact List.length_pos_of_mem (good_mem.mpr ⟨ho, hz.2.mp h⟩)
      · intro h
        obtain ⟨g, hg⟩ := List.exists_mem_of_length_pos h
        obtain ⟨g1, g2⟩ := good_mem.mp hg
        have := (sPO_zero hW (or_p h1 h4 g g1)).2.mpr g2
        have := hle g g1
        omega
    · have hg : g0 ∈ good (dyW W) (prW W) n := by rw [hG]; simp
      obtain ⟨g1, g2⟩ := good_mem.mp hg
      have hz0 := (sPO_zero hW (or_p h1 h4 g0 g1)).2.mpr g2
      have ho0 : sPO W o n = 0 := by have := hle g0 g1; omega
      have hog : o ∈ good (dyW W) (prW W) n := good_mem.mpr ⟨ho, hz.2.mp ho0⟩
      have hs := good_sorted (dyW W) (prW W) h1 h4
      rw [hG] at hs hog
      rw [List.map_cons, List.pairwise_cons] at hs
      rcases List.mem_cons.mp hog with e | hog
      · exact e
      · have q1 := hs.1 (tI o) (List.mem_map_of_mem hog)
        have q2 := m2 (ky W n g0) (List.mem_map_of_mem g1)
        unfold ky at q2
        rw [pLt] at q2
        dsimp only at q2
        rw [hz0, ho0, if_pos rfl] at q2
        exact tI_inj (LinD.tri _ _ q1 q2)
end K13

namespace K13
open PySem PySem.Spec PyProof.Rows L2 Pm
open PySem.W (Datum Tup)
def lK (k : Bool) (o : D) : List D := if k then [o] else []
theorem lK_rng (k : Bool) (o : D) (ρ : PEnv) (h6 : ∀ i, (ρ.set 20 (some (.int i))).getD 6 none = some o) (hl : 20 < ρ.length) : ∃ R, oR1 [.int (if k = true then 1 else 0)] = some R ∧ lcL (gSet 20) tYesP (xVar 6) ρ R = some (lK k o) := by
  cases k with
  | true =>
    refine ⟨[.int 0], rg0 1 (by omega), ?_⟩
    have hg : gSet 20 (.int 0) ρ = some (ρ.set 20 (some (.int 0))) := if_pos hl
    exact lcL_map (g := gSet 20) (f := xVar 6) (ρ := ρ) (fun _ : Nat => .int 0) (fun _ => o) [0] fun _ _ => by
      rw [hg]
      exact h6 0
  | false => exact ⟨[], rg0 0 (by omega), rfl⟩
theorem late_step (x0 x1 x4 x5 x7 x8 x9 x11 x15 x16 x17 x18 x19 x20 x21 : Option D) (wd pd PD E KS : List D) (o WD SD : D) (L : Int) (K : Bool) (hE : E.length ≤ 1000) (hKS : KS.length ≤ 1000)
    (e1 : d__law_owed [WD, o] = some (.tuple PD)) (e2 : flat (.tuple PD) = true) (e3 : bSum [.tuple PD] = some (.int L)) (e4 : d__law_kept [.list wd, .list pd, o] = some (.bool K)) (e5 : d_late_pay [WD, o] = some (.tuple PD)) (e6 : d__law_like 8 [.tuple PD, .tuple PD] = some (.bool true)) (e7 : decide (L = 0) = K) (e8 : d_keeps_surely [SD, o] = some (.bool K)) :
    ∃ y15 y16, l1__law_late [x0, x1, some (.list wd), some (.list pd), x4, x5, some o, x7, x8, x9, some WD, x11, some (.list E), some SD, some (.list KS), x15, x16, x17, x18, x19, x20, x21] =
      some (.nx [x0, x1, some (.list wd), some (.list pd), x4, x5, some o, x7, x8, x9, some WD, x11, some (.list (E ++ lK K o)), some SD, some (.list (KS ++ [.tuple [.int L, o]])), y15, y16, x17, x18, x19, x20, x21]) := by
  have hb := flat_bool
  have h1 : E.length + (lK K o).length ≤ 16777216 := by
    cases K <;> simp [lK] <;> omega
  have h2 : KS.length < 16777216 := by omega
  have h3 := like_bool 7 K
  obtain ⟨R, r1, r2⟩ := lK_rng K o [x0, x1, some (.list wd), some (.list pd), x4, x5, some o, x7, x8, x9, some WD, x11, some (.list E), some SD, some (.list (KS ++ [.tuple [.int L, o]])), some (.tuple PD), some (.bool K), x17, x18, x19, none, x21] (fun _ => rfl) (by simp)
  have hs : (asInts PD).map (fun ns => PyData.int ns.sum) = some (.int L) := e3
  have hn := ne_same K
  refine ⟨some (.tuple PD), some (.bool K), ?_⟩
  generalize lK K o = LK at *
  subst e7
  simp -implicitDefEqProofs only [l1__law_late, xVar_a, xC_a, xBin_a, xUn_a, tOf_a, tTru_a, tNotP_a, tAndP_a, tOrP_a, tyes_a, tno_a, tYesP_a, xNil_a, xCons_a, xTup_a, xLst_a, xAnd_a, xOr_a, xIf_a, xChain_a, oNo_a, oAt_a, xSl_a, xCall_a, xSeq_a, xIt_a, xLc_a, gSet_a, gTupD_a, gsNil_a, gsCons_a, sNop_a, sBrk_a, sCnt_a, sSeq_a, sRet_a, sIf_a, sSet_a, sTgt_a, sAug_a, sApp_a, sExt_a, sPut_a, sPutK_a, pkO_s, sFor_a, sWhile_a, sPar_a, runD_a, b2_s, c2_s, sqO_nx, sqO_rt, sqO_bk, sqO_ct, ifO_t, ifO_f, stO_s, endO_nx, endO_rt, andO_t, andO_f, orO_t, orO_f, chO_s, chP_t, chP_f, slO_s, atO_i, lcO_s, forO_s, gsO_s, nxO_s, tgO_s, paO_s, apO_s, exO_s, plO_s, ptO_s, dB_b, tru_b, tru_n, tru_i, tru_l, tru_t, is_n, isn_n, nn_n, nn_i, nn_b, nn_t, nn_l, add_ii, add'_ii, sub_ii, neg_i, lt_ii, le_ii, gt_ii, ge_ii, ix_l, ix_t, ix_s, at0, at1, at2, sl_l, sl_t, len_l, len_t, len_s, abs_i, int_i, int_b, max_ii, min_ii, tup_s, lst_s, seq_l, seq_t, sum_s, wipe_n, wipe_c, mul_ii, fdiv_ii, mod_ii, add_ll, add_tt, setAll, mkT, mkL, oNot, List.getD_cons_zero, List.getD_cons_succ, List.length_cons, List.length_nil, List.set_cons_zero, List.set_cons_succ, List.map_cons, List.map_nil, List.replicate, List.cons_append, List.nil_append, List.append_nil, Option.bind_some, Option.map_some, List.all_cons, List.all_nil, if_true, if_false, reduceIte, Nat.reduceAdd, Nat.reduceSub, Nat.reduceLT, Nat.reduceLeDiff, Nat.reduceEqDiff, decide_true, decide_false, Bool.and_true, Bool.and_self, Bool.true_and, Bool.not_true, Bool.not_false, ne_eq, not_true_eq_false, not_false_eq_true, Nat.zero_add, Bool.false_eq_true, and_self, true_and, and_true, e1, e2, hs, h2, e4, e5, e6, hb, eq_int, hn, e8, h3, r1, r2, h1]
end K13

namespace K13
open PySem PySem.Spec PyProof.Rows L2 Pm
open PySem.W (Datum Tup)
theorem late_core (n gl : Nat) (RW wd pd NR RTD CPD WL SL PPD PSD BPL W2L WPL RD TD ORL GD KSD : List D) (o o2 ND : D) (M T : Int) (K : Bool) (y6 y15 y16 : Option D)
    (hrng : oR1 [.int (n : Nat)] = some NR)
    (c1 : ∀ x1 x2 x3 x4 x5 x6 x7 x8 x9 x10 x11 x12 x13 x14 x15 x16 x17 x18 x20 x21, lcL (gSet 19) tYesP (xBin oAdd (xC (.int 1)) (xBin oMod (xCall bInt (xCons (xBin oIx (xVar 0) (xBin oAdd (xC (.int 35)) (xVar 19))) xNil)) (xC (.int 5)))) [some (.list RW), x1, x2, x3, x4, x5, x6, x7, x8, x9, x10, x11, x12, x13, x14, x15, x16, x17, x18, none, x20, x21] NR = some RTD)
    (c2 : ∀ x1 x2 x3 x4 x5 x6 x7 x8 x9 x10 x11 x12 x13 x14 x15 x16 x17 x18 x20 x21, lcL (gSet 19) tYesP (xBin oAdd (xC (.int 1)) (xBin oMod (xCall bInt (xCons (xBin oIx (xVar 0) (xBin oAdd (xC (.int 39)) (xVar 19))) xNil)) (xC (.int 30)))) [some (.list RW), x1, x2, x3, x4, x5, x6, x7, x8, x9, x10, x11, x12, x13, x14, x15, x16, x17, x18, none, x20, x21] NR = some CPD)
    (c3 : ∀ x0 x1 x6 x7 x8 x9 x10 x11 x12 x13 x14 x15 x16 x17 x18 x20 x21, lcL (gSet 19) tYesP (xTup (xCons (xBin oIx (xVar 2) (xVar 19)) (xCons (xBin oIx (xVar 3) (xVar 19)) (xCons (xBin oIx (xVar 4) (xVar 19)) (xCons (xBin oIx (xVar 5) (xVar 19)) xNil))))) [x0, x1, some (.list wd), some (.list pd), some (.list RTD), some (.list CPD), x6, x7, x8, x9, x10, x11, x12, x13, x14, x15, x16, x17, x18, none, x20, x21] NR = some WL)
    (c4 : ∀ x0 x1 x4 x5 x6 x7 x8 x9 x10 x11 x12 x13 x14 x15 x16 x17 x18 x20 x21, lcL (gSet 19) tYesP (xTup (xCons (xC (.int 0)) (xCons (xBin oIx (xVar 2) (xVar 19)) (xCons (xBin oIx (xVar 2) (xVar 19)) (xCons (xBin oIx (xVar 3) (xVar 19)) xNil))))) [x0, x1, some (.list wd), some (.list pd), x4, x5, x6, x7, x8, x9, x10, x11, x12, x13, x14, x15, x16, x17, x18, none, x20, x21] NR = some SL)
    (c5 : ∀ x0 x1 x2 x4 x5 x6 x7 x8 x9 x10 x11 x12 x13 x14 x15 x16 x17 x18 x20 x21, lcL (gSet 19) tYesP (xTup (xCons (xBin oIx (xVar 3) (xVar 19)) (xCons (xVar 19) xNil))) [x0, x1, x2, some (.list pd), x4, x5, x6, x7, x8, x9, x10, x11, x12, x13, x14, x15, x16, x17, x18, none, x20, x21] NR = some PPD)
    (b3 : ∀ x0 x1 x2 x3 x4 x5 x6 x7 x8 x9 x10 x11 x12 x13 x14 x15 x16 x17 x18 x20, lcL (gTupD 2 (gsCons (gSet 21) (gsCons (gSet 19) gsNil))) tYesP (xVar 19) [x0, x1, x2, x3, x4, x5, x6, x7, x8, x9, x10, x11, x12, x13, x14, x15, x16, x17, x18, none, x20, none] PSD = some BPL)
    (c6 : ∀ x0 x1 x4 x5 x6 x7 x8 x9 x10 x11 x12 x13 x14 x15 x16 x17 x18 x20 x21, lcL (gSet 19) tYesP (xTup (xCons (xBin oIx (xVar 2) (xVar 19)) (xCons (xBin oIx (xVar 3) (xVar 19)) xNil))) [x0, x1, some (.list wd), some (.list pd), x4, x5, x6, x7, x8, x9, x10, x11, x12, x13, x14, x15, x16, x17, x18, none, x20, x21] NR = some W2L)
    (c7 : ∀ x0 x1 x3 x4 x5 x6 x7 x8 x9 x10 x11 x12 x13 x14 x15 x16 x17 x18 x20 x21, lcL (gSet 19) tYesP (xTup (xCons (xBin oIx (xVar 2) (xVar 19)) (xCons (xC (.int 0)) (xCons (xC (.int 1)) (xCons (xC (.int 99)) xNil))))) [x0, x1, some (.list wd), x3, x4, x5, x6, x7, x8, x9, x10, x11, x12, x13, x14, x15, x16, x17, x18, none, x20, x21] NR = some WPL)
    (c8 : ∀ x0 x1 x2 x3 x4 x5 x6 x7 x8 x9 x10 x11 x12 x13 x14 x15 x16 x17 x20 x21, lcL (gSet 19) tYesP (xCall bSum (xCons (xSl (xVar 18) oNo (oAt (xBin oAdd (xVar 19) (xC (.int 1))))) xNil)) [x0, x1, x2, x3, x4, x5, x6, x7, x8, x9, x10, x11, x12, x13, x14, x15, x16, x17, some (.list RD), none, x20, x21] NR = some TD)
    (ho : d__law_orders [.int (n : Nat)] = some (.list ORL))
    (loop : forL (gSet 6) l1__law_late ORL [some (.list RW), some (.int (n : Nat)), some (.list wd), some (.list pd), some (.list RTD), some (.list CPD), none, none, none, none, some (.tuple WL), some (.list ORL), some (.list []), some (.tuple SL), some (.list []), none, none, none, none, none, none, none] = some (.nx [some (.list RW), some (.int (n : Nat)), some (.list wd), some (.list pd), some (.list RTD), some (.list CPD), y6, none, none, none, some (.tuple WL), some (.list ORL), some (.list GD), some (.tuple SL), some (.list KSD), y15, y16, none, none, none, none, none]))
    (m1 : d_least_paid [.tuple WL] = some (.tuple [.int M, o])) (m2 : flat (.tuple [.int M, o]) = true) (m3 : bMinD [.list KSD] = some (.tuple [.int M, o])) (m4 : d__law_like 8 [.tuple [.int M, o], .tuple [.int M, o]] = some (.bool true)) (m5 : decide (M = 0) = K)
    (hl : GD.length = gl) (hK : decide ((0 : Int) < (gl : Int)) = K) (h0 : K = true → atI GD 0 = some o)
    (s1 : d_sure_orders [.tuple SL] = some (.tuple GD)) (s2 : flat (.tuple GD) = true) (s3 : d__law_like 8 [.tuple GD, .tuple GD] = some (.bool true)) (s5 : oNe o o = some (.bool false))
    (b2 : bSorted [.list PPD] = some (.list PSD)) (b4 : d_keeps_surely [.tuple SL, .tuple BPL] = some (.bool K))
    (d1 : d__law_docks [.list wd, .list pd] = some ND) (d2 : d_docks_needed [.tuple W2L] = some ND) (d3 : d__law_like 8 [ND, ND] = some (.bool true)) (d4 : oEq ND (.int 1) = some (.bool K))
    (p1 : bSorted [.list wd] = some (.list RD)) (p2 : (asInts TD).map (fun ns => PyData.int ns.sum) = some (.int T)) (p3 : d_sums_least [.int 1, .tuple wd] = some (.int T)) (p4 : d_least_paid [.tuple WPL] = some (.tuple [.int (T - n), o2])) (p5 : flat (.tuple [.int (T - n), o2]) = true) :
    d__law_late [.list RW, .int (n : Nat), .list wd, .list pd] = some (.bool true) := by
  have hb := flat_bool
  have hn := ne_same
  have q1 := like_bool 7 K
  have q2 := like_int 7 T
  have q3 := like_int 7 (T - n)
  cases K with
  | true =>
    have h0' := h0 rfl
    simp -implicitDefEqProofs only [d__law_late, g__law_late, xVar_a, xC_a, xBin_a, xUn_a, tOf_a, tTru_a, tNotP_a, tAndP_a, tOrP_a, tyes_a, tno_a, tYesP_a, xNil_a, xCons_a, xTup_a, xLst_a, xAnd_a, xOr_a, xIf_a, xChain_a, oNo_a, oAt_a, xSl_a, xCall_a, xSeq_a, xIt_a, xLc_a, gSet_a, gTupD_a, gsNil_a, gsCons_a, sNop_a, sBrk_a, sCnt_a, sSeq_a, sRet_a, sIf_a, sSet_a, sTgt_a, sAug_a, sApp_a, sExt_a, sPut_a, sPutK_a, pkO_s, sFor_a, sWhile_a, sPar_a, runD_a, b2_s, c2_s, sqO_nx, sqO_rt, sqO_bk, sqO_ct, ifO_t, ifO_f, stO_s, endO_nx, endO_rt, andO_t, andO_f, orO_t, orO_f, chO_s, chP_t, chP_f, slO_s, atO_i, lcO_s, forO_s, gsO_s, nxO_s, tgO_s, paO_s, apO_s, exO_s, plO_s, ptO_s, dB_b, tru_b, tru_n, tru_i, tru_l, tru_t, is_n, isn_n, nn_n, nn_i, nn_b, nn_t, nn_l, add_ii, add'_ii, sub_ii, neg_i, lt_ii, le_ii, gt_ii, ge_ii, ix_l, ix_t, ix_s, at0, at1, at2, sl_l, sl_t, len_l, len_t, len_s, abs_i, int_i, int_b, max_ii, min_ii, tup_s, lst_s, seq_l, seq_t, sum_s, wipe_n, wipe_c, mul_ii, fdiv_ii, mod_ii, add_ll, add_tt, setAll, mkT, mkL, oNot, List.getD_cons_zero, List.getD_cons_succ, List.length_cons, List.length_nil, List.set_cons_zero, List.set_cons_succ, List.map_cons, List.map_nil, List.replicate, List.cons_append, List.nil_append, List.append_nil, Option.bind_some, Option.map_some, List.all_cons, List.all_nil, if_true, if_false, reduceIte, Nat.reduceAdd, Nat.reduceSub, Nat.reduceLT, Nat.reduceLeDiff, Nat.reduceEqDiff, decide_true, decide_false, Bool.and_true, Bool.and_self, Bool.true_and, Bool.not_true, Bool.not_false, ne_eq, not_true_eq_false, not_false_eq_true, Nat.zero_add, Bool.false_eq_true, and_self, true_and, and_true, hrng, c1, c2, c3, c4, c5, b3, c6, c7, c8, ho, loop, m1, m2, m3, m4, eq_int, m5, hl, hK, h0', s1, s2, s3, s5, b2, b4, d1, d2, d3, d4, p1, p2, p3, p4, p5, hb, hn, q1, q2, q3]
  | false =>
    simp -implicitDefEqProofs only [d__law_late, g__law_late, xVar_a, xC_a, xBin_a, xUn_a, tOf_a, tTru_a, tNotP_a, tAndP_a, tOrP_a, tyes_a, tno_a, tYesP_a, xNil_a, xCons_a, xTup_a, xLst_a, xAnd_a, xOr_a, xIf_a, xChain_a, oNo_a, oAt_a, xSl_a, xCall_a, xSeq_a, xIt_a, xLc_a, gSet_a, gTupD_a, gsNil_a, gsCons_a, sNop_a, sBrk_a, sCnt_a, sSeq_a, sRet_a, sIf_a, sSet_a, sTgt_a, sAug_a, sApp_a, sExt_a, sPut_a, sPutK_a, pkO_s, sFor_a, sWhile_a, sPar_a, runD_a, b2_s, c2_s, sqO_nx, sqO_rt, sqO_bk, sqO_ct, ifO_t, ifO_f, stO_s, endO_nx, endO_rt, andO_t, andO_f, orO_t, orO_f, chO_s, chP_t, chP_f, slO_s, atO_i, lcO_s, forO_s, gsO_s, nxO_s, tgO_s, paO_s, apO_s, exO_s, plO_s, ptO_s, dB_b, tru_b, tru_n, tru_i, tru_l, tru_t, is_n, isn_n, nn_n, nn_i, nn_b, nn_t, nn_l, add_ii, add'_ii, sub_ii, neg_i, lt_ii, le_ii, gt_ii, ge_ii, ix_l, ix_t, ix_s, at0, at1, at2, sl_l, sl_t, len_l, len_t, len_s, abs_i, int_i, int_b, max_ii, min_ii, tup_s, lst_s, seq_l, seq_t, sum_s, wipe_n, wipe_c, mul_ii, fdiv_ii, mod_ii, add_ll, add_tt, setAll, mkT, mkL, oNot, List.getD_cons_zero, List.getD_cons_succ, List.length_cons, List.length_nil, List.set_cons_zero, List.set_cons_succ, List.map_cons, List.map_nil, List.replicate, List.cons_append, List.nil_append, List.append_nil, Option.bind_some, Option.map_some, List.all_cons, List.all_nil, if_true, if_false, reduceIte, Nat.reduceAdd, Nat.reduceSub, Nat.reduceLT, Nat.reduceLeDiff, Nat.reduceEqDiff, decide_true, decide_false, Bool.and_true, Bool.and_self, Bool.true_and, Bool.not_true, Bool.not_false, ne_eq, not_true_eq_false, not_false_eq_true, Nat.zero_add, Bool.false_eq_true, and_self, true_and, and_true, hrng, c1, c2, c3, c4, c5, b3, c6, c7, c8, ho, loop, m1, m2, m3, m4, eq_int, m5, hl, hK, s1, s2, s3, s5, b2, b4, d1, d2, d3, d4, p1, p2, p3, p4, p5, hb, hn, q1, q2, q3]
end K13

namespace K13
open PySem PySem.Spec PyProof.Rows L2 Pm
open PySem.W (Datum Tup)
def rtk (r : List Int) (k : Nat) : Int := 1 + (r.getD (35 + k) 0).fmod 5
def cpk (r : List Int) (k : Nat) : Int := 1 + (r.getD (39 + k) 0).fmod 30
def Wk (r w p : List Int) (n : Nat) : List Ship := (List.range n).map fun k => (w.getD k 0, p.getD k 0, rtk r k, cpk r k)
def Sk (a w p : List Int) (n : Nat) : List Ship := (List.range n).map fun k => (0, a.getD k 0, w.getD k 0, p.getD k 0)
theorem dyW_Wk (r p : List Int) {w : List Int} {n : Nat} (hw : w.length = n) : dyW (Wk r w p n) = w := by
  rw [dyW, Wk, List.map_map]
  exact rng_get w hw
theorem prW_Wk (r w : List Int) {p : List Int} {n : Nat} (hp : p.length = n) : prW (Wk r w p n) = p := by
  rw [prW, Wk, List.map_map]
  exact rng_get p hp
theorem lo_Sk (w p : List Int) {a : List Int} {n : Nat} (ha : a.length = n) : lo1 (Sk a w p n) = a := by
  rw [lo1, Sk, List.map_map]
  exact rng_get a ha
theorem hi_Sk (a p : List Int) {w : List Int} {n : Nat} (hw : w.length = n) : hi2 (Sk a w p n) = w := by
  rw [hi2, Sk, List.map_map]
  exact rng_get w hw
theorem pr_Sk (a w : List Int) {p : List Int} {n : Nat} (hp : p.length = n) : prm (Sk a w p n) = p := by
  rw [prm, Sk, List.map_map]
  exact rng_get p hp
theorem okWk {r w p : List Int} {n : Nat} (hw : OkD n w) : OkW n (Wk r w p n) := by
  refine ⟨by simp [Wk], fun q hq => ?_, fun q hq => ?_, fun q hq => ?_⟩
  · obtain ⟨k, _, rfl⟩ := List.mem_map.mp hq
    exact hw.nn k
  · obtain ⟨k, _, rfl⟩ := List.mem_map.mp hq
    have := fmod_rng (r.getD (35 + k) 0) (m := 5) (by decide)
    show 1 ≤ rtk r k ∧ rtk r k ≤ 1000
    unfold rtk
    omega
  · obtain ⟨k, _, rfl⟩ := List.mem_map.mp hq
    have := fmod_rng (r.getD (39 + k) 0) (m := 30) (by decide)
    show 1 ≤ cpk r k
    unfold cpk
    omega
theorem okSk {a w p : List Int} {n : Nat} (ha : ∀ k, 0 ≤ a.getD k 0) (hw : ∀ k, 0 ≤ w.getD k 0) : OkS n (Sk a w p n) := by
  refine ⟨by simp [Sk], fun q hq => ?_, fun q hq => ?_, fun q hq => ?_⟩
  · obtain ⟨k, _, rfl⟩ := List.mem_map.mp hq
    rfl
  · obtain ⟨k, _, rfl⟩ := List.mem_map.mp hq
    exact ha k
  · obtain ⟨k, _, rfl⟩ := List.mem_map.mp hq
    exact hw k
theorem like_oIN (k : Nat) (o : Option Nat) : d__law_like (k + 1) [oIN o, oIN o] = some (.bool true) := by
  cases o with
  | none => exact like_none k
  | some c => exact like_int k _
theorem like_ods (k : Nat) (l : List (List Nat)) (hl : l.length ≤ 1000) (h : ∀ o ∈ l, o.length ≤ 1000) : d__law_like (k + 3) [.tuple (l.map oD), .tuple (l.map oD)] = some (.bool true) :=
  like_tup _ _ (by simp; omega) fun x hx => by
    obtain ⟨o, ho, rfl⟩ := List.mem_map.mp hx
    exact like_oD k o (h o ho)
theorem late_loop {r w p : List Int} {n : Nat} (h1 : 1 ≤ n) (h4 : n ≤ 4) (hw : OkD n w) (hp : p.length = n) (x0 x1 x4 x5 x11 : Option D) :
    ∃ y6 y15 y16, forL (gSet 6) l1__law_late ((ORD n).map oD) [x0, x1, some (.list (w.map PyData.int)), some (.list (p.map PyData.int)), x4, x5, none, none, none, none, some (.tuple ((Wk r w p n).map shD)), x11, some (.list []), some (.tuple ((Sk w w p n).map shD)), some (.list []), none, none, none, none, none, none, none] =
      some (.nx [x0, x1, some (.list (w.map PyData.int)), some (.list (p.map PyData.int)), x4, x5, y6, none, none, none, some (.tuple ((Wk r w p n).map shD)), x11, some (.list ((good w p n).map oD)), some (.tuple ((Sk w w p n).map shD)), some (.list ((ORD n).map (kyD (Wk r w p n) n))), y15, y16, none, none, none, none, none]) := by
  have hW := okWk (r := r) (p := p) hw
  have hS := okSk (p := p) (n := n) hw.nn hw.nn
  obtain ⟨ρ', e, h⟩ := forL_inv (g := gSet 6) (b := l1__law_late) oD
    (fun pre rest ρ => pre ++ rest = ORD n ∧ ∃ y6 y15 y16, ρ = [x0, x1, some (.list (w.map PyData.int)), some (.list (p.map PyData.int)), x4, x5, y6, none, none, none, some (.tuple ((Wk r w p n).map shD)), x11, some (.list ((pre.filter (kp w p 0)).map oD)), some (.tuple ((Sk w w p n).map shD)), some (.list (pre.map (kyD (Wk r w p n) n))), y15, y16, none, none, none, none, none]) (fun pre o rest ρ ⟨hq, y6, y15, y16, e⟩ => by
      subst e
      have ho : o ∈ ORD n := by rw [← hq]; simp
      have hpo := or_p h1 h4 o ho
      have hlen : pre.length ≤ 24 := by
        have h2 := (or_l h1 h4).1
        rw [← hq, List.length_append] at h2
        omega
      have z := sPO_zero hW hpo
      rw [dyW_Wk r p hw.len, prW_Wk r w hp] at z
      have e8 := keeps_surely_eq hS (by omega) hpo
      rw [hi_Sk w p hw.len, pr_Sk w w hp] at e8
      obtain ⟨z15, z16, st⟩ := late_step x0 x1 x4 x5 none none none x11 y15 y16 none none none none none (w.map PyData.int) (p.map PyData.int) ((PO (Wk r w p n) o n).map PyData.int) ((pre.filter (kp w p 0)).map oD) (pre.map (kyD (Wk r w p n) n)) (oD o) (.tuple ((Wk r w p n).map shD)) (.tuple ((Sk w w p n).map shD)) (sPO (Wk r w p n) o n) (kp w p 0 o)
        (by have := List.length_filter_le (kp w p 0) pre; rw [List.length_map]; omega) (by rw [List.length_map]; omega)
        (law_owed_eq hW (by omega) hpo) (flat_ints _) (sum_t _) (law_kept_eq true w p o n hw.len hp (by omega) hpo) (late_pay_eq hW (by omega) hpo) (like_ints 6 _ (by simp [PO]; omega)) (by
          rw [Bool.eq_iff_iff, decide_eq_true_iff]
          exact z.2) e8
      have f1 : (pre.filter (kp w p 0)).map oD ++ lK (kp w p 0 o) (oD o) = ((pre ++ [o]).filter (kp w p 0)).map oD := by
        rw [List.filter_append, List.map_append]
        unfold lK
        cases hk : kp w p 0 o with
        | true => simp [hk]
        | false => simp [hk]
      have f2 : pre.map (kyD (Wk r w p n) n) ++ [.tuple [.int (sPO (Wk r w p n) o n), oD o]] = (pre ++ [o]).map (kyD (Wk r w p n) n) := by
        rw [List.map_append]
        rfl
      rw [f1, f2] at st
      exact ⟨_, _, rfl, .inl st, by rw [List.append_assoc]; exact hq, some (oD o), z15, z16, rfl⟩) (ORD n) [] [x0, x1, some (.list (w.map PyData.int)), some (.list (p.map PyData.int)), x4, x5, none, none, none, none, some (.tuple ((Wk r w p n).map shD)), x11, some (.list []), some (.tuple ((Sk w w p n).map shD)), some (.list []), none, none, none, none, none, none, none] ⟨rfl, none, none, none, rfl⟩
  obtain ⟨_, y6, y15, y16, e'⟩ := h
  subst e'
  exact ⟨y6, y15, y16, e⟩
end K13

namespace K13
open PySem PySem.Spec PyProof.Rows L2 Pm
open PySem.W (Datum Tup)
theorem wk_map (r w p : List Int) (n : Nat) : ((List.range n).map fun k => PyData.tuple [.int (w.getD k 0), .int (p.getD k 0), .int (rtk r k), .int (cpk r k)]) = (Wk r w p n).map shD := by
  rw [Wk, List.map_map]
  rfl
theorem sk_map (a w p : List Int) (n : Nat) : ((List.range n).map fun k => PyData.tuple [.int 0, .int (a.getD k 0), .int (w.getD k 0), .int (p.getD k 0)]) = (Sk a w p n).map shD := by
  rw [Sk, List.map_map]
  rfl
theorem wp_map (w : List Int) (n : Nat) : ((List.range n).map fun k => PyData.tuple [.int (w.getD k 0), .int 0, .int 1, .int 99]) = (WP w n).map shD := by
  rw [WP, List.map_map]
  rfl
theorem row_off (r : List Int) (a k : Nat) (h : a + k < r.length) : atI (r.map PyData.int) ((a : Int) + (k : Int)) = some (.int (r.getD (a + k) 0)) := by
  have := row_at r (a + k) h
  rw [show ((a + k : Nat) : Int) = (a : Int) + (k : Int) by omega] at this
  exact this
theorem flat_pr (i : Int) (o : List Nat) : flat (.tuple [.int i, oD o]) = true := by
  rw [flat, flatL, flatL, flatL, flat_oD]
  rfl
theorem law_late_ok (r w p : List Int) {n : Nat} (hr : r.length = 44) (h1 : 1 ≤ n) (h4 : n ≤ 4) (hw : OkD n w) (hp : p.length = n) :
    d__law_late [.list (r.map PyData.int), .int (n : Nat), .list (w.map PyData.int), .list (p.map PyData.int)] = some (.bool true) := by
  have hW := okWk (r := r) (p := p) hw
  have hS := okSk (p := p) (n := n) hw.nn hw.nn
  obtain ⟨R, rp, rs, rb⟩ := sorted_ints w (by rw [hw.len]; omega)
  obtain ⟨y6, y15, y16, loop⟩ := late_loop (r := r) h1 h4 hw hp (some (.list (r.map PyData.int))) (some (.int (n : Nat))) (some (.list ((List.range n).map fun k => PyData.int (rtk r k)))) (some (.list ((List.range n).map fun k => PyData.int (cpk r k)))) (some (.list ((ORD n).map oD)))
  obtain ⟨o, ho, l1, l2, l3⟩ := least_ky hW h1 h4
  rw [dyW_Wk r p hw.len, prW_Wk r w hp] at l2 l3
  obtain ⟨o2, ho2, l4⟩ := plain_least hw h1 h4 rp rs
  obtain ⟨s1, s2, s3⟩ := srt_spec p (List.range n) (by simp; omega)
  have hso := sure_orders_eq hS h1 h4
  rw [hi_Sk w p hw.len, pr_Sk w w hp] at hso
  have hks := keeps_surely_eq hS (by omega) s1
  rw [hi_Sk w p hw.len, pr_Sk w w hp, good_ne p hw.nn h1 h4] at hks
  have hnd := law_docks_eq w p h1 h4 hw.len hp
  rw [ndd_law w p h1] at hnd
  have hn1 := ndd1 p hw.nn h1 h4
  have hRl : R.length = n := by rw [rp.length_eq, hw.len]
  have hgl : ((good w p n).map oD).length = (good w p n).length := List.length_map ..
  have hK : decide ((0 : Int) < ((good w p n).length : Int)) = decide ((good w p n).length > 0) := by
    congr 1
    simp
  have n5 : (5 : Int) ≠ 0 := by decide
  have n30 : (30 : Int) ≠ 0 := by decide
  have hcsv := total_csv R 0
  rw [hRl] at hcsv
  have oR : oD o = oD o := rfl
  refine late_core n (good w p n).length (r.map PyData.int) (w.map PyData.int) (p.map PyData.int) ((List.range n).map fun k : Nat => PyData.int (k : Nat)) ((List.range n).map fun k => PyData.int (rtk r k)) ((List.range n).map fun k => PyData.int (cpk r k)) ((Wk r w p n).map shD) ((Sk w w p n).map shD) ((List.range n).map (pD p)) ((srt p (List.range n)).map (pD p)) ((srt p (List.range n)).map fun j : Nat => PyData.int (j : Nat)) ((List.range n).map (w2 w p)) ((WP w n).map shD) (R.map PyData.int) ((List.range n).map fun k => PyData.int (0 + (R.take (k + 1)).sum)) ((ORD n).map oD) ((good w p n).map oD) ((ORD n).map (kyD (Wk r w p n) n)) (oD o) (oD o2) (oIN (ndd w p n)) (sPO (Wk r w p n) o n) (csv 0 R) (decide ((good w p n).length > 0)) y6 y15 y16
    (rg0 n (by omega)) ?c1 ?c2 ?c3 ?c4 ?c5 ?b3 ?c6 ?c7 ?c8 (or_b h1 h4) loop ?m1 (flat_kyD _ _ _) l1 (like_kyD 5 _ _ _ (by rw [pr_len (or_p h1 h4 o ho)]; omega)) ?m5 hgl hK ?h0 hso (flat_tm _ _ fun o _ => flat_oD o) (like_ods 5 _ (by have := good_len w p h1 h4; omega) fun o ho => by rw [pr_len (or_p h1 h4 o (good_mem.mp ho).1)]; omega) (ne_oD o) s3 hks hnd (docks_needed_eq w p h1 h4) (like_oIN 7 _) ?d4 (rb true) ?p2 (sums_least_eq w R (by omega) (rb false)) l4 (flat_pr _ o2)
  case c1 =>
    intros
    refine lcL_map _ _ _ fun k hk => ?_
    have hk' := List.mem_range.mp hk
    have i1 : atI (r.map PyData.int) (35 + (k : Int)) = some (.int (r.getD (35 + k) 0)) := row_off r 35 k (by omega)
    generalize r.map PyData.int = RD at *
    simp -implicitDefEqProofs only [xVar_a, xC_a, xBin_a, xUn_a, tOf_a, tTru_a, tNotP_a, tAndP_a, tOrP_a, tyes_a, tno_a, tYesP_a, xNil_a, xCons_a, xTup_a, xLst_a, xAnd_a, xOr_a, xIf_a, xChain_a, oNo_a, oAt_a, xSl_a, xCall_a, xSeq_a, xIt_a, xLc_a, gSet_a, gTupD_a, gsNil_a, gsCons_a, sNop_a, sBrk_a, sCnt_a, sSeq_a, sRet_a, sIf_a, sSet_a, sTgt_a, sAug_a, sApp_a, sExt_a, sPut_a, sPutK_a, pkO_s, sFor_a, sWhile_a, sPar_a, runD_a, b2_s, c2_s, sqO_nx, sqO_rt, sqO_bk, sqO_ct, ifO_t, ifO_f, stO_s, endO_nx, endO_rt, andO_t, andO_f, orO_t, orO_f, chO_s, chP_t, chP_f, slO_s, atO_i, lcO_s, forO_s, gsO_s, nxO_s, tgO_s, paO_s, apO_s, exO_s, plO_s, ptO_s, dB_b, tru_b, tru_n, tru_i, tru_l, tru_t, is_n, isn_n, nn_n, nn_i, nn_b, nn_t, nn_l, add_ii, add'_ii, sub_ii, neg_i, lt_ii, le_ii, gt_ii, ge_ii, ix_l, ix_t, ix_s, at0, at1, at2, sl_l, sl_t, len_l, len_t, len_s, abs_i, int_i, int_b, max_ii, min_ii, tup_s, lst_s, seq_l, seq_t, sum_s, wipe_n, wipe_c, mul_ii, fdiv_ii, mod_ii, add_ll, add_tt, setAll, mkT, mkL, oNot, List.getD_cons_zero, List.getD_cons_succ, List.length_cons, List.length_nil, List.set_cons_zero, List.set_cons_succ, List.map_cons, List.map_nil, List.replicate, List.cons_append, List.nil_append, List.append_nil, Option.bind_some, Option.map_some, List.all_cons, List.all_nil, if_true, if_false, reduceIte, Nat.reduceAdd, Nat.reduceSub, Nat.reduceLT, Nat.reduceLeDiff, Nat.reduceEqDiff, decide_true, decide_false, Bool.and_true, Bool.and_self, Bool.true_and, Bool.not_true, Bool.not_false, ne_eq, not_true_eq_false, not_false_eq_true, Nat.zero_add, Bool.false_eq_true, and_self, true_and, and_true, i1, mod_ii n5, rtk]
  case c2 =>
    intros
    refine lcL_map _ _ _ fun k hk => ?_
    have hk' := List.mem_range.mp hk
    have i1 : atI (r.map PyData.int) (39 + (k : Int)) = some (.int (r.getD (39 + k) 0)) := row_off r 39 k (by omega)
    generalize r.map PyData.int = RD at *
    simp -implicitDefEqProofs only [xVar_a, xC_a, xBin_a, xUn_a, tOf_a, tTru_a, tNotP_a, tAndP_a, tOrP_a, tyes_a, tno_a, tYesP_a, xNil_a, xCons_a, xTup_a, xLst_a, xAnd_a, xOr_a, xIf_a, xChain_a, oNo_a, oAt_a, xSl_a, xCall_a, xSeq_a, xIt_a, xLc_a, gSet_a, gTupD_a, gsNil_a, gsCons_a, sNop_a, sBrk_a, sCnt_a, sSeq_a, sRet_a, sIf_a, sSet_a, sTgt_a, sAug_a, sApp_a, sExt_a, sPut_a, sPutK_a, pkO_s, sFor_a, sWhile_a, sPar_a, runD_a, b2_s, c2_s, sqO_nx, sqO_rt, sqO_bk, sqO_ct, ifO_t, ifO_f, stO_s, endO_nx, endO_rt, andO_t, andO_f, orO_t, orO_f, chO_s, chP_t, chP_f, slO_s, atO_i, lcO_s, forO_s, gsO_s, nxO_s, tgO_s, paO_s, apO_s, exO_s, plO_s, ptO_s, dB_b, tru_b, tru_n, tru_i, tru_l, tru_t, is_n, isn_n, nn_n, nn_i, nn_b, nn_t, nn_l, add_ii, add'_ii, sub_ii, neg_i, lt_ii, le_ii, gt_ii, ge_ii, ix_l, ix_t, ix_s, at0, at1, at2, sl_l, sl_t, len_l, len_t, len_s, abs_i, int_i, int_b, max_ii, min_ii, tup_s, lst_s, seq_l, seq_t, sum_s, wipe_n, wipe_c, mul_ii, fdiv_ii, mod_ii, add_ll, add_tt, setAll, mkT, mkL, oNot, List.getD_cons_zero, List.getD_cons_succ, List.length_cons, List.length_nil, List.set_cons_zero, List.set_cons_succ, List.map_cons, List.map_nil, List.replicate, List.cons_append, List.nil_append, List.append_nil, Option.bind_some, Option.map_some, List.all_cons, List.all_nil, if_true, if_false, reduceIte, Nat.reduceAdd, Nat.reduceSub, Nat.reduceLT, Nat.reduceLeDiff, Nat.reduceEqDiff, decide_true, decide_false, Bool.and_true, Bool.and_self, Bool.true_and, Bool.not_true, Bool.not_false, ne_eq, not_true_eq_false, not_false_eq_true, Nat.zero_add, Bool.false_eq_true, and_self, true_and, and_true, i1, mod_ii n30, cpk]
  case c3 =>
    intros
    rw [← wk_map]
    refine lcL_map _ _ _ fun k hk => ?_
    have hk' := List.mem_range.mp hk
    have i1 := at_map PyData.int w 0 k (by rw [hw.len]; omega)
    have i2 := at_map PyData.int p 0 k (by omega)
    have i3 : atI ((List.range n).map fun k => PyData.int (rtk r k)) (k : Int) = some (.int (rtk r k)) := by
      rw [at_map (fun k => PyData.int (rtk r k)) (List.range n) 0 k (by simpa using hk')]
      simp [hk']
    have i4 : atI ((List.range n).map fun k => PyData.int (cpk r k)) (k : Int) = some (.int (cpk r k)) := by
      rw [at_map (fun k => PyData.int (cpk r k)) (List.range n) 0 k (by simpa using hk')]
      simp [hk']
    generalize ((List.range n).map fun k => PyData.int (rtk r k)) = A at *
    generalize ((List.range n).map fun k => PyData.int (cpk r k)) = B at *
    generalize w.map PyData.int = WD at *
    generalize p.map PyData.int = PD at *
    simp -implicitDefEqProofs only [xVar_a, xC_a, xBin_a, xUn_a, tOf_a, tTru_a, tNotP_a, tAndP_a, tOrP_a, tyes_a, tno_a, tYesP_a, xNil_a, xCons_a, xTup_a, xLst_a, xAnd_a, xOr_a, xIf_a, xChain_a, oNo_a, oAt_a, xSl_a, xCall_a, xSeq_a, xIt_a, xLc_a, gSet_a, gTupD_a, gsNil_a, gsCons_a, sNop_a, sBrk_a, sCnt_a, sSeq_a, sRet_a, sIf_a, sSet_a, sTgt_a, sAug_a, sApp_a, sExt_a, sPut_a, sPutK_a, pkO_s, sFor_a, sWhile_a, sPar_a, runD_a, b2_s, c2_s, sqO_nx, sqO_rt, sqO_bk, sqO_ct, ifO_t, ifO_f, stO_s, endO_nx, endO_rt, andO_t, andO_f, orO_t, orO_f, chO_s, chP_t, chP_f, slO_s, atO_i, lcO_s, forO_s, gsO_s, nxO_s, tgO_s, paO_s, apO_s, exO_s, plO_s, ptO_s, dB_b, tru_b, tru_n, tru_i, tru_l, tru_t, is_n, isn_n, nn_n, nn_i, nn_b, nn_t, nn_l, add_ii, add'_ii, sub_ii, neg_i, lt_ii, le_ii, gt_ii, ge_ii, ix_l, ix_t, ix_s, at0, at1, at2, sl_l, sl_t, len_l, len_t, len_s, abs_i, int_i, int_b, max_ii, min_ii, tup_s, lst_s, seq_l, seq_t, sum_s, wipe_n, wipe_c, mul_ii, fdiv_ii, mod_ii, add_ll, add_tt, setAll, mkT, mkL, oNot, List.getD_cons_zero, List.getD_cons_succ, List.length_cons, List.length_nil, List.set_cons_zero, List.set_cons_succ, List.map_cons, List.map_nil, List.replicate, List.cons_append, List.nil_append, List.append_nil, Option.bind_some, Option.map_some, List.all_cons, List.all_nil, if_true, if_false, reduceIte, Nat.reduceAdd, Nat.reduceSub, Nat.reduceLT, Nat.reduceLeDiff, Nat.reduceEqDiff, decide_true, decide_false, Bool.and_true, Bool.and_self, Bool.true_and, Bool.not_true, Bool.not_false, ne_eq, not_true_eq_false, not_false_eq_true, Nat.zero_add, Bool.false_eq_true, and_self, true_and, and_true, i1, i2, i3, i4]
  case c4 =>
    intros
    rw [← sk_map]
    refine lcL_map _ _ _ fun k hk => ?_
    have hk' := List.mem_range.mp hk
    have i1 := at_map PyData.int w 0 k (by rw [hw.len]; omega)
    have i2 := at_map PyData.int p 0 k (by omega)
    generalize w.map PyData.int = WD at *
    generalize p.map PyData.int = PD at *
    simp -implicitDefEqProofs only [xVar_a, xC_a, xBin_a, xUn_a, tOf_a, tTru_a, tNotP_a, tAndP_a, tOrP_a, tyes_a, tno_a, tYesP_a, xNil_a, xCons_a, xTup_a, xLst_a, xAnd_a, xOr_a, xIf_a, xChain_a, oNo_a, oAt_a, xSl_a, xCall_a, xSeq_a, xIt_a, xLc_a, gSet_a, gTupD_a, gsNil_a, gsCons_a, sNop_a, sBrk_a, sCnt_a, sSeq_a, sRet_a, sIf_a, sSet_a, sTgt_a, sAug_a, sApp_a, sExt_a, sPut_a, sPutK_a, pkO_s, sFor_a, sWhile_a, sPar_a, runD_a, b2_s, c2_s, sqO_nx, sqO_rt, sqO_bk, sqO_ct, ifO_t, ifO_f, stO_s, endO_nx, endO_rt, andO_t, andO_f, orO_t, orO_f, chO_s, chP_t, chP_f, slO_s, atO_i, lcO_s, forO_s, gsO_s, nxO_s, tgO_s, paO_s, apO_s, exO_s, plO_s, ptO_s, dB_b, tru_b, tru_n, tru_i, tru_l, tru_t, is_n, isn_n, nn_n, nn_i, nn_b, nn_t, nn_l, add_ii, add'_ii, sub_ii, neg_i, lt_ii, le_ii, gt_ii, ge_ii, ix_l, ix_t, ix_s, at0, at1, at2, sl_l, sl_t, len_l, len_t, len_s, abs_i, int_i, int_b, max_ii, min_ii, tup_s, lst_s, seq_l, seq_t, sum_s, wipe_n, wipe_c, mul_ii, fdiv_ii, mod_ii, add_ll, add_tt, setAll, mkT, mkL, oNot, List.getD_cons_zero, List.getD_cons_succ, List.length_cons, List.length_nil, List.set_cons_zero, List.set_cons_succ, List.map_cons, List.map_nil, List.replicate, List.cons_append, List.nil_append, List.append_nil, Option.bind_some, Option.map_some, List.all_cons, List.all_nil, if_true, if_false, reduceIte, Nat.reduceAdd, Nat.reduceSub, Nat.reduceLT, Nat.reduceLeDiff, Nat.reduceEqDiff, decide_true, decide_false, Bool.and_true, Bool.and_self, Bool.true_and, Bool.not_true, Bool.not_false, ne_eq, not_true_eq_false, not_false_eq_true, Nat.zero_add, Bool.false_eq_true, and_self, true_and, and_true, i1, i2]
  case c5 =>
    intros
    refine lcL_map _ _ _ fun k hk => ?_
    have hk' := List.mem_range.mp hk
    have i2 := at_map PyData.int p 0 k (by omega)
    generalize p.map PyData.int = PD at *
    simp -implicitDefEqProofs only [xVar_a, xC_a, xBin_a, xUn_a, tOf_a, tTru_a, tNotP_a, tAndP_a, tOrP_a, tyes_a, tno_a, tYesP_a, xNil_a, xCons_a, xTup_a, xLst_a, xAnd_a, xOr_a, xIf_a, xChain_a, oNo_a, oAt_a, xSl_a, xCall_a, xSeq_a, xIt_a, xLc_a, gSet_a, gTupD_a, gsNil_a, gsCons_a, sNop_a, sBrk_a, sCnt_a, sSeq_a, sRet_a, sIf_a, sSet_a, sTgt_a, sAug_a, sApp_a, sExt_a, sPut_a, sPutK_a, pkO_s, sFor_a, sWhile_a, sPar_a, runD_a, b2_s, c2_s, sqO_nx, sqO_rt, sqO_bk, sqO_ct, ifO_t, ifO_f, stO_s, endO_nx, endO_rt, andO_t, andO_f, orO_t, orO_f, chO_s, chP_t, chP_f, slO_s, atO_i, lcO_s, forO_s, gsO_s, nxO_s, tgO_s, paO_s, apO_s, exO_s, plO_s, ptO_s, dB_b, tru_b, tru_n, tru_i, tru_l, tru_t, is_n, isn_n, nn_n, nn_i, nn_b, nn_t, nn_l, add_ii, add'_ii, sub_ii, neg_i, lt_ii, le_ii, gt_ii, ge_ii, ix_l, ix_t, ix_s, at0, at1, at2, sl_l, sl_t, len_l, len_t, len_s, abs_i, int_i, int_b, max_ii, min_ii, tup_s, lst_s, seq_l, seq_t, sum_s, wipe_n, wipe_c, mul_ii, fdiv_ii, mod_ii, add_ll, add_tt, setAll, mkT, mkL, oNot, List.getD_cons_zero, List.getD_cons_succ, List.length_cons, List.length_nil, List.set_cons_zero, List.set_cons_succ, List.map_cons, List.map_nil, List.replicate, List.cons_append, List.nil_append, List.append_nil, Option.bind_some, Option.map_some, List.all_cons, List.all_nil, if_true, if_false, reduceIte, Nat.reduceAdd, Nat.reduceSub, Nat.reduceLT, Nat.reduceLeDiff, Nat.reduceEqDiff, decide_true, decide_false, Bool.and_true, Bool.and_self, Bool.true_and, Bool.not_true, Bool.not_false, ne_eq, not_true_eq_false, not_false_eq_true, Nat.zero_add, Bool.false_eq_true, and_self, true_and, and_true, i2, pD]
  case b3 =>
    intros
    refine lcL_map _ _ _ fun k hk => ?_
    simp -implicitDefEqProofs only [xVar_a, xC_a, xBin_a, xUn_a, tOf_a, tTru_a, tNotP_a, tAndP_a, tOrP_a, tyes_a, tno_a, tYesP_a, xNil_a, xCons_a, xTup_a, xLst_a, xAnd_a, xOr_a, xIf_a, xChain_a, oNo_a, oAt_a, xSl_a, xCall_a, xSeq_a, xIt_a, xLc_a, gSet_a, gTupD_a, gsNil_a, gsCons_a, sNop_a, sBrk_a, sCnt_a, sSeq_a, sRet_a, sIf_a, sSet_a, sTgt_a, sAug_a, sApp_a, sExt_a, sPut_a, sPutK_a, pkO_s, sFor_a, sWhile_a, sPar_a, runD_a, b2_s, c2_s, sqO_nx, sqO_rt, sqO_bk, sqO_ct, ifO_t, ifO_f, stO_s, endO_nx, endO_rt, andO_t, andO_f, orO_t, orO_f, chO_s, chP_t, chP_f, slO_s, atO_i, lcO_s, forO_s, gsO_s, nxO_s, tgO_s, paO_s, apO_s, exO_s, plO_s, ptO_s, dB_b, tru_b, tru_n, tru_i, tru_l, tru_t, is_n, isn_n, nn_n, nn_i, nn_b, nn_t, nn_l, add_ii, add'_ii, sub_ii, neg_i, lt_ii, le_ii, gt_ii, ge_ii, ix_l, ix_t, ix_s, at0, at1, at2, sl_l, sl_t, len_l, len_t, len_s, abs_i, int_i, int_b, max_ii, min_ii, tup_s, lst_s, seq_l, seq_t, sum_s, wipe_n, wipe_c, mul_ii, fdiv_ii, mod_ii, add_ll, add_tt, setAll, mkT, mkL, oNot, List.getD_cons_zero, List.getD_cons_succ, List.length_cons, List.length_nil, List.set_cons_zero, List.set_cons_succ, List.map_cons, List.map_nil, List.replicate, List.cons_append, List.nil_append, List.append_nil, Option.bind_some, Option.map_some, List.all_cons, List.all_nil, if_true, if_false, reduceIte, Nat.reduceAdd, Nat.reduceSub, Nat.reduceLT, Nat.reduceLeDiff, Nat.reduceEqDiff, decide_true, decide_false, Bool.and_true, Bool.and_self, Bool.true_and, Bool.not_true, Bool.not_false, ne_eq, not_true_eq_false, not_false_eq_true, Nat.zero_add, Bool.false_eq_true, and_self, true_and, and_true, pD]
  case c6 =>
    intros
    refine lcL_map _ _ _ fun k hk => ?_
    have hk' := List.mem_range.mp hk
    have i1 := at_map PyData.int w 0 k (by rw [hw.len]; omega)
    have i2 := at_map PyData.int p 0 k (by omega)
    generalize w.map PyData.int = WD at *
    generalize p.map PyData.int = PD at *
    simp -implicitDefEqProofs only [xVar_a, xC_a, xBin_a, xUn_a, tOf_a, tTru_a, tNotP_a, tAndP_a, tOrP_a, tyes_a, tno_a, tYesP_a, xNil_a, xCons_a, xTup_a, xLst_a, xAnd_a, xOr_a, xIf_a, xChain_a, oNo_a, oAt_a, xSl_a, xCall_a, xSeq_a, xIt_a, xLc_a, gSet_a, gTupD_a, gsNil_a, gsCons_a, sNop_a, sBrk_a, sCnt_a, sSeq_a, sRet_a, sIf_a, sSet_a, sTgt_a, sAug_a, sApp_a, sExt_a, sPut_a, sPutK_a, pkO_s, sFor_a, sWhile_a, sPar_a, runD_a, b2_s, c2_s, sqO_nx, sqO_rt, sqO_bk, sqO_ct, ifO_t, ifO_f, stO_s, endO_nx, endO_rt, andO_t, andO_f, orO_t, orO_f, chO_s, chP_t, chP_f, slO_s, atO_i, lcO_s, forO_s, gsO_s, nxO_s, tgO_s, paO_s, apO_s, exO_s, plO_s, ptO_s, dB_b, tru_b, tru_n, tru_i, tru_l, tru_t, is_n, isn_n, nn_n, nn_i, nn_b, nn_t, nn_l, add_ii, add'_ii, sub_ii, neg_i, lt_ii, le_ii, gt_ii, ge_ii, ix_l, ix_t, ix_s, at0, at1, at2, sl_l, sl_t, len_l, len_t, len_s, abs_i, int_i, int_b, max_ii, min_ii, tup_s, lst_s, seq_l, seq_t, sum_s, wipe_n, wipe_c, mul_ii, fdiv_ii, mod_ii, add_ll, add_tt, setAll, mkT, mkL, oNot, List.getD_cons_zero, List.getD_cons_succ, List.length_cons, List.length_nil, List.set_cons_zero, List.set_cons_succ, List.map_cons, List.map_nil, List.replicate, List.cons_append, List.nil_append, List.append_nil, Option.bind_some, Option.map_some, List.all_cons, List.all_nil, if_true, if_false, reduceIte, Nat.reduceAdd, Nat.reduceSub, Nat.reduceLT, Nat.reduceLeDiff, Nat.reduceEqDiff, decide_true, decide_false, Bool.and_true, Bool.and_self, Bool.true_and, Bool.not_true, Bool.not_false, ne_eq, not_true_eq_false, not_false_eq_true, Nat.zero_add, Bool.false_eq_true, and_self, true_and, and_true, i1, i2, w2]
  case c7 =>
    intros
    rw [← wp_map]
    refine lcL_map _ _ _ fun k hk => ?_
    have hk' := List.mem_range.mp hk
    have i1 := at_map PyData.int w 0 k (by rw [hw.len]; omega)
    generalize w.map PyData.int = WD at *
    simp -implicitDefEqProofs only [xVar_a, xC_a, xBin_a, xUn_a, tOf_a, tTru_a, tNotP_a, tAndP_a, tOrP_a, tyes_a, tno_a, tYesP_a, xNil_a, xCons_a, xTup_a, xLst_a, xAnd_a, xOr_a, xIf_a, xChain_a, oNo_a, oAt_a, xSl_a, xCall_a, xSeq_a, xIt_a, xLc_a, gSet_a, gTupD_a, gsNil_a, gsCons_a, sNop_a, sBrk_a, sCnt_a, sSeq_a, sRet_a, sIf_a, sSet_a, sTgt_a, sAug_a, sApp_a, sExt_a, sPut_a, sPutK_a, pkO_s, sFor_a, sWhile_a, sPar_a, runD_a, b2_s, c2_s, sqO_nx, sqO_rt, sqO_bk, sqO_ct, ifO_t, ifO_f, stO_s, endO_nx, endO_rt, andO_t, andO_f, orO_t, orO_f, chO_s, chP_t, chP_f, slO_s, atO_i, lcO_s, forO_s, gsO_s, nxO_s, tgO_s, paO_s, apO_s, exO_s, plO_s, ptO_s, dB_b, tru_b, tru_n, tru_i, tru_l, tru_t, is_n, isn_n, nn_n, nn_i, nn_b, nn_t, nn_l, add_ii, add'_ii, sub_ii, neg_i, lt_ii, le_ii, gt_ii, ge_ii, ix_l, ix_t, ix_s, at0, at1, at2, sl_l, sl_t, len_l, len_t, len_s, abs_i, int_i, int_b, max_ii, min_ii, tup_s, lst_s, seq_l, seq_t, sum_s, wipe_n, wipe_c, mul_ii, fdiv_ii, mod_ii, add_ll, add_tt, setAll, mkT, mkL, oNot, List.getD_cons_zero, List.getD_cons_succ, List.length_cons, List.length_nil, List.set_cons_zero, List.set_cons_succ, List.map_cons, List.map_nil, List.replicate, List.cons_append, List.nil_append, List.append_nil, Option.bind_some, Option.map_some, List.all_cons, List.all_nil, if_true, if_false, reduceIte, Nat.reduceAdd, Nat.reduceSub, Nat.reduceLT, Nat.reduceLeDiff, Nat.reduceEqDiff, decide_true, decide_false, Bool.and_true, Bool.and_self, Bool.true_and, Bool.not_true, Bool.not_false, ne_eq, not_true_eq_false, not_false_eq_true, Nat.zero_add, Bool.false_eq_true, and_self, true_and, and_true, i1]
  case c8 =>
    intros
    refine lcL_map _ _ _ fun k hk => ?_
    have hc : Pm.cutD (R.map PyData.int) none (some ((k : Int) + 1)) = (R.take (k + 1)).map PyData.int := by
      have := cut_upto (R.map PyData.int) (k + 1)
      rw [show ((k + 1 : Nat) : Int) = (k : Int) + 1 by omega] at this
      rw [this, List.map_take]
    have hs := asInts_map (R.take (k + 1))
    have hz : 0 + (R.take (k + 1)).sum = (R.take (k + 1)).sum := by omega
    generalize R.map PyData.int = RD at *
    generalize (R.take (k + 1)).map PyData.int = TD at *
    rw [hz]
    simp -implicitDefEqProofs only [xVar_a, xC_a, xBin_a, xUn_a, tOf_a, tTru_a, tNotP_a, tAndP_a, tOrP_a, tyes_a, tno_a, tYesP_a, xNil_a, xCons_a, xTup_a, xLst_a, xAnd_a, xOr_a, xIf_a, xChain_a, oNo_a, oAt_a, xSl_a, xCall_a, xSeq_a, xIt_a, xLc_a, gSet_a, gTupD_a, gsNil_a, gsCons_a, sNop_a, sBrk_a, sCnt_a, sSeq_a, sRet_a, sIf_a, sSet_a, sTgt_a, sAug_a, sApp_a, sExt_a, sPut_a, sPutK_a, pkO_s, sFor_a, sWhile_a, sPar_a, runD_a, b2_s, c2_s, sqO_nx, sqO_rt, sqO_bk, sqO_ct, ifO_t, ifO_f, stO_s, endO_nx, endO_rt, andO_t, andO_f, orO_t, orO_f, chO_s, chP_t, chP_f, slO_s, atO_i, lcO_s, forO_s, gsO_s, nxO_s, tgO_s, paO_s, apO_s, exO_s, plO_s, ptO_s, dB_b, tru_b, tru_n, tru_i, tru_l, tru_t, is_n, isn_n, nn_n, nn_i, nn_b, nn_t, nn_l, add_ii, add'_ii, sub_ii, neg_i, lt_ii, le_ii, gt_ii, ge_ii, ix_l, ix_t, ix_s, at0, at1, at2, sl_l, sl_t, len_l, len_t, len_s, abs_i, int_i, int_b, max_ii, min_ii, tup_s, lst_s, seq_l, seq_t, sum_s, wipe_n, wipe_c, mul_ii, fdiv_ii, mod_ii, add_ll, add_tt, setAll, mkT, mkL, oNot, List.getD_cons_zero, List.getD_cons_succ, List.length_cons, List.length_nil, List.set_cons_zero, List.set_cons_succ, List.map_cons, List.map_nil, List.replicate, List.cons_append, List.nil_append, List.append_nil, Option.bind_some, Option.map_some, List.all_cons, List.all_nil, if_true, if_false, reduceIte, Nat.reduceAdd, Nat.reduceSub, Nat.reduceLT, Nat.reduceLeDiff, Nat.reduceEqDiff, decide_true, decide_false, Bool.and_true, Bool.and_self, Bool.true_and, Bool.not_true, Bool.not_false, ne_eq, not_true_eq_false, not_false_eq_true, Nat.zero_add, Bool.false_eq_true, and_self, true_and, and_true, hc, hs]
  case m1 => rw [least_paid_eq hW h1 h4, l1]; rfl
  case m5 =>
    rw [Bool.eq_iff_iff, decide_eq_true_iff, decide_eq_true_iff]
    exact l2
  case h0 =>
    intro h
    have h := of_decide_eq_true h
    cases hG : good w p n with
    | nil =>
      rw [hG] at h
      simp at h
    | cons g0 G =>
      rw [l3 g0 G hG, List.map_cons]
      exact at0 _ _
  case d4 =>
    cases hN : ndd w p n with
    | none =>
      rw [hN] at hn1
      have : ¬ (good w p n).length > 0 := fun h => nomatch hn1.mpr h
      rw [decide_eq_false this]
      exact eq_none_i 1
    | some c =>
      rw [hN] at hn1
      have e : decide ((good w p n).length > 0) = decide ((c : Int) = 1) := by
        rw [Bool.eq_iff_iff, decide_eq_true_iff, decide_eq_true_iff, ← hn1]
        constructor
        · intro h
          have := Option.some.inj h
          omega
        · intro h
          congr 1
          omega
      rw [e]
      exact eq_int _ _
  case p2 =>
    have hs := asInts_map ((List.range n).map fun k => 0 + (R.take (k + 1)).sum)
    rw [List.map_map] at hs
    have e : ((List.range n).map (PyData.int ∘ fun k => 0 + (R.take (k + 1)).sum)) = (List.range n).map fun k => PyData.int (0 + (R.take (k + 1)).sum) := rfl
    rw [e] at hs
    rw [hs, Option.map_some, hcsv]
end K13

namespace K13
open PySem PySem.Spec PyProof.Rows L2 Pm
open PySem.W (Datum Tup)
def bi (k i : Nat) : Int := if decide ((k : Int) = (i : Int)) = true then 1 else 0
def lgr (hs : List Int) (n i : Nat) (m : Int) : List Int := (List.range n).map fun k => hs.getD k 0 + m * bi k i
theorem bi_rng (k i : Nat) : 0 ≤ bi k i ∧ bi k i ≤ 1 := by unfold bi; split <;> omega
theorem bi_self (i : Nat) : bi i i = 1 := by simp [bi]
theorem lgr_len (hs : List Int) (n i : Nat) (m : Int) : (lgr hs n i m).length = n := by simp [lgr]
theorem lgr_nn {hs : List Int} (h : ∀ k, 0 ≤ hs.getD k 0) (n i : Nat) {m : Int} (hm : 0 ≤ m) : ∀ x ∈ lgr hs n i m, 0 ≤ x := fun x hx => by
  obtain ⟨k, _, rfl⟩ := List.mem_map.mp hx
  have h1 := h k
  have h2 : 0 ≤ m * bi k i := Int.mul_nonneg hm (bi_rng k i).1
  omega
theorem nn_get {w : List Int} (h : ∀ x ∈ w, 0 ≤ x) : ∀ k, 0 ≤ w.getD k 0 := fun k => by
  by_cases hk : k < w.length
  · exact h _ (getD_mem w k 0 hk)
  · simp [hk]
def kt (hs p : List Int) (n : Nat) (o : List Nat) (i m : Nat) : Bool := kp (lgr hs n i ((m : Int) + 1)) p 0 o
def fstF (P : Nat → Bool) : Nat → Nat → Nat
  | 0, k => k
  | f + 1, k => if P k then fstF P f (k + 1) else k
theorem fstF_spec (P : Nat → Bool) : ∀ (f k : Nat), P (k + f) = false → k ≤ fstF P f k ∧ fstF P f k ≤ k + f ∧ (∀ m, k ≤ m → m < fstF P f k → P m = true) ∧ P (fstF P f k) = false
  | 0, k, h => ⟨Nat.le_refl _, Nat.le_refl _, fun m h1 h2 => by simp only [fstF] at h2; omega, h⟩
  | f + 1, k, h => by
    rw [fstF]
    by_cases hp : P k = true
    · rw [if_pos hp]
      obtain ⟨a, b, c, d⟩ := fstF_spec P f (k + 1) (by rw [show k + 1 + f = k + (f + 1) by omega]; exact h)
      refine ⟨by omega, by omega, fun m h1 h2 => ?_, d⟩
      by_cases e : m = k
      · rw [e]; exact hp
      · exact c m (by omega) h2
    · rw [if_neg hp]
      exact ⟨Nat.le_refl _, by omega, fun m h1 h2 => by omega, by simpa using hp⟩
theorem enum_sh (S : List Ship) : oEnum [.tuple (S.map shD)] = some ((List.range S.length).map fun i => .tuple [.int (i : Nat), shD (S.getD i (0, 0, 0, 0))]) := by
  show some (enumD (S.map shD)) = _
  congr 1
  unfold enumD
  apply List.ext_getElem?
  intro i
  by_cases h : i < S.length
  · simp [h]
  · simp [h]
theorem longer_eq {S : List Ship} {n : Nat} (hS : OkS n S) (i : Nat) (m : Int) : d_longer [.tuple (S.map shD), .int (i : Nat), .int m] = some (.list ((lgr (hi2 S) n i m).map PyData.int)) := by
  have he := enum_sh S
  rw [hS.len] at he
  have hm : lcL (gTupD 2 (gsCons (gSet 3) (gsCons (gSet 4) gsNil))) tYesP (xBin oAdd (xBin oIx (xVar 4) (xC (.int 2))) (xBin oMul' (xVar 2) (xCall bInt (xCons (xBin oEq (xVar 3) (xVar 1)) xNil)))) [some (.tuple (S.map shD)), some (.int (i : Nat)), some (.int m), none, none] ((List.range n).map fun i => .tuple [.int (i : Nat), shD (S.getD i (0, 0, 0, 0))]) = some ((lgr (hi2 S) n i m).map PyData.int) := by
    rw [lgr, List.map_map]
    refine lcL_map _ _ _ fun k hk => ?_
    have e1 : (hi2 S).getD k 0 = (S.getD k (0, 0, 0, 0)).2.2.1 := getD_map (fun s : Ship => s.2.2.1) S k (0, 0, 0, 0) 0 rfl
    have mo : mulOk m (if decide ((k : Int) = (i : Int)) = true then 1 else 0) = true := mulOk_r _ (by split <;> decide)
    generalize S.map shD = SD at *
    simp -implicitDefEqProofs only [Function.comp, xVar_a, xC_a, xBin_a, xUn_a, tOf_a, tTru_a, tNotP_a, tAndP_a, tOrP_a, tyes_a, tno_a, tYesP_a, xNil_a, xCons_a, xTup_a, xLst_a, xAnd_a, xOr_a, xIf_a, xChain_a, oNo_a, oAt_a, xSl_a, xCall_a, xSeq_a, xIt_a, xLc_a, gSet_a, gTupD_a, gsNil_a, gsCons_a, sNop_a, sBrk_a, sCnt_a, sSeq_a, sRet_a, sIf_a, sSet_a, sTgt_a, sAug_a, sApp_a, sExt_a, sPut_a, sPutK_a, pkO_s, sFor_a, sWhile_a, sPar_a, runD_a, b2_s, c2_s, sqO_nx, sqO_rt, sqO_bk, sqO_ct, ifO_t, ifO_f, stO_s, endO_nx, endO_rt, andO_t, andO_f, orO_t, orO_f, chO_s, chP_t, chP_f, slO_s, atO_i, lcO_s, forO_s, gsO_s, nxO_s, tgO_s, paO_s, apO_s, exO_s, plO_s, ptO_s, dB_b, tru_b, tru_n, tru_i, tru_l, tru_t, is_n, isn_n, nn_n, nn_i, nn_b, nn_t, nn_l, add_ii, add'_ii, sub_ii, neg_i, lt_ii, le_ii, gt_ii, ge_ii, ix_l, ix_t, ix_s, at0, at1, at2, sl_l, sl_t, len_l, len_t, len_s, abs_i, int_i, int_b, max_ii, min_ii, tup_s, lst_s, seq_l, seq_t, sum_s, wipe_n, wipe_c, mul_ii, fdiv_ii, mod_ii, add_ll, add_tt, setAll, mkT, mkL, oNot, List.getD_cons_zero, List.getD_cons_succ, List.length_cons, List.length_nil, List.set_cons_zero, List.set_cons_succ, List.map_cons, List.map_nil, List.replicate, List.cons_append, List.nil_append, List.append_nil, Option.bind_some, Option.map_some, List.all_cons, List.all_nil, if_true, if_false, reduceIte, Nat.reduceAdd, Nat.reduceSub, Nat.reduceLT, Nat.reduceLeDiff, Nat.reduceEqDiff, decide_true, decide_false, Bool.and_true, Bool.and_self, Bool.true_and, Bool.not_true, Bool.not_false, ne_eq, not_true_eq_false, not_false_eq_true, Nat.zero_add, Bool.false_eq_true, and_self, true_and, and_true, shD, eq_int, mo, e1, bi]
  generalize S.map shD = SD at *
  generalize ((List.range n).map fun i => PyData.tuple [.int (i : Nat), shD (S.getD i (0, 0, 0, 0))]) = EN at *
  generalize (lgr (hi2 S) n i m).map PyData.int = LD at *
  simp -implicitDefEqProofs only [d_longer, g_longer, xVar_a, xC_a, xBin_a, xUn_a, tOf_a, tTru_a, tNotP_a, tAndP_a, tOrP_a, tyes_a, tno_a, tYesP_a, xNil_a, xCons_a, xTup_a, xLst_a, xAnd_a, xOr_a, xIf_a, xChain_a, oNo_a, oAt_a, xSl_a, xCall_a, xSeq_a, xIt_a, xLc_a, gSet_a, gTupD_a, gsNil_a, gsCons_a, sNop_a, sBrk_a, sCnt_a, sSeq_a, sRet_a, sIf_a, sSet_a, sTgt_a, sAug_a, sApp_a, sExt_a, sPut_a, sPutK_a, pkO_s, sFor_a, sWhile_a, sPar_a, runD_a, b2_s, c2_s, sqO_nx, sqO_rt, sqO_bk, sqO_ct, ifO_t, ifO_f, stO_s, endO_nx, endO_rt, andO_t, andO_f, orO_t, orO_f, chO_s, chP_t, chP_f, slO_s, atO_i, lcO_s, forO_s, gsO_s, nxO_s, tgO_s, paO_s, apO_s, exO_s, plO_s, ptO_s, dB_b, tru_b, tru_n, tru_i, tru_l, tru_t, is_n, isn_n, nn_n, nn_i, nn_b, nn_t, nn_l, add_ii, add'_ii, sub_ii, neg_i, lt_ii, le_ii, gt_ii, ge_ii, ix_l, ix_t, ix_s, at0, at1, at2, sl_l, sl_t, len_l, len_t, len_s, abs_i, int_i, int_b, max_ii, min_ii, tup_s, lst_s, seq_l, seq_t, sum_s, wipe_n, wipe_c, mul_ii, fdiv_ii, mod_ii, add_ll, add_tt, setAll, mkT, mkL, oNot, List.getD_cons_zero, List.getD_cons_succ, List.length_cons, List.length_nil, List.set_cons_zero, List.set_cons_succ, List.map_cons, List.map_nil, List.replicate, List.cons_append, List.nil_append, List.append_nil, Option.bind_some, Option.map_some, List.all_cons, List.all_nil, if_true, if_false, reduceIte, Nat.reduceAdd, Nat.reduceSub, Nat.reduceLT, Nat.reduceLeDiff, Nat.reduceEqDiff, decide_true, decide_false, Bool.and_true, Bool.and_self, Bool.true_and, Bool.not_true, Bool.not_false, ne_eq, not_true_eq_false, not_false_eq_true, Nat.zero_add, Bool.false_eq_true, and_self, true_and, and_true, he, hm]
def spr (hs p : List Int) (n : Nat) (o : List Nat) (i : Nat) : Nat := fstF (kt hs p n o i) 39 0
theorem spare_while {S : List Ship} {n : Nat} (hS : OkS n S) (hn : n ≤ 100) {o : List Nat} (ho : o.Perm (List.range n)) {i : Nat} (hi : i < n) (hp : (prm S).getD i 0 ≤ 30) (x2 : Option D) :
    whileF (tTru (xCall (fun ds => if ds.length = 3 then (d_keeps_with) ds else none) (xCons (xVar 0) (xCons (xCall (fun ds => if ds.length = 3 then (d_longer) ds else none) (xCons (xVar 0) (xCons (xVar 3) (xCons (xBin oAdd (xVar 4) (xC (.int 1))) xNil)))) (xCons (xVar 1) xNil))))) l1_spare_days fuelN [some (.tuple (S.map shD)), some (oD o), x2, some (.int (i : Nat)), some (.int 0)] =
      some (.nx [some (.tuple (S.map shD)), some (oD o), x2, some (.int (i : Nat)), some (.int (spr (hi2 S) (prm S) n o i : Nat))]) := by
  have hs0 : ∀ k, 0 ≤ (hi2 S).getD k 0 := nn_get hS.h0
  obtain ⟨f1, f2, f3, f4⟩ := fstF_spec (kt (hi2 S) (prm S) n o i) 39 0 (by
    have : kt (hi2 S) (prm S) n o i 39 = false := by
      cases hk : kt (hi2 S) (prm S) n o i 39 with
      | false => rfl
      | true =>
        unfold kt at hk
        rw [kp_ev _ _ o 0 (pr_nd ho)] at hk
        have hio := ho.mem_iff.mpr (List.mem_range.mpr hi)
        have h1 := hk i hio
        have h2 := ev_ge (nn_get (lgr_nn hs0 n i (m := ((39 : Nat) : Int) + 1) (by omega))) o 0 (Int.le_refl 0) i hio
        have h3 : (lgr (hi2 S) n i (((39 : Nat) : Int) + 1)).getD i 0 = (hi2 S).getD i 0 + (((39 : Nat) : Int) + 1) * bi i i := map_at _ hi _
        rw [bi_self] at h3
        have := hs0 i
        omega
    exact this)
  have hc : ∀ m : Nat, tTru (xCall (fun ds => if ds.length = 3 then (d_keeps_with) ds else none) (xCons (xVar 0) (xCons (xCall (fun ds => if ds.length = 3 then (d_longer) ds else none) (xCons (xVar 0) (xCons (xVar 3) (xCons (xBin oAdd (xVar 4) (xC (.int 1))) xNil)))) (xCons (xVar 1) xNil)))) [some (.tuple (S.map shD)), some (oD o), x2, some (.int (i : Nat)), some (.int (m : Nat))] = some (kt (hi2 S) (prm S) n o i m) := fun m => by
    have h1 := longer_eq hS i ((m : Int) + 1)
    have h2 : d_keeps_with [.tuple (S.map shD), .list ((lgr (hi2 S) n i ((m : Int) + 1)).map PyData.int), oD o] = some (.bool (kt (hi2 S) (prm S) n o i m)) := kw_eq true hS hn (w := lgr (hi2 S) n i ((m : Int) + 1)) (lgr_len _ _ _ _) (lgr_nn hs0 n i (by omega)) ho
    generalize S.map shD = SD at *
    generalize (lgr (hi2 S) n i ((m : Int) + 1)).map PyData.int = LD at *
    simp -implicitDefEqProofs only [xVar_a, xC_a, xBin_a, xUn_a, tOf_a, tTru_a, tNotP_a, tAndP_a, tOrP_a, tyes_a, tno_a, tYesP_a, xNil_a, xCons_a, xTup_a, xLst_a, xAnd_a, xOr_a, xIf_a, xChain_a, oNo_a, oAt_a, xSl_a, xCall_a, xSeq_a, xIt_a, xLc_a, gSet_a, gTupD_a, gsNil_a, gsCons_a, sNop_a, sBrk_a, sCnt_a, sSeq_a, sRet_a, sIf_a, sSet_a, sTgt_a, sAug_a, sApp_a, sExt_a, sPut_a, sPutK_a, pkO_s, sFor_a, sWhile_a, sPar_a, runD_a, b2_s, c2_s, sqO_nx, sqO_rt, sqO_bk, sqO_ct, ifO_t, ifO_f, stO_s, endO_nx, endO_rt, andO_t, andO_f, orO_t, orO_f, chO_s, chP_t, chP_f, slO_s, atO_i, lcO_s, forO_s, gsO_s, nxO_s, tgO_s, paO_s, apO_s, exO_s, plO_s, ptO_s, dB_b, tru_b, tru_n, tru_i, tru_l, tru_t, is_n, isn_n, nn_n, nn_i, nn_b, nn_t, nn_l, add_ii, add'_ii, sub_ii, neg_i, lt_ii, le_ii, gt_ii, ge_ii, ix_l, ix_t, ix_s, at0, at1, at2, sl_l, sl_t, len_l, len_t, len_s, abs_i, int_i, int_b, max_ii, min_ii, tup_s, lst_s, seq_l, seq_t, sum_s, wipe_n, wipe_c, mul_ii, fdiv_ii, mod_ii, add_ll, add_tt, setAll, mkT, mkL, oNot, List.getD_cons_zero, List.getD_cons_succ, List.length_cons, List.length_nil, List.set_cons_zero, List.set_cons_succ, List.map_cons, List.map_nil, List.replicate, List.cons_append, List.nil_append, List.append_nil, Option.bind_some, Option.map_some, List.all_cons, List.all_nil, if_true, if_false, reduceIte, Nat.reduceAdd, Nat.reduceSub, Nat.reduceLT, Nat.reduceLeDiff, Nat.reduceEqDiff, decide_true, decide_false, Bool.and_true, Bool.and_self, Bool.true_and, Bool.not_true, Bool.not_false, ne_eq, not_true_eq_false, not_false_eq_true, Nat.zero_add, Bool.false_eq_true, and_self, true_and, and_true, h1, h2]
  have hb : ∀ m : Nat, l1_spare_days [some (.tuple (S.map shD)), some (oD o), x2, some (.int (i : Nat)), some (.int (m : Nat))] = some (.nx [some (.tuple (S.map shD)), some (oD o), x2, some (.int (i : Nat)), some (.int ((m + 1 : Nat) : Int))]) := fun m => by
    have e : ((m + 1 : Nat) : Int) = (m : Int) + 1 := by omega
    rw [e]
    generalize S.map shD = SD at *
    simp -implicitDefEqProofs only [l1_spare_days, xVar_a, xC_a, xBin_a, xUn_a, tOf_a, tTru_a, tNotP_a, tAndP_a, tOrP_a, tyes_a, tno_a, tYesP_a, xNil_a, xCons_a, xTup_a, xLst_a, xAnd_a, xOr_a, xIf_a, xChain_a, oNo_a, oAt_a, xSl_a, xCall_a, xSeq_a, xIt_a, xLc_a, gSet_a, gTupD_a, gsNil_a, gsCons_a, sNop_a, sBrk_a, sCnt_a, sSeq_a, sRet_a, sIf_a, sSet_a, sTgt_a, sAug_a, sApp_a, sExt_a, sPut_a, sPutK_a, pkO_s, sFor_a, sWhile_a, sPar_a, runD_a, b2_s, c2_s, sqO_nx, sqO_rt, sqO_bk, sqO_ct, ifO_t, ifO_f, stO_s, endO_nx, endO_rt, andO_t, andO_f, orO_t, orO_f, chO_s, chP_t, chP_f, slO_s, atO_i, lcO_s, forO_s, gsO_s, nxO_s, tgO_s, paO_s, apO_s, exO_s, plO_s, ptO_s, dB_b, tru_b, tru_n, tru_i, tru_l, tru_t, is_n, isn_n, nn_n, nn_i, nn_b, nn_t, nn_l, add_ii, add'_ii, sub_ii, neg_i, lt_ii, le_ii, gt_ii, ge_ii, ix_l, ix_t, ix_s, at0, at1, at2, sl_l, sl_t, len_l, len_t, len_s, abs_i, int_i, int_b, max_ii, min_ii, tup_s, lst_s, seq_l, seq_t, sum_s, wipe_n, wipe_c, mul_ii, fdiv_ii, mod_ii, add_ll, add_tt, setAll, mkT, mkL, oNot, List.getD_cons_zero, List.getD_cons_succ, List.length_cons, List.length_nil, List.set_cons_zero, List.set_cons_succ, List.map_cons, List.map_nil, List.replicate, List.cons_append, List.nil_append, List.append_nil, Option.bind_some, Option.map_some, List.all_cons, List.all_nil, if_true, if_false, reduceIte, Nat.reduceAdd, Nat.reduceSub, Nat.reduceLT, Nat.reduceLeDiff, Nat.reduceEqDiff, decide_true, decide_false, Bool.and_true, Bool.and_self, Bool.true_and, Bool.not_true, Bool.not_false, ne_eq, not_true_eq_false, not_false_eq_true, Nat.zero_add, Bool.false_eq_true, and_self, true_and, and_true]
  have hN : spr (hi2 S) (prm S) n o i < fuelN := by
    have h1 : Sm 1999 ((39 : Nat) : Int) := Sm.lit
    have h2 := Sm.fuel h1
    have h3 : ((39 : Nat) : Int).natAbs = 39 := rfl
    rw [h3] at h2
    unfold spr
    omega
  exact whileF_run (f := fun m : Nat => [some (.tuple (S.map shD)), some (oD o), x2, some (.int (i : Nat)), some (.int (m : Nat))]) (n := spr (hi2 S) (prm S) n o i) hN (fun m hm => by rw [hc m, f3 m (Nat.zero_le _) hm]) (fun m _ => hb m) (by
    show tTru _ _ = _
    rw [hc (spr (hi2 S) (prm S) n o i)]
    exact congrArg some f4)
def sprL (hs p : List Int) (n : Nat) (o : List Nat) : List Int := (List.range n).map fun i => ((spr hs p n o i : Nat) : Int)
def sprD (hs p : List Int) (n : Nat) (o : List Nat) : D := if kp hs p 0 o then .tuple ((sprL hs p n o).map PyData.int) else .none
theorem spare_days_eq {S : List Ship} {n : Nat} (hS : OkS n S) (hn : n ≤ 100) {o : List Nat} (ho : o.Perm (List.range n)) (hp : ∀ i, i < n → (prm S).getD i 0 ≤ 30) : d_spare_days [.tuple (S.map shD), oD o] = some (sprD (hi2 S) (prm S) n o) := by
  have hk := keeps_surely_eq hS hn ho
  obtain ⟨ρ', e, h⟩ := forL_inv (g := gSet 3) (b := l2_spare_days) (fun i : Nat => PyData.int (i : Nat))
    (fun pre rest ρ => pre ++ rest = List.range n ∧ ∃ x3 x4, ρ = [some (.tuple (S.map shD)), some (oD o), some (.list (pre.map fun i => .int ((spr (hi2 S) (prm S) n o i : Nat) : Int))), x3, x4]) (fun pre i rest ρ ⟨hq, x3, x4, e⟩ => by
      subst e
      have hi : i < n := List.mem_range.mp (by rw [← hq]; simp)
      have hl : (pre.map fun i => PyData.int ((spr (hi2 S) (prm S) n o i : Nat) : Int)).length < 16777216 := by
        have := congrArg List.length hq
        simp at this ⊢
        omega
      have hw := spare_while hS hn ho hi (hp i hi) (some (.list (pre.map fun i => .int ((spr (hi2 S) (prm S) n o i : Nat) : Int))))
      refine ⟨_, [some (.tuple (S.map shD)), some (oD o), some (.list ((pre ++ [i]).map fun i => .int ((spr (hi2 S) (prm S) n o i : Nat) : Int))), some (.int (i : Nat)), some (.int (spr (hi2 S) (prm S) n o i : Nat))], rfl, .inl ?_, by rw [List.append_assoc]; exact hq, _, _, rfl⟩
      rw [List.map_append, List.map_cons, List.map_nil]
      generalize (pre.map fun i => PyData.int ((spr (hi2 S) (prm S) n o i : Nat) : Int)) = L at *
      generalize S.map shD = SD at *
      simp -implicitDefEqProofs only [l2_spare_days, xVar_a, xC_a, xBin_a, xUn_a, tOf_a, tTru_a, tNotP_a, tAndP_a, tOrP_a, tyes_a, tno_a, tYesP_a, xNil_a, xCons_a, xTup_a, xLst_a, xAnd_a, xOr_a, xIf_a, xChain_a, oNo_a, oAt_a, xSl_a, xCall_a, xSeq_a, xIt_a, xLc_a, gSet_a, gTupD_a, gsNil_a, gsCons_a, sNop_a, sBrk_a, sCnt_a, sSeq_a, sRet_a, sIf_a, sSet_a, sTgt_a, sAug_a, sApp_a, sExt_a, sPut_a, sPutK_a, pkO_s, sFor_a, sWhile_a, sPar_a, runD_a, b2_s, c2_s, sqO_nx, sqO_rt, sqO_bk, sqO_ct, ifO_t, ifO_f, stO_s, endO_nx, endO_rt, andO_t, andO_f, orO_t, orO_f, chO_s, chP_t, chP_f, slO_s, atO_i, lcO_s, forO_s, gsO_s, nxO_s, tgO_s, paO_s, apO_s, exO_s, plO_s, ptO_s, dB_b, tru_b, tru_n, tru_i, tru_l, tru_t, is_n, isn_n, nn_n, nn_i, nn_b, nn_t, nn_l, add_ii, add'_ii, sub_ii, neg_i, lt_ii, le_ii, gt_ii, ge_ii, ix_l, ix_t, ix_s, at0, at1, at2, sl_l, sl_t, len_l, len_t, len_s, abs_i, int_i, int_b, max_ii, min_ii, tup_s, lst_s, seq_l, seq_t, sum_s, wipe_n, wipe_c, mul_ii, fdiv_ii, mod_ii, add_ll, add_tt, setAll, mkT, mkL, oNot, List.getD_cons_zero, List.getD_cons_succ, List.length_cons, List.length_nil, List.set_cons_zero, List.set_cons_succ, List.map_cons, List.map_nil, List.replicate, List.cons_append, List.nil_append, List.append_nil, Option.bind_some, Option.map_some, List.all_cons, List.all_nil, if_true, if_false, reduceIte, Nat.reduceAdd, Nat.reduceSub, Nat.reduceLT, Nat.reduceLeDiff, Nat.reduceEqDiff, decide_true, decide_false, Bool.and_true, Bool.and_self, Bool.true_and, Bool.not_true, Bool.not_false, ne_eq, not_true_eq_false, not_false_eq_true, Nat.zero_add, Bool.false_eq_true, and_self, true_and, and_true, hw, hl]) (List.range n) [] [some (.tuple (S.map shD)), some (oD o), some (.list []), none, none] ⟨rfl, none, none, rfl⟩
  obtain ⟨_, x3, x4, e'⟩ := h
  subst e'
  have e1 : ((List.range n).map fun i => PyData.int ((spr (hi2 S) (prm S) n o i : Nat) : Int)) = (sprL (hi2 S) (prm S) n o).map PyData.int := by
    rw [sprL, List.map_map]
    rfl
  rw [List.nil_append, e1] at e
  have hr := rg0 n (by omega)
  have hl : (S.map shD).length = n := by simpa using hS.len
  unfold sprD
  generalize S.map shD = SD at *
  generalize (sprL (hi2 S) (prm S) n o).map PyData.int = PD at *
  generalize (List.range n).map (fun k : Nat => PyData.int (k : Nat)) = R at *
  cases hkk : kp (hi2 S) (prm S) 0 o with
  | true =>
    rw [hkk] at hk
    simp -implicitDefEqProofs only [d_spare_days, g_spare_days, xVar_a, xC_a, xBin_a, xUn_a, tOf_a, tTru_a, tNotP_a, tAndP_a, tOrP_a, tyes_a, tno_a, tYesP_a, xNil_a, xCons_a, xTup_a, xLst_a, xAnd_a, xOr_a, xIf_a, xChain_a, oNo_a, oAt_a, xSl_a, xCall_a, xSeq_a, xIt_a, xLc_a, gSet_a, gTupD_a, gsNil_a, gsCons_a, sNop_a, sBrk_a, sCnt_a, sSeq_a, sRet_a, sIf_a, sSet_a, sTgt_a, sAug_a, sApp_a, sExt_a, sPut_a, sPutK_a, pkO_s, sFor_a, sWhile_a, sPar_a, runD_a, b2_s, c2_s, sqO_nx, sqO_rt, sqO_bk, sqO_ct, ifO_t, ifO_f, stO_s, endO_nx, endO_rt, andO_t, andO_f, orO_t, orO_f, chO_s, chP_t, chP_f, slO_s, atO_i, lcO_s, forO_s, gsO_s, nxO_s, tgO_s, paO_s, apO_s, exO_s, plO_s, ptO_s, dB_b, tru_b, tru_n, tru_i, tru_l, tru_t, is_n, isn_n, nn_n, nn_i, nn_b, nn_t, nn_l, add_ii, add'_ii, sub_ii, neg_i, lt_ii, le_ii, gt_ii, ge_ii, ix_l, ix_t, ix_s, at0, at1, at2, sl_l, sl_t, len_l, len_t, len_s, abs_i, int_i, int_b, max_ii, min_ii, tup_s, lst_s, seq_l, seq_t, sum_s, wipe_n, wipe_c, mul_ii, fdiv_ii, mod_ii, add_ll, add_tt, setAll, mkT, mkL, oNot, List.getD_cons_zero, List.getD_cons_succ, List.length_cons, List.length_nil, List.set_cons_zero, List.set_cons_succ, List.map_cons, List.map_nil, List.replicate, List.cons_append, List.nil_append, List.append_nil, Option.bind_some, Option.map_some, List.all_cons, List.all_nil, if_true, if_false, reduceIte, Nat.reduceAdd, Nat.reduceSub, Nat.reduceLT, Nat.reduceLeDiff, Nat.reduceEqDiff, decide_true, decide_false, Bool.and_true, Bool.and_self, Bool.true_and, Bool.not_true, Bool.not_false, ne_eq, not_true_eq_false, not_false_eq_true, Nat.zero_add, Bool.false_eq_true, and_self, true_and, and_true, hk, hl, hr, e]
  | false =>
    rw [hkk] at hk
    simp -implicitDefEqProofs only [d_spare_days, g_spare_days, xVar_a, xC_a, xBin_a, xUn_a, tOf_a, tTru_a, tNotP_a, tAndP_a, tOrP_a, tyes_a, tno_a, tYesP_a, xNil_a, xCons_a, xTup_a, xLst_a, xAnd_a, xOr_a, xIf_a, xChain_a, oNo_a, oAt_a, xSl_a, xCall_a, xSeq_a, xIt_a, xLc_a, gSet_a, gTupD_a, gsNil_a, gsCons_a, sNop_a, sBrk_a, sCnt_a, sSeq_a, sRet_a, sIf_a, sSet_a, sTgt_a, sAug_a, sApp_a, sExt_a, sPut_a, sPutK_a, pkO_s, sFor_a, sWhile_a, sPar_a, runD_a, b2_s, c2_s, sqO_nx, sqO_rt, sqO_bk, sqO_ct, ifO_t, ifO_f, stO_s, endO_nx, endO_rt, andO_t, andO_f, orO_t, orO_f, chO_s, chP_t, chP_f, slO_s, atO_i, lcO_s, forO_s, gsO_s, nxO_s, tgO_s, paO_s, apO_s, exO_s, plO_s, ptO_s, dB_b, tru_b, tru_n, tru_i, tru_l, tru_t, is_n, isn_n, nn_n, nn_i, nn_b, nn_t, nn_l, add_ii, add'_ii, sub_ii, neg_i, lt_ii, le_ii, gt_ii, ge_ii, ix_l, ix_t, ix_s, at0, at1, at2, sl_l, sl_t, len_l, len_t, len_s, abs_i, int_i, int_b, max_ii, min_ii, tup_s, lst_s, seq_l, seq_t, sum_s, wipe_n, wipe_c, mul_ii, fdiv_ii, mod_ii, add_ll, add_tt, setAll, mkT, mkL, oNot, List.getD_cons_zero, List.getD_cons_succ, List.length_cons, List.length_nil, List.set_cons_zero, List.set_cons_succ, List.map_cons, List.map_nil, List.replicate, List.cons_append, List.nil_append, List.append_nil, Option.bind_some, Option.map_some, List.all_cons, List.all_nil, if_true, if_false, reduceIte, Nat.reduceAdd, Nat.reduceSub, Nat.reduceLT, Nat.reduceLeDiff, Nat.reduceEqDiff, decide_true, decide_false, Bool.and_true, Bool.and_self, Bool.true_and, Bool.not_true, Bool.not_false, ne_eq, not_true_eq_false, not_false_eq_true, Nat.zero_add, Bool.false_eq_true, and_self, true_and, and_true, hk]
end K13

namespace K13
open PySem PySem.Spec PyProof.Rows L2 Pm
open PySem.W (Datum Tup)
theorem ls_loop {hs p : List Int} {n : Nat} (hh : hs.length = n) (hp : p.length = n) (hn : n ≤ 100) {o : List Nat} (ho : o.Perm (List.range n)) (i : Nat) (x3 : Option D) : ∀ (f k : Nat) (x6 x7 : Option D),
    ∃ y6 y7, forL (gSet 6) l1__law_spare ((List.range' (k + 1) f).map fun j => PyData.int (j : Nat)) [some (.list (hs.map PyData.int)), some (.list (p.map PyData.int)), some (oD o), x3, some (.int (i : Nat)), some (.int (k : Nat)), x6, x7] =
      some (.nx [some (.list (hs.map PyData.int)), some (.list (p.map PyData.int)), some (oD o), x3, some (.int (i : Nat)), some (.int (fstF (kt hs p n o i) f k : Nat)), y6, y7])
  | 0, k, x6, x7 => ⟨x6, x7, rfl⟩
  | f + 1, k, x6, x7 => by
    have hr := rg0 n (by omega)
    have hl : (hs.map PyData.int).length = n := by simpa using hh
    have hm : ∀ x7, lcL (gSet 7) tYesP (xBin oAdd (xBin oIx (xVar 0) (xVar 7)) (xBin oMul' (xVar 6) (xCall bInt (xCons (xBin oEq (xVar 7) (xVar 4)) xNil)))) [some (.list (hs.map PyData.int)), some (.list (p.map PyData.int)), some (oD o), x3, some (.int (i : Nat)), some (.int (k : Nat)), some (.int ((k + 1 : Nat) : Int)), x7] ((List.range n).map fun k : Nat => PyData.int (k : Nat)) = some ((lgr hs n i ((k : Int) + 1)).map PyData.int) := fun x7 => by
      rw [lgr, List.map_map]
      refine lcL_map _ _ _ fun j hj => ?_
      have hj' := List.mem_range.mp hj
      have i1 := at_map PyData.int hs 0 j (by omega)
      have mo : ∀ m, mulOk m (if decide ((j : Int) = (i : Int)) = true then 1 else 0) = true := fun m => mulOk_r _ (by split <;> decide)
      have e : ((k + 1 : Nat) : Int) = (k : Int) + 1 := by omega
      rw [e]
      generalize hs.map PyData.int = HD at *
      generalize p.map PyData.int = PD at *
      simp -implicitDefEqProofs only [Function.comp, xVar_a, xC_a, xBin_a, xUn_a, tOf_a, tTru_a, tNotP_a, tAndP_a, tOrP_a, tyes_a, tno_a, tYesP_a, xNil_a, xCons_a, xTup_a, xLst_a, xAnd_a, xOr_a, xIf_a, xChain_a, oNo_a, oAt_a, xSl_a, xCall_a, xSeq_a, xIt_a, xLc_a, gSet_a, gTupD_a, gsNil_a, gsCons_a, sNop_a, sBrk_a, sCnt_a, sSeq_a, sRet_a, sIf_a, sSet_a, sTgt_a, sAug_a, sApp_a, sExt_a, sPut_a, sPutK_a, pkO_s, sFor_a, sWhile_a, sPar_a, runD_a, b2_s, c2_s, sqO_nx, sqO_rt, sqO_bk, sqO_ct, ifO_t, ifO_f, stO_s, endO_nx, endO_rt, andO_t, andO_f, orO_t, orO_f, chO_s, chP_t, chP_f, slO_s, atO_i, lcO_s, forO_s, gsO_s, nxO_s, tgO_s, paO_s, apO_s, exO_s, plO_s, ptO_s, dB_b, tru_b, tru_n, tru_i, tru_l, tru_t, is_n, isn_n, nn_n, nn_i, nn_b, nn_t, nn_l, add_ii, add'_ii, sub_ii, neg_i, lt_ii, le_ii, gt_ii, ge_ii, ix_l, ix_t, ix_s, at0, at1, at2, sl_l, sl_t, len_l, len_t, len_s, abs_i, int_i, int_b, max_ii, min_ii, tup_s, lst_s, seq_l, seq_t, sum_s, wipe_n, wipe_c, mul_ii, fdiv_ii, mod_ii, add_ll, add_tt, setAll, mkT, mkL, oNot, List.getD_cons_zero, List.getD_cons_succ, List.length_cons, List.length_nil, List.set_cons_zero, List.set_cons_succ, List.map_cons, List.map_nil, List.replicate, List.cons_append, List.nil_append, List.append_nil, Option.bind_some, Option.map_some, List.all_cons, List.all_nil, if_true, if_false, reduceIte, Nat.reduceAdd, Nat.reduceSub, Nat.reduceLT, Nat.reduceLeDiff, Nat.reduceEqDiff, decide_true, decide_false, Bool.and_true, Bool.and_self, Bool.true_and, Bool.not_true, Bool.not_false, ne_eq, not_true_eq_false, not_false_eq_true, Nat.zero_add, Bool.false_eq_true, and_self, true_and, and_true, i1, eq_int, mo, bi]
    have hkp : d__law_kept [.list ((lgr hs n i ((k : Int) + 1)).map PyData.int), .list (p.map PyData.int), oD o] = some (.bool (kt hs p n o i k)) := law_kept_eq true (lgr hs n i ((k : Int) + 1)) p o n (lgr_len _ _ _ _) hp hn ho
    have hg : gSet 6 (.int ((k + 1 : Nat) : Int)) [some (.list (hs.map PyData.int)), some (.list (p.map PyData.int)), some (oD o), x3, some (.int (i : Nat)), some (.int (k : Nat)), x6, x7] = some [some (.list (hs.map PyData.int)), some (.list (p.map PyData.int)), some (oD o), x3, some (.int (i : Nat)), some (.int (k : Nat)), some (.int ((k + 1 : Nat) : Int)), x7] := rfl
    rw [List.range'_succ, List.map_cons]
    by_cases hk : kt hs p n o i k = true
    · obtain ⟨y6, y7, ih⟩ := ls_loop hh hp hn ho i x3 f (k + 1) (some (.int ((k + 1 : Nat) : Int))) x7
      have hb : l1__law_spare [some (.list (hs.map PyData.int)), some (.list (p.map PyData.int)), some (oD o), x3, some (.int (i : Nat)), some (.int (k : Nat)), some (.int ((k + 1 : Nat) : Int)), x7] = some (.nx [some (.list (hs.map PyData.int)), some (.list (p.map PyData.int)), some (oD o), x3, some (.int (i : Nat)), some (.int ((k + 1 : Nat) : Int)), some (.int ((k + 1 : Nat) : Int)), x7]) := by
        rw [hk] at hkp
        generalize hs.map PyData.int = HD at *
        generalize p.map PyData.int = PD at *
        generalize (lgr hs n i ((k : Int) + 1)).map PyData.int = LD at *
        generalize (List.range n).map (fun k : Nat => PyData.int (k : Nat)) = R at *
        generalize ((k + 1 : Nat) : Int) = k1 at *
        simp -implicitDefEqProofs only [l1__law_spare, xVar_a, xC_a, xBin_a, xUn_a, tOf_a, tTru_a, tNotP_a, tAndP_a, tOrP_a, tyes_a, tno_a, tYesP_a, xNil_a, xCons_a, xTup_a, xLst_a, xAnd_a, xOr_a, xIf_a, xChain_a, oNo_a, oAt_a, xSl_a, xCall_a, xSeq_a, xIt_a, xLc_a, gSet_a, gTupD_a, gsNil_a, gsCons_a, sNop_a, sBrk_a, sCnt_a, sSeq_a, sRet_a, sIf_a, sSet_a, sTgt_a, sAug_a, sApp_a, sExt_a, sPut_a, sPutK_a, pkO_s, sFor_a, sWhile_a, sPar_a, runD_a, b2_s, c2_s, sqO_nx, sqO_rt, sqO_bk, sqO_ct, ifO_t, ifO_f, stO_s, endO_nx, endO_rt, andO_t, andO_f, orO_t, orO_f, chO_s, chP_t, chP_f, slO_s, atO_i, lcO_s, forO_s, gsO_s, nxO_s, tgO_s, paO_s, apO_s, exO_s, plO_s, ptO_s, dB_b, tru_b, tru_n, tru_i, tru_l, tru_t, is_n, isn_n, nn_n, nn_i, nn_b, nn_t, nn_l, add_ii, add'_ii, sub_ii, neg_i, lt_ii, le_ii, gt_ii, ge_ii, ix_l, ix_t, ix_s, at0, at1, at2, sl_l, sl_t, len_l, len_t, len_s, abs_i, int_i, int_b, max_ii, min_ii, tup_s, lst_s, seq_l, seq_t, sum_s, wipe_n, wipe_c, mul_ii, fdiv_ii, mod_ii, add_ll, add_tt, setAll, mkT, mkL, oNot, List.getD_cons_zero, List.getD_cons_succ, List.length_cons, List.length_nil, List.set_cons_zero, List.set_cons_succ, List.map_cons, List.map_nil, List.replicate, List.cons_append, List.nil_append, List.append_nil, Option.bind_some, Option.map_some, List.all_cons, List.all_nil, if_true, if_false, reduceIte, Nat.reduceAdd, Nat.reduceSub, Nat.reduceLT, Nat.reduceLeDiff, Nat.reduceEqDiff, decide_true, decide_false, Bool.and_true, Bool.and_self, Bool.true_and, Bool.not_true, Bool.not_false, ne_eq, not_true_eq_false, not_false_eq_true, Nat.zero_add, Bool.false_eq_true, and_self, true_and, and_true, hl, hr, hm, hkp]
      refine ⟨y6, y7, ?_⟩
      rw [fstF, if_pos hk]
      simp only [forL, hg, Option.bind_some, hb]
      exact ih
    · have hb : l1__law_spare [some (.list (hs.map PyData.int)), some (.list (p.map PyData.int)), some (oD o), x3, some (.int (i : Nat)), some (.int (k : Nat)), some (.int ((k + 1 : Nat) : Int)), x7] = some (.bk [some (.list (hs.map PyData.int)), some (.list (p.map PyData.int)), some (oD o), x3, some (.int (i : Nat)), some (.int (k : Nat)), some (.int ((k + 1 : Nat) : Int)), x7]) := by
        rw [show kt hs p n o i k = false by simpa using hk] at hkp
        generalize hs.map PyData.int = HD at *
        generalize p.map PyData.int = PD at *
        generalize (lgr hs n i ((k : Int) + 1)).map PyData.int = LD at *
        generalize (List.range n).map (fun k : Nat => PyData.int (k : Nat)) = R at *
        generalize ((k + 1 : Nat) : Int) = k1 at *
        simp -implicitDefEqProofs only [l1__law_spare, xVar_a, xC_a, xBin_a, xUn_a, tOf_a, tTru_a, tNotP_a, tAndP_a, tOrP_a, tyes_a, tno_a, tYesP_a, xNil_a, xCons_a, xTup_a, xLst_a, xAnd_a, xOr_a, xIf_a, xChain_a, oNo_a, oAt_a, xSl_a, xCall_a, xSeq_a, xIt_a, xLc_a, gSet_a, gTupD_a, gsNil_a, gsCons_a, sNop_a, sBrk_a, sCnt_a, sSeq_a, sRet_a, sIf_a, sSet_a, sTgt_a, sAug_a, sApp_a, sExt_a, sPut_a, sPutK_a, pkO_s, sFor_a, sWhile_a, sPar_a, runD_a, b2_s, c2_s, sqO_nx, sqO_rt, sqO_bk, sqO_ct, ifO_t, ifO_f, stO_s, endO_nx, endO_rt, andO_t, andO_f, orO_t, orO_f, chO_s, chP_t, chP_f, slO_s, atO_i, lcO_s, forO_s, gsO_s, nxO_s, tgO_s, paO_s, apO_s, exO_s, plO_s, ptO_s, dB_b, tru_b, tru_n, tru_i, tru_l, tru_t, is_n, isn_n, nn_n, nn_i, nn_b, nn_t, nn_l, add_ii, add'_ii, sub_ii, neg_i, lt_ii, le_ii, gt_ii, ge_ii, ix_l, ix_t, ix_s, at0, at1, at2, sl_l, sl_t, len_l, len_t, len_s, abs_i, int_i, int_b, max_ii, min_ii, tup_s, lst_s, seq_l, seq_t, sum_s, wipe_n, wipe_c, mul_ii, fdiv_ii, mod_ii, add_ll, add_tt, setAll, mkT, mkL, oNot, List.getD_cons_zero, List.getD_cons_succ, List.length_cons, List.length_nil, List.set_cons_zero, List.set_cons_succ, List.map_cons, List.map_nil, List.replicate, List.cons_append, List.nil_append, List.append_nil, Option.bind_some, Option.map_some, List.all_cons, List.all_nil, if_true, if_false, reduceIte, Nat.reduceAdd, Nat.reduceSub, Nat.reduceLT, Nat.reduceLeDiff, Nat.reduceEqDiff, decide_true, decide_false, Bool.and_true, Bool.and_self, Bool.true_and, Bool.not_true, Bool.not_false, ne_eq, not_true_eq_false, not_false_eq_true, Nat.zero_add, Bool.false_eq_true, and_self, true_and, and_true, hl, hr, hm, hkp]
      refine ⟨some (.int ((k + 1 : Nat) : Int)), x7, ?_⟩
      rw [fstF, if_neg hk]
      simp only [forL, hg, Option.bind_some, hb]
theorem law_spare_eq {hs p : List Int} {n : Nat} (hh : hs.length = n) (hp : p.length = n) (hn : n ≤ 100) {o : List Nat} (ho : o.Perm (List.range n)) : d__law_spare [.list (hs.map PyData.int), .list (p.map PyData.int), oD o] = some (sprD hs p n o) := by
  have hk : d__law_kept [.list (hs.map PyData.int), .list (p.map PyData.int), oD o] = some (.bool (kp hs p 0 o)) := law_kept_eq true hs p o n hh hp hn ho
  have hr2 : oR2 [.int 1, .int 40] = some ((List.range' (0 + 1) 39).map fun j => PyData.int (j : Nat)) := by
    rw [oR2_ij (by omega)]
    rfl
  obtain ⟨ρ', e, h⟩ := forL_inv (g := gSet 4) (b := l2__law_spare) (fun i : Nat => PyData.int (i : Nat))
    (fun pre rest ρ => pre ++ rest = List.range n ∧ ∃ x4 x5 x6 x7, ρ = [some (.list (hs.map PyData.int)), some (.list (p.map PyData.int)), some (oD o), some (.list (pre.map fun i => .int ((spr hs p n o i : Nat) : Int))), x4, x5, x6, x7]) (fun pre i rest ρ ⟨hq, x4, x5, x6, x7, e⟩ => by
      subst e
      have hl : (pre.map fun i => PyData.int ((spr hs p n o i : Nat) : Int)).length < 16777216 := by
        have := congrArg List.length hq
        simp at this ⊢
        omega
      obtain ⟨y6, y7, hw⟩ := ls_loop hh hp hn ho i (some (.list (pre.map fun i => .int ((spr hs p n o i : Nat) : Int)))) 39 0 x6 x7
      refine ⟨_, [some (.list (hs.map PyData.int)), some (.list (p.map PyData.int)), some (oD o), some (.list ((pre ++ [i]).map fun i => .int ((spr hs p n o i : Nat) : Int))), some (.int (i : Nat)), some (.int (spr hs p n o i : Nat)), y6, y7], rfl, .inl ?_, by rw [List.append_assoc]; exact hq, _, _, _, _, rfl⟩
      rw [List.map_append, List.map_cons, List.map_nil]
      have hw' : forL (gSet 6) l1__law_spare ((List.range' (0 + 1) 39).map fun j => PyData.int (j : Nat)) [some (.list (hs.map PyData.int)), some (.list (p.map PyData.int)), some (oD o), some (.list (pre.map fun i => .int ((spr hs p n o i : Nat) : Int))), some (.int (i : Nat)), some (.int 0), x6, x7] =
        some (.nx [some (.list (hs.map PyData.int)), some (.list (p.map PyData.int)), some (oD o), some (.list (pre.map fun i => .int ((spr hs p n o i : Nat) : Int))), some (.int (i : Nat)), some (.int (spr hs p n o i : Nat)), y6, y7]) := hw
      clear hw
      generalize ((List.range' (0 + 1) 39).map fun j => PyData.int (j : Nat)) = RR at *
      generalize (pre.map fun i => PyData.int ((spr hs p n o i : Nat) : Int)) = L at *
      generalize hs.map PyData.int = HD at *
      generalize p.map PyData.int = PD at *
      simp -implicitDefEqProofs only [l2__law_spare, xVar_a, xC_a, xBin_a, xUn_a, tOf_a, tTru_a, tNotP_a, tAndP_a, tOrP_a, tyes_a, tno_a, tYesP_a, xNil_a, xCons_a, xTup_a, xLst_a, xAnd_a, xOr_a, xIf_a, xChain_a, oNo_a, oAt_a, xSl_a, xCall_a, xSeq_a, xIt_a, xLc_a, gSet_a, gTupD_a, gsNil_a, gsCons_a, sNop_a, sBrk_a, sCnt_a, sSeq_a, sRet_a, sIf_a, sSet_a, sTgt_a, sAug_a, sApp_a, sExt_a, sPut_a, sPutK_a, pkO_s, sFor_a, sWhile_a, sPar_a, runD_a, b2_s, c2_s, sqO_nx, sqO_rt, sqO_bk, sqO_ct, ifO_t, ifO_f, stO_s, endO_nx, endO_rt, andO_t, andO_f, orO_t, orO_f, chO_s, chP_t, chP_f, slO_s, atO_i, lcO_s, forO_s, gsO_s, nxO_s, tgO_s, paO_s, apO_s, exO_s, plO_s, ptO_s, dB_b, tru_b, tru_n, tru_i, tru_l, tru_t, is_n, isn_n, nn_n, nn_i, nn_b, nn_t, nn_l, add_ii, add'_ii, sub_ii, neg_i, lt_ii, le_ii, gt_ii, ge_ii, ix_l, ix_t, ix_s, at0, at1, at2, sl_l, sl_t, len_l, len_t, len_s, abs_i, int_i, int_b, max_ii, min_ii, tup_s, lst_s, seq_l, seq_t, sum_s, wipe_n, wipe_c, mul_ii, fdiv_ii, mod_ii, add_ll, add_tt, setAll, mkT, mkL, oNot, List.getD_cons_zero, List.getD_cons_succ, List.length_cons, List.length_nil, List.set_cons_zero, List.set_cons_succ, List.map_cons, List.map_nil, List.replicate, List.cons_append, List.nil_append, List.append_nil, Option.bind_some, Option.map_some, List.all_cons, List.all_nil, if_true, if_false, reduceIte, Nat.reduceAdd, Nat.reduceSub, Nat.reduceLT, Nat.reduceLeDiff, Nat.reduceEqDiff, decide_true, decide_false, Bool.and_true, Bool.and_self, Bool.true_and, Bool.not_true, Bool.not_false, ne_eq, not_true_eq_false, not_false_eq_true, Nat.zero_add, Bool.false_eq_true, and_self, true_and, and_true, hr2, hw', hl]) (List.range n) [] [some (.list (hs.map PyData.int)), some (.list (p.map PyData.int)), some (oD o), some (.list []), none, none, none, none] ⟨rfl, none, none, none, none, rfl⟩
  obtain ⟨_, x4, x5, x6, x7, e'⟩ := h
  subst e'
  have e1 : ((List.range n).map fun i => PyData.int ((spr hs p n o i : Nat) : Int)) = (sprL hs p n o).map PyData.int := by
    rw [sprL, List.map_map]
    rfl
  rw [List.nil_append, e1] at e
  have hr := rg0 n (by omega)
  have hl : (hs.map PyData.int).length = n := by simpa using hh
  unfold sprD
  clear hr2
  generalize hs.map PyData.int = HD at *
  generalize p.map PyData.int = PD2 at *
  generalize (sprL hs p n o).map PyData.int = PD at *
  generalize (List.range n).map (fun k : Nat => PyData.int (k : Nat)) = R at *
  cases hkk : kp hs p 0 o with
  | true =>
    rw [hkk] at hk
    simp -implicitDefEqProofs only [d__law_spare, g__law_spare, xVar_a, xC_a, xBin_a, xUn_a, tOf_a, tTru_a, tNotP_a, tAndP_a, tOrP_a, tyes_a, tno_a, tYesP_a, xNil_a, xCons_a, xTup_a, xLst_a, xAnd_a, xOr_a, xIf_a, xChain_a, oNo_a, oAt_a, xSl_a, xCall_a, xSeq_a, xIt_a, xLc_a, gSet_a, gTupD_a, gsNil_a, gsCons_a, sNop_a, sBrk_a, sCnt_a, sSeq_a, sRet_a, sIf_a, sSet_a, sTgt_a, sAug_a, sApp_a, sExt_a, sPut_a, sPutK_a, pkO_s, sFor_a, sWhile_a, sPar_a, runD_a, b2_s, c2_s, sqO_nx, sqO_rt, sqO_bk, sqO_ct, ifO_t, ifO_f, stO_s, endO_nx, endO_rt, andO_t, andO_f, orO_t, orO_f, chO_s, chP_t, chP_f, slO_s, atO_i, lcO_s, forO_s, gsO_s, nxO_s, tgO_s, paO_s, apO_s, exO_s, plO_s, ptO_s, dB_b, tru_b, tru_n, tru_i, tru_l, tru_t, is_n, isn_n, nn_n, nn_i, nn_b, nn_t, nn_l, add_ii, add'_ii, sub_ii, neg_i, lt_ii, le_ii, gt_ii, ge_ii, ix_l, ix_t, ix_s, at0, at1, at2, sl_l, sl_t, len_l, len_t, len_s, abs_i, int_i, int_b, max_ii, min_ii, tup_s, lst_s, seq_l, seq_t, sum_s, wipe_n, wipe_c, mul_ii, fdiv_ii, mod_ii, add_ll, add_tt, setAll, mkT, mkL, oNot, List.getD_cons_zero, List.getD_cons_succ, List.length_cons, List.length_nil, List.set_cons_zero, List.set_cons_succ, List.map_cons, List.map_nil, List.replicate, List.cons_append, List.nil_append, List.append_nil, Option.bind_some, Option.map_some, List.all_cons, List.all_nil, if_true, if_false, reduceIte, Nat.reduceAdd, Nat.reduceSub, Nat.reduceLT, Nat.reduceLeDiff, Nat.reduceEqDiff, decide_true, decide_false, Bool.and_true, Bool.and_self, Bool.true_and, Bool.not_true, Bool.not_false, ne_eq, not_true_eq_false, not_false_eq_true, Nat.zero_add, Bool.false_eq_true, and_self, true_and, and_true, hk, hl, hr, e]
  | false =>
    rw [hkk] at hk
    simp -implicitDefEqProofs only [d__law_spare, g__law_spare, xVar_a, xC_a, xBin_a, xUn_a, tOf_a, tTru_a, tNotP_a, tAndP_a, tOrP_a, tyes_a, tno_a, tYesP_a, xNil_a, xCons_a, xTup_a, xLst_a, xAnd_a, xOr_a, xIf_a, xChain_a, oNo_a, oAt_a, xSl_a, xCall_a, xSeq_a, xIt_a, xLc_a, gSet_a, gTupD_a, gsNil_a, gsCons_a, sNop_a, sBrk_a, sCnt_a, sSeq_a, sRet_a, sIf_a, sSet_a, sTgt_a, sAug_a, sApp_a, sExt_a, sPut_a, sPutK_a, pkO_s, sFor_a, sWhile_a, sPar_a, runD_a, b2_s, c2_s, sqO_nx, sqO_rt, sqO_bk, sqO_ct, ifO_t, ifO_f, stO_s, endO_nx, endO_rt, andO_t, andO_f, orO_t, orO_f, chO_s, chP_t, chP_f, slO_s, atO_i, lcO_s, forO_s, gsO_s, nxO_s, tgO_s, paO_s, apO_s, exO_s, plO_s, ptO_s, dB_b, tru_b, tru_n, tru_i, tru_l, tru_t, is_n, isn_n, nn_n, nn_i, nn_b, nn_t, nn_l, add_ii, add'_ii, sub_ii, neg_i, lt_ii, le_ii, gt_ii, ge_ii, ix_l, ix_t, ix_s, at0, at1, at2, sl_l, sl_t, len_l, len_t, len_s, abs_i, int_i, int_b, max_ii, min_ii, tup_s, lst_s, seq_l, seq_t, sum_s, wipe_n, wipe_c, mul_ii, fdiv_ii, mod_ii, add_ll, add_tt, setAll, mkT, mkL, oNot, List.getD_cons_zero, List.getD_cons_succ, List.length_cons, List.length_nil, List.set_cons_zero, List.set_cons_succ, List.map_cons, List.map_nil, List.replicate, List.cons_append, List.nil_append, List.append_nil, Option.bind_some, Option.map_some, List.all_cons, List.all_nil, if_true, if_false, reduceIte, Nat.reduceAdd, Nat.reduceSub, Nat.reduceLT, Nat.reduceLeDiff, Nat.reduceEqDiff, decide_true, decide_false, Bool.and_true, Bool.and_self, Bool.true_and, Bool.not_true, Bool.not_false, ne_eq, not_true_eq_false, not_false_eq_true, Nat.zero_add, Bool.false_eq_true, and_self, true_and, and_true, hk]
theorem like_spr (k : Nat) (hs p : List Int) {n : Nat} (hn : n ≤ 100) (o : List Nat) : d__law_like (k + 2) [sprD hs p n o, sprD hs p n o] = some (.bool true) := by
  unfold sprD
  split
  · exact like_ints k _ (by simp [sprL]; omega)
  · exact like_none (k + 1)
theorem flat_spr (hs p : List Int) (n : Nat) (o : List Nat) : flat (sprD hs p n o) = true := by
  unfold sprD
  split
  · exact flat_ints _
  · rfl
end K13

namespace K13
open PySem PySem.Spec PyProof.Rows L2 Pm
open PySem.W (Datum Tup)
def enI (p : Rw) : D := .tuple [.tuple (p.1.map PyData.int), .int p.2]
def GWs (Ws : List (List Int)) : Prop := ∀ W ∈ Ws, (∀ x ∈ W, 0 ≤ x ∧ x ≤ 100) ∧ 0 < W.sum ∧ Sm 10 W.sum ∧ W.length ≤ 4
theorem lch_row {S : List Ship} {Ws : List (List Int)} {k n : Nat} (hS : S.length = n) (hWs : Ws.length = n) (hk : k < n) (hW : GWs Ws) (x2 x3 x5 x6 x7 x9 x10 x11 : Option D) (X : List Rw) (hX : ∀ p ∈ X, p.1.length ≤ 100) (hXl : X.length ≤ 1000) :
    ∃ y9 y10, forL (gTupD 2 (gsCons (gSet 9) (gsCons (gSet 10) gsNil))) l1__law_chances (X.map enI) [some (.tuple (S.map shD)), some (.list (Ws.map wD)), x2, x3, some (.int (k : Nat)), x5, x6, x7, some (.list []), x9, x10, x11] =
      some (.nx [some (.tuple (S.map shD)), some (.list (Ws.map wD)), x2, x3, some (.int (k : Nat)), x5, x6, x7, some (.list ((stepX (S.getD k (0, 0, 0, 0)).2.1 (Ws.getD k []) X).map enI)), y9, y10, x11]) := by
  have hWm := getD_mem Ws k [] (by omega)
  have i1 := at_map shD S (0, 0, 0, 0) k (by omega)
  have i2 := at_map wD Ws [] k (by omega)
  obtain ⟨w1, w2, w3, w4⟩ := hW _ hWm
  generalize Ws.getD k [] = W at *
  generalize S.getD k (0, 0, 0, 0) = s at *
  have hfl : ∀ p : Rw, ((List.range W.length).map fun i : Nat => (p.1 ++ [s.2.1 + (i : Nat)], p.2 * W.getD i 0)).length = W.length := fun p => by simp
  obtain ⟨ρ', e, y9, y10, he⟩ := forL_fl (N := 100000) (g := gTupD 2 (gsCons (gSet 9) (gsCons (gSet 10) gsNil))) (b := l1__law_chances) enI enI (fun p : Rw => (List.range W.length).map fun i : Nat => (p.1 ++ [s.2.1 + (i : Nat)], p.2 * W.getD i 0))
    (fun acc ρ => ∃ y9 y10, ρ = [some (.tuple (S.map shD)), some (.list (Ws.map wD)), x2, x3, some (.int (k : Nat)), x5, x6, x7, some (.list acc), y9, y10, x11]) X [] [some (.tuple (S.map shD)), some (.list (Ws.map wD)), x2, x3, some (.int (k : Nat)), x5, x6, x7, some (.list []), x9, x10, x11] (fun p hp acc ρ ha ⟨y9, y10, e⟩ => by
      subst e
      have hr := rg0 W.length (by omega)
      have hWl : (W.map PyData.int).length = W.length := List.length_map ..
      have hpl := hX p hp
      have hm : ∀ x11, lcL (gSet 11) tYesP (xTup (xCons (xBin oAdd (xVar 9) (xTup (xCons (xBin oAdd (xBin oIx (xBin oIx (xVar 0) (xVar 4)) (xC (.int 1))) (xVar 11)) xNil))) (xCons (xBin oMul' (xVar 10) (xBin oIx (xBin oIx (xVar 1) (xVar 4)) (xVar 11))) xNil))) [some (.tuple (S.map shD)), some (.list (Ws.map wD)), x2, x3, some (.int (k : Nat)), x5, x6, x7, some (.list acc), some (.tuple (p.1.map PyData.int)), some (.int p.2), x11] ((List.range W.length).map fun k : Nat => PyData.int (k : Nat)) = some (((List.range W.length).map fun i : Nat => (p.1 ++ [s.2.1 + (i : Nat)], p.2 * W.getD i 0)).map enI) := fun x11 => by
        rw [List.map_map]
        refine lcL_map _ _ _ fun j hj => ?_
        have hj' := List.mem_range.mp hj
        have i3 := at_map PyData.int W 0 j hj'
        have hb := w1 _ (getD_mem W j 0 hj')
        have mo : mulOk p.2 (W.getD j 0) = true := mulOk_r _ (by omega)
        have t3 : oAdd (.tuple (p.1.map PyData.int)) (.tuple [.int (s.2.1 + (j : Nat))]) = some (.tuple (p.1.map PyData.int ++ [.int (s.2.1 + (j : Nat))])) := add_tt (by simp; omega)
        generalize S.map shD = SD at *
        generalize Ws.map wD = WD at *
        simp -implicitDefEqProofs only [Function.comp, xVar_a, xC_a, xBin_a, xUn_a, tOf_a, tTru_a, tNotP_a, tAndP_a, tOrP_a, tyes_a, tno_a, tYesP_a, xNil_a, xCons_a, xTup_a, xLst_a, xAnd_a, xOr_a, xIf_a, xChain_a, oNo_a, oAt_a, xSl_a, xCall_a, xSeq_a, xIt_a, xLc_a, gSet_a, gTupD_a, gsNil_a, gsCons_a, sNop_a, sBrk_a, sCnt_a, sSeq_a, sRet_a, sIf_a, sSet_a, sTgt_a, sAug_a, sApp_a, sExt_a, sPut_a, sPutK_a, pkO_s, sFor_a, sWhile_a, sPar_a, runD_a, b2_s, c2_s, sqO_nx, sqO_rt, sqO_bk, sqO_ct, ifO_t, ifO_f, stO_s, endO_nx, endO_rt, andO_t, andO_f, orO_t, orO_f, chO_s, chP_t, chP_f, slO_s, atO_i, lcO_s, forO_s, gsO_s, nxO_s, tgO_s, paO_s, apO_s, exO_s, plO_s, ptO_s, dB_b, tru_b, tru_n, tru_i, tru_l, tru_t, is_n, isn_n, nn_n, nn_i, nn_b, nn_t, nn_l, add_ii, add'_ii, sub_ii, neg_i, lt_ii, le_ii, gt_ii, ge_ii, ix_l, ix_t, ix_s, at0, at1, at2, sl_l, sl_t, len_l, len_t, len_s, abs_i, int_i, int_b, max_ii, min_ii, tup_s, lst_s, seq_l, seq_t, sum_s, wipe_n, wipe_c, mul_ii, fdiv_ii, mod_ii, add_ll, add_tt, setAll, mkT, mkL, oNot, List.getD_cons_zero, List.getD_cons_succ, List.length_cons, List.length_nil, List.set_cons_zero, List.set_cons_succ, List.map_cons, List.map_nil, List.replicate, List.cons_append, List.nil_append, List.append_nil, Option.bind_some, Option.map_some, List.all_cons, List.all_nil, if_true, if_false, reduceIte, Nat.reduceAdd, Nat.reduceSub, Nat.reduceLT, Nat.reduceLeDiff, Nat.reduceEqDiff, decide_true, decide_false, Bool.and_true, Bool.and_self, Bool.true_and, Bool.not_true, Bool.not_false, ne_eq, not_true_eq_false, not_false_eq_true, Nat.zero_add, Bool.false_eq_true, and_self, true_and, and_true, i1, i2, shD, wD, i3, mo, t3, enI, List.map_append]
      have hlen : acc.length + (((List.range W.length).map fun i : Nat => (p.1 ++ [s.2.1 + (i : Nat)], p.2 * W.getD i 0)).map enI).length ≤ 16777216 := by
        rw [List.length_map]
        omega
      refine ⟨[some (.tuple (S.map shD)), some (.list (Ws.map wD)), x2, x3, some (.int (k : Nat)), x5, x6, x7, some (.list acc), some (.tuple (p.1.map PyData.int)), some (.int p.2), x11], [some (.tuple (S.map shD)), some (.list (Ws.map wD)), x2, x3, some (.int (k : Nat)), x5, x6, x7, some (.list (acc ++ ((List.range W.length).map fun i : Nat => (p.1 ++ [s.2.1 + (i : Nat)], p.2 * W.getD i 0)).map enI)), some (.tuple (p.1.map PyData.int)), some (.int p.2), x11], rfl, ?_, _, _, rfl⟩
      generalize (((List.range W.length).map fun i : Nat => (p.1 ++ [s.2.1 + (i : Nat)], p.2 * W.getD i 0)).map enI) = FD at *
      generalize S.map shD = SD at *
      generalize Ws.map wD = WD at *
      simp -implicitDefEqProofs only [l1__law_chances, xVar_a, xC_a, xBin_a, xUn_a, tOf_a, tTru_a, tNotP_a, tAndP_a, tOrP_a, tyes_a, tno_a, tYesP_a, xNil_a, xCons_a, xTup_a, xLst_a, xAnd_a, xOr_a, xIf_a, xChain_a, oNo_a, oAt_a, xSl_a, xCall_a, xSeq_a, xIt_a, xLc_a, gSet_a, gTupD_a, gsNil_a, gsCons_a, sNop_a, sBrk_a, sCnt_a, sSeq_a, sRet_a, sIf_a, sSet_a, sTgt_a, sAug_a, sApp_a, sExt_a, sPut_a, sPutK_a, pkO_s, sFor_a, sWhile_a, sPar_a, runD_a, b2_s, c2_s, sqO_nx, sqO_rt, sqO_bk, sqO_ct, ifO_t, ifO_f, stO_s, endO_nx, endO_rt, andO_t, andO_f, orO_t, orO_f, chO_s, chP_t, chP_f, slO_s, atO_i, lcO_s, forO_s, gsO_s, nxO_s, tgO_s, paO_s, apO_s, exO_s, plO_s, ptO_s, dB_b, tru_b, tru_n, tru_i, tru_l, tru_t, is_n, isn_n, nn_n, nn_i, nn_b, nn_t, nn_l, add_ii, add'_ii, sub_ii, neg_i, lt_ii, le_ii, gt_ii, ge_ii, ix_l, ix_t, ix_s, at0, at1, at2, sl_l, sl_t, len_l, len_t, len_s, abs_i, int_i, int_b, max_ii, min_ii, tup_s, lst_s, seq_l, seq_t, sum_s, wipe_n, wipe_c, mul_ii, fdiv_ii, mod_ii, add_ll, add_tt, setAll, mkT, mkL, oNot, List.getD_cons_zero, List.getD_cons_succ, List.length_cons, List.length_nil, List.set_cons_zero, List.set_cons_succ, List.map_cons, List.map_nil, List.replicate, List.cons_append, List.nil_append, List.append_nil, Option.bind_some, Option.map_some, List.all_cons, List.all_nil, if_true, if_false, reduceIte, Nat.reduceAdd, Nat.reduceSub, Nat.reduceLT, Nat.reduceLeDiff, Nat.reduceEqDiff, decide_true, decide_false, Bool.and_true, Bool.and_self, Bool.true_and, Bool.not_true, Bool.not_false, ne_eq, not_true_eq_false, not_false_eq_true, Nat.zero_add, Bool.false_eq_true, and_self, true_and, and_true, i2, wD, hWl, hr, hm, hlen]) (by
      have := fl_len (fun p : Rw => (List.range W.length).map fun i : Nat => (p.1 ++ [s.2.1 + (i : Nat)], p.2 * W.getD i 0)) 4 X (fun p _ => by rw [hfl]; exact w4)
      simp only [List.length_nil]
      omega) ⟨x9, x10, rfl⟩
  subst he
  rw [List.nil_append] at e
  exact ⟨y9, y10, e⟩
end K13

namespace K13
open PySem PySem.Spec PyProof.Rows L2 Pm
open PySem.W (Datum Tup)
def qk (S : List Ship) (Ws : List (List Int)) (k : Nat) : Ship × List Int := (S.getD k (0, 0, 0, 0), Ws.getD k [])
def CH (S : List Ship) (Ws : List (List Int)) (l : List Nat) : List Rw × Int := l.foldl (fun a k => stepXT a (qk S Ws k)) ([([], 1)], 1)
theorem zip_rng (S : List Ship) (Ws : List (List Int)) {n : Nat} (hS : S.length = n) (hW : Ws.length = n) : (List.range n).map (qk S Ws) = S.zip Ws := by
  apply List.ext_getElem?
  intro i
  by_cases h : i < n
  · simp [qk, h, hS, hW, List.getElem?_zip_eq_some, List.getElem?_map]
  · simp [h, hS, hW]
theorem CH_zip (S : List Ship) (Ws : List (List Int)) {n : Nat} (hS : S.length = n) (hW : Ws.length = n) : CH S Ws (List.range n) = (S.zip Ws).foldl stepXT ([([], 1)], 1) := by
  rw [← zip_rng S Ws hS hW, List.foldl_map]
  rfl
theorem CH_snoc (S : List Ship) (Ws : List (List Int)) (l : List Nat) (k : Nat) : CH S Ws (l ++ [k]) = stepXT (CH S Ws l) (qk S Ws k) := by simp [CH]
theorem CH_gx0 {S : List Ship} {Ws : List (List Int)} {n : Nat} (hWs : Ws.length = n) (hW : GWs Ws) : ∀ (l : List Nat) (m : Nat) (a : List Rw × Int), (∀ k ∈ l, k < n) → GX m a → GX (m + l.length) (l.foldl (fun a k => stepXT a (qk S Ws k)) a)
  | [], m, a, _, g => g
  | k :: l, m, a, h, g => by
    obtain ⟨w1, w2, w3, w4⟩ := hW _ (getD_mem Ws k [] (by rw [hWs]; exact h k (by simp)))
    have := CH_gx0 (S := S) hWs hW l (m + 1) _ (fun j hj => h j (List.mem_cons_of_mem _ hj)) (g.step (qk S Ws k) (fun x hx => (w1 x hx).1) w2 w3 w4)
    rw [List.length_cons, show m + (l.length + 1) = m + 1 + l.length by omega]
    exact this
theorem CH_gx {S : List Ship} {Ws : List (List Int)} {n : Nat} (hWs : Ws.length = n) (hW : GWs Ws) (l : List Nat) (h : ∀ k ∈ l, k < n) : GX l.length (CH S Ws l) := by
  have := CH_gx0 (S := S) hWs hW l 0 ([([], 1)], 1) h ⟨by simp, by simp, by simp, by simp, (show (1 : Int).natAbs ≤ 2 ^ (10 * 0) by decide), by simp⟩
  rwa [Nat.zero_add] at this
theorem lch_step {S : List Ship} {Ws : List (List Int)} {k n : Nat} (hS : S.length = n) (hWs : Ws.length = n) (hk : k < n) (hW : GWs Ws) (x2 x3 x6 x8 x9 x10 x11 : Option D) (A : List Rw × Int) (hX : ∀ p ∈ A.1, p.1.length ≤ 100) (hXl : A.1.length ≤ 1000) :
    ∃ y8 y9 y10, l2__law_chances [some (.tuple (S.map shD)), some (.list (Ws.map wD)), x2, x3, some (.int (k : Nat)), some (.list (A.1.map enI)), x6, some (.int A.2), x8, x9, x10, x11] =
      some (.nx [some (.tuple (S.map shD)), some (.list (Ws.map wD)), x2, x3, some (.int (k : Nat)), some (.list ((stepXT A (qk S Ws k)).1.map enI)), x6, some (.int (stepXT A (qk S Ws k)).2), y8, y9, y10, x11]) := by
  obtain ⟨y9, y10, e⟩ := lch_row hS hWs hk hW x2 x3 (some (.list (A.1.map enI))) x6 (some (.int A.2)) x9 x10 x11 A.1 hX hXl
  have hWm := getD_mem Ws k [] (by omega)
  have i2 := at_map wD Ws [] k (by omega)
  obtain ⟨w1, w2, w3, w4⟩ := hW _ hWm
  have hs := sum_t (Ws.getD k [])
  have hm : mulOk A.2 (Ws.getD k []).sum = true := mulOk_r _ (by
    have h : (Ws.getD k []).sum.natAbs ≤ 2 ^ 10 := w3
    omega)
  refine ⟨some (.list ((stepX (S.getD k (0, 0, 0, 0)).2.1 (Ws.getD k []) A.1).map enI)), y9, y10, ?_⟩
  have e1 : (stepXT A (qk S Ws k)).1 = stepX (S.getD k (0, 0, 0, 0)).2.1 (Ws.getD k []) A.1 := rfl
  have e2 : (stepXT A (qk S Ws k)).2 = A.2 * (Ws.getD k []).sum := rfl
  rw [e1, e2]
  have hs' : (asInts ((Ws.getD k []).map PyData.int)).map (fun ns => PyData.int ns.sum) = some (.int (Ws.getD k []).sum) := hs
  generalize (stepX (S.getD k (0, 0, 0, 0)).2.1 (Ws.getD k []) A.1).map enI = X' at *
  generalize A.1.map enI = X at *
  generalize Ws.getD k [] = W at *
  generalize S.map shD = SD at *
  generalize Ws.map wD = WD at *
  simp -implicitDefEqProofs only [l2__law_chances, xVar_a, xC_a, xBin_a, xUn_a, tOf_a, tTru_a, tNotP_a, tAndP_a, tOrP_a, tyes_a, tno_a, tYesP_a, xNil_a, xCons_a, xTup_a, xLst_a, xAnd_a, xOr_a, xIf_a, xChain_a, oNo_a, oAt_a, xSl_a, xCall_a, xSeq_a, xIt_a, xLc_a, gSet_a, gTupD_a, gsNil_a, gsCons_a, sNop_a, sBrk_a, sCnt_a, sSeq_a, sRet_a, sIf_a, sSet_a, sTgt_a, sAug_a, sApp_a, sExt_a, sPut_a, sPutK_a, pkO_s, sFor_a, sWhile_a, sPar_a, runD_a, b2_s, c2_s, sqO_nx, sqO_rt, sqO_bk, sqO_ct, ifO_t, ifO_f, stO_s, endO_nx, endO_rt, andO_t, andO_f, orO_t, orO_f, chO_s, chP_t, chP_f, slO_s, atO_i, lcO_s, forO_s, gsO_s, nxO_s, tgO_s, paO_s, apO_s, exO_s, plO_s, ptO_s, dB_b, tru_b, tru_n, tru_i, tru_l, tru_t, is_n, isn_n, nn_n, nn_i, nn_b, nn_t, nn_l, add_ii, add'_ii, sub_ii, neg_i, lt_ii, le_ii, gt_ii, ge_ii, ix_l, ix_t, ix_s, at0, at1, at2, sl_l, sl_t, len_l, len_t, len_s, abs_i, int_i, int_b, max_ii, min_ii, tup_s, lst_s, seq_l, seq_t, sum_s, wipe_n, wipe_c, mul_ii, fdiv_ii, mod_ii, add_ll, add_tt, setAll, mkT, mkL, oNot, List.getD_cons_zero, List.getD_cons_succ, List.length_cons, List.length_nil, List.set_cons_zero, List.set_cons_succ, List.map_cons, List.map_nil, List.replicate, List.cons_append, List.nil_append, List.append_nil, Option.bind_some, Option.map_some, List.all_cons, List.all_nil, if_true, if_false, reduceIte, Nat.reduceAdd, Nat.reduceSub, Nat.reduceLT, Nat.reduceLeDiff, Nat.reduceEqDiff, decide_true, decide_false, Bool.and_true, Bool.and_self, Bool.true_and, Bool.not_true, Bool.not_false, ne_eq, not_true_eq_false, not_false_eq_true, Nat.zero_add, Bool.false_eq_true, and_self, true_and, and_true, e, i2, wD, hs', hm]
def sumK (S : List Ship) (p : List Int) (o : List Nat) (X : List Rw) : Int := ((X.filter fun q => kp q.1 p 0 o).map (·.2)).sum
theorem lch_sum {p : List Int} {n : Nat} (hn : n ≤ 100) (hp : p.length = n) {o : List Nat} (ho : o.Perm (List.range n)) (x0 x1 x4 x5 x7 x8 x11 : Option D) (X : List Rw) (hX : ∀ q ∈ X, q.1.length = n) :
    ∀ x9 x10, ∃ y9 y10, forL (gTupD 2 (gsCons (gSet 9) (gsCons (gSet 10) gsNil))) l3__law_chances (X.map enI) [x0, x1, some (.list (p.map PyData.int)), some (oD o), x4, x5, some (.int 0), x7, x8, x9, x10, x11] =
      some (.nx [x0, x1, some (.list (p.map PyData.int)), some (oD o), x4, x5, some (.int (sumK [] p o X)), x7, x8, y9, y10, x11]) := fun x9 x10 => by
  obtain ⟨ρ', e, h⟩ := forL_inv (g := gTupD 2 (gsCons (gSet 9) (gsCons (gSet 10) gsNil))) (b := l3__law_chances) enI
    (fun pre rest ρ => pre ++ rest = X ∧ ∃ y9 y10, ρ = [x0, x1, some (.list (p.map PyData.int)), some (oD o), x4, x5, some (.int (sumK [] p o pre)), x7, x8, y9, y10, x11]) (fun pre q rest ρ ⟨hq, y9, y10, e⟩ => by
      subst e
      have hql := hX q (by rw [← hq]; simp)
      have hk : d__law_kept [.tuple (q.1.map PyData.int), .list (p.map PyData.int), oD o] = some (.bool (kp q.1 p 0 o)) := law_kept_eq false q.1 p o n hql hp hn ho
      refine ⟨[x0, x1, some (.list (p.map PyData.int)), some (oD o), x4, x5, some (.int (sumK [] p o pre)), x7, x8, some (.tuple (q.1.map PyData.int)), some (.int q.2), x11], [x0, x1, some (.list (p.map PyData.int)), some (oD o), x4, x5, some (.int (sumK [] p o (pre ++ [q]))), x7, x8, some (.tuple (q.1.map PyData.int)), some (.int q.2), x11], rfl, .inl ?_, by rw [List.append_assoc]; exact hq, _, _, rfl⟩
      by_cases hc : kp q.1 p 0 o = true
      · have hg : sumK [] p o (pre ++ [q]) = sumK [] p o pre + q.2 := by simp [sumK, hc]
        rw [hg]
        rw [hc] at hk
        generalize p.map PyData.int = PD at *
        simp -implicitDefEqProofs only [l3__law_chances, xVar_a, xC_a, xBin_a, xUn_a, tOf_a, tTru_a, tNotP_a, tAndP_a, tOrP_a, tyes_a, tno_a, tYesP_a, xNil_a, xCons_a, xTup_a, xLst_a, xAnd_a, xOr_a, xIf_a, xChain_a, oNo_a, oAt_a, xSl_a, xCall_a, xSeq_a, xIt_a, xLc_a, gSet_a, gTupD_a, gsNil_a, gsCons_a, sNop_a, sBrk_a, sCnt_a, sSeq_a, sRet_a, sIf_a, sSet_a, sTgt_a, sAug_a, sApp_a, sExt_a, sPut_a, sPutK_a, pkO_s, sFor_a, sWhile_a, sPar_a, runD_a, b2_s, c2_s, sqO_nx, sqO_rt, sqO_bk, sqO_ct, ifO_t, ifO_f, stO_s, endO_nx, endO_rt, andO_t, andO_f, orO_t, orO_f, chO_s, chP_t, chP_f, slO_s, atO_i, lcO_s, forO_s, gsO_s, nxO_s, tgO_s, paO_s, apO_s, exO_s, plO_s, ptO_s, dB_b, tru_b, tru_n, tru_i, tru_l, tru_t, is_n, isn_n, nn_n, nn_i, nn_b, nn_t, nn_l, add_ii, add'_ii, sub_ii, neg_i, lt_ii, le_ii, gt_ii, ge_ii, ix_l, ix_t, ix_s, at0, at1, at2, sl_l, sl_t, len_l, len_t, len_s, abs_i, int_i, int_b, max_ii, min_ii, tup_s, lst_s, seq_l, seq_t, sum_s, wipe_n, wipe_c, mul_ii, fdiv_ii, mod_ii, add_ll, add_tt, setAll, mkT, mkL, oNot, List.getD_cons_zero, List.getD_cons_succ, List.length_cons, List.length_nil, List.set_cons_zero, List.set_cons_succ, List.map_cons, List.map_nil, List.replicate, List.cons_append, List.nil_append, List.append_nil, Option.bind_some, Option.map_some, List.all_cons, List.all_nil, if_true, if_false, reduceIte, Nat.reduceAdd, Nat.reduceSub, Nat.reduceLT, Nat.reduceLeDiff, Nat.reduceEqDiff, decide_true, decide_false, Bool.and_true, Bool.and_self, Bool.true_and, Bool.not_true, Bool.not_false, ne_eq, not_true_eq_false, not_false_eq_true, Nat.zero_add, Bool.false_eq_true, and_self, true_and, and_true, hk]
      · have hc' : kp q.1 p 0 o = false := by simpa using hc
        have hg : sumK [] p o (pre ++ [q]) = sumK [] p o pre := by simp [sumK, hc']
        rw [hg]
        rw [hc'] at hk
        generalize p.map PyData.int = PD at *
        simp -implicitDefEqProofs only [l3__law_chances, xVar_a, xC_a, xBin_a, xUn_a, tOf_a, tTru_a, tNotP_a, tAndP_a, tOrP_a, tyes_a, tno_a, tYesP_a, xNil_a, xCons_a, xTup_a, xLst_a, xAnd_a, xOr_a, xIf_a, xChain_a, oNo_a, oAt_a, xSl_a, xCall_a, xSeq_a, xIt_a, xLc_a, gSet_a, gTupD_a, gsNil_a, gsCons_a, sNop_a, sBrk_a, sCnt_a, sSeq_a, sRet_a, sIf_a, sSet_a, sTgt_a, sAug_a, sApp_a, sExt_a, sPut_a, sPutK_a, pkO_s, sFor_a, sWhile_a, sPar_a, runD_a, b2_s, c2_s, sqO_nx, sqO_rt, sqO_bk, sqO_ct, ifO_t, ifO_f, stO_s, endO_nx, endO_rt, andO_t, andO_f, orO_t, orO_f, chO_s, chP_t, chP_f, slO_s, atO_i, lcO_s, forO_s, gsO_s, nxO_s, tgO_s, paO_s, apO_s, exO_s, plO_s, ptO_s, dB_b, tru_b, tru_n, tru_i, tru_l, tru_t, is_n, isn_n, nn_n, nn_i, nn_b, nn_t, nn_l, add_ii, add'_ii, sub_ii, neg_i, lt_ii, le_ii, gt_ii, ge_ii, ix_l, ix_t, ix_s, at0, at1, at2, sl_l, sl_t, len_l, len_t, len_s, abs_i, int_i, int_b, max_ii, min_ii, tup_s, lst_s, seq_l, seq_t, sum_s, wipe_n, wipe_c, mul_ii, fdiv_ii, mod_ii, add_ll, add_tt, setAll, mkT, mkL, oNot, List.getD_cons_zero, List.getD_cons_succ, List.length_cons, List.length_nil, List.set_cons_zero, List.set_cons_succ, List.map_cons, List.map_nil, List.replicate, List.cons_append, List.nil_append, List.append_nil, Option.bind_some, Option.map_some, List.all_cons, List.all_nil, if_true, if_false, reduceIte, Nat.reduceAdd, Nat.reduceSub, Nat.reduceLT, Nat.reduceLeDiff, Nat.reduceEqDiff, decide_true, decide_false, Bool.and_true, Bool.and_self, Bool.true_and, Bool.not_true, Bool.not_false, ne_eq, not_true_eq_false, not_false_eq_true, Nat.zero_add, Bool.false_eq_true, and_self, true_and, and_true, hk]) X [] [x0, x1, some (.list (p.map PyData.int)), some (oD o), x4, x5, some (.int 0), x7, x8, x9, x10, x11] ⟨rfl, x9, x10, rfl⟩
  obtain ⟨_, y9, y10, e'⟩ := h
  subst e'
  exact ⟨y9, y10, e⟩
theorem law_chances_eq {S : List Ship} {Ws : List (List Int)} {p : List Int} {n : Nat} (hS : S.length = n) (hWs : Ws.length = n) (hW : GWs Ws) (h4 : n ≤ 4) (hp : p.length = n) {o : List Nat} (ho : o.Perm (List.range n)) :
    d__law_chances [.tuple (S.map shD), .list (Ws.map wD), .list (p.map PyData.int), oD o] = some (fr (sumK [] p o (CH S Ws (List.range n)).1) (CH S Ws (List.range n)).2) := by
  obtain ⟨ρ', e, h⟩ := forL_inv (g := gSet 4) (b := l2__law_chances) (fun k : Nat => PyData.int (k : Nat))
    (fun pre rest ρ => pre ++ rest = List.range n ∧ ∃ x4 x8 x9 x10, ρ = [some (.tuple (S.map shD)), some (.list (Ws.map wD)), some (.list (p.map PyData.int)), some (oD o), x4, some (.list ((CH S Ws pre).1.map enI)), some (.int 0), some (.int (CH S Ws pre).2), x8, x9, x10, none]) (fun pre k rest ρ ⟨hq, x4, x8, x9, x10, e⟩ => by
      subst e
      have hmem : ∀ j ∈ pre, j < n := fun j hj => List.mem_range.mp (by rw [← hq]; simp [hj])
      have hk : k < n := List.mem_range.mp (by rw [← hq]; simp)
      have hpl : pre.length ≤ 3 := by
        have := congrArg List.length hq
        simp at this
        omega
      have g := CH_gx (S := S) hWs hW pre hmem
      have hc : (CH S Ws pre).1.length ≤ 64 := Nat.le_trans g.cnt (Nat.le_trans (Nat.pow_le_pow_right (by decide) hpl) (by decide))
      obtain ⟨y8, y9, y10, st⟩ := lch_step hS hWs hk hW (some (.list (p.map PyData.int))) (some (oD o)) (some (.int 0)) x8 x9 x10 none (CH S Ws pre) (fun q hq => by rw [g.len q hq]; omega) (by omega)
      rw [← CH_snoc] at st
      exact ⟨_, _, rfl, .inl st, by rw [List.append_assoc]; exact hq, some (.int (k : Nat)), y8, y9, y10, rfl⟩) (List.range n) [] [some (.tuple (S.map shD)), some (.list (Ws.map wD)), some (.list (p.map PyData.int)), some (oD o), none, some (.list [.tuple [.tuple [], .int 1]]), some (.int 0), some (.int 1), none, none, none, none] ⟨rfl, none, none, none, none, rfl⟩
  obtain ⟨_, x4, x8, x9, x10, e'⟩ := h
  subst e'
  rw [List.nil_append] at e
  have g := CH_gx (S := S) hWs hW (List.range n) fun k hk => List.mem_range.mp hk
  rw [List.length_range] at g
  obtain ⟨y9, y10, e2⟩ := lch_sum (by omega) hp ho (some (.tuple (S.map shD))) (some (.list (Ws.map wD))) x4 (some (.list ((CH S Ws (List.range n)).1.map enI))) (some (.int (CH S Ws (List.range n)).2)) x8 none (CH S Ws (List.range n)).1 g.len x9 x10
  have hr := ratio_eq (sumK [] p o (CH S Ws (List.range n)).1) (CH S Ws (List.range n)).2 g.tp (g.ts.mono (by omega))
  have hrg := rg0 n (by omega)
  have hl : (S.map shD).length = n := by simpa using hS
  have hf := flat_fr (sumK [] p o (CH S Ws (List.range n)).1) (CH S Ws (List.range n)).2
  generalize (CH S Ws (List.range n)).1.map enI = X at *
  generalize sumK [] p o (CH S Ws (List.range n)).1 = T at *
  generalize (CH S Ws (List.range n)).2 = U at *
  generalize fr T U = F at *
  generalize S.map shD = SD at *
  generalize Ws.map wD = WD at *
  generalize p.map PyData.int = PD at *
  generalize (List.range n).map (fun k : Nat => PyData.int (k : Nat)) = R at *
  simp -implicitDefEqProofs only [d__law_chances, g__law_chances, xVar_a, xC_a, xBin_a, xUn_a, tOf_a, tTru_a, tNotP_a, tAndP_a, tOrP_a, tyes_a, tno_a, tYesP_a, xNil_a, xCons_a, xTup_a, xLst_a, xAnd_a, xOr_a, xIf_a, xChain_a, oNo_a, oAt_a, xSl_a, xCall_a, xSeq_a, xIt_a, xLc_a, gSet_a, gTupD_a, gsNil_a, gsCons_a, sNop_a, sBrk_a, sCnt_a, sSeq_a, sRet_a, sIf_a, sSet_a, sTgt_a, sAug_a, sApp_a, sExt_a, sPut_a, sPutK_a, pkO_s, sFor_a, sWhile_a, sPar_a, runD_a, b2_s, c2_s, sqO_nx, sqO_rt, sqO_bk, sqO_ct, ifO_t, ifO_f, stO_s, endO_nx, endO_rt, andO_t, andO_f, orO_t, orO_f, chO_s, chP_t, chP_f, slO_s, atO_i, lcO_s, forO_s, gsO_s, nxO_s, tgO_s, paO_s, apO_s, exO_s, plO_s, ptO_s, dB_b, tru_b, tru_n, tru_i, tru_l, tru_t, is_n, isn_n, nn_n, nn_i, nn_b, nn_t, nn_l, add_ii, add'_ii, sub_ii, neg_i, lt_ii, le_ii, gt_ii, ge_ii, ix_l, ix_t, ix_s, at0, at1, at2, sl_l, sl_t, len_l, len_t, len_s, abs_i, int_i, int_b, max_ii, min_ii, tup_s, lst_s, seq_l, seq_t, sum_s, wipe_n, wipe_c, mul_ii, fdiv_ii, mod_ii, add_ll, add_tt, setAll, mkT, mkL, oNot, List.getD_cons_zero, List.getD_cons_succ, List.length_cons, List.length_nil, List.set_cons_zero, List.set_cons_succ, List.map_cons, List.map_nil, List.replicate, List.cons_append, List.nil_append, List.append_nil, Option.bind_some, Option.map_some, List.all_cons, List.all_nil, if_true, if_false, reduceIte, Nat.reduceAdd, Nat.reduceSub, Nat.reduceLT, Nat.reduceLeDiff, Nat.reduceEqDiff, decide_true, decide_false, Bool.and_true, Bool.and_self, Bool.true_and, Bool.not_true, Bool.not_false, ne_eq, not_true_eq_false, not_false_eq_true, Nat.zero_add, Bool.false_eq_true, and_self, true_and, and_true, hl, hrg, e, e2, hr, hf]
theorem CH_nn {S : List Ship} {Ws : List (List Int)} (hS : ∀ k, 0 ≤ (S.getD k (0, 0, 0, 0)).2.1) : ∀ (l : List Nat) (a : List Rw × Int), (∀ q ∈ a.1, ∀ x ∈ q.1, 0 ≤ x) → ∀ q ∈ (l.foldl (fun a k => stepXT a (qk S Ws k)) a).1, ∀ x ∈ q.1, 0 ≤ x
  | [], a, h => h
  | k :: l, a, h => by
    refine CH_nn hS l _ fun q hq x hx => ?_
    simp only [stepXT, stepX, List.mem_flatMap, List.mem_map, List.mem_range] at hq
    obtain ⟨q0, hq0, i, hi, rfl⟩ := hq
    rcases List.mem_append.mp hx with hx | hx
    · exact h q0 hq0 x hx
    · have : x = (qk S Ws k).1.2.1 + (i : Nat) := by simpa using hx
      have h2 := hS k
      have h3 : (qk S Ws k).1.2.1 = (S.getD k (0, 0, 0, 0)).2.1 := rfl
      omega
theorem chances_same {S : List Ship} {Ws : List (List Int)} {n : Nat} (hS : OkS n S) (hWs : Ws.length = n) (hW : GWs Ws) (h4 : n ≤ 4) {o : List Nat} (ho : o.Perm (List.range n)) :
    d_chance_kept [.tuple (S.map shD), .tuple (Ws.map wD), oD o] = some (fr (sumK [] (prm S) o (CH S Ws (List.range n)).1) (CH S Ws (List.range n)).2) := by
  have h := chance_kept_eq S Ws o (by rw [hS.len, hWs]) (by rw [hS.len]; omega) (fun W hw => ⟨fun x hx => ((hW W hw).1 x hx).1, (hW W hw).2⟩) (fun j hj => by rw [hS.len]; exact pr_lt ho j hj) (pr_nd ho) (by rw [pr_len ho]; omega)
  rw [← CH_zip S Ws hS.len hWs] at h
  have g := CH_gx (S := S) hWs hW (List.range n) fun k hk => List.mem_range.mp hk
  have e : goodSum S o (CH S Ws (List.range n)).1 = sumK [] (prm S) o (CH S Ws (List.range n)).1 := by
    unfold goodSum sumK
    congr 2
    refine List.filter_congr fun q hq => ?_
    refine keeps0_kp S q.1 hS.z (CH_nn (fun k => ?_) (List.range n) ([([], 1)], 1) (by simp) q hq) o 0 (Int.le_refl 0)
    by_cases hk : k < S.length
    · exact hS.lo _ (getD_mem S k _ hk)
    · simp [hk]
  rw [e] at h
  exact h
end K13

namespace K13
open PySem PySem.Spec PyProof.Rows L2 Pm
open PySem.W (Datum Tup)
def uT : XS :=
  (sSeq (sPar [11, 12] (xCons (xCall (fun ds => if ds.length = 2 then (d__law_ends) ds else none) (xCons (xVar 2) (xCons (xVar 8) xNil))) (xCons (xCall (fun ds => if ds.length = 2 then (d__law_ends) ds else none) (xCons (xVar 4) (xCons (xVar 8) xNil))) xNil)))
  (sSeq (sIf (tNotP (tTru (xCall (fun ds => if ds.length = 2 then (d__law_like 8) ds else none) (xCons (xCall (fun ds => if ds.length = 2 then ((d_keeps_surely) ds).bind fun d => if flat d then some d else none else none) (xCons (xVar 9) (xCons (xVar 8) xNil))) (xCons (xBin oIn (xVar 8) (xVar 7)) xNil))))) (sRet (xC (.bool false))) sNop)
  (sSeq (sIf (tNotP (tTru (xCall (fun ds => if ds.length = 2 then (d__law_like 8) ds else none) (xCons (xCall (fun ds => if ds.length = 2 then ((d_may_keep) ds).bind fun d => if flat d then some d else none else none) (xCons (xVar 9) (xCons (xVar 8) xNil))) (xCons (xCall (fun ds => if ds.length = 3 then (d__law_kept) ds else none) (xCons (xVar 2) (xCons (xVar 3) (xCons (xVar 8) xNil)))) xNil))))) (sRet (xC (.bool false))) sNop)
  (sSeq (sIf (tNotP (tTru (xCall (fun ds => if ds.length = 2 then (d__law_like 8) ds else none) (xCons (xCall (fun ds => if ds.length = 2 then ((d_end_bounds) ds).bind fun d => if flat d then some d else none else none) (xCons (xVar 9) (xCons (xVar 8) xNil))) (xCons (xCall bTuple (xCons (xLc (xIt oR1 (xCons (xVar 1) xNil)) (gSet 5) tYesP (xTup (xCons (xBin oIx (xVar 11) (xVar 5)) (xCons (xBin oIx (xVar 12) (xVar 5)) xNil))) [5]) xNil)) xNil))))) (sRet (xC (.bool false))) sNop)
  (sSeq (sIf (tNotP (tTru (xCall (fun ds => if ds.length = 2 then (d__law_like 8) ds else none) (xCons (xCall (fun ds => if ds.length = 2 then ((d_sure_plan) ds).bind fun d => if flat d then some d else none else none) (xCons (xVar 9) (xCons (xVar 8) xNil))) (xCons (xCall bTuple (xCons (xLc (xIt oR1 (xCons (xVar 1) xNil)) (gSet 5) tYesP (xBin oSub (xBin oAdd (xBin oIx (xVar 12) (xVar 5)) (xC (.int 1))) (xBin oIx (xVar 4) (xVar 5))) [5]) xNil)) xNil))))) (sRet (xC (.bool false))) sNop)
  (sSeq (sIf (tNotP (tTru (xCall (fun ds => if ds.length = 2 then (d__law_like 8) ds else none) (xCons (xCall (fun ds => if ds.length = 2 then ((d_spare_days) ds).bind fun d => if flat d then some d else none else none) (xCons (xVar 9) (xCons (xVar 8) xNil))) (xCons (xCall (fun ds => if ds.length = 3 then (d__law_spare) ds else none) (xCons (xVar 4) (xCons (xVar 3) (xCons (xVar 8) xNil)))) xNil))))) (sRet (xC (.bool false))) sNop)
  (sRet (xCall (fun ds => if ds.length = 2 then (d__law_like 8) ds else none) (xCons (xCall (fun ds => if ds.length = 3 then ((d_chance_kept) ds).bind fun d => if flat d then some d else none else none) (xCons (xVar 9) (xCons (xCall bTuple (xCons (xVar 10) xNil)) (xCons (xVar 8) xNil)))) (xCons (xCall (fun ds => if ds.length = 4 then ((d__law_chances) ds).bind fun d => if flat d then some d else none else none) (xCons (xVar 9) (xCons (xVar 10) (xCons (xVar 3) (xCons (xVar 8) xNil))))) xNil))))))))))
theorem g_unsure_eq : g__law_unsure =
  (sSeq (sSet 4 (xLc (xIt oR1 (xCons (xVar 1) xNil)) (gSet 5) tYesP (xBin oAdd (xBin oIx (xVar 2) (xVar 5)) (xBin oMod (xCall bInt (xCons (xBin oIx (xVar 0) (xBin oAdd (xC (.int 17)) (xVar 5))) xNil)) (xC (.int 3)))) [5]))
  (sSeq (sPar [9, 10] (xCons (xCall bTuple (xCons (xLc (xIt oR1 (xCons (xVar 1) xNil)) (gSet 5) tYesP (xTup (xCons (xC (.int 0)) (xCons (xBin oIx (xVar 2) (xVar 5)) (xCons (xBin oIx (xVar 4) (xVar 5)) (xCons (xBin oIx (xVar 3) (xVar 5)) xNil))))) [5]) xNil)) (xCons (xLst xNil) xNil)))
  (sSeq (sFor (xIt oR1 (xCons (xVar 1) xNil)) (gSet 5) l1__law_unsure)
  (sSeq (sSet 6 (xCall (fun ds => if ds.length = 1 then (d__law_orders) ds else none) (xCons (xVar 1) xNil)))
  (sSeq (sSet 7 (xLc (xSeq (xVar 6)) (gSet 8) (tTru (xCall (fun ds => if ds.length = 3 then ((d__law_kept) ds).bind fun d => if flat d then some d else none else none) (xCons (xVar 4) (xCons (xVar 3) (xCons (xVar 8) xNil))))) (xVar 8) [8]))
  (sSeq (sIf (tNotP (tTru (xCall (fun ds => if ds.length = 2 then (d__law_like 8) ds else none) (xCons (xCall (fun ds => if ds.length = 1 then ((d_sure_orders) ds).bind fun d => if flat d then some d else none else none) (xCons (xVar 9) xNil)) (xCons (xCall bTuple (xCons (xVar 7) xNil)) xNil))))) (sRet (xC (.bool false))) sNop)
  (sSeq (sSet 8 (xBin oIx (xVar 6) (xBin oMod (xCall bInt (xCons (xBin oIx (xVar 0) (xC (.int 33))) xNil)) (xCall bLen (xCons (xVar 6) xNil)))))
  (sSeq (sIf (tAndP (tOf (xBin oGt (xCall bLen (xCons (xVar 7) xNil)) (xC (.int 0)))) (tOf (xBin oEq (xBin oMod (xCall bInt (xCons (xBin oIx (xVar 0) (xC (.int 34))) xNil)) (xC (.int 2))) (xC (.int 0))))) (sSeq (sSet 8 (xBin oIx (xVar 7) (xBin oMod (xCall bInt (xCons (xBin oIx (xVar 0) (xC (.int 33))) xNil)) (xCall bLen (xCons (xVar 7) xNil)))))
  sNop) sNop)
  uT)))))))) := rfl
theorem unsure_tail (n : Nat) (LD PD HD GD SD WD LE HE NR EB SP : List D) (o Q F : D) (K K2 : Bool) (hrng : oR1 [.int (n : Nat)] = some NR)
    (e1 : d__law_ends [.list LD, o] = some (.list LE)) (e2 : d__law_ends [.list HD, o] = some (.list HE)) (k1 : d_keeps_surely [.tuple SD, o] = some (.bool K)) (k2 : oIn o (.list GD) = some (.bool K)) (k3 : d_may_keep [.tuple SD, o] = some (.bool K2)) (k4 : d__law_kept [.list LD, .list PD, o] = some (.bool K2))
    (c3 : ∀ x0 x1 x2 x3 x4 x6 x7 x8 x9 x10 x13, lcL (gSet 5) tYesP (xTup (xCons (xBin oIx (xVar 11) (xVar 5)) (xCons (xBin oIx (xVar 12) (xVar 5)) xNil))) [x0, x1, x2, x3, x4, none, x6, x7, x8, x9, x10, some (.list LE), some (.list HE), x13] NR = some EB)
    (c4 : ∀ x0 x1 x2 x3 x6 x7 x8 x9 x10 x11 x13, lcL (gSet 5) tYesP (xBin oSub (xBin oAdd (xBin oIx (xVar 12) (xVar 5)) (xC (.int 1))) (xBin oIx (xVar 4) (xVar 5))) [x0, x1, x2, x3, some (.list HD), none, x6, x7, x8, x9, x10, x11, some (.list HE), x13] NR = some SP)
    (b1 : d_end_bounds [.tuple SD, o] = some (.tuple EB)) (b2 : flat (.tuple EB) = true) (b3 : d__law_like 8 [.tuple EB, .tuple EB] = some (.bool true))
    (p1 : d_sure_plan [.tuple SD, o] = some (.tuple SP)) (p2 : flat (.tuple SP) = true) (p3 : d__law_like 8 [.tuple SP, .tuple SP] = some (.bool true))
    (q1 : d_spare_days [.tuple SD, o] = some Q) (q2 : flat Q = true) (q3 : d__law_spare [.list HD, .list PD, o] = some Q) (q4 : d__law_like 8 [Q, Q] = some (.bool true))
    (f1 : d_chance_kept [.tuple SD, .tuple WD, o] = some F) (f2 : flat F = true) (f3 : d__law_chances [.tuple SD, .list WD, .list PD, o] = some F) (f4 : d__law_like 8 [F, F] = some (.bool true)) (x0 x5 x6 x11 x12 x13 : Option D) :
    uT [x0, some (.int (n : Nat)), some (.list LD), some (.list PD), some (.list HD), x5, x6, some (.list GD), some (o), some (.tuple SD), some (.list WD), x11, x12, x13] = some (.rt (.bool true)) := by
  have hb := flat_bool
  have z1 := like_bool 7 K
  have z2 := like_bool 7 K2
  simp -implicitDefEqProofs only [uT, xVar_a, xC_a, xBin_a, xUn_a, tOf_a, tTru_a, tNotP_a, tAndP_a, tOrP_a, tyes_a, tno_a, tYesP_a, xNil_a, xCons_a, xTup_a, xLst_a, xAnd_a, xOr_a, xIf_a, xChain_a, oNo_a, oAt_a, xSl_a, xCall_a, xSeq_a, xIt_a, xLc_a, gSet_a, gTupD_a, gsNil_a, gsCons_a, sNop_a, sBrk_a, sCnt_a, sSeq_a, sRet_a, sIf_a, sSet_a, sTgt_a, sAug_a, sApp_a, sExt_a, sPut_a, sPutK_a, pkO_s, sFor_a, sWhile_a, sPar_a, runD_a, b2_s, c2_s, sqO_nx, sqO_rt, sqO_bk, sqO_ct, ifO_t, ifO_f, stO_s, endO_nx, endO_rt, andO_t, andO_f, orO_t, orO_f, chO_s, chP_t, chP_f, slO_s, atO_i, lcO_s, forO_s, gsO_s, nxO_s, tgO_s, paO_s, apO_s, exO_s, plO_s, ptO_s, dB_b, tru_b, tru_n, tru_i, tru_l, tru_t, is_n, isn_n, nn_n, nn_i, nn_b, nn_t, nn_l, add_ii, add'_ii, sub_ii, neg_i, lt_ii, le_ii, gt_ii, ge_ii, ix_l, ix_t, ix_s, at0, at1, at2, sl_l, sl_t, len_l, len_t, len_s, abs_i, int_i, int_b, max_ii, min_ii, tup_s, lst_s, seq_l, seq_t, sum_s, wipe_n, wipe_c, mul_ii, fdiv_ii, mod_ii, add_ll, add_tt, setAll, mkT, mkL, oNot, List.getD_cons_zero, List.getD_cons_succ, List.length_cons, List.length_nil, List.set_cons_zero, List.set_cons_succ, List.map_cons, List.map_nil, List.replicate, List.cons_append, List.nil_append, List.append_nil, Option.bind_some, Option.map_some, List.all_cons, List.all_nil, if_true, if_false, reduceIte, Nat.reduceAdd, Nat.reduceSub, Nat.reduceLT, Nat.reduceLeDiff, Nat.reduceEqDiff, decide_true, decide_false, Bool.and_true, Bool.and_self, Bool.true_and, Bool.not_true, Bool.not_false, ne_eq, not_true_eq_false, not_false_eq_true, Nat.zero_add, Bool.false_eq_true, and_self, true_and, and_true, hrng, e1, e2, k1, k2, k3, k4, c3, c4, b1, b2, b3, p1, p2, p3, q1, q2, q3, q4, f1, f2, f3, f4, hb, z1, z2]
theorem unsure_core (n ol gl : Nat) (RW LD PD HD GD SD WD NR ORL : List D) (oa : D) (v33 v34 : Int) (y5 y13 : Option D) (hrng : oR1 [.int (n : Nat)] = some NR)
    (c0 : ∀ x1 x3 x4 x6 x7 x8 x9 x10 x11 x12 x13, lcL (gSet 5) tYesP (xBin oAdd (xBin oIx (xVar 2) (xVar 5)) (xBin oMod (xCall bInt (xCons (xBin oIx (xVar 0) (xBin oAdd (xC (.int 17)) (xVar 5))) xNil)) (xC (.int 3)))) [some (.list RW), x1, some (.list LD), x3, x4, none, x6, x7, x8, x9, x10, x11, x12, x13] NR = some HD)
    (c1 : ∀ x0 x1 x6 x7 x8 x9 x10 x11 x12 x13, lcL (gSet 5) tYesP (xTup (xCons (xC (.int 0)) (xCons (xBin oIx (xVar 2) (xVar 5)) (xCons (xBin oIx (xVar 4) (xVar 5)) (xCons (xBin oIx (xVar 3) (xVar 5)) xNil))))) [x0, x1, some (.list LD), some (.list PD), some (.list HD), none, x6, x7, x8, x9, x10, x11, x12, x13] NR = some SD)
    (c2 : ∀ x0 x1 x2 x5 x6 x7 x9 x10 x11 x12 x13, lcL (gSet 8) (tTru (xCall (fun ds => if ds.length = 3 then ((d__law_kept) ds).bind fun d => if flat d then some d else none else none) (xCons (xVar 4) (xCons (xVar 3) (xCons (xVar 8) xNil))))) (xVar 8) [x0, x1, x2, some (.list PD), some (.list HD), x5, x6, x7, none, x9, x10, x11, x12, x13] ORL = some GD)
    (loop : forL (gSet 5) l1__law_unsure NR [some (.list RW), some (.int (n : Nat)), some (.list LD), some (.list PD), some (.list HD), none, none, none, none, some (.tuple SD), some (.list []), none, none, none] = some (.nx [some (.list RW), some (.int (n : Nat)), some (.list LD), some (.list PD), some (.list HD), y5, none, none, none, some (.tuple SD), some (.list WD), none, none, y13]))
    (ho : d__law_orders [.int (n : Nat)] = some (.list ORL)) (s1 : d_sure_orders [.tuple SD] = some (.tuple GD)) (s2 : flat (.tuple GD) = true) (s3 : d__law_like 8 [.tuple GD, .tuple GD] = some (.bool true))
    (i33 : atI RW 33 = some (.int v33)) (i34 : atI RW 34 = some (.int v34)) (hl : ORL.length = ol) (hol : (ol : Int) ≠ 0) (hgl : GD.length = gl) (a1 : atI ORL (v33.fmod ol) = some oa)
    (a2 : (0 : Int) < (gl : Int) → ∃ ob, atI GD (v33.fmod gl) = some ob ∧ ∀ x5 x11 x12 x13, uT [some (.list RW), some (.int (n : Nat)), some (.list LD), some (.list PD), some (.list HD), x5, some (.list ORL), some (.list GD), some (ob), some (.tuple SD), some (.list WD), x11, x12, x13] = some (.rt (.bool true)))
    (a3 : ∀ x5 x11 x12 x13, uT [some (.list RW), some (.int (n : Nat)), some (.list LD), some (.list PD), some (.list HD), x5, some (.list ORL), some (.list GD), some (oa), some (.tuple SD), some (.list WD), x11, x12, x13] = some (.rt (.bool true))) :
    d__law_unsure [.list RW, .int (n : Nat), .list LD, .list PD] = some (.bool true) := by
  have n2 : (2 : Int) ≠ 0 := by decide
  by_cases hg : (0 : Int) < (gl : Int)
  · obtain ⟨ob, w1, w2⟩ := a2 hg
    have hgn : (gl : Int) ≠ 0 := by omega
    by_cases he : v34.fmod 2 = 0
    · simp -implicitDefEqProofs only [d__law_unsure, g_unsure_eq, xVar_a, xC_a, xBin_a, xUn_a, tOf_a, tTru_a, tNotP_a, tAndP_a, tOrP_a, tyes_a, tno_a, tYesP_a, xNil_a, xCons_a, xTup_a, xLst_a, xAnd_a, xOr_a, xIf_a, xChain_a, oNo_a, oAt_a, xSl_a, xCall_a, xSeq_a, xIt_a, xLc_a, gSet_a, gTupD_a, gsNil_a, gsCons_a, sNop_a, sBrk_a, sCnt_a, sSeq_a, sRet_a, sIf_a, sSet_a, sTgt_a, sAug_a, sApp_a, sExt_a, sPut_a, sPutK_a, pkO_s, sFor_a, sWhile_a, sPar_a, runD_a, b2_s, c2_s, sqO_nx, sqO_rt, sqO_bk, sqO_ct, ifO_t, ifO_f, stO_s, endO_nx, endO_rt, andO_t, andO_f, orO_t, orO_f, chO_s, chP_t, chP_f, slO_s, atO_i, lcO_s, forO_s, gsO_s, nxO_s, tgO_s, paO_s, apO_s, exO_s, plO_s, ptO_s, dB_b, tru_b, tru_n, tru_i, tru_l, tru_t, is_n, isn_n, nn_n, nn_i, nn_b, nn_t, nn_l, add_ii, add'_ii, sub_ii, neg_i, lt_ii, le_ii, gt_ii, ge_ii, ix_l, ix_t, ix_s, at0, at1, at2, sl_l, sl_t, len_l, len_t, len_s, abs_i, int_i, int_b, max_ii, min_ii, tup_s, lst_s, seq_l, seq_t, sum_s, wipe_n, wipe_c, mul_ii, fdiv_ii, mod_ii, add_ll, add_tt, setAll, mkT, mkL, oNot, List.getD_cons_zero, List.getD_cons_succ, List.length_cons, List.length_nil, List.set_cons_zero, List.set_cons_succ, List.map_cons, List.map_nil, List.replicate, List.cons_append, List.nil_append, List.append_nil, Option.bind_some, Option.map_some, List.all_cons, List.all_nil, if_true, if_false, reduceIte, Nat.reduceAdd, Nat.reduceSub, Nat.reduceLT, Nat.reduceLeDiff, Nat.reduceEqDiff, decide_true, decide_false, Bool.and_true, Bool.and_self, Bool.true_and, Bool.not_true, Bool.not_false, ne_eq, not_true_eq_false, not_false_eq_true, Nat.zero_add, Bool.false_eq_true, and_self, true_and, and_true, hrng, c0, c1, c2, loop, ho, s1, s2, s3, i33, i34, hl, mod_ii hol, hgl, a1, eq_int, hg, he, mod_ii n2, mod_ii hgn, w1, w2]
    · simp -implicitDefEqProofs only [d__law_unsure, g_unsure_eq, xVar_a, xC_a, xBin_a, xUn_a, tOf_a, tTru_a, tNotP_a, tAndP_a, tOrP_a, tyes_a, tno_a, tYesP_a, xNil_a, xCons_a, xTup_a, xLst_a, xAnd_a, xOr_a, xIf_a, xChain_a, oNo_a, oAt_a, xSl_a, xCall_a, xSeq_a, xIt_a, xLc_a, gSet_a, gTupD_a, gsNil_a, gsCons_a, sNop_a, sBrk_a, sCnt_a, sSeq_a, sRet_a, sIf_a, sSet_a, sTgt_a, sAug_a, sApp_a, sExt_a, sPut_a, sPutK_a, pkO_s, sFor_a, sWhile_a, sPar_a, runD_a, b2_s, c2_s, sqO_nx, sqO_rt, sqO_bk, sqO_ct, ifO_t, ifO_f, stO_s, endO_nx, endO_rt, andO_t, andO_f, orO_t, orO_f, chO_s, chP_t, chP_f, slO_s, atO_i, lcO_s, forO_s, gsO_s, nxO_s, tgO_s, paO_s, apO_s, exO_s, plO_s, ptO_s, dB_b, tru_b, tru_n, tru_i, tru_l, tru_t, is_n, isn_n, nn_n, nn_i, nn_b, nn_t, nn_l, add_ii, add'_ii, sub_ii, neg_i, lt_ii, le_ii, gt_ii, ge_ii, ix_l, ix_t, ix_s, at0, at1, at2, sl_l, sl_t, len_l, len_t, len_s, abs_i, int_i, int_b, max_ii, min_ii, tup_s, lst_s, seq_l, seq_t, sum_s, wipe_n, wipe_c, mul_ii, fdiv_ii, mod_ii, add_ll, add_tt, setAll, mkT, mkL, oNot, List.getD_cons_zero, List.getD_cons_succ, List.length_cons, List.length_nil, List.set_cons_zero, List.set_cons_succ, List.map_cons, List.map_nil, List.replicate, List.cons_append, List.nil_append, List.append_nil, Option.bind_some, Option.map_some, List.all_cons, List.all_nil, if_true, if_false, reduceIte, Nat.reduceAdd, Nat.reduceSub, Nat.reduceLT, Nat.reduceLeDiff, Nat.reduceEqDiff, decide_true, decide_false, Bool.and_true, Bool.and_self, Bool.true_and, Bool.not_true, Bool.not_false, ne_eq, not_true_eq_false, not_false_eq_true, Nat.zero_add, Bool.false_eq_true, and_self, true_and, and_true, hrng, c0, c1, c2, loop, ho, s1, s2, s3, i33, i34, hl, mod_ii hol, hgl, a1, eq_int, hg, he, mod_ii n2, a3]
  · simp -implicitDefEqProofs only [d__law_unsure, g_unsure_eq, xVar_a, xC_a, xBin_a, xUn_a, tOf_a, tTru_a, tNotP_a, tAndP_a, tOrP_a, tyes_a, tno_a, tYesP_a, xNil_a, xCons_a, xTup_a, xLst_a, xAnd_a, xOr_a, xIf_a, xChain_a, oNo_a, oAt_a, xSl_a, xCall_a, xSeq_a, xIt_a, xLc_a, gSet_a, gTupD_a, gsNil_a, gsCons_a, sNop_a, sBrk_a, sCnt_a, sSeq_a, sRet_a, sIf_a, sSet_a, sTgt_a, sAug_a, sApp_a, sExt_a, sPut_a, sPutK_a, pkO_s, sFor_a, sWhile_a, sPar_a, runD_a, b2_s, c2_s, sqO_nx, sqO_rt, sqO_bk, sqO_ct, ifO_t, ifO_f, stO_s, endO_nx, endO_rt, andO_t, andO_f, orO_t, orO_f, chO_s, chP_t, chP_f, slO_s, atO_i, lcO_s, forO_s, gsO_s, nxO_s, tgO_s, paO_s, apO_s, exO_s, plO_s, ptO_s, dB_b, tru_b, tru_n, tru_i, tru_l, tru_t, is_n, isn_n, nn_n, nn_i, nn_b, nn_t, nn_l, add_ii, add'_ii, sub_ii, neg_i, lt_ii, le_ii, gt_ii, ge_ii, ix_l, ix_t, ix_s, at0, at1, at2, sl_l, sl_t, len_l, len_t, len_s, abs_i, int_i, int_b, max_ii, min_ii, tup_s, lst_s, seq_l, seq_t, sum_s, wipe_n, wipe_c, mul_ii, fdiv_ii, mod_ii, add_ll, add_tt, setAll, mkT, mkL, oNot, List.getD_cons_zero, List.getD_cons_succ, List.length_cons, List.length_nil, List.set_cons_zero, List.set_cons_succ, List.map_cons, List.map_nil, List.replicate, List.cons_append, List.nil_append, List.append_nil, Option.bind_some, Option.map_some, List.all_cons, List.all_nil, if_true, if_false, reduceIte, Nat.reduceAdd, Nat.reduceSub, Nat.reduceLT, Nat.reduceLeDiff, Nat.reduceEqDiff, decide_true, decide_false, Bool.and_true, Bool.and_self, Bool.true_and, Bool.not_true, Bool.not_false, ne_eq, not_true_eq_false, not_false_eq_true, Nat.zero_add, Bool.false_eq_true, and_self, true_and, and_true, hrng, c0, c1, c2, loop, ho, s1, s2, s3, i33, i34, hl, mod_ii hol, hgl, a1, eq_int, hg, a3]
end K13

namespace K13
open PySem PySem.Spec PyProof.Rows L2 Pm
open PySem.W (Datum Tup)
def fm3 (r : List Int) (k : Nat) : Int := (r.getD (17 + k) 0).fmod 3
theorem fm3_rng (r : List Int) (k : Nat) : 0 ≤ fm3 r k ∧ fm3 r k < 3 := fmod_rng _ (by decide)
def HW (r w : List Int) (n : Nat) : List Int := (List.range n).map fun k => w.getD k 0 + fm3 r k
def WK (r : List Int) (k : Nat) : List Int := (List.range ((fm3 r k).toNat + 1)).map fun j => 1 + (r.getD (21 + 3 * k + j) 0).fmod 4
def WS (r : List Int) (n : Nat) : List (List Int) := (List.range n).map (WK r)
theorem WK_rng (r : List Int) (k : Nat) : ∀ x ∈ WK r k, 1 ≤ x ∧ x ≤ 4 := fun x hx => by
  obtain ⟨j, _, rfl⟩ := List.mem_map.mp hx
  have := fmod_rng (r.getD (21 + 3 * k + j) 0) (m := 4) (by decide)
  omega
theorem WK_len (r : List Int) (k : Nat) : 1 ≤ (WK r k).length ∧ (WK r k).length ≤ 3 := by
  have := fm3_rng r k
  simp [WK]
  omega
theorem WS_ok (r : List Int) (n : Nat) : GWs (WS r n) := fun W hW => by
  obtain ⟨k, _, rfl⟩ := List.mem_map.mp hW
  have h1 := WK_rng r k
  have h2 := WK_len r k
  have h3 := sum_ge (WK r k) 1 fun y hy => (h1 y hy).1
  have h4 := sum_le (WK r k) fun y hy => by have := (h1 y hy).2; omega
  refine ⟨fun x hx => by have := h1 x hx; omega, by omega, ?_, by omega⟩
  show (WK r k).sum.natAbs ≤ 2 ^ 10
  omega
theorem HW_len (r w : List Int) (n : Nat) : (HW r w n).length = n := by simp [HW]
theorem HW_nn {r w : List Int} {n : Nat} (hw : OkD n w) : ∀ k, 0 ≤ (HW r w n).getD k 0 := nn_get fun x hx => by
  obtain ⟨k, _, rfl⟩ := List.mem_map.mp hx
  have := hw.nn k
  have := fm3_rng r k
  omega
theorem unsure_loop {r w : List Int} {n : Nat} (hr : r.length = 44) (h4 : n ≤ 4) (hw : w.length = n) (x1 x3 x9 : Option D) :
    ∃ y5 y13, forL (gSet 5) l1__law_unsure ((List.range n).map fun k : Nat => PyData.int (k : Nat)) [some (.list (r.map PyData.int)), x1, some (.list (w.map PyData.int)), x3, some (.list ((HW r w n).map PyData.int)), none, none, none, none, x9, some (.list []), none, none, none] =
      some (.nx [some (.list (r.map PyData.int)), x1, some (.list (w.map PyData.int)), x3, some (.list ((HW r w n).map PyData.int)), y5, none, none, none, x9, some (.list ((WS r n).map wD)), none, none, y13]) := by
  obtain ⟨ρ', e, h⟩ := forL_inv (g := gSet 5) (b := l1__law_unsure) (fun k : Nat => PyData.int (k : Nat))
    (fun pre rest ρ => pre ++ rest = List.range n ∧ ∃ y5 y13, ρ = [some (.list (r.map PyData.int)), x1, some (.list (w.map PyData.int)), x3, some (.list ((HW r w n).map PyData.int)), y5, none, none, none, x9, some (.list (pre.map fun k => wD (WK r k))), none, none, y13]) (fun pre k rest ρ ⟨hq, y5, y13, e⟩ => by
      subst e
      have hk : k < n := List.mem_range.mp (by rw [← hq]; simp)
      have hl : (pre.map fun k => wD (WK r k)).length < 16777216 := by
        have := congrArg List.length hq
        simp at this ⊢
        omega
      have hfm := fm3_rng r k
      have i1 := at_map PyData.int w 0 k (by omega)
      have i2 := at_map PyData.int (HW r w n) 0 k (by rw [HW_len]; exact hk)
      rw [show (HW r w n).getD k 0 = w.getD k 0 + fm3 r k from map_at _ hk 0] at i2
      have hrg : oR1 [.int (w.getD k 0 + fm3 r k - w.getD k 0 + 1)] = some ((List.range ((fm3 r k).toNat + 1)).map fun k : Nat => PyData.int (k : Nat)) := by
        have := rg0 ((fm3 r k).toNat + 1) (by omega)
        rw [show (((fm3 r k).toNat + 1 : Nat) : Int) = w.getD k 0 + fm3 r k - w.getD k 0 + 1 by omega] at this
        exact this
      have hm : ∀ x13, lcL (gSet 13) tYesP (xBin oAdd (xC (.int 1)) (xBin oMod (xCall bInt (xCons (xBin oIx (xVar 0) (xBin oAdd (xBin oAdd (xC (.int 21)) (xBin oMul' (xC (.int 3)) (xVar 5))) (xVar 13))) xNil)) (xC (.int 4)))) [some (.list (r.map PyData.int)), x1, some (.list (w.map PyData.int)), x3, some (.list ((HW r w n).map PyData.int)), some (.int (k : Nat)), none, none, none, x9, some (.list (pre.map fun k => wD (WK r k))), none, none, x13] ((List.range ((fm3 r k).toNat + 1)).map fun k : Nat => PyData.int (k : Nat)) = some ((WK r k).map PyData.int) := fun x13 => by
        rw [WK, List.map_map]
        refine lcL_map _ _ _ fun j hj => ?_
        have hj' := List.mem_range.mp hj
        have i3 : atI (r.map PyData.int) (21 + 3 * (k : Int) + (j : Int)) = some (.int (r.getD (21 + 3 * k + j) 0)) := by
          have := row_at r (21 + 3 * k + j) (by omega)
          rw [show ((21 + 3 * k + j : Nat) : Int) = 21 + 3 * (k : Int) + (j : Int) by omega] at this
          exact this
        have mo : mulOk 3 (k : Int) = true := mulOk_r _ (by omega)
        have n4 : (4 : Int) ≠ 0 := by decide
        generalize r.map PyData.int = RD at *
        generalize w.map PyData.int = LD at *
        generalize (HW r w n).map PyData.int = HD at *
        generalize (pre.map fun k => wD (WK r k)) = L at *
        simp -implicitDefEqProofs only [Function.comp, xVar_a, xC_a, xBin_a, xUn_a, tOf_a, tTru_a, tNotP_a, tAndP_a, tOrP_a, tyes_a, tno_a, tYesP_a, xNil_a, xCons_a, xTup_a, xLst_a, xAnd_a, xOr_a, xIf_a, xChain_a, oNo_a, oAt_a, xSl_a, xCall_a, xSeq_a, xIt_a, xLc_a, gSet_a, gTupD_a, gsNil_a, gsCons_a, sNop_a, sBrk_a, sCnt_a, sSeq_a, sRet_a, sIf_a, sSet_a, sTgt_a, sAug_a, sApp_a, sExt_a, sPut_a, sPutK_a, pkO_s, sFor_a, sWhile_a, sPar_a, runD_a, b2_s, c2_s, sqO_nx, sqO_rt, sqO_bk, sqO_ct, ifO_t, ifO_f, stO_s, endO_nx, endO_rt, andO_t, andO_f, orO_t, orO_f, chO_s, chP_t, chP_f, slO_s, atO_i, lcO_s, forO_s, gsO_s, nxO_s, tgO_s, paO_s, apO_s, exO_s, plO_s, ptO_s, dB_b, tru_b, tru_n, tru_i, tru_l, tru_t, is_n, isn_n, nn_n, nn_i, nn_b, nn_t, nn_l, add_ii, add'_ii, sub_ii, neg_i, lt_ii, le_ii, gt_ii, ge_ii, ix_l, ix_t, ix_s, at0, at1, at2, sl_l, sl_t, len_l, len_t, len_s, abs_i, int_i, int_b, max_ii, min_ii, tup_s, lst_s, seq_l, seq_t, sum_s, wipe_n, wipe_c, mul_ii, fdiv_ii, mod_ii, add_ll, add_tt, setAll, mkT, mkL, oNot, List.getD_cons_zero, List.getD_cons_succ, List.length_cons, List.length_nil, List.set_cons_zero, List.set_cons_succ, List.map_cons, List.map_nil, List.replicate, List.cons_append, List.nil_append, List.append_nil, Option.bind_some, Option.map_some, List.all_cons, List.all_nil, if_true, if_false, reduceIte, Nat.reduceAdd, Nat.reduceSub, Nat.reduceLT, Nat.reduceLeDiff, Nat.reduceEqDiff, decide_true, decide_false, Bool.and_true, Bool.and_self, Bool.true_and, Bool.not_true, Bool.not_false, ne_eq, not_true_eq_false, not_false_eq_true, Nat.zero_add, Bool.false_eq_true, and_self, true_and, and_true, mo, i3, mod_ii n4]
      refine ⟨_, [some (.list (r.map PyData.int)), x1, some (.list (w.map PyData.int)), x3, some (.list ((HW r w n).map PyData.int)), some (.int (k : Nat)), none, none, none, x9, some (.list ((pre ++ [k]).map fun k => wD (WK r k))), none, none, y13], rfl, .inl ?_, by rw [List.append_assoc]; exact hq, _, _, rfl⟩
      rw [List.map_append, List.map_cons, List.map_nil, wD]
      generalize (pre.map fun k => wD (WK r k)) = L at *
      generalize r.map PyData.int = RD at *
      generalize w.map PyData.int = LD at *
      generalize (HW r w n).map PyData.int = HD at *
      generalize (WK r k).map PyData.int = WD at *
      generalize ((List.range ((fm3 r k).toNat + 1)).map fun k : Nat => PyData.int (k : Nat)) = RG at *
      simp -implicitDefEqProofs only [l1__law_unsure, xVar_a, xC_a, xBin_a, xUn_a, tOf_a, tTru_a, tNotP_a, tAndP_a, tOrP_a, tyes_a, tno_a, tYesP_a, xNil_a, xCons_a, xTup_a, xLst_a, xAnd_a, xOr_a, xIf_a, xChain_a, oNo_a, oAt_a, xSl_a, xCall_a, xSeq_a, xIt_a, xLc_a, gSet_a, gTupD_a, gsNil_a, gsCons_a, sNop_a, sBrk_a, sCnt_a, sSeq_a, sRet_a, sIf_a, sSet_a, sTgt_a, sAug_a, sApp_a, sExt_a, sPut_a, sPutK_a, pkO_s, sFor_a, sWhile_a, sPar_a, runD_a, b2_s, c2_s, sqO_nx, sqO_rt, sqO_bk, sqO_ct, ifO_t, ifO_f, stO_s, endO_nx, endO_rt, andO_t, andO_f, orO_t, orO_f, chO_s, chP_t, chP_f, slO_s, atO_i, lcO_s, forO_s, gsO_s, nxO_s, tgO_s, paO_s, apO_s, exO_s, plO_s, ptO_s, dB_b, tru_b, tru_n, tru_i, tru_l, tru_t, is_n, isn_n, nn_n, nn_i, nn_b, nn_t, nn_l, add_ii, add'_ii, sub_ii, neg_i, lt_ii, le_ii, gt_ii, ge_ii, ix_l, ix_t, ix_s, at0, at1, at2, sl_l, sl_t, len_l, len_t, len_s, abs_i, int_i, int_b, max_ii, min_ii, tup_s, lst_s, seq_l, seq_t, sum_s, wipe_n, wipe_c, mul_ii, fdiv_ii, mod_ii, add_ll, add_tt, setAll, mkT, mkL, oNot, List.getD_cons_zero, List.getD_cons_succ, List.length_cons, List.length_nil, List.set_cons_zero, List.set_cons_succ, List.map_cons, List.map_nil, List.replicate, List.cons_append, List.nil_append, List.append_nil, Option.bind_some, Option.map_some, List.all_cons, List.all_nil, if_true, if_false, reduceIte, Nat.reduceAdd, Nat.reduceSub, Nat.reduceLT, Nat.reduceLeDiff, Nat.reduceEqDiff, decide_true, decide_false, Bool.and_true, Bool.and_self, Bool.true_and, Bool.not_true, Bool.not_false, ne_eq, not_true_eq_false, not_false_eq_true, Nat.zero_add, Bool.false_eq_true, and_self, true_and, and_true, i1, i2, hrg, hm, hl]) (List.range n) [] [some (.list (r.map PyData.int)), x1, some (.list (w.map PyData.int)), x3, some (.list ((HW r w n).map PyData.int)), none, none, none, none, x9, some (.list []), none, none, none] ⟨rfl, none, none, rfl⟩
  obtain ⟨_, y5, y13, e'⟩ := h
  subst e'
  have e1 : ((List.range n).map fun k => wD (WK r k)) = (WS r n).map wD := by
    rw [WS, List.map_map]
    rfl
  rw [List.nil_append, e1] at e
  exact ⟨y5, y13, e⟩
theorem ord_tail {r w p : List Int} {n : Nat} (h1 : 1 ≤ n) (h4 : n ≤ 4) (hw : OkD n w) (hp : p.length = n) (hp30 : ∀ i, i < n → p.getD i 0 ≤ 30) {o : List Nat} (ho : o ∈ ORD n) (x0 x5 x6 x11 x12 x13 : Option D) :
    uT [x0, some (.int (n : Nat)), some (.list (w.map PyData.int)), some (.list (p.map PyData.int)), some (.list ((HW r w n).map PyData.int)), x5, x6, some (.list ((good (HW r w n) p n).map oD)), some (oD o), some (.tuple ((Sk w (HW r w n) p n).map shD)), some (.list ((WS r n).map wD)), x11, x12, x13] = some (.rt (.bool true)) := by
  have hpo := or_p h1 h4 o ho
  have hS := okSk (a := w) (w := HW r w n) (p := p) (n := n) hw.nn (HW_nn hw)
  have eh := hi_Sk w p (HW_len r w n)
  have el := lo_Sk (HW r w n) p (n := n) hw.len
  have ep := pr_Sk w (HW r w n) hp
  have k1 := keeps_surely_eq hS (by omega) hpo
  rw [eh, ep] at k1
  have k3 := may_keep_eq hS (by omega) hpo
  rw [el, ep] at k3
  have b1 := end_bounds_eq hS (by omega) hpo
  rw [el, eh] at b1
  have p1 := sure_plan_eq hS (by omega) hpo
  rw [eh] at p1
  have q1 := spare_days_eq hS (by omega) hpo (by rw [ep]; exact hp30)
  rw [eh, ep] at q1
  have f1 := chances_same hS (by simp [WS]) (WS_ok r n) h4 hpo
  rw [ep] at f1
  have k2 := in_oD o (good (HW r w n) p n)
  have ek : decide (o ∈ good (HW r w n) p n) = kp (HW r w n) p 0 o := by
    rw [Bool.eq_iff_iff, decide_eq_true_iff, good_mem]
    exact ⟨fun h => h.2, fun h => ⟨ho, h⟩⟩
  rw [ek] at k2
  refine unsure_tail n (w.map PyData.int) (p.map PyData.int) ((HW r w n).map PyData.int) ((good (HW r w n) p n).map oD) ((Sk w (HW r w n) p n).map shD) ((WS r n).map wD) ((List.range n).map fun k => PyData.int (ev w 0 o k)) ((List.range n).map fun k => PyData.int (ev (HW r w n) 0 o k)) ((List.range n).map fun k : Nat => PyData.int (k : Nat)) ((List.range n).map fun k => .tuple [.int (ev w 0 o k), .int (ev (HW r w n) 0 o k)]) ((List.range n).map fun k => PyData.int (ev (HW r w n) 0 o k + 1 - (HW r w n).getD k 0)) (oD o) (sprD (HW r w n) p n o) (fr (sumK [] p o (CH (Sk w (HW r w n) p n) (WS r n) (List.range n)).1) (CH (Sk w (HW r w n) p n) (WS r n) (List.range n)).2) (kp (HW r w n) p 0 o) (kp w p 0 o)
    (rg0 n (by omega)) (law_ends_eq true w o n hw.len (by omega) hpo) (law_ends_eq true (HW r w n) o n (HW_len r w n) (by omega) hpo) k1 k2 k3 (law_kept_eq true w p o n hw.len hp (by omega) hpo) ?c3 ?c4 b1 ?b2 ?b3 p1 ?p2 ?p3 q1 (flat_spr _ _ _ _) (law_spare_eq (HW_len r w n) hp (by omega) hpo) (like_spr 6 _ _ (by omega) _) f1 (flat_fr _ _) (law_chances_eq hS.len (by simp [WS]) (WS_ok r n) h4 hp hpo) (like_fr 6 _ _) x0 x5 x6 x11 x12 x13
  case c3 =>
    intros
    refine lcL_map _ _ _ fun k hk => ?_
    have hk' := List.mem_range.mp hk
    have i1 : atI ((List.range n).map fun k => PyData.int (ev w 0 o k)) (k : Int) = some (.int (ev w 0 o k)) := by
      rw [at_map (fun k => PyData.int (ev w 0 o k)) (List.range n) 0 k (by simpa using hk')]
      simp [hk']
    have i2 : atI ((List.range n).map fun k => PyData.int (ev (HW r w n) 0 o k)) (k : Int) = some (.int (ev (HW r w n) 0 o k)) := by
      rw [at_map (fun k => PyData.int (ev (HW r w n) 0 o k)) (List.range n) 0 k (by simpa using hk')]
      simp [hk']
    generalize ((List.range n).map fun k => PyData.int (ev w 0 o k)) = A at *
    generalize ((List.range n).map fun k => PyData.int (ev (HW r w n) 0 o k)) = B at *
    simp -implicitDefEqProofs only [xVar_a, xC_a, xBin_a, xUn_a, tOf_a, tTru_a, tNotP_a, tAndP_a, tOrP_a, tyes_a, tno_a, tYesP_a, xNil_a, xCons_a, xTup_a, xLst_a, xAnd_a, xOr_a, xIf_a, xChain_a, oNo_a, oAt_a, xSl_a, xCall_a, xSeq_a, xIt_a, xLc_a, gSet_a, gTupD_a, gsNil_a, gsCons_a, sNop_a, sBrk_a, sCnt_a, sSeq_a, sRet_a, sIf_a, sSet_a, sTgt_a, sAug_a, sApp_a, sExt_a, sPut_a, sPutK_a, pkO_s, sFor_a, sWhile_a, sPar_a, runD_a, b2_s, c2_s, sqO_nx, sqO_rt, sqO_bk, sqO_ct, ifO_t, ifO_f, stO_s, endO_nx, endO_rt, andO_t, andO_f, orO_t, orO_f, chO_s, chP_t, chP_f, slO_s, atO_i, lcO_s, forO_s, gsO_s, nxO_s, tgO_s, paO_s, apO_s, exO_s, plO_s, ptO_s, dB_b, tru_b, tru_n, tru_i, tru_l, tru_t, is_n, isn_n, nn_n, nn_i, nn_b, nn_t, nn_l, add_ii, add'_ii, sub_ii, neg_i, lt_ii, le_ii, gt_ii, ge_ii, ix_l, ix_t, ix_s, at0, at1, at2, sl_l, sl_t, len_l, len_t, len_s, abs_i, int_i, int_b, max_ii, min_ii, tup_s, lst_s, seq_l, seq_t, sum_s, wipe_n, wipe_c, mul_ii, fdiv_ii, mod_ii, add_ll, add_tt, setAll, mkT, mkL, oNot, List.getD_cons_zero, List.getD_cons_succ, List.length_cons, List.length_nil, List.set_cons_zero, List.set_cons_succ, List.map_cons, List.map_nil, List.replicate, List.cons_append, List.nil_append, List.append_nil, Option.bind_some, Option.map_some, List.all_cons, List.all_nil, if_true, if_false, reduceIte, Nat.reduceAdd, Nat.reduceSub, Nat.reduceLT, Nat.reduceLeDiff, Nat.reduceEqDiff, decide_true, decide_false, Bool.and_true, Bool.and_self, Bool.true_and, Bool.not_true, Bool.not_false, ne_eq, not_true_eq_false, not_false_eq_true, Nat.zero_add, Bool.false_eq_true, and_self, true_and, and_true, i1, i2]
  case c4 =>
    intros
    refine lcL_map _ _ _ fun k hk => ?_
    have hk' := List.mem_range.mp hk
    have i1 := at_map PyData.int (HW r w n) 0 k (by rw [HW_len]; exact hk')
    have i2 : atI ((List.range n).map fun k => PyData.int (ev (HW r w n) 0 o k)) (k : Int) = some (.int (ev (HW r w n) 0 o k)) := by
      rw [at_map (fun k => PyData.int (ev (HW r w n) 0 o k)) (List.range n) 0 k (by simpa using hk')]
      simp [hk']
    generalize ((List.range n).map fun k => PyData.int (ev (HW r w n) 0 o k)) = B at *
    generalize (HW r w n).map PyData.int = HD at *
    simp -implicitDefEqProofs only [xVar_a, xC_a, xBin_a, xUn_a, tOf_a, tTru_a, tNotP_a, tAndP_a, tOrP_a, tyes_a, tno_a, tYesP_a, xNil_a, xCons_a, xTup_a, xLst_a, xAnd_a, xOr_a, xIf_a, xChain_a, oNo_a, oAt_a, xSl_a, xCall_a, xSeq_a, xIt_a, xLc_a, gSet_a, gTupD_a, gsNil_a, gsCons_a, sNop_a, sBrk_a, sCnt_a, sSeq_a, sRet_a, sIf_a, sSet_a, sTgt_a, sAug_a, sApp_a, sExt_a, sPut_a, sPutK_a, pkO_s, sFor_a, sWhile_a, sPar_a, runD_a, b2_s, c2_s, sqO_nx, sqO_rt, sqO_bk, sqO_ct, ifO_t, ifO_f, stO_s, endO_nx, endO_rt, andO_t, andO_f, orO_t, orO_f, chO_s, chP_t, chP_f, slO_s, atO_i, lcO_s, forO_s, gsO_s, nxO_s, tgO_s, paO_s, apO_s, exO_s, plO_s, ptO_s, dB_b, tru_b, tru_n, tru_i, tru_l, tru_t, is_n, isn_n, nn_n, nn_i, nn_b, nn_t, nn_l, add_ii, add'_ii, sub_ii, neg_i, lt_ii, le_ii, gt_ii, ge_ii, ix_l, ix_t, ix_s, at0, at1, at2, sl_l, sl_t, len_l, len_t, len_s, abs_i, int_i, int_b, max_ii, min_ii, tup_s, lst_s, seq_l, seq_t, sum_s, wipe_n, wipe_c, mul_ii, fdiv_ii, mod_ii, add_ll, add_tt, setAll, mkT, mkL, oNot, List.getD_cons_zero, List.getD_cons_succ, List.length_cons, List.length_nil, List.set_cons_zero, List.set_cons_succ, List.map_cons, List.map_nil, List.replicate, List.cons_append, List.nil_append, List.append_nil, Option.bind_some, Option.map_some, List.all_cons, List.all_nil, if_true, if_false, reduceIte, Nat.reduceAdd, Nat.reduceSub, Nat.reduceLT, Nat.reduceLeDiff, Nat.reduceEqDiff, decide_true, decide_false, Bool.and_true, Bool.and_self, Bool.true_and, Bool.not_true, Bool.not_false, ne_eq, not_true_eq_false, not_false_eq_true, Nat.zero_add, Bool.false_eq_true, and_self, true_and, and_true, i1, i2]
  case b2 => exact flat_tm _ _ fun _ _ => rfl
  case b3 =>
    exact like_tup 7 _ (by simp; omega) fun x hx => by
      obtain ⟨k, _, rfl⟩ := List.mem_map.mp hx
      exact like_tup 6 _ (by simp) fun y hy => by
        simp only [List.mem_cons, List.mem_nil_iff, or_false] at hy
        rcases hy with rfl | rfl
        · exact like_int _ _
        · exact like_int _ _
  case p2 => exact flat_tm _ _ fun _ _ => rfl
  case p3 =>
    exact like_tup 7 _ (by simp; omega) fun x hx => by
      obtain ⟨k, _, rfl⟩ := List.mem_map.mp hx
      exact like_int _ _
theorem law_unsure_ok (r w p : List Int) {n : Nat} (hr : r.length = 44) (h1 : 1 ≤ n) (h4 : n ≤ 4) (hw : OkD n w) (hp : p.length = n) (hp30 : ∀ i, i < n → p.getD i 0 ≤ 30) :
    d__law_unsure [.list (r.map PyData.int), .int (n : Nat), .list (w.map PyData.int), .list (p.map PyData.int)] = some (.bool true) := by
  have hS := okSk (a := w) (w := HW r w n) (p := p) (n := n) hw.nn (HW_nn hw)
  have hso := sure_orders_eq hS h1 h4
  rw [hi_Sk w p (HW_len r w n), pr_Sk w (HW r w n) hp] at hso
  obtain ⟨y5, y13, loop⟩ := unsure_loop hr h4 hw.len (some (.int (n : Nat))) (some (.list (p.map PyData.int))) (some (.tuple ((Sk w (HW r w n) p n).map shD)))
  have hol := or_l h1 h4
  obtain ⟨k, ka, kb⟩ := fmod_nat (r.getD 33 0) (m := ((ORD n).length : Int)) (by omega)
  have n3 : (3 : Int) ≠ 0 := by decide
  have hk : k < (ORD n).length := by omega
  refine unsure_core n (ORD n).length (good (HW r w n) p n).length (r.map PyData.int) (w.map PyData.int) (p.map PyData.int) ((HW r w n).map PyData.int) ((good (HW r w n) p n).map oD) ((Sk w (HW r w n) p n).map shD) ((WS r n).map wD) ((List.range n).map fun k : Nat => PyData.int (k : Nat)) ((ORD n).map oD) (oD ((ORD n).getD k [])) (r.getD 33 0) (r.getD 34 0) y5 y13 (rg0 n (by omega)) ?c0 ?c1 ?c2 loop (or_b h1 h4) hso (flat_tm _ _ fun o _ => flat_oD o) (like_ods 5 _ (by have := good_len (HW r w n) p h1 h4; omega) fun o ho => by rw [pr_len (or_p h1 h4 o (good_mem.mp ho).1)]; omega) (row_at r 33 (by omega)) (row_at r 34 (by omega)) (List.length_map ..) (by omega) (List.length_map ..) (by
      rw [ka]
      exact at_map oD (ORD n) [] k hk) ?a2 ?a3
  case c0 =>
    intros
    rw [HW, List.map_map]
    refine lcL_map _ _ _ fun k hk => ?_
    have hk' := List.mem_range.mp hk
    have i1 : atI (r.map PyData.int) (17 + (k : Int)) = some (.int (r.getD (17 + k) 0)) := row_off r 17 k (by omega)
    have i2 := at_map PyData.int w 0 k (by rw [hw.len]; exact hk')
    generalize r.map PyData.int = RD at *
    generalize w.map PyData.int = LD at *
    simp -implicitDefEqProofs only [Function.comp, xVar_a, xC_a, xBin_a, xUn_a, tOf_a, tTru_a, tNotP_a, tAndP_a, tOrP_a, tyes_a, tno_a, tYesP_a, xNil_a, xCons_a, xTup_a, xLst_a, xAnd_a, xOr_a, xIf_a, xChain_a, oNo_a, oAt_a, xSl_a, xCall_a, xSeq_a, xIt_a, xLc_a, gSet_a, gTupD_a, gsNil_a, gsCons_a, sNop_a, sBrk_a, sCnt_a, sSeq_a, sRet_a, sIf_a, sSet_a, sTgt_a, sAug_a, sApp_a, sExt_a, sPut_a, sPutK_a, pkO_s, sFor_a, sWhile_a, sPar_a, runD_a, b2_s, c2_s, sqO_nx, sqO_rt, sqO_bk, sqO_ct, ifO_t, ifO_f, stO_s, endO_nx, endO_rt, andO_t, andO_f, orO_t, orO_f, chO_s, chP_t, chP_f, slO_s, atO_i, lcO_s, forO_s, gsO_s, nxO_s, tgO_s, paO_s, apO_s, exO_s, plO_s, ptO_s, dB_b, tru_b, tru_n, tru_i, tru_l, tru_t, is_n, isn_n, nn_n, nn_i, nn_b, nn_t, nn_l, add_ii, add'_ii, sub_ii, neg_i, lt_ii, le_ii, gt_ii, ge_ii, ix_l, ix_t, ix_s, at0, at1, at2, sl_l, sl_t, len_l, len_t, len_s, abs_i, int_i, int_b, max_ii, min_ii, tup_s, lst_s, seq_l, seq_t, sum_s, wipe_n, wipe_c, mul_ii, fdiv_ii, mod_ii, add_ll, add_tt, setAll, mkT, mkL, oNot, List.getD_cons_zero, List.getD_cons_succ, List.length_cons, List.length_nil, List.set_cons_zero, List.set_cons_succ, List.map_cons, List.map_nil, List.replicate, List.cons_append, List.nil_append, List.append_nil, Option.bind_some, Option.map_some, List.all_cons, List.all_nil, if_true, if_false, reduceIte, Nat.reduceAdd, Nat.reduceSub, Nat.reduceLT, Nat.reduceLeDiff, Nat.reduceEqDiff, decide_true, decide_false, Bool.and_true, Bool.and_self, Bool.true_and, Bool.not_true, Bool.not_false, ne_eq, not_true_eq_false, not_false_eq_true, Nat.zero_add, Bool.false_eq_true, and_self, true_and, and_true, i1, i2, mod_ii n3, fm3]
  case c1 =>
    intros
    rw [← sk_map]
    refine lcL_map _ _ _ fun k hk => ?_
    have hk' := List.mem_range.mp hk
    have i1 := at_map PyData.int w 0 k (by rw [hw.len]; exact hk')
    have i2 := at_map PyData.int p 0 k (by omega)
    have i3 := at_map PyData.int (HW r w n) 0 k (by rw [HW_len]; exact hk')
    generalize (HW r w n).map PyData.int = HD at *
    generalize w.map PyData.int = WD at *
    generalize p.map PyData.int = PD at *
    simp -implicitDefEqProofs only [xVar_a, xC_a, xBin_a, xUn_a, tOf_a, tTru_a, tNotP_a, tAndP_a, tOrP_a, tyes_a, tno_a, tYesP_a, xNil_a, xCons_a, xTup_a, xLst_a, xAnd_a, xOr_a, xIf_a, xChain_a, oNo_a, oAt_a, xSl_a, xCall_a, xSeq_a, xIt_a, xLc_a, gSet_a, gTupD_a, gsNil_a, gsCons_a, sNop_a, sBrk_a, sCnt_a, sSeq_a, sRet_a, sIf_a, sSet_a, sTgt_a, sAug_a, sApp_a, sExt_a, sPut_a, sPutK_a, pkO_s, sFor_a, sWhile_a, sPar_a, runD_a, b2_s, c2_s, sqO_nx, sqO_rt, sqO_bk, sqO_ct, ifO_t, ifO_f, stO_s, endO_nx, endO_rt, andO_t, andO_f, orO_t, orO_f, chO_s, chP_t, chP_f, slO_s, atO_i, lcO_s, forO_s, gsO_s, nxO_s, tgO_s, paO_s, apO_s, exO_s, plO_s, ptO_s, dB_b, tru_b, tru_n, tru_i, tru_l, tru_t, is_n, isn_n, nn_n, nn_i, nn_b, nn_t, nn_l, add_ii, add'_ii, sub_ii, neg_i, lt_ii, le_ii, gt_ii, ge_ii, ix_l, ix_t, ix_s, at0, at1, at2, sl_l, sl_t, len_l, len_t, len_s, abs_i, int_i, int_b, max_ii, min_ii, tup_s, lst_s, seq_l, seq_t, sum_s, wipe_n, wipe_c, mul_ii, fdiv_ii, mod_ii, add_ll, add_tt, setAll, mkT, mkL, oNot, List.getD_cons_zero, List.getD_cons_succ, List.length_cons, List.length_nil, List.set_cons_zero, List.set_cons_succ, List.map_cons, List.map_nil, List.replicate, List.cons_append, List.nil_append, List.append_nil, Option.bind_some, Option.map_some, List.all_cons, List.all_nil, if_true, if_false, reduceIte, Nat.reduceAdd, Nat.reduceSub, Nat.reduceLT, Nat.reduceLeDiff, Nat.reduceEqDiff, decide_true, decide_false, Bool.and_true, Bool.and_self, Bool.true_and, Bool.not_true, Bool.not_false, ne_eq, not_true_eq_false, not_false_eq_true, Nat.zero_add, Bool.false_eq_true, and_self, true_and, and_true, i1, i2, i3]
  case c2 =>
    intro x0 x1 x2 x5 x6 x7 x9 x10 x11 x12 x13
    refine lcL_filter _ _ (kp (HW r w n) p 0) _ fun o ho => ?_
    have hk : d__law_kept [.list ((HW r w n).map PyData.int), .list (p.map PyData.int), oD o] = some (.bool (kp (HW r w n) p 0 o)) := law_kept_eq true (HW r w n) p o n (HW_len r w n) hp (by omega) (or_p h1 h4 o ho)
    have hb := flat_bool
    generalize (HW r w n).map PyData.int = HD at *
    generalize p.map PyData.int = PD at *
    exact ⟨[x0, x1, x2, some (.list PD), some (.list HD), x5, x6, x7, some (oD o), x9, x10, x11, x12, x13], rfl, by simp -implicitDefEqProofs only [xVar_a, xC_a, xBin_a, xUn_a, tOf_a, tTru_a, tNotP_a, tAndP_a, tOrP_a, tyes_a, tno_a, tYesP_a, xNil_a, xCons_a, xTup_a, xLst_a, xAnd_a, xOr_a, xIf_a, xChain_a, oNo_a, oAt_a, xSl_a, xCall_a, xSeq_a, xIt_a, xLc_a, gSet_a, gTupD_a, gsNil_a, gsCons_a, sNop_a, sBrk_a, sCnt_a, sSeq_a, sRet_a, sIf_a, sSet_a, sTgt_a, sAug_a, sApp_a, sExt_a, sPut_a, sPutK_a, pkO_s, sFor_a, sWhile_a, sPar_a, runD_a, b2_s, c2_s, sqO_nx, sqO_rt, sqO_bk, sqO_ct, ifO_t, ifO_f, stO_s, endO_nx, endO_rt, andO_t, andO_f, orO_t, orO_f, chO_s, chP_t, chP_f, slO_s, atO_i, lcO_s, forO_s, gsO_s, nxO_s, tgO_s, paO_s, apO_s, exO_s, plO_s, ptO_s, dB_b, tru_b, tru_n, tru_i, tru_l, tru_t, is_n, isn_n, nn_n, nn_i, nn_b, nn_t, nn_l, add_ii, add'_ii, sub_ii, neg_i, lt_ii, le_ii, gt_ii, ge_ii, ix_l, ix_t, ix_s, at0, at1, at2, sl_l, sl_t, len_l, len_t, len_s, abs_i, int_i, int_b, max_ii, min_ii, tup_s, lst_s, seq_l, seq_t, sum_s, wipe_n, wipe_c, mul_ii, fdiv_ii, mod_ii, add_ll, add_tt, setAll, mkT, mkL, oNot, List.getD_cons_zero, List.getD_cons_succ, List.length_cons, List.length_nil, List.set_cons_zero, List.set_cons_succ, List.map_cons, List.map_nil, List.replicate, List.cons_append, List.nil_append, List.append_nil, Option.bind_some, Option.map_some, List.all_cons, List.all_nil, if_true, if_false, reduceIte, Nat.reduceAdd, Nat.reduceSub, Nat.reduceLT, Nat.reduceLeDiff, Nat.reduceEqDiff, decide_true, decide_false, Bool.and_true, Bool.and_self, Bool.true_and, Bool.not_true, Bool.not_false, ne_eq, not_true_eq_false, not_false_eq_true, Nat.zero_add, Bool.false_eq_true, and_self, true_and, and_true, hk, hb], fun _ => rfl⟩
  case a2 =>
    intro hg
    obtain ⟨j, ja, jb⟩ := fmod_nat (r.getD 33 0) (m := ((good (HW r w n) p n).length : Int)) hg
    have hj : j < (good (HW r w n) p n).length := by omega
    refine ⟨oD ((good (HW r w n) p n).getD j []), by rw [ja]; exact at_map oD (good (HW r w n) p n) [] j hj, ?_⟩
    intros
    exact ord_tail h1 h4 hw hp hp30 (good_mem.mp (getD_mem _ j [] hj)).1 _ _ _ _ _ _
  case a3 =>
    intros
    exact ord_tail h1 h4 hw hp hp30 (getD_mem (ORD n) k [] hk) _ _ _ _ _ _
end K13

namespace K13
open PySem PySem.Spec PyProof.Rows L2 Pm
open PySem.W (Datum Tup)
def mx0 (x : Int) : Int := if x > 0 then x else 0
theorem pr_loop {r w : List Int} {n : Nat} (hr : r.length = 44) (h4 : n ≤ 4) (hw : w.length = n) (hw4 : ∀ x ∈ w, x ≤ 4) (Q : List Int) (hQ : Q.length = n) (hQ2 : ∀ x ∈ Q, x ≤ 20) (x0 x2 x5 x7 x8 : Option D) :
    ∃ (Q' : List Int) (y6 y7 : Option D), Q'.length = n ∧ (∀ x ∈ Q', x ≤ 20) ∧ forL (gSet 7) l1_law ((List.range n).map fun k : Nat => PyData.int (k : Nat)) [x0, some (.list (r.map PyData.int)), x2, some (.list (w.map PyData.int)), some (.list (Q.map PyData.int)), x5, some (.int 0), x7, x8] =
      some (.nx [x0, some (.list (r.map PyData.int)), x2, some (.list (w.map PyData.int)), some (.list (Q'.map PyData.int)), x5, y6, y7, x8]) := by
  obtain ⟨ρ', e, h⟩ := forL_inv (g := gSet 7) (b := l1_law) (fun k : Nat => PyData.int (k : Nat))
    (fun pre rest ρ => pre ++ rest = List.range n ∧ ∃ (Q' : List Int) (now : Int) (y7 : Option D), Q'.length = n ∧ (∀ x ∈ Q', x ≤ 20) ∧ now ≤ 4 * (pre.length : Int) ∧ ρ = [x0, some (.list (r.map PyData.int)), x2, some (.list (w.map PyData.int)), some (.list (Q'.map PyData.int)), x5, some (.int now), y7, x8]) (fun pre k rest ρ ⟨hq, Q', now, y7, q1, q2, q3, e⟩ => by
      subst e
      have hk : k < n := List.mem_range.mp (by rw [← hq]; simp)
      have hpl : pre.length + 1 ≤ n := by
        have := congrArg List.length hq
        simp at this
        omega
      have i1 := at_map PyData.int w 0 k (by omega)
      have hwk := hw4 _ (getD_mem w k 0 (by omega))
      have i2 : atI (r.map PyData.int) (5 + (k : Int)) = some (.int (r.getD (5 + k) 0)) := row_off r 5 k (by omega)
      have i3 : atI (r.map PyData.int) 10 = some (.int (r.getD 10 0)) := row_at r 10 (by omega)
      have n4 : (4 : Int) ≠ 0 := by decide
      have n8 : (8 : Int) ≠ 0 := by decide
      have hl : (Q'.map PyData.int).length = n := by rw [List.length_map, q1]
      have hix := ixN_nat n k hk
      have f1 := fmod_rng (r.getD (5 + k) 0) (m := 4) (by decide)
      have hset : ∀ v : Int, (Q'.map PyData.int).set k (.int v) = (Q'.set k v).map PyData.int := fun v => by rw [List.map_set]
      have hbit : 0 ≤ (if decide ((r.getD 10 0).fmod 8 = (k : Int)) = true then (1 : Int) else 0) := by split <;> omega
      refine ⟨_, [x0, some (.list (r.map PyData.int)), x2, some (.list (w.map PyData.int)), some (.list ((Q'.set k (now + w.getD k 0 - 1 + (r.getD (5 + k) 0).fmod 4 - (if decide ((r.getD 10 0).fmod 8 = (k : Int)) = true then (1 : Int) else 0))).map PyData.int)), x5, some (.int (now + w.getD k 0)), some (.int (k : Nat)), x8], rfl, .inl ?_, by rw [List.append_assoc]; exact hq, _, now + w.getD k 0, some (.int (k : Nat)), by rw [List.length_set, q1], fun x hx => ?_, ?_, rfl⟩
      · rw [← hset]
        generalize (Q'.map PyData.int) = QD at *
        generalize r.map PyData.int = RD at *
        generalize w.map PyData.int = WD at *
        simp -implicitDefEqProofs only [l1_law, xVar_a, xC_a, xBin_a, xUn_a, tOf_a, tTru_a, tNotP_a, tAndP_a, tOrP_a, tyes_a, tno_a, tYesP_a, xNil_a, xCons_a, xTup_a, xLst_a, xAnd_a, xOr_a, xIf_a, xChain_a, oNo_a, oAt_a, xSl_a, xCall_a, xSeq_a, xIt_a, xLc_a, gSet_a, gTupD_a, gsNil_a, gsCons_a, sNop_a, sBrk_a, sCnt_a, sSeq_a, sRet_a, sIf_a, sSet_a, sTgt_a, sAug_a, sApp_a, sExt_a, sPut_a, sPutK_a, pkO_s, sFor_a, sWhile_a, sPar_a, runD_a, b2_s, c2_s, sqO_nx, sqO_rt, sqO_bk, sqO_ct, ifO_t, ifO_f, stO_s, endO_nx, endO_rt, andO_t, andO_f, orO_t, orO_f, chO_s, chP_t, chP_f, slO_s, atO_i, lcO_s, forO_s, gsO_s, nxO_s, tgO_s, paO_s, apO_s, exO_s, plO_s, ptO_s, dB_b, tru_b, tru_n, tru_i, tru_l, tru_t, is_n, isn_n, nn_n, nn_i, nn_b, nn_t, nn_l, add_ii, add'_ii, sub_ii, neg_i, lt_ii, le_ii, gt_ii, ge_ii, ix_l, ix_t, ix_s, at0, at1, at2, sl_l, sl_t, len_l, len_t, len_s, abs_i, int_i, int_b, max_ii, min_ii, tup_s, lst_s, seq_l, seq_t, sum_s, wipe_n, wipe_c, mul_ii, fdiv_ii, mod_ii, add_ll, add_tt, setAll, mkT, mkL, oNot, List.getD_cons_zero, List.getD_cons_succ, List.length_cons, List.length_nil, List.set_cons_zero, List.set_cons_succ, List.map_cons, List.map_nil, List.replicate, List.cons_append, List.nil_append, List.append_nil, Option.bind_some, Option.map_some, List.all_cons, List.all_nil, if_true, if_false, reduceIte, Nat.reduceAdd, Nat.reduceSub, Nat.reduceLT, Nat.reduceLeDiff, Nat.reduceEqDiff, decide_true, decide_false, Bool.and_true, Bool.and_self, Bool.true_and, Bool.not_true, Bool.not_false, ne_eq, not_true_eq_false, not_false_eq_true, Nat.zero_add, Bool.false_eq_true, and_self, true_and, and_true, i1, i2, i3, mod_ii n4, mod_ii n8, eq_int, hl, hix]
      · rcases List.mem_or_eq_of_mem_set hx with hx | rfl
        · exact q2 x hx
        · omega
      · rw [List.length_append, List.length_cons, List.length_nil]
        omega) (List.range n) [] [x0, some (.list (r.map PyData.int)), x2, some (.list (w.map PyData.int)), some (.list (Q.map PyData.int)), x5, some (.int 0), x7, x8] ⟨rfl, Q, 0, x7, hQ, hQ2, by simp, rfl⟩
  obtain ⟨_, Q', now, y7, q1, q2, _, e'⟩ := h
  subst e'
  exact ⟨Q', _, _, q1, q2, e⟩
theorem law_ok (ns : List Int) : d_law [scr (ns.map PyData.int)] = some (.bool true) := by
  obtain ⟨r, hr, hrow⟩ := row_int ns
  obtain ⟨m, hm, hm2⟩ := fmod_nat (r.getD 0 0) (m := 4) (by decide)
  obtain ⟨n, hn⟩ : ∃ n, n = 1 + m := ⟨_, rfl⟩
  have h1 : 1 ≤ n := by omega
  have h4 : n ≤ 4 := by omega
  have i0 : atI (r.map PyData.int) 0 = some (.int (r.getD 0 0)) := row_at r 0 (by omega)
  have i9 : atI (r.map PyData.int) 9 = some (.int (r.getD 9 0)) := row_at r 9 (by omega)
  have n4 : (4 : Int) ≠ 0 := by decide
  have n2 : (2 : Int) ≠ 0 := by decide
  have n5 : (5 : Int) ≠ 0 := by decide
  have hnn : 1 + (r.getD 0 0).fmod 4 = (n : Int) := by omega
  obtain ⟨w, hwd⟩ : ∃ w, w = (List.range n).map fun k => 1 + (r.getD (1 + k) 0).fmod 4 := ⟨_, rfl⟩
  have hwl : w.length = n := by rw [hwd]; simp
  have hw4 : ∀ x ∈ w, 1 ≤ x ∧ x ≤ 4 := fun x hx => by
    rw [hwd] at hx
    obtain ⟨k, _, rfl⟩ := List.mem_map.mp hx
    have := fmod_rng (r.getD (1 + k) 0) (m := 4) (by decide)
    omega
  have hw : OkD n w := ⟨hwl, fun x hx => (hw4 x hx).1, fun x hx => by have := (hw4 x hx).2; omega⟩
  have hmn : (0 : Int) < 1 + 3 * (n : Int) := by omega
  have hmn0 : (1 + 3 * (n : Int)) ≠ 0 := by omega
  obtain ⟨Q, hQd⟩ : ∃ Q, Q = (List.range n).map fun k => w.getD k 0 - 1 + (r.getD (5 + k) 0).fmod (1 + 3 * (n : Int)) := ⟨_, rfl⟩
  have hQl : Q.length = n := by rw [hQd]; simp
  have hQ2 : ∀ x ∈ Q, x ≤ 20 := fun x hx => by
    rw [hQd] at hx
    obtain ⟨k, hk, rfl⟩ := List.mem_map.mp hx
    have hk' := List.mem_range.mp hk
    have f1 := fmod_rng (r.getD (5 + k) 0) hmn
    have f2 := hw4 _ (getD_mem w k 0 (by omega))
    omega
  have hrg := rg0 n (by omega)
  have c1 : ∀ x0 x2 x3 x4 x5 x6 x8, lcL (gSet 7) tYesP (xBin oAdd (xC (.int 1)) (xBin oMod (xCall bInt (xCons (xBin oIx (xVar 1) (xBin oAdd (xC (.int 1)) (xVar 7))) xNil)) (xC (.int 4)))) [x0, some (.list (r.map PyData.int)), x2, x3, x4, x5, x6, none, x8] ((List.range n).map fun k : Nat => PyData.int (k : Nat)) = some (w.map PyData.int) := by
    intros
    rw [hwd, List.map_map]
    refine lcL_map _ _ _ fun k hk => ?_
    have hk' := List.mem_range.mp hk
    have i1 : atI (r.map PyData.int) (1 + (k : Int)) = some (.int (r.getD (1 + k) 0)) := row_off r 1 k (by omega)
    generalize r.map PyData.int = RD at *
    simp -implicitDefEqProofs only [Function.comp, xVar_a, xC_a, xBin_a, xUn_a, tOf_a, tTru_a, tNotP_a, tAndP_a, tOrP_a, tyes_a, tno_a, tYesP_a, xNil_a, xCons_a, xTup_a, xLst_a, xAnd_a, xOr_a, xIf_a, xChain_a, oNo_a, oAt_a, xSl_a, xCall_a, xSeq_a, xIt_a, xLc_a, gSet_a, gTupD_a, gsNil_a, gsCons_a, sNop_a, sBrk_a, sCnt_a, sSeq_a, sRet_a, sIf_a, sSet_a, sTgt_a, sAug_a, sApp_a, sExt_a, sPut_a, sPutK_a, pkO_s, sFor_a, sWhile_a, sPar_a, runD_a, b2_s, c2_s, sqO_nx, sqO_rt, sqO_bk, sqO_ct, ifO_t, ifO_f, stO_s, endO_nx, endO_rt, andO_t, andO_f, orO_t, orO_f, chO_s, chP_t, chP_f, slO_s, atO_i, lcO_s, forO_s, gsO_s, nxO_s, tgO_s, paO_s, apO_s, exO_s, plO_s, ptO_s, dB_b, tru_b, tru_n, tru_i, tru_l, tru_t, is_n, isn_n, nn_n, nn_i, nn_b, nn_t, nn_l, add_ii, add'_ii, sub_ii, neg_i, lt_ii, le_ii, gt_ii, ge_ii, ix_l, ix_t, ix_s, at0, at1, at2, sl_l, sl_t, len_l, len_t, len_s, abs_i, int_i, int_b, max_ii, min_ii, tup_s, lst_s, seq_l, seq_t, sum_s, wipe_n, wipe_c, mul_ii, fdiv_ii, mod_ii, add_ll, add_tt, setAll, mkT, mkL, oNot, List.getD_cons_zero, List.getD_cons_succ, List.length_cons, List.length_nil, List.set_cons_zero, List.set_cons_succ, List.map_cons, List.map_nil, List.replicate, List.cons_append, List.nil_append, List.append_nil, Option.bind_some, Option.map_some, List.all_cons, List.all_nil, if_true, if_false, reduceIte, Nat.reduceAdd, Nat.reduceSub, Nat.reduceLT, Nat.reduceLeDiff, Nat.reduceEqDiff, decide_true, decide_false, Bool.and_true, Bool.and_self, Bool.true_and, Bool.not_true, Bool.not_false, ne_eq, not_true_eq_false, not_false_eq_true, Nat.zero_add, Bool.false_eq_true, and_self, true_and, and_true, i1, mod_ii n4]
  have c2 : ∀ x0 x4 x5 x6 x8, lcL (gSet 7) tYesP (xBin oAdd (xBin oSub (xBin oIx (xVar 3) (xVar 7)) (xC (.int 1))) (xBin oMod (xCall bInt (xCons (xBin oIx (xVar 1) (xBin oAdd (xC (.int 5)) (xVar 7))) xNil)) (xBin oAdd (xC (.int 1)) (xBin oMul' (xC (.int 3)) (xVar 2))))) [x0, some (.list (r.map PyData.int)), some (.int (n : Nat)), some (.list (w.map PyData.int)), x4, x5, x6, none, x8] ((List.range n).map fun k : Nat => PyData.int (k : Nat)) = some (Q.map PyData.int) := by
    intros
    rw [hQd, List.map_map]
    refine lcL_map _ _ _ fun k hk => ?_
    have hk' := List.mem_range.mp hk
    have i1 : atI (r.map PyData.int) (5 + (k : Int)) = some (.int (r.getD (5 + k) 0)) := row_off r 5 k (by omega)
    have i2 := at_map PyData.int w 0 k (by omega)
    have mo : mulOk 3 (n : Int) = true := mulOk_r _ (by omega)
    generalize r.map PyData.int = RD at *
    generalize w.map PyData.int = WD at *
    simp -implicitDefEqProofs only [Function.comp, xVar_a, xC_a, xBin_a, xUn_a, tOf_a, tTru_a, tNotP_a, tAndP_a, tOrP_a, tyes_a, tno_a, tYesP_a, xNil_a, xCons_a, xTup_a, xLst_a, xAnd_a, xOr_a, xIf_a, xChain_a, oNo_a, oAt_a, xSl_a, xCall_a, xSeq_a, xIt_a, xLc_a, gSet_a, gTupD_a, gsNil_a, gsCons_a, sNop_a, sBrk_a, sCnt_a, sSeq_a, sRet_a, sIf_a, sSet_a, sTgt_a, sAug_a, sApp_a, sExt_a, sPut_a, sPutK_a, pkO_s, sFor_a, sWhile_a, sPar_a, runD_a, b2_s, c2_s, sqO_nx, sqO_rt, sqO_bk, sqO_ct, ifO_t, ifO_f, stO_s, endO_nx, endO_rt, andO_t, andO_f, orO_t, orO_f, chO_s, chP_t, chP_f, slO_s, atO_i, lcO_s, forO_s, gsO_s, nxO_s, tgO_s, paO_s, apO_s, exO_s, plO_s, ptO_s, dB_b, tru_b, tru_n, tru_i, tru_l, tru_t, is_n, isn_n, nn_n, nn_i, nn_b, nn_t, nn_l, add_ii, add'_ii, sub_ii, neg_i, lt_ii, le_ii, gt_ii, ge_ii, ix_l, ix_t, ix_s, at0, at1, at2, sl_l, sl_t, len_l, len_t, len_s, abs_i, int_i, int_b, max_ii, min_ii, tup_s, lst_s, seq_l, seq_t, sum_s, wipe_n, wipe_c, mul_ii, fdiv_ii, mod_ii, add_ll, add_tt, setAll, mkT, mkL, oNot, List.getD_cons_zero, List.getD_cons_succ, List.length_cons, List.length_nil, List.set_cons_zero, List.set_cons_succ, List.map_cons, List.map_nil, List.replicate, List.cons_append, List.nil_append, List.append_nil, Option.bind_some, Option.map_some, List.all_cons, List.all_nil, if_true, if_false, reduceIte, Nat.reduceAdd, Nat.reduceSub, Nat.reduceLT, Nat.reduceLeDiff, Nat.reduceEqDiff, decide_true, decide_false, Bool.and_true, Bool.and_self, Bool.true_and, Bool.not_true, Bool.not_false, ne_eq, not_true_eq_false, not_false_eq_true, Nat.zero_add, Bool.false_eq_true, and_self, true_and, and_true, i1, i2, mo, mod_ii hmn0]
  have c3 : ∀ (Q' : List Int) (x0 x1 x2 x3 x4 x5 x6 x7 : Option D), lcL (gSet 8) tYesP (xCall bMax2 (xCons (xC (.int 0)) (xCons (xVar 8) xNil))) [x0, x1, x2, x3, x4, x5, x6, x7, none] (Q'.map PyData.int) = some ((Q'.map mx0).map PyData.int) := by
    intros
    rw [List.map_map]
    refine lcL_map _ _ _ fun x _ => ?_
    simp -implicitDefEqProofs only [Function.comp, xVar_a, xC_a, xBin_a, xUn_a, tOf_a, tTru_a, tNotP_a, tAndP_a, tOrP_a, tyes_a, tno_a, tYesP_a, xNil_a, xCons_a, xTup_a, xLst_a, xAnd_a, xOr_a, xIf_a, xChain_a, oNo_a, oAt_a, xSl_a, xCall_a, xSeq_a, xIt_a, xLc_a, gSet_a, gTupD_a, gsNil_a, gsCons_a, sNop_a, sBrk_a, sCnt_a, sSeq_a, sRet_a, sIf_a, sSet_a, sTgt_a, sAug_a, sApp_a, sExt_a, sPut_a, sPutK_a, pkO_s, sFor_a, sWhile_a, sPar_a, runD_a, b2_s, c2_s, sqO_nx, sqO_rt, sqO_bk, sqO_ct, ifO_t, ifO_f, stO_s, endO_nx, endO_rt, andO_t, andO_f, orO_t, orO_f, chO_s, chP_t, chP_f, slO_s, atO_i, lcO_s, forO_s, gsO_s, nxO_s, tgO_s, paO_s, apO_s, exO_s, plO_s, ptO_s, dB_b, tru_b, tru_n, tru_i, tru_l, tru_t, is_n, isn_n, nn_n, nn_i, nn_b, nn_t, nn_l, add_ii, add'_ii, sub_ii, neg_i, lt_ii, le_ii, gt_ii, ge_ii, ix_l, ix_t, ix_s, at0, at1, at2, sl_l, sl_t, len_l, len_t, len_s, abs_i, int_i, int_b, max_ii, min_ii, tup_s, lst_s, seq_l, seq_t, sum_s, wipe_n, wipe_c, mul_ii, fdiv_ii, mod_ii, add_ll, add_tt, setAll, mkT, mkL, oNot, List.getD_cons_zero, List.getD_cons_succ, List.length_cons, List.length_nil, List.set_cons_zero, List.set_cons_succ, List.map_cons, List.map_nil, List.replicate, List.cons_append, List.nil_append, List.append_nil, Option.bind_some, Option.map_some, List.all_cons, List.all_nil, if_true, if_false, reduceIte, Nat.reduceAdd, Nat.reduceSub, Nat.reduceLT, Nat.reduceLeDiff, Nat.reduceEqDiff, decide_true, decide_false, Bool.and_true, Bool.and_self, Bool.true_and, Bool.not_true, Bool.not_false, ne_eq, not_true_eq_false, not_false_eq_true, Nat.zero_add, Bool.false_eq_true, and_self, true_and, and_true, mx0]
  have fin : ∀ (Q' : List Int), Q'.length = n → (∀ x ∈ Q', x ≤ 20) → d__law_late [.list (r.map PyData.int), .int (n : Nat), .list (w.map PyData.int), .list ((Q'.map mx0).map PyData.int)] = some (.bool true) ∧ ∃ L : List Int, (∀ x0 x2 x3 x5 x6 x8, lcL (gSet 7) tYesP (xBin oAdd (xBin oIx (xVar 4) (xVar 7)) (xBin oMod (xCall bInt (xCons (xBin oIx (xVar 1) (xBin oAdd (xC (.int 13)) (xVar 7))) xNil)) (xC (.int 5)))) [x0, some (.list (r.map PyData.int)), x2, x3, some (.list ((Q'.map mx0).map PyData.int)), x5, x6, none, x8] ((List.range n).map fun k : Nat => PyData.int (k : Nat)) = some (L.map PyData.int)) ∧ d__law_unsure [.list (r.map PyData.int), .int (n : Nat), .list (w.map PyData.int), .list (L.map PyData.int)] = some (.bool true) := fun Q' ql q2 => by
    have pl : (Q'.map mx0).length = n := by simpa using ql
    refine ⟨law_late_ok r w (Q'.map mx0) hr h1 h4 hw pl, (List.range n).map fun k => (Q'.map mx0).getD k 0 + (r.getD (13 + k) 0).fmod 5, ?_, ?_⟩
    · intros
      generalize (Q'.map mx0) = P at *
      rw [List.map_map]
      refine lcL_map _ _ _ fun k hk => ?_
      have hk' := List.mem_range.mp hk
      have i1 : atI (r.map PyData.int) (13 + (k : Int)) = some (.int (r.getD (13 + k) 0)) := row_off r 13 k (by omega)
      have i2 := at_map PyData.int P 0 k (by omega)
      generalize r.map PyData.int = RD at *
      generalize P.map PyData.int = PD at *
      simp -implicitDefEqProofs only [Function.comp, xVar_a, xC_a, xBin_a, xUn_a, tOf_a, tTru_a, tNotP_a, tAndP_a, tOrP_a, tyes_a, tno_a, tYesP_a, xNil_a, xCons_a, xTup_a, xLst_a, xAnd_a, xOr_a, xIf_a, xChain_a, oNo_a, oAt_a, xSl_a, xCall_a, xSeq_a, xIt_a, xLc_a, gSet_a, gTupD_a, gsNil_a, gsCons_a, sNop_a, sBrk_a, sCnt_a, sSeq_a, sRet_a, sIf_a, sSet_a, sTgt_a, sAug_a, sApp_a, sExt_a, sPut_a, sPutK_a, pkO_s, sFor_a, sWhile_a, sPar_a, runD_a, b2_s, c2_s, sqO_nx, sqO_rt, sqO_bk, sqO_ct, ifO_t, ifO_f, stO_s, endO_nx, endO_rt, andO_t, andO_f, orO_t, orO_f, chO_s, chP_t, chP_f, slO_s, atO_i, lcO_s, forO_s, gsO_s, nxO_s, tgO_s, paO_s, apO_s, exO_s, plO_s, ptO_s, dB_b, tru_b, tru_n, tru_i, tru_l, tru_t, is_n, isn_n, nn_n, nn_i, nn_b, nn_t, nn_l, add_ii, add'_ii, sub_ii, neg_i, lt_ii, le_ii, gt_ii, ge_ii, ix_l, ix_t, ix_s, at0, at1, at2, sl_l, sl_t, len_l, len_t, len_s, abs_i, int_i, int_b, max_ii, min_ii, tup_s, lst_s, seq_l, seq_t, sum_s, wipe_n, wipe_c, mul_ii, fdiv_ii, mod_ii, add_ll, add_tt, setAll, mkT, mkL, oNot, List.getD_cons_zero, List.getD_cons_succ, List.length_cons, List.length_nil, List.set_cons_zero, List.set_cons_succ, List.map_cons, List.map_nil, List.replicate, List.cons_append, List.nil_append, List.append_nil, Option.bind_some, Option.map_some, List.all_cons, List.all_nil, if_true, if_false, reduceIte, Nat.reduceAdd, Nat.reduceSub, Nat.reduceLT, Nat.reduceLeDiff, Nat.reduceEqDiff, decide_true, decide_false, Bool.and_true, Bool.and_self, Bool.true_and, Bool.not_true, Bool.not_false, ne_eq, not_true_eq_false, not_false_eq_true, Nat.zero_add, Bool.false_eq_true, and_self, true_and, and_true, i1, i2, mod_ii n5]
    · refine law_unsure_ok r w _ hr h1 h4 hw (by simp) fun i hi => ?_
      rw [map_at _ hi]
      have f1 := fmod_rng (r.getD (13 + i) 0) (m := 5) (by decide)
      have f2 : (Q'.map mx0).getD i 0 ≤ 20 := by
        have := getD_mem (Q'.map mx0) i 0 (by omega)
        obtain ⟨x, hx, e⟩ := List.mem_map.mp this
        rw [← e]
        have := q2 x hx
        unfold mx0
        split <;> omega
      omega
  have hb := flat_bool
  by_cases he : (r.getD 9 0).fmod 2 = 0
  · obtain ⟨Q', y6, y7, q1, q2, loop⟩ := pr_loop hr h4 hwl (fun x hx => (hw4 x hx).2) Q hQl hQ2 (some (scr (ns.map PyData.int))) (some (.int (n : Nat))) none none none
    obtain ⟨f1, L, f2, f3⟩ := fin Q' q1 q2
    clear fin
    generalize scr (ns.map PyData.int) = SC at *
    have c3' := c3 Q'
    clear c3
    generalize (Q'.map mx0).map PyData.int = P at *
    generalize (Q'.map PyData.int) = QD at *
    generalize (Q.map PyData.int) = QD0 at *
    generalize (L.map PyData.int) = LD at *
    generalize r.map PyData.int = RD at *
    generalize w.map PyData.int = WD at *
    generalize ((List.range n).map fun k : Nat => PyData.int (k : Nat)) = NR at *
    simp -implicitDefEqProofs only [d_law, g_law, xVar_a, xC_a, xBin_a, xUn_a, tOf_a, tTru_a, tNotP_a, tAndP_a, tOrP_a, tyes_a, tno_a, tYesP_a, xNil_a, xCons_a, xTup_a, xLst_a, xAnd_a, xOr_a, xIf_a, xChain_a, oNo_a, oAt_a, xSl_a, xCall_a, xSeq_a, xIt_a, xLc_a, gSet_a, gTupD_a, gsNil_a, gsCons_a, sNop_a, sBrk_a, sCnt_a, sSeq_a, sRet_a, sIf_a, sSet_a, sTgt_a, sAug_a, sApp_a, sExt_a, sPut_a, sPutK_a, pkO_s, sFor_a, sWhile_a, sPar_a, runD_a, b2_s, c2_s, sqO_nx, sqO_rt, sqO_bk, sqO_ct, ifO_t, ifO_f, stO_s, endO_nx, endO_rt, andO_t, andO_f, orO_t, orO_f, chO_s, chP_t, chP_f, slO_s, atO_i, lcO_s, forO_s, gsO_s, nxO_s, tgO_s, paO_s, apO_s, exO_s, plO_s, ptO_s, dB_b, tru_b, tru_n, tru_i, tru_l, tru_t, is_n, isn_n, nn_n, nn_i, nn_b, nn_t, nn_l, add_ii, add'_ii, sub_ii, neg_i, lt_ii, le_ii, gt_ii, ge_ii, ix_l, ix_t, ix_s, at0, at1, at2, sl_l, sl_t, len_l, len_t, len_s, abs_i, int_i, int_b, max_ii, min_ii, tup_s, lst_s, seq_l, seq_t, sum_s, wipe_n, wipe_c, mul_ii, fdiv_ii, mod_ii, add_ll, add_tt, setAll, mkT, mkL, oNot, List.getD_cons_zero, List.getD_cons_succ, List.length_cons, List.length_nil, List.set_cons_zero, List.set_cons_succ, List.map_cons, List.map_nil, List.replicate, List.cons_append, List.nil_append, List.append_nil, Option.bind_some, Option.map_some, List.all_cons, List.all_nil, if_true, if_false, reduceIte, Nat.reduceAdd, Nat.reduceSub, Nat.reduceLT, Nat.reduceLeDiff, Nat.reduceEqDiff, decide_true, decide_false, Bool.and_true, Bool.and_self, Bool.true_and, Bool.not_true, Bool.not_false, ne_eq, not_true_eq_false, not_false_eq_true, Nat.zero_add, Bool.false_eq_true, and_self, true_and, and_true, hrow, i0, mod_ii n4, hnn, hrg, c1, c2, i9, mod_ii n2, eq_int, he, loop, c3', f1, f2, f3, hb]
  · obtain ⟨f1, L, f2, f3⟩ := fin Q hQl hQ2
    clear fin
    generalize scr (ns.map PyData.int) = SC at *
    have c3' := c3 Q
    clear c3
    generalize (Q.map mx0).map PyData.int = P at *
    generalize (Q.map PyData.int) = QD0 at *
    generalize (L.map PyData.int) = LD at *
    generalize r.map PyData.int = RD at *
    generalize w.map PyData.int = WD at *
    generalize ((List.range n).map fun k : Nat => PyData.int (k : Nat)) = NR at *
    simp -implicitDefEqProofs only [d_law, g_law, xVar_a, xC_a, xBin_a, xUn_a, tOf_a, tTru_a, tNotP_a, tAndP_a, tOrP_a, tyes_a, tno_a, tYesP_a, xNil_a, xCons_a, xTup_a, xLst_a, xAnd_a, xOr_a, xIf_a, xChain_a, oNo_a, oAt_a, xSl_a, xCall_a, xSeq_a, xIt_a, xLc_a, gSet_a, gTupD_a, gsNil_a, gsCons_a, sNop_a, sBrk_a, sCnt_a, sSeq_a, sRet_a, sIf_a, sSet_a, sTgt_a, sAug_a, sApp_a, sExt_a, sPut_a, sPutK_a, pkO_s, sFor_a, sWhile_a, sPar_a, runD_a, b2_s, c2_s, sqO_nx, sqO_rt, sqO_bk, sqO_ct, ifO_t, ifO_f, stO_s, endO_nx, endO_rt, andO_t, andO_f, orO_t, orO_f, chO_s, chP_t, chP_f, slO_s, atO_i, lcO_s, forO_s, gsO_s, nxO_s, tgO_s, paO_s, apO_s, exO_s, plO_s, ptO_s, dB_b, tru_b, tru_n, tru_i, tru_l, tru_t, is_n, isn_n, nn_n, nn_i, nn_b, nn_t, nn_l, add_ii, add'_ii, sub_ii, neg_i, lt_ii, le_ii, gt_ii, ge_ii, ix_l, ix_t, ix_s, at0, at1, at2, sl_l, sl_t, len_l, len_t, len_s, abs_i, int_i, int_b, max_ii, min_ii, tup_s, lst_s, seq_l, seq_t, sum_s, wipe_n, wipe_c, mul_ii, fdiv_ii, mod_ii, add_ll, add_tt, setAll, mkT, mkL, oNot, List.getD_cons_zero, List.getD_cons_succ, List.length_cons, List.length_nil, List.set_cons_zero, List.set_cons_succ, List.map_cons, List.map_nil, List.replicate, List.cons_append, List.nil_append, List.append_nil, Option.bind_some, Option.map_some, List.all_cons, List.all_nil, if_true, if_false, reduceIte, Nat.reduceAdd, Nat.reduceSub, Nat.reduceLT, Nat.reduceLeDiff, Nat.reduceEqDiff, decide_true, decide_false, Bool.and_true, Bool.and_self, Bool.true_and, Bool.not_true, Bool.not_false, ne_eq, not_true_eq_false, not_false_eq_true, Nat.zero_add, Bool.false_eq_true, and_self, true_and, and_true, hrow, i0, mod_ii n4, hnn, hrg, c1, c2, i9, mod_ii n2, eq_int, he, c3', f1, f2, f3, hb]
end K13


theorem PySem.Challenge.cw_dockheld_k13_whole_sure_pay_holds : PySem.Challenge.rw_dockheld_k13_whole_sure_pay.Holds := by
  exact K13.holds_of fun ns _ => K13.law_ok ns

