import PyProof.Rows.All
import HandS.ForMost
import HandS.Deep
import HandS.TupAny
import HandS.Defaults
import HandS.Wide
import HandS.WideBits
import HandS.TupMul
import HandS.IsInst
import HandS.Flow
import PyProof.Rows.InDataRows
import HandS.Zip
import HandS.Rev
import HandS.RevRange
import KE.GoesEnum
import HandS.Style
import HandS.HeadEnd
import HandS.HeadHook1
import HandS.HeadHook2
import HandS.Conv
import HandS.Head0
import HandS.Head1
import HandS.Head2
import PySem.Challenge.RW_dockheld_k32_whole_chances_coats
set_option Elab.async false
set_option linter.all false
set_option maxRecDepth 100000
set_option maxHeartbeats 0
set_option exponentiation.threshold 3000
/-! Pm: plain data for the values, a simulation of the layer's readings by plain functions over slots. -/
namespace Pm
open PySem PySem.Spec PyProof.Rows L2

abbrev D := PyData
abbrev PEnv := List (Option D)
abbrev Xp := PEnv → Option D

/-- a list of the written part -/
def KL (K : PySem.W.Frag) (a : Addr) (xs : List V) : Prop :=
  ∃ (o : Obj) (its : Array Value) (n : Nat), K.lookup a = some o ∧ o.cls = .type "list" ∧ o.dict = none ∧ o.data = .seq its n ∧ its.size ≤ sizeLine ∧ Vals xs its.toList

def keyD : Key → D
  | .inl i => .int i
  | .inr s => .str s

/-- the script itself -/
def scr (ds : List D) : D := .dict [(.none, .list ds)]

mutual
/-- v stands for d in H; the cells on the way keep off A -/
inductive Rp (K : PySem.W.Frag) (A : Addr → Prop) (H : Hp) : V → D → Prop
  | non : Rp K A H .non .none
  | bl (b : Bool) : Rp K A H (.bl b) (.bool b)
  | int (i : Int) : Rp K A H (.int i) (.int i)
  | str (x : Str) : Rp K A H (.str x) (.str x)
  | lst {a : Addr} {xs : List V} {ds : List D} : H a = some (.lst xs) → ¬ A a → RpL K A H xs ds → Rp K A H (.ref a) (.list ds)
  | scr {a : Addr} {xs : List V} {ds : List D} : Rd H a (.lst xs) → ¬ A a → RpL K A H xs ds → Rp K A H (.ref a) (.dict [(.none, .list ds)])
  | kl {a : Addr} {xs : List V} {ds : List D} : KL K a xs → RpL K A H xs ds → Rp K A H (.ref a) (.dict [(.none, .list ds)])
  | tup {a : Addr} {xs : List V} {ds : List D} : H a = some (.tup xs) → ¬ A a → RpL K A H xs ds → Rp K A H (.ref a) (.tuple ds)
  | dic {a : Addr} {ks : List (Key × V)} {ds : List D} {kd : List (D × D)} : H a = some (.dK ks) → ¬ A a → RpL K A H (ks.map (·.2)) ds → kd = (ks.map fun p => keyD p.1).zip ds → Rp K A H (.ref a) (.dict kd)
inductive RpL (K : PySem.W.Frag) (A : Addr → Prop) (H : Hp) : List V → List D → Prop
  | nil : RpL K A H [] []
  | cons {v : V} {vs : List V} {d : D} {ds : List D} : Rp K A H v d → RpL K A H vs ds → RpL K A H (v :: vs) (d :: ds)
end

/-- the cell at a is d, whatever is said of a itself -/
inductive Tp (K : PySem.W.Frag) (A : Addr → Prop) (H : Hp) : Addr → D → Prop
  | lst {a : Addr} {xs : List V} {ds : List D} : H a = some (.lst xs) → RpL K A H xs ds → Tp K A H a (.list ds)
  | dic {a : Addr} {ks : List (Key × V)} {ds : List D} {kd : List (D × D)} : H a = some (.dK ks) → RpL K A H (ks.map (·.2)) ds → kd = (ks.map fun p => keyD p.1).zip ds → Tp K A H a (.dict kd)

def isMut : D → Bool
  | .list _ => true
  | .dict _ => true
  | _ => false

section
variable {K : PySem.W.Frag} {A A' : Addr → Prop} {H H' : Hp} {v : V} {d : D} {vs : List V} {ds : List D} {a : Addr}

theorem rd_some {xs : HO} (h : Rd H a xs) : ∃ o, H a = some o := by
  rcases h with h | ⟨o, h⟩
  · exact ⟨_, h⟩
  · exact ⟨_, h⟩

mutual
theorem Rp.step (hk : ∀ a o, H a = some o → ¬ A a → H' a = some o) (ha : ∀ a, A' a → A a ∨ H a = none) : ∀ {v : V} {d : D}, Rp K A H v d → Rp K A' H' v d
  | _, _, .non => .non
  | _, _, .bl b => .bl b
  | _, _, .int i => .int i
  | _, _, .str x => .str x
  | _, _, .lst h n r => by
    refine .lst (hk _ _ h n) (fun z => ?_) (RpL.step hk ha r)
    rcases ha _ z with q | q
    · exact n q
    · rw [q] at h; cases h
  | _, _, .scr h n r => by
    refine .scr ?_ (fun z => ?_) (RpL.step hk ha r)
    · rcases h with h | ⟨o, h⟩
      · exact .inl (hk _ _ h n)
      · exact .inr ⟨o, hk _ _ h n⟩
    · obtain ⟨o, e⟩ := rd_some h
      rcases ha _ z with q | q
      · exact n q
      · rw [q] at e; cases e
  | _, _, .kl h r => .kl h (RpL.step hk ha r)
  | _, _, .tup h n r => by
    refine .tup (hk _ _ h n) (fun z => ?_) (RpL.step hk ha r)
    rcases ha _ z with q | q
    · exact n q
    · rw [q] at h; cases h
  | _, _, .dic h n r e => by
    refine .dic (hk _ _ h n) (fun z => ?_) (RpL.step hk ha r) e
    rcases ha _ z with q | q
    · exact n q
    · rw [q] at h; cases h
theorem RpL.step (hk : ∀ a o, H a = some o → ¬ A a → H' a = some o) (ha : ∀ a, A' a → A a ∨ H a = none) : ∀ {vs : List V} {ds : List D}, RpL K A H vs ds → RpL K A' H' vs ds
  | _, _, .nil => .nil
  | _, _, .cons h r => .cons (Rp.step hk ha h) (RpL.step hk ha r)
end
theorem Rp.mono (s : Same H H') (h : Rp K A H v d) : Rp K A H' v d := h.step (fun a o e _ => s a o e) fun _ z => .inl z
theorem RpL.mono (s : Same H H') (h : RpL K A H vs ds) : RpL K A H' vs ds := h.step (fun a o e _ => s a o e) fun _ z => .inl z
theorem Rp.anti (h : Rp K A H v d) (ha : ∀ a, A' a → A a) : Rp K A' H v d := h.step (fun _ _ e _ => e) fun a z => .inl (ha a z)
theorem RpL.anti (h : RpL K A H vs ds) (ha : ∀ a, A' a → A a) : RpL K A' H vs ds := h.step (fun _ _ e _ => e) fun a z => .inl (ha a z)
theorem Tp.step (h : Tp K A H a d) (hk : ∀ a o, H a = some o → ¬ A a → H' a = some o) (ha : ∀ a, A' a → A a ∨ H a = none) (h0 : ∀ o, H a = some o → H' a = some o) : Tp K A' H' a d := by
  cases h with
  | lst e r => exact .lst (h0 _ e) (r.step hk ha)
  | dic e r z => exact .dic (h0 _ e) (r.step hk ha) z
theorem Tp.mono (s : Same H H') (h : Tp K A H a d) : Tp K A H' a d := h.step (fun a o e _ => s a o e) (fun _ z => .inl z) fun o e => s _ o e
theorem Tp.rp (h : Tp K A H a d) (n : ¬ A a) : Rp K A H (.ref a) d := by
  cases h with
  | lst e r => exact .lst e n r
  | dic e r z => exact .dic e n r z
theorem Tp.some (h : Tp K A H a d) : ∃ o, H a = Option.some o ∧ ∀ xs, o ≠ .tup xs := by
  cases h with
  | lst e r => exact ⟨_, e, fun _ h => nomatch h⟩
  | dic e r z => exact ⟨_, e, fun _ h => nomatch h⟩
theorem RpL.length (h : RpL K A H vs ds) : vs.length = ds.length := by
  induction ds generalizing vs with
  | nil => cases h; rfl
  | cons d ds ih => cases h with | cons _ r => simp [ih r]
theorem RpL.app {vs' : List V} {ds' : List D} (h' : RpL K A H vs' ds') : ∀ {vs : List V} {ds : List D}, RpL K A H vs ds → RpL K A H (vs ++ vs') (ds ++ ds')
  | _, _, .nil => h'
  | _, _, .cons h r => .cons h (RpL.app h' r)
theorem RpL.one (h : Rp K A H v d) : RpL K A H [v] [d] := .cons h .nil
theorem RpL.get : ∀ {vs : List V} {ds : List D} {i : Nat} {d : D}, RpL K A H vs ds → ds[i]? = some d → ∃ v, vs[i]? = some v ∧ Rp K A H v d
  | _, _, _, _, .nil, e => by simp at e
  | _, _, 0, _, .cons h r, e => by simp at e; subst e; exact ⟨_, rfl, h⟩
  | _, _, i + 1, _, .cons h r, e => by
    obtain ⟨v, e', q⟩ := RpL.get (i := i) r (by simpa using e)
    exact ⟨v, by simpa using e', q⟩
theorem RpL.getV : ∀ {vs : List V} {ds : List D} {i : Nat} {v : V}, RpL K A H vs ds → vs[i]? = some v → ∃ d, ds[i]? = some d ∧ Rp K A H v d
  | _, _, _, _, .nil, e => by simp at e
  | _, _, 0, _, .cons h r, e => by simp at e; subst e; exact ⟨_, rfl, h⟩
  | _, _, i + 1, _, .cons h r, e => by
    obtain ⟨v, e', q⟩ := RpL.getV (i := i) r (by simpa using e)
    exact ⟨v, by simpa using e', q⟩
theorem RpL.set {v : V} {d : D} (h : Rp K A H v d) : ∀ {vs : List V} {ds : List D} (i : Nat), RpL K A H vs ds → RpL K A H (vs.set i v) (ds.set i d)
  | _, _, _, .nil => .nil
  | _, _, 0, .cons _ r => .cons h r
  | _, _, i + 1, .cons q r => .cons q (RpL.set h i r)
theorem RpL.take : ∀ {vs : List V} {ds : List D} (n : Nat), RpL K A H vs ds → RpL K A H (vs.take n) (ds.take n)
  | _, _, 0, _ => by simpa using RpL.nil
  | _, _, _ + 1, .nil => .nil
  | _, _, n + 1, .cons h r => .cons h (RpL.take n r)
theorem RpL.drop : ∀ {vs : List V} {ds : List D} (n : Nat), RpL K A H vs ds → RpL K A H (vs.drop n) (ds.drop n)
  | _, _, 0, r => r
  | _, _, _ + 1, .nil => .nil
  | _, _, n + 1, .cons _ r => RpL.drop n r
theorem RpL.eraseIdx : ∀ {vs : List V} {ds : List D} (n : Nat), RpL K A H vs ds → RpL K A H (vs.eraseIdx n) (ds.eraseIdx n)
  | _, _, _, .nil => .nil
  | _, _, 0, .cons _ r => r
  | _, _, n + 1, .cons h r => .cons h (RpL.eraseIdx n r)
theorem RpL.reverse : ∀ {vs : List V} {ds : List D}, RpL K A H vs ds → RpL K A H vs.reverse ds.reverse
  | _, _, .nil => .nil
  | _, _, .cons h r => by rw [List.reverse_cons, List.reverse_cons]; exact RpL.app (.one h) (RpL.reverse r)
theorem RpL.rep (h : RpL K A H vs ds) : ∀ n : Nat, RpL K A H (List.replicate n vs).flatten (List.replicate n ds).flatten
  | 0 => .nil
  | n + 1 => by rw [List.replicate_succ, List.replicate_succ]; exact RpL.app (RpL.rep h n) h
end

/-- no tuple -/
def NT (o : HO) : Prop := ∀ xs, o ≠ .tup xs
theorem NT.lst {xs : List V} : NT (.lst xs) := fun _ h => nomatch h
theorem NT.dK {xs : List (Key × V)} : NT (.dK xs) := fun _ h => nomatch h
/-! ### slots -/
def Av (A0 : Addr → Prop) (B : Nat → Option Addr) (a : Addr) : Prop := A0 a ∨ ∃ i, B i = some a

structure Sim (K : PySem.W.Frag) (H0 : Hp) (A0 : Addr → Prop) (G : List (V × D)) (O : List Nat) (σ : L2.St) (H : Hp) (ρ : PEnv) (B : Nat → Option Addr) : Prop where
  same : Same H0 H
  a0 : ∀ a, A0 a → ∃ o, H a = some o ∧ NT o
  len : ρ.length = σ.length
  bo : ∀ i a, B i = some a → i ∈ O
  inj : ∀ i j a, B i = some a → B j = some a → i = j
  fr : ∀ i a, B i = some a → H0 a = none ∧ ¬ A0 a ∧ ∃ o, H a = some o ∧ NT o
  ob : ∀ i d, i ∈ O → ρ[i]? = some (some d) → isMut d = true → ∃ a, B i = some a ∧ σ[i]? = some (some (.ref a)) ∧ Tp K (Av A0 B) H a d
  slot : ∀ i d, ρ[i]? = some (some d) → (∃ a, B i = some a ∧ σ[i]? = some (some (.ref a)) ∧ Tp K (Av A0 B) H a d) ∨ (B i = none ∧ ∃ v, σ[i]? = some (some v) ∧ Rp K (Av A0 B) H v d)
  gs : ∀ p ∈ G, Rp K (Av A0 B) H p.1 p.2

section
variable {K : PySem.W.Frag} {A0 A : Addr → Prop} {H0 H H' : Hp} {G : List (V × D)} {O O' : List Nat} {σ : L2.St} {ρ : PEnv} {B : Nat → Option Addr} {v : V} {d : D}
theorem Sim.tr (S : Sim K H0 A0 G O σ H ρ B) : ∀ a, Av A0 B a → ∃ o, H a = some o ∧ NT o := fun a h => by
  rcases h with h | ⟨i, h⟩
  · exact S.a0 a h
  · exact (S.fr i a h).2.2
theorem Sim.mono (S : Sim K H0 A0 G O σ H ρ B) (s : Same H H') : Sim K H0 A0 G O σ H' ρ B where
  same := S.same.trans s
  a0 := fun a h => let ⟨o, e, n⟩ := S.a0 a h; ⟨o, s _ _ e, n⟩
  len := S.len
  bo := S.bo
  inj := S.inj
  fr := fun i a h => let ⟨h1, h2, o, e, n⟩ := S.fr i a h; ⟨h1, h2, o, s _ _ e, n⟩
  ob := fun i d hi h m => let ⟨a, h1, h2, h3⟩ := S.ob i d hi h m; ⟨a, h1, h2, h3.mono s⟩
  slot := fun i d h => by
    rcases S.slot i d h with ⟨a, h1, h2, h3⟩ | ⟨h1, v, h2, h3⟩
    · exact .inl ⟨a, h1, h2, h3.mono s⟩
    · exact .inr ⟨h1, v, h2, h3.mono s⟩
  gs := fun p hp => (S.gs p hp).mono s
/-- a is not one of the tracked cells of A -/
theorem Sim.new (S : Sim K H0 A0 G O σ H ρ B) {a : Addr} (h : H a = none) : ¬ Av A0 B a := fun z => by
  obtain ⟨o, e, _⟩ := S.tr a z
  rw [h] at e; cases e
/-- fewer own slots -/
theorem Sim.weak (S : Sim K H0 A0 G O σ H ρ B) (h : ∀ i ∈ O', i ∈ O) : ∃ B', Sim K H0 A0 G O' σ H ρ B' := by
  let B' : Nat → Option Addr := fun i => if i ∈ O' then B i else none
  have sub : ∀ i a, B' i = some a → B i = some a ∧ i ∈ O' := fun i a e => by
    by_cases hi : i ∈ O'
    · exact ⟨by simpa [B', hi] using e, hi⟩
    · simp [B', hi] at e
  have an : ∀ a, Av A0 B' a → Av A0 B a := fun a z => by
    rcases z with z | ⟨i, z⟩
    · exact .inl z
    · exact .inr ⟨i, (sub i a z).1⟩
  have ans : ∀ a, Av A0 B' a → Av A0 B a ∨ H a = none := fun a z => .inl (an a z)
  refine ⟨B', ⟨S.same, S.a0, S.len, fun i a e => (sub i a e).2, fun i j a e e' => S.inj i j a (sub i a e).1 (sub j a e').1, fun i a e => S.fr i a (sub i a e).1, fun i d hi e m => ?_, fun i d e => ?_, fun p hp => (S.gs p hp).anti an⟩⟩
  · obtain ⟨a, h1, h2, h3⟩ := S.ob i d (h i hi) e m
    exact ⟨a, by simp [B', hi, h1], h2, h3.step (fun _ _ q _ => q) ans fun _ q => q⟩
  · rcases S.slot i d e with ⟨a, h1, h2, h3⟩ | ⟨h1, v, h2, h3⟩
    · by_cases hi : i ∈ O'
      · exact .inl ⟨a, by simp [B', hi, h1], h2, h3.step (fun _ _ q _ => q) ans fun _ q => q⟩
      · refine .inr ⟨by simp [B', hi], _, h2, (h3.step (fun _ _ q _ => q) ans fun _ q => q).rp fun z => ?_⟩
        rcases z with z | ⟨j, z⟩
        · exact (S.fr i a h1).2.1 z
        · obtain ⟨z1, z2⟩ := sub j a z
          have := S.inj i j a h1 z1
          subst this
          exact hi z2
    · refine .inr ⟨?_, v, h2, h3.anti an⟩
      by_cases hi : i ∈ O' <;> simp [B', hi, h1]
/-- the slots ts are nobody's own -/
def restr (ts : List Nat) (B : Nat → Option Addr) : Nat → Option Addr := fun j => if ts.contains j then none else B j
theorem restr_one (i j : Nat) (B : Nat → Option Addr) : restr [i] B j = if j = i then none else B j := by
  by_cases h : j = i
  · simp [restr, h]
  · have : ([i].contains j) = false := by simp [h]
    simp [restr, this, h]
theorem restr_sub {ts : List Nat} {B : Nat → Option Addr} {j : Nat} {a : Addr} (h : restr ts B j = some a) : B j = some a := by
  unfold restr at h
  split at h
  · cases h
  · exact h
theorem restr_av {ts : List Nat} {B : Nat → Option Addr} {A0 : Addr → Prop} {a : Addr} (h : Av A0 (restr ts B) a) : Av A0 B a := by
  rcases h with h | ⟨i, h⟩
  · exact .inl h
  · exact .inr ⟨i, restr_sub h⟩
theorem restr_app (ts us : List Nat) (B : Nat → Option Addr) : restr us (restr ts B) = restr (ts ++ us) B := by
  funext j
  unfold restr
  by_cases h1 : us.contains j <;> by_cases h2 : ts.contains j <;> simp_all
theorem restr_nil (B : Nat → Option Addr) : restr [] B = B := by
  funext j
  simp [restr]
/-- a slot takes a value that is not one's own -/
theorem Sim.setS (S : Sim K H0 A0 G O σ H ρ B) {i : Nat} (r : Rp K (Av A0 B) H v d) (hi : i < ρ.length) : Sim K H0 A0 G (O.filter (· != i)) (σ.set i (some v)) H (ρ.set i (some d)) (restr [i] B) := by
  have sub : ∀ j a, restr [i] B j = some a → B j = some a ∧ j ≠ i := fun j a e => by
    rw [restr_one] at e
    by_cases hj : j = i
    · simp [hj] at e
    · exact ⟨by simpa [hj] using e, hj⟩
  have an : ∀ a, Av A0 (restr [i] B) a → Av A0 B a := fun a z => restr_av z
  have ans : ∀ a, Av A0 (restr [i] B) a → Av A0 B a ∨ H a = none := fun a z => .inl (an a z)
  have hiσ : i < σ.length := by rw [← S.len]; exact hi
  refine ⟨S.same, S.a0, by simp [S.len], fun j a e => ?_, fun j k a e e' => S.inj j k a (sub j a e).1 (sub k a e').1, fun j a e => S.fr j a (sub j a e).1, fun j d' hj e m => ?_, fun j d' e => ?_, fun p hp => (S.gs p hp).anti an⟩
  · exact List.mem_filter.mpr ⟨S.bo j a (sub j a e).1, by simp [(sub j a e).2]⟩
  · obtain ⟨hj1, hj2⟩ := List.mem_filter.mp hj
    have hne : j ≠ i := by simpa using hj2
    rw [List.getElem?_set_ne (Ne.symm hne)] at e
    obtain ⟨a, h1, h2, h3⟩ := S.ob j d' hj1 e m
    exact ⟨a, by rw [restr_one, if_neg hne, h1], by rw [List.getElem?_set_ne (Ne.symm hne)]; exact h2, h3.step (fun _ _ q _ => q) ans fun _ q => q⟩
  · by_cases hne : j = i
    · subst hne
      rw [List.getElem?_set_self hi] at e
      cases e
      exact .inr ⟨by rw [restr_one, if_pos rfl], v, by rw [List.getElem?_set_self hiσ], r.anti an⟩
    · rw [List.getElem?_set_ne (Ne.symm hne)] at e
      rw [List.getElem?_set_ne (Ne.symm hne)]
      rcases S.slot j d' e with ⟨a, h1, h2, h3⟩ | ⟨h1, v, h2, h3⟩
      · exact .inl ⟨a, by rw [restr_one, if_neg hne, h1], h2, h3.step (fun _ _ q _ => q) ans fun _ q => q⟩
      · exact .inr ⟨by rw [restr_one, if_neg hne, h1], v, h2, h3.anti an⟩
/-- a slot takes a new cell as its own -/
theorem Sim.setF (S : Sim K H0 A0 G O σ H ρ B) (s : Same H H') {i : Nat} {a : Addr} (hn : H a = none) (r : Tp K (fun b => Av A0 B b ∨ b = a) H' a d) (hi : i < ρ.length) : ∃ B', Sim K H0 A0 G (i :: O) (σ.set i (some (.ref a))) H' (ρ.set i (some d)) B' := by
  let B' : Nat → Option Addr := fun j => if j = i then some a else B j
  have sub : ∀ j b, B' j = some b → (j = i ∧ b = a) ∨ (j ≠ i ∧ B j = some b) := fun j b e => by
    by_cases hj : j = i
    · simp [B', hj] at e; exact .inl ⟨hj, e.symm⟩
    · exact .inr ⟨hj, by simpa [B', hj] using e⟩
  have an : ∀ b, Av A0 B' b → Av A0 B b ∨ b = a := fun b z => by
    rcases z with z | ⟨j, z⟩
    · exact .inl (.inl z)
    · rcases sub j b z with ⟨_, q⟩ | ⟨_, q⟩
      · exact .inr q
      · exact .inl (.inr ⟨j, q⟩)
  have ans : ∀ b, Av A0 B' b → Av A0 B b ∨ H b = none := fun b z => by
    rcases an b z with z | z
    · exact .inl z
    · exact .inr (by rw [z]; exact hn)
  have kp : ∀ b o, H b = some o → ¬ Av A0 B b → H' b = some o := fun b o e _ => s b o e
  have hiσ : i < σ.length := by rw [← S.len]; exact hi
  have na : ¬ A0 a := fun z => by
    obtain ⟨o, e, _⟩ := S.a0 a z
    rw [hn] at e; cases e
  have nb : ∀ j, B j ≠ some a := fun j z => by
    obtain ⟨_, _, o, e, _⟩ := S.fr j a z
    rw [hn] at e; cases e
  refine ⟨B', ⟨S.same.trans s, fun b z => let ⟨o, e, n⟩ := S.a0 b z; ⟨o, s _ _ e, n⟩, by simp [S.len], fun j b e => ?_, fun j k b e e' => ?_, fun j b e => ?_, fun j d' hj e m => ?_, fun j d' e => ?_, fun p hp => (S.gs p hp).step kp ans⟩⟩
  · rcases sub j b e with ⟨q, _⟩ | ⟨_, q⟩
    · rw [q]; exact List.mem_cons_self
    · exact List.mem_cons_of_mem _ (S.bo j b q)
  · rcases sub j b e with ⟨q, q'⟩ | ⟨q, q'⟩
    · rcases sub k b e' with ⟨p, p'⟩ | ⟨p, p'⟩
      · rw [q, p]
      · rw [q'] at p'; exact absurd p' (nb k)
    · rcases sub k b e' with ⟨p, p'⟩ | ⟨p, p'⟩
      · rw [p'] at q'; exact absurd q' (nb j)
      · exact S.inj j k b q' p'
  · rcases sub j b e with ⟨q, q'⟩ | ⟨q, q'⟩
    · rw [q']
      refine ⟨?_, na, r.some⟩
      exact S.same.free hn
    · obtain ⟨h1, h2, o, h3, h4⟩ := S.fr j b q'
      exact ⟨h1, h2, o, s _ _ h3, h4⟩
  · by_cases hne : j = i
    · subst hne
      rw [List.getElem?_set_self hi] at e
      cases e
      exact ⟨a, by simp [B'], by rw [List.getElem?_set_self hiσ], r.step (fun _ _ q _ => q) (fun b z => .inl (an b z)) fun _ q => q⟩
    · rw [List.getElem?_set_ne (Ne.symm hne)] at e
      rw [List.getElem?_set_ne (Ne.symm hne)]
      rcases List.mem_cons.mp hj with hj | hj
      · exact absurd hj hne
      obtain ⟨b, h1, h2, h3⟩ := S.ob j d' hj e m
      exact ⟨b, by simp [B', hne, h1], h2, h3.step kp ans fun o q => s _ _ q⟩
  · by_cases hne : j = i
    · subst hne
      rw [List.getElem?_set_self hi] at e
      cases e
      exact .inl ⟨a, by simp [B'], by rw [List.getElem?_set_self hiσ], r.step (fun _ _ q _ => q) (fun b z => .inl (an b z)) fun _ q => q⟩
    · rw [List.getElem?_set_ne (Ne.symm hne)] at e
      rw [List.getElem?_set_ne (Ne.symm hne)]
      rcases S.slot j d' e with ⟨b, h1, h2, h3⟩ | ⟨h1, v, h2, h3⟩
      · exact .inl ⟨b, by simp [B', hne, h1], h2, h3.step kp ans fun o q => s _ _ q⟩
      · exact .inr ⟨by simp [B', hne, h1], v, h2, h3.step kp ans⟩
/-- an own cell is written -/
theorem Sim.write (S : Sim K H0 A0 G O σ H ρ B) {i : Nat} {a : Addr} {o : HO} (hb : B i = some a) (hs : σ[i]? = some (some (.ref a))) (r : Tp K (Av A0 B) (upd H a o) a d) (hi : i < ρ.length) : Sim K H0 A0 G O σ (upd H a o) (ρ.set i (some d)) B := by
  obtain ⟨f0, f1, o1, f2, f3⟩ := S.fr i a hb
  have nt : NT o := by
    obtain ⟨o', e, n⟩ := r.some
    rw [upd_same] at e
    cases e
    exact n
  have av : Av A0 B a := .inr ⟨i, hb⟩
  have kp : ∀ b q, H b = some q → ¬ Av A0 B b → upd H a o b = some q := fun b q e n => by
    rw [upd_ne (fun z => n (by rw [z]; exact av))]; exact e
  have kn : ∀ b q, H b = some q → b ≠ a → upd H a o b = some q := fun b q e n => by
    rw [upd_ne n]; exact e
  have ans : ∀ b, Av A0 B b → Av A0 B b ∨ H b = none := fun b z => .inl z
  have there : ∀ b, (∃ q, H b = some q ∧ NT q) → ∃ q, upd H a o b = some q ∧ NT q := fun b ⟨q, e, n⟩ => by
    by_cases hb : b = a
    · subst hb; exact ⟨o, upd_same, nt⟩
    · exact ⟨q, kn b q e hb, n⟩
  refine ⟨fun b q e => ?_, fun b z => there b (S.a0 b z), by simp [S.len], S.bo, S.inj, fun j b e => ?_, fun j d' hj e m => ?_, fun j d' e => ?_, fun p hp => (S.gs p hp).step kp ans⟩
  · exact kn b q (S.same b q e) (fun z => by rw [z, f0] at e; cases e)
  · obtain ⟨h1, h2, h3⟩ := S.fr j b e
    exact ⟨h1, h2, there b h3⟩
  · by_cases hne : j = i
    · subst hne
      rw [List.getElem?_set_self hi] at e
      cases e
      exact ⟨a, hb, hs, r⟩
    · rw [List.getElem?_set_ne (Ne.symm hne)] at e
      obtain ⟨b, h1, h2, h3⟩ := S.ob j d' hj e m
      refine ⟨b, h1, h2, h3.step kp ans fun q z => kn b q z fun w => hne ?_⟩
      rw [w] at h1
      exact S.inj j i a h1 hb
  · by_cases hne : j = i
    · subst hne
      rw [List.getElem?_set_self hi] at e
      cases e
      exact .inl ⟨a, hb, hs, r⟩
    · rw [List.getElem?_set_ne (Ne.symm hne)] at e
      rcases S.slot j d' e with ⟨b, h1, h2, h3⟩ | ⟨h1, v, h2, h3⟩
      · refine .inl ⟨b, h1, h2, h3.step kp ans fun q z => kn b q z fun w => hne ?_⟩
        rw [w] at h1
        exact S.inj j i a h1 hb
      · exact .inr ⟨h1, v, h2, h3.step kp ans⟩
/-- one more cell that is kept off (a comprehension's list) -/
theorem Sim.guard (S : Sim K H0 A0 G O σ H ρ B) {a : Addr} (hn : H a = none) (s : Same H H') (ht : ∃ o, H' a = some o ∧ NT o) : Sim K H0 (fun b => A0 b ∨ b = a) G O σ H' ρ B := by
  have kp : ∀ b o, H b = some o → ¬ Av A0 B b → H' b = some o := fun b o e _ => s b o e
  have ans : ∀ b, Av (fun b => A0 b ∨ b = a) B b → Av A0 B b ∨ H b = none := fun b z => by
    rcases z with (z | z) | z
    · exact .inl (.inl z)
    · exact .inr (by rw [z]; exact hn)
    · exact .inl (.inr z)
  refine ⟨S.same.trans s, fun b z => ?_, S.len, S.bo, S.inj, fun i b e => ?_, fun i d hi e m => ?_, fun i d e => ?_, fun p hp => (S.gs p hp).step kp ans⟩
  · rcases z with z | z
    · obtain ⟨o, e, n⟩ := S.a0 b z
      exact ⟨o, s _ _ e, n⟩
    · rw [z]; exact ht
  · obtain ⟨h1, h2, o, h3, h4⟩ := S.fr i b e
    refine ⟨h1, fun z => ?_, o, s _ _ h3, h4⟩
    rcases z with z | z
    · exact h2 z
    · rw [z, hn] at h3; cases h3
  · obtain ⟨b, h1, h2, h3⟩ := S.ob i d hi e m
    exact ⟨b, h1, h2, h3.step kp ans fun o q => s _ _ q⟩
  · rcases S.slot i d e with ⟨b, h1, h2, h3⟩ | ⟨h1, v, h2, h3⟩
    · exact .inl ⟨b, h1, h2, h3.step kp ans fun o q => s _ _ q⟩
    · exact .inr ⟨h1, v, h2, h3.step kp ans⟩
/-- one more ghost -/
theorem Sim.ghost (S : Sim K H0 A0 G O σ H ρ B) {G' : List (V × D)} (h : ∀ p ∈ G', Rp K (Av A0 B) H p.1 p.2) : Sim K H0 A0 (G' ++ G) O σ H ρ B :=
  ⟨S.same, S.a0, S.len, S.bo, S.inj, S.fr, S.ob, S.slot, fun p hp => (List.mem_append.mp hp).elim (h p) (S.gs p)⟩
theorem Sim.unghost {G' : List (V × D)} (S : Sim K H0 A0 (G' ++ G) O σ H ρ B) : Sim K H0 A0 G O σ H ρ B :=
  ⟨S.same, S.a0, S.len, S.bo, S.inj, S.fr, S.ob, S.slot, fun p hp => S.gs p (List.mem_append_right _ hp)⟩
/-- a slot is forgotten -/
theorem Sim.drop (S : Sim K H0 A0 G O σ H ρ B) (i : Nat) (hO : i ∉ O) : Sim K H0 A0 G O (σ.set i none) H (ρ.set i none) B := by
  have nb : ∀ j a, B j = some a → j ≠ i := fun j a e z => hO (z ▸ S.bo j a e)
  have ne : ∀ j d, (ρ.set i none)[j]? = some (some d) → j ≠ i ∧ ρ[j]? = some (some d) := fun j d e => by
    by_cases hj : j = i
    · subst hj
      by_cases hl : j < ρ.length
      · rw [List.getElem?_set_self hl] at e; cases e
      · rw [List.getElem?_eq_none (by simpa using hl)] at e; cases e
    · rw [List.getElem?_set_ne (Ne.symm hj)] at e
      exact ⟨hj, e⟩
  refine ⟨S.same, S.a0, by simp [S.len], S.bo, S.inj, S.fr, fun j d hj e m => ?_, fun j d e => ?_, S.gs⟩
  · obtain ⟨h, e⟩ := ne j d e
    rw [List.getElem?_set_ne (Ne.symm h)]
    exact S.ob j d hj e m
  · obtain ⟨h, e⟩ := ne j d e
    rw [List.getElem?_set_ne (Ne.symm h)]
    exact S.slot j d e
end
end Pm

namespace Pm
open PySem PySem.Spec PyProof.Rows L2

/-- weak, strong, fresh -/
inductive Md where | w | s | f
  deriving DecidableEq

def WRp (K : PySem.W.Frag) (A : Addr → Prop) (H : Hp) (v : V) (d : D) : Prop := Rp K A H v d ∨ ∃ a, v = V.ref a ∧ Tp K A H a d
def Res (K : PySem.W.Frag) (A : Addr → Prop) (He H' : Hp) : Md → V → D → Prop
  | .w, v, d => WRp K A H' v d
  | .s, v, d => Rp K A H' v d
  | .f, v, d => (∃ a, v = V.ref a ∧ He a = none ∧ Tp K (fun b => A b ∨ b = a) H' a d) ∨ (Rp K A H' v d ∧ isMut d = false)
/-- all that is kept off is tracked -/
def Tr (A : Addr → Prop) (H : Hp) : Prop := ∀ a, A a → ∃ o, H a = some o ∧ NT o

section
variable {K : PySem.W.Frag} {A A' : Addr → Prop} {H He H' H'' : Hp} {v : V} {d : D} {m : Md}
theorem Tr.mono (t : Tr A H) (s : Same H H') : Tr A H' := fun a h => let ⟨o, e, n⟩ := t a h; ⟨o, s _ _ e, n⟩
theorem Tr.no (t : Tr A H) {a : Addr} (h : H a = none) : ¬ A a := fun z => by
  obtain ⟨o, e, _⟩ := t a z
  rw [h] at e; cases e
theorem WRp.mono (s : Same H H') (h : WRp K A H v d) : WRp K A H' v d := by
  rcases h with h | ⟨a, e, h⟩
  · exact .inl (h.mono s)
  · exact .inr ⟨a, e, h.mono s⟩
theorem Res.mono (s : Same H' H'') (h : Res K A He H' m v d) : Res K A He H'' m v d := by
  cases m with
  | w => exact WRp.mono s h
  | s => exact Rp.mono s h
  | f =>
    rcases h with ⟨a, e, n, h⟩ | ⟨h, n⟩
    · exact .inl ⟨a, e, n, h.mono s⟩
    · exact .inr ⟨h.mono s, n⟩
theorem Res.back (s : Same He H) (h : Res K A H H' m v d) : Res K A He H' m v d := by
  cases m with
  | w => exact h
  | s => exact h
  | f =>
    rcases h with ⟨a, e, n, h⟩ | h
    · exact .inl ⟨a, e, s.free n, h⟩
    · exact .inr h
theorem Res.toW (h : Res K A He H' m v d) : WRp K A H' v d := by
  cases m with
  | w => exact h
  | s => exact .inl h
  | f =>
    rcases h with ⟨a, e, n, h⟩ | h
    · exact .inr ⟨a, e, h.step (fun _ _ q _ => q) (fun _ z => .inl (.inl z)) fun _ q => q⟩
    · exact .inl h.1
theorem Res.toS (t : Tr A He) (hm : m ≠ .w) (h : Res K A He H' m v d) : Rp K A H' v d := by
  cases m with
  | w => exact absurd rfl hm
  | s => exact h
  | f =>
    rcases h with ⟨a, e, n, h⟩ | h
    · subst e
      exact (h.step (fun _ _ q _ => q) (fun _ z => .inl (.inl z)) fun _ q => q : Tp K A H' a d).rp (t.no n)
    · exact h.1
/-- a value without a cell of its own to be written -/
theorem Res.flat (h : Rp K A H' v d) (n : isMut d = false) : Res K A He H' m v d := by
  cases m with
  | w => exact .inl h
  | s => exact h
  | f => exact .inr ⟨h, n⟩
theorem Res.int {i : Int} : Res K A He H' m (.int i) (.int i) := Res.flat (.int i) rfl
theorem Res.bl {b : Bool} : Res K A He H' m (.bl b) (.bool b) := Res.flat (.bl b) rfl
theorem Res.non : Res K A He H' m .non .none := Res.flat .non rfl
theorem Res.str {b : Str} : Res K A He H' m (.str b) (.str b) := Res.flat (.str b) rfl
/-- a new list, a new tuple -/
theorem Res.newL {p : Addr} {vs : List V} {ds : List D} (t : Tr A H) (hn : H p = none) (r : RpL K A H vs ds) (s : Same He H) : Res K A He (upd H p (.lst vs)) .f (.ref p) (.list ds) := by
  refine .inl ⟨p, rfl, s.free hn, .lst upd_same ?_⟩
  refine r.step (fun a o e _ => ?_) fun a z => ?_
  · rw [upd_ne (ne_of_none e hn)]; exact e
  · rcases z with z | z
    · exact .inl z
    · exact .inr (by rw [z]; exact hn)
theorem same_upd {p : Addr} {o : HO} (h : H p = none) : Same H (upd H p o) := fun b x e => by
  rw [upd_ne (ne_of_none e h)]; exact e
theorem Rp.newT {p : Addr} {vs : List V} {ds : List D} (t : Tr A H) (hn : H p = none) (r : RpL K A H vs ds) : Rp K A (upd H p (.tup vs)) (.ref p) (.tuple ds) :=
  .tup upd_same (t.no hn) (r.mono (same_upd hn))
theorem WRp.int {i : Int} (h : WRp K A H v (.int i)) : v = .int i := by
  rcases h with h | ⟨a, e, h⟩
  · cases h; rfl
  · cases h
theorem WRp.bl {i : Bool} (h : WRp K A H v (.bool i)) : v = .bl i := by
  rcases h with h | ⟨a, e, h⟩
  · cases h; rfl
  · cases h
theorem WRp.non (h : WRp K A H v .none) : v = .non := by
  rcases h with h | ⟨a, e, h⟩
  · cases h; rfl
  · cases h
theorem WRp.str {i : Str} (h : WRp K A H v (.str i)) : v = .str i := by
  rcases h with h | ⟨a, e, h⟩
  · cases h; rfl
  · cases h
theorem WRp.lst {ds : List D} (h : WRp K A H v (.list ds)) : ∃ a xs, v = .ref a ∧ H a = some (.lst xs) ∧ RpL K A H xs ds := by
  rcases h with h | ⟨a, e, h⟩
  · cases h with
    | lst h n r => exact ⟨_, _, rfl, h, r⟩
  · cases h with
    | lst h r => exact ⟨_, _, e, h, r⟩
theorem WRp.tup {ds : List D} (h : WRp K A H v (.tuple ds)) : ∃ a xs, v = .ref a ∧ H a = some (.tup xs) ∧ ¬ A a ∧ RpL K A H xs ds := by
  rcases h with h | ⟨a, e, h⟩
  · cases h with
    | tup h n r => exact ⟨_, _, rfl, h, n, r⟩
  · cases h
theorem WRp.scr {ds : List D} (h : WRp K A H v (.dict [(.none, .list ds)])) : ∃ a xs, v = .ref a ∧ SqL K H a xs ∧ RpL K A H xs ds := by
  rcases h with h | ⟨a, e, h⟩
  · cases h with
    | scr h n r => exact ⟨_, _, rfl, .inl h, r⟩
    | kl h r => exact ⟨_, _, rfl, .inr h, r⟩
    | dic h n r e =>
      rename_i ks ds'
      cases ks with
      | nil => simp at e
      | cons p ks =>
        cases ds' with
        | nil => simp at e
        | cons d' ds' =>
          simp only [List.map_cons, List.zip_cons_cons, List.cons.injEq, Prod.mk.injEq] at e
          obtain ⟨⟨e, _⟩, _⟩ := e
          obtain ⟨k, _⟩ := p
          cases k <;> cases e
  · cases h with
    | dic h r e =>
      rename_i ks ds'
      cases ks with
      | nil => simp at e
      | cons p ks =>
        cases ds' with
        | nil => simp at e
        | cons d' ds' =>
          simp only [List.map_cons, List.zip_cons_cons, List.cons.injEq, Prod.mk.injEq] at e
          obtain ⟨⟨e, _⟩, _⟩ := e
          obtain ⟨k, _⟩ := p
          cases k <;> cases e
end

/-! ### judgements -/
def simT (K : PySem.W.Frag) (O : List Nat) (m : Md) (f : Xp) : TE := fun σ H Q => ∃ H0 A0 G ρ B d, Sim K H0 A0 G O σ H ρ B ∧ f ρ = some d ∧ ∀ v H', Same H H' → Res K (Av A0 B) H H' m v d → Q v H'
structure SE (X : Cx) (O : List Nat) (m : Md) (e : Expr) (f : Xp) : Prop where
  pe : PE X e (simT X.K O m f)
def simTT (K : PySem.W.Frag) (O : List Nat) (f : PEnv → Option Bool) : TT := fun σ H Q => ∃ H0 A0 G ρ B b, Sim K H0 A0 G O σ H ρ B ∧ f ρ = some b ∧ ∀ H', Same H H' → Q b H'
structure ST (X : Cx) (O : List Nat) (e : Expr) (f : PEnv → Option Bool) : Prop where
  pt : PT X e (simTT X.K O f)
def ResL (K : PySem.W.Frag) (A : Addr → Prop) (H : Hp) (strong : Bool) (vs : List V) (ds : List D) : Prop := if strong then RpL K A H vs ds else Paired (WRp K A H) vs ds
def simA (K : PySem.W.Frag) (O : List Nat) (strong : Bool) (f : PEnv → Option (List D)) : TA := fun σ H Q => ∃ H0 A0 G ρ B ds, Sim K H0 A0 G O σ H ρ B ∧ f ρ = some ds ∧ ∀ vs H', Same H H' → ResL K (Av A0 B) H' strong vs ds → Q vs H'
structure SA (X : Cx) (O : List Nat) (strong : Bool) (es : List Expr) (f : PEnv → Option (List D)) : Prop where
  pa : PA X es (simA X.K O strong f)

theorem pe_imp {X : Cx} {e : Expr} {t t' : TE} (h : PE X e t) (hi : ∀ σ H Q, t' σ H Q → t σ H Q) : PE X e t' := ⟨fun pins s σ H Q I q => h.run pins s σ H Q I (hi _ _ _ q)⟩
theorem pt_imp {X : Cx} {e : Expr} {t t' : TT} (h : PT X e t) (hi : ∀ σ H Q, t' σ H Q → t σ H Q) : PT X e t' := ⟨fun pins s σ H Q I q => h.run pins s σ H Q I (hi _ _ _ q)⟩
theorem pa_imp {X : Cx} {e : List Expr} {t t' : TA} (h : PA X e t) (hi : ∀ σ H Q, t' σ H Q → t σ H Q) : PA X e t' := ⟨fun pos pins s σ H Q I q => h.run pos pins s σ H Q I (hi _ _ _ q)⟩
theorem ps_imp {X : Cx} {e : Stmt} {t t' : TS} (h : PS X e t) (hi : ∀ D σ H, t' D σ H → t D σ H) : PS X e t' := ⟨fun pins s σ H Q I q => h.run pins s σ H Q I (hi _ _ _ q)⟩
theorem pss_imp {X : Cx} {e : List Stmt} {t t' : TS} (h : PSs X e t) (hi : ∀ D σ H, t' D σ H → t D σ H) : PSs X e t' := ⟨fun pins s σ H Q I q => h.run pins s σ H Q I (hi _ _ _ q)⟩

/-! ### names, constants -/
def xVar (i : Nat) : Xp := fun ρ => ρ.getD i none
def xC (d : D) : Xp := fun _ => some d
theorem getD_some {ρ : PEnv} {i : Nat} {d : D} (h : ρ.getD i none = some d) : ρ[i]? = some (some d) := by
  rw [List.getD_eq_getElem?_getD] at h
  cases e : ρ[i]? with
  | none => rw [e] at h; cases h
  | some x => rw [e] at h; exact congrArg some h
section
variable {X : Cx} {O : List Nat} {m ma mb : Md} {a b c e : Expr} {es : List Expr} {fa fb fc f : Xp} {pos : Pos}
theorem se_var (i : Nat) {x : Str} (hN : X.N[i]? = some x := by rfl) (hv : Vis X.env.scope x := by first | exact Or.inl rfl | exact Or.inr (Or.inl rfl) | exact Or.inr (Or.inr rfl)) (ho : O.contains i = false := by rfl)
    (hd : (x == ("__debug__" : Str)) = false := by decide) (hcd : (x == ("__classdict__" : Str)) = false := by decide) : SE X O .s (.Name x pos) (xVar i) := by
  refine ⟨pe_imp (pe_var hN hv hd hcd) fun σ H Q h => ?_⟩
  obtain ⟨H0, A0, G, ρ, B, d, S, e, k⟩ := h
  rcases S.slot i d (getD_some e) with ⟨a, h1, _, _⟩ | ⟨_, v, h2, h3⟩
  · have := S.bo i a h1
    simp at ho
    exact absurd this ho
  · exact ⟨v, h2, k v H (Same.refl H) h3⟩
theorem se_varW (i : Nat) {x : Str} (hN : X.N[i]? = some x := by rfl) (hv : Vis X.env.scope x := by first | exact Or.inl rfl | exact Or.inr (Or.inl rfl) | exact Or.inr (Or.inr rfl))
    (hd : (x == ("__debug__" : Str)) = false := by decide) (hcd : (x == ("__classdict__" : Str)) = false := by decide) : SE X O .w (.Name x pos) (xVar i) := by
  refine ⟨pe_imp (pe_var hN hv hd hcd) fun σ H Q h => ?_⟩
  obtain ⟨H0, A0, G, ρ, B, d, S, e, k⟩ := h
  rcases S.slot i d (getD_some e) with ⟨a, h1, h2, h3⟩ | ⟨_, v, h2, h3⟩
  · exact ⟨_, h2, k _ H (Same.refl H) (.inr ⟨a, rfl, h3⟩)⟩
  · exact ⟨v, h2, k v H (Same.refl H) (.inl h3)⟩
theorem se_int {i j} : SE X O .f (.Constant (.int i) j pos) (xC (.int i)) :=
  ⟨pe_imp pe_int fun σ H Q ⟨H0, A0, G, ρ, B, d, S, e, k⟩ => by cases e; exact k _ H (Same.refl H) Res.int⟩
theorem se_bl {i j} : SE X O .f (.Constant (.bool i) j pos) (xC (.bool i)) :=
  ⟨pe_imp pe_bl fun σ H Q ⟨H0, A0, G, ρ, B, d, S, e, k⟩ => by cases e; exact k _ H (Same.refl H) Res.bl⟩
theorem se_non {j} : SE X O .f (.Constant .none j pos) (xC .none) :=
  ⟨pe_imp pe_non fun σ H Q ⟨H0, A0, G, ρ, B, d, S, e, k⟩ => by cases e; exact k _ H (Same.refl H) Res.non⟩
theorem se_str {i j} : SE X O .f (.Constant (.str i) j pos) (xC (.str i)) :=
  ⟨pe_imp pe_str fun σ H Q ⟨H0, A0, G, ρ, B, d, S, e, k⟩ => by cases e; exact k _ H (Same.refl H) Res.str⟩

/-! ### operators by values -/
def xBin (g : D → D → Option D) (fa fb : Xp) : Xp := fun ρ => (fa ρ).bind fun x => (fb ρ).bind fun y => g x y
def xUn (g : D → Option D) (fa : Xp) : Xp := fun ρ => (fa ρ).bind g
def rD (K : PySem.W.Frag) (m : Md) (g : D → D → Option D) : R2 := fun x y H Q => ∃ A dx dy d, Tr A H ∧ WRp K A H x dx ∧ WRp K A H y dy ∧ g dx dy = some d ∧ ∀ v H', Same H H' → Res K A H H' m v d → Q v H'
def rD1 (K : PySem.W.Frag) (m : Md) (g : D → Option D) : V → Hp → VK → Prop := fun x H Q => ∃ A dx d, Tr A H ∧ WRp K A H x dx ∧ g dx = some d ∧ ∀ v H', Same H H' → Res K A H H' m v d → Q v H'
theorem bind2 {α β : Type} {a : Option α} {b : α → Option β} {c : β} (h : a.bind b = some c) : ∃ x, a = some x ∧ b x = some c := Option.bind_eq_some_iff.mp h
theorem tOp_of {g : D → D → Option D} (σ : L2.St) (H : Hp) (Q : VK) (h : simT X.K O m (xBin g fa fb) σ H Q) : tOp (rD X.K m g) (simT X.K O ma fa) (simT X.K O mb fb) σ H Q := by
  obtain ⟨H0, A0, G, ρ, B, d, S, e, k⟩ := h
  obtain ⟨x, ex, e⟩ := bind2 e
  obtain ⟨y, ey, e⟩ := bind2 e
  refine ⟨H0, A0, G, ρ, B, x, S, ex, fun v H1 s1 r1 => ⟨H0, A0, G, ρ, B, y, S.mono s1, ey, fun u H2 s2 r2 => ?_⟩⟩
  exact ⟨Av A0 B, x, y, d, (S.mono (s1.trans s2)).tr, r1.toW.mono s2, r2.toW, e, fun z H3 s3 r3 => k z H3 ((s1.trans s2).trans s3) (r3.back (s1.trans s2))⟩
theorem se_op {op : Operator} {g : D → D → Option D} (ho : OpR X (binaryOp op) (rD X.K m g)) (ha : SE X O ma a fa) (hb : SE X O mb b fb) : SE X O m (.BinOp a op b pos) (xBin g fa fb) :=
  ⟨pe_imp (pe_op ho ha.pe hb.pe) tOp_of⟩
theorem se_cmp {op : CmpOp} {g : D → D → Option D} (ho : OpR X (compareOp op) (rD X.K m g)) (ha : SE X O ma a fa) (hb : SE X O mb b fb) (hm : behindInMarks op b = false := by first | exact nomark _ | rfl) : SE X O m (.Compare a [op] [b] pos) (xBin g fa fb) :=
  ⟨pe_imp (pe_cmpR ho ha.pe hb.pe hm) tOp_of⟩
/-- a comparison's answer as a test -/
def tB2 (g : D → D → Option D) (fa fb : Xp) : PEnv → Option Bool := fun ρ => (fa ρ).bind fun x => (fb ρ).bind fun y => (g x y).bind fun z => match z with | .bool b => some b | _ => none
def dB (d : D) : Option Bool := match d with | .bool b => some b | _ => none
theorem dB_some {d : D} {b : Bool} (h : dB d = some b) : d = .bool b := by
  cases d <;> simp_all [dB]
def tOf (f : Xp) : PEnv → Option Bool := fun ρ => (f ρ).bind dB
theorem st_cmp {op : CmpOp} {g : D → D → Option D} (ho : OpR X (compareOp op) (rD X.K .f g)) (ha : SE X O ma a fa) (hb : SE X O mb b fb) (hm : behindInMarks op b = false := by first | exact nomark _ | rfl) : ST X O (.Compare a [op] [b] pos) (tOf (xBin g fa fb)) := by
  refine ⟨pt_imp (pt_cmpR ho ha.pe hb.pe hm) fun σ H Q h => ?_⟩
  obtain ⟨H0, A0, G, ρ, B, b, S, e, k⟩ := h
  obtain ⟨d, ed, e⟩ := bind2 e
  have := dB_some e
  subst this
  refine tOp_of (m := .f) σ H _ ⟨H0, A0, G, ρ, B, _, S, ed, fun v H' s r => ?_⟩
  exact ⟨b, r.toW.bl, k H' s⟩
theorem se_un {op : UnaryOp} {g : D → Option D} (ho : UnR X (unaryOp op) (rD1 X.K m g)) (ha : SE X O ma a fa) : SE X O m (.UnaryOp op a pos) (xUn g fa) := by
  refine ⟨pe_imp (pe_un ho ha.pe) fun σ H Q h => ?_⟩
  obtain ⟨H0, A0, G, ρ, B, d, S, e, k⟩ := h
  obtain ⟨x, ex, e⟩ := bind2 e
  exact ⟨H0, A0, G, ρ, B, x, S, ex, fun v H1 s1 r1 => ⟨Av A0 B, x, d, (S.mono s1).tr, r1.toW, e, fun z H3 s3 r3 => k z H3 (s1.trans s3) (r3.back s1)⟩⟩

/-! ### tests -/
def tNotP (f : PEnv → Option Bool) : PEnv → Option Bool := fun ρ => (f ρ).map (!·)
def tAndP (f g : PEnv → Option Bool) : PEnv → Option Bool := fun ρ => (f ρ).bind fun b => if b then g ρ else some false
def tOrP (f g : PEnv → Option Bool) : PEnv → Option Bool := fun ρ => (f ρ).bind fun b => if b then some true else g ρ
theorem st_not {f : PEnv → Option Bool} (h : ST X O a f) : ST X O (.UnaryOp .Not a pos) (tNotP f) := by
  refine ⟨pt_imp (pt_not h.pt) fun σ H Q q => ?_⟩
  obtain ⟨H0, A0, G, ρ, B, b, S, e, k⟩ := q
  obtain ⟨x, ex, e⟩ := Option.map_eq_some_iff.mp e
  subst e
  exact ⟨H0, A0, G, ρ, B, x, S, ex, fun H' s => k H' s⟩
/-- and, or of tests -/
structure SW (X : Cx) (O : List Nat) (e : Expr) (f : PEnv → Option Bool) : Prop where
  pw : PW X e (simTT X.K O f)
theorem SW.st {f : PEnv → Option Bool} (h : SW X O a f) : ST X O a f := ⟨h.pw.pt⟩
theorem sw_and1 {f : PEnv → Option Bool} (h : ST X O a f) : SW X O (.BoolOp .And [a] pos) f := ⟨pw_and1 h.pt⟩
theorem sw_or1 {f : PEnv → Option Bool} (h : ST X O a f) : SW X O (.BoolOp .Or [a] pos) f := ⟨pw_or1 h.pt⟩
theorem pw_imp {e : Expr} {t t' : TT} (h : PW X e t) (hi : ∀ σ H Q, t' σ H Q → t σ H Q) : PW X e t' := ⟨fun w pins s σ H Q I q => h.run w pins s σ H Q I (hi _ _ _ q)⟩
theorem sw_and {f g : PEnv → Option Bool} (h : ST X O a f) (h' : SW X O (.BoolOp .And (b :: es) pos) g) : SW X O (.BoolOp .And (a :: b :: es) pos) (tAndP f g) := by
  refine ⟨pw_imp (pw_and h.pt h'.pw) fun σ H Q q => ?_⟩
  obtain ⟨H0, A0, G, ρ, B, b, S, e, k⟩ := q
  obtain ⟨x, ex, e⟩ := bind2 e
  refine ⟨H0, A0, G, ρ, B, x, S, ex, fun H1 s1 => ?_⟩
  cases x with
  | true => exact ⟨H0, A0, G, ρ, B, b, S.mono s1, e, fun H' s => k H' (s1.trans s)⟩
  | false => cases e; exact k H1 s1
theorem sw_or {f g : PEnv → Option Bool} (h : ST X O a f) (h' : SW X O (.BoolOp .Or (b :: es) pos) g) : SW X O (.BoolOp .Or (a :: b :: es) pos) (tOrP f g) := by
  refine ⟨pw_imp (pw_or h.pt h'.pw) fun σ H Q q => ?_⟩
  obtain ⟨H0, A0, G, ρ, B, b, S, e, k⟩ := q
  obtain ⟨x, ex, e⟩ := bind2 e
  refine ⟨H0, A0, G, ρ, B, x, S, ex, fun H1 s1 => ?_⟩
  cases x with
  | true => cases e; exact k H1 s1
  | false => exact ⟨H0, A0, G, ρ, B, b, S.mono s1, e, fun H' s => k H' (s1.trans s)⟩
/-- a value's truth -/
def oTru : D → Option Bool
  | .none => some false
  | .bool b => some b
  | .int i => some (i != 0)
  | .list xs => some (!xs.isEmpty)
  | .tuple xs => some (!xs.isEmpty)
  | .dict [] => some false
  | .dict ((.int _, _) :: _) => some true
  | .dict ((.str _, _) :: _) => some true
  | _ => none
theorem empty_of {K : PySem.W.Frag} {A : Addr → Prop} {H : Hp} {vs : List V} {ds : List D} (r : RpL K A H vs ds) : (!vs.isEmpty) = !ds.isEmpty := by
  cases r <;> rfl
theorem tru_of {K : PySem.W.Frag} {A : Addr → Prop} {H : Hp} {v : V} {d : D} {b : Bool} (h : WRp K A H v d) (e : oTru d = some b) : TruV K v H b := by
  have dict : ∀ {a : Addr} {ks : List (Key × V)} {ds : List D} {kd : List (D × D)}, H a = some (.dK ks) → RpL K A H (ks.map (·.2)) ds → kd = (ks.map fun p => keyD p.1).zip ds → oTru (.dict kd) = some b → TruV K (.ref a) H b := fun {a ks ds kd} h1 h2 h3 h4 => by
    refine .inr (.inr ⟨ks, h1, ?_⟩)
    subst h3
    cases ks with
    | nil => simp [oTru] at h4; simp [← h4]
    | cons p ks =>
      cases h2 with
      | cons h2 h2' =>
        obtain ⟨k, v⟩ := p
        cases k <;> simp [oTru, keyD] at h4 <;> simp [← h4]
  rcases h with h | ⟨a, z, h⟩
  · cases h with
    | non => cases e; exact rfl
    | bl c => cases e; exact rfl
    | int i => cases e; exact rfl
    | str x => cases e
    | lst h n r => cases e; exact .inl ⟨_, .inl (.inl h), (empty_of r).symm⟩
    | tup h n r => cases e; exact .inr (.inl ⟨_, .inl (.inl h), (empty_of r).symm⟩)
    | scr h n r => simp [oTru] at e
    | kl h r => simp [oTru] at e
    | dic h n r q => exact dict h r q e
  · subst z
    cases h with
    | lst h r => cases e; exact .inl ⟨_, .inl (.inl h), (empty_of r).symm⟩
    | dic h r q => exact dict h r q e
def tTru (f : Xp) : PEnv → Option Bool := fun ρ => (f ρ).bind oTru
theorem st_val (h : SE X O m a fa) (he : ∀ whole, isTrue a X.env whole = (do let v ← whole; standAt a.pos; holding [v] (truthy v)) := by intro _; rfl) : ST X O a (tTru fa) := by
  refine ⟨pt_imp (pt_truth h.pe he) fun σ H Q q => ?_⟩
  obtain ⟨H0, A0, G, ρ, B, b, S, e, k⟩ := q
  obtain ⟨x, ex, e⟩ := bind2 e
  exact ⟨H0, A0, G, ρ, B, x, S, ex, fun v H1 s1 r1 => ⟨b, tru_of r1.toW e, k H1 s1⟩⟩
/-- not as a value -/
def oNot (d : D) : Option D := (oTru d).map fun b => .bool (!b)
end
end Pm

namespace Pm
open PySem PySem.Spec PyProof.Rows L2

def shp (d : D) : Bool := SeqAt.shaped d
/-! ### what the operators do -/
def oAdd : D → D → Option D
  | .int a, .int b => some (.int (a + b))
  | .list a, .list b => if a.length + b.length ≤ 16777216 then some (.list (a ++ b)) else none
  | .tuple a, .tuple b => if a.length + b.length ≤ 16777216 then some (.tuple (a ++ b)) else none
  | .int a, .bool b => some (.int (a + (if b then 1 else 0)))
  | _, _ => none
def oSub : D → D → Option D
  | .int a, .int b => some (.int (a - b))
  | _, _ => none
def mulOk (a b : Int) : Bool := decide (a.natAbs < 2 ^ 63) || decide (b.natAbs < 2 ^ 63) || decide (a.natAbs.log2 + b.natAbs.log2 < 1000000)
def oMul : D → D → Option D
  | .int a, .int b => if mulOk a b then some (.int (a * b)) else none
  | .list a, .int k => if -(2 ^ 62) ≤ k ∧ k < 2 ^ 62 ∧ a.length * k.toNat ≤ 16777216 then some (.list (List.replicate k.toNat a).flatten) else none
  | .tuple a, .int k => if a ≠ [] ∧ 2 ≤ k ∧ k ≤ 1000 ∧ a.length ≤ 1000 then some (.tuple (List.replicate k.toNat a).flatten) else none
  | _, _ => none
def divOk (b : Int) : Bool := decide (b ≠ 0) && decide (b.natAbs.log2 < 9000)
def oFdiv : D → D → Option D
  | .int a, .int b => if divOk b then some (.int (a.fdiv b)) else none
  | _, _ => none
def oMod : D → D → Option D
  | .int a, .int b => if b ≠ 0 then some (.int (a.fmod b)) else none
  | _, _ => none
def oPow : D → D → Option D
  | .int a, .int b => if 0 ≤ b ∧ b ≤ 1000000 ∧ a.natAbs < 2 ^ 64 then some (.int (a ^ b.toNat)) else none
  | _, _ => none
def oShl : D → D → Option D
  | .int a, .int b => if 0 ≤ b ∧ b ≤ 1000000 ∧ a.natAbs < 2 ^ 64 then some (.int (a * 2 ^ b.toNat)) else none
  | _, _ => none
def oEq (x y : D) : Option D := if shp x && shp y then some (.bool (PyData.eqv x y)) else none
def oNe (x y : D) : Option D := if shp x && shp y then some (.bool (!PyData.eqv x y)) else none
def oLt : D → D → Option D
  | .int a, .int b => some (.bool (decide (a < b)))
  | _, _ => none
def oLe : D → D → Option D
  | .int a, .int b => some (.bool (decide (a ≤ b)))
  | _, _ => none
def oGt : D → D → Option D
  | .int a, .int b => some (.bool (decide (b < a)))
  | _, _ => none
def oGe : D → D → Option D
  | .int a, .int b => some (.bool (decide (b ≤ a)))
  | _, _ => none
def isNone : D → Bool
  | .none => true
  | _ => false
def oIs : D → D → Option D
  | x, .none => some (.bool (isNone x))
  | _, _ => none
def oIsNot : D → D → Option D
  | x, .none => some (.bool (!isNone x))
  | _, _ => none
def oIn : D → D → Option D
  | x, .list ys => if shp x && PyData.canLayAll0 ys then some (.bool (ys.any fun z => PyData.eqv z x)) else none
  | x, .tuple ys => if shp x && PyData.canLayAll0 ys then some (.bool (ys.any fun z => PyData.eqv z x)) else none
  | _, _ => none
def oNotIn : D → D → Option D
  | x, .list ys => if shp x && PyData.canLayAll0 ys then some (.bool (!ys.any fun z => PyData.eqv z x)) else none
  | x, .tuple ys => if shp x && PyData.canLayAll0 ys then some (.bool (!ys.any fun z => PyData.eqv z x)) else none
  | _, _ => none
def ixD (xs : List D) (i : Int) : Option D := atI xs i
def oIx : D → D → Option D
  | .list xs, .int i => atI xs i
  | .tuple xs, .int i => atI xs i
  | .dict [(.none, .list xs)], .int i => atI xs i
  | _, _ => none
def oNeg : D → Option D
  | .int i => some (.int (-i))
  | _ => none

section
variable {K : PySem.W.Frag} {A : Addr → Prop} {H H' : Hp} {v : V} {d : D} {vs : List V} {ds : List D}
mutual
theorem Rp.dp : ∀ {v : V} {d : D}, Rp K A H v d → d.canLay0 = true → Dp K H v d
  | _, _, .non, _ => .non
  | _, _, .bl b, _ => .bl b
  | _, _, .int i, _ => .int i
  | _, _, .str x, _ => .str x
  | _, _, .lst h n r, c => .lst (.inl (.inl h)) (RpL.dp r (by simpa [PyData.canLay0] using c))
  | _, _, .tup h n r, c => .tup (.inl (.inl h)) (RpL.dp r (by simpa [PyData.canLay0] using c))
  | _, _, .scr h n r, c => by simp [PyData.canLay0] at c
  | _, _, .kl h r, c => by simp [PyData.canLay0] at c
  | _, _, .dic h n r e, c => by simp [PyData.canLay0] at c
theorem RpL.dp : ∀ {vs : List V} {ds : List D}, RpL K A H vs ds → PyData.canLayAll0 ds = true → DpAll K H vs ds
  | _, _, .nil, _ => .nil
  | _, _, .cons h r, c => by
    simp only [PyData.canLayAll0, Bool.and_eq_true] at c
    exact .cons (Rp.dp h c.1) (RpL.dp r c.2)
end
theorem WRp.dpc (h : WRp K A H v d) (c : d.canLay0 = true) : Dp K H v d := by
  rcases h with h | ⟨a, e, h⟩
  · exact h.dp c
  · subst e
    cases h with
    | lst h r => exact .lst (.inl (.inl h)) (r.dp (by simpa [PyData.canLay0] using c))
    | dic h r e => simp [PyData.canLay0] at c
theorem WRp.dp (h : WRp K A H v d) (c : shp d = true) : Dp K H v d := h.dpc (SeqAt.canLay_of_shaped c)
theorem RpL.atI {i : Int} (r : RpL K A H vs ds) (h : L2.atI ds i = some d) : ∃ v, L2.atI vs i = some v ∧ Rp K A H v d := by
  unfold L2.atI at h ⊢
  rw [r.length]
  obtain ⟨j, e1, e2⟩ := Option.bind_eq_some_iff.mp h
  obtain ⟨v, e3, e4⟩ := r.get e2
  exact ⟨v, by rw [e1]; exact e3, e4⟩
theorem non_dec : Rp K A H v d → decide (v = V.non) = isNone d := by
  intro h
  cases h <;> rfl
theorem WRp.none_dec (h : WRp K A H v d) : decide (v = V.non) = isNone d := by
  rcases h with h | ⟨a, e, h⟩
  · exact non_dec h
  · subst e
    cases h <;> rfl
end
section
variable {X : Cx} {k : Nat}
theorem op_addD : OpR X (binaryOp .Add) (rD X.K .f oAdd) := by
  intro pins s σ H x y v u Q I rx ry ⟨A, dx, dy, d, tr, wx, wy, e, q⟩
  unfold oAdd at e
  split at e
  · cases e
    exact op_add pins s σ H x y v u Q I rx ry ⟨_, _, wx.int, wy.int, q _ H (Same.refl H) Res.int⟩
  · split at e
    · rename_i hz
      cases e
      obtain ⟨a, xs, rfl, ha, ra⟩ := wx.lst
      obtain ⟨b, ys, rfl, hb, rb⟩ := wy.lst
      refine op_cat pins s σ H _ _ v u Q I rx ry ⟨a, b, xs, ys, rfl, rfl, ha, hb, by rw [ra.length, rb.length]; exact hz, fun p hp => q _ _ (same_upd hp) (Res.newL tr hp (rb.app ra) (Same.refl H))⟩
    · cases e
  · split at e
    · rename_i hz
      cases e
      obtain ⟨a, xs, rfl, ha, na, ra⟩ := wx.tup
      obtain ⟨b, ys, rfl, hb, nb, rb⟩ := wy.tup
      refine op_catA pins s σ H _ _ v u Q I rx ry ⟨a, b, xs, ys, rfl, rfl, .of ha, .of hb, by rw [ra.length, rb.length]; exact hz, fun z => ?_, fun _ z => ?_, fun _ _ p hp => q _ _ (same_upd hp) (Res.flat (Rp.newT tr hp (rb.app ra)) rfl)⟩
      · subst z
        cases ra
        exact q _ H (Same.refl H) (Res.flat (.tup hb nb rb) rfl)
      · subst z
        cases rb
        exact q _ H (Same.refl H) (Res.flat (.tup ha na (by simpa using ra)) rfl)
    · cases e
  · cases e
    exact op_add_ib pins s σ H x y v u Q I rx ry ⟨_, _, wx.int, wy.bl, q _ H (Same.refl H) (by
      rename_i b
      cases b <;> exact Res.int)⟩
  · cases e
theorem op_subD : OpR X (binaryOp .Sub) (rD X.K .f oSub) := by
  intro pins s σ H x y v u Q I rx ry ⟨A, dx, dy, d, tr, wx, wy, e, q⟩
  unfold oSub at e
  split at e
  · cases e
    exact op_sub pins s σ H x y v u Q I rx ry ⟨_, _, wx.int, wy.int, q _ H (Same.refl H) Res.int⟩
  · cases e
theorem mul_case {a b : Int} (h : mulOk a b = true) : CMul a b ∨ CMulW a b := by
  unfold mulOk at h
  rw [Bool.or_eq_true, Bool.or_eq_true] at h
  rcases h with (h | h) | h
  · exact .inl (.inl (by have := of_decide_eq_true h; omega))
  · exact .inl (.inr (by have := of_decide_eq_true h; omega))
  · exact .inr (show a.natAbs.log2 + b.natAbs.log2 < 1000000 from of_decide_eq_true h)
theorem op_mulD : OpR X (binaryOp .Mult) (rD X.K .f oMul) := by
  intro pins s σ H x y v u Q I rx ry ⟨A, dx, dy, d, tr, wx, wy, e, q⟩
  unfold oMul at e
  split at e
  · split at e
    · rename_i hm
      cases e
      rcases mul_case hm with h | h
      · exact op_mul pins s σ H x y v u Q I rx ry ⟨_, _, wx.int, wy.int, h, q _ H (Same.refl H) Res.int⟩
      · exact op_mulW pins s σ H x y v u Q I rx ry ⟨_, _, wx.int, wy.int, h, q _ H (Same.refl H) Res.int⟩
    · cases e
  · split at e
    · rename_i hz
      cases e
      obtain ⟨a, xs, rfl, ha, ra⟩ := wx.lst
      refine op_rep pins s σ H _ _ v u Q I rx ry ⟨a, _, xs, rfl, wy.int, ha, by omega, by omega, by rw [ra.length]; exact hz.2.2, fun p hp => q _ _ (same_upd hp) (Res.newL tr hp (ra.rep _) (Same.refl H))⟩
    · cases e
  · split at e
    · rename_i hz
      cases e
      obtain ⟨a, xs, rfl, ha, na, ra⟩ := wx.tup
      refine op_repT pins s σ H _ _ v u Q I rx ry ⟨a, _, xs, rfl, wy.int, .of ha, fun z => ?_, hz.2.1, hz.2.2.1, by rw [ra.length]; exact hz.2.2.2, fun p hp => q _ _ (same_upd hp) (Res.flat (Rp.newT tr hp (ra.rep _)) rfl)⟩
      subst z
      cases ra
      exact hz.1 rfl
    · cases e
  · cases e
theorem op_fdivD : OpR X (binaryOp .FloorDiv) (rD X.K .f oFdiv) := by
  intro pins s σ H x y v u Q I rx ry ⟨A, dx, dy, d, tr, wx, wy, e, q⟩
  unfold oFdiv at e
  split at e
  · split at e
    · rename_i hz
      cases e
      unfold divOk at hz
      rw [Bool.and_eq_true] at hz
      have h1 := of_decide_eq_true hz.1
      have h2 := of_decide_eq_true hz.2
      exact (opI (C := fun i j => j ≠ 0 ∧ j.natAbs.log2 < 9000) fun i j _ _ _ _ _ hc q => floordiv_int hc.1 q (.inl (PyProof.noPylong_of_log2 hc.2))) pins s σ H x y v u Q I rx ry ⟨_, _, wx.int, wy.int, ⟨h1, h2⟩, q _ H (Same.refl H) Res.int⟩
    · cases e
  · cases e
theorem op_modD : OpR X (binaryOp .Mod) (rD X.K .f oMod) := by
  intro pins s σ H x y v u Q I rx ry ⟨A, dx, dy, d, tr, wx, wy, e, q⟩
  unfold oMod at e
  split at e
  · split at e
    · rename_i hz
      cases e
      exact op_modN pins s σ H x y v u Q I rx ry ⟨_, _, wx.int, wy.int, hz, q _ H (Same.refl H) Res.int⟩
    · cases e
  · cases e
theorem op_powD : OpR X (binaryOp .Pow) (rD X.K .f oPow) := by
  intro pins s σ H x y v u Q I rx ry ⟨A, dx, dy, d, tr, wx, wy, e, q⟩
  unfold oPow at e
  split at e
  · split at e
    · rename_i hz
      cases e
      exact op_pow pins s σ H x y v u Q I rx ry ⟨_, _, wx.int, wy.int, hz, q _ H (Same.refl H) Res.int⟩
    · cases e
  · cases e
theorem op_shlD : OpR X (binaryOp .LShift) (rD X.K .f oShl) := by
  intro pins s σ H x y v u Q I rx ry ⟨A, dx, dy, d, tr, wx, wy, e, q⟩
  unfold oShl at e
  split at e
  · split at e
    · rename_i hz
      cases e
      exact op_shl pins s σ H x y v u Q I rx ry ⟨_, _, wx.int, wy.int, hz, q _ H (Same.refl H) Res.int⟩
    · cases e
  · cases e
theorem op_eqP (hr : Room k X.A) : OpR X (compareOp .Eq) (rD X.K .f oEq) := by
  intro pins s σ H x y v u Q I rx ry ⟨A, dx, dy, d, tr, wx, wy, e, q⟩
  unfold oEq at e
  split at e
  · rename_i hz
    cases e
    rw [Bool.and_eq_true] at hz
    exact op_eqD hr.units pins s σ H x y v u Q I rx ry ⟨dx, dy, wx.dp hz.1, wy.dp hz.2, hz.1, hz.2, q _ H (Same.refl H) Res.bl⟩
  · cases e
theorem op_neP (hr : Room k X.A) : OpR X (compareOp .NotEq) (rD X.K .f oNe) := by
  intro pins s σ H x y v u Q I rx ry ⟨A, dx, dy, d, tr, wx, wy, e, q⟩
  unfold oNe at e
  split at e
  · rename_i hz
    cases e
    rw [Bool.and_eq_true] at hz
    exact op_neD hr.units pins s σ H x y v u Q I rx ry ⟨dx, dy, wx.dp hz.1, wy.dp hz.2, hz.1, hz.2, q _ H (Same.refl H) Res.bl⟩
  · cases e
theorem op_ltD : OpR X (compareOp .Lt) (rD X.K .f oLt) := by
  intro pins s σ H x y v u Q I rx ry ⟨A, dx, dy, d, tr, wx, wy, e, q⟩
  unfold oLt at e
  split at e
  · cases e
    exact op_lt pins s σ H x y v u Q I rx ry ⟨_, _, wx.int, wy.int, q _ H (Same.refl H) Res.bl⟩
  · cases e
theorem op_leD : OpR X (compareOp .LtE) (rD X.K .f oLe) := by
  intro pins s σ H x y v u Q I rx ry ⟨A, dx, dy, d, tr, wx, wy, e, q⟩
  unfold oLe at e
  split at e
  · cases e
    exact op_le pins s σ H x y v u Q I rx ry ⟨_, _, wx.int, wy.int, q _ H (Same.refl H) Res.bl⟩
  · cases e
theorem op_gtD : OpR X (compareOp .Gt) (rD X.K .f oGt) := by
  intro pins s σ H x y v u Q I rx ry ⟨A, dx, dy, d, tr, wx, wy, e, q⟩
  unfold oGt at e
  split at e
  · cases e
    exact op_gt pins s σ H x y v u Q I rx ry ⟨_, _, wx.int, wy.int, q _ H (Same.refl H) Res.bl⟩
  · cases e
theorem op_geD : OpR X (compareOp .GtE) (rD X.K .f oGe) := by
  intro pins s σ H x y v u Q I rx ry ⟨A, dx, dy, d, tr, wx, wy, e, q⟩
  unfold oGe at e
  split at e
  · cases e
    exact op_ge pins s σ H x y v u Q I rx ry ⟨_, _, wx.int, wy.int, q _ H (Same.refl H) Res.bl⟩
  · cases e
theorem op_isD : OpR X (compareOp .Is) (rD X.K .f oIs) := by
  intro pins s σ H x y v u Q I rx ry ⟨A, dx, dy, d, tr, wx, wy, e, q⟩
  unfold oIs at e
  split at e
  · cases e
    exact op_isN pins s σ H x y v u Q I rx ry ⟨wy.non, by rw [wx.none_dec]; exact q _ H (Same.refl H) Res.bl⟩
  · cases e
theorem op_isNotD : OpR X (compareOp .IsNot) (rD X.K .f oIsNot) := by
  intro pins s σ H x y v u Q I rx ry ⟨A, dx, dy, d, tr, wx, wy, e, q⟩
  unfold oIsNot at e
  split at e
  · cases e
    exact op_notN pins s σ H x y v u Q I rx ry ⟨wy.non, by rw [wx.none_dec]; exact q _ H (Same.refl H) Res.bl⟩
  · cases e
theorem hu65 {A : Around} (hr : Room k A) : A.units + 65 < cLine := by have := hr.un; omega
theorem op_inP (hr : Room k X.A) : OpR X (compareOp .In) (rD X.K .f oIn) := by
  intro pins s σ H x y v u Q I rx ry ⟨A, dx, dy, d, tr, wx, wy, e, q⟩
  unfold oIn at e
  split at e
  · split at e
    · rename_i hz
      cases e
      rw [Bool.and_eq_true] at hz
      obtain ⟨as, r1⟩ := Dp.reads I _ x v (wx.dp hz.1) rx
      obtain ⟨bs, r2⟩ := Dp.reads I _ y u (wy.dpc (by simpa [PyData.canLay0] using hz.2)) ry
      exact SeqAt.in_list_reads r2 r1 hz.2 (SeqAt.canLay_of_shaped hz.1) (room_in_shaped hz.1 (hu65 hr)) ⟨.bl _, H, I, rfl, q _ H (Same.refl H) Res.bl⟩
    · cases e
  · split at e
    · rename_i hz
      cases e
      rw [Bool.and_eq_true] at hz
      obtain ⟨as, r1⟩ := Dp.reads I _ x v (wx.dp hz.1) rx
      obtain ⟨bs, r2⟩ := Dp.reads I _ y u (wy.dpc (by simpa [PyData.canLay0] using hz.2)) ry
      exact SeqAt.in_tuple_reads r2 r1 hz.2 (SeqAt.canLay_of_shaped hz.1) (room_in_shaped hz.1 (hu65 hr)) ⟨.bl _, H, I, rfl, q _ H (Same.refl H) Res.bl⟩
    · cases e
  · cases e
theorem op_notInP (hr : Room k X.A) : OpR X (compareOp .NotIn) (rD X.K .f oNotIn) := by
  intro pins s σ H x y v u Q I rx ry ⟨A, dx, dy, d, tr, wx, wy, e, q⟩
  unfold oNotIn at e
  split at e
  · split at e
    · rename_i hz
      cases e
      rw [Bool.and_eq_true] at hz
      obtain ⟨as, r1⟩ := Dp.reads I _ x v (wx.dp hz.1) rx
      obtain ⟨bs, r2⟩ := Dp.reads I _ y u (wy.dpc (by simpa [PyData.canLay0] using hz.2)) ry
      exact SeqAt.notIn_list_reads r2 r1 hz.2 (SeqAt.canLay_of_shaped hz.1) (room_in_shaped hz.1 (hu65 hr)) ⟨.bl _, H, I, rfl, q _ H (Same.refl H) Res.bl⟩
    · cases e
  · split at e
    · rename_i hz
      cases e
      rw [Bool.and_eq_true] at hz
      obtain ⟨as, r1⟩ := Dp.reads I _ x v (wx.dp hz.1) rx
      obtain ⟨bs, r2⟩ := Dp.reads I _ y u (wy.dpc (by simpa [PyData.canLay0] using hz.2)) ry
      exact SeqAt.notIn_tuple_reads r2 r1 hz.2 (SeqAt.canLay_of_shaped hz.1) (room_in_shaped hz.1 (hu65 hr)) ⟨.bl _, H, I, rfl, q _ H (Same.refl H) Res.bl⟩
    · cases e
  · cases e
theorem un_negD : UnR X (unaryOp .USub) (rD1 X.K .f oNeg) := by
  intro pins s σ H x v Q I rx ⟨A, dx, d, tr, wx, e, q⟩
  unfold oNeg at e
  split at e
  · cases e
    exact un_neg pins s σ H x v Q I rx ⟨_, wx.int, q _ H (Same.refl H) Res.int⟩
  · cases e
end
end Pm

namespace Pm
open PySem PySem.Spec PyProof.Rows L2

/-! ### argument lists -/
abbrev XL := PEnv → Option (List D)
def xNil : XL := fun _ => some []
def xCons (f : Xp) (fs : XL) : XL := fun ρ => (f ρ).bind fun x => (fs ρ).bind fun xs => some (x :: xs)
section
variable {X : Cx} {O : List Nat} {m ma mb : Md} {st : Bool} {a b c e : Expr} {es : List Expr} {fa fb fc f : Xp} {fs : XL} {pos : Pos}
theorem sa_nil : SA X O st [] xNil := by
  refine ⟨pa_imp pa_nil fun σ H Q h => ?_⟩
  obtain ⟨H0, A0, G, ρ, B, ds, S, e, k⟩ := h
  cases e
  refine k [] H (Same.refl H) ?_
  cases st <;> exact .nil
theorem ResL.monoR {K : PySem.W.Frag} {A : Addr → Prop} {H H' : Hp} {vs : List V} {ds : List D} (s : Same H H') (h : ResL K A H st vs ds) : ResL K A H' st vs ds := by
  cases st with
  | true => exact RpL.mono s h
  | false => exact Paired.mapP h fun _ _ r => WRp.mono s r
theorem sa_cons (ha : SE X O m e f) (hr : SA X O st es fs) (hm : (st = true → m ≠ .w) := by first | exact fun _ => Md.noConfusion | exact fun h => Bool.noConfusion h) (hs : starEach (e :: es) X.env = (false, eval e X.env) :: starEach es X.env := by rfl) : SA X O st (e :: es) (xCons f fs) := by
  refine ⟨pa_imp (pa_cons ha.pe hr.pa hs) fun σ H Q h => ?_⟩
  obtain ⟨H0, A0, G, ρ, B, ds, S, e, k⟩ := h
  obtain ⟨x, ex, e⟩ := bind2 e
  obtain ⟨xs, exs, e⟩ := bind2 e
  cases e
  refine ⟨H0, A0, G, ρ, B, x, S, ex, fun v H1 s1 r1 => ⟨H0, A0, G, ρ, B, xs, S.mono s1, exs, fun vs H2 s2 r2 => k _ H2 (s1.trans s2) ?_⟩⟩
  cases st with
  | true => exact .cons ((r1.toS S.tr (hm rfl)).mono s2) r2
  | false => exact .cons (r1.toW.mono s2) r2
/-- their number is the written one -/
theorem SE.toS (h : SE X O .f e f) : SE X O .s e f := ⟨pe_imp h.pe fun σ H Q ⟨H0, A0, G, ρ, B, d, S, e, k⟩ => ⟨H0, A0, G, ρ, B, d, S, e, fun v H' s r => k v H' s (r.toS S.tr (by decide))⟩⟩
theorem SE.toW (h : SE X O m e f) : SE X O .w e f := ⟨pe_imp h.pe fun σ H Q ⟨H0, A0, G, ρ, B, d, S, e, k⟩ => ⟨H0, A0, G, ρ, B, d, S, e, fun v H' s r => k v H' s r.toW⟩⟩

/-! ### displays -/
def xTup (fs : XL) : Xp := fun ρ => (fs ρ).bind fun ds => if ds.length ≤ 1000 then some (.tuple ds) else none
def xLst (fs : XL) : Xp := fun ρ => (fs ρ).bind fun ds => if ds.length ≤ 1000 then some (.list ds) else none
theorem line1000 {n : Nat} (h : n ≤ 1000) : n ≤ sizeLine := Nat.le_of_lt (small1000 h)
theorem se_tup {x1} (h : SA X O true es fs) : SE X O .f (.Tuple es x1 pos) (xTup fs) := by
  refine ⟨pe_imp (pe_tup h.pa) fun σ H Q q => ?_⟩
  obtain ⟨H0, A0, G, ρ, B, d, S, e, k⟩ := q
  obtain ⟨x, ex, e⟩ := bind2 e
  split at e
  · rename_i hz
    cases e
    refine ⟨H0, A0, G, ρ, B, x, S, ex, fun vs H1 s1 (r1 : RpL _ _ _ _ _) => ⟨by rw [r1.length]; exact line1000 hz, fun p hp => ?_⟩⟩
    exact k _ _ (s1.trans (same_upd hp)) (Res.flat (Rp.newT (S.mono s1).tr hp r1) rfl)
  · cases e
theorem se_lst (h : SA X O true es fs) : SE X O .f (.List es pos) (xLst fs) := by
  refine ⟨pe_imp (pe_lst h.pa) fun σ H Q q => ?_⟩
  obtain ⟨H0, A0, G, ρ, B, d, S, e, k⟩ := q
  obtain ⟨x, ex, e⟩ := bind2 e
  split at e
  · rename_i hz
    cases e
    refine ⟨H0, A0, G, ρ, B, x, S, ex, fun vs H1 s1 (r1 : RpL _ _ _ _ _) => ⟨by rw [r1.length]; exact line1000 hz, fun p hp => ?_⟩⟩
    exact k _ _ (s1.trans (same_upd hp)) (Res.newL (S.mono s1).tr hp r1 s1)
  · cases e

/-! ### and, or, if, not as values -/
def xAnd (fa fb : Xp) : Xp := fun ρ => (fa ρ).bind fun x => (dB x).bind fun b => if b then fb ρ else some (.bool false)
def xOr (fa fb : Xp) : Xp := fun ρ => (fa ρ).bind fun x => (dB x).bind fun b => if b then some (.bool true) else fb ρ
def xIf (c : PEnv → Option Bool) (fa fb : Xp) : Xp := fun ρ => (c ρ).bind fun b => if b then fa ρ else fb ρ
theorem se_bone {op} (h : SE X O m a f) : SE X O m (.BoolOp op [a] pos) f := ⟨pe_one h.pe⟩
theorem se_and (ha : SE X O ma a fa) (hb : SE X O m (.BoolOp .And (b :: es) pos) fb) : SE X O m (.BoolOp .And (a :: b :: es) pos) (xAnd fa fb) := by
  refine ⟨pe_imp (pe_and ha.pe hb.pe) fun σ H Q q => ?_⟩
  obtain ⟨H0, A0, G, ρ, B, d, S, e, k⟩ := q
  obtain ⟨x, ex, e⟩ := bind2 e
  obtain ⟨c, ec, e⟩ := bind2 e
  have := dB_some ec
  subst this
  refine ⟨H0, A0, G, ρ, B, _, S, ex, fun v H1 s1 r1 => ⟨c, r1.toW.bl, ?_⟩⟩
  cases c with
  | true => exact ⟨H0, A0, G, ρ, B, d, S.mono s1, e, fun v H' s r => k v H' (s1.trans s) (r.back s1)⟩
  | false => cases e; exact k _ H1 s1 Res.bl
theorem se_or (ha : SE X O ma a fa) (hb : SE X O m (.BoolOp .Or (b :: es) pos) fb) : SE X O m (.BoolOp .Or (a :: b :: es) pos) (xOr fa fb) := by
  refine ⟨pe_imp (pe_or ha.pe hb.pe) fun σ H Q q => ?_⟩
  obtain ⟨H0, A0, G, ρ, B, d, S, e, k⟩ := q
  obtain ⟨x, ex, e⟩ := bind2 e
  obtain ⟨c, ec, e⟩ := bind2 e
  have := dB_some ec
  subst this
  refine ⟨H0, A0, G, ρ, B, _, S, ex, fun v H1 s1 r1 => ⟨c, r1.toW.bl, ?_⟩⟩
  cases c with
  | false => exact ⟨H0, A0, G, ρ, B, d, S.mono s1, e, fun v H' s r => k v H' (s1.trans s) (r.back s1)⟩
  | true => cases e; exact k _ H1 s1 Res.bl
theorem se_if {tc : PEnv → Option Bool} (hc : ST X O c tc) (ha : SE X O m a fa) (hb : SE X O m b fb) : SE X O m (.IfExp c a b pos) (xIf tc fa fb) := by
  refine ⟨pe_imp (pe_ifExp hc.pt ha.pe hb.pe) fun σ H Q q => ?_⟩
  obtain ⟨H0, A0, G, ρ, B, d, S, e, k⟩ := q
  obtain ⟨x, ex, e⟩ := bind2 e
  refine ⟨H0, A0, G, ρ, B, x, S, ex, fun H1 s1 => ?_⟩
  cases x with
  | true => exact ⟨H0, A0, G, ρ, B, d, S.mono s1, e, fun v H' s r => k v H' (s1.trans s) (r.back s1)⟩
  | false => exact ⟨H0, A0, G, ρ, B, d, S.mono s1, e, fun v H' s r => k v H' (s1.trans s) (r.back s1)⟩
theorem se_not (h : SE X O ma a fa) : SE X O m (.UnaryOp .Not a pos) (xUn oNot fa) := by
  refine ⟨pe_imp (pe_notT h.pe) fun σ H Q q => ?_⟩
  obtain ⟨H0, A0, G, ρ, B, d, S, e, k⟩ := q
  obtain ⟨x, ex, e⟩ := bind2 e
  obtain ⟨c, ec, e⟩ := Option.map_eq_some_iff.mp e
  subst e
  exact ⟨H0, A0, G, ρ, B, x, S, ex, fun v H1 s1 r1 => ⟨c, tru_of r1.toW ec, k _ H1 s1 Res.bl⟩⟩
/-- a op b op c -/
def xChain (g g' : D → D → Option D) (fa fb fc : Xp) : Xp := fun ρ => (fa ρ).bind fun x => (fb ρ).bind fun y => (g x y).bind fun z => (dB z).bind fun k => if k then (fc ρ).bind fun w => g' y w else some (.bool false)
variable {mc : Md}
theorem tChain_of {op op' : CmpOp} {g g' : D → D → Option D} (σ : L2.St) (H : Hp) (Q : VK) (h : simT X.K O .f (xChain g g' fa fb fc) σ H Q) :
    tChain (rD X.K .f g) (rD X.K .f g') (simT X.K O ma fa) (simT X.K O mb fb) (simT X.K O mc fc) σ H Q := by
  obtain ⟨H0, A0, G, ρ, B, d, S, e, k⟩ := h
  obtain ⟨x, ex, e⟩ := bind2 e
  obtain ⟨y, ey, e⟩ := bind2 e
  obtain ⟨z, ez, e⟩ := bind2 e
  obtain ⟨c, ec, e⟩ := bind2 e
  have := dB_some ec
  subst this
  refine ⟨H0, A0, G, ρ, B, x, S, ex, fun v H1 s1 r1 => ⟨H0, A0, G, ρ, B, y, S.mono s1, ey, fun u H2 s2 r2 => ⟨Av A0 B, x, y, _, (S.mono (s1.trans s2)).tr, r1.toW.mono s2, r2.toW, ez, fun z H3 s3 r3 => ⟨c, r3.toW.bl, ?_⟩⟩⟩⟩
  have s13 := (s1.trans s2).trans s3
  cases c with
  | false => cases e; exact k _ H3 s13 Res.bl
  | true =>
    replace e : ((fc ρ).bind fun w => g' y w) = some d := e
    obtain ⟨w, ew, e⟩ := bind2 e
    exact ⟨H0, A0, G, ρ, B, w, S.mono s13, ew, fun v' H4 s4 r4 => ⟨Av A0 B, y, w, d, (S.mono (s13.trans s4)).tr, r2.toW.mono (s3.trans s4), r4.toW, e, fun z H5 s5 r5 => k z H5 ((s13.trans s4).trans s5) (r5.back (s13.trans s4))⟩⟩
theorem se_chain {op op' : CmpOp} {g g' : D → D → Option D} (ho : OpR X (compareOp op) (rD X.K .f g)) (ho' : OpR X (compareOp op') (rD X.K .f g')) (ha : SE X O ma a fa) (hb : SE X O mb b fb) (hc : SE X O mc c fc)
    (hm : lastMarks [op, op'] [b, c] = false := by with_unfolding_all rfl) : SE X O .f (.Compare a [op, op'] [b, c] pos) (xChain g g' fa fb fc) :=
  ⟨pe_imp (pe_chain ho ho' ha.pe hb.pe hc.pe hm) (tChain_of (op := op) (op' := op'))⟩
theorem st_chain {op op' : CmpOp} {g g' : D → D → Option D} (ho : OpR X (compareOp op) (rD X.K .f g)) (ho' : OpR X (compareOp op') (rD X.K .f g')) (ha : SE X O ma a fa) (hb : SE X O mb b fb) (hc : SE X O mc c fc)
    (hm : lastMarks [op, op'] [b, c] = false := by with_unfolding_all rfl) : ST X O (.Compare a [op, op'] [b, c] pos) (tOf (xChain g g' fa fb fc)) := by
  refine ⟨pt_imp (pt_chain ho ho' ha.pe hb.pe hc.pe hm) fun σ H Q h => ?_⟩
  obtain ⟨H0, A0, G, ρ, B, b, S, e, k⟩ := h
  obtain ⟨d, ed, e⟩ := bind2 e
  have := dB_some e
  subst this
  exact tChain_of (op := op) (op' := op') σ H _ ⟨H0, A0, G, ρ, B, _, S, ed, fun v H' s r => ⟨b, r.toW.bl, k H' s⟩⟩

/-! ### subscripts -/
theorem ix_D : IxR X (rD X.K .s oIx) := by
  intro value slice pins s σ H x y v u Q I rx ry ⟨A, dx, dy, d, tr, wx, wy, e, q⟩ hs
  unfold oIx at e
  split at e
  · obtain ⟨p, xs, rfl, hp, r⟩ := wx.lst
    obtain ⟨z, ez, rz⟩ := r.atI e
    exact ix_list value slice pins s σ H _ y v u Q I rx ry ⟨p, xs, _, z, rfl, wy.int, .of hp, ez, q z H (Same.refl H) rz⟩ hs
  · obtain ⟨p, xs, rfl, hp, n, r⟩ := wx.tup
    obtain ⟨z, ez, rz⟩ := r.atI e
    exact ix_tup value slice pins s σ H _ y v u Q I rx ry ⟨p, xs, _, z, rfl, wy.int, .of hp, ez, q z H (Same.refl H) rz⟩ hs
  · obtain ⟨p, xs, rfl, hp, r⟩ := wx.scr
    obtain ⟨z, ez, rz⟩ := r.atI e
    exact ix_list value slice pins s σ H _ y v u Q I rx ry ⟨p, xs, _, z, rfl, wy.int, hp, ez, q z H (Same.refl H) rz⟩ hs
  · cases e
theorem se_ix (ha : SE X O ma a fa) (hb : SE X O mb b fb) (hs : PlainIx b := by exact fun _ _ => rfl) : SE X O .s (.Subscript a b pos) (xBin oIx fa fb) := ⟨pe_imp (pe_ix ix_D ha.pe hb.pe hs) tOp_of⟩
/-- slices -/
def cutD (xs : List D) (lo hi : Option Int) : List D := (xs.drop (HT.sIx xs.length 0 lo)).take (HT.sIx xs.length xs.length hi - HT.sIx xs.length 0 lo)
theorem RpL.cut {K : PySem.W.Frag} {A : Addr → Prop} {H : Hp} {vs : List V} {ds : List D} (r : RpL K A H vs ds) (lo hi : Option Int) : RpL K A H (cutV vs lo hi) (cutD ds lo hi) := by
  unfold cutV cutD
  rw [r.length]
  exact (r.drop _).take _
abbrev XO := PEnv → Option (Option Int)
def simO (K : PySem.W.Frag) (O : List Nat) (f : XO) : TO := fun σ H Q => ∃ H0 A0 G ρ B i, Sim K H0 A0 G O σ H ρ B ∧ f ρ = some i ∧ ∀ H', Same H H' → Q i H'
structure SO (X : Cx) (O : List Nat) (e : Option Expr) (f : XO) : Prop where
  po : PO X e (simO X.K O f)
def oNo : XO := fun _ => some none
def oAt (f : Xp) : XO := fun ρ => (f ρ).bind fun d => match d with | .int i => some (some i) | _ => none
theorem po_imp {e : Option Expr} {t t' : TO} (h : PO X e t) (hi : ∀ σ H Q, t' σ H Q → t σ H Q) : PO X e t' := ⟨fun pins s σ H Q I q => h.run pins s σ H Q I (hi _ _ _ q)⟩
theorem so_none : SO X O none oNo := ⟨po_imp po_none fun σ H Q ⟨H0, A0, G, ρ, B, i, S, e, k⟩ => by cases e; exact k H (Same.refl H)⟩
theorem so_some (h : SE X O m e f) : SO X O (some e) (oAt f) := by
  refine ⟨po_imp (po_some h.pe) fun σ H Q ⟨H0, A0, G, ρ, B, i, S, e, k⟩ => ?_⟩
  obtain ⟨x, ex, e⟩ := bind2 e
  split at e
  · cases e
    exact ⟨H0, A0, G, ρ, B, _, S, ex, fun v H1 s1 r1 => ⟨_, r1.toW.int, k H1 s1⟩⟩
  · cases e
def oSl : D → Option Int → Option Int → Option D
  | .list xs, lo, hi => some (.list (cutD xs lo hi))
  | .tuple xs, lo, hi => some (.tuple (cutD xs lo hi))
  | _, _, _ => none
def xSl (f : Xp) (lo hi : XO) : Xp := fun ρ => (f ρ).bind fun x => (lo ρ).bind fun i => (hi ρ).bind fun j => oSl x i j
theorem se_sl {lo hi : Option Expr} {flo fhi : XO} {p2 : Pos} (he : SE X O m e f) (hl : SO X O lo flo) (hh : SO X O hi fhi) : SE X O .f (.Subscript e (.Slice lo hi none p2) pos) (xSl f flo fhi) := by
  refine ⟨pe_imp (pe_slice (SlR.or sl_list sl_tupA) he.pe hl.po hh.po) fun σ H Q q => ?_⟩
  obtain ⟨H0, A0, G, ρ, B, d, S, e, k⟩ := q
  obtain ⟨x, ex, e⟩ := bind2 e
  obtain ⟨i, ei, e⟩ := bind2 e
  obtain ⟨j, ej, e⟩ := bind2 e
  refine ⟨H0, A0, G, ρ, B, x, S, ex, fun v H1 s1 r1 => ⟨H0, A0, G, ρ, B, i, S.mono s1, ei, fun H2 s2 => ⟨H0, A0, G, ρ, B, j, S.mono (s1.trans s2), ej, fun H3 s3 => ?_⟩⟩⟩
  have s13 := (s1.trans s2).trans s3
  have w := r1.toW.mono (s2.trans s3)
  unfold oSl at e
  split at e
  · cases e
    obtain ⟨p, xs, rfl, hp, r⟩ := w.lst
    exact .inl ⟨p, xs, rfl, .of hp, fun p hp => k _ _ (s13.trans (same_upd hp)) (Res.newL (S.mono s13).tr hp (r.cut _ _) s13)⟩
  · cases e
    obtain ⟨p, xs, rfl, hp, n, r⟩ := w.tup
    refine .inr ⟨p, xs, rfl, .of hp, fun z => ?_, fun z p hp => k _ _ (s13.trans (same_upd hp)) (Res.flat (Rp.newT (S.mono s13).tr hp (r.cut _ _)) rfl)⟩
    refine k _ _ s13 (Res.flat (.tup hp n ?_) rfl)
    have c := r.cut i j
    have hx : cutV xs i j = xs := by
      unfold cutV
      rw [z.1, z.2]
      simp
    rw [hx] at c
    exact c
  · cases e

/-! ### calls of built-ins by values -/
def rC (K : PySem.W.Frag) (m : Md) (g : List D → Option D) : List V → Hp → VK → Prop := fun vs H Q => ∃ A ds d, Tr A H ∧ Paired (WRp K A H) vs ds ∧ g ds = some d ∧ ∀ v H', Same H H' → Res K A H H' m v d → Q v H'
def xCall (g : List D → Option D) (fs : XL) : Xp := fun ρ => (fs ρ).bind g
theorem RpL.weak {K : PySem.W.Frag} {A : Addr → Prop} {H : Hp} {vs : List V} {ds : List D} (r : RpL K A H vs ds) : Paired (WRp K A H) vs ds := by
  induction ds generalizing vs with
  | nil => cases r; exact .nil
  | cons d ds ih => cases r with | cons h r => exact .cons (.inl h) (ih r)
theorem ResL.weak {K : PySem.W.Frag} {A : Addr → Prop} {H : Hp} {vs : List V} {ds : List D} (r : ResL K A H st vs ds) : Paired (WRp K A H) vs ds := by
  cases st with
  | true => exact RpL.weak r
  | false => exact r
theorem tCB_of {g : List D → Option D} (σ : L2.St) (H : Hp) (Q : VK) (q : simT X.K O m (xCall g fs) σ H Q) : tCB (rC X.K m g) (simA X.K O st fs) σ H Q := by
  obtain ⟨H0, A0, G, ρ, B, d, S, e, k⟩ := q
  obtain ⟨x, ex, e⟩ := bind2 e
  exact ⟨H0, A0, G, ρ, B, x, S, ex, fun vs H1 s1 r1 => ⟨Av A0 B, x, d, (S.mono s1).tr, r1.weak, e, fun v H' s r => k v H' (s1.trans s) (r.back s1)⟩⟩
theorem se_callB {x : Str} {p : Pos} {id : String} {g : List D → Option D} (hc : CallR X (.builtin id) (rC X.K m g)) (hm : X.mg x = none) (ha : SA X O st (e :: es) fs) (hg : Gl X x := by rfl) (hv : bootBuiltins x = some (.builtin id) := by rfl) (hn : x ≠ "__name__" := by decide) (hdb : (x == ("__debug__" : Str)) = false := by decide)
    (he : starEach (e :: es) X.env = (false, eval e X.env) :: starEach es X.env := by rfl) (hpl : (backTo pos (starEach es X.env)).any (·.1) = false := by rfl) : SE X O m (.Call (.Name x p) (e :: es) [] pos) (xCall g fs) :=
  ⟨pe_imp (pe_callB hc hg hm hv ha.pa hn hdb he hpl) tCB_of⟩
theorem se_callT {x : Str} {p : Pos} {id : String} {g : List D → Option D} (hc : CallR X (.type id) (rC X.K m g)) (hm : X.mg x = none) (ha : SA X O st (e :: es) fs) (hg : Gl X x := by rfl) (hv : bootBuiltins x = some (.type id) := by rfl) (hn : x ≠ "__name__" := by decide) (hdb : (x == ("__debug__" : Str)) = false := by decide)
    (he : starEach (e :: es) X.env = (false, eval e X.env) :: starEach es X.env := by rfl) (hpl : (backTo pos (starEach es X.env)).any (·.1) = false := by rfl) : SE X O m (.Call (.Name x p) (e :: es) [] pos) (xCall g fs) :=
  ⟨pe_imp (pe_callTy hc hg hm hv ha.pa hn hdb he hpl) tCB_of⟩

/-! ### calls of defs -/
mutual
def flat : D → Bool
  | .list _ => false
  | .dict _ => false
  | .tuple xs => flatL xs
  | .none => true
  | .bool _ => true
  | .int _ => true
  | .str _ => true
def flatL : List D → Bool
  | [] => true
  | x :: xs => flat x && flatL xs
end
mutual
theorem Rp.flatA {K : PySem.W.Frag} {A A' : Addr → Prop} {H : Hp} (t : Tr A' H) : ∀ {v : V} {d : D}, Rp K A H v d → flat d = true → Rp K A' H v d
  | _, _, .non, _ => .non
  | _, _, .bl b, _ => .bl b
  | _, _, .int i, _ => .int i
  | _, _, .str x, _ => .str x
  | _, _, .lst h n r, c => by simp [flat] at c
  | _, _, .tup h n r, c => .tup h (fun z => by
      obtain ⟨o, e, nt⟩ := t _ z
      rw [h] at e
      cases e
      exact nt _ rfl) (RpL.flatA t r (by simpa [flat] using c))
  | _, _, .scr h n r, c => by simp [flat] at c
  | _, _, .kl h r, c => by simp [flat] at c
  | _, _, .dic h n r e, c => by simp [flat] at c
theorem RpL.flatA {K : PySem.W.Frag} {A A' : Addr → Prop} {H : Hp} (t : Tr A' H) : ∀ {vs : List V} {ds : List D}, RpL K A H vs ds → flatL ds = true → RpL K A' H vs ds
  | _, _, .nil, _ => .nil
  | _, _, .cons h r, c => by
    simp only [flatL, Bool.and_eq_true] at c
    exact .cons (Rp.flatA t h c.1) (RpL.flatA t r c.2)
end
theorem flat_mut {d : D} (h : flat d = true) : isMut d = false := by
  cases d <;> simp_all [flat, isMut]
def spD (K : PySem.W.Frag) (n : Nat) (F : List D → Option D) : Sp := fun vs H Q _ => ∃ A ds d, Tr A H ∧ vs.length = n ∧ RpL K A H vs ds ∧ F ds = some d ∧ ∀ v H', Same H H' → Rp K A H' v d → Q v H'
/-- a def of the text, with its function -/
structure Def (P : Program) (w : World) (K : PySem.W.Frag) (mg : Str → Option Value) (base : Heap) (k : Nat) (x : Str) (ps : List Str) (F : List D → Option D) : Prop where
  ex : ∃ f fd, FnOk P w K mg base CX0 k f fd ps (spD K ps.length F) ∧ mg x = some (.ref f) ∧ PySem.W.keepIn K (.ref f) = true ∧ Binds K fd ps []
theorem Def.mono {P : Program} {w : World} {K : PySem.W.Frag} {mg : Str → Option Value} {base : Heap} {k k' : Nat} {x : Str} {ps : List Str} {F : List D → Option D} (h : Def P w K mg base k x ps F) (hk : k ≤ k') : Def P w K mg base k' x ps F :=
  let ⟨f, fd, h1, h2⟩ := h.ex; ⟨f, fd, h1.mono hk, h2⟩
variable {k j : Nat} {x : Str} {ps : List Str} {F : List D → Option D} {p : Pos}
theorem se_call (hd : Def X.prog X.w X.K X.mg X.base k x ps F) (hr : Room j X.A) (ha : SA X O true (e :: es) fs) (hk : k ≤ j := by decide) (hl : (e :: es).length = ps.length := by rfl) (hg : Gl X x := by rfl) (hdb : (x == ("__debug__" : Str)) = false := by decide)
    (he : starEach (e :: es) X.env = (false, eval e X.env) :: starEach es X.env := by rfl) (hpl : (backTo pos (starEach es X.env)).any (·.1) = false := by rfl) : SE X O .s (.Call (.Name x p) (e :: es) [] pos) (xCall (fun ds => if ds.length = ps.length then F ds else none) fs) := by
  obtain ⟨f, fd, hF, hm, kp, hb⟩ := hd.ex
  refine ⟨pe_imp (pe_call hF (hr.mono hk) hg hm kp hb .nil pass0 ha.pa hdb he hpl) fun σ H Q q => ?_⟩
  obtain ⟨H0, A0, G, ρ, B, d, S, e, k⟩ := q
  obtain ⟨ds, ex, e⟩ := bind2 e
  split at e
  · rename_i hz
    refine ⟨H0, A0, G, ρ, B, ds, S, ex, fun vs H1 s1 (r1 : RpL _ _ _ _ _) => ⟨Av A0 B, ds, d, (S.mono s1).tr, ?_, ?_, e, fun v H' s r => k v H' (s1.trans s) r⟩⟩
    · rw [List.append_nil, r1.length, hz]
    · rw [List.append_nil]; exact r1
  · cases e
theorem WRp.rp0 {K : PySem.W.Frag} {A : Addr → Prop} {H : Hp} {v : V} {d : D} (h : WRp K A H v d) : Rp K (fun _ => False) H v d := by
  rcases h with h | ⟨a, e, h⟩
  · exact h.anti fun _ z => z.elim
  · subst e
    exact (h.step (fun _ _ q _ => q) (fun _ z => z.elim) fun _ q => q : Tp K (fun _ => False) H a d).rp fun z => z
theorem weak_rp0 {K : PySem.W.Frag} {A : Addr → Prop} {H : Hp} : ∀ {vs : List V} {ds : List D}, Paired (WRp K A H) vs ds → RpL K (fun _ => False) H vs ds
  | _, _, .nil => .nil
  | _, _, .cons h r => .cons h.rp0 (weak_rp0 r)
/-- a call to which one's own lists go: what comes back holds no list -/
theorem se_callW (hd : Def X.prog X.w X.K X.mg X.base k x ps F) (hr : Room j X.A) (ha : SA X O false (e :: es) fs) (hk : k ≤ j := by decide) (hg : Gl X x := by rfl) (hdb : (x == ("__debug__" : Str)) = false := by decide)
    (he : starEach (e :: es) X.env = (false, eval e X.env) :: starEach es X.env := by rfl) (hpl : (backTo pos (starEach es X.env)).any (·.1) = false := by rfl) : SE X O .f (.Call (.Name x p) (e :: es) [] pos) (xCall (fun ds => if ds.length = ps.length then (F ds).bind fun d => if flat d then some d else none else none) fs) := by
  obtain ⟨f, fd, hF, hm, kp, hb⟩ := hd.ex
  refine ⟨pe_imp (pe_call hF (hr.mono hk) hg hm kp hb .nil pass0 ha.pa hdb he hpl) fun σ H Q q => ?_⟩
  obtain ⟨H0, A0, G, ρ, B, d, S, e, k⟩ := q
  obtain ⟨ds, ex, e⟩ := bind2 e
  split at e
  · rename_i hz
    obtain ⟨d', e', e⟩ := bind2 e
    split at e
    · rename_i hf
      cases e
      refine ⟨H0, A0, G, ρ, B, ds, S, ex, fun vs H1 s1 r1 => ⟨fun _ => False, ds, d, fun _ z => z.elim, ?_, ?_, e', fun v H' s r => k v H' (s1.trans s) (Res.flat (r.flatA (S.mono (s1.trans s)).tr hf) (flat_mut hf))⟩⟩
      · rw [List.append_nil, (weak_rp0 r1).length, hz]
      · rw [List.append_nil]; exact weak_rp0 r1
    · cases e
  · cases e
end
end Pm

namespace Pm
open PySem PySem.Spec PyProof.Rows L2

/-! ### what the built-ins do -/
def seqD : D → Option (List D)
  | .list xs => some xs
  | .tuple xs => some xs
  | _ => none
def asInts : List D → Option (List Int)
  | [] => some []
  | .int i :: r => (asInts r).map (i :: ·)
  | _ => none
def asBools : List D → Option (List Bool)
  | [] => some []
  | .bool i :: r => (asBools r).map (i :: ·)
  | _ => none
def bLen : List D → Option D
  | [.list xs] => some (.int xs.length)
  | [.tuple xs] => some (.int xs.length)
  | [.dict [(.none, .list xs)]] => some (.int xs.length)
  | _ => none
def bAbs : List D → Option D
  | [.int i] => some (.int (if i < 0 then -i else i))
  | _ => none
def bInt : List D → Option D
  | [.int i] => some (.int i)
  | [.bool b] => some (.int (if b then 1 else 0))
  | _ => none
def bMax2 : List D → Option D
  | [.int i, .int j] => some (.int (if j > i then j else i))
  | _ => none
def bMin2 : List D → Option D
  | [.int i, .int j] => some (.int (if j < i then j else i))
  | _ => none
def bSum : List D → Option D
  | [x] => (seqD x).bind fun xs => (asInts xs).map fun ns => .int ns.sum
  | _ => none
def bAll : List D → Option D
  | [x] => (seqD x).bind fun xs => (asBools xs).map fun ns => .bool (ns.all id)
  | _ => none
def bAny : List D → Option D
  | [x] => (seqD x).bind fun xs => (asBools xs).map fun ns => .bool (ns.any id)
  | _ => none
def bTuple : List D → Option D
  | [x] => (seqD x).map .tuple
  | _ => none
def bList : List D → Option D
  | [x] => (seqD x).map .list
  | _ => none

section
variable {K : PySem.W.Frag} {A : Addr → Prop} {H H' : Hp} {v : V} {d : D} {vs : List V} {ds : List D}
theorem p1 {F : V → D → Prop} {x : D} (h : Paired F vs [x]) : ∃ v, vs = [v] ∧ F v x := by
  cases h with
  | cons a r => cases r; exact ⟨_, rfl, a⟩
theorem p2 {F : V → D → Prop} {x y : D} (h : Paired F vs [x, y]) : ∃ v u, vs = [v, u] ∧ F v x ∧ F u y := by
  cases h with
  | cons a r =>
    cases r with
    | cons b r => cases r; exact ⟨_, _, rfl, a, b⟩
theorem WRp.seq {xs : List D} (h : WRp K A H v d) (e : seqD d = some xs) : ∃ a vs, v = .ref a ∧ (H a = some (.lst vs) ∨ H a = some (.tup vs)) ∧ RpL K A H vs xs := by
  unfold seqD at e
  split at e
  · cases e
    obtain ⟨a, vs, e1, e2, e3⟩ := h.lst
    exact ⟨a, vs, e1, .inl e2, e3⟩
  · cases e
    obtain ⟨a, vs, e1, e2, _, e3⟩ := h.tup
    exact ⟨a, vs, e1, .inr e2, e3⟩
  · cases e
theorem RpL.ints : ∀ {vs : List V} {ds : List D} {ns : List Int}, RpL K A H vs ds → asInts ds = some ns → vs = ns.map V.int
  | _, _, _, .nil, e => by cases e; rfl
  | _, _, ns, .cons h r, e => by
    cases h with
    | int i =>
      simp only [asInts] at e
      obtain ⟨ms, e1, e2⟩ := Option.map_eq_some_iff.mp e
      subst e2
      rw [RpL.ints r e1]
      rfl
    | _ => simp [asInts] at e
theorem RpL.bools : ∀ {vs : List V} {ds : List D} {ns : List Bool}, RpL K A H vs ds → asBools ds = some ns → vs = ns.map V.bl
  | _, _, _, .nil, e => by cases e; rfl
  | _, _, ns, .cons h r, e => by
    cases h with
    | bl i =>
      simp only [asBools] at e
      obtain ⟨ms, e1, e2⟩ := Option.map_eq_some_iff.mp e
      subst e2
      rw [RpL.bools r e1]
      rfl
    | _ => simp [asBools] at e
end

/-! ### a list or a tuple, walked -/
section
variable {X : Cx} {pins : List (Addr × Obj)} {σ : L2.St} {H : Hp} {s : Shared}
/-- the iterator of a list or a tuple -/
theorem sq_iter {A : Around} {E : Value → Shared → Prop} {a : Addr} {xs : List V} {Q : Value → Shared → Prop} (hh : A.handled = none) (I : Inv X pins σ H s) (h : H a = some (.lst xs) ∨ H a = some (.tup xs))
    (k : ∀ (its : List Value) (J : Addr) (fp wr : List Addr) (St : Nat → Heap → Prop) (h₂ : Heap), Vals xs its → Walks X.prog X.w A J fp wr its.length (fun i v => its[i]? = some v) St → St 0 h₂ → (∀ b ∈ fp, b < h₂.objs.size) →
      (∀ h' : Heap, (∀ b o, b ∉ wr → h₂.get? b = some o → h'.get? b = some o) → ∀ b o, s.heap.get? b = some o → h'.get? b = some o) → Q (.ref J) { s with heap := h₂ }) :
    wpAny (model X.prog X.w) A (pyIter (.ref a)) Q E s := by
  have fin : ∀ (o : Obj) (h' : Heap), (∀ b q, b ∉ [s.heap.objs.size] → (s.heap.push o).get? b = some q → h'.get? b = some q) → ∀ b q, s.heap.get? b = some q → h'.get? b = some q := fun o h' hk b q e =>
    hk b q (fun z => by
      have z' : b = s.heap.objs.size := by simpa using z
      exact absurd (z' ▸ Heap.lt_size e) (Nat.lt_irrefl _)) (Heap.get?_push_of_some _ e)
  have small : ∀ (o : Obj) (l : Addr), l < s.heap.objs.size → ∀ b ∈ [s.heap.objs.size, l], b < (s.heap.push o).objs.size := fun o l hl b hb => by
    rw [Heap.size_push]
    have z : b = s.heap.objs.size ∨ b = l := by simpa using hb
    rcases z with z | z
    · rw [z]; exact Nat.lt_succ_self _
    · rw [z]; exact Nat.lt_succ_of_lt hl
  rcases h with h | h
  · obtain ⟨its, rv, p, hz⟩ := I.list (.of h)
    have hlt : a < s.heap.objs.size := p.lt
    refine wpAny_pyIter_list p.isList ?_
    have W := Walks.list (prog := X.prog) (w := X.w) hh s.heap.objs.size a (Nat.ne_of_lt hlt) its.toArray
    refine k its _ [s.heap.objs.size, a] [s.heap.objs.size] (fun i h => h.IsListIter s.heap.objs.size a i ∧ h.IsList a its.toArray) _ rv (by simpa using W) ⟨⟨_, Heap.get?_push_size _ rfl, rfl, rfl⟩, p.isList.push _⟩ (small _ _ hlt) (fin _)
  · obtain ⟨its, rv, p, hz⟩ := I.tuple (.of h)
    have hlt : a < s.heap.objs.size := p.lt
    refine wpAny_pyIter_tuple (show s.heap.IsTuple a its.toArray from p) ?_
    have W := Walks.tuple (prog := X.prog) (w := X.w) hh s.heap.objs.size a (Nat.ne_of_lt hlt) its.toArray
    obtain ⟨o, ho, r⟩ := id p
    refine k its _ [s.heap.objs.size, a] [s.heap.objs.size] (fun i h => h.IsTupleIter s.heap.objs.size a i ∧ h.IsTuple a its.toArray) _ rv (by simpa using W) ⟨⟨_, Heap.get?_push_size _ rfl, rfl, rfl⟩, ⟨o, Heap.get?_push_of_some _ ho, r⟩⟩ (small _ _ hlt) (fin _)
end

section
variable {X : Cx} {k : Nat}
theorem ref1 {a : Addr} {us : List Value} (r : Vals [V.ref a] us) : us = [Value.ref a] := Vals.ref1 r
theorem cb_len : CallR X (.builtin "len") (rC X.K .f bLen) := by
  intro pins s σ H vs us Q I r ⟨A, ds, d, tr, w, e, q⟩
  unfold bLen at e
  split at e
  · cases e
    obtain ⟨v, rfl, w1⟩ := p1 w
    obtain ⟨a, xs, rfl, ha, ra⟩ := w1.lst
    exact call_len_seq pins s σ H _ us Q I r ⟨a, xs, rfl, .inl (.of ha), by rw [ra.length]; exact q _ H (Same.refl H) Res.int⟩
  · cases e
    obtain ⟨v, rfl, w1⟩ := p1 w
    obtain ⟨a, xs, rfl, ha, _, ra⟩ := w1.tup
    exact call_len_seq pins s σ H _ us Q I r ⟨a, xs, rfl, .inr (.of ha), by rw [ra.length]; exact q _ H (Same.refl H) Res.int⟩
  · cases e
    obtain ⟨v, rfl, w1⟩ := p1 w
    obtain ⟨a, xs, rfl, ha, ra⟩ := w1.scr
    exact call_len_seq pins s σ H _ us Q I r ⟨a, xs, rfl, .inl ha, by rw [ra.length]; exact q _ H (Same.refl H) Res.int⟩
  · cases e
theorem cb_abs : CallR X (.builtin "abs") (rC X.K .f bAbs) := by
  intro pins s σ H vs us Q I r ⟨A, ds, d, tr, w, e, q⟩
  unfold bAbs at e
  split at e
  · cases e
    obtain ⟨v, rfl, w1⟩ := p1 w
    exact call_abs pins s σ H _ us Q I r ⟨_, by rw [w1.int], q _ H (Same.refl H) Res.int⟩
  · cases e
theorem cb_int : CallR X (.type "int") (rC X.K .f bInt) := by
  intro pins s σ H vs us Q I r ⟨A, ds, d, tr, w, e, q⟩
  unfold bInt at e
  split at e
  · cases e
    obtain ⟨v, rfl, w1⟩ := p1 w
    exact call_int1 pins s σ H _ us Q I r (.inl ⟨_, by rw [w1.int], q _ H (Same.refl H) Res.int⟩)
  · cases e
    obtain ⟨v, rfl, w1⟩ := p1 w
    exact call_int1 pins s σ H _ us Q I r (.inr ⟨_, by rw [w1.bl], q _ H (Same.refl H) Res.int⟩)
  · cases e
theorem cb_max2 (hc : X.calm = true := by rfl) : CallR X (.builtin "max") (rC X.K .f bMax2) := by
  intro pins s σ H vs us Q I r ⟨A, ds, d, tr, w, e, q⟩
  unfold bMax2 at e
  split at e
  · cases e
    obtain ⟨v, u, rfl, w1, w2⟩ := p2 w
    exact call_max2 hc pins s σ H _ us Q I r ⟨_, _, by rw [w1.int, w2.int], q _ H (Same.refl H) Res.int⟩
  · cases e
theorem cb_min2 (hc : X.calm = true := by rfl) : CallR X (.builtin "min") (rC X.K .f bMin2) := by
  intro pins s σ H vs us Q I r ⟨A, ds, d, tr, w, e, q⟩
  unfold bMin2 at e
  split at e
  · cases e
    obtain ⟨v, u, rfl, w1, w2⟩ := p2 w
    exact call_min2 hc pins s σ H _ us Q I r ⟨_, _, by rw [w1.int, w2.int], q _ H (Same.refl H) Res.int⟩
  · cases e
theorem intsAt {its : List Value} {ns : List Int} (r : Vals (ns.map V.int) its) (i : Nat) (v : Value) (h : its[i]? = some v) : ∃ t, v = .int (ns.getD i 0) t := by
  have hi := r.length
  rw [List.length_map] at hi
  have hlt : i < ns.length := by rw [hi]; exact (List.getElem?_eq_some_iff.mp h).1
  obtain ⟨u, e, q⟩ := r.get (i := i) (x := .int ns[i]) (by simp [hlt])
  rw [h] at e
  cases e
  obtain ⟨t, rfl⟩ := q
  exact ⟨t, by simp [hlt]⟩
theorem preSum_all (ns : List Int) : preSum (fun i => ns.getD i 0) ns.length = ns.sum := by
  have h : ∀ k, k ≤ ns.length → preSum (fun i => ns.getD i 0) k = (ns.take k).sum := by
    intro k
    induction k with
    | zero => intro _; rfl
    | succ k ih =>
      intro hk
      show preSum (fun i => ns.getD i 0) k + ns.getD k 0 = _
      rw [ih (by omega), List.take_succ, List.sum_append, List.getElem?_eq_getElem (by omega)]
      simp [List.getD_eq_getElem?_getD, List.getElem?_eq_getElem (show k < ns.length by omega)]
  rw [h _ (Nat.le_refl _), List.take_length]
theorem cb_sum (hc : X.calm = true := by rfl) : CallR X (.builtin "sum") (rC X.K .f bSum) := by
  intro pins s σ H vs us Q I r ⟨A, ds, d, tr, w, e, q⟩
  unfold bSum at e
  split at e
  · obtain ⟨v, rfl, w1⟩ := p1 w
    obtain ⟨xs, e1, e⟩ := bind2 e
    obtain ⟨ns, e2, e⟩ := Option.map_eq_some_iff.mp e
    subst e
    obtain ⟨a, vs, rfl, ha, ra⟩ := w1.seq e1
    rw [ref1 r]
    have hv := ra.ints e2
    subst hv
    refine call_sum_walkG (sq_iter (show X.A.in1.handled = none from I.ok.hd hc) I ha fun its J fp wr St h₂ rv W st hfp kp => ?_)
    have hl := rv.length
    rw [List.length_map] at hl
    refine ⟨_, _, _, _, _, _, fun i => ns.getD i 0, rfl, W, st, hfp, fun i v h => intsAt rv i v h, fun h' tk t' hk => ?_⟩
    rw [← hl, preSum_all]
    exact ⟨.int _, H, I.kept (kp h' hk), ⟨_, rfl⟩, q _ H (Same.refl H) Res.int⟩
  · cases e
theorem truths {prog : Program} {w : World} {A : Around} {bs : List Bool} {its : List Value} (e : its = bs.map Value.bool) : TruthOf prog w A (fun i v => its[i]? = some v) (fun i => bs.getD i false) := by
  have := truth_bools (prog := prog) (w := w) (A := A) e
  simpa using this
theorem cb_all (hc : X.calm = true := by rfl) : CallR X (.builtin "all") (rC X.K .f bAll) := by
  intro pins s σ H vs us Q I r ⟨A, ds, d, tr, w, e, q⟩
  unfold bAll at e
  split at e
  · obtain ⟨v, rfl, w1⟩ := p1 w
    obtain ⟨xs, e1, e⟩ := bind2 e
    obtain ⟨ns, e2, e⟩ := Option.map_eq_some_iff.mp e
    subst e
    obtain ⟨a, vs, rfl, ha, ra⟩ := w1.seq e1
    rw [ref1 r]
    have hv := ra.bools e2
    subst hv
    refine call_all_walk (sq_iter (show X.A.in1.handled = none from I.ok.hd hc) I ha fun its J fp wr St h₂ rv W st hfp kp => ?_)
    have hl := rv.length
    rw [List.length_map] at hl
    refine ⟨_, _, _, _, _, _, _, rfl, W, st, truths rv.bls, fun h' tk hk => ?_⟩
    rw [← hl, L2.all_range]
    exact ⟨.bl _, H, I.kept (kp h' hk), rfl, q _ H (Same.refl H) Res.bl⟩
  · cases e
theorem cb_any (hc : X.calm = true := by rfl) : CallR X (.builtin "any") (rC X.K .f bAny) := by
  intro pins s σ H vs us Q I r ⟨A, ds, d, tr, w, e, q⟩
  unfold bAny at e
  split at e
  · obtain ⟨v, rfl, w1⟩ := p1 w
    obtain ⟨xs, e1, e⟩ := bind2 e
    obtain ⟨ns, e2, e⟩ := Option.map_eq_some_iff.mp e
    subst e
    obtain ⟨a, vs, rfl, ha, ra⟩ := w1.seq e1
    rw [ref1 r]
    have hv := ra.bools e2
    subst hv
    refine call_any_walk (sq_iter (show X.A.in1.handled = none from I.ok.hd hc) I ha fun its J fp wr St h₂ rv W st hfp kp => ?_)
    have hl := rv.length
    rw [List.length_map] at hl
    refine ⟨_, _, _, _, _, _, _, rfl, W, st, truths rv.bls, fun h' tk hk => ?_⟩
    rw [← hl, L2.any_range]
    exact ⟨.bl _, H, I.kept (kp h' hk), rfl, q _ H (Same.refl H) Res.bl⟩
  · cases e
theorem cb_tuple : CallR X (.type "tuple") (rC X.K .f bTuple) := by
  intro pins s σ H vs us Q I r ⟨A, ds, d, tr, w, e, q⟩
  unfold bTuple at e
  split at e
  · obtain ⟨v, rfl, w1⟩ := p1 w
    obtain ⟨xs, e1, e⟩ := Option.map_eq_some_iff.mp e
    subst e
    unfold seqD at e1
    split at e1
    · cases e1
      obtain ⟨a, ys, rfl, ha, ra⟩ := w1.lst
      exact call_tuple_of pins s σ H _ us Q I r ⟨a, ys, rfl, .inl ⟨.of ha, fun l hl => q _ _ (same_upd hl) (Res.flat (Rp.newT tr hl ra) rfl)⟩⟩
    · cases e1
      obtain ⟨a, ys, rfl, ha, na, ra⟩ := w1.tup
      exact call_tuple_of pins s σ H _ us Q I r ⟨a, ys, rfl, .inr ⟨.of ha, q _ H (Same.refl H) (Res.flat (.tup ha na ra) rfl)⟩⟩
    · cases e1
  · cases e
theorem cb_list : CallR X (.type "list") (rC X.K .f bList) := by
  intro pins s σ H vs us Q I r ⟨A, ds, d, tr, w, e, q⟩
  unfold bList at e
  split at e
  · obtain ⟨v, rfl, w1⟩ := p1 w
    obtain ⟨xs, e1, e⟩ := Option.map_eq_some_iff.mp e
    subst e
    obtain ⟨a, ys, rfl, ha, ra⟩ := w1.seq e1
    refine call_list_of pins s σ H _ us Q I r ⟨a, ys, rfl, ha.elim (fun h => .inl (.of h)) (fun h => .inr (.of h)), fun l hl => q _ _ (same_upd hl) (Res.newL tr hl ra (Same.refl H))⟩
  · cases e

/-! ### isinstance of a written built-in type -/
def tyName : D → String
  | .none => "NoneType"
  | .bool _ => "bool"
  | .int _ => "int"
  | .str _ => "str"
  | .list _ => "list"
  | .tuple _ => "tuple"
  | .dict _ => "dict"
def oIsi (T : String) (d : D) : Option D := match d with
  | .dict _ => none
  | _ => (kitB (tyName d) T).map .bool
theorem WRp.ty {K : PySem.W.Frag} {A : Addr → Prop} {H : Hp} {v : V} {d : D} (w : WRp K A H v d) (h : ∀ kvs, d ≠ .dict kvs) : TyX K H v (.type (tyName d)) := by
  rcases w with w | ⟨a, e, w⟩
  · cases w with
    | non => exact .base .non
    | bl b => exact .base (.bl b)
    | int i => exact .base (.int i)
    | str x => exact .base (.str x)
    | lst e n r => exact .base (.lst e)
    | tup e n r => exact .base (.tup e)
    | scr e n r => exact absurd rfl (h _)
    | kl e r => exact absurd rfl (h _)
    | dic e n r q => exact absurd rfl (h _)
  · subst e
    cases w with
    | lst e r => exact .base (.lst e)
    | dic e r q => exact absurd rfl (h _)
section
variable {O : List Nat} {m : Md} {a : Expr} {fa : Xp} {p pos pt : Pos} {x T' : Str} {T : String}
theorem se_isi (T : String) (ha : SE X O m a fa) (hm : X.mg "isinstance" = none) (hmT : X.mg T' = none) (hg : Gl X "isinstance" := by rfl) (hgT : Gl X T' := by rfl) (hvT : bootBuiltins T' = some (.type T) := by rfl) (hnT : T' ≠ "__name__" := by decide) (hdT : (T' == ("__debug__" : Str)) = false := by decide)
    (hs : starEach (a :: [Expr.Name T' pt]) X.env = (false, eval a X.env) :: starEach [Expr.Name T' pt] X.env := by rfl) (hs2 : starEach [Expr.Name T' pt] X.env = (false, eval (.Name T' pt) X.env) :: starEach [] X.env := by rfl)
    (hpl : (backTo pos (starEach [Expr.Name T' pt] X.env)).any (·.1) = false := by rfl) : SE X O .f (.Call (.Name "isinstance" p) [a, .Name T' pt] [] pos) (xUn (oIsi T) fa) := by
  have hT : PE X (.Name T' pt) (tC (.ty T)) := pe_bltn hgT hmT hvT rfl hnT hdT
  refine ⟨pe_imp (pe_callB call_isi hg hm (by decide +kernel) (pa_cons ha.pe (pa_cons hT pa_nil hs2) hs) (by decide) (by decide) hs hpl) fun σ H Q q => ?_⟩
  obtain ⟨H0, A0, G, ρ, B, d, S, e, k⟩ := q
  obtain ⟨y, ey, e⟩ := bind2 e
  unfold oIsi at e
  split at e
  · cases e
  · rename_i hnd
    obtain ⟨b, eb, e⟩ := Option.map_eq_some_iff.mp e
    subst e
    refine ⟨H0, A0, G, ρ, B, y, S, ey, fun v H1 s1 r1 => ?_⟩
    exact ⟨v, .ty T, .type (tyName y), .type T, b, rfl, .ty T, r1.toW.ty hnd, kit_ty eb, k _ H1 s1 Res.bl⟩
end
end
end Pm

namespace Pm
open PySem PySem.Spec PyProof.Rows L2

/-! ### what is walked -/
structure Yl (K : PySem.W.Frag) (J : It) (gs : List (V × D)) (ds : List D) : Prop where
  go : ∀ A H i d, Tr A H → (∀ p ∈ gs, WRp K A H p.1 p.2) → ds[i]? = some d → J.go i H ∧ ∀ x H', J.yld i H x H' → Same H H' ∧ Rp K A H' x d
  stop : ∀ A H, Tr A H → (∀ p ∈ gs, WRp K A H p.1 p.2) → J.stop ds.length H
def strongR (K : PySem.W.Frag) (A : Addr → Prop) (H : Hp) (st : Bool) (v : V) (d : D) : Prop := if st then Rp K A H v d else WRp K A H v d
def simI (K : PySem.W.Frag) (O : List Nat) (st : Bool) (f : XL) : TI := fun σ H R => ∃ H0 A0 G ρ B ds, Sim K H0 A0 G O σ H ρ B ∧ f ρ = some ds ∧
  ∀ J H' gs, Same H H' → Yl K J gs ds → (∀ p ∈ gs, strongR K (Av A0 B) H' st p.1 p.2) → ds.length ≤ 16777216 → R J H'
structure SI (X : Cx) (O : List Nat) (st : Bool) (tg iter : Expr) (f : XL) : Prop where
  pi : PI X tg iter (simI X.K O st f)
theorem pi_imp {X : Cx} {tg e : Expr} {t t' : TI} (h : PI X tg e t) (hi : ∀ σ H Q, t' σ H Q → t σ H Q) : PI X tg e t' := ⟨fun pins s σ H Q I q => h.run pins s σ H Q I (hi _ _ _ q)⟩
theorem pi_or {X : Cx} {tg e : Expr} {t t' : TI} (h : PI X tg e t) (h' : PI X tg e t') : PI X tg e (fun σ H R => t σ H R ∨ t' σ H R) :=
  ⟨fun pins s σ H Q I q => q.elim (h.run pins s σ H Q I) (h'.run pins s σ H Q I)⟩
/-- lists and tuples are no longer than the line -/
def HpOk (H : Hp) : Prop := ∀ a xs, (H a = some (.lst xs) ∨ H a = some (.tup xs)) → xs.length ≤ 16777216
theorem hpok {X : Cx} {pins : List (Addr × Obj)} {σ : L2.St} {H : Hp} {s : Shared} (I : Inv X pins σ H s) : HpOk H := fun a xs h => by
  rcases h with h | h
  · have z : xs.length ≤ sizeLine := (I.hok a _ h).1
    exact z
  · have z : xs.length ≤ sizeLine := (I.hok a _ h).1
    exact z
theorem pe_ok {X : Cx} {e : Expr} {t : TE} (h : PE X e t) : PE X e (fun σ H Q => t σ H fun v H' => HpOk H' → Q v H') :=
  ⟨fun pins s σ H Q I q => thn (h.run pins s σ H _ I q) fun u s' ⟨v, H', I', r, q'⟩ => ⟨v, H', I', r, q' (hpok I')⟩⟩
theorem pa_ok {X : Cx} {e : List Expr} {t : TA} (h : PA X e t) : PA X e (fun σ H Q => t σ H fun v H' => HpOk H' → Q v H') :=
  ⟨fun pos pins s σ H Q I q => thn (h.run pos pins s σ H _ I q) fun u s' ⟨v, H', I', r, q'⟩ => ⟨v, H', I', r, q' (hpok I')⟩⟩
section
variable {X : Cx} {O : List Nat} {m ma mb mc : Md} {st : Bool} {a b c e tg : Expr} {es : List Expr} {fa fb fc f : Xp} {fs : XL} {pos p : Pos}
def xSeq (f : Xp) : XL := fun ρ => (f ρ).bind seqD
def mdS : Md → Bool
  | .w => false
  | _ => true
theorem Res.sR {K : PySem.W.Frag} {A : Addr → Prop} {He H' : Hp} {v : V} {d : D} (t : Tr A He) (h : Res K A He H' m v d) : strongR K A H' (mdS m) v d := by
  cases m with
  | w => exact h
  | s => exact h
  | f => exact h.toS t (by decide)
theorem strongR.w {K : PySem.W.Frag} {A : Addr → Prop} {H' : Hp} {v : V} {d : D} (h : strongR K A H' st v d) : WRp K A H' v d := by
  cases st with
  | true => exact .inl h
  | false => exact h
/-- a tracked list has one content -/
theorem sql_one {K : PySem.W.Frag} {H : Hp} {a : Addr} {xs ys : List V} (h : H a = some (.lst xs)) (h' : Rd H a (.lst ys)) : ys = xs := by
  rcases h' with h' | ⟨o, h'⟩
  · rw [h] at h'; cases h'; rfl
  · rw [h] at h'; cases h'
theorem si_seq (h : SE X O m e f) : SI X O (mdS m) tg e (xSeq f) := by
  refine ⟨pi_imp (pi_or (pi_list (pe_ok h.pe)) (pi_tup (pe_ok h.pe))) fun σ H R q => ?_⟩
  obtain ⟨H0, A0, G, ρ, B, ds, S, e, k⟩ := q
  obtain ⟨d, ed, e⟩ := bind2 e
  unfold seqD at e
  split at e
  · cases e
    refine .inl ⟨H0, A0, G, ρ, B, _, S, ed, fun v H1 s1 r1 ok => ?_⟩
    obtain ⟨a, xs, rfl, ha, ra⟩ := r1.toW.lst
    refine ⟨a, rfl, ⟨xs, .of ha⟩, k _ H1 [(.ref a, .list ds)] s1 ⟨fun A H i d t g e => ?_, fun A H t g => ?_⟩ (fun p hp => ?_) (by rw [← ra.length]; exact ok a xs (.inl ha))⟩
    · obtain ⟨b, ys, eb, hb, rb⟩ := (g _ (List.mem_singleton.mpr rfl)).lst
      cases eb
      obtain ⟨y, ey, ry⟩ := rb.get e
      refine ⟨⟨ys, y, .of hb, ey⟩, fun x H' hy => ?_⟩
      obtain ⟨rfl, hy⟩ := hy
      have := hy ys (.of hb)
      rw [ey] at this
      cases this
      exact ⟨Same.refl _, ry⟩
    · obtain ⟨b, ys, eb, hb, rb⟩ := (g _ (List.mem_singleton.mpr rfl)).lst
      cases eb
      exact ⟨ys, .of hb, by rw [rb.length]; exact Nat.le_refl _⟩
    · rw [List.mem_singleton.mp hp]
      exact r1.sR S.tr
  · cases e
    refine .inr ⟨H0, A0, G, ρ, B, _, S, ed, fun v H1 s1 r1 ok => ?_⟩
    obtain ⟨a, xs, rfl, ha, na, ra⟩ := r1.toW.tup
    refine ⟨a, rfl, ⟨xs, .of ha⟩, k _ H1 [(.ref a, .tuple ds)] s1 ⟨fun A H i d t g e => ?_, fun A H t g => ?_⟩ (fun p hp => ?_) (by rw [← ra.length]; exact ok a xs (.inr ha))⟩
    · obtain ⟨b, ys, eb, hb, nb, rb⟩ := (g _ (List.mem_singleton.mpr rfl)).tup
      cases eb
      obtain ⟨y, ey, ry⟩ := rb.get e
      refine ⟨⟨ys, y, .of hb, ey⟩, fun x H' hy => ?_⟩
      obtain ⟨rfl, hy⟩ := hy
      have := hy ys (.of hb)
      rw [ey] at this
      cases this
      exact ⟨Same.refl _, ry⟩
    · obtain ⟨b, ys, eb, hb, nb, rb⟩ := (g _ (List.mem_singleton.mpr rfl)).tup
      cases eb
      exact ⟨ys, .of hb, by rw [rb.length]; exact Nat.le_refl _⟩
    · rw [List.mem_singleton.mp hp]
      exact r1.sR S.tr
  · cases e
/-- lo, lo + c, .. -/
def rangeD (lo c : Int) (n : Nat) : List D := (List.range n).map fun i => .int (lo + (i : Nat) * c)
theorem rangeD_len (lo c : Int) (n : Nat) : (rangeD lo c n).length = n := by simp [rangeD]
theorem rangeD_get {lo c : Int} {n i : Nat} {d : D} (h : (rangeD lo c n)[i]? = some d) : i < n ∧ d = .int (lo + (i : Nat) * c) := by
  have hl : i < n := by
    have := (List.getElem?_eq_some_iff.mp h).1
    rwa [rangeD_len] at this
  refine ⟨hl, ?_⟩
  unfold rangeD at h
  rw [List.getElem?_map, List.getElem?_range hl] at h
  cases h
  rfl
def oR1 : List D → Option (List D)
  | [.int j] => if j ≤ 16777216 ∧ -(2 ^ 62) ≤ j then some (rangeD 0 1 j.toNat) else none
  | _ => none
def oR2 : List D → Option (List D)
  | [.int i, .int j] => if -(2 ^ 60) ≤ i ∧ i < 2 ^ 60 ∧ -(2 ^ 60) ≤ j ∧ j < 2 ^ 60 ∧ j - i ≤ 16777216 then some (rangeD i 1 (j - i).toNat) else none
  | _ => none
def oR3 : List D → Option (List D)
  | [.int i, .int j, .int (-1)] => if -(2 ^ 60) ≤ i ∧ i < 2 ^ 60 ∧ -(2 ^ 60) ≤ j ∧ j < 2 ^ 60 ∧ i - j ≤ 16777216 then some (rangeD i (-1) (i - j).toNat) else none
  | [.int i, .int j, .int c] => if RgOk i j c then some (rangeD i c (rgN i j c)) else none
  | _ => none
where
  rgN (i j c : Int) : Nat := (Builtin.Range.rangeSize i j c).toNat
  RgOk (i j c : Int) : Bool := decide (c ≠ 0) && decide (c.natAbs < 1073741824) && Builtin.Range.small i j c && decide (0 ≤ Builtin.Range.rangeSize i j c) && decide (Builtin.Range.rangeSize i j c ≤ 16777216)
def xIt (g : List D → Option (List D)) (fs : XL) : XL := fun ρ => (fs ρ).bind g
theorem yl_r {K : PySem.W.Frag} (lo : Int) (n : Nat) : Yl K (Itr lo n) [] (rangeD lo 1 n) where
  go := fun A H i d t g e => by
    obtain ⟨h1, h2⟩ := rangeD_get e
    subst h2
    refine ⟨h1, fun x H' hy => ?_⟩
    obtain ⟨rfl, rfl⟩ := hy
    refine ⟨Same.refl _, ?_⟩
    rw [Int.mul_one]
    exact .int _
  stop := fun A H t g => by
    rw [rangeD_len]
    exact Nat.le_refl _
theorem yl_c {K : PySem.W.Frag} (lo c : Int) (n : Nat) : Yl K (Itc lo c n) [] (rangeD lo c n) where
  go := fun A H i d t g e => by
    obtain ⟨h1, h2⟩ := rangeD_get e
    subst h2
    refine ⟨h1, fun x H' hy => ?_⟩
    obtain ⟨rfl, rfl⟩ := hy
    exact ⟨Same.refl _, .int _⟩
  stop := fun A H t g => by
    rw [rangeD_len]
    exact Nat.le_refl _
theorem p3 {F : V → D → Prop} {vs : List V} {x y z : D} (h : Paired F vs [x, y, z]) : ∃ v u w, vs = [v, u, w] ∧ F v x ∧ F u y ∧ F w z := by
  cases h with
  | cons a r =>
    obtain ⟨u, w, rfl, h1, h2⟩ := p2 r
    exact ⟨_, _, _, rfl, a, h1, h2⟩
theorem si_r1 (hm : X.mg "range" = none) (ha : SA X O st [a] fs) (hg : Gl X "range" := by rfl) (hs : starEach [a] X.env = [(false, eval a X.env)] := by rfl) : SI X O true tg (.Call (.Name "range" p) [a] [] pos) (xIt oR1 fs) := by
  refine ⟨pi_imp (pi_range1 hg hm ha.pa hs) fun σ H R q => ?_⟩
  obtain ⟨H0, A0, G, ρ, B, ds, S, e, k⟩ := q
  obtain ⟨d, ed, e⟩ := bind2 e
  unfold oR1 at e
  split at e
  · split at e
    · rename_i hz
      cases e
      refine ⟨H0, A0, G, ρ, B, _, S, ed, fun vs H1 s1 r1 => ?_⟩
      obtain ⟨v, rfl, w⟩ := p1 r1.weak
      exact ⟨_, by rw [w.int], hz.2, by omega, k _ H1 [] s1 (yl_r _ _) (fun p hp => nomatch hp) (by rw [rangeD_len]; omega)⟩
    · cases e
  · cases e
theorem si_r2 (hm : X.mg "range" = none) (ha : SA X O st [a, b] fs) (hg : Gl X "range" := by rfl) (hs : starEach [a, b] X.env = [(false, eval a X.env), (false, eval b X.env)] := by rfl) (hs2 : starEach [b] X.env = [(false, eval b X.env)] := by rfl) : SI X O true tg (.Call (.Name "range" p) [a, b] [] pos) (xIt oR2 fs) := by
  refine ⟨pi_imp (pi_range2 hg hm ha.pa hs hs2) fun σ H R q => ?_⟩
  obtain ⟨H0, A0, G, ρ, B, ds, S, e, k⟩ := q
  obtain ⟨d, ed, e⟩ := bind2 e
  unfold oR2 at e
  split at e
  · split at e
    · rename_i hz
      cases e
      refine ⟨H0, A0, G, ρ, B, _, S, ed, fun vs H1 s1 r1 => ?_⟩
      obtain ⟨v, u, rfl, w, w'⟩ := p2 r1.weak
      exact ⟨_, _, by rw [w.int, w'.int], ⟨by omega, by omega, by omega, by omega⟩, k _ H1 [] s1 (yl_r _ _) (fun p hp => nomatch hp) (by rw [rangeD_len]; omega)⟩
    · cases e
  · cases e
theorem si_r3 (hm : X.mg "range" = none) (ha : SA X O st [a, b, c] fs) (hg : Gl X "range" := by rfl) (hs : starEach [a, b, c] X.env = (false, eval a X.env) :: starEach [b, c] X.env := by rfl) (hpl : (backTo pos (starEach [b, c] X.env)).any (·.1) = false := by rfl) : SI X O true tg (.Call (.Name "range" p) [a, b, c] [] pos) (xIt oR3 fs) := by
  refine ⟨pi_imp (pi_range3 hg hm ha.pa hs hpl) fun σ H R q => ?_⟩
  obtain ⟨H0, A0, G, ρ, B, ds, S, e, k⟩ := q
  obtain ⟨d, ed, e⟩ := bind2 e
  unfold oR3 at e
  split at e
  · split at e
    · rename_i hz
      cases e
      refine ⟨H0, A0, G, ρ, B, _, S, ed, fun vs H1 s1 r1 => ?_⟩
      obtain ⟨v, u, w, rfl, w1, w2, w3⟩ := p3 r1.weak
      exact ⟨_, _, _, _, by rw [w1.int, w2.int, w3.int], RgC.neg (by omega) (by omega) (by omega) (by omega), k _ H1 [] s1 (yl_c _ _ _) (fun p hp => nomatch hp) (by rw [rangeD_len]; omega)⟩
    · cases e
  · split at e
    · rename_i hz
      cases e
      refine ⟨H0, A0, G, ρ, B, _, S, ed, fun vs H1 s1 r1 => ?_⟩
      obtain ⟨v, u, w, rfl, w1, w2, w3⟩ := p3 r1.weak
      unfold oR3.RgOk at hz
      simp only [Bool.and_eq_true, decide_eq_true_eq] at hz
      obtain ⟨⟨⟨⟨z1, z2⟩, z3⟩, z4⟩, z5⟩ := hz
      refine ⟨_, _, _, oR3.rgN _ _ _, by rw [w1.int, w2.int, w3.int], ⟨z1, z2, z3, ?_⟩, k _ H1 [] s1 (yl_c _ _ _) (fun p hp => nomatch hp) ?_⟩
      · unfold oR3.rgN
        omega
      · rw [rangeD_len]
        unfold oR3.rgN
        omega
    · cases e
  · cases e
/-- enumerate of a list -/
def enumD (xs : List D) : List D := (List.range xs.length).zipWith (fun i x => .tuple [.int (i : Nat), x]) xs
theorem enumD_len (xs : List D) : (enumD xs).length = xs.length := by simp [enumD]
theorem enumD_get {xs : List D} {i : Nat} {d : D} (h : (enumD xs)[i]? = some d) : ∃ x, xs[i]? = some x ∧ d = .tuple [.int (i : Nat), x] := by
  have hl : i < xs.length := by
    have := (List.getElem?_eq_some_iff.mp h).1
    rwa [enumD_len] at this
  refine ⟨xs[i], List.getElem?_eq_getElem hl, ?_⟩
  unfold enumD at h
  rw [List.getElem?_zipWith, List.getElem?_range hl, List.getElem?_eq_getElem hl] at h
  cases h
  rfl
theorem sqOne {K : PySem.W.Frag} {H : Hp} {a : Addr} {xs : List V} (h : H a = some (.lst xs)) {P : List V → Prop} (p : ∀ ys, SqL K H a ys → P ys) : P xs := p xs (.of h)
end
end Pm

/-! enumerate of a tuple, as a Turn -/
namespace Pm
open PySem PySem.Spec PyProof.Rows L2
set_option maxHeartbeats 1000000 in
theorem meets_enum1 {v : Value} {ob : Obj} {Hy : Heap → Prop} (Bg : Begins v ob Hy) :
    Meets (Builtin.«enumerate.__new__» ⟨[.type "enumerate", v], []⟩) (fun _ R s => Hy s.heap ∧
      R (.ok (.ret (.ref (s.heap.push ob).objs.size))) { s with heap := (s.heap.push ob).push { cls := .type "enumerate", data := .fields #[.none, .bool false, .ref s.heap.objs.size, rawInt 0, .none, .none] } }) :=
  .of_wp fun prog w A R s z => by
    obtain ⟨hp, gs, dr, tks, ost⟩ := s; obtain ⟨z1, z⟩ := z
    have hsub := sub_enumerate
    have run : ∀ {A' : Around} {E : Value → Shared → Prop} {Q : Value → Shared → Prop}, Q (.ref hp.objs.size) ⟨hp.push ob, gs, dr, tks, ost⟩ → wpAny (model prog w) A' (pyIter v) Q E ⟨hp, gs, dr, tks, ost⟩ :=
      fun q => Bg.iter prog w _ _ ⟨hp, gs, dr, tks, ost⟩ _ z1 q
    wp_walk using run
    refine wpAny_stack_any fun stk => wpAny_pure ?_
    split
    · rename_i cc _ _ _ _ _
      cases (cc == Value.type "enumerate") <;> (wp_walk using run) <;> exact ⟨_, rfl, z⟩
    · wp_walk using run
      exact ⟨_, rfl, z⟩
section
variable {prog : Program} {w : World} {A : Around} {E : Value → Shared → Prop} {s : Shared}
theorem enum_one {v : Value} {ob : Obj} {Hy : Heap → Prop} {Q : Value → Shared → Prop} (Bg : Begins v ob Hy) (z1 : Hy s.heap)
    (k : ∀ hh, IsEnum hh (s.heap.objs.size + 1) s.heap.objs.size 0 .none → hh.get? s.heap.objs.size = some ob → (∀ b o, s.heap.get? b = some o → hh.get? b = some o) → Q (.ref (s.heap.objs.size + 1)) { s with heap := hh }) :
    wpAny (model prog w) A (call (.type "enumerate") [v]) Q E s := by
  refine callType_new F.called_enumerate (by decide) (F.typeCall_enumerate_1 _) (F.newCall_enumerate_1 _) (fun obj => F.args_object_init_2 obj _) F.entry_enumerate_new (meets_enum1 Bg) ⟨z1, ?_⟩
  have sz : (s.heap.push ob).objs.size = s.heap.objs.size + 1 := Heap.size_push ..
  have ie : IsEnum ((s.heap.push ob).push { cls := .type "enumerate", data := .fields #[.none, .bool false, .ref s.heap.objs.size, rawInt 0, .none, .none] }) (s.heap.objs.size + 1) s.heap.objs.size 0 .none := by
    rw [← sz]
    exact Heap.get?_push_size _ rfl
  show _ ∧ _
  rw [sz]
  exact ⟨⟨_, ie, rfl⟩, k _ ie (Heap.get?_push_of_some _ (Heap.get?_push_size _ Bg.free)) fun b o x => Heap.get?_push_of_some _ (Heap.get?_push_of_some _ x)⟩
end
/-- the tuple at a, each item in a new pair -/
def ItE (K : PySem.W.Frag) (a : Addr) : It where
  go := fun i H => ∃ (xs : List V) (x : V), SqT K H a xs ∧ xs[i]? = some x
  yld := fun i H v H' => ∃ T x, v = .ref T ∧ H T = none ∧ H' = upd H T (.tup [.int (i : Nat), x]) ∧ ∀ xs, SqT K H a xs → xs[i]? = some x
  stop := fun i H => ∃ xs : List V, SqT K H a xs ∧ xs.length ≤ i
theorem turn_enumTup {P : Program} {w : World} {K : PySem.W.Frag} {elts : List Expr} {kk : Nat} {tpos : Pos} (a e it : Addr) :
    Turn P w K (.Tuple elts kk tpos) (ItE K a) [e, it] e (fun i h => (∃ old, IsEnum h e it ((0 : Int) + ((i : Nat) : Int)) old) ∧ h.IsTupleIter it a i ∧ e ≠ it ∧ a ≠ it) where
  mem := List.mem_cons_self
  obj := by
    intro i h ⟨⟨old, he⟩, ⟨o, ho, hc, hd⟩, _⟩ b hb
    have hb' : b = e ∨ b = it := by simpa using hb
    rcases hb' with rfl | rfl
    · exact ⟨_, he, fun v q => nomatch q⟩
    · exact ⟨o, ho, fun v q => by rw [hd] at q; cases q⟩
  keep := by
    intro i h h' ⟨⟨old, he⟩, hi, hne⟩ k
    exact ⟨⟨old, k e (by simp) _ he⟩, hi.at fun o q => k it (by simp) o q, hne⟩
  item := by
    intro X hP hw hK hc i pins s σ H E I hf st hg
    subst hP hw hK
    obtain ⟨⟨old, he⟩, hit, hne, hat⟩ := st
    obtain ⟨xs, x, hq, hx⟩ := hg
    obtain ⟨its, rv, p, hz⟩ := I.tuple hq
    obtain ⟨u, hu, ru⟩ := rv.get hx
    have hi : i < its.length := (List.getElem?_eq_some_iff.mp hu).1
    have el : e < s.heap.objs.size := Heap.lt_size he
    have il : it < s.heap.objs.size := by
      obtain ⟨_, q, _⟩ := hit
      exact Heap.lt_size q
    have nef : e ∉ [it, a] := fun z => by
      have z' : e = it ∨ e = a := by simpa using z
      rcases z' with z' | z'
      · exact hne z'
      · obtain ⟨o, ho, hcl, _⟩ := p
        rw [← z'] at ho
        have := he.symm.trans ho
        cases this
        exact absurd (Value.type.inj hcl) (by decide)
    have Dr := Draws.tuple (prog := X.prog) (w := X.w) (A := X.A.in1) (I.ok.hd hc) it a hat its.toArray
    refine wpAny_pyNext_enum_itemC Dr he ⟨hit, p⟩ (by simpa using hi) hne nef fun y h' tk hy ho st' hT hsz hk => ?_
    have ey : y = u := by
      have hy' : its[i]? = some y := by simpa using hy
      rw [hu] at hy'
      exact (Option.some.inj hy').symm
    subst ey
    refine ⟨_, rfl, wpAny_letOwnedTupleGo_enum (s := { s with heap := h', toks := tk + 1 }) ho fun h'' he' sb => ?_⟩
    have hT2 : h''.get? s.heap.objs.size = some { cls := .type "tuple", data := .seq #[.int ((0 : Int) + ((i : Nat) : Int)) tk, y] } := (sb.2 _ (Nat.ne_of_gt el)).trans hT
    have ob : ObjOk X.prog X.w (upd H s.heap.objs.size (.tup [.int (i : Nat), x])) h'' s.heap.objs.size (.tup [.int (i : Nat), x]) :=
      ⟨by show 2 ≤ sizeLine; decide, [.int ((0 : Int) + ((i : Nat) : Int)) tk, y], .cons ⟨tk, by rw [Int.zero_add]⟩ (.cons ru .nil), ⟨_, hT2, rfl, _, rfl⟩⟩
    have J : Inv X pins σ (upd H s.heap.objs.size (.tup [.int (i : Nat), x])) { s with heap := h'', toks := tk + 1 } :=
      I.turnedNew (ch := [e, it]) (fun b q hb e1 => (sb.2 b (fun z => hb (by simp [z]))).trans (hk b q (fun z => hb (by simp [z])) (fun z => hb (by simp [z])) e1)) hf (Nat.le_refl _) ob
    refine ⟨.ref s.heap.objs.size, _, J, rfl, ⟨_, x, rfl, I.hok.fresh (Nat.le_refl _), rfl, fun ys hy => by rw [I.tuple_inj hy hq]; exact hx⟩, ⟨⟨y, ?_⟩, st'.1.at fun o q => (sb.2 it (Ne.symm hne)).trans q, hne, hat⟩, fun b hb => ?_⟩
    · have e1 : (0 : Int) + ((i + 1 : Nat) : Int) = (0 : Int) + (i : Int) + 1 := by omega
      rw [e1]
      exact he'
    · have lb : b < s.heap.objs.size := by
        have z : b = e ∨ b = it := by simpa using hb
        rcases z with rfl | rfl
        · exact el
        · exact il
      rw [upd_ne (Nat.ne_of_lt lb)]
      exact (hf b hb).1
  done := by
    intro X hP hw hK hc i pins s σ H E I hf st hg
    subst hP hw hK
    obtain ⟨⟨old, he⟩, hit, hne, hat⟩ := st
    obtain ⟨xs, hq, hx⟩ := hg
    obtain ⟨its, rv, p, hz⟩ := I.tuple hq
    obtain ⟨f0, f1, f2, f3, f4, f5⟩ := hf it (by simp)
    have hl := rv.length
    have hh : X.A.in1.in1.handled = none := I.ok.hd hc
    refine wpAny_pyNext_enum_endD (n := i) (St := fun j h => j = i ∧ h.IsTupleIter it a i ∧ h.IsTuple a its.toArray) (P := fun _ _ => True) (fp := [it, a]) ?_ he ⟨rfl, hit, p⟩ fun h' eb => ⟨rfl, I.turned (t' := s.toks) (fun b o hb q => eb b o hb q) f0 f1 f3 f4 f5⟩
    refine ⟨fun _ _ st => let ⟨o, ho, _⟩ := st.2.1; ⟨o, ho⟩, fun _ _ _ st hk => ⟨st.1, st.2.1.at fun o e => hk it (by simp) o e, st.2.2.at fun o e => hk a (by simp) o e⟩, ?_, ?_⟩
    · intro j s' Q E' hj st' hQ
      exact absurd st'.1 (Nat.ne_of_lt hj)
    · intro s' Q E' st' hE
      exact wpAny_nextOf_tuple_end hh st'.2.1 st'.2.2 (by simp; omega) hE
  self := fun A i s Q E st h => let ⟨⟨_, he⟩, _⟩ := st; wpAny_pyIter_enum he h
end Pm

namespace Pm
open PySem PySem.Spec PyProof.Rows L2
section
variable {X : Cx} {O : List Nat} {m ma mb mc : Md} {st : Bool} {a b c e tg : Expr} {es : List Expr} {fa fb fc f : Xp} {fs : XL} {pos p : Pos}
def iEnumT (K : PySem.W.Frag) (ta : TA) : TI := fun σ H R => ta σ H fun vs H1 => ∃ a xs, vs = [.ref a] ∧ SqT K H1 a xs ∧ R (ItE K a) H1
theorem pi_enumT {ta : TA} {tpos : Pos} {elts : List Expr} {kk : Nat} (hg : Gl X "enumerate") (hm : X.mg "enumerate" = none) (ha : PA X [e] ta) (hs : starEach [e] X.env = [(false, eval e X.env)] := by rfl) : PI X (.Tuple elts kk tpos) (.Call (.Name "enumerate" p) [e] [] pos) (iEnumT X.K ta) := by
  refine ⟨fun pins s σ H R I h => ?_⟩
  refine Call_ (ld_blt I hg hm boot_enumerate (callWith_type1 (thn (ha.run pos pins s σ H _ I h) fun us s1 q1 => ?_) hs rfl))
  obtain ⟨vs, H1, I1, r1, t, xs, ex, hq, q⟩ := q1
  subst ex
  rw [Vals.ref1 r1]
  obtain ⟨its, rv, pt, hz⟩ := I1.tuple hq
  refine enum_one (begins_tuple t its.toArray) pt fun h' he hit hk => wpAny_pyIter_enum he ?_
  have I2 : Inv X pins σ H1 { s1 with heap := h' } := I1.kept (t' := s1.toks) hk
  refine ⟨s1.heap.objs.size + 1, [s1.heap.objs.size + 1, s1.heap.objs.size], _, _, H1, rfl, I2, turn_enumTup t (s1.heap.objs.size + 1) s1.heap.objs.size, ⟨⟨.none, ?_⟩, ⟨_, hit, rfl, rfl⟩, Nat.succ_ne_self _, Nat.ne_of_lt pt.lt⟩, fun b hb => ?_, q⟩
  · exact he
  · have le : s1.heap.objs.size ≤ b := by
      have z : b = s1.heap.objs.size + 1 ∨ b = s1.heap.objs.size := by simpa using hb
      rcases z with rfl | rfl
      · exact Nat.le_succ _
      · exact Nat.le_refl _
    exact I1.fpOk le (I1.hok.fresh le)
def oEnum : List D → Option (List D)
  | [x] => (seqD x).map enumD
  | _ => none
theorem rp_pair {K : PySem.W.Frag} {A : Addr → Prop} {H : Hp} {T : Addr} {v u : V} {d d' : D} (t : Tr A H) (hT : H T = none) (r : Rp K A H v d) (r' : Rp K A H u d') : Rp K A (upd H T (.tup [v, u])) (.ref T) (.tuple [d, d']) :=
  Rp.newT t hT (.cons r (.cons r' .nil))
theorem rsL {K : PySem.W.Frag} {A : Addr → Prop} {H : Hp} {vs : List V} {x : D} (h : ResL K A H st vs [x]) : ∃ v, vs = [v] ∧ strongR K A H st v x := by
  cases st with
  | true =>
    cases h with
    | cons a r => cases r; exact ⟨_, rfl, a⟩
  | false =>
    cases h with
    | cons a r => cases r; exact ⟨_, rfl, a⟩
theorem rsL2 {K : PySem.W.Frag} {A : Addr → Prop} {H : Hp} {vs : List V} {x y : D} (h : ResL K A H st vs [x, y]) : ∃ v u, vs = [v, u] ∧ strongR K A H st v x ∧ strongR K A H st u y := by
  cases st with
  | true =>
    cases h with
    | cons a r =>
      cases r with
      | cons b r => cases r; exact ⟨_, _, rfl, a, b⟩
  | false =>
    cases h with
    | cons a r =>
      cases r with
      | cons b r => cases r; exact ⟨_, _, rfl, a, b⟩
theorem si_enum {tpos : Pos} {elts : List Expr} {kk : Nat} (hm : X.mg "enumerate" = none) (ha : SA X O st [a] fs) (hg : Gl X "enumerate" := by rfl) (hs : starEach [a] X.env = [(false, eval a X.env)] := by rfl) : SI X O st (.Tuple elts kk tpos) (.Call (.Name "enumerate" p) [a] [] pos) (xIt oEnum fs) := by
  refine ⟨pi_imp (pi_or (pi_enum hg hm (pa_ok ha.pa) hs) (pi_enumT hg hm (pa_ok ha.pa) hs)) fun σ H R q => ?_⟩
  obtain ⟨H0, A0, G, ρ, B, ds, S, e, k⟩ := q
  obtain ⟨d, ed, e⟩ := bind2 e
  unfold oEnum at e
  split at e
  · rename_i x
    obtain ⟨xs, ex, e⟩ := Option.map_eq_some_iff.mp e
    subst e
    unfold seqD at ex
    split at ex
    · cases ex
      refine .inl ⟨H0, A0, G, ρ, B, _, S, ed, fun vs H1 s1 r1 ok => ?_⟩
      obtain ⟨v, rfl, sr⟩ := rsL r1
      obtain ⟨t, ys, rfl, ht, rt⟩ := sr.w.lst
      refine ⟨t, ys, rfl, .of ht, k _ H1 [(.ref t, .list xs)] s1 ⟨fun A H i d tr g e => ?_, fun A H tr g => ?_⟩ (fun p hp => by rw [List.mem_singleton.mp hp]; exact sr) (by rw [enumD_len, ← rt.length]; exact ok t ys (.inl ht))⟩
      · obtain ⟨z, ez, rfl⟩ := enumD_get e
        obtain ⟨b, ys, eb, hb, rb⟩ := (g _ (List.mem_singleton.mpr rfl)).lst
        cases eb
        obtain ⟨y, ey, ry⟩ := rb.get ez
        refine ⟨⟨ys, y, .of hb, ey⟩, fun x H' hy => ?_⟩
        obtain ⟨T, u, rfl, hT, rfl, hu⟩ := hy
        have := hu ys (.of hb)
        rw [ey] at this
        cases this
        exact ⟨same_upd hT, rp_pair tr hT (.int _) ry⟩
      · obtain ⟨b, ys, eb, hb, rb⟩ := (g _ (List.mem_singleton.mpr rfl)).lst
        cases eb
        exact ⟨ys, .of hb, by rw [enumD_len, rb.length]; exact Nat.le_refl _⟩
    · cases ex
      refine .inr ⟨H0, A0, G, ρ, B, _, S, ed, fun vs H1 s1 r1 ok => ?_⟩
      obtain ⟨v, rfl, sr⟩ := rsL r1
      obtain ⟨t, ys, rfl, ht, nt, rt⟩ := sr.w.tup
      refine ⟨t, ys, rfl, .of ht, k _ H1 [(.ref t, .tuple xs)] s1 ⟨fun A H i d tr g e => ?_, fun A H tr g => ?_⟩ (fun p hp => by rw [List.mem_singleton.mp hp]; exact sr) (by rw [enumD_len, ← rt.length]; exact ok t ys (.inr ht))⟩
      · obtain ⟨z, ez, rfl⟩ := enumD_get e
        obtain ⟨b, ys, eb, hb, nb, rb⟩ := (g _ (List.mem_singleton.mpr rfl)).tup
        cases eb
        obtain ⟨y, ey, ry⟩ := rb.get ez
        refine ⟨⟨ys, y, .of hb, ey⟩, fun x H' hy => ?_⟩
        obtain ⟨T, u, rfl, hT, rfl, hu⟩ := hy
        have := hu ys (.of hb)
        rw [ey] at this
        cases this
        exact ⟨same_upd hT, rp_pair tr hT (.int _) ry⟩
      · obtain ⟨b, ys, eb, hb, nb, rb⟩ := (g _ (List.mem_singleton.mpr rfl)).tup
        cases eb
        exact ⟨ys, .of hb, by rw [enumD_len, rb.length]; exact Nat.le_refl _⟩
    · cases ex
  · cases e
/-- zip of two lists, of two tuples -/
def zipD (xs ys : List D) : List D := xs.zipWith (fun x y => .tuple [x, y]) ys
theorem zipD_get {xs ys : List D} {i : Nat} {d : D} (h : (zipD xs ys)[i]? = some d) : ∃ x y, xs[i]? = some x ∧ ys[i]? = some y ∧ d = .tuple [x, y] := by
  unfold zipD at h
  rw [List.getElem?_zipWith] at h
  cases e : xs[i]? with
  | none => rw [e] at h; cases ys[i]? <;> cases h
  | some x =>
    cases e' : ys[i]? with
    | none => rw [e, e'] at h; cases h
    | some y => rw [e, e'] at h; cases h; exact ⟨x, y, rfl, rfl, rfl⟩
theorem zipD_len (xs ys : List D) : (zipD xs ys).length = min xs.length ys.length := by simp [zipD]
def oZip : List D → Option (List D)
  | [.list xs, .list ys] => some (zipD xs ys)
  | [.tuple xs, .tuple ys] => some (zipD xs ys)
  | _ => none
theorem si_zip {tpos : Pos} {elts : List Expr} {kk : Nat} (hm : X.mg "zip" = none) (ha : SA X O st [a, b] fs) (hg : Gl X "zip" := by rfl)
    (hs : starEach [a, b] X.env = (false, eval a X.env) :: starEach [b] X.env := by rfl) (hpl : (backTo pos (starEach [b] X.env)).any (·.1) = false := by rfl) : SI X O st (.Tuple elts kk tpos) (.Call (.Name "zip" p) [a, b] [] pos) (xIt oZip fs) := by
  refine ⟨pi_imp (RZ.pi_zipA hg hm (pa_ok ha.pa) hs hpl) fun σ H R q => ?_⟩
  obtain ⟨H0, A0, G, ρ, B, ds, S, e, k⟩ := q
  obtain ⟨d, ed, e⟩ := bind2 e
  refine ⟨H0, A0, G, ρ, B, _, S, ed, fun vs H1 s1 r1 ok => ?_⟩
  unfold oZip at e
  split at e
  · cases e
    rename_i xs ys
    obtain ⟨v, u, rfl, sr, sr'⟩ := rsL2 r1
    obtain ⟨t, vs, rfl, ht, rt⟩ := sr.w.lst
    obtain ⟨t', vs', rfl, ht', rt'⟩ := sr'.w.lst
    refine ⟨t, t', vs, vs', rfl, .inl ⟨.of ht, .of ht', k _ H1 [(.ref t, .list xs), (.ref t', .list ys)] s1 ⟨fun A H i d tr g e => ?_, fun A H tr g => ?_⟩ (fun p hp => ?_) ?_⟩⟩
    · obtain ⟨x, y, ex, ey, rfl⟩ := zipD_get e
      obtain ⟨b, zs, eb, hb, rb⟩ := (g _ (List.mem_cons_self)).lst
      obtain ⟨b', zs', eb', hb', rb'⟩ := (g _ (List.mem_cons_of_mem _ List.mem_cons_self)).lst
      cases eb
      cases eb'
      obtain ⟨x1, ex1, rx1⟩ := rb.get ex
      obtain ⟨y1, ey1, ry1⟩ := rb'.get ey
      refine ⟨⟨zs, zs', x1, y1, .of hb, .of hb', ex1, ey1⟩, fun z H' hy => ?_⟩
      obtain ⟨T, u, w, rfl, hT, rfl, hu, hw⟩ := hy
      have e1 := hu zs (.of hb)
      have e2 := hw zs' (.of hb')
      rw [ex1] at e1
      rw [ey1] at e2
      cases e1
      cases e2
      exact ⟨same_upd hT, rp_pair tr hT rx1 ry1⟩
    · obtain ⟨b, zs, eb, hb, rb⟩ := (g _ (List.mem_cons_self)).lst
      obtain ⟨b', zs', eb', hb', rb'⟩ := (g _ (List.mem_cons_of_mem _ List.mem_cons_self)).lst
      cases eb
      cases eb'
      refine ⟨zs, zs', .of hb, .of hb', ?_⟩
      rw [zipD_len, rb.length, rb'.length]
      omega
    · have z : p = (.ref t, .list xs) ∨ p = (.ref t', .list ys) := by simpa using hp
      rcases z with rfl | rfl
      · exact sr
      · exact sr'
    · rw [zipD_len, ← rt.length]
      have := ok t vs (.inl ht)
      omega
  · cases e
    rename_i xs ys
    obtain ⟨v, u, rfl, sr, sr'⟩ := rsL2 r1
    obtain ⟨t, vs, rfl, ht, nt, rt⟩ := sr.w.tup
    obtain ⟨t', vs', rfl, ht', nt', rt'⟩ := sr'.w.tup
    refine ⟨t, t', vs, vs', rfl, .inr ⟨.of ht, .of ht', k _ H1 [(.ref t, .tuple xs), (.ref t', .tuple ys)] s1 ⟨fun A H i d tr g e => ?_, fun A H tr g => ?_⟩ (fun p hp => ?_) ?_⟩⟩
    · obtain ⟨x, y, ex, ey, rfl⟩ := zipD_get e
      obtain ⟨b, zs, eb, hb, nb, rb⟩ := (g _ (List.mem_cons_self)).tup
      obtain ⟨b', zs', eb', hb', nb', rb'⟩ := (g _ (List.mem_cons_of_mem _ List.mem_cons_self)).tup
      cases eb
      cases eb'
      obtain ⟨x1, ex1, rx1⟩ := rb.get ex
      obtain ⟨y1, ey1, ry1⟩ := rb'.get ey
      refine ⟨⟨zs, zs', x1, y1, .of hb, .of hb', ex1, ey1⟩, fun z H' hy => ?_⟩
      obtain ⟨T, u, w, rfl, hT, rfl, hu, hw⟩ := hy
      have e1 := hu zs (.of hb)
      have e2 := hw zs' (.of hb')
      rw [ex1] at e1
      rw [ey1] at e2
      cases e1
      cases e2
      exact ⟨same_upd hT, rp_pair tr hT rx1 ry1⟩
    · obtain ⟨b, zs, eb, hb, nb, rb⟩ := (g _ (List.mem_cons_self)).tup
      obtain ⟨b', zs', eb', hb', nb', rb'⟩ := (g _ (List.mem_cons_of_mem _ List.mem_cons_self)).tup
      cases eb
      cases eb'
      refine ⟨zs, zs', .of hb, .of hb', ?_⟩
      rw [zipD_len, rb.length, rb'.length]
      omega
    · have z : p = (.ref t, .tuple xs) ∨ p = (.ref t', .tuple ys) := by simpa using hp
      rcases z with rfl | rfl
      · exact sr
      · exact sr'
    · rw [zipD_len, ← rt.length]
      have := ok t vs (.inr ht)
      omega
  · cases e
end

end Pm

namespace Pm
open PySem PySem.Spec PyProof.Rows L2

/-! ### targets -/
abbrev XG := D → PEnv → Option PEnv
/-- the slots out of ts stand -/
def Ch (ts : List Nat) (σ σ' : L2.St) : Prop := σ'.length = σ.length ∧ ∀ i, ts.contains i = false → σ'[i]? = σ[i]?
def simG (K : PySem.W.Frag) (O O' ts : List Nat) (g : XG) : TG := fun v σ H Q => ∃ H0 A0 G ρ B d ρ', Sim K H0 A0 G O σ H ρ B ∧ Rp K (Av A0 B) H v d ∧ g d ρ = some ρ' ∧
  ∀ σ', Ch ts σ σ' → Sim K H0 A0 G O' σ' H ρ' (restr ts B) → Q σ' H
structure SG (X : Cx) (O O' ts : List Nat) (tg : Expr) (g : XG) : Prop where
  pg : PG X tg (simG X.K O O' ts g)
def simGs (K : PySem.W.Frag) (O O' ts : List Nat) (g : List D → PEnv → Option PEnv) : TGs := fun vs σ H Q => ∃ H0 A0 G ρ B ds ρ', Sim K H0 A0 G O σ H ρ B ∧ RpL K (Av A0 B) H vs ds ∧ g ds ρ = some ρ' ∧
  ∀ σ', Ch ts σ σ' → Sim K H0 A0 G O' σ' H ρ' (restr ts B) → Q σ' H
structure SGs (X : Cx) (O O' ts : List Nat) (tgs : List Expr) (g : List D → PEnv → Option PEnv) : Prop where
  pgs : PGs X tgs (simGs X.K O O' ts g)
theorem pg_imp {X : Cx} {e : Expr} {t t' : TG} (h : PG X e t) (hi : ∀ v σ H Q, t' v σ H Q → t v σ H Q) : PG X e t' := ⟨fun pins s σ H v u Q I r q => h.run pins s σ H v u Q I r (hi _ _ _ _ q)⟩
theorem pgs_imp {X : Cx} {e : List Expr} {t t' : TGs} (h : PGs X e t) (hi : ∀ v σ H Q, t' v σ H Q → t v σ H Q) : PGs X e t' := ⟨fun pins s σ H v u Q I r q => h.run pins s σ H v u Q I r (hi _ _ _ _ q)⟩
def gSet (i : Nat) : XG := fun d ρ => if i < ρ.length then some (ρ.set i (some d)) else none
def gTupD (n : Nat) (g : List D → PEnv → Option PEnv) : XG := fun d ρ => match d with
  | .tuple ds => if ds.length = n then g ds ρ else none
  | _ => none
def gsNil : List D → PEnv → Option PEnv := fun ds ρ => match ds with
  | [] => some ρ
  | _ => none
def gsCons (g : XG) (gs : List D → PEnv → Option PEnv) : List D → PEnv → Option PEnv := fun ds ρ => match ds with
  | d :: ds => (g d ρ).bind fun ρ' => gs ds ρ'
  | _ => none
theorem Ch.refl (ts : List Nat) (σ : L2.St) : Ch ts σ σ := ⟨rfl, fun _ _ => rfl⟩
theorem Ch.trans {ts us : List Nat} {σ σ' σ'' : L2.St} (h : Ch ts σ σ') (h' : Ch us σ' σ'') : Ch (ts ++ us) σ σ'' := by
  refine ⟨h'.1.trans h.1, fun i z => ?_⟩
  have e : ts.contains i = false ∧ us.contains i = false := by
    simpa [List.contains_eq_mem, not_or] using z
  exact (h'.2 i e.2).trans (h.2 i e.1)
theorem Ch.set (i : Nat) (x : Option V) (σ : L2.St) : Ch [i] σ (σ.set i x) := by
  refine ⟨List.length_set, fun j z => ?_⟩
  have e : j ≠ i := by simpa using z
  exact List.getElem?_set_ne (Ne.symm e)
section
variable {X : Cx} {O O' O'' ts us : List Nat} {tg : Expr} {tgs : List Expr} {g : XG} {gs : List D → PEnv → Option PEnv} {pos : Pos}
theorem sg_name (i : Nat) {x : Str} (hN : X.N.Nodup) (hi : X.N[i]? = some x := by rfl) (hx : Loc X.env.scope x := by first | exact Or.inl rfl | exact Or.inr rfl) (hf : X.fn x = true ∨ X.env.scope.names.lookup x = some .local := by first | exact .inl rfl | exact .inr rfl) (hO : O.filter (· != i) = O' := by rfl) : SG X O O' [i] (.Name x pos) (gSet i) := by
  refine ⟨pg_imp (pg_name hN hi hx hf) fun v σ H Q h => ?_⟩
  obtain ⟨H0, A0, G, ρ, B, d, ρ', S, r, e, k⟩ := h
  unfold gSet at e
  split at e
  · rename_i hl
    cases e
    have S' := S.setS r hl
    rw [hO] at S'
    exact k _ (Ch.set i _ σ) S'
  · cases e
theorem sgs_nil : SGs X O O [] [] gsNil := by
  refine ⟨pgs_imp pgs_nil fun v σ H Q h => ?_⟩
  obtain ⟨H0, A0, G, ρ, B, ds, ρ', S, r, e, k⟩ := h
  unfold gsNil at e
  split at e
  · cases e
    cases r
    exact ⟨rfl, k σ (Ch.refl _ _) (by rw [restr_nil]; exact S)⟩
  · cases e
theorem sgs_cons (h : SG X O O' ts tg g) (h' : SGs X O' O'' us tgs gs) (hs : (assignEach (tg :: tgs) X.env).map (·.2) = assign tg X.env :: (assignEach tgs X.env).map (·.2) := by rfl) : SGs X O O'' (ts ++ us) (tg :: tgs) (gsCons g gs) := by
  refine ⟨pgs_imp (pgs_cons h.pg h'.pgs hs) fun v σ H Q q => ?_⟩
  obtain ⟨H0, A0, G, ρ, B, ds, ρ', S, r, e, k⟩ := q
  unfold gsCons at e
  split at e
  · obtain ⟨ρ1, e1, e⟩ := bind2 e
    cases r with
    | cons r1 r2 =>
      refine ⟨_, _, rfl, H0, A0, G, ρ, B, _, ρ1, S, r1, e1, fun σ1 c1 S1 => ?_⟩
      refine ⟨H0, A0, G, ρ1, _, _, ρ', S1, r2.anti fun a z => restr_av z, e, fun σ2 c2 S2 => k σ2 (c1.trans c2) ?_⟩
      rw [restr_app] at S2
      exact S2
  · cases e
theorem sg_tup {k n : Nat} (hc : X.calm = true) (h : SGs X O O' ts tgs gs) (hn : (assignEach tgs X.env).length = n := by rfl) (hst : (assignEach tgs X.env).findIdx? (·.1) = none := by rfl) : SG X O O' ts (.Tuple tgs k pos) (gTupD n gs) := by
  refine ⟨pg_imp (pg_tup hc h.pgs hn hst) fun v σ H Q q => ?_⟩
  obtain ⟨H0, A0, G, ρ, B, d, ρ', S, r, e, k⟩ := q
  unfold gTupD at e
  split at e
  · split at e
    · rename_i hz
      cases r with
      | tup ht nt rt => exact ⟨_, _, rfl, .of ht, by rw [rt.length, hz], H0, A0, G, ρ, B, _, ρ', S, rt, e, k⟩
    · cases e
  · cases e
end

/-! ### comprehensions -/
def wipeP (ρ : PEnv) : List Nat → PEnv
  | [] => ρ
  | v :: vs => (wipeP ρ vs).set v none
theorem wipe_get (σ : L2.St) (i : Nat) : ∀ vs : List Nat, (wipe σ vs)[i]? = if vs.contains i then (if i < σ.length then some none else none) else σ[i]?
  | [] => by simp [wipe]
  | v :: vs => by
    unfold wipe
    by_cases h : v = i
    · subst h
      have hc : (v :: vs).contains v = true := by simp
      rw [hc, if_pos rfl]
      by_cases hl : v < σ.length
      · rw [List.getElem?_set_self (by rw [wipe_length]; exact hl), if_pos hl]
      · rw [if_neg hl, List.getElem?_eq_none (by rw [List.length_set, wipe_length]; omega)]
    · rw [List.getElem?_set_ne h, wipe_get σ i vs]
      have : (v :: vs).contains i = vs.contains i := by
        have h' : ¬ i = v := fun z => h z.symm
        simp [List.contains_cons, h']
      rw [this]
theorem wipe_eq {ts vs : List Nat} {σ σ2 : L2.St} (c : Ch ts (wipe σ vs) σ2) (h : ∀ i, ts.contains i = true → vs.contains i = true) : wipe σ2 vs = wipe σ vs := by
  apply List.ext_getElem?
  intro i
  have hl : σ2.length = σ.length := by rw [c.1, wipe_length]
  rw [wipe_get, wipe_get, hl]
  by_cases hv : vs.contains i = true
  · rw [if_pos hv, if_pos hv]
  · rw [if_neg hv, if_neg hv]
    have ht : ts.contains i = false := by
      cases e : ts.contains i with
      | false => rfl
      | true => exact absurd (h i e) hv
    rw [c.2 i ht, wipe_get, if_neg hv]
theorem Sim.wipe {K : PySem.W.Frag} {H0 H : Hp} {A0 : Addr → Prop} {G : List (V × D)} {O : List Nat} {σ : L2.St} {ρ : PEnv} {B : Nat → Option Addr} (S : Sim K H0 A0 G O σ H ρ B) : ∀ vs : List Nat, (∀ i ∈ vs, i ∉ O) → Sim K H0 A0 G O (wipe σ vs) H (wipeP ρ vs) B
  | [], _ => S
  | v :: vs, h => (S.wipe vs fun i hi => h i (List.mem_cons_of_mem _ hi)).drop v (h v List.mem_cons_self)
theorem restr_same {K : PySem.W.Frag} {H0 H : Hp} {A0 : Addr → Prop} {G : List (V × D)} {O : List Nat} {σ : L2.St} {ρ : PEnv} {B : Nat → Option Addr} (S : Sim K H0 A0 G O σ H ρ B) {ts : List Nat} (h : ∀ i, ts.contains i = true → i ∉ O) : restr ts B = B := by
  funext j
  unfold restr
  split
  · rename_i hj
    cases e : B j with
    | none => rfl
    | some a => exact absurd (S.bo j a e) (h j hj)
  · rfl
/-- the items made from one source -/
def lcL (g : XG) (t : PEnv → Option Bool) (f : Xp) (ρ : PEnv) : List D → Option (List D)
  | [] => some []
  | d :: ds => (g d ρ).bind fun ρ1 => (t ρ1).bind fun b => if b then (f ρ1).bind fun y => (lcL g t f ρ ds).bind fun ys => some (y :: ys) else lcL g t f ρ ds
def xLc (it : XL) (g : XG) (t : PEnv → Option Bool) (f : Xp) (own : List Nat) : Xp := fun ρ => (it ρ).bind fun ds => (lcL g t f (wipeP ρ own) ds).map .list
structure STs (X : Cx) (O : List Nat) (ifs : List Expr) (f : PEnv → Option Bool) : Prop where
  pts : PTs X ifs (simTT X.K O f)
def tYesP : PEnv → Option Bool := fun _ => some true
theorem pts_imp {X : Cx} {e : List Expr} {t t' : TT} (h : PTs X e t) (hi : ∀ σ H Q, t' σ H Q → t σ H Q) : PTs X e t' := ⟨fun pins s σ H Q I q => h.run pins s σ H Q I (hi _ _ _ q)⟩
theorem sts_nil {X : Cx} {O : List Nat} : STs X O [] tYesP := ⟨pts_imp pts_nil fun σ H Q ⟨H0, A0, G, ρ, B, b, S, e, k⟩ => by cases e; exact k H (Same.refl H)⟩
theorem sts_one {X : Cx} {O : List Nat} {c : Expr} {f : PEnv → Option Bool} (h : ST X O c f) : STs X O [c] f := ⟨pts_one h.pt⟩
theorem WRp.step {K : PySem.W.Frag} {A A' : Addr → Prop} {H H' : Hp} {v : V} {d : D} (h : WRp K A H v d) (s : Same H H') (ha : ∀ a, A' a → A a ∨ H a = none) : WRp K A' H' v d := by
  rcases h with h | ⟨a, e, h⟩
  · exact .inl (h.step (fun a o e _ => s a o e) ha)
  · exact .inr ⟨a, e, h.step (fun a o e _ => s a o e) ha fun o e => s _ o e⟩
abbrev Gd (A0 : Addr → Prop) (a : Addr) : Addr → Prop := fun b => A0 b ∨ b = a
theorem gd_av {A0 : Addr → Prop} {B : Nat → Option Addr} {a b : Addr} (h : Av (Gd A0 a) B b) : Av A0 B b ∨ b = a := by
  rcases h with (h | h) | h
  · exact .inl (.inl h)
  · exact .inr h
  · exact .inl (.inr h)
section
variable {X : Cx} {O ts : List Nat} {st : Bool} {m : Md} {tg iter elt : Expr} {ifs : List Expr} {scope : Scope} {own : List (Str × Nat)} {it : XL} {g : XG} {t : PEnv → Option Bool} {f : Xp} {pos : Pos}
theorem lc_of (hm : m ≠ .w) (hts : ∀ i, ts.contains i = true → (own.map (·.2)).contains i = true) (hO : ∀ i ∈ own.map (·.2), i ∉ O) (σ : L2.St) (H : Hp) (Q : VK) (q : simT X.K O .f (xLc it g t f (own.map (·.2))) σ H Q) :
    tLc (simI X.K O st it) (simG X.K O O ts g) (simTT X.K O t) (simT X.K O m f) (own.map (·.2)) σ H Q := by
  obtain ⟨H0, A0, G, ρ, B, d, S, e, k⟩ := q
  obtain ⟨ds, eds, e⟩ := bind2 e
  obtain ⟨ys, eys, e⟩ := Option.map_eq_some_iff.mp e
  subst e
  refine ⟨H0, A0, G, ρ, B, ds, S, eds, fun J H1 gs s1 yl gr hz Dn hD => ?_⟩
  have hts' : ∀ i, ts.contains i = true → i ∉ O := fun i hi => hO i (by simpa using hts i hi)
  -- what stands between two turns
  refine ⟨fun i n Hc => n = ds.length - i ∧ i ≤ ds.length ∧ Same H1 Hc ∧ ∃ vs pre post, Hc Dn = some (.lst vs) ∧ RpL X.K (Av (Gd A0 Dn) B) Hc vs pre ∧ pre.length ≤ i ∧ lcL g t f (wipeP ρ (own.map (·.2))) (ds.drop i) = some post ∧ ys = pre ++ post,
    ⟨ds.length, rfl, Nat.zero_le _, same_upd hD, [], [], ys, upd_same, .nil, Nat.le_refl _, eys, rfl⟩, ?_⟩
  rintro i n Hc ⟨rfl, hi, sc, vs, pre, post, hDc, rpre, hpl, epost, rfl⟩
  have Sg : Sim X.K H0 (Gd A0 Dn) G O σ Hc ρ B := (S.mono s1).guard hD sc ⟨_, hDc, NT.lst⟩
  have gw : ∀ p ∈ gs, WRp X.K (Av (Gd A0 Dn) B) Hc p.1 p.2 := fun p hp => (gr p hp).w.step sc fun a z => by
    rcases gd_av z with z | z
    · exact .inl z
    · exact .inr (by rw [z]; exact hD)
  by_cases hlt : i < ds.length
  · have ed : ds[i]? = some ds[i] := List.getElem?_eq_getElem hlt
    rw [List.drop_eq_getElem_cons hlt] at epost
    obtain ⟨hgo, hy⟩ := yl.go _ Hc i _ Sg.tr gw ed
    simp only [lcL] at epost
    obtain ⟨ρ1, eρ1, epost⟩ := bind2 epost
    obtain ⟨b, eb, epost⟩ := bind2 epost
    refine .inr ⟨hgo, fun H' => i + 1 ≤ ds.length ∧ Same H1 H' ∧ ∃ vs pre' post', H' Dn = some (.lst vs) ∧ RpL X.K (Av (Gd A0 Dn) B) H' vs pre' ∧ pre'.length ≤ i + 1 ∧ lcL g t f (wipeP ρ (own.map (·.2))) (ds.drop (i + 1)) = some post' ∧ pre ++ post = pre' ++ post', fun H' hN => ?_, fun x H' hx => ?_⟩
    · obtain ⟨h1, h2, h3⟩ := hN
      exact ⟨ds.length - (i + 1), by omega, rfl, h1, h2, h3⟩
    · obtain ⟨s2, rx⟩ := hy x H' hx
      refine ⟨H0, Gd A0 Dn, G, wipeP ρ (own.map (·.2)), B, _, ρ1, (Sg.mono s2).wipe _ hO, rx, eρ1, fun σ2 c2 S2 => ?_⟩
      rw [restr_same Sg hts'] at S2
      refine ⟨wipe_eq c2 hts, H0, Gd A0 Dn, G, ρ1, B, b, S2, eb, fun H3 s3 => ?_⟩
      cases b with
      | true =>
        rw [if_pos rfl]
        rw [if_pos rfl] at epost
        obtain ⟨y, ey, epost⟩ := bind2 epost
        obtain ⟨zs, ezs, epost⟩ := bind2 epost
        cases epost
        refine ⟨H0, Gd A0 Dn, G, ρ1, B, y, S2.mono s3, ey, fun v H4 s4 r4 => ?_⟩
        have r4' := r4.toS (S2.mono s3).tr hm
        have s24 := (s2.trans s3).trans s4
        have avD : Av (Gd A0 Dn) B Dn := .inl (.inr rfl)
        have kp : ∀ a o, H4 a = some o → ¬ Av (Gd A0 Dn) B a → upd H4 Dn (.lst (vs ++ [v])) a = some o := fun a o e n => by
          rw [upd_ne (fun z => n (by rw [z]; exact avD))]
          exact e
        refine ⟨vs, s24 _ _ hDc, ?_, by omega, fun a o e => ?_, vs ++ [v], pre ++ [y], zs, upd_same, ?_, by simp; omega, ezs, by simp⟩
        · rw [rpre.length]
          have : (16777216 : Nat) = sizeLine := rfl
          omega
        · have hne : a ≠ Dn := fun z => by rw [z, hD] at e; cases e
          rw [upd_ne hne]
          exact s24 _ _ (sc _ _ e)
        · exact RpL.app (.one (r4'.step kp fun _ z => .inl z)) ((rpre.mono s24).step kp fun _ z => .inl z)
      | false =>
        rw [if_neg Bool.false_ne_true]
        rw [if_neg Bool.false_ne_true] at epost
        have s23 := s2.trans s3
        exact ⟨by omega, sc.trans s23, vs, pre, post, s23 _ _ hDc, rpre.mono s23, by omega, epost, rfl⟩
  · have e : i = ds.length := by omega
    subst e
    refine .inl ⟨yl.stop _ Hc Sg.tr gw, ?_⟩
    rw [List.drop_length] at epost
    cases epost
    rw [List.append_nil] at k
    have hHD : H Dn = none := s1.free hD
    refine k _ Hc (s1.trans sc) (.inl ⟨Dn, rfl, hHD, .lst hDc (rpre.anti fun a z => ?_)⟩)
    rcases z with z | z
    · rcases z with z | z
      · exact .inl (.inl z)
      · exact .inr z
    · exact .inl (.inr z)
abbrev InBlk (X : Cx) (scope : Scope) (P : Cx → Prop) : Prop := ∀ (s : Shared) (H : Hp) (C : Addr) (cl : List (Str × Addr)) (fp : List Addr), P (X.blk s H scope (compEnvC scope cl C X.env) fp)
theorem se_lc (hN : X.N.Nodup) (hi : SI X O st tg iter it) (ok : BlkOk X.N X.env.scope scope own) (hg : InBlk X scope fun Y => SG Y O O ts tg g) (ht : InBlk X scope fun Y => STs Y O ifs t) (he : InBlk X scope fun Y => SE Y O m elt f)
    (hm : m ≠ .w := by decide) (hts : ts.all (fun i => (own.map (·.2)).contains i) = true := by rfl) (hO : (own.map (·.2)).all (fun i => !O.contains i) = true := by rfl) (hc : X.calm = true := by rfl) (hs : ∀ x, foldedSetIterable iter X.env x = pure x := by intro _; rfl) :
    SE X O .f (.ListComp elt [⟨tg, iter, ifs, 0⟩] scope pos) (xLc it g t f (own.map (·.2))) :=
  ⟨pe_imp (pe_lc hc hN hi.pi ok (fun s H C cl fp => (hg s H C cl fp).pg) (fun s H C cl fp => (ht s H C cl fp).pts) (fun s H C cl fp => (he s H C cl fp).pe) hs)
    (lc_of hm (fun i hi => by simpa using List.all_eq_true.mp hts i (by simpa using hi)) (fun i hi => by simpa using List.all_eq_true.mp hO i hi))⟩
end
end Pm

namespace Pm
open PySem PySem.Spec PyProof.Rows L2

/-! ### statements -/
inductive Out where
  | nx (ρ : PEnv) | rt (d : D) | bk (ρ : PEnv) | ct (ρ : PEnv)
abbrev XS := PEnv → Option Out
def PostS (K : PySem.W.Frag) (H0 : Hp) (A0 : Addr → Prop) (G : List (V × D)) (Ob Oc O' : List Nat) (D : Ends) : Out → Prop
  | .nx ρ => ∀ σ H B, Sim K H0 A0 G O' σ H ρ B → D.nx σ H
  | .rt d => ∀ v H, Same H0 H → Rp K A0 H v d → D.rt v H
  | .bk ρ => ∀ σ H B, Sim K H0 A0 G Ob σ H ρ B → D.bk σ H
  | .ct ρ => ∀ σ H B, Sim K H0 A0 G Oc σ H ρ B → D.ct σ H
def simS (K : PySem.W.Frag) (O Ob Oc O' : List Nat) (g : XS) : TS := fun D σ H => ∃ H0 A0 G ρ B o, Sim K H0 A0 G O σ H ρ B ∧ g ρ = some o ∧ PostS K H0 A0 G Ob Oc O' D o
structure SS (X : Cx) (O Ob Oc O' : List Nat) (st : Stmt) (g : XS) : Prop where
  ps : PS X st (simS X.K O Ob Oc O' g)
structure SSs (X : Cx) (O Ob Oc O' : List Nat) (st : List Stmt) (g : XS) : Prop where
  pss : PSs X st (simS X.K O Ob Oc O' g)
def sNop : XS := fun ρ => some (.nx ρ)
def sSeq (g h : XS) : XS := fun ρ => (g ρ).bind fun o => match o with
  | .nx ρ' => h ρ'
  | o => some o
section
variable {X : Cx} {O O1 O2 Ob Oc O' : List Nat} {m ma mb : Md} {st : Stmt} {sts : List Stmt} {g h : XS} {e a b c : Expr} {f fa fb : Xp} {pos pos' : Pos}
theorem sub_of (h : O1.all (fun i => O.contains i) = true) : ∀ i ∈ O1, i ∈ O := fun i hi => by simpa using List.all_eq_true.mp h i hi
theorem SS.weak (s : SS X O1 Ob Oc O' st g) (h : O1.all (fun i => O.contains i) = true := by rfl) : SS X O Ob Oc O' st g := by
  refine ⟨ps_imp s.ps fun D σ H q => ?_⟩
  obtain ⟨H0, A0, G, ρ, B, o, S, e, k⟩ := q
  obtain ⟨B', S'⟩ := S.weak (sub_of h)
  exact ⟨H0, A0, G, ρ, B', o, S', e, k⟩
theorem SSs.weak (s : SSs X O1 Ob Oc O' sts g) (h : O1.all (fun i => O.contains i) = true := by rfl) : SSs X O Ob Oc O' sts g := by
  refine ⟨pss_imp s.pss fun D σ H q => ?_⟩
  obtain ⟨H0, A0, G, ρ, B, o, S, e, k⟩ := q
  obtain ⟨B', S'⟩ := S.weak (sub_of h)
  exact ⟨H0, A0, G, ρ, B', o, S', e, k⟩
/-- an empty block; the own slots may be fewer behind it -/
theorem ss_nil (h : O'.all (fun i => O.contains i) = true := by rfl) : SSs X O Ob Oc O' [] sNop := by
  refine ⟨pss_imp pss_nil fun D σ H q => ?_⟩
  obtain ⟨H0, A0, G, ρ, B, o, S, e, k⟩ := q
  cases e
  obtain ⟨B', S'⟩ := S.weak (sub_of h)
  exact k σ H B' S'
theorem ss_cons (h1 : SS X O Ob Oc O1 st g) (h2 : SSs X O1 Ob Oc O' sts h) : SSs X O Ob Oc O' (st :: sts) (sSeq g h) := by
  refine ⟨pss_imp (pss_cons h1.ps h2.pss) fun D σ H q => ?_⟩
  obtain ⟨H0, A0, G, ρ, B, o, S, e, k⟩ := q
  obtain ⟨o1, e1, e⟩ := bind2 e
  refine ⟨H0, A0, G, ρ, B, o1, S, e1, ?_⟩
  cases o1 with
  | nx ρ1 => exact fun σ1 H1 B1 S1 => ⟨H0, A0, G, ρ1, B1, o, S1, e, k⟩
  | rt d => cases e; exact k
  | bk ρ1 => cases e; exact k
  | ct ρ1 => cases e; exact k
theorem ss_last (h1 : SS X O Ob Oc O' st g) : SSs X O Ob Oc O' [st] g := ⟨pss_one h1.ps⟩
def sBrk : XS := fun ρ => some (.bk ρ)
def sCnt : XS := fun ρ => some (.ct ρ)
theorem ss_pass (h : O'.all (fun i => O.contains i) = true := by rfl) : SS X O Ob Oc O' (.Pass pos) sNop := by
  refine ⟨ps_imp ps_pass fun D σ H q => ?_⟩
  obtain ⟨H0, A0, G, ρ, B, o, S, e, k⟩ := q
  cases e
  obtain ⟨B', S'⟩ := S.weak (sub_of h)
  exact k σ H B' S'
theorem ss_break (h : Ob.all (fun i => O.contains i) = true := by rfl) : SS X O Ob Oc O' (.Break pos) sBrk := by
  refine ⟨ps_imp ps_break fun D σ H q => ?_⟩
  obtain ⟨H0, A0, G, ρ, B, o, S, e, k⟩ := q
  cases e
  obtain ⟨B', S'⟩ := S.weak (sub_of h)
  exact k σ H B' S'
theorem ss_cont (h : Oc.all (fun i => O.contains i) = true := by rfl) : SS X O Ob Oc O' (.Continue pos) sCnt := by
  refine ⟨ps_imp ps_continue fun D σ H q => ?_⟩
  obtain ⟨H0, A0, G, ρ, B, o, S, e, k⟩ := q
  cases e
  obtain ⟨B', S'⟩ := S.weak (sub_of h)
  exact k σ H B' S'
def sRet (f : Xp) : XS := fun ρ => (f ρ).map .rt
theorem ss_ret (he : SE X O m e f) (hm : m ≠ .w := by decide) : SS X O Ob Oc O' (.Return (some e) pos) (sRet f) := by
  refine ⟨ps_imp (ps_ret he.pe) fun D σ H q => ?_⟩
  obtain ⟨H0, A0, G, ρ, B, o, S, e, k⟩ := q
  obtain ⟨d, ed, e⟩ := Option.map_eq_some_iff.mp e
  subst e
  exact ⟨H0, A0, G, ρ, B, d, S, ed, fun v H' s r => k v H' (S.same.trans s) ((r.toS S.tr hm).anti fun a z => .inl z)⟩
theorem ss_retN : SS X O Ob Oc O' (.Return none pos) (sRet (xC .none)) := by
  refine ⟨ps_imp ps_retN fun D σ H q => ?_⟩
  obtain ⟨H0, A0, G, ρ, B, o, S, e, k⟩ := q
  cases e
  exact k .non H S.same .non
def sIf (c : PEnv → Option Bool) (g h : XS) : XS := fun ρ => (c ρ).bind fun b => if b then g ρ else h ρ
theorem ss_if {c : Expr} {tc : PEnv → Option Bool} {p q : List Stmt} (hc : ST X O c tc) (hp : SSs X O Ob Oc O' p g) (hq : SSs X O Ob Oc O' q h) : SS X O Ob Oc O' (.If c p q pos) (sIf tc g h) := by
  refine ⟨ps_imp (ps_if hc.pt hp.pss hq.pss) fun D σ H q => ?_⟩
  obtain ⟨H0, A0, G, ρ, B, o, S, e, k⟩ := q
  obtain ⟨b, eb, e⟩ := bind2 e
  refine ⟨H0, A0, G, ρ, B, b, S, eb, fun H1 s1 => ?_⟩
  cases b with
  | true => exact ⟨H0, A0, G, ρ, B, o, S.mono s1, e, k⟩
  | false => exact ⟨H0, A0, G, ρ, B, o, S.mono s1, e, k⟩

/-! ### a name takes a value -/
def sSet (i : Nat) (f : Xp) : XS := fun ρ => (f ρ).bind fun d => if i < ρ.length then some (.nx (ρ.set i (some d))) else none
theorem Sim.grow {K : PySem.W.Frag} {H0 H : Hp} {A0 : Addr → Prop} {G : List (V × D)} {σ : L2.St} {ρ : PEnv} {B : Nat → Option Addr} {i : Nat} (S : Sim K H0 A0 G (O.filter (· != i)) σ H ρ B) (h : ∀ d, ρ[i]? = some (some d) → isMut d = false) : Sim K H0 A0 G (i :: O) σ H ρ B := by
  refine ⟨S.same, S.a0, S.len, fun j a e => List.mem_cons_of_mem _ (List.mem_filter.mp (S.bo j a e)).1, S.inj, S.fr, fun j d hj e m => ?_, S.slot, S.gs⟩
  by_cases hji : j = i
  · subst hji
    rw [h d e] at m
    cases m
  · rcases List.mem_cons.mp hj with hj | hj
    · exact absurd hj hji
    · exact S.ob j d (List.mem_filter.mpr ⟨hj, by simpa using hji⟩) e m
theorem setf_of {D : Ends} {i : Nat} (σ : L2.St) (H : Hp) (q : simS X.K O Ob Oc (i :: O) (sSet i f) D σ H) : tAsg (simT X.K O .f f) (gName i) D σ H := by
  obtain ⟨H0, A0, G, ρ, B, o, S, e, k⟩ := q
  obtain ⟨d, ed, e⟩ := bind2 e
  split at e
  · rename_i hl
    cases e
    refine ⟨H0, A0, G, ρ, B, d, S, ed, fun v H1 s1 r1 => ?_⟩
    rcases r1 with ⟨a, rfl, hn, r1⟩ | ⟨r1, nm⟩
    · obtain ⟨B', S'⟩ := S.setF s1 hn r1 hl
      exact k _ H1 B' S'
    · have S' := (S.mono s1).setS r1 hl
      refine k _ H1 _ (S'.grow fun d' e' => ?_)
      rw [List.getElem?_set_self hl] at e'
      cases e'
      exact nm
  · cases e
theorem ss_setF (i : Nat) {x : Str} {O' : List Nat} (hN : X.N.Nodup) (he : SE X O .f e f) (hi : X.N[i]? = some x := by rfl) (hx : Loc X.env.scope x := by first | exact Or.inl rfl | exact Or.inr rfl) (hs : swapsWith e (some (.Name x pos')) pos.line X.env = pure false := by rfl) (hf : X.fn x = true ∨ X.env.scope.names.lookup x = some .local := by first | exact .inl rfl | exact .inr rfl)
    (hO : i :: O = O' := by rfl) : SS X O Ob Oc O' (.Assign [.Name x pos'] e pos) (sSet i f) := by
  subst hO
  exact ⟨ps_imp (ps_set hN hi hx he.pe hs hf) fun D σ H q => setf_of σ H q⟩
theorem ss_setS (i : Nat) {x : Str} (hN : X.N.Nodup) (he : SE X O m e f) (hm : m ≠ .w := by decide) (hi : X.N[i]? = some x := by rfl) (hx : Loc X.env.scope x := by first | exact Or.inl rfl | exact Or.inr rfl) (hs : swapsWith e (some (.Name x pos')) pos.line X.env = pure false := by rfl) (hf : X.fn x = true ∨ X.env.scope.names.lookup x = some .local := by first | exact .inl rfl | exact .inr rfl)
    (hO : O.filter (· != i) = O' := by rfl) : SS X O Ob Oc O' (.Assign [.Name x pos'] e pos) (sSet i f) := by
  refine ⟨ps_imp (ps_set hN hi hx he.pe hs hf) fun D σ H q => ?_⟩
  obtain ⟨H0, A0, G, ρ, B, o, S, e, k⟩ := q
  obtain ⟨d, ed, e⟩ := bind2 e
  split at e
  · rename_i hl
    cases e
    refine ⟨H0, A0, G, ρ, B, d, S, ed, fun v H1 s1 r1 => ?_⟩
    have S' := (S.mono s1).setS ((r1.toS S.tr hm)) hl
    rw [hO] at S'
    exact k _ H1 _ S'
  · cases e
/-- x = [..] -/
theorem ss_setLc (i : Nat) {y : Str} {py : Pos} {ts : List Nat} {sf : Bool} {tg iter elt : Expr} {ifs : List Expr} {scope : Scope} {own : List (Str × Nat)} {it : XL} {gg : D → PEnv → Option PEnv} {t : PEnv → Option Bool} {spos : Pos} {O' : List Nat}
    (hN : X.N.Nodup) (hi : SI X O sf tg iter it) (ok : BlkOk X.N X.env.scope scope own) (hg : InBlk X scope fun Y => SG Y O O ts tg gg) (ht : InBlk X scope fun Y => STs Y O ifs t) (he : InBlk X scope fun Y => SE Y O m elt f)
    (hm : m ≠ .w := by decide) (hy : X.N[i]? = some y := by rfl) (hyl : X.env.scope.names.lookup y = some .local := by rfl) (hsw : swapsWith (.ListComp elt [⟨tg, iter, ifs, 0⟩] scope pos) (some (.Name y py)) spos.line X.env = pure true := by exact sw_true rfl rfl rfl (by decide +kernel))
    (hts : ts.all (fun i => (own.map (·.2)).contains i) = true := by rfl) (hO : (own.map (·.2)).all (fun i => !O.contains i) = true := by rfl) (hc : X.calm = true := by rfl) (hs : ∀ x, foldedSetIterable iter X.env x = pure x := by intro _; rfl) (hO' : i :: O = O' := by rfl) :
    SS X O Ob Oc O' (.Assign [.Name y py] (.ListComp elt [⟨tg, iter, ifs, 0⟩] scope pos) spos) (sSet i (xLc it gg t f (own.map (·.2)))) := by
  subst hO'
  refine ⟨ps_imp (ps_setLc (wi := simI X.K O sf it) (g := simG X.K O O ts gg) (tt := simTT X.K O t) (te := simT X.K O m f) hc hN hy hyl hsw hi.pi ok (fun s H C cl fp => (hg s H C cl fp).pg) (fun s H C cl fp => (ht s H C cl fp).pts) (fun s H C cl fp => (he s H C cl fp).pe) hs) fun D σ H q => ?_⟩
  exact lc_of hm (fun i hi => by simpa using List.all_eq_true.mp hts i (by simpa using hi)) (fun i hi => by simpa using List.all_eq_true.mp hO i hi) σ H _ (setf_of σ H q)
/-- a, b = e -/
def sTgt (g : D → PEnv → Option PEnv) (f : Xp) : XS := fun ρ => (f ρ).bind fun d => (g d ρ).map .nx
theorem ss_tgt {tg : Expr} {ts : List Nat} {gg : D → PEnv → Option PEnv} (he : SE X O m e f) (hg : SG X O O' ts tg gg) (hm : m ≠ .w := by decide) (hs : swapsWithSole [tg] e pos.line X.env = pure false := by rfl) (hw : swappedStores [tg] e X.env = pure none := by rfl)
    (h1 : (assignEach [tg] X.env).map (·.2) = [assign tg X.env] := by rfl) : SS X O Ob Oc O' (.Assign [tg] e pos) (sTgt gg f) := by
  refine ⟨ps_imp (ps_asg he.pe hg.pg hs hw h1) fun D σ H q => ?_⟩
  obtain ⟨H0, A0, G, ρ, B, o, S, e, k⟩ := q
  obtain ⟨d, ed, e⟩ := bind2 e
  obtain ⟨ρ', eρ, e⟩ := Option.map_eq_some_iff.mp e
  subst e
  refine ⟨H0, A0, G, ρ, B, d, S, ed, fun v H1 s1 r1 => ?_⟩
  exact ⟨H0, A0, G, ρ, B, d, ρ', S.mono s1, (r1.toS S.tr hm), eρ, fun σ' _ S' => k σ' H1 _ S'⟩
/-- x op= e -/
def sAug (i : Nat) (g : D → D → Option D) (f : Xp) : XS := fun ρ => (xVar i ρ).bind fun x => (f ρ).bind fun y => (g x y).bind fun z => if i < ρ.length then some (.nx (ρ.set i (some z))) else none
theorem ss_aug (i : Nat) {x : Str} {op : Operator} {g : D → D → Option D} (hN : X.N.Nodup) (ho : OpR X (inplaceOp op) (rD X.K .f g)) (he : SE X O m e f) (hni : O.contains i = false := by rfl) (hi : X.N[i]? = some x := by rfl) (hx : Loc X.env.scope x := by first | exact Or.inl rfl | exact Or.inr rfl) (hf : X.fn x = true ∨ X.env.scope.names.lookup x = some .local := by first | exact .inl rfl | exact .inr rfl) :
    SS X O Ob Oc (O.filter (· != i)) (.AugAssign (.Name x pos') op e pos) (sAug i g f) := by
  refine ⟨ps_imp (ps_aug hN hi hx he.pe (ti := rD X.K .f g) ho hf) fun D σ H q => ?_⟩
  obtain ⟨H0, A0, G, ρ, B, o, S, e, k⟩ := q
  obtain ⟨d, ed, e⟩ := bind2 e
  obtain ⟨y, ey, e⟩ := bind2 e
  obtain ⟨z, ez, e⟩ := bind2 e
  split at e
  · rename_i hl
    cases e
    rcases S.slot i d (getD_some ed) with ⟨a, h1, _, _⟩ | ⟨_, v, h2, h3⟩
    · have := S.bo i a h1
      simp at hni
      exact absurd this hni
    refine ⟨v, h2, H0, A0, G, ρ, B, y, S, ey, fun u H1 s1 r1 => ⟨Av A0 B, d, y, z, (S.mono s1).tr, .inl (h3.mono s1), r1.toW, ez, fun w H2 s2 r2 => ?_⟩⟩
    have S2 := S.mono (s1.trans s2)
    exact k _ H2 _ (S2.setS (r2.toS (S.mono s1).tr (by decide)) hl)
  · cases e

/-! ### an own list changes -/
def sApp (i : Nat) (f : Xp) : XS := fun ρ => (xVar i ρ).bind fun x => (f ρ).bind fun y => match x with
  | .list xs => if xs.length < 16777216 ∧ i < ρ.length then some (.nx (ρ.set i (some (.list (xs ++ [y]))))) else none
  | _ => none
theorem own_of {K : PySem.W.Frag} {H0 H : Hp} {A0 : Addr → Prop} {G : List (V × D)} {σ : L2.St} {ρ : PEnv} {B : Nat → Option Addr} {i : Nat} {xs : List D} (S : Sim K H0 A0 G O σ H ρ B) (hi : O.contains i = true) (e : xVar i ρ = some (.list xs)) : ∃ a vs, B i = some a ∧ σ[i]? = some (some (.ref a)) ∧ H a = some (.lst vs) ∧ RpL K (Av A0 B) H vs xs := by
  obtain ⟨a, h1, h2, h3⟩ := S.ob i _ (by simpa using hi) (getD_some e) rfl
  cases h3 with
  | lst h r => exact ⟨a, _, h1, h2, h, r⟩
theorem upd_lst {K : PySem.W.Frag} {H : Hp} {A : Addr → Prop} {a : Addr} {vs : List V} {ds : List D} (ha : A a) (r : RpL K A H vs ds) : Tp K A (upd H a (.lst vs)) a (.list ds) := by
  refine .lst upd_same (r.step (fun b o e n => ?_) fun _ z => .inl z)
  rw [upd_ne (fun z => n (by rw [z]; exact ha))]
  exact e
theorem ss_app (i : Nat) {x : Str} {apos p1 cpos : Pos} (he : SE X O m e f) (hm : m ≠ .w := by decide) (hO : O.contains i = true := by rfl) (hN : X.N[i]? = some x := by rfl) (hv : Vis X.env.scope x := by first | exact Or.inl rfl | exact Or.inr (Or.inl rfl) | exact Or.inr (Or.inr rfl))
    (hd : (x == ("__debug__" : Str)) = false := by decide) (hcd : (x == ("__classdict__" : Str)) = false := by decide) (hbase : attributeBase (.Name x p1) "append" X.env (eval (.Name x p1) X.env) = eval (.Name x p1) X.env := by rfl)
    (hfew : ((backTo cpos (starEach (e :: []) X.env)).all (fun x => !x.1) && (backToKw cpos (keywordEach [] X.env)).all (fun x => x.1.isSome) && decide ((e :: ([] : List Expr)).length + ([] : List Keyword).length + (if ([] : List Keyword).isEmpty then 0 else 1) < 30)) = true := by rfl)
    (hline : (apos.endLine == cpos.line) = true := by rfl) (hs : starEach (e :: []) X.env = (false, eval e X.env) :: starEach [] X.env := by rfl) (hplain : (backTo cpos (starEach [] X.env)).any (·.1) = false := by rfl)
    (hsw : swapsWith (.Call (.Attribute (.Name x p1) "append" apos) [e] [] cpos) none pos.line X.env = pure false := by rfl) : SS X O Ob Oc O (.Expr (.Call (.Attribute (.Name x p1) "append" apos) [e] [] cpos) pos) (sApp i f) := by
  refine ⟨ps_imp (ps_expr (pe_bm PySem.F.plainAttrs_list PySem.F.slot_list_append PySem.F.type_list_append mt_append (pe_var hN hv hd hcd) (pa_cons he.pe pa_nil hs) hbase hfew hline hs hplain) hsw) fun D σ H q => ?_⟩
  obtain ⟨H0, A0, G, ρ, B, o, S, e, k⟩ := q
  obtain ⟨d, ed, e⟩ := bind2 e
  obtain ⟨y, ey, e⟩ := bind2 e
  split at e
  · split at e
    · rename_i hz
      cases e
      obtain ⟨a, vs, hB, hσ, ha, ra⟩ := own_of S hO ed
      refine ⟨.ref a, hσ, .inl ⟨rfl, _, .of ha⟩, H0, A0, G, ρ, B, y, S, ey, fun v H1 s1 r1 => ?_⟩
      have S1 := S.mono s1
      refine ⟨a, vs, v, rfl, rfl, s1 _ _ ha, by rw [ra.length]; exact hz.1, ?_⟩
      have av : Av A0 B a := .inr ⟨i, hB⟩
      exact k _ _ B (S1.write hB hσ (upd_lst av (RpL.app (.one (r1.toS S.tr hm)) (ra.mono s1))) hz.2)
    · cases e
  · cases e
def sExt (i : Nat) (f : Xp) : XS := fun ρ => (xVar i ρ).bind fun x => (f ρ).bind fun y => match x, y with
  | .list xs, .list ys => if xs.length + ys.length ≤ 16777216 ∧ i < ρ.length then some (.nx (ρ.set i (some (.list (xs ++ ys))))) else none
  | _, _ => none
theorem ss_ext (i : Nat) {x : Str} {apos p1 cpos : Pos} (he : SE X O m e f) (hO : O.contains i = true := by rfl) (hN : X.N[i]? = some x := by rfl) (hv : Vis X.env.scope x := by first | exact Or.inl rfl | exact Or.inr (Or.inl rfl) | exact Or.inr (Or.inr rfl))
    (hd : (x == ("__debug__" : Str)) = false := by decide) (hcd : (x == ("__classdict__" : Str)) = false := by decide) (hbase : attributeBase (.Name x p1) "extend" X.env (eval (.Name x p1) X.env) = eval (.Name x p1) X.env := by rfl)
    (hfew : ((backTo cpos (starEach (e :: []) X.env)).all (fun x => !x.1) && (backToKw cpos (keywordEach [] X.env)).all (fun x => x.1.isSome) && decide ((e :: ([] : List Expr)).length + ([] : List Keyword).length + (if ([] : List Keyword).isEmpty then 0 else 1) < 30)) = true := by rfl)
    (hline : (apos.endLine == cpos.line) = true := by rfl) (hs : starEach (e :: []) X.env = (false, eval e X.env) :: starEach [] X.env := by rfl) (hplain : (backTo cpos (starEach [] X.env)).any (·.1) = false := by rfl)
    (hsw : swapsWith (.Call (.Attribute (.Name x p1) "extend" apos) [e] [] cpos) none pos.line X.env = pure false := by rfl) : SS X O Ob Oc O (.Expr (.Call (.Attribute (.Name x p1) "extend" apos) [e] [] cpos) pos) (sExt i f) := by
  refine ⟨ps_imp (ps_expr (pe_bm PySem.F.plainAttrs_list PySem.F.slot_list_extend PySem.F.type_list_extend mt_extend (pe_var hN hv hd hcd) (pa_cons he.pe pa_nil hs) hbase hfew hline hs hplain) hsw) fun D σ H q => ?_⟩
  obtain ⟨H0, A0, G, ρ, B, o, S, e, k⟩ := q
  obtain ⟨d, ed, e⟩ := bind2 e
  obtain ⟨y, ey, e⟩ := bind2 e
  split at e
  · split at e
    · rename_i hz
      cases e
      obtain ⟨a, vs, hB, hσ, ha, ra⟩ := own_of S hO ed
      refine ⟨.ref a, hσ, .inl ⟨rfl, _, .of ha⟩, H0, A0, G, ρ, B, _, S, ey, fun v H1 s1 r1 => ?_⟩
      have S1 := S.mono s1
      obtain ⟨b, zs, rfl, hb, rb⟩ := r1.toW.lst
      refine ⟨a, b, vs, zs, rfl, rfl, s1 _ _ ha, hb, by rw [ra.length, rb.length]; exact hz.1, ?_⟩
      have av : Av A0 B a := .inr ⟨i, hB⟩
      exact k _ _ B (S1.write hB hσ (upd_lst av (RpL.app rb (ra.mono s1))) hz.2)
    · cases e
  · cases e
/-- x[j] = e -/
def sPut (i : Nat) (fj f : Xp) : XS := fun ρ => (f ρ).bind fun y => (xVar i ρ).bind fun x => (fj ρ).bind fun j => match x, j with
  | .list xs, .int j => (ixN xs.length j).bind fun n => if i < ρ.length then some (.nx (ρ.set i (some (.list (xs.set n y))))) else none
  | _, _ => none
theorem ss_put (i : Nat) {x : Str} {p1 p2 : Pos} {j : Expr} {fj : Xp} (he : SE X O m e f) (hj : SE X O mb j fj) (hm : m ≠ .w := by decide) (hO : O.contains i = true := by rfl) (hN : X.N[i]? = some x := by rfl) (hv : Vis X.env.scope x := by first | exact Or.inl rfl | exact Or.inr (Or.inl rfl) | exact Or.inr (Or.inr rfl))
    (hd : (x == ("__debug__" : Str)) = false := by decide) (hcd : (x == ("__classdict__" : Str)) = false := by decide)
    (ha : ∀ v, assign (.Subscript (.Name x p1) j p2) X.env v = (do
      let ov ← holding [v] (eval (.Name x p1) X.env)
      let iv ← holding [v, ov] (eval j X.env)
      standAt p2
      holding [v, ov, iv] (setItem ov iv v)
      release [v, ov, iv] []) := by intro _; rfl)
    (hs : swapsWithSole [.Subscript (.Name x p1) j p2] e pos.line X.env = pure false := by rfl) (hw : swappedStores [.Subscript (.Name x p1) j p2] e X.env = pure none := by rfl)
    (h1 : (assignEach [.Subscript (.Name x p1) j p2] X.env).map (·.2) = [assign (.Subscript (.Name x p1) j p2) X.env] := by rfl) : SS X O Ob Oc O (.Assign [.Subscript (.Name x p1) j p2] e pos) (sPut i fj f) := by
  refine ⟨ps_imp (ps_asg he.pe (pg_sub (pe_var hN hv hd hcd) hj.pe set_list ha) hs hw h1) fun D σ H q => ?_⟩
  obtain ⟨H0, A0, G, ρ, B, o, S, e, k⟩ := q
  obtain ⟨y, ey, e⟩ := bind2 e
  obtain ⟨d, ed, e⟩ := bind2 e
  obtain ⟨z, ez, e⟩ := bind2 e
  split at e
  · obtain ⟨n, en, e⟩ := bind2 e
    split at e
    · rename_i hz
      cases e
      obtain ⟨a, vs, hB, hσ, ha, ra⟩ := own_of S hO ed
      refine ⟨H0, A0, G, ρ, B, y, S, ey, fun v H1 s1 r1 => ⟨.ref a, hσ, H0, A0, G, ρ, B, _, S.mono s1, ez, fun u H2 s2 r2 => ?_⟩⟩
      have s12 := s1.trans s2
      have S1 := S.mono s12
      refine ⟨a, vs, _, n, rfl, r2.toW.int, s12 _ _ ha, by rw [ra.length]; exact en, ?_⟩
      have av : Av A0 B a := .inr ⟨i, hB⟩
      exact k _ _ B (S1.write hB hσ (upd_lst av (RpL.set ((r1.toS S.tr hm).mono s2) n (ra.mono s12))) hz)
    · cases e
  · cases e

/-! ### loops -/
def forL (g : D → PEnv → Option PEnv) (b : XS) : List D → XS
  | [], ρ => some (.nx ρ)
  | d :: ds, ρ => (g d ρ).bind fun ρ1 => (b ρ1).bind fun o => match o with
    | .nx ρ2 => forL g b ds ρ2
    | .ct ρ2 => forL g b ds ρ2
    | .bk ρ2 => some (.nx ρ2)
    | .rt d => some (.rt d)
def sFor (it : XL) (g : D → PEnv → Option PEnv) (b : XS) : XS := fun ρ => (it ρ).bind fun ds => forL g b ds ρ
theorem ss_for {tg iter : Expr} {body : List Stmt} {ts : List Nat} {it : XL} {gg : D → PEnv → Option PEnv} (hi : SI X O true tg iter it) (hg : SG X O O1 ts tg gg) (hb : SSs X O1 O' O O body g)
    (hsub : O'.all (fun i => O.contains i) = true := by rfl) (hp : PassesOwn (model X.prog X.w) X.A X.env X.xe := by exact PassesOwn.never) (hc : X.calm = true := by rfl) (hs : ∀ x, foldedSetIterable iter X.env x = pure x := by intro _; rfl) : SS X O Ob Oc O' (.For tg iter body [] pos) (sFor it gg g) := by
  refine ⟨ps_imp (ps_for hp hc hi.pi hg.pg hb.pss hs) fun D σ H q => ?_⟩
  obtain ⟨H0, A0, G, ρ, B, o, S, e, k⟩ := q
  obtain ⟨ds, eds, e⟩ := bind2 e
  refine ⟨H0, A0, G, ρ, B, ds, S, eds, fun J H1 gs s1 yl gr hz => ?_⟩
  have Sg := (S.mono s1).ghost (G' := gs) fun p hp => gr p hp
  refine ⟨fun i n σi Hi => n = ds.length - i ∧ i ≤ ds.length ∧ ∃ ρi Bi, Sim X.K H0 A0 (gs ++ G) O σi Hi ρi Bi ∧ forL gg g (ds.drop i) ρi = some o, ⟨ds.length, rfl, Nat.zero_le _, ρ, B, Sg, e⟩, ?_⟩
  rintro i n σi Hi ⟨rfl, hi, ρi, Bi, Si, ei⟩
  have gw : ∀ p ∈ gs, WRp X.K (Av A0 Bi) Hi p.1 p.2 := fun p hp => .inl (Si.gs p (List.mem_append_left _ hp))
  by_cases hlt : i < ds.length
  · have ed : ds[i]? = some ds[i] := List.getElem?_eq_getElem hlt
    rw [List.drop_eq_getElem_cons hlt] at ei
    simp only [forL] at ei
    obtain ⟨ρ1, eρ1, ei⟩ := bind2 ei
    obtain ⟨o1, eo1, ei⟩ := bind2 ei
    obtain ⟨hgo, hy⟩ := yl.go _ Hi i _ Si.tr gw ed
    refine .inr ⟨hgo, fun σ' H' => i + 1 ≤ ds.length ∧ ∃ ρ' B', Sim X.K H0 A0 (gs ++ G) O σ' H' ρ' B' ∧ forL gg g (ds.drop (i + 1)) ρ' = some o, fun σ' H' hN => ⟨ds.length - (i + 1), by omega, rfl, hN.1, hN.2⟩, fun x H' hx => ?_⟩
    obtain ⟨s2, rx⟩ := hy x H' hx
    refine ⟨H0, A0, gs ++ G, ρi, Bi, _, ρ1, Si.mono s2, rx, eρ1, fun σ2 _ S2 => ⟨H0, A0, gs ++ G, ρ1, _, o1, S2, eo1, ?_⟩⟩
    cases o1 with
    | nx ρ2 => exact fun σ3 H3 B3 S3 => ⟨by omega, ρ2, B3, S3, ei⟩
    | ct ρ2 => exact fun σ3 H3 B3 S3 => ⟨by omega, ρ2, B3, S3, ei⟩
    | bk ρ2 => cases ei; exact fun σ3 H3 B3 S3 => k σ3 H3 B3 S3.unghost
    | rt d => cases ei; exact k
  · have e' : i = ds.length := by omega
    subst e'
    rw [List.drop_length] at ei
    cases ei
    obtain ⟨B', S'⟩ := Si.unghost.weak (sub_of hsub)
    exact .inl ⟨yl.stop _ Hi Si.tr gw, k σi Hi B' S'⟩
def whileF (c : PEnv → Option Bool) (b : XS) : Nat → XS
  | 0, _ => none
  | n + 1, ρ => (c ρ).bind fun t => if t then (b ρ).bind fun o => match o with
      | .nx ρ2 => whileF c b n ρ2
      | .ct ρ2 => whileF c b n ρ2
      | .bk ρ2 => some (.nx ρ2)
      | .rt d => some (.rt d)
    else some (.nx ρ)
/-- at most so many turns -/
def fuelN : Nat := 2 ^ 2000
def sWhile (c : PEnv → Option Bool) (b : XS) : XS := whileF c b fuelN
theorem ss_while {c : Expr} {body : List Stmt} {tc : PEnv → Option Bool} (hc : ST X O c tc) (hb : SSs X O O' O O body g) (hsub : O'.all (fun i => O.contains i) = true := by rfl) (hp : PassesOwn (model X.prog X.w) X.A X.env X.xe := by exact PassesOwn.never) : SS X O Ob Oc O' (.While c body [] pos) (sWhile tc g) := by
  refine ⟨ps_imp (ps_while hp hc.pt hb.pss) fun D σ H q => ?_⟩
  obtain ⟨H0, A0, G, ρ, B, o, S, e, k⟩ := q
  refine ⟨fun n σi Hi => ∃ ρi Bi, Sim X.K H0 A0 G O σi Hi ρi Bi ∧ whileF tc g n ρi = some o, ⟨fuelN, ρ, B, S, e⟩, ?_⟩
  rintro n σi Hi ⟨ρi, Bi, Si, ei⟩
  cases n with
  | zero => cases ei
  | succ n =>
    simp only [whileF] at ei
    obtain ⟨t, et, ei⟩ := bind2 ei
    refine ⟨H0, A0, G, ρi, Bi, t, Si, et, fun H1 s1 => ?_⟩
    cases t with
    | true =>
      rw [if_pos rfl] at ei ⊢
      obtain ⟨o1, eo1, ei⟩ := bind2 ei
      refine ⟨fun σ' H' => ∃ ρ' B', Sim X.K H0 A0 G O σ' H' ρ' B' ∧ whileF tc g n ρ' = some o, fun σ' H' hN => ⟨n, Nat.lt_succ_self _, hN⟩, H0, A0, G, ρi, Bi, o1, Si.mono s1, eo1, ?_⟩
      cases o1 with
      | nx ρ2 => exact fun σ3 H3 B3 S3 => ⟨ρ2, B3, S3, ei⟩
      | ct ρ2 => exact fun σ3 H3 B3 S3 => ⟨ρ2, B3, S3, ei⟩
      | bk ρ2 => cases ei; exact k
      | rt d => cases ei; exact k
    | false =>
      rw [if_neg Bool.false_ne_true] at ei ⊢
      cases ei
      obtain ⟨B', S'⟩ := (Si.mono s1).weak (sub_of hsub)
      exact k σi H1 B' S'
end

/-! ### a def's body -/
def runD (n N : Nat) (g : XS) : List D → Option D := fun ds => (g (ds.map some ++ List.replicate (N - n) none)).bind fun o => match o with
  | .nx _ => some .none
  | .rt d => some d
  | _ => none
theorem sim_start {K : PySem.W.Frag} {A : Addr → Prop} {H : Hp} {vs : List V} {ds : List D} {N : List Str} {n : Nat} (t : Tr A H) (r : RpL K A H vs ds) (hn : vs.length = n) : Sim K H A [] [] (start N vs) H (ds.map some ++ List.replicate (N.length - n) none) (fun _ => none) := by
  refine ⟨Same.refl H, t, ?_, fun i a e => (nomatch e), fun i j a e => (nomatch e), fun i a e => (nomatch e), fun i d hi => (nomatch hi), fun i d e => ?_, fun p hp => (nomatch hp)⟩
  · unfold L2.start
    simp [r.length, hn.symm]
  · refine .inr ⟨rfl, ?_⟩
    by_cases hi : i < ds.length
    · rw [List.getElem?_append_left (by simpa using hi), List.getElem?_map] at e
      rw [List.getElem?_eq_getElem hi] at e
      cases e
      obtain ⟨v, ev, rv⟩ := r.get (List.getElem?_eq_getElem hi)
      refine ⟨v, ?_, rv.anti fun a z => ?_⟩
      · unfold L2.start
        rw [List.getElem?_append_left (by rw [List.length_map, r.length]; exact hi), List.getElem?_map, ev]
        rfl
      · rcases z with z | ⟨j, z⟩
        · exact z
        · cases z
    · rw [List.getElem?_append_right (by simpa using hi), List.getElem?_replicate] at e
      split at e <;> cases e
theorem fn_ok {P : Program} {w : World} {K : PySem.W.Frag} {mg : Str → Option Value} {base : Heap} {x qual : Str} {st : Stmt} {f : Addr} {fd : FuncData} {N ps : List Str} {k : Nat} {O' : List Nat} {g : XS} (F : Fun K x qual st f fd) (S : FnScope N ps (defScope st))
    (hb : ∀ (cdv : Value) (A : Around) (outer : List Env) (s : Shared) (H : Hp) (E : XK), Room k (A.deeper (envOfC qual (defScope st) s.heap.objs.size f cdv)) → SSs (cxOf CX0 P w K mg base N qual (defScope st) f cdv A outer s H E).nox [] [] [] O' (defBody st) g) :
    FnOk P w K mg base CX0 (k + 1) f fd ps (spD K ps.length (runD ps.length N.length g)) := by
  refine F.ok S (fun vs H Q E h => ?_) (fun cdv A outer s H vs Q E hr h => ?_)
  · obtain ⟨A, ds, d, t, hn, _⟩ := h
    exact hn
  · obtain ⟨A', ds, d, t, hn, r, e, q⟩ := h
    obtain ⟨o, eo, e⟩ := bind2 e
    refine ⟨_, (hb cdv A outer s H E hr).pss, H, A', [], _, fun _ => none, o, sim_start t r hn, eo, ?_⟩
    cases o with
    | nx ρ => cases e; exact fun σ' H' B' S' => q .non H' S'.same .non
    | rt d' => cases e; exact fun v H' s' r' => q v H' s' r'
    | bk ρ => cases e
    | ct ρ => cases e
theorem def_ok {P : Program} {w : World} {K : PySem.W.Frag} {mg : Str → Option Value} {base : Heap} {x : Str} {f : Addr} {fd : FuncData} {ps : List Str} {k : Nat} {F : List D → Option D} (h : FnOk P w K mg base CX0 k f fd ps (spD K ps.length F)) (hm : mg x = some (.ref f)) (kp : PySem.W.keepIn K (.ref f) = true) (hb : Binds K fd ps []) : Def P w K mg base k x ps F := ⟨⟨f, fd, h, hm, kp, hb⟩⟩
end Pm

namespace Pm
open PySem PySem.Spec PyProof.Rows L2

/-! ### several names at once -/
def oAdd' : D → D → Option D
  | .int a, .int b => some (.int (a + b))
  | _, _ => none
section
variable {K : PySem.W.Frag} {A0 A : Addr → Prop} {H0 H H' : Hp} {G : List (V × D)} {O : List Nat} {σ : L2.St} {ρ : PEnv} {B : Nat → Option Addr} {v : V} {d : D}
/-- a guarded cell becomes a slot's own -/
theorem Sim.adopt (S : Sim K H0 (Gd A0 a) G O σ H ρ B) {i : Nat} (na : ¬ A0 a) (h0 : H0 a = none) (r : Tp K (Av (Gd A0 a) B) H a d) (hi : i < ρ.length) :
    Sim K H0 A0 G (i :: O) (σ.set i (some (.ref a))) H (ρ.set i (some d)) (fun j => if j = i then some a else B j) := by
  have hiσ : i < σ.length := by rw [← S.len]; exact hi
  have nb : ∀ j, B j ≠ some a := fun j z => (S.fr j a z).2.1 (.inr rfl)
  have sub : ∀ j b, (if j = i then some a else B j) = some b → (j = i ∧ b = a) ∨ (j ≠ i ∧ B j = some b) := fun j b e => by
    by_cases hj : j = i
    · simp [hj] at e; exact .inl ⟨hj, e.symm⟩
    · exact .inr ⟨hj, by simpa [hj] using e⟩
  have an : ∀ b, Av A0 (fun j => if j = i then some a else B j) b → Av (Gd A0 a) B b := fun b z => by
    rcases z with z | ⟨j, z⟩
    · exact .inl (.inl z)
    · rcases sub j b z with ⟨_, q⟩ | ⟨_, q⟩
      · exact .inl (.inr q)
      · exact .inr ⟨j, q⟩
  have ans : ∀ b, Av A0 (fun j => if j = i then some a else B j) b → Av (Gd A0 a) B b ∨ H b = none := fun b z => .inl (an b z)
  refine ⟨S.same, fun b z => S.a0 b (.inl z), by simp [S.len], fun j b e => ?_, fun j k b e e' => ?_, fun j b e => ?_, fun j d' hj e m => ?_, fun j d' e => ?_, fun p hp => (S.gs p hp).anti an⟩
  · rcases sub j b e with ⟨q, _⟩ | ⟨_, q⟩
    · rw [q]; exact List.mem_cons_self
    · exact List.mem_cons_of_mem _ (S.bo j b q)
  · rcases sub j b e with ⟨q, q'⟩ | ⟨q, q'⟩
    · rcases sub k b e' with ⟨p, p'⟩ | ⟨p, p'⟩
      · rw [q, p]
      · rw [q'] at p'; exact absurd p' (nb k)
    · rcases sub k b e' with ⟨p, p'⟩ | ⟨p, p'⟩
      · rw [p'] at q'; exact absurd q' (nb j)
      · exact S.inj j k b q' p'
  · rcases sub j b e with ⟨q, q'⟩ | ⟨q, q'⟩
    · rw [q']
      exact ⟨h0, na, r.some⟩
    · obtain ⟨h1, h2, h3⟩ := S.fr j b q'
      exact ⟨h1, fun z => h2 (.inl z), h3⟩
  · by_cases hne : j = i
    · subst hne
      rw [List.getElem?_set_self hi] at e
      cases e
      exact ⟨a, by simp, by rw [List.getElem?_set_self hiσ], r.step (fun _ _ q _ => q) ans fun _ q => q⟩
    · rw [List.getElem?_set_ne (Ne.symm hne)] at e
      rw [List.getElem?_set_ne (Ne.symm hne)]
      rcases List.mem_cons.mp hj with hj | hj
      · exact absurd hj hne
      obtain ⟨b, h1, h2, h3⟩ := S.ob j d' hj e m
      exact ⟨b, by simp [hne, h1], h2, h3.step (fun _ _ q _ => q) ans fun _ q => q⟩
  · by_cases hne : j = i
    · subst hne
      rw [List.getElem?_set_self hi] at e
      cases e
      exact .inl ⟨a, by simp, by rw [List.getElem?_set_self hiσ], r.step (fun _ _ q _ => q) ans fun _ q => q⟩
    · rw [List.getElem?_set_ne (Ne.symm hne)] at e
      rw [List.getElem?_set_ne (Ne.symm hne)]
      rcases S.slot j d' e with ⟨b, h1, h2, h3⟩ | ⟨h1, v, h2, h3⟩
      · exact .inl ⟨b, by simp [hne, h1], h2, h3.step (fun _ _ q _ => q) ans fun _ q => q⟩
      · exact .inr ⟨by simp [hne, h1], v, h2, h3.anti an⟩
theorem Sim.unguard (S : Sim K H0 (Gd A0 a) G O σ H ρ B) : Sim K H0 A0 G O σ H ρ B := by
  have an : ∀ b, Av A0 B b → Av (Gd A0 a) B b := fun b z => by
    rcases z with z | z
    · exact .inl (.inl z)
    · exact .inr z
  have ans : ∀ b, Av A0 B b → Av (Gd A0 a) B b ∨ H b = none := fun b z => .inl (an b z)
  refine ⟨S.same, fun b z => S.a0 b (.inl z), S.len, S.bo, S.inj, fun j b e => let ⟨h1, h2, h3⟩ := S.fr j b e; ⟨h1, fun z => h2 (.inl z), h3⟩, fun j d' hj e m => ?_, fun j d' e => ?_, fun p hp => (S.gs p hp).anti an⟩
  · obtain ⟨b, h1, h2, h3⟩ := S.ob j d' hj e m
    exact ⟨b, h1, h2, h3.step (fun _ _ q _ => q) ans fun _ q => q⟩
  · rcases S.slot j d' e with ⟨b, h1, h2, h3⟩ | ⟨h1, v, h2, h3⟩
    · exact .inl ⟨b, h1, h2, h3.step (fun _ _ q _ => q) ans fun _ q => q⟩
    · exact .inr ⟨h1, v, h2, h3.anti an⟩
end
abbrev Gl (A0 : Addr → Prop) (L : List Addr) : Addr → Prop := fun b => A0 b ∨ b ∈ L
theorem gl_nil (A0 : Addr → Prop) : Gl A0 [] = A0 := by
  funext b
  simp [Gl]
theorem gl_cons (A0 : Addr → Prop) (a : Addr) (L : List Addr) : Gl (Gd A0 a) L = Gl A0 (a :: L) := by
  funext b
  simp [Gl, Gd, or_assoc]
theorem gl_swap (A0 : Addr → Prop) (a : Addr) (L : List Addr) : Gd (Gl A0 L) a = Gl A0 (a :: L) := by
  funext b
  simp only [Gl, Gd, List.mem_cons]
  exact propext ⟨fun h => h.elim (fun h => h.elim .inl fun h => .inr (.inr h)) fun h => .inr (.inl h), fun h => h.elim (fun h => .inl (.inl h)) fun h => h.elim .inr fun h => .inl (.inr h)⟩
/-- values in a row: the new ones stand at L -/
inductive Pn (K : PySem.W.Frag) (A : Addr → Prop) (H : Hp) : List Addr → List Md → List V → List D → Prop where
  | nil : Pn K A H [] [] [] []
  | own {a : Addr} {L : List Addr} {ms : List Md} {vs : List V} {d : D} {ds : List D} : Tp K A H a d → Pn K A H L ms vs ds → Pn K A H (a :: L) (.f :: ms) (.ref a :: vs) (d :: ds)
  | val {m : Md} {v : V} {L : List Addr} {ms : List Md} {vs : List V} {d : D} {ds : List D} : Rp K A H v d → (m = .f → isMut d = false) → Pn K A H L ms vs ds → Pn K A H L (m :: ms) (v :: vs) (d :: ds)
theorem Pn.anti {K : PySem.W.Frag} {A A' : Addr → Prop} {H : Hp} {L : List Addr} {ms : List Md} {vs : List V} {ds : List D} (h : Pn K A H L ms vs ds) (ha : ∀ a, A' a → A a) : Pn K A' H L ms vs ds := by
  induction h with
  | nil => exact .nil
  | own t _ ih => exact .own (t.step (fun _ _ q _ => q) (fun a z => .inl (ha a z)) fun _ q => q) ih
  | val r n _ ih => exact .val (r.anti ha) n ih
theorem Pn.mono {K : PySem.W.Frag} {A : Addr → Prop} {H H' : Hp} {L : List Addr} {ms : List Md} {vs : List V} {ds : List D} (h : Pn K A H L ms vs ds) (s : Same H H') : Pn K A H' L ms vs ds := by
  induction h with
  | nil => exact .nil
  | own t _ ih => exact .own (t.mono s) ih
  | val r n _ ih => exact .val (r.mono s) n ih
theorem Pn.len {K : PySem.W.Frag} {A : Addr → Prop} {H : Hp} {L : List Addr} {ms : List Md} {vs : List V} {ds : List D} (h : Pn K A H L ms vs ds) : vs.length = ms.length ∧ ds.length = ms.length := by
  induction h with
  | nil => exact ⟨rfl, rfl⟩
  | own _ _ ih => simp [ih.1, ih.2]
  | val _ _ _ ih => simp [ih.1, ih.2]
def simAM (K : PySem.W.Frag) (O : List Nat) (ms : List Md) (f : XL) : TA := fun σ H Q => ∃ H0 A0 G ρ B ds, Sim K H0 A0 G O σ H ρ B ∧ f ρ = some ds ∧
  ∀ vs H' L, Same H H' → Sim K H0 (Gl A0 L) G O σ H' ρ B → (∀ a ∈ L, H a = none ∧ ¬ A0 a) → L.Nodup → Pn K (Av (Gl A0 L) B) H' L ms vs ds → Q vs H'
structure SAM (X : Cx) (O : List Nat) (ms : List Md) (es : List Expr) (f : XL) : Prop where
  pa : PA X es (simAM X.K O ms f)
def ownL : List Nat → List Md → List Nat → List Nat
  | i :: is, m :: ms, O => ownL is ms (if m = .f then i :: O else O.filter (· != i))
  | _, _, O => O
def setAll {α : Type} : List Nat → List α → List (Option α) → List (Option α)
  | i :: is, v :: vs, σ => setAll is vs (σ.set i (some v))
  | _, _, σ => σ
theorem assign_all {K : PySem.W.Frag} {H0 H : Hp} {A0 : Addr → Prop} {G : List (V × D)} : ∀ (is : List Nat) {O : List Nat} {σ : L2.St} {ρ : PEnv} {B : Nat → Option Addr} {L : List Addr} {ms : List Md} {vs : List V} {ds : List D},
    Sim K H0 (Gl A0 L) G O σ H ρ B → Pn K (Av (Gl A0 L) B) H L ms vs ds → (∀ a ∈ L, H0 a = none ∧ ¬ A0 a) → L.Nodup → (∀ i ∈ is, i < ρ.length) → is.length = ms.length →
    ∃ B', Sim K H0 A0 G (ownL is ms O) (setAll is vs σ) H (setAll is ds ρ) B'
  | [], O, σ, ρ, B, L, ms, vs, ds, S, p, hL, nd, hi, hl => by
    cases p with
    | nil => rw [gl_nil] at S; exact ⟨B, S⟩
    | own _ _ => simp at hl
    | val _ _ _ => simp at hl
  | i :: is, O, σ, ρ, B, L, ms, vs, ds, S, p, hL, nd, hi, hl => by
    cases p with
    | nil => simp at hl
    | @own a L' ms' vs' d ds' t p' =>
      have hia := hi i List.mem_cons_self
      rw [← gl_swap] at S
      have hn := List.nodup_cons.mp nd
      obtain ⟨h0, n0⟩ := hL a List.mem_cons_self
      have t' : Tp K (Av (Gd (Gl A0 L') a) B) H a d := by rw [gl_swap]; exact t
      have S1 := S.adopt (i := i) (fun z => by
        rcases z with z | z
        · exact n0 z
        · exact hn.1 z) h0 t' hia
      have e : ownL (i :: is) (.f :: ms') O = ownL is ms' (i :: O) := by simp [ownL]
      rw [e]
      refine assign_all is S1 (p'.anti fun c z => ?_) (fun b hb => hL b (List.mem_cons_of_mem _ hb)) hn.2 (fun j hj => by rw [List.length_set]; exact hi j (List.mem_cons_of_mem _ hj)) (by simpa using hl)
      rcases z with (z | z) | ⟨l, z⟩
      · exact .inl (.inl z)
      · exact .inl (.inr (List.mem_cons_of_mem _ z))
      · by_cases hli : l = i
        · simp [hli] at z
          exact .inl (.inr (by rw [z]; exact List.mem_cons_self))
        · simp [hli] at z
          exact .inr ⟨l, z⟩
    | @val m v L' ms' vs' d ds' r n p' =>
      have hia := hi i List.mem_cons_self
      have S1 := S.setS r hia
      have p2 := p'.anti (A' := Av (Gl A0 L) (restr [i] B)) fun c z => restr_av z
      have hi' : ∀ j ∈ is, j < (ρ.set i (some d)).length := fun j hj => by rw [List.length_set]; exact hi j (List.mem_cons_of_mem _ hj)
      by_cases hm : m = .f
      · have S2 := S1.grow fun d' e' => by
          rw [List.getElem?_set_self hia] at e'
          cases e'
          exact n hm
        have e : ownL (i :: is) (m :: ms') O = ownL is ms' (i :: O) := by simp [ownL, hm]
        rw [e]
        exact assign_all is S2 p2 hL nd hi' (by simpa using hl)
      · have e : ownL (i :: is) (m :: ms') O = ownL is ms' (O.filter (· != i)) := by simp [ownL, hm]
        rw [e]
        exact assign_all is S1 p2 hL nd hi' (by simpa using hl)
def sPar (is : List Nat) (fs : XL) : XS := fun ρ => (fs ρ).bind fun ds => if is.all (fun i => decide (i < ρ.length)) && decide (ds.length = is.length) then some (.nx (setAll is ds ρ)) else none
section
variable {X : Cx} {O O1 O2 Ob Oc O' : List Nat} {m ma mb : Md} {ms : List Md} {st : Stmt} {sts : List Stmt} {g h : XS} {e a b c : Expr} {es : List Expr} {f fa fb : Xp} {fs : XL} {pos pos' : Pos}
theorem sam_nil : SAM X O [] [] xNil := by
  refine ⟨pa_imp pa_nil fun σ H Q h => ?_⟩
  obtain ⟨H0, A0, G, ρ, B, ds, S, e, k⟩ := h
  cases e
  exact k [] H [] (Same.refl H) (by rw [gl_nil]; exact S) (fun a h => (nomatch h)) .nil .nil
theorem sam_cons (ha : SE X O m e f) (hr : SAM X O ms es fs) (hm : m ≠ .w := by decide) (hs : starEach (e :: es) X.env = (false, eval e X.env) :: starEach es X.env := by rfl) : SAM X O (m :: ms) (e :: es) (xCons f fs) := by
  refine ⟨pa_imp (pa_cons ha.pe hr.pa hs) fun σ H Q h => ?_⟩
  obtain ⟨H0, A0, G, ρ, B, ds, S, e, k⟩ := h
  obtain ⟨x, ex, e⟩ := bind2 e
  obtain ⟨xs, exs, e⟩ := bind2 e
  cases e
  refine ⟨H0, A0, G, ρ, B, x, S, ex, fun v H1 s1 r1 => ?_⟩
  by_cases hfa : m = .f ∧ ∃ a, v = V.ref a ∧ H a = none ∧ Tp X.K (fun b => Av A0 B b ∨ b = a) H1 a x
  · obtain ⟨rfl, a, rfl, hn, ra⟩ := hfa
    have naA : ¬ Av A0 B a := S.new hn
    have Sg := S.guard hn s1 ra.some
    refine ⟨H0, Gd A0 a, G, ρ, B, xs, Sg, exs, fun vs H2 L s2 S2 hL nd p => k _ H2 (a :: L) (s1.trans s2) (by rw [← gl_cons]; exact S2) (fun b hb => ?_) (List.nodup_cons.mpr ⟨fun z => ?_, nd⟩) (.own ?_ (by rw [← gl_cons]; exact p))⟩
    · rcases List.mem_cons.mp hb with rfl | hb
      · exact ⟨hn, fun z => naA (.inl z)⟩
      · obtain ⟨h1, h2⟩ := hL b hb
        exact ⟨s1.free h1, fun z => h2 (.inl z)⟩
    · exact (hL a z).2 (.inr rfl)
    · refine ra.step (fun c o e _ => s2 c o e) (fun c z => ?_) fun o e => s2 _ o e
      rcases z with (z | z) | z
      · exact .inl (.inl (.inl z))
      · rcases List.mem_cons.mp z with z | z
        · exact .inl (.inr z)
        · exact .inr (hL c z).1
      · exact .inl (.inl (.inr z))
  · have rb : Rp X.K (Av A0 B) H1 v x ∧ (m = .f → isMut x = false) := by
      cases m with
      | w => exact absurd rfl hm
      | s => exact ⟨r1, fun z => nomatch z⟩
      | f =>
        rcases r1 with ⟨b, e1, e2, e3⟩ | ⟨e1, e2⟩
        · exact absurd ⟨rfl, b, e1, e2, e3⟩ hfa
        · exact ⟨e1, fun _ => e2⟩
    refine ⟨H0, A0, G, ρ, B, xs, S.mono s1, exs, fun vs H2 L s2 S2 hL nd p => k _ H2 L (s1.trans s2) S2 (fun b hb => ⟨s1.free (hL b hb).1, (hL b hb).2⟩) nd (.val (rb.1.step (fun c o e _ => s2 c o e) fun c z => ?_) rb.2 p)⟩
    rcases z with (z | z) | z
    · exact .inl (.inl z)
    · exact .inr (hL c z).1
    · exact .inl (.inr z)
/-- behind the values: the names are set -/
theorem par_end {is : List Nat} {o : Out} {D : Ends} {K : PySem.W.Frag} {H0 H H1 : Hp} {A0 : Addr → Prop} {G : List (V × Pm.D)} {σ : L2.St} {ρ : PEnv} {B : Nat → Option Addr} {ds : List Pm.D} {vs : List V} {L : List Addr} (S0 : Same H0 H) (hO : ownL is ms O = O') (hl : is.length = ms.length)
    (e : (if is.all (fun i => decide (i < ρ.length)) && decide (ds.length = is.length) then some (Out.nx (setAll is ds ρ)) else none) = some o) (k : PostS K H0 A0 G Ob Oc O' D o)
    (S : Sim K H0 (Gl A0 L) G O σ H1 ρ B) (hL : ∀ a ∈ L, H a = none ∧ ¬ A0 a) (nd : L.Nodup) (p : Pn K (Av (Gl A0 L) B) H1 L ms vs ds) : D.nx (setAll is vs σ) H1 := by
  split at e
  · rename_i hz
    cases e
    simp only [Bool.and_eq_true, decide_eq_true_eq, List.all_eq_true] at hz
    obtain ⟨B', S'⟩ := assign_all is S p (fun a ha => ⟨S0.free (hL a ha).1, (hL a ha).2⟩) nd (fun i hi => hz.1 i hi) hl
    rw [hO] at S'
    exact k _ H1 B' S'
  · cases e
theorem ss_par (i j : Nat) {x y : Str} {px py pt : Pos} {kt k2 : Nat} {pt2 : Pos} (hN : X.N.Nodup) (ha : SAM X O [ma, mb] [a, b] fs) (hij : i ≠ j := by decide) (hi : X.N[i]? = some x := by rfl) (hj : X.N[j]? = some y := by rfl) (hx : X.env.scope.names.lookup x = some .local := by rfl) (hy : X.env.scope.names.lookup y = some .local := by rfl)
    (hw : swappedStores [.Tuple [.Name x px, .Name y py] kt pt] (.Tuple [a, b] k2 pt2) X.env = pure (some [x, y]) := by rfl) (hs : swapsWithSole [.Tuple [.Name x px, .Name y py] kt pt] (.Tuple [a, b] k2 pt2) pos.line X.env = pure false := by rfl) (hc : X.calm = true := by rfl) (hO : ownL [i, j] [ma, mb] O = O' := by rfl) :
    SS X O Ob Oc O' (.Assign [.Tuple [.Name x px, .Name y py] kt pt] (.Tuple [a, b] k2 pt2) pos) (sPar [i, j] fs) := by
  refine ⟨ps_imp (L2.ps_par hc hN hi hj hij hx hy ha.pa hw hs) fun D σ H q => ?_⟩
  obtain ⟨H0, A0, G, ρ, B, o, S, e, k⟩ := q
  obtain ⟨ds, eds, e⟩ := bind2 e
  refine ⟨H0, A0, G, ρ, B, ds, S, eds, fun vs H1 L s1 S1 hL nd p => ?_⟩
  have hl := p.len.1
  match vs, hl with
  | [v, w], _ => exact ⟨v, w, rfl, par_end (is := [i, j]) S.same hO rfl e k S1 hL nd p⟩
theorem ss_par3 (i j l : Nat) {mc : Md} {x y z : Str} {px py pz pt : Pos} {kt k2 : Nat} {pt2 : Pos} (hN : X.N.Nodup) (ha : SAM X O [ma, mb, mc] [a, b, c] fs) (hij : i ≠ j := by decide) (hil : i ≠ l := by decide) (hjl : j ≠ l := by decide) (hi : X.N[i]? = some x := by rfl) (hj : X.N[j]? = some y := by rfl) (hlz : X.N[l]? = some z := by rfl)
    (hx : X.env.scope.names.lookup x = some .local := by rfl) (hy : X.env.scope.names.lookup y = some .local := by rfl) (hz : X.env.scope.names.lookup z = some .local := by rfl)
    (hw : swappedStores [.Tuple [.Name x px, .Name y py, .Name z pz] kt pt] (.Tuple [a, b, c] k2 pt2) X.env = pure (some [x, y, z]) := by rfl) (hs : swapsWithSole [.Tuple [.Name x px, .Name y py, .Name z pz] kt pt] (.Tuple [a, b, c] k2 pt2) pos.line X.env = pure false := by rfl) (hc : X.calm = true := by rfl) (hO : ownL [i, j, l] [ma, mb, mc] O = O' := by rfl) :
    SS X O Ob Oc O' (.Assign [.Tuple [.Name x px, .Name y py, .Name z pz] kt pt] (.Tuple [a, b, c] k2 pt2) pos) (sPar [i, j, l] fs) := by
  refine ⟨ps_imp (ps_par3 hc hN hi hj hlz hij hil hjl hx hy hz ha.pa hw hs) fun D σ H q => ?_⟩
  obtain ⟨H0, A0, G, ρ, B, o, S, e, k⟩ := q
  obtain ⟨ds, eds, e⟩ := bind2 e
  refine ⟨H0, A0, G, ρ, B, ds, S, eds, fun vs H1 L s1 S1 hL nd p => ?_⟩
  have hl := p.len.1
  match vs, hl with
  | [u, v, w], _ => exact ⟨u, v, w, rfl, par_end (is := [i, j, l]) S.same hO rfl e k S1 hL nd p⟩
/-- any number of names, by a tuple that is taken apart -/
def gNames : List Nat → TGs
  | [] => gNil
  | i :: is => gCons (gName i) (gNames is)
theorem gNames_of {is : List Nat} {vs : List V} {σ : L2.St} {H : Hp} {Q : L2.St → Hp → Prop} (hl : vs.length = is.length) (h : Q (setAll is vs σ) H) : gNames is vs σ H Q := by
  induction is generalizing vs σ with
  | nil =>
    cases vs with
    | nil => exact ⟨rfl, h⟩
    | cons v vs => simp at hl
  | cons i is ih =>
    cases vs with
    | nil => simp at hl
    | cons v vs => exact ⟨v, vs, rfl, ih (by simpa using hl) h⟩
theorem ss_parT (is : List Nat) {tgs : List Expr} {kt k2 : Nat} {pt pt2 : Pos} (ha : SAM X O ms es fs) (hg : PGs X tgs (gNames is)) (hl : is.length = ms.length := by rfl) (hn : (assignEach tgs X.env).length = is.length := by rfl) (hst : (assignEach tgs X.env).findIdx? (·.1) = none := by rfl) (hsz : ms.length ≤ 1000 := by decide)
    (hw : swappedStores [.Tuple tgs kt pt] (.Tuple es k2 pt2) X.env = pure none := by rfl) (hs : swapsWithSole [.Tuple tgs kt pt] (.Tuple es k2 pt2) pos.line X.env = pure false := by rfl) (hc : X.calm = true := by rfl) (hO : ownL is ms O = O' := by rfl)
    (h1 : (assignEach [.Tuple tgs kt pt] X.env).map (·.2) = [assign (.Tuple tgs kt pt) X.env] := by rfl) : SS X O Ob Oc O' (.Assign [.Tuple tgs kt pt] (.Tuple es k2 pt2) pos) (sPar is fs) := by
  refine ⟨ps_imp (ps_asg (pe_tup ha.pa) (pg_tup hc hg hn hst) hs hw h1) fun D σ H q => ?_⟩
  obtain ⟨H0, A0, G, ρ, B, o, S, e, k⟩ := q
  obtain ⟨ds, eds, e⟩ := bind2 e
  refine ⟨H0, A0, G, ρ, B, ds, S, eds, fun vs H1 L s1 S1 hL nd p => ⟨by rw [p.len.1]; exact line1000 hsz, fun t ht => ?_⟩⟩
  have st := same_upd (o := .tup vs) ht
  refine ⟨t, vs, rfl, .of upd_same, by rw [p.len.1, hl], gNames_of (by rw [p.len.1, hl]) (par_end (is := is) S.same hO hl e k (S1.mono st) hL nd (p.mono st))⟩

/-! ### more operators in place -/
theorem iop_addD : OpR X (inplaceOp .Add) (rD X.K .f oAdd') := by
  intro pins s σ H x y v u Q I rx ry ⟨A, dx, dy, d, tr, wx, wy, e, q⟩
  unfold oAdd' at e
  split at e
  · cases e
    exact iop_add pins s σ H x y v u Q I rx ry ⟨_, _, wx.int, wy.int, q _ H (Same.refl H) Res.int⟩
  · cases e
theorem iop_subD : OpR X (inplaceOp .Sub) (rD X.K .f oSub) := by
  intro pins s σ H x y v u Q I rx ry ⟨A, dx, dy, d, tr, wx, wy, e, q⟩
  unfold oSub at e
  split at e
  · cases e
    exact iop_sub pins s σ H x y v u Q I rx ry ⟨_, _, wx.int, wy.int, q _ H (Same.refl H) Res.int⟩
  · cases e
end
end Pm

namespace Pm
open PySem PySem.Spec PyProof.Rows L2

/-! ### a comprehension over two sources -/
def lc2L (g : D → PEnv → Option PEnv) (t : PEnv → Option Bool) (it1 : XL) (g1 : D → PEnv → Option PEnv) (t1 : PEnv → Option Bool) (f : Xp) (vs1 : List Nat) (ρ : PEnv) : List D → Option (List D)
  | [] => some []
  | d :: ds => (g d ρ).bind fun ρ1 => (t ρ1).bind fun b => if b then (it1 ρ1).bind fun es => (lcL g1 t1 f (wipeP ρ1 vs1) es).bind fun ys => (lc2L g t it1 g1 t1 f vs1 ρ ds).bind fun zs => some (ys ++ zs) else lc2L g t it1 g1 t1 f vs1 ρ ds
def xLc2 (it : XL) (g : D → PEnv → Option PEnv) (t : PEnv → Option Bool) (it1 : XL) (g1 : D → PEnv → Option PEnv) (t1 : PEnv → Option Bool) (f : Xp) (own vs1 : List Nat) : Xp := fun ρ => (it ρ).bind fun ds => (lc2L g t it1 g1 t1 f vs1 (wipeP ρ own) ds).bind fun ys => if ys.length ≤ 16777216 then some (.list ys) else none
/-- the guarded cells alone may change -/
theorem Sim.monoG {K : PySem.W.Frag} {H0 H H' : Hp} {A0 : Addr → Prop} {G : List (V × D)} {O : List Nat} {σ : L2.St} {ρ : PEnv} {B : Nat → Option Addr} (S : Sim K H0 A0 G O σ H ρ B) (hk : ∀ a o, H a = some o → ¬ A0 a → H' a = some o) (ht : ∀ a, A0 a → ∃ o, H' a = some o ∧ NT o) (h0 : Same H0 H') : Sim K H0 A0 G O σ H' ρ B := by
  have st : ∀ a o, H a = some o → ¬ Av A0 B a → H' a = some o := fun a o e n => hk a o e fun z => n (.inl z)
  have bA : ∀ i a, B i = some a → ¬ A0 a := fun i a e => (S.fr i a e).2.1
  have kp : ∀ {a : Addr} {d : D} {i : Nat}, B i = some a → Tp K (Av A0 B) H a d → Tp K (Av A0 B) H' a d := fun {a d i} hb h => h.step st (fun _ z => .inl z) fun o e => hk a o e (bA i a hb)
  refine ⟨h0, ht, S.len, S.bo, S.inj, fun i a e => ?_, fun i d hi e mm => ?_, fun i d e => ?_, fun p hp => (S.gs p hp).step st fun _ z => .inl z⟩
  · obtain ⟨h1, h2, o, h3, h4⟩ := S.fr i a e
    exact ⟨h1, h2, o, hk a o h3 h2, h4⟩
  · obtain ⟨a, h1, h2, h3⟩ := S.ob i d hi e mm
    exact ⟨a, h1, h2, kp h1 h3⟩
  · rcases S.slot i d e with ⟨a, h1, h2, h3⟩ | ⟨h1, v, h2, h3⟩
    · exact .inl ⟨a, h1, h2, kp h1 h3⟩
    · exact .inr ⟨h1, v, h2, h3.step st fun _ z => .inl z⟩
section
variable {X : Cx} {O ts us : List Nat} {st : Bool} {m : Md} {tg iter elt tg1 iter1 : Expr} {ifs ifs1 : List Expr} {scope : Scope} {own : List (Str × Nat)} {vs1 : List Nat} {it it1 : XL} {g g1 : D → PEnv → Option PEnv} {t t1 : PEnv → Option Bool} {f : Xp} {pos : Pos}
theorem lc2_of (hm : m ≠ .w) (hts : ∀ i, ts.contains i = true → (own.map (·.2)).contains i = true) (hus : ∀ i, us.contains i = true → vs1.contains i = true) (hO : ∀ i ∈ own.map (·.2), i ∉ O) (hO1 : ∀ i ∈ vs1, i ∉ O) (σ : L2.St) (H : Hp) (Q : VK)
    (q : simT X.K O .f (xLc2 it g t it1 g1 t1 f (own.map (·.2)) vs1) σ H Q) :
    tLc2 (simI X.K O st it) (simG X.K O O ts g) (simTT X.K O t) (simI X.K O true it1) (simG X.K O O us g1) (simTT X.K O t1) (simT X.K O m f) (own.map (·.2)) vs1 σ H Q := by
  obtain ⟨H0, A0, G, ρ, B, d, S, e, k⟩ := q
  obtain ⟨ds, eds, e⟩ := bind2 e
  obtain ⟨ys, eys, e⟩ := bind2 e
  split at e
  rotate_left
  · cases e
  rename_i hys
  cases e
  refine ⟨H0, A0, G, ρ, B, ds, S, eds, fun J H1 gs s1 yl gr hz Dn hD => ?_⟩
  have hts' : ∀ i, ts.contains i = true → i ∉ O := fun i hi => hO i (by simpa using hts i hi)
  have hus' : ∀ i, us.contains i = true → i ∉ O := fun i hi => hO1 i (by simpa using hus i hi)
  have avD : Av (Gd A0 Dn) B Dn := .inl (.inr rfl)
  refine ⟨fun i n Hc => n = ds.length - i ∧ i ≤ ds.length ∧ Same H1 Hc ∧ ∃ vs pre post, Hc Dn = some (.lst vs) ∧ RpL X.K (Av (Gd A0 Dn) B) Hc vs pre ∧ lc2L g t it1 g1 t1 f vs1 (wipeP ρ (own.map (·.2))) (ds.drop i) = some post ∧ ys = pre ++ post,
    ⟨ds.length, rfl, Nat.zero_le _, same_upd hD, [], [], ys, upd_same, .nil, eys, rfl⟩, ?_⟩
  rintro i n Hc ⟨rfl, hi, sc, vs, pre, post, hDc, rpre, epost, eyp⟩
  have Sg : Sim X.K H0 (Gd A0 Dn) G O σ Hc ρ B := (S.mono s1).guard hD sc ⟨_, hDc, NT.lst⟩
  have gw : ∀ p ∈ gs, WRp X.K (Av (Gd A0 Dn) B) Hc p.1 p.2 := fun p hp => (gr p hp).w.step sc fun a z => by
    rcases gd_av z with z | z
    · exact .inl z
    · exact .inr (by rw [z]; exact hD)
  by_cases hlt : i < ds.length
  · have ed : ds[i]? = some ds[i] := List.getElem?_eq_getElem hlt
    rw [List.drop_eq_getElem_cons hlt] at epost
    obtain ⟨hgo, hy⟩ := yl.go _ Hc i _ Sg.tr gw ed
    simp only [lc2L] at epost
    obtain ⟨ρ1, eρ1, epost⟩ := bind2 epost
    obtain ⟨b, eb, epost⟩ := bind2 epost
    refine .inr ⟨hgo, fun H' => i + 1 ≤ ds.length ∧ Same H1 H' ∧ ∃ vs pre' post', H' Dn = some (.lst vs) ∧ RpL X.K (Av (Gd A0 Dn) B) H' vs pre' ∧ lc2L g t it1 g1 t1 f vs1 (wipeP ρ (own.map (·.2))) (ds.drop (i + 1)) = some post' ∧ ys = pre' ++ post', fun H' hN => ?_, fun x H' hx => ?_⟩
    · obtain ⟨h1, h2, h3⟩ := hN
      exact ⟨ds.length - (i + 1), by omega, rfl, h1, h2, h3⟩
    · obtain ⟨s2, rx⟩ := hy x H' hx
      refine ⟨H0, Gd A0 Dn, G, wipeP ρ (own.map (·.2)), B, _, ρ1, (Sg.mono s2).wipe _ hO, rx, eρ1, fun σ2 c2 S2 => ?_⟩
      rw [restr_same Sg hts'] at S2
      refine ⟨wipe_eq c2 hts, H0, Gd A0 Dn, G, ρ1, B, b, S2, eb, fun H3 s3 => ?_⟩
      cases b with
      | true =>
        rw [if_pos rfl]
        rw [if_pos rfl] at epost
        obtain ⟨es, ees, epost⟩ := bind2 epost
        obtain ⟨zs, ezs, epost⟩ := bind2 epost
        obtain ⟨ws, ews, epost⟩ := bind2 epost
        cases epost
        refine ⟨H0, Gd A0 Dn, G, ρ1, B, es, S2.mono s3, ees, fun J1 H4 gs1 s4 yl1 gr1 hz1 => ?_⟩
        have s24 := (s2.trans s3).trans s4
        have hD4 : H4 Dn = some (.lst vs) := s24 _ _ hDc
        have S4 := (S2.mono s3).mono s4
        have hdn : H Dn = none := s1.free hD
        -- the inner loop: the new list is written between its turns
        refine ⟨fun j n Hj => n = es.length - j ∧ j ≤ es.length ∧ (∀ a o, H4 a = some o → ¬ Gd A0 Dn a → Hj a = some o) ∧ Same H1 Hj ∧ ∃ us pre1 post1, Hj Dn = some (.lst us) ∧ RpL X.K (Av (Gd A0 Dn) B) Hj us pre1 ∧ lcL g1 t1 f (wipeP ρ1 vs1) (es.drop j) = some post1 ∧ ys = pre1 ++ (post1 ++ ws) ∧ (∀ a, A0 a → ∃ o, Hj a = some o ∧ NT o),
          ⟨es.length, rfl, Nat.zero_le _, fun a o e _ => e, sc.trans s24, vs, pre, zs, hD4, rpre.mono s24, ezs, eyp, fun a z => S4.a0 a (.inl z)⟩, ?_⟩
        rintro j n Hj ⟨rfl, hj, sj, s1j, us', pre1, post1, hDj, rp1, ep1, ey1, a0j⟩
        have stepj : ∀ a o, H4 a = some o → ¬ Av (Gd A0 Dn) B a → Hj a = some o := fun a o e n => sj a o e fun z => n (.inl z)
        have thr : ∀ a, Gd A0 Dn a → ∃ o, Hj a = some o ∧ NT o := fun a z => by
          rcases z with z | z
          · exact a0j a z
          · rw [z]; exact ⟨_, hDj, NT.lst⟩
        have Sj : Sim X.K H0 (Gd A0 Dn) G O σ2 Hj ρ1 B := S4.monoG sj thr fun a o e => s1j a o (s1 a o (S.same a o e))
        have gw1 : ∀ p ∈ gs1, WRp X.K (Av (Gd A0 Dn) B) Hj p.1 p.2 := fun p hp => .inl ((gr1 p hp : Rp _ _ _ _ _).step stepj fun _ z => .inl z)
        have hysl : ys.length ≤ 16777216 := hys
        by_cases hltj : j < es.length
        · have edj : es[j]? = some es[j] := List.getElem?_eq_getElem hltj
          rw [List.drop_eq_getElem_cons hltj] at ep1
          obtain ⟨hgo1, hy1⟩ := yl1.go _ Hj j _ Sj.tr gw1 edj
          simp only [lcL] at ep1
          obtain ⟨ρ2, eρ2, ep1⟩ := bind2 ep1
          obtain ⟨b1, eb1, ep1⟩ := bind2 ep1
          refine .inr ⟨hgo1, fun H' => j + 1 ≤ es.length ∧ (∀ a o, H4 a = some o → ¬ Gd A0 Dn a → H' a = some o) ∧ Same H1 H' ∧ ∃ us pre1 post1, H' Dn = some (.lst us) ∧ RpL X.K (Av (Gd A0 Dn) B) H' us pre1 ∧ lcL g1 t1 f (wipeP ρ1 vs1) (es.drop (j + 1)) = some post1 ∧ ys = pre1 ++ (post1 ++ ws) ∧ (∀ a, A0 a → ∃ o, H' a = some o ∧ NT o), fun H' hN => ?_, fun x1 H5 hx1 => ?_⟩
          · obtain ⟨h1, h2⟩ := hN
            exact ⟨es.length - (j + 1), by omega, rfl, h1, h2⟩
          · obtain ⟨s5, rx1⟩ := hy1 x1 H5 hx1
            refine ⟨H0, Gd A0 Dn, G, wipeP ρ1 vs1, B, _, ρ2, (Sj.mono s5).wipe _ hO1, rx1, eρ2, fun σ3 c3 S5 => ?_⟩
            rw [restr_same Sj hus'] at S5
            refine ⟨wipe_eq c3 hus, H0, Gd A0 Dn, G, ρ2, B, b1, S5, eb1, fun H6 s6 => ?_⟩
            cases b1 with
            | true =>
              rw [if_pos rfl]
              rw [if_pos rfl] at ep1
              obtain ⟨y, ey, ep1⟩ := bind2 ep1
              obtain ⟨p2, ep2, ep1⟩ := bind2 ep1
              cases ep1
              refine ⟨H0, Gd A0 Dn, G, ρ2, B, y, S5.mono s6, ey, fun v H7 s7 r7 => ?_⟩
              have r7' := r7.toS (S5.mono s6).tr hm
              have s57 := (s5.trans s6).trans s7
              have kp : ∀ a o, H7 a = some o → ¬ Av (Gd A0 Dn) B a → upd H7 Dn (.lst (us' ++ [v])) a = some o := fun a o e n => by
                rw [upd_ne (fun z => n (by rw [z]; exact avD))]
                exact e
              have hne : ∀ a, ¬ Gd A0 Dn a → a ≠ Dn := fun a n z => n (.inr z)
              have hpl : pre1.length < ys.length := by
                rw [ey1]
                simp only [List.length_append, List.length_cons]
                omega
              refine ⟨us', s57 _ _ hDj, ?_, by omega, fun a o e n => ?_, fun a o e => ?_, us' ++ [v], pre1 ++ [y], p2, upd_same, ?_, ep2, by simp [ey1], fun a z => ?_⟩
              · rw [rp1.length]
                have : (16777216 : Nat) = sizeLine := rfl
                omega
              · rw [upd_ne (hne a n)]
                exact s57 _ _ (sj a o e n)
              · have hne : a ≠ Dn := fun z => by rw [z, hD] at e; cases e
                rw [upd_ne hne]
                exact s57 _ _ (s1j _ _ e)
              · exact RpL.app (.one (r7'.step kp fun _ z => .inl z)) ((rp1.mono s57).step kp fun _ z => .inl z)
              · obtain ⟨o, e, nt⟩ := a0j a z
                by_cases ha : a = Dn
                · rw [ha]; exact ⟨_, upd_same, NT.lst⟩
                · exact ⟨o, by rw [upd_ne ha]; exact s57 _ _ e, nt⟩
            | false =>
              rw [if_neg Bool.false_ne_true]
              rw [if_neg Bool.false_ne_true] at ep1
              have s56 := s5.trans s6
              exact ⟨by omega, fun a o e n => s56 _ _ (sj a o e n), s1j.trans s56, us', pre1, post1, s56 _ _ hDj, rp1.mono s56, ep1, ey1, fun a z => let ⟨o, e, nt⟩ := a0j a z; ⟨o, s56 _ _ e, nt⟩⟩
        · have e : j = es.length := by omega
          subst e
          rw [List.drop_length] at ep1
          cases ep1
          exact .inl ⟨yl1.stop _ Hj Sj.tr gw1, by omega, s1j, us', pre1, ws, hDj, rp1, ews, by simpa using ey1⟩
      | false =>
        rw [if_neg Bool.false_ne_true]
        rw [if_neg Bool.false_ne_true] at epost
        have s23 := s2.trans s3
        exact ⟨by omega, sc.trans s23, vs, pre, post, s23 _ _ hDc, rpre.mono s23, epost, eyp⟩
  · have e : i = ds.length := by omega
    subst e
    refine .inl ⟨yl.stop _ Hc Sg.tr gw, ?_⟩
    rw [List.drop_length] at epost
    cases epost
    rw [List.append_nil] at eyp
    subst eyp
    have hHD : H Dn = none := s1.free hD
    refine k _ Hc (s1.trans sc) (.inl ⟨Dn, rfl, hHD, .lst hDc (rpre.anti fun a z => ?_)⟩)
    rcases z with z | z
    · rcases z with z | z
      · exact .inl (.inl z)
      · exact .inr z
    · exact .inl (.inr z)
theorem se_lc2 (hN : X.N.Nodup) (hi : SI X O st tg iter it) (ok : BlkOk X.N X.env.scope scope own) (hg : InBlk X scope fun Y => SG Y O O ts tg g) (ht : InBlk X scope fun Y => STs Y O ifs t) (hi1 : InBlk X scope fun Y => SI Y O true tg1 iter1 it1) (hg1 : InBlk X scope fun Y => SG Y O O us tg1 g1) (ht1 : InBlk X scope fun Y => STs Y O ifs1 t1) (he : InBlk X scope fun Y => SE Y O m elt f)
    (hm : m ≠ .w := by decide) (hv : vs1.all (fun i => (own.map (·.2)).contains i) = true := by rfl) (hts : ts.all (fun i => (own.map (·.2)).contains i) = true := by rfl) (hus : us.all (fun i => vs1.contains i) = true := by rfl) (hO : (own.map (·.2)).all (fun i => !O.contains i) = true := by rfl) (hc : X.calm = true := by rfl) (hs : ∀ x, foldedSetIterable iter X.env x = pure x := by intro _; rfl) (hs1 : ∀ env x, foldedSetIterable iter1 env x = pure x := by intro _ _; rfl) :
    SE X O .f (.ListComp elt [⟨tg, iter, ifs, 0⟩, ⟨tg1, iter1, ifs1, 0⟩] scope pos) (xLc2 it g t it1 g1 t1 f (own.map (·.2)) vs1) := by
  have hv' : ∀ i ∈ vs1, i ∈ own.map (·.2) := fun i hi => by simpa using List.all_eq_true.mp hv i hi
  have hO' : ∀ i ∈ own.map (·.2), i ∉ O := fun i hi => by simpa using List.all_eq_true.mp hO i hi
  exact ⟨pe_imp (pe_lc2 (wi := simI X.K O st it) (g := simG X.K O O ts g) (tt := simTT X.K O t) (wi1 := simI X.K O true it1) (g1 := simG X.K O O us g1) (tt1 := simTT X.K O t1) (te := simT X.K O m f) hc hN hi.pi ok hv' (fun s H C cl fp => (hg s H C cl fp).pg) (fun s H C cl fp => (ht s H C cl fp).pts) (fun s H C cl fp => (hi1 s H C cl fp).pi) (fun s H C cl fp => (hg1 s H C cl fp).pg) (fun s H C cl fp => (ht1 s H C cl fp).pts) (fun s H C cl fp => (he s H C cl fp).pe) hs hs1)
    (lc2_of hm (fun i hi => by simpa using List.all_eq_true.mp hts i (by simpa using hi)) (fun i hi => by simpa using List.all_eq_true.mp hus i (by simpa using hi)) hO' fun i hi => hO' i (hv' i hi))⟩
theorem ss_setLc2 (i : Nat) {y : Str} {py : Pos} {Ob Oc O' : List Nat} {spos : Pos} (hN : X.N.Nodup) (hi : SI X O st tg iter it) (ok : BlkOk X.N X.env.scope scope own) (hg : InBlk X scope fun Y => SG Y O O ts tg g) (ht : InBlk X scope fun Y => STs Y O ifs t) (hi1 : InBlk X scope fun Y => SI Y O true tg1 iter1 it1) (hg1 : InBlk X scope fun Y => SG Y O O us tg1 g1) (ht1 : InBlk X scope fun Y => STs Y O ifs1 t1) (he : InBlk X scope fun Y => SE Y O m elt f)
    (hm : m ≠ .w := by decide) (hy : X.N[i]? = some y := by rfl) (hyl : X.env.scope.names.lookup y = some .local := by rfl) (hsw : swapsWith (.ListComp elt [⟨tg, iter, ifs, 0⟩, ⟨tg1, iter1, ifs1, 0⟩] scope pos) (some (.Name y py)) spos.line X.env = pure true := by exact sw_true rfl rfl rfl (by decide +kernel))
    (hv : vs1.all (fun i => (own.map (·.2)).contains i) = true := by rfl) (hts : ts.all (fun i => (own.map (·.2)).contains i) = true := by rfl) (hus : us.all (fun i => vs1.contains i) = true := by rfl) (hO : (own.map (·.2)).all (fun i => !O.contains i) = true := by rfl) (hc : X.calm = true := by rfl) (hs : ∀ x, foldedSetIterable iter X.env x = pure x := by intro _; rfl) (hs1 : ∀ env x, foldedSetIterable iter1 env x = pure x := by intro _ _; rfl) (hO2 : i :: O = O' := by rfl) :
    SS X O Ob Oc O' (.Assign [.Name y py] (.ListComp elt [⟨tg, iter, ifs, 0⟩, ⟨tg1, iter1, ifs1, 0⟩] scope pos) spos) (sSet i (xLc2 it g t it1 g1 t1 f (own.map (·.2)) vs1)) := by
  subst hO2
  have hv' : ∀ i ∈ vs1, i ∈ own.map (·.2) := fun i hi => by simpa using List.all_eq_true.mp hv i hi
  have hO' : ∀ i ∈ own.map (·.2), i ∉ O := fun i hi => by simpa using List.all_eq_true.mp hO i hi
  refine ⟨ps_imp (ps_setLc2 (wi := simI X.K O st it) (g := simG X.K O O ts g) (tt := simTT X.K O t) (wi1 := simI X.K O true it1) (g1 := simG X.K O O us g1) (tt1 := simTT X.K O t1) (te := simT X.K O m f) hc hN hy hyl hsw hi.pi ok hv' (fun s H C cl fp => (hg s H C cl fp).pg) (fun s H C cl fp => (ht s H C cl fp).pts) (fun s H C cl fp => (hi1 s H C cl fp).pi) (fun s H C cl fp => (hg1 s H C cl fp).pg) (fun s H C cl fp => (ht1 s H C cl fp).pts) (fun s H C cl fp => (he s H C cl fp).pe) hs hs1) fun D σ H q => ?_⟩
  exact lc2_of hm (fun i hi => by simpa using List.all_eq_true.mp hts i (by simpa using hi)) (fun i hi => by simpa using List.all_eq_true.mp hus i (by simpa using hi)) hO' (fun i hi => hO' i (hv' i hi)) σ H _ (setf_of σ H q)
end
end Pm

namespace Pm
open PySem PySem.Spec PyProof.Rows L2

/-! ### dicts whose keys are ints -/
def isKeyI (i : Int) : D → Bool
  | .int j => j == i
  | _ => false
def dGetD (kd : List (D × D)) (i : Int) : Option D := (kd.find? fun p => isKeyI i p.1).map (·.2)
def dHasD (kd : List (D × D)) (i : Int) : Bool := kd.any fun p => isKeyI i p.1
def dPutD (kd : List (D × D)) (i : Int) (v : D) : List (D × D) := if dHasD kd i then kd.map (fun p => if isKeyI i p.1 then (p.1, v) else p) else kd ++ [(.int i, v)]
theorem keyD_is (k : Key) (i : Int) : isKeyI i (keyD k) = decide (k = Sum.inl i) := by
  cases k with
  | inl j =>
    simp only [keyD, isKeyI]
    by_cases h : j = i <;> simp [h]
  | inr s => simp [keyD, isKeyI]
section
variable {K : PySem.W.Frag} {A : Addr → Prop} {H : Hp}
theorem dget_some {i : Int} {d : D} : ∀ {ks : List (Key × V)} {ds : List D}, RpL K A H (ks.map (·.2)) ds → dGetD ((ks.map fun p => keyD p.1).zip ds) i = some d → ∃ v, valV ks (Sum.inl i) = some v ∧ Rp K A H v d
  | [], ds, r, e => by simp [dGetD] at e
  | (k, v) :: ks, ds, r, e => by
    cases r with
    | cons h r =>
      simp only [dGetD, List.map_cons, List.zip_cons_cons, List.find?_cons, keyD_is] at e
      by_cases hk : k = Sum.inl i
      · rw [decide_eq_true hk] at e
        cases e
        exact ⟨v, valV_pos hk, h⟩
      · rw [decide_eq_false hk] at e
        obtain ⟨w, e1, e2⟩ := dget_some r e
        exact ⟨w, by rw [valV_neg hk]; exact e1, e2⟩
theorem dhas_eq {i : Int} : ∀ {ks : List (Key × V)} {ds : List D}, RpL K A H (ks.map (·.2)) ds → dHasD ((ks.map fun p => keyD p.1).zip ds) i = (valV ks (Sum.inl i)).isSome
  | [], ds, r => by cases r; rfl
  | (k, v) :: ks, ds, r => by
    cases r with
    | cons h r =>
      simp only [dHasD, List.map_cons, List.zip_cons_cons, List.any_cons, keyD_is]
      by_cases hk : k = Sum.inl i
      · rw [decide_eq_true hk, valV_pos hk]
        rfl
      · rw [decide_eq_false hk, valV_neg hk, Bool.false_or]
        exact dhas_eq r
theorem dput_map {i : Int} {v : V} {d : D} (hv : Rp K A H v d) : ∀ {ks : List (Key × V)} {ds : List D}, RpL K A H (ks.map (·.2)) ds → ∃ ds', RpL K A H ((ks.map fun kv => if kv.1 = Sum.inl i then (kv.1, v) else kv).map (·.2)) ds' ∧
    ((ks.map fun p => keyD p.1).zip ds).map (fun p => if isKeyI i p.1 then (p.1, d) else p) = ((ks.map fun kv => if kv.1 = Sum.inl i then (kv.1, v) else kv).map fun p => keyD p.1).zip ds'
  | [], ds, r => by cases r; exact ⟨[], .nil, rfl⟩
  | (k, w) :: ks, ds, r => by
    cases r with
    | @cons _ _ d0 ds0 h r =>
      obtain ⟨ds', r', e⟩ := dput_map hv r
      simp only [List.map_cons, List.zip_cons_cons, keyD_is]
      by_cases hk : k = Sum.inl i
      · refine ⟨d :: ds', ?_, ?_⟩
        · rw [if_pos hk]; exact .cons hv r'
        · rw [if_pos hk, decide_eq_true hk, if_pos rfl, e]; rfl
      · refine ⟨d0 :: ds', ?_, ?_⟩
        · rw [if_neg hk]; exact .cons h r'
        · rw [if_neg hk, decide_eq_false hk, if_neg Bool.false_ne_true, e]; rfl
theorem dput_ok {i : Int} {v : V} {d : D} (hv : Rp K A H v d) {ks : List (Key × V)} {ds : List D} (r : RpL K A H (ks.map (·.2)) ds) : ∃ ds', RpL K A H ((putK ks (Sum.inl i) v).map (·.2)) ds' ∧
    dPutD ((ks.map fun p => keyD p.1).zip ds) i d = ((putK ks (Sum.inl i) v).map fun p => keyD p.1).zip ds' := by
  unfold dPutD putK
  rw [dhas_eq r, valV_any]
  by_cases hh : (valV ks (Sum.inl i)).isSome = true
  · rw [if_pos hh, if_pos hh]
    exact dput_map hv r
  · rw [if_neg hh, if_neg hh]
    refine ⟨ds ++ [d], ?_, ?_⟩
    · rw [List.map_append]
      exact RpL.app (.one hv) r
    · rw [List.map_append]
      have hl : (ks.map fun p => keyD p.1).length = ds.length := by
        have := r.length
        simpa using this
      rw [List.zip_append hl]
      rfl
/-- a value that stands for a dict -/
theorem WRp.dict {v : V} {kd : List (D × D)} (h : WRp K A H v (.dict kd)) (hs : ∀ xs, kd ≠ [(.none, .list xs)]) : ∃ a ks ds, v = .ref a ∧ H a = some (.dK ks) ∧ RpL K A H (ks.map (·.2)) ds ∧ kd = (ks.map fun p => keyD p.1).zip ds := by
  rcases h with h | ⟨a, e, h⟩
  · cases h with
    | scr h n r => exact absurd rfl (hs _)
    | kl h r => exact absurd rfl (hs _)
    | dic h n r e => exact ⟨_, _, _, rfl, h, r, e⟩
  · cases h with
    | dic h r z => exact ⟨_, _, _, e, h, r, z⟩
end
def oIxK : D → D → Option D
  | .dict kd, .int i => if (kd.any fun p => isNone p.1) then none else dGetD kd i
  | _, _ => none
def oInK : D → D → Option D
  | .int i, .dict kd => if (kd.any fun p => isNone p.1) then none else some (.bool (dHasD kd i))
  | _, _ => none
def oNotInK : D → D → Option D
  | .int i, .dict kd => if (kd.any fun p => isNone p.1) then none else some (.bool (!dHasD kd i))
  | _, _ => none
theorem no_scr {kd : List (D × D)} (h : ¬ (kd.any fun p => isNone p.1) = true) : ∀ xs, kd ≠ [(.none, .list xs)] := fun xs e => by
  subst e
  exact h rfl
section
variable {X : Cx} {O Ob Oc : List Nat} {m ma mb : Md} {k : Nat} {a b e : Expr} {fa fb f : Xp} {pos p1 p2 : Pos}
theorem hu1 {A : Around} (hr : Room k A) : A.units + 1 < cLine := by have := hr.un; omega
theorem se_new : SE X O .f (.Dict [] [] pos) (xC (.dict [])) := by
  refine ⟨pe_imp pe_dnewK fun σ H Q q => ?_⟩
  obtain ⟨H0, A0, G, ρ, B, d, S, e, k⟩ := q
  cases e
  exact fun p hp => k _ _ (same_upd hp) (.inl ⟨p, rfl, hp, .dic (ks := []) (ds := []) upd_same .nil rfl⟩)
theorem se_dget (hr : Room k X.A) (ha : SE X O ma a fa) (hb : SE X O mb b fb) (hs : NoSl b := by exact fun _ _ => rfl) : SE X O .s (.Subscript a b pos) (xBin oIxK fa fb) := by
  refine ⟨pe_imp (pe_dget (hu1 hr) ha.pe hb.pe hs) fun σ H Q q => ?_⟩
  obtain ⟨H0, A0, G, ρ, B, d, S, e, k⟩ := q
  obtain ⟨x, ex, e⟩ := bind2 e
  obtain ⟨y, ey, e⟩ := bind2 e
  refine ⟨H0, A0, G, ρ, B, x, S, ex, fun v H1 s1 r1 => ⟨H0, A0, G, ρ, B, y, S.mono s1, ey, fun u H2 s2 r2 => ?_⟩⟩
  unfold oIxK at e
  split at e
  · split at e
    · cases e
    · rename_i hn
      obtain ⟨t, ks, ds, rfl, ht, rt, ek⟩ := (r1.toW.mono s2).dict (no_scr hn)
      rw [ek] at e
      obtain ⟨w, ew, rw'⟩ := dget_some rt e
      exact ⟨t, w, rfl, by rw [← ew, r2.toW.int]; exact DGet.k (k := Sum.inl _) ht, k _ H2 (s1.trans s2) rw'⟩
  · cases e
theorem se_dset_dummy : True := trivial
theorem tIn_of {g : D → D → Option D} (σ : L2.St) (H : Hp) (Q : VK) (hg : ∀ x y z, g x y = some z → ∃ i kd, x = .int i ∧ y = .dict kd ∧ ¬ (kd.any fun p => isNone p.1) = true ∧ z = .bool (dHasD kd i)) (q : simT X.K O .f (xBin g fa fb) σ H Q) : tDIn (simT X.K O ma fa) (simT X.K O mb fb) σ H Q := by
  obtain ⟨H0, A0, G, ρ, B, d, S, e, k⟩ := q
  obtain ⟨x, ex, e⟩ := bind2 e
  obtain ⟨y, ey, e⟩ := bind2 e
  obtain ⟨i, kd, rfl, rfl, hn, rfl⟩ := hg _ _ _ e
  refine ⟨H0, A0, G, ρ, B, _, S, ex, fun v H1 s1 r1 => ⟨H0, A0, G, ρ, B, _, S.mono s1, ey, fun u H2 s2 r2 => ?_⟩⟩
  obtain ⟨t, ks, ds, rfl, ht, rt, ek⟩ := r2.toW.dict (no_scr hn)
  refine ⟨t, valV ks (Sum.inl i), rfl, by rw [r1.toW.int]; exact DGet.k (k := Sum.inl _) ht, k _ H2 (s1.trans s2) ?_⟩
  rw [ek, dhas_eq rt]
  exact Res.bl
theorem tNotIn_of {g : D → D → Option D} (σ : L2.St) (H : Hp) (Q : VK) (hg : ∀ x y z, g x y = some z → ∃ i kd, x = .int i ∧ y = .dict kd ∧ ¬ (kd.any fun p => isNone p.1) = true ∧ z = .bool (!dHasD kd i)) (q : simT X.K O .f (xBin g fa fb) σ H Q) : tDNotIn (simT X.K O ma fa) (simT X.K O mb fb) σ H Q := by
  obtain ⟨H0, A0, G, ρ, B, d, S, e, k⟩ := q
  obtain ⟨x, ex, e⟩ := bind2 e
  obtain ⟨y, ey, e⟩ := bind2 e
  obtain ⟨i, kd, rfl, rfl, hn, rfl⟩ := hg _ _ _ e
  refine ⟨H0, A0, G, ρ, B, _, S, ex, fun v H1 s1 r1 => ⟨H0, A0, G, ρ, B, _, S.mono s1, ey, fun u H2 s2 r2 => ?_⟩⟩
  obtain ⟨t, ks, ds, rfl, ht, rt, ek⟩ := r2.toW.dict (no_scr hn)
  refine ⟨t, valV ks (Sum.inl i), rfl, by rw [r1.toW.int]; exact DGet.k (k := Sum.inl _) ht, k _ H2 (s1.trans s2) ?_⟩
  rw [ek, dhas_eq rt]
  exact Res.bl
theorem inK_shape {x y z : D} (h : oInK x y = some z) : ∃ i kd, x = .int i ∧ y = .dict kd ∧ ¬ (kd.any fun p => isNone p.1) = true ∧ z = .bool (dHasD kd i) := by
  unfold oInK at h
  split at h
  · split at h
    · cases h
    · rename_i hn
      cases h
      exact ⟨_, _, rfl, rfl, hn, rfl⟩
  · cases h
theorem notInK_shape {x y z : D} (h : oNotInK x y = some z) : ∃ i kd, x = .int i ∧ y = .dict kd ∧ ¬ (kd.any fun p => isNone p.1) = true ∧ z = .bool (!dHasD kd i) := by
  unfold oNotInK at h
  split at h
  · split at h
    · cases h
    · rename_i hn
      cases h
      exact ⟨_, _, rfl, rfl, hn, rfl⟩
  · cases h
theorem se_din (hr : Room k X.A) (ha : SE X O ma a fa) (hb : SE X O mb b fb) (hm : behindInMarks .In b = false := by rfl) : SE X O .f (.Compare a [.In] [b] pos) (xBin oInK fa fb) := ⟨pe_imp (pe_cmp (pc_din (hu1 hr) ha.pe hb.pe) hm) fun σ H Q q => tIn_of σ H Q (fun _ _ _ => inK_shape) q⟩
theorem se_dnotin (hr : Room k X.A) (ha : SE X O ma a fa) (hb : SE X O mb b fb) (hm : behindInMarks .NotIn b = false := by rfl) : SE X O .f (.Compare a [.NotIn] [b] pos) (xBin oNotInK fa fb) := ⟨pe_imp (pe_cmp (pc_dnotin (hu1 hr) ha.pe hb.pe) hm) fun σ H Q q => tNotIn_of σ H Q (fun _ _ _ => notInK_shape) q⟩
theorem tB_of {g : D → D → Option D} {t : TE} (σ : L2.St) (H : Hp) (Q : Bool → Hp → Prop) (ht : ∀ Q, simT X.K O .f (xBin g fa fb) σ H Q → t σ H Q) (q : simTT X.K O (tOf (xBin g fa fb)) σ H Q) : tB t σ H Q := by
  obtain ⟨H0, A0, G, ρ, B, b, S, e, k⟩ := q
  obtain ⟨d, ed, e⟩ := bind2 e
  have := dB_some e
  subst this
  exact ht _ ⟨H0, A0, G, ρ, B, _, S, ed, fun v H' s r => ⟨b, r.toW.bl, k H' s⟩⟩
theorem st_din (hr : Room k X.A) (ha : SE X O ma a fa) (hb : SE X O mb b fb) (hm : behindInMarks .In b = false := by rfl) : ST X O (.Compare a [.In] [b] pos) (tOf (xBin oInK fa fb)) := ⟨pt_imp (pt_cmp (pc_din (hu1 hr) ha.pe hb.pe) hm) fun σ H Q q => tB_of σ H Q (fun Q q => tIn_of σ H Q (fun _ _ _ => inK_shape) q) q⟩
theorem st_dnotin (hr : Room k X.A) (ha : SE X O ma a fa) (hb : SE X O mb b fb) (hm : behindInMarks .NotIn b = false := by rfl) : ST X O (.Compare a [.NotIn] [b] pos) (tOf (xBin oNotInK fa fb)) := ⟨pt_imp (pt_cmp (pc_dnotin (hu1 hr) ha.pe hb.pe) hm) fun σ H Q q => tB_of σ H Q (fun Q q => tNotIn_of σ H Q (fun _ _ _ => notInK_shape) q) q⟩
/-- x[j] = e, a dict -/
def sPutK (i : Nat) (fj f : Xp) : XS := fun ρ => (f ρ).bind fun y => (xVar i ρ).bind fun x => (fj ρ).bind fun j => match x, j with
  | .dict kd, .int j => if kd.length < 16777216 ∧ i < ρ.length then some (.nx (ρ.set i (some (.dict (dPutD kd j y))))) else none
  | _, _ => none
theorem ownK_of {K : PySem.W.Frag} {H0 H : Hp} {A0 : Addr → Prop} {G : List (V × D)} {σ : L2.St} {ρ : PEnv} {B : Nat → Option Addr} {i : Nat} {kd : List (D × D)} (S : Sim K H0 A0 G O σ H ρ B) (hi : O.contains i = true) (e : xVar i ρ = some (.dict kd)) : ∃ a ks ds, B i = some a ∧ σ[i]? = some (some (.ref a)) ∧ H a = some (.dK ks) ∧ RpL K (Av A0 B) H (ks.map (·.2)) ds ∧ kd = (ks.map fun p => keyD p.1).zip ds := by
  obtain ⟨a, h1, h2, h3⟩ := S.ob i _ (by simpa using hi) (getD_some e) rfl
  cases h3 with
  | dic h r z => exact ⟨a, _, _, h1, h2, h, r, z⟩
theorem ss_putK (i : Nat) {x : Str} {j : Expr} {fj : Xp} (hr : Room k X.A) (he : SE X O m e f) (hj : SE X O mb j fj) (hm : m ≠ .w := by decide) (hO : O.contains i = true := by rfl) (hN : X.N[i]? = some x := by rfl) (hv : Vis X.env.scope x := by first | exact Or.inl rfl | exact Or.inr (Or.inl rfl) | exact Or.inr (Or.inr rfl))
    (hd : (x == ("__debug__" : Str)) = false := by decide) (hcd : (x == ("__classdict__" : Str)) = false := by decide) (hs : swapsWith e (some (.Subscript (.Name x p1) j p2)) pos.line X.env = pure false := by rfl) : SS X O Ob Oc O (.Assign [.Subscript (.Name x p1) j p2] e pos) (sPutK i fj f) := by
  refine ⟨ps_imp (ps_dput (hu1 hr) (pe_var hN hv hd hcd) hj.pe he.pe hs) fun D σ H q => ?_⟩
  obtain ⟨H0, A0, G, ρ, B, o, S, e, k⟩ := q
  obtain ⟨y, ey, e⟩ := bind2 e
  obtain ⟨d, ed, e⟩ := bind2 e
  obtain ⟨z, ez, e⟩ := bind2 e
  split at e
  · split at e
    · rename_i hz
      cases e
      obtain ⟨a, ks, ds, hB, hσ, ha, ra, ek⟩ := ownK_of S hO ed
      refine ⟨H0, A0, G, ρ, B, y, S, ey, fun v H1 s1 r1 => ⟨.ref a, hσ, H0, A0, G, ρ, B, _, S.mono s1, ez, fun u H2 s2 r2 => ?_⟩⟩
      have s12 := s1.trans s2
      have S1 := S.mono s12
      have av : Av A0 B a := .inr ⟨i, hB⟩
      have hlen : ks.length < sizeLine := by
        have e1 : ks.length = ds.length := by simpa using ra.length
        have e2 := hz.1
        rw [ek, List.length_zip, List.length_map, e1, Nat.min_self] at e2
        rw [e1]
        exact e2
      obtain ⟨ds', r', e'⟩ := dput_ok (i := _) ((r1.toS S.tr hm).mono s2) (ra.mono s12)
      refine ⟨a, _, rfl, by rw [r2.toW.int]; exact DPut.k (k := Sum.inl _) (s12 _ _ ha) hlen, ?_⟩
      rw [ek] at k
      refine k _ _ B (S1.write hB hσ (.dic upd_same (r'.step (fun b o e n => ?_) fun _ z => .inl z) e') hz.2)
      rw [upd_ne (fun z => n (by rw [z]; exact av))]
      exact e
    · cases e
  · cases e

/-! ### the least and the greatest of ints -/
def bMinI : List D → Option D
  | [x] => (seqD x).bind fun xs => (asInts xs).bind fun ns => ns.min?.map .int
  | _ => none
def bMaxI : List D → Option D
  | [x] => (seqD x).bind fun xs => (asInts xs).bind fun ns => ns.max?.map .int
  | _ => none
theorem cb_minI (hc : X.calm = true := by rfl) : CallR X (.builtin "min") (rC X.K .f bMinI) := by
  intro pins s σ H vs us Q I r ⟨A, ds, d, tr, w, e, q⟩
  unfold bMinI at e
  split at e
  · obtain ⟨v, rfl, w1⟩ := p1 w
    obtain ⟨xs, e1, e⟩ := bind2 e
    obtain ⟨ns, e2, e⟩ := bind2 e
    obtain ⟨mn, e3, e⟩ := Option.map_eq_some_iff.mp e
    subst e
    obtain ⟨a, vs, rfl, ha, ra⟩ := w1.seq e1
    rw [ref1 r]
    have hv := ra.ints e2
    subst hv
    refine call_min_walk (sq_iter (show X.A.in1.handled = none from I.ok.hd hc) I ha fun its J fp wr St h₂ rv W st hfp kp => ?_)
    have hl := rv.length
    rw [List.length_map] at hl
    have hne : 0 < ns.length := by
      cases ns with
      | nil => simp at e3
      | cons _ _ => simp
    refine ⟨_, _, _, _, _, _, _, rfl, W, st, hfp, by omega, CmpOf.ints_lt (fun i => ns.getD i 0) (fun i v h => intsAt rv i v h), fun v h' tk hv hk => ?_⟩
    obtain ⟨t, rfl⟩ := intsAt rv _ _ hv
    obtain ⟨b1, b2⟩ := argBest_lt (fun i => ns.getD i 0) (its.length - 1)
    refine ⟨.int mn, H, I.kept (kp h' hk), ⟨t, ?_⟩, q _ H (Same.refl H) Res.int⟩
    congr 1
    rw [List.min?_eq_some_iff] at e3
    refine Int.le_antisymm ?_ ?_
    · obtain ⟨i, hi, e4⟩ := List.mem_iff_getElem.mp e3.1
      have := b2 i (by omega)
      simp only [List.getD_eq_getElem?_getD, List.getElem?_eq_getElem hi, Option.getD_some] at this
      rw [e4] at this
      simpa [List.getD_eq_getElem?_getD] using this
    · have hb : argBest (fun i j => decide (ns.getD i 0 < ns.getD j 0)) (its.length - 1) < ns.length := by
        have h1 : argBest (fun i j => decide (ns.getD i 0 < ns.getD j 0)) (its.length - 1) ≤ its.length - 1 := b1
        omega
      exact e3.2 _ (by rw [List.getD_eq_getElem?_getD, List.getElem?_eq_getElem hb]; exact List.getElem_mem hb)
  · cases e
end
end Pm

namespace Pm
open PySem PySem.Spec PyProof.Rows L2
/-! ### a def behind the top -/
abbrev FnP (K : PySem.W.Frag) (x : Str) (st : Stmt) (f : Addr) (fd : FuncData) : Prop := FunD K x x (defArgs st) (defBody st) (defScope st) [] [] f fd
theorem fnp_ok {P : Program} {w : World} {K : PySem.W.Frag} {mg : Str → Option Value} {base : Heap} {x : Str} {st : Stmt} {f : Addr} {fd : FuncData} {N ps : List Str} {k : Nat} {O' : List Nat} {g : XS} (F : FnP K x st f fd) (S : FnScope N ps (defScope st))
    (hb : ∀ (cdv : Value) (A : Around) (outer : List Env) (s : Shared) (H : Hp) (E : XK), Room k (A.deeper (envOfC x (defScope st) s.heap.objs.size f cdv)) → SSs (cxOf CX0 P w K mg base N x (defScope st) f cdv A outer s H E).nox [] [] [] O' (defBody st) g) :
    FnOk P w K mg base CX0 (k + 1) f fd ps (spD K ps.length (runD ps.length N.length g)) := by
  refine F.ok S (fun vs H Q E h => ?_) (fun cdv A outer s H vs Q E hr h => ?_)
  · obtain ⟨A, ds, d, t, hn, _⟩ := h
    exact hn
  · obtain ⟨A', ds, d, t, hn, r, e, q⟩ := h
    obtain ⟨o, eo, e⟩ := bind2 e
    refine ⟨_, PSs.nox (hb cdv A outer s H E hr).pss, H, A', [], _, fun _ => none, o, sim_start t r hn, eo, ?_⟩
    cases o with
    | nx ρ => cases e; exact fun σ' H' B' S' => q .non H' S'.same .non
    | rt d' => cases e; exact fun v H' s' r' => q v H' s' r'
    | bk ρ => cases e
    | ct ρ => cases e
/-- a def that is never called keeps every promise -/
theorem fn_none {P : Program} {w : World} {K : PySem.W.Frag} {mg : Str → Option Value} {base : Heap} {x : Str} {st : Stmt} {f : Addr} {fd : FuncData} {N ps : List Str} {k : Nat} (F : FnP K x st f fd) (S : FnScope N ps (defScope st)) : FnOk P w K mg base CX0 (k + 1) f fd ps (spD K ps.length fun _ => none) := by
  refine F.ok S (fun vs H Q E h => ?_) (fun cdv A outer s H vs Q E hr h => ?_)
  · obtain ⟨A, ds, d, t, hn, _⟩ := h
    exact hn
  · obtain ⟨A', ds, d, t, hn, r, e, q⟩ := h
    cases e
theorem rpl_ints {K : PySem.W.Frag} {A : Addr → Prop} {H : Hp} : ∀ ns : List Int, RpL K A H (ns.map V.int) (ns.map PyData.int)
  | [] => .nil
  | n :: ns => .cons (.int n) (rpl_ints ns)
/-- what the end asks of the law's def -/
theorem sp_law {K : PySem.W.Frag} {F : List D → Option D} {n : Nat} (hF : ∀ ns : List Int, ns.length ≤ n → F [scr (ns.map PyData.int)] = some (.bool true)) (H : Hp) (a : Addr) (ns : List Int) (hl : ns.length ≤ n) (_ : Only H) (hS : SqL K H a (ns.map V.int)) :
    spD K 1 F [.ref a] H (fun v _ => v = .bl true) fun _ _ _ => False := by
  refine ⟨fun _ => False, [scr (ns.map PyData.int)], .bool true, fun _ z => z.elim, rfl, .cons ?_ .nil, hF ns hl, fun v H' s r => ?_⟩
  · rcases hS with h | h
    · exact .scr h id (rpl_ints ns)
    · exact .kl h (rpl_ints ns)
  · cases r
    rfl
end Pm

/-! Pm: ranges laid out at once. -/
namespace Pm
open PySem PySem.Spec PyProof.Rows L2
def oRgT (lo hi : Int) : Option (List D) := if -(2 ^ 62) ≤ lo ∧ lo < 2 ^ 62 ∧ -(2 ^ 62) ≤ hi ∧ hi < 2 ^ 62 ∧ (hi - lo).toNat ≤ 2 ^ 24 then some (rangeD lo 1 (hi - lo).toNat) else none
def oTupR1 : D → Option D
  | .int n => (oRgT 0 n).map .tuple
  | _ => none
def oLstR1 : D → Option D
  | .int n => (oRgT 0 n).map .list
  | _ => none
def oTupR2 : D → D → Option D
  | .int a, .int n => (oRgT a n).map .tuple
  | _, _ => none
def oLstR2 : D → D → Option D
  | .int a, .int n => (oRgT a n).map .list
  | _, _ => none
theorem rpl_rg {K : PySem.W.Frag} {A : Addr → Prop} {H : Hp} (a b : Int) : RpL K A H (rgV a b) (rangeD a 1 (b - a).toNat) := by
  unfold rgV rangeD
  induction List.range (b - a).toNat with
  | nil => exact .nil
  | cons i r ih =>
    refine .cons ?_ ih
    have e : a + (i : Nat) * 1 = a + (i : Nat) := by rw [Int.mul_one]
    show Rp K A H (V.int (a + (i : Nat))) (PyData.int (a + (i : Nat) * 1))
    rw [e]
    exact .int _
section
variable {X : Cx} {O : List Nat} {m m' : Md} {a b : Expr} {fa fb : Xp} {p p2 pos pos2 : Pos}
theorem se_tupR1 (h1 : X.mg "tuple" = none) (h2 : X.mg "range" = none) (ha : SE X O m a fa) (hc : X.calm = true := by rfl) (hg : L2.Gl X "tuple" := by rfl) (hg2 : L2.Gl X "range" := by rfl) (na : starEach [a] X.env = (false, eval a X.env) :: starEach [] X.env := by rfl)
    (na2 : starEach [Expr.Call (.Name "range" p) [a] [] pos] X.env = (false, eval (Expr.Call (.Name "range" p) [a] [] pos) X.env) :: starEach [] X.env := by rfl) : SE X O .f (.Call (.Name "tuple" p2) [.Call (.Name "range" p) [a] [] pos] [] pos2) (xUn oTupR1 fa) := by
  refine ⟨pe_imp (pe_tupRg hc hg h1 (prg_1 hg2 h2 ha.pe na) na2) fun σ H Q q => ?_⟩
  obtain ⟨H0, A0, G, ρ, B, d, S, e, k⟩ := q
  obtain ⟨y, ey, e⟩ := bind2 e
  refine ⟨H0, A0, G, ρ, B, y, S, ey, fun v H1 s1 r1 => ?_⟩
  unfold oTupR1 at e
  split at e
  · obtain ⟨ds, e1, e⟩ := Option.map_eq_some_iff.mp e
    subst e
    unfold oRgT at e1
    split at e1
    · rename_i hz
      cases e1
      exact ⟨_, r1.toW.int, ⟨hz.1, hz.2.1, hz.2.2.1, hz.2.2.2.1, hz.2.2.2.2⟩, fun q hq => k _ _ (s1.trans (same_upd hq)) (Res.flat (Rp.newT (S.mono s1).tr hq (rpl_rg _ _)) rfl)⟩
    · cases e1
  · cases e
theorem se_lstR1 (h1 : X.mg "list" = none) (h2 : X.mg "range" = none) (ha : SE X O m a fa) (hc : X.calm = true := by rfl) (hg : L2.Gl X "list" := by rfl) (hg2 : L2.Gl X "range" := by rfl) (na : starEach [a] X.env = (false, eval a X.env) :: starEach [] X.env := by rfl)
    (na2 : starEach [Expr.Call (.Name "range" p) [a] [] pos] X.env = (false, eval (Expr.Call (.Name "range" p) [a] [] pos) X.env) :: starEach [] X.env := by rfl) : SE X O .f (.Call (.Name "list" p2) [.Call (.Name "range" p) [a] [] pos] [] pos2) (xUn oLstR1 fa) := by
  refine ⟨pe_imp (pe_listRg hc hg h1 (prg_1 hg2 h2 ha.pe na) na2) fun σ H Q q => ?_⟩
  obtain ⟨H0, A0, G, ρ, B, d, S, e, k⟩ := q
  obtain ⟨y, ey, e⟩ := bind2 e
  refine ⟨H0, A0, G, ρ, B, y, S, ey, fun v H1 s1 r1 => ?_⟩
  unfold oLstR1 at e
  split at e
  · obtain ⟨ds, e1, e⟩ := Option.map_eq_some_iff.mp e
    subst e
    unfold oRgT at e1
    split at e1
    · rename_i hz
      cases e1
      exact ⟨_, r1.toW.int, ⟨hz.1, hz.2.1, hz.2.2.1, hz.2.2.2.1, hz.2.2.2.2⟩, fun q hq => k _ _ (s1.trans (same_upd hq)) (Res.newL (S.mono s1).tr hq (rpl_rg _ _) s1)⟩
    · cases e1
  · cases e
end
section
variable {X : Cx} {O : List Nat} {e : Expr} {es : List Expr} {fs : XL} {pos p : Pos} {k j : Nat} {x : Str} {ps : List Str} {F : List D → Option D} {P : Program} {w : World} {K : PySem.W.Frag} {mg : Str → Option Value} {base : Heap} {A : Around}
/-- a call of a def of the text, the context's parts by name -/
theorem se_callD (hd : Def P w K mg base k x ps F) (hr : Room j A) (ha : SA X O true (e :: es) fs) (hk : k ≤ j := by decide) (hX : X.prog = P ∧ X.w = w ∧ X.K = K ∧ X.mg = mg ∧ X.base = base ∧ X.A = A := by exact ⟨rfl, rfl, rfl, rfl, rfl, rfl⟩) (hl : (e :: es).length = ps.length := by rfl) (hg : L2.Gl X x := by rfl) (hdb : (x == ("__debug__" : Str)) = false := by decide)
    (he : starEach (e :: es) X.env = (false, eval e X.env) :: starEach es X.env := by rfl) (hpl : (backTo pos (starEach es X.env)).any (·.1) = false := by rfl) : SE X O .s (.Call (.Name x p) (e :: es) [] pos) (xCall (fun ds => if ds.length = ps.length then F ds else none) fs) := by
  obtain ⟨rfl, rfl, rfl, rfl, rfl, rfl⟩ := hX
  exact se_call hd hr ha hk hl hg hdb he hpl
theorem se_callWD (hd : Def P w K mg base k x ps F) (hr : Room j A) (ha : SA X O false (e :: es) fs) (hk : k ≤ j := by decide) (hX : X.prog = P ∧ X.w = w ∧ X.K = K ∧ X.mg = mg ∧ X.base = base ∧ X.A = A := by exact ⟨rfl, rfl, rfl, rfl, rfl, rfl⟩) (hg : L2.Gl X x := by rfl) (hdb : (x == ("__debug__" : Str)) = false := by decide)
    (he : starEach (e :: es) X.env = (false, eval e X.env) :: starEach es X.env := by rfl) (hpl : (backTo pos (starEach es X.env)).any (·.1) = false := by rfl) : SE X O .f (.Call (.Name x p) (e :: es) [] pos) (xCall (fun ds => if ds.length = ps.length then (F ds).bind fun d => if flat d then some d else none else none) fs) := by
  obtain ⟨rfl, rfl, rfl, rfl, rfl, rfl⟩ := hX
  exact se_callW hd hr ha hk hg hdb he hpl
end
end Pm

/-! Pm: a tuple taken once. -/
namespace Pm
open PySem PySem.Spec PyProof.Rows L2
theorem tuple_mul1 (l : Addr) (items : Array Value) (n : Nat) (dd : Option Addr) (sl : Array (Option Value)) (x : Int) (u : Tok) (c0 : (decide (x < -(2 ^ 63)) || decide (x ≥ 2 ^ 63)) = false) (c1 : (items.isEmpty || x == 1) = true) :
    Meets (Builtin.«tuple.__mul__» ⟨[.ref l, .int x u], []⟩) (fun _ R s => s.heap.get? l = some { cls := .type "tuple", dict := dd, data := .seq items n, slots := sl } ∧
      R (.ok (.ret (Value.ref l))) s) :=
  .of_wp fun prog w A R s h => by
    obtain ⟨hp, g, d, tk, os⟩ := s
    obtain ⟨hl, h⟩ := h
    have f1 := AutoSeq1.idx_int
    wp_walk using wpAny_loadPart' hl
    repeat (first
      | (refine wpAny_ite_false (decide_eq_false (by rw [c0]; exact Bool.false_ne_true)) ?_; wp_walk using wpAny_loadPart' hl)
      | (refine wpAny_ite_true (decide_eq_true c1) ?_; wp_walk using wpAny_loadPart' hl))
    exact ⟨_, rfl, h⟩
theorem tuple_mul0 (l : Addr) (items : Array Value) (n : Nat) (dd : Option Addr) (sl : Array (Option Value)) (x : Int) (u : Tok) (c0 : (decide (x < -(2 ^ 63)) || decide (x ≥ 2 ^ 63)) = false) (c1 : (items.isEmpty || x == 1) = false) (c2 : (decide (x ≤ 0) || items.isEmpty) = true) :
    Meets (Builtin.«tuple.__mul__» ⟨[.ref l, .int x u], []⟩) (fun _ R s => s.heap.get? l = some { cls := .type "tuple", dict := dd, data := .seq items n, slots := sl } ∧
      R (.ok (.ret (Value.ref s.heap.objs.size))) { s with heap := s.heap.push { cls := Value.type "tuple", data := Data.seq #[] }, toks := s.toks }) :=
  .of_wp fun prog w A R s h => by
    obtain ⟨hp, g, d, tk, os⟩ := s
    obtain ⟨hl, h⟩ := h
    have f1 := AutoSeq1.idx_int
    wp_walk using wpAny_loadPart' hl
    repeat (first
      | (refine wpAny_ite_false (decide_eq_false (by rw [c0]; exact Bool.false_ne_true)) ?_; wp_walk using wpAny_loadPart' hl)
      | (refine wpAny_ite_false (decide_eq_false (by rw [c1]; exact Bool.false_ne_true)) ?_; wp_walk using wpAny_loadPart' hl)
      | (refine wpAny_ite_true (decide_eq_true c2) ?_; wp_walk using wpAny_loadPart' hl))
    exact ⟨_, rfl, h⟩
def rRepS (K : PySem.W.Frag) : R2 := fun x y H Q => ∃ l k xs, x = .ref l ∧ y = .int k ∧ SqT K H l xs ∧ -(2 ^ 62) ≤ k ∧ k ≤ 1000 ∧ (xs = [] ∨ k = 1) ∧ Q (.ref l) H
def rRep0 (K : PySem.W.Frag) : R2 := fun x y H Q => ∃ l k xs, x = .ref l ∧ y = .int k ∧ SqT K H l xs ∧ -(2 ^ 62) ≤ k ∧ k ≤ 0 ∧ xs ≠ [] ∧ ∀ p, H p = none → Q (.ref p) (upd H p (.tup []))
section
variable {X : Cx}
theorem op_repS : OpR X (binaryOp .Mult) (rRepS X.K) := by
  intro pins s σ H x y v u Q I rx ry h
  obtain ⟨l, k, xs, rfl, rfl, hT, h1, h2, hz, q⟩ := h
  cases rx
  obtain ⟨t, rfl⟩ := ry
  obtain ⟨its, r, ⟨⟨cls, dd, data, sl⟩, ho, hc, n, hd⟩, hs⟩ := I.tuple hT
  simp only at hc hd
  subst hc hd
  have c0 : (decide (k < -(2 ^ 63)) || decide (k ≥ 2 ^ 63)) = false := by
    rw [decide_eq_false (by omega), decide_eq_false (by omega)] <;> rfl
  have c1 : (its.toArray.isEmpty || k == 1) = true := by
    rcases hz with hz | hz
    · subst hz
      cases r
      rfl
    · rw [hz, Bool.or_eq_true]
      exact .inr rfl
  exact wpAny_binaryOp_repeat_ref (T := "tuple") (U := "int") (by decide) ⟨_, ho, rfl⟩ (fun s' => typeIs_int s' k t) noFill_tuple_mul F.fills_int_mul F.slot_int_rmul repeat_tuple F.slot_int_index.lookup
    (call_meets F.slot_int_rmul (typeIs_int s k t) F.entry_int_rmul (F.args_int_rmul_2 _ _) (int_rmul_tuple k t l its.toArray n dd sl)
      ⟨ho, rfl, ⟨_, ho, rfl⟩, call_meets F.slot_tuple_mul ⟨_, ho, rfl⟩ F.entry_tuple_mul (F.args_tuple_mul_2 _ _) (tuple_mul1 l its.toArray n dd sl k t c0 c1) ⟨ho, ⟨.ref l, H, I, rfl, q⟩⟩⟩)
theorem op_rep0 : OpR X (binaryOp .Mult) (rRep0 X.K) := by
  intro pins s σ H x y v u Q I rx ry h
  obtain ⟨l, k, xs, rfl, rfl, hT, h1, h2, hz, q⟩ := h
  cases rx
  obtain ⟨t, rfl⟩ := ry
  obtain ⟨its, r, ⟨⟨cls, dd, data, sl⟩, ho, hc, n, hd⟩, hs⟩ := I.tuple hT
  simp only at hc hd
  subst hc hd
  have c0 : (decide (k < -(2 ^ 63)) || decide (k ≥ 2 ^ 63)) = false := by
    rw [decide_eq_false (by omega), decide_eq_false (by omega)] <;> rfl
  have hi : its.toArray.isEmpty = false := by
    cases r with
    | nil => exact absurd rfl hz
    | cons => rfl
  have c1 : (its.toArray.isEmpty || k == 1) = false := by
    rw [hi, Bool.false_or]
    exact beq_eq_false_iff_ne.mpr (by omega)
  have c2 : (decide (k ≤ 0) || its.toArray.isEmpty) = true := by
    rw [decide_eq_true h2, Bool.true_or]
  refine wpAny_binaryOp_repeat_ref (T := "tuple") (U := "int") (by decide) ⟨_, ho, rfl⟩ (fun s' => typeIs_int s' k t) noFill_tuple_mul F.fills_int_mul F.slot_int_rmul repeat_tuple F.slot_int_index.lookup
    (call_meets F.slot_int_rmul (typeIs_int s k t) F.entry_int_rmul (F.args_int_rmul_2 _ _) (int_rmul_tuple k t l its.toArray n dd sl)
      ⟨ho, rfl, ⟨_, ho, rfl⟩, call_meets F.slot_tuple_mul ⟨_, ho, rfl⟩ F.entry_tuple_mul (F.args_tuple_mul_2 _ _) (tuple_mul0 l its.toArray n dd sl k t c0 c1 c2) ⟨ho, ?_⟩⟩)
  refine ⟨.ref s.heap.objs.size, _, I.laid (t' := s.toks) (o := .tup []) (fun b ob q => Heap.get?_push_of_some _ q) (Nat.le_refl _) ?_, rfl, q _ (I.hok.fresh (Nat.le_refl _))⟩
  exact ⟨Nat.zero_le _, [], .nil, IsTup.new _ _⟩
end
/-- the product, tuples any number of times -/
def oMul' : D → D → Option D
  | .tuple a, .int k => if -(2 ^ 62) ≤ k ∧ k ≤ 1000 ∧ a.length ≤ 1000 then some (.tuple (List.replicate k.toNat a).flatten) else none
  | x, y => oMul x y
theorem op_mulD' {X : Cx} : OpR X (binaryOp .Mult) (rD X.K .f oMul') := by
  intro pins s σ H x y v u Q I rx ry h
  obtain ⟨A, dx, dy, d, tr, wx, wy, e, q⟩ := id h
  unfold oMul' at e
  split at e
  · rename_i a k
    split at e
    · rename_i hz
      cases e
      obtain ⟨l, xs, rfl, ha, na, ra⟩ := wx.tup
      by_cases h1 : xs = [] ∨ k = 1
      · refine op_repS pins s σ H _ _ v u Q I rx ry ⟨l, k, xs, rfl, wy.int, .of ha, hz.1, hz.2.1, h1, ?_⟩
        have e : (List.replicate k.toNat a).flatten = a := by
          rcases h1 with h1 | h1
          · subst h1
            cases ra
            simp
          · subst h1
            simp
        rw [e] at q
        exact q _ H (Same.refl H) (Res.flat (.tup ha na ra) rfl)
      · have h2 : xs ≠ [] := fun z => h1 (.inl z)
        by_cases h3 : k ≤ 0
        · refine op_rep0 pins s σ H _ _ v u Q I rx ry ⟨l, k, xs, rfl, wy.int, .of ha, hz.1, h3, h2, fun p hp => ?_⟩
          have e : (List.replicate k.toNat a).flatten = [] := by
            rw [Int.toNat_of_nonpos h3]
            rfl
          rw [e] at q
          exact q _ _ (same_upd hp) (Res.flat (Rp.newT tr hp .nil) rfl)
        · have h4 : k ≠ 1 := fun z => h1 (.inr z)
          exact op_repT pins s σ H _ _ v u Q I rx ry ⟨l, k, xs, rfl, wy.int, .of ha, h2, by omega, hz.2.1, by rw [ra.length]; exact hz.2.2, fun p hp => q _ _ (same_upd hp) (Res.flat (Rp.newT tr hp (ra.rep _)) rfl)⟩
    · cases e
  · exact op_mulD pins s σ H x y v u Q I rx ry ⟨A, dx, dy, d, tr, wx, wy, e, q⟩
end Pm

/-! Pm: plain facts for reading the printed functions. -/
namespace Pm
open PySem PySem.Spec PyProof.Rows L2
/-! ### loops -/
theorem whileF_succ (c : PEnv → Option Bool) (b : XS) (n : Nat) (ρ : PEnv) : whileF c b (n + 1) ρ = (c ρ).bind fun t => if t then (b ρ).bind fun o => match o with
      | .nx ρ2 => whileF c b n ρ2
      | .ct ρ2 => whileF c b n ρ2
      | .bk ρ2 => some (.nx ρ2)
      | .rt d => some (.rt d)
    else some (.nx ρ) := rfl
/-- a loop that goes on n turns and ends -/
theorem whileF_run {c : PEnv → Option Bool} {b : XS} {f : Nat → PEnv} {n N : Nat} (hN : n < N) (ht : ∀ i, i < n → c (f i) = some true) (hb : ∀ i, i < n → b (f i) = some (.nx (f (i + 1)))) (he : c (f n) = some false) : whileF c b N (f 0) = some (.nx (f n)) := by
  suffices h : ∀ k i, i + k = n → ∀ N, k < N → whileF c b N (f i) = some (.nx (f n)) from h n 0 (by omega) N hN
  intro k
  induction k with
  | zero =>
    intro i hi N hN
    obtain ⟨N, rfl⟩ : ∃ M, N = M + 1 := ⟨N - 1, by omega⟩
    have : i = n := by omega
    subst this
    simp [whileF_succ, he]
  | succ k ih =>
    intro i hi N hN
    obtain ⟨N, rfl⟩ : ∃ M, N = M + 1 := ⟨N - 1, by omega⟩
    simp [whileF_succ, ht i (by omega), hb i (by omega)]
    exact ih (i + 1) (by omega) N (by omega)
theorem forL_nil (g : D → PEnv → Option PEnv) (b : XS) (ρ : PEnv) : forL g b [] ρ = some (.nx ρ) := rfl
/-- a loop whose turns fold -/
theorem forL_fold {α : Type} {g : D → PEnv → Option PEnv} {b : XS} (f : α → PEnv) (st : α → D → α) (P : α → List D → Prop) (hb : ∀ a d ds, P a (d :: ds) → (g d (f a)).bind b = some (.nx (f (st a d))) ∧ P (st a d) ds) :
    ∀ (ds : List D) (a : α), P a ds → forL g b ds (f a) = some (.nx (f (ds.foldl st a)))
  | [], a, _ => rfl
  | d :: ds, a, h => by
    obtain ⟨h1, h2⟩ := hb a d ds h
    obtain ⟨ρ1, e1, e2⟩ := bind2 h1
    simp only [forL, e1, e2, Option.bind_some, List.foldl_cons]
    exact forL_fold f st P hb ds _ h2
/-- a loop by an invariant over what is done and what is left -/
theorem forL_inv {β : Type} {g : D → PEnv → Option PEnv} {b : XS} (enc : β → D) (I : List β → List β → PEnv → Prop)
    (hb : ∀ pre x rest ρ, I pre (x :: rest) ρ → ∃ ρ1 ρ2, g (enc x) ρ = some ρ1 ∧ (b ρ1 = some (.nx ρ2) ∨ b ρ1 = some (.ct ρ2)) ∧ I (pre ++ [x]) rest ρ2) :
    ∀ (xs pre : List β) (ρ : PEnv), I pre xs ρ → ∃ ρ', forL g b (xs.map enc) ρ = some (.nx ρ') ∧ I (pre ++ xs) [] ρ'
  | [], pre, ρ, h => ⟨ρ, rfl, by rwa [List.append_nil]⟩
  | x :: xs, pre, ρ, h => by
    obtain ⟨ρ1, ρ2, e1, e2, h2⟩ := hb pre x xs ρ h
    obtain ⟨ρ', e3, h3⟩ := forL_inv enc I hb xs (pre ++ [x]) ρ2 h2
    refine ⟨ρ', ?_, by rwa [List.append_assoc] at h3⟩
    rcases e2 with e2 | e2
    · simp only [List.map_cons, forL, e1, e2, Option.bind_some, e3]
    · simp only [List.map_cons, forL, e1, e2, Option.bind_some, e3]
/-- the same where a turn may end the def -/
theorem forL_inv' {β : Type} {g : D → PEnv → Option PEnv} {b : XS} (enc : β → D) (I : List β → List β → PEnv → Prop) (R : D → Prop)
    (hb : ∀ pre x rest ρ, I pre (x :: rest) ρ → ∃ ρ1, g (enc x) ρ = some ρ1 ∧ ((∃ ρ2, (b ρ1 = some (.nx ρ2) ∨ b ρ1 = some (.ct ρ2)) ∧ I (pre ++ [x]) rest ρ2) ∨ ∃ d, b ρ1 = some (.rt d) ∧ R d)) :
    ∀ (xs pre : List β) (ρ : PEnv), I pre xs ρ → (∃ ρ', forL g b (xs.map enc) ρ = some (.nx ρ') ∧ I (pre ++ xs) [] ρ') ∨ ∃ d, forL g b (xs.map enc) ρ = some (.rt d) ∧ R d
  | [], pre, ρ, h => .inl ⟨ρ, rfl, by rwa [List.append_nil]⟩
  | x :: xs, pre, ρ, h => by
    obtain ⟨ρ1, e1, h | ⟨d, e2, h2⟩⟩ := hb pre x xs ρ h
    · obtain ⟨ρ2, e2, h2⟩ := h
      rcases forL_inv' enc I R hb xs (pre ++ [x]) ρ2 h2 with ⟨ρ', e3, h3⟩ | ⟨d, e3, h3⟩
      · refine .inl ⟨ρ', ?_, by rwa [List.append_assoc] at h3⟩
        rcases e2 with e2 | e2
        · simp only [List.map_cons, forL, e1, e2, Option.bind_some, e3]
        · simp only [List.map_cons, forL, e1, e2, Option.bind_some, e3]
      · refine .inr ⟨d, ?_, h3⟩
        rcases e2 with e2 | e2
        · simp only [List.map_cons, forL, e1, e2, Option.bind_some, e3]
        · simp only [List.map_cons, forL, e1, e2, Option.bind_some, e3]
    · exact .inr ⟨d, by simp only [List.map_cons, forL, e1, e2, Option.bind_some], h2⟩
/-! ### comprehensions -/
theorem lcL_map {α : Type} {g : XG} {f : Xp} {ρ : PEnv} (enc h : α → D) : ∀ (xs : List α), (∀ x ∈ xs, (g (enc x) ρ).bind f = some (h x)) → lcL g tYesP f ρ (xs.map enc) = some (xs.map h)
  | [], _ => rfl
  | x :: xs, hx => by
    obtain ⟨ρ1, e1, e2⟩ := bind2 (hx x (List.mem_cons_self ..))
    have := lcL_map (g := g) (f := f) (ρ := ρ) enc h xs fun y hy => hx y (List.mem_cons_of_mem _ hy)
    simp only [List.map_cons, lcL, e1, e2, tYesP, Option.bind_some, if_true, this]
theorem lcL_filter {α : Type} {g : XG} {t : PEnv → Option Bool} {f : Xp} {ρ : PEnv} (enc h : α → D) (p : α → Bool) : ∀ (xs : List α), (∀ x ∈ xs, ∃ ρ1, g (enc x) ρ = some ρ1 ∧ t ρ1 = some (p x) ∧ (p x = true → f ρ1 = some (h x))) → lcL g t f ρ (xs.map enc) = some ((xs.filter p).map h)
  | [], _ => rfl
  | x :: xs, hx => by
    obtain ⟨ρ1, e1, e2, e3⟩ := hx x (List.mem_cons_self ..)
    have := lcL_filter (g := g) (t := t) (f := f) (ρ := ρ) enc h p xs fun y hy => hx y (List.mem_cons_of_mem _ hy)
    by_cases hp : p x = true
    · simp only [List.map_cons, lcL, e1, e2, hp, e3 hp, Option.bind_some, if_true, this, List.filter_cons_of_pos]
    · simp only [List.map_cons, lcL, e1, e2, hp, Option.bind_some, if_false, this, List.filter_cons_of_neg, Bool.false_eq_true, not_false_eq_true]
/-! ### places, ranges -/
theorem atI_nat {α : Type} (xs : List α) (i : Nat) (h : i < xs.length) : atI xs (i : Int) = some xs[i] := by
  unfold atI ixN
  simp [h]
theorem cut_init (xs : List D) : cutD xs none (some (-1)) = xs.dropLast := by
  unfold cutD
  rw [HT.sIx_none, List.drop_zero, Nat.sub_zero, List.dropLast_eq_take]
  congr 1
  unfold HT.sIx
  simp
  omega
theorem asInts_map (xs : List Int) : asInts (xs.map PyData.int) = some xs := by
  induction xs with
  | nil => rfl
  | cons x xs ih => simp [asInts, ih]
theorem asBools_map (xs : List Bool) : asBools (xs.map PyData.bool) = some xs := by
  induction xs with
  | nil => rfl
  | cons x xs ih => simp [asBools, ih]
theorem oR1_nat (n : Nat) (h : n ≤ 16777216) : oR1 [.int n] = some ((List.range n).map fun i => PyData.int (i : Nat)) := by
  show (if (n : Int) ≤ 16777216 ∧ -(2 ^ 62) ≤ (n : Int) then some (rangeD 0 1 (n : Int).toNat) else none) = _
  rw [if_pos (by constructor <;> omega)]
  unfold rangeD
  simp
/-! ### sizes -/
theorem log2_lt_of {n k : Nat} (hk : 0 < k) (h : n < 2 ^ k) : n.log2 < k := by
  by_cases h0 : n = 0
  · subst h0
    simpa using hk
  · exact (Nat.log2_lt h0).mpr h
/-- small enough for every product and quotient -/
def Sm (k : Nat) (a : Int) : Prop := a.natAbs ≤ 2 ^ k
theorem Sm.mul {j k : Nat} {a b : Int} (h1 : Sm j a) (h2 : Sm k b) : Sm (j + k) (a * b) := by
  unfold Sm at *
  rw [Int.natAbs_mul, Nat.pow_add]
  exact Nat.mul_le_mul h1 h2
theorem Sm.mono {j k : Nat} {a : Int} (h : Sm j a) (hk : j ≤ k) : Sm k a := Nat.le_trans h (Nat.pow_le_pow_right (by decide) hk)
theorem Sm.add {k : Nat} {a b : Int} (h1 : Sm k a) (h2 : Sm k b) : Sm (k + 1) (a + b) := by
  unfold Sm at *
  have := Int.natAbs_add_le a b
  rw [Nat.pow_succ]
  omega
theorem Sm.le {k : Nat} {a b : Int} (h : Sm k a) (hb : b.natAbs ≤ a.natAbs) : Sm k b := Nat.le_trans hb h
theorem Sm.lit {k : Nat} {a : Int} (h : a.natAbs ≤ 1024 := by decide) (hk : 10 ≤ k := by omega) : Sm k a := Nat.le_trans h (Nat.pow_le_pow_right (n := 2) (by decide) hk)
theorem Sm.zero {k : Nat} : Sm k 0 := Nat.zero_le _
theorem Sm.neg {k : Nat} {a : Int} (h : Sm k a) : Sm k (-a) := by
  unfold Sm at *
  rwa [Int.natAbs_neg]
theorem Sm.sub {k : Nat} {a b : Int} (h1 : Sm k a) (h2 : Sm k b) : Sm (k + 1) (a - b) := h1.add h2.neg
theorem Sm.mulOk {j k : Nat} {a b : Int} (h1 : Sm j a) (h2 : Sm k b) (hj : j ≤ 4000) (hk : k ≤ 4000) : mulOk a b = true := by
  have l1 : a.natAbs.log2 < j + 1 := log2_lt_of (by omega) (Nat.lt_of_le_of_lt h1 (Nat.pow_lt_pow_right (by decide) (by omega)))
  have l2 : b.natAbs.log2 < k + 1 := log2_lt_of (by omega) (Nat.lt_of_le_of_lt h2 (Nat.pow_lt_pow_right (by decide) (by omega)))
  unfold Pm.mulOk
  rw [Bool.or_eq_true]
  exact .inr (decide_eq_true (by omega))
theorem Sm.divOk {k : Nat} {a : Int} (h : Sm k a) (h0 : a ≠ 0) (hk : k ≤ 8000) : divOk a = true := by
  have l1 : a.natAbs.log2 < k + 1 := log2_lt_of (by omega) (Nat.lt_of_le_of_lt h (Nat.pow_lt_pow_right (by decide) (by omega)))
  unfold Pm.divOk
  rw [Bool.and_eq_true]
  exact ⟨decide_eq_true h0, decide_eq_true (by omega)⟩
/-! ### fractions in lowest terms -/
/-- p / q in lowest terms, the lower part positive -/
def fr (p q : Int) : D := .tuple [.int (p / (Int.gcd p q : Int)), .int (q / (Int.gcd p q : Int))]
theorem gcd_pos_of {p q : Int} (hq : 0 < q) : 0 < Int.gcd p q := Int.gcd_pos_of_ne_zero_right p (by omega)
theorem fr_scale {p q c : Int} (hq : 0 < q) (hc : 0 < c) : fr (p * c) (q * c) = fr p q := by
  unfold fr
  have g : Int.gcd (p * c) (q * c) = Int.gcd p q * c.natAbs := Int.gcd_mul_right p c q
  have e : ((c.natAbs : Nat) : Int) = c := Int.natAbs_of_nonneg (by omega)
  rw [g, Int.natCast_mul, e, Int.mul_ediv_mul_of_pos_left _ _ hc, Int.mul_ediv_mul_of_pos_left _ _ hc]
/-- its parts: p = p' g, q = q' g -/
theorem fr_parts (p : Int) {q : Int} (hq : 0 < q) : ∃ p' q' g : Int, fr p q = .tuple [.int p', .int q'] ∧ p = p' * g ∧ q = q' * g ∧ 0 < g ∧ 0 < q' ∧ p'.natAbs ≤ p.natAbs ∧ q'.natAbs ≤ q.natAbs := by
  have hg := gcd_pos_of (p := p) hq
  have hg' : 0 < (Int.gcd p q : Int) := by omega
  have d1 : (Int.gcd p q : Int) ∣ p := Int.gcd_dvd_left p q
  have d2 : (Int.gcd p q : Int) ∣ q := Int.gcd_dvd_right p q
  have e1 := Int.ediv_mul_cancel d1
  have e2 := Int.ediv_mul_cancel d2
  have n1 : (p / (Int.gcd p q : Int)).natAbs ≤ p.natAbs := by
    have := congrArg Int.natAbs e1
    rw [Int.natAbs_mul] at this
    rw [← this]
    exact Nat.le_mul_of_pos_right _ (by simpa using hg)
  have n2 : (q / (Int.gcd p q : Int)).natAbs ≤ q.natAbs := by
    have := congrArg Int.natAbs e2
    rw [Int.natAbs_mul] at this
    rw [← this]
    exact Nat.le_mul_of_pos_right _ (by simpa using hg)
  refine ⟨_, _, _, rfl, e1.symm, e2.symm, hg', ?_, n1, n2⟩
  exact Int.ediv_pos_of_pos_of_dvd hq (by omega) d2
theorem fr_eq {p q r s : Int} (hq : 0 < q) (hs : 0 < s) (h : p * s = r * q) : fr p q = fr r s := by
  rw [← fr_scale (p := p) hq hs, ← fr_scale (p := r) hs hq, h, Int.mul_comm q s]
theorem fr_inj {p q r s : Int} (hq : 0 < q) (hs : 0 < s) (h : fr p q = fr r s) : p * s = r * q := by
  obtain ⟨p1, q1, g, e1, rfl, rfl, _⟩ := fr_parts p hq
  obtain ⟨r1, s1, k, e2, rfl, rfl, _⟩ := fr_parts r hs
  rw [e1, e2] at h
  injection h with h
  injection h with h1 h
  injection h with h2 h
  injection h1 with h1
  injection h2 with h2
  subst h1 h2
  grind
end Pm

/-! Pm: the printed functions, read one step at a time. -/
namespace Pm
open PySem PySem.Spec PyProof.Rows L2
section
variable (ρ : PEnv)
def b2 (g : D → D → Option D) : Option D → Option D → Option D
  | some x, some y => g x y
  | _, _ => none
def c2 : Option D → Option (List D) → Option (List D)
  | some x, some xs => some (x :: xs)
  | _, _ => none
def sqO : Option Out → XS → Option Out
  | some (.nx ρ), h => h ρ
  | x, _ => x
def ifO {α : Type} : Option Bool → (PEnv → Option α) → (PEnv → Option α) → PEnv → Option α
  | some true, g, _, ρ => g ρ
  | some false, _, h, ρ => h ρ
  | none, _, _, _ => none
def stO (i : Nat) : Option D → PEnv → Option Out
  | some d, ρ => if i < ρ.length then some (.nx (ρ.set i (some d))) else none
  | none, _ => none
def endO : Option Out → Option D
  | some (.nx _) => some .none
  | some (.rt d) => some d
  | _ => none
def andO : Option D → Xp → PEnv → Option D
  | some (.bool true), f, ρ => f ρ
  | some (.bool false), _, _ => some (.bool false)
  | _, _, _ => none
def orO : Option D → Xp → PEnv → Option D
  | some (.bool true), _, _ => some (.bool true)
  | some (.bool false), f, ρ => f ρ
  | _, _, _ => none
def tyes : PEnv → Option Bool := fun _ => some true
def tno : PEnv → Option Bool := fun _ => some false
def mkT (ds : List D) : Option D := if ds.length ≤ 1000 then some (.tuple ds) else none
def mkL (ds : List D) : Option D := if ds.length ≤ 1000 then some (.list ds) else none
def chP (g' : D → D → Option D) (y : D) (fc : Xp) (ρ : PEnv) : Option D → Option D
  | some (.bool true) => b2 g' (some y) (fc ρ)
  | some (.bool false) => some (.bool false)
  | _ => none
def chO (g g' : D → D → Option D) : Option D → Option D → Xp → PEnv → Option D
  | some x, some y, fc, ρ => chP g' y fc ρ (g x y)
  | _, _, _, _ => none
def slO : Option D → Option (Option Int) → Option (Option Int) → Option D
  | some x, some i, some j => oSl x i j
  | _, _, _ => none
def atO : Option D → Option (Option Int)
  | some (.int i) => some (some i)
  | _ => none
def lcO (g : XG) (t : PEnv → Option Bool) (f : Xp) (ρ : PEnv) : Option (List D) → Option D
  | some ds => (lcL g t f ρ ds).map .list
  | none => none
def forO (g : D → PEnv → Option PEnv) (b : XS) (ρ : PEnv) : Option (List D) → Option Out
  | some ds => forL g b ds ρ
  | none => none
def gsO (gs : List D → PEnv → Option PEnv) (ds : List D) : Option PEnv → Option PEnv
  | some ρ => gs ds ρ
  | none => none
def nxO : Option PEnv → Option Out
  | some ρ => some (.nx ρ)
  | none => none
def tgO (g : D → PEnv → Option PEnv) : Option D → PEnv → Option Out
  | some d, ρ => nxO (g d ρ)
  | none, _ => none
def paO (is : List Nat) : Option (List D) → PEnv → Option Out
  | some ds, ρ => if is.all (fun i => decide (i < ρ.length)) && decide (ds.length = is.length) then some (.nx (setAll is ds ρ)) else none
  | none, _ => none
def apO (i : Nat) : Option D → Option D → PEnv → Option Out
  | some (.list xs), some y, ρ => if xs.length < 16777216 ∧ i < ρ.length then some (.nx (ρ.set i (some (.list (xs ++ [y]))))) else none
  | _, _, _ => none
def exO (i : Nat) : Option D → Option D → PEnv → Option Out
  | some (.list xs), some (.list ys), ρ => if xs.length + ys.length ≤ 16777216 ∧ i < ρ.length then some (.nx (ρ.set i (some (.list (xs ++ ys))))) else none
  | _, _, _ => none
def plO (i : Nat) (xs : List D) (y : D) (ρ : PEnv) : Option Nat → Option Out
  | some n => if i < ρ.length then some (.nx (ρ.set i (some (.list (xs.set n y))))) else none
  | none => none
def ptO (i : Nat) : Option D → Option D → Option D → PEnv → Option Out
  | some y, some (.list xs), some (.int j), ρ => plO i xs y ρ (ixN xs.length j)
  | _, _, _, _ => none
def pkO (i : Nat) : Option D → Option D → Option D → PEnv → Option Out
  | some y, some (.dict kd), some (.int j), ρ => if kd.length < 16777216 ∧ i < ρ.length then some (.nx (ρ.set i (some (.dict (dPutD kd j y))))) else none
  | _, _, _, _ => none
theorem xVar_a (i : Nat) : xVar i ρ = ρ.getD i none := rfl
theorem xC_a (d : D) : xC d ρ = some d := rfl
theorem xBin_a (g : D → D → Option D) (fa fb : Xp) : xBin g fa fb ρ = b2 g (fa ρ) (fb ρ) := by
  unfold xBin
  cases fa ρ <;> cases fb ρ <;> rfl
theorem xUn_a (g : D → Option D) (fa : Xp) : xUn g fa ρ = (fa ρ).bind g := rfl
theorem tOf_a (f : Xp) : tOf f ρ = (f ρ).bind dB := rfl
theorem tTru_a (f : Xp) : tTru f ρ = (f ρ).bind oTru := rfl
theorem tNotP_a (f : PEnv → Option Bool) : tNotP f ρ = (f ρ).map (!·) := rfl
theorem tAndP_a (f g : PEnv → Option Bool) : tAndP f g ρ = ifO (f ρ) g tno ρ := by
  unfold tAndP
  cases f ρ with
  | none => rfl
  | some b => cases b <;> rfl
theorem tOrP_a (f g : PEnv → Option Bool) : tOrP f g ρ = ifO (f ρ) tyes g ρ := by
  unfold tOrP
  cases f ρ with
  | none => rfl
  | some b => cases b <;> rfl
theorem tyes_a : tyes ρ = some true := rfl
theorem tno_a : tno ρ = some false := rfl
theorem tYesP_a : tYesP ρ = some true := rfl
theorem xNil_a : xNil ρ = some [] := rfl
theorem xCons_a (f : Xp) (fs : XL) : xCons f fs ρ = c2 (f ρ) (fs ρ) := by
  unfold xCons
  cases f ρ <;> cases fs ρ <;> rfl
theorem xTup_a (fs : XL) : xTup fs ρ = (fs ρ).bind mkT := rfl
theorem xLst_a (fs : XL) : xLst fs ρ = (fs ρ).bind mkL := rfl
theorem xAnd_a (fa fb : Xp) : xAnd fa fb ρ = andO (fa ρ) fb ρ := by
  unfold xAnd
  cases fa ρ with
  | none => rfl
  | some d => cases d with
    | bool b => cases b <;> rfl
    | _ => rfl
theorem xOr_a (fa fb : Xp) : xOr fa fb ρ = orO (fa ρ) fb ρ := by
  unfold xOr
  cases fa ρ with
  | none => rfl
  | some d => cases d with
    | bool b => cases b <;> rfl
    | _ => rfl
theorem xIf_a (c : PEnv → Option Bool) (fa fb : Xp) : xIf c fa fb ρ = ifO (c ρ) fa fb ρ := by
  unfold xIf
  cases c ρ with
  | none => rfl
  | some b => cases b <;> rfl
theorem xChain_a (g g' : D → D → Option D) (fa fb fc : Xp) : xChain g g' fa fb fc ρ = chO g g' (fa ρ) (fb ρ) fc ρ := by
  unfold xChain
  cases fa ρ with
  | none => rfl
  | some x => cases fb ρ with
    | none => rfl
    | some y =>
      simp only [Option.bind_some, chO]
      cases g x y with
      | none => rfl
      | some z => cases z with
        | bool b => cases b <;> (simp only [Option.bind_some, dB, chP]; cases fc ρ <;> rfl)
        | _ => rfl
theorem oNo_a : oNo ρ = some none := rfl
theorem oAt_a (f : Xp) : oAt f ρ = atO (f ρ) := by
  unfold oAt
  cases f ρ with
  | none => rfl
  | some d => cases d <;> rfl
theorem xSl_a (f : Xp) (lo hi : XO) : xSl f lo hi ρ = slO (f ρ) (lo ρ) (hi ρ) := by
  unfold xSl
  cases f ρ <;> cases lo ρ <;> cases hi ρ <;> rfl
theorem xCall_a (g : List D → Option D) (fs : XL) : xCall g fs ρ = (fs ρ).bind g := rfl
theorem xSeq_a (f : Xp) : xSeq f ρ = (f ρ).bind seqD := rfl
theorem xIt_a (g : List D → Option (List D)) (fs : XL) : xIt g fs ρ = (fs ρ).bind g := rfl
theorem xLc_a (it : XL) (g : XG) (t : PEnv → Option Bool) (f : Xp) (own : List Nat) : xLc it g t f own ρ = lcO g t f (wipeP ρ own) (it ρ) := by
  unfold xLc
  cases it ρ <;> rfl
theorem gSet_a (i : Nat) (d : D) : gSet i d ρ = if i < ρ.length then some (ρ.set i (some d)) else none := rfl
theorem gTupD_a (n : Nat) (g : List D → PEnv → Option PEnv) (ds : List D) : gTupD n g (.tuple ds) ρ = if ds.length = n then g ds ρ else none := rfl
theorem gsNil_a : gsNil [] ρ = some ρ := rfl
theorem gsCons_a (g : XG) (gs : List D → PEnv → Option PEnv) (d : D) (ds : List D) : gsCons g gs (d :: ds) ρ = gsO gs ds (g d ρ) := by
  show (g d ρ).bind (fun ρ' => gs ds ρ') = _
  cases g d ρ <;> rfl
theorem sNop_a : sNop ρ = some (.nx ρ) := rfl
theorem sBrk_a : sBrk ρ = some (.bk ρ) := rfl
theorem sCnt_a : sCnt ρ = some (.ct ρ) := rfl
theorem sSeq_a (g h : XS) : sSeq g h ρ = sqO (g ρ) h := by
  unfold sSeq
  cases g ρ with
  | none => rfl
  | some o => cases o <;> rfl
theorem sRet_a (f : Xp) : sRet f ρ = (f ρ).map .rt := rfl
theorem sIf_a (c : PEnv → Option Bool) (g h : XS) : sIf c g h ρ = ifO (c ρ) g h ρ := by
  unfold sIf
  cases c ρ with
  | none => rfl
  | some b => cases b <;> rfl
theorem sSet_a (i : Nat) (f : Xp) : sSet i f ρ = stO i (f ρ) ρ := by
  unfold sSet
  cases f ρ <;> rfl
theorem sTgt_a (g : D → PEnv → Option PEnv) (f : Xp) : sTgt g f ρ = tgO g (f ρ) ρ := by
  unfold sTgt
  cases f ρ with
  | none => rfl
  | some d =>
    show (g d ρ).map .nx = nxO (g d ρ)
    cases g d ρ <;> rfl
theorem sAug_a (i : Nat) (g : D → D → Option D) (f : Xp) : sAug i g f ρ = stO i (b2 g (ρ.getD i none) (f ρ)) ρ := by
  unfold sAug
  rw [xVar_a]
  cases ρ.getD i none with
  | none => rfl
  | some x => cases f ρ with
    | none => rfl
    | some y =>
      simp only [Option.bind_some, b2]
      cases g x y <;> rfl
theorem sApp_a (i : Nat) (f : Xp) : sApp i f ρ = apO i (ρ.getD i none) (f ρ) ρ := by
  unfold sApp
  rw [xVar_a]
  cases ρ.getD i none with
  | none => rfl
  | some x => cases f ρ with
    | none => cases x <;> rfl
    | some y => cases x <;> rfl
theorem sExt_a (i : Nat) (f : Xp) : sExt i f ρ = exO i (ρ.getD i none) (f ρ) ρ := by
  unfold sExt
  rw [xVar_a]
  cases ρ.getD i none with
  | none => rfl
  | some x => cases f ρ with
    | none => cases x <;> rfl
    | some y => cases x <;> cases y <;> rfl
theorem sPut_a (i : Nat) (fj f : Xp) : sPut i fj f ρ = ptO i (f ρ) (ρ.getD i none) (fj ρ) ρ := by
  unfold sPut
  rw [xVar_a]
  cases f ρ with
  | none => rfl
  | some y => cases ρ.getD i none with
    | none => rfl
    | some x => cases fj ρ with
      | none => cases x <;> rfl
      | some j => cases x with
        | list xs => cases j with
          | int j =>
            show (ixN xs.length j).bind _ = plO i xs y ρ (ixN xs.length j)
            cases ixN xs.length j <;> rfl
          | _ => rfl
        | _ => rfl
theorem sPutK_a (i : Nat) (fj f : Xp) : sPutK i fj f ρ = pkO i (f ρ) (ρ.getD i none) (fj ρ) ρ := by
  unfold sPutK
  rw [xVar_a]
  cases f ρ with
  | none => rfl
  | some y => cases ρ.getD i none with
    | none => rfl
    | some x => cases fj ρ with
      | none => cases x <;> rfl
      | some j => cases x <;> cases j <;> rfl
theorem pkO_s (i : Nat) (kd : List (D × D)) (y : D) (j : Int) : pkO i (some y) (some (.dict kd)) (some (.int j)) ρ = if kd.length < 16777216 ∧ i < ρ.length then some (.nx (ρ.set i (some (.dict (dPutD kd j y))))) else none := rfl
theorem xLc2_a (it : XL) (g : XG) (t : PEnv → Option Bool) (it1 : XL) (g1 : XG) (t1 : PEnv → Option Bool) (f : Xp) (own vs1 : List Nat) (ds : List D) (h : it ρ = some ds) : xLc2 it g t it1 g1 t1 f own vs1 ρ = (lc2L g t it1 g1 t1 f vs1 (wipeP ρ own) ds).bind fun ys => if ys.length ≤ 16777216 then some (.list ys) else none := by
  unfold xLc2
  rw [h]
  rfl
theorem sFor_a (it : XL) (g : D → PEnv → Option PEnv) (b : XS) : sFor it g b ρ = forO g b ρ (it ρ) := by
  unfold sFor
  cases it ρ <;> rfl
theorem sWhile_a (c : PEnv → Option Bool) (b : XS) : sWhile c b ρ = whileF c b fuelN ρ := rfl
theorem sPar_a (is : List Nat) (fs : XL) : sPar is fs ρ = paO is (fs ρ) ρ := by
  unfold sPar
  cases fs ρ <;> rfl
theorem runD_a (n N : Nat) (g : XS) (ds : List D) : runD n N g ds = endO (g (ds.map some ++ List.replicate (N - n) none)) := by
  unfold runD
  cases g (ds.map some ++ List.replicate (N - n) none) with
  | none => rfl
  | some o => cases o <;> rfl
theorem b2_s (g : D → D → Option D) (x y : D) : b2 g (some x) (some y) = g x y := rfl
theorem c2_s (x : D) (xs : List D) : c2 (some x) (some xs) = some (x :: xs) := rfl
theorem sqO_nx (h : XS) : sqO (some (.nx ρ)) h = h ρ := rfl
theorem sqO_rt (d : D) (h : XS) : sqO (some (.rt d)) h = some (.rt d) := rfl
theorem sqO_bk (h : XS) : sqO (some (.bk ρ)) h = some (.bk ρ) := rfl
theorem sqO_ct (h : XS) : sqO (some (.ct ρ)) h = some (.ct ρ) := rfl
section
variable {α : Type}
theorem ifO_t (g h : PEnv → Option α) : ifO (some true) g h ρ = g ρ := rfl
theorem ifO_f (g h : PEnv → Option α) : ifO (some false) g h ρ = h ρ := rfl
end
theorem stO_s (i : Nat) (d : D) : stO i (some d) ρ = if i < ρ.length then some (.nx (ρ.set i (some d))) else none := rfl
theorem endO_nx  : endO (some (.nx ρ)) = some .none := rfl
theorem endO_rt (d : D) : endO (some (.rt d)) = some d := rfl
theorem andO_t (f : Xp) : andO (some (.bool true)) f ρ = f ρ := rfl
theorem andO_f (f : Xp) : andO (some (.bool false)) f ρ = some (.bool false) := rfl
theorem orO_t (f : Xp) : orO (some (.bool true)) f ρ = some (.bool true) := rfl
theorem orO_f (f : Xp) : orO (some (.bool false)) f ρ = f ρ := rfl
theorem chO_s (g g' : D → D → Option D) (x y : D) (f : Xp) : chO g g' (some x) (some y) f ρ = chP g' y f ρ (g x y) := rfl
theorem chP_t (g' : D → D → Option D) (y : D) (f : Xp) : chP g' y f ρ (some (.bool true)) = b2 g' (some y) (f ρ) := rfl
theorem chP_f (g' : D → D → Option D) (y : D) (f : Xp) : chP g' y f ρ (some (.bool false)) = some (.bool false) := rfl
theorem slO_s (x : D) (i j : Option Int) : slO (some x) (some i) (some j) = oSl x i j := rfl
theorem atO_i (i : Int) : atO (some (.int i)) = some (some i) := rfl
theorem lcO_s (g : XG) (t : PEnv → Option Bool) (f : Xp) (ds : List D) : lcO g t f ρ (some ds) = (lcL g t f ρ ds).map .list := rfl
theorem forO_s (g : XG) (b : XS) (ds : List D) : forO g b ρ (some ds) = forL g b ds ρ := rfl
theorem gsO_s (gs : List D → PEnv → Option PEnv) (ds : List D) : gsO gs ds (some ρ) = gs ds ρ := rfl
theorem nxO_s  : nxO (some ρ) = some (.nx ρ) := rfl
theorem tgO_s (g : XG) (d : D) : tgO g (some d) ρ = nxO (g d ρ) := rfl
theorem paO_s (is : List Nat) (ds : List D) : paO is (some ds) ρ = if is.all (fun i => decide (i < ρ.length)) && decide (ds.length = is.length) then some (.nx (setAll is ds ρ)) else none := rfl
theorem apO_s (i : Nat) (xs : List D) (y : D) : apO i (some (.list xs)) (some y) ρ = if xs.length < 16777216 ∧ i < ρ.length then some (.nx (ρ.set i (some (.list (xs ++ [y]))))) else none := rfl
theorem exO_s (i : Nat) (xs ys : List D) : exO i (some (.list xs)) (some (.list ys)) ρ = if xs.length + ys.length ≤ 16777216 ∧ i < ρ.length then some (.nx (ρ.set i (some (.list (xs ++ ys))))) else none := rfl
theorem plO_s (i : Nat) (xs : List D) (y : D) (n : Nat) : plO i xs y ρ (some n) = if i < ρ.length then some (.nx (ρ.set i (some (.list (xs.set n y))))) else none := rfl
theorem ptO_s (i : Nat) (xs : List D) (y : D) (j : Int) : ptO i (some y) (some (.list xs)) (some (.int j)) ρ = plO i xs y ρ (ixN xs.length j) := rfl
section
variable (a b : Int) (t : Bool) (xs ys : List D) (x y z : D)
theorem dB_b  : dB (.bool t) = some t := rfl
theorem tru_b  : oTru (.bool t) = some t := rfl
theorem tru_n  : oTru .none = some false := rfl
theorem tru_i  : oTru (.int a) = some (a != 0) := rfl
theorem tru_l  : oTru (.list xs) = some (!xs.isEmpty) := rfl
theorem tru_t  : oTru (.tuple xs) = some (!xs.isEmpty) := rfl
theorem is_n  : oIs x .none = some (.bool (isNone x)) := rfl
theorem isn_n  : oIsNot x .none = some (.bool (!isNone x)) := rfl
theorem nn_n  : isNone .none = true := rfl
theorem nn_i  : isNone (.int a) = false := rfl
theorem nn_b  : isNone (.bool t) = false := rfl
theorem nn_t  : isNone (.tuple xs) = false := rfl
theorem nn_l  : isNone (.list xs) = false := rfl
theorem add_ii  : oAdd (.int a) (.int b) = some (.int (a + b)) := rfl
theorem add'_ii  : oAdd' (.int a) (.int b) = some (.int (a + b)) := rfl
theorem sub_ii  : oSub (.int a) (.int b) = some (.int (a - b)) := rfl
theorem neg_i  : oNeg (.int a) = some (.int (-a)) := rfl
theorem lt_ii  : oLt (.int a) (.int b) = some (.bool (decide (a < b))) := rfl
theorem le_ii  : oLe (.int a) (.int b) = some (.bool (decide (a ≤ b))) := rfl
theorem gt_ii  : oGt (.int a) (.int b) = some (.bool (decide (b < a))) := rfl
theorem ge_ii  : oGe (.int a) (.int b) = some (.bool (decide (b ≤ a))) := rfl
theorem ix_l  : oIx (.list xs) (.int a) = atI xs a := rfl
theorem ix_t  : oIx (.tuple xs) (.int a) = atI xs a := rfl
theorem ix_s  : oIx (scr xs) (.int a) = atI xs a := rfl
theorem at0 : atI (x :: xs) 0 = some x := by
  unfold atI ixN
  simp
theorem at1 : atI (x :: y :: xs) 1 = some y := by
  unfold atI ixN
  rw [if_pos (by decide), if_pos (by simp only [List.length_cons]; omega)]
  rfl
theorem at2 : atI (x :: y :: z :: xs) 2 = some z := by
  unfold atI ixN
  rw [if_pos (by decide), if_pos (by simp only [List.length_cons]; omega)]
  rfl
theorem sl_l (lo hi : Option Int) : oSl (.list xs) lo hi = some (.list (cutD xs lo hi)) := rfl
theorem sl_t (lo hi : Option Int) : oSl (.tuple xs) lo hi = some (.tuple (cutD xs lo hi)) := rfl
theorem len_l  : bLen [.list xs] = some (.int xs.length) := rfl
theorem len_t  : bLen [.tuple xs] = some (.int xs.length) := rfl
theorem len_s  : bLen [scr xs] = some (.int xs.length) := rfl
theorem abs_i  : bAbs [.int a] = some (.int (if a < 0 then -a else a)) := rfl
theorem int_i  : bInt [.int a] = some (.int a) := rfl
theorem int_b  : bInt [.bool t] = some (.int (if t then 1 else 0)) := rfl
theorem max_ii  : bMax2 [.int a, .int b] = some (.int (if b > a then b else a)) := rfl
theorem min_ii  : bMin2 [.int a, .int b] = some (.int (if b < a then b else a)) := rfl
theorem tup_s  : bTuple [x] = (seqD x).map .tuple := rfl
theorem lst_s  : bList [x] = (seqD x).map .list := rfl
theorem seq_l  : seqD (.list xs) = some xs := rfl
theorem seq_t  : seqD (.tuple xs) = some xs := rfl
theorem sum_s  : bSum [x] = (seqD x).bind fun xs => (asInts xs).map fun ns => .int ns.sum := rfl
theorem wipe_n (ρ : PEnv) : wipeP ρ [] = ρ := rfl
theorem wipe_c (ρ : PEnv) (v : Nat) (vs : List Nat) : wipeP ρ (v :: vs) = (wipeP ρ vs).set v none := rfl
variable {a b : Int} {xs ys : List D}
theorem mul_ii (h : mulOk a b = true) : oMul' (.int a) (.int b) = some (.int (a * b)) := if_pos h
theorem fdiv_ii (h : divOk b = true) : oFdiv (.int a) (.int b) = some (.int (a.fdiv b)) := if_pos h
theorem mod_ii (h : b ≠ 0) : oMod (.int a) (.int b) = some (.int (a.fmod b)) := if_pos h
theorem add_ll (h : xs.length + ys.length ≤ 16777216) : oAdd (.list xs) (.list ys) = some (.list (xs ++ ys)) := if_pos h
theorem add_tt (h : xs.length + ys.length ≤ 16777216) : oAdd (.tuple xs) (.tuple ys) = some (.tuple (xs ++ ys)) := if_pos h
end
end
end Pm


/-! the walk of dockheld_k32_whole_chances_coats, printed by gen.py -/
namespace K32
open PySem PySem.Spec PyProof.Rows L2 Pm
def topS (i : Nat) : Stmt := PySem.Challenge.pw_dockheld_k32_whole_chances_coats.main.body.getD i (.Pass ⟨0, 0, 0, 0⟩)
section
variable {P : Program} {w : World} {K : PySem.W.Frag} {mg : Str → Option Value} {base : Heap}
/-! ### divisor -/
abbrev s_divisor : Stmt := topS 1
theorem sc_divisor : FnScope ["first", "second"] ["first", "second"] (defScope s_divisor) := ⟨rfl, rfl, rfl, by decide +kernel, rfl, by decide +kernel, by decide +kernel⟩
def l1_divisor : XS :=
  (sSeq (sPar [0, 1] (xCons (xVar 1) (xCons (xBin oMod (xVar 0) (xVar 1)) xNil)))
  sNop)
def g_divisor : XS :=
  (sSeq (sPar [0, 1] (xCons (xCall bAbs (xCons (xVar 0) xNil)) (xCons (xCall bAbs (xCons (xVar 1) xNil)) xNil)))
  (sSeq (sWhile (tOf (xBin oGt (xVar 1) (xC (.int 0)))) l1_divisor)
  (sRet (xVar 0))))
def d_divisor : List D → Option D := runD 2 2 g_divisor
theorem ok_divisor {f : Addr} {fd : FuncData} (F : FnP K "divisor" s_divisor f fd) (b_abs : mg "abs" = none) : FnOk P w K mg base CX0 1 f fd ["first", "second"] (spD K 2 d_divisor) := by
  have nd := sc_divisor.nd
  refine fnp_ok (k := 0) (O' := []) F sc_divisor fun cdv A outer s H E hr => ?_
  exact (by exact ss_cons (by exact ss_par 0 1 nd (by exact sam_cons (by exact se_callB (st := false) cb_abs b_abs (by exact sa_cons (by exact se_var 0) sa_nil)) (by exact sam_cons (by exact se_callB (st := false) cb_abs b_abs (by exact sa_cons (by exact se_var 1) sa_nil)) sam_nil))) (by exact ss_cons (by exact SS.weak (O1 := [1]) (by exact ss_while (O' := [1]) (by exact st_cmp op_gtD (by exact se_varW 1) se_int) (by exact ss_cons (by exact SS.weak (O1 := []) (by exact ss_par 0 1 nd (by exact sam_cons (by exact se_var 1) (by exact sam_cons (by exact se_op op_modD (by exact se_var 0) (by exact se_var 1)) sam_nil)))) ss_nil))) (by exact ss_last (by exact ss_ret (by exact se_var 0)))))
/-! ### lowest -/
abbrev s_lowest : Stmt := topS 2
theorem sc_lowest : FnScope ["a", "b", "common"] ["a", "b"] (defScope s_lowest) := ⟨rfl, rfl, rfl, by decide +kernel, rfl, by decide +kernel, by decide +kernel⟩
def g_lowest : XS :=
  (sSeq (sSet 2 (xIf (tOf (xBin oGt (xVar 1) (xC (.int 0)))) (xCall (fun ds => if ds.length = 2 then (d_divisor) ds else none) (xCons (xVar 0) (xCons (xVar 1) xNil))) (xUn oNeg (xCall (fun ds => if ds.length = 2 then (d_divisor) ds else none) (xCons (xVar 0) (xCons (xVar 1) xNil))))))
  (sRet (xTup (xCons (xBin oFdiv (xVar 0) (xVar 2)) (xCons (xBin oFdiv (xVar 1) (xVar 2)) xNil)))))
def d_lowest : List D → Option D := runD 2 3 g_lowest
theorem ok_lowest {f : Addr} {fd : FuncData} (F : FnP K "lowest" s_lowest f fd) (D_divisor : Def P w K mg base 1 "divisor" ["first", "second"] (d_divisor)) : FnOk P w K mg base CX0 2 f fd ["a", "b"] (spD K 2 d_lowest) := by
  have nd := sc_lowest.nd
  refine fnp_ok (k := 1) (O' := []) F sc_lowest fun cdv A outer s H E hr => ?_
  exact (by exact ss_cons (by exact ss_setS 2 nd (by exact se_if (by exact st_cmp op_gtD (by exact se_var 1) se_int) (by exact se_callD D_divisor hr (by exact sa_cons (by exact se_var 0) (by exact sa_cons (by exact se_var 1) sa_nil))) (by exact SE.toS (by exact se_un un_negD (by exact se_callD D_divisor hr (by exact sa_cons (by exact se_var 0) (by exact sa_cons (by exact se_var 1) sa_nil))))))) (by exact ss_last (by exact ss_ret (by exact se_tup (by exact sa_cons (by exact se_op op_fdivD (by exact se_var 0) (by exact se_var 2)) (by exact sa_cons (by exact se_op op_fdivD (by exact se_var 1) (by exact se_var 2)) sa_nil))))))
/-! ### plus -/
abbrev s_plus : Stmt := topS 3
theorem sc_plus : FnScope ["first", "second"] ["first", "second"] (defScope s_plus) := ⟨rfl, rfl, rfl, by decide +kernel, rfl, by decide +kernel, by decide +kernel⟩
def g_plus : XS :=
  (sRet (xCall (fun ds => if ds.length = 2 then (d_lowest) ds else none) (xCons (xBin oAdd (xBin oMul' (xBin oIx (xVar 0) (xC (.int 0))) (xBin oIx (xVar 1) (xC (.int 1)))) (xBin oMul' (xBin oIx (xVar 1) (xC (.int 0))) (xBin oIx (xVar 0) (xC (.int 1))))) (xCons (xBin oMul' (xBin oIx (xVar 0) (xC (.int 1))) (xBin oIx (xVar 1) (xC (.int 1)))) xNil))))
def d_plus : List D → Option D := runD 2 2 g_plus
theorem ok_plus {f : Addr} {fd : FuncData} (F : FnP K "plus" s_plus f fd) (D_lowest : Def P w K mg base 2 "lowest" ["a", "b"] (d_lowest)) : FnOk P w K mg base CX0 3 f fd ["first", "second"] (spD K 2 d_plus) := by
  have nd := sc_plus.nd
  refine fnp_ok (k := 2) (O' := []) F sc_plus fun cdv A outer s H E hr => ?_
  exact (by exact ss_last (by exact ss_ret (by exact se_callD D_lowest hr (by exact sa_cons (by exact se_op op_addD (by exact se_op op_mulD' (by exact se_ix (by exact se_var 0) se_int) (by exact se_ix (by exact se_var 1) se_int)) (by exact se_op op_mulD' (by exact se_ix (by exact se_var 1) se_int) (by exact se_ix (by exact se_var 0) se_int))) (by exact sa_cons (by exact se_op op_mulD' (by exact se_ix (by exact se_var 0) se_int) (by exact se_ix (by exact se_var 1) se_int)) sa_nil)))))
/-! ### minus -/
abbrev s_minus : Stmt := topS 4
theorem sc_minus : FnScope ["first", "second"] ["first", "second"] (defScope s_minus) := ⟨rfl, rfl, rfl, by decide +kernel, rfl, by decide +kernel, by decide +kernel⟩
def g_minus : XS :=
  (sRet (xCall (fun ds => if ds.length = 2 then (d_lowest) ds else none) (xCons (xBin oSub (xBin oMul' (xBin oIx (xVar 0) (xC (.int 0))) (xBin oIx (xVar 1) (xC (.int 1)))) (xBin oMul' (xBin oIx (xVar 1) (xC (.int 0))) (xBin oIx (xVar 0) (xC (.int 1))))) (xCons (xBin oMul' (xBin oIx (xVar 0) (xC (.int 1))) (xBin oIx (xVar 1) (xC (.int 1)))) xNil))))
def d_minus : List D → Option D := runD 2 2 g_minus
theorem ok_minus {f : Addr} {fd : FuncData} (F : FnP K "minus" s_minus f fd) (D_lowest : Def P w K mg base 2 "lowest" ["a", "b"] (d_lowest)) : FnOk P w K mg base CX0 3 f fd ["first", "second"] (spD K 2 d_minus) := by
  have nd := sc_minus.nd
  refine fnp_ok (k := 2) (O' := []) F sc_minus fun cdv A outer s H E hr => ?_
  exact (by exact ss_last (by exact ss_ret (by exact se_callD D_lowest hr (by exact sa_cons (by exact se_op op_subD (by exact se_op op_mulD' (by exact se_ix (by exact se_var 0) se_int) (by exact se_ix (by exact se_var 1) se_int)) (by exact se_op op_mulD' (by exact se_ix (by exact se_var 1) se_int) (by exact se_ix (by exact se_var 0) se_int))) (by exact sa_cons (by exact se_op op_mulD' (by exact se_ix (by exact se_var 0) se_int) (by exact se_ix (by exact se_var 1) se_int)) sa_nil)))))
/-! ### times -/
abbrev s_times : Stmt := topS 5
theorem sc_times : FnScope ["first", "second"] ["first", "second"] (defScope s_times) := ⟨rfl, rfl, rfl, by decide +kernel, rfl, by decide +kernel, by decide +kernel⟩
def g_times : XS :=
  (sRet (xCall (fun ds => if ds.length = 2 then (d_lowest) ds else none) (xCons (xBin oMul' (xBin oIx (xVar 0) (xC (.int 0))) (xBin oIx (xVar 1) (xC (.int 0)))) (xCons (xBin oMul' (xBin oIx (xVar 0) (xC (.int 1))) (xBin oIx (xVar 1) (xC (.int 1)))) xNil))))
def d_times : List D → Option D := runD 2 2 g_times
theorem ok_times {f : Addr} {fd : FuncData} (F : FnP K "times" s_times f fd) (D_lowest : Def P w K mg base 2 "lowest" ["a", "b"] (d_lowest)) : FnOk P w K mg base CX0 3 f fd ["first", "second"] (spD K 2 d_times) := by
  have nd := sc_times.nd
  refine fnp_ok (k := 2) (O' := []) F sc_times fun cdv A outer s H E hr => ?_
  exact (by exact ss_last (by exact ss_ret (by exact se_callD D_lowest hr (by exact sa_cons (by exact se_op op_mulD' (by exact se_ix (by exact se_var 0) se_int) (by exact se_ix (by exact se_var 1) se_int)) (by exact sa_cons (by exact se_op op_mulD' (by exact se_ix (by exact se_var 0) se_int) (by exact se_ix (by exact se_var 1) se_int)) sa_nil)))))
/-! ### is_less -/
abbrev s_is_less : Stmt := topS 6
theorem sc_is_less : FnScope ["first", "second"] ["first", "second"] (defScope s_is_less) := ⟨rfl, rfl, rfl, by decide +kernel, rfl, by decide +kernel, by decide +kernel⟩
def g_is_less : XS :=
  (sRet (xBin oLt (xBin oMul' (xBin oIx (xVar 0) (xC (.int 0))) (xBin oIx (xVar 1) (xC (.int 1)))) (xBin oMul' (xBin oIx (xVar 1) (xC (.int 0))) (xBin oIx (xVar 0) (xC (.int 1))))))
def d_is_less : List D → Option D := runD 2 2 g_is_less
theorem ok_is_less {f : Addr} {fd : FuncData} (F : FnP K "is_less" s_is_less f fd) : FnOk P w K mg base CX0 1 f fd ["first", "second"] (spD K 2 d_is_less) := by
  have nd := sc_is_less.nd
  refine fnp_ok (k := 0) (O' := []) F sc_is_less fun cdv A outer s H E hr => ?_
  exact (by exact ss_last (by exact ss_ret (by exact se_cmp op_ltD (by exact se_op op_mulD' (by exact se_ix (by exact se_var 0) se_int) (by exact se_ix (by exact se_var 1) se_int)) (by exact se_op op_mulD' (by exact se_ix (by exact se_var 1) se_int) (by exact se_ix (by exact se_var 0) se_int)))))
/-! ### all_sets -/
abbrev s_all_sets : Stmt := topS 7
theorem sc_all_sets : FnScope ["n", "found", "index", "row"] ["n"] (defScope s_all_sets) := ⟨rfl, rfl, rfl, by decide +kernel, rfl, by decide +kernel, by decide +kernel⟩
def l1_all_sets : XS :=
  (sSeq (sSet 1 (xBin oAdd (xBin oAdd (xLst (xCons (xTup xNil) xNil)) (xLc (xSeq (xVar 1)) (gSet 3) tYesP (xBin oAdd (xTup (xCons (xVar 2) xNil)) (xVar 3)) [3])) (xLc (xSeq (xVar 1)) (gSet 3) (tTru (xVar 3)) (xVar 3) [3])))
  sNop)
def g_all_sets : XS :=
  (sSeq (sSet 1 (xLst (xCons (xTup xNil) xNil)))
  (sSeq (sFor (xIt oR3 (xCons (xBin oSub (xVar 0) (xC (.int 1))) (xCons (xUn oNeg (xC (.int 1))) (xCons (xUn oNeg (xC (.int 1))) xNil)))) (gSet 2) l1_all_sets)
  (sRet (xVar 1))))
def d_all_sets : List D → Option D := runD 1 4 g_all_sets
theorem ok_all_sets {f : Addr} {fd : FuncData} (F : FnP K "all_sets" s_all_sets f fd) (b_range : mg "range" = none) : FnOk P w K mg base CX0 1 f fd ["n"] (spD K 1 d_all_sets) := by
  have nd := sc_all_sets.nd
  refine fnp_ok (k := 0) (O' := []) F sc_all_sets fun cdv A outer s H E hr => ?_
  exact (by exact ss_cons (by exact ss_setF 1 nd (by exact se_lst (by exact sa_cons (by exact se_tup sa_nil) sa_nil))) (by exact ss_cons (by exact ss_for (O' := [1]) (by exact si_r3 (st := false) b_range (by exact sa_cons (by exact se_op op_subD (by exact se_var 0) se_int) (by exact sa_cons (by exact se_un un_negD se_int) (by exact sa_cons (by exact se_un un_negD se_int) sa_nil)))) (by exact sg_name 2 nd) (by exact ss_cons (by exact ss_setF 1 nd (by exact se_op op_addD (by exact se_op op_addD (by exact se_lst (by exact sa_cons (by exact se_tup sa_nil) sa_nil)) (by exact se_lc nd (by exact si_seq (m := .w) (by exact se_varW 1)) (blkOk_by (own := [("row", 3)]) rfl) (fun _ _ _ _ _ => (by exact sg_name 3 nd)) (fun _ _ _ _ _ => sts_nil) (fun _ _ _ _ _ => (by exact se_op op_addD (by exact se_tup (by exact sa_cons (by exact se_var 2) sa_nil)) (by exact se_var 3))))) (by exact se_lc nd (by exact si_seq (m := .w) (by exact se_varW 1)) (blkOk_by (own := [("row", 3)]) rfl) (fun _ _ _ _ _ => (by exact sg_name 3 nd)) (fun _ _ _ _ _ => (by exact sts_one (by exact st_val (by exact se_var 3)))) (fun _ _ _ _ _ => (by exact se_var 3))))) ss_nil)) (by exact ss_last (by exact SS.weak (O1 := []) (by exact ss_ret (by exact se_var 1))))))
/-! ### whole -/
abbrev s_whole : Stmt := topS 9
theorem sc_whole : FnScope ["number"] ["number"] (defScope s_whole) := ⟨rfl, rfl, rfl, by decide +kernel, rfl, by decide +kernel, by decide +kernel⟩
def g_whole : XS :=
  (sRet (xTup (xCons (xVar 0) (xCons (xC (.int 1)) xNil))))
def d_whole : List D → Option D := runD 1 1 g_whole
theorem ok_whole {f : Addr} {fd : FuncData} (F : FnP K "whole" s_whole f fd) : FnOk P w K mg base CX0 1 f fd ["number"] (spD K 1 d_whole) := by
  have nd := sc_whole.nd
  refine fnp_ok (k := 0) (O' := []) F sc_whole fun cdv A outer s H E hr => ?_
  exact (by exact ss_last (by exact ss_ret (by exact se_tup (by exact sa_cons (by exact se_var 0) (by exact sa_cons se_int sa_nil)))))
/-! ### summed -/
abbrev s_summed : Stmt := topS 10
theorem sc_summed : FnScope ["ratios", "found", "ratio"] ["ratios"] (defScope s_summed) := ⟨rfl, rfl, rfl, by decide +kernel, rfl, by decide +kernel, by decide +kernel⟩
def l1_summed : XS :=
  (sSeq (sSet 1 (xCall (fun ds => if ds.length = 2 then ((d_plus) ds).bind fun d => if flat d then some d else none else none) (xCons (xVar 1) (xCons (xVar 2) xNil))))
  sNop)
def g_summed : XS :=
  (sSeq (sSet 1 (xTup (xCons (xC (.int 0)) (xCons (xC (.int 1)) xNil))))
  (sSeq (sFor (xSeq (xVar 0)) (gSet 2) l1_summed)
  (sRet (xVar 1))))
def d_summed : List D → Option D := runD 1 3 g_summed
theorem ok_summed {f : Addr} {fd : FuncData} (F : FnP K "summed" s_summed f fd) (D_plus : Def P w K mg base 3 "plus" ["first", "second"] (d_plus)) : FnOk P w K mg base CX0 4 f fd ["ratios"] (spD K 1 d_summed) := by
  have nd := sc_summed.nd
  refine fnp_ok (k := 3) (O' := []) F sc_summed fun cdv A outer s H E hr => ?_
  exact (by exact ss_cons (by exact ss_setF 1 nd (by exact se_tup (by exact sa_cons se_int (by exact sa_cons se_int sa_nil)))) (by exact ss_cons (by exact ss_for (O' := [1]) (by exact si_seq (m := .s) (by exact se_var 0)) (by exact sg_name 2 nd) (by exact ss_cons (by exact ss_setF 1 nd (by exact se_callWD D_plus hr (by exact sa_cons (by exact se_varW 1) (by exact sa_cons (by exact se_var 2) sa_nil)))) ss_nil)) (by exact ss_last (by exact SS.weak (O1 := []) (by exact ss_ret (by exact se_var 1))))))
/-! ### coats_by -/
abbrev s_coats_by : Stmt := topS 12
theorem sc_coats_by : FnScope ["dry", "k", "n", "_", "found", "day"] ["dry", "k", "n"] (defScope s_coats_by) := ⟨rfl, rfl, rfl, by decide +kernel, rfl, by decide +kernel, by decide +kernel⟩
def l1_coats_by : XS :=
  (sSeq (sAug 5 oAdd' (xC (.int 1)))
  sNop)
def l2_coats_by : XS :=
  (sSeq (sWhile (tAndP (tOf (xBin oLe (xBin oAdd (xVar 5) (xVar 1)) (xCall bLen (xCons (xVar 0) xNil)))) (tNotP (tTru (xCall bAll (xCons (xSl (xVar 0) (oAt (xVar 5)) (oAt (xBin oAdd (xVar 5) (xVar 1)))) xNil))))) l1_coats_by)
  (sSeq (sIf (tOf (xBin oGt (xBin oAdd (xVar 5) (xVar 1)) (xCall bLen (xCons (xVar 0) xNil)))) (sRet (xC .none)) sNop)
  (sSeq (sApp 4 (xVar 5))
  (sSeq (sAug 5 oAdd' (xVar 1))
  sNop))))
def g_coats_by : XS :=
  (sSeq (sPar [4, 5] (xCons (xLst xNil) (xCons (xC (.int 0)) xNil)))
  (sSeq (sFor (xIt oR1 (xCons (xVar 2) xNil)) (gSet 3) l2_coats_by)
  (sRet (xCall bTuple (xCons (xVar 4) xNil)))))
def d_coats_by : List D → Option D := runD 3 6 g_coats_by
theorem ok_coats_by {f : Addr} {fd : FuncData} (F : FnP K "coats_by" s_coats_by f fd) (b_all : mg "all" = none) (b_len : mg "len" = none) (b_range : mg "range" = none) (b_tuple : mg "tuple" = none) : FnOk P w K mg base CX0 1 f fd ["dry", "k", "n"] (spD K 3 d_coats_by) := by
  have nd := sc_coats_by.nd
  refine fnp_ok (k := 0) (O' := []) F sc_coats_by fun cdv A outer s H E hr => ?_
  exact (by exact ss_cons (by exact ss_par 4 5 nd (by exact sam_cons (by exact se_lst sa_nil) (by exact sam_cons se_int sam_nil))) (by exact ss_cons (by exact SS.weak (O1 := [4]) (by exact ss_for (O' := [4]) (by exact si_r1 (st := false) b_range (by exact sa_cons (by exact se_var 2) sa_nil)) (by exact sg_name 3 nd) (by exact ss_cons (by exact ss_while (O' := [4]) (by exact SW.st (by exact sw_and (by exact st_cmp op_leD (by exact se_op op_addD (by exact se_var 5) (by exact se_var 1)) (by exact se_callB (st := false) cb_len b_len (by exact sa_cons (by exact se_var 0) sa_nil))) (by exact sw_and1 (by exact st_not (by exact st_val (by exact se_callB (st := false) cb_all b_all (by exact sa_cons (by exact se_sl (by exact se_var 0) (by exact so_some (by exact se_var 5)) (by exact so_some (by exact se_op op_addD (by exact se_var 5) (by exact se_var 1)))) sa_nil))))))) (by exact ss_cons (by exact ss_aug 5 nd iop_addD se_int) ss_nil)) (by exact ss_cons (by exact ss_if (O' := [4]) (by exact st_cmp op_gtD (by exact se_op op_addD (by exact se_var 5) (by exact se_var 1)) (by exact se_callB (st := false) cb_len b_len (by exact sa_cons (by exact se_var 0) sa_nil))) (by exact ss_last (by exact ss_ret se_non)) ss_nil) (by exact ss_cons (by exact ss_app 4 (by exact se_var 5)) (by exact ss_cons (by exact ss_aug 5 nd iop_addD (by exact se_var 1)) ss_nil)))))) (by exact ss_last (by exact ss_ret (by exact se_callT (st := false) cb_tuple b_tuple (by exact sa_cons (by exact se_varW 4) sa_nil))))))
/-! ### dry_runs -/
abbrev s_dry_runs : Stmt := topS 14
theorem sc_dry_runs : FnScope ["dry", "found", "day", "truth"] ["dry"] (defScope s_dry_runs) := ⟨rfl, rfl, rfl, by decide +kernel, rfl, by decide +kernel, by decide +kernel⟩
def l1_dry_runs : XS :=
  (sSeq (sIf (tTru (xVar 3)) (sSeq (sIf (tAndP (tTru (xVar 1)) (tOf (xBin oEq (xBin oIx (xBin oIx (xVar 1) (xUn oNeg (xC (.int 1)))) (xC (.int 1))) (xVar 2)))) (sSeq (sPut 1 (xUn oNeg (xC (.int 1))) (xTup (xCons (xBin oIx (xBin oIx (xVar 1) (xUn oNeg (xC (.int 1)))) (xC (.int 0))) (xCons (xBin oAdd (xVar 2) (xC (.int 1))) xNil))))
  sNop) (sSeq (sApp 1 (xTup (xCons (xVar 2) (xCons (xBin oAdd (xVar 2) (xC (.int 1))) xNil))))
  sNop))
  sNop) sNop)
  sNop)
def g_dry_runs : XS :=
  (sSeq (sSet 1 (xLst xNil))
  (sSeq (sFor (xIt oEnum (xCons (xVar 0) xNil)) (gTupD 2 (gsCons (gSet 2) (gsCons (gSet 3) gsNil))) l1_dry_runs)
  (sRet (xCall bTuple (xCons (xVar 1) xNil)))))
def d_dry_runs : List D → Option D := runD 1 4 g_dry_runs
theorem ok_dry_runs {f : Addr} {fd : FuncData} (F : FnP K "dry_runs" s_dry_runs f fd) (b_enumerate : mg "enumerate" = none) (b_tuple : mg "tuple" = none) : FnOk P w K mg base CX0 1 f fd ["dry"] (spD K 1 d_dry_runs) := by
  have nd := sc_dry_runs.nd
  refine fnp_ok (k := 0) (O' := []) F sc_dry_runs fun cdv A outer s H E hr => ?_
  exact (by exact ss_cons (by exact ss_setF 1 nd (by exact se_lst sa_nil)) (by exact ss_cons (by exact ss_for (O' := [1]) (by exact si_enum (st := true) b_enumerate (by exact sa_cons (by exact se_var 0) sa_nil)) (by exact sg_tup rfl (by exact sgs_cons (by exact sg_name 2 nd) (by exact sgs_cons (by exact sg_name 3 nd) sgs_nil))) (by exact ss_cons (by exact ss_if (O' := [1]) (by exact st_val (by exact se_var 3)) (by exact ss_cons (by exact ss_if (O' := [1]) (by exact SW.st (by exact sw_and (by exact st_val (by exact se_varW 1)) (by exact sw_and1 (by exact st_cmp (op_eqP hr) (by exact se_ix (by exact se_ix (by exact se_varW 1) (by exact se_un un_negD se_int)) se_int) (by exact se_var 2))))) (by exact ss_cons (by exact ss_put 1 (by exact se_tup (by exact sa_cons (by exact se_ix (by exact se_ix (by exact se_varW 1) (by exact se_un un_negD se_int)) se_int) (by exact sa_cons (by exact se_op op_addD (by exact se_var 2) se_int) sa_nil))) (by exact se_un un_negD se_int)) ss_nil) (by exact ss_cons (by exact ss_app 1 (by exact se_tup (by exact sa_cons (by exact se_var 2) (by exact sa_cons (by exact se_op op_addD (by exact se_var 2) se_int) sa_nil)))) ss_nil)) ss_nil) ss_nil) ss_nil)) (by exact ss_last (by exact ss_ret (by exact se_callT (st := false) cb_tuple b_tuple (by exact sa_cons (by exact se_varW 1) sa_nil))))))
/-! ### coats_most -/
abbrev s_coats_most : Stmt := topS 13
theorem sc_coats_most : FnScope ["dry", "k", "begin", "end"] ["dry", "k"] (defScope s_coats_most) := ⟨rfl, rfl, rfl, by decide +kernel, rfl, by decide +kernel, by decide +kernel⟩
def g_coats_most : XS :=
  (sRet (xCall bSum (xCons (xLc (xSeq (xCall (fun ds => if ds.length = 1 then (d_dry_runs) ds else none) (xCons (xVar 0) xNil))) (gTupD 2 (gsCons (gSet 2) (gsCons (gSet 3) gsNil))) tYesP (xBin oFdiv (xBin oSub (xVar 3) (xVar 2)) (xVar 1)) [2, 3]) xNil)))
def d_coats_most : List D → Option D := runD 2 4 g_coats_most
theorem ok_coats_most {f : Addr} {fd : FuncData} (F : FnP K "coats_most" s_coats_most f fd) (D_dry_runs : Def P w K mg base 1 "dry_runs" ["dry"] (d_dry_runs)) (b_sum : mg "sum" = none) : FnOk P w K mg base CX0 2 f fd ["dry", "k"] (spD K 2 d_coats_most) := by
  have nd := sc_coats_most.nd
  refine fnp_ok (k := 1) (O' := []) F sc_coats_most fun cdv A outer s H E hr => ?_
  exact (by exact ss_last (by exact ss_ret (by exact se_callB (st := false) cb_sum b_sum (by exact sa_cons (by exact se_lc nd (by exact si_seq (m := .s) (by exact se_callD D_dry_runs hr (by exact sa_cons (by exact se_var 0) sa_nil))) (blkOk_by (own := [("begin", 2), ("end", 3)]) rfl) (fun _ _ _ _ _ => (by exact sg_tup rfl (by exact sgs_cons (by exact sg_name 2 nd) (by exact sgs_cons (by exact sg_name 3 nd) sgs_nil)))) (fun _ _ _ _ _ => sts_nil) (fun _ _ _ _ _ => (by exact se_op op_fdivD (by exact se_op op_subD (by exact se_var 3) (by exact se_var 2)) (by exact se_var 1)))) sa_nil))))
/-! ### next_day -/
abbrev s_next_day : Stmt := topS 15
theorem sc_next_day : FnScope ["rows", "done", "chance", "wet", "part"] ["rows", "done", "chance"] (defScope s_next_day) := ⟨rfl, rfl, rfl, by decide +kernel, rfl, by decide +kernel, by decide +kernel⟩
def g_next_day : XS :=
  (sSeq (sSet 3 (xCall (fun ds => if ds.length = 2 then (d_times) ds else none) (xCons (xCall (fun ds => if ds.length = 1 then (d_summed) ds else none) (xCons (xVar 0) xNil)) (xCons (xCall (fun ds => if ds.length = 2 then (d_minus) ds else none) (xCons (xCall (fun ds => if ds.length = 1 then (d_whole) ds else none) (xCons (xC (.int 1)) xNil)) (xCons (xVar 2) xNil))) xNil))))
  (sRet (xTup (xCons (xBin oAdd (xLst (xCons (xVar 3) xNil)) (xLc (xSeq (xSl (xVar 0) oNo (oAt (xUn oNeg (xC (.int 1)))))) (gSet 4) tYesP (xCall (fun ds => if ds.length = 2 then (d_times) ds else none) (xCons (xVar 4) (xCons (xVar 2) xNil))) [4])) (xCons (xCall (fun ds => if ds.length = 2 then (d_plus) ds else none) (xCons (xVar 1) (xCons (xCall (fun ds => if ds.length = 2 then (d_times) ds else none) (xCons (xBin oIx (xVar 0) (xUn oNeg (xC (.int 1)))) (xCons (xVar 2) xNil))) xNil))) xNil)))))
def d_next_day : List D → Option D := runD 3 5 g_next_day
theorem ok_next_day {f : Addr} {fd : FuncData} (F : FnP K "next_day" s_next_day f fd) (D_plus : Def P w K mg base 3 "plus" ["first", "second"] (d_plus)) (D_minus : Def P w K mg base 3 "minus" ["first", "second"] (d_minus)) (D_times : Def P w K mg base 3 "times" ["first", "second"] (d_times)) (D_whole : Def P w K mg base 1 "whole" ["number"] (d_whole)) (D_summed : Def P w K mg base 4 "summed" ["ratios"] (d_summed)) : FnOk P w K mg base CX0 5 f fd ["rows", "done", "chance"] (spD K 3 d_next_day) := by
  have nd := sc_next_day.nd
  refine fnp_ok (k := 4) (O' := []) F sc_next_day fun cdv A outer s H E hr => ?_
  exact (by exact ss_cons (by exact ss_setS 3 nd (by exact se_callD D_times hr (by exact sa_cons (by exact se_callD D_summed hr (by exact sa_cons (by exact se_var 0) sa_nil)) (by exact sa_cons (by exact se_callD D_minus hr (by exact sa_cons (by exact se_callD D_whole hr (by exact sa_cons se_int sa_nil)) (by exact sa_cons (by exact se_var 2) sa_nil))) sa_nil)))) (by exact ss_last (by exact ss_ret (by exact se_tup (by exact sa_cons (by exact se_op op_addD (by exact se_lst (by exact sa_cons (by exact se_var 3) sa_nil)) (by exact se_lc nd (by exact si_seq (m := .f) (by exact se_sl (by exact se_var 0) so_none (by exact so_some (by exact se_un un_negD se_int)))) (blkOk_by (own := [("part", 4)]) rfl) (fun _ _ _ _ _ => (by exact sg_name 4 nd)) (fun _ _ _ _ _ => sts_nil) (fun _ _ _ _ _ => (by exact se_callD D_times hr (by exact sa_cons (by exact se_var 4) (by exact sa_cons (by exact se_var 2) sa_nil)))))) (by exact sa_cons (by exact se_callD D_plus hr (by exact sa_cons (by exact se_var 1) (by exact sa_cons (by exact se_callD D_times hr (by exact sa_cons (by exact se_ix (by exact se_var 0) (by exact se_un un_negD se_int)) (by exact sa_cons (by exact se_var 2) sa_nil))) sa_nil))) sa_nil))))))
/-! ### dry_chance -/
abbrev s_dry_chance : Stmt := topS 16
theorem sc_dry_chance : FnScope ["chance", "k", "n", "_", "rows", "done"] ["chance", "k", "n"] (defScope s_dry_chance) := ⟨rfl, rfl, rfl, by decide +kernel, rfl, by decide +kernel, by decide +kernel⟩
def l1_dry_chance : XS :=
  (sSeq (sTgt (gTupD 2 (gsCons (gSet 4) (gsCons (gSet 5) gsNil))) (xCall (fun ds => if ds.length = 3 then (d_next_day) ds else none) (xCons (xVar 4) (xCons (xVar 5) (xCons (xVar 0) xNil)))))
  sNop)
def g_dry_chance : XS :=
  (sSeq (sPar [4, 5] (xCons (xBin oAdd (xLst (xCons (xCall (fun ds => if ds.length = 1 then (d_whole) ds else none) (xCons (xC (.int 1)) xNil)) xNil)) (xBin oMul' (xLst (xCons (xCall (fun ds => if ds.length = 1 then (d_whole) ds else none) (xCons (xC (.int 0)) xNil)) xNil)) (xBin oSub (xVar 1) (xC (.int 1))))) (xCons (xCall (fun ds => if ds.length = 1 then (d_whole) ds else none) (xCons (xC (.int 0)) xNil)) xNil)))
  (sSeq (sFor (xIt oR1 (xCons (xVar 2) xNil)) (gSet 3) l1_dry_chance)
  (sRet (xVar 5))))
def d_dry_chance : List D → Option D := runD 3 6 g_dry_chance
theorem ok_dry_chance {f : Addr} {fd : FuncData} (F : FnP K "dry_chance" s_dry_chance f fd) (D_whole : Def P w K mg base 1 "whole" ["number"] (d_whole)) (D_next_day : Def P w K mg base 5 "next_day" ["rows", "done", "chance"] (d_next_day)) (b_range : mg "range" = none) : FnOk P w K mg base CX0 6 f fd ["chance", "k", "n"] (spD K 3 d_dry_chance) := by
  have nd := sc_dry_chance.nd
  refine fnp_ok (k := 5) (O' := []) F sc_dry_chance fun cdv A outer s H E hr => ?_
  exact (by exact ss_cons (by exact ss_par 4 5 nd (by exact sam_cons (by exact se_op op_addD (by exact se_lst (by exact sa_cons (by exact se_callD D_whole hr (by exact sa_cons se_int sa_nil)) sa_nil)) (by exact se_op op_mulD' (by exact se_lst (by exact sa_cons (by exact se_callD D_whole hr (by exact sa_cons se_int sa_nil)) sa_nil)) (by exact se_op op_subD (by exact se_var 1) se_int))) (by exact sam_cons (by exact se_callD D_whole hr (by exact sa_cons se_int sa_nil)) sam_nil))) (by exact ss_cons (by exact SS.weak (O1 := []) (by exact ss_for (O' := []) (by exact si_r1 (st := false) b_range (by exact sa_cons (by exact se_var 2) sa_nil)) (by exact sg_name 3 nd) (by exact ss_cons (by exact ss_tgt (by exact se_callD D_next_day hr (by exact sa_cons (by exact se_var 4) (by exact sa_cons (by exact se_var 5) (by exact sa_cons (by exact se_var 0) sa_nil)))) (by exact sg_tup rfl (by exact sgs_cons (by exact sg_name 4 nd) (by exact sgs_cons (by exact sg_name 5 nd) sgs_nil)))) ss_nil))) (by exact ss_last (by exact ss_ret (by exact se_var 5)))))
/-! ### days_for -/
abbrev s_days_for : Stmt := topS 17
theorem sc_days_for : FnScope ["chance", "k", "least", "n", "rows", "done"] ["chance", "k", "least"] (defScope s_days_for) := ⟨rfl, rfl, rfl, by decide +kernel, rfl, by decide +kernel, by decide +kernel⟩
def l1_days_for : XS :=
  (sSeq (sIf (tNotP (tTru (xCall (fun ds => if ds.length = 2 then (d_is_less) ds else none) (xCons (xVar 5) (xCons (xVar 2) xNil))))) (sRet (xVar 3)) sNop)
  (sSeq (sTgt (gTupD 2 (gsCons (gSet 4) (gsCons (gSet 5) gsNil))) (xCall (fun ds => if ds.length = 3 then (d_next_day) ds else none) (xCons (xVar 4) (xCons (xVar 5) (xCons (xVar 0) xNil)))))
  sNop))
def g_days_for : XS :=
  (sSeq (sPar [4, 5] (xCons (xBin oAdd (xLst (xCons (xCall (fun ds => if ds.length = 1 then (d_whole) ds else none) (xCons (xC (.int 1)) xNil)) xNil)) (xBin oMul' (xLst (xCons (xCall (fun ds => if ds.length = 1 then (d_whole) ds else none) (xCons (xC (.int 0)) xNil)) xNil)) (xBin oSub (xVar 1) (xC (.int 1))))) (xCons (xCall (fun ds => if ds.length = 1 then (d_whole) ds else none) (xCons (xC (.int 0)) xNil)) xNil)))
  (sSeq (sFor (xIt oR1 (xCons (xC (.int 61)) xNil)) (gSet 3) l1_days_for)
  (sRet (xC .none))))
def d_days_for : List D → Option D := runD 3 6 g_days_for
theorem ok_days_for {f : Addr} {fd : FuncData} (F : FnP K "days_for" s_days_for f fd) (D_is_less : Def P w K mg base 1 "is_less" ["first", "second"] (d_is_less)) (D_whole : Def P w K mg base 1 "whole" ["number"] (d_whole)) (D_next_day : Def P w K mg base 5 "next_day" ["rows", "done", "chance"] (d_next_day)) (b_range : mg "range" = none) : FnOk P w K mg base CX0 6 f fd ["chance", "k", "least"] (spD K 3 d_days_for) := by
  have nd := sc_days_for.nd
  refine fnp_ok (k := 5) (O' := []) F sc_days_for fun cdv A outer s H E hr => ?_
  exact (by exact ss_cons (by exact ss_par 4 5 nd (by exact sam_cons (by exact se_op op_addD (by exact se_lst (by exact sa_cons (by exact se_callD D_whole hr (by exact sa_cons se_int sa_nil)) sa_nil)) (by exact se_op op_mulD' (by exact se_lst (by exact sa_cons (by exact se_callD D_whole hr (by exact sa_cons se_int sa_nil)) sa_nil)) (by exact se_op op_subD (by exact se_var 1) se_int))) (by exact sam_cons (by exact se_callD D_whole hr (by exact sa_cons se_int sa_nil)) sam_nil))) (by exact ss_cons (by exact SS.weak (O1 := []) (by exact ss_for (O' := []) (by exact si_r1 (st := false) b_range (by exact sa_cons se_int sa_nil)) (by exact sg_name 3 nd) (by exact ss_cons (by exact ss_if (O' := []) (by exact st_not (by exact st_val (by exact se_callD D_is_less hr (by exact sa_cons (by exact se_var 5) (by exact sa_cons (by exact se_var 2) sa_nil))))) (by exact ss_last (by exact ss_ret (by exact se_var 3))) ss_nil) (by exact ss_cons (by exact ss_tgt (by exact se_callD D_next_day hr (by exact sa_cons (by exact se_var 4) (by exact sa_cons (by exact se_var 5) (by exact sa_cons (by exact se_var 0) sa_nil)))) (by exact sg_tup rfl (by exact sgs_cons (by exact sg_name 4 nd) (by exact sgs_cons (by exact sg_name 5 nd) sgs_nil)))) ss_nil)))) (by exact ss_last (by exact ss_ret se_non))))
/-! ### mean_wait -/
abbrev s_mean_wait : Stmt := topS 18
theorem sc_mean_wait : FnScope ["chance", "k", "_", "found", "part"] ["chance", "k"] (defScope s_mean_wait) := ⟨rfl, rfl, rfl, by decide +kernel, rfl, by decide +kernel, by decide +kernel⟩
def l1_mean_wait : XS :=
  (sSeq (sSet 4 (xCall (fun ds => if ds.length = 2 then (d_times) ds else none) (xCons (xVar 4) (xCons (xTup (xCons (xBin oIx (xVar 0) (xC (.int 1))) (xCons (xBin oIx (xVar 0) (xC (.int 0))) xNil))) xNil))))
  (sSeq (sSet 3 (xCall (fun ds => if ds.length = 2 then (d_plus) ds else none) (xCons (xVar 3) (xCons (xVar 4) xNil))))
  sNop))
def g_mean_wait : XS :=
  (sSeq (sPar [3, 4] (xCons (xCall (fun ds => if ds.length = 1 then (d_whole) ds else none) (xCons (xC (.int 0)) xNil)) (xCons (xCall (fun ds => if ds.length = 1 then (d_whole) ds else none) (xCons (xC (.int 1)) xNil)) xNil)))
  (sSeq (sFor (xIt oR1 (xCons (xVar 1) xNil)) (gSet 2) l1_mean_wait)
  (sRet (xVar 3))))
def d_mean_wait : List D → Option D := runD 2 5 g_mean_wait
theorem ok_mean_wait {f : Addr} {fd : FuncData} (F : FnP K "mean_wait" s_mean_wait f fd) (D_plus : Def P w K mg base 3 "plus" ["first", "second"] (d_plus)) (D_times : Def P w K mg base 3 "times" ["first", "second"] (d_times)) (D_whole : Def P w K mg base 1 "whole" ["number"] (d_whole)) (b_range : mg "range" = none) : FnOk P w K mg base CX0 4 f fd ["chance", "k"] (spD K 2 d_mean_wait) := by
  have nd := sc_mean_wait.nd
  refine fnp_ok (k := 3) (O' := []) F sc_mean_wait fun cdv A outer s H E hr => ?_
  exact (by exact ss_cons (by exact ss_par 3 4 nd (by exact sam_cons (by exact se_callD D_whole hr (by exact sa_cons se_int sa_nil)) (by exact sam_cons (by exact se_callD D_whole hr (by exact sa_cons se_int sa_nil)) sam_nil))) (by exact ss_cons (by exact ss_for (O' := []) (by exact si_r1 (st := false) b_range (by exact sa_cons (by exact se_var 1) sa_nil)) (by exact sg_name 2 nd) (by exact ss_cons (by exact ss_setS 4 nd (by exact se_callD D_times hr (by exact sa_cons (by exact se_var 4) (by exact sa_cons (by exact se_tup (by exact sa_cons (by exact se_ix (by exact se_var 0) se_int) (by exact sa_cons (by exact se_ix (by exact se_var 0) se_int) sa_nil))) sa_nil)))) (by exact ss_cons (by exact ss_setS 3 nd (by exact se_callD D_plus hr (by exact sa_cons (by exact se_var 3) (by exact sa_cons (by exact se_var 4) sa_nil)))) ss_nil))) (by exact ss_last (by exact ss_ret (by exact se_var 3)))))
/-! ### bears -/
abbrev s_bears : Stmt := topS 20
theorem sc_bears : FnScope ["rooms", "weight", "flooded", "index", "bearing"] ["rooms", "weight", "flooded"] (defScope s_bears) := ⟨rfl, rfl, rfl, by decide +kernel, rfl, by decide +kernel, by decide +kernel⟩
def g_bears : XS :=
  (sRet (xBin oSub (xCall bSum (xCons (xLc (xIt oEnum (xCons (xVar 0) xNil)) (gTupD 2 (gsCons (gSet 3) (gsCons (gSet 4) gsNil))) (tOf (xBin oNotIn (xVar 3) (xVar 2))) (xVar 4) [3, 4]) xNil)) (xVar 1)))
def d_bears : List D → Option D := runD 3 5 g_bears
theorem ok_bears {f : Addr} {fd : FuncData} (F : FnP K "bears" s_bears f fd) (b_enumerate : mg "enumerate" = none) (b_sum : mg "sum" = none) : FnOk P w K mg base CX0 1 f fd ["rooms", "weight", "flooded"] (spD K 3 d_bears) := by
  have nd := sc_bears.nd
  refine fnp_ok (k := 0) (O' := []) F sc_bears fun cdv A outer s H E hr => ?_
  exact (by exact ss_last (by exact ss_ret (by exact se_op op_subD (by exact se_callB (st := false) cb_sum b_sum (by exact sa_cons (by exact se_lc nd (by exact si_enum (st := false) b_enumerate (by exact sa_cons (by exact se_var 0) sa_nil)) (blkOk_by (own := [("index", 3), ("bearing", 4)]) rfl) (fun _ _ _ _ _ => (by exact sg_tup rfl (by exact sgs_cons (by exact sg_name 3 nd) (by exact sgs_cons (by exact sg_name 4 nd) sgs_nil)))) (fun _ _ _ _ _ => (by exact sts_one (by exact st_cmp (op_notInP hr) (by exact se_var 3) (by exact se_var 2)))) (fun _ _ _ _ _ => (by exact se_var 4))) sa_nil)) (by exact se_var 1))))
/-! ### floats_with -/
abbrev s_floats_with : Stmt := topS 21
theorem sc_floats_with : FnScope ["rooms", "weight", "flooded"] ["rooms", "weight", "flooded"] (defScope s_floats_with) := ⟨rfl, rfl, rfl, by decide +kernel, rfl, by decide +kernel, by decide +kernel⟩
def g_floats_with : XS :=
  (sRet (xBin oGe (xCall (fun ds => if ds.length = 3 then (d_bears) ds else none) (xCons (xVar 0) (xCons (xVar 1) (xCons (xVar 2) xNil)))) (xC (.int 0))))
def d_floats_with : List D → Option D := runD 3 3 g_floats_with
theorem ok_floats_with {f : Addr} {fd : FuncData} (F : FnP K "floats_with" s_floats_with f fd) (D_bears : Def P w K mg base 1 "bears" ["rooms", "weight", "flooded"] (d_bears)) : FnOk P w K mg base CX0 2 f fd ["rooms", "weight", "flooded"] (spD K 3 d_floats_with) := by
  have nd := sc_floats_with.nd
  refine fnp_ok (k := 1) (O' := []) F sc_floats_with fun cdv A outer s H E hr => ?_
  exact (by exact ss_last (by exact ss_ret (by exact se_cmp op_geD (by exact se_callD D_bears hr (by exact sa_cons (by exact se_var 0) (by exact sa_cons (by exact se_var 1) (by exact sa_cons (by exact se_var 2) sa_nil)))) se_int)))
/-! ### room_chances -/
abbrev s_room_chances : Stmt := topS 22
theorem sc_room_chances : FnScope ["rooms", "weight", "chances", "found", "flooded", "part", "index", "chance"] ["rooms", "weight", "chances"] (defScope s_room_chances) := ⟨rfl, rfl, rfl, by decide +kernel, rfl, by decide +kernel, by decide +kernel⟩
def l1_room_chances : XS :=
  (sSeq (sSet 5 (xCall (fun ds => if ds.length = 2 then (d_times) ds else none) (xCons (xVar 5) (xCons (xIf (tOf (xBin oIn (xVar 6) (xVar 4))) (xVar 7) (xCall (fun ds => if ds.length = 2 then (d_minus) ds else none) (xCons (xCall (fun ds => if ds.length = 1 then (d_whole) ds else none) (xCons (xC (.int 1)) xNil)) (xCons (xVar 7) xNil)))) xNil))))
  sNop)
def l2_room_chances : XS :=
  (sSeq (sIf (tTru (xCall (fun ds => if ds.length = 3 then (d_floats_with) ds else none) (xCons (xVar 0) (xCons (xVar 1) (xCons (xVar 4) xNil))))) (sSeq (sSet 5 (xCall (fun ds => if ds.length = 1 then (d_whole) ds else none) (xCons (xC (.int 1)) xNil)))
  (sSeq (sFor (xIt oEnum (xCons (xVar 2) xNil)) (gTupD 2 (gsCons (gSet 6) (gsCons (gSet 7) gsNil))) l1_room_chances)
  (sSeq (sSet 3 (xCall (fun ds => if ds.length = 2 then (d_plus) ds else none) (xCons (xVar 3) (xCons (xVar 5) xNil))))
  sNop))) sNop)
  sNop)
def g_room_chances : XS :=
  (sSeq (sSet 3 (xCall (fun ds => if ds.length = 1 then (d_whole) ds else none) (xCons (xC (.int 0)) xNil)))
  (sSeq (sFor (xSeq (xCall (fun ds => if ds.length = 1 then (d_all_sets) ds else none) (xCons (xCall bLen (xCons (xVar 0) xNil)) xNil))) (gSet 4) l2_room_chances)
  (sRet (xVar 3))))
def d_room_chances : List D → Option D := runD 3 8 g_room_chances
theorem ok_room_chances {f : Addr} {fd : FuncData} (F : FnP K "room_chances" s_room_chances f fd) (D_plus : Def P w K mg base 3 "plus" ["first", "second"] (d_plus)) (D_minus : Def P w K mg base 3 "minus" ["first", "second"] (d_minus)) (D_times : Def P w K mg base 3 "times" ["first", "second"] (d_times)) (D_all_sets : Def P w K mg base 1 "all_sets" ["n"] (d_all_sets)) (D_whole : Def P w K mg base 1 "whole" ["number"] (d_whole)) (D_floats_with : Def P w K mg base 2 "floats_with" ["rooms", "weight", "flooded"] (d_floats_with)) (b_enumerate : mg "enumerate" = none) (b_len : mg "len" = none) : FnOk P w K mg base CX0 4 f fd ["rooms", "weight", "chances"] (spD K 3 d_room_chances) := by
  have nd := sc_room_chances.nd
  refine fnp_ok (k := 3) (O' := []) F sc_room_chances fun cdv A outer s H E hr => ?_
  exact (by exact ss_cons (by exact ss_setS 3 nd (by exact se_callD D_whole hr (by exact sa_cons se_int sa_nil))) (by exact ss_cons (by exact ss_for (O' := []) (by exact si_seq (m := .s) (by exact se_callD D_all_sets hr (by exact sa_cons (by exact se_callB (st := false) cb_len b_len (by exact sa_cons (by exact se_var 0) sa_nil)) sa_nil))) (by exact sg_name 4 nd) (by exact ss_cons (by exact ss_if (O' := []) (by exact st_val (by exact se_callD D_floats_with hr (by exact sa_cons (by exact se_var 0) (by exact sa_cons (by exact se_var 1) (by exact sa_cons (by exact se_var 4) sa_nil))))) (by exact ss_cons (by exact ss_setS 5 nd (by exact se_callD D_whole hr (by exact sa_cons se_int sa_nil))) (by exact ss_cons (by exact ss_for (O' := []) (by exact si_enum (st := true) b_enumerate (by exact sa_cons (by exact se_var 2) sa_nil)) (by exact sg_tup rfl (by exact sgs_cons (by exact sg_name 6 nd) (by exact sgs_cons (by exact sg_name 7 nd) sgs_nil))) (by exact ss_cons (by exact ss_setS 5 nd (by exact se_callD D_times hr (by exact sa_cons (by exact se_var 5) (by exact sa_cons (by exact se_if (by exact st_cmp (op_inP hr) (by exact se_var 6) (by exact se_var 4)) (by exact se_var 7) (by exact se_callD D_minus hr (by exact sa_cons (by exact se_callD D_whole hr (by exact sa_cons se_int sa_nil)) (by exact sa_cons (by exact se_var 7) sa_nil)))) sa_nil)))) ss_nil)) (by exact ss_cons (by exact ss_setS 3 nd (by exact se_callD D_plus hr (by exact sa_cons (by exact se_var 3) (by exact sa_cons (by exact se_var 5) sa_nil)))) ss_nil))) ss_nil) ss_nil)) (by exact ss_last (by exact ss_ret (by exact se_var 3)))))
/-! ### tide_at -/
abbrev s_tide_at : Stmt := topS 24
theorem sc_tide_at : FnScope ["tide", "hour"] ["tide", "hour"] (defScope s_tide_at) := ⟨rfl, rfl, rfl, by decide +kernel, rfl, by decide +kernel, by decide +kernel⟩
def g_tide_at : XS :=
  (sRet (xBin oIx (xVar 0) (xBin oMod (xVar 1) (xCall bLen (xCons (xVar 0) xNil)))))
def d_tide_at : List D → Option D := runD 2 2 g_tide_at
theorem ok_tide_at {f : Addr} {fd : FuncData} (F : FnP K "tide_at" s_tide_at f fd) (b_len : mg "len" = none) : FnOk P w K mg base CX0 1 f fd ["tide", "hour"] (spD K 2 d_tide_at) := by
  have nd := sc_tide_at.nd
  refine fnp_ok (k := 0) (O' := []) F sc_tide_at fun cdv A outer s H E hr => ?_
  exact (by exact ss_last (by exact ss_ret (by exact se_ix (by exact se_var 0) (by exact se_op op_modD (by exact se_var 1) (by exact se_callB (st := false) cb_len b_len (by exact sa_cons (by exact se_var 0) sa_nil))))))
/-! ### open_runs -/
abbrev s_open_runs : Stmt := topS 25
theorem sc_open_runs : FnScope ["tide", "need", "span", "found", "hour"] ["tide", "need", "span"] (defScope s_open_runs) := ⟨rfl, rfl, rfl, by decide +kernel, rfl, by decide +kernel, by decide +kernel⟩
def l1_open_runs : XS :=
  (sSeq (sIf (tOf (xBin oGe (xCall (fun ds => if ds.length = 2 then (d_tide_at) ds else none) (xCons (xVar 0) (xCons (xVar 4) xNil))) (xVar 1))) (sSeq (sIf (tAndP (tTru (xVar 3)) (tOf (xBin oEq (xBin oIx (xBin oIx (xVar 3) (xUn oNeg (xC (.int 1)))) (xC (.int 1))) (xVar 4)))) (sSeq (sPut 3 (xUn oNeg (xC (.int 1))) (xTup (xCons (xBin oIx (xBin oIx (xVar 3) (xUn oNeg (xC (.int 1)))) (xC (.int 0))) (xCons (xBin oAdd (xVar 4) (xC (.int 1))) xNil))))
  sNop) (sSeq (sApp 3 (xTup (xCons (xVar 4) (xCons (xBin oAdd (xVar 4) (xC (.int 1))) xNil))))
  sNop))
  sNop) sNop)
  sNop)
def g_open_runs : XS :=
  (sSeq (sSet 3 (xLst xNil))
  (sSeq (sFor (xIt oR2 (xCons (xBin oIx (xVar 2) (xC (.int 0))) (xCons (xBin oIx (xVar 2) (xC (.int 1))) xNil))) (gSet 4) l1_open_runs)
  (sRet (xCall bTuple (xCons (xVar 3) xNil)))))
def d_open_runs : List D → Option D := runD 3 5 g_open_runs
theorem ok_open_runs {f : Addr} {fd : FuncData} (F : FnP K "open_runs" s_open_runs f fd) (D_tide_at : Def P w K mg base 1 "tide_at" ["tide", "hour"] (d_tide_at)) (b_range : mg "range" = none) (b_tuple : mg "tuple" = none) : FnOk P w K mg base CX0 2 f fd ["tide", "need", "span"] (spD K 3 d_open_runs) := by
  have nd := sc_open_runs.nd
  refine fnp_ok (k := 1) (O' := []) F sc_open_runs fun cdv A outer s H E hr => ?_
  exact (by exact ss_cons (by exact ss_setF 3 nd (by exact se_lst sa_nil)) (by exact ss_cons (by exact ss_for (O' := [3]) (by exact si_r2 (st := false) b_range (by exact sa_cons (by exact se_ix (by exact se_var 2) se_int) (by exact sa_cons (by exact se_ix (by exact se_var 2) se_int) sa_nil))) (by exact sg_name 4 nd) (by exact ss_cons (by exact ss_if (O' := [3]) (by exact st_cmp op_geD (by exact se_callD D_tide_at hr (by exact sa_cons (by exact se_var 0) (by exact sa_cons (by exact se_var 4) sa_nil))) (by exact se_var 1)) (by exact ss_cons (by exact ss_if (O' := [3]) (by exact SW.st (by exact sw_and (by exact st_val (by exact se_varW 3)) (by exact sw_and1 (by exact st_cmp (op_eqP hr) (by exact se_ix (by exact se_ix (by exact se_varW 3) (by exact se_un un_negD se_int)) se_int) (by exact se_var 4))))) (by exact ss_cons (by exact ss_put 3 (by exact se_tup (by exact sa_cons (by exact se_ix (by exact se_ix (by exact se_varW 3) (by exact se_un un_negD se_int)) se_int) (by exact sa_cons (by exact se_op op_addD (by exact se_var 4) se_int) sa_nil))) (by exact se_un un_negD se_int)) ss_nil) (by exact ss_cons (by exact ss_app 3 (by exact se_tup (by exact sa_cons (by exact se_var 4) (by exact sa_cons (by exact se_op op_addD (by exact se_var 4) se_int) sa_nil)))) ss_nil)) ss_nil) ss_nil) ss_nil)) (by exact ss_last (by exact ss_ret (by exact se_callT (st := false) cb_tuple b_tuple (by exact sa_cons (by exact se_varW 3) sa_nil))))))
/-! ### stays_open -/
abbrev s_stays_open : Stmt := topS 26
theorem sc_stays_open : FnScope ["tide", "need", "hour", "hours", "begin", "step"] ["tide", "need", "hour", "hours"] (defScope s_stays_open) := ⟨rfl, rfl, rfl, by decide +kernel, rfl, by decide +kernel, by decide +kernel⟩
def l1_stays_open : XS :=
  (sSeq (sIf (tTru (xCall bAll (xCons (xLc (xIt oR1 (xCons (xCall bMin2 (xCons (xVar 3) (xCons (xCall bLen (xCons (xVar 0) xNil)) xNil))) xNil)) (gSet 5) tYesP (xBin oGe (xCall (fun ds => if ds.length = 2 then (d_tide_at) ds else none) (xCons (xVar 0) (xCons (xBin oAdd (xVar 4) (xVar 5)) xNil))) (xVar 1)) [5]) xNil))) (sRet (xVar 4)) sNop)
  sNop)
def g_stays_open : XS :=
  (sSeq (sFor (xIt oR2 (xCons (xVar 2) (xCons (xBin oAdd (xVar 2) (xCall bLen (xCons (xVar 0) xNil))) xNil))) (gSet 4) l1_stays_open)
  (sRet (xC .none)))
def d_stays_open : List D → Option D := runD 4 6 g_stays_open
theorem ok_stays_open {f : Addr} {fd : FuncData} (F : FnP K "stays_open" s_stays_open f fd) (D_tide_at : Def P w K mg base 1 "tide_at" ["tide", "hour"] (d_tide_at)) (b_all : mg "all" = none) (b_len : mg "len" = none) (b_min : mg "min" = none) (b_range : mg "range" = none) : FnOk P w K mg base CX0 2 f fd ["tide", "need", "hour", "hours"] (spD K 4 d_stays_open) := by
  have nd := sc_stays_open.nd
  refine fnp_ok (k := 1) (O' := []) F sc_stays_open fun cdv A outer s H E hr => ?_
  exact (by exact ss_cons (by exact ss_for (O' := []) (by exact si_r2 (st := false) b_range (by exact sa_cons (by exact se_var 2) (by exact sa_cons (by exact se_op op_addD (by exact se_var 2) (by exact se_callB (st := false) cb_len b_len (by exact sa_cons (by exact se_var 0) sa_nil))) sa_nil))) (by exact sg_name 4 nd) (by exact ss_cons (by exact ss_if (O' := []) (by exact st_val (by exact se_callB (st := false) cb_all b_all (by exact sa_cons (by exact se_lc nd (by exact si_r1 (st := false) b_range (by exact sa_cons (by exact se_callB (st := false) cb_min2 b_min (by exact sa_cons (by exact se_var 3) (by exact sa_cons (by exact se_callB (st := false) cb_len b_len (by exact sa_cons (by exact se_var 0) sa_nil)) sa_nil))) sa_nil)) (blkOk_by (own := [("step", 5)]) rfl) (fun _ _ _ _ _ => (by exact sg_name 5 nd)) (fun _ _ _ _ _ => sts_nil) (fun _ _ _ _ _ => (by exact se_cmp op_geD (by exact se_callD D_tide_at hr (by exact sa_cons (by exact se_var 0) (by exact sa_cons (by exact se_op op_addD (by exact se_var 4) (by exact se_var 5)) sa_nil))) (by exact se_var 1)))) sa_nil))) (by exact ss_last (by exact ss_ret (by exact se_var 4))) ss_nil) ss_nil)) (by exact ss_last (by exact ss_ret se_non)))
/-! ### ends_in -/
abbrev s_ends_in : Stmt := topS 28
theorem sc_ends_in : FnScope ["ships", "works", "order", "index", "day", "found"] ["ships", "works", "order"] (defScope s_ends_in) := ⟨rfl, rfl, rfl, by decide +kernel, rfl, by decide +kernel, by decide +kernel⟩
def l1_ends_in : XS :=
  (sSeq (sSet 4 (xBin oAdd (xCall bMax2 (xCons (xVar 4) (xCons (xBin oIx (xBin oIx (xVar 0) (xVar 3)) (xC (.int 0))) xNil))) (xBin oIx (xVar 1) (xVar 3))))
  (sSeq (sPutK 5 (xVar 3) (xBin oSub (xVar 4) (xC (.int 1))))
  sNop))
def g_ends_in : XS :=
  (sSeq (sPar [4, 5] (xCons (xC (.int 0)) (xCons (xC (.dict [])) xNil)))
  (sSeq (sFor (xSeq (xVar 2)) (gSet 3) l1_ends_in)
  (sRet (xVar 5))))
def d_ends_in : List D → Option D := runD 3 6 g_ends_in
theorem ok_ends_in {f : Addr} {fd : FuncData} (F : FnP K "ends_in" s_ends_in f fd) (b_max : mg "max" = none) : FnOk P w K mg base CX0 1 f fd ["ships", "works", "order"] (spD K 3 d_ends_in) := by
  have nd := sc_ends_in.nd
  refine fnp_ok (k := 0) (O' := []) F sc_ends_in fun cdv A outer s H E hr => ?_
  exact (by exact ss_cons (by exact ss_par 4 5 nd (by exact sam_cons se_int (by exact sam_cons se_new sam_nil))) (by exact ss_cons (by exact ss_for (O' := [5, 4]) (by exact si_seq (m := .s) (by exact se_var 2)) (by exact sg_name 3 nd) (by exact ss_cons (by exact ss_setF 4 nd (by exact se_op op_addD (by exact se_callB (st := false) cb_max2 b_max (by exact sa_cons (by exact se_varW 4) (by exact sa_cons (by exact se_ix (by exact se_ix (by exact se_var 0) (by exact se_var 3)) se_int) sa_nil))) (by exact se_ix (by exact se_var 1) (by exact se_var 3)))) (by exact ss_cons (by exact ss_putK 5 hr (by exact se_op op_subD (by exact se_varW 4) se_int) (by exact se_var 3)) ss_nil))) (by exact ss_last (by exact SS.weak (O1 := [4]) (by exact ss_ret (by exact se_var 5))))))
/-! ### keeps_with -/
abbrev s_keeps_with : Stmt := topS 29
theorem sc_keeps_with : FnScope ["ships", "works", "order", "ends", "index"] ["ships", "works", "order"] (defScope s_keeps_with) := ⟨rfl, rfl, rfl, by decide +kernel, rfl, by decide +kernel, by decide +kernel⟩
def g_keeps_with : XS :=
  (sSeq (sSet 3 (xCall (fun ds => if ds.length = 3 then (d_ends_in) ds else none) (xCons (xVar 0) (xCons (xVar 1) (xCons (xVar 2) xNil)))))
  (sRet (xCall bAll (xCons (xLc (xSeq (xVar 2)) (gSet 4) tYesP (xBin oLe (xBin oIxK (xVar 3) (xVar 4)) (xBin oIx (xBin oIx (xVar 0) (xVar 4)) (xC (.int 3)))) [4]) xNil))))
def d_keeps_with : List D → Option D := runD 3 5 g_keeps_with
theorem ok_keeps_with {f : Addr} {fd : FuncData} (F : FnP K "keeps_with" s_keeps_with f fd) (D_ends_in : Def P w K mg base 1 "ends_in" ["ships", "works", "order"] (d_ends_in)) (b_all : mg "all" = none) : FnOk P w K mg base CX0 2 f fd ["ships", "works", "order"] (spD K 3 d_keeps_with) := by
  have nd := sc_keeps_with.nd
  refine fnp_ok (k := 1) (O' := []) F sc_keeps_with fun cdv A outer s H E hr => ?_
  exact (by exact ss_cons (by exact ss_setS 3 nd (by exact se_callD D_ends_in hr (by exact sa_cons (by exact se_var 0) (by exact sa_cons (by exact se_var 1) (by exact sa_cons (by exact se_var 2) sa_nil))))) (by exact ss_last (by exact ss_ret (by exact se_callB (st := false) cb_all b_all (by exact sa_cons (by exact se_lc nd (by exact si_seq (m := .s) (by exact se_var 2)) (blkOk_by (own := [("index", 4)]) rfl) (fun _ _ _ _ _ => (by exact sg_name 4 nd)) (fun _ _ _ _ _ => sts_nil) (fun _ _ _ _ _ => (by exact se_cmp op_leD (by exact se_dget hr (by exact se_var 3) (by exact se_var 4)) (by exact se_ix (by exact se_ix (by exact se_var 0) (by exact se_var 4)) se_int)))) sa_nil)))))
/-! ### chance_kept -/
abbrev s_chance_kept : Stmt := topS 30
theorem sc_chance_kept : FnScope ["ships", "weights", "order", "rows", "found", "ship", "row", "total", "works", "part", "step", "weight"] ["ships", "weights", "order"] (defScope s_chance_kept) := ⟨rfl, rfl, rfl, by decide +kernel, rfl, by decide +kernel, by decide +kernel⟩
def l1_chance_kept : XS :=
  (sSeq (sSet 7 (xCall bSum (xCons (xVar 6) xNil)))
  (sSeq (sSet 3 (xLc2 (xSeq (xVar 3)) (gTupD 2 (gsCons (gSet 8) (gsCons (gSet 9) gsNil))) tYesP (xIt oEnum (xCons (xVar 6) xNil)) (gTupD 2 (gsCons (gSet 10) (gsCons (gSet 11) gsNil))) tYesP (xTup (xCons (xBin oAdd (xVar 8) (xTup (xCons (xBin oAdd (xBin oIx (xVar 5) (xC (.int 1))) (xVar 10)) xNil))) (xCons (xCall (fun ds => if ds.length = 2 then (d_times) ds else none) (xCons (xVar 9) (xCons (xCall (fun ds => if ds.length = 2 then ((d_lowest) ds).bind fun d => if flat d then some d else none else none) (xCons (xVar 11) (xCons (xVar 7) xNil))) xNil))) xNil))) [8, 9, 10, 11] [10, 11]))
  sNop))
def l2_chance_kept : XS :=
  (sSeq (sSet 4 (xIf (tTru (xCall (fun ds => if ds.length = 3 then (d_keeps_with) ds else none) (xCons (xVar 0) (xCons (xVar 8) (xCons (xVar 2) xNil))))) (xCall (fun ds => if ds.length = 2 then (d_plus) ds else none) (xCons (xVar 4) (xCons (xVar 9) xNil))) (xVar 4)))
  sNop)
def g_chance_kept : XS :=
  (sSeq (sSet 3 (xLst (xCons (xTup (xCons (xTup xNil) (xCons (xCall (fun ds => if ds.length = 1 then (d_whole) ds else none) (xCons (xC (.int 1)) xNil)) xNil))) xNil)))
  (sSeq (sFor (xIt oZip (xCons (xVar 0) (xCons (xVar 1) xNil))) (gTupD 2 (gsCons (gSet 5) (gsCons (gSet 6) gsNil))) l1_chance_kept)
  (sSeq (sSet 4 (xCall (fun ds => if ds.length = 1 then (d_whole) ds else none) (xCons (xC (.int 0)) xNil)))
  (sSeq (sFor (xSeq (xVar 3)) (gTupD 2 (gsCons (gSet 8) (gsCons (gSet 9) gsNil))) l2_chance_kept)
  (sRet (xVar 4))))))
def d_chance_kept : List D → Option D := runD 3 12 g_chance_kept
theorem ok_chance_kept {f : Addr} {fd : FuncData} (F : FnP K "chance_kept" s_chance_kept f fd) (D_lowest : Def P w K mg base 2 "lowest" ["a", "b"] (d_lowest)) (D_plus : Def P w K mg base 3 "plus" ["first", "second"] (d_plus)) (D_times : Def P w K mg base 3 "times" ["first", "second"] (d_times)) (D_whole : Def P w K mg base 1 "whole" ["number"] (d_whole)) (D_keeps_with : Def P w K mg base 2 "keeps_with" ["ships", "works", "order"] (d_keeps_with)) (b_enumerate : mg "enumerate" = none) (b_sum : mg "sum" = none) (b_zip : mg "zip" = none) : FnOk P w K mg base CX0 4 f fd ["ships", "weights", "order"] (spD K 3 d_chance_kept) := by
  have nd := sc_chance_kept.nd
  refine fnp_ok (k := 3) (O' := []) F sc_chance_kept fun cdv A outer s H E hr => ?_
  exact (by exact ss_cons (by exact ss_setF 3 nd (by exact se_lst (by exact sa_cons (by exact se_tup (by exact sa_cons (by exact se_tup sa_nil) (by exact sa_cons (by exact se_callD D_whole hr (by exact sa_cons se_int sa_nil)) sa_nil))) sa_nil))) (by exact ss_cons (by exact ss_for (O' := [3]) (by exact si_zip (st := true) b_zip (by exact sa_cons (by exact se_var 0) (by exact sa_cons (by exact se_var 1) sa_nil))) (by exact sg_tup rfl (by exact sgs_cons (by exact sg_name 5 nd) (by exact sgs_cons (by exact sg_name 6 nd) sgs_nil))) (by exact ss_cons (by exact ss_setF 7 nd (by exact se_callB (st := false) cb_sum b_sum (by exact sa_cons (by exact se_var 6) sa_nil))) (by exact ss_cons (by exact ss_setLc2 3 (vs1 := [10, 11]) nd (by exact si_seq (m := .w) (by exact se_varW 3)) (blkOk_by (own := [("works", 8), ("part", 9), ("step", 10), ("weight", 11)]) rfl) (fun _ _ _ _ _ => (by exact sg_tup rfl (by exact sgs_cons (by exact sg_name 8 nd) (by exact sgs_cons (by exact sg_name 9 nd) sgs_nil)))) (fun _ _ _ _ _ => sts_nil) (fun _ _ _ _ _ => (by exact si_enum (st := true) b_enumerate (by exact sa_cons (by exact se_var 6) sa_nil))) (fun _ _ _ _ _ => (by exact sg_tup rfl (by exact sgs_cons (by exact sg_name 10 nd) (by exact sgs_cons (by exact sg_name 11 nd) sgs_nil)))) (fun _ _ _ _ _ => sts_nil) (fun _ _ _ _ _ => (by exact se_tup (by exact sa_cons (by exact se_op op_addD (by exact se_var 8) (by exact se_tup (by exact sa_cons (by exact se_op op_addD (by exact se_ix (by exact se_var 5) se_int) (by exact se_var 10)) sa_nil))) (by exact sa_cons (by exact se_callD D_times hr (by exact sa_cons (by exact se_var 9) (by exact sa_cons (by exact se_callWD D_lowest hr (by exact sa_cons (by exact se_var 11) (by exact sa_cons (by exact se_varW 7) sa_nil))) sa_nil))) sa_nil))))) ss_nil))) (by exact ss_cons (by exact ss_setS 4 nd (by exact se_callD D_whole hr (by exact sa_cons se_int sa_nil))) (by exact ss_cons (by exact SS.weak (O1 := []) (by exact ss_for (O' := []) (by exact si_seq (m := .s) (by exact se_var 3)) (by exact sg_tup rfl (by exact sgs_cons (by exact sg_name 8 nd) (by exact sgs_cons (by exact sg_name 9 nd) sgs_nil))) (by exact ss_cons (by exact ss_setS 4 nd (by exact se_if (by exact st_val (by exact se_callD D_keeps_with hr (by exact sa_cons (by exact se_var 0) (by exact sa_cons (by exact se_var 8) (by exact sa_cons (by exact se_var 2) sa_nil))))) (by exact se_callD D_plus hr (by exact sa_cons (by exact se_var 4) (by exact sa_cons (by exact se_var 9) sa_nil))) (by exact se_var 4))) ss_nil))) (by exact ss_last (by exact ss_ret (by exact se_var 4)))))))
/-! ### _law_mixed -/
abbrev s__law_mixed : Stmt := topS 32
theorem sc__law_mixed : FnScope ["script", "k", "cell", "first", "second", "third"] ["script", "k"] (defScope s__law_mixed) := ⟨rfl, rfl, rfl, by decide +kernel, rfl, by decide +kernel, by decide +kernel⟩
def g__law_mixed : XS :=
  (sSeq (sSet 2 (xC (.int 0)))
  (sSeq (sIf (tOf (xBin oGt (xCall bLen (xCons (xVar 0) xNil)) (xC (.int 0)))) (sSeq (sSet 2 (xBin oIx (xVar 0) (xBin oMod (xVar 1) (xCall bLen (xCons (xVar 0) xNil)))))
  sNop) sNop)
  (sSeq (sSet 3 (xBin oMod (xCall bInt (xCons (xBin oAdd (xBin oAdd (xBin oMul' (xVar 2) (xC (.int 48271))) (xBin oMul' (xVar 1) (xC (.int 69621)))) (xC (.int 8191))) xNil)) (xC (.int 2147483647))))
  (sSeq (sSet 4 (xBin oMod (xCall bInt (xCons (xBin oAdd (xBin oAdd (xBin oMul' (xVar 3) (xVar 3)) (xBin oFdiv (xVar 3) (xC (.int 7)))) (xBin oMul' (xVar 1) (xC (.int 16807)))) xNil)) (xC (.int 2147483629))))
  (sSeq (sSet 5 (xBin oMod (xCall bInt (xCons (xBin oAdd (xBin oAdd (xBin oMul' (xVar 4) (xVar 4)) (xBin oFdiv (xVar 4) (xC (.int 11)))) (xC (.int 40692))) xNil)) (xC (.int 2147483563))))
  (sRet (xBin oMod (xBin oFdiv (xVar 5) (xC (.int 5))) (xC (.int 1000003)))))))))
def d__law_mixed : List D → Option D := runD 2 6 g__law_mixed
theorem ok__law_mixed {f : Addr} {fd : FuncData} (F : FnP K "_law_mixed" s__law_mixed f fd) (b_int : mg "int" = none) (b_len : mg "len" = none) : FnOk P w K mg base CX0 1 f fd ["script", "k"] (spD K 2 d__law_mixed) := by
  have nd := sc__law_mixed.nd
  refine fnp_ok (k := 0) (O' := []) F sc__law_mixed fun cdv A outer s H E hr => ?_
  exact (by exact ss_cons (by exact ss_setF 2 nd se_int) (by exact ss_cons (by exact ss_if (O' := []) (by exact st_cmp op_gtD (by exact se_callB (st := false) cb_len b_len (by exact sa_cons (by exact se_var 0) sa_nil)) se_int) (by exact ss_cons (by exact ss_setS 2 nd (by exact se_ix (by exact se_var 0) (by exact se_op op_modD (by exact se_var 1) (by exact se_callB (st := false) cb_len b_len (by exact sa_cons (by exact se_var 0) sa_nil))))) ss_nil) ss_nil) (by exact ss_cons (by exact ss_setF 3 nd (by exact se_op op_modD (by exact se_callT (st := false) cb_int b_int (by exact sa_cons (by exact se_op op_addD (by exact se_op op_addD (by exact se_op op_mulD' (by exact se_var 2) se_int) (by exact se_op op_mulD' (by exact se_var 1) se_int)) se_int) sa_nil)) se_int)) (by exact ss_cons (by exact ss_setF 4 nd (by exact se_op op_modD (by exact se_callT (st := false) cb_int b_int (by exact sa_cons (by exact se_op op_addD (by exact se_op op_addD (by exact se_op op_mulD' (by exact se_varW 3) (by exact se_varW 3)) (by exact se_op op_fdivD (by exact se_varW 3) se_int)) (by exact se_op op_mulD' (by exact se_var 1) se_int)) sa_nil)) se_int)) (by exact ss_cons (by exact ss_setF 5 nd (by exact se_op op_modD (by exact se_callT (st := false) cb_int b_int (by exact sa_cons (by exact se_op op_addD (by exact se_op op_addD (by exact se_op op_mulD' (by exact se_varW 4) (by exact se_varW 4)) (by exact se_op op_fdivD (by exact se_varW 4) se_int)) se_int) sa_nil)) se_int)) (by exact ss_last (by exact ss_ret (by exact se_op op_modD (by exact se_op op_fdivD (by exact se_varW 5) se_int) se_int))))))))
/-! ### _law_row -/
abbrev s__law_row : Stmt := topS 33
theorem sc__law_row : FnScope ["script", "many", "big", "row", "k"] ["script", "many"] (defScope s__law_row) := ⟨rfl, rfl, rfl, by decide +kernel, rfl, by decide +kernel, by decide +kernel⟩
def l1__law_row : XS :=
  (sSeq (sIf (tOf (xBin oGt (xVar 2) (xC (.int 0)))) (sSeq (sApp 3 (xBin oMod (xCall bInt (xCons (xVar 2) xNil)) (xC (.int 1000))))
  (sSeq (sSet 2 (xBin oFdiv (xVar 2) (xC (.int 1000))))
  sNop)) (sSeq (sApp 3 (xCall (fun ds => if ds.length = 2 then (d__law_mixed) ds else none) (xCons (xVar 0) (xCons (xVar 4) xNil))))
  sNop))
  sNop)
def g__law_row : XS :=
  (sSeq (sSet 2 (xC (.int 0)))
  (sSeq (sIf (tAndP (tOf (xBin oGt (xCall bLen (xCons (xVar 0) xNil)) (xC (.int 0)))) (tOf (xBin oGe (xBin oIx (xVar 0) (xC (.int 0))) (xBin oPow (xC (.int 10)) (xC (.int 18)))))) (sSeq (sSet 2 (xBin oIx (xVar 0) (xC (.int 0))))
  sNop) sNop)
  (sSeq (sSet 3 (xLst xNil))
  (sSeq (sFor (xIt oR1 (xCons (xVar 1) xNil)) (gSet 4) l1__law_row)
  (sRet (xVar 3))))))
def d__law_row : List D → Option D := runD 2 5 g__law_row
theorem ok__law_row {f : Addr} {fd : FuncData} (F : FnP K "_law_row" s__law_row f fd) (D__law_mixed : Def P w K mg base 1 "_law_mixed" ["script", "k"] (d__law_mixed)) (b_int : mg "int" = none) (b_len : mg "len" = none) (b_range : mg "range" = none) : FnOk P w K mg base CX0 2 f fd ["script", "many"] (spD K 2 d__law_row) := by
  have nd := sc__law_row.nd
  refine fnp_ok (k := 1) (O' := []) F sc__law_row fun cdv A outer s H E hr => ?_
  exact (by exact ss_cons (by exact ss_setF 2 nd se_int) (by exact ss_cons (by exact ss_if (O' := []) (by exact SW.st (by exact sw_and (by exact st_cmp op_gtD (by exact se_callB (st := false) cb_len b_len (by exact sa_cons (by exact se_var 0) sa_nil)) se_int) (by exact sw_and1 (by exact st_cmp op_geD (by exact se_ix (by exact se_var 0) se_int) (by exact se_op op_powD se_int se_int))))) (by exact ss_cons (by exact ss_setS 2 nd (by exact se_ix (by exact se_var 0) se_int)) ss_nil) ss_nil) (by exact ss_cons (by exact ss_setF 3 nd (by exact se_lst sa_nil)) (by exact ss_cons (by exact ss_for (O' := [3]) (by exact si_r1 (st := false) b_range (by exact sa_cons (by exact se_var 1) sa_nil)) (by exact sg_name 4 nd) (by exact ss_cons (by exact ss_if (O' := [3]) (by exact st_cmp op_gtD (by exact se_var 2) se_int) (by exact ss_cons (by exact ss_app 3 (by exact se_op op_modD (by exact se_callT (st := false) cb_int b_int (by exact sa_cons (by exact se_var 2) sa_nil)) se_int)) (by exact ss_cons (by exact ss_setF 2 nd (by exact se_op op_fdivD (by exact se_var 2) se_int)) ss_nil)) (by exact ss_cons (by exact ss_app 3 (by exact se_callD D__law_mixed hr (by exact sa_cons (by exact se_var 0) (by exact sa_cons (by exact se_var 4) sa_nil)))) ss_nil)) ss_nil)) (by exact ss_last (by exact SS.weak (O1 := []) (by exact ss_ret (by exact se_var 3))))))))
/-! ### _law_is_int -/
abbrev s__law_is_int : Stmt := topS 34
theorem sc__law_is_int : FnScope ["value"] ["value"] (defScope s__law_is_int) := ⟨rfl, rfl, rfl, by decide +kernel, rfl, by decide +kernel, by decide +kernel⟩
def g__law_is_int : XS :=
  (sRet (xAnd (xUn (oIsi "int") (xVar 0)) (xUn oNot (xUn (oIsi "bool") (xVar 0)))))
def d__law_is_int : List D → Option D := runD 1 1 g__law_is_int
theorem ok__law_is_int {f : Addr} {fd : FuncData} (F : FnP K "_law_is_int" s__law_is_int f fd) (b_bool : mg "bool" = none) (b_int : mg "int" = none) (b_isinstance : mg "isinstance" = none) : FnOk P w K mg base CX0 1 f fd ["value"] (spD K 1 d__law_is_int) := by
  have nd := sc__law_is_int.nd
  refine fnp_ok (k := 0) (O' := []) F sc__law_is_int fun cdv A outer s H E hr => ?_
  exact (by exact ss_last (by exact ss_ret (by exact se_and (by exact se_isi "int" (by exact se_var 0) b_isinstance b_int) (by exact se_bone (by exact se_not (m := .f) (by exact se_isi "bool" (by exact se_var 0) b_isinstance b_bool))))))
/-! ### _law_like -/
abbrev s__law_like : Stmt := topS 35
theorem sc__law_like : FnScope ["value", "due", "k"] ["value", "due"] (defScope s__law_like) := ⟨rfl, rfl, rfl, by decide +kernel, rfl, by decide +kernel, by decide +kernel⟩
def g__law_like (d__law_like : List D → Option D) : XS :=
  (sSeq (sIf (tOf (xBin oIs (xVar 1) (xC .none))) (sRet (xBin oIs (xVar 0) (xC .none))) sNop)
  (sSeq (sIf (tTru (xUn (oIsi "bool") (xVar 1))) (sRet (xAnd (xUn (oIsi "bool") (xVar 0)) (xBin oEq (xVar 0) (xVar 1)))) sNop)
  (sSeq (sIf (tTru (xUn (oIsi "tuple") (xVar 1))) (sSeq (sIf (tOrP (tNotP (tTru (xUn (oIsi "tuple") (xVar 0)))) (tOf (xBin oNe (xCall bLen (xCons (xVar 0) xNil)) (xCall bLen (xCons (xVar 1) xNil))))) (sRet (xC (.bool false))) sNop)
  (sRet (xCall bAll (xCons (xLc (xIt oR1 (xCons (xCall bLen (xCons (xVar 1) xNil)) xNil)) (gSet 2) tYesP (xCall (fun ds => if ds.length = 2 then d__law_like ds else none) (xCons (xBin oIx (xVar 0) (xVar 2)) (xCons (xBin oIx (xVar 1) (xVar 2)) xNil))) [2]) xNil)))) sNop)
  (sSeq (sIf (tTru (xUn (oIsi "str") (xVar 1))) (sRet (xAnd (xUn (oIsi "str") (xVar 0)) (xBin oEq (xVar 0) (xVar 1)))) sNop)
  (sRet (xAnd (xCall (fun ds => if ds.length = 1 then (d__law_is_int) ds else none) (xCons (xVar 0) xNil)) (xBin oEq (xVar 0) (xVar 1))))))))
def d__law_like : Nat → List D → Option D
  | 0 => fun _ => none
  | n + 1 => runD 2 3 (g__law_like (d__law_like n))
theorem ok__law_like {f : Addr} {fd : FuncData} (F : FnP K "_law_like" s__law_like f fd) (hm : mg "_law_like" = some (.ref f)) (kp : PySem.W.keepIn K (.ref f) = true) (hb : Binds K fd ["value", "due"] []) (D__law_is_int : Def P w K mg base 1 "_law_is_int" ["value"] (d__law_is_int)) (b_all : mg "all" = none) (b_bool : mg "bool" = none) (b_isinstance : mg "isinstance" = none) (b_len : mg "len" = none) (b_range : mg "range" = none) (b_str : mg "str" = none) (b_tuple : mg "tuple" = none) : ∀ n, FnOk P w K mg base CX0 (2 + n) f fd ["value", "due"] (spD K 2 (d__law_like n)) := by
  intro n
  induction n with
  | zero => exact fn_none F sc__law_like
  | succ n ih =>
    have nd := sc__law_like.nd
    have D__law_like : Def P w K mg base (2 + n) "_law_like" ["value", "due"] (d__law_like n) := def_ok ih hm kp hb
    refine fnp_ok (k := 2 + n) (O' := []) F sc__law_like fun cdv A outer s H E hr => ?_
    exact (by exact ss_cons (by exact ss_if (O' := []) (by exact st_cmp op_isD (by exact se_var 1) se_non) (by exact ss_last (by exact ss_ret (by exact se_cmp op_isD (by exact se_var 0) se_non))) ss_nil) (by exact ss_cons (by exact ss_if (O' := []) (by exact st_val (by exact se_isi "bool" (by exact se_var 1) b_isinstance b_bool)) (by exact ss_last (by exact ss_ret (by exact se_and (by exact se_isi "bool" (by exact se_var 0) b_isinstance b_bool) (by exact se_bone (by exact se_cmp (op_eqP hr) (by exact se_var 0) (by exact se_var 1)))))) ss_nil) (by exact ss_cons (by exact ss_if (O' := []) (by exact st_val (by exact se_isi "tuple" (by exact se_var 1) b_isinstance b_tuple)) (by exact ss_cons (by exact ss_if (O' := []) (by exact SW.st (by exact sw_or (by exact st_not (by exact st_val (by exact se_isi "tuple" (by exact se_var 0) b_isinstance b_tuple))) (by exact sw_or1 (by exact st_cmp (op_neP hr) (by exact se_callB (st := false) cb_len b_len (by exact sa_cons (by exact se_var 0) sa_nil)) (by exact se_callB (st := false) cb_len b_len (by exact sa_cons (by exact se_var 1) sa_nil)))))) (by exact ss_last (by exact ss_ret se_bl)) ss_nil) (by exact ss_last (by exact ss_ret (by exact se_callB (st := false) cb_all b_all (by exact sa_cons (by exact se_lc nd (by exact si_r1 (st := false) b_range (by exact sa_cons (by exact se_callB (st := false) cb_len b_len (by exact sa_cons (by exact se_var 1) sa_nil)) sa_nil)) (blkOk_by (own := [("k", 2)]) rfl) (fun _ _ _ _ _ => (by exact sg_name 2 nd)) (fun _ _ _ _ _ => sts_nil) (fun _ _ _ _ _ => (by exact se_callD (hk := by omega) D__law_like hr (by exact sa_cons (by exact se_ix (by exact se_var 0) (by exact se_var 2)) (by exact sa_cons (by exact se_ix (by exact se_var 1) (by exact se_var 2)) sa_nil))))) sa_nil))))) ss_nil) (by exact ss_cons (by exact ss_if (O' := []) (by exact st_val (by exact se_isi "str" (by exact se_var 1) b_isinstance b_str)) (by exact ss_last (by exact ss_ret (by exact se_and (by exact se_isi "str" (by exact se_var 0) b_isinstance b_str) (by exact se_bone (by exact se_cmp (op_eqP hr) (by exact se_var 0) (by exact se_var 1)))))) ss_nil) (by exact ss_last (by exact ss_ret (by exact se_and (by exact se_callD (hk := by omega) D__law_is_int hr (by exact sa_cons (by exact se_var 0) sa_nil)) (by exact se_bone (by exact se_cmp (op_eqP hr) (by exact se_var 0) (by exact se_var 1))))))))))
/-! ### _law_orders -/
abbrev s__law_orders : Stmt := topS 36
theorem sc__law_orders : FnScope ["count", "rows", "turn", "grown", "row", "one"] ["count"] (defScope s__law_orders) := ⟨rfl, rfl, rfl, by decide +kernel, rfl, by decide +kernel, by decide +kernel⟩
def l1__law_orders : XS :=
  (sSeq (sExt 3 (xLc (xIt oR1 (xCons (xVar 0) xNil)) (gSet 5) (tOf (xBin oNotIn (xVar 5) (xVar 4))) (xBin oAdd (xVar 4) (xTup (xCons (xVar 5) xNil))) [5]))
  sNop)
def l2__law_orders : XS :=
  (sSeq (sSet 3 (xLst xNil))
  (sSeq (sFor (xSeq (xVar 1)) (gSet 4) l1__law_orders)
  (sSeq (sSet 1 (xVar 3))
  sNop)))
def g__law_orders : XS :=
  (sSeq (sSet 1 (xLst (xCons (xTup xNil) xNil)))
  (sSeq (sFor (xIt oR1 (xCons (xVar 0) xNil)) (gSet 2) l2__law_orders)
  (sRet (xVar 1))))
def d__law_orders : List D → Option D := runD 1 6 g__law_orders
theorem ok__law_orders {f : Addr} {fd : FuncData} (F : FnP K "_law_orders" s__law_orders f fd) (b_range : mg "range" = none) : FnOk P w K mg base CX0 1 f fd ["count"] (spD K 1 d__law_orders) := by
  have nd := sc__law_orders.nd
  refine fnp_ok (k := 0) (O' := []) F sc__law_orders fun cdv A outer s H E hr => ?_
  exact (by exact ss_cons (by exact ss_setF 1 nd (by exact se_lst (by exact sa_cons (by exact se_tup sa_nil) sa_nil))) (by exact ss_cons (by exact SS.weak (O1 := []) (by exact ss_for (O' := []) (by exact si_r1 (st := false) b_range (by exact sa_cons (by exact se_var 0) sa_nil)) (by exact sg_name 2 nd) (by exact ss_cons (by exact ss_setF 3 nd (by exact se_lst sa_nil)) (by exact ss_cons (by exact ss_for (O' := [3]) (by exact si_seq (m := .s) (by exact se_var 1)) (by exact sg_name 4 nd) (by exact ss_cons (by exact ss_ext 3 (by exact se_lc nd (by exact si_r1 (st := false) b_range (by exact sa_cons (by exact se_var 0) sa_nil)) (blkOk_by (own := [("one", 5)]) rfl) (fun _ _ _ _ _ => (by exact sg_name 5 nd)) (fun _ _ _ _ _ => (by exact sts_one (by exact st_cmp (op_notInP hr) (by exact se_var 5) (by exact se_var 4)))) (fun _ _ _ _ _ => (by exact se_op op_addD (by exact se_var 4) (by exact se_tup (by exact sa_cons (by exact se_var 5) sa_nil)))))) ss_nil)) (by exact ss_cons (by exact SS.weak (O1 := []) (by exact ss_setS 1 nd (by exact se_var 3))) ss_nil))))) (by exact ss_last (by exact ss_ret (by exact se_var 1)))))
/-! ### _law_common -/
abbrev s__law_common : Stmt := topS 37
theorem sc__law_common : FnScope ["first", "second"] ["first", "second"] (defScope s__law_common) := ⟨rfl, rfl, rfl, by decide +kernel, rfl, by decide +kernel, by decide +kernel⟩
def l1__law_common : XS :=
  (sSeq (sPar [0, 1] (xCons (xVar 1) (xCons (xBin oMod (xCall bInt (xCons (xVar 0) xNil)) (xVar 1)) xNil)))
  sNop)
def g__law_common : XS :=
  (sSeq (sPar [0, 1] (xCons (xCall bAbs (xCons (xVar 0) xNil)) (xCons (xCall bAbs (xCons (xVar 1) xNil)) xNil)))
  (sSeq (sWhile (tOf (xBin oGt (xVar 1) (xC (.int 0)))) l1__law_common)
  (sRet (xVar 0))))
def d__law_common : List D → Option D := runD 2 2 g__law_common
theorem ok__law_common {f : Addr} {fd : FuncData} (F : FnP K "_law_common" s__law_common f fd) (b_abs : mg "abs" = none) (b_int : mg "int" = none) : FnOk P w K mg base CX0 1 f fd ["first", "second"] (spD K 2 d__law_common) := by
  have nd := sc__law_common.nd
  refine fnp_ok (k := 0) (O' := []) F sc__law_common fun cdv A outer s H E hr => ?_
  exact (by exact ss_cons (by exact ss_par 0 1 nd (by exact sam_cons (by exact se_callB (st := false) cb_abs b_abs (by exact sa_cons (by exact se_var 0) sa_nil)) (by exact sam_cons (by exact se_callB (st := false) cb_abs b_abs (by exact sa_cons (by exact se_var 1) sa_nil)) sam_nil))) (by exact ss_cons (by exact SS.weak (O1 := [1]) (by exact ss_while (O' := [1]) (by exact st_cmp op_gtD (by exact se_varW 1) se_int) (by exact ss_cons (by exact SS.weak (O1 := []) (by exact ss_par 0 1 nd (by exact sam_cons (by exact se_var 1) (by exact sam_cons (by exact se_op op_modD (by exact se_callT (st := false) cb_int b_int (by exact sa_cons (by exact se_var 0) sa_nil)) (by exact se_var 1)) sam_nil)))) ss_nil))) (by exact ss_last (by exact ss_ret (by exact se_var 0)))))
/-! ### _law_ratio -/
abbrev s__law_ratio : Stmt := topS 38
theorem sc__law_ratio : FnScope ["a", "b", "shared"] ["a", "b"] (defScope s__law_ratio) := ⟨rfl, rfl, rfl, by decide +kernel, rfl, by decide +kernel, by decide +kernel⟩
def g__law_ratio : XS :=
  (sSeq (sSet 2 (xCall (fun ds => if ds.length = 2 then (d__law_common) ds else none) (xCons (xVar 0) (xCons (xVar 1) xNil))))
  (sSeq (sIf (tOf (xBin oLt (xVar 1) (xC (.int 0)))) (sSeq (sSet 2 (xUn oNeg (xVar 2)))
  sNop) sNop)
  (sRet (xTup (xCons (xBin oFdiv (xVar 0) (xVar 2)) (xCons (xBin oFdiv (xVar 1) (xVar 2)) xNil))))))
def d__law_ratio : List D → Option D := runD 2 3 g__law_ratio
theorem ok__law_ratio {f : Addr} {fd : FuncData} (F : FnP K "_law_ratio" s__law_ratio f fd) (D__law_common : Def P w K mg base 1 "_law_common" ["first", "second"] (d__law_common)) : FnOk P w K mg base CX0 2 f fd ["a", "b"] (spD K 2 d__law_ratio) := by
  have nd := sc__law_ratio.nd
  refine fnp_ok (k := 1) (O' := []) F sc__law_ratio fun cdv A outer s H E hr => ?_
  exact (by exact ss_cons (by exact ss_setS 2 nd (by exact se_callD D__law_common hr (by exact sa_cons (by exact se_var 0) (by exact sa_cons (by exact se_var 1) sa_nil)))) (by exact ss_cons (by exact ss_if (O' := []) (by exact st_cmp op_ltD (by exact se_var 1) se_int) (by exact ss_cons (by exact ss_setF 2 nd (by exact se_un un_negD (by exact se_var 2))) ss_nil) ss_nil) (by exact ss_last (by exact ss_ret (by exact se_tup (by exact sa_cons (by exact se_op op_fdivD (by exact se_var 0) (by exact se_var 2)) (by exact sa_cons (by exact se_op op_fdivD (by exact se_var 1) (by exact se_var 2)) sa_nil)))))))
/-! ### _law_sum -/
abbrev s__law_sum : Stmt := topS 39
theorem sc__law_sum : FnScope ["ratios", "top", "under", "a", "b"] ["ratios"] (defScope s__law_sum) := ⟨rfl, rfl, rfl, by decide +kernel, rfl, by decide +kernel, by decide +kernel⟩
def l1__law_sum : XS :=
  (sSeq (sPar [1, 2] (xCons (xBin oAdd (xBin oMul' (xVar 1) (xVar 4)) (xBin oMul' (xVar 3) (xVar 2))) (xCons (xBin oMul' (xVar 2) (xVar 4)) xNil)))
  sNop)
def g__law_sum : XS :=
  (sSeq (sTgt (gTupD 2 (gsCons (gSet 1) (gsCons (gSet 2) gsNil))) (xTup (xCons (xC (.int 0)) (xCons (xC (.int 1)) xNil))))
  (sSeq (sFor (xSeq (xVar 0)) (gTupD 2 (gsCons (gSet 3) (gsCons (gSet 4) gsNil))) l1__law_sum)
  (sRet (xCall (fun ds => if ds.length = 2 then (d__law_ratio) ds else none) (xCons (xVar 1) (xCons (xVar 2) xNil))))))
def d__law_sum : List D → Option D := runD 1 5 g__law_sum
theorem ok__law_sum {f : Addr} {fd : FuncData} (F : FnP K "_law_sum" s__law_sum f fd) (D__law_ratio : Def P w K mg base 2 "_law_ratio" ["a", "b"] (d__law_ratio)) : FnOk P w K mg base CX0 3 f fd ["ratios"] (spD K 1 d__law_sum) := by
  have nd := sc__law_sum.nd
  refine fnp_ok (k := 2) (O' := []) F sc__law_sum fun cdv A outer s H E hr => ?_
  exact (by exact ss_cons (by exact ss_tgt (by exact se_tup (by exact sa_cons se_int (by exact sa_cons se_int sa_nil))) (by exact sg_tup rfl (by exact sgs_cons (by exact sg_name 1 nd) (by exact sgs_cons (by exact sg_name 2 nd) sgs_nil)))) (by exact ss_cons (by exact ss_for (O' := []) (by exact si_seq (m := .s) (by exact se_var 0)) (by exact sg_tup rfl (by exact sgs_cons (by exact sg_name 3 nd) (by exact sgs_cons (by exact sg_name 4 nd) sgs_nil))) (by exact ss_cons (by exact ss_par 1 2 nd (by exact sam_cons (by exact se_op op_addD (by exact se_op op_mulD' (by exact se_var 1) (by exact se_var 4)) (by exact se_op op_mulD' (by exact se_var 3) (by exact se_var 2))) (by exact sam_cons (by exact se_op op_mulD' (by exact se_var 2) (by exact se_var 4)) sam_nil))) ss_nil)) (by exact ss_last (by exact ss_ret (by exact se_callD D__law_ratio hr (by exact sa_cons (by exact se_var 1) (by exact sa_cons (by exact se_var 2) sa_nil)))))))
/-! ### _law_tuples -/
abbrev s__law_tuples : Stmt := topS 40
theorem sc__law_tuples : FnScope ["count", "most", "rows", "turn", "grown", "one", "k"] ["count", "most"] (defScope s__law_tuples) := ⟨rfl, rfl, rfl, by decide +kernel, rfl, by decide +kernel, by decide +kernel⟩
def l1__law_tuples : XS :=
  (sSeq (sExt 4 (xLc (xIt oR1 (xCons (xVar 1) xNil)) (gSet 6) tYesP (xBin oAdd (xVar 5) (xTup (xCons (xVar 6) xNil))) [6]))
  sNop)
def l2__law_tuples : XS :=
  (sSeq (sSet 4 (xLst xNil))
  (sSeq (sFor (xSeq (xVar 2)) (gSet 5) l1__law_tuples)
  (sSeq (sSet 2 (xVar 4))
  sNop)))
def g__law_tuples : XS :=
  (sSeq (sSet 2 (xLst (xCons (xTup xNil) xNil)))
  (sSeq (sFor (xIt oR1 (xCons (xVar 0) xNil)) (gSet 3) l2__law_tuples)
  (sRet (xVar 2))))
def d__law_tuples : List D → Option D := runD 2 7 g__law_tuples
theorem ok__law_tuples {f : Addr} {fd : FuncData} (F : FnP K "_law_tuples" s__law_tuples f fd) (b_range : mg "range" = none) : FnOk P w K mg base CX0 1 f fd ["count", "most"] (spD K 2 d__law_tuples) := by
  have nd := sc__law_tuples.nd
  refine fnp_ok (k := 0) (O' := []) F sc__law_tuples fun cdv A outer s H E hr => ?_
  exact (by exact ss_cons (by exact ss_setF 2 nd (by exact se_lst (by exact sa_cons (by exact se_tup sa_nil) sa_nil))) (by exact ss_cons (by exact SS.weak (O1 := []) (by exact ss_for (O' := []) (by exact si_r1 (st := false) b_range (by exact sa_cons (by exact se_var 0) sa_nil)) (by exact sg_name 3 nd) (by exact ss_cons (by exact ss_setF 4 nd (by exact se_lst sa_nil)) (by exact ss_cons (by exact ss_for (O' := [4]) (by exact si_seq (m := .s) (by exact se_var 2)) (by exact sg_name 5 nd) (by exact ss_cons (by exact ss_ext 4 (by exact se_lc nd (by exact si_r1 (st := false) b_range (by exact sa_cons (by exact se_var 1) sa_nil)) (blkOk_by (own := [("k", 6)]) rfl) (fun _ _ _ _ _ => (by exact sg_name 6 nd)) (fun _ _ _ _ _ => sts_nil) (fun _ _ _ _ _ => (by exact se_op op_addD (by exact se_var 5) (by exact se_tup (by exact sa_cons (by exact se_var 6) sa_nil)))))) ss_nil)) (by exact ss_cons (by exact SS.weak (O1 := []) (by exact ss_setS 2 nd (by exact se_var 4))) ss_nil))))) (by exact ss_last (by exact ss_ret (by exact se_var 2)))))
/-! ### _law_power -/
abbrev s__law_power : Stmt := topS 41
theorem sc__law_power : FnScope ["a", "b", "many", "turn", "top", "under"] ["a", "b", "many"] (defScope s__law_power) := ⟨rfl, rfl, rfl, by decide +kernel, rfl, by decide +kernel, by decide +kernel⟩
def l1__law_power : XS :=
  (sSeq (sPar [4, 5] (xCons (xBin oMul' (xVar 4) (xVar 0)) (xCons (xBin oMul' (xVar 5) (xVar 1)) xNil)))
  sNop)
def g__law_power : XS :=
  (sSeq (sTgt (gTupD 2 (gsCons (gSet 4) (gsCons (gSet 5) gsNil))) (xTup (xCons (xC (.int 1)) (xCons (xC (.int 1)) xNil))))
  (sSeq (sFor (xIt oR1 (xCons (xVar 2) xNil)) (gSet 3) l1__law_power)
  (sRet (xTup (xCons (xVar 4) (xCons (xVar 5) xNil))))))
def d__law_power : List D → Option D := runD 3 6 g__law_power
theorem ok__law_power {f : Addr} {fd : FuncData} (F : FnP K "_law_power" s__law_power f fd) (b_range : mg "range" = none) : FnOk P w K mg base CX0 1 f fd ["a", "b", "many"] (spD K 3 d__law_power) := by
  have nd := sc__law_power.nd
  refine fnp_ok (k := 0) (O' := []) F sc__law_power fun cdv A outer s H E hr => ?_
  exact (by exact ss_cons (by exact ss_tgt (by exact se_tup (by exact sa_cons se_int (by exact sa_cons se_int sa_nil))) (by exact sg_tup rfl (by exact sgs_cons (by exact sg_name 4 nd) (by exact sgs_cons (by exact sg_name 5 nd) sgs_nil)))) (by exact ss_cons (by exact ss_for (O' := []) (by exact si_r1 (st := false) b_range (by exact sa_cons (by exact se_var 2) sa_nil)) (by exact sg_name 3 nd) (by exact ss_cons (by exact ss_par 4 5 nd (by exact sam_cons (by exact se_op op_mulD' (by exact se_var 4) (by exact se_var 0)) (by exact sam_cons (by exact se_op op_mulD' (by exact se_var 5) (by exact se_var 1)) sam_nil))) ss_nil)) (by exact ss_last (by exact ss_ret (by exact se_tup (by exact sa_cons (by exact se_var 4) (by exact sa_cons (by exact se_var 5) sa_nil)))))))
/-! ### _law_dried -/
abbrev s__law_dried : Stmt := topS 42
theorem sc__law_dried : FnScope ["a", "b", "k", "n", "top", "days", "part", "day", "at"] ["a", "b", "k", "n"] (defScope s__law_dried) := ⟨rfl, rfl, rfl, by decide +kernel, rfl, by decide +kernel, by decide +kernel⟩
def l1__law_dried : XS :=
  (sSeq (sSet 6 (xBin oMul' (xVar 6) (xBin oIx (xTup (xCons (xBin oSub (xVar 1) (xVar 0)) (xCons (xVar 0) xNil))) (xVar 7))))
  sNop)
def l2__law_dried : XS :=
  (sSeq (sIf (tTru (xCall bAny (xCons (xLc (xIt oR1 (xCons (xBin oAdd (xBin oSub (xVar 3) (xVar 2)) (xC (.int 1))) xNil)) (gSet 8) tYesP (xBin oEq (xCall bMinI (xCons (xSl (xVar 5) (oAt (xVar 8)) (oAt (xBin oAdd (xVar 8) (xVar 2)))) xNil)) (xC (.int 1))) [8]) xNil))) (sSeq (sSet 6 (xC (.int 1)))
  (sSeq (sFor (xSeq (xVar 5)) (gSet 7) l1__law_dried)
  (sSeq (sSet 4 (xBin oAdd (xVar 4) (xVar 6)))
  sNop))) sNop)
  sNop)
def g__law_dried : XS :=
  (sSeq (sSet 4 (xC (.int 0)))
  (sSeq (sFor (xSeq (xCall (fun ds => if ds.length = 2 then (d__law_tuples) ds else none) (xCons (xVar 3) (xCons (xC (.int 2)) xNil)))) (gSet 5) l2__law_dried)
  (sRet (xCall (fun ds => if ds.length = 2 then ((d__law_ratio) ds).bind fun d => if flat d then some d else none else none) (xCons (xVar 4) (xCons (xBin oIx (xCall (fun ds => if ds.length = 3 then (d__law_power) ds else none) (xCons (xVar 0) (xCons (xVar 1) (xCons (xVar 3) xNil)))) (xC (.int 1))) xNil))))))
def d__law_dried : List D → Option D := runD 4 9 g__law_dried
theorem ok__law_dried {f : Addr} {fd : FuncData} (F : FnP K "_law_dried" s__law_dried f fd) (D__law_ratio : Def P w K mg base 2 "_law_ratio" ["a", "b"] (d__law_ratio)) (D__law_tuples : Def P w K mg base 1 "_law_tuples" ["count", "most"] (d__law_tuples)) (D__law_power : Def P w K mg base 1 "_law_power" ["a", "b", "many"] (d__law_power)) (b_any : mg "any" = none) (b_min : mg "min" = none) (b_range : mg "range" = none) : FnOk P w K mg base CX0 3 f fd ["a", "b", "k", "n"] (spD K 4 d__law_dried) := by
  have nd := sc__law_dried.nd
  refine fnp_ok (k := 2) (O' := []) F sc__law_dried fun cdv A outer s H E hr => ?_
  exact (by exact ss_cons (by exact ss_setF 4 nd se_int) (by exact ss_cons (by exact ss_for (O' := [4]) (by exact si_seq (m := .s) (by exact se_callD D__law_tuples hr (by exact sa_cons (by exact se_var 3) (by exact sa_cons se_int sa_nil)))) (by exact sg_name 5 nd) (by exact ss_cons (by exact ss_if (O' := [4, 4]) (by exact st_val (by exact se_callB (st := false) cb_any b_any (by exact sa_cons (by exact se_lc nd (by exact si_r1 (st := false) b_range (by exact sa_cons (by exact se_op op_addD (by exact se_op op_subD (by exact se_var 3) (by exact se_var 2)) se_int) sa_nil)) (blkOk_by (own := [("at", 8)]) rfl) (fun _ _ _ _ _ => (by exact sg_name 8 nd)) (fun _ _ _ _ _ => sts_nil) (fun _ _ _ _ _ => (by exact se_cmp (op_eqP hr) (by exact se_callB (st := false) cb_minI b_min (by exact sa_cons (by exact se_sl (by exact se_var 5) (by exact so_some (by exact se_var 8)) (by exact so_some (by exact se_op op_addD (by exact se_var 8) (by exact se_var 2)))) sa_nil)) se_int))) sa_nil))) (by exact ss_cons (by exact ss_setF 6 nd se_int) (by exact ss_cons (by exact ss_for (O' := [6, 4]) (by exact si_seq (m := .s) (by exact se_var 5)) (by exact sg_name 7 nd) (by exact ss_cons (by exact ss_setF 6 nd (by exact se_op op_mulD' (by exact se_varW 6) (by exact se_ix (by exact se_tup (by exact sa_cons (by exact se_op op_subD (by exact se_var 1) (by exact se_var 0)) (by exact sa_cons (by exact se_var 0) sa_nil))) (by exact se_var 7)))) ss_nil)) (by exact ss_cons (by exact ss_setF 4 nd (by exact se_op op_addD (by exact se_varW 4) (by exact se_varW 6))) ss_nil))) ss_nil) ss_nil)) (by exact ss_last (by exact ss_ret (by exact se_callWD D__law_ratio hr (by exact sa_cons (by exact se_varW 4) (by exact sa_cons (by exact se_ix (by exact se_callD D__law_power hr (by exact sa_cons (by exact se_var 0) (by exact sa_cons (by exact se_var 1) (by exact sa_cons (by exact se_var 3) sa_nil)))) se_int) sa_nil)))))))
/-! ### _law_chances -/
abbrev s__law_chances : Stmt := topS 43
theorem sc__law_chances : FnScope ["a", "b", "k", "n", "days", "one", "all_dry", "ships", "chance", "wet", "before", "due", "j"] ["a", "b", "k", "n"] (defScope s__law_chances) := ⟨rfl, rfl, rfl, by decide +kernel, rfl, by decide +kernel, by decide +kernel⟩
def l1__law_chances : XS :=
  (sSeq (sSet 11 (xCall (fun ds => if ds.length = 4 then (d__law_dried) ds else none) (xCons (xVar 0) (xCons (xVar 1) (xCons (xVar 2) (xCons (xVar 4) xNil))))))
  (sSeq (sIf (tOrP (tNotP (tTru (xCall (fun ds => if ds.length = 2 then (d__law_like 8) ds else none) (xCons (xCall (fun ds => if ds.length = 3 then (d_dry_chance) ds else none) (xCons (xVar 8) (xCons (xVar 2) (xCons (xVar 4) xNil)))) (xCons (xVar 11) xNil))))) (tOf (xBin oGt (xBin oMul' (xBin oIx (xVar 10) (xC (.int 0))) (xBin oIx (xVar 11) (xC (.int 1)))) (xBin oMul' (xBin oIx (xVar 11) (xC (.int 0))) (xBin oIx (xVar 10) (xC (.int 1))))))) (sRet (xC (.bool false))) sNop)
  (sSeq (sSet 10 (xVar 11))
  sNop)))
def g__law_chances : XS :=
  (sSeq (sPar [8, 9, 10] (xCons (xCall (fun ds => if ds.length = 2 then (d__law_ratio) ds else none) (xCons (xVar 0) (xCons (xVar 1) xNil))) (xCons (xCall (fun ds => if ds.length = 2 then (d__law_ratio) ds else none) (xCons (xBin oSub (xVar 1) (xVar 0)) (xCons (xVar 1) xNil))) (xCons (xTup (xCons (xC (.int 0)) (xCons (xC (.int 1)) xNil))) xNil))))
  (sSeq (sFor (xIt oR1 (xCons (xBin oAdd (xVar 3) (xC (.int 1))) xNil)) (gSet 4) l1__law_chances)
  (sSeq (sSet 5 (xCall (fun ds => if ds.length = 4 then (d__law_dried) ds else none) (xCons (xVar 0) (xCons (xVar 1) (xCons (xC (.int 1)) (xCons (xVar 3) xNil))))))
  (sSeq (sIf (tNotP (tTru (xCall (fun ds => if ds.length = 2 then (d__law_like 8) ds else none) (xCons (xCall (fun ds => if ds.length = 3 then (d_dry_chance) ds else none) (xCons (xVar 8) (xCons (xC (.int 1)) (xCons (xVar 3) xNil)))) (xCons (xVar 5) xNil))))) (sRet (xC (.bool false))) sNop)
  (sSeq (sIf (tAndP (tOf (xBin oGt (xVar 3) (xC (.int 0)))) (tNotP (tTru (xCall (fun ds => if ds.length = 2 then (d__law_like 8) ds else none) (xCons (xCall (fun ds => if ds.length = 3 then (d_room_chances) ds else none) (xCons (xBin oMul' (xTup (xCons (xC (.int 1)) xNil)) (xVar 3)) (xCons (xC (.int 1)) (xCons (xBin oMul' (xTup (xCons (xVar 9) xNil)) (xVar 3)) xNil)))) (xCons (xVar 5) xNil)))))) (sRet (xC (.bool false))) sNop)
  (sSeq (sSet 6 (xCall (fun ds => if ds.length = 3 then (d__law_power) ds else none) (xCons (xVar 0) (xCons (xVar 1) (xCons (xVar 2) xNil)))))
  (sSeq (sSet 6 (xCall (fun ds => if ds.length = 2 then (d__law_ratio) ds else none) (xCons (xBin oIx (xVar 6) (xC (.int 0))) (xCons (xBin oIx (xVar 6) (xC (.int 1))) xNil))))
  (sSeq (sIf (tNotP (tTru (xCall (fun ds => if ds.length = 2 then (d__law_like 8) ds else none) (xCons (xCall (fun ds => if ds.length = 3 then (d_dry_chance) ds else none) (xCons (xVar 8) (xCons (xVar 2) (xCons (xVar 2) xNil)))) (xCons (xVar 6) xNil))))) (sRet (xC (.bool false))) sNop)
  (sSeq (sIf (tNotP (tTru (xCall (fun ds => if ds.length = 2 then (d__law_like 8) ds else none) (xCons (xCall (fun ds => if ds.length = 3 then (d_room_chances) ds else none) (xCons (xBin oMul' (xTup (xCons (xC (.int 1)) xNil)) (xVar 2)) (xCons (xVar 2) (xCons (xBin oMul' (xTup (xCons (xVar 9) xNil)) (xVar 2)) xNil)))) (xCons (xVar 6) xNil))))) (sRet (xC (.bool false))) sNop)
  (sSeq (sIf (tOf (xBin oEq (xVar 0) (xVar 1))) (sRet (xC (.bool true))) sNop)
  (sSeq (sSet 7 (xCall bTuple (xCons (xLc (xIt oR1 (xCons (xVar 2) xNil)) (gSet 12) tYesP (xTup (xCons (xC (.int 0)) (xCons (xC (.int 1)) (xCons (xC (.int 2)) (xCons (xVar 12) xNil))))) [12]) xNil)))
  (sRet (xCall (fun ds => if ds.length = 2 then (d__law_like 8) ds else none) (xCons (xCall (fun ds => if ds.length = 3 then ((d_chance_kept) ds).bind fun d => if flat d then some d else none else none) (xCons (xVar 7) (xCons (xBin oMul' (xTup (xCons (xTup (xCons (xVar 0) (xCons (xBin oSub (xVar 1) (xVar 0)) xNil))) xNil)) (xVar 2)) (xCons (xUn oTupR1 (xVar 2)) xNil)))) (xCons (xVar 6) xNil)))))))))))))))
def d__law_chances : List D → Option D := runD 4 13 g__law_chances
theorem ok__law_chances {f : Addr} {fd : FuncData} (F : FnP K "_law_chances" s__law_chances f fd) (D_dry_chance : Def P w K mg base 6 "dry_chance" ["chance", "k", "n"] (d_dry_chance)) (D_room_chances : Def P w K mg base 4 "room_chances" ["rooms", "weight", "chances"] (d_room_chances)) (D_chance_kept : Def P w K mg base 4 "chance_kept" ["ships", "weights", "order"] (d_chance_kept)) (D__law_like : Def P w K mg base 10 "_law_like" ["value", "due"] (d__law_like 8)) (D__law_ratio : Def P w K mg base 2 "_law_ratio" ["a", "b"] (d__law_ratio)) (D__law_power : Def P w K mg base 1 "_law_power" ["a", "b", "many"] (d__law_power)) (D__law_dried : Def P w K mg base 3 "_law_dried" ["a", "b", "k", "n"] (d__law_dried)) (b_range : mg "range" = none) (b_tuple : mg "tuple" = none) : FnOk P w K mg base CX0 11 f fd ["a", "b", "k", "n"] (spD K 4 d__law_chances) := by
  have nd := sc__law_chances.nd
  refine fnp_ok (k := 10) (O' := []) F sc__law_chances fun cdv A outer s H E hr => ?_
  exact (by exact ss_cons (by exact ss_par3 8 9 10 nd (by exact sam_cons (by exact se_callD D__law_ratio hr (by exact sa_cons (by exact se_var 0) (by exact sa_cons (by exact se_var 1) sa_nil))) (by exact sam_cons (by exact se_callD D__law_ratio hr (by exact sa_cons (by exact se_op op_subD (by exact se_var 1) (by exact se_var 0)) (by exact sa_cons (by exact se_var 1) sa_nil))) (by exact sam_cons (by exact se_tup (by exact sa_cons se_int (by exact sa_cons se_int sa_nil))) sam_nil)))) (by exact ss_cons (by exact SS.weak (O1 := []) (by exact ss_for (O' := []) (by exact si_r1 (st := false) b_range (by exact sa_cons (by exact se_op op_addD (by exact se_var 3) se_int) sa_nil)) (by exact sg_name 4 nd) (by exact ss_cons (by exact ss_setS 11 nd (by exact se_callD D__law_dried hr (by exact sa_cons (by exact se_var 0) (by exact sa_cons (by exact se_var 1) (by exact sa_cons (by exact se_var 2) (by exact sa_cons (by exact se_var 4) sa_nil)))))) (by exact ss_cons (by exact ss_if (O' := []) (by exact SW.st (by exact sw_or (by exact st_not (by exact st_val (by exact se_callD D__law_like hr (by exact sa_cons (by exact se_callD D_dry_chance hr (by exact sa_cons (by exact se_var 8) (by exact sa_cons (by exact se_var 2) (by exact sa_cons (by exact se_var 4) sa_nil)))) (by exact sa_cons (by exact se_var 11) sa_nil))))) (by exact sw_or1 (by exact st_cmp op_gtD (by exact se_op op_mulD' (by exact se_ix (by exact se_var 10) se_int) (by exact se_ix (by exact se_var 11) se_int)) (by exact se_op op_mulD' (by exact se_ix (by exact se_var 11) se_int) (by exact se_ix (by exact se_var 10) se_int)))))) (by exact ss_last (by exact ss_ret se_bl)) ss_nil) (by exact ss_cons (by exact ss_setS 10 nd (by exact se_var 11)) ss_nil))))) (by exact ss_cons (by exact ss_setS 5 nd (by exact se_callD D__law_dried hr (by exact sa_cons (by exact se_var 0) (by exact sa_cons (by exact se_var 1) (by exact sa_cons se_int (by exact sa_cons (by exact se_var 3) sa_nil)))))) (by exact ss_cons (by exact ss_if (O' := []) (by exact st_not (by exact st_val (by exact se_callD D__law_like hr (by exact sa_cons (by exact se_callD D_dry_chance hr (by exact sa_cons (by exact se_var 8) (by exact sa_cons se_int (by exact sa_cons (by exact se_var 3) sa_nil)))) (by exact sa_cons (by exact se_var 5) sa_nil))))) (by exact ss_last (by exact ss_ret se_bl)) ss_nil) (by exact ss_cons (by exact ss_if (O' := []) (by exact SW.st (by exact sw_and (by exact st_cmp op_gtD (by exact se_var 3) se_int) (by exact sw_and1 (by exact st_not (by exact st_val (by exact se_callD D__law_like hr (by exact sa_cons (by exact se_callD D_room_chances hr (by exact sa_cons (by exact se_op op_mulD' (by exact se_tup (by exact sa_cons se_int sa_nil)) (by exact se_var 3)) (by exact sa_cons se_int (by exact sa_cons (by exact se_op op_mulD' (by exact se_tup (by exact sa_cons (by exact se_var 9) sa_nil)) (by exact se_var 3)) sa_nil)))) (by exact sa_cons (by exact se_var 5) sa_nil)))))))) (by exact ss_last (by exact ss_ret se_bl)) ss_nil) (by exact ss_cons (by exact ss_setS 6 nd (by exact se_callD D__law_power hr (by exact sa_cons (by exact se_var 0) (by exact sa_cons (by exact se_var 1) (by exact sa_cons (by exact se_var 2) sa_nil))))) (by exact ss_cons (by exact ss_setS 6 nd (by exact se_callD D__law_ratio hr (by exact sa_cons (by exact se_ix (by exact se_var 6) se_int) (by exact sa_cons (by exact se_ix (by exact se_var 6) se_int) sa_nil)))) (by exact ss_cons (by exact ss_if (O' := []) (by exact st_not (by exact st_val (by exact se_callD D__law_like hr (by exact sa_cons (by exact se_callD D_dry_chance hr (by exact sa_cons (by exact se_var 8) (by exact sa_cons (by exact se_var 2) (by exact sa_cons (by exact se_var 2) sa_nil)))) (by exact sa_cons (by exact se_var 6) sa_nil))))) (by exact ss_last (by exact ss_ret se_bl)) ss_nil) (by exact ss_cons (by exact ss_if (O' := []) (by exact st_not (by exact st_val (by exact se_callD D__law_like hr (by exact sa_cons (by exact se_callD D_room_chances hr (by exact sa_cons (by exact se_op op_mulD' (by exact se_tup (by exact sa_cons se_int sa_nil)) (by exact se_var 2)) (by exact sa_cons (by exact se_var 2) (by exact sa_cons (by exact se_op op_mulD' (by exact se_tup (by exact sa_cons (by exact se_var 9) sa_nil)) (by exact se_var 2)) sa_nil)))) (by exact sa_cons (by exact se_var 6) sa_nil))))) (by exact ss_last (by exact ss_ret se_bl)) ss_nil) (by exact ss_cons (by exact ss_if (O' := []) (by exact st_cmp (op_eqP hr) (by exact se_var 0) (by exact se_var 1)) (by exact ss_last (by exact ss_ret se_bl)) ss_nil) (by exact ss_cons (by exact ss_setF 7 nd (by exact se_callT (st := false) cb_tuple b_tuple (by exact sa_cons (by exact se_lc nd (by exact si_r1 (st := false) b_range (by exact sa_cons (by exact se_var 2) sa_nil)) (blkOk_by (own := [("j", 12)]) rfl) (fun _ _ _ _ _ => (by exact sg_name 12 nd)) (fun _ _ _ _ _ => sts_nil) (fun _ _ _ _ _ => (by exact se_tup (by exact sa_cons se_int (by exact sa_cons se_int (by exact sa_cons se_int (by exact sa_cons (by exact se_var 12) sa_nil))))))) sa_nil))) (by exact ss_last (by exact ss_ret (by exact se_callD D__law_like hr (by exact sa_cons (by exact se_callWD D_chance_kept hr (by exact sa_cons (by exact se_varW 7) (by exact sa_cons (by exact se_op op_mulD' (by exact se_tup (by exact sa_cons (by exact se_tup (by exact sa_cons (by exact se_var 0) (by exact sa_cons (by exact se_op op_subD (by exact se_var 1) (by exact se_var 0)) sa_nil))) sa_nil)) (by exact se_var 2)) (by exact sa_cons (by exact se_tupR1 b_tuple b_range (by exact se_var 2)) sa_nil)))) (by exact sa_cons (by exact se_var 6) sa_nil))))))))))))))))
/-! ### _law_reckoned -/
abbrev s__law_reckoned : Stmt := topS 44
theorem sc__law_reckoned : FnScope ["a", "b", "k", "most", "day", "rows", "done", "found", "rest", "part"] ["a", "b", "k", "most"] (defScope s__law_reckoned) := ⟨rfl, rfl, rfl, by decide +kernel, rfl, by decide +kernel, by decide +kernel⟩
def l1__law_reckoned : XS :=
  (sSeq (sApp 7 (xVar 6))
  (sSeq (sSet 8 (xCall bSum (xCons (xVar 5) xNil)))
  (sSeq (sSet 6 (xBin oAdd (xBin oMul' (xVar 6) (xVar 1)) (xBin oMul' (xBin oIx (xVar 5) (xBin oSub (xVar 2) (xC (.int 1)))) (xVar 0))))
  (sSeq (sSet 5 (xBin oAdd (xLst (xCons (xBin oMul' (xVar 8) (xBin oSub (xVar 1) (xVar 0))) xNil)) (xLc (xSeq (xSl (xVar 5) oNo (oAt (xBin oSub (xVar 2) (xC (.int 1)))))) (gSet 9) tYesP (xBin oMul' (xVar 9) (xVar 0)) [9])))
  sNop))))
def g__law_reckoned : XS :=
  (sSeq (sPar [5, 6, 7] (xCons (xBin oAdd (xLst (xCons (xC (.int 1)) xNil)) (xBin oMul' (xLst (xCons (xC (.int 0)) xNil)) (xBin oSub (xVar 2) (xC (.int 1))))) (xCons (xC (.int 0)) (xCons (xLst xNil) xNil))))
  (sSeq (sFor (xIt oR1 (xCons (xBin oAdd (xVar 3) (xC (.int 1))) xNil)) (gSet 4) l1__law_reckoned)
  (sRet (xVar 7))))
def d__law_reckoned : List D → Option D := runD 4 10 g__law_reckoned
theorem ok__law_reckoned {f : Addr} {fd : FuncData} (F : FnP K "_law_reckoned" s__law_reckoned f fd) (b_range : mg "range" = none) (b_sum : mg "sum" = none) : FnOk P w K mg base CX0 1 f fd ["a", "b", "k", "most"] (spD K 4 d__law_reckoned) := by
  have nd := sc__law_reckoned.nd
  refine fnp_ok (k := 0) (O' := []) F sc__law_reckoned fun cdv A outer s H E hr => ?_
  exact (by exact ss_cons (by exact ss_par3 5 6 7 nd (by exact sam_cons (by exact se_op op_addD (by exact se_lst (by exact sa_cons se_int sa_nil)) (by exact se_op op_mulD' (by exact se_lst (by exact sa_cons se_int sa_nil)) (by exact se_op op_subD (by exact se_var 2) se_int))) (by exact sam_cons se_int (by exact sam_cons (by exact se_lst sa_nil) sam_nil)))) (by exact ss_cons (by exact ss_for (O' := [7, 6, 5]) (by exact si_r1 (st := false) b_range (by exact sa_cons (by exact se_op op_addD (by exact se_var 3) se_int) sa_nil)) (by exact sg_name 4 nd) (by exact ss_cons (by exact SS.weak (O1 := [7, 5]) (by exact ss_app 7 (by exact se_var 6))) (by exact ss_cons (by exact ss_setF 8 nd (by exact se_callB (st := false) cb_sum b_sum (by exact sa_cons (by exact se_varW 5) sa_nil))) (by exact ss_cons (by exact ss_setF 6 nd (by exact se_op op_addD (by exact se_op op_mulD' (by exact se_var 6) (by exact se_var 1)) (by exact se_op op_mulD' (by exact se_ix (by exact se_varW 5) (by exact se_op op_subD (by exact se_var 2) se_int)) (by exact se_var 0)))) (by exact ss_cons (by exact ss_setF 5 nd (by exact se_op op_addD (by exact se_lst (by exact sa_cons (by exact se_op op_mulD' (by exact se_varW 8) (by exact se_op op_subD (by exact se_var 1) (by exact se_var 0))) sa_nil)) (by exact se_lc nd (by exact si_seq (m := .f) (by exact se_sl (by exact se_varW 5) so_none (by exact so_some (by exact se_op op_subD (by exact se_var 2) se_int)))) (blkOk_by (own := [("part", 9)]) rfl) (fun _ _ _ _ _ => (by exact sg_name 9 nd)) (fun _ _ _ _ _ => sts_nil) (fun _ _ _ _ _ => (by exact se_op op_mulD' (by exact se_var 9) (by exact se_var 0)))))) ss_nil))))) (by exact ss_last (by exact SS.weak (O1 := [6, 5]) (by exact ss_ret (by exact se_var 7))))))
/-! ### _law_days -/
abbrev s__law_days : Stmt := topS 45
theorem sc__law_days : FnScope ["a", "b", "k", "row", "least", "under", "day", "total", "size", "mean", "left", "found", "due", "told"] ["a", "b", "k", "row"] (defScope s__law_days) := ⟨rfl, rfl, rfl, by decide +kernel, rfl, by decide +kernel, by decide +kernel⟩
def l1__law_days : XS :=
  (sSeq (sIf (tAndP (tOf (xBin oIs (xVar 12) (xC .none))) (tOf (xBin oGe (xBin oMul' (xBin oIx (xVar 11) (xVar 6)) (xBin oIx (xVar 4) (xC (.int 1)))) (xBin oMul' (xBin oIx (xVar 4) (xC (.int 0))) (xVar 5))))) (sSeq (sSet 12 (xVar 6))
  sNop) sNop)
  (sSeq (sSet 5 (xBin oMul' (xVar 5) (xVar 1)))
  sNop))
def l2__law_days : XS :=
  (sSeq (sSet 13 (xCall (fun ds => if ds.length = 3 then (d__law_power) ds else none) (xCons (xVar 1) (xCons (xVar 0) (xCons (xVar 8) xNil)))))
  (sSeq (sSet 7 (xCall (fun ds => if ds.length = 1 then (d__law_sum) ds else none) (xCons (xTup (xCons (xVar 7) (xCons (xVar 13) xNil))) xNil)))
  sNop))
def g__law_days : XS :=
  (sSeq (sPar [11, 12] (xCons (xCall (fun ds => if ds.length = 4 then (d__law_reckoned) ds else none) (xCons (xVar 0) (xCons (xVar 1) (xCons (xVar 2) (xCons (xC (.int 60)) xNil))))) (xCons (xC .none) xNil)))
  (sSeq (sSet 4 (xCall (fun ds => if ds.length = 2 then (d__law_ratio) ds else none) (xCons (xBin oMod (xCall bInt (xCons (xBin oIx (xVar 3) (xC (.int 5))) xNil)) (xC (.int 21))) (xCons (xC (.int 20)) xNil))))
  (sSeq (sIf (tOf (xBin oEq (xBin oMod (xCall bInt (xCons (xBin oIx (xVar 3) (xC (.int 6))) xNil)) (xC (.int 6))) (xC (.int 0)))) (sSeq (sSet 4 (xTup (xCons (xC (.int 1)) (xCons (xC (.int 1)) xNil))))
  sNop) sNop)
  (sSeq (sSet 5 (xC (.int 1)))
  (sSeq (sFor (xIt oR1 (xCons (xC (.int 61)) xNil)) (gSet 6) l1__law_days)
  (sSeq (sIf (tNotP (tTru (xCall (fun ds => if ds.length = 2 then (d__law_like 8) ds else none) (xCons (xCall (fun ds => if ds.length = 3 then (d_days_for) ds else none) (xCons (xCall (fun ds => if ds.length = 2 then (d__law_ratio) ds else none) (xCons (xVar 0) (xCons (xVar 1) xNil))) (xCons (xVar 2) (xCons (xVar 4) xNil)))) (xCons (xVar 12) xNil))))) (sRet (xC (.bool false))) sNop)
  (sSeq (sSet 7 (xTup (xCons (xC (.int 0)) (xCons (xC (.int 1)) xNil))))
  (sSeq (sFor (xIt oR2 (xCons (xC (.int 1)) (xCons (xBin oAdd (xVar 2) (xC (.int 1))) xNil))) (gSet 8) l2__law_days)
  (sSeq (sSet 9 (xCall (fun ds => if ds.length = 2 then (d_mean_wait) ds else none) (xCons (xCall (fun ds => if ds.length = 2 then (d__law_ratio) ds else none) (xCons (xVar 0) (xCons (xVar 1) xNil))) (xCons (xVar 2) xNil))))
  (sSeq (sIf (tNotP (tTru (xCall (fun ds => if ds.length = 2 then (d__law_like 8) ds else none) (xCons (xVar 9) (xCons (xVar 7) xNil))))) (sRet (xC (.bool false))) sNop)
  (sSeq (sSet 10 (xTup (xCons (xC (.int 1)) (xCons (xC (.int 1)) xNil))))
  (sSeq (sIf (tOf (xBin oGt (xVar 2) (xC (.int 1)))) (sSeq (sSet 10 (xCall (fun ds => if ds.length = 1 then (d__law_sum) ds else none) (xCons (xTup (xCons (xCall (fun ds => if ds.length = 2 then (d_mean_wait) ds else none) (xCons (xCall (fun ds => if ds.length = 2 then (d__law_ratio) ds else none) (xCons (xVar 0) (xCons (xVar 1) xNil))) (xCons (xBin oSub (xVar 2) (xC (.int 1))) xNil))) (xCons (xTup (xCons (xC (.int 1)) (xCons (xC (.int 1)) xNil))) xNil))) xNil)))
  sNop) sNop)
  (sRet (xCall (fun ds => if ds.length = 2 then (d__law_like 8) ds else none) (xCons (xVar 9) (xCons (xCall (fun ds => if ds.length = 2 then (d__law_ratio) ds else none) (xCons (xBin oMul' (xBin oIx (xVar 10) (xC (.int 0))) (xVar 1)) (xCons (xBin oMul' (xBin oIx (xVar 10) (xC (.int 1))) (xVar 0)) xNil))) xNil))))))))))))))))
def d__law_days : List D → Option D := runD 4 14 g__law_days
theorem ok__law_days {f : Addr} {fd : FuncData} (F : FnP K "_law_days" s__law_days f fd) (D_days_for : Def P w K mg base 6 "days_for" ["chance", "k", "least"] (d_days_for)) (D_mean_wait : Def P w K mg base 4 "mean_wait" ["chance", "k"] (d_mean_wait)) (D__law_like : Def P w K mg base 10 "_law_like" ["value", "due"] (d__law_like 8)) (D__law_ratio : Def P w K mg base 2 "_law_ratio" ["a", "b"] (d__law_ratio)) (D__law_sum : Def P w K mg base 3 "_law_sum" ["ratios"] (d__law_sum)) (D__law_power : Def P w K mg base 1 "_law_power" ["a", "b", "many"] (d__law_power)) (D__law_reckoned : Def P w K mg base 1 "_law_reckoned" ["a", "b", "k", "most"] (d__law_reckoned)) (b_int : mg "int" = none) (b_range : mg "range" = none) : FnOk P w K mg base CX0 11 f fd ["a", "b", "k", "row"] (spD K 4 d__law_days) := by
  have nd := sc__law_days.nd
  refine fnp_ok (k := 10) (O' := []) F sc__law_days fun cdv A outer s H E hr => ?_
  exact (by exact ss_cons (by exact ss_par 11 12 nd (by exact sam_cons (by exact se_callD D__law_reckoned hr (by exact sa_cons (by exact se_var 0) (by exact sa_cons (by exact se_var 1) (by exact sa_cons (by exact se_var 2) (by exact sa_cons se_int sa_nil))))) (by exact sam_cons se_non sam_nil))) (by exact ss_cons (by exact ss_setS 4 nd (by exact se_callD D__law_ratio hr (by exact sa_cons (by exact se_op op_modD (by exact se_callT (st := false) cb_int b_int (by exact sa_cons (by exact se_ix (by exact se_var 3) se_int) sa_nil)) se_int) (by exact sa_cons se_int sa_nil)))) (by exact ss_cons (by exact ss_if (O' := [12]) (by exact st_cmp (op_eqP hr) (by exact se_op op_modD (by exact se_callT (st := false) cb_int b_int (by exact sa_cons (by exact se_ix (by exact se_var 3) se_int) sa_nil)) se_int) se_int) (by exact ss_cons (by exact ss_setF 4 nd (by exact se_tup (by exact sa_cons se_int (by exact sa_cons se_int sa_nil)))) ss_nil) ss_nil) (by exact ss_cons (by exact ss_setF 5 nd se_int) (by exact ss_cons (by exact SS.weak (O1 := [5]) (by exact ss_for (O' := [5]) (by exact si_r1 (st := false) b_range (by exact sa_cons se_int sa_nil)) (by exact sg_name 6 nd) (by exact ss_cons (by exact ss_if (O' := [5]) (by exact SW.st (by exact sw_and (by exact st_cmp op_isD (by exact se_var 12) se_non) (by exact sw_and1 (by exact st_cmp op_geD (by exact se_op op_mulD' (by exact se_ix (by exact se_var 11) (by exact se_var 6)) (by exact se_ix (by exact se_var 4) se_int)) (by exact se_op op_mulD' (by exact se_ix (by exact se_var 4) se_int) (by exact se_varW 5)))))) (by exact ss_cons (by exact ss_setS 12 nd (by exact se_var 6)) ss_nil) ss_nil) (by exact ss_cons (by exact ss_setF 5 nd (by exact se_op op_mulD' (by exact se_varW 5) (by exact se_var 1))) ss_nil)))) (by exact ss_cons (by exact ss_if (O' := [5]) (by exact st_not (by exact st_val (by exact se_callD D__law_like hr (by exact sa_cons (by exact se_callD D_days_for hr (by exact sa_cons (by exact se_callD D__law_ratio hr (by exact sa_cons (by exact se_var 0) (by exact sa_cons (by exact se_var 1) sa_nil))) (by exact sa_cons (by exact se_var 2) (by exact sa_cons (by exact se_var 4) sa_nil)))) (by exact sa_cons (by exact se_var 12) sa_nil))))) (by exact ss_last (by exact ss_ret se_bl)) ss_nil) (by exact ss_cons (by exact ss_setF 7 nd (by exact se_tup (by exact sa_cons se_int (by exact sa_cons se_int sa_nil)))) (by exact ss_cons (by exact SS.weak (O1 := [5]) (by exact ss_for (O' := [5]) (by exact si_r2 (st := false) b_range (by exact sa_cons se_int (by exact sa_cons (by exact se_op op_addD (by exact se_var 2) se_int) sa_nil))) (by exact sg_name 8 nd) (by exact ss_cons (by exact ss_setS 13 nd (by exact se_callD D__law_power hr (by exact sa_cons (by exact se_var 1) (by exact sa_cons (by exact se_var 0) (by exact sa_cons (by exact se_var 8) sa_nil))))) (by exact ss_cons (by exact ss_setS 7 nd (by exact se_callD D__law_sum hr (by exact sa_cons (by exact se_tup (by exact sa_cons (by exact se_var 7) (by exact sa_cons (by exact se_var 13) sa_nil))) sa_nil))) ss_nil)))) (by exact ss_cons (by exact ss_setS 9 nd (by exact se_callD D_mean_wait hr (by exact sa_cons (by exact se_callD D__law_ratio hr (by exact sa_cons (by exact se_var 0) (by exact sa_cons (by exact se_var 1) sa_nil))) (by exact sa_cons (by exact se_var 2) sa_nil)))) (by exact ss_cons (by exact ss_if (O' := [5]) (by exact st_not (by exact st_val (by exact se_callD D__law_like hr (by exact sa_cons (by exact se_var 9) (by exact sa_cons (by exact se_var 7) sa_nil))))) (by exact ss_last (by exact ss_ret se_bl)) ss_nil) (by exact ss_cons (by exact ss_setF 10 nd (by exact se_tup (by exact sa_cons se_int (by exact sa_cons se_int sa_nil)))) (by exact ss_cons (by exact ss_if (O' := [5]) (by exact st_cmp op_gtD (by exact se_var 2) se_int) (by exact ss_cons (by exact ss_setS 10 nd (by exact se_callD D__law_sum hr (by exact sa_cons (by exact se_tup (by exact sa_cons (by exact se_callD D_mean_wait hr (by exact sa_cons (by exact se_callD D__law_ratio hr (by exact sa_cons (by exact se_var 0) (by exact sa_cons (by exact se_var 1) sa_nil))) (by exact sa_cons (by exact se_op op_subD (by exact se_var 2) se_int) sa_nil))) (by exact sa_cons (by exact se_tup (by exact sa_cons se_int (by exact sa_cons se_int sa_nil))) sa_nil))) sa_nil))) ss_nil) ss_nil) (by exact ss_last (by exact ss_ret (by exact se_callD D__law_like hr (by exact sa_cons (by exact se_var 9) (by exact sa_cons (by exact se_callD D__law_ratio hr (by exact sa_cons (by exact se_op op_mulD' (by exact se_ix (by exact se_var 10) se_int) (by exact se_var 1)) (by exact sa_cons (by exact se_op op_mulD' (by exact se_ix (by exact se_var 10) se_int) (by exact se_var 0)) sa_nil))) sa_nil)))))))))))))))))
/-! ### _law_coats -/
abbrev s__law_coats : Stmt := topS 46
theorem sc__law_coats : FnScope ["row", "dry", "tide", "day", "due", "begin", "later", "days", "k", "n", "begins", "now", "total", "runs", "first", "last", "j", "truth"] ["row"] (defScope s__law_coats) := ⟨rfl, rfl, rfl, by decide +kernel, rfl, by decide +kernel, by decide +kernel⟩
def l1__law_coats : XS :=
  (sSeq (sIf (tAndP (tTru (xBin oIx (xVar 1) (xVar 3))) (tOrP (tOf (xBin oEq (xVar 3) (xC (.int 0)))) (tNotP (tTru (xBin oIx (xVar 1) (xBin oSub (xVar 3) (xC (.int 1)))))))) (sSeq (sApp 13 (xTup (xCons (xVar 3) (xCons (xBin oAdd (xVar 3) (xC (.int 1))) xNil))))
  sNop) (sSeq (sIf (tTru (xBin oIx (xVar 1) (xVar 3))) (sSeq (sPut 13 (xBin oSub (xCall bLen (xCons (xVar 13) xNil)) (xC (.int 1))) (xTup (xCons (xBin oIx (xBin oIx (xVar 13) (xBin oSub (xCall bLen (xCons (xVar 13) xNil)) (xC (.int 1)))) (xC (.int 0))) (xCons (xBin oAdd (xVar 3) (xC (.int 1))) xNil))))
  sNop) sNop)
  sNop))
  sNop)
def l2__law_coats : XS :=
  (sSeq (sSet 12 (xBin oAdd (xVar 12) (xBin oFdiv (xBin oSub (xVar 15) (xVar 14)) (xVar 8))))
  (sSeq (sExt 10 (xLc (xIt oR1 (xCons (xBin oFdiv (xBin oSub (xVar 15) (xVar 14)) (xVar 8)) xNil)) (gSet 16) tYesP (xBin oAdd (xVar 14) (xBin oMul' (xVar 8) (xVar 16))) [16]))
  sNop))
def l3__law_coats : XS :=
  (sSeq (sIf (tNotP (tTru (xCall (fun ds => if ds.length = 2 then (d__law_like 8) ds else none) (xCons (xCall (fun ds => if ds.length = 4 then ((d_stays_open) ds).bind fun d => if flat d then some d else none else none) (xCons (xVar 2) (xCons (xC (.int 1)) (xCons (xVar 11) (xCons (xVar 8) xNil))))) (xCons (xVar 5) xNil))))) (sRet (xC (.bool false))) sNop)
  (sSeq (sSet 11 (xBin oAdd (xVar 5) (xVar 8)))
  sNop))
def g__law_coats : XS :=
  (sSeq (sPar [7, 8] (xCons (xBin oAdd (xC (.int 1)) (xBin oMod (xCall bInt (xCons (xBin oIx (xVar 0) (xC (.int 7))) xNil)) (xC (.int 14)))) (xCons (xBin oAdd (xC (.int 1)) (xBin oMod (xCall bInt (xCons (xBin oIx (xVar 0) (xC (.int 8))) xNil)) (xC (.int 3)))) xNil)))
  (sSeq (sSet 1 (xCall bTuple (xCons (xLc (xIt oR1 (xCons (xVar 7) xNil)) (gSet 16) tYesP (xBin oGt (xBin oMod (xCall bInt (xCons (xBin oIx (xVar 0) (xBin oAdd (xC (.int 10)) (xVar 16))) xNil)) (xC (.int 4))) (xC (.int 0))) [16]) xNil)))
  (sSeq (sSet 2 (xBin oAdd (xCall bTuple (xCons (xLc (xSeq (xVar 1)) (gSet 17) tYesP (xCall bInt (xCons (xVar 17) xNil)) [17]) xNil)) (xTup (xCons (xC (.int 0)) xNil))))
  (sSeq (sPar [9, 10, 11, 12, 13] (xCons (xBin oMod (xCall bInt (xCons (xBin oIx (xVar 0) (xC (.int 9))) xNil)) (xC (.int 5))) (xCons (xLst xNil) (xCons (xC (.int 0)) (xCons (xC (.int 0)) (xCons (xLst xNil) xNil))))))
  (sSeq (sFor (xIt oR1 (xCons (xVar 7) xNil)) (gSet 3) l1__law_coats)
  (sSeq (sFor (xSeq (xVar 13)) (gTupD 2 (gsCons (gSet 14) (gsCons (gSet 15) gsNil))) l2__law_coats)
  (sSeq (sSet 4 (xC .none))
  (sSeq (sIf (tOf (xBin oLe (xVar 9) (xVar 12))) (sSeq (sSet 4 (xCall bTuple (xCons (xSl (xVar 10) oNo (oAt (xVar 9))) xNil)))
  sNop) sNop)
  (sSeq (sIf (tOrP (tNotP (tTru (xCall (fun ds => if ds.length = 2 then (d__law_like 8) ds else none) (xCons (xCall (fun ds => if ds.length = 1 then ((d_dry_runs) ds).bind fun d => if flat d then some d else none else none) (xCons (xVar 1) xNil)) (xCons (xCall bTuple (xCons (xVar 13) xNil)) xNil))))) (tNotP (tTru (xCall (fun ds => if ds.length = 2 then (d__law_like 8) ds else none) (xCons (xCall (fun ds => if ds.length = 3 then ((d_open_runs) ds).bind fun d => if flat d then some d else none else none) (xCons (xVar 2) (xCons (xC (.int 1)) (xCons (xTup (xCons (xC (.int 0)) (xCons (xVar 7) xNil))) xNil)))) (xCons (xCall bTuple (xCons (xVar 13) xNil)) xNil)))))) (sRet (xC (.bool false))) sNop)
  (sSeq (sIf (tOrP (tNotP (tTru (xCall (fun ds => if ds.length = 2 then ((d__law_like 8) ds).bind fun d => if flat d then some d else none else none) (xCons (xCall (fun ds => if ds.length = 2 then ((d_coats_most) ds).bind fun d => if flat d then some d else none else none) (xCons (xVar 1) (xCons (xVar 8) xNil))) (xCons (xVar 12) xNil))))) (tNotP (tTru (xCall (fun ds => if ds.length = 2 then ((d__law_like 8) ds).bind fun d => if flat d then some d else none else none) (xCons (xCall (fun ds => if ds.length = 3 then ((d_coats_by) ds).bind fun d => if flat d then some d else none else none) (xCons (xVar 1) (xCons (xVar 8) (xCons (xVar 9) xNil)))) (xCons (xVar 4) xNil)))))) (sRet (xC (.bool false))) sNop)
  (sSeq (sFor (xSeq (xVar 10)) (gSet 5) l3__law_coats)
  (sSeq (sSet 6 (xCall (fun ds => if ds.length = 4 then ((d_stays_open) ds).bind fun d => if flat d then some d else none else none) (xCons (xVar 2) (xCons (xC (.int 1)) (xCons (xVar 11) (xCons (xVar 8) xNil))))))
  (sRet (xOr (xBin oIs (xVar 6) (xC .none)) (xBin oGt (xVar 6) (xBin oSub (xVar 7) (xVar 8)))))))))))))))))
def d__law_coats : List D → Option D := runD 1 18 g__law_coats
theorem ok__law_coats {f : Addr} {fd : FuncData} (F : FnP K "_law_coats" s__law_coats f fd) (D_coats_by : Def P w K mg base 1 "coats_by" ["dry", "k", "n"] (d_coats_by)) (D_dry_runs : Def P w K mg base 1 "dry_runs" ["dry"] (d_dry_runs)) (D_coats_most : Def P w K mg base 2 "coats_most" ["dry", "k"] (d_coats_most)) (D_open_runs : Def P w K mg base 2 "open_runs" ["tide", "need", "span"] (d_open_runs)) (D_stays_open : Def P w K mg base 2 "stays_open" ["tide", "need", "hour", "hours"] (d_stays_open)) (D__law_like : Def P w K mg base 10 "_law_like" ["value", "due"] (d__law_like 8)) (b_int : mg "int" = none) (b_len : mg "len" = none) (b_range : mg "range" = none) (b_tuple : mg "tuple" = none) : FnOk P w K mg base CX0 11 f fd ["row"] (spD K 1 d__law_coats) := by
  have nd := sc__law_coats.nd
  refine fnp_ok (k := 10) (O' := []) F sc__law_coats fun cdv A outer s H E hr => ?_
  exact (by exact ss_cons (by exact ss_parT [7, 8] (by exact sam_cons (by exact se_op op_addD se_int (by exact se_op op_modD (by exact se_callT (st := false) cb_int b_int (by exact sa_cons (by exact se_ix (by exact se_var 0) se_int) sa_nil)) se_int)) (by exact sam_cons (by exact se_op op_addD se_int (by exact se_op op_modD (by exact se_callT (st := false) cb_int b_int (by exact sa_cons (by exact se_ix (by exact se_var 0) se_int) sa_nil)) se_int)) sam_nil)) (pgs_cons (pg_name (i := 7) nd rfl (by first | exact .inl rfl | exact .inr rfl)) (pgs_cons (pg_name (i := 8) nd rfl (by first | exact .inl rfl | exact .inr rfl)) pgs_nil))) (by exact ss_cons (by exact ss_setF 1 nd (by exact se_callT (st := false) cb_tuple b_tuple (by exact sa_cons (by exact se_lc nd (by exact si_r1 (st := false) b_range (by exact sa_cons (by exact se_varW 7) sa_nil)) (blkOk_by (own := [("j", 16)]) rfl) (fun _ _ _ _ _ => (by exact sg_name 16 nd)) (fun _ _ _ _ _ => sts_nil) (fun _ _ _ _ _ => (by exact se_cmp op_gtD (by exact se_op op_modD (by exact se_callT (st := false) cb_int b_int (by exact sa_cons (by exact se_ix (by exact se_var 0) (by exact se_op op_addD se_int (by exact se_var 16))) sa_nil)) se_int) se_int))) sa_nil))) (by exact ss_cons (by exact ss_setF 2 nd (by exact se_op op_addD (by exact se_callT (st := false) cb_tuple b_tuple (by exact sa_cons (by exact se_lc nd (by exact si_seq (m := .w) (by exact se_varW 1)) (blkOk_by (own := [("truth", 17)]) rfl) (fun _ _ _ _ _ => (by exact sg_name 17 nd)) (fun _ _ _ _ _ => sts_nil) (fun _ _ _ _ _ => (by exact se_callT (st := false) cb_int b_int (by exact sa_cons (by exact se_var 17) sa_nil)))) sa_nil)) (by exact se_tup (by exact sa_cons se_int sa_nil)))) (by exact ss_cons (by exact ss_parT [9, 10, 11, 12, 13] (by exact sam_cons (by exact se_op op_modD (by exact se_callT (st := false) cb_int b_int (by exact sa_cons (by exact se_ix (by exact se_var 0) se_int) sa_nil)) se_int) (by exact sam_cons (by exact se_lst sa_nil) (by exact sam_cons se_int (by exact sam_cons se_int (by exact sam_cons (by exact se_lst sa_nil) sam_nil))))) (pgs_cons (pg_name (i := 9) nd rfl (by first | exact .inl rfl | exact .inr rfl)) (pgs_cons (pg_name (i := 10) nd rfl (by first | exact .inl rfl | exact .inr rfl)) (pgs_cons (pg_name (i := 11) nd rfl (by first | exact .inl rfl | exact .inr rfl)) (pgs_cons (pg_name (i := 12) nd rfl (by first | exact .inl rfl | exact .inr rfl)) (pgs_cons (pg_name (i := 13) nd rfl (by first | exact .inl rfl | exact .inr rfl)) pgs_nil)))))) (by exact ss_cons (by exact ss_for (O' := [13, 12, 11, 10, 9, 2, 1, 8, 7]) (by exact si_r1 (st := false) b_range (by exact sa_cons (by exact se_varW 7) sa_nil)) (by exact sg_name 3 nd) (by exact ss_cons (by exact ss_if (O' := [13, 12, 11, 10, 9, 2, 1, 8, 7]) (by exact SW.st (by exact sw_and (by exact st_val (by exact se_ix (by exact se_varW 1) (by exact se_var 3))) (by exact sw_and1 (by exact SW.st (by exact sw_or (by exact st_cmp (op_eqP hr) (by exact se_var 3) se_int) (by exact sw_or1 (by exact st_not (by exact st_val (by exact se_ix (by exact se_varW 1) (by exact se_op op_subD (by exact se_var 3) se_int)))))))))) (by exact ss_cons (by exact ss_app 13 (by exact se_tup (by exact sa_cons (by exact se_var 3) (by exact sa_cons (by exact se_op op_addD (by exact se_var 3) se_int) sa_nil)))) ss_nil) (by exact ss_cons (by exact ss_if (O' := [13, 12, 11, 10, 9, 2, 1, 8, 7]) (by exact st_val (by exact se_ix (by exact se_varW 1) (by exact se_var 3))) (by exact ss_cons (by exact ss_put 13 (by exact se_tup (by exact sa_cons (by exact se_ix (by exact se_ix (by exact se_varW 13) (by exact se_op op_subD (by exact se_callB (st := false) cb_len b_len (by exact sa_cons (by exact se_varW 13) sa_nil)) se_int)) se_int) (by exact sa_cons (by exact se_op op_addD (by exact se_var 3) se_int) sa_nil))) (by exact se_op op_subD (by exact se_callB (st := false) cb_len b_len (by exact sa_cons (by exact se_varW 13) sa_nil)) se_int)) ss_nil) ss_nil) ss_nil)) ss_nil)) (by exact ss_cons (by exact SS.weak (O1 := [12, 11, 10, 9, 2, 1, 8, 7]) (by exact ss_for (O' := [12, 11, 10, 9, 2, 1, 8, 7]) (by exact si_seq (m := .s) (by exact se_var 13)) (by exact sg_tup rfl (by exact sgs_cons (by exact sg_name 14 nd) (by exact sgs_cons (by exact sg_name 15 nd) sgs_nil))) (by exact ss_cons (by exact ss_setF 12 nd (by exact se_op op_addD (by exact se_varW 12) (by exact se_op op_fdivD (by exact se_op op_subD (by exact se_var 15) (by exact se_var 14)) (by exact se_varW 8)))) (by exact ss_cons (by exact ss_ext 10 (by exact se_lc nd (by exact si_r1 (st := false) b_range (by exact sa_cons (by exact se_op op_fdivD (by exact se_op op_subD (by exact se_var 15) (by exact se_var 14)) (by exact se_varW 8)) sa_nil)) (blkOk_by (own := [("j", 16)]) rfl) (fun _ _ _ _ _ => (by exact sg_name 16 nd)) (fun _ _ _ _ _ => sts_nil) (fun _ _ _ _ _ => (by exact se_op op_addD (by exact se_var 14) (by exact se_op op_mulD' (by exact se_varW 8) (by exact se_var 16)))))) ss_nil)))) (by exact ss_cons (by exact ss_setF 4 nd se_non) (by exact ss_cons (by exact ss_if (O' := [4, 4, 12, 11, 10, 9, 2, 1, 8, 7]) (by exact st_cmp op_leD (by exact se_varW 9) (by exact se_varW 12)) (by exact ss_cons (by exact ss_setF 4 nd (by exact se_callT (st := false) cb_tuple b_tuple (by exact sa_cons (by exact se_sl (by exact se_varW 10) so_none (by exact so_some (by exact se_varW 9))) sa_nil))) ss_nil) ss_nil) (by exact ss_cons (by exact SS.weak (O1 := [4, 4, 12, 11, 10, 9, 2, 1, 8]) (by exact ss_if (O' := [4, 4, 12, 11, 10, 9, 2, 1, 8]) (by exact SW.st (by exact sw_or (by exact st_not (by exact st_val (by exact se_callD D__law_like hr (by exact sa_cons (by exact se_callWD D_dry_runs hr (by exact sa_cons (by exact se_varW 1) sa_nil)) (by exact sa_cons (by exact se_callT (st := false) cb_tuple b_tuple (by exact sa_cons (by exact se_var 13) sa_nil)) sa_nil))))) (by exact sw_or1 (by exact st_not (by exact st_val (by exact se_callD D__law_like hr (by exact sa_cons (by exact se_callWD D_open_runs hr (by exact sa_cons (by exact se_varW 2) (by exact sa_cons se_int (by exact sa_cons (by exact se_tup (by exact sa_cons se_int (by exact sa_cons (by exact se_var 7) sa_nil))) sa_nil)))) (by exact sa_cons (by exact se_callT (st := false) cb_tuple b_tuple (by exact sa_cons (by exact se_var 13) sa_nil)) sa_nil)))))))) (by exact ss_last (by exact ss_ret se_bl)) ss_nil)) (by exact ss_cons (by exact ss_if (O' := [4, 4, 12, 11, 10, 9, 2, 1, 8]) (by exact SW.st (by exact sw_or (by exact st_not (by exact st_val (by exact se_callWD D__law_like hr (by exact sa_cons (by exact se_callWD D_coats_most hr (by exact sa_cons (by exact se_varW 1) (by exact sa_cons (by exact se_varW 8) sa_nil))) (by exact sa_cons (by exact se_varW 12) sa_nil))))) (by exact sw_or1 (by exact st_not (by exact st_val (by exact se_callWD D__law_like hr (by exact sa_cons (by exact se_callWD D_coats_by hr (by exact sa_cons (by exact se_varW 1) (by exact sa_cons (by exact se_varW 8) (by exact sa_cons (by exact se_varW 9) sa_nil)))) (by exact sa_cons (by exact se_varW 4) sa_nil)))))))) (by exact ss_last (by exact ss_ret se_bl)) ss_nil) (by exact ss_cons (by exact SS.weak (O1 := [4, 4, 12, 11, 9, 2, 1, 8]) (by exact ss_for (O' := [4, 4, 12, 11, 9, 2, 1, 8]) (by exact si_seq (m := .s) (by exact se_var 10)) (by exact sg_name 5 nd) (by exact ss_cons (by exact ss_if (O' := [4, 4, 12, 11, 9, 2, 1, 8]) (by exact st_not (by exact st_val (by exact se_callD D__law_like hr (by exact sa_cons (by exact se_callWD D_stays_open hr (by exact sa_cons (by exact se_varW 2) (by exact sa_cons se_int (by exact sa_cons (by exact se_varW 11) (by exact sa_cons (by exact se_varW 8) sa_nil))))) (by exact sa_cons (by exact se_var 5) sa_nil))))) (by exact ss_last (by exact ss_ret se_bl)) ss_nil) (by exact ss_cons (by exact ss_setF 11 nd (by exact se_op op_addD (by exact se_var 5) (by exact se_varW 8))) ss_nil)))) (by exact ss_cons (by exact ss_setF 6 nd (by exact se_callWD D_stays_open hr (by exact sa_cons (by exact se_varW 2) (by exact sa_cons se_int (by exact sa_cons (by exact se_varW 11) (by exact sa_cons (by exact se_varW 8) sa_nil)))))) (by exact ss_last (by exact ss_ret (by exact se_or (by exact se_cmp op_isD (by exact se_varW 6) se_non) (by exact se_bone (by exact se_cmp op_gtD (by exact se_varW 6) (by exact se_op op_subD (by exact se_var 7) (by exact se_varW 8)))))))))))))))))))
/-! ### _law_kept -/
abbrev s__law_kept : Stmt := topS 47
theorem sc__law_kept : FnScope ["row", "j", "orders", "order", "one", "ships", "weights", "rows", "top", "under", "n", "low", "many", "grown", "now", "good", "part", "more"] ["row"] (defScope s__law_kept) := ⟨rfl, rfl, rfl, by decide +kernel, rfl, by decide +kernel, by decide +kernel⟩
def l1__law_kept : XS :=
  (sSeq (sSet 11 (xBin oAdd (xC (.int 1)) (xBin oMod (xCall bInt (xCons (xBin oIx (xVar 0) (xBin oAdd (xC (.int 25)) (xVar 1))) xNil)) (xC (.int 3)))))
  (sSeq (sSet 12 (xBin oAdd (xC (.int 1)) (xBin oMod (xCall bInt (xCons (xBin oIx (xVar 0) (xBin oAdd (xC (.int 28)) (xVar 1))) xNil)) (xC (.int 3)))))
  (sSeq (sApp 5 (xTup (xCons (xBin oMod (xCall bInt (xCons (xBin oIx (xVar 0) (xBin oAdd (xC (.int 31)) (xVar 1))) xNil)) (xC (.int 4))) (xCons (xVar 11) (xCons (xBin oSub (xBin oAdd (xVar 11) (xVar 12)) (xC (.int 1))) (xCons (xBin oAdd (xC (.int 2)) (xBin oMod (xCall bInt (xCons (xBin oIx (xVar 0) (xBin oAdd (xC (.int 34)) (xVar 1))) xNil)) (xC (.int 9)))) xNil))))))
  (sSeq (sApp 6 (xCall bTuple (xCons (xLc (xIt oR1 (xCons (xVar 12) xNil)) (gSet 17) tYesP (xBin oAdd (xC (.int 1)) (xBin oMod (xCall bInt (xCons (xBin oIx (xVar 0) (xBin oAdd (xBin oAdd (xC (.int 37)) (xBin oMul' (xC (.int 3)) (xVar 1))) (xVar 17))) xNil)) (xC (.int 4)))) [17]) xNil)))
  (sSeq (sSet 9 (xBin oMul' (xVar 9) (xCall bSum (xCons (xBin oIx (xVar 6) (xVar 1)) xNil))))
  sNop)))))
def l2__law_kept : XS :=
  (sSeq (sExt 13 (xLc (xIt oR1 (xCons (xCall bLen (xCons (xBin oIx (xVar 6) (xVar 1)) xNil)) xNil)) (gSet 17) tYesP (xBin oAdd (xVar 4) (xTup (xCons (xVar 17) xNil))) [17]))
  sNop)
def l3__law_kept : XS :=
  (sSeq (sSet 13 (xLst xNil))
  (sSeq (sFor (xSeq (xVar 7)) (gSet 4) l2__law_kept)
  (sSeq (sSet 7 (xVar 13))
  sNop)))
def l4__law_kept : XS :=
  (sSeq (sSet 14 (xBin oAdd (xBin oAdd (xCall bMax2 (xCons (xVar 14) (xCons (xBin oIx (xBin oIx (xVar 5) (xVar 1)) (xC (.int 0))) xNil))) (xBin oIx (xBin oIx (xVar 5) (xVar 1)) (xC (.int 1)))) (xBin oIx (xVar 4) (xVar 1))))
  (sSeq (sSet 15 (xAnd (xVar 15) (xBin oLe (xBin oSub (xVar 14) (xC (.int 1))) (xBin oIx (xBin oIx (xVar 5) (xVar 1)) (xC (.int 3))))))
  (sSeq (sSet 16 (xBin oMul' (xVar 16) (xBin oIx (xBin oIx (xVar 6) (xVar 1)) (xBin oIx (xVar 4) (xVar 1)))))
  sNop)))
def l5__law_kept : XS :=
  (sSeq (sTgt (gTupD 3 (gsCons (gSet 14) (gsCons (gSet 15) (gsCons (gSet 16) gsNil)))) (xTup (xCons (xC (.int 0)) (xCons (xC (.bool true)) (xCons (xC (.int 1)) xNil)))))
  (sSeq (sFor (xSeq (xVar 3)) (gSet 1) l4__law_kept)
  (sSeq (sSet 8 (xBin oAdd (xVar 8) (xBin oMul' (xVar 16) (xCall bInt (xCons (xVar 15) xNil)))))
  sNop)))
def g__law_kept : XS :=
  (sSeq (sPar [5, 6, 7, 8, 9, 10] (xCons (xLst xNil) (xCons (xLst xNil) (xCons (xLst (xCons (xTup xNil) xNil)) (xCons (xC (.int 0)) (xCons (xC (.int 1)) (xCons (xBin oAdd (xC (.int 1)) (xBin oMod (xCall bInt (xCons (xBin oIx (xVar 0) (xC (.int 24))) xNil)) (xC (.int 3)))) xNil)))))))
  (sSeq (sFor (xIt oR1 (xCons (xVar 10) xNil)) (gSet 1) l1__law_kept)
  (sSeq (sSet 2 (xCall (fun ds => if ds.length = 1 then (d__law_orders) ds else none) (xCons (xVar 10) xNil)))
  (sSeq (sSet 3 (xBin oIx (xVar 2) (xBin oMod (xCall bInt (xCons (xBin oIx (xVar 0) (xC (.int 46))) xNil)) (xCall bLen (xCons (xVar 2) xNil)))))
  (sSeq (sFor (xIt oR1 (xCons (xVar 10) xNil)) (gSet 1) l3__law_kept)
  (sSeq (sFor (xSeq (xVar 7)) (gSet 4) l5__law_kept)
  (sRet (xCall (fun ds => if ds.length = 2 then (d__law_like 8) ds else none) (xCons (xCall (fun ds => if ds.length = 3 then (d_chance_kept) ds else none) (xCons (xCall bTuple (xCons (xVar 5) xNil)) (xCons (xCall bTuple (xCons (xVar 6) xNil)) (xCons (xVar 3) xNil)))) (xCons (xCall (fun ds => if ds.length = 2 then ((d__law_ratio) ds).bind fun d => if flat d then some d else none else none) (xCons (xVar 8) (xCons (xVar 9) xNil))) xNil))))))))))
def d__law_kept : List D → Option D := runD 1 18 g__law_kept
theorem ok__law_kept {f : Addr} {fd : FuncData} (F : FnP K "_law_kept" s__law_kept f fd) (D_chance_kept : Def P w K mg base 4 "chance_kept" ["ships", "weights", "order"] (d_chance_kept)) (D__law_like : Def P w K mg base 10 "_law_like" ["value", "due"] (d__law_like 8)) (D__law_orders : Def P w K mg base 1 "_law_orders" ["count"] (d__law_orders)) (D__law_ratio : Def P w K mg base 2 "_law_ratio" ["a", "b"] (d__law_ratio)) (b_int : mg "int" = none) (b_len : mg "len" = none) (b_max : mg "max" = none) (b_range : mg "range" = none) (b_sum : mg "sum" = none) (b_tuple : mg "tuple" = none) : FnOk P w K mg base CX0 11 f fd ["row"] (spD K 1 d__law_kept) := by
  have nd := sc__law_kept.nd
  refine fnp_ok (k := 10) (O' := []) F sc__law_kept fun cdv A outer s H E hr => ?_
  exact (by exact ss_cons (by exact ss_parT [5, 6, 7, 8, 9, 10] (by exact sam_cons (by exact se_lst sa_nil) (by exact sam_cons (by exact se_lst sa_nil) (by exact sam_cons (by exact se_lst (by exact sa_cons (by exact se_tup sa_nil) sa_nil)) (by exact sam_cons se_int (by exact sam_cons se_int (by exact sam_cons (by exact se_op op_addD se_int (by exact se_op op_modD (by exact se_callT (st := false) cb_int b_int (by exact sa_cons (by exact se_ix (by exact se_var 0) se_int) sa_nil)) se_int)) sam_nil)))))) (pgs_cons (pg_name (i := 5) nd rfl (by first | exact .inl rfl | exact .inr rfl)) (pgs_cons (pg_name (i := 6) nd rfl (by first | exact .inl rfl | exact .inr rfl)) (pgs_cons (pg_name (i := 7) nd rfl (by first | exact .inl rfl | exact .inr rfl)) (pgs_cons (pg_name (i := 8) nd rfl (by first | exact .inl rfl | exact .inr rfl)) (pgs_cons (pg_name (i := 9) nd rfl (by first | exact .inl rfl | exact .inr rfl)) (pgs_cons (pg_name (i := 10) nd rfl (by first | exact .inl rfl | exact .inr rfl)) pgs_nil))))))) (by exact ss_cons (by exact ss_for (O' := [10, 9, 8, 7, 6, 5]) (by exact si_r1 (st := false) b_range (by exact sa_cons (by exact se_varW 10) sa_nil)) (by exact sg_name 1 nd) (by exact ss_cons (by exact ss_setF 11 nd (by exact se_op op_addD se_int (by exact se_op op_modD (by exact se_callT (st := false) cb_int b_int (by exact sa_cons (by exact se_ix (by exact se_var 0) (by exact se_op op_addD se_int (by exact se_var 1))) sa_nil)) se_int))) (by exact ss_cons (by exact ss_setF 12 nd (by exact se_op op_addD se_int (by exact se_op op_modD (by exact se_callT (st := false) cb_int b_int (by exact sa_cons (by exact se_ix (by exact se_var 0) (by exact se_op op_addD se_int (by exact se_var 1))) sa_nil)) se_int))) (by exact ss_cons (by exact SS.weak (O1 := [12, 10, 9, 8, 7, 6, 5]) (by exact ss_app 5 (by exact se_tup (by exact sa_cons (by exact se_op op_modD (by exact se_callT (st := false) cb_int b_int (by exact sa_cons (by exact se_ix (by exact se_var 0) (by exact se_op op_addD se_int (by exact se_var 1))) sa_nil)) se_int) (by exact sa_cons (by exact se_var 11) (by exact sa_cons (by exact se_op op_subD (by exact se_op op_addD (by exact se_var 11) (by exact se_varW 12)) se_int) (by exact sa_cons (by exact se_op op_addD se_int (by exact se_op op_modD (by exact se_callT (st := false) cb_int b_int (by exact sa_cons (by exact se_ix (by exact se_var 0) (by exact se_op op_addD se_int (by exact se_var 1))) sa_nil)) se_int)) sa_nil))))))) (by exact ss_cons (by exact ss_app 6 (by exact se_callT (st := false) cb_tuple b_tuple (by exact sa_cons (by exact se_lc nd (by exact si_r1 (st := false) b_range (by exact sa_cons (by exact se_varW 12) sa_nil)) (blkOk_by (own := [("more", 17)]) rfl) (fun _ _ _ _ _ => (by exact sg_name 17 nd)) (fun _ _ _ _ _ => sts_nil) (fun _ _ _ _ _ => (by exact se_op op_addD se_int (by exact se_op op_modD (by exact se_callT (st := false) cb_int b_int (by exact sa_cons (by exact se_ix (by exact se_var 0) (by exact se_op op_addD (by exact se_op op_addD se_int (by exact se_op op_mulD' se_int (by exact se_var 1))) (by exact se_var 17))) sa_nil)) se_int)))) sa_nil))) (by exact ss_cons (by exact ss_setF 9 nd (by exact se_op op_mulD' (by exact se_varW 9) (by exact se_callB (st := false) cb_sum b_sum (by exact sa_cons (by exact se_ix (by exact se_varW 6) (by exact se_var 1)) sa_nil)))) ss_nil)))))) (by exact ss_cons (by exact SS.weak (O1 := [9, 8, 7, 6, 5]) (by exact ss_setS 2 nd (by exact se_callD D__law_orders hr (by exact sa_cons (by exact se_var 10) sa_nil)))) (by exact ss_cons (by exact ss_setS 3 nd (by exact se_ix (by exact se_var 2) (by exact se_op op_modD (by exact se_callT (st := false) cb_int b_int (by exact sa_cons (by exact se_ix (by exact se_var 0) se_int) sa_nil)) (by exact se_callB (st := false) cb_len b_len (by exact sa_cons (by exact se_var 2) sa_nil))))) (by exact ss_cons (by exact SS.weak (O1 := [9, 8, 6, 5]) (by exact ss_for (O' := [9, 8, 6, 5]) (by exact si_r1 (st := false) b_range (by exact sa_cons (by exact se_var 10) sa_nil)) (by exact sg_name 1 nd) (by exact ss_cons (by exact ss_setF 13 nd (by exact se_lst sa_nil)) (by exact ss_cons (by exact ss_for (O' := [13, 9, 8, 6, 5]) (by exact si_seq (m := .s) (by exact se_var 7)) (by exact sg_name 4 nd) (by exact ss_cons (by exact ss_ext 13 (by exact se_lc nd (by exact si_r1 (st := false) b_range (by exact sa_cons (by exact se_callB (st := false) cb_len b_len (by exact sa_cons (by exact se_ix (by exact se_varW 6) (by exact se_var 1)) sa_nil)) sa_nil)) (blkOk_by (own := [("more", 17)]) rfl) (fun _ _ _ _ _ => (by exact sg_name 17 nd)) (fun _ _ _ _ _ => sts_nil) (fun _ _ _ _ _ => (by exact se_op op_addD (by exact se_var 4) (by exact se_tup (by exact sa_cons (by exact se_var 17) sa_nil)))))) ss_nil)) (by exact ss_cons (by exact SS.weak (O1 := [9, 8, 6, 5]) (by exact ss_setS 7 nd (by exact se_var 13))) ss_nil))))) (by exact ss_cons (by exact ss_for (O' := [9, 8, 6, 5]) (by exact si_seq (m := .s) (by exact se_var 7)) (by exact sg_name 4 nd) (by exact ss_cons (by exact ss_tgt (by exact se_tup (by exact sa_cons se_int (by exact sa_cons se_bl (by exact sa_cons se_int sa_nil)))) (by exact sg_tup rfl (by exact sgs_cons (by exact sg_name 14 nd) (by exact sgs_cons (by exact sg_name 15 nd) (by exact sgs_cons (by exact sg_name 16 nd) sgs_nil))))) (by exact ss_cons (by exact ss_for (O' := [9, 8, 6, 5]) (by exact si_seq (m := .s) (by exact se_var 3)) (by exact sg_name 1 nd) (by exact ss_cons (by exact ss_setF 14 nd (by exact se_op op_addD (by exact se_op op_addD (by exact se_callB (st := false) cb_max2 b_max (by exact sa_cons (by exact se_var 14) (by exact sa_cons (by exact se_ix (by exact se_ix (by exact se_varW 5) (by exact se_var 1)) se_int) sa_nil))) (by exact se_ix (by exact se_ix (by exact se_varW 5) (by exact se_var 1)) se_int)) (by exact se_ix (by exact se_var 4) (by exact se_var 1)))) (by exact ss_cons (by exact ss_setF 15 nd (by exact se_and (by exact se_var 15) (by exact se_bone (by exact se_cmp op_leD (by exact se_op op_subD (by exact se_varW 14) se_int) (by exact se_ix (by exact se_ix (by exact se_varW 5) (by exact se_var 1)) se_int))))) (by exact ss_cons (by exact ss_setF 16 nd (by exact se_op op_mulD' (by exact se_var 16) (by exact se_ix (by exact se_ix (by exact se_varW 6) (by exact se_var 1)) (by exact se_ix (by exact se_var 4) (by exact se_var 1))))) ss_nil)))) (by exact ss_cons (by exact ss_setF 8 nd (by exact se_op op_addD (by exact se_varW 8) (by exact se_op op_mulD' (by exact se_var 16) (by exact se_callT (st := false) cb_int b_int (by exact sa_cons (by exact se_var 15) sa_nil))))) ss_nil)))) (by exact ss_last (by exact ss_ret (by exact se_callD D__law_like hr (by exact sa_cons (by exact se_callD D_chance_kept hr (by exact sa_cons (by exact se_callT (st := false) cb_tuple b_tuple (by exact sa_cons (by exact se_varW 5) sa_nil)) (by exact sa_cons (by exact se_callT (st := false) cb_tuple b_tuple (by exact sa_cons (by exact se_varW 6) sa_nil)) (by exact sa_cons (by exact se_var 3) sa_nil)))) (by exact sa_cons (by exact se_callWD D__law_ratio hr (by exact sa_cons (by exact se_varW 8) (by exact sa_cons (by exact se_varW 9) sa_nil))) sa_nil)))))))))))
/-! ### law -/
abbrev s_law : Stmt := topS 48
theorem sc_law : FnScope ["script", "row", "b", "a", "k", "n"] ["script"] (defScope s_law) := ⟨rfl, rfl, rfl, by decide +kernel, rfl, by decide +kernel, by decide +kernel⟩
def g_law : XS :=
  (sSeq (sSet 1 (xCall (fun ds => if ds.length = 2 then (d__law_row) ds else none) (xCons (xVar 0) (xCons (xC (.int 48)) xNil))))
  (sSeq (sSet 2 (xBin oAdd (xC (.int 1)) (xBin oMod (xCall bInt (xCons (xBin oIx (xVar 1) (xC (.int 0))) xNil)) (xC (.int 6)))))
  (sSeq (sPar [3, 4, 5] (xCons (xBin oAdd (xC (.int 1)) (xBin oMod (xCall bInt (xCons (xBin oIx (xVar 1) (xC (.int 1))) xNil)) (xVar 2))) (xCons (xBin oAdd (xC (.int 1)) (xBin oMod (xCall bInt (xCons (xBin oIx (xVar 1) (xC (.int 2))) xNil)) (xC (.int 3)))) (xCons (xBin oMod (xCall bInt (xCons (xBin oIx (xVar 1) (xC (.int 3))) xNil)) (xC (.int 7))) xNil))))
  (sSeq (sIf (tOrP (tNotP (tTru (xCall (fun ds => if ds.length = 4 then ((d__law_chances) ds).bind fun d => if flat d then some d else none else none) (xCons (xVar 3) (xCons (xVar 2) (xCons (xVar 4) (xCons (xVar 5) xNil))))))) (tNotP (tTru (xCall (fun ds => if ds.length = 4 then ((d__law_days) ds).bind fun d => if flat d then some d else none else none) (xCons (xVar 3) (xCons (xVar 2) (xCons (xVar 4) (xCons (xVar 1) xNil)))))))) (sRet (xC (.bool false))) sNop)
  (sRet (xAnd (xCall (fun ds => if ds.length = 1 then (d__law_coats) ds else none) (xCons (xVar 1) xNil)) (xCall (fun ds => if ds.length = 1 then (d__law_kept) ds else none) (xCons (xVar 1) xNil))))))))
def d_law : List D → Option D := runD 1 6 g_law
theorem ok_law {f : Addr} {fd : FuncData} (F : FnP K "law" s_law f fd) (D__law_row : Def P w K mg base 2 "_law_row" ["script", "many"] (d__law_row)) (D__law_chances : Def P w K mg base 11 "_law_chances" ["a", "b", "k", "n"] (d__law_chances)) (D__law_days : Def P w K mg base 11 "_law_days" ["a", "b", "k", "row"] (d__law_days)) (D__law_coats : Def P w K mg base 11 "_law_coats" ["row"] (d__law_coats)) (D__law_kept : Def P w K mg base 11 "_law_kept" ["row"] (d__law_kept)) (b_int : mg "int" = none) : FnOk P w K mg base CX0 12 f fd ["script"] (spD K 1 d_law) := by
  have nd := sc_law.nd
  refine fnp_ok (k := 11) (O' := []) F sc_law fun cdv A outer s H E hr => ?_
  exact (by exact ss_cons (by exact ss_setS 1 nd (by exact se_callD D__law_row hr (by exact sa_cons (by exact se_var 0) (by exact sa_cons se_int sa_nil)))) (by exact ss_cons (by exact ss_setF 2 nd (by exact se_op op_addD se_int (by exact se_op op_modD (by exact se_callT (st := false) cb_int b_int (by exact sa_cons (by exact se_ix (by exact se_var 1) se_int) sa_nil)) se_int))) (by exact ss_cons (by exact ss_par3 3 4 5 nd (by exact sam_cons (by exact se_op op_addD se_int (by exact se_op op_modD (by exact se_callT (st := false) cb_int b_int (by exact sa_cons (by exact se_ix (by exact se_var 1) se_int) sa_nil)) (by exact se_varW 2))) (by exact sam_cons (by exact se_op op_addD se_int (by exact se_op op_modD (by exact se_callT (st := false) cb_int b_int (by exact sa_cons (by exact se_ix (by exact se_var 1) se_int) sa_nil)) se_int)) (by exact sam_cons (by exact se_op op_modD (by exact se_callT (st := false) cb_int b_int (by exact sa_cons (by exact se_ix (by exact se_var 1) se_int) sa_nil)) se_int) sam_nil)))) (by exact ss_cons (by exact ss_if (O' := [5, 4, 3, 2]) (by exact SW.st (by exact sw_or (by exact st_not (by exact st_val (by exact se_callWD D__law_chances hr (by exact sa_cons (by exact se_varW 3) (by exact sa_cons (by exact se_varW 2) (by exact sa_cons (by exact se_varW 4) (by exact sa_cons (by exact se_varW 5) sa_nil))))))) (by exact sw_or1 (by exact st_not (by exact st_val (by exact se_callWD D__law_days hr (by exact sa_cons (by exact se_varW 3) (by exact sa_cons (by exact se_varW 2) (by exact sa_cons (by exact se_varW 4) (by exact sa_cons (by exact se_var 1) sa_nil)))))))))) (by exact ss_last (by exact ss_ret se_bl)) ss_nil) (by exact ss_last (by exact ss_ret (by exact se_and (by exact se_callD D__law_coats hr (by exact sa_cons (by exact se_var 1) sa_nil)) (by exact se_bone (by exact se_callD D__law_kept hr (by exact sa_cons (by exact se_var 1) sa_nil))))))))))
end
/-! ### the head -/
def h_divisor : He.DefD := ⟨("divisor", none), "divisor", "divisor", defArgs s_divisor, defBody s_divisor, defScope s_divisor, [], []⟩
def h_lowest : He.DefD := ⟨("lowest", none), "lowest", "lowest", defArgs s_lowest, defBody s_lowest, defScope s_lowest, [], []⟩
def h_plus : He.DefD := ⟨("plus", none), "plus", "plus", defArgs s_plus, defBody s_plus, defScope s_plus, [], []⟩
def h_minus : He.DefD := ⟨("minus", none), "minus", "minus", defArgs s_minus, defBody s_minus, defScope s_minus, [], []⟩
def h_times : He.DefD := ⟨("times", none), "times", "times", defArgs s_times, defBody s_times, defScope s_times, [], []⟩
def h_is_less : He.DefD := ⟨("is_less", none), "is_less", "is_less", defArgs s_is_less, defBody s_is_less, defScope s_is_less, [], []⟩
def h_all_sets : He.DefD := ⟨("all_sets", none), "all_sets", "all_sets", defArgs s_all_sets, defBody s_all_sets, defScope s_all_sets, [], []⟩
def h_whole : He.DefD := ⟨("whole", none), "whole", "whole", defArgs s_whole, defBody s_whole, defScope s_whole, [], []⟩
def h_summed : He.DefD := ⟨("summed", none), "summed", "summed", defArgs s_summed, defBody s_summed, defScope s_summed, [], []⟩
def h_coats_by : He.DefD := ⟨("coats_by", none), "coats_by", "coats_by", defArgs s_coats_by, defBody s_coats_by, defScope s_coats_by, [], []⟩
def h_dry_runs : He.DefD := ⟨("dry_runs", none), "dry_runs", "dry_runs", defArgs s_dry_runs, defBody s_dry_runs, defScope s_dry_runs, [], []⟩
def h_coats_most : He.DefD := ⟨("coats_most", none), "coats_most", "coats_most", defArgs s_coats_most, defBody s_coats_most, defScope s_coats_most, [], []⟩
def h_next_day : He.DefD := ⟨("next_day", none), "next_day", "next_day", defArgs s_next_day, defBody s_next_day, defScope s_next_day, [], []⟩
def h_dry_chance : He.DefD := ⟨("dry_chance", none), "dry_chance", "dry_chance", defArgs s_dry_chance, defBody s_dry_chance, defScope s_dry_chance, [], []⟩
def h_days_for : He.DefD := ⟨("days_for", none), "days_for", "days_for", defArgs s_days_for, defBody s_days_for, defScope s_days_for, [], []⟩
def h_mean_wait : He.DefD := ⟨("mean_wait", none), "mean_wait", "mean_wait", defArgs s_mean_wait, defBody s_mean_wait, defScope s_mean_wait, [], []⟩
def h_bears : He.DefD := ⟨("bears", none), "bears", "bears", defArgs s_bears, defBody s_bears, defScope s_bears, [], []⟩
def h_floats_with : He.DefD := ⟨("floats_with", none), "floats_with", "floats_with", defArgs s_floats_with, defBody s_floats_with, defScope s_floats_with, [], []⟩
def h_room_chances : He.DefD := ⟨("room_chances", none), "room_chances", "room_chances", defArgs s_room_chances, defBody s_room_chances, defScope s_room_chances, [], []⟩
def h_tide_at : He.DefD := ⟨("tide_at", none), "tide_at", "tide_at", defArgs s_tide_at, defBody s_tide_at, defScope s_tide_at, [], []⟩
def h_open_runs : He.DefD := ⟨("open_runs", none), "open_runs", "open_runs", defArgs s_open_runs, defBody s_open_runs, defScope s_open_runs, [], []⟩
def h_stays_open : He.DefD := ⟨("stays_open", none), "stays_open", "stays_open", defArgs s_stays_open, defBody s_stays_open, defScope s_stays_open, [], []⟩
def h_ends_in : He.DefD := ⟨("ends_in", none), "ends_in", "ends_in", defArgs s_ends_in, defBody s_ends_in, defScope s_ends_in, [], []⟩
def h_keeps_with : He.DefD := ⟨("keeps_with", none), "keeps_with", "keeps_with", defArgs s_keeps_with, defBody s_keeps_with, defScope s_keeps_with, [], []⟩
def h_chance_kept : He.DefD := ⟨("chance_kept", none), "chance_kept", "chance_kept", defArgs s_chance_kept, defBody s_chance_kept, defScope s_chance_kept, [], []⟩
def h__law_mixed : He.DefD := ⟨("_law_mixed", none), "_law_mixed", "_law_mixed", defArgs s__law_mixed, defBody s__law_mixed, defScope s__law_mixed, [], []⟩
def h__law_row : He.DefD := ⟨("_law_row", none), "_law_row", "_law_row", defArgs s__law_row, defBody s__law_row, defScope s__law_row, [], []⟩
def h__law_is_int : He.DefD := ⟨("_law_is_int", none), "_law_is_int", "_law_is_int", defArgs s__law_is_int, defBody s__law_is_int, defScope s__law_is_int, [], []⟩
def h__law_like : He.DefD := ⟨("_law_like", none), "_law_like", "_law_like", defArgs s__law_like, defBody s__law_like, defScope s__law_like, [], []⟩
def h__law_orders : He.DefD := ⟨("_law_orders", none), "_law_orders", "_law_orders", defArgs s__law_orders, defBody s__law_orders, defScope s__law_orders, [], []⟩
def h__law_common : He.DefD := ⟨("_law_common", none), "_law_common", "_law_common", defArgs s__law_common, defBody s__law_common, defScope s__law_common, [], []⟩
def h__law_ratio : He.DefD := ⟨("_law_ratio", none), "_law_ratio", "_law_ratio", defArgs s__law_ratio, defBody s__law_ratio, defScope s__law_ratio, [], []⟩
def h__law_sum : He.DefD := ⟨("_law_sum", none), "_law_sum", "_law_sum", defArgs s__law_sum, defBody s__law_sum, defScope s__law_sum, [], []⟩
def h__law_tuples : He.DefD := ⟨("_law_tuples", none), "_law_tuples", "_law_tuples", defArgs s__law_tuples, defBody s__law_tuples, defScope s__law_tuples, [], []⟩
def h__law_power : He.DefD := ⟨("_law_power", none), "_law_power", "_law_power", defArgs s__law_power, defBody s__law_power, defScope s__law_power, [], []⟩
def h__law_dried : He.DefD := ⟨("_law_dried", none), "_law_dried", "_law_dried", defArgs s__law_dried, defBody s__law_dried, defScope s__law_dried, [], []⟩
def h__law_chances : He.DefD := ⟨("_law_chances", none), "_law_chances", "_law_chances", defArgs s__law_chances, defBody s__law_chances, defScope s__law_chances, [], []⟩
def h__law_reckoned : He.DefD := ⟨("_law_reckoned", none), "_law_reckoned", "_law_reckoned", defArgs s__law_reckoned, defBody s__law_reckoned, defScope s__law_reckoned, [], []⟩
def h__law_days : He.DefD := ⟨("_law_days", none), "_law_days", "_law_days", defArgs s__law_days, defBody s__law_days, defScope s__law_days, [], []⟩
def h__law_coats : He.DefD := ⟨("_law_coats", none), "_law_coats", "_law_coats", defArgs s__law_coats, defBody s__law_coats, defScope s__law_coats, [], []⟩
def h__law_kept : He.DefD := ⟨("_law_kept", none), "_law_kept", "_law_kept", defArgs s__law_kept, defBody s__law_kept, defScope s__law_kept, [], []⟩
def h_law : He.DefD := ⟨("law", none), "law", "law", defArgs s_law, defBody s_law, defScope s_law, [], []⟩
def fn0 : List He.DefD := [h_divisor, h_lowest, h_plus, h_minus, h_times, h_is_less, h_all_sets, h_whole, h_summed, h_coats_by, h_dry_runs, h_coats_most, h_next_day, h_dry_chance, h_days_for, h_mean_wait, h_bears, h_floats_with, h_room_chances, h_tide_at, h_open_runs, h_stays_open, h_ends_in, h_keeps_with, h_chance_kept, h__law_mixed, h__law_row, h__law_is_int, h__law_like, h__law_orders]
def fn1 : List He.DefD := [h__law_common, h__law_ratio, h__law_sum, h__law_tuples, h__law_power, h__law_dried, h__law_chances, h__law_reckoned, h__law_days, h__law_coats, h__law_kept, h_law]
def fn : List He.DefD := fn0 ++ fn1
def fa0 : List He.Fa := [.glo "divisor", .glo "lowest", .glo "plus", .glo "minus", .glo "times", .glo "is_less", .glo "all_sets", .glo "whole", .glo "summed", .glo "coats_by", .glo "dry_runs", .glo "coats_most", .glo "next_day", .glo "dry_chance", .glo "days_for", .glo "mean_wait", .glo "bears", .glo "floats_with", .glo "room_chances", .glo "tide_at", .glo "open_runs", .glo "stays_open", .glo "ends_in", .glo "keeps_with", .glo "chance_kept", .glo "_law_mixed", .glo "_law_row", .glo "_law_is_int", .glo "_law_like", .glo "_law_orders"]
def fa1 : List He.Fa := [.glo "_law_common", .glo "_law_ratio", .glo "_law_sum", .glo "_law_tuples", .glo "_law_power", .glo "_law_dried", .glo "_law_chances", .glo "_law_reckoned", .glo "_law_days", .glo "_law_coats", .glo "_law_kept", .glo "law", .free "abs", .free "all", .free "any", .free "bool", .free "enumerate", .free "int", .free "isinstance", .free "len", .free "max", .free "min", .free "range", .free "str", .free "sum", .free "tuple", .free "zip"]
def fa : List He.Fa := fa0 ++ fa1
def loo0 : List PySem.Str := ["divisor", "lowest", "plus", "minus", "times", "is_less", "all_sets", "whole", "summed", "coats_by", "dry_runs", "coats_most", "next_day", "dry_chance", "days_for", "mean_wait", "bears", "floats_with", "room_chances", "tide_at", "open_runs", "stays_open", "ends_in", "keeps_with", "chance_kept", "_law_mixed", "_law_row", "_law_is_int", "_law_like", "_law_orders"]
def loo1 : List PySem.Str := ["_law_common", "_law_ratio", "_law_sum", "_law_tuples", "_law_power", "_law_dried", "_law_chances", "_law_reckoned", "_law_days", "_law_coats", "_law_kept"]
def loo : List PySem.Str := loo0 ++ loo1
abbrev R : PySem.W.OpenRow := PySem.W.OpenLaw.row PySem.Challenge.rw_dockheld_k32_whole_chances_coats
abbrev hk : PySem.W.Hook := He.hookD 4 fa fn
def ob (s : PySem.W.SharedT) : He.AlD := He.obsDG 4 fa fn (HandSHeadRun.getT s)
theorem ob_eq (s : PySem.W.SharedT) : ob s = hk.obs s.abs := He.obsDG_eq (HandSHeadRun.getT_eq s)
theorem run (w : World) : HandSHeadRun.RunEq R (PySem.W.view R.prog [48]) hk ob 20000 loo w := by
  intro os
  kernel_rfl
theorem facts {P : Program} {w : World} {K : PySem.W.Frag} {h : Heap} {mg : Str → Option Value} {f : Addr} (X : K.In h) (G : h.Ns mainGlobals mg) (hfa : mg ("law" : Str) = some (.ref f)) (c : He.SaysD fa fn K) :
    ∃ fd : FuncData, (∀ (s : Shared) (v : Value), BindsTo s fd ⟨[v], []⟩ [("script", v)]) ∧ ∀ base : Heap, K.In base → base.Ns mainGlobals mg → FnOk P w K mg base CX0 12 f fd ["script"] (spD K 1 d_law) := by
  obtain ⟨fd_divisor, F_divisor⟩ := c.def_ 0 (d := h_divisor) rfl
  obtain ⟨fd_lowest, F_lowest⟩ := c.def_ 1 (d := h_lowest) rfl
  obtain ⟨fd_plus, F_plus⟩ := c.def_ 2 (d := h_plus) rfl
  obtain ⟨fd_minus, F_minus⟩ := c.def_ 3 (d := h_minus) rfl
  obtain ⟨fd_times, F_times⟩ := c.def_ 4 (d := h_times) rfl
  obtain ⟨fd_is_less, F_is_less⟩ := c.def_ 5 (d := h_is_less) rfl
  obtain ⟨fd_all_sets, F_all_sets⟩ := c.def_ 6 (d := h_all_sets) rfl
  obtain ⟨fd_whole, F_whole⟩ := c.def_ 7 (d := h_whole) rfl
  obtain ⟨fd_summed, F_summed⟩ := c.def_ 8 (d := h_summed) rfl
  obtain ⟨fd_coats_by, F_coats_by⟩ := c.def_ 9 (d := h_coats_by) rfl
  obtain ⟨fd_dry_runs, F_dry_runs⟩ := c.def_ 10 (d := h_dry_runs) rfl
  obtain ⟨fd_coats_most, F_coats_most⟩ := c.def_ 11 (d := h_coats_most) rfl
  obtain ⟨fd_next_day, F_next_day⟩ := c.def_ 12 (d := h_next_day) rfl
  obtain ⟨fd_dry_chance, F_dry_chance⟩ := c.def_ 13 (d := h_dry_chance) rfl
  obtain ⟨fd_days_for, F_days_for⟩ := c.def_ 14 (d := h_days_for) rfl
  obtain ⟨fd_mean_wait, F_mean_wait⟩ := c.def_ 15 (d := h_mean_wait) rfl
  obtain ⟨fd_bears, F_bears⟩ := c.def_ 16 (d := h_bears) rfl
  obtain ⟨fd_floats_with, F_floats_with⟩ := c.def_ 17 (d := h_floats_with) rfl
  obtain ⟨fd_room_chances, F_room_chances⟩ := c.def_ 18 (d := h_room_chances) rfl
  obtain ⟨fd_tide_at, F_tide_at⟩ := c.def_ 19 (d := h_tide_at) rfl
  obtain ⟨fd_open_runs, F_open_runs⟩ := c.def_ 20 (d := h_open_runs) rfl
  obtain ⟨fd_stays_open, F_stays_open⟩ := c.def_ 21 (d := h_stays_open) rfl
  obtain ⟨fd_ends_in, F_ends_in⟩ := c.def_ 22 (d := h_ends_in) rfl
  obtain ⟨fd_keeps_with, F_keeps_with⟩ := c.def_ 23 (d := h_keeps_with) rfl
  obtain ⟨fd_chance_kept, F_chance_kept⟩ := c.def_ 24 (d := h_chance_kept) rfl
  obtain ⟨fd__law_mixed, F__law_mixed⟩ := c.def_ 25 (d := h__law_mixed) rfl
  obtain ⟨fd__law_row, F__law_row⟩ := c.def_ 26 (d := h__law_row) rfl
  obtain ⟨fd__law_is_int, F__law_is_int⟩ := c.def_ 27 (d := h__law_is_int) rfl
  obtain ⟨fd__law_like, F__law_like⟩ := c.def_ 28 (d := h__law_like) rfl
  obtain ⟨fd__law_orders, F__law_orders⟩ := c.def_ 29 (d := h__law_orders) rfl
  obtain ⟨fd__law_common, F__law_common⟩ := c.def_ 30 (d := h__law_common) rfl
  obtain ⟨fd__law_ratio, F__law_ratio⟩ := c.def_ 31 (d := h__law_ratio) rfl
  obtain ⟨fd__law_sum, F__law_sum⟩ := c.def_ 32 (d := h__law_sum) rfl
  obtain ⟨fd__law_tuples, F__law_tuples⟩ := c.def_ 33 (d := h__law_tuples) rfl
  obtain ⟨fd__law_power, F__law_power⟩ := c.def_ 34 (d := h__law_power) rfl
  obtain ⟨fd__law_dried, F__law_dried⟩ := c.def_ 35 (d := h__law_dried) rfl
  obtain ⟨fd__law_chances, F__law_chances⟩ := c.def_ 36 (d := h__law_chances) rfl
  obtain ⟨fd__law_reckoned, F__law_reckoned⟩ := c.def_ 37 (d := h__law_reckoned) rfl
  obtain ⟨fd__law_days, F__law_days⟩ := c.def_ 38 (d := h__law_days) rfl
  obtain ⟨fd__law_coats, F__law_coats⟩ := c.def_ 39 (d := h__law_coats) rfl
  obtain ⟨fd__law_kept, F__law_kept⟩ := c.def_ 40 (d := h__law_kept) rfl
  obtain ⟨fd_law, F_law⟩ := c.def_ 41 (d := h_law) rfl
  have e := hfa.symm.trans (He.glo_ok X G (c.fact 41 (f := .glo "law") rfl))
  cases e
  refine ⟨fd_law, fun s v => FunD.bindsA (ps := ["script"]) F_law (fun _ _ _ _ _ _ us hl => match us, hl with | [_], _ => rfl) s [v] rfl, fun base _ _ => ?_⟩
  have b_abs : mg "abs" = none := He.free_ok X G (c.fact 42 (f := .free "abs") rfl)
  have b_all : mg "all" = none := He.free_ok X G (c.fact 43 (f := .free "all") rfl)
  have b_any : mg "any" = none := He.free_ok X G (c.fact 44 (f := .free "any") rfl)
  have b_bool : mg "bool" = none := He.free_ok X G (c.fact 45 (f := .free "bool") rfl)
  have b_enumerate : mg "enumerate" = none := He.free_ok X G (c.fact 46 (f := .free "enumerate") rfl)
  have b_int : mg "int" = none := He.free_ok X G (c.fact 47 (f := .free "int") rfl)
  have b_isinstance : mg "isinstance" = none := He.free_ok X G (c.fact 48 (f := .free "isinstance") rfl)
  have b_len : mg "len" = none := He.free_ok X G (c.fact 49 (f := .free "len") rfl)
  have b_max : mg "max" = none := He.free_ok X G (c.fact 50 (f := .free "max") rfl)
  have b_min : mg "min" = none := He.free_ok X G (c.fact 51 (f := .free "min") rfl)
  have b_range : mg "range" = none := He.free_ok X G (c.fact 52 (f := .free "range") rfl)
  have b_str : mg "str" = none := He.free_ok X G (c.fact 53 (f := .free "str") rfl)
  have b_sum : mg "sum" = none := He.free_ok X G (c.fact 54 (f := .free "sum") rfl)
  have b_tuple : mg "tuple" = none := He.free_ok X G (c.fact 55 (f := .free "tuple") rfl)
  have b_zip : mg "zip" = none := He.free_ok X G (c.fact 56 (f := .free "zip") rfl)
  have D_divisor : Def P w K mg base 1 "divisor" ["first", "second"] d_divisor := def_ok (ok_divisor F_divisor b_abs) (He.glo_ok X G (c.fact 0 (f := .glo "divisor") rfl)) F_divisor.kp (F_divisor.bindsN (ps := ["first", "second"]) fun _ _ _ _ _ _ us hl => match us, hl with | [_, _], _ => rfl)
  have D_lowest : Def P w K mg base 2 "lowest" ["a", "b"] d_lowest := def_ok (ok_lowest F_lowest D_divisor) (He.glo_ok X G (c.fact 1 (f := .glo "lowest") rfl)) F_lowest.kp (F_lowest.bindsN (ps := ["a", "b"]) fun _ _ _ _ _ _ us hl => match us, hl with | [_, _], _ => rfl)
  have D_plus : Def P w K mg base 3 "plus" ["first", "second"] d_plus := def_ok (ok_plus F_plus D_lowest) (He.glo_ok X G (c.fact 2 (f := .glo "plus") rfl)) F_plus.kp (F_plus.bindsN (ps := ["first", "second"]) fun _ _ _ _ _ _ us hl => match us, hl with | [_, _], _ => rfl)
  have D_minus : Def P w K mg base 3 "minus" ["first", "second"] d_minus := def_ok (ok_minus F_minus D_lowest) (He.glo_ok X G (c.fact 3 (f := .glo "minus") rfl)) F_minus.kp (F_minus.bindsN (ps := ["first", "second"]) fun _ _ _ _ _ _ us hl => match us, hl with | [_, _], _ => rfl)
  have D_times : Def P w K mg base 3 "times" ["first", "second"] d_times := def_ok (ok_times F_times D_lowest) (He.glo_ok X G (c.fact 4 (f := .glo "times") rfl)) F_times.kp (F_times.bindsN (ps := ["first", "second"]) fun _ _ _ _ _ _ us hl => match us, hl with | [_, _], _ => rfl)
  have D_is_less : Def P w K mg base 1 "is_less" ["first", "second"] d_is_less := def_ok (ok_is_less F_is_less) (He.glo_ok X G (c.fact 5 (f := .glo "is_less") rfl)) F_is_less.kp (F_is_less.bindsN (ps := ["first", "second"]) fun _ _ _ _ _ _ us hl => match us, hl with | [_, _], _ => rfl)
  have D_all_sets : Def P w K mg base 1 "all_sets" ["n"] d_all_sets := def_ok (ok_all_sets F_all_sets b_range) (He.glo_ok X G (c.fact 6 (f := .glo "all_sets") rfl)) F_all_sets.kp (F_all_sets.bindsN (ps := ["n"]) fun _ _ _ _ _ _ us hl => match us, hl with | [_], _ => rfl)
  have D_whole : Def P w K mg base 1 "whole" ["number"] d_whole := def_ok (ok_whole F_whole) (He.glo_ok X G (c.fact 7 (f := .glo "whole") rfl)) F_whole.kp (F_whole.bindsN (ps := ["number"]) fun _ _ _ _ _ _ us hl => match us, hl with | [_], _ => rfl)
  have D_summed : Def P w K mg base 4 "summed" ["ratios"] d_summed := def_ok (ok_summed F_summed D_plus) (He.glo_ok X G (c.fact 8 (f := .glo "summed") rfl)) F_summed.kp (F_summed.bindsN (ps := ["ratios"]) fun _ _ _ _ _ _ us hl => match us, hl with | [_], _ => rfl)
  have D_coats_by : Def P w K mg base 1 "coats_by" ["dry", "k", "n"] d_coats_by := def_ok (ok_coats_by F_coats_by b_all b_len b_range b_tuple) (He.glo_ok X G (c.fact 9 (f := .glo "coats_by") rfl)) F_coats_by.kp (F_coats_by.bindsN (ps := ["dry", "k", "n"]) fun _ _ _ _ _ _ us hl => match us, hl with | [_, _, _], _ => rfl)
  have D_dry_runs : Def P w K mg base 1 "dry_runs" ["dry"] d_dry_runs := def_ok (ok_dry_runs F_dry_runs b_enumerate b_tuple) (He.glo_ok X G (c.fact 10 (f := .glo "dry_runs") rfl)) F_dry_runs.kp (F_dry_runs.bindsN (ps := ["dry"]) fun _ _ _ _ _ _ us hl => match us, hl with | [_], _ => rfl)
  have D_coats_most : Def P w K mg base 2 "coats_most" ["dry", "k"] d_coats_most := def_ok (ok_coats_most F_coats_most D_dry_runs b_sum) (He.glo_ok X G (c.fact 11 (f := .glo "coats_most") rfl)) F_coats_most.kp (F_coats_most.bindsN (ps := ["dry", "k"]) fun _ _ _ _ _ _ us hl => match us, hl with | [_, _], _ => rfl)
  have D_next_day : Def P w K mg base 5 "next_day" ["rows", "done", "chance"] d_next_day := def_ok (ok_next_day F_next_day D_plus D_minus D_times D_whole D_summed) (He.glo_ok X G (c.fact 12 (f := .glo "next_day") rfl)) F_next_day.kp (F_next_day.bindsN (ps := ["rows", "done", "chance"]) fun _ _ _ _ _ _ us hl => match us, hl with | [_, _, _], _ => rfl)
  have D_dry_chance : Def P w K mg base 6 "dry_chance" ["chance", "k", "n"] d_dry_chance := def_ok (ok_dry_chance F_dry_chance D_whole D_next_day b_range) (He.glo_ok X G (c.fact 13 (f := .glo "dry_chance") rfl)) F_dry_chance.kp (F_dry_chance.bindsN (ps := ["chance", "k", "n"]) fun _ _ _ _ _ _ us hl => match us, hl with | [_, _, _], _ => rfl)
  have D_days_for : Def P w K mg base 6 "days_for" ["chance", "k", "least"] d_days_for := def_ok (ok_days_for F_days_for D_is_less D_whole D_next_day b_range) (He.glo_ok X G (c.fact 14 (f := .glo "days_for") rfl)) F_days_for.kp (F_days_for.bindsN (ps := ["chance", "k", "least"]) fun _ _ _ _ _ _ us hl => match us, hl with | [_, _, _], _ => rfl)
  have D_mean_wait : Def P w K mg base 4 "mean_wait" ["chance", "k"] d_mean_wait := def_ok (ok_mean_wait F_mean_wait D_plus D_times D_whole b_range) (He.glo_ok X G (c.fact 15 (f := .glo "mean_wait") rfl)) F_mean_wait.kp (F_mean_wait.bindsN (ps := ["chance", "k"]) fun _ _ _ _ _ _ us hl => match us, hl with | [_, _], _ => rfl)
  have D_bears : Def P w K mg base 1 "bears" ["rooms", "weight", "flooded"] d_bears := def_ok (ok_bears F_bears b_enumerate b_sum) (He.glo_ok X G (c.fact 16 (f := .glo "bears") rfl)) F_bears.kp (F_bears.bindsN (ps := ["rooms", "weight", "flooded"]) fun _ _ _ _ _ _ us hl => match us, hl with | [_, _, _], _ => rfl)
  have D_floats_with : Def P w K mg base 2 "floats_with" ["rooms", "weight", "flooded"] d_floats_with := def_ok (ok_floats_with F_floats_with D_bears) (He.glo_ok X G (c.fact 17 (f := .glo "floats_with") rfl)) F_floats_with.kp (F_floats_with.bindsN (ps := ["rooms", "weight", "flooded"]) fun _ _ _ _ _ _ us hl => match us, hl with | [_, _, _], _ => rfl)
  have D_room_chances : Def P w K mg base 4 "room_chances" ["rooms", "weight", "chances"] d_room_chances := def_ok (ok_room_chances F_room_chances D_plus D_minus D_times D_all_sets D_whole D_floats_with b_enumerate b_len) (He.glo_ok X G (c.fact 18 (f := .glo "room_chances") rfl)) F_room_chances.kp (F_room_chances.bindsN (ps := ["rooms", "weight", "chances"]) fun _ _ _ _ _ _ us hl => match us, hl with | [_, _, _], _ => rfl)
  have D_tide_at : Def P w K mg base 1 "tide_at" ["tide", "hour"] d_tide_at := def_ok (ok_tide_at F_tide_at b_len) (He.glo_ok X G (c.fact 19 (f := .glo "tide_at") rfl)) F_tide_at.kp (F_tide_at.bindsN (ps := ["tide", "hour"]) fun _ _ _ _ _ _ us hl => match us, hl with | [_, _], _ => rfl)
  have D_open_runs : Def P w K mg base 2 "open_runs" ["tide", "need", "span"] d_open_runs := def_ok (ok_open_runs F_open_runs D_tide_at b_range b_tuple) (He.glo_ok X G (c.fact 20 (f := .glo "open_runs") rfl)) F_open_runs.kp (F_open_runs.bindsN (ps := ["tide", "need", "span"]) fun _ _ _ _ _ _ us hl => match us, hl with | [_, _, _], _ => rfl)
  have D_stays_open : Def P w K mg base 2 "stays_open" ["tide", "need", "hour", "hours"] d_stays_open := def_ok (ok_stays_open F_stays_open D_tide_at b_all b_len b_min b_range) (He.glo_ok X G (c.fact 21 (f := .glo "stays_open") rfl)) F_stays_open.kp (F_stays_open.bindsN (ps := ["tide", "need", "hour", "hours"]) fun _ _ _ _ _ _ us hl => match us, hl with | [_, _, _, _], _ => rfl)
  have D_ends_in : Def P w K mg base 1 "ends_in" ["ships", "works", "order"] d_ends_in := def_ok (ok_ends_in F_ends_in b_max) (He.glo_ok X G (c.fact 22 (f := .glo "ends_in") rfl)) F_ends_in.kp (F_ends_in.bindsN (ps := ["ships", "works", "order"]) fun _ _ _ _ _ _ us hl => match us, hl with | [_, _, _], _ => rfl)
  have D_keeps_with : Def P w K mg base 2 "keeps_with" ["ships", "works", "order"] d_keeps_with := def_ok (ok_keeps_with F_keeps_with D_ends_in b_all) (He.glo_ok X G (c.fact 23 (f := .glo "keeps_with") rfl)) F_keeps_with.kp (F_keeps_with.bindsN (ps := ["ships", "works", "order"]) fun _ _ _ _ _ _ us hl => match us, hl with | [_, _, _], _ => rfl)
  have D_chance_kept : Def P w K mg base 4 "chance_kept" ["ships", "weights", "order"] d_chance_kept := def_ok (ok_chance_kept F_chance_kept D_lowest D_plus D_times D_whole D_keeps_with b_enumerate b_sum b_zip) (He.glo_ok X G (c.fact 24 (f := .glo "chance_kept") rfl)) F_chance_kept.kp (F_chance_kept.bindsN (ps := ["ships", "weights", "order"]) fun _ _ _ _ _ _ us hl => match us, hl with | [_, _, _], _ => rfl)
  have D__law_mixed : Def P w K mg base 1 "_law_mixed" ["script", "k"] d__law_mixed := def_ok (ok__law_mixed F__law_mixed b_int b_len) (He.glo_ok X G (c.fact 25 (f := .glo "_law_mixed") rfl)) F__law_mixed.kp (F__law_mixed.bindsN (ps := ["script", "k"]) fun _ _ _ _ _ _ us hl => match us, hl with | [_, _], _ => rfl)
  have D__law_row : Def P w K mg base 2 "_law_row" ["script", "many"] d__law_row := def_ok (ok__law_row F__law_row D__law_mixed b_int b_len b_range) (He.glo_ok X G (c.fact 26 (f := .glo "_law_row") rfl)) F__law_row.kp (F__law_row.bindsN (ps := ["script", "many"]) fun _ _ _ _ _ _ us hl => match us, hl with | [_, _], _ => rfl)
  have D__law_is_int : Def P w K mg base 1 "_law_is_int" ["value"] d__law_is_int := def_ok (ok__law_is_int F__law_is_int b_bool b_int b_isinstance) (He.glo_ok X G (c.fact 27 (f := .glo "_law_is_int") rfl)) F__law_is_int.kp (F__law_is_int.bindsN (ps := ["value"]) fun _ _ _ _ _ _ us hl => match us, hl with | [_], _ => rfl)
  have D__law_like : Def P w K mg base 10 "_law_like" ["value", "due"] (d__law_like 8) := def_ok (ok__law_like F__law_like (He.glo_ok X G (c.fact 28 (f := .glo "_law_like") rfl)) F__law_like.kp (F__law_like.bindsN (ps := ["value", "due"]) fun _ _ _ _ _ _ us hl => match us, hl with | [_, _], _ => rfl) D__law_is_int b_all b_bool b_isinstance b_len b_range b_str b_tuple 8) (He.glo_ok X G (c.fact 28 (f := .glo "_law_like") rfl)) F__law_like.kp (F__law_like.bindsN (ps := ["value", "due"]) fun _ _ _ _ _ _ us hl => match us, hl with | [_, _], _ => rfl)
  have D__law_orders : Def P w K mg base 1 "_law_orders" ["count"] d__law_orders := def_ok (ok__law_orders F__law_orders b_range) (He.glo_ok X G (c.fact 29 (f := .glo "_law_orders") rfl)) F__law_orders.kp (F__law_orders.bindsN (ps := ["count"]) fun _ _ _ _ _ _ us hl => match us, hl with | [_], _ => rfl)
  have D__law_common : Def P w K mg base 1 "_law_common" ["first", "second"] d__law_common := def_ok (ok__law_common F__law_common b_abs b_int) (He.glo_ok X G (c.fact 30 (f := .glo "_law_common") rfl)) F__law_common.kp (F__law_common.bindsN (ps := ["first", "second"]) fun _ _ _ _ _ _ us hl => match us, hl with | [_, _], _ => rfl)
  have D__law_ratio : Def P w K mg base 2 "_law_ratio" ["a", "b"] d__law_ratio := def_ok (ok__law_ratio F__law_ratio D__law_common) (He.glo_ok X G (c.fact 31 (f := .glo "_law_ratio") rfl)) F__law_ratio.kp (F__law_ratio.bindsN (ps := ["a", "b"]) fun _ _ _ _ _ _ us hl => match us, hl with | [_, _], _ => rfl)
  have D__law_sum : Def P w K mg base 3 "_law_sum" ["ratios"] d__law_sum := def_ok (ok__law_sum F__law_sum D__law_ratio) (He.glo_ok X G (c.fact 32 (f := .glo "_law_sum") rfl)) F__law_sum.kp (F__law_sum.bindsN (ps := ["ratios"]) fun _ _ _ _ _ _ us hl => match us, hl with | [_], _ => rfl)
  have D__law_tuples : Def P w K mg base 1 "_law_tuples" ["count", "most"] d__law_tuples := def_ok (ok__law_tuples F__law_tuples b_range) (He.glo_ok X G (c.fact 33 (f := .glo "_law_tuples") rfl)) F__law_tuples.kp (F__law_tuples.bindsN (ps := ["count", "most"]) fun _ _ _ _ _ _ us hl => match us, hl with | [_, _], _ => rfl)
  have D__law_power : Def P w K mg base 1 "_law_power" ["a", "b", "many"] d__law_power := def_ok (ok__law_power F__law_power b_range) (He.glo_ok X G (c.fact 34 (f := .glo "_law_power") rfl)) F__law_power.kp (F__law_power.bindsN (ps := ["a", "b", "many"]) fun _ _ _ _ _ _ us hl => match us, hl with | [_, _, _], _ => rfl)
  have D__law_dried : Def P w K mg base 3 "_law_dried" ["a", "b", "k", "n"] d__law_dried := def_ok (ok__law_dried F__law_dried D__law_ratio D__law_tuples D__law_power b_any b_min b_range) (He.glo_ok X G (c.fact 35 (f := .glo "_law_dried") rfl)) F__law_dried.kp (F__law_dried.bindsN (ps := ["a", "b", "k", "n"]) fun _ _ _ _ _ _ us hl => match us, hl with | [_, _, _, _], _ => rfl)
  have D__law_chances : Def P w K mg base 11 "_law_chances" ["a", "b", "k", "n"] d__law_chances := def_ok (ok__law_chances F__law_chances D_dry_chance D_room_chances D_chance_kept D__law_like D__law_ratio D__law_power D__law_dried b_range b_tuple) (He.glo_ok X G (c.fact 36 (f := .glo "_law_chances") rfl)) F__law_chances.kp (F__law_chances.bindsN (ps := ["a", "b", "k", "n"]) fun _ _ _ _ _ _ us hl => match us, hl with | [_, _, _, _], _ => rfl)
  have D__law_reckoned : Def P w K mg base 1 "_law_reckoned" ["a", "b", "k", "most"] d__law_reckoned := def_ok (ok__law_reckoned F__law_reckoned b_range b_sum) (He.glo_ok X G (c.fact 37 (f := .glo "_law_reckoned") rfl)) F__law_reckoned.kp (F__law_reckoned.bindsN (ps := ["a", "b", "k", "most"]) fun _ _ _ _ _ _ us hl => match us, hl with | [_, _, _, _], _ => rfl)
  have D__law_days : Def P w K mg base 11 "_law_days" ["a", "b", "k", "row"] d__law_days := def_ok (ok__law_days F__law_days D_days_for D_mean_wait D__law_like D__law_ratio D__law_sum D__law_power D__law_reckoned b_int b_range) (He.glo_ok X G (c.fact 38 (f := .glo "_law_days") rfl)) F__law_days.kp (F__law_days.bindsN (ps := ["a", "b", "k", "row"]) fun _ _ _ _ _ _ us hl => match us, hl with | [_, _, _, _], _ => rfl)
  have D__law_coats : Def P w K mg base 11 "_law_coats" ["row"] d__law_coats := def_ok (ok__law_coats F__law_coats D_coats_by D_dry_runs D_coats_most D_open_runs D_stays_open D__law_like b_int b_len b_range b_tuple) (He.glo_ok X G (c.fact 39 (f := .glo "_law_coats") rfl)) F__law_coats.kp (F__law_coats.bindsN (ps := ["row"]) fun _ _ _ _ _ _ us hl => match us, hl with | [_], _ => rfl)
  have D__law_kept : Def P w K mg base 11 "_law_kept" ["row"] d__law_kept := def_ok (ok__law_kept F__law_kept D_chance_kept D__law_like D__law_orders D__law_ratio b_int b_len b_max b_range b_sum b_tuple) (He.glo_ok X G (c.fact 40 (f := .glo "_law_kept") rfl)) F__law_kept.kp (F__law_kept.bindsN (ps := ["row"]) fun _ _ _ _ _ _ us hl => match us, hl with | [_], _ => rfl)
  exact ok_law F_law D__law_row D__law_chances D__law_days D__law_coats D__law_kept b_int
/-- THE LAW from its plain function -/
theorem holds_of (hF : ∀ ns : List Int, ns.length ≤ 63 → d_law [scr (ns.map PyData.int)] = some (.bool true)) : PySem.Challenge.rw_dockheld_k32_whole_chances_coats.Holds := by
  w_on; o_law
  refine HandSHeadRun.head_any (r := PySem.W.OpenLaw.row PySem.Challenge.rw_dockheld_k32_whole_chances_coats) (q := PySem.W.view (PySem.W.OpenLaw.row PySem.Challenge.rw_dockheld_k32_whole_chances_coats).prog [48]) (H := hk) (ob := ob) (M := 20000) (loose := loo) (d := HandSHeadRun.topDef (PySem.W.OpenLaw.row PySem.Challenge.rw_dockheld_k32_whole_chances_coats).prog 48) (kwd := []) ob_eq
    (by kernel_rfl) (fun s => by kernel_rfl) run (by kernel_rfl) (by kernel_rfl) (by kernel_rfl) (by rfl) (by first | assumption | decide +kernel) (by decide +kernel) ⟨rfl, rfl, rfl, rfl, rfl, by decide +kernel⟩ ?hw ?hc
  case hw => w_witness2
  case hc =>
    refine L2.walk_ofE (l := PySem.Challenge.rw_dockheld_k32_whole_chances_coats) (n := 63) (k := 12) (x := "script") (CX := L2.CX0) rfl (by decide) (by kernel_rfl) ⟨rfl, by decide, by decide⟩ ?F (fun _ _ _ _ z => z)
    intro w mg fa h Y G hmg0
    obtain ⟨K, KX, c⟩ := Y
    have hmg : mg ("law" : PySem.Str) = some (.ref fa) := by
      have e : (HandSHeadRun.topDef (PySem.W.OpenLaw.row PySem.Challenge.rw_dockheld_k32_whole_chances_coats).prog 48).name = ("law" : PySem.Str) := by kernel_rfl
      rw [← e]
      exact hmg0
    obtain ⟨fd, hb, hF2⟩ := facts (P := (PySem.Challenge.rw_dockheld_k32_whole_chances_coats).prog) (w := w) KX G hmg c
    exact ⟨K, fd, spD K 1 d_law, KX, hb, sp_law hF, hF2⟩
end K32

namespace K32
open PySem PySem.Spec PyProof.Rows L2 Pm
theorem divisor_loop : ∀ (N y : Nat), y < N → ∀ x : Nat, whileF (tOf (xBin oGt (xVar 1) (xC (.int 0)))) (sSeq (sPar [0, 1] (xCons (xVar 1) (xCons (xBin oMod (xVar 0) (xVar 1)) xNil))) sNop) N [some (.int x), some (.int y)] = some (.nx [some (.int (Nat.gcd x y : Nat)), some (.int 0)]) := by
  intro N
  induction N with
  | zero => intro y h; omega
  | succ N ih =>
    intro y hy x
    rw [whileF_succ]
    by_cases h0 : y = 0
    · subst h0
      simp [tOf, xBin, xVar, xC, oGt, dB]
    · have hp : 0 < y := by omega
      have e : ((x : Int).fmod (y : Int)) = ((x % y : Nat) : Int) := by
        rw [Int.fmod_eq_emod_of_nonneg _ (by omega)]
        rfl
      have hlt : x % y < y := Nat.mod_lt _ hp
      simp [tOf, xBin, xVar, xC, oGt, dB, hp, sSeq, sPar, xCons, xNil, oMod, h0, setAll, sNop, e]
      rw [← Int.natCast_emod, ih (x % y) (by omega) y, Nat.gcd_comm y, ← Nat.gcd_rec, Nat.gcd_comm]
theorem abs_eq (a : Int) : (if a < 0 then -a else a) = (a.natAbs : Int) := by split <;> omega
theorem Sm.fuel {b : Int} (hb : Sm 1999 b) : b.natAbs < fuelN := Nat.lt_of_le_of_lt hb (Nat.pow_lt_pow_right (by decide) (by decide))
theorem divisor_eq (a b : Int) (hb : Sm 1999 b) : d_divisor [.int a, .int b] = some (.int (Int.gcd a b : Nat)) := by
  have := divisor_loop fuelN b.natAbs (Sm.fuel hb) a.natAbs
  simp -implicitDefEqProofs only [d_divisor, g_divisor, xVar_a, xC_a, xBin_a, xUn_a, tOf_a, tTru_a, tNotP_a, tAndP_a, tOrP_a, tyes_a, tno_a, tYesP_a, xNil_a, xCons_a, xTup_a, xLst_a, xAnd_a, xOr_a, xIf_a, xChain_a, oNo_a, oAt_a, xSl_a, xCall_a, xSeq_a, xIt_a, xLc_a, gSet_a, gTupD_a, gsNil_a, gsCons_a, sNop_a, sBrk_a, sCnt_a, sSeq_a, sRet_a, sIf_a, sSet_a, sTgt_a, sAug_a, sApp_a, sExt_a, sPut_a, sPutK_a, pkO_s, sFor_a, sWhile_a, sPar_a, runD_a, b2_s, c2_s, sqO_nx, sqO_rt, sqO_bk, sqO_ct, ifO_t, ifO_f, stO_s, endO_nx, endO_rt, andO_t, andO_f, orO_t, orO_f, chO_s, chP_t, chP_f, slO_s, atO_i, lcO_s, forO_s, gsO_s, nxO_s, tgO_s, paO_s, apO_s, exO_s, plO_s, ptO_s, dB_b, tru_b, tru_n, tru_i, tru_l, tru_t, is_n, isn_n, nn_n, nn_i, nn_b, nn_t, nn_l, add_ii, add'_ii, sub_ii, neg_i, lt_ii, le_ii, gt_ii, ge_ii, ix_l, ix_t, ix_s, at0, at1, at2, sl_l, sl_t, len_l, len_t, len_s, abs_i, int_i, int_b, max_ii, min_ii, tup_s, lst_s, seq_l, seq_t, sum_s, wipe_n, wipe_c, mul_ii, fdiv_ii, mod_ii, add_ll, add_tt, setAll, mkT, mkL, oNot, List.getD_cons_zero, List.getD_cons_succ, List.length_cons, List.length_nil, List.set_cons_zero, List.set_cons_succ, List.map_cons, List.map_nil, List.replicate, List.cons_append, List.nil_append, List.append_nil, Option.bind_some, Option.map_some, List.all_cons, List.all_nil, if_true, if_false, reduceIte, Nat.reduceAdd, Nat.reduceSub, Nat.reduceLT, Nat.reduceLeDiff, Nat.reduceEqDiff, decide_true, decide_false, Bool.and_true, Bool.and_self, Bool.true_and, Bool.not_true, Bool.not_false, ne_eq, not_true_eq_false, not_false_eq_true, Nat.zero_add, Bool.false_eq_true, and_self, true_and, and_true, abs_eq, l1_divisor, this, Int.gcd]
theorem lowest_eq (a b : Int) (h0 : 0 < b) (hb : Sm 1999 b) : d_lowest [.int a, .int b] = some (fr a b) := by
  have hg := gcd_pos_of (p := a) h0
  have hs : Sm 1999 (Int.gcd a b : Int) := by
    show (Int.gcd a b : Int).natAbs ≤ 2 ^ 1999
    have : Int.gcd a b ≤ b.natAbs := Int.gcd_le_natAbs_right a (by omega)
    simpa using Nat.le_trans this hb
  have hd := hs.divOk (by omega) (by omega)
  have f1 : a.fdiv (Int.gcd a b : Int) = a / (Int.gcd a b : Int) := Int.fdiv_eq_ediv_of_nonneg _ (by omega)
  have f2 : b.fdiv (Int.gcd a b : Int) = b / (Int.gcd a b : Int) := Int.fdiv_eq_ediv_of_nonneg _ (by omega)
  simp [d_lowest, runD, g_lowest, sSeq, sSet, xIf, tOf, xBin, xVar, xC, oGt, dB, h0, xCall, xCons, xNil, divisor_eq a b hb, sRet, xTup, oFdiv, hd, f1, f2, fr]
theorem ix0 (a b : D) : oIx (.tuple [a, b]) (.int 0) = some a := rfl
theorem ix1 (a b : D) : oIx (.tuple [a, b]) (.int 1) = some b := rfl
theorem plus_eq {p q r s : Int} (hq : 0 < q) (hs : 0 < s) (b1 : Sm 900 p) (b2 : Sm 900 q) (b3 : Sm 900 r) (b4 : Sm 900 s) : d_plus [fr p q, fr r s] = some (fr (p * s + r * q) (q * s)) := by
  obtain ⟨p', q', g, e1, rfl, rfl, hg, hq', n1, n2⟩ := fr_parts p hq
  obtain ⟨r', s', k, e2, rfl, rfl, hk, hs', n3, n4⟩ := fr_parts r hs
  have m1 := (b1.le n1).mulOk (b4.le n4) (by omega) (by omega)
  have m2 := (b3.le n3).mulOk (b2.le n2) (by omega) (by omega)
  have m3 := (b2.le n2).mulOk (b4.le n4) (by omega) (by omega)
  have hp : 0 < q' * s' := Int.mul_pos hq' hs'
  have hl := lowest_eq (p' * s' + r' * q') (q' * s') hp (((b2.le n2).mul (b4.le n4)).mono (by omega))
  have hf : fr (p' * g * (s' * k) + r' * k * (q' * g)) (q' * g * (s' * k)) = fr (p' * s' + r' * q') (q' * s') := by
    have a1 : p' * g * (s' * k) + r' * k * (q' * g) = (p' * s' + r' * q') * (g * k) := by grind
    have a2 : q' * g * (s' * k) = (q' * s') * (g * k) := by grind
    rw [a1, a2, fr_scale hp (Int.mul_pos hg hk)]
  rw [hf, e1, e2]
  simp [d_plus, runD, g_plus, sRet, xCall, xCons, xNil, xBin, xVar, xC, ix0, ix1, oMul', oMul, m1, m2, m3, oAdd, hl]
theorem minus_eq {p q r s : Int} (hq : 0 < q) (hs : 0 < s) (b1 : Sm 900 p) (b2 : Sm 900 q) (b3 : Sm 900 r) (b4 : Sm 900 s) : d_minus [fr p q, fr r s] = some (fr (p * s - r * q) (q * s)) := by
  obtain ⟨p', q', g, e1, rfl, rfl, hg, hq', n1, n2⟩ := fr_parts p hq
  obtain ⟨r', s', k, e2, rfl, rfl, hk, hs', n3, n4⟩ := fr_parts r hs
  have m1 := (b1.le n1).mulOk (b4.le n4) (by omega) (by omega)
  have m2 := (b3.le n3).mulOk (b2.le n2) (by omega) (by omega)
  have m3 := (b2.le n2).mulOk (b4.le n4) (by omega) (by omega)
  have hp : 0 < q' * s' := Int.mul_pos hq' hs'
  have hl := lowest_eq (p' * s' - r' * q') (q' * s') hp (((b2.le n2).mul (b4.le n4)).mono (by omega))
  have hf : fr (p' * g * (s' * k) - r' * k * (q' * g)) (q' * g * (s' * k)) = fr (p' * s' - r' * q') (q' * s') := by
    have a1 : p' * g * (s' * k) - r' * k * (q' * g) = (p' * s' - r' * q') * (g * k) := by grind
    have a2 : q' * g * (s' * k) = (q' * s') * (g * k) := by grind
    rw [a1, a2, fr_scale hp (Int.mul_pos hg hk)]
  rw [hf, e1, e2]
  simp [d_minus, runD, g_minus, sRet, xCall, xCons, xNil, xBin, xVar, xC, ix0, ix1, oMul', oMul, m1, m2, m3, oSub, hl]
theorem times_eq {p q r s : Int} (hq : 0 < q) (hs : 0 < s) (b1 : Sm 900 p) (b2 : Sm 900 q) (b3 : Sm 900 r) (b4 : Sm 900 s) : d_times [fr p q, fr r s] = some (fr (p * r) (q * s)) := by
  obtain ⟨p', q', g, e1, rfl, rfl, hg, hq', n1, n2⟩ := fr_parts p hq
  obtain ⟨r', s', k, e2, rfl, rfl, hk, hs', n3, n4⟩ := fr_parts r hs
  have m1 := (b1.le n1).mulOk (b3.le n3) (by omega) (by omega)
  have m3 := (b2.le n2).mulOk (b4.le n4) (by omega) (by omega)
  have hp : 0 < q' * s' := Int.mul_pos hq' hs'
  have hl := lowest_eq (p' * r') (q' * s') hp (((b2.le n2).mul (b4.le n4)).mono (by omega))
  have hf : fr (p' * g * (r' * k)) (q' * g * (s' * k)) = fr (p' * r') (q' * s') := by
    have a1 : p' * g * (r' * k) = (p' * r') * (g * k) := by grind
    have a2 : q' * g * (s' * k) = (q' * s') * (g * k) := by grind
    rw [a1, a2, fr_scale hp (Int.mul_pos hg hk)]
  rw [hf, e1, e2]
  simp [d_times, runD, g_times, sRet, xCall, xCons, xNil, xBin, xVar, xC, ix0, ix1, oMul', oMul, m1, m3, hl]
theorem is_less_eq {p q r s : Int} (hq : 0 < q) (hs : 0 < s) (b1 : Sm 900 p) (b2 : Sm 900 q) (b3 : Sm 900 r) (b4 : Sm 900 s) : d_is_less [fr p q, fr r s] = some (.bool (decide (p * s < r * q))) := by
  obtain ⟨p', q', g, e1, rfl, rfl, hg, hq', n1, n2⟩ := fr_parts p hq
  obtain ⟨r', s', k, e2, rfl, rfl, hk, hs', n3, n4⟩ := fr_parts r hs
  have m1 := (b1.le n1).mulOk (b4.le n4) (by omega) (by omega)
  have m2 := (b3.le n3).mulOk (b2.le n2) (by omega) (by omega)
  have hgk := Int.mul_pos hg hk
  have hf : decide (p' * g * (s' * k) < r' * k * (q' * g)) = decide (p' * s' < r' * q') := by
    have a1 : p' * g * (s' * k) = (p' * s') * (g * k) := by grind
    have a2 : r' * k * (q' * g) = (r' * q') * (g * k) := by grind
    rw [a1, a2]
    by_cases h : p' * s' < r' * q'
    · rw [decide_eq_true h, decide_eq_true (Int.mul_lt_mul_of_pos_right h hgk)]
    · rw [decide_eq_false h, decide_eq_false (Int.not_lt.mpr (Int.mul_le_mul_of_nonneg_right (Int.not_lt.mp h) (by omega)))]
  rw [hf, e1, e2]
  simp [d_is_less, runD, g_is_less, sRet, xCall, xCons, xNil, xBin, xVar, xC, ix0, ix1, oMul', oMul, m1, m2, oLt]
theorem fr_one (n : Int) : fr n 1 = .tuple [.int n, .int 1] := by simp [fr]
theorem whole_eq (n : Int) : d_whole [.int n] = some (fr n 1) := by
  rw [fr_one]
  rfl
end K32

namespace K32
open PySem PySem.Spec PyProof.Rows L2 Pm
theorem eq_int (i j : Int) : oEq (.int i) (.int j) = some (.bool (decide (i = j))) := by
  simp [oEq, shp, SeqAt.shaped, PyData.eqv, PyData.canLay0, PyData.depth]
  rfl
theorem ne_int (i j : Int) : oNe (.int i) (.int j) = some (.bool (!decide (i = j))) := by
  simp [oNe, shp, SeqAt.shaped, PyData.eqv, PyData.canLay0, PyData.depth]
  rfl
theorem k_isi1 : kitB "int" "bool" = some false := by kernel_rfl
theorem isi1 (i : Int) : oIsi "bool" (.int i) = some (.bool false) := by
  show (kitB "int" "bool").map PyData.bool = _
  rw [k_isi1]
  rfl
theorem k_isi2 : kitB "int" "tuple" = some false := by kernel_rfl
theorem isi2 (i : Int) : oIsi "tuple" (.int i) = some (.bool false) := by
  show (kitB "int" "tuple").map PyData.bool = _
  rw [k_isi2]
  rfl
theorem k_isi3 : kitB "int" "str" = some false := by kernel_rfl
theorem isi3 (i : Int) : oIsi "str" (.int i) = some (.bool false) := by
  show (kitB "int" "str").map PyData.bool = _
  rw [k_isi3]
  rfl
theorem k_isi0 : kitB "int" "int" = some true := by kernel_rfl
theorem isi0 (i : Int) : oIsi "int" (.int i) = some (.bool true) := by
  show (kitB "int" "int").map PyData.bool = _
  rw [k_isi0]
  rfl
theorem k_isb1 : kitB "bool" "bool" = some true := by kernel_rfl
theorem isb1 (i : Bool) : oIsi "bool" (.bool i) = some (.bool true) := by
  show (kitB "bool" "bool").map PyData.bool = _
  rw [k_isb1]
  rfl
theorem k_ist1 : kitB "tuple" "bool" = some false := by kernel_rfl
theorem ist1 (i : List D) : oIsi "bool" (.tuple i) = some (.bool false) := by
  show (kitB "tuple" "bool").map PyData.bool = _
  rw [k_ist1]
  rfl
theorem k_ist2 : kitB "tuple" "tuple" = some true := by kernel_rfl
theorem ist2 (i : List D) : oIsi "tuple" (.tuple i) = some (.bool true) := by
  show (kitB "tuple" "tuple").map PyData.bool = _
  rw [k_ist2]
  rfl
theorem asBools_rep (n : Nat) : asBools (List.replicate n (PyData.bool true)) = some (List.replicate n true) := by
  have := asBools_map (List.replicate n true)
  rwa [List.map_replicate] at this
theorem asBools_rng (n : Nat) : asBools ((List.range n).map fun _ => PyData.bool true) = some (List.replicate n true) := by
  rw [List.map_const', List.length_range, asBools_rep]
theorem is_int_int (i : Int) : d__law_is_int [.int i] = some (.bool true) := by
  simp [d__law_is_int, runD, g__law_is_int, sRet, xAnd, xUn, xVar, isi0, isi1, dB, oNot, oTru]
theorem like_none (n : Nat) : d__law_like (n + 1) [.none, .none] = some (.bool true) := by
  simp [d__law_like, runD, g__law_like, sSeq, sIf, tOf, xBin, xVar, xC, oIs, isNone, dB, sRet]
theorem like_bool (n : Nat) (b : Bool) : d__law_like (n + 1) [.bool b, .bool b] = some (.bool true) := by
  have e : oEq (.bool b) (.bool b) = some (.bool true) := by
    simp [oEq, shp, SeqAt.shaped, PyData.eqv, PyData.canLay0, PyData.depth]
  simp [d__law_like, runD, g__law_like, sSeq, sIf, tOf, xBin, xVar, xC, oIs, isNone, dB, tTru, xUn, isb1, oTru, sNop, sRet, xAnd, e]
theorem like_int (n : Nat) (i : Int) : d__law_like (n + 1) [.int i, .int i] = some (.bool true) := by
  simp [d__law_like, runD, g__law_like, sSeq, sIf, tOf, xBin, xVar, xC, oIs, isNone, dB, tTru, xUn, isi1, isi2, isi3, oTru, sNop, sRet, xAnd, xCall, xCons, xNil, is_int_int, eq_int]
theorem like_tup (n : Nat) (xs : List D) (hl : xs.length ≤ 16777216) (h : ∀ x ∈ xs, d__law_like n [x, x] = some (.bool true)) : d__law_like (n + 1) [.tuple xs, .tuple xs] = some (.bool true) := by
  have hr := oR1_nat xs.length hl
  have hm : lcL (gSet 2) tYesP (xCall (fun ds => if ds.length = 2 then d__law_like n ds else none) (xCons (xBin oIx (xVar 0) (xVar 2)) (xCons (xBin oIx (xVar 1) (xVar 2)) xNil))) [some (.tuple xs), some (.tuple xs), none] ((List.range xs.length).map fun i => PyData.int (i : Nat)) = some ((List.range xs.length).map fun _ => PyData.bool true) := by
    refine lcL_map _ _ _ fun i hi => ?_
    have hi' : i < xs.length := by simpa using hi
    simp [gSet, xCall, xCons, xNil, xBin, xVar, oIx, atI_nat xs i hi', h]
  simp [d__law_like, runD, g__law_like, sSeq, sIf, tOf, xBin, xVar, xC, oIs, isNone, dB, tTru, xUn, ist1, ist2, oTru, sNop, sRet, xCall, xCons, xNil, tOrP, tNotP, bLen, ne_int, xLc, xIt, hr, wipeP, hm, bAll, seqD, asBools_rng]
theorem like_fr (n : Nat) (p q : Int) : d__law_like (n + 2) [fr p q, fr p q] = some (.bool true) := by
  refine like_tup _ _ (by simp) fun x hx => ?_
  simp at hx
  rcases hx with rfl | rfl <;> exact like_int _ _
end K32

namespace K32
open PySem PySem.Spec PyProof.Rows L2 Pm
theorem flat_fr (p q : Int) : flat (fr p q) = true := rfl
theorem Sm.of_le {k : Nat} {a : Int} (h0 : 0 ≤ a) (h : a ≤ 2 ^ k) : Sm k a := by
  unfold Sm
  have : (a.natAbs : Int) ≤ ((2 ^ k : Nat) : Int) := by
    rw [Int.natAbs_of_nonneg h0, Int.natCast_pow]
    exact h
  omega
theorem summed_eq (R : List Int) (q : Int) (hq : 0 < q) (bq : Sm 400 q) (h0 : ∀ r ∈ R, 0 ≤ r) (hs : R.sum ≤ q) : d_summed [.list (R.map (fr · q))] = some (fr R.sum q) := by
  have key := forL_inv (g := gSet 2) (b := l1_summed) (fun r : Int => fr r q)
    (fun pre rest ρ => pre ++ rest = R ∧ ∃ j, ρ = [some (.list (R.map (fr · q))), some (fr pre.sum q), j]) (fun pre x rest ρ ⟨hR, j, e⟩ => by
      subst e
      have hsum : pre.sum + x + rest.sum = R.sum := by rw [← hR]; simp [Int.add_assoc]
      have p0 : ∀ l : List Int, (∀ r ∈ l, 0 ≤ r) → 0 ≤ l.sum := fun l => by
        induction l with
        | nil => intro _; simp
        | cons a l ih => intro h; have := h a (by simp); have := ih fun r hr => h r (by simp [hr]); simp; omega
      have g1 := p0 pre fun r hr => h0 r (by rw [← hR]; simp [hr])
      have g2 := p0 rest fun r hr => h0 r (by rw [← hR]; simp [hr])
      have g3 := h0 x (by rw [← hR]; simp)
      have bb : q ≤ 2 ^ 400 := by
        have := bq
        unfold Sm at this
        have e := Int.natAbs_of_nonneg (a := q) (by omega)
        have : ((q.natAbs : Nat) : Int) ≤ ((2 ^ 400 : Nat) : Int) := by omega
        rw [e, Int.natCast_pow] at this
        exact this
      have s1 : Sm 900 pre.sum := (Sm.of_le (k := 400) g1 (by omega)).mono (by omega)
      have s2 : Sm 900 x := (Sm.of_le (k := 400) g3 (by omega)).mono (by omega)
      have hp := plus_eq (p := pre.sum) (q := q) (r := x) (s := q) hq hq s1 (bq.mono (by omega)) s2 (bq.mono (by omega))
      have hf : fr (pre.sum * q + x * q) (q * q) = fr (pre.sum + x) q := fr_eq (Int.mul_pos hq hq) hq (by grind)
      rw [hf] at hp
      refine ⟨[some (.list (R.map (fr · q))), some (fr pre.sum q), some (fr x q)], [some (.list (R.map (fr · q))), some (fr (pre ++ [x]).sum q), some (fr x q)], rfl, .inl ?_, by rw [List.append_assoc]; exact hR, _, rfl⟩
      simp -implicitDefEqProofs only [l1_summed, xVar_a, xC_a, xBin_a, xUn_a, tOf_a, tTru_a, tNotP_a, tAndP_a, tOrP_a, tyes_a, tno_a, tYesP_a, xNil_a, xCons_a, xTup_a, xLst_a, xAnd_a, xOr_a, xIf_a, xChain_a, oNo_a, oAt_a, xSl_a, xCall_a, xSeq_a, xIt_a, xLc_a, gSet_a, gTupD_a, gsNil_a, gsCons_a, sNop_a, sBrk_a, sCnt_a, sSeq_a, sRet_a, sIf_a, sSet_a, sTgt_a, sAug_a, sApp_a, sExt_a, sPut_a, sPutK_a, pkO_s, sFor_a, sWhile_a, sPar_a, runD_a, b2_s, c2_s, sqO_nx, sqO_rt, sqO_bk, sqO_ct, ifO_t, ifO_f, stO_s, endO_nx, endO_rt, andO_t, andO_f, orO_t, orO_f, chO_s, chP_t, chP_f, slO_s, atO_i, lcO_s, forO_s, gsO_s, nxO_s, tgO_s, paO_s, apO_s, exO_s, plO_s, ptO_s, dB_b, tru_b, tru_n, tru_i, tru_l, tru_t, is_n, isn_n, nn_n, nn_i, nn_b, nn_t, nn_l, add_ii, add'_ii, sub_ii, neg_i, lt_ii, le_ii, gt_ii, ge_ii, ix_l, ix_t, ix_s, at0, at1, at2, sl_l, sl_t, len_l, len_t, len_s, abs_i, int_i, int_b, max_ii, min_ii, tup_s, lst_s, seq_l, seq_t, sum_s, wipe_n, wipe_c, mul_ii, fdiv_ii, mod_ii, add_ll, add_tt, setAll, mkT, mkL, oNot, List.getD_cons_zero, List.getD_cons_succ, List.length_cons, List.length_nil, List.set_cons_zero, List.set_cons_succ, List.map_cons, List.map_nil, List.replicate, List.cons_append, List.nil_append, List.append_nil, Option.bind_some, Option.map_some, List.all_cons, List.all_nil, if_true, if_false, reduceIte, Nat.reduceAdd, Nat.reduceSub, Nat.reduceLT, Nat.reduceLeDiff, Nat.reduceEqDiff, decide_true, decide_false, Bool.and_true, Bool.and_self, Bool.true_and, Bool.not_true, Bool.not_false, ne_eq, not_true_eq_false, not_false_eq_true, Nat.zero_add, Bool.false_eq_true, and_self, true_and, and_true, hp, flat_fr, List.sum_append, List.sum_cons, List.sum_nil, Int.add_zero]) R [] [some (.list (R.map (fr · q))), some (fr 0 1), none] ⟨rfl, none, by rw [show fr 0 1 = fr 0 q from fr_eq (by decide) hq (by omega)]; rfl⟩
  obtain ⟨ρ', e, _, j, e'⟩ := key
  subst e'
  have hi : PyData.tuple [.int 0, .int 1] = fr 0 1 := rfl
  simp only [List.nil_append] at e
  simp -implicitDefEqProofs only [d_summed, g_summed, xVar_a, xC_a, xBin_a, xUn_a, tOf_a, tTru_a, tNotP_a, tAndP_a, tOrP_a, tyes_a, tno_a, tYesP_a, xNil_a, xCons_a, xTup_a, xLst_a, xAnd_a, xOr_a, xIf_a, xChain_a, oNo_a, oAt_a, xSl_a, xCall_a, xSeq_a, xIt_a, xLc_a, gSet_a, gTupD_a, gsNil_a, gsCons_a, sNop_a, sBrk_a, sCnt_a, sSeq_a, sRet_a, sIf_a, sSet_a, sTgt_a, sAug_a, sApp_a, sExt_a, sPut_a, sPutK_a, pkO_s, sFor_a, sWhile_a, sPar_a, runD_a, b2_s, c2_s, sqO_nx, sqO_rt, sqO_bk, sqO_ct, ifO_t, ifO_f, stO_s, endO_nx, endO_rt, andO_t, andO_f, orO_t, orO_f, chO_s, chP_t, chP_f, slO_s, atO_i, lcO_s, forO_s, gsO_s, nxO_s, tgO_s, paO_s, apO_s, exO_s, plO_s, ptO_s, dB_b, tru_b, tru_n, tru_i, tru_l, tru_t, is_n, isn_n, nn_n, nn_i, nn_b, nn_t, nn_l, add_ii, add'_ii, sub_ii, neg_i, lt_ii, le_ii, gt_ii, ge_ii, ix_l, ix_t, ix_s, at0, at1, at2, sl_l, sl_t, len_l, len_t, len_s, abs_i, int_i, int_b, max_ii, min_ii, tup_s, lst_s, seq_l, seq_t, sum_s, wipe_n, wipe_c, mul_ii, fdiv_ii, mod_ii, add_ll, add_tt, setAll, mkT, mkL, oNot, List.getD_cons_zero, List.getD_cons_succ, List.length_cons, List.length_nil, List.set_cons_zero, List.set_cons_succ, List.map_cons, List.map_nil, List.replicate, List.cons_append, List.nil_append, List.append_nil, Option.bind_some, Option.map_some, List.all_cons, List.all_nil, if_true, if_false, reduceIte, Nat.reduceAdd, Nat.reduceSub, Nat.reduceLT, Nat.reduceLeDiff, Nat.reduceEqDiff, decide_true, decide_false, Bool.and_true, Bool.and_self, Bool.true_and, Bool.not_true, Bool.not_false, ne_eq, not_true_eq_false, not_false_eq_true, Nat.zero_add, Bool.false_eq_true, and_self, true_and, and_true, hi, e]
end K32

namespace K32
open PySem PySem.Spec PyProof.Rows L2 Pm
theorem one_sub {a b : Int} (h0 : 0 < b) (ha : Sm 10 a) (hb : Sm 10 b) : d_minus [fr 1 1, fr a b] = some (fr (b - a) b) := by
  rw [minus_eq (by decide) h0 Sm.lit Sm.lit (ha.mono (by omega)) (hb.mono (by omega))]
  congr 2 <;> omega
theorem sum_nonneg : ∀ {l : List Int}, (∀ r ∈ l, 0 ≤ r) → 0 ≤ l.sum
  | [], _ => by simp
  | a :: l, h => by
    have := h a (by simp)
    have := sum_nonneg fun r hr => h r (List.mem_cons_of_mem _ hr)
    simp
    omega
theorem mem_le_sum : ∀ {l : List Int}, (∀ r ∈ l, 0 ≤ r) → ∀ r ∈ l, r ≤ l.sum
  | a :: l, h, r, hr => by
    have h1 := h a (by simp)
    have h2 : ∀ r ∈ l, 0 ≤ r := fun r hr => h r (List.mem_cons_of_mem _ hr)
    have h3 := sum_nonneg h2
    simp
    rcases List.mem_cons.mp hr with e | hr
    · subst e; omega
    · have := mem_le_sum h2 r hr; omega
theorem Sm.int {k : Nat} {q : Int} (hq : 0 ≤ q) (b : Sm k q) : q ≤ 2 ^ k := by
  unfold Sm at b
  have e := Int.natAbs_of_nonneg hq
  have : ((q.natAbs : Nat) : Int) ≤ ((2 ^ k : Nat) : Int) := by omega
  rw [e, Int.natCast_pow] at this
  exact this
theorem next_day_eq (Ri : List Int) (l F a b q : Int) (hq : 0 < q) (hb : 0 < b) (ba : Sm 10 a) (bb : Sm 10 b) (bq : Sm 300 q) (h0 : ∀ r ∈ Ri, 0 ≤ r) (hl : 0 ≤ l) (hF : 0 ≤ F) (hs : Ri.sum + l + F = q) (hn : Ri.length ≤ 1000) :
    d_next_day [.list ((Ri ++ [l]).map (fr · q)), fr F q, fr a b] = some (.tuple [.list ((((Ri.sum + l) * (b - a)) :: Ri.map (· * a)).map (fr · (q * b))), fr (F * b + l * a) (q * b)]) := by
  have hi := sum_nonneg h0
  have hqi := Sm.int (by omega) bq
  have hall : ∀ r ∈ Ri ++ [l], 0 ≤ r := fun r hr => by
    rcases List.mem_append.mp hr with h | h
    · exact h0 r h
    · simp at h; omega
  have e1 := summed_eq (Ri ++ [l]) q hq (bq.mono (by omega)) hall (by simp; omega)
  have es : (Ri ++ [l]).sum = Ri.sum + l := by simp
  have sm : ∀ x : Int, 0 ≤ x → x ≤ q → Sm 900 x := fun x h1 h2 => (Sm.of_le (k := 300) h1 (by omega)).mono (by omega)
  have e2 := one_sub hb ba bb
  have e3 := times_eq (p := Ri.sum + l) (q := q) (r := b - a) (s := b) hq hb (sm _ (by omega) (by omega)) (bq.mono (by omega)) ((bb.sub ba).mono (by omega)) (bb.mono (by omega))
  have e4 : ∀ r : Int, 0 ≤ r → r ≤ q → d_times [fr r q, fr a b] = some (fr (r * a) (q * b)) := fun r h1 h2 => times_eq hq hb (sm _ h1 h2) (bq.mono (by omega)) (ba.mono (by omega)) (bb.mono (by omega))
  have hqb := Int.mul_pos hq hb
  have sqb : Sm 900 (q * b) := (bq.mul bb).mono (by omega)
  have e5 := plus_eq (p := F) (q := q) (r := l * a) (s := q * b) hq hqb (sm _ hF (by omega)) (bq.mono (by omega)) (((Sm.of_le (k := 300) hl (by omega)).mul ba).mono (by omega)) sqb
  rw [fr_eq (r := F * b + l * a) (s := q * b) (Int.mul_pos hq hqb) hqb (by grind)] at e5
  have e6 : lcL (gSet 4) tYesP (xCall (fun ds => if ds.length = 2 then (d_times) ds else none) (xCons (xVar 4) (xCons (xVar 2) xNil))) [some (.list ((Ri ++ [l]).map (fr · q))), some (fr F q), some (fr a b), some (fr ((Ri.sum + l) * (b - a)) (q * b)), none] (Ri.map (fr · q)) = some (Ri.map fun r => fr (r * a) (q * b)) := by
    refine lcL_map _ _ _ fun r hr => ?_
    have := mem_le_sum h0 r hr
    simp [gSet, xCall, xCons, xNil, xVar, e4 r (h0 r hr) (by omega)]
  have e7 : cutD ((Ri ++ [l]).map (fr · q)) none (some (-1)) = Ri.map (fr · q) := by
    rw [cut_init, List.map_append, List.map_singleton, List.dropLast_concat]
  have e8 : atI ((Ri ++ [l]).map (fr · q)) (-1) = some (fr l q) := by
    rw [List.map_append]
    exact L2.atI_last _ _
  have e9 := e4 l hl (by omega)
  rw [es] at e1
  have e10 : 1 + Ri.length ≤ 16777216 := by omega
  generalize (Ri ++ [l]).map (fr · q) = L at *
  simp [d_next_day, runD, g_next_day, sSeq, sSet, xCall, xCons, xNil, xVar, xC, whole_eq, e1, e2, e3, sRet, xTup, xBin, xUn, oNeg, xLst, xLc, xSeq, xSl, oNo, oAt, oSl, e7, seqD, wipeP, e6, oIx, e8, e9, e5, oAdd, e10, Function.comp_def]
end K32

namespace K32
open PySem PySem.Spec PyProof.Rows L2 Pm
theorem common_loop : ∀ (N y : Nat), y < N → ∀ x : Nat, whileF (tOf (xBin oGt (xVar 1) (xC (.int 0)))) (sSeq (sPar [0, 1] (xCons (xVar 1) (xCons (xBin oMod (xCall bInt (xCons (xVar 0) xNil)) (xVar 1)) xNil))) sNop) N [some (.int x), some (.int y)] = some (.nx [some (.int (Nat.gcd x y : Nat)), some (.int 0)]) := by
  intro N
  induction N with
  | zero => intro y h; omega
  | succ N ih =>
    intro y hy x
    rw [whileF_succ]
    by_cases h0 : y = 0
    · subst h0
      simp [tOf, xBin, xVar, xC, oGt, dB]
    · have hp : 0 < y := by omega
      have e : ((x : Int).fmod (y : Int)) = ((x % y : Nat) : Int) := by
        rw [Int.fmod_eq_emod_of_nonneg _ (by omega)]
        rfl
      have hlt : x % y < y := Nat.mod_lt _ hp
      simp [tOf, xBin, xVar, xC, oGt, dB, hp, sSeq, sPar, xCons, xNil, xCall, bInt, oMod, h0, setAll, sNop, e]
      rw [← Int.natCast_emod, ih (x % y) (by omega) y, Nat.gcd_comm y, ← Nat.gcd_rec, Nat.gcd_comm]
theorem common_eq (a b : Int) (hb : Sm 1999 b) : d__law_common [.int a, .int b] = some (.int (Int.gcd a b : Nat)) := by
  have := common_loop fuelN b.natAbs (Sm.fuel hb) a.natAbs
  simp -implicitDefEqProofs only [d__law_common, g__law_common, xVar_a, xC_a, xBin_a, xUn_a, tOf_a, tTru_a, tNotP_a, tAndP_a, tOrP_a, tyes_a, tno_a, tYesP_a, xNil_a, xCons_a, xTup_a, xLst_a, xAnd_a, xOr_a, xIf_a, xChain_a, oNo_a, oAt_a, xSl_a, xCall_a, xSeq_a, xIt_a, xLc_a, gSet_a, gTupD_a, gsNil_a, gsCons_a, sNop_a, sBrk_a, sCnt_a, sSeq_a, sRet_a, sIf_a, sSet_a, sTgt_a, sAug_a, sApp_a, sExt_a, sPut_a, sPutK_a, pkO_s, sFor_a, sWhile_a, sPar_a, runD_a, b2_s, c2_s, sqO_nx, sqO_rt, sqO_bk, sqO_ct, ifO_t, ifO_f, stO_s, endO_nx, endO_rt, andO_t, andO_f, orO_t, orO_f, chO_s, chP_t, chP_f, slO_s, atO_i, lcO_s, forO_s, gsO_s, nxO_s, tgO_s, paO_s, apO_s, exO_s, plO_s, ptO_s, dB_b, tru_b, tru_n, tru_i, tru_l, tru_t, is_n, isn_n, nn_n, nn_i, nn_b, nn_t, nn_l, add_ii, add'_ii, sub_ii, neg_i, lt_ii, le_ii, gt_ii, ge_ii, ix_l, ix_t, ix_s, at0, at1, at2, sl_l, sl_t, len_l, len_t, len_s, abs_i, int_i, int_b, max_ii, min_ii, tup_s, lst_s, seq_l, seq_t, sum_s, wipe_n, wipe_c, mul_ii, fdiv_ii, mod_ii, add_ll, add_tt, setAll, mkT, mkL, oNot, List.getD_cons_zero, List.getD_cons_succ, List.length_cons, List.length_nil, List.set_cons_zero, List.set_cons_succ, List.map_cons, List.map_nil, List.replicate, List.cons_append, List.nil_append, List.append_nil, Option.bind_some, Option.map_some, List.all_cons, List.all_nil, if_true, if_false, reduceIte, Nat.reduceAdd, Nat.reduceSub, Nat.reduceLT, Nat.reduceLeDiff, Nat.reduceEqDiff, decide_true, decide_false, Bool.and_true, Bool.and_self, Bool.true_and, Bool.not_true, Bool.not_false, ne_eq, not_true_eq_false, not_false_eq_true, Nat.zero_add, Bool.false_eq_true, and_self, true_and, and_true, abs_eq, l1__law_common, this, Int.gcd]
theorem ratio_eq (a b : Int) (h0 : 0 < b) (hb : Sm 1999 b) : d__law_ratio [.int a, .int b] = some (fr a b) := by
  have hg := gcd_pos_of (p := a) h0
  have hs : Sm 1999 (Int.gcd a b : Int) := by
    show (Int.gcd a b : Int).natAbs ≤ 2 ^ 1999
    have : Int.gcd a b ≤ b.natAbs := Int.gcd_le_natAbs_right a (by omega)
    simpa using Nat.le_trans this hb
  have hd := hs.divOk (by omega) (by omega)
  have f1 : a.fdiv (Int.gcd a b : Int) = a / (Int.gcd a b : Int) := Int.fdiv_eq_ediv_of_nonneg _ (by omega)
  have f2 : b.fdiv (Int.gcd a b : Int) = b / (Int.gcd a b : Int) := Int.fdiv_eq_ediv_of_nonneg _ (by omega)
  have hn : ¬ b < 0 := by omega
  simp [d__law_ratio, runD, g__law_ratio, sSeq, sSet, sIf, tOf, xBin, xVar, xC, oLt, dB, hn, xCall, xCons, xNil, common_eq a b hb, sRet, xTup, oFdiv, hd, f1, f2, fr, sNop]
theorem power_eq (a b : Int) (n : Nat) (hn : n ≤ 200) (ba : Sm 10 a) (bb : Sm 10 b) : d__law_power [.int a, .int b, .int n] = some (.tuple [.int (a ^ n), .int (b ^ n)]) := by
  have hr := oR1_nat n (by omega)
  have sp : ∀ (c : Int) (m : Nat), Sm 10 c → Sm (10 * m) (c ^ m) := fun c m h => by
    induction m with
    | zero => rw [Int.pow_zero]; show (1 : Int).natAbs ≤ 2 ^ (10 * 0); decide
    | succ m ih => rw [Int.pow_succ]; exact (ih.mul h).mono (by omega)
  obtain ⟨ρ', e, h⟩ := forL_inv (g := gSet 3) (b := l1__law_power) (fun i : Nat => PyData.int (i : Nat))
    (fun pre rest ρ => pre.length + rest.length = n ∧ ∃ j, ρ = [some (.int a), some (.int b), some (.int n), j, some (.int (a ^ pre.length)), some (.int (b ^ pre.length))]) (fun pre x rest ρ ⟨hl, j, e⟩ => by
      subst e
      have hk : pre.length ≤ 200 := by simp at hl; omega
      have m1 := (sp a pre.length ba).mulOk ba (by omega) (by omega)
      have m2 := (sp b pre.length bb).mulOk bb (by omega) (by omega)
      refine ⟨_, [some (.int a), some (.int b), some (.int n), some (.int x), some (.int (a ^ pre.length * a)), some (.int (b ^ pre.length * b))], rfl, .inl ?_, by simp at hl ⊢; omega, some (.int x), by simp [Int.pow_succ]⟩
      simp -implicitDefEqProofs only [l1__law_power, xVar_a, xC_a, xBin_a, xUn_a, tOf_a, tTru_a, tNotP_a, tAndP_a, tOrP_a, tyes_a, tno_a, tYesP_a, xNil_a, xCons_a, xTup_a, xLst_a, xAnd_a, xOr_a, xIf_a, xChain_a, oNo_a, oAt_a, xSl_a, xCall_a, xSeq_a, xIt_a, xLc_a, gSet_a, gTupD_a, gsNil_a, gsCons_a, sNop_a, sBrk_a, sCnt_a, sSeq_a, sRet_a, sIf_a, sSet_a, sTgt_a, sAug_a, sApp_a, sExt_a, sPut_a, sPutK_a, pkO_s, sFor_a, sWhile_a, sPar_a, runD_a, b2_s, c2_s, sqO_nx, sqO_rt, sqO_bk, sqO_ct, ifO_t, ifO_f, stO_s, endO_nx, endO_rt, andO_t, andO_f, orO_t, orO_f, chO_s, chP_t, chP_f, slO_s, atO_i, lcO_s, forO_s, gsO_s, nxO_s, tgO_s, paO_s, apO_s, exO_s, plO_s, ptO_s, dB_b, tru_b, tru_n, tru_i, tru_l, tru_t, is_n, isn_n, nn_n, nn_i, nn_b, nn_t, nn_l, add_ii, add'_ii, sub_ii, neg_i, lt_ii, le_ii, gt_ii, ge_ii, ix_l, ix_t, ix_s, at0, at1, at2, sl_l, sl_t, len_l, len_t, len_s, abs_i, int_i, int_b, max_ii, min_ii, tup_s, lst_s, seq_l, seq_t, sum_s, wipe_n, wipe_c, mul_ii, fdiv_ii, mod_ii, add_ll, add_tt, setAll, mkT, mkL, oNot, List.getD_cons_zero, List.getD_cons_succ, List.length_cons, List.length_nil, List.set_cons_zero, List.set_cons_succ, List.map_cons, List.map_nil, List.replicate, List.cons_append, List.nil_append, List.append_nil, Option.bind_some, Option.map_some, List.all_cons, List.all_nil, if_true, if_false, reduceIte, Nat.reduceAdd, Nat.reduceSub, Nat.reduceLT, Nat.reduceLeDiff, Nat.reduceEqDiff, decide_true, decide_false, Bool.and_true, Bool.and_self, Bool.true_and, Bool.not_true, Bool.not_false, ne_eq, not_true_eq_false, not_false_eq_true, Nat.zero_add, Bool.false_eq_true, and_self, true_and, and_true, m1, m2]) (List.range n) [] [some (.int a), some (.int b), some (.int n), none, some (.int 1), some (.int 1)] ⟨by simp, none, by simp⟩
  obtain ⟨_, j, e'⟩ := h
  subst e'
  simp only [List.nil_append, List.length_range] at e
  simp -implicitDefEqProofs only [d__law_power, g__law_power, xVar_a, xC_a, xBin_a, xUn_a, tOf_a, tTru_a, tNotP_a, tAndP_a, tOrP_a, tyes_a, tno_a, tYesP_a, xNil_a, xCons_a, xTup_a, xLst_a, xAnd_a, xOr_a, xIf_a, xChain_a, oNo_a, oAt_a, xSl_a, xCall_a, xSeq_a, xIt_a, xLc_a, gSet_a, gTupD_a, gsNil_a, gsCons_a, sNop_a, sBrk_a, sCnt_a, sSeq_a, sRet_a, sIf_a, sSet_a, sTgt_a, sAug_a, sApp_a, sExt_a, sPut_a, sPutK_a, pkO_s, sFor_a, sWhile_a, sPar_a, runD_a, b2_s, c2_s, sqO_nx, sqO_rt, sqO_bk, sqO_ct, ifO_t, ifO_f, stO_s, endO_nx, endO_rt, andO_t, andO_f, orO_t, orO_f, chO_s, chP_t, chP_f, slO_s, atO_i, lcO_s, forO_s, gsO_s, nxO_s, tgO_s, paO_s, apO_s, exO_s, plO_s, ptO_s, dB_b, tru_b, tru_n, tru_i, tru_l, tru_t, is_n, isn_n, nn_n, nn_i, nn_b, nn_t, nn_l, add_ii, add'_ii, sub_ii, neg_i, lt_ii, le_ii, gt_ii, ge_ii, ix_l, ix_t, ix_s, at0, at1, at2, sl_l, sl_t, len_l, len_t, len_s, abs_i, int_i, int_b, max_ii, min_ii, tup_s, lst_s, seq_l, seq_t, sum_s, wipe_n, wipe_c, mul_ii, fdiv_ii, mod_ii, add_ll, add_tt, setAll, mkT, mkL, oNot, List.getD_cons_zero, List.getD_cons_succ, List.length_cons, List.length_nil, List.set_cons_zero, List.set_cons_succ, List.map_cons, List.map_nil, List.replicate, List.cons_append, List.nil_append, List.append_nil, Option.bind_some, Option.map_some, List.all_cons, List.all_nil, if_true, if_false, reduceIte, Nat.reduceAdd, Nat.reduceSub, Nat.reduceLT, Nat.reduceLeDiff, Nat.reduceEqDiff, decide_true, decide_false, Bool.and_true, Bool.and_self, Bool.true_and, Bool.not_true, Bool.not_false, ne_eq, not_true_eq_false, not_false_eq_true, Nat.zero_add, Bool.false_eq_true, and_self, true_and, and_true, hr, e]
end K32

namespace K32
open PySem PySem.Spec PyProof.Rows L2 Pm
/-! ### day by day -/
def nR (a b : Int) (R : List Int) : List Int := (R.sum * (b - a)) :: R.dropLast.map (· * a)
def nF (a b : Int) (R : List Int) (F : Int) : Int := F * b + R.getLastD 0 * a
def it (a b : Int) (k : Nat) : Nat → List Int × Int
  | 0 => (1 :: List.replicate (k - 1) 0, 0)
  | n + 1 => (nR a b (it a b k n).1, nF a b (it a b k n).1 (it a b k n).2)
structure Good (a b : Int) (k m : Nat) (R : List Int) (F : Int) : Prop where
  len : R.length = k
  pos : ∀ r ∈ R, 0 ≤ r
  fin : 0 ≤ F
  sum : R.sum + F = b ^ m
theorem Good.split {a b : Int} {k m : Nat} {R : List Int} {F : Int} (g : Good a b k m R F) (hk : 1 ≤ k) : ∃ Ri l, R = Ri ++ [l] ∧ (∀ r ∈ Ri, 0 ≤ r) ∧ 0 ≤ l ∧ Ri.sum + l + F = b ^ m ∧ Ri.length + 1 = k := by
  have hne : R ≠ [] := fun e => by have := g.len; rw [e] at this; simp at this; omega
  refine ⟨R.dropLast, R.getLast hne, (List.dropLast_concat_getLast hne).symm, fun r hr => g.pos r (List.dropLast_subset R hr), g.pos _ (List.getLast_mem hne), ?_, ?_⟩
  · have := congrArg List.sum (List.dropLast_concat_getLast hne)
    rw [List.sum_append] at this
    have h := g.sum
    simp at this
    omega
  · rw [List.length_dropLast, g.len]
    omega
theorem nR_app (a b : Int) (Ri : List Int) (l : Int) : nR a b (Ri ++ [l]) = ((Ri.sum + l) * (b - a)) :: Ri.map (· * a) := by
  simp [nR, List.dropLast_concat]
theorem nF_app (a b : Int) (Ri : List Int) (l F : Int) : nF a b (Ri ++ [l]) F = F * b + l * a := by
  simp [nF]
theorem sum_mul (a : Int) : ∀ l : List Int, (l.map (· * a)).sum = l.sum * a
  | [] => by simp
  | x :: l => by
    have := sum_mul a l
    simp [this, Int.add_mul]
theorem good {a b : Int} {k : Nat} (ha : 0 ≤ a) (hab : a ≤ b) (hk : 1 ≤ k) : ∀ m, Good a b k m (it a b k m).1 (it a b k m).2
  | 0 => by
    refine ⟨?_, ?_, ?_, ?_⟩
    · simp [it]; omega
    · intro r hr
      simp only [it, List.mem_cons, List.mem_replicate] at hr
      omega
    · simp [it]
    · have : (List.replicate (k - 1) (0 : Int)).sum = 0 := by
        induction k - 1 with
        | zero => rfl
        | succ n ih => rw [List.replicate_succ, List.sum_cons, ih]; rfl
      simp [it, this]
  | m + 1 => by
    have g := good ha hab hk m
    obtain ⟨Ri, l, e, h1, h2, h3, h4⟩ := g.split hk
    have hi := sum_nonneg h1
    simp only [it, e, nR_app, nF_app]
    refine ⟨?_, ?_, ?_, ?_⟩
    · simp; omega
    · intro r hr
      rcases List.mem_cons.mp hr with h | h
      · subst h; exact Int.mul_nonneg (by omega) (by omega)
      · obtain ⟨x, hx, rfl⟩ := List.mem_map.mp h
        exact Int.mul_nonneg (h1 x hx) ha
    · exact Int.add_nonneg (Int.mul_nonneg g.fin (by omega)) (Int.mul_nonneg h2 ha)
    · rw [List.sum_cons, sum_mul, Int.pow_succ, ← h3]
      grind
theorem sm_pow {c : Int} {j : Nat} (h : Sm j c) : ∀ m : Nat, Sm (j * m) (c ^ m)
  | 0 => by rw [Int.pow_zero]; show (1 : Int).natAbs ≤ 2 ^ (j * 0); simp
  | m + 1 => by rw [Int.pow_succ]; exact ((sm_pow h m).mul h).mono (by rw [Nat.mul_succ]; omega)
theorem day_eq {a b : Int} {k m : Nat} (ha : 0 ≤ a) (hab : a ≤ b) (hb : 0 < b) (hb6 : b ≤ 6) (hk : 1 ≤ k) (hk3 : k ≤ 3) (hm : m ≤ 61) :
    d_next_day [.list ((it a b k m).1.map (fr · (b ^ m))), fr (it a b k m).2 (b ^ m), fr a b] = some (.tuple [.list ((it a b k (m + 1)).1.map (fr · (b ^ (m + 1)))), fr (it a b k (m + 1)).2 (b ^ (m + 1))]) := by
  have g := good ha hab hk m
  obtain ⟨Ri, l, e, h1, h2, h3, h4⟩ := g.split hk
  have bb : Sm 3 b := by unfold Sm; omega
  have ba : Sm 3 a := by unfold Sm; omega
  have hp : 0 < b ^ m := Int.pow_pos hb
  have h := next_day_eq Ri l (it a b k m).2 a b (b ^ m) hp hb (ba.mono (by omega)) (bb.mono (by omega)) ((sm_pow bb m).mono (by omega)) h1 h2 g.fin h3 (by omega)
  rw [← e] at h
  rw [h, ← Int.pow_succ]
  simp only [it, e, nR_app, nF_app]
theorem start_eq (a b : Int) (k : Nat) : (it a b k 0).1.map (fr · (b ^ 0)) = fr 1 1 :: List.replicate (k - 1) (fr 0 1) := by
  simp [it]
theorem rep1 (x : D) (k : Nat) (hk : 1 ≤ k) (hk3 : k ≤ 3) : oMul' (.list [x]) (.int ((k : Int) - 1)) = some (.list (List.replicate (k - 1) x)) := by
  have e : ((k : Int) - 1).toNat = k - 1 := by omega
  show (if -(2 ^ 62) ≤ ((k : Int) - 1) ∧ ((k : Int) - 1) < 2 ^ 62 ∧ [x].length * ((k : Int) - 1).toNat ≤ 16777216 then some (PyData.list (List.replicate ((k : Int) - 1).toNat [x]).flatten) else none) = _
  rw [if_pos ⟨by omega, by omega, by simp; omega⟩, e]
  congr 2
  induction k - 1 with
  | zero => rfl
  | succ n ih => simp [List.replicate_succ, ih]
theorem start_add (k : Nat) (hk : 1 ≤ k) (hk3 : k ≤ 3) : oAdd (.list [fr 1 1]) (.list (List.replicate (k - 1) (fr 0 1))) = some (.list (fr 1 1 :: List.replicate (k - 1) (fr 0 1))) := add_ll (by simp; omega)
theorem dry_chance_eq {a b : Int} {k n : Nat} (ha : 0 ≤ a) (hab : a ≤ b) (hb : 0 < b) (hb6 : b ≤ 6) (hk : 1 ≤ k) (hk3 : k ≤ 3) (hn : n ≤ 61) : d_dry_chance [fr a b, .int k, .int n] = some (fr (it a b k n).2 (b ^ n)) := by
  have hr := oR1_nat n (by omega)
  obtain ⟨ρ', e, h⟩ := forL_inv (g := gSet 3) (b := l1_dry_chance) (fun i : Nat => PyData.int (i : Nat))
    (fun pre rest ρ => pre.length + rest.length = n ∧ ∃ j, ρ = [some (fr a b), some (.int k), some (.int n), j, some (.list ((it a b k pre.length).1.map (fr · (b ^ pre.length)))), some (fr (it a b k pre.length).2 (b ^ pre.length))]) (fun pre x rest ρ ⟨hl, j, e⟩ => by
      subst e
      have hd := day_eq (m := pre.length) ha hab hb hb6 hk hk3 (by simp at hl; omega)
      refine ⟨_, [some (fr a b), some (.int k), some (.int n), some (.int x), some (.list ((it a b k (pre.length + 1)).1.map (fr · (b ^ (pre.length + 1))))), some (fr (it a b k (pre.length + 1)).2 (b ^ (pre.length + 1)))], rfl, .inl ?_, by simp at hl ⊢; omega, some (.int x), by simp⟩
      simp -implicitDefEqProofs only [l1_dry_chance, xVar_a, xC_a, xBin_a, xUn_a, tOf_a, tTru_a, tNotP_a, tAndP_a, tOrP_a, tyes_a, tno_a, tYesP_a, xNil_a, xCons_a, xTup_a, xLst_a, xAnd_a, xOr_a, xIf_a, xChain_a, oNo_a, oAt_a, xSl_a, xCall_a, xSeq_a, xIt_a, xLc_a, gSet_a, gTupD_a, gsNil_a, gsCons_a, sNop_a, sBrk_a, sCnt_a, sSeq_a, sRet_a, sIf_a, sSet_a, sTgt_a, sAug_a, sApp_a, sExt_a, sPut_a, sPutK_a, pkO_s, sFor_a, sWhile_a, sPar_a, runD_a, b2_s, c2_s, sqO_nx, sqO_rt, sqO_bk, sqO_ct, ifO_t, ifO_f, stO_s, endO_nx, endO_rt, andO_t, andO_f, orO_t, orO_f, chO_s, chP_t, chP_f, slO_s, atO_i, lcO_s, forO_s, gsO_s, nxO_s, tgO_s, paO_s, apO_s, exO_s, plO_s, ptO_s, dB_b, tru_b, tru_n, tru_i, tru_l, tru_t, is_n, isn_n, nn_n, nn_i, nn_b, nn_t, nn_l, add_ii, add'_ii, sub_ii, neg_i, lt_ii, le_ii, gt_ii, ge_ii, ix_l, ix_t, ix_s, at0, at1, at2, sl_l, sl_t, len_l, len_t, len_s, abs_i, int_i, int_b, max_ii, min_ii, tup_s, lst_s, seq_l, seq_t, sum_s, wipe_n, wipe_c, mul_ii, fdiv_ii, mod_ii, add_ll, add_tt, setAll, mkT, mkL, oNot, List.getD_cons_zero, List.getD_cons_succ, List.length_cons, List.length_nil, List.set_cons_zero, List.set_cons_succ, List.map_cons, List.map_nil, List.replicate, List.cons_append, List.nil_append, List.append_nil, Option.bind_some, Option.map_some, List.all_cons, List.all_nil, if_true, if_false, reduceIte, Nat.reduceAdd, Nat.reduceSub, Nat.reduceLT, Nat.reduceLeDiff, Nat.reduceEqDiff, decide_true, decide_false, Bool.and_true, Bool.and_self, Bool.true_and, Bool.not_true, Bool.not_false, ne_eq, not_true_eq_false, not_false_eq_true, Nat.zero_add, Bool.false_eq_true, and_self, true_and, and_true, hd]) (List.range n) [] [some (fr a b), some (.int k), some (.int n), none, some (.list (fr 1 1 :: List.replicate (k - 1) (fr 0 1))), some (fr 0 1)] ⟨by simp, none, by rw [List.length_nil, start_eq, Int.pow_zero]; rfl⟩
  obtain ⟨_, j, e'⟩ := h
  subst e'
  simp only [List.nil_append, List.length_range] at e
  have e2 := rep1 (fr 0 1) k hk hk3
  have e3 := start_add k hk hk3
  simp -implicitDefEqProofs only [d_dry_chance, g_dry_chance, xVar_a, xC_a, xBin_a, xUn_a, tOf_a, tTru_a, tNotP_a, tAndP_a, tOrP_a, tyes_a, tno_a, tYesP_a, xNil_a, xCons_a, xTup_a, xLst_a, xAnd_a, xOr_a, xIf_a, xChain_a, oNo_a, oAt_a, xSl_a, xCall_a, xSeq_a, xIt_a, xLc_a, gSet_a, gTupD_a, gsNil_a, gsCons_a, sNop_a, sBrk_a, sCnt_a, sSeq_a, sRet_a, sIf_a, sSet_a, sTgt_a, sAug_a, sApp_a, sExt_a, sPut_a, sPutK_a, pkO_s, sFor_a, sWhile_a, sPar_a, runD_a, b2_s, c2_s, sqO_nx, sqO_rt, sqO_bk, sqO_ct, ifO_t, ifO_f, stO_s, endO_nx, endO_rt, andO_t, andO_f, orO_t, orO_f, chO_s, chP_t, chP_f, slO_s, atO_i, lcO_s, forO_s, gsO_s, nxO_s, tgO_s, paO_s, apO_s, exO_s, plO_s, ptO_s, dB_b, tru_b, tru_n, tru_i, tru_l, tru_t, is_n, isn_n, nn_n, nn_i, nn_b, nn_t, nn_l, add_ii, add'_ii, sub_ii, neg_i, lt_ii, le_ii, gt_ii, ge_ii, ix_l, ix_t, ix_s, at0, at1, at2, sl_l, sl_t, len_l, len_t, len_s, abs_i, int_i, int_b, max_ii, min_ii, tup_s, lst_s, seq_l, seq_t, sum_s, wipe_n, wipe_c, mul_ii, fdiv_ii, mod_ii, add_ll, add_tt, setAll, mkT, mkL, oNot, List.getD_cons_zero, List.getD_cons_succ, List.length_cons, List.length_nil, List.set_cons_zero, List.set_cons_succ, List.map_cons, List.map_nil, List.replicate, List.cons_append, List.nil_append, List.append_nil, Option.bind_some, Option.map_some, List.all_cons, List.all_nil, if_true, if_false, reduceIte, Nat.reduceAdd, Nat.reduceSub, Nat.reduceLT, Nat.reduceLeDiff, Nat.reduceEqDiff, decide_true, decide_false, Bool.and_true, Bool.and_self, Bool.true_and, Bool.not_true, Bool.not_false, ne_eq, not_true_eq_false, not_false_eq_true, Nat.zero_add, Bool.false_eq_true, and_self, true_and, and_true, hr, whole_eq, e2, e3, e]
/-! ### the days that a chance asks -/
def ffD (P : Nat → Bool) (n : Nat) : D := match (List.range n).find? P with
  | some m => .int (m : Nat)
  | none => .none
theorem days_for_eq {a b p q : Int} {k : Nat} (ha : 0 ≤ a) (hab : a ≤ b) (hb : 0 < b) (hb6 : b ≤ 6) (hk : 1 ≤ k) (hk3 : k ≤ 3) (hq : 0 < q) (bp : Sm 10 p) (bq : Sm 10 q) :
    d_days_for [fr a b, .int k, fr p q] = some (ffD (fun m => !decide ((it a b k m).2 * q < p * b ^ m)) 61) := by
  have hr := oR1_nat 61 (by omega)
  have bb : Sm 3 b := by unfold Sm; omega
  have hl : ∀ m : Nat, m ≤ 61 → d_is_less [fr (it a b k m).2 (b ^ m), fr p q] = some (.bool (decide ((it a b k m).2 * q < p * b ^ m))) := fun m hm => by
    have g := good ha hab hk m
    have h1 := sum_nonneg g.pos
    have hF : (it a b k m).2 ≤ b ^ m := by have := g.sum; omega
    have hp : 0 < b ^ m := Int.pow_pos hb
    have sb := sm_pow bb m
    have sF : Sm (3 * m) (it a b k m).2 := Sm.of_le g.fin (Int.le_trans hF (Sm.int (by omega) sb))
    exact is_less_eq hp hq (sF.mono (by omega)) (sb.mono (by omega)) (bp.mono (by omega)) (bq.mono (by omega))
  have key := forL_inv' (g := gSet 3) (b := l1_days_for) (fun i : Nat => PyData.int (i : Nat))
    (fun pre rest ρ => pre ++ rest = List.range 61 ∧ pre.find? (fun m => !decide ((it a b k m).2 * q < p * b ^ m)) = none ∧ ∃ j, ρ = [some (fr a b), some (.int k), some (fr p q), j, some (.list ((it a b k pre.length).1.map (fr · (b ^ pre.length)))), some (fr (it a b k pre.length).2 (b ^ pre.length))])
    (fun d => d = ffD (fun m => !decide ((it a b k m).2 * q < p * b ^ m)) 61) (fun pre x rest ρ ⟨hp, hf, j, e⟩ => by
      subst e
      have hlen : pre.length + (rest.length + 1) = 61 := by
        have := congrArg List.length hp
        simpa using this
      have hx : x = pre.length := by
        have h1 : (pre ++ x :: rest)[pre.length]? = some x := by simp
        rw [hp, List.getElem?_range (by omega)] at h1
        exact (Option.some.inj h1).symm
      subst hx
      have hd := day_eq (m := pre.length) ha hab hb hb6 hk hk3 (by omega)
      have hi := hl pre.length (by omega)
      refine ⟨_, rfl, ?_⟩
      by_cases hc : (it a b k pre.length).2 * q < p * b ^ pre.length
      · refine .inl ⟨[some (fr a b), some (.int k), some (fr p q), some (.int pre.length), some (.list ((it a b k (pre.length + 1)).1.map (fr · (b ^ (pre.length + 1))))), some (fr (it a b k (pre.length + 1)).2 (b ^ (pre.length + 1)))], .inl ?_, by rw [List.append_assoc]; exact hp, ?_, some (.int pre.length), by simp⟩
        · simp -implicitDefEqProofs only [l1_days_for, xVar_a, xC_a, xBin_a, xUn_a, tOf_a, tTru_a, tNotP_a, tAndP_a, tOrP_a, tyes_a, tno_a, tYesP_a, xNil_a, xCons_a, xTup_a, xLst_a, xAnd_a, xOr_a, xIf_a, xChain_a, oNo_a, oAt_a, xSl_a, xCall_a, xSeq_a, xIt_a, xLc_a, gSet_a, gTupD_a, gsNil_a, gsCons_a, sNop_a, sBrk_a, sCnt_a, sSeq_a, sRet_a, sIf_a, sSet_a, sTgt_a, sAug_a, sApp_a, sExt_a, sPut_a, sPutK_a, pkO_s, sFor_a, sWhile_a, sPar_a, runD_a, b2_s, c2_s, sqO_nx, sqO_rt, sqO_bk, sqO_ct, ifO_t, ifO_f, stO_s, endO_nx, endO_rt, andO_t, andO_f, orO_t, orO_f, chO_s, chP_t, chP_f, slO_s, atO_i, lcO_s, forO_s, gsO_s, nxO_s, tgO_s, paO_s, apO_s, exO_s, plO_s, ptO_s, dB_b, tru_b, tru_n, tru_i, tru_l, tru_t, is_n, isn_n, nn_n, nn_i, nn_b, nn_t, nn_l, add_ii, add'_ii, sub_ii, neg_i, lt_ii, le_ii, gt_ii, ge_ii, ix_l, ix_t, ix_s, at0, at1, at2, sl_l, sl_t, len_l, len_t, len_s, abs_i, int_i, int_b, max_ii, min_ii, tup_s, lst_s, seq_l, seq_t, sum_s, wipe_n, wipe_c, mul_ii, fdiv_ii, mod_ii, add_ll, add_tt, setAll, mkT, mkL, oNot, List.getD_cons_zero, List.getD_cons_succ, List.length_cons, List.length_nil, List.set_cons_zero, List.set_cons_succ, List.map_cons, List.map_nil, List.replicate, List.cons_append, List.nil_append, List.append_nil, Option.bind_some, Option.map_some, List.all_cons, List.all_nil, if_true, if_false, reduceIte, Nat.reduceAdd, Nat.reduceSub, Nat.reduceLT, Nat.reduceLeDiff, Nat.reduceEqDiff, decide_true, decide_false, Bool.and_true, Bool.and_self, Bool.true_and, Bool.not_true, Bool.not_false, ne_eq, not_true_eq_false, not_false_eq_true, Nat.zero_add, Bool.false_eq_true, and_self, true_and, and_true, hi, hc, hd]
        · rw [List.find?_append, hf]
          simp [hc]
      · refine .inr ⟨.int pre.length, ?_, ?_⟩
        · simp -implicitDefEqProofs only [l1_days_for, xVar_a, xC_a, xBin_a, xUn_a, tOf_a, tTru_a, tNotP_a, tAndP_a, tOrP_a, tyes_a, tno_a, tYesP_a, xNil_a, xCons_a, xTup_a, xLst_a, xAnd_a, xOr_a, xIf_a, xChain_a, oNo_a, oAt_a, xSl_a, xCall_a, xSeq_a, xIt_a, xLc_a, gSet_a, gTupD_a, gsNil_a, gsCons_a, sNop_a, sBrk_a, sCnt_a, sSeq_a, sRet_a, sIf_a, sSet_a, sTgt_a, sAug_a, sApp_a, sExt_a, sPut_a, sPutK_a, pkO_s, sFor_a, sWhile_a, sPar_a, runD_a, b2_s, c2_s, sqO_nx, sqO_rt, sqO_bk, sqO_ct, ifO_t, ifO_f, stO_s, endO_nx, endO_rt, andO_t, andO_f, orO_t, orO_f, chO_s, chP_t, chP_f, slO_s, atO_i, lcO_s, forO_s, gsO_s, nxO_s, tgO_s, paO_s, apO_s, exO_s, plO_s, ptO_s, dB_b, tru_b, tru_n, tru_i, tru_l, tru_t, is_n, isn_n, nn_n, nn_i, nn_b, nn_t, nn_l, add_ii, add'_ii, sub_ii, neg_i, lt_ii, le_ii, gt_ii, ge_ii, ix_l, ix_t, ix_s, at0, at1, at2, sl_l, sl_t, len_l, len_t, len_s, abs_i, int_i, int_b, max_ii, min_ii, tup_s, lst_s, seq_l, seq_t, sum_s, wipe_n, wipe_c, mul_ii, fdiv_ii, mod_ii, add_ll, add_tt, setAll, mkT, mkL, oNot, List.getD_cons_zero, List.getD_cons_succ, List.length_cons, List.length_nil, List.set_cons_zero, List.set_cons_succ, List.map_cons, List.map_nil, List.replicate, List.cons_append, List.nil_append, List.append_nil, Option.bind_some, Option.map_some, List.all_cons, List.all_nil, if_true, if_false, reduceIte, Nat.reduceAdd, Nat.reduceSub, Nat.reduceLT, Nat.reduceLeDiff, Nat.reduceEqDiff, decide_true, decide_false, Bool.and_true, Bool.and_self, Bool.true_and, Bool.not_true, Bool.not_false, ne_eq, not_true_eq_false, not_false_eq_true, Nat.zero_add, Bool.false_eq_true, and_self, true_and, and_true, hi, hc]
        · unfold ffD
          rw [← hp, List.find?_append, hf]
          simp [hc]) (List.range 61) [] [some (fr a b), some (.int k), some (fr p q), none, some (.list (fr 1 1 :: List.replicate (k - 1) (fr 0 1))), some (fr 0 1)] ⟨by simp, rfl, none, by rw [List.length_nil, start_eq, Int.pow_zero]; rfl⟩
  have e2 := rep1 (fr 0 1) k hk hk3
  have e3 := start_add k hk hk3
  have hr' : oR1 [.int 61] = some (List.map (fun i => PyData.int (i : Nat)) (List.range 61)) := hr
  rcases key with ⟨ρ', e, _, hf, j, e'⟩ | ⟨d, e, hd⟩
  · subst e'
    have : ffD (fun m => !decide ((it a b k m).2 * q < p * b ^ m)) 61 = .none := by
      unfold ffD
      rw [List.nil_append] at hf
      rw [hf]
    rw [this]
    simp -implicitDefEqProofs only [d_days_for, g_days_for, xVar_a, xC_a, xBin_a, xUn_a, tOf_a, tTru_a, tNotP_a, tAndP_a, tOrP_a, tyes_a, tno_a, tYesP_a, xNil_a, xCons_a, xTup_a, xLst_a, xAnd_a, xOr_a, xIf_a, xChain_a, oNo_a, oAt_a, xSl_a, xCall_a, xSeq_a, xIt_a, xLc_a, gSet_a, gTupD_a, gsNil_a, gsCons_a, sNop_a, sBrk_a, sCnt_a, sSeq_a, sRet_a, sIf_a, sSet_a, sTgt_a, sAug_a, sApp_a, sExt_a, sPut_a, sPutK_a, pkO_s, sFor_a, sWhile_a, sPar_a, runD_a, b2_s, c2_s, sqO_nx, sqO_rt, sqO_bk, sqO_ct, ifO_t, ifO_f, stO_s, endO_nx, endO_rt, andO_t, andO_f, orO_t, orO_f, chO_s, chP_t, chP_f, slO_s, atO_i, lcO_s, forO_s, gsO_s, nxO_s, tgO_s, paO_s, apO_s, exO_s, plO_s, ptO_s, dB_b, tru_b, tru_n, tru_i, tru_l, tru_t, is_n, isn_n, nn_n, nn_i, nn_b, nn_t, nn_l, add_ii, add'_ii, sub_ii, neg_i, lt_ii, le_ii, gt_ii, ge_ii, ix_l, ix_t, ix_s, at0, at1, at2, sl_l, sl_t, len_l, len_t, len_s, abs_i, int_i, int_b, max_ii, min_ii, tup_s, lst_s, seq_l, seq_t, sum_s, wipe_n, wipe_c, mul_ii, fdiv_ii, mod_ii, add_ll, add_tt, setAll, mkT, mkL, oNot, List.getD_cons_zero, List.getD_cons_succ, List.length_cons, List.length_nil, List.set_cons_zero, List.set_cons_succ, List.map_cons, List.map_nil, List.replicate, List.cons_append, List.nil_append, List.append_nil, Option.bind_some, Option.map_some, List.all_cons, List.all_nil, if_true, if_false, reduceIte, Nat.reduceAdd, Nat.reduceSub, Nat.reduceLT, Nat.reduceLeDiff, Nat.reduceEqDiff, decide_true, decide_false, Bool.and_true, Bool.and_self, Bool.true_and, Bool.not_true, Bool.not_false, ne_eq, not_true_eq_false, not_false_eq_true, Nat.zero_add, Bool.false_eq_true, and_self, true_and, and_true, hr', whole_eq, e2, e3, e]
  · subst hd
    simp -implicitDefEqProofs only [d_days_for, g_days_for, xVar_a, xC_a, xBin_a, xUn_a, tOf_a, tTru_a, tNotP_a, tAndP_a, tOrP_a, tyes_a, tno_a, tYesP_a, xNil_a, xCons_a, xTup_a, xLst_a, xAnd_a, xOr_a, xIf_a, xChain_a, oNo_a, oAt_a, xSl_a, xCall_a, xSeq_a, xIt_a, xLc_a, gSet_a, gTupD_a, gsNil_a, gsCons_a, sNop_a, sBrk_a, sCnt_a, sSeq_a, sRet_a, sIf_a, sSet_a, sTgt_a, sAug_a, sApp_a, sExt_a, sPut_a, sPutK_a, pkO_s, sFor_a, sWhile_a, sPar_a, runD_a, b2_s, c2_s, sqO_nx, sqO_rt, sqO_bk, sqO_ct, ifO_t, ifO_f, stO_s, endO_nx, endO_rt, andO_t, andO_f, orO_t, orO_f, chO_s, chP_t, chP_f, slO_s, atO_i, lcO_s, forO_s, gsO_s, nxO_s, tgO_s, paO_s, apO_s, exO_s, plO_s, ptO_s, dB_b, tru_b, tru_n, tru_i, tru_l, tru_t, is_n, isn_n, nn_n, nn_i, nn_b, nn_t, nn_l, add_ii, add'_ii, sub_ii, neg_i, lt_ii, le_ii, gt_ii, ge_ii, ix_l, ix_t, ix_s, at0, at1, at2, sl_l, sl_t, len_l, len_t, len_s, abs_i, int_i, int_b, max_ii, min_ii, tup_s, lst_s, seq_l, seq_t, sum_s, wipe_n, wipe_c, mul_ii, fdiv_ii, mod_ii, add_ll, add_tt, setAll, mkT, mkL, oNot, List.getD_cons_zero, List.getD_cons_succ, List.length_cons, List.length_nil, List.set_cons_zero, List.set_cons_succ, List.map_cons, List.map_nil, List.replicate, List.cons_append, List.nil_append, List.append_nil, Option.bind_some, Option.map_some, List.all_cons, List.all_nil, if_true, if_false, reduceIte, Nat.reduceAdd, Nat.reduceSub, Nat.reduceLT, Nat.reduceLeDiff, Nat.reduceEqDiff, decide_true, decide_false, Bool.and_true, Bool.and_self, Bool.true_and, Bool.not_true, Bool.not_false, ne_eq, not_true_eq_false, not_false_eq_true, Nat.zero_add, Bool.false_eq_true, and_self, true_and, and_true, hr', whole_eq, e2, e3, e]
end K32

namespace K32
open PySem PySem.Spec PyProof.Rows L2 Pm
theorem cut_upto (xs : List D) (n : Nat) : Pm.cutD xs none (some (n : Int)) = xs.take n := by
  unfold Pm.cutD
  rw [HT.sIx_none, List.drop_zero, Nat.sub_zero, HT.sIx_nat]
  rw [← List.take_take, List.take_length]
theorem atI_end {α : Type} (xs : List α) (x : α) : atI (xs ++ [x]) (xs.length : Int) = some x := by
  rw [atI_nat (xs ++ [x]) xs.length (by simp)]
  simp
theorem sum_ints (xs : List Int) : bSum [.list (xs.map PyData.int)] = some (.int xs.sum) := by
  rw [sum_s, seq_l, Option.bind_some, asInts_map]
  rfl
theorem reckoned_eq {a b : Int} {k : Nat} (ha : 0 ≤ a) (hab : a ≤ b) (hb : 0 < b) (hb6 : b ≤ 6) (hk : 1 ≤ k) (hk3 : k ≤ 3) : d__law_reckoned [.int a, .int b, .int k, .int 60] = some (.list ((List.range 61).map fun i => PyData.int (it a b k i).2)) := by
  have hr : oR1 [.int 61] = some (List.map (fun i => PyData.int (i : Nat)) (List.range 61)) := oR1_nat 61 (by omega)
  have bb : Sm 3 b := by unfold Sm; omega
  have ba : Sm 3 a := by unfold Sm; omega
  obtain ⟨ρ', e, h⟩ := forL_inv (g := gSet 4) (b := l1__law_reckoned) (fun i : Nat => PyData.int (i : Nat))
    (fun pre rest ρ => pre.length + rest.length = 61 ∧ ∃ j j2, ρ = [some (.int a), some (.int b), some (.int k), some (.int 60), j, some (.list ((it a b k pre.length).1.map PyData.int)), some (.int (it a b k pre.length).2), some (.list ((List.range pre.length).map fun i => PyData.int (it a b k i).2)), j2, none]) (fun pre x rest ρ ⟨hl, j, j2, e⟩ => by
      subst e
      have hm : pre.length ≤ 60 := by simp at hl; omega
      have g := good ha hab hk pre.length
      obtain ⟨Ri, l, eR, h1, h2, h3, h4⟩ := g.split hk
      have hi := sum_nonneg h1
      have hF := g.fin
      have hpp : 0 < b ^ pre.length := Int.pow_pos hb
      have hb' := Sm.int (by omega) (sm_pow bb pre.length)
      have big : (2 : Int) ^ (3 * pre.length) ≤ 2 ^ 400 := by
        have : (2 : Nat) ^ (3 * pre.length) ≤ 2 ^ 400 := Nat.pow_le_pow_right (by decide) (by omega)
        have := Int.ofNat_le.mpr this
        rw [Int.natCast_pow, Int.natCast_pow] at this
        exact this
      have sm : ∀ x : Int, 0 ≤ x → x ≤ b ^ pre.length → Sm 400 x := fun x q1 q2 => Sm.of_le q1 (by omega)
      have m1 := (sm _ hF (by omega)).mulOk bb (by omega) (by omega)
      have m2 := (sm _ h2 (by omega)).mulOk ba (by omega) (by omega)
      have m3 := (sm (Ri.sum + l) (by omega) (by omega)).mulOk (bb.sub ba) (by omega) (by omega)
      have e1 : (Ri ++ [l]).sum = Ri.sum + l := by simp
      have ek : (k : Int) - 1 = ((Ri.map PyData.int).length : Nat) := by rw [List.length_map]; omega
      have f1 : atI (Ri.map PyData.int ++ [PyData.int l]) ((k : Int) - 1) = some (.int l) := by rw [ek]; exact atI_end _ _
      have f2 : Pm.cutD (Ri.map PyData.int ++ [PyData.int l]) none (some ((k : Int) - 1)) = Ri.map PyData.int := by rw [ek, cut_upto, List.take_left']; rfl
      have f3 : bSum [.list (Ri.map PyData.int ++ [PyData.int l])] = some (.int (Ri.sum + l)) := by
        have := sum_ints (Ri ++ [l])
        rwa [List.map_append, e1] at this
      have f4 : ∀ ρ : PEnv, ρ.length = 10 → ρ.getD 0 none = some (.int a) → lcL (gSet 9) tYesP (xBin oMul' (xVar 9) (xVar 0)) ρ (Ri.map PyData.int) = some (Ri.map fun r => PyData.int (r * a)) := fun ρ hl h0 => by
        refine lcL_map _ _ _ fun r hr => ?_
        have := mem_le_sum h1 r hr
        have m4 := (sm r (h1 r hr) (by omega)).mulOk ba (by omega) (by omega)
        have q9 : (ρ.set 9 (some (PyData.int r))).getD 9 none = some (.int r) := by simp [hl]
        have q0 : (ρ.set 9 (some (PyData.int r))).getD 0 none = some (.int a) := by rw [← h0]; simp
        simp -implicitDefEqProofs only [xVar_a, xC_a, xBin_a, xUn_a, tOf_a, tTru_a, tNotP_a, tAndP_a, tOrP_a, tyes_a, tno_a, tYesP_a, xNil_a, xCons_a, xTup_a, xLst_a, xAnd_a, xOr_a, xIf_a, xChain_a, oNo_a, oAt_a, xSl_a, xCall_a, xSeq_a, xIt_a, xLc_a, gSet_a, gTupD_a, gsNil_a, gsCons_a, sNop_a, sBrk_a, sCnt_a, sSeq_a, sRet_a, sIf_a, sSet_a, sTgt_a, sAug_a, sApp_a, sExt_a, sPut_a, sPutK_a, pkO_s, sFor_a, sWhile_a, sPar_a, runD_a, b2_s, c2_s, sqO_nx, sqO_rt, sqO_bk, sqO_ct, ifO_t, ifO_f, stO_s, endO_nx, endO_rt, andO_t, andO_f, orO_t, orO_f, chO_s, chP_t, chP_f, slO_s, atO_i, lcO_s, forO_s, gsO_s, nxO_s, tgO_s, paO_s, apO_s, exO_s, plO_s, ptO_s, dB_b, tru_b, tru_n, tru_i, tru_l, tru_t, is_n, isn_n, nn_n, nn_i, nn_b, nn_t, nn_l, add_ii, add'_ii, sub_ii, neg_i, lt_ii, le_ii, gt_ii, ge_ii, ix_l, ix_t, ix_s, at0, at1, at2, sl_l, sl_t, len_l, len_t, len_s, abs_i, int_i, int_b, max_ii, min_ii, tup_s, lst_s, seq_l, seq_t, sum_s, wipe_n, wipe_c, mul_ii, fdiv_ii, mod_ii, add_ll, add_tt, setAll, mkT, mkL, oNot, List.getD_cons_zero, List.getD_cons_succ, List.length_cons, List.length_nil, List.set_cons_zero, List.set_cons_succ, List.map_cons, List.map_nil, List.replicate, List.cons_append, List.nil_append, List.append_nil, Option.bind_some, Option.map_some, List.all_cons, List.all_nil, if_true, if_false, reduceIte, Nat.reduceAdd, Nat.reduceSub, Nat.reduceLT, Nat.reduceLeDiff, Nat.reduceEqDiff, decide_true, decide_false, Bool.and_true, Bool.and_self, Bool.true_and, Bool.not_true, Bool.not_false, ne_eq, not_true_eq_false, not_false_eq_true, Nat.zero_add, Bool.false_eq_true, and_self, true_and, and_true, hl, q9, q0, m4]
      have f5 : oAdd (.list [.int ((Ri.sum + l) * (b - a))]) (.list (Ri.map fun r => PyData.int (r * a))) = some (.list (.int ((Ri.sum + l) * (b - a)) :: Ri.map fun r => PyData.int (r * a))) := add_ll (by simp; omega)
      have f6 : (List.range pre.length).length < 16777216 := by rw [List.length_range]; omega
      refine ⟨_, [some (.int a), some (.int b), some (.int k), some (.int 60), some (.int x), some (.list ((it a b k (pre.length + 1)).1.map PyData.int)), some (.int (it a b k (pre.length + 1)).2), some (.list ((List.range (pre.length + 1)).map fun i => PyData.int (it a b k i).2)), some (.int (Ri.sum + l)), none], rfl, .inl ?_, by simp at hl ⊢; omega, some (.int x), some (.int (Ri.sum + l)), by simp⟩
      have g1 : (it a b k (pre.length + 1)).1 = ((Ri.sum + l) * (b - a)) :: Ri.map (· * a) := by simp only [it, eR, nR_app]
      have g2 : (it a b k (pre.length + 1)).2 = (it a b k pre.length).2 * b + l * a := by simp only [it, eR, nF_app]
      rw [g1, g2, eR, List.map_append, List.range_succ]
      simp -implicitDefEqProofs only [l1__law_reckoned, xVar_a, xC_a, xBin_a, xUn_a, tOf_a, tTru_a, tNotP_a, tAndP_a, tOrP_a, tyes_a, tno_a, tYesP_a, xNil_a, xCons_a, xTup_a, xLst_a, xAnd_a, xOr_a, xIf_a, xChain_a, oNo_a, oAt_a, xSl_a, xCall_a, xSeq_a, xIt_a, xLc_a, gSet_a, gTupD_a, gsNil_a, gsCons_a, sNop_a, sBrk_a, sCnt_a, sSeq_a, sRet_a, sIf_a, sSet_a, sTgt_a, sAug_a, sApp_a, sExt_a, sPut_a, sPutK_a, pkO_s, sFor_a, sWhile_a, sPar_a, runD_a, b2_s, c2_s, sqO_nx, sqO_rt, sqO_bk, sqO_ct, ifO_t, ifO_f, stO_s, endO_nx, endO_rt, andO_t, andO_f, orO_t, orO_f, chO_s, chP_t, chP_f, slO_s, atO_i, lcO_s, forO_s, gsO_s, nxO_s, tgO_s, paO_s, apO_s, exO_s, plO_s, ptO_s, dB_b, tru_b, tru_n, tru_i, tru_l, tru_t, is_n, isn_n, nn_n, nn_i, nn_b, nn_t, nn_l, add_ii, add'_ii, sub_ii, neg_i, lt_ii, le_ii, gt_ii, ge_ii, ix_l, ix_t, ix_s, at0, at1, at2, sl_l, sl_t, len_l, len_t, len_s, abs_i, int_i, int_b, max_ii, min_ii, tup_s, lst_s, seq_l, seq_t, sum_s, wipe_n, wipe_c, mul_ii, fdiv_ii, mod_ii, add_ll, add_tt, setAll, mkT, mkL, oNot, List.getD_cons_zero, List.getD_cons_succ, List.length_cons, List.length_nil, List.set_cons_zero, List.set_cons_succ, List.map_cons, List.map_nil, List.replicate, List.cons_append, List.nil_append, List.append_nil, Option.bind_some, Option.map_some, List.all_cons, List.all_nil, if_true, if_false, reduceIte, Nat.reduceAdd, Nat.reduceSub, Nat.reduceLT, Nat.reduceLeDiff, Nat.reduceEqDiff, decide_true, decide_false, Bool.and_true, Bool.and_self, Bool.true_and, Bool.not_true, Bool.not_false, ne_eq, not_true_eq_false, not_false_eq_true, Nat.zero_add, Bool.false_eq_true, and_self, true_and, and_true, f3, m1, m2, m3, f1, f2, f4, f5, List.length_map, f6, List.map_append, List.map_map, Function.comp_def]) (List.range 61) [] [some (.int a), some (.int b), some (.int k), some (.int 60), none, some (.list (.int 1 :: List.replicate (k - 1) (.int 0))), some (.int 0), some (.list []), none, none] ⟨by simp, none, none, by simp [it]⟩
  obtain ⟨_, j, j2, e'⟩ := h
  subst e'
  have e2 := rep1 (.int 0) k hk hk3
  have e3 : oAdd (.list [.int 1]) (.list (List.replicate (k - 1) (.int 0))) = some (.list (.int 1 :: List.replicate (k - 1) (.int 0))) := add_ll (by simp; omega)
  have e4 : (60 : Int) + 1 = 61 := rfl
  simp only [List.nil_append, List.length_range] at e
  simp -implicitDefEqProofs only [d__law_reckoned, g__law_reckoned, xVar_a, xC_a, xBin_a, xUn_a, tOf_a, tTru_a, tNotP_a, tAndP_a, tOrP_a, tyes_a, tno_a, tYesP_a, xNil_a, xCons_a, xTup_a, xLst_a, xAnd_a, xOr_a, xIf_a, xChain_a, oNo_a, oAt_a, xSl_a, xCall_a, xSeq_a, xIt_a, xLc_a, gSet_a, gTupD_a, gsNil_a, gsCons_a, sNop_a, sBrk_a, sCnt_a, sSeq_a, sRet_a, sIf_a, sSet_a, sTgt_a, sAug_a, sApp_a, sExt_a, sPut_a, sPutK_a, pkO_s, sFor_a, sWhile_a, sPar_a, runD_a, b2_s, c2_s, sqO_nx, sqO_rt, sqO_bk, sqO_ct, ifO_t, ifO_f, stO_s, endO_nx, endO_rt, andO_t, andO_f, orO_t, orO_f, chO_s, chP_t, chP_f, slO_s, atO_i, lcO_s, forO_s, gsO_s, nxO_s, tgO_s, paO_s, apO_s, exO_s, plO_s, ptO_s, dB_b, tru_b, tru_n, tru_i, tru_l, tru_t, is_n, isn_n, nn_n, nn_i, nn_b, nn_t, nn_l, add_ii, add'_ii, sub_ii, neg_i, lt_ii, le_ii, gt_ii, ge_ii, ix_l, ix_t, ix_s, at0, at1, at2, sl_l, sl_t, len_l, len_t, len_s, abs_i, int_i, int_b, max_ii, min_ii, tup_s, lst_s, seq_l, seq_t, sum_s, wipe_n, wipe_c, mul_ii, fdiv_ii, mod_ii, add_ll, add_tt, setAll, mkT, mkL, oNot, List.getD_cons_zero, List.getD_cons_succ, List.length_cons, List.length_nil, List.set_cons_zero, List.set_cons_succ, List.map_cons, List.map_nil, List.replicate, List.cons_append, List.nil_append, List.append_nil, Option.bind_some, Option.map_some, List.all_cons, List.all_nil, if_true, if_false, reduceIte, Nat.reduceAdd, Nat.reduceSub, Nat.reduceLT, Nat.reduceLeDiff, Nat.reduceEqDiff, decide_true, decide_false, Bool.and_true, Bool.and_self, Bool.true_and, Bool.not_true, Bool.not_false, ne_eq, not_true_eq_false, not_false_eq_true, Nat.zero_add, Bool.false_eq_true, and_self, true_and, and_true, hr, e2, e3, e4, e]
end K32

namespace K32
open PySem PySem.Spec PyProof.Rows L2 Pm
/-- b / a + .. + (b / a)^m, over a^m -/
def mS (a b : Int) : Nat → Int
  | 0 => 0
  | m + 1 => mS a b m * a + b ^ (m + 1)
theorem fr_swap {a b : Int} (ha : 0 < a) (hb : 0 < b) : ∃ a' b' : Int, fr a b = .tuple [.int a', .int b'] ∧ fr b a = .tuple [.int b', .int a'] := by
  refine ⟨_, _, rfl, ?_⟩
  unfold fr
  rw [Int.gcd_comm b a]
theorem mS_sm {a b : Int} (h1 : Sm 3 a) (h2 : Sm 3 b) : ∀ m : Nat, Sm (4 * m) (mS a b m)
  | 0 => Sm.zero
  | m + 1 => by
    have := ((mS_sm h1 h2 m).mul h1).mono (k := 4 * m + 3) (by omega)
    have h := ((sm_pow h2 (m + 1)).mono (k := 4 * m + 3) (by omega))
    exact (this.add h).mono (by omega)
theorem mean_wait_eq {a b : Int} {k : Nat} (ha : 0 < a) (hb : 0 < b) (h1 : Sm 3 a) (h2 : Sm 3 b) (hk : k ≤ 3) : d_mean_wait [fr a b, .int k] = some (fr (mS a b k) (a ^ k)) := by
  have hr := oR1_nat k (by omega)
  obtain ⟨a', b', s1, s2⟩ := fr_swap ha hb
  obtain ⟨ρ', e, h⟩ := forL_inv (g := gSet 2) (b := l1_mean_wait) (fun i : Nat => PyData.int (i : Nat))
    (fun pre rest ρ => pre.length + rest.length = k ∧ ∃ j, ρ = [some (fr a b), some (.int k), j, some (fr (mS a b pre.length) (a ^ pre.length)), some (fr (b ^ pre.length) (a ^ pre.length))]) (fun pre x rest ρ ⟨hl, j, e⟩ => by
      subst e
      have hm : pre.length ≤ 3 := by simp at hl; omega
      have pa : 0 < a ^ pre.length := Int.pow_pos ha
      have pa' : 0 < a ^ (pre.length + 1) := Int.pow_pos ha
      have t := times_eq (p := b ^ pre.length) (q := a ^ pre.length) (r := b) (s := a) pa ha ((sm_pow h2 _).mono (by omega)) ((sm_pow h1 _).mono (by omega)) (h2.mono (by omega)) (h1.mono (by omega))
      rw [← Int.pow_succ, ← Int.pow_succ, s2] at t
      have u := plus_eq (p := mS a b pre.length) (q := a ^ pre.length) (r := b ^ (pre.length + 1)) (s := a ^ (pre.length + 1)) pa pa' ((mS_sm h1 h2 _).mono (by omega)) ((sm_pow h1 _).mono (by omega)) ((sm_pow h2 _).mono (by omega)) ((sm_pow h1 _).mono (by omega))
      rw [fr_eq (r := mS a b (pre.length + 1)) (s := a ^ (pre.length + 1)) (Int.mul_pos pa pa') pa' (by simp only [mS, Int.pow_succ]; grind)] at u
      refine ⟨_, [some (fr a b), some (.int k), some (.int x), some (fr (mS a b (pre.length + 1)) (a ^ (pre.length + 1))), some (fr (b ^ (pre.length + 1)) (a ^ (pre.length + 1)))], rfl, .inl ?_, by simp at hl ⊢; omega, some (.int x), by simp⟩
      have i0 : oIx (fr a b) (.int 0) = some (.int a') := by rw [s1]; rfl
      have i1 : oIx (fr a b) (.int 1) = some (.int b') := by rw [s1]; rfl
      simp -implicitDefEqProofs only [l1_mean_wait, xVar_a, xC_a, xBin_a, xUn_a, tOf_a, tTru_a, tNotP_a, tAndP_a, tOrP_a, tyes_a, tno_a, tYesP_a, xNil_a, xCons_a, xTup_a, xLst_a, xAnd_a, xOr_a, xIf_a, xChain_a, oNo_a, oAt_a, xSl_a, xCall_a, xSeq_a, xIt_a, xLc_a, gSet_a, gTupD_a, gsNil_a, gsCons_a, sNop_a, sBrk_a, sCnt_a, sSeq_a, sRet_a, sIf_a, sSet_a, sTgt_a, sAug_a, sApp_a, sExt_a, sPut_a, sPutK_a, pkO_s, sFor_a, sWhile_a, sPar_a, runD_a, b2_s, c2_s, sqO_nx, sqO_rt, sqO_bk, sqO_ct, ifO_t, ifO_f, stO_s, endO_nx, endO_rt, andO_t, andO_f, orO_t, orO_f, chO_s, chP_t, chP_f, slO_s, atO_i, lcO_s, forO_s, gsO_s, nxO_s, tgO_s, paO_s, apO_s, exO_s, plO_s, ptO_s, dB_b, tru_b, tru_n, tru_i, tru_l, tru_t, is_n, isn_n, nn_n, nn_i, nn_b, nn_t, nn_l, add_ii, add'_ii, sub_ii, neg_i, lt_ii, le_ii, gt_ii, ge_ii, ix_l, ix_t, ix_s, at0, at1, at2, sl_l, sl_t, len_l, len_t, len_s, abs_i, int_i, int_b, max_ii, min_ii, tup_s, lst_s, seq_l, seq_t, sum_s, wipe_n, wipe_c, mul_ii, fdiv_ii, mod_ii, add_ll, add_tt, setAll, mkT, mkL, oNot, List.getD_cons_zero, List.getD_cons_succ, List.length_cons, List.length_nil, List.set_cons_zero, List.set_cons_succ, List.map_cons, List.map_nil, List.replicate, List.cons_append, List.nil_append, List.append_nil, Option.bind_some, Option.map_some, List.all_cons, List.all_nil, if_true, if_false, reduceIte, Nat.reduceAdd, Nat.reduceSub, Nat.reduceLT, Nat.reduceLeDiff, Nat.reduceEqDiff, decide_true, decide_false, Bool.and_true, Bool.and_self, Bool.true_and, Bool.not_true, Bool.not_false, ne_eq, not_true_eq_false, not_false_eq_true, Nat.zero_add, Bool.false_eq_true, and_self, true_and, and_true, i0, i1, t, u]) (List.range k) [] [some (fr a b), some (.int k), none, some (fr 0 1), some (fr 1 1)] ⟨by simp, none, by simp [mS]⟩
  obtain ⟨_, j, e'⟩ := h
  subst e'
  simp only [List.nil_append, List.length_range] at e
  simp -implicitDefEqProofs only [d_mean_wait, g_mean_wait, xVar_a, xC_a, xBin_a, xUn_a, tOf_a, tTru_a, tNotP_a, tAndP_a, tOrP_a, tyes_a, tno_a, tYesP_a, xNil_a, xCons_a, xTup_a, xLst_a, xAnd_a, xOr_a, xIf_a, xChain_a, oNo_a, oAt_a, xSl_a, xCall_a, xSeq_a, xIt_a, xLc_a, gSet_a, gTupD_a, gsNil_a, gsCons_a, sNop_a, sBrk_a, sCnt_a, sSeq_a, sRet_a, sIf_a, sSet_a, sTgt_a, sAug_a, sApp_a, sExt_a, sPut_a, sPutK_a, pkO_s, sFor_a, sWhile_a, sPar_a, runD_a, b2_s, c2_s, sqO_nx, sqO_rt, sqO_bk, sqO_ct, ifO_t, ifO_f, stO_s, endO_nx, endO_rt, andO_t, andO_f, orO_t, orO_f, chO_s, chP_t, chP_f, slO_s, atO_i, lcO_s, forO_s, gsO_s, nxO_s, tgO_s, paO_s, apO_s, exO_s, plO_s, ptO_s, dB_b, tru_b, tru_n, tru_i, tru_l, tru_t, is_n, isn_n, nn_n, nn_i, nn_b, nn_t, nn_l, add_ii, add'_ii, sub_ii, neg_i, lt_ii, le_ii, gt_ii, ge_ii, ix_l, ix_t, ix_s, at0, at1, at2, sl_l, sl_t, len_l, len_t, len_s, abs_i, int_i, int_b, max_ii, min_ii, tup_s, lst_s, seq_l, seq_t, sum_s, wipe_n, wipe_c, mul_ii, fdiv_ii, mod_ii, add_ll, add_tt, setAll, mkT, mkL, oNot, List.getD_cons_zero, List.getD_cons_succ, List.length_cons, List.length_nil, List.set_cons_zero, List.set_cons_succ, List.map_cons, List.map_nil, List.replicate, List.cons_append, List.nil_append, List.append_nil, Option.bind_some, Option.map_some, List.all_cons, List.all_nil, if_true, if_false, reduceIte, Nat.reduceAdd, Nat.reduceSub, Nat.reduceLT, Nat.reduceLeDiff, Nat.reduceEqDiff, decide_true, decide_false, Bool.and_true, Bool.and_self, Bool.true_and, Bool.not_true, Bool.not_false, ne_eq, not_true_eq_false, not_false_eq_true, Nat.zero_add, Bool.false_eq_true, and_self, true_and, and_true, hr, whole_eq, e]
/-- the law's sum of two -/
theorem lsum_eq {p q x y : Int} (hq : 0 < q) (hy : 0 < y) (b1 : Sm 900 p) (b2 : Sm 900 q) (b3 : Sm 60 x) (b4 : Sm 60 y) : d__law_sum [.tuple [fr p q, .tuple [.int x, .int y]]] = some (fr (p * y + x * q) (q * y)) := by
  obtain ⟨p', q', g, e1, rfl, rfl, hg, hq', n1, n2⟩ := fr_parts p hq
  have s1 := b1.le n1
  have s2 := b2.le n2
  have z0 : Sm 10 0 := Sm.zero
  have z1 : Sm 10 1 := Sm.lit
  have m1 := z0.mulOk s2 (by omega) (by omega)
  have m2 := s1.mulOk z1 (by omega) (by omega)
  have m3 := z1.mulOk s2 (by omega) (by omega)
  have m4 := s1.mulOk b4 (by omega) (by omega)
  have m5 := b3.mulOk s2 (by omega) (by omega)
  have m6 := s2.mulOk b4 (by omega) (by omega)
  have hl := ratio_eq (p' * y + x * q') (q' * y) (Int.mul_pos hq' hy) ((s2.mul b4).mono (by omega))
  have hf : fr (p' * g * y + x * (q' * g)) (q' * g * y) = fr (p' * y + x * q') (q' * y) := by
    have a1 : p' * g * y + x * (q' * g) = (p' * y + x * q') * g := by grind
    have a2 : q' * g * y = (q' * y) * g := by grind
    rw [a1, a2, fr_scale (Int.mul_pos hq' hy) hg]
  have zz : ∀ z : Int, 0 * z = 0 := Int.zero_mul
  rw [hf, e1]
  simp -implicitDefEqProofs only [d__law_sum, g__law_sum, l1__law_sum, xVar_a, xC_a, xBin_a, xUn_a, tOf_a, tTru_a, tNotP_a, tAndP_a, tOrP_a, tyes_a, tno_a, tYesP_a, xNil_a, xCons_a, xTup_a, xLst_a, xAnd_a, xOr_a, xIf_a, xChain_a, oNo_a, oAt_a, xSl_a, xCall_a, xSeq_a, xIt_a, xLc_a, gSet_a, gTupD_a, gsNil_a, gsCons_a, sNop_a, sBrk_a, sCnt_a, sSeq_a, sRet_a, sIf_a, sSet_a, sTgt_a, sAug_a, sApp_a, sExt_a, sPut_a, sPutK_a, pkO_s, sFor_a, sWhile_a, sPar_a, runD_a, b2_s, c2_s, sqO_nx, sqO_rt, sqO_bk, sqO_ct, ifO_t, ifO_f, stO_s, endO_nx, endO_rt, andO_t, andO_f, orO_t, orO_f, chO_s, chP_t, chP_f, slO_s, atO_i, lcO_s, forO_s, gsO_s, nxO_s, tgO_s, paO_s, apO_s, exO_s, plO_s, ptO_s, dB_b, tru_b, tru_n, tru_i, tru_l, tru_t, is_n, isn_n, nn_n, nn_i, nn_b, nn_t, nn_l, add_ii, add'_ii, sub_ii, neg_i, lt_ii, le_ii, gt_ii, ge_ii, ix_l, ix_t, ix_s, at0, at1, at2, sl_l, sl_t, len_l, len_t, len_s, abs_i, int_i, int_b, max_ii, min_ii, tup_s, lst_s, seq_l, seq_t, sum_s, wipe_n, wipe_c, mul_ii, fdiv_ii, mod_ii, add_ll, add_tt, setAll, mkT, mkL, oNot, List.getD_cons_zero, List.getD_cons_succ, List.length_cons, List.length_nil, List.set_cons_zero, List.set_cons_succ, List.map_cons, List.map_nil, List.replicate, List.cons_append, List.nil_append, List.append_nil, Option.bind_some, Option.map_some, List.all_cons, List.all_nil, if_true, if_false, reduceIte, Nat.reduceAdd, Nat.reduceSub, Nat.reduceLT, Nat.reduceLeDiff, Nat.reduceEqDiff, decide_true, decide_false, Bool.and_true, Bool.and_self, Bool.true_and, Bool.not_true, Bool.not_false, ne_eq, not_true_eq_false, not_false_eq_true, Nat.zero_add, Bool.false_eq_true, and_self, true_and, and_true, forL, m1, m2, m3, m4, m5, m6, Int.zero_mul, Int.mul_one, Int.one_mul, Int.zero_add, hl]
end K32

namespace K32
open PySem PySem.Spec PyProof.Rows L2 Pm
theorem row_at (r : List Int) (i : Nat) (h : i < r.length) : atI (r.map PyData.int) (i : Int) = some (.int (r.getD i 0)) := by
  rw [atI_nat _ i (by simpa using h)]
  simp [h]
theorem fmod_rng (x : Int) {m : Int} (hm : 0 < m) : 0 ≤ x.fmod m ∧ x.fmod m < m := ⟨Int.fmod_nonneg_of_pos _ hm, Int.fmod_lt_of_pos _ hm⟩
theorem mS_b (a b : Int) : ∀ m, mS a b (m + 1) = (mS a b m + a ^ m) * b
  | 0 => by simp [mS, Int.pow_succ]
  | m + 1 => by
    have h1 := mS_b a b m
    have h2 : mS a b (m + 1) = mS a b m * a + b ^ (m + 1) := rfl
    show mS a b (m + 1) * a + b ^ (m + 1 + 1) = (mS a b (m + 1) + a ^ (m + 1)) * b
    simp only [Int.pow_succ] at *
    grind
theorem like_ff (P : Nat → Bool) (n m : Nat) : d__law_like (m + 1) [ffD P n, ffD P n] = some (.bool true) := by
  unfold ffD
  cases (List.range n).find? P with
  | none => exact like_none _
  | some i => exact like_int _ _
/-- the law's ratio of a fraction's parts, scaled -/
theorem ratio_of_parts {p q b a : Int} (hq : 0 < q) (ha : 0 < a) (s1 : Sm 900 p) (s2 : Sm 900 q) (h1 : Sm 3 a) (h2 : Sm 3 b) : ∃ u v, fr p q = .tuple [.int u, .int v] ∧ mulOk u b = true ∧ mulOk v a = true ∧ d__law_ratio [.int (u * b), .int (v * a)] = some (fr (p * b) (q * a)) := by
  obtain ⟨p', q', g, e1, rfl, rfl, hg, hq', n1, n2⟩ := fr_parts p hq
  refine ⟨p', q', e1, (s1.le n1).mulOk h2 (by omega) (by omega), (s2.le n2).mulOk h1 (by omega) (by omega), ?_⟩
  have hl := ratio_eq (p' * b) (q' * a) (Int.mul_pos hq' ha) (((s2.le n2).mul h1).mono (by omega))
  rw [hl]
  have a1 : p' * g * b = (p' * b) * g := by grind
  have a2 : q' * g * a = (q' * a) * g := by grind
  rw [a1, a2, fr_scale (Int.mul_pos hq' ha) hg]
def findD (P : Nat → Bool) (l : List Nat) : D := match l.find? P with
  | some m => .int (m : Nat)
  | none => .none
theorem ffD_eq (P : Nat → Bool) (n : Nat) : ffD P n = findD P (List.range n) := rfl
theorem days_loop1 {a b p q : Int} {k : Nat} (ha : 0 ≤ a) (hab : a ≤ b) (hb : 0 < b) (hb6 : b ≤ 6) (hk : 1 ≤ k) (hk3 : k ≤ 3) (hq : 0 < q) (bp : Sm 10 p) (bq : Sm 10 q) (row : D) (n : Nat) (hn : n ≤ 61) :
    ∃ j u, forL (gSet 6) l1__law_days ((List.range n).map fun i => PyData.int (i : Nat)) [some (.int a), some (.int b), some (.int k), some row, some (fr p q), some (.int 1), none, none, none, none, none, some (.list ((List.range n).map fun i => PyData.int (it a b k i).2)), some .none, none] =
      some (.nx [some (.int a), some (.int b), some (.int k), some row, some (fr p q), u, j, none, none, none, none, some (.list ((List.range n).map fun i => PyData.int (it a b k i).2)), some (ffD (fun m => !decide ((it a b k m).2 * q < p * b ^ m)) n), none]) := by
  have bb : Sm 3 b := by unfold Sm; omega
  obtain ⟨p', q', g, e1, rfl, rfl, hg, hq', n1, n2⟩ := fr_parts p hq
  obtain ⟨ρ', e, h⟩ := forL_inv (g := gSet 6) (b := l1__law_days) (fun i : Nat => PyData.int (i : Nat))
    (fun pre rest ρ => pre ++ rest = List.range n ∧ ∃ j, ρ = [some (.int a), some (.int b), some (.int k), some row, some (fr (p' * g) (q' * g)), some (.int (b ^ pre.length)), j, none, none, none, none, some (.list ((List.range n).map fun i => PyData.int (it a b k i).2)), some (findD (fun m => !decide ((it a b k m).2 * (q' * g) < p' * g * b ^ m)) pre), none]) (fun pre x rest ρ ⟨hp, j, e⟩ => by
      subst e
      have hlen : pre.length + (rest.length + 1) = n := by
        have := congrArg List.length hp
        simpa using this
      have hx : x = pre.length := by
        have h1 : (pre ++ x :: rest)[pre.length]? = some x := by simp
        rw [hp, List.getElem?_range (by omega)] at h1
        exact (Option.some.inj h1).symm
      subst hx
      have gd := good ha hab hk pre.length
      have h1 := sum_nonneg gd.pos
      have hF : (it a b k pre.length).2 ≤ b ^ pre.length := by have := gd.sum; omega
      have hpp : 0 < b ^ pre.length := Int.pow_pos hb
      have sb := sm_pow bb pre.length
      have sF : Sm (3 * pre.length) (it a b k pre.length).2 := Sm.of_le gd.fin (Int.le_trans hF (Sm.int (by omega) sb))
      have m1 := sF.mulOk (bq.le n2) (by omega) (by omega)
      have m2 := (bp.le n1).mulOk sb (by omega) (by omega)
      have m3 := sb.mulOk bb (by omega) (by omega)
      have i1 : atI ((List.range n).map fun i => PyData.int (it a b k i).2) (pre.length : Int) = some (.int (it a b k pre.length).2) := by
        rw [atI_nat _ _ (by simp; omega)]
        simp
      have hc : decide (p' * b ^ pre.length ≤ (it a b k pre.length).2 * q') = !decide ((it a b k pre.length).2 * (q' * g) < p' * g * b ^ pre.length) := by
        have a1 : (it a b k pre.length).2 * (q' * g) = ((it a b k pre.length).2 * q') * g := by grind
        have a2 : p' * g * b ^ pre.length = (p' * b ^ pre.length) * g := by grind
        rw [a1, a2]
        by_cases hz : (it a b k pre.length).2 * q' < p' * b ^ pre.length
        · rw [decide_eq_false (by omega), decide_eq_true (Int.mul_lt_mul_of_pos_right hz hg)]
          rfl
        · rw [decide_eq_true (by omega), decide_eq_false (Int.not_lt.mpr (Int.mul_le_mul_of_nonneg_right (Int.not_lt.mp hz) (by omega)))]
          rfl
      refine ⟨_, [some (.int a), some (.int b), some (.int k), some row, some (fr (p' * g) (q' * g)), some (.int (b ^ pre.length * b)), some (.int pre.length), none, none, none, none, some (.list ((List.range n).map fun i => PyData.int (it a b k i).2)), some (findD (fun m => !decide ((it a b k m).2 * (q' * g) < p' * g * b ^ m)) (pre ++ [pre.length])), none], rfl, .inl ?_, by rw [List.append_assoc]; exact hp, some (.int pre.length), by simp [Int.pow_succ]⟩
      rw [e1]
      unfold findD
      rw [List.find?_append]
      cases hf : pre.find? (fun m => !decide ((it a b k m).2 * (q' * g) < p' * g * b ^ m)) with
      | some m =>
        simp -implicitDefEqProofs only [l1__law_days, xVar_a, xC_a, xBin_a, xUn_a, tOf_a, tTru_a, tNotP_a, tAndP_a, tOrP_a, tyes_a, tno_a, tYesP_a, xNil_a, xCons_a, xTup_a, xLst_a, xAnd_a, xOr_a, xIf_a, xChain_a, oNo_a, oAt_a, xSl_a, xCall_a, xSeq_a, xIt_a, xLc_a, gSet_a, gTupD_a, gsNil_a, gsCons_a, sNop_a, sBrk_a, sCnt_a, sSeq_a, sRet_a, sIf_a, sSet_a, sTgt_a, sAug_a, sApp_a, sExt_a, sPut_a, sPutK_a, pkO_s, sFor_a, sWhile_a, sPar_a, runD_a, b2_s, c2_s, sqO_nx, sqO_rt, sqO_bk, sqO_ct, ifO_t, ifO_f, stO_s, endO_nx, endO_rt, andO_t, andO_f, orO_t, orO_f, chO_s, chP_t, chP_f, slO_s, atO_i, lcO_s, forO_s, gsO_s, nxO_s, tgO_s, paO_s, apO_s, exO_s, plO_s, ptO_s, dB_b, tru_b, tru_n, tru_i, tru_l, tru_t, is_n, isn_n, nn_n, nn_i, nn_b, nn_t, nn_l, add_ii, add'_ii, sub_ii, neg_i, lt_ii, le_ii, gt_ii, ge_ii, ix_l, ix_t, ix_s, at0, at1, at2, sl_l, sl_t, len_l, len_t, len_s, abs_i, int_i, int_b, max_ii, min_ii, tup_s, lst_s, seq_l, seq_t, sum_s, wipe_n, wipe_c, mul_ii, fdiv_ii, mod_ii, add_ll, add_tt, setAll, mkT, mkL, oNot, List.getD_cons_zero, List.getD_cons_succ, List.length_cons, List.length_nil, List.set_cons_zero, List.set_cons_succ, List.map_cons, List.map_nil, List.replicate, List.cons_append, List.nil_append, List.append_nil, Option.bind_some, Option.map_some, List.all_cons, List.all_nil, if_true, if_false, reduceIte, Nat.reduceAdd, Nat.reduceSub, Nat.reduceLT, Nat.reduceLeDiff, Nat.reduceEqDiff, decide_true, decide_false, Bool.and_true, Bool.and_self, Bool.true_and, Bool.not_true, Bool.not_false, ne_eq, not_true_eq_false, not_false_eq_true, Nat.zero_add, Bool.false_eq_true, and_self, true_and, and_true, m3, Option.some_or]
      | none =>
        by_cases hz : (it a b k pre.length).2 * (q' * g) < p' * g * b ^ pre.length
        · simp -implicitDefEqProofs only [l1__law_days, xVar_a, xC_a, xBin_a, xUn_a, tOf_a, tTru_a, tNotP_a, tAndP_a, tOrP_a, tyes_a, tno_a, tYesP_a, xNil_a, xCons_a, xTup_a, xLst_a, xAnd_a, xOr_a, xIf_a, xChain_a, oNo_a, oAt_a, xSl_a, xCall_a, xSeq_a, xIt_a, xLc_a, gSet_a, gTupD_a, gsNil_a, gsCons_a, sNop_a, sBrk_a, sCnt_a, sSeq_a, sRet_a, sIf_a, sSet_a, sTgt_a, sAug_a, sApp_a, sExt_a, sPut_a, sPutK_a, pkO_s, sFor_a, sWhile_a, sPar_a, runD_a, b2_s, c2_s, sqO_nx, sqO_rt, sqO_bk, sqO_ct, ifO_t, ifO_f, stO_s, endO_nx, endO_rt, andO_t, andO_f, orO_t, orO_f, chO_s, chP_t, chP_f, slO_s, atO_i, lcO_s, forO_s, gsO_s, nxO_s, tgO_s, paO_s, apO_s, exO_s, plO_s, ptO_s, dB_b, tru_b, tru_n, tru_i, tru_l, tru_t, is_n, isn_n, nn_n, nn_i, nn_b, nn_t, nn_l, add_ii, add'_ii, sub_ii, neg_i, lt_ii, le_ii, gt_ii, ge_ii, ix_l, ix_t, ix_s, at0, at1, at2, sl_l, sl_t, len_l, len_t, len_s, abs_i, int_i, int_b, max_ii, min_ii, tup_s, lst_s, seq_l, seq_t, sum_s, wipe_n, wipe_c, mul_ii, fdiv_ii, mod_ii, add_ll, add_tt, setAll, mkT, mkL, oNot, List.getD_cons_zero, List.getD_cons_succ, List.length_cons, List.length_nil, List.set_cons_zero, List.set_cons_succ, List.map_cons, List.map_nil, List.replicate, List.cons_append, List.nil_append, List.append_nil, Option.bind_some, Option.map_some, List.all_cons, List.all_nil, if_true, if_false, reduceIte, Nat.reduceAdd, Nat.reduceSub, Nat.reduceLT, Nat.reduceLeDiff, Nat.reduceEqDiff, decide_true, decide_false, Bool.and_true, Bool.and_self, Bool.true_and, Bool.not_true, Bool.not_false, ne_eq, not_true_eq_false, not_false_eq_true, Nat.zero_add, Bool.false_eq_true, and_self, true_and, and_true, m1, m2, m3, i1, hc, hz, Option.none_or, List.find?_cons, List.find?_nil]
        · simp -implicitDefEqProofs only [l1__law_days, xVar_a, xC_a, xBin_a, xUn_a, tOf_a, tTru_a, tNotP_a, tAndP_a, tOrP_a, tyes_a, tno_a, tYesP_a, xNil_a, xCons_a, xTup_a, xLst_a, xAnd_a, xOr_a, xIf_a, xChain_a, oNo_a, oAt_a, xSl_a, xCall_a, xSeq_a, xIt_a, xLc_a, gSet_a, gTupD_a, gsNil_a, gsCons_a, sNop_a, sBrk_a, sCnt_a, sSeq_a, sRet_a, sIf_a, sSet_a, sTgt_a, sAug_a, sApp_a, sExt_a, sPut_a, sPutK_a, pkO_s, sFor_a, sWhile_a, sPar_a, runD_a, b2_s, c2_s, sqO_nx, sqO_rt, sqO_bk, sqO_ct, ifO_t, ifO_f, stO_s, endO_nx, endO_rt, andO_t, andO_f, orO_t, orO_f, chO_s, chP_t, chP_f, slO_s, atO_i, lcO_s, forO_s, gsO_s, nxO_s, tgO_s, paO_s, apO_s, exO_s, plO_s, ptO_s, dB_b, tru_b, tru_n, tru_i, tru_l, tru_t, is_n, isn_n, nn_n, nn_i, nn_b, nn_t, nn_l, add_ii, add'_ii, sub_ii, neg_i, lt_ii, le_ii, gt_ii, ge_ii, ix_l, ix_t, ix_s, at0, at1, at2, sl_l, sl_t, len_l, len_t, len_s, abs_i, int_i, int_b, max_ii, min_ii, tup_s, lst_s, seq_l, seq_t, sum_s, wipe_n, wipe_c, mul_ii, fdiv_ii, mod_ii, add_ll, add_tt, setAll, mkT, mkL, oNot, List.getD_cons_zero, List.getD_cons_succ, List.length_cons, List.length_nil, List.set_cons_zero, List.set_cons_succ, List.map_cons, List.map_nil, List.replicate, List.cons_append, List.nil_append, List.append_nil, Option.bind_some, Option.map_some, List.all_cons, List.all_nil, if_true, if_false, reduceIte, Nat.reduceAdd, Nat.reduceSub, Nat.reduceLT, Nat.reduceLeDiff, Nat.reduceEqDiff, decide_true, decide_false, Bool.and_true, Bool.and_self, Bool.true_and, Bool.not_true, Bool.not_false, ne_eq, not_true_eq_false, not_false_eq_true, Nat.zero_add, Bool.false_eq_true, and_self, true_and, and_true, m1, m2, m3, i1, hc, hz, Option.none_or, List.find?_cons, List.find?_nil]) (List.range n) [] [some (.int a), some (.int b), some (.int k), some row, some (fr (p' * g) (q' * g)), some (.int 1), none, none, none, none, none, some (.list ((List.range n).map fun i => PyData.int (it a b k i).2)), some .none, none] ⟨by simp, none, by simp [findD]⟩
  obtain ⟨_, j, e'⟩ := h
  subst e'
  simp only [List.nil_append, List.length_range] at e
  rw [ffD_eq]
  refine ⟨j, some (.int (b ^ n)), ?_⟩
  rw [e]
theorem oR2_c (k : Nat) (hk : k ≤ 1000) : -(2 ^ 60) ≤ (1:Int) ∧ (1:Int) < 2 ^ 60 ∧ -(2 ^ 60) ≤ ((k : Int) + 1) ∧ ((k : Int) + 1) < 2 ^ 60 ∧ ((k : Int) + 1) - 1 ≤ 16777216 := by omega
theorem oR2_ij {i j : Int} (h : -(2 ^ 60) ≤ i ∧ i < 2 ^ 60 ∧ -(2 ^ 60) ≤ j ∧ j < 2 ^ 60 ∧ j - i ≤ 16777216) : oR2 [.int i, .int j] = some (rangeD i 1 (j - i).toNat) := if_pos h
theorem oR2_k (k : Nat) (hk : k ≤ 1000) : oR2 [.int 1, .int ((k : Int) + 1)] = some (rangeD 1 1 (((k : Int) + 1) - 1).toNat) := oR2_ij (oR2_c k hk)
theorem rangeD_1 (k : Nat) : rangeD 1 1 k = ((List.range k).map fun i => PyData.int (1 + (i : Nat))) := by
  unfold rangeD
  simp
theorem oR2_one (k : Nat) (hk : k ≤ 1000) : oR2 [.int 1, .int ((k : Int) + 1)] = some ((List.range k).map fun i => PyData.int (1 + (i : Nat))) := by
  rw [oR2_k k hk, ← rangeD_1]
  have e : ((k : Int) + 1 - 1).toNat = k := by omega
  rw [e]
theorem days_loop2 {a b : Int} {k : Nat} (ha : 0 < a) (hab : a ≤ b) (hb : 0 < b) (hb6 : b ≤ 6) (hk : 1 ≤ k) (hk3 : k ≤ 3) (x3 x4 x5 x6 x11 x12 : Option D) :
    ∃ j u, forL (gSet 8) l2__law_days ((List.range k).map fun i => PyData.int (1 + (i : Nat))) [some (.int a), some (.int b), some (.int k), x3, x4, x5, x6, some (fr 0 1), none, none, none, x11, x12, none] =
      some (.nx [some (.int a), some (.int b), some (.int k), x3, x4, x5, x6, some (fr (mS a b k) (a ^ k)), j, none, none, x11, x12, u]) := by
  have h2 : Sm 3 b := by unfold Sm; omega
  have h1 : Sm 3 a := by unfold Sm; omega
  obtain ⟨ρ', e, h⟩ := forL_inv (g := gSet 8) (b := l2__law_days) (fun i : Nat => PyData.int (1 + (i : Nat)))
    (fun pre rest ρ => pre ++ rest = List.range k ∧ ∃ j u, ρ = [some (.int a), some (.int b), some (.int k), x3, x4, x5, x6, some (fr (mS a b pre.length) (a ^ pre.length)), j, none, none, x11, x12, u]) (fun pre x rest ρ ⟨hp, j, u, e⟩ => by
      subst e
      have hlen : pre.length + (rest.length + 1) = k := by
        have := congrArg List.length hp
        simpa using this
      have hx : x = pre.length := by
        have h1 : (pre ++ x :: rest)[pre.length]? = some x := by simp
        rw [hp, List.getElem?_range (by omega)] at h1
        exact (Option.some.inj h1).symm
      subst hx
      have pa : 0 < a ^ pre.length := Int.pow_pos ha
      have pa' : 0 < a ^ (pre.length + 1) := Int.pow_pos ha
      have t := power_eq b a (pre.length + 1) (by omega) (h2.mono (by omega)) (h1.mono (by omega))
      have u := lsum_eq (p := mS a b pre.length) (q := a ^ pre.length) (x := b ^ (pre.length + 1)) (y := a ^ (pre.length + 1)) pa pa' ((mS_sm h1 h2 _).mono (by omega)) ((sm_pow h1 _).mono (by omega)) ((sm_pow h2 _).mono (by omega)) ((sm_pow h1 _).mono (by omega))
      rw [fr_eq (r := mS a b (pre.length + 1)) (s := a ^ (pre.length + 1)) (Int.mul_pos pa pa') pa' (by simp only [mS, Int.pow_succ]; grind)] at u
      have ec : (1 : Int) + (pre.length : Nat) = ((pre.length + 1 : Nat) : Int) := by omega
      refine ⟨_, [some (.int a), some (.int b), some (.int k), x3, x4, x5, x6, some (fr (mS a b (pre.length + 1)) (a ^ (pre.length + 1))), some (.int ((pre.length + 1 : Nat) : Int)), none, none, x11, x12, some (.tuple [.int (b ^ (pre.length + 1)), .int (a ^ (pre.length + 1))])], rfl, .inl ?_, by rw [List.append_assoc]; exact hp, some (.int ((pre.length + 1 : Nat) : Int)), some (.tuple [.int (b ^ (pre.length + 1)), .int (a ^ (pre.length + 1))]), by simp⟩
      rw [ec]
      simp -implicitDefEqProofs only [l2__law_days, xVar_a, xC_a, xBin_a, xUn_a, tOf_a, tTru_a, tNotP_a, tAndP_a, tOrP_a, tyes_a, tno_a, tYesP_a, xNil_a, xCons_a, xTup_a, xLst_a, xAnd_a, xOr_a, xIf_a, xChain_a, oNo_a, oAt_a, xSl_a, xCall_a, xSeq_a, xIt_a, xLc_a, gSet_a, gTupD_a, gsNil_a, gsCons_a, sNop_a, sBrk_a, sCnt_a, sSeq_a, sRet_a, sIf_a, sSet_a, sTgt_a, sAug_a, sApp_a, sExt_a, sPut_a, sPutK_a, pkO_s, sFor_a, sWhile_a, sPar_a, runD_a, b2_s, c2_s, sqO_nx, sqO_rt, sqO_bk, sqO_ct, ifO_t, ifO_f, stO_s, endO_nx, endO_rt, andO_t, andO_f, orO_t, orO_f, chO_s, chP_t, chP_f, slO_s, atO_i, lcO_s, forO_s, gsO_s, nxO_s, tgO_s, paO_s, apO_s, exO_s, plO_s, ptO_s, dB_b, tru_b, tru_n, tru_i, tru_l, tru_t, is_n, isn_n, nn_n, nn_i, nn_b, nn_t, nn_l, add_ii, add'_ii, sub_ii, neg_i, lt_ii, le_ii, gt_ii, ge_ii, ix_l, ix_t, ix_s, at0, at1, at2, sl_l, sl_t, len_l, len_t, len_s, abs_i, int_i, int_b, max_ii, min_ii, tup_s, lst_s, seq_l, seq_t, sum_s, wipe_n, wipe_c, mul_ii, fdiv_ii, mod_ii, add_ll, add_tt, setAll, mkT, mkL, oNot, List.getD_cons_zero, List.getD_cons_succ, List.length_cons, List.length_nil, List.set_cons_zero, List.set_cons_succ, List.map_cons, List.map_nil, List.replicate, List.cons_append, List.nil_append, List.append_nil, Option.bind_some, Option.map_some, List.all_cons, List.all_nil, if_true, if_false, reduceIte, Nat.reduceAdd, Nat.reduceSub, Nat.reduceLT, Nat.reduceLeDiff, Nat.reduceEqDiff, decide_true, decide_false, Bool.and_true, Bool.and_self, Bool.true_and, Bool.not_true, Bool.not_false, ne_eq, not_true_eq_false, not_false_eq_true, Nat.zero_add, Bool.false_eq_true, and_self, true_and, and_true, t, u]) (List.range k) [] [some (.int a), some (.int b), some (.int k), x3, x4, x5, x6, some (fr 0 1), none, none, none, x11, x12, none] ⟨by simp, none, none, by simp [mS]⟩
  obtain ⟨_, j, u, e'⟩ := h
  subst e'
  simp only [List.nil_append, List.length_range] at e
  refine ⟨j, u, ?_⟩
  rw [e]
theorem days_ok {a b : Int} {k : Nat} (ha : 0 < a) (hab : a ≤ b) (hb : 0 < b) (hb6 : b ≤ 6) (hk : 1 ≤ k) (hk3 : k ≤ 3) (r : List Int) (hr : r.length = 48) :
    d__law_days [.int a, .int b, .int k, .list (r.map PyData.int)] = some (.bool true) := by
  have h2 : Sm 3 b := by unfold Sm; omega
  have h1 : Sm 3 a := by unfold Sm; omega
  have i5 : atI (r.map PyData.int) 5 = some (.int (r.getD 5 0)) := row_at r 5 (by omega)
  have i6 : atI (r.map PyData.int) 6 = some (.int (r.getD 6 0)) := row_at r 6 (by omega)
  have r5 := fmod_rng (r.getD 5 0) (m := 21) (by decide)
  have n21 : (21 : Int) ≠ 0 := by decide
  have n6 : (6 : Int) ≠ 0 := by decide
  have t1 := ratio_eq ((r.getD 5 0).fmod 21) 20 (by decide) Sm.lit
  have t2 := ratio_eq a b hb (h2.mono (by omega))
  have t3 := reckoned_eq (a := a) (b := b) (k := k) (by omega) hab hb hb6 hk hk3
  obtain ⟨p, q, hq, bp, bq, hl⟩ : ∃ p q : Int, 0 < q ∧ Sm 10 p ∧ Sm 10 q ∧ (if (r.getD 6 0).fmod 6 = 0 then fr 1 1 else fr ((r.getD 5 0).fmod 21) 20) = fr p q := by
    split
    · exact ⟨1, 1, by decide, Sm.lit, Sm.lit, rfl⟩
    · exact ⟨_, 20, by decide, Sm.of_le (k := 10) r5.1 (by omega), Sm.lit, rfl⟩
  have u1 := days_for_eq (k := k) (by omega) hab hb hb6 hk hk3 hq bp bq
  obtain ⟨j1, v1, e1⟩ := days_loop1 (a := a) (b := b) (k := k) (by omega) hab hb hb6 hk hk3 hq bp bq (.list (r.map PyData.int)) 61 (Nat.le_refl _)
  have hr61 : oR1 [.int 61] = some (List.map (fun i => PyData.int (i : Nat)) (List.range 61)) := oR1_nat 61 (by omega)
  have hrk := oR2_one k (by omega)
  obtain ⟨j2, v2, e2⟩ := days_loop2 ha hab hb hb6 hk hk3 (some (.list (r.map PyData.int))) (some (fr p q)) v1 j1 (some (.list ((List.range 61).map fun i => PyData.int (it a b k i).2))) (some (ffD (fun m => !decide ((it a b k m).2 * q < p * b ^ m)) 61))
  have u2 := mean_wait_eq (k := k) ha hb h1 h2 hk3
  have k1 := like_ff (fun m => !decide ((it a b k m).2 * q < p * b ^ m)) 61 7
  have k2 := like_fr 6 (mS a b k) (a ^ k)
  have c60 : (60 : Int) = ((60 : Nat) : Int) := rfl
  have e01 : PyData.tuple [.int 0, .int 1] = fr 0 1 := rfl
  have e11 : PyData.tuple [.int 1, .int 1] = fr 1 1 := rfl
  have hpa : 0 < a ^ (k - 1) := Int.pow_pos ha
  obtain ⟨u, v, f1, m1, m2, f2⟩ := ratio_of_parts (p := mS a b (k - 1) + a ^ (k - 1)) (q := a ^ (k - 1)) (b := b) (a := a) hpa ha (((mS_sm h1 h2 (k - 1)).mono (k := 800) (by omega)).add ((sm_pow h1 (k - 1)).mono (k := 800) (by omega)) |>.mono (by omega)) ((sm_pow h1 (k - 1)).mono (by omega)) h1 h2
  have hk1 : k - 1 + 1 = k := by omega
  have g1 := mS_b a b (k - 1)
  have g2 : a ^ (k - 1) * a = a ^ k := by
    have this : a ^ (k - 1 + 1) = a ^ (k - 1) * a := Int.pow_succ a (k - 1)
    rw [hk1] at this
    exact this.symm
  rw [hk1] at g1
  rw [← g1, g2] at f2
  have hcast : (k : Int) - 1 = ((k - 1 : Nat) : Int) := by omega
  have u3 := mean_wait_eq (k := k - 1) ha hb h1 h2 (by omega)
  have u4 := lsum_eq (p := mS a b (k - 1)) (q := a ^ (k - 1)) (x := 1) (y := 1) hpa (by decide) ((mS_sm h1 h2 _).mono (by omega)) ((sm_pow h1 _).mono (by omega)) Sm.lit Sm.lit
  rw [Int.mul_one, Int.mul_one, Int.one_mul, e11] at u4
  have i0 : oIx (fr (mS a b (k - 1) + a ^ (k - 1)) (a ^ (k - 1))) (.int 0) = some (.int u) := by rw [f1]; rfl
  have i1 : oIx (fr (mS a b (k - 1) + a ^ (k - 1)) (a ^ (k - 1))) (.int 1) = some (.int v) := by rw [f1]; rfl
  have z0 : 1 < (k : Int) ∨ fr (mS a b (k - 1) + a ^ (k - 1)) (a ^ (k - 1)) = fr 1 1 := by
    by_cases h : 1 < (k : Int)
    · exact .inl h
    · refine .inr ?_
      have : k = 1 := by omega
      subst this
      simp [mS]
  by_cases h6 : (r.getD 6 0).fmod 6 = 0
  · rw [if_pos h6] at hl
    rw [← hl] at u1 e1 e2
    rcases z0 with z0 | z0
    · simp -implicitDefEqProofs only [d__law_days, g__law_days, xVar_a, xC_a, xBin_a, xUn_a, tOf_a, tTru_a, tNotP_a, tAndP_a, tOrP_a, tyes_a, tno_a, tYesP_a, xNil_a, xCons_a, xTup_a, xLst_a, xAnd_a, xOr_a, xIf_a, xChain_a, oNo_a, oAt_a, xSl_a, xCall_a, xSeq_a, xIt_a, xLc_a, gSet_a, gTupD_a, gsNil_a, gsCons_a, sNop_a, sBrk_a, sCnt_a, sSeq_a, sRet_a, sIf_a, sSet_a, sTgt_a, sAug_a, sApp_a, sExt_a, sPut_a, sPutK_a, pkO_s, sFor_a, sWhile_a, sPar_a, runD_a, b2_s, c2_s, sqO_nx, sqO_rt, sqO_bk, sqO_ct, ifO_t, ifO_f, stO_s, endO_nx, endO_rt, andO_t, andO_f, orO_t, orO_f, chO_s, chP_t, chP_f, slO_s, atO_i, lcO_s, forO_s, gsO_s, nxO_s, tgO_s, paO_s, apO_s, exO_s, plO_s, ptO_s, dB_b, tru_b, tru_n, tru_i, tru_l, tru_t, is_n, isn_n, nn_n, nn_i, nn_b, nn_t, nn_l, add_ii, add'_ii, sub_ii, neg_i, lt_ii, le_ii, gt_ii, ge_ii, ix_l, ix_t, ix_s, at0, at1, at2, sl_l, sl_t, len_l, len_t, len_s, abs_i, int_i, int_b, max_ii, min_ii, tup_s, lst_s, seq_l, seq_t, sum_s, wipe_n, wipe_c, mul_ii, fdiv_ii, mod_ii, add_ll, add_tt, setAll, mkT, mkL, oNot, List.getD_cons_zero, List.getD_cons_succ, List.length_cons, List.length_nil, List.set_cons_zero, List.set_cons_succ, List.map_cons, List.map_nil, List.replicate, List.cons_append, List.nil_append, List.append_nil, Option.bind_some, Option.map_some, List.all_cons, List.all_nil, if_true, if_false, reduceIte, Nat.reduceAdd, Nat.reduceSub, Nat.reduceLT, Nat.reduceLeDiff, Nat.reduceEqDiff, decide_true, decide_false, Bool.and_true, Bool.and_self, Bool.true_and, Bool.not_true, Bool.not_false, ne_eq, not_true_eq_false, not_false_eq_true, Nat.zero_add, Bool.false_eq_true, and_self, true_and, and_true, t3, i5, i6, mod_ii n21, mod_ii n6, t1, eq_int, h6, e11, e01, hr61, e1, t2, u1, k1, hrk, e2, u2, k2, z0, hcast, u3, u4, i0, i1, m1, m2, f2]
    · rw [z0] at i0 i1
      by_cases z1 : 1 < (k : Int)
      · simp -implicitDefEqProofs only [d__law_days, g__law_days, xVar_a, xC_a, xBin_a, xUn_a, tOf_a, tTru_a, tNotP_a, tAndP_a, tOrP_a, tyes_a, tno_a, tYesP_a, xNil_a, xCons_a, xTup_a, xLst_a, xAnd_a, xOr_a, xIf_a, xChain_a, oNo_a, oAt_a, xSl_a, xCall_a, xSeq_a, xIt_a, xLc_a, gSet_a, gTupD_a, gsNil_a, gsCons_a, sNop_a, sBrk_a, sCnt_a, sSeq_a, sRet_a, sIf_a, sSet_a, sTgt_a, sAug_a, sApp_a, sExt_a, sPut_a, sPutK_a, pkO_s, sFor_a, sWhile_a, sPar_a, runD_a, b2_s, c2_s, sqO_nx, sqO_rt, sqO_bk, sqO_ct, ifO_t, ifO_f, stO_s, endO_nx, endO_rt, andO_t, andO_f, orO_t, orO_f, chO_s, chP_t, chP_f, slO_s, atO_i, lcO_s, forO_s, gsO_s, nxO_s, tgO_s, paO_s, apO_s, exO_s, plO_s, ptO_s, dB_b, tru_b, tru_n, tru_i, tru_l, tru_t, is_n, isn_n, nn_n, nn_i, nn_b, nn_t, nn_l, add_ii, add'_ii, sub_ii, neg_i, lt_ii, le_ii, gt_ii, ge_ii, ix_l, ix_t, ix_s, at0, at1, at2, sl_l, sl_t, len_l, len_t, len_s, abs_i, int_i, int_b, max_ii, min_ii, tup_s, lst_s, seq_l, seq_t, sum_s, wipe_n, wipe_c, mul_ii, fdiv_ii, mod_ii, add_ll, add_tt, setAll, mkT, mkL, oNot, List.getD_cons_zero, List.getD_cons_succ, List.length_cons, List.length_nil, List.set_cons_zero, List.set_cons_succ, List.map_cons, List.map_nil, List.replicate, List.cons_append, List.nil_append, List.append_nil, Option.bind_some, Option.map_some, List.all_cons, List.all_nil, if_true, if_false, reduceIte, Nat.reduceAdd, Nat.reduceSub, Nat.reduceLT, Nat.reduceLeDiff, Nat.reduceEqDiff, decide_true, decide_false, Bool.and_true, Bool.and_self, Bool.true_and, Bool.not_true, Bool.not_false, ne_eq, not_true_eq_false, not_false_eq_true, Nat.zero_add, Bool.false_eq_true, and_self, true_and, and_true, t3, i5, i6, mod_ii n21, mod_ii n6, t1, eq_int, h6, e11, e01, hr61, e1, t2, u1, k1, hrk, e2, u2, k2, z1, hcast, u3, u4, z0, i0, i1, m1, m2, f2]
      · simp -implicitDefEqProofs only [d__law_days, g__law_days, xVar_a, xC_a, xBin_a, xUn_a, tOf_a, tTru_a, tNotP_a, tAndP_a, tOrP_a, tyes_a, tno_a, tYesP_a, xNil_a, xCons_a, xTup_a, xLst_a, xAnd_a, xOr_a, xIf_a, xChain_a, oNo_a, oAt_a, xSl_a, xCall_a, xSeq_a, xIt_a, xLc_a, gSet_a, gTupD_a, gsNil_a, gsCons_a, sNop_a, sBrk_a, sCnt_a, sSeq_a, sRet_a, sIf_a, sSet_a, sTgt_a, sAug_a, sApp_a, sExt_a, sPut_a, sPutK_a, pkO_s, sFor_a, sWhile_a, sPar_a, runD_a, b2_s, c2_s, sqO_nx, sqO_rt, sqO_bk, sqO_ct, ifO_t, ifO_f, stO_s, endO_nx, endO_rt, andO_t, andO_f, orO_t, orO_f, chO_s, chP_t, chP_f, slO_s, atO_i, lcO_s, forO_s, gsO_s, nxO_s, tgO_s, paO_s, apO_s, exO_s, plO_s, ptO_s, dB_b, tru_b, tru_n, tru_i, tru_l, tru_t, is_n, isn_n, nn_n, nn_i, nn_b, nn_t, nn_l, add_ii, add'_ii, sub_ii, neg_i, lt_ii, le_ii, gt_ii, ge_ii, ix_l, ix_t, ix_s, at0, at1, at2, sl_l, sl_t, len_l, len_t, len_s, abs_i, int_i, int_b, max_ii, min_ii, tup_s, lst_s, seq_l, seq_t, sum_s, wipe_n, wipe_c, mul_ii, fdiv_ii, mod_ii, add_ll, add_tt, setAll, mkT, mkL, oNot, List.getD_cons_zero, List.getD_cons_succ, List.length_cons, List.length_nil, List.set_cons_zero, List.set_cons_succ, List.map_cons, List.map_nil, List.replicate, List.cons_append, List.nil_append, List.append_nil, Option.bind_some, Option.map_some, List.all_cons, List.all_nil, if_true, if_false, reduceIte, Nat.reduceAdd, Nat.reduceSub, Nat.reduceLT, Nat.reduceLeDiff, Nat.reduceEqDiff, decide_true, decide_false, Bool.and_true, Bool.and_self, Bool.true_and, Bool.not_true, Bool.not_false, ne_eq, not_true_eq_false, not_false_eq_true, Nat.zero_add, Bool.false_eq_true, and_self, true_and, and_true, t3, i5, i6, mod_ii n21, mod_ii n6, t1, eq_int, h6, e11, e01, hr61, e1, t2, u1, k1, hrk, e2, u2, k2, z1, i0, i1, m1, m2, f2]
  · rw [if_neg h6] at hl
    rw [← hl] at u1 e1 e2
    rcases z0 with z0 | z0
    · simp -implicitDefEqProofs only [d__law_days, g__law_days, xVar_a, xC_a, xBin_a, xUn_a, tOf_a, tTru_a, tNotP_a, tAndP_a, tOrP_a, tyes_a, tno_a, tYesP_a, xNil_a, xCons_a, xTup_a, xLst_a, xAnd_a, xOr_a, xIf_a, xChain_a, oNo_a, oAt_a, xSl_a, xCall_a, xSeq_a, xIt_a, xLc_a, gSet_a, gTupD_a, gsNil_a, gsCons_a, sNop_a, sBrk_a, sCnt_a, sSeq_a, sRet_a, sIf_a, sSet_a, sTgt_a, sAug_a, sApp_a, sExt_a, sPut_a, sPutK_a, pkO_s, sFor_a, sWhile_a, sPar_a, runD_a, b2_s, c2_s, sqO_nx, sqO_rt, sqO_bk, sqO_ct, ifO_t, ifO_f, stO_s, endO_nx, endO_rt, andO_t, andO_f, orO_t, orO_f, chO_s, chP_t, chP_f, slO_s, atO_i, lcO_s, forO_s, gsO_s, nxO_s, tgO_s, paO_s, apO_s, exO_s, plO_s, ptO_s, dB_b, tru_b, tru_n, tru_i, tru_l, tru_t, is_n, isn_n, nn_n, nn_i, nn_b, nn_t, nn_l, add_ii, add'_ii, sub_ii, neg_i, lt_ii, le_ii, gt_ii, ge_ii, ix_l, ix_t, ix_s, at0, at1, at2, sl_l, sl_t, len_l, len_t, len_s, abs_i, int_i, int_b, max_ii, min_ii, tup_s, lst_s, seq_l, seq_t, sum_s, wipe_n, wipe_c, mul_ii, fdiv_ii, mod_ii, add_ll, add_tt, setAll, mkT, mkL, oNot, List.getD_cons_zero, List.getD_cons_succ, List.length_cons, List.length_nil, List.set_cons_zero, List.set_cons_succ, List.map_cons, List.map_nil, List.replicate, List.cons_append, List.nil_append, List.append_nil, Option.bind_some, Option.map_some, List.all_cons, List.all_nil, if_true, if_false, reduceIte, Nat.reduceAdd, Nat.reduceSub, Nat.reduceLT, Nat.reduceLeDiff, Nat.reduceEqDiff, decide_true, decide_false, Bool.and_true, Bool.and_self, Bool.true_and, Bool.not_true, Bool.not_false, ne_eq, not_true_eq_false, not_false_eq_true, Nat.zero_add, Bool.false_eq_true, and_self, true_and, and_true, t3, i5, i6, mod_ii n21, mod_ii n6, t1, eq_int, h6, e11, e01, hr61, e1, t2, u1, k1, hrk, e2, u2, k2, z0, hcast, u3, u4, i0, i1, m1, m2, f2]
    · rw [z0] at i0 i1
      by_cases z1 : 1 < (k : Int)
      · simp -implicitDefEqProofs only [d__law_days, g__law_days, xVar_a, xC_a, xBin_a, xUn_a, tOf_a, tTru_a, tNotP_a, tAndP_a, tOrP_a, tyes_a, tno_a, tYesP_a, xNil_a, xCons_a, xTup_a, xLst_a, xAnd_a, xOr_a, xIf_a, xChain_a, oNo_a, oAt_a, xSl_a, xCall_a, xSeq_a, xIt_a, xLc_a, gSet_a, gTupD_a, gsNil_a, gsCons_a, sNop_a, sBrk_a, sCnt_a, sSeq_a, sRet_a, sIf_a, sSet_a, sTgt_a, sAug_a, sApp_a, sExt_a, sPut_a, sPutK_a, pkO_s, sFor_a, sWhile_a, sPar_a, runD_a, b2_s, c2_s, sqO_nx, sqO_rt, sqO_bk, sqO_ct, ifO_t, ifO_f, stO_s, endO_nx, endO_rt, andO_t, andO_f, orO_t, orO_f, chO_s, chP_t, chP_f, slO_s, atO_i, lcO_s, forO_s, gsO_s, nxO_s, tgO_s, paO_s, apO_s, exO_s, plO_s, ptO_s, dB_b, tru_b, tru_n, tru_i, tru_l, tru_t, is_n, isn_n, nn_n, nn_i, nn_b, nn_t, nn_l, add_ii, add'_ii, sub_ii, neg_i, lt_ii, le_ii, gt_ii, ge_ii, ix_l, ix_t, ix_s, at0, at1, at2, sl_l, sl_t, len_l, len_t, len_s, abs_i, int_i, int_b, max_ii, min_ii, tup_s, lst_s, seq_l, seq_t, sum_s, wipe_n, wipe_c, mul_ii, fdiv_ii, mod_ii, add_ll, add_tt, setAll, mkT, mkL, oNot, List.getD_cons_zero, List.getD_cons_succ, List.length_cons, List.length_nil, List.set_cons_zero, List.set_cons_succ, List.map_cons, List.map_nil, List.replicate, List.cons_append, List.nil_append, List.append_nil, Option.bind_some, Option.map_some, List.all_cons, List.all_nil, if_true, if_false, reduceIte, Nat.reduceAdd, Nat.reduceSub, Nat.reduceLT, Nat.reduceLeDiff, Nat.reduceEqDiff, decide_true, decide_false, Bool.and_true, Bool.and_self, Bool.true_and, Bool.not_true, Bool.not_false, ne_eq, not_true_eq_false, not_false_eq_true, Nat.zero_add, Bool.false_eq_true, and_self, true_and, and_true, t3, i5, i6, mod_ii n21, mod_ii n6, t1, eq_int, h6, e11, e01, hr61, e1, t2, u1, k1, hrk, e2, u2, k2, z1, hcast, u3, u4, z0, i0, i1, m1, m2, f2]
      · simp -implicitDefEqProofs only [d__law_days, g__law_days, xVar_a, xC_a, xBin_a, xUn_a, tOf_a, tTru_a, tNotP_a, tAndP_a, tOrP_a, tyes_a, tno_a, tYesP_a, xNil_a, xCons_a, xTup_a, xLst_a, xAnd_a, xOr_a, xIf_a, xChain_a, oNo_a, oAt_a, xSl_a, xCall_a, xSeq_a, xIt_a, xLc_a, gSet_a, gTupD_a, gsNil_a, gsCons_a, sNop_a, sBrk_a, sCnt_a, sSeq_a, sRet_a, sIf_a, sSet_a, sTgt_a, sAug_a, sApp_a, sExt_a, sPut_a, sPutK_a, pkO_s, sFor_a, sWhile_a, sPar_a, runD_a, b2_s, c2_s, sqO_nx, sqO_rt, sqO_bk, sqO_ct, ifO_t, ifO_f, stO_s, endO_nx, endO_rt, andO_t, andO_f, orO_t, orO_f, chO_s, chP_t, chP_f, slO_s, atO_i, lcO_s, forO_s, gsO_s, nxO_s, tgO_s, paO_s, apO_s, exO_s, plO_s, ptO_s, dB_b, tru_b, tru_n, tru_i, tru_l, tru_t, is_n, isn_n, nn_n, nn_i, nn_b, nn_t, nn_l, add_ii, add'_ii, sub_ii, neg_i, lt_ii, le_ii, gt_ii, ge_ii, ix_l, ix_t, ix_s, at0, at1, at2, sl_l, sl_t, len_l, len_t, len_s, abs_i, int_i, int_b, max_ii, min_ii, tup_s, lst_s, seq_l, seq_t, sum_s, wipe_n, wipe_c, mul_ii, fdiv_ii, mod_ii, add_ll, add_tt, setAll, mkT, mkL, oNot, List.getD_cons_zero, List.getD_cons_succ, List.length_cons, List.length_nil, List.set_cons_zero, List.set_cons_succ, List.map_cons, List.map_nil, List.replicate, List.cons_append, List.nil_append, List.append_nil, Option.bind_some, Option.map_some, List.all_cons, List.all_nil, if_true, if_false, reduceIte, Nat.reduceAdd, Nat.reduceSub, Nat.reduceLT, Nat.reduceLeDiff, Nat.reduceEqDiff, decide_true, decide_false, Bool.and_true, Bool.and_self, Bool.true_and, Bool.not_true, Bool.not_false, ne_eq, not_true_eq_false, not_false_eq_true, Nat.zero_add, Bool.false_eq_true, and_self, true_and, and_true, t3, i5, i6, mod_ii n21, mod_ii n6, t1, eq_int, h6, e11, e01, hr61, e1, t2, u1, k1, hrk, e2, u2, k2, z1, i0, i1, m1, m2, f2]
end K32

namespace K32
open PySem PySem.Spec PyProof.Rows L2 Pm
theorem mulOk_r (a : Int) {b : Int} (h : b.natAbs < 2 ^ 63) : mulOk a b = true := by
  unfold mulOk
  rw [decide_eq_true h]
  simp
theorem mulOk_lt {a b m : Int} (h0 : 0 ≤ a) (h : a < m) (hm : m ≤ 2147483647) : mulOk a b = true := by
  unfold mulOk
  rw [decide_eq_true (show a.natAbs < 2 ^ 63 by omega)]
  simp
theorem divOk_lit {b : Int} (h : b ≠ 0) (h2 : Sm 20 b) : divOk b = true := h2.divOk h (by omega)
def mix1 (c k : Int) : Int := (c * 48271 + k * 69621 + 8191).fmod 2147483647
def mix2 (c k : Int) : Int := (mix1 c k * mix1 c k + (mix1 c k).fdiv 7 + k * 16807).fmod 2147483629
def mix3 (c k : Int) : Int := (mix2 c k * mix2 c k + (mix2 c k).fdiv 11 + 40692).fmod 2147483563
theorem mixed_int (ns : List Int) (k : Nat) : ∃ v : Int, d__law_mixed [scr (ns.map PyData.int), .int k] = some (.int v) := by
  obtain ⟨c, hc⟩ : ∃ c : Int, (if 0 < ns.length then oIx (scr (ns.map PyData.int)) (.int ((k : Int).fmod ns.length)) else some (.int 0)) = some (.int c) := by
    by_cases h : 0 < ns.length
    · have h1 := fmod_rng (k : Int) (m := (ns.length : Int)) (by omega)
      obtain ⟨j, hj⟩ := Int.eq_ofNat_of_zero_le h1.1
      rw [if_pos h, hj]
      have h2 := h1.2
      rw [hj] at h2
      exact ⟨_, row_at ns j (by omega)⟩
    · exact ⟨0, if_neg h⟩
  have m1 := mulOk_r c (b := 48271) (by decide)
  have m2 := mulOk_r (k : Int) (b := 69621) (by decide)
  have m3 := mulOk_r (k : Int) (b := 16807) (by decide)
  have n1 : (2147483647 : Int) ≠ 0 := by decide
  have n2 : (2147483629 : Int) ≠ 0 := by decide
  have n3 : (2147483563 : Int) ≠ 0 := by decide
  have n4 : (1000003 : Int) ≠ 0 := by decide
  have d1 := divOk_lit (b := 7) (by decide) Sm.lit
  have d2 := divOk_lit (b := 11) (by decide) Sm.lit
  have d3 := divOk_lit (b := 5) (by decide) Sm.lit
  have r1 := fmod_rng (c * 48271 + (k : Int) * 69621 + 8191) (m := 2147483647) (by decide)
  have m4 : ∀ x, mulOk ((c * 48271 + (k : Int) * 69621 + 8191).fmod 2147483647) x = true := fun x => mulOk_lt r1.1 r1.2 (by decide)
  have r2 := fun x : Int => fmod_rng x (m := 2147483629) (by decide)
  have m5 : ∀ x y : Int, mulOk (x.fmod 2147483629) y = true := fun x y => mulOk_lt (r2 x).1 (r2 x).2 (by decide)
  by_cases h : 0 < ns.length
  · have h' : (0 : Int) < (ns.length : Int) := by omega
    have hn : (ns.length : Int) ≠ 0 := by omega
    rw [if_pos h, ix_s] at hc
    refine ⟨((mix3 c k).fdiv 5).fmod 1000003, ?_⟩
    simp only [mix3, mix2, mix1]
    simp -implicitDefEqProofs only [d__law_mixed, g__law_mixed, xVar_a, xC_a, xBin_a, xUn_a, tOf_a, tTru_a, tNotP_a, tAndP_a, tOrP_a, tyes_a, tno_a, tYesP_a, xNil_a, xCons_a, xTup_a, xLst_a, xAnd_a, xOr_a, xIf_a, xChain_a, oNo_a, oAt_a, xSl_a, xCall_a, xSeq_a, xIt_a, xLc_a, gSet_a, gTupD_a, gsNil_a, gsCons_a, sNop_a, sBrk_a, sCnt_a, sSeq_a, sRet_a, sIf_a, sSet_a, sTgt_a, sAug_a, sApp_a, sExt_a, sPut_a, sPutK_a, pkO_s, sFor_a, sWhile_a, sPar_a, runD_a, b2_s, c2_s, sqO_nx, sqO_rt, sqO_bk, sqO_ct, ifO_t, ifO_f, stO_s, endO_nx, endO_rt, andO_t, andO_f, orO_t, orO_f, chO_s, chP_t, chP_f, slO_s, atO_i, lcO_s, forO_s, gsO_s, nxO_s, tgO_s, paO_s, apO_s, exO_s, plO_s, ptO_s, dB_b, tru_b, tru_n, tru_i, tru_l, tru_t, is_n, isn_n, nn_n, nn_i, nn_b, nn_t, nn_l, add_ii, add'_ii, sub_ii, neg_i, lt_ii, le_ii, gt_ii, ge_ii, ix_l, ix_t, ix_s, at0, at1, at2, sl_l, sl_t, len_l, len_t, len_s, abs_i, int_i, int_b, max_ii, min_ii, tup_s, lst_s, seq_l, seq_t, sum_s, wipe_n, wipe_c, mul_ii, fdiv_ii, mod_ii, add_ll, add_tt, setAll, mkT, mkL, oNot, List.getD_cons_zero, List.getD_cons_succ, List.length_cons, List.length_nil, List.set_cons_zero, List.set_cons_succ, List.map_cons, List.map_nil, List.replicate, List.cons_append, List.nil_append, List.append_nil, Option.bind_some, Option.map_some, List.all_cons, List.all_nil, if_true, if_false, reduceIte, Nat.reduceAdd, Nat.reduceSub, Nat.reduceLT, Nat.reduceLeDiff, Nat.reduceEqDiff, decide_true, decide_false, Bool.and_true, Bool.and_self, Bool.true_and, Bool.not_true, Bool.not_false, ne_eq, not_true_eq_false, not_false_eq_true, Nat.zero_add, Bool.false_eq_true, and_self, true_and, and_true, List.length_map, h', mod_ii hn, hc, m1, m2, m3, m4, m5, mod_ii n1, mod_ii n2, mod_ii n3, mod_ii n4, fdiv_ii d1, fdiv_ii d2, fdiv_ii d3]
  · have h' : ¬ (0 : Int) < (ns.length : Int) := by omega
    rw [if_neg h] at hc
    cases hc
    refine ⟨((mix3 0 k).fdiv 5).fmod 1000003, ?_⟩
    simp only [mix3, mix2, mix1]
    simp -implicitDefEqProofs only [d__law_mixed, g__law_mixed, xVar_a, xC_a, xBin_a, xUn_a, tOf_a, tTru_a, tNotP_a, tAndP_a, tOrP_a, tyes_a, tno_a, tYesP_a, xNil_a, xCons_a, xTup_a, xLst_a, xAnd_a, xOr_a, xIf_a, xChain_a, oNo_a, oAt_a, xSl_a, xCall_a, xSeq_a, xIt_a, xLc_a, gSet_a, gTupD_a, gsNil_a, gsCons_a, sNop_a, sBrk_a, sCnt_a, sSeq_a, sRet_a, sIf_a, sSet_a, sTgt_a, sAug_a, sApp_a, sExt_a, sPut_a, sPutK_a, pkO_s, sFor_a, sWhile_a, sPar_a, runD_a, b2_s, c2_s, sqO_nx, sqO_rt, sqO_bk, sqO_ct, ifO_t, ifO_f, stO_s, endO_nx, endO_rt, andO_t, andO_f, orO_t, orO_f, chO_s, chP_t, chP_f, slO_s, atO_i, lcO_s, forO_s, gsO_s, nxO_s, tgO_s, paO_s, apO_s, exO_s, plO_s, ptO_s, dB_b, tru_b, tru_n, tru_i, tru_l, tru_t, is_n, isn_n, nn_n, nn_i, nn_b, nn_t, nn_l, add_ii, add'_ii, sub_ii, neg_i, lt_ii, le_ii, gt_ii, ge_ii, ix_l, ix_t, ix_s, at0, at1, at2, sl_l, sl_t, len_l, len_t, len_s, abs_i, int_i, int_b, max_ii, min_ii, tup_s, lst_s, seq_l, seq_t, sum_s, wipe_n, wipe_c, mul_ii, fdiv_ii, mod_ii, add_ll, add_tt, setAll, mkT, mkL, oNot, List.getD_cons_zero, List.getD_cons_succ, List.length_cons, List.length_nil, List.set_cons_zero, List.set_cons_succ, List.map_cons, List.map_nil, List.replicate, List.cons_append, List.nil_append, List.append_nil, Option.bind_some, Option.map_some, List.all_cons, List.all_nil, if_true, if_false, reduceIte, Nat.reduceAdd, Nat.reduceSub, Nat.reduceLT, Nat.reduceLeDiff, Nat.reduceEqDiff, decide_true, decide_false, Bool.and_true, Bool.and_self, Bool.true_and, Bool.not_true, Bool.not_false, ne_eq, not_true_eq_false, not_false_eq_true, Nat.zero_add, Bool.false_eq_true, and_self, true_and, and_true, List.length_map, h', m1, m2, m3, m4, m5, mod_ii n1, mod_ii n2, mod_ii n3, mod_ii n4, fdiv_ii d1, fdiv_ii d2, fdiv_ii d3]
theorem row_int (ns : List Int) : ∃ r : List Int, r.length = 48 ∧ d__law_row [scr (ns.map PyData.int), .int 48] = some (.list (r.map PyData.int)) := by
  have hr : oR1 [.int 48] = some (List.map (fun i => PyData.int (i : Nat)) (List.range 48)) := oR1_nat 48 (by omega)
  have n1 : (1000 : Int) ≠ 0 := by decide
  have d1 := divOk_lit (b := 1000) (by decide) Sm.lit
  have key : ∀ big : Int, ∃ r : List Int, r.length = 48 ∧ ∃ x y, forL (gSet 4) l1__law_row (List.map (fun i => PyData.int (i : Nat)) (List.range 48)) [some (scr (ns.map PyData.int)), some (.int 48), some (.int big), some (.list []), none] = some (.nx [some (scr (ns.map PyData.int)), some (.int 48), x, some (.list (r.map PyData.int)), y]) := fun big => by
    obtain ⟨ρ', e, h⟩ := forL_inv (g := gSet 4) (b := l1__law_row) (fun i : Nat => PyData.int (i : Nat))
      (fun pre rest ρ => pre.length + rest.length = 48 ∧ ∃ (r : List Int) (big : Int) (j : Option D), r.length = pre.length ∧ ρ = [some (scr (ns.map PyData.int)), some (.int 48), some (.int big), some (.list (r.map PyData.int)), j]) (fun pre x rest ρ ⟨hl, r, big, j, hrl, e⟩ => by
        subst e
        have hx : (r.map PyData.int).length < 16777216 := by rw [List.length_map]; simp at hl; omega
        obtain ⟨v, hv⟩ := mixed_int ns x
        by_cases hb : 0 < big
        · refine ⟨_, [some (scr (ns.map PyData.int)), some (.int 48), some (.int (big.fdiv 1000)), some (.list ((r ++ [big.fmod 1000]).map PyData.int)), some (.int x)], rfl, .inl ?_, by simp at hl ⊢; omega, r ++ [big.fmod 1000], big.fdiv 1000, some (.int x), by simp; omega, rfl⟩
          simp -implicitDefEqProofs only [l1__law_row, xVar_a, xC_a, xBin_a, xUn_a, tOf_a, tTru_a, tNotP_a, tAndP_a, tOrP_a, tyes_a, tno_a, tYesP_a, xNil_a, xCons_a, xTup_a, xLst_a, xAnd_a, xOr_a, xIf_a, xChain_a, oNo_a, oAt_a, xSl_a, xCall_a, xSeq_a, xIt_a, xLc_a, gSet_a, gTupD_a, gsNil_a, gsCons_a, sNop_a, sBrk_a, sCnt_a, sSeq_a, sRet_a, sIf_a, sSet_a, sTgt_a, sAug_a, sApp_a, sExt_a, sPut_a, sPutK_a, pkO_s, sFor_a, sWhile_a, sPar_a, runD_a, b2_s, c2_s, sqO_nx, sqO_rt, sqO_bk, sqO_ct, ifO_t, ifO_f, stO_s, endO_nx, endO_rt, andO_t, andO_f, orO_t, orO_f, chO_s, chP_t, chP_f, slO_s, atO_i, lcO_s, forO_s, gsO_s, nxO_s, tgO_s, paO_s, apO_s, exO_s, plO_s, ptO_s, dB_b, tru_b, tru_n, tru_i, tru_l, tru_t, is_n, isn_n, nn_n, nn_i, nn_b, nn_t, nn_l, add_ii, add'_ii, sub_ii, neg_i, lt_ii, le_ii, gt_ii, ge_ii, ix_l, ix_t, ix_s, at0, at1, at2, sl_l, sl_t, len_l, len_t, len_s, abs_i, int_i, int_b, max_ii, min_ii, tup_s, lst_s, seq_l, seq_t, sum_s, wipe_n, wipe_c, mul_ii, fdiv_ii, mod_ii, add_ll, add_tt, setAll, mkT, mkL, oNot, List.getD_cons_zero, List.getD_cons_succ, List.length_cons, List.length_nil, List.set_cons_zero, List.set_cons_succ, List.map_cons, List.map_nil, List.replicate, List.cons_append, List.nil_append, List.append_nil, Option.bind_some, Option.map_some, List.all_cons, List.all_nil, if_true, if_false, reduceIte, Nat.reduceAdd, Nat.reduceSub, Nat.reduceLT, Nat.reduceLeDiff, Nat.reduceEqDiff, decide_true, decide_false, Bool.and_true, Bool.and_self, Bool.true_and, Bool.not_true, Bool.not_false, ne_eq, not_true_eq_false, not_false_eq_true, Nat.zero_add, Bool.false_eq_true, and_self, true_and, and_true, hb, mod_ii n1, fdiv_ii d1, hx, List.map_append]
        · refine ⟨_, [some (scr (ns.map PyData.int)), some (.int 48), some (.int big), some (.list ((r ++ [v]).map PyData.int)), some (.int x)], rfl, .inl ?_, by simp at hl ⊢; omega, r ++ [v], big, some (.int x), by simp; omega, rfl⟩
          simp -implicitDefEqProofs only [l1__law_row, xVar_a, xC_a, xBin_a, xUn_a, tOf_a, tTru_a, tNotP_a, tAndP_a, tOrP_a, tyes_a, tno_a, tYesP_a, xNil_a, xCons_a, xTup_a, xLst_a, xAnd_a, xOr_a, xIf_a, xChain_a, oNo_a, oAt_a, xSl_a, xCall_a, xSeq_a, xIt_a, xLc_a, gSet_a, gTupD_a, gsNil_a, gsCons_a, sNop_a, sBrk_a, sCnt_a, sSeq_a, sRet_a, sIf_a, sSet_a, sTgt_a, sAug_a, sApp_a, sExt_a, sPut_a, sPutK_a, pkO_s, sFor_a, sWhile_a, sPar_a, runD_a, b2_s, c2_s, sqO_nx, sqO_rt, sqO_bk, sqO_ct, ifO_t, ifO_f, stO_s, endO_nx, endO_rt, andO_t, andO_f, orO_t, orO_f, chO_s, chP_t, chP_f, slO_s, atO_i, lcO_s, forO_s, gsO_s, nxO_s, tgO_s, paO_s, apO_s, exO_s, plO_s, ptO_s, dB_b, tru_b, tru_n, tru_i, tru_l, tru_t, is_n, isn_n, nn_n, nn_i, nn_b, nn_t, nn_l, add_ii, add'_ii, sub_ii, neg_i, lt_ii, le_ii, gt_ii, ge_ii, ix_l, ix_t, ix_s, at0, at1, at2, sl_l, sl_t, len_l, len_t, len_s, abs_i, int_i, int_b, max_ii, min_ii, tup_s, lst_s, seq_l, seq_t, sum_s, wipe_n, wipe_c, mul_ii, fdiv_ii, mod_ii, add_ll, add_tt, setAll, mkT, mkL, oNot, List.getD_cons_zero, List.getD_cons_succ, List.length_cons, List.length_nil, List.set_cons_zero, List.set_cons_succ, List.map_cons, List.map_nil, List.replicate, List.cons_append, List.nil_append, List.append_nil, Option.bind_some, Option.map_some, List.all_cons, List.all_nil, if_true, if_false, reduceIte, Nat.reduceAdd, Nat.reduceSub, Nat.reduceLT, Nat.reduceLeDiff, Nat.reduceEqDiff, decide_true, decide_false, Bool.and_true, Bool.and_self, Bool.true_and, Bool.not_true, Bool.not_false, ne_eq, not_true_eq_false, not_false_eq_true, Nat.zero_add, Bool.false_eq_true, and_self, true_and, and_true, hb, hv, hx, List.map_append]) (List.range 48) [] [some (scr (ns.map PyData.int)), some (.int 48), some (.int big), some (.list []), none] ⟨by simp, [], big, none, rfl, rfl⟩
    obtain ⟨_, r, big', j, hrl, e'⟩ := h
    subst e'
    exact ⟨r, by simpa using hrl, _, _, e⟩
  have pw : oPow (.int 10) (.int 18) = some (.int 1000000000000000000) := by
    show (if (0 : Int) ≤ 18 ∧ (18 : Int) ≤ 1000000 ∧ (10 : Int).natAbs < 2 ^ 64 then some (PyData.int (10 ^ (18 : Int).toNat)) else none) = _
    rw [if_pos (by decide)]
    rfl
  cases ns with
  | nil =>
    obtain ⟨r, h1, x, y, h2⟩ := key 0
    refine ⟨r, h1, ?_⟩
    have e0 : ¬ (0 : Int) < ((0 : Nat) : Int) := by decide
    simp only [List.map_nil] at h2
    simp -implicitDefEqProofs only [d__law_row, g__law_row, xVar_a, xC_a, xBin_a, xUn_a, tOf_a, tTru_a, tNotP_a, tAndP_a, tOrP_a, tyes_a, tno_a, tYesP_a, xNil_a, xCons_a, xTup_a, xLst_a, xAnd_a, xOr_a, xIf_a, xChain_a, oNo_a, oAt_a, xSl_a, xCall_a, xSeq_a, xIt_a, xLc_a, gSet_a, gTupD_a, gsNil_a, gsCons_a, sNop_a, sBrk_a, sCnt_a, sSeq_a, sRet_a, sIf_a, sSet_a, sTgt_a, sAug_a, sApp_a, sExt_a, sPut_a, sPutK_a, pkO_s, sFor_a, sWhile_a, sPar_a, runD_a, b2_s, c2_s, sqO_nx, sqO_rt, sqO_bk, sqO_ct, ifO_t, ifO_f, stO_s, endO_nx, endO_rt, andO_t, andO_f, orO_t, orO_f, chO_s, chP_t, chP_f, slO_s, atO_i, lcO_s, forO_s, gsO_s, nxO_s, tgO_s, paO_s, apO_s, exO_s, plO_s, ptO_s, dB_b, tru_b, tru_n, tru_i, tru_l, tru_t, is_n, isn_n, nn_n, nn_i, nn_b, nn_t, nn_l, add_ii, add'_ii, sub_ii, neg_i, lt_ii, le_ii, gt_ii, ge_ii, ix_l, ix_t, ix_s, at0, at1, at2, sl_l, sl_t, len_l, len_t, len_s, abs_i, int_i, int_b, max_ii, min_ii, tup_s, lst_s, seq_l, seq_t, sum_s, wipe_n, wipe_c, mul_ii, fdiv_ii, mod_ii, add_ll, add_tt, setAll, mkT, mkL, oNot, List.getD_cons_zero, List.getD_cons_succ, List.length_cons, List.length_nil, List.set_cons_zero, List.set_cons_succ, List.map_cons, List.map_nil, List.replicate, List.cons_append, List.nil_append, List.append_nil, Option.bind_some, Option.map_some, List.all_cons, List.all_nil, if_true, if_false, reduceIte, Nat.reduceAdd, Nat.reduceSub, Nat.reduceLT, Nat.reduceLeDiff, Nat.reduceEqDiff, decide_true, decide_false, Bool.and_true, Bool.and_self, Bool.true_and, Bool.not_true, Bool.not_false, ne_eq, not_true_eq_false, not_false_eq_true, Nat.zero_add, Bool.false_eq_true, and_self, true_and, and_true, e0, hr, h2]
  | cons c cs =>
    have e0 : (0 : Int) < ((cs.length + 1 : Nat) : Int) := by omega
    have hc : atI (PyData.int c :: cs.map PyData.int) 0 = some (.int c) := at0 _ _
    by_cases hb : (1000000000000000000 : Int) ≤ c
    · obtain ⟨r, h1, x, y, h2⟩ := key c
      refine ⟨r, h1, ?_⟩
      simp only [List.map_cons] at h2
      simp -implicitDefEqProofs only [d__law_row, g__law_row, xVar_a, xC_a, xBin_a, xUn_a, tOf_a, tTru_a, tNotP_a, tAndP_a, tOrP_a, tyes_a, tno_a, tYesP_a, xNil_a, xCons_a, xTup_a, xLst_a, xAnd_a, xOr_a, xIf_a, xChain_a, oNo_a, oAt_a, xSl_a, xCall_a, xSeq_a, xIt_a, xLc_a, gSet_a, gTupD_a, gsNil_a, gsCons_a, sNop_a, sBrk_a, sCnt_a, sSeq_a, sRet_a, sIf_a, sSet_a, sTgt_a, sAug_a, sApp_a, sExt_a, sPut_a, sPutK_a, pkO_s, sFor_a, sWhile_a, sPar_a, runD_a, b2_s, c2_s, sqO_nx, sqO_rt, sqO_bk, sqO_ct, ifO_t, ifO_f, stO_s, endO_nx, endO_rt, andO_t, andO_f, orO_t, orO_f, chO_s, chP_t, chP_f, slO_s, atO_i, lcO_s, forO_s, gsO_s, nxO_s, tgO_s, paO_s, apO_s, exO_s, plO_s, ptO_s, dB_b, tru_b, tru_n, tru_i, tru_l, tru_t, is_n, isn_n, nn_n, nn_i, nn_b, nn_t, nn_l, add_ii, add'_ii, sub_ii, neg_i, lt_ii, le_ii, gt_ii, ge_ii, ix_l, ix_t, ix_s, at0, at1, at2, sl_l, sl_t, len_l, len_t, len_s, abs_i, int_i, int_b, max_ii, min_ii, tup_s, lst_s, seq_l, seq_t, sum_s, wipe_n, wipe_c, mul_ii, fdiv_ii, mod_ii, add_ll, add_tt, setAll, mkT, mkL, oNot, List.getD_cons_zero, List.getD_cons_succ, List.length_cons, List.length_nil, List.set_cons_zero, List.set_cons_succ, List.map_cons, List.map_nil, List.replicate, List.cons_append, List.nil_append, List.append_nil, Option.bind_some, Option.map_some, List.all_cons, List.all_nil, if_true, if_false, reduceIte, Nat.reduceAdd, Nat.reduceSub, Nat.reduceLT, Nat.reduceLeDiff, Nat.reduceEqDiff, decide_true, decide_false, Bool.and_true, Bool.and_self, Bool.true_and, Bool.not_true, Bool.not_false, ne_eq, not_true_eq_false, not_false_eq_true, Nat.zero_add, Bool.false_eq_true, and_self, true_and, and_true, List.length_map, e0, hc, pw, hb, hr, h2]
    · obtain ⟨r, h1, x, y, h2⟩ := key 0
      refine ⟨r, h1, ?_⟩
      simp only [List.map_cons] at h2
      simp -implicitDefEqProofs only [d__law_row, g__law_row, xVar_a, xC_a, xBin_a, xUn_a, tOf_a, tTru_a, tNotP_a, tAndP_a, tOrP_a, tyes_a, tno_a, tYesP_a, xNil_a, xCons_a, xTup_a, xLst_a, xAnd_a, xOr_a, xIf_a, xChain_a, oNo_a, oAt_a, xSl_a, xCall_a, xSeq_a, xIt_a, xLc_a, gSet_a, gTupD_a, gsNil_a, gsCons_a, sNop_a, sBrk_a, sCnt_a, sSeq_a, sRet_a, sIf_a, sSet_a, sTgt_a, sAug_a, sApp_a, sExt_a, sPut_a, sPutK_a, pkO_s, sFor_a, sWhile_a, sPar_a, runD_a, b2_s, c2_s, sqO_nx, sqO_rt, sqO_bk, sqO_ct, ifO_t, ifO_f, stO_s, endO_nx, endO_rt, andO_t, andO_f, orO_t, orO_f, chO_s, chP_t, chP_f, slO_s, atO_i, lcO_s, forO_s, gsO_s, nxO_s, tgO_s, paO_s, apO_s, exO_s, plO_s, ptO_s, dB_b, tru_b, tru_n, tru_i, tru_l, tru_t, is_n, isn_n, nn_n, nn_i, nn_b, nn_t, nn_l, add_ii, add'_ii, sub_ii, neg_i, lt_ii, le_ii, gt_ii, ge_ii, ix_l, ix_t, ix_s, at0, at1, at2, sl_l, sl_t, len_l, len_t, len_s, abs_i, int_i, int_b, max_ii, min_ii, tup_s, lst_s, seq_l, seq_t, sum_s, wipe_n, wipe_c, mul_ii, fdiv_ii, mod_ii, add_ll, add_tt, setAll, mkT, mkL, oNot, List.getD_cons_zero, List.getD_cons_succ, List.length_cons, List.length_nil, List.set_cons_zero, List.set_cons_succ, List.map_cons, List.map_nil, List.replicate, List.cons_append, List.nil_append, List.append_nil, Option.bind_some, Option.map_some, List.all_cons, List.all_nil, if_true, if_false, reduceIte, Nat.reduceAdd, Nat.reduceSub, Nat.reduceLT, Nat.reduceLeDiff, Nat.reduceEqDiff, decide_true, decide_false, Bool.and_true, Bool.and_self, Bool.true_and, Bool.not_true, Bool.not_false, ne_eq, not_true_eq_false, not_false_eq_true, Nat.zero_add, Bool.false_eq_true, and_self, true_and, and_true, List.length_map, e0, hc, pw, hb, hr, h2]
end K32

namespace K32
open PySem PySem.Spec PyProof.Rows L2 Pm
abbrev Ship := Int × Int × Int × Int
def shD (s : Ship) : D := .tuple [.int s.1, .int s.2.1, .int s.2.2.1, .int s.2.2.2]
def mx (d a : Int) : Int := if a > d then a else d
def stp (S : List Ship) (w : List Int) (d : Int) (j : Nat) : Int := mx d (S.getD j (0, 0, 0, 0)).1 + w.getD j 0
def ends0 (S : List Ship) (w : List Int) (d : Int) : List Nat → List (Nat × Int)
  | [] => []
  | j :: r => (j, stp S w d j - 1) :: ends0 S w (stp S w d j) r
theorem ends0_fst (S : List Ship) (w : List Int) : ∀ (o : List Nat) (d : Int), (ends0 S w d o).map (·.1) = o
  | [], _ => rfl
  | j :: r, d => by simp [ends0, ends0_fst S w r]
def encK (kd : List (Nat × Int)) : List (D × D) := kd.map fun p => (PyData.int (p.1 : Nat), PyData.int p.2)
theorem has_encK (kd : List (Nat × Int)) (x : Nat) (h : x ∉ kd.map (·.1)) : dHasD (encK kd) (x : Int) = false := by
  induction kd with
  | nil => rfl
  | cons p kd ih =>
    simp only [List.map_cons, List.mem_cons, not_or] at h
    have h1 : isKeyI (x : Int) (PyData.int (p.1 : Nat)) = false := by
      simp only [isKeyI]
      exact beq_eq_false_iff_ne.mpr (by omega)
    have h2 := ih h.2
    unfold dHasD at h2 ⊢
    simp only [encK, List.map_cons, List.any_cons, h1, Bool.false_or]
    exact h2
theorem put_encK (kd : List (Nat × Int)) (x : Nat) (y : Int) (h : x ∉ kd.map (·.1)) : dPutD (encK kd) (x : Int) (.int y) = encK (kd ++ [(x, y)]) := by
  unfold dPutD
  rw [has_encK kd x h]
  simp [encK]
theorem get_encK (kd : List (Nat × Int)) (hn : (kd.map (·.1)).Nodup) : ∀ p ∈ kd, dGetD (encK kd) (p.1 : Int) = some (.int p.2) := by
  induction kd with
  | nil => intro p hp; cases hp
  | cons q kd ih =>
    intro p hp
    rw [List.map_cons, List.nodup_cons] at hn
    rcases List.mem_cons.mp hp with e | hp
    · subst e
      have h1 : isKeyI (p.1 : Int) (PyData.int (p.1 : Nat)) = true := by
        simp only [isKeyI]
        exact beq_self_eq_true _
      simp only [dGetD, encK, List.map_cons, List.find?_cons, h1]
      rfl
    · have hne : p.1 ≠ q.1 := fun e => hn.1 (by rw [← e]; exact List.mem_map_of_mem hp)
      have h1 : isKeyI (p.1 : Int) (PyData.int (q.1 : Nat)) = false := by
        simp only [isKeyI]
        exact beq_eq_false_iff_ne.mpr (by omega)
      have h2 := ih hn.2 p hp
      unfold dGetD at h2 ⊢
      simp only [encK, List.map_cons, List.find?_cons, h1]
      exact h2
theorem none_encK (kd : List (Nat × Int)) : ((encK kd).any fun p => isNone p.1) = false := by
  induction kd with
  | nil => rfl
  | cons p kd ih => simp only [encK, List.map_cons, List.any_cons, nn_i, Bool.false_or] at ih ⊢; exact ih
theorem at_map {α : Type} (f : α → D) (xs : List α) (d : α) (j : Nat) (h : j < xs.length) : atI (xs.map f) (j : Int) = some (f (xs.getD j d)) := by
  rw [atI_nat _ j (by simpa using h)]
  simp [h]
theorem ends_in_eq (S : List Ship) (w : List Int) (o : List Nat) (hS : ∀ j ∈ o, j < S.length) (hw : ∀ j ∈ o, j < w.length) (hn : o.Nodup) (ho : o.length ≤ 1000) :
    d_ends_in [.tuple (S.map shD), .tuple (w.map PyData.int), .tuple (o.map fun j => PyData.int (j : Nat))] = some (.dict (encK (ends0 S w 0 o))) := by
  obtain ⟨ρ', e, h⟩ := forL_inv (g := gSet 3) (b := l1_ends_in) (fun j : Nat => PyData.int (j : Nat))
    (fun pre rest ρ => pre ++ rest = o ∧ ∃ kd d jv, kd.map (·.1) = pre ∧ kd ++ ends0 S w d rest = ends0 S w 0 o ∧ ρ = [some (.tuple (S.map shD)), some (.tuple (w.map PyData.int)), some (.tuple (o.map fun j => PyData.int (j : Nat))), jv, some (.int d), some (.dict (encK kd))]) (fun pre x rest ρ ⟨hp, kd, d, jv, hk, he, e⟩ => by
      subst e
      have hx : x ∈ o := by rw [← hp]; simp
      have hd : x ∉ kd.map (·.1) := by
        rw [hk]
        rw [← hp] at hn
        have := (List.nodup_append.mp hn).2.2
        exact fun hm => this x hm x (by simp) rfl
      have i1 := at_map shD S (0, 0, 0, 0) x (hS x hx)
      have i2 := at_map PyData.int w 0 x (hw x hx)
      have hl : kd.length < 16777216 := by
        have := congrArg List.length hk
        have h2 := congrArg List.length hp
        simp at this h2
        omega
      have hl' : (encK kd).length < 16777216 := by rw [encK, List.length_map]; exact hl
      refine ⟨_, [some (.tuple (S.map shD)), some (.tuple (w.map PyData.int)), some (.tuple (o.map fun j => PyData.int (j : Nat))), some (.int x), some (.int (stp S w d x)), some (.dict (encK (kd ++ [(x, stp S w d x - 1)])))], rfl, .inl ?_, by rw [List.append_assoc]; exact hp, kd ++ [(x, stp S w d x - 1)], stp S w d x, some (.int x), by rw [List.map_append, hk]; rfl, by rw [List.append_assoc]; exact he, rfl⟩
      have hput := put_encK kd x (stp S w d x - 1) hd
      rw [← hput]
      simp -implicitDefEqProofs only [l1_ends_in, xVar_a, xC_a, xBin_a, xUn_a, tOf_a, tTru_a, tNotP_a, tAndP_a, tOrP_a, tyes_a, tno_a, tYesP_a, xNil_a, xCons_a, xTup_a, xLst_a, xAnd_a, xOr_a, xIf_a, xChain_a, oNo_a, oAt_a, xSl_a, xCall_a, xSeq_a, xIt_a, xLc_a, gSet_a, gTupD_a, gsNil_a, gsCons_a, sNop_a, sBrk_a, sCnt_a, sSeq_a, sRet_a, sIf_a, sSet_a, sTgt_a, sAug_a, sApp_a, sExt_a, sPut_a, sPutK_a, pkO_s, sFor_a, sWhile_a, sPar_a, runD_a, b2_s, c2_s, sqO_nx, sqO_rt, sqO_bk, sqO_ct, ifO_t, ifO_f, stO_s, endO_nx, endO_rt, andO_t, andO_f, orO_t, orO_f, chO_s, chP_t, chP_f, slO_s, atO_i, lcO_s, forO_s, gsO_s, nxO_s, tgO_s, paO_s, apO_s, exO_s, plO_s, ptO_s, dB_b, tru_b, tru_n, tru_i, tru_l, tru_t, is_n, isn_n, nn_n, nn_i, nn_b, nn_t, nn_l, add_ii, add'_ii, sub_ii, neg_i, lt_ii, le_ii, gt_ii, ge_ii, ix_l, ix_t, ix_s, at0, at1, at2, sl_l, sl_t, len_l, len_t, len_s, abs_i, int_i, int_b, max_ii, min_ii, tup_s, lst_s, seq_l, seq_t, sum_s, wipe_n, wipe_c, mul_ii, fdiv_ii, mod_ii, add_ll, add_tt, setAll, mkT, mkL, oNot, List.getD_cons_zero, List.getD_cons_succ, List.length_cons, List.length_nil, List.set_cons_zero, List.set_cons_succ, List.map_cons, List.map_nil, List.replicate, List.cons_append, List.nil_append, List.append_nil, Option.bind_some, Option.map_some, List.all_cons, List.all_nil, if_true, if_false, reduceIte, Nat.reduceAdd, Nat.reduceSub, Nat.reduceLT, Nat.reduceLeDiff, Nat.reduceEqDiff, decide_true, decide_false, Bool.and_true, Bool.and_self, Bool.true_and, Bool.not_true, Bool.not_false, ne_eq, not_true_eq_false, not_false_eq_true, Nat.zero_add, Bool.false_eq_true, and_self, true_and, and_true, i1, i2, hl', shD, stp, mx]) o [] [some (.tuple (S.map shD)), some (.tuple (w.map PyData.int)), some (.tuple (o.map fun j => PyData.int (j : Nat))), none, some (.int 0), some (.dict [])] ⟨rfl, [], 0, none, rfl, rfl, rfl⟩
  obtain ⟨_, kd, d, jv, _, he, e'⟩ := h
  rw [ends0, List.append_nil] at he
  subst e' he
  simp -implicitDefEqProofs only [d_ends_in, g_ends_in, xVar_a, xC_a, xBin_a, xUn_a, tOf_a, tTru_a, tNotP_a, tAndP_a, tOrP_a, tyes_a, tno_a, tYesP_a, xNil_a, xCons_a, xTup_a, xLst_a, xAnd_a, xOr_a, xIf_a, xChain_a, oNo_a, oAt_a, xSl_a, xCall_a, xSeq_a, xIt_a, xLc_a, gSet_a, gTupD_a, gsNil_a, gsCons_a, sNop_a, sBrk_a, sCnt_a, sSeq_a, sRet_a, sIf_a, sSet_a, sTgt_a, sAug_a, sApp_a, sExt_a, sPut_a, sPutK_a, pkO_s, sFor_a, sWhile_a, sPar_a, runD_a, b2_s, c2_s, sqO_nx, sqO_rt, sqO_bk, sqO_ct, ifO_t, ifO_f, stO_s, endO_nx, endO_rt, andO_t, andO_f, orO_t, orO_f, chO_s, chP_t, chP_f, slO_s, atO_i, lcO_s, forO_s, gsO_s, nxO_s, tgO_s, paO_s, apO_s, exO_s, plO_s, ptO_s, dB_b, tru_b, tru_n, tru_i, tru_l, tru_t, is_n, isn_n, nn_n, nn_i, nn_b, nn_t, nn_l, add_ii, add'_ii, sub_ii, neg_i, lt_ii, le_ii, gt_ii, ge_ii, ix_l, ix_t, ix_s, at0, at1, at2, sl_l, sl_t, len_l, len_t, len_s, abs_i, int_i, int_b, max_ii, min_ii, tup_s, lst_s, seq_l, seq_t, sum_s, wipe_n, wipe_c, mul_ii, fdiv_ii, mod_ii, add_ll, add_tt, setAll, mkT, mkL, oNot, List.getD_cons_zero, List.getD_cons_succ, List.length_cons, List.length_nil, List.set_cons_zero, List.set_cons_succ, List.map_cons, List.map_nil, List.replicate, List.cons_append, List.nil_append, List.append_nil, Option.bind_some, Option.map_some, List.all_cons, List.all_nil, if_true, if_false, reduceIte, Nat.reduceAdd, Nat.reduceSub, Nat.reduceLT, Nat.reduceLeDiff, Nat.reduceEqDiff, decide_true, decide_false, Bool.and_true, Bool.and_self, Bool.true_and, Bool.not_true, Bool.not_false, ne_eq, not_true_eq_false, not_false_eq_true, Nat.zero_add, Bool.false_eq_true, and_self, true_and, and_true, e]
def keeps0 (S : List Ship) (w : List Int) (o : List Nat) : Bool := (ends0 S w 0 o).all fun p => decide (p.2 ≤ (S.getD p.1 (0, 0, 0, 0)).2.2.2)
theorem at3 (x y z u : D) (xs : List D) : atI (x :: y :: z :: u :: xs) 3 = some u := by
  unfold atI ixN
  rw [if_pos (by decide), if_pos (by simp only [List.length_cons]; omega)]
  rfl
theorem keeps_eq (S : List Ship) (w : List Int) (o : List Nat) (hS : ∀ j ∈ o, j < S.length) (hw : ∀ j ∈ o, j < w.length) (hn : o.Nodup) (ho : o.length ≤ 1000) :
    d_keeps_with [.tuple (S.map shD), .tuple (w.map PyData.int), .tuple (o.map fun j => PyData.int (j : Nat))] = some (.bool (keeps0 S w o)) := by
  have h1 := ends_in_eq S w o hS hw hn ho
  have hm : lcL (gSet 4) tYesP (xBin oLe (xBin oIxK (xVar 3) (xVar 4)) (xBin oIx (xBin oIx (xVar 0) (xVar 4)) (xC (.int 3)))) [some (.tuple (S.map shD)), some (.tuple (w.map PyData.int)), some (.tuple (o.map fun j => PyData.int (j : Nat))), some (.dict (encK (ends0 S w 0 o))), none] (o.map fun j => PyData.int (j : Nat)) = some ((ends0 S w 0 o).map fun p => PyData.bool (decide (p.2 ≤ (S.getD p.1 (0, 0, 0, 0)).2.2.2))) := by
    have e : (o.map fun j => PyData.int (j : Nat)) = (ends0 S w 0 o).map fun p => PyData.int (p.1 : Nat) := by
      conv => lhs; rw [← ends0_fst S w o 0]
      rw [List.map_map]
      rfl
    conv => lhs; arg 5; rw [e]
    refine lcL_map _ _ _ fun p hp => ?_
    have hpo : p.1 ∈ o := by
      rw [← ends0_fst S w o 0]
      exact List.mem_map_of_mem hp
    have hg := get_encK (ends0 S w 0 o) (by rw [ends0_fst]; exact hn) p hp
    have hk : oIxK (.dict (encK (ends0 S w 0 o))) (.int (p.1 : Nat)) = some (.int p.2) := by
      show (if ((encK (ends0 S w 0 o)).any fun p => isNone p.1) then none else dGetD _ _) = _
      rw [none_encK, if_neg Bool.false_ne_true, hg]
    have i1 := at_map shD S (0, 0, 0, 0) p.1 (hS p.1 hpo)
    simp -implicitDefEqProofs only [xVar_a, xC_a, xBin_a, xUn_a, tOf_a, tTru_a, tNotP_a, tAndP_a, tOrP_a, tyes_a, tno_a, tYesP_a, xNil_a, xCons_a, xTup_a, xLst_a, xAnd_a, xOr_a, xIf_a, xChain_a, oNo_a, oAt_a, xSl_a, xCall_a, xSeq_a, xIt_a, xLc_a, gSet_a, gTupD_a, gsNil_a, gsCons_a, sNop_a, sBrk_a, sCnt_a, sSeq_a, sRet_a, sIf_a, sSet_a, sTgt_a, sAug_a, sApp_a, sExt_a, sPut_a, sPutK_a, pkO_s, sFor_a, sWhile_a, sPar_a, runD_a, b2_s, c2_s, sqO_nx, sqO_rt, sqO_bk, sqO_ct, ifO_t, ifO_f, stO_s, endO_nx, endO_rt, andO_t, andO_f, orO_t, orO_f, chO_s, chP_t, chP_f, slO_s, atO_i, lcO_s, forO_s, gsO_s, nxO_s, tgO_s, paO_s, apO_s, exO_s, plO_s, ptO_s, dB_b, tru_b, tru_n, tru_i, tru_l, tru_t, is_n, isn_n, nn_n, nn_i, nn_b, nn_t, nn_l, add_ii, add'_ii, sub_ii, neg_i, lt_ii, le_ii, gt_ii, ge_ii, ix_l, ix_t, ix_s, at0, at1, at2, sl_l, sl_t, len_l, len_t, len_s, abs_i, int_i, int_b, max_ii, min_ii, tup_s, lst_s, seq_l, seq_t, sum_s, wipe_n, wipe_c, mul_ii, fdiv_ii, mod_ii, add_ll, add_tt, setAll, mkT, mkL, oNot, List.getD_cons_zero, List.getD_cons_succ, List.length_cons, List.length_nil, List.set_cons_zero, List.set_cons_succ, List.map_cons, List.map_nil, List.replicate, List.cons_append, List.nil_append, List.append_nil, Option.bind_some, Option.map_some, List.all_cons, List.all_nil, if_true, if_false, reduceIte, Nat.reduceAdd, Nat.reduceSub, Nat.reduceLT, Nat.reduceLeDiff, Nat.reduceEqDiff, decide_true, decide_false, Bool.and_true, Bool.and_self, Bool.true_and, Bool.not_true, Bool.not_false, ne_eq, not_true_eq_false, not_false_eq_true, Nat.zero_add, Bool.false_eq_true, and_self, true_and, and_true, hk, i1, shD, at3]
  have hb := asBools_map ((ends0 S w 0 o).map fun p => decide (p.2 ≤ (S.getD p.1 (0, 0, 0, 0)).2.2.2))
  rw [List.map_map] at hb
  have hb' : bAll [.list ((ends0 S w 0 o).map fun p => PyData.bool (decide (p.2 ≤ (S.getD p.1 (0, 0, 0, 0)).2.2.2)))] = some (.bool (keeps0 S w o)) := by
    show (asBools ((ends0 S w 0 o).map fun p => PyData.bool (decide (p.2 ≤ (S.getD p.1 (0, 0, 0, 0)).2.2.2)))).map _ = _
    have e2 : ((ends0 S w 0 o).map fun p => PyData.bool (decide (p.2 ≤ (S.getD p.1 (0, 0, 0, 0)).2.2.2))) = (ends0 S w 0 o).map (PyData.bool ∘ fun p => decide (p.2 ≤ (S.getD p.1 (0, 0, 0, 0)).2.2.2)) := rfl
    rw [e2, hb]
    simp [keeps0, List.all_map, Function.comp_def]
  simp -implicitDefEqProofs only [d_keeps_with, g_keeps_with, xVar_a, xC_a, xBin_a, xUn_a, tOf_a, tTru_a, tNotP_a, tAndP_a, tOrP_a, tyes_a, tno_a, tYesP_a, xNil_a, xCons_a, xTup_a, xLst_a, xAnd_a, xOr_a, xIf_a, xChain_a, oNo_a, oAt_a, xSl_a, xCall_a, xSeq_a, xIt_a, xLc_a, gSet_a, gTupD_a, gsNil_a, gsCons_a, sNop_a, sBrk_a, sCnt_a, sSeq_a, sRet_a, sIf_a, sSet_a, sTgt_a, sAug_a, sApp_a, sExt_a, sPut_a, sPutK_a, pkO_s, sFor_a, sWhile_a, sPar_a, runD_a, b2_s, c2_s, sqO_nx, sqO_rt, sqO_bk, sqO_ct, ifO_t, ifO_f, stO_s, endO_nx, endO_rt, andO_t, andO_f, orO_t, orO_f, chO_s, chP_t, chP_f, slO_s, atO_i, lcO_s, forO_s, gsO_s, nxO_s, tgO_s, paO_s, apO_s, exO_s, plO_s, ptO_s, dB_b, tru_b, tru_n, tru_i, tru_l, tru_t, is_n, isn_n, nn_n, nn_i, nn_b, nn_t, nn_l, add_ii, add'_ii, sub_ii, neg_i, lt_ii, le_ii, gt_ii, ge_ii, ix_l, ix_t, ix_s, at0, at1, at2, sl_l, sl_t, len_l, len_t, len_s, abs_i, int_i, int_b, max_ii, min_ii, tup_s, lst_s, seq_l, seq_t, sum_s, wipe_n, wipe_c, mul_ii, fdiv_ii, mod_ii, add_ll, add_tt, setAll, mkT, mkL, oNot, List.getD_cons_zero, List.getD_cons_succ, List.length_cons, List.length_nil, List.set_cons_zero, List.set_cons_succ, List.map_cons, List.map_nil, List.replicate, List.cons_append, List.nil_append, List.append_nil, Option.bind_some, Option.map_some, List.all_cons, List.all_nil, if_true, if_false, reduceIte, Nat.reduceAdd, Nat.reduceSub, Nat.reduceLT, Nat.reduceLeDiff, Nat.reduceEqDiff, decide_true, decide_false, Bool.and_true, Bool.and_self, Bool.true_and, Bool.not_true, Bool.not_false, ne_eq, not_true_eq_false, not_false_eq_true, Nat.zero_add, Bool.false_eq_true, and_self, true_and, and_true, h1, hm, hb']
end K32

namespace K32
open PySem PySem.Spec PyProof.Rows L2 Pm
theorem lc2L_flat {α : Type} {g : XG} {it1 : XL} {g1 : XG} {t1 : PEnv → Option Bool} {f : Xp} {vs1 : List Nat} {ρ : PEnv} (enc : α → D) (h : α → List D) : ∀ (xs : List α), (∀ x ∈ xs, ∃ ρ1 es, g (enc x) ρ = some ρ1 ∧ it1 ρ1 = some es ∧ lcL g1 t1 f (wipeP ρ1 vs1) es = some (h x)) → lc2L g tYesP it1 g1 t1 f vs1 ρ (xs.map enc) = some (xs.flatMap h)
  | [], _ => rfl
  | x :: xs, hx => by
    obtain ⟨ρ1, es, e1, e2, e3⟩ := hx x (List.mem_cons_self ..)
    have := lc2L_flat (g := g) (it1 := it1) (g1 := g1) (t1 := t1) (f := f) (vs1 := vs1) (ρ := ρ) enc h xs fun y hy => hx y (List.mem_cons_of_mem _ hy)
    simp only [List.map_cons, lc2L, e1, e2, e3, tYesP, Option.bind_some, if_true, this, List.flatMap_cons]
theorem enum_map (W : List Int) : enumD (W.map PyData.int) = (List.range W.length).map fun i => .tuple [.int (i : Nat), .int (W.getD i 0)] := by
  unfold enumD
  apply List.ext_getElem?
  intro i
  by_cases h : i < W.length
  · simp [h]
  · simp [h]
theorem zip_map (S : List Ship) (Ws : List (List Int)) (f : List Int → D) : zipD (S.map shD) (Ws.map f) = (S.zip Ws).map fun q => .tuple [shD q.1, f q.2] := by
  unfold zipD
  induction S generalizing Ws with
  | nil => simp
  | cons s S ih => cases Ws with
    | nil => simp
    | cons W Ws => simp [ih]
def wD (W : List Int) : D := .tuple (W.map PyData.int)
abbrev Rw := List Int × Int
def enX (T : Int) (p : Rw) : D := .tuple [.tuple (p.1.map PyData.int), fr p.2 T]
def stepX (lo : Int) (W : List Int) (X : List Rw) : List Rw := X.flatMap fun p => (List.range W.length).map fun i => (p.1 ++ [lo + (i : Nat)], p.2 * W.getD i 0)
def stepXT (a : List Rw × Int) (q : Ship × List Int) : List Rw × Int := (stepX q.1.2.1 q.2 a.1, a.2 * q.2.sum)
theorem sum_range (W : List Int) (P : Int) : (((List.range W.length).map fun i => P * W.getD i 0).sum) = P * W.sum := by
  have : ((List.range W.length).map fun i => W.getD i 0) = W := by
    apply List.ext_getElem?
    intro i
    by_cases h : i < W.length
    · simp [h]
    · simp [h]
  conv => rhs; rw [← this]
  induction List.range W.length with
  | nil => simp
  | cons a l ih => rw [List.map_cons, List.sum_cons, List.map_cons, List.sum_cons, ih, Int.mul_add]
theorem stepX_sum (lo : Int) (W : List Int) : ∀ X : List Rw, ((stepX lo W X).map (·.2)).sum = (X.map (·.2)).sum * W.sum
  | [] => by simp [stepX]
  | p :: X => by
    have ih := stepX_sum lo W X
    have h := sum_range W p.2
    unfold stepX at ih ⊢
    rw [List.flatMap_cons, List.map_append, List.sum_append, ih, List.map_map]
    have e : (((fun x : Rw => x.2) ∘ fun i : Nat => (p.1 ++ [lo + (i : Nat)], p.2 * W.getD i 0))) = fun i : Nat => p.2 * W.getD i 0 := rfl
    rw [e, h, List.map_cons, List.sum_cons, Int.add_mul]
structure GX (m : Nat) (a : List Rw × Int) : Prop where
  len : ∀ p ∈ a.1, p.1.length = m
  pos : ∀ p ∈ a.1, 0 ≤ p.2
  sum : (a.1.map (·.2)).sum = a.2
  tp : 0 < a.2
  ts : Sm (10 * m) a.2
  cnt : a.1.length ≤ 4 ^ m
theorem GX.step {m : Nat} {a : List Rw × Int} (g : GX m a) (q : Ship × List Int) (h0 : ∀ x ∈ q.2, 0 ≤ x) (h1 : 0 < q.2.sum) (h2 : Sm 10 q.2.sum) (h3 : q.2.length ≤ 4) : GX (m + 1) (stepXT a q) := by
  have hmem : ∀ p ∈ (stepXT a q).1, ∃ p0 ∈ a.1, ∃ i, i < q.2.length ∧ p = (p0.1 ++ [q.1.2.1 + (i : Nat)], p0.2 * q.2.getD i 0) := fun p hp => by
    simp only [stepXT, stepX, List.mem_flatMap, List.mem_map, List.mem_range] at hp
    obtain ⟨p0, hp0, i, hi, e⟩ := hp
    exact ⟨p0, hp0, i, hi, e.symm⟩
  refine ⟨fun p hp => ?_, fun p hp => ?_, ?_, Int.mul_pos g.tp h1, ?_, ?_⟩
  · obtain ⟨p0, hp0, i, hi, rfl⟩ := hmem p hp
    simp [g.len p0 hp0]
  · obtain ⟨p0, hp0, i, hi, rfl⟩ := hmem p hp
    refine Int.mul_nonneg (g.pos p0 hp0) (h0 _ ?_)
    simp [hi]
  · show ((stepX q.1.2.1 q.2 a.1).map (·.2)).sum = a.2 * q.2.sum
    rw [stepX_sum, g.sum]
  · exact (g.ts.mul h2).mono (by omega)
  · show (stepX q.1.2.1 q.2 a.1).length ≤ 4 ^ (m + 1)
    have : ∀ X : List Rw, (stepX q.1.2.1 q.2 X).length = X.length * q.2.length := fun X => by
      induction X with
      | nil => simp [stepX]
      | cons p X ih =>
        unfold stepX at ih ⊢
        rw [List.flatMap_cons, List.length_append, ih]
        simp [Nat.add_mul, Nat.add_comm]
    rw [this, Nat.pow_succ]
    exact Nat.mul_le_mul g.cnt h3
theorem kept_loop1 (S : List Ship) (Ws : List (List Int)) (hW : ∀ W ∈ Ws, (∀ x ∈ W, 0 ≤ x) ∧ 0 < W.sum ∧ Sm 10 W.sum ∧ W.length ≤ 4) (hl : (S.zip Ws).length ≤ 8) (x0 x1 x2 : Option D) :
    ∃ j5 j6 j7, GX (S.zip Ws).length ((S.zip Ws).foldl stepXT ([([], 1)], 1)) ∧ forL (gTupD 2 (gsCons (gSet 5) (gsCons (gSet 6) gsNil))) l1_chance_kept ((S.zip Ws).map fun q => .tuple [shD q.1, wD q.2]) [x0, x1, x2, some (.list [.tuple [.tuple [], fr 1 1]]), none, none, none, none, none, none, none, none] =
      some (.nx [x0, x1, x2, some (.list (((S.zip Ws).foldl stepXT ([([], 1)], 1)).1.map (enX ((S.zip Ws).foldl stepXT ([([], 1)], 1)).2))), none, j5, j6, j7, none, none, none, none]) := by
  obtain ⟨ρ', e, h⟩ := forL_inv (g := gTupD 2 (gsCons (gSet 5) (gsCons (gSet 6) gsNil))) (b := l1_chance_kept) (fun q : Ship × List Int => .tuple [shD q.1, wD q.2])
    (fun pre rest ρ => pre ++ rest = S.zip Ws ∧ ∃ j5 j6 j7, GX pre.length (pre.foldl stepXT ([([], 1)], 1)) ∧ ρ = [x0, x1, x2, some (.list ((pre.foldl stepXT ([([], 1)], 1)).1.map (enX (pre.foldl stepXT ([([], 1)], 1)).2))), none, j5, j6, j7, none, none, none, none]) (fun pre q rest ρ ⟨hp, j5, j6, j7, gx, e⟩ => by
      subst e
      have hq : q.2 ∈ Ws := by
        have : q ∈ S.zip Ws := by rw [← hp]; simp
        exact (List.of_mem_zip (a := q.1) (b := q.2) this).2
      obtain ⟨w1, w2, w3, w4⟩ := hW q.2 hq
      have hlen : pre.length ≤ 7 := by
        have := congrArg List.length hp
        simp only [List.length_append, List.length_cons] at this
        omega
      have gx' := gx.step q w1 w2 w3 w4
      generalize hA : pre.foldl stepXT ([([], 1)], 1) = A at *
      have hfold : (pre ++ [q]).foldl stepXT ([([], 1)], 1) = stepXT A q := by rw [List.foldl_append, hA]; rfl
      have hs := sum_ints q.2
      have hs' : bSum [.tuple (q.2.map PyData.int)] = some (.int q.2.sum) := hs
      have c1 : lc2L (gTupD 2 (gsCons (gSet 8) (gsCons (gSet 9) gsNil))) tYesP (xIt oEnum (xCons (xVar 6) xNil)) (gTupD 2 (gsCons (gSet 10) (gsCons (gSet 11) gsNil))) tYesP (xTup (xCons (xBin oAdd (xVar 8) (xTup (xCons (xBin oAdd (xBin oIx (xVar 5) (xC (.int 1))) (xVar 10)) xNil))) (xCons (xCall (fun ds => if ds.length = 2 then (d_times) ds else none) (xCons (xVar 9) (xCons (xCall (fun ds => if ds.length = 2 then ((d_lowest) ds).bind fun d => if flat d then some d else none else none) (xCons (xVar 11) (xCons (xVar 7) xNil))) xNil))) xNil))) [10, 11]
          [x0, x1, x2, some (.list (A.1.map (enX A.2))), none, some (shD q.1), some (wD q.2), some (.int q.2.sum), none, none, none, none] (A.1.map (enX A.2)) = some (A.1.flatMap fun p => (List.range q.2.length).map fun i => enX (A.2 * q.2.sum) (p.1 ++ [q.1.2.1 + (i : Nat)], p.2 * q.2.getD i 0)) := by
        refine lc2L_flat (enX A.2) _ _ fun p hp => ?_
        have hp2 := gx.pos p hp
        have hpl := gx.len p hp
        have hps : p.2 ≤ A.2 := by
          have := mem_le_sum (l := A.1.map (·.2)) (fun r hr => by obtain ⟨y, hy, rfl⟩ := List.mem_map.mp hr; exact gx.pos y hy) p.2 (List.mem_map_of_mem hp)
          rw [gx.sum] at this
          exact this
        have sA := gx.ts
        have sp : Sm (10 * pre.length) p.2 := Sm.of_le hp2 (Int.le_trans hps (Sm.int (by have := gx.tp; omega) sA))
        refine ⟨[x0, x1, x2, some (.list (A.1.map (enX A.2))), none, some (shD q.1), some (wD q.2), some (.int q.2.sum), some (.tuple (p.1.map PyData.int)), some (fr p.2 A.2), none, none], (List.range q.2.length).map fun i => .tuple [.int (i : Nat), .int (q.2.getD i 0)], rfl, ?_, ?_⟩
        · rw [← enum_map]
          rfl
        · refine lcL_map _ _ _ fun i hi => ?_
          have hi' : i < q.2.length := by simpa using hi
          have hm : q.2.getD i 0 ∈ q.2 := by simp [hi']
          have hx := w1 _ hm
          have hxs := mem_le_sum w1 _ hm
          have sx : Sm 10 (q.2.getD i 0) := Sm.of_le hx (Int.le_trans hxs (Sm.int (by omega) w3))
          have t1 := lowest_eq (q.2.getD i 0) q.2.sum w2 (w3.mono (by omega))
          have t2 := times_eq (p := p.2) (q := A.2) (r := q.2.getD i 0) (s := q.2.sum) gx.tp w2 (sp.mono (by omega)) (sA.mono (by omega)) (sx.mono (by omega)) (w3.mono (by omega))
          have t3 : oAdd (.tuple (p.1.map PyData.int)) (.tuple [.int (q.1.2.1 + (i : Nat))]) = some (.tuple (p.1.map PyData.int ++ [.int (q.1.2.1 + (i : Nat))])) := add_tt (by simp; omega)
          simp -implicitDefEqProofs only [xVar_a, xC_a, xBin_a, xUn_a, tOf_a, tTru_a, tNotP_a, tAndP_a, tOrP_a, tyes_a, tno_a, tYesP_a, xNil_a, xCons_a, xTup_a, xLst_a, xAnd_a, xOr_a, xIf_a, xChain_a, oNo_a, oAt_a, xSl_a, xCall_a, xSeq_a, xIt_a, xLc_a, gSet_a, gTupD_a, gsNil_a, gsCons_a, sNop_a, sBrk_a, sCnt_a, sSeq_a, sRet_a, sIf_a, sSet_a, sTgt_a, sAug_a, sApp_a, sExt_a, sPut_a, sPutK_a, pkO_s, sFor_a, sWhile_a, sPar_a, runD_a, b2_s, c2_s, sqO_nx, sqO_rt, sqO_bk, sqO_ct, ifO_t, ifO_f, stO_s, endO_nx, endO_rt, andO_t, andO_f, orO_t, orO_f, chO_s, chP_t, chP_f, slO_s, atO_i, lcO_s, forO_s, gsO_s, nxO_s, tgO_s, paO_s, apO_s, exO_s, plO_s, ptO_s, dB_b, tru_b, tru_n, tru_i, tru_l, tru_t, is_n, isn_n, nn_n, nn_i, nn_b, nn_t, nn_l, add_ii, add'_ii, sub_ii, neg_i, lt_ii, le_ii, gt_ii, ge_ii, ix_l, ix_t, ix_s, at0, at1, at2, sl_l, sl_t, len_l, len_t, len_s, abs_i, int_i, int_b, max_ii, min_ii, tup_s, lst_s, seq_l, seq_t, sum_s, wipe_n, wipe_c, mul_ii, fdiv_ii, mod_ii, add_ll, add_tt, setAll, mkT, mkL, oNot, List.getD_cons_zero, List.getD_cons_succ, List.length_cons, List.length_nil, List.set_cons_zero, List.set_cons_succ, List.map_cons, List.map_nil, List.replicate, List.cons_append, List.nil_append, List.append_nil, Option.bind_some, Option.map_some, List.all_cons, List.all_nil, if_true, if_false, reduceIte, Nat.reduceAdd, Nat.reduceSub, Nat.reduceLT, Nat.reduceLeDiff, Nat.reduceEqDiff, decide_true, decide_false, Bool.and_true, Bool.and_self, Bool.true_and, Bool.not_true, Bool.not_false, ne_eq, not_true_eq_false, not_false_eq_true, Nat.zero_add, Bool.false_eq_true, and_self, true_and, and_true, shD, t1, t2, t3, flat_fr, enX, List.map_append]
      have c2 : (A.1.flatMap fun p => (List.range q.2.length).map fun i => enX (A.2 * q.2.sum) (p.1 ++ [q.1.2.1 + (i : Nat)], p.2 * q.2.getD i 0)) = (stepXT A q).1.map (enX (stepXT A q).2) := by
        simp only [stepXT, stepX, List.map_flatMap, List.map_map, Function.comp_def]
      rw [c2] at c1
      have c3 : ((stepXT A q).1.map (enX (stepXT A q).2)).length ≤ 16777216 := by
        rw [List.length_map]
        refine Nat.le_trans gx'.cnt (Nat.le_trans (Nat.pow_le_pow_right (by decide) (show pre.length + 1 ≤ 8 by omega)) (by decide))
      refine ⟨[x0, x1, x2, some (.list (A.1.map (enX A.2))), none, some (shD q.1), some (wD q.2), j7, none, none, none, none], [x0, x1, x2, some (.list ((stepXT A q).1.map (enX (stepXT A q).2))), none, some (shD q.1), some (wD q.2), some (.int q.2.sum), none, none, none, none], rfl, .inl ?_, by rw [List.append_assoc]; exact hp, some (shD q.1), some (wD q.2), some (.int q.2.sum), by rw [hfold, List.length_append]; exact gx', by rw [hfold]⟩
      have hit : xSeq (xVar 3) [x0, x1, x2, some (.list (A.1.map (enX A.2))), none, some (shD q.1), some (wD q.2), some (.int q.2.sum), none, none, none, none] = some (A.1.map (enX A.2)) := rfl
      have hlc := xLc2_a [x0, x1, x2, some (.list (A.1.map (enX A.2))), none, some (shD q.1), some (wD q.2), some (.int q.2.sum), none, none, none, none] (xSeq (xVar 3)) (gTupD 2 (gsCons (gSet 8) (gsCons (gSet 9) gsNil))) tYesP (xIt oEnum (xCons (xVar 6) xNil)) (gTupD 2 (gsCons (gSet 10) (gsCons (gSet 11) gsNil))) tYesP (xTup (xCons (xBin oAdd (xVar 8) (xTup (xCons (xBin oAdd (xBin oIx (xVar 5) (xC (.int 1))) (xVar 10)) xNil))) (xCons (xCall (fun ds => if ds.length = 2 then (d_times) ds else none) (xCons (xVar 9) (xCons (xCall (fun ds => if ds.length = 2 then ((d_lowest) ds).bind fun d => if flat d then some d else none else none) (xCons (xVar 11) (xCons (xVar 7) xNil))) xNil))) xNil))) [8, 9, 10, 11] [10, 11] _ hit
      have hw : wipeP [x0, x1, x2, some (.list (A.1.map (enX A.2))), none, some (shD q.1), some (wD q.2), some (.int q.2.sum), none, none, none, none] [8, 9, 10, 11] = [x0, x1, x2, some (.list (A.1.map (enX A.2))), none, some (shD q.1), some (wD q.2), some (.int q.2.sum), none, none, none, none] := rfl
      rw [hw, c1, Option.bind_some, if_pos c3] at hlc
      have hwd : bSum [wD q.2] = some (.int q.2.sum) := hs'
      simp -implicitDefEqProofs only [l1_chance_kept, xVar_a, xC_a, xBin_a, xUn_a, tOf_a, tTru_a, tNotP_a, tAndP_a, tOrP_a, tyes_a, tno_a, tYesP_a, xNil_a, xCons_a, xTup_a, xLst_a, xAnd_a, xOr_a, xIf_a, xChain_a, oNo_a, oAt_a, xSl_a, xCall_a, xSeq_a, xIt_a, xLc_a, gSet_a, gTupD_a, gsNil_a, gsCons_a, sNop_a, sBrk_a, sCnt_a, sSeq_a, sRet_a, sIf_a, sSet_a, sTgt_a, sAug_a, sApp_a, sExt_a, sPut_a, sPutK_a, pkO_s, sFor_a, sWhile_a, sPar_a, runD_a, b2_s, c2_s, sqO_nx, sqO_rt, sqO_bk, sqO_ct, ifO_t, ifO_f, stO_s, endO_nx, endO_rt, andO_t, andO_f, orO_t, orO_f, chO_s, chP_t, chP_f, slO_s, atO_i, lcO_s, forO_s, gsO_s, nxO_s, tgO_s, paO_s, apO_s, exO_s, plO_s, ptO_s, dB_b, tru_b, tru_n, tru_i, tru_l, tru_t, is_n, isn_n, nn_n, nn_i, nn_b, nn_t, nn_l, add_ii, add'_ii, sub_ii, neg_i, lt_ii, le_ii, gt_ii, ge_ii, ix_l, ix_t, ix_s, at0, at1, at2, sl_l, sl_t, len_l, len_t, len_s, abs_i, int_i, int_b, max_ii, min_ii, tup_s, lst_s, seq_l, seq_t, sum_s, wipe_n, wipe_c, mul_ii, fdiv_ii, mod_ii, add_ll, add_tt, setAll, mkT, mkL, oNot, List.getD_cons_zero, List.getD_cons_succ, List.length_cons, List.length_nil, List.set_cons_zero, List.set_cons_succ, List.map_cons, List.map_nil, List.replicate, List.cons_append, List.nil_append, List.append_nil, Option.bind_some, Option.map_some, List.all_cons, List.all_nil, if_true, if_false, reduceIte, Nat.reduceAdd, Nat.reduceSub, Nat.reduceLT, Nat.reduceLeDiff, Nat.reduceEqDiff, decide_true, decide_false, Bool.and_true, Bool.and_self, Bool.true_and, Bool.not_true, Bool.not_false, ne_eq, not_true_eq_false, not_false_eq_true, Nat.zero_add, Bool.false_eq_true, and_self, true_and, and_true, hwd, hlc]) (S.zip Ws) [] [x0, x1, x2, some (.list [.tuple [.tuple [], fr 1 1]]), none, none, none, none, none, none, none, none] ⟨rfl, none, none, none, ⟨by simp, by simp, by simp, by simp, (show (1 : Int).natAbs ≤ 2 ^ (10 * 0) by decide), by simp⟩, rfl⟩
  obtain ⟨_, j5, j6, j7, gx, e'⟩ := h
  subst e'
  rw [List.nil_append] at e gx
  exact ⟨j5, j6, j7, gx, e⟩
def goodSum (S : List Ship) (o : List Nat) (X : List Rw) : Int := ((X.filter fun p => keeps0 S p.1 o).map (·.2)).sum
theorem kept_loop2 (S : List Ship) (o : List Nat) (X : List Rw) (T : Int) (hT : 0 < T) (sT : Sm 400 T) (h0 : ∀ p ∈ X, 0 ≤ p.2) (hs : (X.map (·.2)).sum = T) (hk : ∀ p ∈ X, d_keeps_with [.tuple (S.map shD), .tuple (p.1.map PyData.int), .tuple (o.map fun j => PyData.int (j : Nat))] = some (.bool (keeps0 S p.1 o))) (x1 x3 j5 j6 j7 : Option D) :
    ∃ j8 j9, forL (gTupD 2 (gsCons (gSet 8) (gsCons (gSet 9) gsNil))) l2_chance_kept (X.map (enX T)) [some (.tuple (S.map shD)), x1, some (.tuple (o.map fun j => PyData.int (j : Nat))), x3, some (fr 0 1), j5, j6, j7, none, none, none, none] =
      some (.nx [some (.tuple (S.map shD)), x1, some (.tuple (o.map fun j => PyData.int (j : Nat))), x3, some (fr (goodSum S o X) T), j5, j6, j7, j8, j9, none, none]) := by
  obtain ⟨ρ', e, h⟩ := forL_inv (g := gTupD 2 (gsCons (gSet 8) (gsCons (gSet 9) gsNil))) (b := l2_chance_kept) (enX T)
    (fun pre rest ρ => pre ++ rest = X ∧ 0 ≤ goodSum S o pre ∧ goodSum S o pre + (rest.map (·.2)).sum ≤ T ∧ ∃ j8 j9, ρ = [some (.tuple (S.map shD)), x1, some (.tuple (o.map fun j => PyData.int (j : Nat))), x3, some (fr (goodSum S o pre) T), j5, j6, j7, j8, j9, none, none]) (fun pre p rest ρ ⟨hp, g0, g1, j8, j9, e⟩ => by
      subst e
      have hm : p ∈ X := by rw [← hp]; simp
      have hp0 := h0 p hm
      have hr0 : 0 ≤ (rest.map (·.2)).sum := sum_nonneg fun r hr => by
        obtain ⟨y, hy, rfl⟩ := List.mem_map.mp hr
        exact h0 y (by rw [← hp]; simp [hy])
      have hk' := hk p hm
      rw [List.map_cons, List.sum_cons] at g1
      have hTi := Sm.int (by omega) sT
      have sp : Sm 400 p.2 := Sm.of_le hp0 (by omega)
      have sg : Sm 400 (goodSum S o pre) := Sm.of_le g0 (by omega)
      have t := plus_eq (p := goodSum S o pre) (q := T) (r := p.2) (s := T) hT hT (sg.mono (by omega)) (sT.mono (by omega)) (sp.mono (by omega)) (sT.mono (by omega))
      rw [fr_eq (r := goodSum S o pre + p.2) (s := T) (Int.mul_pos hT hT) hT (by grind)] at t
      by_cases hc : keeps0 S p.1 o = true
      · have hg : goodSum S o (pre ++ [p]) = goodSum S o pre + p.2 := by simp [goodSum, hc]
        refine ⟨_, [some (.tuple (S.map shD)), x1, some (.tuple (o.map fun j => PyData.int (j : Nat))), x3, some (fr (goodSum S o (pre ++ [p])) T), j5, j6, j7, some (.tuple (p.1.map PyData.int)), some (fr p.2 T), none, none], rfl, .inl ?_, by rw [List.append_assoc]; exact hp, by rw [hg]; omega, by rw [hg]; omega, _, _, rfl⟩
        rw [hg]
        simp -implicitDefEqProofs only [l2_chance_kept, xVar_a, xC_a, xBin_a, xUn_a, tOf_a, tTru_a, tNotP_a, tAndP_a, tOrP_a, tyes_a, tno_a, tYesP_a, xNil_a, xCons_a, xTup_a, xLst_a, xAnd_a, xOr_a, xIf_a, xChain_a, oNo_a, oAt_a, xSl_a, xCall_a, xSeq_a, xIt_a, xLc_a, gSet_a, gTupD_a, gsNil_a, gsCons_a, sNop_a, sBrk_a, sCnt_a, sSeq_a, sRet_a, sIf_a, sSet_a, sTgt_a, sAug_a, sApp_a, sExt_a, sPut_a, sPutK_a, pkO_s, sFor_a, sWhile_a, sPar_a, runD_a, b2_s, c2_s, sqO_nx, sqO_rt, sqO_bk, sqO_ct, ifO_t, ifO_f, stO_s, endO_nx, endO_rt, andO_t, andO_f, orO_t, orO_f, chO_s, chP_t, chP_f, slO_s, atO_i, lcO_s, forO_s, gsO_s, nxO_s, tgO_s, paO_s, apO_s, exO_s, plO_s, ptO_s, dB_b, tru_b, tru_n, tru_i, tru_l, tru_t, is_n, isn_n, nn_n, nn_i, nn_b, nn_t, nn_l, add_ii, add'_ii, sub_ii, neg_i, lt_ii, le_ii, gt_ii, ge_ii, ix_l, ix_t, ix_s, at0, at1, at2, sl_l, sl_t, len_l, len_t, len_s, abs_i, int_i, int_b, max_ii, min_ii, tup_s, lst_s, seq_l, seq_t, sum_s, wipe_n, wipe_c, mul_ii, fdiv_ii, mod_ii, add_ll, add_tt, setAll, mkT, mkL, oNot, List.getD_cons_zero, List.getD_cons_succ, List.length_cons, List.length_nil, List.set_cons_zero, List.set_cons_succ, List.map_cons, List.map_nil, List.replicate, List.cons_append, List.nil_append, List.append_nil, Option.bind_some, Option.map_some, List.all_cons, List.all_nil, if_true, if_false, reduceIte, Nat.reduceAdd, Nat.reduceSub, Nat.reduceLT, Nat.reduceLeDiff, Nat.reduceEqDiff, decide_true, decide_false, Bool.and_true, Bool.and_self, Bool.true_and, Bool.not_true, Bool.not_false, ne_eq, not_true_eq_false, not_false_eq_true, Nat.zero_add, Bool.false_eq_true, and_self, true_and, and_true, hk', hc, t]
      · have hc' : keeps0 S p.1 o = false := by simpa using hc
        have hg : goodSum S o (pre ++ [p]) = goodSum S o pre := by simp [goodSum, hc']
        refine ⟨_, [some (.tuple (S.map shD)), x1, some (.tuple (o.map fun j => PyData.int (j : Nat))), x3, some (fr (goodSum S o (pre ++ [p])) T), j5, j6, j7, some (.tuple (p.1.map PyData.int)), some (fr p.2 T), none, none], rfl, .inl ?_, by rw [List.append_assoc]; exact hp, by rw [hg]; omega, by rw [hg]; omega, _, _, rfl⟩
        rw [hg]
        simp -implicitDefEqProofs only [l2_chance_kept, xVar_a, xC_a, xBin_a, xUn_a, tOf_a, tTru_a, tNotP_a, tAndP_a, tOrP_a, tyes_a, tno_a, tYesP_a, xNil_a, xCons_a, xTup_a, xLst_a, xAnd_a, xOr_a, xIf_a, xChain_a, oNo_a, oAt_a, xSl_a, xCall_a, xSeq_a, xIt_a, xLc_a, gSet_a, gTupD_a, gsNil_a, gsCons_a, sNop_a, sBrk_a, sCnt_a, sSeq_a, sRet_a, sIf_a, sSet_a, sTgt_a, sAug_a, sApp_a, sExt_a, sPut_a, sPutK_a, pkO_s, sFor_a, sWhile_a, sPar_a, runD_a, b2_s, c2_s, sqO_nx, sqO_rt, sqO_bk, sqO_ct, ifO_t, ifO_f, stO_s, endO_nx, endO_rt, andO_t, andO_f, orO_t, orO_f, chO_s, chP_t, chP_f, slO_s, atO_i, lcO_s, forO_s, gsO_s, nxO_s, tgO_s, paO_s, apO_s, exO_s, plO_s, ptO_s, dB_b, tru_b, tru_n, tru_i, tru_l, tru_t, is_n, isn_n, nn_n, nn_i, nn_b, nn_t, nn_l, add_ii, add'_ii, sub_ii, neg_i, lt_ii, le_ii, gt_ii, ge_ii, ix_l, ix_t, ix_s, at0, at1, at2, sl_l, sl_t, len_l, len_t, len_s, abs_i, int_i, int_b, max_ii, min_ii, tup_s, lst_s, seq_l, seq_t, sum_s, wipe_n, wipe_c, mul_ii, fdiv_ii, mod_ii, add_ll, add_tt, setAll, mkT, mkL, oNot, List.getD_cons_zero, List.getD_cons_succ, List.length_cons, List.length_nil, List.set_cons_zero, List.set_cons_succ, List.map_cons, List.map_nil, List.replicate, List.cons_append, List.nil_append, List.append_nil, Option.bind_some, Option.map_some, List.all_cons, List.all_nil, if_true, if_false, reduceIte, Nat.reduceAdd, Nat.reduceSub, Nat.reduceLT, Nat.reduceLeDiff, Nat.reduceEqDiff, decide_true, decide_false, Bool.and_true, Bool.and_self, Bool.true_and, Bool.not_true, Bool.not_false, ne_eq, not_true_eq_false, not_false_eq_true, Nat.zero_add, Bool.false_eq_true, and_self, true_and, and_true, hk', hc']) X [] [some (.tuple (S.map shD)), x1, some (.tuple (o.map fun j => PyData.int (j : Nat))), x3, some (fr 0 1), j5, j6, j7, none, none, none, none] ⟨rfl, by simp [goodSum], by simp [goodSum, hs], none, none, by rw [show fr 0 1 = fr 0 T from fr_eq (by decide) hT (by omega)]; simp [goodSum]⟩
  obtain ⟨_, _, _, j8, j9, e'⟩ := h
  subst e'
  exact ⟨j8, j9, e⟩
theorem chance_kept_eq (S : List Ship) (Ws : List (List Int)) (o : List Nat) (hl : S.length = Ws.length) (hl8 : S.length ≤ 8) (hW : ∀ W ∈ Ws, (∀ x ∈ W, 0 ≤ x) ∧ 0 < W.sum ∧ Sm 10 W.sum ∧ W.length ≤ 4) (ho : ∀ j ∈ o, j < S.length) (hn : o.Nodup) (hol : o.length ≤ 1000) :
    d_chance_kept [.tuple (S.map shD), .tuple (Ws.map wD), .tuple (o.map fun j => PyData.int (j : Nat))] = some (fr (goodSum S o ((S.zip Ws).foldl stepXT ([([], 1)], 1)).1) ((S.zip Ws).foldl stepXT ([([], 1)], 1)).2) := by
  have hz : (S.zip Ws).length = S.length := by rw [List.length_zip]; omega
  obtain ⟨j5, j6, j7, gx, e1⟩ := kept_loop1 S Ws hW (by omega) (some (.tuple (S.map shD))) (some (.tuple (Ws.map wD))) (some (.tuple (o.map fun j => PyData.int (j : Nat))))
  generalize (S.zip Ws).foldl stepXT ([([], 1)], 1) = A at *
  obtain ⟨j8, j9, e2⟩ := kept_loop2 S o A.1 A.2 gx.tp (gx.ts.mono (by omega)) gx.pos gx.sum (fun p hp => keeps_eq S p.1 o ho (fun j hj => by have := gx.len p hp; have := ho j hj; omega) hn hol) (some (.tuple (Ws.map wD))) (some (.list (A.1.map (enX A.2)))) j5 j6 j7
  have hzip : oZip [.tuple (S.map shD), .tuple (Ws.map wD)] = some ((S.zip Ws).map fun q => .tuple [shD q.1, wD q.2]) := by rw [← zip_map]; rfl
  have w1 := whole_eq 1
  have w0 := whole_eq 0
  simp -implicitDefEqProofs only [d_chance_kept, g_chance_kept, xVar_a, xC_a, xBin_a, xUn_a, tOf_a, tTru_a, tNotP_a, tAndP_a, tOrP_a, tyes_a, tno_a, tYesP_a, xNil_a, xCons_a, xTup_a, xLst_a, xAnd_a, xOr_a, xIf_a, xChain_a, oNo_a, oAt_a, xSl_a, xCall_a, xSeq_a, xIt_a, xLc_a, gSet_a, gTupD_a, gsNil_a, gsCons_a, sNop_a, sBrk_a, sCnt_a, sSeq_a, sRet_a, sIf_a, sSet_a, sTgt_a, sAug_a, sApp_a, sExt_a, sPut_a, sPutK_a, pkO_s, sFor_a, sWhile_a, sPar_a, runD_a, b2_s, c2_s, sqO_nx, sqO_rt, sqO_bk, sqO_ct, ifO_t, ifO_f, stO_s, endO_nx, endO_rt, andO_t, andO_f, orO_t, orO_f, chO_s, chP_t, chP_f, slO_s, atO_i, lcO_s, forO_s, gsO_s, nxO_s, tgO_s, paO_s, apO_s, exO_s, plO_s, ptO_s, dB_b, tru_b, tru_n, tru_i, tru_l, tru_t, is_n, isn_n, nn_n, nn_i, nn_b, nn_t, nn_l, add_ii, add'_ii, sub_ii, neg_i, lt_ii, le_ii, gt_ii, ge_ii, ix_l, ix_t, ix_s, at0, at1, at2, sl_l, sl_t, len_l, len_t, len_s, abs_i, int_i, int_b, max_ii, min_ii, tup_s, lst_s, seq_l, seq_t, sum_s, wipe_n, wipe_c, mul_ii, fdiv_ii, mod_ii, add_ll, add_tt, setAll, mkT, mkL, oNot, List.getD_cons_zero, List.getD_cons_succ, List.length_cons, List.length_nil, List.set_cons_zero, List.set_cons_succ, List.map_cons, List.map_nil, List.replicate, List.cons_append, List.nil_append, List.append_nil, Option.bind_some, Option.map_some, List.all_cons, List.all_nil, if_true, if_false, reduceIte, Nat.reduceAdd, Nat.reduceSub, Nat.reduceLT, Nat.reduceLeDiff, Nat.reduceEqDiff, decide_true, decide_false, Bool.and_true, Bool.and_self, Bool.true_and, Bool.not_true, Bool.not_false, ne_eq, not_true_eq_false, not_false_eq_true, Nat.zero_add, Bool.false_eq_true, and_self, true_and, and_true, w1, w0, hzip, e1, e2]
end K32

namespace K32
open PySem PySem.Spec PyProof.Rows L2 Pm
theorem rev_ind {α : Type} {P : List α → Prop} (nil : P []) (app : ∀ Z q, P Z → P (Z ++ [q])) (Z : List α) : P Z := by
  have h : ∀ l : List α, P l.reverse := fun l => by
    induction l with
    | nil => exact nil
    | cons a l ih => rw [List.reverse_cons]; exact app _ _ ih
  have := h Z.reverse
  rwa [List.reverse_reverse] at this
/-! ### the law's own enumeration -/
abbrev Sq := Ship × List Int
def wk (Z : List Sq) (c : List Nat) : List Int := (Z.zip c).map fun p => p.1.1.2.1 + (p.2 : Int)
def prodL (l : List Int) : Int := l.foldr (· * ·) 1
def pk (Z : List Sq) (c : List Nat) : Int := prodL ((Z.zip c).map fun p => p.1.2.getD p.2 0)
def stepC (W : List Int) (C : List (List Nat)) : List (List Nat) := C.flatMap fun c => (List.range W.length).map fun i => c ++ [i]
theorem prodL_app (l : List Int) (x : Int) : prodL (l ++ [x]) = prodL l * x := by
  unfold prodL
  induction l with
  | nil => simp
  | cons a l ih => simp only [List.cons_append, List.foldr_cons, ih, Int.mul_assoc]
theorem wk_app (Z : List Sq) (c : List Nat) (q : Sq) (i : Nat) (h : Z.length = c.length) : wk (Z ++ [q]) (c ++ [i]) = wk Z c ++ [q.1.2.1 + (i : Int)] := by
  unfold wk
  rw [List.zip_append h, List.map_append]
  rfl
theorem pk_app (Z : List Sq) (c : List Nat) (q : Sq) (i : Nat) (h : Z.length = c.length) : pk (Z ++ [q]) (c ++ [i]) = pk Z c * q.2.getD i 0 := by
  unfold pk
  rw [List.zip_append h, List.map_append, List.zip_cons_cons, List.zip_nil_left, List.map_cons, List.map_nil, prodL_app]
def CC (Z : List Sq) : List (List Nat) := Z.foldl (fun C q => stepC q.2 C) [[]]
theorem CC_app (Z : List Sq) (q : Sq) : CC (Z ++ [q]) = stepC q.2 (CC Z) := by simp [CC]
theorem CC_len : ∀ (Z : List Sq), ∀ c ∈ CC Z, c.length = Z.length := by
  intro Z
  induction Z using rev_ind with
  | nil => intro c hc; simp [CC] at hc; simp [hc]
  | app Z q ih =>
    intro c hc
    rw [CC_app] at hc
    simp only [stepC, List.mem_flatMap, List.mem_map, List.mem_range] at hc
    obtain ⟨c0, h0, i, hi, e⟩ := hc
    subst e
    simp [ih c0 h0]
theorem flatMap_cg {α β : Type} {f g : α → List β} : ∀ {l : List α}, (∀ a ∈ l, f a = g a) → l.flatMap f = l.flatMap g
  | [], _ => rfl
  | a :: l, h => by rw [List.flatMap_cons, List.flatMap_cons, h a (List.mem_cons_self ..), flatMap_cg fun b hb => h b (List.mem_cons_of_mem _ hb)]
theorem X_CC (Z : List Sq) : (Z.foldl stepXT ([([], 1)], 1)).1 = (CC Z).map fun c => (wk Z c, pk Z c) := by
  induction Z using rev_ind with
  | nil => rfl
  | app Z q ih =>
    rw [List.foldl_append, CC_app]
    show stepX q.1.2.1 q.2 (Z.foldl stepXT ([([], 1)], 1)).1 = _
    rw [ih]
    unfold stepX stepC
    rw [List.flatMap_map, List.map_flatMap]
    refine flatMap_cg fun c hc => ?_
    have hl := CC_len Z c hc
    rw [List.map_map]
    refine List.map_congr_left fun i hi => ?_
    show (wk Z c ++ [q.1.2.1 + (i : Int)], pk Z c * q.2.getD i 0) = (wk (Z ++ [q]) (c ++ [i]), pk (Z ++ [q]) (c ++ [i]))
    rw [wk_app Z c q i hl.symm, pk_app Z c q i hl.symm]
theorem X_T (Z : List Sq) : (Z.foldl stepXT ([([], 1)], 1)).2 = Z.foldl (fun a q => a * q.2.sum) 1 := by
  induction Z using rev_ind with
  | nil => rfl
  | app Z q ih =>
    rw [List.foldl_append, List.foldl_append]
    show (Z.foldl stepXT ([([], 1)], 1)).2 * q.2.sum = _
    rw [ih]
    rfl
/-! ### orders -/
def ordL : Nat → List (List Nat)
  | 1 => [[0]]
  | 2 => [[0, 1], [1, 0]]
  | 3 => [[0, 1, 2], [0, 2, 1], [1, 0, 2], [1, 2, 0], [2, 0, 1], [2, 1, 0]]
  | _ => []
def oD (o : List Nat) : D := .tuple (o.map fun j => PyData.int (j : Nat))
theorem orders_eq : ∀ n : Nat, 1 ≤ n → n ≤ 3 → d__law_orders [.int n] = some (.list ((ordL n).map oD))
  | 1, _, _ => by kernel_rfl
  | 2, _, _ => by kernel_rfl
  | 3, _, _ => by kernel_rfl
theorem ordL_ok : ∀ n : Nat, 1 ≤ n → n ≤ 3 → 0 < (ordL n).length ∧ (ordL n).length ≤ 6 ∧ ∀ o ∈ ordL n, o.isPerm (List.range n) = true ∧ o.Nodup
  | 1, _, _ => by decide
  | 2, _, _ => by decide
  | 3, _, _ => by decide
theorem prod_perm {l l' : List Int} (h : l.Perm l') : prodL l = prodL l' := by
  unfold prodL
  induction h with
  | nil => rfl
  | cons x _ ih => simp only [List.foldr_cons, ih]
  | swap x y l => simp only [List.foldr_cons]; rw [← Int.mul_assoc, ← Int.mul_assoc, Int.mul_comm y x]
  | trans _ _ h1 h2 => rw [h1, h2]
end K32

namespace K32
open PySem PySem.Spec PyProof.Rows L2 Pm
def GW (W : List Int) : Prop := (∀ x ∈ W, 1 ≤ x ∧ x ≤ 4) ∧ 1 ≤ W.length ∧ W.length ≤ 3
theorem sum_rng : ∀ {W : List Int}, (∀ x ∈ W, 1 ≤ x ∧ x ≤ 4) → (W.length : Int) ≤ W.sum ∧ W.sum ≤ 4 * (W.length : Int)
  | [], _ => by simp
  | x :: W, h => by
    have h1 := h x (by simp)
    have h2 := sum_rng (W := W) fun y hy => h y (by simp [hy])
    rw [List.sum_cons, List.length_cons]
    omega
theorem GW.all {W : List Int} (g : GW W) : (∀ x ∈ W, 0 ≤ x) ∧ 0 < W.sum ∧ Sm 10 W.sum ∧ W.length ≤ 4 := by
  obtain ⟨g1, g2, g3⟩ := g
  have := sum_rng g1
  refine ⟨fun x hx => by have := g1 x hx; omega, by omega, ?_, by omega⟩
  unfold Sm
  omega
theorem gx_all (Z : List Sq) (h : ∀ q ∈ Z, GW q.2) : GX Z.length (Z.foldl stepXT ([([], 1)], 1)) := by
  induction Z using rev_ind with
  | nil => exact ⟨by simp, by simp, by simp, by simp, (show (1 : Int).natAbs ≤ 2 ^ (10 * 0) by decide), by simp⟩
  | app Z q ih =>
    obtain ⟨a, b, c, d⟩ := (h q (by simp)).all
    rw [List.foldl_append, List.length_append]
    exact (ih fun p hp => h p (by simp [hp])).step q a b c d
theorem row_off (r : List Int) (hr : r.length = 48) (a j : Nat) (h : a + j < 48) : atI (r.map PyData.int) ((a : Int) + (j : Int)) = some (.int (r.getD (a + j) 0)) := by
  have := row_at r (a + j) (by omega)
  rwa [Int.natCast_add] at this
theorem nat_of {x : Int} (h : 0 ≤ x) : ∃ m : Nat, x = m := Int.eq_ofNat_of_zero_le h
theorem kept_build (r : List Int) (hr : r.length = 48) (n : Nat) (hn : n ≤ 3) :
    ∃ (Z : List Sq) (j1 j11 j12 : Option D), Z.length = n ∧ (∀ q ∈ Z, GW q.2) ∧ forL (gSet 1) l1__law_kept ((List.range n).map fun i => PyData.int (i : Nat)) [some (.list (r.map PyData.int)), none, none, none, none, some (.list []), some (.list []), some (.list [.tuple []]), some (.int 0), some (.int 1), some (.int n), none, none, none, none, none, none, none] =
      some (.nx [some (.list (r.map PyData.int)), j1, none, none, none, some (.list (Z.map fun q => shD q.1)), some (.list (Z.map fun q => wD q.2)), some (.list [.tuple []]), some (.int 0), some (.int (Z.foldl (fun a q => a * q.2.sum) 1)), some (.int n), j11, j12, none, none, none, none, none]) := by
  obtain ⟨ρ', e, h⟩ := forL_inv (g := gSet 1) (b := l1__law_kept) (fun i : Nat => PyData.int (i : Nat))
    (fun pre rest ρ => pre ++ rest = List.range n ∧ ∃ (Z : List Sq) (j1 j11 j12 : Option D), Z.length = pre.length ∧ (∀ q ∈ Z, GW q.2) ∧ ρ = [some (.list (r.map PyData.int)), j1, none, none, none, some (.list (Z.map fun q => shD q.1)), some (.list (Z.map fun q => wD q.2)), some (.list [.tuple []]), some (.int 0), some (.int (Z.foldl (fun a q => a * q.2.sum) 1)), some (.int n), j11, j12, none, none, none, none, none]) (fun pre x rest ρ ⟨hp, Z, j1, j11, j12, hZ, hg, e⟩ => by
      subst e
      have hlen : pre.length + (rest.length + 1) = n := by
        have := congrArg List.length hp
        simpa using this
      have hx : x = pre.length := by
        have h1 : (pre ++ x :: rest)[pre.length]? = some x := by simp
        rw [hp, List.getElem?_range (by omega)] at h1
        exact (Option.some.inj h1).symm
      subst hx
      have n3 : (3 : Int) ≠ 0 := by decide
      have n4 : (4 : Int) ≠ 0 := by decide
      have n9 : (9 : Int) ≠ 0 := by decide
      have i25 := row_off r hr 25 pre.length (by omega)
      have i28 := row_off r hr 28 pre.length (by omega)
      have i31 := row_off r hr 31 pre.length (by omega)
      have i34 := row_off r hr 34 pre.length (by omega)
      have q28 := fmod_rng (r.getD (28 + pre.length) 0) (m := 3) (by decide)
      obtain ⟨m, hm⟩ := nat_of (x := 1 + (r.getD (28 + pre.length) 0).fmod 3) (by omega)
      have hm3 : m ≤ 3 ∧ 1 ≤ m := by omega
      have hr1 := oR1_nat m (by omega)
      let W : List Int := (List.range m).map fun i => 1 + (r.getD (37 + 3 * pre.length + i) 0).fmod 4
      have hW : GW W := by
        refine ⟨fun y hy => ?_, by simp [W]; omega, by simp [W]; omega⟩
        obtain ⟨i, hi, rfl⟩ := List.mem_map.mp hy
        have := fmod_rng (r.getD (37 + 3 * pre.length + i) 0) (m := 4) (by decide)
        omega
      have mk3 : mulOk 3 (pre.length : Int) = true := by unfold mulOk; simp
      let q : Sq := ((((r.getD (31 + pre.length) 0).fmod 4), 1 + (r.getD (25 + pre.length) 0).fmod 3, 1 + (r.getD (25 + pre.length) 0).fmod 3 + (m : Int) - 1, 2 + (r.getD (34 + pre.length) 0).fmod 9), W)
      have hsh : shD q.1 = .tuple [.int ((r.getD (31 + pre.length) 0).fmod 4), .int (1 + (r.getD (25 + pre.length) 0).fmod 3), .int (1 + (r.getD (25 + pre.length) 0).fmod 3 + (m : Int) - 1), .int (2 + (r.getD (34 + pre.length) 0).fmod 9)] := rfl
      have hl1 : (Z.map fun q => shD q.1).length < 16777216 := by rw [List.length_map]; omega
      have hl2 : (Z.map fun q => wD q.2).length < 16777216 := by rw [List.length_map]; omega
      have c1 : ∀ ρ : PEnv, ρ.length = 18 → ρ.getD 0 none = some (.list (r.map PyData.int)) → ρ.getD 1 none = some (.int pre.length) → lcL (gSet 17) tYesP (xBin oAdd (xC (.int 1)) (xBin oMod (xCall bInt (xCons (xBin oIx (xVar 0) (xBin oAdd (xBin oAdd (xC (.int 37)) (xBin oMul' (xC (.int 3)) (xVar 1))) (xVar 17))) xNil)) (xC (.int 4)))) ρ ((List.range m).map fun i => PyData.int (i : Nat)) = some (W.map PyData.int) := fun ρ hl h0 h1 => by
        have e : W.map PyData.int = (List.range m).map fun i => PyData.int (1 + (r.getD (37 + 3 * pre.length + i) 0).fmod 4) := by simp [W]
        rw [e]
        refine lcL_map _ _ _ fun i hi => ?_
        have hi' : i < m := by simpa using hi
        have q17 : (ρ.set 17 (some (PyData.int (i : Nat)))).getD 17 none = some (.int (i : Nat)) := by simp [hl]
        have q0 : (ρ.set 17 (some (PyData.int (i : Nat)))).getD 0 none = some (.list (r.map PyData.int)) := by rw [← h0]; simp
        have q1 : (ρ.set 17 (some (PyData.int (i : Nat)))).getD 1 none = some (.int pre.length) := by rw [← h1]; simp
        have i37 := row_off r hr (37 + 3 * pre.length) i (by omega)
        rw [Int.natCast_add, Int.natCast_mul] at i37
        have i37' : atI (r.map PyData.int) (37 + 3 * (pre.length : Int) + (i : Int)) = some (.int (r.getD (37 + 3 * pre.length + i) 0)) := i37
        simp -implicitDefEqProofs only [xVar_a, xC_a, xBin_a, xUn_a, tOf_a, tTru_a, tNotP_a, tAndP_a, tOrP_a, tyes_a, tno_a, tYesP_a, xNil_a, xCons_a, xTup_a, xLst_a, xAnd_a, xOr_a, xIf_a, xChain_a, oNo_a, oAt_a, xSl_a, xCall_a, xSeq_a, xIt_a, xLc_a, gSet_a, gTupD_a, gsNil_a, gsCons_a, sNop_a, sBrk_a, sCnt_a, sSeq_a, sRet_a, sIf_a, sSet_a, sTgt_a, sAug_a, sApp_a, sExt_a, sPut_a, sPutK_a, pkO_s, sFor_a, sWhile_a, sPar_a, runD_a, b2_s, c2_s, sqO_nx, sqO_rt, sqO_bk, sqO_ct, ifO_t, ifO_f, stO_s, endO_nx, endO_rt, andO_t, andO_f, orO_t, orO_f, chO_s, chP_t, chP_f, slO_s, atO_i, lcO_s, forO_s, gsO_s, nxO_s, tgO_s, paO_s, apO_s, exO_s, plO_s, ptO_s, dB_b, tru_b, tru_n, tru_i, tru_l, tru_t, is_n, isn_n, nn_n, nn_i, nn_b, nn_t, nn_l, add_ii, add'_ii, sub_ii, neg_i, lt_ii, le_ii, gt_ii, ge_ii, ix_l, ix_t, ix_s, at0, at1, at2, sl_l, sl_t, len_l, len_t, len_s, abs_i, int_i, int_b, max_ii, min_ii, tup_s, lst_s, seq_l, seq_t, sum_s, wipe_n, wipe_c, mul_ii, fdiv_ii, mod_ii, add_ll, add_tt, setAll, mkT, mkL, oNot, List.getD_cons_zero, List.getD_cons_succ, List.length_cons, List.length_nil, List.set_cons_zero, List.set_cons_succ, List.map_cons, List.map_nil, List.replicate, List.cons_append, List.nil_append, List.append_nil, Option.bind_some, Option.map_some, List.all_cons, List.all_nil, if_true, if_false, reduceIte, Nat.reduceAdd, Nat.reduceSub, Nat.reduceLT, Nat.reduceLeDiff, Nat.reduceEqDiff, decide_true, decide_false, Bool.and_true, Bool.and_self, Bool.true_and, Bool.not_true, Bool.not_false, ne_eq, not_true_eq_false, not_false_eq_true, Nat.zero_add, Bool.false_eq_true, and_self, true_and, and_true, hl, q17, q0, q1, mk3, i37', mod_ii n4]
      have hsum := sum_ints W
      have hsum' : bSum [wD W] = some (.int W.sum) := hsum
      have gx := gx_all Z hg
      have hT := X_T Z
      have sT := gx.ts
      rw [hT, hZ] at sT
      have ga := hW.all
      have mk := sT.mulOk ga.2.2.1 (by omega) (by omega)
      have hwd : wD W = .tuple (W.map PyData.int) := rfl
      have iend : atI ((Z.map fun q => wD q.2) ++ [wD W]) (pre.length : Int) = some (wD W) := by
        have := atI_end (Z.map fun q => wD q.2) (wD W)
        rwa [List.length_map, hZ] at this
      refine ⟨_, [some (.list (r.map PyData.int)), some (.int pre.length), none, none, none, some (.list ((Z ++ [q]).map fun q => shD q.1)), some (.list ((Z ++ [q]).map fun q => wD q.2)), some (.list [.tuple []]), some (.int 0), some (.int ((Z ++ [q]).foldl (fun a q => a * q.2.sum) 1)), some (.int n), some (.int (1 + (r.getD (25 + pre.length) 0).fmod 3)), some (.int m), none, none, none, none, none], rfl, .inl ?_, by rw [List.append_assoc]; exact hp, Z ++ [q], some (.int pre.length), some (.int (1 + (r.getD (25 + pre.length) 0).fmod 3)), some (.int m), by simp [hZ], fun p hp => ?_, rfl⟩
      · rw [List.map_append, List.map_append, List.foldl_append]
        simp only [List.map_cons, List.map_nil, List.foldl_cons, List.foldl_nil, hsh]
        show l1__law_kept _ = some (.nx [some (.list (r.map PyData.int)), some (.int pre.length), none, none, none, some (.list ((Z.map fun q => shD q.1) ++ [.tuple [.int ((r.getD (31 + pre.length) 0).fmod 4), .int (1 + (r.getD (25 + pre.length) 0).fmod 3), .int (1 + (r.getD (25 + pre.length) 0).fmod 3 + (m : Int) - 1), .int (2 + (r.getD (34 + pre.length) 0).fmod 9)]])), some (.list ((Z.map fun q => wD q.2) ++ [wD W])), some (.list [.tuple []]), some (.int 0), some (.int (Z.foldl (fun a q => a * q.2.sum) 1 * W.sum)), some (.int n), some (.int (1 + (r.getD (25 + pre.length) 0).fmod 3)), some (.int m), none, none, none, none, none])
        have j25 : atI (r.map PyData.int) (25 + (pre.length : Int)) = some (.int (r.getD (25 + pre.length) 0)) := i25
        have j28 : atI (r.map PyData.int) (28 + (pre.length : Int)) = some (.int (r.getD (28 + pre.length) 0)) := i28
        have j31 : atI (r.map PyData.int) (31 + (pre.length : Int)) = some (.int (r.getD (31 + pre.length) 0)) := i31
        have j34 : atI (r.map PyData.int) (34 + (pre.length : Int)) = some (.int (r.getD (34 + pre.length) 0)) := i34
        rw [hwd] at hsum' iend ⊢
        simp -implicitDefEqProofs only [l1__law_kept, xVar_a, xC_a, xBin_a, xUn_a, tOf_a, tTru_a, tNotP_a, tAndP_a, tOrP_a, tyes_a, tno_a, tYesP_a, xNil_a, xCons_a, xTup_a, xLst_a, xAnd_a, xOr_a, xIf_a, xChain_a, oNo_a, oAt_a, xSl_a, xCall_a, xSeq_a, xIt_a, xLc_a, gSet_a, gTupD_a, gsNil_a, gsCons_a, sNop_a, sBrk_a, sCnt_a, sSeq_a, sRet_a, sIf_a, sSet_a, sTgt_a, sAug_a, sApp_a, sExt_a, sPut_a, sPutK_a, pkO_s, sFor_a, sWhile_a, sPar_a, runD_a, b2_s, c2_s, sqO_nx, sqO_rt, sqO_bk, sqO_ct, ifO_t, ifO_f, stO_s, endO_nx, endO_rt, andO_t, andO_f, orO_t, orO_f, chO_s, chP_t, chP_f, slO_s, atO_i, lcO_s, forO_s, gsO_s, nxO_s, tgO_s, paO_s, apO_s, exO_s, plO_s, ptO_s, dB_b, tru_b, tru_n, tru_i, tru_l, tru_t, is_n, isn_n, nn_n, nn_i, nn_b, nn_t, nn_l, add_ii, add'_ii, sub_ii, neg_i, lt_ii, le_ii, gt_ii, ge_ii, ix_l, ix_t, ix_s, at0, at1, at2, sl_l, sl_t, len_l, len_t, len_s, abs_i, int_i, int_b, max_ii, min_ii, tup_s, lst_s, seq_l, seq_t, sum_s, wipe_n, wipe_c, mul_ii, fdiv_ii, mod_ii, add_ll, add_tt, setAll, mkT, mkL, oNot, List.getD_cons_zero, List.getD_cons_succ, List.length_cons, List.length_nil, List.set_cons_zero, List.set_cons_succ, List.map_cons, List.map_nil, List.replicate, List.cons_append, List.nil_append, List.append_nil, Option.bind_some, Option.map_some, List.all_cons, List.all_nil, if_true, if_false, reduceIte, Nat.reduceAdd, Nat.reduceSub, Nat.reduceLT, Nat.reduceLeDiff, Nat.reduceEqDiff, decide_true, decide_false, Bool.and_true, Bool.and_self, Bool.true_and, Bool.not_true, Bool.not_false, ne_eq, not_true_eq_false, not_false_eq_true, Nat.zero_add, Bool.false_eq_true, and_self, true_and, and_true, j25, j28, j31, j34, mod_ii n3, mod_ii n4, mod_ii n9, hm, hl1, hl2, hr1, c1, iend, hsum', mk]
      · rcases List.mem_append.mp hp with hp | hp
        · exact hg p hp
        · simp at hp
          subst hp
          exact hW) (List.range n) [] [some (.list (r.map PyData.int)), none, none, none, none, some (.list []), some (.list []), some (.list [.tuple []]), some (.int 0), some (.int 1), some (.int n), none, none, none, none, none, none, none] ⟨rfl, [], none, none, none, rfl, by simp, rfl⟩
  obtain ⟨_, Z, j1, j11, j12, hZ, hg, e'⟩ := h
  subst e'
  exact ⟨Z, j1, j11, j12, by simpa using hZ, hg, e⟩
end K32

namespace K32
open PySem PySem.Spec PyProof.Rows L2 Pm
theorem CC_cnt (Z : List Sq) (h : ∀ q ∈ Z, GW q.2) : (CC Z).length ≤ 4 ^ Z.length := by
  have := (gx_all Z h).cnt
  rwa [X_CC, List.length_map] at this
theorem kept_rows (Z : List Sq) (hg : ∀ q ∈ Z, GW q.2) (hn : Z.length ≤ 3) (x0 j1 x2 x3 x5 x8 x9 x10 x11 x12 : Option D) :
    ∃ y1 y4 y13, forL (gSet 1) l3__law_kept ((List.range Z.length).map fun i => PyData.int (i : Nat)) [x0, j1, x2, x3, none, x5, some (.list (Z.map fun q => wD q.2)), some (.list [.tuple []]), x8, x9, x10, x11, x12, none, none, none, none, none] =
      some (.nx [x0, y1, x2, x3, y4, x5, some (.list (Z.map fun q => wD q.2)), some (.list ((CC Z).map oD)), x8, x9, x10, x11, x12, y13, none, none, none, none]) := by
  obtain ⟨ρ', e, h⟩ := forL_inv (g := gSet 1) (b := l3__law_kept) (fun i : Nat => PyData.int (i : Nat))
    (fun pre rest ρ => pre ++ rest = List.range Z.length ∧ ∃ y1 y4 y13, ρ = [x0, y1, x2, x3, y4, x5, some (.list (Z.map fun q => wD q.2)), some (.list ((CC (Z.take pre.length)).map oD)), x8, x9, x10, x11, x12, y13, none, none, none, none]) (fun pre x rest ρ ⟨hp, y1, y4, y13, e⟩ => by
      subst e
      have hlen : pre.length + (rest.length + 1) = Z.length := by
        have := congrArg List.length hp
        simpa using this
      have hx : x = pre.length := by
        have h1 : (pre ++ x :: rest)[pre.length]? = some x := by simp
        rw [hp, List.getElem?_range (by omega)] at h1
        exact (Option.some.inj h1).symm
      subst hx
      have hlt : pre.length < Z.length := by omega
      have htk : Z.take (pre.length + 1) = Z.take pre.length ++ [Z[pre.length]] := by rw [List.take_add_one, List.getElem?_eq_getElem hlt]; rfl
      have hC : CC (Z.take (pre.length + 1)) = stepC Z[pre.length].2 (CC (Z.take pre.length)) := by rw [htk, CC_app]
      have hq := hg Z[pre.length] (List.getElem_mem hlt)
      have hcnt := CC_cnt (Z.take pre.length) fun q hq => hg q (List.mem_of_mem_take hq)
      have hcnt2 : (CC (Z.take pre.length)).length ≤ 64 := by
        refine Nat.le_trans hcnt (Nat.le_trans (Nat.pow_le_pow_right (by decide) (show (Z.take pre.length).length ≤ 3 by rw [List.length_take]; omega)) (by decide))
      have hclen := CC_len (Z.take pre.length)
      generalize hA : CC (Z.take pre.length) = C at *
      generalize hWW : Z[pre.length].2 = W at *
      have iW : atI (Z.map fun q => wD q.2) (pre.length : Int) = some (wD W) := by
        rw [atI_nat _ _ (by simpa using hlt)]
        simp [hWW]
      have hr1 := oR1_nat W.length (by have := hq.2.2; omega)
      obtain ⟨ρ2, e2, h2⟩ := forL_inv (g := gSet 4) (b := l2__law_kept) oD
        (fun pr rs ρ => pr ++ rs = C ∧ ∃ z4, ρ = [x0, some (.int pre.length), x2, x3, z4, x5, some (.list (Z.map fun q => wD q.2)), some (.list (C.map oD)), x8, x9, x10, x11, x12, some (.list ((stepC W pr).map oD)), none, none, none, none]) (fun pr c rs ρ ⟨hp2, z4, e⟩ => by
          subst e
          have hcm : c ∈ C := by rw [← hp2]; simp
          have hcl := hclen c hcm
          have hlp : pr.length ≤ 64 := by
            have := congrArg List.length hp2
            simp only [List.length_append, List.length_cons] at this
            omega
          have hst : ∀ l : List (List Nat), (stepC W l).length = l.length * W.length := fun l => by
            unfold stepC
            induction l with
            | nil => simp
            | cons a l ih => rw [List.flatMap_cons, List.length_append, ih]; simp [Nat.add_mul, Nat.add_comm]
          have hs1 : stepC W (pr ++ [c]) = stepC W pr ++ (List.range W.length).map fun i => c ++ [i] := by simp [stepC]
          have hw3 := hq.2.2
          have hbd : ((stepC W pr).map oD).length + ((List.range W.length).map fun i => oD (c ++ [i])).length ≤ 16777216 := by
            rw [List.length_map, List.length_map, List.length_range, hst]
            have : pr.length * W.length ≤ 64 * 3 := Nat.mul_le_mul hlp hw3
            omega
          have c1 : ∀ ρ : PEnv, ρ.length = 18 → ρ.getD 4 none = some (oD c) → lcL (gSet 17) tYesP (xBin oAdd (xVar 4) (xTup (xCons (xVar 17) xNil))) ρ ((List.range W.length).map fun i => PyData.int (i : Nat)) = some ((List.range W.length).map fun i => oD (c ++ [i])) := fun ρ hl h4 => by
            refine lcL_map _ _ _ fun i hi => ?_
            have q17 : (ρ.set 17 (some (PyData.int (i : Nat)))).getD 17 none = some (.int (i : Nat)) := by simp [hl]
            have q4 : (ρ.set 17 (some (PyData.int (i : Nat)))).getD 4 none = some (oD c) := by rw [← h4]; simp
            have ht : oAdd (oD c) (.tuple [.int (i : Nat)]) = some (oD (c ++ [i])) := by
              have : oAdd (.tuple (c.map fun j => PyData.int (j : Nat))) (.tuple [.int (i : Nat)]) = some (.tuple ((c.map fun j => PyData.int (j : Nat)) ++ [.int (i : Nat)])) := add_tt (by simp; rw [List.length_take] at hcl; omega)
              unfold oD
              rw [this, List.map_append]
              rfl
            simp -implicitDefEqProofs only [xVar_a, xC_a, xBin_a, xUn_a, tOf_a, tTru_a, tNotP_a, tAndP_a, tOrP_a, tyes_a, tno_a, tYesP_a, xNil_a, xCons_a, xTup_a, xLst_a, xAnd_a, xOr_a, xIf_a, xChain_a, oNo_a, oAt_a, xSl_a, xCall_a, xSeq_a, xIt_a, xLc_a, gSet_a, gTupD_a, gsNil_a, gsCons_a, sNop_a, sBrk_a, sCnt_a, sSeq_a, sRet_a, sIf_a, sSet_a, sTgt_a, sAug_a, sApp_a, sExt_a, sPut_a, sPutK_a, pkO_s, sFor_a, sWhile_a, sPar_a, runD_a, b2_s, c2_s, sqO_nx, sqO_rt, sqO_bk, sqO_ct, ifO_t, ifO_f, stO_s, endO_nx, endO_rt, andO_t, andO_f, orO_t, orO_f, chO_s, chP_t, chP_f, slO_s, atO_i, lcO_s, forO_s, gsO_s, nxO_s, tgO_s, paO_s, apO_s, exO_s, plO_s, ptO_s, dB_b, tru_b, tru_n, tru_i, tru_l, tru_t, is_n, isn_n, nn_n, nn_i, nn_b, nn_t, nn_l, add_ii, add'_ii, sub_ii, neg_i, lt_ii, le_ii, gt_ii, ge_ii, ix_l, ix_t, ix_s, at0, at1, at2, sl_l, sl_t, len_l, len_t, len_s, abs_i, int_i, int_b, max_ii, min_ii, tup_s, lst_s, seq_l, seq_t, sum_s, wipe_n, wipe_c, mul_ii, fdiv_ii, mod_ii, add_ll, add_tt, setAll, mkT, mkL, oNot, List.getD_cons_zero, List.getD_cons_succ, List.length_cons, List.length_nil, List.set_cons_zero, List.set_cons_succ, List.map_cons, List.map_nil, List.replicate, List.cons_append, List.nil_append, List.append_nil, Option.bind_some, Option.map_some, List.all_cons, List.all_nil, if_true, if_false, reduceIte, Nat.reduceAdd, Nat.reduceSub, Nat.reduceLT, Nat.reduceLeDiff, Nat.reduceEqDiff, decide_true, decide_false, Bool.and_true, Bool.and_self, Bool.true_and, Bool.not_true, Bool.not_false, ne_eq, not_true_eq_false, not_false_eq_true, Nat.zero_add, Bool.false_eq_true, and_self, true_and, and_true, hl, q17, q4, ht]
          refine ⟨_, [x0, some (.int pre.length), x2, x3, some (oD c), x5, some (.list (Z.map fun q => wD q.2)), some (.list (C.map oD)), x8, x9, x10, x11, x12, some (.list ((stepC W (pr ++ [c])).map oD)), none, none, none, none], rfl, .inl ?_, by rw [List.append_assoc]; exact hp2, some (oD c), rfl⟩
          rw [hs1, List.map_append, List.map_map]
          have hwd : wD W = .tuple (W.map PyData.int) := rfl
          rw [hwd] at iW
          simp -implicitDefEqProofs only [l2__law_kept, xVar_a, xC_a, xBin_a, xUn_a, tOf_a, tTru_a, tNotP_a, tAndP_a, tOrP_a, tyes_a, tno_a, tYesP_a, xNil_a, xCons_a, xTup_a, xLst_a, xAnd_a, xOr_a, xIf_a, xChain_a, oNo_a, oAt_a, xSl_a, xCall_a, xSeq_a, xIt_a, xLc_a, gSet_a, gTupD_a, gsNil_a, gsCons_a, sNop_a, sBrk_a, sCnt_a, sSeq_a, sRet_a, sIf_a, sSet_a, sTgt_a, sAug_a, sApp_a, sExt_a, sPut_a, sPutK_a, pkO_s, sFor_a, sWhile_a, sPar_a, runD_a, b2_s, c2_s, sqO_nx, sqO_rt, sqO_bk, sqO_ct, ifO_t, ifO_f, stO_s, endO_nx, endO_rt, andO_t, andO_f, orO_t, orO_f, chO_s, chP_t, chP_f, slO_s, atO_i, lcO_s, forO_s, gsO_s, nxO_s, tgO_s, paO_s, apO_s, exO_s, plO_s, ptO_s, dB_b, tru_b, tru_n, tru_i, tru_l, tru_t, is_n, isn_n, nn_n, nn_i, nn_b, nn_t, nn_l, add_ii, add'_ii, sub_ii, neg_i, lt_ii, le_ii, gt_ii, ge_ii, ix_l, ix_t, ix_s, at0, at1, at2, sl_l, sl_t, len_l, len_t, len_s, abs_i, int_i, int_b, max_ii, min_ii, tup_s, lst_s, seq_l, seq_t, sum_s, wipe_n, wipe_c, mul_ii, fdiv_ii, mod_ii, add_ll, add_tt, setAll, mkT, mkL, oNot, List.getD_cons_zero, List.getD_cons_succ, List.length_cons, List.length_nil, List.set_cons_zero, List.set_cons_succ, List.map_cons, List.map_nil, List.replicate, List.cons_append, List.nil_append, List.append_nil, Option.bind_some, Option.map_some, List.all_cons, List.all_nil, if_true, if_false, reduceIte, Nat.reduceAdd, Nat.reduceSub, Nat.reduceLT, Nat.reduceLeDiff, Nat.reduceEqDiff, decide_true, decide_false, Bool.and_true, Bool.and_self, Bool.true_and, Bool.not_true, Bool.not_false, ne_eq, not_true_eq_false, not_false_eq_true, Nat.zero_add, Bool.false_eq_true, and_self, true_and, and_true, iW, List.length_map, hr1, c1, Function.comp_def]
          rw [List.length_map, List.length_map] at hbd
          simp only [List.length_range, List.length_map] at hbd
          simp -implicitDefEqProofs only [xVar_a, xC_a, xBin_a, xUn_a, tOf_a, tTru_a, tNotP_a, tAndP_a, tOrP_a, tyes_a, tno_a, tYesP_a, xNil_a, xCons_a, xTup_a, xLst_a, xAnd_a, xOr_a, xIf_a, xChain_a, oNo_a, oAt_a, xSl_a, xCall_a, xSeq_a, xIt_a, xLc_a, gSet_a, gTupD_a, gsNil_a, gsCons_a, sNop_a, sBrk_a, sCnt_a, sSeq_a, sRet_a, sIf_a, sSet_a, sTgt_a, sAug_a, sApp_a, sExt_a, sPut_a, sPutK_a, pkO_s, sFor_a, sWhile_a, sPar_a, runD_a, b2_s, c2_s, sqO_nx, sqO_rt, sqO_bk, sqO_ct, ifO_t, ifO_f, stO_s, endO_nx, endO_rt, andO_t, andO_f, orO_t, orO_f, chO_s, chP_t, chP_f, slO_s, atO_i, lcO_s, forO_s, gsO_s, nxO_s, tgO_s, paO_s, apO_s, exO_s, plO_s, ptO_s, dB_b, tru_b, tru_n, tru_i, tru_l, tru_t, is_n, isn_n, nn_n, nn_i, nn_b, nn_t, nn_l, add_ii, add'_ii, sub_ii, neg_i, lt_ii, le_ii, gt_ii, ge_ii, ix_l, ix_t, ix_s, at0, at1, at2, sl_l, sl_t, len_l, len_t, len_s, abs_i, int_i, int_b, max_ii, min_ii, tup_s, lst_s, seq_l, seq_t, sum_s, wipe_n, wipe_c, mul_ii, fdiv_ii, mod_ii, add_ll, add_tt, setAll, mkT, mkL, oNot, List.getD_cons_zero, List.getD_cons_succ, List.length_cons, List.length_nil, List.set_cons_zero, List.set_cons_succ, List.map_cons, List.map_nil, List.replicate, List.cons_append, List.nil_append, List.append_nil, Option.bind_some, Option.map_some, List.all_cons, List.all_nil, if_true, if_false, reduceIte, Nat.reduceAdd, Nat.reduceSub, Nat.reduceLT, Nat.reduceLeDiff, Nat.reduceEqDiff, decide_true, decide_false, Bool.and_true, Bool.and_self, Bool.true_and, Bool.not_true, Bool.not_false, ne_eq, not_true_eq_false, not_false_eq_true, Nat.zero_add, Bool.false_eq_true, and_self, true_and, and_true, List.length_map, List.length_range, hbd]) C [] [x0, some (.int pre.length), x2, x3, y4, x5, some (.list (Z.map fun q => wD q.2)), some (.list (C.map oD)), x8, x9, x10, x11, x12, some (.list []), none, none, none, none] ⟨rfl, y4, rfl⟩
      obtain ⟨_, z4, e3⟩ := h2
      subst e3
      rw [List.nil_append] at e2
      refine ⟨_, [x0, some (.int pre.length), x2, x3, z4, x5, some (.list (Z.map fun q => wD q.2)), some (.list ((stepC W C).map oD)), x8, x9, x10, x11, x12, some (.list ((stepC W C).map oD)), none, none, none, none], rfl, .inl ?_, by rw [List.append_assoc]; exact hp, some (.int pre.length), z4, some (.list ((stepC W C).map oD)), by rw [List.length_append]; show _ = _; rw [show [pre.length].length = 1 from rfl, hC]⟩
      simp -implicitDefEqProofs only [l3__law_kept, xVar_a, xC_a, xBin_a, xUn_a, tOf_a, tTru_a, tNotP_a, tAndP_a, tOrP_a, tyes_a, tno_a, tYesP_a, xNil_a, xCons_a, xTup_a, xLst_a, xAnd_a, xOr_a, xIf_a, xChain_a, oNo_a, oAt_a, xSl_a, xCall_a, xSeq_a, xIt_a, xLc_a, gSet_a, gTupD_a, gsNil_a, gsCons_a, sNop_a, sBrk_a, sCnt_a, sSeq_a, sRet_a, sIf_a, sSet_a, sTgt_a, sAug_a, sApp_a, sExt_a, sPut_a, sPutK_a, pkO_s, sFor_a, sWhile_a, sPar_a, runD_a, b2_s, c2_s, sqO_nx, sqO_rt, sqO_bk, sqO_ct, ifO_t, ifO_f, stO_s, endO_nx, endO_rt, andO_t, andO_f, orO_t, orO_f, chO_s, chP_t, chP_f, slO_s, atO_i, lcO_s, forO_s, gsO_s, nxO_s, tgO_s, paO_s, apO_s, exO_s, plO_s, ptO_s, dB_b, tru_b, tru_n, tru_i, tru_l, tru_t, is_n, isn_n, nn_n, nn_i, nn_b, nn_t, nn_l, add_ii, add'_ii, sub_ii, neg_i, lt_ii, le_ii, gt_ii, ge_ii, ix_l, ix_t, ix_s, at0, at1, at2, sl_l, sl_t, len_l, len_t, len_s, abs_i, int_i, int_b, max_ii, min_ii, tup_s, lst_s, seq_l, seq_t, sum_s, wipe_n, wipe_c, mul_ii, fdiv_ii, mod_ii, add_ll, add_tt, setAll, mkT, mkL, oNot, List.getD_cons_zero, List.getD_cons_succ, List.length_cons, List.length_nil, List.set_cons_zero, List.set_cons_succ, List.map_cons, List.map_nil, List.replicate, List.cons_append, List.nil_append, List.append_nil, Option.bind_some, Option.map_some, List.all_cons, List.all_nil, if_true, if_false, reduceIte, Nat.reduceAdd, Nat.reduceSub, Nat.reduceLT, Nat.reduceLeDiff, Nat.reduceEqDiff, decide_true, decide_false, Bool.and_true, Bool.and_self, Bool.true_and, Bool.not_true, Bool.not_false, ne_eq, not_true_eq_false, not_false_eq_true, Nat.zero_add, Bool.false_eq_true, and_self, true_and, and_true, e2]) (List.range Z.length) [] [x0, j1, x2, x3, none, x5, some (.list (Z.map fun q => wD q.2)), some (.list [.tuple []]), x8, x9, x10, x11, x12, none, none, none, none, none] ⟨rfl, j1, none, none, rfl⟩
  obtain ⟨_, y1, y4, y13, e'⟩ := h
  subst e'
  rw [List.nil_append, List.length_range, List.take_length] at e
  exact ⟨y1, y4, y13, e⟩
end K32

namespace K32
open PySem PySem.Spec PyProof.Rows L2 Pm
theorem zip_at {α β : Type} (a : List α) (b : List β) (j : Nat) (h1 : j < a.length) (h2 : j < b.length) : (a.zip b)[j]? = some (a[j], b[j]) := by
  rw [List.getElem?_eq_getElem (by rw [List.length_zip]; omega), List.getElem_zip]
theorem getD_in {α : Type} {l : List α} {j : Nat} {d : α} (h : j < l.length) : l.getD j d ∈ l := by
  have e : l.getD j d = l[j] := by simp [List.getD, h]
  rw [e]
  exact List.getElem_mem h
abbrev Sh (Z : List Sq) : List Ship := Z.map fun q => q.1
def fW (Z : List Sq) (c : List Nat) (j : Nat) : Int := ((Z.map fun q => q.2).getD j []).getD (c.getD j 0) 0
theorem wk_get (Z : List Sq) (c : List Nat) (h : c.length = Z.length) (j : Nat) (hj : j < Z.length) : (wk Z c).getD j 0 = ((Sh Z).getD j (0, 0, 0, 0)).2.1 + (c.getD j 0 : Nat) := by
  unfold wk Sh
  have h1 : j < c.length := by omega
  simp [hj, h1, zip_at _ _ _ hj h1]
theorem pk_fW (Z : List Sq) (c : List Nat) (h : c.length = Z.length) : pk Z c = prodL ((List.range Z.length).map (fW Z c)) := by
  unfold pk
  congr 1
  apply List.ext_getElem?
  intro i
  by_cases hi : i < Z.length
  · have h1 : i < c.length := by omega
    rw [List.getElem?_map, zip_at Z c i hi h1]
    simp [hi, h1, fW]
  · have h1 : ¬ i < c.length := by omega
    simp [hi, h1]
    omega
theorem CC_lt (Z : List Sq) : ∀ c ∈ CC Z, ∀ j, j < Z.length → c.getD j 0 < ((Z.map fun q => q.2).getD j []).length := by
  induction Z using rev_ind with
  | nil => intro c hc j hj; simp at hj
  | app Z q ih =>
    intro c hc j hj
    rw [CC_app] at hc
    simp only [stepC, List.mem_flatMap, List.mem_map, List.mem_range] at hc
    obtain ⟨c0, h0, i, hi, rfl⟩ := hc
    have hl := CC_len Z c0 h0
    by_cases hj2 : j < Z.length
    · have := ih c0 h0 j hj2
      have e1 : (c0 ++ [i]).getD j 0 = c0.getD j 0 := by simp [List.getD, List.getElem?_append_left (show j < c0.length by omega)]
      have e2 : ((Z ++ [q]).map fun q => q.2).getD j [] = (Z.map fun q => q.2).getD j [] := by
        simp [List.getD, hj2, List.getElem?_append_left]
      rw [e1, e2]
      exact this
    · have hjl : j = Z.length := by simp at hj; omega
      subst hjl
      have e1 : (c0 ++ [i]).getD Z.length 0 = i := by rw [← hl]; simp
      have e2 : ((Z ++ [q]).map fun q => q.2).getD Z.length [] = q.2 := by simp
      rw [e1, e2]
      exact hi
theorem kept_one (Z : List Sq) (hg : ∀ q ∈ Z, GW q.2) (hn : Z.length ≤ 3) (c : List Nat) (hc : c ∈ CC Z) (o : List Nat) (ho : ∀ j ∈ o, j < Z.length) (x0 y1 x2 x3 x7 x8 x9 x10 x11 x12 y13 : Option D) :
    ∃ z1 z14, forL (gSet 1) l4__law_kept (o.map fun j => PyData.int (j : Nat)) [x0, y1, x2, x3, some (oD c), some (.list ((Sh Z).map shD)), some (.list (Z.map fun q => wD q.2)), x7, x8, x9, x10, x11, x12, y13, some (.int 0), some (.bool true), some (.int 1), none] =
      some (.nx [x0, z1, x2, x3, some (oD c), some (.list ((Sh Z).map shD)), some (.list (Z.map fun q => wD q.2)), x7, x8, x9, x10, x11, x12, y13, z14, some (.bool (keeps0 (Sh Z) (wk Z c) o)), some (.int (prodL (o.map (fW Z c)))), none]) := by
  have hcl := CC_len Z c hc
  have hlt := CC_lt Z c hc
  obtain ⟨ρ', e, h⟩ := forL_inv (g := gSet 1) (b := l4__law_kept) (fun j : Nat => PyData.int (j : Nat))
    (fun pre rest ρ => pre ++ rest = o ∧ ∃ (z1 : Option D) (d : Int) (b : Bool) (P : Int), (b && (ends0 (Sh Z) (wk Z c) d rest).all fun p => decide (p.2 ≤ ((Sh Z).getD p.1 (0, 0, 0, 0)).2.2.2)) = keeps0 (Sh Z) (wk Z c) o ∧ P * prodL (rest.map (fW Z c)) = prodL (o.map (fW Z c)) ∧ ρ = [x0, z1, x2, x3, some (oD c), some (.list ((Sh Z).map shD)), some (.list (Z.map fun q => wD q.2)), x7, x8, x9, x10, x11, x12, y13, some (.int d), some (.bool b), some (.int P), none]) (fun pre x rest ρ ⟨hp, z1, d, b, P, hb, hP, e⟩ => by
      subst e
      have hx : x ∈ o := by rw [← hp]; simp
      have hxl := ho x hx
      have hxc := hlt x hxl
      have i1 := at_map shD (Sh Z) (0, 0, 0, 0) x (by simpa [Sh] using hxl)
      have i2 : atI (Z.map fun q => wD q.2) (x : Int) = some (wD ((Z.map fun q => q.2).getD x [])) := by
        have := at_map wD (Z.map fun q => q.2) [] x (by simpa using hxl)
        rwa [List.map_map] at this
      have i3 : atI (c.map fun j => PyData.int (j : Nat)) (x : Int) = some (.int (c.getD x 0 : Nat)) := at_map _ c 0 x (by omega)
      have hW : GW ((Z.map fun q => q.2).getD x []) := by
        have hm : (Z.map fun q => q.2).getD x [] ∈ Z.map fun q => q.2 := getD_in (by simpa using hxl)
        obtain ⟨q, hq, e⟩ := List.mem_map.mp hm
        rw [← e]
        exact hg q hq
      have i4 : atI (((Z.map fun q => q.2).getD x []).map PyData.int) ((c.getD x 0 : Nat) : Int) = some (.int (fW Z c x)) := at_map PyData.int _ 0 _ hxc
      have hf : 1 ≤ fW Z c x ∧ fW Z c x ≤ 4 := hW.1 _ (getD_in hxc)
      have mk := mulOk_r P (b := fW Z c x) (by omega)
      have hst : mx d ((Sh Z).getD x (0, 0, 0, 0)).1 + ((Sh Z).getD x (0, 0, 0, 0)).2.1 + ((c.getD x 0 : Nat) : Int) = stp (Sh Z) (wk Z c) d x := by
        unfold stp
        rw [wk_get Z c hcl x hxl, Int.add_assoc]
      generalize hAA : (Sh Z).getD x (0, 0, 0, 0) = s at *
      generalize hWW : (Z.map fun q => q.2).getD x [] = W at *
      refine ⟨_, [x0, some (.int x), x2, x3, some (oD c), some (.list ((Sh Z).map shD)), some (.list (Z.map fun q => wD q.2)), x7, x8, x9, x10, x11, x12, y13, some (.int (stp (Sh Z) (wk Z c) d x)), some (.bool (b && decide (stp (Sh Z) (wk Z c) d x - 1 ≤ s.2.2.2))), some (.int (P * fW Z c x)), none], rfl, .inl ?_, by rw [List.append_assoc]; exact hp, some (.int x), stp (Sh Z) (wk Z c) d x, (b && decide (stp (Sh Z) (wk Z c) d x - 1 ≤ s.2.2.2)), P * fW Z c x, ?_, ?_, rfl⟩
      · rw [← hst]
        have hod : oD c = .tuple (c.map fun j => PyData.int (j : Nat)) := rfl
        have hwd : wD W = .tuple (W.map PyData.int) := rfl
        have hmx : (if s.1 > d then s.1 else d) = mx d s.1 := rfl
        rw [hod]
        rw [hwd] at i2
        cases b with
        | true => simp -implicitDefEqProofs only [l4__law_kept, xVar_a, xC_a, xBin_a, xUn_a, tOf_a, tTru_a, tNotP_a, tAndP_a, tOrP_a, tyes_a, tno_a, tYesP_a, xNil_a, xCons_a, xTup_a, xLst_a, xAnd_a, xOr_a, xIf_a, xChain_a, oNo_a, oAt_a, xSl_a, xCall_a, xSeq_a, xIt_a, xLc_a, gSet_a, gTupD_a, gsNil_a, gsCons_a, sNop_a, sBrk_a, sCnt_a, sSeq_a, sRet_a, sIf_a, sSet_a, sTgt_a, sAug_a, sApp_a, sExt_a, sPut_a, sPutK_a, pkO_s, sFor_a, sWhile_a, sPar_a, runD_a, b2_s, c2_s, sqO_nx, sqO_rt, sqO_bk, sqO_ct, ifO_t, ifO_f, stO_s, endO_nx, endO_rt, andO_t, andO_f, orO_t, orO_f, chO_s, chP_t, chP_f, slO_s, atO_i, lcO_s, forO_s, gsO_s, nxO_s, tgO_s, paO_s, apO_s, exO_s, plO_s, ptO_s, dB_b, tru_b, tru_n, tru_i, tru_l, tru_t, is_n, isn_n, nn_n, nn_i, nn_b, nn_t, nn_l, add_ii, add'_ii, sub_ii, neg_i, lt_ii, le_ii, gt_ii, ge_ii, ix_l, ix_t, ix_s, at0, at1, at2, sl_l, sl_t, len_l, len_t, len_s, abs_i, int_i, int_b, max_ii, min_ii, tup_s, lst_s, seq_l, seq_t, sum_s, wipe_n, wipe_c, mul_ii, fdiv_ii, mod_ii, add_ll, add_tt, setAll, mkT, mkL, oNot, List.getD_cons_zero, List.getD_cons_succ, List.length_cons, List.length_nil, List.set_cons_zero, List.set_cons_succ, List.map_cons, List.map_nil, List.replicate, List.cons_append, List.nil_append, List.append_nil, Option.bind_some, Option.map_some, List.all_cons, List.all_nil, if_true, if_false, reduceIte, Nat.reduceAdd, Nat.reduceSub, Nat.reduceLT, Nat.reduceLeDiff, Nat.reduceEqDiff, decide_true, decide_false, Bool.and_true, Bool.and_self, Bool.true_and, Bool.not_true, Bool.not_false, ne_eq, not_true_eq_false, not_false_eq_true, Nat.zero_add, Bool.false_eq_true, and_self, true_and, and_true, i1, i2, i3, i4, shD, at3, hmx, mk]
        | false => simp -implicitDefEqProofs only [l4__law_kept, xVar_a, xC_a, xBin_a, xUn_a, tOf_a, tTru_a, tNotP_a, tAndP_a, tOrP_a, tyes_a, tno_a, tYesP_a, xNil_a, xCons_a, xTup_a, xLst_a, xAnd_a, xOr_a, xIf_a, xChain_a, oNo_a, oAt_a, xSl_a, xCall_a, xSeq_a, xIt_a, xLc_a, gSet_a, gTupD_a, gsNil_a, gsCons_a, sNop_a, sBrk_a, sCnt_a, sSeq_a, sRet_a, sIf_a, sSet_a, sTgt_a, sAug_a, sApp_a, sExt_a, sPut_a, sPutK_a, pkO_s, sFor_a, sWhile_a, sPar_a, runD_a, b2_s, c2_s, sqO_nx, sqO_rt, sqO_bk, sqO_ct, ifO_t, ifO_f, stO_s, endO_nx, endO_rt, andO_t, andO_f, orO_t, orO_f, chO_s, chP_t, chP_f, slO_s, atO_i, lcO_s, forO_s, gsO_s, nxO_s, tgO_s, paO_s, apO_s, exO_s, plO_s, ptO_s, dB_b, tru_b, tru_n, tru_i, tru_l, tru_t, is_n, isn_n, nn_n, nn_i, nn_b, nn_t, nn_l, add_ii, add'_ii, sub_ii, neg_i, lt_ii, le_ii, gt_ii, ge_ii, ix_l, ix_t, ix_s, at0, at1, at2, sl_l, sl_t, len_l, len_t, len_s, abs_i, int_i, int_b, max_ii, min_ii, tup_s, lst_s, seq_l, seq_t, sum_s, wipe_n, wipe_c, mul_ii, fdiv_ii, mod_ii, add_ll, add_tt, setAll, mkT, mkL, oNot, List.getD_cons_zero, List.getD_cons_succ, List.length_cons, List.length_nil, List.set_cons_zero, List.set_cons_succ, List.map_cons, List.map_nil, List.replicate, List.cons_append, List.nil_append, List.append_nil, Option.bind_some, Option.map_some, List.all_cons, List.all_nil, if_true, if_false, reduceIte, Nat.reduceAdd, Nat.reduceSub, Nat.reduceLT, Nat.reduceLeDiff, Nat.reduceEqDiff, decide_true, decide_false, Bool.and_true, Bool.and_self, Bool.true_and, Bool.not_true, Bool.not_false, ne_eq, not_true_eq_false, not_false_eq_true, Nat.zero_add, Bool.false_eq_true, and_self, true_and, and_true, i1, i2, i3, i4, shD, at3, hmx, mk, Bool.false_and]
      · rw [← hb]
        simp only [ends0, List.all_cons, hAA, Bool.and_assoc]
      · rw [← hP]
        simp only [List.map_cons, prodL, List.foldr_cons, Int.mul_assoc]) o [] [x0, y1, x2, x3, some (oD c), some (.list ((Sh Z).map shD)), some (.list (Z.map fun q => wD q.2)), x7, x8, x9, x10, x11, x12, y13, some (.int 0), some (.bool true), some (.int 1), none] ⟨rfl, y1, 0, true, 1, by simp [keeps0], by simp, rfl⟩
  obtain ⟨_, z1, d, b, P, hb, hP, e'⟩ := h
  simp [ends0, prodL] at hb hP
  subst e'
  rw [e]
  refine ⟨z1, some (.int d), ?_⟩
  rw [hb, hP]
  rfl
theorem kept_sum (Z : List Sq) (hg : ∀ q ∈ Z, GW q.2) (hn : Z.length ≤ 3) (o : List Nat) (ho : ∀ j ∈ o, j < Z.length) (hp : o.Perm (List.range Z.length)) (x0 y1 x2 y4 x9 x10 x11 x12 y13 x7 : Option D) :
    ∃ z1 z4 z14 z15 z16, forL (gSet 4) l5__law_kept ((CC Z).map oD) [x0, y1, x2, some (oD o), y4, some (.list ((Sh Z).map shD)), some (.list (Z.map fun q => wD q.2)), x7, some (.int 0), x9, x10, x11, x12, y13, none, none, none, none] =
      some (.nx [x0, z1, x2, some (oD o), z4, some (.list ((Sh Z).map shD)), some (.list (Z.map fun q => wD q.2)), x7, some (.int (goodSum (Sh Z) o ((CC Z).map fun c => (wk Z c, pk Z c)))), x9, x10, x11, x12, y13, z14, z15, z16, none]) := by
  obtain ⟨ρ', e, h⟩ := forL_inv (g := gSet 4) (b := l5__law_kept) oD
    (fun pre rest ρ => pre ++ rest = CC Z ∧ ∃ z1 z4 z14 z15 z16, ρ = [x0, z1, x2, some (oD o), z4, some (.list ((Sh Z).map shD)), some (.list (Z.map fun q => wD q.2)), x7, some (.int (goodSum (Sh Z) o (pre.map fun c => (wk Z c, pk Z c)))), x9, x10, x11, x12, y13, z14, z15, z16, none]) (fun pre c rest ρ ⟨hpr, z1, z4, z14, z15, z16, e⟩ => by
      subst e
      have hc : c ∈ CC Z := by rw [← hpr]; simp
      have hcl := CC_len Z c hc
      obtain ⟨w1, w14, e1⟩ := kept_one Z hg hn c hc o ho x0 z1 x2 (some (oD o)) x7 (some (.int (goodSum (Sh Z) o (pre.map fun c => (wk Z c, pk Z c))))) x9 x10 x11 x12 y13
      have hpk : prodL (o.map (fW Z c)) = pk Z c := by
        rw [pk_fW Z c hcl]
        exact prod_perm (hp.map _)
      rw [hpk] at e1
      have m1 := mulOk_r (pk Z c) (b := 1) (by decide)
      have m0 := mulOk_r (pk Z c) (b := 0) (by decide)
      have hod : oD o = .tuple (o.map fun j => PyData.int (j : Nat)) := rfl
      have hsum : goodSum (Sh Z) o ((pre ++ [c]).map fun c => (wk Z c, pk Z c)) = goodSum (Sh Z) o (pre.map fun c => (wk Z c, pk Z c)) + (if keeps0 (Sh Z) (wk Z c) o then pk Z c else 0) := by
        unfold goodSum
        rw [List.map_append, List.filter_append, List.map_append, List.sum_append]
        cases hk : keeps0 (Sh Z) (wk Z c) o <;> simp [hk]
      refine ⟨_, [x0, w1, x2, some (oD o), some (oD c), some (.list ((Sh Z).map shD)), some (.list (Z.map fun q => wD q.2)), x7, some (.int (goodSum (Sh Z) o ((pre ++ [c]).map fun c => (wk Z c, pk Z c)))), x9, x10, x11, x12, y13, w14, some (.bool (keeps0 (Sh Z) (wk Z c) o)), some (.int (pk Z c)), none], rfl, .inl ?_, by rw [List.append_assoc]; exact hpr, w1, some (oD c), w14, some (.bool (keeps0 (Sh Z) (wk Z c) o)), some (.int (pk Z c)), rfl⟩
      rw [hsum]
      rw [hod] at e1 ⊢
      cases hk : keeps0 (Sh Z) (wk Z c) o with
      | true =>
        rw [hk] at e1
        simp -implicitDefEqProofs only [l5__law_kept, xVar_a, xC_a, xBin_a, xUn_a, tOf_a, tTru_a, tNotP_a, tAndP_a, tOrP_a, tyes_a, tno_a, tYesP_a, xNil_a, xCons_a, xTup_a, xLst_a, xAnd_a, xOr_a, xIf_a, xChain_a, oNo_a, oAt_a, xSl_a, xCall_a, xSeq_a, xIt_a, xLc_a, gSet_a, gTupD_a, gsNil_a, gsCons_a, sNop_a, sBrk_a, sCnt_a, sSeq_a, sRet_a, sIf_a, sSet_a, sTgt_a, sAug_a, sApp_a, sExt_a, sPut_a, sPutK_a, pkO_s, sFor_a, sWhile_a, sPar_a, runD_a, b2_s, c2_s, sqO_nx, sqO_rt, sqO_bk, sqO_ct, ifO_t, ifO_f, stO_s, endO_nx, endO_rt, andO_t, andO_f, orO_t, orO_f, chO_s, chP_t, chP_f, slO_s, atO_i, lcO_s, forO_s, gsO_s, nxO_s, tgO_s, paO_s, apO_s, exO_s, plO_s, ptO_s, dB_b, tru_b, tru_n, tru_i, tru_l, tru_t, is_n, isn_n, nn_n, nn_i, nn_b, nn_t, nn_l, add_ii, add'_ii, sub_ii, neg_i, lt_ii, le_ii, gt_ii, ge_ii, ix_l, ix_t, ix_s, at0, at1, at2, sl_l, sl_t, len_l, len_t, len_s, abs_i, int_i, int_b, max_ii, min_ii, tup_s, lst_s, seq_l, seq_t, sum_s, wipe_n, wipe_c, mul_ii, fdiv_ii, mod_ii, add_ll, add_tt, setAll, mkT, mkL, oNot, List.getD_cons_zero, List.getD_cons_succ, List.length_cons, List.length_nil, List.set_cons_zero, List.set_cons_succ, List.map_cons, List.map_nil, List.replicate, List.cons_append, List.nil_append, List.append_nil, Option.bind_some, Option.map_some, List.all_cons, List.all_nil, if_true, if_false, reduceIte, Nat.reduceAdd, Nat.reduceSub, Nat.reduceLT, Nat.reduceLeDiff, Nat.reduceEqDiff, decide_true, decide_false, Bool.and_true, Bool.and_self, Bool.true_and, Bool.not_true, Bool.not_false, ne_eq, not_true_eq_false, not_false_eq_true, Nat.zero_add, Bool.false_eq_true, and_self, true_and, and_true, e1, m1, Int.mul_one]
      | false =>
        rw [hk] at e1
        simp -implicitDefEqProofs only [l5__law_kept, xVar_a, xC_a, xBin_a, xUn_a, tOf_a, tTru_a, tNotP_a, tAndP_a, tOrP_a, tyes_a, tno_a, tYesP_a, xNil_a, xCons_a, xTup_a, xLst_a, xAnd_a, xOr_a, xIf_a, xChain_a, oNo_a, oAt_a, xSl_a, xCall_a, xSeq_a, xIt_a, xLc_a, gSet_a, gTupD_a, gsNil_a, gsCons_a, sNop_a, sBrk_a, sCnt_a, sSeq_a, sRet_a, sIf_a, sSet_a, sTgt_a, sAug_a, sApp_a, sExt_a, sPut_a, sPutK_a, pkO_s, sFor_a, sWhile_a, sPar_a, runD_a, b2_s, c2_s, sqO_nx, sqO_rt, sqO_bk, sqO_ct, ifO_t, ifO_f, stO_s, endO_nx, endO_rt, andO_t, andO_f, orO_t, orO_f, chO_s, chP_t, chP_f, slO_s, atO_i, lcO_s, forO_s, gsO_s, nxO_s, tgO_s, paO_s, apO_s, exO_s, plO_s, ptO_s, dB_b, tru_b, tru_n, tru_i, tru_l, tru_t, is_n, isn_n, nn_n, nn_i, nn_b, nn_t, nn_l, add_ii, add'_ii, sub_ii, neg_i, lt_ii, le_ii, gt_ii, ge_ii, ix_l, ix_t, ix_s, at0, at1, at2, sl_l, sl_t, len_l, len_t, len_s, abs_i, int_i, int_b, max_ii, min_ii, tup_s, lst_s, seq_l, seq_t, sum_s, wipe_n, wipe_c, mul_ii, fdiv_ii, mod_ii, add_ll, add_tt, setAll, mkT, mkL, oNot, List.getD_cons_zero, List.getD_cons_succ, List.length_cons, List.length_nil, List.set_cons_zero, List.set_cons_succ, List.map_cons, List.map_nil, List.replicate, List.cons_append, List.nil_append, List.append_nil, Option.bind_some, Option.map_some, List.all_cons, List.all_nil, if_true, if_false, reduceIte, Nat.reduceAdd, Nat.reduceSub, Nat.reduceLT, Nat.reduceLeDiff, Nat.reduceEqDiff, decide_true, decide_false, Bool.and_true, Bool.and_self, Bool.true_and, Bool.not_true, Bool.not_false, ne_eq, not_true_eq_false, not_false_eq_true, Nat.zero_add, Bool.false_eq_true, and_self, true_and, and_true, e1, m0, Int.mul_zero, Int.add_zero]) (CC Z) [] [x0, y1, x2, some (oD o), y4, some (.list ((Sh Z).map shD)), some (.list (Z.map fun q => wD q.2)), x7, some (.int 0), x9, x10, x11, x12, y13, none, none, none, none] ⟨rfl, y1, y4, none, none, none, rfl⟩
  obtain ⟨_, z1, z4, z14, z15, z16, e'⟩ := h
  subst e'
  exact ⟨z1, z4, z14, z15, z16, e⟩
end K32

namespace K32
open PySem PySem.Spec PyProof.Rows L2 Pm
theorem kept_ok (r : List Int) (hr : r.length = 48) : d__law_kept [.list (r.map PyData.int)] = some (.bool true) := by
  have i24 : atI (r.map PyData.int) 24 = some (.int (r.getD 24 0)) := row_at r 24 (by omega)
  have i46 : atI (r.map PyData.int) 46 = some (.int (r.getD 46 0)) := row_at r 46 (by omega)
  have n3 : (3 : Int) ≠ 0 := by decide
  have q24 := fmod_rng (r.getD 24 0) (m := 3) (by decide)
  obtain ⟨n, hn⟩ := nat_of (x := 1 + (r.getD 24 0).fmod 3) (by omega)
  have hn3 : 1 ≤ n ∧ n ≤ 3 := by omega
  obtain ⟨Z, j1, j11, j12, hZ, hg, e1⟩ := kept_build r hr n hn3.2
  subst hZ
  have hrn := oR1_nat Z.length (by omega)
  have ho := orders_eq Z.length hn3.1 hn3.2
  obtain ⟨o1, o2, o3⟩ := ordL_ok Z.length hn3.1 hn3.2
  have q46 := fmod_rng (r.getD 46 0) (m := ((ordL Z.length).length : Int)) (by omega)
  obtain ⟨i, hi⟩ := nat_of q46.1
  have hil : i < (ordL Z.length).length := by have := q46.2; rw [hi] at this; omega
  have iord : atI ((ordL Z.length).map oD) (i : Int) = some (oD ((ordL Z.length).getD i [])) := at_map oD _ [] i hil
  have hom := getD_in (d := ([] : List Nat)) hil
  obtain ⟨hperm, hnd⟩ := o3 _ hom
  have hne : ((ordL Z.length).length : Int) ≠ 0 := by omega
  generalize (ordL Z.length).getD i [] = o at *
  have hp : o.Perm (List.range Z.length) := List.isPerm_iff.mp hperm
  have hlt : ∀ j ∈ o, j < Z.length := fun j hj => by simpa using hp.mem_iff.mp hj
  have hol : o.length ≤ 1000 := by rw [hp.length_eq, List.length_range]; omega
  obtain ⟨y1, y4, y13, e2⟩ := kept_rows Z hg hn3.2 (some (.list (r.map PyData.int))) j1 (some (.list ((ordL Z.length).map oD))) (some (oD o)) (some (.list (Z.map fun q => shD q.1))) (some (.int 0)) (some (.int (Z.foldl (fun a q => a * q.2.sum) 1))) (some (.int Z.length)) j11 j12
  obtain ⟨z1, z4, z14, z15, z16, e3⟩ := kept_sum Z hg hn3.2 o hlt hp (some (.list (r.map PyData.int))) y1 (some (.list ((ordL Z.length).map oD))) y4 (some (.int (Z.foldl (fun a q => a * q.2.sum) 1))) (some (.int Z.length)) j11 j12 y13 (some (.list ((CC Z).map oD)))
  have hS : (Sh Z).map shD = Z.map fun q => shD q.1 := by unfold Sh; rw [List.map_map]; rfl
  rw [hS] at e3
  have hzip : (Sh Z).zip (Z.map fun q => q.2) = Z := by
    unfold Sh
    induction Z with
    | nil => rfl
    | cons q Z ih => simp only [List.map_cons, List.zip_cons_cons]; rw [List.zip_map']; simp
  have ck := chance_kept_eq (Sh Z) (Z.map fun q => q.2) o (by simp [Sh]) (by simp [Sh]; omega) (fun W hW => by obtain ⟨q, hq, rfl⟩ := List.mem_map.mp hW; exact (hg q hq).all) (by simpa [Sh] using hlt) hnd hol
  rw [hzip, X_CC, X_T, hS] at ck
  have hW : (Z.map fun q => q.2).map wD = Z.map fun q => wD q.2 := by rw [List.map_map]; rfl
  rw [hW] at ck
  have ck' : d_chance_kept [.tuple (Z.map fun q => shD q.1), .tuple (Z.map fun q => wD q.2), oD o] = some (fr (goodSum (Sh Z) o ((CC Z).map fun c => (wk Z c, pk Z c))) (Z.foldl (fun a q => a * q.2.sum) 1)) := ck
  have gx := gx_all Z hg
  have tp := gx.tp
  have ts := gx.ts
  rw [X_T] at tp ts
  have rq := ratio_eq (goodSum (Sh Z) o ((CC Z).map fun c => (wk Z c, pk Z c))) _ tp (ts.mono (by omega))
  have lk := like_fr 6 (goodSum (Sh Z) o ((CC Z).map fun c => (wk Z c, pk Z c))) (Z.foldl (fun a q => a * q.2.sum) 1)
  simp -implicitDefEqProofs only [d__law_kept, g__law_kept, xVar_a, xC_a, xBin_a, xUn_a, tOf_a, tTru_a, tNotP_a, tAndP_a, tOrP_a, tyes_a, tno_a, tYesP_a, xNil_a, xCons_a, xTup_a, xLst_a, xAnd_a, xOr_a, xIf_a, xChain_a, oNo_a, oAt_a, xSl_a, xCall_a, xSeq_a, xIt_a, xLc_a, gSet_a, gTupD_a, gsNil_a, gsCons_a, sNop_a, sBrk_a, sCnt_a, sSeq_a, sRet_a, sIf_a, sSet_a, sTgt_a, sAug_a, sApp_a, sExt_a, sPut_a, sPutK_a, pkO_s, sFor_a, sWhile_a, sPar_a, runD_a, b2_s, c2_s, sqO_nx, sqO_rt, sqO_bk, sqO_ct, ifO_t, ifO_f, stO_s, endO_nx, endO_rt, andO_t, andO_f, orO_t, orO_f, chO_s, chP_t, chP_f, slO_s, atO_i, lcO_s, forO_s, gsO_s, nxO_s, tgO_s, paO_s, apO_s, exO_s, plO_s, ptO_s, dB_b, tru_b, tru_n, tru_i, tru_l, tru_t, is_n, isn_n, nn_n, nn_i, nn_b, nn_t, nn_l, add_ii, add'_ii, sub_ii, neg_i, lt_ii, le_ii, gt_ii, ge_ii, ix_l, ix_t, ix_s, at0, at1, at2, sl_l, sl_t, len_l, len_t, len_s, abs_i, int_i, int_b, max_ii, min_ii, tup_s, lst_s, seq_l, seq_t, sum_s, wipe_n, wipe_c, mul_ii, fdiv_ii, mod_ii, add_ll, add_tt, setAll, mkT, mkL, oNot, List.getD_cons_zero, List.getD_cons_succ, List.length_cons, List.length_nil, List.set_cons_zero, List.set_cons_succ, List.map_cons, List.map_nil, List.replicate, List.cons_append, List.nil_append, List.append_nil, Option.bind_some, Option.map_some, List.all_cons, List.all_nil, if_true, if_false, reduceIte, Nat.reduceAdd, Nat.reduceSub, Nat.reduceLT, Nat.reduceLeDiff, Nat.reduceEqDiff, decide_true, decide_false, Bool.and_true, Bool.and_self, Bool.true_and, Bool.not_true, Bool.not_false, ne_eq, not_true_eq_false, not_false_eq_true, Nat.zero_add, Bool.false_eq_true, and_self, true_and, and_true, i24, mod_ii n3, hn, hrn, e1, ho, i46, List.length_map, mod_ii hne, hi, iord, e2, e3, ck', rq, flat_fr, lk]
end K32

namespace K32
open PySem PySem.Spec PyProof.Rows L2 Pm
def tupL : Nat → List (List Nat)
  | 0 => [[]]
  | n + 1 => (tupL n).flatMap fun c => [c ++ [0], c ++ [1]]
theorem tuples_eq : ∀ n : Nat, n ≤ 6 → d__law_tuples [.int n, .int 2] = some (.list ((tupL n).map oD))
  | 0, _ => by kernel_rfl
  | 1, _ => by kernel_rfl
  | 2, _ => by kernel_rfl
  | 3, _ => by kernel_rfl
  | 4, _ => by kernel_rfl
  | 5, _ => by kernel_rfl
  | 6, _ => by kernel_rfl
theorem tupL_ok : ∀ n, ∀ c ∈ tupL n, c.length = n ∧ ∀ d ∈ c, d = 0 ∨ d = 1
  | 0, c, hc => by
    simp [tupL] at hc
    subst hc
    simp
  | n + 1, c, hc => by
    simp only [tupL, List.mem_flatMap, List.mem_cons, List.not_mem_nil, or_false] at hc
    obtain ⟨c0, h0, h⟩ := hc
    obtain ⟨h1, h2⟩ := tupL_ok n c0 h0
    rcases h with h | h
    · subst h
      refine ⟨by simp [h1], fun d hd => ?_⟩
      rcases List.mem_append.mp hd with hd | hd
      · exact h2 d hd
      · simp at hd; exact .inl hd
    · subst h
      refine ⟨by simp [h1], fun d hd => ?_⟩
      rcases List.mem_append.mp hd with hd | hd
      · exact h2 d hd
      · simp at hd; exact .inr hd
def winB (k n : Nat) (days : List Nat) : Bool := (List.range (n + 1 - k)).any fun i => ((((days.drop i).take k).map fun d : Nat => (d : Int)).min? == some 1)
theorem cut_win (xs : List D) (i k : Nat) (h : i + k ≤ xs.length) : Pm.cutD xs (some (i : Int)) (some ((i : Int) + (k : Int))) = (xs.drop i).take k := by
  unfold Pm.cutD
  rw [HT.sIx_nat, ← Int.natCast_add, HT.sIx_nat, Nat.min_eq_left (by omega), Nat.min_eq_left (by omega)]
  congr 1
  omega
theorem min_ints (xs : List Int) : bMinI [.tuple (xs.map PyData.int)] = xs.min?.map .int := by
  show (asInts (xs.map PyData.int)).bind _ = _
  rw [asInts_map]
  rfl
theorem any_bools (xs : List Bool) : bAny [.list (xs.map PyData.bool)] = some (.bool (xs.any id)) := by
  show (asBools (xs.map PyData.bool)).map _ = _
  rw [asBools_map]
  rfl
theorem win_eq (k n : Nat) (hk : 1 ≤ k) (hk3 : k ≤ 3) (hn : n ≤ 6) (days : List Nat) (hd : days.length = n) (ρ : PEnv) (hl : ρ.length = 9) (h2 : ρ.getD 2 none = some (.int k)) (h3 : ρ.getD 3 none = some (.int n)) (h5 : ρ.getD 5 none = some (oD days)) :
    xCall bAny (xCons (xLc (xIt oR1 (xCons (xBin oAdd (xBin oSub (xVar 3) (xVar 2)) (xC (.int 1))) xNil)) (gSet 8) tYesP (xBin oEq (xCall bMinI (xCons (xSl (xVar 5) (oAt (xVar 8)) (oAt (xBin oAdd (xVar 8) (xVar 2)))) xNil)) (xC (.int 1))) [8]) xNil) ρ = some (.bool (winB k n days)) := by
  have hr : oR1 [.int ((n : Int) - (k : Int) + 1)] = some ((List.range (n + 1 - k)).map fun i => PyData.int (i : Nat)) := by
    have e : ((n : Int) - (k : Int) + 1).toNat = n + 1 - k := by omega
    show (if ((n : Int) - (k : Int) + 1) ≤ 16777216 ∧ -(2 ^ 62) ≤ ((n : Int) - (k : Int) + 1) then some (rangeD 0 1 ((n : Int) - (k : Int) + 1).toNat) else none) = _
    rw [if_pos (by constructor <;> omega), e]
    unfold rangeD
    simp
  have c1 : lcL (gSet 8) tYesP (xBin oEq (xCall bMinI (xCons (xSl (xVar 5) (oAt (xVar 8)) (oAt (xBin oAdd (xVar 8) (xVar 2)))) xNil)) (xC (.int 1))) (ρ.set 8 none) ((List.range (n + 1 - k)).map fun i => PyData.int (i : Nat)) = some ((List.range (n + 1 - k)).map fun i => PyData.bool ((((days.drop i).take k).map fun d : Nat => (d : Int)).min? == some 1)) := by
    refine lcL_map _ _ _ fun i hi => ?_
    have hi' : i < n + 1 - k := by simpa using hi
    have q8 : ((ρ.set 8 none).set 8 (some (PyData.int (i : Nat)))).getD 8 none = some (.int (i : Nat)) := by simp [hl]
    have q2 : ((ρ.set 8 none).set 8 (some (PyData.int (i : Nat)))).getD 2 none = some (.int k) := by rw [← h2]; simp
    have q5 : ((ρ.set 8 none).set 8 (some (PyData.int (i : Nat)))).getD 5 none = some (oD days) := by rw [← h5]; simp
    have hcut := cut_win (days.map fun j => PyData.int (j : Nat)) i k (by rw [List.length_map]; omega)
    have e1 : ((days.map fun j => PyData.int (j : Nat)).drop i).take k = (((days.drop i).take k).map fun d : Nat => (d : Int)).map PyData.int := by
      rw [List.map_map, List.map_take, List.map_drop]
      rfl
    have hne : ((days.drop i).take k).map (fun d : Nat => (d : Int)) ≠ [] := by
      intro h
      have := congrArg List.length h
      simp at this
      omega
    have hls : (ρ.set 8 none).length = 9 := by simp [hl]
    obtain ⟨m, hm⟩ : ∃ m, (((days.drop i).take k).map fun d : Nat => (d : Int)).min? = some m := by
      cases hh : ((days.drop i).take k).map (fun d : Nat => (d : Int)) with
      | nil => exact absurd hh hne
      | cons a l => exact ⟨_, rfl⟩
    have hmin := min_ints (((days.drop i).take k).map fun d : Nat => (d : Int))
    rw [hm] at hmin
    have hod : oD days = .tuple (days.map fun j => PyData.int (j : Nat)) := rfl
    rw [hod] at q5
    rw [hm]
    have hb : (some m == some (1 : Int)) = decide (m = 1) := rfl
    rw [hb]
    simp -implicitDefEqProofs only [xVar_a, xC_a, xBin_a, xUn_a, tOf_a, tTru_a, tNotP_a, tAndP_a, tOrP_a, tyes_a, tno_a, tYesP_a, xNil_a, xCons_a, xTup_a, xLst_a, xAnd_a, xOr_a, xIf_a, xChain_a, oNo_a, oAt_a, xSl_a, xCall_a, xSeq_a, xIt_a, xLc_a, gSet_a, gTupD_a, gsNil_a, gsCons_a, sNop_a, sBrk_a, sCnt_a, sSeq_a, sRet_a, sIf_a, sSet_a, sTgt_a, sAug_a, sApp_a, sExt_a, sPut_a, sPutK_a, pkO_s, sFor_a, sWhile_a, sPar_a, runD_a, b2_s, c2_s, sqO_nx, sqO_rt, sqO_bk, sqO_ct, ifO_t, ifO_f, stO_s, endO_nx, endO_rt, andO_t, andO_f, orO_t, orO_f, chO_s, chP_t, chP_f, slO_s, atO_i, lcO_s, forO_s, gsO_s, nxO_s, tgO_s, paO_s, apO_s, exO_s, plO_s, ptO_s, dB_b, tru_b, tru_n, tru_i, tru_l, tru_t, is_n, isn_n, nn_n, nn_i, nn_b, nn_t, nn_l, add_ii, add'_ii, sub_ii, neg_i, lt_ii, le_ii, gt_ii, ge_ii, ix_l, ix_t, ix_s, at0, at1, at2, sl_l, sl_t, len_l, len_t, len_s, abs_i, int_i, int_b, max_ii, min_ii, tup_s, lst_s, seq_l, seq_t, sum_s, wipe_n, wipe_c, mul_ii, fdiv_ii, mod_ii, add_ll, add_tt, setAll, mkT, mkL, oNot, List.getD_cons_zero, List.getD_cons_succ, List.length_cons, List.length_nil, List.set_cons_zero, List.set_cons_succ, List.map_cons, List.map_nil, List.replicate, List.cons_append, List.nil_append, List.append_nil, Option.bind_some, Option.map_some, List.all_cons, List.all_nil, if_true, if_false, reduceIte, Nat.reduceAdd, Nat.reduceSub, Nat.reduceLT, Nat.reduceLeDiff, Nat.reduceEqDiff, decide_true, decide_false, Bool.and_true, Bool.and_self, Bool.true_and, Bool.not_true, Bool.not_false, ne_eq, not_true_eq_false, not_false_eq_true, Nat.zero_add, Bool.false_eq_true, and_self, true_and, and_true, hls, q8, q2, q5, hcut, e1, hmin, eq_int]
  have hb := any_bools ((List.range (n + 1 - k)).map fun i => ((((days.drop i).take k).map fun d : Nat => (d : Int)).min? == some 1))
  rw [List.map_map] at hb
  have hb' : bAny [.list ((List.range (n + 1 - k)).map fun i => PyData.bool ((((days.drop i).take k).map fun d : Nat => (d : Int)).min? == some 1))] = some (.bool (winB k n days)) := by
    refine Eq.trans hb ?_
    simp [winB, List.any_map, Function.comp_def]
  simp -implicitDefEqProofs only [xVar_a, xC_a, xBin_a, xUn_a, tOf_a, tTru_a, tNotP_a, tAndP_a, tOrP_a, tyes_a, tno_a, tYesP_a, xNil_a, xCons_a, xTup_a, xLst_a, xAnd_a, xOr_a, xIf_a, xChain_a, oNo_a, oAt_a, xSl_a, xCall_a, xSeq_a, xIt_a, xLc_a, gSet_a, gTupD_a, gsNil_a, gsCons_a, sNop_a, sBrk_a, sCnt_a, sSeq_a, sRet_a, sIf_a, sSet_a, sTgt_a, sAug_a, sApp_a, sExt_a, sPut_a, sPutK_a, pkO_s, sFor_a, sWhile_a, sPar_a, runD_a, b2_s, c2_s, sqO_nx, sqO_rt, sqO_bk, sqO_ct, ifO_t, ifO_f, stO_s, endO_nx, endO_rt, andO_t, andO_f, orO_t, orO_f, chO_s, chP_t, chP_f, slO_s, atO_i, lcO_s, forO_s, gsO_s, nxO_s, tgO_s, paO_s, apO_s, exO_s, plO_s, ptO_s, dB_b, tru_b, tru_n, tru_i, tru_l, tru_t, is_n, isn_n, nn_n, nn_i, nn_b, nn_t, nn_l, add_ii, add'_ii, sub_ii, neg_i, lt_ii, le_ii, gt_ii, ge_ii, ix_l, ix_t, ix_s, at0, at1, at2, sl_l, sl_t, len_l, len_t, len_s, abs_i, int_i, int_b, max_ii, min_ii, tup_s, lst_s, seq_l, seq_t, sum_s, wipe_n, wipe_c, mul_ii, fdiv_ii, mod_ii, add_ll, add_tt, setAll, mkT, mkL, oNot, List.getD_cons_zero, List.getD_cons_succ, List.length_cons, List.length_nil, List.set_cons_zero, List.set_cons_succ, List.map_cons, List.map_nil, List.replicate, List.cons_append, List.nil_append, List.append_nil, Option.bind_some, Option.map_some, List.all_cons, List.all_nil, if_true, if_false, reduceIte, Nat.reduceAdd, Nat.reduceSub, Nat.reduceLT, Nat.reduceLeDiff, Nat.reduceEqDiff, decide_true, decide_false, Bool.and_true, Bool.and_self, Bool.true_and, Bool.not_true, Bool.not_false, ne_eq, not_true_eq_false, not_false_eq_true, Nat.zero_add, Bool.false_eq_true, and_self, true_and, and_true, h2, h3, hr, c1, hb']
def sel (a b : Int) (d : Nat) : Int := if d = 0 then b - a else a
def dryT (a b : Int) (k n : Nat) : Int := (((tupL n).filter (winB k n)).map fun c => prodL (c.map (sel a b))).sum
theorem prod_acc (P : Int) (l : List Int) (x : Int) : P * prodL (x :: l) = P * x * prodL l := by
  simp [prodL, Int.mul_assoc]
theorem dried_eq (a b : Int) (k n : Nat) (ha : 0 ≤ a) (hab : a ≤ b) (hb : 0 < b) (hb6 : b ≤ 6) (hk : 1 ≤ k) (hk3 : k ≤ 3) (hn : n ≤ 6) : d__law_dried [.int a, .int b, .int k, .int n] = some (fr (dryT a b k n) (b ^ n)) := by
  have ht := tuples_eq n hn
  have h2 : Sm 3 b := by unfold Sm; omega
  have h1 : Sm 3 a := by unfold Sm; omega
  obtain ⟨ρ', e, h⟩ := forL_inv (g := gSet 5) (b := l2__law_dried) oD
    (fun pre rest ρ => pre ++ rest = tupL n ∧ ∃ j5 j6 j7, ρ = [some (.int a), some (.int b), some (.int k), some (.int n), some (.int (((pre.filter (winB k n)).map fun c => prodL (c.map (sel a b))).sum)), j5, j6, j7, none]) (fun pre c rest ρ ⟨hp, j5, j6, j7, e⟩ => by
      subst e
      have hc : c ∈ tupL n := by rw [← hp]; simp
      obtain ⟨hcl, hcd⟩ := tupL_ok n c hc
      have hw := win_eq k n hk hk3 hn c hcl [some (.int a), some (.int b), some (.int k), some (.int n), some (.int (((pre.filter (winB k n)).map fun c => prodL (c.map (sel a b))).sum)), some (oD c), j6, j7, none] rfl rfl rfl rfl
      cases hwb : winB k n c with
      | false =>
        have hs : (((pre ++ [c]).filter (winB k n)).map fun c => prodL (c.map (sel a b))).sum = ((pre.filter (winB k n)).map fun c => prodL (c.map (sel a b))).sum := by simp [hwb]
        refine ⟨_, [some (.int a), some (.int b), some (.int k), some (.int n), some (.int ((((pre ++ [c]).filter (winB k n)).map fun c => prodL (c.map (sel a b))).sum)), some (oD c), j6, j7, none], rfl, .inl ?_, by rw [List.append_assoc]; exact hp, some (oD c), j6, j7, rfl⟩
        rw [hs]
        rw [hwb] at hw
        unfold l2__law_dried
        rw [sSeq_a, sIf_a, tTru_a]
        simp only [List.length_cons, List.length_nil, List.set_cons_succ, List.set_cons_zero]
        rw [hw]
        simp -implicitDefEqProofs only [xVar_a, xC_a, xBin_a, xUn_a, tOf_a, tTru_a, tNotP_a, tAndP_a, tOrP_a, tyes_a, tno_a, tYesP_a, xNil_a, xCons_a, xTup_a, xLst_a, xAnd_a, xOr_a, xIf_a, xChain_a, oNo_a, oAt_a, xSl_a, xCall_a, xSeq_a, xIt_a, xLc_a, gSet_a, gTupD_a, gsNil_a, gsCons_a, sNop_a, sBrk_a, sCnt_a, sSeq_a, sRet_a, sIf_a, sSet_a, sTgt_a, sAug_a, sApp_a, sExt_a, sPut_a, sPutK_a, pkO_s, sFor_a, sWhile_a, sPar_a, runD_a, b2_s, c2_s, sqO_nx, sqO_rt, sqO_bk, sqO_ct, ifO_t, ifO_f, stO_s, endO_nx, endO_rt, andO_t, andO_f, orO_t, orO_f, chO_s, chP_t, chP_f, slO_s, atO_i, lcO_s, forO_s, gsO_s, nxO_s, tgO_s, paO_s, apO_s, exO_s, plO_s, ptO_s, dB_b, tru_b, tru_n, tru_i, tru_l, tru_t, is_n, isn_n, nn_n, nn_i, nn_b, nn_t, nn_l, add_ii, add'_ii, sub_ii, neg_i, lt_ii, le_ii, gt_ii, ge_ii, ix_l, ix_t, ix_s, at0, at1, at2, sl_l, sl_t, len_l, len_t, len_s, abs_i, int_i, int_b, max_ii, min_ii, tup_s, lst_s, seq_l, seq_t, sum_s, wipe_n, wipe_c, mul_ii, fdiv_ii, mod_ii, add_ll, add_tt, setAll, mkT, mkL, oNot, List.getD_cons_zero, List.getD_cons_succ, List.length_cons, List.length_nil, List.set_cons_zero, List.set_cons_succ, List.map_cons, List.map_nil, List.replicate, List.cons_append, List.nil_append, List.append_nil, Option.bind_some, Option.map_some, List.all_cons, List.all_nil, if_true, if_false, reduceIte, Nat.reduceAdd, Nat.reduceSub, Nat.reduceLT, Nat.reduceLeDiff, Nat.reduceEqDiff, decide_true, decide_false, Bool.and_true, Bool.and_self, Bool.true_and, Bool.not_true, Bool.not_false, ne_eq, not_true_eq_false, not_false_eq_true, Nat.zero_add, Bool.false_eq_true, and_self, true_and, and_true]
      | true =>
        have hs : (((pre ++ [c]).filter (winB k n)).map fun c => prodL (c.map (sel a b))).sum = ((pre.filter (winB k n)).map fun c => prodL (c.map (sel a b))).sum + prodL (c.map (sel a b)) := by simp [hwb]
        generalize ((pre.filter (winB k n)).map fun c => prodL (c.map (sel a b))).sum = T at *
        obtain ⟨ρ2, e2, h2⟩ := forL_inv (g := gSet 7) (b := l1__law_dried) (fun d : Nat => PyData.int (d : Nat))
          (fun pr rs ρ => pr ++ rs = c ∧ ∃ P j7, P * prodL (rs.map (sel a b)) = prodL (c.map (sel a b)) ∧ ρ = [some (.int a), some (.int b), some (.int k), some (.int n), some (.int T), some (oD c), some (.int P), j7, none]) (fun pr d rs ρ ⟨hp2, P, j7, hP, e⟩ => by
            subst e
            have hd := hcd d (by rw [← hp2]; simp)
            have mk := mulOk_r P (b := sel a b d) (by unfold sel; split <;> omega)
            refine ⟨_, [some (.int a), some (.int b), some (.int k), some (.int n), some (.int T), some (oD c), some (.int (P * sel a b d)), some (.int d), none], rfl, .inl ?_, by rw [List.append_assoc]; exact hp2, P * sel a b d, some (.int d), by rw [← hP, List.map_cons, prod_acc], rfl⟩
            have hix : atI [PyData.int (b - a), PyData.int a] (d : Int) = some (.int (sel a b d)) := by
              rcases hd with hd | hd
              · subst hd; exact at0 _ _
              · subst hd; exact at1 _ _ _
            simp -implicitDefEqProofs only [l1__law_dried, xVar_a, xC_a, xBin_a, xUn_a, tOf_a, tTru_a, tNotP_a, tAndP_a, tOrP_a, tyes_a, tno_a, tYesP_a, xNil_a, xCons_a, xTup_a, xLst_a, xAnd_a, xOr_a, xIf_a, xChain_a, oNo_a, oAt_a, xSl_a, xCall_a, xSeq_a, xIt_a, xLc_a, gSet_a, gTupD_a, gsNil_a, gsCons_a, sNop_a, sBrk_a, sCnt_a, sSeq_a, sRet_a, sIf_a, sSet_a, sTgt_a, sAug_a, sApp_a, sExt_a, sPut_a, sPutK_a, pkO_s, sFor_a, sWhile_a, sPar_a, runD_a, b2_s, c2_s, sqO_nx, sqO_rt, sqO_bk, sqO_ct, ifO_t, ifO_f, stO_s, endO_nx, endO_rt, andO_t, andO_f, orO_t, orO_f, chO_s, chP_t, chP_f, slO_s, atO_i, lcO_s, forO_s, gsO_s, nxO_s, tgO_s, paO_s, apO_s, exO_s, plO_s, ptO_s, dB_b, tru_b, tru_n, tru_i, tru_l, tru_t, is_n, isn_n, nn_n, nn_i, nn_b, nn_t, nn_l, add_ii, add'_ii, sub_ii, neg_i, lt_ii, le_ii, gt_ii, ge_ii, ix_l, ix_t, ix_s, at0, at1, at2, sl_l, sl_t, len_l, len_t, len_s, abs_i, int_i, int_b, max_ii, min_ii, tup_s, lst_s, seq_l, seq_t, sum_s, wipe_n, wipe_c, mul_ii, fdiv_ii, mod_ii, add_ll, add_tt, setAll, mkT, mkL, oNot, List.getD_cons_zero, List.getD_cons_succ, List.length_cons, List.length_nil, List.set_cons_zero, List.set_cons_succ, List.map_cons, List.map_nil, List.replicate, List.cons_append, List.nil_append, List.append_nil, Option.bind_some, Option.map_some, List.all_cons, List.all_nil, if_true, if_false, reduceIte, Nat.reduceAdd, Nat.reduceSub, Nat.reduceLT, Nat.reduceLeDiff, Nat.reduceEqDiff, decide_true, decide_false, Bool.and_true, Bool.and_self, Bool.true_and, Bool.not_true, Bool.not_false, ne_eq, not_true_eq_false, not_false_eq_true, Nat.zero_add, Bool.false_eq_true, and_self, true_and, and_true, hix, mk]) c [] [some (.int a), some (.int b), some (.int k), some (.int n), some (.int T), some (oD c), some (.int 1), j7, none] ⟨rfl, 1, j7, by rw [Int.one_mul], rfl⟩
        obtain ⟨_, P, j7', hP, e3⟩ := h2
        have hP' : P = prodL (c.map (sel a b)) := by rw [← hP]; simp [prodL]
        subst e3
        rw [hP'] at e2
        refine ⟨_, [some (.int a), some (.int b), some (.int k), some (.int n), some (.int ((((pre ++ [c]).filter (winB k n)).map fun c => prodL (c.map (sel a b))).sum)), some (oD c), some (.int (prodL (c.map (sel a b)))), j7', none], rfl, .inl ?_, by rw [List.append_assoc]; exact hp, some (oD c), some (.int (prodL (c.map (sel a b)))), j7', rfl⟩
        rw [hs]
        rw [hwb] at hw
        unfold l2__law_dried
        rw [sSeq_a, sIf_a, tTru_a]
        simp only [List.length_cons, List.length_nil, List.set_cons_succ, List.set_cons_zero]
        rw [hw]
        have hod : oD c = .tuple (c.map fun j => PyData.int (j : Nat)) := rfl
        rw [hod] at e2 ⊢
        simp -implicitDefEqProofs only [xVar_a, xC_a, xBin_a, xUn_a, tOf_a, tTru_a, tNotP_a, tAndP_a, tOrP_a, tyes_a, tno_a, tYesP_a, xNil_a, xCons_a, xTup_a, xLst_a, xAnd_a, xOr_a, xIf_a, xChain_a, oNo_a, oAt_a, xSl_a, xCall_a, xSeq_a, xIt_a, xLc_a, gSet_a, gTupD_a, gsNil_a, gsCons_a, sNop_a, sBrk_a, sCnt_a, sSeq_a, sRet_a, sIf_a, sSet_a, sTgt_a, sAug_a, sApp_a, sExt_a, sPut_a, sPutK_a, pkO_s, sFor_a, sWhile_a, sPar_a, runD_a, b2_s, c2_s, sqO_nx, sqO_rt, sqO_bk, sqO_ct, ifO_t, ifO_f, stO_s, endO_nx, endO_rt, andO_t, andO_f, orO_t, orO_f, chO_s, chP_t, chP_f, slO_s, atO_i, lcO_s, forO_s, gsO_s, nxO_s, tgO_s, paO_s, apO_s, exO_s, plO_s, ptO_s, dB_b, tru_b, tru_n, tru_i, tru_l, tru_t, is_n, isn_n, nn_n, nn_i, nn_b, nn_t, nn_l, add_ii, add'_ii, sub_ii, neg_i, lt_ii, le_ii, gt_ii, ge_ii, ix_l, ix_t, ix_s, at0, at1, at2, sl_l, sl_t, len_l, len_t, len_s, abs_i, int_i, int_b, max_ii, min_ii, tup_s, lst_s, seq_l, seq_t, sum_s, wipe_n, wipe_c, mul_ii, fdiv_ii, mod_ii, add_ll, add_tt, setAll, mkT, mkL, oNot, List.getD_cons_zero, List.getD_cons_succ, List.length_cons, List.length_nil, List.set_cons_zero, List.set_cons_succ, List.map_cons, List.map_nil, List.replicate, List.cons_append, List.nil_append, List.append_nil, Option.bind_some, Option.map_some, List.all_cons, List.all_nil, if_true, if_false, reduceIte, Nat.reduceAdd, Nat.reduceSub, Nat.reduceLT, Nat.reduceLeDiff, Nat.reduceEqDiff, decide_true, decide_false, Bool.and_true, Bool.and_self, Bool.true_and, Bool.not_true, Bool.not_false, ne_eq, not_true_eq_false, not_false_eq_true, Nat.zero_add, Bool.false_eq_true, and_self, true_and, and_true, e2]) (tupL n) [] [some (.int a), some (.int b), some (.int k), some (.int n), some (.int 0), none, none, none, none] ⟨rfl, none, none, none, rfl⟩
  obtain ⟨_, j5, j6, j7, e'⟩ := h
  subst e'
  rw [List.nil_append] at e
  have hp := power_eq a b n (by omega) (h1.mono (by omega)) (h2.mono (by omega))
  have hbn : 0 < b ^ n := Int.pow_pos hb
  have hr := ratio_eq (dryT a b k n) (b ^ n) hbn ((sm_pow h2 n).mono (by omega))
  have e' : forL (gSet 5) l2__law_dried ((tupL n).map oD) [some (.int a), some (.int b), some (.int k), some (.int n), some (.int 0), none, none, none, none] = some (.nx [some (.int a), some (.int b), some (.int k), some (.int n), some (.int (dryT a b k n)), j5, j6, j7, none]) := e
  simp -implicitDefEqProofs only [d__law_dried, g__law_dried, xVar_a, xC_a, xBin_a, xUn_a, tOf_a, tTru_a, tNotP_a, tAndP_a, tOrP_a, tyes_a, tno_a, tYesP_a, xNil_a, xCons_a, xTup_a, xLst_a, xAnd_a, xOr_a, xIf_a, xChain_a, oNo_a, oAt_a, xSl_a, xCall_a, xSeq_a, xIt_a, xLc_a, gSet_a, gTupD_a, gsNil_a, gsCons_a, sNop_a, sBrk_a, sCnt_a, sSeq_a, sRet_a, sIf_a, sSet_a, sTgt_a, sAug_a, sApp_a, sExt_a, sPut_a, sPutK_a, pkO_s, sFor_a, sWhile_a, sPar_a, runD_a, b2_s, c2_s, sqO_nx, sqO_rt, sqO_bk, sqO_ct, ifO_t, ifO_f, stO_s, endO_nx, endO_rt, andO_t, andO_f, orO_t, orO_f, chO_s, chP_t, chP_f, slO_s, atO_i, lcO_s, forO_s, gsO_s, nxO_s, tgO_s, paO_s, apO_s, exO_s, plO_s, ptO_s, dB_b, tru_b, tru_n, tru_i, tru_l, tru_t, is_n, isn_n, nn_n, nn_i, nn_b, nn_t, nn_l, add_ii, add'_ii, sub_ii, neg_i, lt_ii, le_ii, gt_ii, ge_ii, ix_l, ix_t, ix_s, at0, at1, at2, sl_l, sl_t, len_l, len_t, len_s, abs_i, int_i, int_b, max_ii, min_ii, tup_s, lst_s, seq_l, seq_t, sum_s, wipe_n, wipe_c, mul_ii, fdiv_ii, mod_ii, add_ll, add_tt, setAll, mkT, mkL, oNot, List.getD_cons_zero, List.getD_cons_succ, List.length_cons, List.length_nil, List.set_cons_zero, List.set_cons_succ, List.map_cons, List.map_nil, List.replicate, List.cons_append, List.nil_append, List.append_nil, Option.bind_some, Option.map_some, List.all_cons, List.all_nil, if_true, if_false, reduceIte, Nat.reduceAdd, Nat.reduceSub, Nat.reduceLT, Nat.reduceLeDiff, Nat.reduceEqDiff, decide_true, decide_false, Bool.and_true, Bool.and_self, Bool.true_and, Bool.not_true, Bool.not_false, ne_eq, not_true_eq_false, not_false_eq_true, Nat.zero_add, Bool.false_eq_true, and_self, true_and, and_true, ht, e', hp, hr, flat_fr]
end K32

namespace K32
open PySem PySem.Spec PyProof.Rows L2 Pm
def allL (n : Nat) : List (List Nat) := (List.range n).foldr (fun i f => [[]] ++ f.map (i :: ·) ++ f.filter (fun c => !c.isEmpty)) [[]]
theorem allsets_eq : ∀ n : Nat, n ≤ 6 → d_all_sets [.int n] = some (.list ((allL n).map oD))
  | 0, _ => by kernel_rfl
  | 1, _ => by kernel_rfl
  | 2, _ => by kernel_rfl
  | 3, _ => by kernel_rfl
  | 4, _ => by kernel_rfl
  | 5, _ => by kernel_rfl
  | 6, _ => by kernel_rfl
def flB (n w : Nat) (fl : List Nat) : Bool := decide (w ≤ ((List.range n).filter fun i => !fl.contains i).length)
def chkF (n w : Nat) (fl : List Nat) : Bool := match d_floats_with [.tuple (List.replicate n (.int 1)), .int w, oD fl] with
  | some (.bool b) => b == flB n w fl
  | _ => false
theorem chkF_all : ((List.range 7).all fun n => (List.range 4).all fun w => (allL n).all fun fl => chkF n w fl) = true := by decide +kernel
theorem floats_eq (n w : Nat) (hn : n ≤ 6) (hw : w ≤ 3) (fl : List Nat) (hf : fl ∈ allL n) : d_floats_with [.tuple (List.replicate n (.int 1)), .int w, oD fl] = some (.bool (flB n w fl)) := by
  have h := chkF_all
  rw [List.all_eq_true] at h
  have h := h n (by rw [List.mem_range]; omega)
  rw [List.all_eq_true] at h
  have h := h w (by rw [List.mem_range]; omega)
  rw [List.all_eq_true] at h
  have h := h fl hf
  unfold chkF at h
  split at h
  · rename_i b e
    rw [e, eq_of_beq h]
  · cases h
theorem allL_cnt : ∀ n, n ≤ 6 → (allL n).length ≤ 64 := by decide
theorem in_ints (i : Nat) (fl : List Nat) : oIn (.int (i : Nat)) (oD fl) = some (.bool (fl.contains i)) := by
  have h1 : PyData.canLayAll0 (fl.map fun j => PyData.int (j : Nat)) = true := by
    induction fl with
    | nil => rfl
    | cons a l ih => simp [PyData.canLayAll0, PyData.canLay0] at ih ⊢; exact ih
  have h2 : shp (.int (i : Nat)) = true := by simp [shp, SeqAt.shaped, PyData.canLay0, PyData.depth]
  have h3 : ((fl.map fun j => PyData.int (j : Nat)).any fun z => PyData.eqv z (.int (i : Nat))) = fl.contains i := by
    induction fl with
    | nil => rfl
    | cons a l ih =>
      simp only [List.map_cons, PyData.canLayAll0, Bool.and_eq_true] at h1
      rw [List.map_cons, List.any_cons, ih h1.2, List.contains_cons]
      have : PyData.eqv (.int (a : Nat)) (.int (i : Nat)) = (i == a) := by
        simp only [PyData.eqv]
        by_cases h : a = i
        · subst h; simp
        · have h' : ¬ i = a := fun e => h e.symm
          have h'' : ¬ (a : Int) = (i : Int) := by omega
          rw [beq_eq_false_iff_ne.mpr h', beq_eq_false_iff_ne.mpr h'']
      rw [this]
  show (if shp (.int (i : Nat)) && PyData.canLayAll0 (fl.map fun j => PyData.int (j : Nat)) then some (PyData.bool ((fl.map fun j => PyData.int (j : Nat)).any fun z => PyData.eqv z (.int (i : Nat)))) else none) = _
  rw [h1, h2, h3]
  rfl
theorem enum_rep (n : Nat) (x : D) : oEnum [.tuple (List.replicate n x)] = some ((List.range n).map fun i => .tuple [.int (i : Nat), x]) := by
  show some (enumD (List.replicate n x)) = _
  unfold enumD
  congr 1
  apply List.ext_getElem?
  intro i
  by_cases h : i < n
  · simp [h]
  · simp [h]
def rsel (a b : Int) (fl : List Nat) (i : Nat) : Int := if fl.contains i then b - a else b - (b - a)
def roomP (a b : Int) (n : Nat) (fl : List Nat) : Int := prodL ((List.range n).map (rsel a b fl))
def roomT (a b : Int) (n w : Nat) : Int := (((allL n).filter (flB n w)).map (roomP a b n)).sum
theorem room_eq (a b : Int) (n w : Nat) (ha : 0 ≤ a) (hab : a ≤ b) (hb : 0 < b) (hb6 : b ≤ 6) (hn : n ≤ 6) (hw : w ≤ 3) :
    d_room_chances [.tuple (List.replicate n (.int 1)), .int w, .tuple (List.replicate n (fr (b - a) b))] = some (fr (roomT a b n w) (b ^ n)) := by
  have hbn : 0 < b ^ n := Int.pow_pos hb
  have h2 : Sm 3 b := by unfold Sm; omega
  have h1 : Sm 3 a := by unfold Sm; omega
  have h3 : Sm 3 (b - a) := by unfold Sm; omega
  have sb := sm_pow h2
  have hos := one_sub (a := b - a) hb (h3.mono (by omega)) (h2.mono (by omega))
  have hen := enum_rep n (fr (b - a) b)
  obtain ⟨ρ', e, h⟩ := forL_inv (g := gSet 4) (b := l2_room_chances) oD
    (fun pre rest ρ => pre ++ rest = allL n ∧ Sm (30 + pre.length) (((pre.filter (flB n w)).map (roomP a b n)).sum) ∧ ∃ j4 j5 j6 j7, ρ = [some (.tuple (List.replicate n (.int 1))), some (.int w), some (.tuple (List.replicate n (fr (b - a) b))), some (fr (((pre.filter (flB n w)).map (roomP a b n)).sum) (b ^ n)), j4, j5, j6, j7]) (fun pre fl rest ρ ⟨hp, hS, j4, j5, j6, j7, e⟩ => by
      subst e
      have hfl : fl ∈ allL n := by rw [← hp]; simp
      have hF := floats_eq n w hn hw fl hfl
      have hcnt : pre.length ≤ 64 := by
        have := congrArg List.length hp
        rw [List.length_append] at this
        have := allL_cnt n hn
        omega
      cases hc : flB n w fl with
      | false =>
        rw [hc] at hF
        have hs : ((((pre ++ [fl]).filter (flB n w)).map (roomP a b n)).sum) = (((pre.filter (flB n w)).map (roomP a b n)).sum) := by simp [hc]
        refine ⟨_, [some (.tuple (List.replicate n (.int 1))), some (.int w), some (.tuple (List.replicate n (fr (b - a) b))), some (fr ((((pre ++ [fl]).filter (flB n w)).map (roomP a b n)).sum) (b ^ n)), some (oD fl), j5, j6, j7], rfl, .inl ?_, by rw [List.append_assoc]; exact hp, by rw [hs, List.length_append]; exact hS.mono (by omega), _, _, _, _, rfl⟩
        rw [hs]
        simp -implicitDefEqProofs only [l2_room_chances, xVar_a, xC_a, xBin_a, xUn_a, tOf_a, tTru_a, tNotP_a, tAndP_a, tOrP_a, tyes_a, tno_a, tYesP_a, xNil_a, xCons_a, xTup_a, xLst_a, xAnd_a, xOr_a, xIf_a, xChain_a, oNo_a, oAt_a, xSl_a, xCall_a, xSeq_a, xIt_a, xLc_a, gSet_a, gTupD_a, gsNil_a, gsCons_a, sNop_a, sBrk_a, sCnt_a, sSeq_a, sRet_a, sIf_a, sSet_a, sTgt_a, sAug_a, sApp_a, sExt_a, sPut_a, sPutK_a, pkO_s, sFor_a, sWhile_a, sPar_a, runD_a, b2_s, c2_s, sqO_nx, sqO_rt, sqO_bk, sqO_ct, ifO_t, ifO_f, stO_s, endO_nx, endO_rt, andO_t, andO_f, orO_t, orO_f, chO_s, chP_t, chP_f, slO_s, atO_i, lcO_s, forO_s, gsO_s, nxO_s, tgO_s, paO_s, apO_s, exO_s, plO_s, ptO_s, dB_b, tru_b, tru_n, tru_i, tru_l, tru_t, is_n, isn_n, nn_n, nn_i, nn_b, nn_t, nn_l, add_ii, add'_ii, sub_ii, neg_i, lt_ii, le_ii, gt_ii, ge_ii, ix_l, ix_t, ix_s, at0, at1, at2, sl_l, sl_t, len_l, len_t, len_s, abs_i, int_i, int_b, max_ii, min_ii, tup_s, lst_s, seq_l, seq_t, sum_s, wipe_n, wipe_c, mul_ii, fdiv_ii, mod_ii, add_ll, add_tt, setAll, mkT, mkL, oNot, List.getD_cons_zero, List.getD_cons_succ, List.length_cons, List.length_nil, List.set_cons_zero, List.set_cons_succ, List.map_cons, List.map_nil, List.replicate, List.cons_append, List.nil_append, List.append_nil, Option.bind_some, Option.map_some, List.all_cons, List.all_nil, if_true, if_false, reduceIte, Nat.reduceAdd, Nat.reduceSub, Nat.reduceLT, Nat.reduceLeDiff, Nat.reduceEqDiff, decide_true, decide_false, Bool.and_true, Bool.and_self, Bool.true_and, Bool.not_true, Bool.not_false, ne_eq, not_true_eq_false, not_false_eq_true, Nat.zero_add, Bool.false_eq_true, and_self, true_and, and_true, hF]
      | true =>
        rw [hc] at hF
        have hs : ((((pre ++ [fl]).filter (flB n w)).map (roomP a b n)).sum) = (((pre.filter (flB n w)).map (roomP a b n)).sum) + roomP a b n fl := by simp [hc]
        generalize ((pre.filter (flB n w)).map (roomP a b n)).sum = T at *
        obtain ⟨ρ2, e2, h2'⟩ := forL_inv (g := gTupD 2 (gsCons (gSet 6) (gsCons (gSet 7) gsNil))) (b := l1_room_chances) (fun i : Nat => .tuple [.int (i : Nat), fr (b - a) b])
          (fun pr rs ρ => pr ++ rs = List.range n ∧ ∃ P j6 j7, P * prodL (rs.map (rsel a b fl)) = roomP a b n fl ∧ Sm (4 * pr.length) P ∧ ρ = [some (.tuple (List.replicate n (.int 1))), some (.int w), some (.tuple (List.replicate n (fr (b - a) b))), some (fr T (b ^ n)), some (oD fl), some (fr P (b ^ pr.length)), j6, j7]) (fun pr i rs ρ ⟨hp2, P, j6, j7, hP, sP, e⟩ => by
            subst e
            have hlp : pr.length + (rs.length + 1) = n := by
              have := congrArg List.length hp2
              simpa using this
            have hbp : 0 < b ^ pr.length := Int.pow_pos hb
            have hin := in_ints i fl
            have hsel : Sm 4 (rsel a b fl i) := by unfold rsel Sm; split <;> omega
            have t := times_eq (p := P) (q := b ^ pr.length) (r := rsel a b fl i) (s := b) hbp hb (sP.mono (by omega)) ((sb pr.length).mono (by omega)) (hsel.mono (by omega)) (h2.mono (by omega))
            rw [← Int.pow_succ] at t
            refine ⟨_, [some (.tuple (List.replicate n (.int 1))), some (.int w), some (.tuple (List.replicate n (fr (b - a) b))), some (fr T (b ^ n)), some (oD fl), some (fr (P * rsel a b fl i) (b ^ (pr.length + 1))), some (.int i), some (fr (b - a) b)], rfl, .inl ?_, by rw [List.append_assoc]; exact hp2, P * rsel a b fl i, some (.int i), some (fr (b - a) b), by rw [← hP, List.map_cons, prod_acc], by rw [List.length_append]; exact (sP.mul hsel).mono (by simp; omega), by rw [List.length_append]; rfl⟩
            unfold rsel at t ⊢
            cases hh : fl.contains i with
            | true =>
              rw [hh] at hin t
              simp only [if_true] at t ⊢
              simp -implicitDefEqProofs only [l1_room_chances, xVar_a, xC_a, xBin_a, xUn_a, tOf_a, tTru_a, tNotP_a, tAndP_a, tOrP_a, tyes_a, tno_a, tYesP_a, xNil_a, xCons_a, xTup_a, xLst_a, xAnd_a, xOr_a, xIf_a, xChain_a, oNo_a, oAt_a, xSl_a, xCall_a, xSeq_a, xIt_a, xLc_a, gSet_a, gTupD_a, gsNil_a, gsCons_a, sNop_a, sBrk_a, sCnt_a, sSeq_a, sRet_a, sIf_a, sSet_a, sTgt_a, sAug_a, sApp_a, sExt_a, sPut_a, sPutK_a, pkO_s, sFor_a, sWhile_a, sPar_a, runD_a, b2_s, c2_s, sqO_nx, sqO_rt, sqO_bk, sqO_ct, ifO_t, ifO_f, stO_s, endO_nx, endO_rt, andO_t, andO_f, orO_t, orO_f, chO_s, chP_t, chP_f, slO_s, atO_i, lcO_s, forO_s, gsO_s, nxO_s, tgO_s, paO_s, apO_s, exO_s, plO_s, ptO_s, dB_b, tru_b, tru_n, tru_i, tru_l, tru_t, is_n, isn_n, nn_n, nn_i, nn_b, nn_t, nn_l, add_ii, add'_ii, sub_ii, neg_i, lt_ii, le_ii, gt_ii, ge_ii, ix_l, ix_t, ix_s, at0, at1, at2, sl_l, sl_t, len_l, len_t, len_s, abs_i, int_i, int_b, max_ii, min_ii, tup_s, lst_s, seq_l, seq_t, sum_s, wipe_n, wipe_c, mul_ii, fdiv_ii, mod_ii, add_ll, add_tt, setAll, mkT, mkL, oNot, List.getD_cons_zero, List.getD_cons_succ, List.length_cons, List.length_nil, List.set_cons_zero, List.set_cons_succ, List.map_cons, List.map_nil, List.replicate, List.cons_append, List.nil_append, List.append_nil, Option.bind_some, Option.map_some, List.all_cons, List.all_nil, if_true, if_false, reduceIte, Nat.reduceAdd, Nat.reduceSub, Nat.reduceLT, Nat.reduceLeDiff, Nat.reduceEqDiff, decide_true, decide_false, Bool.and_true, Bool.and_self, Bool.true_and, Bool.not_true, Bool.not_false, ne_eq, not_true_eq_false, not_false_eq_true, Nat.zero_add, Bool.false_eq_true, and_self, true_and, and_true, hin, t]
            | false =>
              rw [hh] at hin t
              simp only [Bool.false_eq_true, if_false] at t ⊢
              simp -implicitDefEqProofs only [l1_room_chances, xVar_a, xC_a, xBin_a, xUn_a, tOf_a, tTru_a, tNotP_a, tAndP_a, tOrP_a, tyes_a, tno_a, tYesP_a, xNil_a, xCons_a, xTup_a, xLst_a, xAnd_a, xOr_a, xIf_a, xChain_a, oNo_a, oAt_a, xSl_a, xCall_a, xSeq_a, xIt_a, xLc_a, gSet_a, gTupD_a, gsNil_a, gsCons_a, sNop_a, sBrk_a, sCnt_a, sSeq_a, sRet_a, sIf_a, sSet_a, sTgt_a, sAug_a, sApp_a, sExt_a, sPut_a, sPutK_a, pkO_s, sFor_a, sWhile_a, sPar_a, runD_a, b2_s, c2_s, sqO_nx, sqO_rt, sqO_bk, sqO_ct, ifO_t, ifO_f, stO_s, endO_nx, endO_rt, andO_t, andO_f, orO_t, orO_f, chO_s, chP_t, chP_f, slO_s, atO_i, lcO_s, forO_s, gsO_s, nxO_s, tgO_s, paO_s, apO_s, exO_s, plO_s, ptO_s, dB_b, tru_b, tru_n, tru_i, tru_l, tru_t, is_n, isn_n, nn_n, nn_i, nn_b, nn_t, nn_l, add_ii, add'_ii, sub_ii, neg_i, lt_ii, le_ii, gt_ii, ge_ii, ix_l, ix_t, ix_s, at0, at1, at2, sl_l, sl_t, len_l, len_t, len_s, abs_i, int_i, int_b, max_ii, min_ii, tup_s, lst_s, seq_l, seq_t, sum_s, wipe_n, wipe_c, mul_ii, fdiv_ii, mod_ii, add_ll, add_tt, setAll, mkT, mkL, oNot, List.getD_cons_zero, List.getD_cons_succ, List.length_cons, List.length_nil, List.set_cons_zero, List.set_cons_succ, List.map_cons, List.map_nil, List.replicate, List.cons_append, List.nil_append, List.append_nil, Option.bind_some, Option.map_some, List.all_cons, List.all_nil, if_true, if_false, reduceIte, Nat.reduceAdd, Nat.reduceSub, Nat.reduceLT, Nat.reduceLeDiff, Nat.reduceEqDiff, decide_true, decide_false, Bool.and_true, Bool.and_self, Bool.true_and, Bool.not_true, Bool.not_false, ne_eq, not_true_eq_false, not_false_eq_true, Nat.zero_add, Bool.false_eq_true, and_self, true_and, and_true, hin, whole_eq, hos, t]) (List.range n) [] [some (.tuple (List.replicate n (.int 1))), some (.int w), some (.tuple (List.replicate n (fr (b - a) b))), some (fr T (b ^ n)), some (oD fl), some (fr 1 1), j6, j7] ⟨rfl, 1, j6, j7, by rw [Int.one_mul]; rfl, (show (1 : Int).natAbs ≤ 2 ^ (4 * 0) by decide), by rw [List.length_nil, Int.pow_zero]⟩
        obtain ⟨_, P, j6', j7', hP, sP, e3⟩ := h2'
        have hP' : P = roomP a b n fl := by rw [← hP]; simp [prodL]
        subst e3
        rw [List.nil_append, List.length_range] at e2 sP
        rw [hP'] at e2 sP
        have t := plus_eq (p := T) (q := b ^ n) (r := roomP a b n fl) (s := b ^ n) hbn hbn (hS.mono (by omega)) ((sb n).mono (by omega)) (sP.mono (by omega)) ((sb n).mono (by omega))
        rw [fr_eq (r := T + roomP a b n fl) (s := b ^ n) (Int.mul_pos hbn hbn) hbn (by grind)] at t
        refine ⟨_, [some (.tuple (List.replicate n (.int 1))), some (.int w), some (.tuple (List.replicate n (fr (b - a) b))), some (fr ((((pre ++ [fl]).filter (flB n w)).map (roomP a b n)).sum) (b ^ n)), some (oD fl), some (fr (roomP a b n fl) (b ^ n)), j6', j7'], rfl, .inl ?_, by rw [List.append_assoc]; exact hp, by rw [hs, List.length_append]; exact (hS.add (sP.mono (by omega))).mono (by simp; omega), _, _, _, _, rfl⟩
        rw [hs]
        simp -implicitDefEqProofs only [l2_room_chances, xVar_a, xC_a, xBin_a, xUn_a, tOf_a, tTru_a, tNotP_a, tAndP_a, tOrP_a, tyes_a, tno_a, tYesP_a, xNil_a, xCons_a, xTup_a, xLst_a, xAnd_a, xOr_a, xIf_a, xChain_a, oNo_a, oAt_a, xSl_a, xCall_a, xSeq_a, xIt_a, xLc_a, gSet_a, gTupD_a, gsNil_a, gsCons_a, sNop_a, sBrk_a, sCnt_a, sSeq_a, sRet_a, sIf_a, sSet_a, sTgt_a, sAug_a, sApp_a, sExt_a, sPut_a, sPutK_a, pkO_s, sFor_a, sWhile_a, sPar_a, runD_a, b2_s, c2_s, sqO_nx, sqO_rt, sqO_bk, sqO_ct, ifO_t, ifO_f, stO_s, endO_nx, endO_rt, andO_t, andO_f, orO_t, orO_f, chO_s, chP_t, chP_f, slO_s, atO_i, lcO_s, forO_s, gsO_s, nxO_s, tgO_s, paO_s, apO_s, exO_s, plO_s, ptO_s, dB_b, tru_b, tru_n, tru_i, tru_l, tru_t, is_n, isn_n, nn_n, nn_i, nn_b, nn_t, nn_l, add_ii, add'_ii, sub_ii, neg_i, lt_ii, le_ii, gt_ii, ge_ii, ix_l, ix_t, ix_s, at0, at1, at2, sl_l, sl_t, len_l, len_t, len_s, abs_i, int_i, int_b, max_ii, min_ii, tup_s, lst_s, seq_l, seq_t, sum_s, wipe_n, wipe_c, mul_ii, fdiv_ii, mod_ii, add_ll, add_tt, setAll, mkT, mkL, oNot, List.getD_cons_zero, List.getD_cons_succ, List.length_cons, List.length_nil, List.set_cons_zero, List.set_cons_succ, List.map_cons, List.map_nil, List.replicate, List.cons_append, List.nil_append, List.append_nil, Option.bind_some, Option.map_some, List.all_cons, List.all_nil, if_true, if_false, reduceIte, Nat.reduceAdd, Nat.reduceSub, Nat.reduceLT, Nat.reduceLeDiff, Nat.reduceEqDiff, decide_true, decide_false, Bool.and_true, Bool.and_self, Bool.true_and, Bool.not_true, Bool.not_false, ne_eq, not_true_eq_false, not_false_eq_true, Nat.zero_add, Bool.false_eq_true, and_self, true_and, and_true, hF, whole_eq, hen, e2, t]) (allL n) [] [some (.tuple (List.replicate n (.int 1))), some (.int w), some (.tuple (List.replicate n (fr (b - a) b))), some (fr 0 1), none, none, none, none] ⟨rfl, Sm.zero, none, none, none, none, by rw [show fr 0 1 = fr 0 (b ^ n) from fr_eq (by decide) hbn (by omega)]; rfl⟩
  obtain ⟨_, _, j4, j5, j6, j7, e'⟩ := h
  subst e'
  rw [List.nil_append] at e
  have e' : forL (gSet 4) l2_room_chances ((allL n).map oD) [some (.tuple (List.replicate n (.int 1))), some (.int w), some (.tuple (List.replicate n (fr (b - a) b))), some (fr 0 1), none, none, none, none] = some (.nx [some (.tuple (List.replicate n (.int 1))), some (.int w), some (.tuple (List.replicate n (fr (b - a) b))), some (fr (roomT a b n w) (b ^ n)), j4, j5, j6, j7]) := e
  have ha := allsets_eq n hn
  simp -implicitDefEqProofs only [d_room_chances, g_room_chances, xVar_a, xC_a, xBin_a, xUn_a, tOf_a, tTru_a, tNotP_a, tAndP_a, tOrP_a, tyes_a, tno_a, tYesP_a, xNil_a, xCons_a, xTup_a, xLst_a, xAnd_a, xOr_a, xIf_a, xChain_a, oNo_a, oAt_a, xSl_a, xCall_a, xSeq_a, xIt_a, xLc_a, gSet_a, gTupD_a, gsNil_a, gsCons_a, sNop_a, sBrk_a, sCnt_a, sSeq_a, sRet_a, sIf_a, sSet_a, sTgt_a, sAug_a, sApp_a, sExt_a, sPut_a, sPutK_a, pkO_s, sFor_a, sWhile_a, sPar_a, runD_a, b2_s, c2_s, sqO_nx, sqO_rt, sqO_bk, sqO_ct, ifO_t, ifO_f, stO_s, endO_nx, endO_rt, andO_t, andO_f, orO_t, orO_f, chO_s, chP_t, chP_f, slO_s, atO_i, lcO_s, forO_s, gsO_s, nxO_s, tgO_s, paO_s, apO_s, exO_s, plO_s, ptO_s, dB_b, tru_b, tru_n, tru_i, tru_l, tru_t, is_n, isn_n, nn_n, nn_i, nn_b, nn_t, nn_l, add_ii, add'_ii, sub_ii, neg_i, lt_ii, le_ii, gt_ii, ge_ii, ix_l, ix_t, ix_s, at0, at1, at2, sl_l, sl_t, len_l, len_t, len_s, abs_i, int_i, int_b, max_ii, min_ii, tup_s, lst_s, seq_l, seq_t, sum_s, wipe_n, wipe_c, mul_ii, fdiv_ii, mod_ii, add_ll, add_tt, setAll, mkT, mkL, oNot, List.getD_cons_zero, List.getD_cons_succ, List.length_cons, List.length_nil, List.set_cons_zero, List.set_cons_succ, List.map_cons, List.map_nil, List.replicate, List.cons_append, List.nil_append, List.append_nil, Option.bind_some, Option.map_some, List.all_cons, List.all_nil, if_true, if_false, reduceIte, Nat.reduceAdd, Nat.reduceSub, Nat.reduceLT, Nat.reduceLeDiff, Nat.reduceEqDiff, decide_true, decide_false, Bool.and_true, Bool.and_self, Bool.true_and, Bool.not_true, Bool.not_false, ne_eq, not_true_eq_false, not_false_eq_true, Nat.zero_add, Bool.false_eq_true, and_self, true_and, and_true, whole_eq, List.length_replicate, ha, e']
end K32

namespace K32
open PySem PySem.Spec PyProof.Rows L2 Pm
def shK (k : Nat) : List Ship := (List.range k).map fun j : Nat => ((0 : Int), (1 : Int), (2 : Int), (j : Int))
def wsK (a b : Int) (k : Nat) : List (List Int) := List.replicate k [a, b - a]
def chkN (a b k n : Nat) : Bool := decide ((it a b k n).2 = dryT a b k n) && decide ((it a b 1 n).2 = dryT a b 1 n) && (decide (n = 0) || decide (roomT a b n 1 = dryT a b 1 n)) && decide (roomT a b k k = (a : Int) ^ k) && decide ((it a b k k).2 = (a : Int) ^ k)
  && decide (goodSum (shK k) (List.range k) (((shK k).zip (wsK a b k)).foldl stepXT ([([], 1)], 1)).1 = (a : Int) ^ k) && decide ((((shK k).zip (wsK a b k)).foldl stepXT ([([], 1)], 1)).2 = (b : Int) ^ k)
theorem chkN_all : ((List.range 6).all fun b => (List.range (b + 1)).all fun a => (List.range 3).all fun k => (List.range 7).all fun n => chkN (a + 1) (b + 1) (k + 1) n) = true := by decide +kernel
theorem chkN_ok (a b k n : Nat) (ha : 1 ≤ a) (hab : a ≤ b) (hb : b ≤ 6) (hk : 1 ≤ k) (hk3 : k ≤ 3) (hn : n ≤ 6) : chkN a b k n = true := by
  have h := chkN_all
  rw [List.all_eq_true] at h
  have h := h (b - 1) (by rw [List.mem_range]; omega)
  rw [List.all_eq_true] at h
  have h := h (a - 1) (by rw [List.mem_range]; omega)
  rw [List.all_eq_true] at h
  have h := h (k - 1) (by rw [List.mem_range]; omega)
  rw [List.all_eq_true] at h
  have h := h n (by rw [List.mem_range]; omega)
  rwa [Nat.sub_add_cancel ha, Nat.sub_add_cancel (by omega), Nat.sub_add_cancel hk] at h
theorem parts_le {p q r s : Int} (hq : 0 < q) (hs : 0 < s) (b1 : Sm 900 p) (b2 : Sm 900 q) (b3 : Sm 900 r) (b4 : Sm 900 s) (h : p * s ≤ r * q) :
    ∃ p' q' r' s', fr p q = .tuple [.int p', .int q'] ∧ fr r s = .tuple [.int r', .int s'] ∧ mulOk p' s' = true ∧ mulOk r' q' = true ∧ ¬ (r' * q' < p' * s') := by
  obtain ⟨p', q', g, e1, rfl, rfl, hg, hq', n1, n2⟩ := fr_parts p hq
  obtain ⟨r', s', k, e2, rfl, rfl, hk, hs', n3, n4⟩ := fr_parts r hs
  refine ⟨p', q', r', s', e1, e2, (b1.le n1).mulOk (b4.le n4) (by omega) (by omega), (b3.le n3).mulOk (b2.le n2) (by omega) (by omega), fun hlt => ?_⟩
  have hgk := Int.mul_pos hg hk
  have h1 := Int.mul_lt_mul_of_pos_right hlt hgk
  have a1 : p' * g * (s' * k) = (p' * s') * (g * k) := by grind
  have a2 : r' * k * (q' * g) = (r' * q') * (g * k) := by grind
  rw [a1, a2] at h
  omega
theorem F_mono {a b : Int} {k : Nat} (ha : 0 ≤ a) (hab : a ≤ b) (hb : 0 < b) (hk : 1 ≤ k) : ∀ m : Nat, (it a b k (m - 1)).2 * b ^ m ≤ (it a b k m).2 * b ^ (m - 1)
  | 0 => by simp
  | m + 1 => by
    have g := good ha hab hk m
    obtain ⟨Ri, l, e, h1, h2, h3, h4⟩ := g.split hk
    have hp : 0 < b ^ m := Int.pow_pos hb
    show (it a b k m).2 * b ^ (m + 1) ≤ (it a b k (m + 1)).2 * b ^ m
    have e2 : (it a b k (m + 1)).2 = (it a b k m).2 * b + l * a := by simp only [it, e, nF_app]
    rw [e2, Int.pow_succ, Int.add_mul]
    have := Int.mul_nonneg (Int.mul_nonneg h2 ha) (Int.le_of_lt hp)
    have e3 : (it a b k m).2 * (b ^ m * b) = (it a b k m).2 * b * b ^ m := by grind
    omega
theorem rep_t (x : D) (n : Nat) (hn : n ≤ 1000) : oMul' (.tuple [x]) (.int n) = some (.tuple (List.replicate n x)) := by
  show (if -(2 ^ 62) ≤ (n : Int) ∧ (n : Int) ≤ 1000 ∧ [x].length ≤ 1000 then some (PyData.tuple (List.replicate (n : Int).toNat [x]).flatten) else none) = _
  rw [if_pos ⟨by omega, by omega, by simp⟩, Int.toNat_natCast]
  congr 2
  induction n with
  | zero => rfl
  | succ n ih => simp [List.replicate_succ, ih (by omega)]
theorem chances_ok (a' b' : Nat) (k n : Nat) (ha : 1 ≤ a') (hab : a' ≤ b') (hb : b' ≤ 6) (hk : 1 ≤ k) (hk3 : k ≤ 3) (hn : n ≤ 6) : d__law_chances [.int a', .int b', .int k, .int n] = some (.bool true) := by
  have ck := chkN_ok a' b' k n ha hab hb hk hk3 hn
  have ckm : ∀ m, m ≤ 6 → (it a' b' k m).2 = dryT a' b' k m := fun m hm => by
    have h := chkN_ok a' b' k m ha hab hb hk hk3 hm
    simp only [chkN, Bool.and_eq_true] at h
    exact of_decide_eq_true h.1.1.1.1.1.1
  simp only [chkN, Bool.and_eq_true, Bool.or_eq_true, decide_eq_true_eq] at ck
  obtain ⟨⟨⟨⟨⟨⟨c1, c2⟩, c3⟩, c4⟩, c5⟩, c6⟩, c7⟩ := ck
  have A1 : 1 ≤ (a' : Int) := by omega
  have A0 : 0 ≤ (a' : Int) := by omega
  have AB : (a' : Int) ≤ (b' : Int) := by omega
  have B0 : 0 < (b' : Int) := by omega
  have B6 : (b' : Int) ≤ 6 := by omega
  generalize (a' : Int) = a at *
  generalize (b' : Int) = b at *
  have h2 : Sm 3 b := by unfold Sm; omega
  have h1 : Sm 3 a := by unfold Sm; omega
  have t1 := ratio_eq a b B0 (h2.mono (by omega))
  have t2 := ratio_eq (b - a) b B0 (h2.mono (by omega))
  have hrn := oR1_nat (n + 1) (by omega)
  obtain ⟨ρ', e, h⟩ := forL_inv (g := gSet 4) (b := l1__law_chances) (fun i : Nat => PyData.int (i : Nat))
    (fun pre rest ρ => pre ++ rest = List.range (n + 1) ∧ ∃ j4 j11, ρ = [some (.int a), some (.int b), some (.int k), some (.int n), j4, none, none, none, some (fr a b), some (fr (b - a) b), some (fr (it a b k (pre.length - 1)).2 (b ^ (pre.length - 1))), j11, none]) (fun pre x rest ρ ⟨hp, j4, j11, e⟩ => by
      subst e
      have hlen : pre.length + (rest.length + 1) = n + 1 := by
        have := congrArg List.length hp
        simpa using this
      have hx : x = pre.length := by
        have h1 : (pre ++ x :: rest)[pre.length]? = some x := by simp
        rw [hp, List.getElem?_range (by omega)] at h1
        exact (Option.some.inj h1).symm
      subst hx
      have hm : pre.length ≤ 6 := by omega
      have hl2 : (pre ++ [pre.length]).length - 1 = pre.length := by simp
      generalize pre.length = m at *
      have u1 := dried_eq a b k m A0 AB B0 B6 hk hk3 hm
      rw [← ckm m hm] at u1
      have u2 := dry_chance_eq (n := m) A0 AB B0 B6 hk hk3 (by omega)
      have u3 := like_fr 6 (it a b k m).2 (b ^ m)
      have sF : ∀ i, i ≤ 6 → Sm 100 (it a b k i).2 := fun i hi => by
        have gd := good A0 AB hk i
        have h1 := sum_nonneg gd.pos
        have hF : (it a b k i).2 ≤ b ^ i := by have := gd.sum; omega
        have hpp : 0 < b ^ i := Int.pow_pos B0
        exact (Sm.of_le gd.fin (Int.le_trans hF (Sm.int (by omega) (sm_pow h2 i)))).mono (by omega)
      obtain ⟨p', q', r', s', f1, f2, m1, m2, f3⟩ := parts_le (p := (it a b k (m - 1)).2) (q := b ^ (m - 1)) (r := (it a b k m).2) (s := b ^ m) (Int.pow_pos B0) (Int.pow_pos B0) ((sF (m - 1) (by omega)).mono (by omega)) ((sm_pow h2 _).mono (by omega)) ((sF m hm).mono (by omega)) ((sm_pow h2 _).mono (by omega)) (F_mono A0 AB B0 hk m)
      have i0 : oIx (fr (it a b k (m - 1)).2 (b ^ (m - 1))) (.int 0) = some (.int p') := by rw [f1]; rfl
      have i1 : oIx (fr (it a b k (m - 1)).2 (b ^ (m - 1))) (.int 1) = some (.int q') := by rw [f1]; rfl
      have k0 : oIx (fr (it a b k m).2 (b ^ m)) (.int 0) = some (.int r') := by rw [f2]; rfl
      have k1 : oIx (fr (it a b k m).2 (b ^ m)) (.int 1) = some (.int s') := by rw [f2]; rfl
      refine ⟨_, [some (.int a), some (.int b), some (.int k), some (.int n), some (.int m), none, none, none, some (fr a b), some (fr (b - a) b), some (fr (it a b k m).2 (b ^ m)), some (fr (it a b k m).2 (b ^ m)), none], rfl, .inl ?_, by rw [List.append_assoc]; exact hp, some (.int m), some (fr (it a b k m).2 (b ^ m)), ?_⟩
      · simp -implicitDefEqProofs only [l1__law_chances, xVar_a, xC_a, xBin_a, xUn_a, tOf_a, tTru_a, tNotP_a, tAndP_a, tOrP_a, tyes_a, tno_a, tYesP_a, xNil_a, xCons_a, xTup_a, xLst_a, xAnd_a, xOr_a, xIf_a, xChain_a, oNo_a, oAt_a, xSl_a, xCall_a, xSeq_a, xIt_a, xLc_a, gSet_a, gTupD_a, gsNil_a, gsCons_a, sNop_a, sBrk_a, sCnt_a, sSeq_a, sRet_a, sIf_a, sSet_a, sTgt_a, sAug_a, sApp_a, sExt_a, sPut_a, sPutK_a, pkO_s, sFor_a, sWhile_a, sPar_a, runD_a, b2_s, c2_s, sqO_nx, sqO_rt, sqO_bk, sqO_ct, ifO_t, ifO_f, stO_s, endO_nx, endO_rt, andO_t, andO_f, orO_t, orO_f, chO_s, chP_t, chP_f, slO_s, atO_i, lcO_s, forO_s, gsO_s, nxO_s, tgO_s, paO_s, apO_s, exO_s, plO_s, ptO_s, dB_b, tru_b, tru_n, tru_i, tru_l, tru_t, is_n, isn_n, nn_n, nn_i, nn_b, nn_t, nn_l, add_ii, add'_ii, sub_ii, neg_i, lt_ii, le_ii, gt_ii, ge_ii, ix_l, ix_t, ix_s, at0, at1, at2, sl_l, sl_t, len_l, len_t, len_s, abs_i, int_i, int_b, max_ii, min_ii, tup_s, lst_s, seq_l, seq_t, sum_s, wipe_n, wipe_c, mul_ii, fdiv_ii, mod_ii, add_ll, add_tt, setAll, mkT, mkL, oNot, List.getD_cons_zero, List.getD_cons_succ, List.length_cons, List.length_nil, List.set_cons_zero, List.set_cons_succ, List.map_cons, List.map_nil, List.replicate, List.cons_append, List.nil_append, List.append_nil, Option.bind_some, Option.map_some, List.all_cons, List.all_nil, if_true, if_false, reduceIte, Nat.reduceAdd, Nat.reduceSub, Nat.reduceLT, Nat.reduceLeDiff, Nat.reduceEqDiff, decide_true, decide_false, Bool.and_true, Bool.and_self, Bool.true_and, Bool.not_true, Bool.not_false, ne_eq, not_true_eq_false, not_false_eq_true, Nat.zero_add, Bool.false_eq_true, and_self, true_and, and_true, u1, u2, u3, i0, i1, k0, k1, m1, m2, f3]
      · rw [hl2]) (List.range (n + 1)) [] [some (.int a), some (.int b), some (.int k), some (.int n), none, none, none, none, some (fr a b), some (fr (b - a) b), some (fr 0 1), none, none] ⟨rfl, none, none, by simp [it]⟩
  obtain ⟨_, j4, j11, e'⟩ := h
  subst e'
  simp only [List.nil_append, List.length_range] at e
  have v1 : d__law_dried [.int a, .int b, .int 1, .int n] = some (fr (dryT a b 1 n) (b ^ n)) := dried_eq a b 1 n A0 AB B0 B6 (by omega) (by omega) hn
  have v2 : d_dry_chance [fr a b, .int 1, .int n] = some (fr (it a b 1 n).2 (b ^ n)) := dry_chance_eq (k := 1) (n := n) A0 AB B0 B6 (by omega) (by omega) (by omega)
  rw [c2] at v2
  have v3 := like_fr 6 (dryT a b 1 n) (b ^ n)
  have v4 := rep_t (.int 1) n (by omega)
  have v5 := rep_t (fr (b - a) b) n (by omega)
  have v6 := room_eq a b n 1 A0 AB B0 B6 hn (by omega)
  have v7 := power_eq a b k (by omega) (h1.mono (by omega)) (h2.mono (by omega))
  have v8 := ratio_eq (a ^ k) (b ^ k) (Int.pow_pos B0) ((sm_pow h2 k).mono (by omega))
  have v9 := dry_chance_eq (n := k) A0 AB B0 B6 hk hk3 (by omega)
  rw [c5] at v9
  have w1 := like_fr 6 (a ^ k) (b ^ k)
  have w2 := rep_t (.int 1) k (by omega)
  have w3 := rep_t (fr (b - a) b) k (by omega)
  have w4 := room_eq a b k k A0 AB B0 B6 (by omega) hk3
  rw [c4] at w4
  have e1 : PyData.tuple [.int 0, .int 1] = fr 0 1 := rfl
  have en : (n : Int) + 1 = ((n + 1 : Nat) : Int) := by omega
  have hn1 : n + 1 - 1 = n := by omega
  rw [hn1] at e
  have en' : oR1 [.int ((n : Int) + 1)] = some (List.map (fun i => PyData.int (i : Nat)) (List.range (n + 1))) := by rw [en]; exact hrn
  have c6' := chance_kept_eq (shK k) (wsK a b k) (List.range k) (by simp [shK, wsK]) (by simp [shK]; omega) (fun W hW => by
    have : W = [a, b - a] := by unfold wsK at hW; exact List.eq_of_mem_replicate hW
    subst this
    refine ⟨fun x hx => ?_, by simp; omega, ?_, by simp⟩
    · simp at hx
      omega
    · have : [a, b - a].sum = b := by simp; omega
      rw [this]
      exact h2.mono (by omega)) (fun j hj => by simpa [shK] using hj) List.nodup_range (by simp; omega)
  rw [c6, c7] at c6'
  have hships : lcL (gSet 12) tYesP (xTup (xCons (xC (.int 0)) (xCons (xC (.int 1)) (xCons (xC (.int 2)) (xCons (xVar 12) xNil))))) [some (.int a), some (.int b), some (.int k), some (.int n), j4, some (fr (dryT a b 1 n) (b ^ n)), some (fr (a ^ k) (b ^ k)), none, some (fr a b), some (fr (b - a) b), some (fr (it a b k n).2 (b ^ n)), j11, none] ((List.range k).map fun i => PyData.int (i : Nat)) = some ((shK k).map shD) := by
    unfold shK
    rw [List.map_map]
    refine lcL_map _ _ _ fun i hi => ?_
    simp -implicitDefEqProofs only [xVar_a, xC_a, xBin_a, xUn_a, tOf_a, tTru_a, tNotP_a, tAndP_a, tOrP_a, tyes_a, tno_a, tYesP_a, xNil_a, xCons_a, xTup_a, xLst_a, xAnd_a, xOr_a, xIf_a, xChain_a, oNo_a, oAt_a, xSl_a, xCall_a, xSeq_a, xIt_a, xLc_a, gSet_a, gTupD_a, gsNil_a, gsCons_a, sNop_a, sBrk_a, sCnt_a, sSeq_a, sRet_a, sIf_a, sSet_a, sTgt_a, sAug_a, sApp_a, sExt_a, sPut_a, sPutK_a, pkO_s, sFor_a, sWhile_a, sPar_a, runD_a, b2_s, c2_s, sqO_nx, sqO_rt, sqO_bk, sqO_ct, ifO_t, ifO_f, stO_s, endO_nx, endO_rt, andO_t, andO_f, orO_t, orO_f, chO_s, chP_t, chP_f, slO_s, atO_i, lcO_s, forO_s, gsO_s, nxO_s, tgO_s, paO_s, apO_s, exO_s, plO_s, ptO_s, dB_b, tru_b, tru_n, tru_i, tru_l, tru_t, is_n, isn_n, nn_n, nn_i, nn_b, nn_t, nn_l, add_ii, add'_ii, sub_ii, neg_i, lt_ii, le_ii, gt_ii, ge_ii, ix_l, ix_t, ix_s, at0, at1, at2, sl_l, sl_t, len_l, len_t, len_s, abs_i, int_i, int_b, max_ii, min_ii, tup_s, lst_s, seq_l, seq_t, sum_s, wipe_n, wipe_c, mul_ii, fdiv_ii, mod_ii, add_ll, add_tt, setAll, mkT, mkL, oNot, List.getD_cons_zero, List.getD_cons_succ, List.length_cons, List.length_nil, List.set_cons_zero, List.set_cons_succ, List.map_cons, List.map_nil, List.replicate, List.cons_append, List.nil_append, List.append_nil, Option.bind_some, Option.map_some, List.all_cons, List.all_nil, if_true, if_false, reduceIte, Nat.reduceAdd, Nat.reduceSub, Nat.reduceLT, Nat.reduceLeDiff, Nat.reduceEqDiff, decide_true, decide_false, Bool.and_true, Bool.and_self, Bool.true_and, Bool.not_true, Bool.not_false, ne_eq, not_true_eq_false, not_false_eq_true, Nat.zero_add, Bool.false_eq_true, and_self, true_and, and_true, shD, Function.comp_def]
  have hws : (wsK a b k).map wD = List.replicate k (.tuple [.int a, .int (b - a)]) := by unfold wsK; rw [List.map_replicate]; rfl
  rw [hws] at c6'
  have hrk := oR1_nat k (by omega)
  have hrep := rep_t (.tuple [.int a, .int (b - a)]) k (by omega)
  have htr : oTupR1 (.int k) = some (.tuple ((List.range k).map fun j => PyData.int (j : Nat))) := by
    have e0 : oTupR1 (.int k) = (oRgT 0 (k : Int)).map PyData.tuple := rfl
    rw [e0]
    unfold oRgT rangeD
    rw [if_pos (by omega)]
    simp
  by_cases hnp : 0 < (n : Int)
  · have c3' : roomT a b n 1 = dryT a b 1 n := c3.resolve_left (by omega)
    rw [c3'] at v6
    have v6' : d_room_chances [.tuple (List.replicate n (.int 1)), .int 1, .tuple (List.replicate n (fr (b - a) b))] = some (fr (dryT a b 1 n) (b ^ n)) := v6
    by_cases hab1 : a = b
    · have hab' : decide (a = b) = true := decide_eq_true hab1
      simp -implicitDefEqProofs only [d__law_chances, g__law_chances, xVar_a, xC_a, xBin_a, xUn_a, tOf_a, tTru_a, tNotP_a, tAndP_a, tOrP_a, tyes_a, tno_a, tYesP_a, xNil_a, xCons_a, xTup_a, xLst_a, xAnd_a, xOr_a, xIf_a, xChain_a, oNo_a, oAt_a, xSl_a, xCall_a, xSeq_a, xIt_a, xLc_a, gSet_a, gTupD_a, gsNil_a, gsCons_a, sNop_a, sBrk_a, sCnt_a, sSeq_a, sRet_a, sIf_a, sSet_a, sTgt_a, sAug_a, sApp_a, sExt_a, sPut_a, sPutK_a, pkO_s, sFor_a, sWhile_a, sPar_a, runD_a, b2_s, c2_s, sqO_nx, sqO_rt, sqO_bk, sqO_ct, ifO_t, ifO_f, stO_s, endO_nx, endO_rt, andO_t, andO_f, orO_t, orO_f, chO_s, chP_t, chP_f, slO_s, atO_i, lcO_s, forO_s, gsO_s, nxO_s, tgO_s, paO_s, apO_s, exO_s, plO_s, ptO_s, dB_b, tru_b, tru_n, tru_i, tru_l, tru_t, is_n, isn_n, nn_n, nn_i, nn_b, nn_t, nn_l, add_ii, add'_ii, sub_ii, neg_i, lt_ii, le_ii, gt_ii, ge_ii, ix_l, ix_t, ix_s, at0, at1, at2, sl_l, sl_t, len_l, len_t, len_s, abs_i, int_i, int_b, max_ii, min_ii, tup_s, lst_s, seq_l, seq_t, sum_s, wipe_n, wipe_c, mul_ii, fdiv_ii, mod_ii, add_ll, add_tt, setAll, mkT, mkL, oNot, List.getD_cons_zero, List.getD_cons_succ, List.length_cons, List.length_nil, List.set_cons_zero, List.set_cons_succ, List.map_cons, List.map_nil, List.replicate, List.cons_append, List.nil_append, List.append_nil, Option.bind_some, Option.map_some, List.all_cons, List.all_nil, if_true, if_false, reduceIte, Nat.reduceAdd, Nat.reduceSub, Nat.reduceLT, Nat.reduceLeDiff, Nat.reduceEqDiff, decide_true, decide_false, Bool.and_true, Bool.and_self, Bool.true_and, Bool.not_true, Bool.not_false, ne_eq, not_true_eq_false, not_false_eq_true, Nat.zero_add, Bool.false_eq_true, and_self, true_and, and_true, t1, t2, e1, en', e, v1, v2, v3, hnp, v4, v5, v6', v7, v8, v9, w1, w2, w3, w4, eq_int, hab']
    · have hab' : decide (a = b) = false := decide_eq_false hab1
      simp -implicitDefEqProofs only [d__law_chances, g__law_chances, xVar_a, xC_a, xBin_a, xUn_a, tOf_a, tTru_a, tNotP_a, tAndP_a, tOrP_a, tyes_a, tno_a, tYesP_a, xNil_a, xCons_a, xTup_a, xLst_a, xAnd_a, xOr_a, xIf_a, xChain_a, oNo_a, oAt_a, xSl_a, xCall_a, xSeq_a, xIt_a, xLc_a, gSet_a, gTupD_a, gsNil_a, gsCons_a, sNop_a, sBrk_a, sCnt_a, sSeq_a, sRet_a, sIf_a, sSet_a, sTgt_a, sAug_a, sApp_a, sExt_a, sPut_a, sPutK_a, pkO_s, sFor_a, sWhile_a, sPar_a, runD_a, b2_s, c2_s, sqO_nx, sqO_rt, sqO_bk, sqO_ct, ifO_t, ifO_f, stO_s, endO_nx, endO_rt, andO_t, andO_f, orO_t, orO_f, chO_s, chP_t, chP_f, slO_s, atO_i, lcO_s, forO_s, gsO_s, nxO_s, tgO_s, paO_s, apO_s, exO_s, plO_s, ptO_s, dB_b, tru_b, tru_n, tru_i, tru_l, tru_t, is_n, isn_n, nn_n, nn_i, nn_b, nn_t, nn_l, add_ii, add'_ii, sub_ii, neg_i, lt_ii, le_ii, gt_ii, ge_ii, ix_l, ix_t, ix_s, at0, at1, at2, sl_l, sl_t, len_l, len_t, len_s, abs_i, int_i, int_b, max_ii, min_ii, tup_s, lst_s, seq_l, seq_t, sum_s, wipe_n, wipe_c, mul_ii, fdiv_ii, mod_ii, add_ll, add_tt, setAll, mkT, mkL, oNot, List.getD_cons_zero, List.getD_cons_succ, List.length_cons, List.length_nil, List.set_cons_zero, List.set_cons_succ, List.map_cons, List.map_nil, List.replicate, List.cons_append, List.nil_append, List.append_nil, Option.bind_some, Option.map_some, List.all_cons, List.all_nil, if_true, if_false, reduceIte, Nat.reduceAdd, Nat.reduceSub, Nat.reduceLT, Nat.reduceLeDiff, Nat.reduceEqDiff, decide_true, decide_false, Bool.and_true, Bool.and_self, Bool.true_and, Bool.not_true, Bool.not_false, ne_eq, not_true_eq_false, not_false_eq_true, Nat.zero_add, Bool.false_eq_true, and_self, true_and, and_true, t1, t2, e1, en', e, v1, v2, v3, hnp, v4, v5, v6', v7, v8, v9, w1, w2, w3, w4, eq_int, hab', hrk, hships, hrep, htr, c6', flat_fr]
  · by_cases hab1 : a = b
    · have hab' : decide (a = b) = true := decide_eq_true hab1
      simp -implicitDefEqProofs only [d__law_chances, g__law_chances, xVar_a, xC_a, xBin_a, xUn_a, tOf_a, tTru_a, tNotP_a, tAndP_a, tOrP_a, tyes_a, tno_a, tYesP_a, xNil_a, xCons_a, xTup_a, xLst_a, xAnd_a, xOr_a, xIf_a, xChain_a, oNo_a, oAt_a, xSl_a, xCall_a, xSeq_a, xIt_a, xLc_a, gSet_a, gTupD_a, gsNil_a, gsCons_a, sNop_a, sBrk_a, sCnt_a, sSeq_a, sRet_a, sIf_a, sSet_a, sTgt_a, sAug_a, sApp_a, sExt_a, sPut_a, sPutK_a, pkO_s, sFor_a, sWhile_a, sPar_a, runD_a, b2_s, c2_s, sqO_nx, sqO_rt, sqO_bk, sqO_ct, ifO_t, ifO_f, stO_s, endO_nx, endO_rt, andO_t, andO_f, orO_t, orO_f, chO_s, chP_t, chP_f, slO_s, atO_i, lcO_s, forO_s, gsO_s, nxO_s, tgO_s, paO_s, apO_s, exO_s, plO_s, ptO_s, dB_b, tru_b, tru_n, tru_i, tru_l, tru_t, is_n, isn_n, nn_n, nn_i, nn_b, nn_t, nn_l, add_ii, add'_ii, sub_ii, neg_i, lt_ii, le_ii, gt_ii, ge_ii, ix_l, ix_t, ix_s, at0, at1, at2, sl_l, sl_t, len_l, len_t, len_s, abs_i, int_i, int_b, max_ii, min_ii, tup_s, lst_s, seq_l, seq_t, sum_s, wipe_n, wipe_c, mul_ii, fdiv_ii, mod_ii, add_ll, add_tt, setAll, mkT, mkL, oNot, List.getD_cons_zero, List.getD_cons_succ, List.length_cons, List.length_nil, List.set_cons_zero, List.set_cons_succ, List.map_cons, List.map_nil, List.replicate, List.cons_append, List.nil_append, List.append_nil, Option.bind_some, Option.map_some, List.all_cons, List.all_nil, if_true, if_false, reduceIte, Nat.reduceAdd, Nat.reduceSub, Nat.reduceLT, Nat.reduceLeDiff, Nat.reduceEqDiff, decide_true, decide_false, Bool.and_true, Bool.and_self, Bool.true_and, Bool.not_true, Bool.not_false, ne_eq, not_true_eq_false, not_false_eq_true, Nat.zero_add, Bool.false_eq_true, and_self, true_and, and_true, t1, t2, e1, en', e, v1, v2, v3, hnp, v7, v8, v9, w1, w2, w3, w4, eq_int, hab']
    · have hab' : decide (a = b) = false := decide_eq_false hab1
      simp -implicitDefEqProofs only [d__law_chances, g__law_chances, xVar_a, xC_a, xBin_a, xUn_a, tOf_a, tTru_a, tNotP_a, tAndP_a, tOrP_a, tyes_a, tno_a, tYesP_a, xNil_a, xCons_a, xTup_a, xLst_a, xAnd_a, xOr_a, xIf_a, xChain_a, oNo_a, oAt_a, xSl_a, xCall_a, xSeq_a, xIt_a, xLc_a, gSet_a, gTupD_a, gsNil_a, gsCons_a, sNop_a, sBrk_a, sCnt_a, sSeq_a, sRet_a, sIf_a, sSet_a, sTgt_a, sAug_a, sApp_a, sExt_a, sPut_a, sPutK_a, pkO_s, sFor_a, sWhile_a, sPar_a, runD_a, b2_s, c2_s, sqO_nx, sqO_rt, sqO_bk, sqO_ct, ifO_t, ifO_f, stO_s, endO_nx, endO_rt, andO_t, andO_f, orO_t, orO_f, chO_s, chP_t, chP_f, slO_s, atO_i, lcO_s, forO_s, gsO_s, nxO_s, tgO_s, paO_s, apO_s, exO_s, plO_s, ptO_s, dB_b, tru_b, tru_n, tru_i, tru_l, tru_t, is_n, isn_n, nn_n, nn_i, nn_b, nn_t, nn_l, add_ii, add'_ii, sub_ii, neg_i, lt_ii, le_ii, gt_ii, ge_ii, ix_l, ix_t, ix_s, at0, at1, at2, sl_l, sl_t, len_l, len_t, len_s, abs_i, int_i, int_b, max_ii, min_ii, tup_s, lst_s, seq_l, seq_t, sum_s, wipe_n, wipe_c, mul_ii, fdiv_ii, mod_ii, add_ll, add_tt, setAll, mkT, mkL, oNot, List.getD_cons_zero, List.getD_cons_succ, List.length_cons, List.length_nil, List.set_cons_zero, List.set_cons_succ, List.map_cons, List.map_nil, List.replicate, List.cons_append, List.nil_append, List.append_nil, Option.bind_some, Option.map_some, List.all_cons, List.all_nil, if_true, if_false, reduceIte, Nat.reduceAdd, Nat.reduceSub, Nat.reduceLT, Nat.reduceLeDiff, Nat.reduceEqDiff, decide_true, decide_false, Bool.and_true, Bool.and_self, Bool.true_and, Bool.not_true, Bool.not_false, ne_eq, not_true_eq_false, not_false_eq_true, Nat.zero_add, Bool.false_eq_true, and_self, true_and, and_true, t1, t2, e1, en', e, v1, v2, v3, hnp, v7, v8, v9, w1, w2, w3, w4, eq_int, hab', hrk, hships, hrep, htr, c6', flat_fr]
end K32

namespace K32
open PySem PySem.Spec PyProof.Rows L2 Pm
/-! ### runs of dry days -/
abbrev Rn := Nat × Nat
def addDay (R : List Rn) (d : Nat) : List Rn := match R.getLast? with
  | some (s, e) => if e = d then R.dropLast ++ [(s, d + 1)] else R ++ [(d, d + 1)]
  | none => R ++ [(d, d + 1)]
def runFrom : Nat → List Rn → List Bool → List Rn
  | _, R, [] => R
  | p, R, t :: l => runFrom (p + 1) (if t then addDay R p else R) l
def begins (k : Nat) (R : List Rn) : List Nat := R.flatMap fun q => (List.range ((q.2 - q.1) / k)).map fun j => q.1 + k * j
def HH (k : Nat) : List Bool → Nat → Nat → List Nat
  | [], _, _ => []
  | true :: l, p, c => if c + 1 = k then (p + 1 - k) :: HH k l (p + 1) 0 else HH k l (p + 1) (c + 1)
  | false :: l, p, _ => HH k l (p + 1) 0
theorem begins_app (k : Nat) (R S : List Rn) : begins k (R ++ S) = begins k R ++ begins k S := by
  simp [begins, List.flatMap_append]
theorem begins_one (k s e : Nat) : begins k [(s, e)] = (List.range ((e - s) / k)).map fun j => s + k * j := by
  simp [begins]
theorem addDay_open (R0 : List Rn) (s p : Nat) : addDay (R0 ++ [(s, p)]) p = R0 ++ [(s, p + 1)] := by
  simp [addDay]
theorem addDay_closed (R : List Rn) (p : Nat) (h : ∀ s e, R.getLast? = some (s, e) → e < p) : addDay R p = R ++ [(p, p + 1)] := by
  unfold addDay
  cases hr : R.getLast? with
  | none => rfl
  | some q =>
    obtain ⟨s, e⟩ := q
    have := h s e hr
    simp only
    rw [if_neg (by omega)]
theorem H_runs (k : Nat) (hk : 1 ≤ k) : ∀ (l : List Bool) (p : Nat), (∀ R, (∀ s e, R.getLast? = some (s, e) → e < p) → begins k (runFrom p R l) = begins k R ++ HH k l p 0) ∧
    (∀ R0 s, s < p → begins k (runFrom p (R0 ++ [(s, p)]) l) = begins k (R0 ++ [(s, p)]) ++ HH k l p ((p - s) % k))
  | [], p => ⟨fun R _ => by simp [runFrom, HH], fun R0 s _ => by simp [runFrom, HH]⟩
  | true :: l, p => by
    have ih := H_runs k hk l (p + 1)
    refine ⟨fun R h => ?_, fun R0 s hs => ?_⟩
    · rw [runFrom, if_pos rfl, addDay_closed R p h, ih.2 R p (by omega), begins_app, begins_one, HH]
      have e1 : p + 1 - p = 1 := by omega
      rw [e1]
      by_cases h1 : k = 1
      · subst h1
        simp
      · have e2 : 1 / k = 0 := Nat.div_eq_of_lt (by omega)
        have e3 : 1 % k = 1 := Nat.mod_eq_of_lt (by omega)
        rw [e2, e3, if_neg (by omega)]
        simp
    · rw [runFrom, if_pos rfl, addDay_open, ih.2 R0 s (by omega), begins_app, begins_app, begins_one, begins_one, HH]
      have e1 : p + 1 - s = (p - s) + 1 := by omega
      have hm := Nat.mod_lt (p - s) (show 0 < k by omega)
      have hd := Nat.div_add_mod (p - s) k
      rw [e1]
      by_cases h1 : (p - s) % k + 1 = k
      · have e2 : (p - s + 1) / k = (p - s) / k + 1 := by
          have : p - s + 1 = k * ((p - s) / k + 1) := by rw [Nat.mul_add]; omega
          rw [this, Nat.mul_div_cancel_left _ (by omega)]
        have e3 : (p - s + 1) % k = 0 := by
          have : p - s + 1 = k * ((p - s) / k + 1) := by rw [Nat.mul_add]; omega
          rw [this, Nat.mul_mod_right]
        rw [if_pos h1, e2, e3, List.range_succ, List.map_append, List.append_assoc, List.append_assoc, List.append_assoc]
        congr 2
        simp
        omega
      · have e2 : (p - s + 1) / k = (p - s) / k := by
          have : p - s + 1 = k * ((p - s) / k) + ((p - s) % k + 1) := by omega
          rw [this, Nat.mul_add_div (by omega), Nat.div_eq_of_lt (a := (p - s) % k + 1) (by omega), Nat.add_zero]
        have e3 : (p - s + 1) % k = (p - s) % k + 1 := by
          have : p - s + 1 = k * ((p - s) / k) + ((p - s) % k + 1) := by omega
          rw [this, Nat.mul_add_mod, Nat.mod_eq_of_lt (by omega)]
        rw [if_neg h1, e2, e3]
  | false :: l, p => by
    have ih := H_runs k hk l (p + 1)
    refine ⟨fun R h => ?_, fun R0 s hs => ?_⟩
    · rw [runFrom, if_neg Bool.false_ne_true, ih.1 R fun s e he => by have := h s e he; omega, HH]
    · rw [runFrom, if_neg Bool.false_ne_true, ih.1 _ fun s' e' he => by simp at he; omega, HH]
/-! ### one coat behind the other -/
def winD (dry : List Bool) (k d : Nat) : Bool := decide (d + k ≤ dry.length) && (List.range k).all fun i => dry.getD (d + i) false
theorem winD_iff (dry : List Bool) (k d : Nat) : winD dry k d = true ↔ d + k ≤ dry.length ∧ ∀ i, i < k → dry.getD (d + i) false = true := by
  unfold winD
  rw [Bool.and_eq_true, decide_eq_true_eq, List.all_eq_true]
  constructor
  · intro ⟨h1, h2⟩
    exact ⟨h1, fun i hi => h2 i (List.mem_range.mpr hi)⟩
  · intro ⟨h1, h2⟩
    exact ⟨h1, fun i hi => h2 i (List.mem_range.mp hi)⟩
/-- B: the first coat from d on, the first behind it, and so on, as far as they go -/
def Gr (dry : List Bool) (k : Nat) : Nat → List Nat → Prop
  | d, [] => ∀ d', d ≤ d' → winD dry k d' = false
  | d, x :: B => d ≤ x ∧ winD dry k x = true ∧ (∀ d', d ≤ d' → d' < x → winD dry k d' = false) ∧ Gr dry k (x + k) B
theorem Gr.back {dry : List Bool} {k a b : Nat} (hab : a ≤ b) (h : ∀ d', a ≤ d' → d' < b → winD dry k d' = false) : ∀ {B : List Nat}, Gr dry k b B → Gr dry k a B
  | [], g => fun d' hd => by
    by_cases hb : d' < b
    · exact h d' hd hb
    · exact g d' (by omega)
  | x :: B, g => ⟨by have := g.1; omega, g.2.1, fun d' h1 h2 => by
      by_cases hb : d' < b
      · exact h d' h1 hb
      · exact g.2.2.1 d' (by omega) h2, g.2.2.2⟩
theorem Gr_HH (dry : List Bool) (k : Nat) (hk : 1 ≤ k) : ∀ (l : List Bool) (pre : List Bool) (c : Nat), pre ++ l = dry → c ≤ pre.length → c < k → (∀ i, i < c → dry.getD (pre.length - c + i) false = true) → Gr dry k (pre.length - c) (HH k l pre.length c)
  | [], pre, c, hp, hc, hck, ht => fun d' hd => by
    rw [List.append_nil] at hp
    subst hp
    unfold winD
    rw [decide_eq_false (by omega), Bool.false_and]
  | true :: l, pre, c, hp, hc, hck, ht => by
    have hlen : (pre ++ [true]).length = pre.length + 1 := by simp
    have hat : dry.getD pre.length false = true := by rw [← hp]; simp
    have hp' : (pre ++ [true]) ++ l = dry := by rw [List.append_assoc]; exact hp
    have hl : pre.length + 1 ≤ dry.length := by rw [← hp]; simp
    rw [HH]
    by_cases h1 : c + 1 = k
    · rw [if_pos h1]
      have e : pre.length + 1 - k = pre.length - c := by omega
      rw [e]
      refine ⟨Nat.le_refl _, (winD_iff _ _ _).mpr ⟨by omega, fun i hi => ?_⟩, fun d' h2 h3 => by omega, ?_⟩
      · by_cases hic : i < c
        · exact ht i hic
        · have : pre.length - c + i = pre.length := by omega
          rw [this]
          exact hat
      · have ih := Gr_HH dry k hk l (pre ++ [true]) 0 hp' (by omega) (by omega) (fun i hi => by omega)
        rw [hlen] at ih
        have e2 : pre.length - c + k = pre.length + 1 - 0 := by omega
        rw [e2]
        exact ih
    · rw [if_neg h1]
      have ih := Gr_HH dry k hk l (pre ++ [true]) (c + 1) hp' (by omega) (by omega) (fun i hi => by
        rw [hlen]
        by_cases hic : i < c
        · have := ht i hic
          have e : pre.length + 1 - (c + 1) + i = pre.length - c + i := by omega
          rw [e]
          exact this
        · have e : pre.length + 1 - (c + 1) + i = pre.length := by omega
          rw [e]
          exact hat)
      rw [hlen] at ih
      have e2 : pre.length + 1 - (c + 1) = pre.length - c := by omega
      rw [e2] at ih
      exact ih
  | false :: l, pre, c, hp, hc, hck, ht => by
    have hlen : (pre ++ [false]).length = pre.length + 1 := by simp
    have hat : dry.getD pre.length false = false := by rw [← hp]; simp
    have hp' : (pre ++ [false]) ++ l = dry := by rw [List.append_assoc]; exact hp
    have ih := Gr_HH dry k hk l (pre ++ [false]) 0 hp' (by omega) (by omega) (fun i hi => by omega)
    rw [hlen] at ih
    rw [HH]
    refine Gr.back (b := pre.length + 1 - 0) (by omega) (fun d' h1 h2 => ?_) ih
    cases hw : winD dry k d' with
    | false => rfl
    | true =>
      have h3 := ((winD_iff _ _ _).mp hw).2 (pre.length - d') (by omega)
      have e : d' + (pre.length - d') = pre.length := by omega
      rw [e, hat] at h3
      cases h3
theorem Gr_begins (dry : List Bool) (k : Nat) (hk : 1 ≤ k) : Gr dry k 0 (begins k (runFrom 0 [] dry)) := by
  have h := (H_runs k hk dry 0).1 [] (fun s e h => by cases h)
  rw [h]
  exact Gr_HH dry k hk dry [] 0 rfl (Nat.le_refl _) (by omega) (fun i hi => by omega)
end K32

namespace K32
open PySem PySem.Spec PyProof.Rows L2 Pm
def rnD (q : Rn) : D := .tuple [.int (q.1 : Nat), .int (q.2 : Nat)]
theorem runFrom_snoc : ∀ (l : List Bool) (p : Nat) (R : List Rn) (t : Bool), runFrom p R (l ++ [t]) = if t then addDay (runFrom p R l) (p + l.length) else runFrom p R l
  | [], p, R, t => by simp [runFrom]
  | u :: l, p, R, t => by
    rw [List.cons_append, runFrom, runFrom_snoc l, runFrom, List.length_cons]
    have e : p + 1 + l.length = p + (l.length + 1) := by omega
    rw [e]
theorem addDay_len (R : List Rn) (d : Nat) : (addDay R d).length ≤ R.length + 1 := by
  unfold addDay
  cases R.getLast? with
  | none => simp
  | some q =>
    obtain ⟨s, e⟩ := q
    simp only
    by_cases h : e = d
    · rw [if_pos h]
      simp
    · rw [if_neg h]
      simp
theorem runFrom_len : ∀ (l : List Bool) (p : Nat) (R : List Rn), (runFrom p R l).length ≤ R.length + l.length
  | [], p, R => by simp [runFrom]
  | true :: l, p, R => by
    rw [runFrom, List.length_cons, if_pos rfl]
    have := runFrom_len l (p + 1) (addDay R p)
    have h2 := addDay_len R p
    omega
  | false :: l, p, R => by
    rw [runFrom, List.length_cons, if_neg Bool.false_ne_true]
    have := runFrom_len l (p + 1) R
    omega
theorem ixN_last (n : Nat) : ixN (n + 1) (-1) = some n := by
  unfold ixN
  rw [if_neg (by decide), if_pos (by omega)]
  congr 1
  omega
theorem set_last {α : Type} (xs : List α) (x y : α) : (xs ++ [x]).set xs.length y = xs ++ [y] := by
  rw [List.set_append_right _ _ (Nat.le_refl _), Nat.sub_self]
  rfl
theorem enum_bools (l : List Bool) : oEnum [.tuple (l.map PyData.bool)] = some ((List.range l.length).map fun i => .tuple [.int (i : Nat), .bool (l.getD i false)]) := by
  show some (enumD (l.map PyData.bool)) = _
  unfold enumD
  congr 1
  apply List.ext_getElem?
  intro i
  by_cases h : i < l.length
  · simp [h]
  · simp [h]
theorem take_snoc (l : List Bool) (m : Nat) (h : m < l.length) : l.take (m + 1) = l.take m ++ [l.getD m false] := by
  rw [List.take_add_one, List.getElem?_eq_getElem h]
  simp [List.getD, h]
theorem dry_runs_eq (dry : List Bool) (hl : dry.length ≤ 100) : d_dry_runs [.tuple (dry.map PyData.bool)] = some (.tuple ((runFrom 0 [] dry).map rnD)) := by
  have hen := enum_bools dry
  obtain ⟨ρ', e, h⟩ := forL_inv (g := gTupD 2 (gsCons (gSet 2) (gsCons (gSet 3) gsNil))) (b := l1_dry_runs) (fun i : Nat => .tuple [.int (i : Nat), .bool (dry.getD i false)])
    (fun pre rest ρ => pre ++ rest = List.range dry.length ∧ ∃ j2 j3, ρ = [some (.tuple (dry.map PyData.bool)), some (.list ((runFrom 0 [] (dry.take pre.length)).map rnD)), j2, j3]) (fun pre x rest ρ ⟨hp, j2, j3, e⟩ => by
      subst e
      have hlen : pre.length + (rest.length + 1) = dry.length := by
        have := congrArg List.length hp
        simpa using this
      have hx : x = pre.length := by
        have h1 : (pre ++ x :: rest)[pre.length]? = some x := by simp
        rw [hp, List.getElem?_range (by omega)] at h1
        exact (Option.some.inj h1).symm
      subst hx
      have hsn : runFrom 0 [] (dry.take (pre.length + 1)) = if dry.getD pre.length false then addDay (runFrom 0 [] (dry.take pre.length)) pre.length else runFrom 0 [] (dry.take pre.length) := by
        rw [take_snoc dry pre.length (by omega), runFrom_snoc, List.length_take, Nat.zero_add, Nat.min_eq_left (by omega)]
      have hRl := runFrom_len (dry.take pre.length) 0 []
      rw [List.length_take, List.length_nil] at hRl
      refine ⟨_, [some (.tuple (dry.map PyData.bool)), some (.list ((runFrom 0 [] (dry.take (pre.length + 1))).map rnD)), some (.int pre.length), some (.bool (dry.getD pre.length false))], rfl, .inl ?_, by rw [List.append_assoc]; exact hp, _, _, by rw [List.length_append]; rfl⟩
      rw [hsn]
      generalize runFrom 0 [] (dry.take pre.length) = R at *
      cases hd : dry.getD pre.length false with
      | false => simp -implicitDefEqProofs only [l1_dry_runs, xVar_a, xC_a, xBin_a, xUn_a, tOf_a, tTru_a, tNotP_a, tAndP_a, tOrP_a, tyes_a, tno_a, tYesP_a, xNil_a, xCons_a, xTup_a, xLst_a, xAnd_a, xOr_a, xIf_a, xChain_a, oNo_a, oAt_a, xSl_a, xCall_a, xSeq_a, xIt_a, xLc_a, gSet_a, gTupD_a, gsNil_a, gsCons_a, sNop_a, sBrk_a, sCnt_a, sSeq_a, sRet_a, sIf_a, sSet_a, sTgt_a, sAug_a, sApp_a, sExt_a, sPut_a, sPutK_a, pkO_s, sFor_a, sWhile_a, sPar_a, runD_a, b2_s, c2_s, sqO_nx, sqO_rt, sqO_bk, sqO_ct, ifO_t, ifO_f, stO_s, endO_nx, endO_rt, andO_t, andO_f, orO_t, orO_f, chO_s, chP_t, chP_f, slO_s, atO_i, lcO_s, forO_s, gsO_s, nxO_s, tgO_s, paO_s, apO_s, exO_s, plO_s, ptO_s, dB_b, tru_b, tru_n, tru_i, tru_l, tru_t, is_n, isn_n, nn_n, nn_i, nn_b, nn_t, nn_l, add_ii, add'_ii, sub_ii, neg_i, lt_ii, le_ii, gt_ii, ge_ii, ix_l, ix_t, ix_s, at0, at1, at2, sl_l, sl_t, len_l, len_t, len_s, abs_i, int_i, int_b, max_ii, min_ii, tup_s, lst_s, seq_l, seq_t, sum_s, wipe_n, wipe_c, mul_ii, fdiv_ii, mod_ii, add_ll, add_tt, setAll, mkT, mkL, oNot, List.getD_cons_zero, List.getD_cons_succ, List.length_cons, List.length_nil, List.set_cons_zero, List.set_cons_succ, List.map_cons, List.map_nil, List.replicate, List.cons_append, List.nil_append, List.append_nil, Option.bind_some, Option.map_some, List.all_cons, List.all_nil, if_true, if_false, reduceIte, Nat.reduceAdd, Nat.reduceSub, Nat.reduceLT, Nat.reduceLeDiff, Nat.reduceEqDiff, decide_true, decide_false, Bool.and_true, Bool.and_self, Bool.true_and, Bool.not_true, Bool.not_false, ne_eq, not_true_eq_false, not_false_eq_true, Nat.zero_add, Bool.false_eq_true, and_self, true_and, and_true]
      | true =>
        rw [if_pos rfl]
        rcases List.eq_nil_or_concat R with hR | ⟨R0, q, hR⟩
        · subst hR
          simp -implicitDefEqProofs only [l1_dry_runs, xVar_a, xC_a, xBin_a, xUn_a, tOf_a, tTru_a, tNotP_a, tAndP_a, tOrP_a, tyes_a, tno_a, tYesP_a, xNil_a, xCons_a, xTup_a, xLst_a, xAnd_a, xOr_a, xIf_a, xChain_a, oNo_a, oAt_a, xSl_a, xCall_a, xSeq_a, xIt_a, xLc_a, gSet_a, gTupD_a, gsNil_a, gsCons_a, sNop_a, sBrk_a, sCnt_a, sSeq_a, sRet_a, sIf_a, sSet_a, sTgt_a, sAug_a, sApp_a, sExt_a, sPut_a, sPutK_a, pkO_s, sFor_a, sWhile_a, sPar_a, runD_a, b2_s, c2_s, sqO_nx, sqO_rt, sqO_bk, sqO_ct, ifO_t, ifO_f, stO_s, endO_nx, endO_rt, andO_t, andO_f, orO_t, orO_f, chO_s, chP_t, chP_f, slO_s, atO_i, lcO_s, forO_s, gsO_s, nxO_s, tgO_s, paO_s, apO_s, exO_s, plO_s, ptO_s, dB_b, tru_b, tru_n, tru_i, tru_l, tru_t, is_n, isn_n, nn_n, nn_i, nn_b, nn_t, nn_l, add_ii, add'_ii, sub_ii, neg_i, lt_ii, le_ii, gt_ii, ge_ii, ix_l, ix_t, ix_s, at0, at1, at2, sl_l, sl_t, len_l, len_t, len_s, abs_i, int_i, int_b, max_ii, min_ii, tup_s, lst_s, seq_l, seq_t, sum_s, wipe_n, wipe_c, mul_ii, fdiv_ii, mod_ii, add_ll, add_tt, setAll, mkT, mkL, oNot, List.getD_cons_zero, List.getD_cons_succ, List.length_cons, List.length_nil, List.set_cons_zero, List.set_cons_succ, List.map_cons, List.map_nil, List.replicate, List.cons_append, List.nil_append, List.append_nil, Option.bind_some, Option.map_some, List.all_cons, List.all_nil, if_true, if_false, reduceIte, Nat.reduceAdd, Nat.reduceSub, Nat.reduceLT, Nat.reduceLeDiff, Nat.reduceEqDiff, decide_true, decide_false, Bool.and_true, Bool.and_self, Bool.true_and, Bool.not_true, Bool.not_false, ne_eq, not_true_eq_false, not_false_eq_true, Nat.zero_add, Bool.false_eq_true, and_self, true_and, and_true, addDay, List.getLast?_nil, List.isEmpty_nil, rnD]
          rfl
        · subst hR
          obtain ⟨s, e⟩ := q
          rw [List.concat_eq_append] at *
          have hne : ((R0 ++ [(s, e)]).map rnD).isEmpty = false := by simp
          have hlast : atI ((R0 ++ [(s, e)]).map rnD) (-1) = some (.tuple [.int (s : Nat), .int (e : Nat)]) := by
            rw [List.map_append]
            exact L2.atI_last _ _
          have hix : ixN ((R0 ++ [(s, e)]).map rnD).length (-1) = some R0.length := by
            rw [List.length_map, List.length_append]
            exact ixN_last _
          have hset : ∀ y : D, ((R0 ++ [(s, e)]).map rnD).set R0.length y = R0.map rnD ++ [y] := fun y => by
            have := set_last (R0.map rnD) (rnD (s, e)) y
            rw [List.length_map] at this
            rw [List.map_append]
            exact this
          have hlt : ((R0 ++ [(s, e)]).map rnD).length < 16777216 := by rw [List.length_map]; omega
          by_cases hse : e = pre.length
          · subst hse
            have hadd : (addDay (R0 ++ [(s, pre.length)]) pre.length).map rnD = R0.map rnD ++ [.tuple [.int (s : Nat), .int ((pre.length : Int) + 1)]] := by
              rw [addDay_open, List.map_append]
              rfl
            rw [hadd]
            generalize (R0 ++ [(s, pre.length)]).map rnD = L at *
            simp -implicitDefEqProofs only [l1_dry_runs, xVar_a, xC_a, xBin_a, xUn_a, tOf_a, tTru_a, tNotP_a, tAndP_a, tOrP_a, tyes_a, tno_a, tYesP_a, xNil_a, xCons_a, xTup_a, xLst_a, xAnd_a, xOr_a, xIf_a, xChain_a, oNo_a, oAt_a, xSl_a, xCall_a, xSeq_a, xIt_a, xLc_a, gSet_a, gTupD_a, gsNil_a, gsCons_a, sNop_a, sBrk_a, sCnt_a, sSeq_a, sRet_a, sIf_a, sSet_a, sTgt_a, sAug_a, sApp_a, sExt_a, sPut_a, sPutK_a, pkO_s, sFor_a, sWhile_a, sPar_a, runD_a, b2_s, c2_s, sqO_nx, sqO_rt, sqO_bk, sqO_ct, ifO_t, ifO_f, stO_s, endO_nx, endO_rt, andO_t, andO_f, orO_t, orO_f, chO_s, chP_t, chP_f, slO_s, atO_i, lcO_s, forO_s, gsO_s, nxO_s, tgO_s, paO_s, apO_s, exO_s, plO_s, ptO_s, dB_b, tru_b, tru_n, tru_i, tru_l, tru_t, is_n, isn_n, nn_n, nn_i, nn_b, nn_t, nn_l, add_ii, add'_ii, sub_ii, neg_i, lt_ii, le_ii, gt_ii, ge_ii, ix_l, ix_t, ix_s, at0, at1, at2, sl_l, sl_t, len_l, len_t, len_s, abs_i, int_i, int_b, max_ii, min_ii, tup_s, lst_s, seq_l, seq_t, sum_s, wipe_n, wipe_c, mul_ii, fdiv_ii, mod_ii, add_ll, add_tt, setAll, mkT, mkL, oNot, List.getD_cons_zero, List.getD_cons_succ, List.length_cons, List.length_nil, List.set_cons_zero, List.set_cons_succ, List.map_cons, List.map_nil, List.replicate, List.cons_append, List.nil_append, List.append_nil, Option.bind_some, Option.map_some, List.all_cons, List.all_nil, if_true, if_false, reduceIte, Nat.reduceAdd, Nat.reduceSub, Nat.reduceLT, Nat.reduceLeDiff, Nat.reduceEqDiff, decide_true, decide_false, Bool.and_true, Bool.and_self, Bool.true_and, Bool.not_true, Bool.not_false, ne_eq, not_true_eq_false, not_false_eq_true, Nat.zero_add, Bool.false_eq_true, and_self, true_and, and_true, hne, hlast, eq_int, hix, hset]
          · have hadd : (addDay (R0 ++ [(s, e)]) pre.length).map rnD = (R0 ++ [(s, e)]).map rnD ++ [.tuple [.int (pre.length : Nat), .int ((pre.length : Int) + 1)]] := by
              have : addDay (R0 ++ [(s, e)]) pre.length = (R0 ++ [(s, e)]) ++ [(pre.length, pre.length + 1)] := by simp [addDay, hse]
              rw [this, List.map_append]
              rfl
            have hse' : ¬ (e : Int) = (pre.length : Int) := by omega
            rw [hadd]
            generalize (R0 ++ [(s, e)]).map rnD = L at *
            simp -implicitDefEqProofs only [l1_dry_runs, xVar_a, xC_a, xBin_a, xUn_a, tOf_a, tTru_a, tNotP_a, tAndP_a, tOrP_a, tyes_a, tno_a, tYesP_a, xNil_a, xCons_a, xTup_a, xLst_a, xAnd_a, xOr_a, xIf_a, xChain_a, oNo_a, oAt_a, xSl_a, xCall_a, xSeq_a, xIt_a, xLc_a, gSet_a, gTupD_a, gsNil_a, gsCons_a, sNop_a, sBrk_a, sCnt_a, sSeq_a, sRet_a, sIf_a, sSet_a, sTgt_a, sAug_a, sApp_a, sExt_a, sPut_a, sPutK_a, pkO_s, sFor_a, sWhile_a, sPar_a, runD_a, b2_s, c2_s, sqO_nx, sqO_rt, sqO_bk, sqO_ct, ifO_t, ifO_f, stO_s, endO_nx, endO_rt, andO_t, andO_f, orO_t, orO_f, chO_s, chP_t, chP_f, slO_s, atO_i, lcO_s, forO_s, gsO_s, nxO_s, tgO_s, paO_s, apO_s, exO_s, plO_s, ptO_s, dB_b, tru_b, tru_n, tru_i, tru_l, tru_t, is_n, isn_n, nn_n, nn_i, nn_b, nn_t, nn_l, add_ii, add'_ii, sub_ii, neg_i, lt_ii, le_ii, gt_ii, ge_ii, ix_l, ix_t, ix_s, at0, at1, at2, sl_l, sl_t, len_l, len_t, len_s, abs_i, int_i, int_b, max_ii, min_ii, tup_s, lst_s, seq_l, seq_t, sum_s, wipe_n, wipe_c, mul_ii, fdiv_ii, mod_ii, add_ll, add_tt, setAll, mkT, mkL, oNot, List.getD_cons_zero, List.getD_cons_succ, List.length_cons, List.length_nil, List.set_cons_zero, List.set_cons_succ, List.map_cons, List.map_nil, List.replicate, List.cons_append, List.nil_append, List.append_nil, Option.bind_some, Option.map_some, List.all_cons, List.all_nil, if_true, if_false, reduceIte, Nat.reduceAdd, Nat.reduceSub, Nat.reduceLT, Nat.reduceLeDiff, Nat.reduceEqDiff, decide_true, decide_false, Bool.and_true, Bool.and_self, Bool.true_and, Bool.not_true, Bool.not_false, ne_eq, not_true_eq_false, not_false_eq_true, Nat.zero_add, Bool.false_eq_true, and_self, true_and, and_true, hne, hlast, eq_int, hse', hlt]) (List.range dry.length) [] [some (.tuple (dry.map PyData.bool)), some (.list []), none, none] ⟨rfl, none, none, by simp [runFrom]⟩
  obtain ⟨_, j2, j3, e'⟩ := h
  subst e'
  rw [List.nil_append, List.length_range, List.take_length] at e
  simp -implicitDefEqProofs only [d_dry_runs, g_dry_runs, xVar_a, xC_a, xBin_a, xUn_a, tOf_a, tTru_a, tNotP_a, tAndP_a, tOrP_a, tyes_a, tno_a, tYesP_a, xNil_a, xCons_a, xTup_a, xLst_a, xAnd_a, xOr_a, xIf_a, xChain_a, oNo_a, oAt_a, xSl_a, xCall_a, xSeq_a, xIt_a, xLc_a, gSet_a, gTupD_a, gsNil_a, gsCons_a, sNop_a, sBrk_a, sCnt_a, sSeq_a, sRet_a, sIf_a, sSet_a, sTgt_a, sAug_a, sApp_a, sExt_a, sPut_a, sPutK_a, pkO_s, sFor_a, sWhile_a, sPar_a, runD_a, b2_s, c2_s, sqO_nx, sqO_rt, sqO_bk, sqO_ct, ifO_t, ifO_f, stO_s, endO_nx, endO_rt, andO_t, andO_f, orO_t, orO_f, chO_s, chP_t, chP_f, slO_s, atO_i, lcO_s, forO_s, gsO_s, nxO_s, tgO_s, paO_s, apO_s, exO_s, plO_s, ptO_s, dB_b, tru_b, tru_n, tru_i, tru_l, tru_t, is_n, isn_n, nn_n, nn_i, nn_b, nn_t, nn_l, add_ii, add'_ii, sub_ii, neg_i, lt_ii, le_ii, gt_ii, ge_ii, ix_l, ix_t, ix_s, at0, at1, at2, sl_l, sl_t, len_l, len_t, len_s, abs_i, int_i, int_b, max_ii, min_ii, tup_s, lst_s, seq_l, seq_t, sum_s, wipe_n, wipe_c, mul_ii, fdiv_ii, mod_ii, add_ll, add_tt, setAll, mkT, mkL, oNot, List.getD_cons_zero, List.getD_cons_succ, List.length_cons, List.length_nil, List.set_cons_zero, List.set_cons_succ, List.map_cons, List.map_nil, List.replicate, List.cons_append, List.nil_append, List.append_nil, Option.bind_some, Option.map_some, List.all_cons, List.all_nil, if_true, if_false, reduceIte, Nat.reduceAdd, Nat.reduceSub, Nat.reduceLT, Nat.reduceLeDiff, Nat.reduceEqDiff, decide_true, decide_false, Bool.and_true, Bool.and_self, Bool.true_and, Bool.not_true, Bool.not_false, ne_eq, not_true_eq_false, not_false_eq_true, Nat.zero_add, Bool.false_eq_true, and_self, true_and, and_true, hen, e]
end K32

namespace K32
open PySem PySem.Spec PyProof.Rows L2 Pm
def bI (t : Bool) : Int := if t then 1 else 0
def tideD (dry : List Bool) : D := .tuple (dry.map (fun t => PyData.int (bI t)) ++ [.int 0])
theorem tide_at_eq (dry : List Bool) (h : Nat) : d_tide_at [tideD dry, .int h] = some (.int (bI (dry.getD (h % (dry.length + 1)) false))) := by
  have hm := Nat.mod_lt h (show 0 < dry.length + 1 by omega)
  have e1 : ((h : Int)).fmod ((dry.length : Int) + 1) = ((h % (dry.length + 1) : Nat) : Int) := by
    rw [Int.fmod_eq_emod_of_nonneg _ (by omega)]
    rfl
  have hne : (dry.length : Int) + 1 ≠ 0 := by omega
  have hat : atI (dry.map (fun t => PyData.int (bI t)) ++ [PyData.int 0]) ((h % (dry.length + 1) : Nat) : Int) = some (.int (bI (dry.getD (h % (dry.length + 1)) false))) := by
    generalize h % (dry.length + 1) = i at *
    rw [atI_nat _ i (by simp; omega)]
    by_cases hi : i < dry.length
    · rw [List.getElem_append_left (by simpa using hi)]
      simp [hi]
    · have : i = dry.length := by omega
      subst this
      rw [List.getElem_append_right (by simp)]
      simp [bI]
  have hl : ((dry.map (fun t => PyData.int (bI t)) ++ [PyData.int 0]).length : Int) = (dry.length : Int) + 1 := by simp
  unfold tideD
  generalize dry.map (fun t => PyData.int (bI t)) ++ [PyData.int 0] = L at *
  simp -implicitDefEqProofs only [d_tide_at, g_tide_at, xVar_a, xC_a, xBin_a, xUn_a, tOf_a, tTru_a, tNotP_a, tAndP_a, tOrP_a, tyes_a, tno_a, tYesP_a, xNil_a, xCons_a, xTup_a, xLst_a, xAnd_a, xOr_a, xIf_a, xChain_a, oNo_a, oAt_a, xSl_a, xCall_a, xSeq_a, xIt_a, xLc_a, gSet_a, gTupD_a, gsNil_a, gsCons_a, sNop_a, sBrk_a, sCnt_a, sSeq_a, sRet_a, sIf_a, sSet_a, sTgt_a, sAug_a, sApp_a, sExt_a, sPut_a, sPutK_a, pkO_s, sFor_a, sWhile_a, sPar_a, runD_a, b2_s, c2_s, sqO_nx, sqO_rt, sqO_bk, sqO_ct, ifO_t, ifO_f, stO_s, endO_nx, endO_rt, andO_t, andO_f, orO_t, orO_f, chO_s, chP_t, chP_f, slO_s, atO_i, lcO_s, forO_s, gsO_s, nxO_s, tgO_s, paO_s, apO_s, exO_s, plO_s, ptO_s, dB_b, tru_b, tru_n, tru_i, tru_l, tru_t, is_n, isn_n, nn_n, nn_i, nn_b, nn_t, nn_l, add_ii, add'_ii, sub_ii, neg_i, lt_ii, le_ii, gt_ii, ge_ii, ix_l, ix_t, ix_s, at0, at1, at2, sl_l, sl_t, len_l, len_t, len_s, abs_i, int_i, int_b, max_ii, min_ii, tup_s, lst_s, seq_l, seq_t, sum_s, wipe_n, wipe_c, mul_ii, fdiv_ii, mod_ii, add_ll, add_tt, setAll, mkT, mkL, oNot, List.getD_cons_zero, List.getD_cons_succ, List.length_cons, List.length_nil, List.set_cons_zero, List.set_cons_succ, List.map_cons, List.map_nil, List.replicate, List.cons_append, List.nil_append, List.append_nil, Option.bind_some, Option.map_some, List.all_cons, List.all_nil, if_true, if_false, reduceIte, Nat.reduceAdd, Nat.reduceSub, Nat.reduceLT, Nat.reduceLeDiff, Nat.reduceEqDiff, decide_true, decide_false, Bool.and_true, Bool.and_self, Bool.true_and, Bool.not_true, Bool.not_false, ne_eq, not_true_eq_false, not_false_eq_true, Nat.zero_add, Bool.false_eq_true, and_self, true_and, and_true, hl, mod_ii hne, e1, hat]
theorem oR2_zero (n : Nat) (hn : n ≤ 1000) : oR2 [.int 0, .int (n : Int)] = some ((List.range n).map fun i => PyData.int (i : Nat)) := by
  rw [oR2_ij (i := 0) (j := (n : Int)) ⟨by decide, by decide, by omega, by omega, by omega⟩]
  unfold rangeD
  simp
theorem open_runs_eq (dry : List Bool) (hl : dry.length ≤ 100) : d_open_runs [tideD dry, .int 1, .tuple [.int 0, .int dry.length]] = some (.tuple ((runFrom 0 [] dry).map rnD)) := by
  have hen := oR2_zero dry.length (by omega)
  obtain ⟨ρ', e, h⟩ := forL_inv (g := gSet 4) (b := l1_open_runs) (fun i : Nat => PyData.int (i : Nat))
    (fun pre rest ρ => pre ++ rest = List.range dry.length ∧ ∃ j4, ρ = [some (tideD dry), some (.int 1), some (.tuple [.int 0, .int dry.length]), some (.list ((runFrom 0 [] (dry.take pre.length)).map rnD)), j4]) (fun pre x rest ρ ⟨hp, j4, e⟩ => by
      subst e
      have hlen : pre.length + (rest.length + 1) = dry.length := by
        have := congrArg List.length hp
        simpa using this
      have hx : x = pre.length := by
        have h1 : (pre ++ x :: rest)[pre.length]? = some x := by simp
        rw [hp, List.getElem?_range (by omega)] at h1
        exact (Option.some.inj h1).symm
      subst hx
      have hta := tide_at_eq dry pre.length
      rw [Nat.mod_eq_of_lt (by omega)] at hta
      have hsn : runFrom 0 [] (dry.take (pre.length + 1)) = if dry.getD pre.length false then addDay (runFrom 0 [] (dry.take pre.length)) pre.length else runFrom 0 [] (dry.take pre.length) := by
        rw [take_snoc dry pre.length (by omega), runFrom_snoc, List.length_take, Nat.zero_add, Nat.min_eq_left (by omega)]
      have hRl := runFrom_len (dry.take pre.length) 0 []
      rw [List.length_take, List.length_nil] at hRl
      have b1 : (decide ((1 : Int) ≤ bI true)) = true := by decide
      have b0 : (decide ((1 : Int) ≤ bI false)) = false := by decide
      refine ⟨_, [some (tideD dry), some (.int 1), some (.tuple [.int 0, .int dry.length]), some (.list ((runFrom 0 [] (dry.take (pre.length + 1))).map rnD)), some (.int pre.length)], rfl, .inl ?_, by rw [List.append_assoc]; exact hp, _, by rw [List.length_append]; rfl⟩
      rw [hsn]
      generalize runFrom 0 [] (dry.take pre.length) = R at *
      cases hd : dry.getD pre.length false with
      | false =>
        rw [hd] at hta
        simp -implicitDefEqProofs only [l1_open_runs, xVar_a, xC_a, xBin_a, xUn_a, tOf_a, tTru_a, tNotP_a, tAndP_a, tOrP_a, tyes_a, tno_a, tYesP_a, xNil_a, xCons_a, xTup_a, xLst_a, xAnd_a, xOr_a, xIf_a, xChain_a, oNo_a, oAt_a, xSl_a, xCall_a, xSeq_a, xIt_a, xLc_a, gSet_a, gTupD_a, gsNil_a, gsCons_a, sNop_a, sBrk_a, sCnt_a, sSeq_a, sRet_a, sIf_a, sSet_a, sTgt_a, sAug_a, sApp_a, sExt_a, sPut_a, sPutK_a, pkO_s, sFor_a, sWhile_a, sPar_a, runD_a, b2_s, c2_s, sqO_nx, sqO_rt, sqO_bk, sqO_ct, ifO_t, ifO_f, stO_s, endO_nx, endO_rt, andO_t, andO_f, orO_t, orO_f, chO_s, chP_t, chP_f, slO_s, atO_i, lcO_s, forO_s, gsO_s, nxO_s, tgO_s, paO_s, apO_s, exO_s, plO_s, ptO_s, dB_b, tru_b, tru_n, tru_i, tru_l, tru_t, is_n, isn_n, nn_n, nn_i, nn_b, nn_t, nn_l, add_ii, add'_ii, sub_ii, neg_i, lt_ii, le_ii, gt_ii, ge_ii, ix_l, ix_t, ix_s, at0, at1, at2, sl_l, sl_t, len_l, len_t, len_s, abs_i, int_i, int_b, max_ii, min_ii, tup_s, lst_s, seq_l, seq_t, sum_s, wipe_n, wipe_c, mul_ii, fdiv_ii, mod_ii, add_ll, add_tt, setAll, mkT, mkL, oNot, List.getD_cons_zero, List.getD_cons_succ, List.length_cons, List.length_nil, List.set_cons_zero, List.set_cons_succ, List.map_cons, List.map_nil, List.replicate, List.cons_append, List.nil_append, List.append_nil, Option.bind_some, Option.map_some, List.all_cons, List.all_nil, if_true, if_false, reduceIte, Nat.reduceAdd, Nat.reduceSub, Nat.reduceLT, Nat.reduceLeDiff, Nat.reduceEqDiff, decide_true, decide_false, Bool.and_true, Bool.and_self, Bool.true_and, Bool.not_true, Bool.not_false, ne_eq, not_true_eq_false, not_false_eq_true, Nat.zero_add, Bool.false_eq_true, and_self, true_and, and_true, hta, b0, b1]
      | true =>
        rw [hd] at hta
        rw [if_pos rfl]
        rcases List.eq_nil_or_concat R with hR | ⟨R0, q, hR⟩
        · subst hR
          simp -implicitDefEqProofs only [l1_open_runs, xVar_a, xC_a, xBin_a, xUn_a, tOf_a, tTru_a, tNotP_a, tAndP_a, tOrP_a, tyes_a, tno_a, tYesP_a, xNil_a, xCons_a, xTup_a, xLst_a, xAnd_a, xOr_a, xIf_a, xChain_a, oNo_a, oAt_a, xSl_a, xCall_a, xSeq_a, xIt_a, xLc_a, gSet_a, gTupD_a, gsNil_a, gsCons_a, sNop_a, sBrk_a, sCnt_a, sSeq_a, sRet_a, sIf_a, sSet_a, sTgt_a, sAug_a, sApp_a, sExt_a, sPut_a, sPutK_a, pkO_s, sFor_a, sWhile_a, sPar_a, runD_a, b2_s, c2_s, sqO_nx, sqO_rt, sqO_bk, sqO_ct, ifO_t, ifO_f, stO_s, endO_nx, endO_rt, andO_t, andO_f, orO_t, orO_f, chO_s, chP_t, chP_f, slO_s, atO_i, lcO_s, forO_s, gsO_s, nxO_s, tgO_s, paO_s, apO_s, exO_s, plO_s, ptO_s, dB_b, tru_b, tru_n, tru_i, tru_l, tru_t, is_n, isn_n, nn_n, nn_i, nn_b, nn_t, nn_l, add_ii, add'_ii, sub_ii, neg_i, lt_ii, le_ii, gt_ii, ge_ii, ix_l, ix_t, ix_s, at0, at1, at2, sl_l, sl_t, len_l, len_t, len_s, abs_i, int_i, int_b, max_ii, min_ii, tup_s, lst_s, seq_l, seq_t, sum_s, wipe_n, wipe_c, mul_ii, fdiv_ii, mod_ii, add_ll, add_tt, setAll, mkT, mkL, oNot, List.getD_cons_zero, List.getD_cons_succ, List.length_cons, List.length_nil, List.set_cons_zero, List.set_cons_succ, List.map_cons, List.map_nil, List.replicate, List.cons_append, List.nil_append, List.append_nil, Option.bind_some, Option.map_some, List.all_cons, List.all_nil, if_true, if_false, reduceIte, Nat.reduceAdd, Nat.reduceSub, Nat.reduceLT, Nat.reduceLeDiff, Nat.reduceEqDiff, decide_true, decide_false, Bool.and_true, Bool.and_self, Bool.true_and, Bool.not_true, Bool.not_false, ne_eq, not_true_eq_false, not_false_eq_true, Nat.zero_add, Bool.false_eq_true, and_self, true_and, and_true, hta, b0, b1, addDay, List.getLast?_nil, List.isEmpty_nil, rnD]
          rfl
        · subst hR
          obtain ⟨s, e⟩ := q
          rw [List.concat_eq_append] at *
          have hne : ((R0 ++ [(s, e)]).map rnD).isEmpty = false := by simp
          have hlast : atI ((R0 ++ [(s, e)]).map rnD) (-1) = some (.tuple [.int (s : Nat), .int (e : Nat)]) := by
            rw [List.map_append]
            exact L2.atI_last _ _
          have hix : ixN ((R0 ++ [(s, e)]).map rnD).length (-1) = some R0.length := by
            rw [List.length_map, List.length_append]
            exact ixN_last _
          have hset : ∀ y : D, ((R0 ++ [(s, e)]).map rnD).set R0.length y = R0.map rnD ++ [y] := fun y => by
            have := set_last (R0.map rnD) (rnD (s, e)) y
            rw [List.length_map] at this
            rw [List.map_append]
            exact this
          have hlt : ((R0 ++ [(s, e)]).map rnD).length < 16777216 := by rw [List.length_map]; omega
          by_cases hse : e = pre.length
          · subst hse
            have hadd : (addDay (R0 ++ [(s, pre.length)]) pre.length).map rnD = R0.map rnD ++ [.tuple [.int (s : Nat), .int ((pre.length : Int) + 1)]] := by
              rw [addDay_open, List.map_append]
              rfl
            rw [hadd]
            generalize (R0 ++ [(s, pre.length)]).map rnD = L at *
            simp -implicitDefEqProofs only [l1_open_runs, xVar_a, xC_a, xBin_a, xUn_a, tOf_a, tTru_a, tNotP_a, tAndP_a, tOrP_a, tyes_a, tno_a, tYesP_a, xNil_a, xCons_a, xTup_a, xLst_a, xAnd_a, xOr_a, xIf_a, xChain_a, oNo_a, oAt_a, xSl_a, xCall_a, xSeq_a, xIt_a, xLc_a, gSet_a, gTupD_a, gsNil_a, gsCons_a, sNop_a, sBrk_a, sCnt_a, sSeq_a, sRet_a, sIf_a, sSet_a, sTgt_a, sAug_a, sApp_a, sExt_a, sPut_a, sPutK_a, pkO_s, sFor_a, sWhile_a, sPar_a, runD_a, b2_s, c2_s, sqO_nx, sqO_rt, sqO_bk, sqO_ct, ifO_t, ifO_f, stO_s, endO_nx, endO_rt, andO_t, andO_f, orO_t, orO_f, chO_s, chP_t, chP_f, slO_s, atO_i, lcO_s, forO_s, gsO_s, nxO_s, tgO_s, paO_s, apO_s, exO_s, plO_s, ptO_s, dB_b, tru_b, tru_n, tru_i, tru_l, tru_t, is_n, isn_n, nn_n, nn_i, nn_b, nn_t, nn_l, add_ii, add'_ii, sub_ii, neg_i, lt_ii, le_ii, gt_ii, ge_ii, ix_l, ix_t, ix_s, at0, at1, at2, sl_l, sl_t, len_l, len_t, len_s, abs_i, int_i, int_b, max_ii, min_ii, tup_s, lst_s, seq_l, seq_t, sum_s, wipe_n, wipe_c, mul_ii, fdiv_ii, mod_ii, add_ll, add_tt, setAll, mkT, mkL, oNot, List.getD_cons_zero, List.getD_cons_succ, List.length_cons, List.length_nil, List.set_cons_zero, List.set_cons_succ, List.map_cons, List.map_nil, List.replicate, List.cons_append, List.nil_append, List.append_nil, Option.bind_some, Option.map_some, List.all_cons, List.all_nil, if_true, if_false, reduceIte, Nat.reduceAdd, Nat.reduceSub, Nat.reduceLT, Nat.reduceLeDiff, Nat.reduceEqDiff, decide_true, decide_false, Bool.and_true, Bool.and_self, Bool.true_and, Bool.not_true, Bool.not_false, ne_eq, not_true_eq_false, not_false_eq_true, Nat.zero_add, Bool.false_eq_true, and_self, true_and, and_true, hta, b0, b1, hne, hlast, eq_int, hix, hset]
          · have hadd : (addDay (R0 ++ [(s, e)]) pre.length).map rnD = (R0 ++ [(s, e)]).map rnD ++ [.tuple [.int (pre.length : Nat), .int ((pre.length : Int) + 1)]] := by
              have : addDay (R0 ++ [(s, e)]) pre.length = (R0 ++ [(s, e)]) ++ [(pre.length, pre.length + 1)] := by simp [addDay, hse]
              rw [this, List.map_append]
              rfl
            have hse' : ¬ (e : Int) = (pre.length : Int) := by omega
            rw [hadd]
            generalize (R0 ++ [(s, e)]).map rnD = L at *
            simp -implicitDefEqProofs only [l1_open_runs, xVar_a, xC_a, xBin_a, xUn_a, tOf_a, tTru_a, tNotP_a, tAndP_a, tOrP_a, tyes_a, tno_a, tYesP_a, xNil_a, xCons_a, xTup_a, xLst_a, xAnd_a, xOr_a, xIf_a, xChain_a, oNo_a, oAt_a, xSl_a, xCall_a, xSeq_a, xIt_a, xLc_a, gSet_a, gTupD_a, gsNil_a, gsCons_a, sNop_a, sBrk_a, sCnt_a, sSeq_a, sRet_a, sIf_a, sSet_a, sTgt_a, sAug_a, sApp_a, sExt_a, sPut_a, sPutK_a, pkO_s, sFor_a, sWhile_a, sPar_a, runD_a, b2_s, c2_s, sqO_nx, sqO_rt, sqO_bk, sqO_ct, ifO_t, ifO_f, stO_s, endO_nx, endO_rt, andO_t, andO_f, orO_t, orO_f, chO_s, chP_t, chP_f, slO_s, atO_i, lcO_s, forO_s, gsO_s, nxO_s, tgO_s, paO_s, apO_s, exO_s, plO_s, ptO_s, dB_b, tru_b, tru_n, tru_i, tru_l, tru_t, is_n, isn_n, nn_n, nn_i, nn_b, nn_t, nn_l, add_ii, add'_ii, sub_ii, neg_i, lt_ii, le_ii, gt_ii, ge_ii, ix_l, ix_t, ix_s, at0, at1, at2, sl_l, sl_t, len_l, len_t, len_s, abs_i, int_i, int_b, max_ii, min_ii, tup_s, lst_s, seq_l, seq_t, sum_s, wipe_n, wipe_c, mul_ii, fdiv_ii, mod_ii, add_ll, add_tt, setAll, mkT, mkL, oNot, List.getD_cons_zero, List.getD_cons_succ, List.length_cons, List.length_nil, List.set_cons_zero, List.set_cons_succ, List.map_cons, List.map_nil, List.replicate, List.cons_append, List.nil_append, List.append_nil, Option.bind_some, Option.map_some, List.all_cons, List.all_nil, if_true, if_false, reduceIte, Nat.reduceAdd, Nat.reduceSub, Nat.reduceLT, Nat.reduceLeDiff, Nat.reduceEqDiff, decide_true, decide_false, Bool.and_true, Bool.and_self, Bool.true_and, Bool.not_true, Bool.not_false, ne_eq, not_true_eq_false, not_false_eq_true, Nat.zero_add, Bool.false_eq_true, and_self, true_and, and_true, hta, b0, b1, hne, hlast, eq_int, hse', hlt]) (List.range dry.length) [] [some (tideD dry), some (.int 1), some (.tuple [.int 0, .int dry.length]), some (.list []), none] ⟨rfl, none, by simp [runFrom]⟩
  obtain ⟨_, j4, e'⟩ := h
  subst e'
  rw [List.nil_append, List.length_range, List.take_length] at e
  simp -implicitDefEqProofs only [d_open_runs, g_open_runs, xVar_a, xC_a, xBin_a, xUn_a, tOf_a, tTru_a, tNotP_a, tAndP_a, tOrP_a, tyes_a, tno_a, tYesP_a, xNil_a, xCons_a, xTup_a, xLst_a, xAnd_a, xOr_a, xIf_a, xChain_a, oNo_a, oAt_a, xSl_a, xCall_a, xSeq_a, xIt_a, xLc_a, gSet_a, gTupD_a, gsNil_a, gsCons_a, sNop_a, sBrk_a, sCnt_a, sSeq_a, sRet_a, sIf_a, sSet_a, sTgt_a, sAug_a, sApp_a, sExt_a, sPut_a, sPutK_a, pkO_s, sFor_a, sWhile_a, sPar_a, runD_a, b2_s, c2_s, sqO_nx, sqO_rt, sqO_bk, sqO_ct, ifO_t, ifO_f, stO_s, endO_nx, endO_rt, andO_t, andO_f, orO_t, orO_f, chO_s, chP_t, chP_f, slO_s, atO_i, lcO_s, forO_s, gsO_s, nxO_s, tgO_s, paO_s, apO_s, exO_s, plO_s, ptO_s, dB_b, tru_b, tru_n, tru_i, tru_l, tru_t, is_n, isn_n, nn_n, nn_i, nn_b, nn_t, nn_l, add_ii, add'_ii, sub_ii, neg_i, lt_ii, le_ii, gt_ii, ge_ii, ix_l, ix_t, ix_s, at0, at1, at2, sl_l, sl_t, len_l, len_t, len_s, abs_i, int_i, int_b, max_ii, min_ii, tup_s, lst_s, seq_l, seq_t, sum_s, wipe_n, wipe_c, mul_ii, fdiv_ii, mod_ii, add_ll, add_tt, setAll, mkT, mkL, oNot, List.getD_cons_zero, List.getD_cons_succ, List.length_cons, List.length_nil, List.set_cons_zero, List.set_cons_succ, List.map_cons, List.map_nil, List.replicate, List.cons_append, List.nil_append, List.append_nil, Option.bind_some, Option.map_some, List.all_cons, List.all_nil, if_true, if_false, reduceIte, Nat.reduceAdd, Nat.reduceSub, Nat.reduceLT, Nat.reduceLeDiff, Nat.reduceEqDiff, decide_true, decide_false, Bool.and_true, Bool.and_self, Bool.true_and, Bool.not_true, Bool.not_false, ne_eq, not_true_eq_false, not_false_eq_true, Nat.zero_add, Bool.false_eq_true, and_self, true_and, and_true, hen, e]
def totK (k : Nat) (R : List Rn) : Int := (R.map fun q => ((q.2 : Int) - (q.1 : Int)).fdiv k).sum
theorem coats_most_eq (dry : List Bool) (k : Nat) (hl : dry.length ≤ 100) (hk : 1 ≤ k) (hk3 : k ≤ 3) : d_coats_most [.tuple (dry.map PyData.bool), .int k] = some (.int (totK k (runFrom 0 [] dry))) := by
  have h := dry_runs_eq dry hl
  have hd : divOk (k : Int) = true := (show Sm 10 (k : Int) by unfold Sm; omega).divOk (by omega) (by omega)
  have hm : lcL (gTupD 2 (gsCons (gSet 2) (gsCons (gSet 3) gsNil))) tYesP (xBin oFdiv (xBin oSub (xVar 3) (xVar 2)) (xVar 1)) [some (.tuple (dry.map PyData.bool)), some (.int k), none, none] ((runFrom 0 [] dry).map rnD) = some ((runFrom 0 [] dry).map fun q => PyData.int (((q.2 : Int) - (q.1 : Int)).fdiv k)) := by
    refine lcL_map _ _ _ fun q hq => ?_
    simp -implicitDefEqProofs only [xVar_a, xC_a, xBin_a, xUn_a, tOf_a, tTru_a, tNotP_a, tAndP_a, tOrP_a, tyes_a, tno_a, tYesP_a, xNil_a, xCons_a, xTup_a, xLst_a, xAnd_a, xOr_a, xIf_a, xChain_a, oNo_a, oAt_a, xSl_a, xCall_a, xSeq_a, xIt_a, xLc_a, gSet_a, gTupD_a, gsNil_a, gsCons_a, sNop_a, sBrk_a, sCnt_a, sSeq_a, sRet_a, sIf_a, sSet_a, sTgt_a, sAug_a, sApp_a, sExt_a, sPut_a, sPutK_a, pkO_s, sFor_a, sWhile_a, sPar_a, runD_a, b2_s, c2_s, sqO_nx, sqO_rt, sqO_bk, sqO_ct, ifO_t, ifO_f, stO_s, endO_nx, endO_rt, andO_t, andO_f, orO_t, orO_f, chO_s, chP_t, chP_f, slO_s, atO_i, lcO_s, forO_s, gsO_s, nxO_s, tgO_s, paO_s, apO_s, exO_s, plO_s, ptO_s, dB_b, tru_b, tru_n, tru_i, tru_l, tru_t, is_n, isn_n, nn_n, nn_i, nn_b, nn_t, nn_l, add_ii, add'_ii, sub_ii, neg_i, lt_ii, le_ii, gt_ii, ge_ii, ix_l, ix_t, ix_s, at0, at1, at2, sl_l, sl_t, len_l, len_t, len_s, abs_i, int_i, int_b, max_ii, min_ii, tup_s, lst_s, seq_l, seq_t, sum_s, wipe_n, wipe_c, mul_ii, fdiv_ii, mod_ii, add_ll, add_tt, setAll, mkT, mkL, oNot, List.getD_cons_zero, List.getD_cons_succ, List.length_cons, List.length_nil, List.set_cons_zero, List.set_cons_succ, List.map_cons, List.map_nil, List.replicate, List.cons_append, List.nil_append, List.append_nil, Option.bind_some, Option.map_some, List.all_cons, List.all_nil, if_true, if_false, reduceIte, Nat.reduceAdd, Nat.reduceSub, Nat.reduceLT, Nat.reduceLeDiff, Nat.reduceEqDiff, decide_true, decide_false, Bool.and_true, Bool.and_self, Bool.true_and, Bool.not_true, Bool.not_false, ne_eq, not_true_eq_false, not_false_eq_true, Nat.zero_add, Bool.false_eq_true, and_self, true_and, and_true, rnD, fdiv_ii hd]
  have hs := sum_ints ((runFrom 0 [] dry).map fun q => ((q.2 : Int) - (q.1 : Int)).fdiv k)
  rw [List.map_map] at hs
  have hs' : bSum [.list ((runFrom 0 [] dry).map fun q => PyData.int (((q.2 : Int) - (q.1 : Int)).fdiv k))] = some (.int (totK k (runFrom 0 [] dry))) := hs
  simp -implicitDefEqProofs only [d_coats_most, g_coats_most, xCall_a, xCons_a, xNil_a, xLc_a, xSeq_a, xVar_a, xC_a, xBin_a, xUn_a, tOf_a, tTru_a, tNotP_a, tAndP_a, tOrP_a, tyes_a, tno_a, tYesP_a, xNil_a, xCons_a, xTup_a, xLst_a, xAnd_a, xOr_a, xIf_a, xChain_a, oNo_a, oAt_a, xSl_a, xCall_a, xSeq_a, xIt_a, xLc_a, gSet_a, gTupD_a, gsNil_a, gsCons_a, sNop_a, sBrk_a, sCnt_a, sSeq_a, sRet_a, sIf_a, sSet_a, sTgt_a, sAug_a, sApp_a, sExt_a, sPut_a, sPutK_a, pkO_s, sFor_a, sWhile_a, sPar_a, runD_a, b2_s, c2_s, sqO_nx, sqO_rt, sqO_bk, sqO_ct, ifO_t, ifO_f, stO_s, endO_nx, endO_rt, andO_t, andO_f, orO_t, orO_f, chO_s, chP_t, chP_f, slO_s, atO_i, lcO_s, forO_s, gsO_s, nxO_s, tgO_s, paO_s, apO_s, exO_s, plO_s, ptO_s, dB_b, tru_b, tru_n, tru_i, tru_l, tru_t, is_n, isn_n, nn_n, nn_i, nn_b, nn_t, nn_l, add_ii, add'_ii, sub_ii, neg_i, lt_ii, le_ii, gt_ii, ge_ii, ix_l, ix_t, ix_s, at0, at1, at2, sl_l, sl_t, len_l, len_t, len_s, abs_i, int_i, int_b, max_ii, min_ii, tup_s, lst_s, seq_l, seq_t, sum_s, wipe_n, wipe_c, mul_ii, fdiv_ii, mod_ii, add_ll, add_tt, setAll, mkT, mkL, oNot, List.getD_cons_zero, List.getD_cons_succ, List.length_cons, List.length_nil, List.set_cons_zero, List.set_cons_succ, List.map_cons, List.map_nil, List.replicate, List.cons_append, List.nil_append, List.append_nil, Option.bind_some, Option.map_some, List.all_cons, List.all_nil, if_true, if_false, reduceIte, Nat.reduceAdd, Nat.reduceSub, Nat.reduceLT, Nat.reduceLeDiff, Nat.reduceEqDiff, decide_true, decide_false, Bool.and_true, Bool.and_self, Bool.true_and, Bool.not_true, Bool.not_false, ne_eq, not_true_eq_false, not_false_eq_true, Nat.zero_add, Bool.false_eq_true, and_self, true_and, and_true, h, hm, hs']
end K32

namespace K32
open PySem PySem.Spec PyProof.Rows L2 Pm
theorem addDay_last (R : List Rn) (d : Nat) : ∃ R0 s, addDay R d = R0 ++ [(s, d + 1)] := by
  unfold addDay
  cases R.getLast? with
  | none => exact ⟨R, d, rfl⟩
  | some q =>
    obtain ⟨s, e⟩ := q
    simp only
    by_cases h : e = d
    · rw [if_pos h]; exact ⟨_, _, rfl⟩
    · rw [if_neg h]; exact ⟨_, _, rfl⟩
theorem runs_at (dry : List Bool) : ∀ m, m ≤ dry.length →
    (∀ s e, (runFrom 0 [] (dry.take m)).getLast? = some (s, e) → e ≤ m) ∧ (0 < m → dry.getD (m - 1) false = true → ∃ R0 s, runFrom 0 [] (dry.take m) = R0 ++ [(s, m)]) ∧ ((m = 0 ∨ dry.getD (m - 1) false = false) → ∀ s e, (runFrom 0 [] (dry.take m)).getLast? = some (s, e) → e < m)
  | 0, _ => ⟨fun s e h => by simp [runFrom] at h, fun h => by omega, fun _ s e h => by simp [runFrom] at h⟩
  | m + 1, hm => by
    have ih := runs_at dry m (by omega)
    have hsn : runFrom 0 [] (dry.take (m + 1)) = if dry.getD m false then addDay (runFrom 0 [] (dry.take m)) m else runFrom 0 [] (dry.take m) := by
      rw [take_snoc dry m (by omega), runFrom_snoc, List.length_take, Nat.zero_add, Nat.min_eq_left (by omega)]
    rw [Nat.add_sub_cancel, hsn]
    cases hd : dry.getD m false with
    | true =>
      rw [if_pos rfl]
      obtain ⟨R0, s0, e0⟩ := addDay_last (runFrom 0 [] (dry.take m)) m
      rw [e0]
      refine ⟨fun s e h => ?_, fun _ _ => ⟨R0, s0, rfl⟩, fun h => by simp at h⟩
      simp at h
      omega
    | false =>
      rw [if_neg Bool.false_ne_true]
      exact ⟨fun s e h => (by have := ih.1 s e h; omega), fun (_ : 0 < m + 1) (h : false = true) => (nomatch h), fun _ s e h => by have := ih.1 s e h; omega⟩
theorem ixN_end (n : Nat) : ixN (n + 1) (n : Int) = some n := by
  unfold ixN
  rw [if_pos (by omega), if_pos (by omega), Int.toNat_natCast]
theorem law_runs (dry : List Bool) (hl : dry.length ≤ 100) (x0 x2 x7 x8 x9 x10 x11 x12 : Option D) :
    ∃ j3, forL (gSet 3) l1__law_coats ((List.range dry.length).map fun i => PyData.int (i : Nat)) [x0, some (.tuple (dry.map PyData.bool)), x2, none, none, none, none, x7, x8, x9, x10, x11, x12, some (.list []), none, none, none, none] =
      some (.nx [x0, some (.tuple (dry.map PyData.bool)), x2, j3, none, none, none, x7, x8, x9, x10, x11, x12, some (.list ((runFrom 0 [] dry).map rnD)), none, none, none, none]) := by
  obtain ⟨ρ', e, h⟩ := forL_inv (g := gSet 3) (b := l1__law_coats) (fun i : Nat => PyData.int (i : Nat))
    (fun pre rest ρ => pre ++ rest = List.range dry.length ∧ ∃ j3, ρ = [x0, some (.tuple (dry.map PyData.bool)), x2, j3, none, none, none, x7, x8, x9, x10, x11, x12, some (.list ((runFrom 0 [] (dry.take pre.length)).map rnD)), none, none, none, none]) (fun pre x rest ρ ⟨hp, j3, e⟩ => by
      subst e
      have hlen : pre.length + (rest.length + 1) = dry.length := by
        have := congrArg List.length hp
        simpa using this
      have hx : x = pre.length := by
        have h1 : (pre ++ x :: rest)[pre.length]? = some x := by simp
        rw [hp, List.getElem?_range (by omega)] at h1
        exact (Option.some.inj h1).symm
      subst hx
      have hsn : runFrom 0 [] (dry.take (pre.length + 1)) = if dry.getD pre.length false then addDay (runFrom 0 [] (dry.take pre.length)) pre.length else runFrom 0 [] (dry.take pre.length) := by
        rw [take_snoc dry pre.length (by omega), runFrom_snoc, List.length_take, Nat.zero_add, Nat.min_eq_left (by omega)]
      have hRl := runFrom_len (dry.take pre.length) 0 []
      rw [List.length_take, List.length_nil] at hRl
      obtain ⟨ra, rb, rc⟩ := runs_at dry pre.length (by omega)
      have i1 : atI (dry.map PyData.bool) (pre.length : Int) = some (.bool (dry.getD pre.length false)) := at_map PyData.bool dry false pre.length (by omega)
      refine ⟨_, [x0, some (.tuple (dry.map PyData.bool)), x2, some (.int pre.length), none, none, none, x7, x8, x9, x10, x11, x12, some (.list ((runFrom 0 [] (dry.take (pre.length + 1))).map rnD)), none, none, none, none], rfl, .inl ?_, by rw [List.append_assoc]; exact hp, _, by rw [List.length_append]; rfl⟩
      rw [hsn]
      generalize hRR : runFrom 0 [] (dry.take pre.length) = R at *
      cases hd : dry.getD pre.length false with
      | false =>
        rw [hd] at i1
        simp -implicitDefEqProofs only [l1__law_coats, xVar_a, xC_a, xBin_a, xUn_a, tOf_a, tTru_a, tNotP_a, tAndP_a, tOrP_a, tyes_a, tno_a, tYesP_a, xNil_a, xCons_a, xTup_a, xLst_a, xAnd_a, xOr_a, xIf_a, xChain_a, oNo_a, oAt_a, xSl_a, xCall_a, xSeq_a, xIt_a, xLc_a, gSet_a, gTupD_a, gsNil_a, gsCons_a, sNop_a, sBrk_a, sCnt_a, sSeq_a, sRet_a, sIf_a, sSet_a, sTgt_a, sAug_a, sApp_a, sExt_a, sPut_a, sPutK_a, pkO_s, sFor_a, sWhile_a, sPar_a, runD_a, b2_s, c2_s, sqO_nx, sqO_rt, sqO_bk, sqO_ct, ifO_t, ifO_f, stO_s, endO_nx, endO_rt, andO_t, andO_f, orO_t, orO_f, chO_s, chP_t, chP_f, slO_s, atO_i, lcO_s, forO_s, gsO_s, nxO_s, tgO_s, paO_s, apO_s, exO_s, plO_s, ptO_s, dB_b, tru_b, tru_n, tru_i, tru_l, tru_t, is_n, isn_n, nn_n, nn_i, nn_b, nn_t, nn_l, add_ii, add'_ii, sub_ii, neg_i, lt_ii, le_ii, gt_ii, ge_ii, ix_l, ix_t, ix_s, at0, at1, at2, sl_l, sl_t, len_l, len_t, len_s, abs_i, int_i, int_b, max_ii, min_ii, tup_s, lst_s, seq_l, seq_t, sum_s, wipe_n, wipe_c, mul_ii, fdiv_ii, mod_ii, add_ll, add_tt, setAll, mkT, mkL, oNot, List.getD_cons_zero, List.getD_cons_succ, List.length_cons, List.length_nil, List.set_cons_zero, List.set_cons_succ, List.map_cons, List.map_nil, List.replicate, List.cons_append, List.nil_append, List.append_nil, Option.bind_some, Option.map_some, List.all_cons, List.all_nil, if_true, if_false, reduceIte, Nat.reduceAdd, Nat.reduceSub, Nat.reduceLT, Nat.reduceLeDiff, Nat.reduceEqDiff, decide_true, decide_false, Bool.and_true, Bool.and_self, Bool.true_and, Bool.not_true, Bool.not_false, ne_eq, not_true_eq_false, not_false_eq_true, Nat.zero_add, Bool.false_eq_true, and_self, true_and, and_true, i1]
      | true =>
        rw [hd] at i1
        rw [if_pos rfl]
        have happ : ∀ (h : ∀ s e, R.getLast? = some (s, e) → e < pre.length), (addDay R pre.length).map rnD = R.map rnD ++ [.tuple [.int (pre.length : Nat), .int ((pre.length : Int) + 1)]] := fun h => by
          rw [addDay_closed R pre.length h, List.map_append]
          rfl
        have hlt : (R.map rnD).length < 16777216 := by rw [List.length_map]; omega
        by_cases hz : pre.length = 0
        · rw [happ (rc (.inl hz))]
          have hz' : (pre.length : Int) = 0 := by omega
          generalize R.map rnD = L at *
          rw [hz'] at i1 ⊢
          simp -implicitDefEqProofs only [l1__law_coats, xVar_a, xC_a, xBin_a, xUn_a, tOf_a, tTru_a, tNotP_a, tAndP_a, tOrP_a, tyes_a, tno_a, tYesP_a, xNil_a, xCons_a, xTup_a, xLst_a, xAnd_a, xOr_a, xIf_a, xChain_a, oNo_a, oAt_a, xSl_a, xCall_a, xSeq_a, xIt_a, xLc_a, gSet_a, gTupD_a, gsNil_a, gsCons_a, sNop_a, sBrk_a, sCnt_a, sSeq_a, sRet_a, sIf_a, sSet_a, sTgt_a, sAug_a, sApp_a, sExt_a, sPut_a, sPutK_a, pkO_s, sFor_a, sWhile_a, sPar_a, runD_a, b2_s, c2_s, sqO_nx, sqO_rt, sqO_bk, sqO_ct, ifO_t, ifO_f, stO_s, endO_nx, endO_rt, andO_t, andO_f, orO_t, orO_f, chO_s, chP_t, chP_f, slO_s, atO_i, lcO_s, forO_s, gsO_s, nxO_s, tgO_s, paO_s, apO_s, exO_s, plO_s, ptO_s, dB_b, tru_b, tru_n, tru_i, tru_l, tru_t, is_n, isn_n, nn_n, nn_i, nn_b, nn_t, nn_l, add_ii, add'_ii, sub_ii, neg_i, lt_ii, le_ii, gt_ii, ge_ii, ix_l, ix_t, ix_s, at0, at1, at2, sl_l, sl_t, len_l, len_t, len_s, abs_i, int_i, int_b, max_ii, min_ii, tup_s, lst_s, seq_l, seq_t, sum_s, wipe_n, wipe_c, mul_ii, fdiv_ii, mod_ii, add_ll, add_tt, setAll, mkT, mkL, oNot, List.getD_cons_zero, List.getD_cons_succ, List.length_cons, List.length_nil, List.set_cons_zero, List.set_cons_succ, List.map_cons, List.map_nil, List.replicate, List.cons_append, List.nil_append, List.append_nil, Option.bind_some, Option.map_some, List.all_cons, List.all_nil, if_true, if_false, reduceIte, Nat.reduceAdd, Nat.reduceSub, Nat.reduceLT, Nat.reduceLeDiff, Nat.reduceEqDiff, decide_true, decide_false, Bool.and_true, Bool.and_self, Bool.true_and, Bool.not_true, Bool.not_false, ne_eq, not_true_eq_false, not_false_eq_true, Nat.zero_add, Bool.false_eq_true, and_self, true_and, and_true, i1, eq_int, hlt]
        · have hz' : ¬ (pre.length : Int) = 0 := by omega
          have i2 : atI (dry.map PyData.bool) ((pre.length : Int) - 1) = some (.bool (dry.getD (pre.length - 1) false)) := by
            have := at_map PyData.bool dry false (pre.length - 1) (by omega)
            rwa [show ((pre.length - 1 : Nat) : Int) = (pre.length : Int) - 1 by omega] at this
          cases hd2 : dry.getD (pre.length - 1) false with
          | false =>
            rw [happ (rc (.inr hd2))]
            rw [hd2] at i2
            generalize R.map rnD = L at *
            simp -implicitDefEqProofs only [l1__law_coats, xVar_a, xC_a, xBin_a, xUn_a, tOf_a, tTru_a, tNotP_a, tAndP_a, tOrP_a, tyes_a, tno_a, tYesP_a, xNil_a, xCons_a, xTup_a, xLst_a, xAnd_a, xOr_a, xIf_a, xChain_a, oNo_a, oAt_a, xSl_a, xCall_a, xSeq_a, xIt_a, xLc_a, gSet_a, gTupD_a, gsNil_a, gsCons_a, sNop_a, sBrk_a, sCnt_a, sSeq_a, sRet_a, sIf_a, sSet_a, sTgt_a, sAug_a, sApp_a, sExt_a, sPut_a, sPutK_a, pkO_s, sFor_a, sWhile_a, sPar_a, runD_a, b2_s, c2_s, sqO_nx, sqO_rt, sqO_bk, sqO_ct, ifO_t, ifO_f, stO_s, endO_nx, endO_rt, andO_t, andO_f, orO_t, orO_f, chO_s, chP_t, chP_f, slO_s, atO_i, lcO_s, forO_s, gsO_s, nxO_s, tgO_s, paO_s, apO_s, exO_s, plO_s, ptO_s, dB_b, tru_b, tru_n, tru_i, tru_l, tru_t, is_n, isn_n, nn_n, nn_i, nn_b, nn_t, nn_l, add_ii, add'_ii, sub_ii, neg_i, lt_ii, le_ii, gt_ii, ge_ii, ix_l, ix_t, ix_s, at0, at1, at2, sl_l, sl_t, len_l, len_t, len_s, abs_i, int_i, int_b, max_ii, min_ii, tup_s, lst_s, seq_l, seq_t, sum_s, wipe_n, wipe_c, mul_ii, fdiv_ii, mod_ii, add_ll, add_tt, setAll, mkT, mkL, oNot, List.getD_cons_zero, List.getD_cons_succ, List.length_cons, List.length_nil, List.set_cons_zero, List.set_cons_succ, List.map_cons, List.map_nil, List.replicate, List.cons_append, List.nil_append, List.append_nil, Option.bind_some, Option.map_some, List.all_cons, List.all_nil, if_true, if_false, reduceIte, Nat.reduceAdd, Nat.reduceSub, Nat.reduceLT, Nat.reduceLeDiff, Nat.reduceEqDiff, decide_true, decide_false, Bool.and_true, Bool.and_self, Bool.true_and, Bool.not_true, Bool.not_false, ne_eq, not_true_eq_false, not_false_eq_true, Nat.zero_add, Bool.false_eq_true, and_self, true_and, and_true, i1, i2, eq_int, hz', hlt]
          | true =>
            rw [hd2] at i2
            obtain ⟨R0, s, eR⟩ := rb (by omega) hd2
            rw [eR] at hlt ⊢
            have hl1 : (((R0 ++ [(s, pre.length)]).map rnD).length : Int) - 1 = ((R0.map rnD).length : Int) := by simp
            have hlast : atI ((R0 ++ [(s, pre.length)]).map rnD) ((R0.map rnD).length : Int) = some (.tuple [.int (s : Nat), .int (pre.length : Nat)]) := by
              rw [List.map_append]
              exact atI_end _ _
            have hix : ixN ((R0 ++ [(s, pre.length)]).map rnD).length ((R0.map rnD).length : Int) = some (R0.map rnD).length := by
              rw [List.length_map, List.length_append, List.length_map]
              exact ixN_end _
            have hset : ∀ y : D, ((R0 ++ [(s, pre.length)]).map rnD).set (R0.map rnD).length y = R0.map rnD ++ [y] := fun y => by
              rw [List.map_append]
              exact set_last _ _ _
            have hadd : (addDay (R0 ++ [(s, pre.length)]) pre.length).map rnD = R0.map rnD ++ [.tuple [.int (s : Nat), .int ((pre.length : Int) + 1)]] := by
              rw [addDay_open, List.map_append]
              rfl
            rw [hadd]
            generalize (R0 ++ [(s, pre.length)]).map rnD = L at *
            simp -implicitDefEqProofs only [l1__law_coats, xVar_a, xC_a, xBin_a, xUn_a, tOf_a, tTru_a, tNotP_a, tAndP_a, tOrP_a, tyes_a, tno_a, tYesP_a, xNil_a, xCons_a, xTup_a, xLst_a, xAnd_a, xOr_a, xIf_a, xChain_a, oNo_a, oAt_a, xSl_a, xCall_a, xSeq_a, xIt_a, xLc_a, gSet_a, gTupD_a, gsNil_a, gsCons_a, sNop_a, sBrk_a, sCnt_a, sSeq_a, sRet_a, sIf_a, sSet_a, sTgt_a, sAug_a, sApp_a, sExt_a, sPut_a, sPutK_a, pkO_s, sFor_a, sWhile_a, sPar_a, runD_a, b2_s, c2_s, sqO_nx, sqO_rt, sqO_bk, sqO_ct, ifO_t, ifO_f, stO_s, endO_nx, endO_rt, andO_t, andO_f, orO_t, orO_f, chO_s, chP_t, chP_f, slO_s, atO_i, lcO_s, forO_s, gsO_s, nxO_s, tgO_s, paO_s, apO_s, exO_s, plO_s, ptO_s, dB_b, tru_b, tru_n, tru_i, tru_l, tru_t, is_n, isn_n, nn_n, nn_i, nn_b, nn_t, nn_l, add_ii, add'_ii, sub_ii, neg_i, lt_ii, le_ii, gt_ii, ge_ii, ix_l, ix_t, ix_s, at0, at1, at2, sl_l, sl_t, len_l, len_t, len_s, abs_i, int_i, int_b, max_ii, min_ii, tup_s, lst_s, seq_l, seq_t, sum_s, wipe_n, wipe_c, mul_ii, fdiv_ii, mod_ii, add_ll, add_tt, setAll, mkT, mkL, oNot, List.getD_cons_zero, List.getD_cons_succ, List.length_cons, List.length_nil, List.set_cons_zero, List.set_cons_succ, List.map_cons, List.map_nil, List.replicate, List.cons_append, List.nil_append, List.append_nil, Option.bind_some, Option.map_some, List.all_cons, List.all_nil, if_true, if_false, reduceIte, Nat.reduceAdd, Nat.reduceSub, Nat.reduceLT, Nat.reduceLeDiff, Nat.reduceEqDiff, decide_true, decide_false, Bool.and_true, Bool.and_self, Bool.true_and, Bool.not_true, Bool.not_false, ne_eq, not_true_eq_false, not_false_eq_true, Nat.zero_add, Bool.false_eq_true, and_self, true_and, and_true, i1, i2, eq_int, hz', hl1, hlast, hix, hset]) (List.range dry.length) [] [x0, some (.tuple (dry.map PyData.bool)), x2, none, none, none, none, x7, x8, x9, x10, x11, x12, some (.list []), none, none, none, none] ⟨rfl, none, by simp [runFrom]⟩
  obtain ⟨_, j3, e'⟩ := h
  subst e'
  rw [List.nil_append, List.length_range, List.take_length] at e
  exact ⟨j3, e⟩
end K32

namespace K32
open PySem PySem.Spec PyProof.Rows L2 Pm
theorem runs_wf : ∀ (l : List Bool) (p : Nat) (R : List Rn), (∀ q ∈ R, q.1 < q.2 ∧ q.2 ≤ p) → ∀ q ∈ runFrom p R l, q.1 < q.2 ∧ q.2 ≤ p + l.length
  | [], p, R, h, q, hq => by simpa using h q hq
  | true :: l, p, R, h, q, hq => by
    rw [runFrom, if_pos rfl] at hq
    have := runs_wf l (p + 1) (addDay R p) (fun q hq => by
      unfold addDay at hq
      cases hr : R.getLast? with
      | none =>
        rw [hr] at hq
        rcases List.mem_append.mp hq with hq | hq
        · have := h q hq; omega
        · simp at hq; subst hq; simp
      | some z =>
        obtain ⟨s, e⟩ := z
        rw [hr] at hq
        simp only at hq
        have hm := h (s, e) (List.mem_of_getLast? hr)
        by_cases he : e = p
        · rw [if_pos he] at hq
          rcases List.mem_append.mp hq with hq | hq
          · have := h q (List.dropLast_subset R hq); omega
          · simp at hq; subst hq; simp at hm ⊢; omega
        · rw [if_neg he] at hq
          rcases List.mem_append.mp hq with hq | hq
          · have := h q hq; omega
          · simp at hq; subst hq; simp) q hq
    rw [List.length_cons]
    omega
  | false :: l, p, R, h, q, hq => by
    rw [runFrom, if_neg Bool.false_ne_true] at hq
    have := runs_wf l (p + 1) R (fun q hq => by have := h q hq; omega) q hq
    rw [List.length_cons]
    omega
theorem fdiv_nat (s e k : Nat) (h : s ≤ e) : ((e : Int) - (s : Int)).fdiv (k : Int) = (((e - s) / k : Nat) : Int) := by
  rw [Int.fdiv_eq_ediv_of_nonneg _ (by omega), ← Int.natCast_sub h]
  rfl
theorem begins_len (k : Nat) : ∀ R : List Rn, (∀ q ∈ R, q.1 < q.2) → totK k R = ((begins k R).length : Int)
  | [], _ => rfl
  | q :: R, h => by
    have ih := begins_len k R fun q hq => h q (by simp [hq])
    have hq := h q (by simp)
    unfold totK begins at *
    rw [List.map_cons, List.sum_cons, ih, List.flatMap_cons, List.length_append, fdiv_nat _ _ _ (by omega)]
    simp
def nI (x : Nat) : D := .int (x : Nat)
theorem law_begins (R : List Rn) (k : Nat) (hk : 1 ≤ k) (hk3 : k ≤ 3) (hR : ∀ q ∈ R, q.1 < q.2 ∧ q.2 ≤ 100) (hl : R.length ≤ 100) (x0 x1 x2 x3 x7 x9 x13 : Option D) :
    ∃ j14 j15, forL (gTupD 2 (gsCons (gSet 14) (gsCons (gSet 15) gsNil))) l2__law_coats (R.map rnD) [x0, x1, x2, x3, none, none, none, x7, some (.int k), x9, some (.list []), some (.int 0), some (.int 0), x13, none, none, none, none] =
      some (.nx [x0, x1, x2, x3, none, none, none, x7, some (.int k), x9, some (.list ((begins k R).map nI)), some (.int 0), some (.int (totK k R)), x13, j14, j15, none, none]) := by
  have hd : divOk (k : Int) = true := (show Sm 10 (k : Int) by unfold Sm; omega).divOk (by omega) (by omega)
  obtain ⟨ρ', e, h⟩ := forL_inv (g := gTupD 2 (gsCons (gSet 14) (gsCons (gSet 15) gsNil))) (b := l2__law_coats) rnD
    (fun pre rest ρ => pre ++ rest = R ∧ (begins k pre).length ≤ 100 * pre.length ∧ ∃ j14 j15, ρ = [x0, x1, x2, x3, none, none, none, x7, some (.int k), x9, some (.list ((begins k pre).map nI)), some (.int 0), some (.int (totK k pre)), x13, j14, j15, none, none]) (fun pre q rest ρ ⟨hp, hb, j14, j15, e⟩ => by
      subst e
      have hq := hR q (by rw [← hp]; simp)
      have hpl : pre.length ≤ 100 := by
        have := congrArg List.length hp
        rw [List.length_append] at this
        omega
      obtain ⟨s, e⟩ := q
      simp only at hq
      have hf := fdiv_nat s e k (by omega)
      have hm100 : (e - s) / k ≤ 100 := Nat.le_trans (Nat.div_le_self _ _) (by omega)
      have hr := oR1_nat ((e - s) / k) (by omega)
      have hb1 : begins k (pre ++ [(s, e)]) = begins k pre ++ (List.range ((e - s) / k)).map fun j => s + k * j := by rw [begins_app, begins_one]
      have ht1 : totK k (pre ++ [(s, e)]) = totK k pre + (((e - s) / k : Nat) : Int) := by
        unfold totK
        rw [List.map_append, List.sum_append, List.map_cons, List.map_nil, List.sum_cons, List.sum_nil, Int.add_zero, hf]
      have c1 : ∀ ρ : PEnv, ρ.length = 18 → ρ.getD 8 none = some (.int k) → ρ.getD 14 none = some (.int (s : Nat)) → lcL (gSet 16) tYesP (xBin oAdd (xVar 14) (xBin oMul' (xVar 8) (xVar 16))) ρ ((List.range ((e - s) / k)).map fun i => PyData.int (i : Nat)) = some ((List.range ((e - s) / k)).map fun j => nI (s + k * j)) := fun ρ hl h8 h14 => by
        refine lcL_map _ _ _ fun i hi => ?_
        have q16 : (ρ.set 16 (some (PyData.int (i : Nat)))).getD 16 none = some (.int (i : Nat)) := by simp [hl]
        have q8 : (ρ.set 16 (some (PyData.int (i : Nat)))).getD 8 none = some (.int k) := by rw [← h8]; simp
        have q14 : (ρ.set 16 (some (PyData.int (i : Nat)))).getD 14 none = some (.int (s : Nat)) := by rw [← h14]; simp
        have mk : mulOk (k : Int) (i : Int) = true := mulOk_lt (m := 4) (by omega) (by omega) (by decide)
        have hn : nI (s + k * i) = .int ((s : Int) + (k : Int) * (i : Int)) := by unfold nI; rw [Int.natCast_add, Int.natCast_mul]
        rw [hn]
        simp -implicitDefEqProofs only [xVar_a, xC_a, xBin_a, xUn_a, tOf_a, tTru_a, tNotP_a, tAndP_a, tOrP_a, tyes_a, tno_a, tYesP_a, xNil_a, xCons_a, xTup_a, xLst_a, xAnd_a, xOr_a, xIf_a, xChain_a, oNo_a, oAt_a, xSl_a, xCall_a, xSeq_a, xIt_a, xLc_a, gSet_a, gTupD_a, gsNil_a, gsCons_a, sNop_a, sBrk_a, sCnt_a, sSeq_a, sRet_a, sIf_a, sSet_a, sTgt_a, sAug_a, sApp_a, sExt_a, sPut_a, sPutK_a, pkO_s, sFor_a, sWhile_a, sPar_a, runD_a, b2_s, c2_s, sqO_nx, sqO_rt, sqO_bk, sqO_ct, ifO_t, ifO_f, stO_s, endO_nx, endO_rt, andO_t, andO_f, orO_t, orO_f, chO_s, chP_t, chP_f, slO_s, atO_i, lcO_s, forO_s, gsO_s, nxO_s, tgO_s, paO_s, apO_s, exO_s, plO_s, ptO_s, dB_b, tru_b, tru_n, tru_i, tru_l, tru_t, is_n, isn_n, nn_n, nn_i, nn_b, nn_t, nn_l, add_ii, add'_ii, sub_ii, neg_i, lt_ii, le_ii, gt_ii, ge_ii, ix_l, ix_t, ix_s, at0, at1, at2, sl_l, sl_t, len_l, len_t, len_s, abs_i, int_i, int_b, max_ii, min_ii, tup_s, lst_s, seq_l, seq_t, sum_s, wipe_n, wipe_c, mul_ii, fdiv_ii, mod_ii, add_ll, add_tt, setAll, mkT, mkL, oNot, List.getD_cons_zero, List.getD_cons_succ, List.length_cons, List.length_nil, List.set_cons_zero, List.set_cons_succ, List.map_cons, List.map_nil, List.replicate, List.cons_append, List.nil_append, List.append_nil, Option.bind_some, Option.map_some, List.all_cons, List.all_nil, if_true, if_false, reduceIte, Nat.reduceAdd, Nat.reduceSub, Nat.reduceLT, Nat.reduceLeDiff, Nat.reduceEqDiff, decide_true, decide_false, Bool.and_true, Bool.and_self, Bool.true_and, Bool.not_true, Bool.not_false, ne_eq, not_true_eq_false, not_false_eq_true, Nat.zero_add, Bool.false_eq_true, and_self, true_and, and_true, hl, q16, q8, q14, mk]
      have hbd : ((begins k pre).map nI).length + ((List.range ((e - s) / k)).map fun j => nI (s + k * j)).length ≤ 16777216 := by
        rw [List.length_map, List.length_map, List.length_range]
        have : 100 * pre.length ≤ 10000 := by omega
        omega
      refine ⟨_, [x0, x1, x2, x3, none, none, none, x7, some (.int k), x9, some (.list ((begins k (pre ++ [(s, e)])).map nI)), some (.int 0), some (.int (totK k (pre ++ [(s, e)]))), x13, some (.int (s : Nat)), some (.int (e : Nat)), none, none], rfl, .inl ?_, by rw [List.append_assoc]; exact hp, by rw [hb1, List.length_append, List.length_append]; simp; omega, _, _, rfl⟩
      rw [hb1, ht1, List.map_append, List.map_map]
      have hc : (nI ∘ fun j => s + k * j) = fun j => nI (s + k * j) := rfl
      rw [hc]
      generalize ((List.range ((e - s) / k)).map fun j => nI (s + k * j)) = L2 at *
      generalize (begins k pre).map nI = L1 at *
      simp -implicitDefEqProofs only [l2__law_coats, xVar_a, xC_a, xBin_a, xUn_a, tOf_a, tTru_a, tNotP_a, tAndP_a, tOrP_a, tyes_a, tno_a, tYesP_a, xNil_a, xCons_a, xTup_a, xLst_a, xAnd_a, xOr_a, xIf_a, xChain_a, oNo_a, oAt_a, xSl_a, xCall_a, xSeq_a, xIt_a, xLc_a, gSet_a, gTupD_a, gsNil_a, gsCons_a, sNop_a, sBrk_a, sCnt_a, sSeq_a, sRet_a, sIf_a, sSet_a, sTgt_a, sAug_a, sApp_a, sExt_a, sPut_a, sPutK_a, pkO_s, sFor_a, sWhile_a, sPar_a, runD_a, b2_s, c2_s, sqO_nx, sqO_rt, sqO_bk, sqO_ct, ifO_t, ifO_f, stO_s, endO_nx, endO_rt, andO_t, andO_f, orO_t, orO_f, chO_s, chP_t, chP_f, slO_s, atO_i, lcO_s, forO_s, gsO_s, nxO_s, tgO_s, paO_s, apO_s, exO_s, plO_s, ptO_s, dB_b, tru_b, tru_n, tru_i, tru_l, tru_t, is_n, isn_n, nn_n, nn_i, nn_b, nn_t, nn_l, add_ii, add'_ii, sub_ii, neg_i, lt_ii, le_ii, gt_ii, ge_ii, ix_l, ix_t, ix_s, at0, at1, at2, sl_l, sl_t, len_l, len_t, len_s, abs_i, int_i, int_b, max_ii, min_ii, tup_s, lst_s, seq_l, seq_t, sum_s, wipe_n, wipe_c, mul_ii, fdiv_ii, mod_ii, add_ll, add_tt, setAll, mkT, mkL, oNot, List.getD_cons_zero, List.getD_cons_succ, List.length_cons, List.length_nil, List.set_cons_zero, List.set_cons_succ, List.map_cons, List.map_nil, List.replicate, List.cons_append, List.nil_append, List.append_nil, Option.bind_some, Option.map_some, List.all_cons, List.all_nil, if_true, if_false, reduceIte, Nat.reduceAdd, Nat.reduceSub, Nat.reduceLT, Nat.reduceLeDiff, Nat.reduceEqDiff, decide_true, decide_false, Bool.and_true, Bool.and_self, Bool.true_and, Bool.not_true, Bool.not_false, ne_eq, not_true_eq_false, not_false_eq_true, Nat.zero_add, Bool.false_eq_true, and_self, true_and, and_true, fdiv_ii hd, hf, hr, c1, hbd]) R [] [x0, x1, x2, x3, none, none, none, x7, some (.int k), x9, some (.list []), some (.int 0), some (.int 0), x13, none, none, none, none] ⟨rfl, by simp [begins], none, none, by simp [begins, totK]⟩
  obtain ⟨_, _, j14, j15, e'⟩ := h
  subst e'
  exact ⟨j14, j15, e⟩
end K32

namespace K32
open PySem PySem.Spec PyProof.Rows L2 Pm
theorem all_win (dry : List Bool) (k d : Nat) (h : d + k ≤ dry.length) : ((dry.drop d).take k).all id = winD dry k d := by
  unfold winD
  rw [decide_eq_true h, Bool.true_and]
  induction k generalizing d with
  | zero => simp
  | succ k ih =>
    have hd : d < dry.length := by omega
    rw [List.drop_eq_getElem_cons hd, List.take_succ_cons, List.all_cons, ih (d + 1) (by omega), List.range_succ_eq_map, List.all_cons, List.all_map]
    have e : (dry.getD (d + 0) false) = dry[d] := by simp [List.getD, hd]
    rw [e]
    simp only [id]
    congr 1
    congr 1
    funext i
    simp only [Function.comp, Nat.succ_eq_add_one]
    have e2 : d + 1 + i = d + (i + 1) := by omega
    rw [e2]
theorem all_bools (xs : List Bool) : bAll [.tuple (xs.map PyData.bool)] = some (.bool (xs.all id)) := by
  show (asBools (xs.map PyData.bool)).map _ = _
  rw [asBools_map]
  rfl
def cBy : PEnv → Option Bool := tAndP (tOf (xBin oLe (xBin oAdd (xVar 5) (xVar 1)) (xCall bLen (xCons (xVar 0) xNil)))) (tNotP (tTru (xCall bAll (xCons (xSl (xVar 0) (oAt (xVar 5)) (oAt (xBin oAdd (xVar 5) (xVar 1)))) xNil))))
theorem cBy_eq (dry : List Bool) (k d : Nat) (x2 x3 x4 : Option D) : cBy [some (.tuple (dry.map PyData.bool)), some (.int k), x2, x3, x4, some (.int d)] = some (decide (d + k ≤ dry.length) && !winD dry k d) := by
  unfold cBy
  by_cases h : d + k ≤ dry.length
  · have h' : (d : Int) + (k : Int) ≤ (dry.length : Int) := by omega
    have hc := cut_win (dry.map PyData.bool) d k (by rw [List.length_map]; exact h)
    have e1 : ((dry.map PyData.bool).drop d).take k = ((dry.drop d).take k).map PyData.bool := by rw [List.map_take, List.map_drop]
    have ha := all_bools ((dry.drop d).take k)
    rw [all_win dry k d h] at ha
    rw [decide_eq_true h, Bool.true_and]
    simp -implicitDefEqProofs only [xVar_a, xC_a, xBin_a, xUn_a, tOf_a, tTru_a, tNotP_a, tAndP_a, tOrP_a, tyes_a, tno_a, tYesP_a, xNil_a, xCons_a, xTup_a, xLst_a, xAnd_a, xOr_a, xIf_a, xChain_a, oNo_a, oAt_a, xSl_a, xCall_a, xSeq_a, xIt_a, xLc_a, gSet_a, gTupD_a, gsNil_a, gsCons_a, sNop_a, sBrk_a, sCnt_a, sSeq_a, sRet_a, sIf_a, sSet_a, sTgt_a, sAug_a, sApp_a, sExt_a, sPut_a, sPutK_a, pkO_s, sFor_a, sWhile_a, sPar_a, runD_a, b2_s, c2_s, sqO_nx, sqO_rt, sqO_bk, sqO_ct, ifO_t, ifO_f, stO_s, endO_nx, endO_rt, andO_t, andO_f, orO_t, orO_f, chO_s, chP_t, chP_f, slO_s, atO_i, lcO_s, forO_s, gsO_s, nxO_s, tgO_s, paO_s, apO_s, exO_s, plO_s, ptO_s, dB_b, tru_b, tru_n, tru_i, tru_l, tru_t, is_n, isn_n, nn_n, nn_i, nn_b, nn_t, nn_l, add_ii, add'_ii, sub_ii, neg_i, lt_ii, le_ii, gt_ii, ge_ii, ix_l, ix_t, ix_s, at0, at1, at2, sl_l, sl_t, len_l, len_t, len_s, abs_i, int_i, int_b, max_ii, min_ii, tup_s, lst_s, seq_l, seq_t, sum_s, wipe_n, wipe_c, mul_ii, fdiv_ii, mod_ii, add_ll, add_tt, setAll, mkT, mkL, oNot, List.getD_cons_zero, List.getD_cons_succ, List.length_cons, List.length_nil, List.set_cons_zero, List.set_cons_succ, List.map_cons, List.map_nil, List.replicate, List.cons_append, List.nil_append, List.append_nil, Option.bind_some, Option.map_some, List.all_cons, List.all_nil, if_true, if_false, reduceIte, Nat.reduceAdd, Nat.reduceSub, Nat.reduceLT, Nat.reduceLeDiff, Nat.reduceEqDiff, decide_true, decide_false, Bool.and_true, Bool.and_self, Bool.true_and, Bool.not_true, Bool.not_false, ne_eq, not_true_eq_false, not_false_eq_true, Nat.zero_add, Bool.false_eq_true, and_self, true_and, and_true, List.length_map, h', hc, e1, ha]
  · have h' : ¬ (d : Int) + (k : Int) ≤ (dry.length : Int) := by omega
    rw [decide_eq_false h, Bool.false_and]
    simp -implicitDefEqProofs only [xVar_a, xC_a, xBin_a, xUn_a, tOf_a, tTru_a, tNotP_a, tAndP_a, tOrP_a, tyes_a, tno_a, tYesP_a, xNil_a, xCons_a, xTup_a, xLst_a, xAnd_a, xOr_a, xIf_a, xChain_a, oNo_a, oAt_a, xSl_a, xCall_a, xSeq_a, xIt_a, xLc_a, gSet_a, gTupD_a, gsNil_a, gsCons_a, sNop_a, sBrk_a, sCnt_a, sSeq_a, sRet_a, sIf_a, sSet_a, sTgt_a, sAug_a, sApp_a, sExt_a, sPut_a, sPutK_a, pkO_s, sFor_a, sWhile_a, sPar_a, runD_a, b2_s, c2_s, sqO_nx, sqO_rt, sqO_bk, sqO_ct, ifO_t, ifO_f, stO_s, endO_nx, endO_rt, andO_t, andO_f, orO_t, orO_f, chO_s, chP_t, chP_f, slO_s, atO_i, lcO_s, forO_s, gsO_s, nxO_s, tgO_s, paO_s, apO_s, exO_s, plO_s, ptO_s, dB_b, tru_b, tru_n, tru_i, tru_l, tru_t, is_n, isn_n, nn_n, nn_i, nn_b, nn_t, nn_l, add_ii, add'_ii, sub_ii, neg_i, lt_ii, le_ii, gt_ii, ge_ii, ix_l, ix_t, ix_s, at0, at1, at2, sl_l, sl_t, len_l, len_t, len_s, abs_i, int_i, int_b, max_ii, min_ii, tup_s, lst_s, seq_l, seq_t, sum_s, wipe_n, wipe_c, mul_ii, fdiv_ii, mod_ii, add_ll, add_tt, setAll, mkT, mkL, oNot, List.getD_cons_zero, List.getD_cons_succ, List.length_cons, List.length_nil, List.set_cons_zero, List.set_cons_succ, List.map_cons, List.map_nil, List.replicate, List.cons_append, List.nil_append, List.append_nil, Option.bind_some, Option.map_some, List.all_cons, List.all_nil, if_true, if_false, reduceIte, Nat.reduceAdd, Nat.reduceSub, Nat.reduceLT, Nat.reduceLeDiff, Nat.reduceEqDiff, decide_true, decide_false, Bool.and_true, Bool.and_self, Bool.true_and, Bool.not_true, Bool.not_false, ne_eq, not_true_eq_false, not_false_eq_true, Nat.zero_add, Bool.false_eq_true, and_self, true_and, and_true, List.length_map, h']
theorem by_while (dry : List Bool) (k d x : Nat) (hk : 1 ≤ k) (hl : dry.length ≤ 100) (hdx : d ≤ x) (hx : x ≤ dry.length + d) (hw : ∀ d', d ≤ d' → d' < x → d' + k ≤ dry.length ∧ winD dry k d' = false) (he : dry.length < x + k ∨ winD dry k x = true) (x2 x3 x4 : Option D) :
    whileF cBy l1_coats_by fuelN [some (.tuple (dry.map PyData.bool)), some (.int k), x2, x3, x4, some (.int d)] = some (.nx [some (.tuple (dry.map PyData.bool)), some (.int k), x2, x3, x4, some (.int x)]) := by
  have hf : x - d < fuelN := by
    have h1 : fuelN = 2 ^ 2000 := rfl
    have h2 : (2 : Nat) ^ 7 ≤ 2 ^ 2000 := Nat.pow_le_pow_right (by decide) (by decide)
    rw [h1]
    omega
  have key := whileF_run (c := cBy) (b := l1_coats_by) (f := fun i => [some (.tuple (dry.map PyData.bool)), some (.int k), x2, x3, x4, some (.int ((d + i : Nat) : Int))]) (n := x - d) (N := fuelN) hf (fun i hi => by
    obtain ⟨h1, h2⟩ := hw (d + i) (by omega) (by omega)
    rw [cBy_eq, decide_eq_true h1, h2]
    rfl) (fun i hi => by
    have e : ((d + (i + 1) : Nat) : Int) = ((d + i : Nat) : Int) + 1 := by omega
    rw [e]
    simp -implicitDefEqProofs only [l1_coats_by, xVar_a, xC_a, xBin_a, xUn_a, tOf_a, tTru_a, tNotP_a, tAndP_a, tOrP_a, tyes_a, tno_a, tYesP_a, xNil_a, xCons_a, xTup_a, xLst_a, xAnd_a, xOr_a, xIf_a, xChain_a, oNo_a, oAt_a, xSl_a, xCall_a, xSeq_a, xIt_a, xLc_a, gSet_a, gTupD_a, gsNil_a, gsCons_a, sNop_a, sBrk_a, sCnt_a, sSeq_a, sRet_a, sIf_a, sSet_a, sTgt_a, sAug_a, sApp_a, sExt_a, sPut_a, sPutK_a, pkO_s, sFor_a, sWhile_a, sPar_a, runD_a, b2_s, c2_s, sqO_nx, sqO_rt, sqO_bk, sqO_ct, ifO_t, ifO_f, stO_s, endO_nx, endO_rt, andO_t, andO_f, orO_t, orO_f, chO_s, chP_t, chP_f, slO_s, atO_i, lcO_s, forO_s, gsO_s, nxO_s, tgO_s, paO_s, apO_s, exO_s, plO_s, ptO_s, dB_b, tru_b, tru_n, tru_i, tru_l, tru_t, is_n, isn_n, nn_n, nn_i, nn_b, nn_t, nn_l, add_ii, add'_ii, sub_ii, neg_i, lt_ii, le_ii, gt_ii, ge_ii, ix_l, ix_t, ix_s, at0, at1, at2, sl_l, sl_t, len_l, len_t, len_s, abs_i, int_i, int_b, max_ii, min_ii, tup_s, lst_s, seq_l, seq_t, sum_s, wipe_n, wipe_c, mul_ii, fdiv_ii, mod_ii, add_ll, add_tt, setAll, mkT, mkL, oNot, List.getD_cons_zero, List.getD_cons_succ, List.length_cons, List.length_nil, List.set_cons_zero, List.set_cons_succ, List.map_cons, List.map_nil, List.replicate, List.cons_append, List.nil_append, List.append_nil, Option.bind_some, Option.map_some, List.all_cons, List.all_nil, if_true, if_false, reduceIte, Nat.reduceAdd, Nat.reduceSub, Nat.reduceLT, Nat.reduceLeDiff, Nat.reduceEqDiff, decide_true, decide_false, Bool.and_true, Bool.and_self, Bool.true_and, Bool.not_true, Bool.not_false, ne_eq, not_true_eq_false, not_false_eq_true, Nat.zero_add, Bool.false_eq_true, and_self, true_and, and_true]) (by
    have e : d + (x - d) = x := by omega
    rw [e, cBy_eq]
    rcases he with he | he
    · rw [decide_eq_false (by omega)]
      rfl
    · rw [he]
      simp)
  have e : d + (x - d) = x := by omega
  simp only [Nat.add_zero, e] at key
  exact key
end K32

namespace K32
open PySem PySem.Spec PyProof.Rows L2 Pm
theorem cBy_def : (tAndP (tOf (xBin oLe (xBin oAdd (xVar 5) (xVar 1)) (xCall bLen (xCons (xVar 0) xNil)))) (tNotP (tTru (xCall bAll (xCons (xSl (xVar 0) (oAt (xVar 5)) (oAt (xBin oAdd (xVar 5) (xVar 1)))) xNil))))) = cBy := rfl
theorem coats_by_eq (dry : List Bool) (k n : Nat) (hk : 1 ≤ k) (hk3 : k ≤ 3) (hl : dry.length ≤ 100) (hn : n ≤ 10) (B : List Nat) (hB : Gr dry k 0 B) :
    d_coats_by [.tuple (dry.map PyData.bool), .int k, .int n] = some (if n ≤ B.length then .tuple ((B.take n).map nI) else .none) := by
  have hrn := oR1_nat n (by omega)
  have key := forL_inv' (g := gSet 3) (b := l2_coats_by) (fun i : Nat => PyData.int (i : Nat))
    (fun pre rest ρ => pre.length + rest.length = n ∧ ∃ d B' j3, d ≤ dry.length ∧ Gr dry k d B' ∧ B = B.take pre.length ++ B' ∧ pre.length ≤ B.length ∧ ρ = [some (.tuple (dry.map PyData.bool)), some (.int k), some (.int n), j3, some (.list ((B.take pre.length).map nI)), some (.int (d : Nat))])
    (fun r => r = .none ∧ B.length < n) (fun pre i rest ρ ⟨hlen, d, B', j3, hd, hg, hBB, hpl, e⟩ => by
      subst e
      rw [List.length_cons] at hlen
      refine ⟨_, rfl, ?_⟩
      cases B' with
      | nil =>
        refine .inr ⟨.none, ?_, rfl, ?_⟩
        · have hx := by_while dry k d (max d (dry.length + 1 - k)) hk hl (by omega) (by omega) (fun d' h1 h2 => ⟨by omega, hg d' h1⟩) (.inl (by omega)) (some (.int n)) (some (.int i)) (some (.list ((B.take pre.length).map nI)))
          have ht : (dry.length : Int) < ((max d (dry.length + 1 - k) : Nat) : Int) + (k : Int) := by omega
          generalize max d (dry.length + 1 - k) = x at *
          simp -implicitDefEqProofs only [l2_coats_by, cBy_def, xVar_a, xC_a, xBin_a, xUn_a, tOf_a, tTru_a, tNotP_a, tAndP_a, tOrP_a, tyes_a, tno_a, tYesP_a, xNil_a, xCons_a, xTup_a, xLst_a, xAnd_a, xOr_a, xIf_a, xChain_a, oNo_a, oAt_a, xSl_a, xCall_a, xSeq_a, xIt_a, xLc_a, gSet_a, gTupD_a, gsNil_a, gsCons_a, sNop_a, sBrk_a, sCnt_a, sSeq_a, sRet_a, sIf_a, sSet_a, sTgt_a, sAug_a, sApp_a, sExt_a, sPut_a, sPutK_a, pkO_s, sFor_a, sWhile_a, sPar_a, runD_a, b2_s, c2_s, sqO_nx, sqO_rt, sqO_bk, sqO_ct, ifO_t, ifO_f, stO_s, endO_nx, endO_rt, andO_t, andO_f, orO_t, orO_f, chO_s, chP_t, chP_f, slO_s, atO_i, lcO_s, forO_s, gsO_s, nxO_s, tgO_s, paO_s, apO_s, exO_s, plO_s, ptO_s, dB_b, tru_b, tru_n, tru_i, tru_l, tru_t, is_n, isn_n, nn_n, nn_i, nn_b, nn_t, nn_l, add_ii, add'_ii, sub_ii, neg_i, lt_ii, le_ii, gt_ii, ge_ii, ix_l, ix_t, ix_s, at0, at1, at2, sl_l, sl_t, len_l, len_t, len_s, abs_i, int_i, int_b, max_ii, min_ii, tup_s, lst_s, seq_l, seq_t, sum_s, wipe_n, wipe_c, mul_ii, fdiv_ii, mod_ii, add_ll, add_tt, setAll, mkT, mkL, oNot, List.getD_cons_zero, List.getD_cons_succ, List.length_cons, List.length_nil, List.set_cons_zero, List.set_cons_succ, List.map_cons, List.map_nil, List.replicate, List.cons_append, List.nil_append, List.append_nil, Option.bind_some, Option.map_some, List.all_cons, List.all_nil, if_true, if_false, reduceIte, Nat.reduceAdd, Nat.reduceSub, Nat.reduceLT, Nat.reduceLeDiff, Nat.reduceEqDiff, decide_true, decide_false, Bool.and_true, Bool.and_self, Bool.true_and, Bool.not_true, Bool.not_false, ne_eq, not_true_eq_false, not_false_eq_true, Nat.zero_add, Bool.false_eq_true, and_self, true_and, and_true, hx, List.length_map, ht]
        · have := congrArg List.length hBB
          rw [List.append_nil, List.length_take] at this
          omega
      | cons x B'' =>
        obtain ⟨g1, g2, g3, g4⟩ := hg
        have hxk := ((winD_iff _ _ _).mp g2).1
        have hx := by_while dry k d x hk hl g1 (by omega) (fun d' h1 h2 => ⟨by omega, g3 d' h1 h2⟩) (.inr g2) (some (.int n)) (some (.int i)) (some (.list ((B.take pre.length).map nI)))
        have ht : ¬ (dry.length : Int) < (x : Int) + (k : Int) := by omega
        have hBl : pre.length < B.length := by
          have := congrArg List.length hBB
          rw [List.length_append, List.length_take, List.length_cons] at this
          omega
        have htk : B.take (pre.length + 1) = B.take pre.length ++ [x] := by
          rw [List.take_add_one, List.getElem?_eq_getElem hBl]
          have : B[pre.length] = x := by
            have h3 : (B.take pre.length ++ x :: B'')[pre.length]? = some x := by
              rw [List.getElem?_append_right (by rw [List.length_take]; omega), List.length_take, Nat.min_eq_left (by omega), Nat.sub_self]
              rfl
            rw [← hBB, List.getElem?_eq_getElem hBl] at h3
            exact Option.some.inj h3
          rw [this]
          rfl
        have hll : ((B.take pre.length).map nI).length < 16777216 := by rw [List.length_map, List.length_take]; omega
        refine .inl ⟨[some (.tuple (dry.map PyData.bool)), some (.int k), some (.int n), some (.int i), some (.list ((B.take (pre.length + 1)).map nI)), some (.int ((x + k : Nat) : Int))], .inl ?_, by simp; omega, x + k, B'', some (.int i), hxk, g4, ?_, by simp; omega, by rw [List.length_append]; rfl⟩
        · rw [htk, List.map_append]
          have hc : ((x + k : Nat) : Int) = (x : Int) + (k : Int) := by omega
          rw [hc]
          generalize (B.take pre.length).map nI = L at *
          simp -implicitDefEqProofs only [l2_coats_by, cBy_def, xVar_a, xC_a, xBin_a, xUn_a, tOf_a, tTru_a, tNotP_a, tAndP_a, tOrP_a, tyes_a, tno_a, tYesP_a, xNil_a, xCons_a, xTup_a, xLst_a, xAnd_a, xOr_a, xIf_a, xChain_a, oNo_a, oAt_a, xSl_a, xCall_a, xSeq_a, xIt_a, xLc_a, gSet_a, gTupD_a, gsNil_a, gsCons_a, sNop_a, sBrk_a, sCnt_a, sSeq_a, sRet_a, sIf_a, sSet_a, sTgt_a, sAug_a, sApp_a, sExt_a, sPut_a, sPutK_a, pkO_s, sFor_a, sWhile_a, sPar_a, runD_a, b2_s, c2_s, sqO_nx, sqO_rt, sqO_bk, sqO_ct, ifO_t, ifO_f, stO_s, endO_nx, endO_rt, andO_t, andO_f, orO_t, orO_f, chO_s, chP_t, chP_f, slO_s, atO_i, lcO_s, forO_s, gsO_s, nxO_s, tgO_s, paO_s, apO_s, exO_s, plO_s, ptO_s, dB_b, tru_b, tru_n, tru_i, tru_l, tru_t, is_n, isn_n, nn_n, nn_i, nn_b, nn_t, nn_l, add_ii, add'_ii, sub_ii, neg_i, lt_ii, le_ii, gt_ii, ge_ii, ix_l, ix_t, ix_s, at0, at1, at2, sl_l, sl_t, len_l, len_t, len_s, abs_i, int_i, int_b, max_ii, min_ii, tup_s, lst_s, seq_l, seq_t, sum_s, wipe_n, wipe_c, mul_ii, fdiv_ii, mod_ii, add_ll, add_tt, setAll, mkT, mkL, oNot, List.getD_cons_zero, List.getD_cons_succ, List.length_cons, List.length_nil, List.set_cons_zero, List.set_cons_succ, List.map_cons, List.map_nil, List.replicate, List.cons_append, List.nil_append, List.append_nil, Option.bind_some, Option.map_some, List.all_cons, List.all_nil, if_true, if_false, reduceIte, Nat.reduceAdd, Nat.reduceSub, Nat.reduceLT, Nat.reduceLeDiff, Nat.reduceEqDiff, decide_true, decide_false, Bool.and_true, Bool.and_self, Bool.true_and, Bool.not_true, Bool.not_false, ne_eq, not_true_eq_false, not_false_eq_true, Nat.zero_add, Bool.false_eq_true, and_self, true_and, and_true, hx, List.length_map, ht, hll, nI]
        · rw [List.length_append]
          show B = B.take (pre.length + 1) ++ B''
          rw [htk, List.append_assoc]
          exact hBB) (List.range n) [] [some (.tuple (dry.map PyData.bool)), some (.int k), some (.int n), none, some (.list []), some (.int 0)] ⟨by simp, 0, B, none, by omega, hB, by simp, by simp, rfl⟩
  rcases key with ⟨ρ', e, hlen, d, B', j3, hd, hg, hBB, hpl, e'⟩ | ⟨r, e, hr, hlt⟩
  · subst e'
    rw [List.nil_append, List.length_range] at e hpl
    rw [if_pos hpl]
    simp -implicitDefEqProofs only [d_coats_by, g_coats_by, xVar_a, xC_a, xBin_a, xUn_a, tOf_a, tTru_a, tNotP_a, tAndP_a, tOrP_a, tyes_a, tno_a, tYesP_a, xNil_a, xCons_a, xTup_a, xLst_a, xAnd_a, xOr_a, xIf_a, xChain_a, oNo_a, oAt_a, xSl_a, xCall_a, xSeq_a, xIt_a, xLc_a, gSet_a, gTupD_a, gsNil_a, gsCons_a, sNop_a, sBrk_a, sCnt_a, sSeq_a, sRet_a, sIf_a, sSet_a, sTgt_a, sAug_a, sApp_a, sExt_a, sPut_a, sPutK_a, pkO_s, sFor_a, sWhile_a, sPar_a, runD_a, b2_s, c2_s, sqO_nx, sqO_rt, sqO_bk, sqO_ct, ifO_t, ifO_f, stO_s, endO_nx, endO_rt, andO_t, andO_f, orO_t, orO_f, chO_s, chP_t, chP_f, slO_s, atO_i, lcO_s, forO_s, gsO_s, nxO_s, tgO_s, paO_s, apO_s, exO_s, plO_s, ptO_s, dB_b, tru_b, tru_n, tru_i, tru_l, tru_t, is_n, isn_n, nn_n, nn_i, nn_b, nn_t, nn_l, add_ii, add'_ii, sub_ii, neg_i, lt_ii, le_ii, gt_ii, ge_ii, ix_l, ix_t, ix_s, at0, at1, at2, sl_l, sl_t, len_l, len_t, len_s, abs_i, int_i, int_b, max_ii, min_ii, tup_s, lst_s, seq_l, seq_t, sum_s, wipe_n, wipe_c, mul_ii, fdiv_ii, mod_ii, add_ll, add_tt, setAll, mkT, mkL, oNot, List.getD_cons_zero, List.getD_cons_succ, List.length_cons, List.length_nil, List.set_cons_zero, List.set_cons_succ, List.map_cons, List.map_nil, List.replicate, List.cons_append, List.nil_append, List.append_nil, Option.bind_some, Option.map_some, List.all_cons, List.all_nil, if_true, if_false, reduceIte, Nat.reduceAdd, Nat.reduceSub, Nat.reduceLT, Nat.reduceLeDiff, Nat.reduceEqDiff, decide_true, decide_false, Bool.and_true, Bool.and_self, Bool.true_and, Bool.not_true, Bool.not_false, ne_eq, not_true_eq_false, not_false_eq_true, Nat.zero_add, Bool.false_eq_true, and_self, true_and, and_true, hrn, e]
  · subst hr
    rw [if_neg (by omega)]
    simp -implicitDefEqProofs only [d_coats_by, g_coats_by, xVar_a, xC_a, xBin_a, xUn_a, tOf_a, tTru_a, tNotP_a, tAndP_a, tOrP_a, tyes_a, tno_a, tYesP_a, xNil_a, xCons_a, xTup_a, xLst_a, xAnd_a, xOr_a, xIf_a, xChain_a, oNo_a, oAt_a, xSl_a, xCall_a, xSeq_a, xIt_a, xLc_a, gSet_a, gTupD_a, gsNil_a, gsCons_a, sNop_a, sBrk_a, sCnt_a, sSeq_a, sRet_a, sIf_a, sSet_a, sTgt_a, sAug_a, sApp_a, sExt_a, sPut_a, sPutK_a, pkO_s, sFor_a, sWhile_a, sPar_a, runD_a, b2_s, c2_s, sqO_nx, sqO_rt, sqO_bk, sqO_ct, ifO_t, ifO_f, stO_s, endO_nx, endO_rt, andO_t, andO_f, orO_t, orO_f, chO_s, chP_t, chP_f, slO_s, atO_i, lcO_s, forO_s, gsO_s, nxO_s, tgO_s, paO_s, apO_s, exO_s, plO_s, ptO_s, dB_b, tru_b, tru_n, tru_i, tru_l, tru_t, is_n, isn_n, nn_n, nn_i, nn_b, nn_t, nn_l, add_ii, add'_ii, sub_ii, neg_i, lt_ii, le_ii, gt_ii, ge_ii, ix_l, ix_t, ix_s, at0, at1, at2, sl_l, sl_t, len_l, len_t, len_s, abs_i, int_i, int_b, max_ii, min_ii, tup_s, lst_s, seq_l, seq_t, sum_s, wipe_n, wipe_c, mul_ii, fdiv_ii, mod_ii, add_ll, add_tt, setAll, mkT, mkL, oNot, List.getD_cons_zero, List.getD_cons_succ, List.length_cons, List.length_nil, List.set_cons_zero, List.set_cons_succ, List.map_cons, List.map_nil, List.replicate, List.cons_append, List.nil_append, List.append_nil, Option.bind_some, Option.map_some, List.all_cons, List.all_nil, if_true, if_false, reduceIte, Nat.reduceAdd, Nat.reduceSub, Nat.reduceLT, Nat.reduceLeDiff, Nat.reduceEqDiff, decide_true, decide_false, Bool.and_true, Bool.and_self, Bool.true_and, Bool.not_true, Bool.not_false, ne_eq, not_true_eq_false, not_false_eq_true, Nat.zero_add, Bool.false_eq_true, and_self, true_and, and_true, hrn, e]
end K32

namespace K32
open PySem PySem.Spec PyProof.Rows L2 Pm
def twB (dry : List Bool) (k b : Nat) : Bool := (List.range (min k (dry.length + 1))).all fun i => dry.getD ((b + i) % (dry.length + 1)) false
theorem tw_in (dry : List Bool) (k b : Nat) (h : b + k ≤ dry.length) : twB dry k b = winD dry k b := by
  unfold twB winD
  rw [decide_eq_true h, Bool.true_and, Nat.min_eq_left (by omega)]
  rw [Bool.eq_iff_iff, List.all_eq_true, List.all_eq_true]
  constructor
  · intro hh i hi
    have := hh i hi
    rwa [Nat.mod_eq_of_lt (by rw [List.mem_range] at hi; omega)] at this
  · intro hh i hi
    have := hh i hi
    rwa [Nat.mod_eq_of_lt (by rw [List.mem_range] at hi; omega)]
theorem tw_out (dry : List Bool) (k b : Nat) (hk : 1 ≤ k) (h : dry.length < b + k) (hb : b ≤ dry.length) : twB dry k b = false := by
  cases hw : twB dry k b with
  | false => rfl
  | true =>
    unfold twB at hw
    rw [List.all_eq_true] at hw
    have := hw (dry.length - b) (by rw [List.mem_range]; omega)
    rw [show b + (dry.length - b) = dry.length by omega, Nat.mod_eq_of_lt (by omega)] at this
    simp at this
theorem oR2_now (now L : Nat) (h1 : now ≤ 1000) (h2 : L ≤ 1000) : oR2 [.int (now : Int), .int ((now : Int) + (L : Int))] = some ((List.range L).map fun i => PyData.int ((now + i : Nat) : Int)) := by
  rw [oR2_ij (i := (now : Int)) (j := (now : Int) + (L : Int)) ⟨by omega, by omega, by omega, by omega, by omega⟩]
  have e : ((now : Int) + (L : Int) - (now : Int)).toNat = L := by omega
  rw [e]
  unfold rangeD
  simp
theorem stays_test (dry : List Bool) (k b : Nat) (hl : dry.length ≤ 100) (hk3 : k ≤ 3) (x2 x5 : Option D) :
    xCall bAll (xCons (xLc (xIt oR1 (xCons (xCall bMin2 (xCons (xVar 3) (xCons (xCall bLen (xCons (xVar 0) xNil)) xNil))) xNil)) (gSet 5) tYesP (xBin oGe (xCall (fun ds => if ds.length = 2 then (d_tide_at) ds else none) (xCons (xVar 0) (xCons (xBin oAdd (xVar 4) (xVar 5)) xNil))) (xVar 1)) [5]) xNil) [some (tideD dry), some (.int 1), x2, some (.int k), some (.int b), x5] = some (.bool (twB dry k b)) := by
  have hlen : bLen [tideD dry] = some (.int ((dry.length : Int) + 1)) := by
    unfold tideD
    rw [len_t]
    simp
  have hmin : (if (dry.length : Int) + 1 < (k : Int) then (dry.length : Int) + 1 else (k : Int)) = ((min k (dry.length + 1) : Nat) : Int) := by
    split <;> omega
  have hr := oR1_nat (min k (dry.length + 1)) (by omega)
  have c1 : lcL (gSet 5) tYesP (xBin oGe (xCall (fun ds => if ds.length = 2 then (d_tide_at) ds else none) (xCons (xVar 0) (xCons (xBin oAdd (xVar 4) (xVar 5)) xNil))) (xVar 1)) [some (tideD dry), some (.int 1), x2, some (.int k), some (.int b), none] ((List.range (min k (dry.length + 1))).map fun i => PyData.int (i : Nat)) = some ((List.range (min k (dry.length + 1))).map fun i => PyData.bool (dry.getD ((b + i) % (dry.length + 1)) false)) := by
    refine lcL_map _ _ _ fun i hi => ?_
    have ht := tide_at_eq dry (b + i)
    rw [Int.natCast_add] at ht
    have hb : decide ((1 : Int) ≤ bI (dry.getD ((b + i) % (dry.length + 1)) false)) = dry.getD ((b + i) % (dry.length + 1)) false := by
      cases dry.getD ((b + i) % (dry.length + 1)) false <;> rfl
    simp -implicitDefEqProofs only [xVar_a, xC_a, xBin_a, xUn_a, tOf_a, tTru_a, tNotP_a, tAndP_a, tOrP_a, tyes_a, tno_a, tYesP_a, xNil_a, xCons_a, xTup_a, xLst_a, xAnd_a, xOr_a, xIf_a, xChain_a, oNo_a, oAt_a, xSl_a, xCall_a, xSeq_a, xIt_a, xLc_a, gSet_a, gTupD_a, gsNil_a, gsCons_a, sNop_a, sBrk_a, sCnt_a, sSeq_a, sRet_a, sIf_a, sSet_a, sTgt_a, sAug_a, sApp_a, sExt_a, sPut_a, sPutK_a, pkO_s, sFor_a, sWhile_a, sPar_a, runD_a, b2_s, c2_s, sqO_nx, sqO_rt, sqO_bk, sqO_ct, ifO_t, ifO_f, stO_s, endO_nx, endO_rt, andO_t, andO_f, orO_t, orO_f, chO_s, chP_t, chP_f, slO_s, atO_i, lcO_s, forO_s, gsO_s, nxO_s, tgO_s, paO_s, apO_s, exO_s, plO_s, ptO_s, dB_b, tru_b, tru_n, tru_i, tru_l, tru_t, is_n, isn_n, nn_n, nn_i, nn_b, nn_t, nn_l, add_ii, add'_ii, sub_ii, neg_i, lt_ii, le_ii, gt_ii, ge_ii, ix_l, ix_t, ix_s, at0, at1, at2, sl_l, sl_t, len_l, len_t, len_s, abs_i, int_i, int_b, max_ii, min_ii, tup_s, lst_s, seq_l, seq_t, sum_s, wipe_n, wipe_c, mul_ii, fdiv_ii, mod_ii, add_ll, add_tt, setAll, mkT, mkL, oNot, List.getD_cons_zero, List.getD_cons_succ, List.length_cons, List.length_nil, List.set_cons_zero, List.set_cons_succ, List.map_cons, List.map_nil, List.replicate, List.cons_append, List.nil_append, List.append_nil, Option.bind_some, Option.map_some, List.all_cons, List.all_nil, if_true, if_false, reduceIte, Nat.reduceAdd, Nat.reduceSub, Nat.reduceLT, Nat.reduceLeDiff, Nat.reduceEqDiff, decide_true, decide_false, Bool.and_true, Bool.and_self, Bool.true_and, Bool.not_true, Bool.not_false, ne_eq, not_true_eq_false, not_false_eq_true, Nat.zero_add, Bool.false_eq_true, and_self, true_and, and_true, ht, hb]
  have hb := asBools_map ((List.range (min k (dry.length + 1))).map fun i => dry.getD ((b + i) % (dry.length + 1)) false)
  rw [List.map_map] at hb
  have hb' : bAll [.list ((List.range (min k (dry.length + 1))).map fun i => PyData.bool (dry.getD ((b + i) % (dry.length + 1)) false))] = some (.bool (twB dry k b)) := by
    show (asBools _).map _ = _
    have e2 : ((List.range (min k (dry.length + 1))).map fun i => PyData.bool (dry.getD ((b + i) % (dry.length + 1)) false)) = (List.range (min k (dry.length + 1))).map (PyData.bool ∘ fun i => dry.getD ((b + i) % (dry.length + 1)) false) := rfl
    rw [e2, hb]
    simp [twB, List.all_map, Function.comp_def]
  simp -implicitDefEqProofs only [xVar_a, xC_a, xBin_a, xUn_a, tOf_a, tTru_a, tNotP_a, tAndP_a, tOrP_a, tyes_a, tno_a, tYesP_a, xNil_a, xCons_a, xTup_a, xLst_a, xAnd_a, xOr_a, xIf_a, xChain_a, oNo_a, oAt_a, xSl_a, xCall_a, xSeq_a, xIt_a, xLc_a, gSet_a, gTupD_a, gsNil_a, gsCons_a, sNop_a, sBrk_a, sCnt_a, sSeq_a, sRet_a, sIf_a, sSet_a, sTgt_a, sAug_a, sApp_a, sExt_a, sPut_a, sPutK_a, pkO_s, sFor_a, sWhile_a, sPar_a, runD_a, b2_s, c2_s, sqO_nx, sqO_rt, sqO_bk, sqO_ct, ifO_t, ifO_f, stO_s, endO_nx, endO_rt, andO_t, andO_f, orO_t, orO_f, chO_s, chP_t, chP_f, slO_s, atO_i, lcO_s, forO_s, gsO_s, nxO_s, tgO_s, paO_s, apO_s, exO_s, plO_s, ptO_s, dB_b, tru_b, tru_n, tru_i, tru_l, tru_t, is_n, isn_n, nn_n, nn_i, nn_b, nn_t, nn_l, add_ii, add'_ii, sub_ii, neg_i, lt_ii, le_ii, gt_ii, ge_ii, ix_l, ix_t, ix_s, at0, at1, at2, sl_l, sl_t, len_l, len_t, len_s, abs_i, int_i, int_b, max_ii, min_ii, tup_s, lst_s, seq_l, seq_t, sum_s, wipe_n, wipe_c, mul_ii, fdiv_ii, mod_ii, add_ll, add_tt, setAll, mkT, mkL, oNot, List.getD_cons_zero, List.getD_cons_succ, List.length_cons, List.length_nil, List.set_cons_zero, List.set_cons_succ, List.map_cons, List.map_nil, List.replicate, List.cons_append, List.nil_append, List.append_nil, Option.bind_some, Option.map_some, List.all_cons, List.all_nil, if_true, if_false, reduceIte, Nat.reduceAdd, Nat.reduceSub, Nat.reduceLT, Nat.reduceLeDiff, Nat.reduceEqDiff, decide_true, decide_false, Bool.and_true, Bool.and_self, Bool.true_and, Bool.not_true, Bool.not_false, ne_eq, not_true_eq_false, not_false_eq_true, Nat.zero_add, Bool.false_eq_true, and_self, true_and, and_true, hlen, hmin, hr, c1, hb']
theorem stays_run (dry : List Bool) (k now : Nat) (hl : dry.length ≤ 100) (hk3 : k ≤ 3) (hnow : now ≤ 200) :
    ∃ r, d_stays_open [tideD dry, .int 1, .int now, .int k] = some r ∧ ((r = .none ∧ ∀ b, now ≤ b → b < now + (dry.length + 1) → twB dry k b = false) ∨ ∃ b : Nat, r = .int b ∧ now ≤ b ∧ twB dry k b = true ∧ ∀ b', now ≤ b' → b' < b → twB dry k b' = false) := by
  have hlen : bLen [tideD dry] = some (.int ((dry.length : Int) + 1)) := by
    unfold tideD
    rw [len_t]
    simp
  have hr := oR2_now now (dry.length + 1) (by omega) (by omega)
  have hr' : oR2 [.int (now : Int), .int ((now : Int) + ((dry.length : Int) + 1))] = some ((List.range (dry.length + 1)).map fun i => PyData.int ((now + i : Nat) : Int)) := by
    rw [← hr]
    rfl
  have key := forL_inv' (g := gSet 4) (b := l1_stays_open) (fun i : Nat => PyData.int ((now + i : Nat) : Int))
    (fun pre rest ρ => pre ++ rest = List.range (dry.length + 1) ∧ (∀ b, now ≤ b → b < now + pre.length → twB dry k b = false) ∧ ∃ j4, ρ = [some (tideD dry), some (.int 1), some (.int now), some (.int k), j4, none])
    (fun r => ∃ b : Nat, r = .int b ∧ now ≤ b ∧ twB dry k b = true ∧ ∀ b', now ≤ b' → b' < b → twB dry k b' = false) (fun pre x rest ρ ⟨hp, hf, j4, e⟩ => by
      subst e
      have hlen2 : pre.length + (rest.length + 1) = dry.length + 1 := by
        have := congrArg List.length hp
        simpa using this
      have hx : x = pre.length := by
        have h1 : (pre ++ x :: rest)[pre.length]? = some x := by simp
        rw [hp, List.getElem?_range (by omega)] at h1
        exact (Option.some.inj h1).symm
      subst hx
      have ht := stays_test dry k (now + pre.length) hl hk3 (some (.int now)) none
      refine ⟨[some (tideD dry), some (.int 1), some (.int now), some (.int k), some (.int ((now + pre.length : Nat) : Int)), none], rfl, ?_⟩
      cases hw : twB dry k (now + pre.length) with
      | true =>
        rw [hw] at ht
        refine .inr ⟨.int ((now + pre.length : Nat) : Int), ?_, now + pre.length, rfl, by omega, hw, fun b' h1 h2 => hf b' h1 h2⟩
        unfold l1_stays_open
        rw [sSeq_a, sIf_a, tTru_a, ht]
        simp -implicitDefEqProofs only [xVar_a, xC_a, xBin_a, xUn_a, tOf_a, tTru_a, tNotP_a, tAndP_a, tOrP_a, tyes_a, tno_a, tYesP_a, xNil_a, xCons_a, xTup_a, xLst_a, xAnd_a, xOr_a, xIf_a, xChain_a, oNo_a, oAt_a, xSl_a, xCall_a, xSeq_a, xIt_a, xLc_a, gSet_a, gTupD_a, gsNil_a, gsCons_a, sNop_a, sBrk_a, sCnt_a, sSeq_a, sRet_a, sIf_a, sSet_a, sTgt_a, sAug_a, sApp_a, sExt_a, sPut_a, sPutK_a, pkO_s, sFor_a, sWhile_a, sPar_a, runD_a, b2_s, c2_s, sqO_nx, sqO_rt, sqO_bk, sqO_ct, ifO_t, ifO_f, stO_s, endO_nx, endO_rt, andO_t, andO_f, orO_t, orO_f, chO_s, chP_t, chP_f, slO_s, atO_i, lcO_s, forO_s, gsO_s, nxO_s, tgO_s, paO_s, apO_s, exO_s, plO_s, ptO_s, dB_b, tru_b, tru_n, tru_i, tru_l, tru_t, is_n, isn_n, nn_n, nn_i, nn_b, nn_t, nn_l, add_ii, add'_ii, sub_ii, neg_i, lt_ii, le_ii, gt_ii, ge_ii, ix_l, ix_t, ix_s, at0, at1, at2, sl_l, sl_t, len_l, len_t, len_s, abs_i, int_i, int_b, max_ii, min_ii, tup_s, lst_s, seq_l, seq_t, sum_s, wipe_n, wipe_c, mul_ii, fdiv_ii, mod_ii, add_ll, add_tt, setAll, mkT, mkL, oNot, List.getD_cons_zero, List.getD_cons_succ, List.length_cons, List.length_nil, List.set_cons_zero, List.set_cons_succ, List.map_cons, List.map_nil, List.replicate, List.cons_append, List.nil_append, List.append_nil, Option.bind_some, Option.map_some, List.all_cons, List.all_nil, if_true, if_false, reduceIte, Nat.reduceAdd, Nat.reduceSub, Nat.reduceLT, Nat.reduceLeDiff, Nat.reduceEqDiff, decide_true, decide_false, Bool.and_true, Bool.and_self, Bool.true_and, Bool.not_true, Bool.not_false, ne_eq, not_true_eq_false, not_false_eq_true, Nat.zero_add, Bool.false_eq_true, and_self, true_and, and_true]
      | false =>
        rw [hw] at ht
        refine .inl ⟨[some (tideD dry), some (.int 1), some (.int now), some (.int k), some (.int ((now + pre.length : Nat) : Int)), none], .inl ?_, by rw [List.append_assoc]; exact hp, fun b h1 h2 => ?_, _, rfl⟩
        · unfold l1_stays_open
          rw [sSeq_a, sIf_a, tTru_a, ht]
          simp -implicitDefEqProofs only [xVar_a, xC_a, xBin_a, xUn_a, tOf_a, tTru_a, tNotP_a, tAndP_a, tOrP_a, tyes_a, tno_a, tYesP_a, xNil_a, xCons_a, xTup_a, xLst_a, xAnd_a, xOr_a, xIf_a, xChain_a, oNo_a, oAt_a, xSl_a, xCall_a, xSeq_a, xIt_a, xLc_a, gSet_a, gTupD_a, gsNil_a, gsCons_a, sNop_a, sBrk_a, sCnt_a, sSeq_a, sRet_a, sIf_a, sSet_a, sTgt_a, sAug_a, sApp_a, sExt_a, sPut_a, sPutK_a, pkO_s, sFor_a, sWhile_a, sPar_a, runD_a, b2_s, c2_s, sqO_nx, sqO_rt, sqO_bk, sqO_ct, ifO_t, ifO_f, stO_s, endO_nx, endO_rt, andO_t, andO_f, orO_t, orO_f, chO_s, chP_t, chP_f, slO_s, atO_i, lcO_s, forO_s, gsO_s, nxO_s, tgO_s, paO_s, apO_s, exO_s, plO_s, ptO_s, dB_b, tru_b, tru_n, tru_i, tru_l, tru_t, is_n, isn_n, nn_n, nn_i, nn_b, nn_t, nn_l, add_ii, add'_ii, sub_ii, neg_i, lt_ii, le_ii, gt_ii, ge_ii, ix_l, ix_t, ix_s, at0, at1, at2, sl_l, sl_t, len_l, len_t, len_s, abs_i, int_i, int_b, max_ii, min_ii, tup_s, lst_s, seq_l, seq_t, sum_s, wipe_n, wipe_c, mul_ii, fdiv_ii, mod_ii, add_ll, add_tt, setAll, mkT, mkL, oNot, List.getD_cons_zero, List.getD_cons_succ, List.length_cons, List.length_nil, List.set_cons_zero, List.set_cons_succ, List.map_cons, List.map_nil, List.replicate, List.cons_append, List.nil_append, List.append_nil, Option.bind_some, Option.map_some, List.all_cons, List.all_nil, if_true, if_false, reduceIte, Nat.reduceAdd, Nat.reduceSub, Nat.reduceLT, Nat.reduceLeDiff, Nat.reduceEqDiff, decide_true, decide_false, Bool.and_true, Bool.and_self, Bool.true_and, Bool.not_true, Bool.not_false, ne_eq, not_true_eq_false, not_false_eq_true, Nat.zero_add, Bool.false_eq_true, and_self, true_and, and_true]
        · rw [List.length_append] at h2
          by_cases hb : b < now + pre.length
          · exact hf b h1 hb
          · have : b = now + pre.length := by simp at h2; omega
            rw [this]
            exact hw) (List.range (dry.length + 1)) [] [some (tideD dry), some (.int 1), some (.int now), some (.int k), none, none] ⟨rfl, fun b h1 h2 => by simp at h2; omega, none, rfl⟩
  rcases key with ⟨ρ', e, _, hf, j4, e'⟩ | ⟨r, e, b, hr2, h1, h2, h3⟩
  · subst e'
    rw [List.nil_append, List.length_range] at hf
    refine ⟨.none, ?_, .inl ⟨rfl, hf⟩⟩
    simp -implicitDefEqProofs only [d_stays_open, g_stays_open, xVar_a, xC_a, xBin_a, xUn_a, tOf_a, tTru_a, tNotP_a, tAndP_a, tOrP_a, tyes_a, tno_a, tYesP_a, xNil_a, xCons_a, xTup_a, xLst_a, xAnd_a, xOr_a, xIf_a, xChain_a, oNo_a, oAt_a, xSl_a, xCall_a, xSeq_a, xIt_a, xLc_a, gSet_a, gTupD_a, gsNil_a, gsCons_a, sNop_a, sBrk_a, sCnt_a, sSeq_a, sRet_a, sIf_a, sSet_a, sTgt_a, sAug_a, sApp_a, sExt_a, sPut_a, sPutK_a, pkO_s, sFor_a, sWhile_a, sPar_a, runD_a, b2_s, c2_s, sqO_nx, sqO_rt, sqO_bk, sqO_ct, ifO_t, ifO_f, stO_s, endO_nx, endO_rt, andO_t, andO_f, orO_t, orO_f, chO_s, chP_t, chP_f, slO_s, atO_i, lcO_s, forO_s, gsO_s, nxO_s, tgO_s, paO_s, apO_s, exO_s, plO_s, ptO_s, dB_b, tru_b, tru_n, tru_i, tru_l, tru_t, is_n, isn_n, nn_n, nn_i, nn_b, nn_t, nn_l, add_ii, add'_ii, sub_ii, neg_i, lt_ii, le_ii, gt_ii, ge_ii, ix_l, ix_t, ix_s, at0, at1, at2, sl_l, sl_t, len_l, len_t, len_s, abs_i, int_i, int_b, max_ii, min_ii, tup_s, lst_s, seq_l, seq_t, sum_s, wipe_n, wipe_c, mul_ii, fdiv_ii, mod_ii, add_ll, add_tt, setAll, mkT, mkL, oNot, List.getD_cons_zero, List.getD_cons_succ, List.length_cons, List.length_nil, List.set_cons_zero, List.set_cons_succ, List.map_cons, List.map_nil, List.replicate, List.cons_append, List.nil_append, List.append_nil, Option.bind_some, Option.map_some, List.all_cons, List.all_nil, if_true, if_false, reduceIte, Nat.reduceAdd, Nat.reduceSub, Nat.reduceLT, Nat.reduceLeDiff, Nat.reduceEqDiff, decide_true, decide_false, Bool.and_true, Bool.and_self, Bool.true_and, Bool.not_true, Bool.not_false, ne_eq, not_true_eq_false, not_false_eq_true, Nat.zero_add, Bool.false_eq_true, and_self, true_and, and_true, hlen, hr', e]
  · refine ⟨r, ?_, .inr ⟨b, hr2, h1, h2, h3⟩⟩
    simp -implicitDefEqProofs only [d_stays_open, g_stays_open, xVar_a, xC_a, xBin_a, xUn_a, tOf_a, tTru_a, tNotP_a, tAndP_a, tOrP_a, tyes_a, tno_a, tYesP_a, xNil_a, xCons_a, xTup_a, xLst_a, xAnd_a, xOr_a, xIf_a, xChain_a, oNo_a, oAt_a, xSl_a, xCall_a, xSeq_a, xIt_a, xLc_a, gSet_a, gTupD_a, gsNil_a, gsCons_a, sNop_a, sBrk_a, sCnt_a, sSeq_a, sRet_a, sIf_a, sSet_a, sTgt_a, sAug_a, sApp_a, sExt_a, sPut_a, sPutK_a, pkO_s, sFor_a, sWhile_a, sPar_a, runD_a, b2_s, c2_s, sqO_nx, sqO_rt, sqO_bk, sqO_ct, ifO_t, ifO_f, stO_s, endO_nx, endO_rt, andO_t, andO_f, orO_t, orO_f, chO_s, chP_t, chP_f, slO_s, atO_i, lcO_s, forO_s, gsO_s, nxO_s, tgO_s, paO_s, apO_s, exO_s, plO_s, ptO_s, dB_b, tru_b, tru_n, tru_i, tru_l, tru_t, is_n, isn_n, nn_n, nn_i, nn_b, nn_t, nn_l, add_ii, add'_ii, sub_ii, neg_i, lt_ii, le_ii, gt_ii, ge_ii, ix_l, ix_t, ix_s, at0, at1, at2, sl_l, sl_t, len_l, len_t, len_s, abs_i, int_i, int_b, max_ii, min_ii, tup_s, lst_s, seq_l, seq_t, sum_s, wipe_n, wipe_c, mul_ii, fdiv_ii, mod_ii, add_ll, add_tt, setAll, mkT, mkL, oNot, List.getD_cons_zero, List.getD_cons_succ, List.length_cons, List.length_nil, List.set_cons_zero, List.set_cons_succ, List.map_cons, List.map_nil, List.replicate, List.cons_append, List.nil_append, List.append_nil, Option.bind_some, Option.map_some, List.all_cons, List.all_nil, if_true, if_false, reduceIte, Nat.reduceAdd, Nat.reduceSub, Nat.reduceLT, Nat.reduceLeDiff, Nat.reduceEqDiff, decide_true, decide_false, Bool.and_true, Bool.and_self, Bool.true_and, Bool.not_true, Bool.not_false, ne_eq, not_true_eq_false, not_false_eq_true, Nat.zero_add, Bool.false_eq_true, and_self, true_and, and_true, hlen, hr', e]
end K32

namespace K32
open PySem PySem.Spec PyProof.Rows L2 Pm
theorem coats_walk (dry : List Bool) (k : Nat) (hk : 1 ≤ k) (hk3 : k ≤ 3) (hl : dry.length ≤ 100) (B : List Nat) (hB : Gr dry k 0 B) (x0 x1 x3 x4 x7 x9 x10 x12 x13 x14 x15 : Option D) :
    ∃ now j5, now ≤ dry.length ∧ Gr dry k now [] ∧ forL (gSet 5) l3__law_coats (B.map nI) [x0, x1, some (tideD dry), x3, x4, none, none, x7, some (.int k), x9, x10, some (.int 0), x12, x13, x14, x15, none, none] =
      some (.nx [x0, x1, some (tideD dry), x3, x4, j5, none, x7, some (.int k), x9, x10, some (.int (now : Nat)), x12, x13, x14, x15, none, none]) := by
  obtain ⟨ρ', e, h⟩ := forL_inv (g := gSet 5) (b := l3__law_coats) nI
    (fun pre rest ρ => ∃ (now : Nat) (j5 : Option D), now ≤ dry.length ∧ Gr dry k now rest ∧ ρ = [x0, x1, some (tideD dry), x3, x4, j5, none, x7, some (.int k), x9, x10, some (.int (now : Nat)), x12, x13, x14, x15, none, none]) (fun pre x rest ρ ⟨now, j5, hn, hg, e⟩ => by
      subst e
      obtain ⟨g1, g2, g3, g4⟩ := hg
      have hxk := ((winD_iff _ _ _).mp g2).1
      have hst : d_stays_open [tideD dry, .int 1, .int now, .int k] = some (.int (x : Nat)) := by
        obtain ⟨r, h1, h2⟩ := stays_run dry k now hl hk3 (by omega)
        rw [h1]
        rcases h2 with ⟨_, h2⟩ | ⟨b, h2, h3, h4, h5⟩
        · have := h2 x g1 (by omega)
          rw [tw_in dry k x hxk, g2] at this
          cases this
        · subst h2
          have hbx : b = x := by
            by_cases hlt : b < x
            · have := g3 b h3 hlt
              rw [tw_in dry k b (by omega), this] at h4
              cases h4
            · by_cases hgt : x < b
              · have := h5 x g1 hgt
                rw [tw_in dry k x hxk, g2] at this
                cases this
              · omega
          rw [hbx]
      have hlk := like_int 7 (x : Int)
      have ft : flat (.int (x : Int)) = true := rfl
      have hc : ((x + k : Nat) : Int) = (x : Int) + (k : Int) := by omega
      refine ⟨_, [x0, x1, some (tideD dry), x3, x4, some (nI x), none, x7, some (.int k), x9, x10, some (.int ((x + k : Nat) : Int)), x12, x13, x14, x15, none, none], rfl, .inl ?_, x + k, some (nI x), hxk, g4, rfl⟩
      rw [hc]
      simp -implicitDefEqProofs only [l3__law_coats, xVar_a, xC_a, xBin_a, xUn_a, tOf_a, tTru_a, tNotP_a, tAndP_a, tOrP_a, tyes_a, tno_a, tYesP_a, xNil_a, xCons_a, xTup_a, xLst_a, xAnd_a, xOr_a, xIf_a, xChain_a, oNo_a, oAt_a, xSl_a, xCall_a, xSeq_a, xIt_a, xLc_a, gSet_a, gTupD_a, gsNil_a, gsCons_a, sNop_a, sBrk_a, sCnt_a, sSeq_a, sRet_a, sIf_a, sSet_a, sTgt_a, sAug_a, sApp_a, sExt_a, sPut_a, sPutK_a, pkO_s, sFor_a, sWhile_a, sPar_a, runD_a, b2_s, c2_s, sqO_nx, sqO_rt, sqO_bk, sqO_ct, ifO_t, ifO_f, stO_s, endO_nx, endO_rt, andO_t, andO_f, orO_t, orO_f, chO_s, chP_t, chP_f, slO_s, atO_i, lcO_s, forO_s, gsO_s, nxO_s, tgO_s, paO_s, apO_s, exO_s, plO_s, ptO_s, dB_b, tru_b, tru_n, tru_i, tru_l, tru_t, is_n, isn_n, nn_n, nn_i, nn_b, nn_t, nn_l, add_ii, add'_ii, sub_ii, neg_i, lt_ii, le_ii, gt_ii, ge_ii, ix_l, ix_t, ix_s, at0, at1, at2, sl_l, sl_t, len_l, len_t, len_s, abs_i, int_i, int_b, max_ii, min_ii, tup_s, lst_s, seq_l, seq_t, sum_s, wipe_n, wipe_c, mul_ii, fdiv_ii, mod_ii, add_ll, add_tt, setAll, mkT, mkL, oNot, List.getD_cons_zero, List.getD_cons_succ, List.length_cons, List.length_nil, List.set_cons_zero, List.set_cons_succ, List.map_cons, List.map_nil, List.replicate, List.cons_append, List.nil_append, List.append_nil, Option.bind_some, Option.map_some, List.all_cons, List.all_nil, if_true, if_false, reduceIte, Nat.reduceAdd, Nat.reduceSub, Nat.reduceLT, Nat.reduceLeDiff, Nat.reduceEqDiff, decide_true, decide_false, Bool.and_true, Bool.and_self, Bool.true_and, Bool.not_true, Bool.not_false, ne_eq, not_true_eq_false, not_false_eq_true, Nat.zero_add, Bool.false_eq_true, and_self, true_and, and_true, nI, hst, ft, hlk]) B [] [x0, x1, some (tideD dry), x3, x4, none, none, x7, some (.int k), x9, x10, some (.int 0), x12, x13, x14, x15, none, none] ⟨0, none, by omega, hB, rfl⟩
  obtain ⟨now, j5, hn, hg, e'⟩ := h
  subst e'
  exact ⟨now, j5, hn, hg, e⟩
theorem coats_ok (r : List Int) (hr : r.length = 48) : d__law_coats [.list (r.map PyData.int)] = some (.bool true) := by
  have i7 : atI (r.map PyData.int) 7 = some (.int (r.getD 7 0)) := row_at r 7 (by omega)
  have i8 : atI (r.map PyData.int) 8 = some (.int (r.getD 8 0)) := row_at r 8 (by omega)
  have i9 : atI (r.map PyData.int) 9 = some (.int (r.getD 9 0)) := row_at r 9 (by omega)
  have n14 : (14 : Int) ≠ 0 := by decide
  have n3 : (3 : Int) ≠ 0 := by decide
  have n5 : (5 : Int) ≠ 0 := by decide
  have n4 : (4 : Int) ≠ 0 := by decide
  have q7 := fmod_rng (r.getD 7 0) (m := 14) (by decide)
  have q8 := fmod_rng (r.getD 8 0) (m := 3) (by decide)
  have q9 := fmod_rng (r.getD 9 0) (m := 5) (by decide)
  obtain ⟨m, hm⟩ := nat_of (x := 1 + (r.getD 7 0).fmod 14) (by omega)
  obtain ⟨k, hk⟩ := nat_of (x := 1 + (r.getD 8 0).fmod 3) (by omega)
  obtain ⟨n, hn⟩ := nat_of (x := (r.getD 9 0).fmod 5) (by omega)
  obtain ⟨dry, hdry⟩ : ∃ dry : List Bool, dry = (List.range m).map fun j => decide (0 < (r.getD (10 + j) 0).fmod 4) := ⟨_, rfl⟩
  have hdl : dry.length = m := by rw [hdry]; simp
  have hrm := oR1_nat m (by omega)
  have c1 : lcL (gSet 16) tYesP (xBin oGt (xBin oMod (xCall bInt (xCons (xBin oIx (xVar 0) (xBin oAdd (xC (.int 10)) (xVar 16))) xNil)) (xC (.int 4))) (xC (.int 0))) [some (.list (r.map PyData.int)), none, none, none, none, none, none, some (.int m), some (.int k), none, none, none, none, none, none, none, none, none] ((List.range m).map fun i => PyData.int (i : Nat)) = some (dry.map PyData.bool) := by
    rw [hdry, List.map_map]
    refine lcL_map _ _ _ fun i hi => ?_
    have hi' : i < m := by simpa using hi
    have i10 : atI (r.map PyData.int) (10 + (i : Int)) = some (.int (r.getD (10 + i) 0)) := row_off r hr 10 i (by omega)
    simp -implicitDefEqProofs only [xVar_a, xC_a, xBin_a, xUn_a, tOf_a, tTru_a, tNotP_a, tAndP_a, tOrP_a, tyes_a, tno_a, tYesP_a, xNil_a, xCons_a, xTup_a, xLst_a, xAnd_a, xOr_a, xIf_a, xChain_a, oNo_a, oAt_a, xSl_a, xCall_a, xSeq_a, xIt_a, xLc_a, gSet_a, gTupD_a, gsNil_a, gsCons_a, sNop_a, sBrk_a, sCnt_a, sSeq_a, sRet_a, sIf_a, sSet_a, sTgt_a, sAug_a, sApp_a, sExt_a, sPut_a, sPutK_a, pkO_s, sFor_a, sWhile_a, sPar_a, runD_a, b2_s, c2_s, sqO_nx, sqO_rt, sqO_bk, sqO_ct, ifO_t, ifO_f, stO_s, endO_nx, endO_rt, andO_t, andO_f, orO_t, orO_f, chO_s, chP_t, chP_f, slO_s, atO_i, lcO_s, forO_s, gsO_s, nxO_s, tgO_s, paO_s, apO_s, exO_s, plO_s, ptO_s, dB_b, tru_b, tru_n, tru_i, tru_l, tru_t, is_n, isn_n, nn_n, nn_i, nn_b, nn_t, nn_l, add_ii, add'_ii, sub_ii, neg_i, lt_ii, le_ii, gt_ii, ge_ii, ix_l, ix_t, ix_s, at0, at1, at2, sl_l, sl_t, len_l, len_t, len_s, abs_i, int_i, int_b, max_ii, min_ii, tup_s, lst_s, seq_l, seq_t, sum_s, wipe_n, wipe_c, mul_ii, fdiv_ii, mod_ii, add_ll, add_tt, setAll, mkT, mkL, oNot, List.getD_cons_zero, List.getD_cons_succ, List.length_cons, List.length_nil, List.set_cons_zero, List.set_cons_succ, List.map_cons, List.map_nil, List.replicate, List.cons_append, List.nil_append, List.append_nil, Option.bind_some, Option.map_some, List.all_cons, List.all_nil, if_true, if_false, reduceIte, Nat.reduceAdd, Nat.reduceSub, Nat.reduceLT, Nat.reduceLeDiff, Nat.reduceEqDiff, decide_true, decide_false, Bool.and_true, Bool.and_self, Bool.true_and, Bool.not_true, Bool.not_false, ne_eq, not_true_eq_false, not_false_eq_true, Nat.zero_add, Bool.false_eq_true, and_self, true_and, and_true, i10, mod_ii n4, Function.comp_def]
  have c2 : lcL (gSet 17) tYesP (xCall bInt (xCons (xVar 17) xNil)) [some (.list (r.map PyData.int)), some (.tuple (dry.map PyData.bool)), none, none, none, none, none, some (.int m), some (.int k), none, none, none, none, none, none, none, none, none] (dry.map PyData.bool) = some (dry.map fun t => PyData.int (bI t)) := by
    refine lcL_map _ _ _ fun t ht => ?_
    simp -implicitDefEqProofs only [xVar_a, xC_a, xBin_a, xUn_a, tOf_a, tTru_a, tNotP_a, tAndP_a, tOrP_a, tyes_a, tno_a, tYesP_a, xNil_a, xCons_a, xTup_a, xLst_a, xAnd_a, xOr_a, xIf_a, xChain_a, oNo_a, oAt_a, xSl_a, xCall_a, xSeq_a, xIt_a, xLc_a, gSet_a, gTupD_a, gsNil_a, gsCons_a, sNop_a, sBrk_a, sCnt_a, sSeq_a, sRet_a, sIf_a, sSet_a, sTgt_a, sAug_a, sApp_a, sExt_a, sPut_a, sPutK_a, pkO_s, sFor_a, sWhile_a, sPar_a, runD_a, b2_s, c2_s, sqO_nx, sqO_rt, sqO_bk, sqO_ct, ifO_t, ifO_f, stO_s, endO_nx, endO_rt, andO_t, andO_f, orO_t, orO_f, chO_s, chP_t, chP_f, slO_s, atO_i, lcO_s, forO_s, gsO_s, nxO_s, tgO_s, paO_s, apO_s, exO_s, plO_s, ptO_s, dB_b, tru_b, tru_n, tru_i, tru_l, tru_t, is_n, isn_n, nn_n, nn_i, nn_b, nn_t, nn_l, add_ii, add'_ii, sub_ii, neg_i, lt_ii, le_ii, gt_ii, ge_ii, ix_l, ix_t, ix_s, at0, at1, at2, sl_l, sl_t, len_l, len_t, len_s, abs_i, int_i, int_b, max_ii, min_ii, tup_s, lst_s, seq_l, seq_t, sum_s, wipe_n, wipe_c, mul_ii, fdiv_ii, mod_ii, add_ll, add_tt, setAll, mkT, mkL, oNot, List.getD_cons_zero, List.getD_cons_succ, List.length_cons, List.length_nil, List.set_cons_zero, List.set_cons_succ, List.map_cons, List.map_nil, List.replicate, List.cons_append, List.nil_append, List.append_nil, Option.bind_some, Option.map_some, List.all_cons, List.all_nil, if_true, if_false, reduceIte, Nat.reduceAdd, Nat.reduceSub, Nat.reduceLT, Nat.reduceLeDiff, Nat.reduceEqDiff, decide_true, decide_false, Bool.and_true, Bool.and_self, Bool.true_and, Bool.not_true, Bool.not_false, ne_eq, not_true_eq_false, not_false_eq_true, Nat.zero_add, Bool.false_eq_true, and_self, true_and, and_true, bI]
  have htd : oAdd (.tuple (dry.map fun t => PyData.int (bI t))) (.tuple [.int 0]) = some (tideD dry) := add_tt (by simp; omega)
  obtain ⟨R, hR⟩ : ∃ R, R = runFrom 0 [] dry := ⟨_, rfl⟩
  have hwf := runs_wf dry 0 [] (fun q hq => by cases hq)
  have hRl := runFrom_len dry 0 []
  rw [← hR] at hwf hRl
  rw [List.length_nil] at hRl
  obtain ⟨j3, e1⟩ := law_runs dry (by omega) (some (.list (r.map PyData.int))) (some (tideD dry)) (some (.int m)) (some (.int k)) (some (.int n)) (some (.list [])) (some (.int 0)) (some (.int 0))
  rw [hdl] at e1
  obtain ⟨j14, j15, e2⟩ := law_begins R k (by omega) (by omega) (fun q hq => by have := hwf q hq; omega) (by omega) (some (.list (r.map PyData.int))) (some (.tuple (dry.map PyData.bool))) (some (tideD dry)) j3 (some (.int m)) (some (.int n)) (some (.list (R.map rnD)))
  have hBl := begins_len k R fun q hq => (hwf q hq).1
  have hGr := Gr_begins dry k (by omega)
  rw [← hR] at e1 hGr
  have u1 := dry_runs_eq dry (by omega)
  have u2 := open_runs_eq dry (by omega)
  have u3 := coats_most_eq dry k (by omega) (by omega) (by omega)
  have u4 := coats_by_eq dry k n (by omega) (by omega) (by omega) (by omega) _ hGr
  rw [← hR] at u1 u2 u3
  rw [hdl] at u2
  rw [hBl] at u3 e2
  generalize hB : begins k R = B at *
  have lk1 : d__law_like 8 [.tuple (R.map rnD), .tuple (R.map rnD)] = some (.bool true) := like_tup 7 _ (by rw [List.length_map]; omega) fun x hx => by
    obtain ⟨q, hq, rfl⟩ := List.mem_map.mp hx
    refine like_tup 6 _ (by simp) fun y hy => ?_
    simp at hy
    rcases hy with rfl | rfl <;> exact like_int _ _
  have lk2 := like_int 7 (B.length : Int)
  have lk3 : ∀ l : List Nat, l.length ≤ 16777216 → d__law_like 8 [.tuple (l.map nI), .tuple (l.map nI)] = some (.bool true) := fun l hl => like_tup 7 _ (by rw [List.length_map]; exact hl) fun x hx => by
    obtain ⟨q, hq, rfl⟩ := List.mem_map.mp hx
    exact like_int _ _
  have lk4 := like_none 7
  have ftR : flat (.tuple (R.map rnD)) = true := by
    show flatL (R.map rnD) = true
    clear hRl hwf e1 e2 u1 u2 u3 u4 lk1 hB hR hBl hGr
    induction R with
    | nil => rfl
    | cons q R ih => simp only [List.map_cons, flatL, ih, Bool.and_true]; rfl
  have ftB : ∀ l : List Nat, flat (.tuple (l.map nI)) = true := fun l => by
    show flatL (l.map nI) = true
    induction l with
    | nil => rfl
    | cons q R ih => simp only [List.map_cons, flatL, ih, Bool.and_true]; rfl
  have ftI : flat (.int (B.length : Int)) = true := rfl
  have ftN : flat .none = true := rfl
  have ftT : flat (.bool true) = true := rfl
  have hcut : Pm.cutD (B.map nI) none (some (n : Int)) = (B.take n).map nI := by rw [cut_upto, List.map_take]
  obtain ⟨due, hdue⟩ : ∃ due, due = (if n ≤ B.length then PyData.tuple ((B.take n).map nI) else .none) := ⟨_, rfl⟩
  rw [← hdue] at u4
  have lkd : d__law_like 8 [due, due] = some (.bool true) := by
    rw [hdue]
    split
    · exact lk3 _ (by rw [List.length_take]; omega)
    · exact lk4
  have ftd : flat due = true := by
    rw [hdue]
    split
    · exact ftB _
    · rfl
  obtain ⟨now, j5, hnow, hend, e3⟩ := coats_walk dry k (by omega) (by omega) (by omega) B hGr (some (.list (r.map PyData.int))) (some (.tuple (dry.map PyData.bool))) j3 (some due) (some (.int m)) (some (.int n)) (some (.list (B.map nI))) (some (.int (B.length : Int))) (some (.list (R.map rnD))) j14 j15
  obtain ⟨later, e4, hlater⟩ := stays_run dry k now (by omega) (by omega) (by omega)
  have hlate : flat later = true ∧ ((later = .none) ∨ ∃ b : Nat, later = .int b ∧ (m : Int) - (k : Int) < (b : Int)) := by
    rcases hlater with ⟨h, _⟩ | ⟨b, h, h1, h2, h3⟩
    · subst h; exact ⟨rfl, .inl rfl⟩
    · subst h
      refine ⟨rfl, .inr ⟨b, rfl, ?_⟩⟩
      by_cases hb : b + k ≤ dry.length
      · have := hend b h1
        rw [tw_in dry k b hb, this] at h2
        cases h2
      · omega
  obtain ⟨ftl, hlate⟩ := hlate
  by_cases hnB : n ≤ B.length
  · have hnB' : (n : Int) ≤ (B.length : Int) := by omega
    rw [if_pos hnB] at hdue
    rcases hlate with h | ⟨b, h, hb⟩
    · subst h
      subst hdue
      simp -implicitDefEqProofs only [d__law_coats, g__law_coats, xVar_a, xC_a, xBin_a, xUn_a, tOf_a, tTru_a, tNotP_a, tAndP_a, tOrP_a, tyes_a, tno_a, tYesP_a, xNil_a, xCons_a, xTup_a, xLst_a, xAnd_a, xOr_a, xIf_a, xChain_a, oNo_a, oAt_a, xSl_a, xCall_a, xSeq_a, xIt_a, xLc_a, gSet_a, gTupD_a, gsNil_a, gsCons_a, sNop_a, sBrk_a, sCnt_a, sSeq_a, sRet_a, sIf_a, sSet_a, sTgt_a, sAug_a, sApp_a, sExt_a, sPut_a, sPutK_a, pkO_s, sFor_a, sWhile_a, sPar_a, runD_a, b2_s, c2_s, sqO_nx, sqO_rt, sqO_bk, sqO_ct, ifO_t, ifO_f, stO_s, endO_nx, endO_rt, andO_t, andO_f, orO_t, orO_f, chO_s, chP_t, chP_f, slO_s, atO_i, lcO_s, forO_s, gsO_s, nxO_s, tgO_s, paO_s, apO_s, exO_s, plO_s, ptO_s, dB_b, tru_b, tru_n, tru_i, tru_l, tru_t, is_n, isn_n, nn_n, nn_i, nn_b, nn_t, nn_l, add_ii, add'_ii, sub_ii, neg_i, lt_ii, le_ii, gt_ii, ge_ii, ix_l, ix_t, ix_s, at0, at1, at2, sl_l, sl_t, len_l, len_t, len_s, abs_i, int_i, int_b, max_ii, min_ii, tup_s, lst_s, seq_l, seq_t, sum_s, wipe_n, wipe_c, mul_ii, fdiv_ii, mod_ii, add_ll, add_tt, setAll, mkT, mkL, oNot, List.getD_cons_zero, List.getD_cons_succ, List.length_cons, List.length_nil, List.set_cons_zero, List.set_cons_succ, List.map_cons, List.map_nil, List.replicate, List.cons_append, List.nil_append, List.append_nil, Option.bind_some, Option.map_some, List.all_cons, List.all_nil, if_true, if_false, reduceIte, Nat.reduceAdd, Nat.reduceSub, Nat.reduceLT, Nat.reduceLeDiff, Nat.reduceEqDiff, decide_true, decide_false, Bool.and_true, Bool.and_self, Bool.true_and, Bool.not_true, Bool.not_false, ne_eq, not_true_eq_false, not_false_eq_true, Nat.zero_add, Bool.false_eq_true, and_self, true_and, and_true, i7, i8, i9, mod_ii n14, mod_ii n3, mod_ii n5, hm, hk, hn, hrm, c1, c2, htd, e1, e2, hnB', hcut, u1, u2, u3, u4, ftR, ftI, ftd, ftT, lk1, lk2, lkd, e3, e4, ftl]
    · subst h
      subst hdue
      simp -implicitDefEqProofs only [d__law_coats, g__law_coats, xVar_a, xC_a, xBin_a, xUn_a, tOf_a, tTru_a, tNotP_a, tAndP_a, tOrP_a, tyes_a, tno_a, tYesP_a, xNil_a, xCons_a, xTup_a, xLst_a, xAnd_a, xOr_a, xIf_a, xChain_a, oNo_a, oAt_a, xSl_a, xCall_a, xSeq_a, xIt_a, xLc_a, gSet_a, gTupD_a, gsNil_a, gsCons_a, sNop_a, sBrk_a, sCnt_a, sSeq_a, sRet_a, sIf_a, sSet_a, sTgt_a, sAug_a, sApp_a, sExt_a, sPut_a, sPutK_a, pkO_s, sFor_a, sWhile_a, sPar_a, runD_a, b2_s, c2_s, sqO_nx, sqO_rt, sqO_bk, sqO_ct, ifO_t, ifO_f, stO_s, endO_nx, endO_rt, andO_t, andO_f, orO_t, orO_f, chO_s, chP_t, chP_f, slO_s, atO_i, lcO_s, forO_s, gsO_s, nxO_s, tgO_s, paO_s, apO_s, exO_s, plO_s, ptO_s, dB_b, tru_b, tru_n, tru_i, tru_l, tru_t, is_n, isn_n, nn_n, nn_i, nn_b, nn_t, nn_l, add_ii, add'_ii, sub_ii, neg_i, lt_ii, le_ii, gt_ii, ge_ii, ix_l, ix_t, ix_s, at0, at1, at2, sl_l, sl_t, len_l, len_t, len_s, abs_i, int_i, int_b, max_ii, min_ii, tup_s, lst_s, seq_l, seq_t, sum_s, wipe_n, wipe_c, mul_ii, fdiv_ii, mod_ii, add_ll, add_tt, setAll, mkT, mkL, oNot, List.getD_cons_zero, List.getD_cons_succ, List.length_cons, List.length_nil, List.set_cons_zero, List.set_cons_succ, List.map_cons, List.map_nil, List.replicate, List.cons_append, List.nil_append, List.append_nil, Option.bind_some, Option.map_some, List.all_cons, List.all_nil, if_true, if_false, reduceIte, Nat.reduceAdd, Nat.reduceSub, Nat.reduceLT, Nat.reduceLeDiff, Nat.reduceEqDiff, decide_true, decide_false, Bool.and_true, Bool.and_self, Bool.true_and, Bool.not_true, Bool.not_false, ne_eq, not_true_eq_false, not_false_eq_true, Nat.zero_add, Bool.false_eq_true, and_self, true_and, and_true, i7, i8, i9, mod_ii n14, mod_ii n3, mod_ii n5, hm, hk, hn, hrm, c1, c2, htd, e1, e2, hnB', hcut, u1, u2, u3, u4, ftR, ftI, ftd, ftT, lk1, lk2, lkd, e3, e4, ftl, hb]
  · have hnB' : ¬ (n : Int) ≤ (B.length : Int) := by omega
    rw [if_neg hnB] at hdue
    rcases hlate with h | ⟨b, h, hb⟩
    · subst h
      subst hdue
      simp -implicitDefEqProofs only [d__law_coats, g__law_coats, xVar_a, xC_a, xBin_a, xUn_a, tOf_a, tTru_a, tNotP_a, tAndP_a, tOrP_a, tyes_a, tno_a, tYesP_a, xNil_a, xCons_a, xTup_a, xLst_a, xAnd_a, xOr_a, xIf_a, xChain_a, oNo_a, oAt_a, xSl_a, xCall_a, xSeq_a, xIt_a, xLc_a, gSet_a, gTupD_a, gsNil_a, gsCons_a, sNop_a, sBrk_a, sCnt_a, sSeq_a, sRet_a, sIf_a, sSet_a, sTgt_a, sAug_a, sApp_a, sExt_a, sPut_a, sPutK_a, pkO_s, sFor_a, sWhile_a, sPar_a, runD_a, b2_s, c2_s, sqO_nx, sqO_rt, sqO_bk, sqO_ct, ifO_t, ifO_f, stO_s, endO_nx, endO_rt, andO_t, andO_f, orO_t, orO_f, chO_s, chP_t, chP_f, slO_s, atO_i, lcO_s, forO_s, gsO_s, nxO_s, tgO_s, paO_s, apO_s, exO_s, plO_s, ptO_s, dB_b, tru_b, tru_n, tru_i, tru_l, tru_t, is_n, isn_n, nn_n, nn_i, nn_b, nn_t, nn_l, add_ii, add'_ii, sub_ii, neg_i, lt_ii, le_ii, gt_ii, ge_ii, ix_l, ix_t, ix_s, at0, at1, at2, sl_l, sl_t, len_l, len_t, len_s, abs_i, int_i, int_b, max_ii, min_ii, tup_s, lst_s, seq_l, seq_t, sum_s, wipe_n, wipe_c, mul_ii, fdiv_ii, mod_ii, add_ll, add_tt, setAll, mkT, mkL, oNot, List.getD_cons_zero, List.getD_cons_succ, List.length_cons, List.length_nil, List.set_cons_zero, List.set_cons_succ, List.map_cons, List.map_nil, List.replicate, List.cons_append, List.nil_append, List.append_nil, Option.bind_some, Option.map_some, List.all_cons, List.all_nil, if_true, if_false, reduceIte, Nat.reduceAdd, Nat.reduceSub, Nat.reduceLT, Nat.reduceLeDiff, Nat.reduceEqDiff, decide_true, decide_false, Bool.and_true, Bool.and_self, Bool.true_and, Bool.not_true, Bool.not_false, ne_eq, not_true_eq_false, not_false_eq_true, Nat.zero_add, Bool.false_eq_true, and_self, true_and, and_true, i7, i8, i9, mod_ii n14, mod_ii n3, mod_ii n5, hm, hk, hn, hrm, c1, c2, htd, e1, e2, hnB', u1, u2, u3, u4, ftR, ftI, ftd, ftT, lk1, lk2, lkd, e3, e4, ftl]
    · subst h
      subst hdue
      simp -implicitDefEqProofs only [d__law_coats, g__law_coats, xVar_a, xC_a, xBin_a, xUn_a, tOf_a, tTru_a, tNotP_a, tAndP_a, tOrP_a, tyes_a, tno_a, tYesP_a, xNil_a, xCons_a, xTup_a, xLst_a, xAnd_a, xOr_a, xIf_a, xChain_a, oNo_a, oAt_a, xSl_a, xCall_a, xSeq_a, xIt_a, xLc_a, gSet_a, gTupD_a, gsNil_a, gsCons_a, sNop_a, sBrk_a, sCnt_a, sSeq_a, sRet_a, sIf_a, sSet_a, sTgt_a, sAug_a, sApp_a, sExt_a, sPut_a, sPutK_a, pkO_s, sFor_a, sWhile_a, sPar_a, runD_a, b2_s, c2_s, sqO_nx, sqO_rt, sqO_bk, sqO_ct, ifO_t, ifO_f, stO_s, endO_nx, endO_rt, andO_t, andO_f, orO_t, orO_f, chO_s, chP_t, chP_f, slO_s, atO_i, lcO_s, forO_s, gsO_s, nxO_s, tgO_s, paO_s, apO_s, exO_s, plO_s, ptO_s, dB_b, tru_b, tru_n, tru_i, tru_l, tru_t, is_n, isn_n, nn_n, nn_i, nn_b, nn_t, nn_l, add_ii, add'_ii, sub_ii, neg_i, lt_ii, le_ii, gt_ii, ge_ii, ix_l, ix_t, ix_s, at0, at1, at2, sl_l, sl_t, len_l, len_t, len_s, abs_i, int_i, int_b, max_ii, min_ii, tup_s, lst_s, seq_l, seq_t, sum_s, wipe_n, wipe_c, mul_ii, fdiv_ii, mod_ii, add_ll, add_tt, setAll, mkT, mkL, oNot, List.getD_cons_zero, List.getD_cons_succ, List.length_cons, List.length_nil, List.set_cons_zero, List.set_cons_succ, List.map_cons, List.map_nil, List.replicate, List.cons_append, List.nil_append, List.append_nil, Option.bind_some, Option.map_some, List.all_cons, List.all_nil, if_true, if_false, reduceIte, Nat.reduceAdd, Nat.reduceSub, Nat.reduceLT, Nat.reduceLeDiff, Nat.reduceEqDiff, decide_true, decide_false, Bool.and_true, Bool.and_self, Bool.true_and, Bool.not_true, Bool.not_false, ne_eq, not_true_eq_false, not_false_eq_true, Nat.zero_add, Bool.false_eq_true, and_self, true_and, and_true, i7, i8, i9, mod_ii n14, mod_ii n3, mod_ii n5, hm, hk, hn, hrm, c1, c2, htd, e1, e2, hnB', u1, u2, u3, u4, ftR, ftI, ftd, ftT, lk1, lk2, lkd, e3, e4, ftl, hb]
end K32

namespace K32
open PySem PySem.Spec PyProof.Rows L2 Pm
theorem law_ok (ns : List Int) : d_law [scr (ns.map PyData.int)] = some (.bool true) := by
  obtain ⟨r, hr, e⟩ := row_int ns
  have i0 : atI (r.map PyData.int) 0 = some (.int (r.getD 0 0)) := row_at r 0 (by omega)
  have i1 : atI (r.map PyData.int) 1 = some (.int (r.getD 1 0)) := row_at r 1 (by omega)
  have i2 : atI (r.map PyData.int) 2 = some (.int (r.getD 2 0)) := row_at r 2 (by omega)
  have i3 : atI (r.map PyData.int) 3 = some (.int (r.getD 3 0)) := row_at r 3 (by omega)
  have n6 : (6 : Int) ≠ 0 := by decide
  have n3 : (3 : Int) ≠ 0 := by decide
  have n7 : (7 : Int) ≠ 0 := by decide
  have q0 := fmod_rng (r.getD 0 0) (m := 6) (by decide)
  obtain ⟨b, hb⟩ := nat_of (x := 1 + (r.getD 0 0).fmod 6) (by omega)
  have nb : (b : Int) ≠ 0 := by omega
  have q1 := fmod_rng (r.getD 1 0) (m := (b : Int)) (by omega)
  obtain ⟨a, ha⟩ := nat_of (x := 1 + (r.getD 1 0).fmod b) (by omega)
  have q2 := fmod_rng (r.getD 2 0) (m := 3) (by decide)
  obtain ⟨k, hk⟩ := nat_of (x := 1 + (r.getD 2 0).fmod 3) (by omega)
  have q3 := fmod_rng (r.getD 3 0) (m := 7) (by decide)
  obtain ⟨n, hn⟩ := nat_of (x := (r.getD 3 0).fmod 7) (by omega)
  have u1 := chances_ok a b k n (by omega) (by omega) (by omega) (by omega) (by omega) (by omega)
  have u2 := days_ok (a := (a : Int)) (b := (b : Int)) (k := k) (by omega) (by omega) (by omega) (by omega) (by omega) (by omega) r hr
  have u3 := coats_ok r hr
  have u4 := kept_ok r hr
  have ft : flat (.bool true) = true := rfl
  simp -implicitDefEqProofs only [d_law, g_law, xVar_a, xC_a, xBin_a, xUn_a, tOf_a, tTru_a, tNotP_a, tAndP_a, tOrP_a, tyes_a, tno_a, tYesP_a, xNil_a, xCons_a, xTup_a, xLst_a, xAnd_a, xOr_a, xIf_a, xChain_a, oNo_a, oAt_a, xSl_a, xCall_a, xSeq_a, xIt_a, xLc_a, gSet_a, gTupD_a, gsNil_a, gsCons_a, sNop_a, sBrk_a, sCnt_a, sSeq_a, sRet_a, sIf_a, sSet_a, sTgt_a, sAug_a, sApp_a, sExt_a, sPut_a, sPutK_a, pkO_s, sFor_a, sWhile_a, sPar_a, runD_a, b2_s, c2_s, sqO_nx, sqO_rt, sqO_bk, sqO_ct, ifO_t, ifO_f, stO_s, endO_nx, endO_rt, andO_t, andO_f, orO_t, orO_f, chO_s, chP_t, chP_f, slO_s, atO_i, lcO_s, forO_s, gsO_s, nxO_s, tgO_s, paO_s, apO_s, exO_s, plO_s, ptO_s, dB_b, tru_b, tru_n, tru_i, tru_l, tru_t, is_n, isn_n, nn_n, nn_i, nn_b, nn_t, nn_l, add_ii, add'_ii, sub_ii, neg_i, lt_ii, le_ii, gt_ii, ge_ii, ix_l, ix_t, ix_s, at0, at1, at2, sl_l, sl_t, len_l, len_t, len_s, abs_i, int_i, int_b, max_ii, min_ii, tup_s, lst_s, seq_l, seq_t, sum_s, wipe_n, wipe_c, mul_ii, fdiv_ii, mod_ii, add_ll, add_tt, setAll, mkT, mkL, oNot, List.getD_cons_zero, List.getD_cons_succ, List.length_cons, List.length_nil, List.set_cons_zero, List.set_cons_succ, List.map_cons, List.map_nil, List.replicate, List.cons_append, List.nil_append, List.append_nil, Option.bind_some, Option.map_some, List.all_cons, List.all_nil, if_true, if_false, reduceIte, Nat.reduceAdd, Nat.reduceSub, Nat.reduceLT, Nat.reduceLeDiff, Nat.reduceEqDiff, decide_true, decide_false, Bool.and_true, Bool.and_self, Bool.true_and, Bool.not_true, Bool.not_false, ne_eq, not_true_eq_false, not_false_eq_true, Nat.zero_add, Bool.false_eq_true, and_self, true_and, and_true, e, i0, i1, i2, i3, mod_ii n6, mod_ii n3, mod_ii n7, hb, mod_ii nb, ha, hk, hn, u1, u2, u3, u4, ft]
end K32


theorem PySem.Challenge.cw_dockheld_k32_whole_chances_coats_holds : PySem.Challenge.rw_dockheld_k32_whole_chances_coats.Holds := by
  exact K32.holds_of fun ns _ => K32.law_ok ns

