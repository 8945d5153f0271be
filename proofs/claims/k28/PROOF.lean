import PyProof.Rows.All
import HandS.ForMost
import HandS.Deep
import HandS.TupAny
import HandS.Defaults
import HandS.Wide
import HandS.WideBits
import HandS.TupMul
import HandS.IsInst
import HandS.Flow
import PyProof.Rows.InDataRows
import HandS.Zip
import HandS.Rev
import HandS.RevRange
import KE.GoesEnum
import HandS.Style
import HandS.HeadEnd
import HandS.HeadHook1
import HandS.HeadHook2
import HandS.Conv
import HandS.Head0
import HandS.Head1
import HandS.Head2
import PySem.Challenge.RW_dockheld_k28_whole_soundings_log
set_option Elab.async false
set_option linter.all false
set_option maxRecDepth 100000
set_option maxHeartbeats 0
set_option exponentiation.threshold 3000
/-! Pm: plain data for the values, a simulation of the layer's readings by plain functions over slots. -/
namespace Pm
open PySem PySem.Spec PyProof.Rows L2

abbrev D := PyData
abbrev PEnv := List (Option D)
abbrev Xp := PEnv → Option D

/-- a list of the written part -/
def KL (K : PySem.W.Frag) (a : Addr) (xs : List V) : Prop :=
  ∃ (o : Obj) (its : Array Value) (n : Nat), K.lookup a = some o ∧ o.cls = .type "list" ∧ o.dict = none ∧ o.data = .seq its n ∧ its.size ≤ sizeLine ∧ Vals xs its.toList

def keyD : Key → D
  | .inl i => .int i
  | .inr s => .str s

/-- the script itself -/
def scr (ds : List D) : D := .dict [(.none, .list ds)]

mutual
/-- v stands for d in H; the cells on the way keep off A -/
inductive Rp (K : PySem.W.Frag) (A : Addr → Prop) (H : Hp) : V → D → Prop
  | non : Rp K A H .non .none
  | bl (b : Bool) : Rp K A H (.bl b) (.bool b)
  | int (i : Int) : Rp K A H (.int i) (.int i)
  | str (x : Str) : Rp K A H (.str x) (.str x)
  | lst {a : Addr} {xs : List V} {ds : List D} : H a = some (.lst xs) → ¬ A a → RpL K A H xs ds → Rp K A H (.ref a) (.list ds)
  | scr {a : Addr} {xs : List V} {ds : List D} : Rd H a (.lst xs) → ¬ A a → RpL K A H xs ds → Rp K A H (.ref a) (.dict [(.none, .list ds)])
  | kl {a : Addr} {xs : List V} {ds : List D} : KL K a xs → RpL K A H xs ds → Rp K A H (.ref a) (.dict [(.none, .list ds)])
  | tup {a : Addr} {xs : List V} {ds : List D} : H a = some (.tup xs) → ¬ A a → RpL K A H xs ds → Rp K A H (.ref a) (.tuple ds)
  | dic {a : Addr} {ks : List (Key × V)} {ds : List D} {kd : List (D × D)} : H a = some (.dK ks) → ¬ A a → RpL K A H (ks.map (·.2)) ds → kd = (ks.map fun p => keyD p.1).zip ds → Rp K A H (.ref a) (.dict kd)
inductive RpL (K : PySem.W.Frag) (A : Addr → Prop) (H : Hp) : List V → List D → Prop
  | nil : RpL K A H [] []
  | cons {v : V} {vs : List V} {d : D} {ds : List D} : Rp K A H v d → RpL K A H vs ds → RpL K A H (v :: vs) (d :: ds)
end

/-- the cell at a is d, whatever is said of a itself -/
inductive Tp (K : PySem.W.Frag) (A : Addr → Prop) (H : Hp) : Addr → D → Prop
  | lst {a : Addr} {xs : List V} {ds : List D} : H a = some (.lst xs) → RpL K A H xs ds → Tp K A H a (.list ds)
  | dic {a : Addr} {ks : List (Key × V)} {ds : List D} {kd : List (D × D)} : H a = some (.dK ks) → RpL K A H (ks.map (·.2)) ds → kd = (ks.map fun p => keyD p.1).zip ds → Tp K A H a (.dict kd)

def isMut : D → Bool
  | .list _ => true
  | .dict _ => true
  | _ => false

section
variable {K : PySem.W.Frag} {A A' : Addr → Prop} {H H' : Hp} {v : V} {d : D} {vs : List V} {ds : List D} {a : Addr}

theorem rd_some {xs : HO} (h : Rd H a xs) : ∃ o, H a = some o := by
  rcases h with h | ⟨o, h⟩
  · exact ⟨_, h⟩
  · exact ⟨_, h⟩

mutual
theorem Rp.step (hk : ∀ a o, H a = some o → ¬ A a → H' a = some o) (ha : ∀ a, A' a → A a ∨ H a = none) : ∀ {v : V} {d : D}, Rp K A H v d → Rp K A' H' v d
  | _, _, .non => .non
  | _, _, .bl b => .bl b
  | _, _, .int i => .int i
  | _, _, .str x => .str x
  | _, _, .lst h n r => by
    refine .lst (hk _ _ h n) (fun z => ?_) (RpL.step hk ha r)
    rcases ha _ z with q | q
    · exact n q
    · rw [q] at h; cases h
  | _, _, .scr h n r => by
    refine .scr ?_ (fun z => ?_) (RpL.step hk ha r)
    · rcases h with h | ⟨o, h⟩
      · exact .inl (hk _ _ h n)
      · exact .inr ⟨o, hk _ _ h n⟩
    · obtain ⟨o, e⟩ := rd_some h
      rcases ha _ z with q | q
      · exact n q
      · rw [q] at e; cases e
  | _, _, .kl h r => .kl h (RpL.step hk ha r)
  | _, _, .tup h n r => by
    refine .tup (hk _ _ h n) (fun z => ?_) (RpL.step hk ha r)
    rcases ha _ z with q | q
    · exact n q
    · rw [q] at h; cases h
  | _, _, .dic h n r e => by
    refine .dic (hk _ _ h n) (fun z => ?_) (RpL.step hk ha r) e
    rcases ha _ z with q | q
    · exact n q
    · rw [q] at h; cases h
theorem RpL.step (hk : ∀ a o, H a = some o → ¬ A a → H' a = some o) (ha : ∀ a, A' a → A a ∨ H a = none) : ∀ {vs : List V} {ds : List D}, RpL K A H vs ds → RpL K A' H' vs ds
  | _, _, .nil => .nil
  | _, _, .cons h r => .cons (Rp.step hk ha h) (RpL.step hk ha r)
end
theorem Rp.mono (s : Same H H') (h : Rp K A H v d) : Rp K A H' v d := h.step (fun a o e _ => s a o e) fun _ z => .inl z
theorem RpL.mono (s : Same H H') (h : RpL K A H vs ds) : RpL K A H' vs ds := h.step (fun a o e _ => s a o e) fun _ z => .inl z
theorem Rp.anti (h : Rp K A H v d) (ha : ∀ a, A' a → A a) : Rp K A' H v d := h.step (fun _ _ e _ => e) fun a z => .inl (ha a z)
theorem RpL.anti (h : RpL K A H vs ds) (ha : ∀ a, A' a → A a) : RpL K A' H vs ds := h.step (fun _ _ e _ => e) fun a z => .inl (ha a z)
theorem Tp.step (h : Tp K A H a d) (hk : ∀ a o, H a = some o → ¬ A a → H' a = some o) (ha : ∀ a, A' a → A a ∨ H a = none) (h0 : ∀ o, H a = some o → H' a = some o) : Tp K A' H' a d := by
  cases h with
  | lst e r => exact .lst (h0 _ e) (r.step hk ha)
  | dic e r z => exact .dic (h0 _ e) (r.step hk ha) z
theorem Tp.mono (s : Same H H') (h : Tp K A H a d) : Tp K A H' a d := h.step (fun a o e _ => s a o e) (fun _ z => .inl z) fun o e => s _ o e
theorem Tp.rp (h : Tp K A H a d) (n : ¬ A a) : Rp K A H (.ref a) d := by
  cases h with
  | lst e r => exact .lst e n r
  | dic e r z => exact .dic e n r z
theorem Tp.some (h : Tp K A H a d) : ∃ o, H a = Option.some o ∧ ∀ xs, o ≠ .tup xs := by
  cases h with
  | lst e r => exact ⟨_, e, fun _ h => nomatch h⟩
  | dic e r z => exact ⟨_, e, fun _ h => nomatch h⟩
theorem RpL.length (h : RpL K A H vs ds) : vs.length = ds.length := by
  induction ds generalizing vs with
  | nil => cases h; rfl
  | cons d ds ih => cases h with | cons _ r => simp [ih r]
theorem RpL.app {vs' : List V} {ds' : List D} (h' : RpL K A H vs' ds') : ∀ {vs : List V} {ds : List D}, RpL K A H vs ds → RpL K A H (vs ++ vs') (ds ++ ds')
  | _, _, .nil => h'
  | _, _, .cons h r => .cons h (RpL.app h' r)
theorem RpL.one (h : Rp K A H v d) : RpL K A H [v] [d] := .cons h .nil
theorem RpL.get : ∀ {vs : List V} {ds : List D} {i : Nat} {d : D}, RpL K A H vs ds → ds[i]? = some d → ∃ v, vs[i]? = some v ∧ Rp K A H v d
  | _, _, _, _, .nil, e => by simp at e
  | _, _, 0, _, .cons h r, e => by simp at e; subst e; exact ⟨_, rfl, h⟩
  | _, _, i + 1, _, .cons h r, e => by
    obtain ⟨v, e', q⟩ := RpL.get (i := i) r (by simpa using e)
    exact ⟨v, by simpa using e', q⟩
theorem RpL.getV : ∀ {vs : List V} {ds : List D} {i : Nat} {v : V}, RpL K A H vs ds → vs[i]? = some v → ∃ d, ds[i]? = some d ∧ Rp K A H v d
  | _, _, _, _, .nil, e => by simp at e
  | _, _, 0, _, .cons h r, e => by simp at e; subst e; exact ⟨_, rfl, h⟩
  | _, _, i + 1, _, .cons h r, e => by
    obtain ⟨v, e', q⟩ := RpL.getV (i := i) r (by simpa using e)
    exact ⟨v, by simpa using e', q⟩
theorem RpL.set {v : V} {d : D} (h : Rp K A H v d) : ∀ {vs : List V} {ds : List D} (i : Nat), RpL K A H vs ds → RpL K A H (vs.set i v) (ds.set i d)
  | _, _, _, .nil => .nil
  | _, _, 0, .cons _ r => .cons h r
  | _, _, i + 1, .cons q r => .cons q (RpL.set h i r)
theorem RpL.take : ∀ {vs : List V} {ds : List D} (n : Nat), RpL K A H vs ds → RpL K A H (vs.take n) (ds.take n)
  | _, _, 0, _ => by simpa using RpL.nil
  | _, _, _ + 1, .nil => .nil
  | _, _, n + 1, .cons h r => .cons h (RpL.take n r)
theorem RpL.drop : ∀ {vs : List V} {ds : List D} (n : Nat), RpL K A H vs ds → RpL K A H (vs.drop n) (ds.drop n)
  | _, _, 0, r => r
  | _, _, _ + 1, .nil => .nil
  | _, _, n + 1, .cons _ r => RpL.drop n r
theorem RpL.eraseIdx : ∀ {vs : List V} {ds : List D} (n : Nat), RpL K A H vs ds → RpL K A H (vs.eraseIdx n) (ds.eraseIdx n)
  | _, _, _, .nil => .nil
  | _, _, 0, .cons _ r => r
  | _, _, n + 1, .cons h r => .cons h (RpL.eraseIdx n r)
theorem RpL.reverse : ∀ {vs : List V} {ds : List D}, RpL K A H vs ds → RpL K A H vs.reverse ds.reverse
  | _, _, .nil => .nil
  | _, _, .cons h r => by rw [List.reverse_cons, List.reverse_cons]; exact RpL.app (.one h) (RpL.reverse r)
theorem RpL.rep (h : RpL K A H vs ds) : ∀ n : Nat, RpL K A H (List.replicate n vs).flatten (List.replicate n ds).flatten
  | 0 => .nil
  | n + 1 => by rw [List.replicate_succ, List.replicate_succ]; exact RpL.app (RpL.rep h n) h
end

/-- no tuple -/
def NT (o : HO) : Prop := ∀ xs, o ≠ .tup xs
theorem NT.lst {xs : List V} : NT (.lst xs) := fun _ h => nomatch h
theorem NT.dK {xs : List (Key × V)} : NT (.dK xs) := fun _ h => nomatch h
/-! ### slots -/
def Av (A0 : Addr → Prop) (B : Nat → Option Addr) (a : Addr) : Prop := A0 a ∨ ∃ i, B i = some a

structure Sim (K : PySem.W.Frag) (H0 : Hp) (A0 : Addr → Prop) (G : List (V × D)) (O : List Nat) (σ : L2.St) (H : Hp) (ρ : PEnv) (B : Nat → Option Addr) : Prop where
  same : Same H0 H
  a0 : ∀ a, A0 a → ∃ o, H a = some o ∧ NT o
  len : ρ.length = σ.length
  bo : ∀ i a, B i = some a → i ∈ O
  inj : ∀ i j a, B i = some a → B j = some a → i = j
  fr : ∀ i a, B i = some a → H0 a = none ∧ ¬ A0 a ∧ ∃ o, H a = some o ∧ NT o
  ob : ∀ i d, i ∈ O → ρ[i]? = some (some d) → isMut d = true → ∃ a, B i = some a ∧ σ[i]? = some (some (.ref a)) ∧ Tp K (Av A0 B) H a d
  slot : ∀ i d, ρ[i]? = some (some d) → (∃ a, B i = some a ∧ σ[i]? = some (some (.ref a)) ∧ Tp K (Av A0 B) H a d) ∨ (B i = none ∧ ∃ v, σ[i]? = some (some v) ∧ Rp K (Av A0 B) H v d)
  gs : ∀ p ∈ G, Rp K (Av A0 B) H p.1 p.2

section
variable {K : PySem.W.Frag} {A0 A : Addr → Prop} {H0 H H' : Hp} {G : List (V × D)} {O O' : List Nat} {σ : L2.St} {ρ : PEnv} {B : Nat → Option Addr} {v : V} {d : D}
theorem Sim.tr (S : Sim K H0 A0 G O σ H ρ B) : ∀ a, Av A0 B a → ∃ o, H a = some o ∧ NT o := fun a h => by
  rcases h with h | ⟨i, h⟩
  · exact S.a0 a h
  · exact (S.fr i a h).2.2
theorem Sim.mono (S : Sim K H0 A0 G O σ H ρ B) (s : Same H H') : Sim K H0 A0 G O σ H' ρ B where
  same := S.same.trans s
  a0 := fun a h => let ⟨o, e, n⟩ := S.a0 a h; ⟨o, s _ _ e, n⟩
  len := S.len
  bo := S.bo
  inj := S.inj
  fr := fun i a h => let ⟨h1, h2, o, e, n⟩ := S.fr i a h; ⟨h1, h2, o, s _ _ e, n⟩
  ob := fun i d hi h m => let ⟨a, h1, h2, h3⟩ := S.ob i d hi h m; ⟨a, h1, h2, h3.mono s⟩
  slot := fun i d h => by
    rcases S.slot i d h with ⟨a, h1, h2, h3⟩ | ⟨h1, v, h2, h3⟩
    · exact .inl ⟨a, h1, h2, h3.mono s⟩
    · exact .inr ⟨h1, v, h2, h3.mono s⟩
  gs := fun p hp => (S.gs p hp).mono s
/-- a is not one of the tracked cells of A -/
theorem Sim.new (S : Sim K H0 A0 G O σ H ρ B) {a : Addr} (h : H a = none) : ¬ Av A0 B a := fun z => by
  obtain ⟨o, e, _⟩ := S.tr a z
  rw [h] at e; cases e
/-- fewer own slots -/
theorem Sim.weak (S : Sim K H0 A0 G O σ H ρ B) (h : ∀ i ∈ O', i ∈ O) : ∃ B', Sim K H0 A0 G O' σ H ρ B' := by
  let B' : Nat → Option Addr := fun i => if i ∈ O' then B i else none
  have sub : ∀ i a, B' i = some a → B i = some a ∧ i ∈ O' := fun i a e => by
    by_cases hi : i ∈ O'
    · exact ⟨by simpa [B', hi] using e, hi⟩
    · simp [B', hi] at e
  have an : ∀ a, Av A0 B' a → Av A0 B a := fun a z => by
    rcases z with z | ⟨i, z⟩
    · exact .inl z
    · exact .inr ⟨i, (sub i a z).1⟩
  have ans : ∀ a, Av A0 B' a → Av A0 B a ∨ H a = none := fun a z => .inl (an a z)
  refine ⟨B', ⟨S.same, S.a0, S.len, fun i a e => (sub i a e).2, fun i j a e e' => S.inj i j a (sub i a e).1 (sub j a e').1, fun i a e => S.fr i a (sub i a e).1, fun i d hi e m => ?_, fun i d e => ?_, fun p hp => (S.gs p hp).anti an⟩⟩
  · obtain ⟨a, h1, h2, h3⟩ := S.ob i d (h i hi) e m
    exact ⟨a, by simp [B', hi, h1], h2, h3.step (fun _ _ q _ => q) ans fun _ q => q⟩
  · rcases S.slot i d e with ⟨a, h1, h2, h3⟩ | ⟨h1, v, h2, h3⟩
    · by_cases hi : i ∈ O'
      · exact .inl ⟨a, by simp [B', hi, h1], h2, h3.step (fun _ _ q _ => q) ans fun _ q => q⟩
      · refine .inr ⟨by simp [B', hi], _, h2, (h3.step (fun _ _ q _ => q) ans fun _ q => q).rp fun z => ?_⟩
        rcases z with z | ⟨j, z⟩
        · exact (S.fr i a h1).2.1 z
        · obtain ⟨z1, z2⟩ := sub j a z
          have := S.inj i j a h1 z1
          subst this
          exact hi z2
    · refine .inr ⟨?_, v, h2, h3.anti an⟩
      by_cases hi : i ∈ O' <;> simp [B', hi, h1]
/-- the slots ts are nobody's own -/
def restr (ts : List Nat) (B : Nat → Option Addr) : Nat → Option Addr := fun j => if ts.contains j then none else B j
theorem restr_one (i j : Nat) (B : Nat → Option Addr) : restr [i] B j = if j = i then none else B j := by
  by_cases h : j = i
  · simp [restr, h]
  · have : ([i].contains j) = false := by simp [h]
    simp [restr, this, h]
theorem restr_sub {ts : List Nat} {B : Nat → Option Addr} {j : Nat} {a : Addr} (h : restr ts B j = some a) : B j = some a := by
  unfold restr at h
  split at h
  · cases h
  · exact h
theorem restr_av {ts : List Nat} {B : Nat → Option Addr} {A0 : Addr → Prop} {a : Addr} (h : Av A0 (restr ts B) a) : Av A0 B a := by
  rcases h with h | ⟨i, h⟩
  · exact .inl h
  · exact .inr ⟨i, restr_sub h⟩
theorem restr_app (ts us : List Nat) (B : Nat → Option Addr) : restr us (restr ts B) = restr (ts ++ us) B := by
  funext j
  unfold restr
  by_cases h1 : us.contains j <;> by_cases h2 : ts.contains j <;> simp_all
theorem restr_nil (B : Nat → Option Addr) : restr [] B = B := by
  funext j
  simp [restr]
/-- a slot takes a value that is not one's own -/
theorem Sim.setS (S : Sim K H0 A0 G O σ H ρ B) {i : Nat} (r : Rp K (Av A0 B) H v d) (hi : i < ρ.length) : Sim K H0 A0 G (O.filter (· != i)) (σ.set i (some v)) H (ρ.set i (some d)) (restr [i] B) := by
  have sub : ∀ j a, restr [i] B j = some a → B j = some a ∧ j ≠ i := fun j a e => by
    rw [restr_one] at e
    by_cases hj : j = i
    · simp [hj] at e
    · exact ⟨by simpa [hj] using e, hj⟩
  have an : ∀ a, Av A0 (restr [i] B) a → Av A0 B a := fun a z => restr_av z
  have ans : ∀ a, Av A0 (restr [i] B) a → Av A0 B a ∨ H a = none := fun a z => .inl (an a z)
  have hiσ : i < σ.length := by rw [← S.len]; exact hi
  refine ⟨S.same, S.a0, by simp [S.len], fun j a e => ?_, fun j k a e e' => S.inj j k a (sub j a e).1 (sub k a e').1, fun j a e => S.fr j a (sub j a e).1, fun j d' hj e m => ?_, fun j d' e => ?_, fun p hp => (S.gs p hp).anti an⟩
  · exact List.mem_filter.mpr ⟨S.bo j a (sub j a e).1, by simp [(sub j a e).2]⟩
  · obtain ⟨hj1, hj2⟩ := List.mem_filter.mp hj
    have hne : j ≠ i := by simpa using hj2
    rw [List.getElem?_set_ne (Ne.symm hne)] at e
    obtain ⟨a, h1, h2, h3⟩ := S.ob j d' hj1 e m
    exact ⟨a, by rw [restr_one, if_neg hne, h1], by rw [List.getElem?_set_ne (Ne.symm hne)]; exact h2, h3.step (fun _ _ q _ => q) ans fun _ q => q⟩
  · by_cases hne : j = i
    · subst hne
      rw [List.getElem?_set_self hi] at e
      cases e
      exact .inr ⟨by rw [restr_one, if_pos rfl], v, by rw [List.getElem?_set_self hiσ], r.anti an⟩
    · rw [List.getElem?_set_ne (Ne.symm hne)] at e
      rw [List.getElem?_set_ne (Ne.symm hne)]
      rcases S.slot j d' e with ⟨a, h1, h2, h3⟩ | ⟨h1, v, h2, h3⟩
      · exact .inl ⟨a, by rw [restr_one, if_neg hne, h1], h2, h3.step (fun _ _ q _ => q) ans fun _ q => q⟩
      · exact .inr ⟨by rw [restr_one, if_neg hne, h1], v, h2, h3.anti an⟩
/-- a slot takes a new cell as its own -/
theorem Sim.setF (S : Sim K H0 A0 G O σ H ρ B) (s : Same H H') {i : Nat} {a : Addr} (hn : H a = none) (r : Tp K (fun b => Av A0 B b ∨ b = a) H' a d) (hi : i < ρ.length) : ∃ B', Sim K H0 A0 G (i :: O) (σ.set i (some (.ref a))) H' (ρ.set i (some d)) B' := by
  let B' : Nat → Option Addr := fun j => if j = i then some a else B j
  have sub : ∀ j b, B' j = some b → (j = i ∧ b = a) ∨ (j ≠ i ∧ B j = some b) := fun j b e => by
    by_cases hj : j = i
    · simp [B', hj] at e; exact .inl ⟨hj, e.symm⟩
    · exact .inr ⟨hj, by simpa [B', hj] using e⟩
  have an : ∀ b, Av A0 B' b → Av A0 B b ∨ b = a := fun b z => by
    rcases z with z | ⟨j, z⟩
    · exact .inl (.inl z)
    · rcases sub j b z with ⟨_, q⟩ | ⟨_, q⟩
      · exact .inr q
      · exact .inl (.inr ⟨j, q⟩)
  have ans : ∀ b, Av A0 B' b → Av A0 B b ∨ H b = none := fun b z => by
    rcases an b z with z | z
    · exact .inl z
    · exact .inr (by rw [z]; exact hn)
  have kp : ∀ b o, H b = some o → ¬ Av A0 B b → H' b = some o := fun b o e _ => s b o e
  have hiσ : i < σ.length := by rw [← S.len]; exact hi
  have na : ¬ A0 a := fun z => by
    obtain ⟨o, e, _⟩ := S.a0 a z
    rw [hn] at e; cases e
  have nb : ∀ j, B j ≠ some a := fun j z => by
    obtain ⟨_, _, o, e, _⟩ := S.fr j a z
    rw [hn] at e; cases e
  refine ⟨B', ⟨S.same.trans s, fun b z => let ⟨o, e, n⟩ := S.a0 b z; ⟨o, s _ _ e, n⟩, by simp [S.len], fun j b e => ?_, fun j k b e e' => ?_, fun j b e => ?_, fun j d' hj e m => ?_, fun j d' e => ?_, fun p hp => (S.gs p hp).step kp ans⟩⟩
  · rcases sub j b e with ⟨q, _⟩ | ⟨_, q⟩
    · rw [q]; exact List.mem_cons_self
    · exact List.mem_cons_of_mem _ (S.bo j b q)
  · rcases sub j b e with ⟨q, q'⟩ | ⟨q, q'⟩
    · rcases sub k b e' with ⟨p, p'⟩ | ⟨p, p'⟩
      · rw [q, p]
      · rw [q'] at p'; exact absurd p' (nb k)
    · rcases sub k b e' with ⟨p, p'⟩ | ⟨p, p'⟩
      · rw [p'] at q'; exact absurd q' (nb j)
      · exact S.inj j k b q' p'
  · rcases sub j b e with ⟨q, q'⟩ | ⟨q, q'⟩
    · rw [q']
      refine ⟨?_, na, r.some⟩
      exact S.same.free hn
    · obtain ⟨h1, h2, o, h3, h4⟩ := S.fr j b q'
      exact ⟨h1, h2, o, s _ _ h3, h4⟩
  · by_cases hne : j = i
    · subst hne
      rw [List.getElem?_set_self hi] at e
      cases e
      exact ⟨a, by simp [B'], by rw [List.getElem?_set_self hiσ], r.step (fun _ _ q _ => q) (fun b z => .inl (an b z)) fun _ q => q⟩
    · rw [List.getElem?_set_ne (Ne.symm hne)] at e
      rw [List.getElem?_set_ne (Ne.symm hne)]
      rcases List.mem_cons.mp hj with hj | hj
      · exact absurd hj hne
      obtain ⟨b, h1, h2, h3⟩ := S.ob j d' hj e m
      exact ⟨b, by simp [B', hne, h1], h2, h3.step kp ans fun o q => s _ _ q⟩
  · by_cases hne : j = i
    · subst hne
      rw [List.getElem?_set_self hi] at e
      cases e
      exact .inl ⟨a, by simp [B'], by rw [List.getElem?_set_self hiσ], r.step (fun _ _ q _ => q) (fun b z => .inl (an b z)) fun _ q => q⟩
    · rw [List.getElem?_set_ne (Ne.symm hne)] at e
      rw [List.getElem?_set_ne (Ne.symm hne)]
      rcases S.slot j d' e with ⟨b, h1, h2, h3⟩ | ⟨h1, v, h2, h3⟩
      · exact .inl ⟨b, by simp [B', hne, h1], h2, h3.step kp ans fun o q => s _ _ q⟩
      · exact .inr ⟨by simp [B', hne, h1], v, h2, h3.step kp ans⟩
/-- an own cell is written -/
theorem Sim.write (S : Sim K H0 A0 G O σ H ρ B) {i : Nat} {a : Addr} {o : HO} (hb : B i = some a) (hs : σ[i]? = some (some (.ref a))) (r : Tp K (Av A0 B) (upd H a o) a d) (hi : i < ρ.length) : Sim K H0 A0 G O σ (upd H a o) (ρ.set i (some d)) B := by
  obtain ⟨f0, f1, o1, f2, f3⟩ := S.fr i a hb
  have nt : NT o := by
    obtain ⟨o', e, n⟩ := r.some
    rw [upd_same] at e
    cases e
    exact n
  have av : Av A0 B a := .inr ⟨i, hb⟩
  have kp : ∀ b q, H b = some q → ¬ Av A0 B b → upd H a o b = some q := fun b q e n => by
    rw [upd_ne (fun z => n (by rw [z]; exact av))]; exact e
  have kn : ∀ b q, H b = some q → b ≠ a → upd H a o b = some q := fun b q e n => by
    rw [upd_ne n]; exact e
  have ans : ∀ b, Av A0 B b → Av A0 B b ∨ H b = none := fun b z => .inl z
  have there : ∀ b, (∃ q, H b = some q ∧ NT q) → ∃ q, upd H a o b = some q ∧ NT q := fun b ⟨q, e, n⟩ => by
    by_cases hb : b = a
    · subst hb; exact ⟨o, upd_same, nt⟩
    · exact ⟨q, kn b q e hb, n⟩
  refine ⟨fun b q e => ?_, fun b z => there b (S.a0 b z), by simp [S.len], S.bo, S.inj, fun j b e => ?_, fun j d' hj e m => ?_, fun j d' e => ?_, fun p hp => (S.gs p hp).step kp ans⟩
  · exact kn b q (S.same b q e) (fun z => by rw [z, f0] at e; cases e)
  · obtain ⟨h1, h2, h3⟩ := S.fr j b e
    exact ⟨h1, h2, there b h3⟩
  · by_cases hne : j = i
    · subst hne
      rw [List.getElem?_set_self hi] at e
      cases e
      exact ⟨a, hb, hs, r⟩
    · rw [List.getElem?_set_ne (Ne.symm hne)] at e
      obtain ⟨b, h1, h2, h3⟩ := S.ob j d' hj e m
      refine ⟨b, h1, h2, h3.step kp ans fun q z => kn b q z fun w => hne ?_⟩
      rw [w] at h1
      exact S.inj j i a h1 hb
  · by_cases hne : j = i
    · subst hne
      rw [List.getElem?_set_self hi] at e
      cases e
      exact .inl ⟨a, hb, hs, r⟩
    · rw [List.getElem?_set_ne (Ne.symm hne)] at e
      rcases S.slot j d' e with ⟨b, h1, h2, h3⟩ | ⟨h1, v, h2, h3⟩
      · refine .inl ⟨b, h1, h2, h3.step kp ans fun q z => kn b q z fun w => hne ?_⟩
        rw [w] at h1
        exact S.inj j i a h1 hb
      · exact .inr ⟨h1, v, h2, h3.step kp ans⟩
/-- one more cell that is kept off (a comprehension's list) -/
theorem Sim.guard (S : Sim K H0 A0 G O σ H ρ B) {a : Addr} (hn : H a = none) (s : Same H H') (ht : ∃ o, H' a = some o ∧ NT o) : Sim K H0 (fun b => A0 b ∨ b = a) G O σ H' ρ B := by
  have kp : ∀ b o, H b = some o → ¬ Av A0 B b → H' b = some o := fun b o e _ => s b o e
  have ans : ∀ b, Av (fun b => A0 b ∨ b = a) B b → Av A0 B b ∨ H b = none := fun b z => by
    rcases z with (z | z) | z
    · exact .inl (.inl z)
    · exact .inr (by rw [z]; exact hn)
    · exact .inl (.inr z)
  refine ⟨S.same.trans s, fun b z => ?_, S.len, S.bo, S.inj, fun i b e => ?_, fun i d hi e m => ?_, fun i d e => ?_, fun p hp => (S.gs p hp).step kp ans⟩
  · rcases z with z | z
    · obtain ⟨o, e, n⟩ := S.a0 b z
      exact ⟨o, s _ _ e, n⟩
    · rw [z]; exact ht
  · obtain ⟨h1, h2, o, h3, h4⟩ := S.fr i b e
    refine ⟨h1, fun z => ?_, o, s _ _ h3, h4⟩
    rcases z with z | z
    · exact h2 z
    · rw [z, hn] at h3; cases h3
  · obtain ⟨b, h1, h2, h3⟩ := S.ob i d hi e m
    exact ⟨b, h1, h2, h3.step kp ans fun o q => s _ _ q⟩
  · rcases S.slot i d e with ⟨b, h1, h2, h3⟩ | ⟨h1, v, h2, h3⟩
    · exact .inl ⟨b, h1, h2, h3.step kp ans fun o q => s _ _ q⟩
    · exact .inr ⟨h1, v, h2, h3.step kp ans⟩
/-- one more ghost -/
theorem Sim.ghost (S : Sim K H0 A0 G O σ H ρ B) {G' : List (V × D)} (h : ∀ p ∈ G', Rp K (Av A0 B) H p.1 p.2) : Sim K H0 A0 (G' ++ G) O σ H ρ B :=
  ⟨S.same, S.a0, S.len, S.bo, S.inj, S.fr, S.ob, S.slot, fun p hp => (List.mem_append.mp hp).elim (h p) (S.gs p)⟩
theorem Sim.unghost {G' : List (V × D)} (S : Sim K H0 A0 (G' ++ G) O σ H ρ B) : Sim K H0 A0 G O σ H ρ B :=
  ⟨S.same, S.a0, S.len, S.bo, S.inj, S.fr, S.ob, S.slot, fun p hp => S.gs p (List.mem_append_right _ hp)⟩
/-- a slot is forgotten -/
theorem Sim.drop (S : Sim K H0 A0 G O σ H ρ B) (i : Nat) (hO : i ∉ O) : Sim K H0 A0 G O (σ.set i none) H (ρ.set i none) B := by
  have nb : ∀ j a, B j = some a → j ≠ i := fun j a e z => hO (z ▸ S.bo j a e)
  have ne : ∀ j d, (ρ.set i none)[j]? = some (some d) → j ≠ i ∧ ρ[j]? = some (some d) := fun j d e => by
    by_cases hj : j = i
    · subst hj
      by_cases hl : j < ρ.length
      · rw [List.getElem?_set_self hl] at e; cases e
      · rw [List.getElem?_eq_none (by simpa using hl)] at e; cases e
    · rw [List.getElem?_set_ne (Ne.symm hj)] at e
      exact ⟨hj, e⟩
  refine ⟨S.same, S.a0, by simp [S.len], S.bo, S.inj, S.fr, fun j d hj e m => ?_, fun j d e => ?_, S.gs⟩
  · obtain ⟨h, e⟩ := ne j d e
    rw [List.getElem?_set_ne (Ne.symm h)]
    exact S.ob j d hj e m
  · obtain ⟨h, e⟩ := ne j d e
    rw [List.getElem?_set_ne (Ne.symm h)]
    exact S.slot j d e
end
end Pm

namespace Pm
open PySem PySem.Spec PyProof.Rows L2

/-- weak, strong, fresh -/
inductive Md where | w | s | f
  deriving DecidableEq

def WRp (K : PySem.W.Frag) (A : Addr → Prop) (H : Hp) (v : V) (d : D) : Prop := Rp K A H v d ∨ ∃ a, v = V.ref a ∧ Tp K A H a d
def Res (K : PySem.W.Frag) (A : Addr → Prop) (He H' : Hp) : Md → V → D → Prop
  | .w, v, d => WRp K A H' v d
  | .s, v, d => Rp K A H' v d
  | .f, v, d => (∃ a, v = V.ref a ∧ He a = none ∧ Tp K (fun b => A b ∨ b = a) H' a d) ∨ (Rp K A H' v d ∧ isMut d = false)
/-- all that is kept off is tracked -/
def Tr (A : Addr → Prop) (H : Hp) : Prop := ∀ a, A a → ∃ o, H a = some o ∧ NT o

section
variable {K : PySem.W.Frag} {A A' : Addr → Prop} {H He H' H'' : Hp} {v : V} {d : D} {m : Md}
theorem Tr.mono (t : Tr A H) (s : Same H H') : Tr A H' := fun a h => let ⟨o, e, n⟩ := t a h; ⟨o, s _ _ e, n⟩
theorem Tr.no (t : Tr A H) {a : Addr} (h : H a = none) : ¬ A a := fun z => by
  obtain ⟨o, e, _⟩ := t a z
  rw [h] at e; cases e
theorem WRp.mono (s : Same H H') (h : WRp K A H v d) : WRp K A H' v d := by
  rcases h with h | ⟨a, e, h⟩
  · exact .inl (h.mono s)
  · exact .inr ⟨a, e, h.mono s⟩
theorem Res.mono (s : Same H' H'') (h : Res K A He H' m v d) : Res K A He H'' m v d := by
  cases m with
  | w => exact WRp.mono s h
  | s => exact Rp.mono s h
  | f =>
    rcases h with ⟨a, e, n, h⟩ | ⟨h, n⟩
    · exact .inl ⟨a, e, n, h.mono s⟩
    · exact .inr ⟨h.mono s, n⟩
theorem Res.back (s : Same He H) (h : Res K A H H' m v d) : Res K A He H' m v d := by
  cases m with
  | w => exact h
  | s => exact h
  | f =>
    rcases h with ⟨a, e, n, h⟩ | h
    · exact .inl ⟨a, e, s.free n, h⟩
    · exact .inr h
theorem Res.toW (h : Res K A He H' m v d) : WRp K A H' v d := by
  cases m with
  | w => exact h
  | s => exact .inl h
  | f =>
    rcases h with ⟨a, e, n, h⟩ | h
    · exact .inr ⟨a, e, h.step (fun _ _ q _ => q) (fun _ z => .inl (.inl z)) fun _ q => q⟩
    · exact .inl h.1
theorem Res.toS (t : Tr A He) (hm : m ≠ .w) (h : Res K A He H' m v d) : Rp K A H' v d := by
  cases m with
  | w => exact absurd rfl hm
  | s => exact h
  | f =>
    rcases h with ⟨a, e, n, h⟩ | h
    · subst e
      exact (h.step (fun _ _ q _ => q) (fun _ z => .inl (.inl z)) fun _ q => q : Tp K A H' a d).rp (t.no n)
    · exact h.1
/-- a value without a cell of its own to be written -/
theorem Res.flat (h : Rp K A H' v d) (n : isMut d = false) : Res K A He H' m v d := by
  cases m with
  | w => exact .inl h
  | s => exact h
  | f => exact .inr ⟨h, n⟩
theorem Res.int {i : Int} : Res K A He H' m (.int i) (.int i) := Res.flat (.int i) rfl
theorem Res.bl {b : Bool} : Res K A He H' m (.bl b) (.bool b) := Res.flat (.bl b) rfl
theorem Res.non : Res K A He H' m .non .none := Res.flat .non rfl
theorem Res.str {b : Str} : Res K A He H' m (.str b) (.str b) := Res.flat (.str b) rfl
/-- a new list, a new tuple -/
theorem Res.newL {p : Addr} {vs : List V} {ds : List D} (t : Tr A H) (hn : H p = none) (r : RpL K A H vs ds) (s : Same He H) : Res K A He (upd H p (.lst vs)) .f (.ref p) (.list ds) := by
  refine .inl ⟨p, rfl, s.free hn, .lst upd_same ?_⟩
  refine r.step (fun a o e _ => ?_) fun a z => ?_
  · rw [upd_ne (ne_of_none e hn)]; exact e
  · rcases z with z | z
    · exact .inl z
    · exact .inr (by rw [z]; exact hn)
theorem same_upd {p : Addr} {o : HO} (h : H p = none) : Same H (upd H p o) := fun b x e => by
  rw [upd_ne (ne_of_none e h)]; exact e
theorem Rp.newT {p : Addr} {vs : List V} {ds : List D} (t : Tr A H) (hn : H p = none) (r : RpL K A H vs ds) : Rp K A (upd H p (.tup vs)) (.ref p) (.tuple ds) :=
  .tup upd_same (t.no hn) (r.mono (same_upd hn))
theorem WRp.int {i : Int} (h : WRp K A H v (.int i)) : v = .int i := by
  rcases h with h | ⟨a, e, h⟩
  · cases h; rfl
  · cases h
theorem WRp.bl {i : Bool} (h : WRp K A H v (.bool i)) : v = .bl i := by
  rcases h with h | ⟨a, e, h⟩
  · cases h; rfl
  · cases h
theorem WRp.non (h : WRp K A H v .none) : v = .non := by
  rcases h with h | ⟨a, e, h⟩
  · cases h; rfl
  · cases h
theorem WRp.str {i : Str} (h : WRp K A H v (.str i)) : v = .str i := by
  rcases h with h | ⟨a, e, h⟩
  · cases h; rfl
  · cases h
theorem WRp.lst {ds : List D} (h : WRp K A H v (.list ds)) : ∃ a xs, v = .ref a ∧ H a = some (.lst xs) ∧ RpL K A H xs ds := by
  rcases h with h | ⟨a, e, h⟩
  · cases h with
    | lst h n r => exact ⟨_, _, rfl, h, r⟩
  · cases h with
    | lst h r => exact ⟨_, _, e, h, r⟩
theorem WRp.tup {ds : List D} (h : WRp K A H v (.tuple ds)) : ∃ a xs, v = .ref a ∧ H a = some (.tup xs) ∧ ¬ A a ∧ RpL K A H xs ds := by
  rcases h with h | ⟨a, e, h⟩
  · cases h with
    | tup h n r => exact ⟨_, _, rfl, h, n, r⟩
  · cases h
theorem WRp.scr {ds : List D} (h : WRp K A H v (.dict [(.none, .list ds)])) : ∃ a xs, v = .ref a ∧ SqL K H a xs ∧ RpL K A H xs ds := by
  rcases h with h | ⟨a, e, h⟩
  · cases h with
    | scr h n r => exact ⟨_, _, rfl, .inl h, r⟩
    | kl h r => exact ⟨_, _, rfl, .inr h, r⟩
    | dic h n r e =>
      rename_i ks ds'
      cases ks with
      | nil => simp at e
      | cons p ks =>
        cases ds' with
        | nil => simp at e
        | cons d' ds' =>
          simp only [List.map_cons, List.zip_cons_cons, List.cons.injEq, Prod.mk.injEq] at e
          obtain ⟨⟨e, _⟩, _⟩ := e
          obtain ⟨k, _⟩ := p
          cases k <;> cases e
  · cases h with
    | dic h r e =>
      rename_i ks ds'
      cases ks with
      | nil => simp at e
      | cons p ks =>
        cases ds' with
        | nil => simp at e
        | cons d' ds' =>
          simp only [List.map_cons, List.zip_cons_cons, List.cons.injEq, Prod.mk.injEq] at e
          obtain ⟨⟨e, _⟩, _⟩ := e
          obtain ⟨k, _⟩ := p
          cases k <;> cases e
end

/-! ### judgements -/
def simT (K : PySem.W.Frag) (O : List Nat) (m : Md) (f : Xp) : TE := fun σ H Q => ∃ H0 A0 G ρ B d, Sim K H0 A0 G O σ H ρ B ∧ f ρ = some d ∧ ∀ v H', Same H H' → Res K (Av A0 B) H H' m v d → Q v H'
structure SE (X : Cx) (O : List Nat) (m : Md) (e : Expr) (f : Xp) : Prop where
  pe : PE X e (simT X.K O m f)
def simTT (K : PySem.W.Frag) (O : List Nat) (f : PEnv → Option Bool) : TT := fun σ H Q => ∃ H0 A0 G ρ B b, Sim K H0 A0 G O σ H ρ B ∧ f ρ = some b ∧ ∀ H', Same H H' → Q b H'
structure ST (X : Cx) (O : List Nat) (e : Expr) (f : PEnv → Option Bool) : Prop where
  pt : PT X e (simTT X.K O f)
def ResL (K : PySem.W.Frag) (A : Addr → Prop) (H : Hp) (strong : Bool) (vs : List V) (ds : List D) : Prop := if strong then RpL K A H vs ds else Paired (WRp K A H) vs ds
def simA (K : PySem.W.Frag) (O : List Nat) (strong : Bool) (f : PEnv → Option (List D)) : TA := fun σ H Q => ∃ H0 A0 G ρ B ds, Sim K H0 A0 G O σ H ρ B ∧ f ρ = some ds ∧ ∀ vs H', Same H H' → ResL K (Av A0 B) H' strong vs ds → Q vs H'
structure SA (X : Cx) (O : List Nat) (strong : Bool) (es : List Expr) (f : PEnv → Option (List D)) : Prop where
  pa : PA X es (simA X.K O strong f)

theorem pe_imp {X : Cx} {e : Expr} {t t' : TE} (h : PE X e t) (hi : ∀ σ H Q, t' σ H Q → t σ H Q) : PE X e t' := ⟨fun pins s σ H Q I q => h.run pins s σ H Q I (hi _ _ _ q)⟩
theorem pt_imp {X : Cx} {e : Expr} {t t' : TT} (h : PT X e t) (hi : ∀ σ H Q, t' σ H Q → t σ H Q) : PT X e t' := ⟨fun pins s σ H Q I q => h.run pins s σ H Q I (hi _ _ _ q)⟩
theorem pa_imp {X : Cx} {e : List Expr} {t t' : TA} (h : PA X e t) (hi : ∀ σ H Q, t' σ H Q → t σ H Q) : PA X e t' := ⟨fun pos pins s σ H Q I q => h.run pos pins s σ H Q I (hi _ _ _ q)⟩
theorem ps_imp {X : Cx} {e : Stmt} {t t' : TS} (h : PS X e t) (hi : ∀ D σ H, t' D σ H → t D σ H) : PS X e t' := ⟨fun pins s σ H Q I q => h.run pins s σ H Q I (hi _ _ _ q)⟩
theorem pss_imp {X : Cx} {e : List Stmt} {t t' : TS} (h : PSs X e t) (hi : ∀ D σ H, t' D σ H → t D σ H) : PSs X e t' := ⟨fun pins s σ H Q I q => h.run pins s σ H Q I (hi _ _ _ q)⟩

/-! ### names, constants -/
def xVar (i : Nat) : Xp := fun ρ => ρ.getD i none
def xC (d : D) : Xp := fun _ => some d
theorem getD_some {ρ : PEnv} {i : Nat} {d : D} (h : ρ.getD i none = some d) : ρ[i]? = some (some d) := by
  rw [List.getD_eq_getElem?_getD] at h
  cases e : ρ[i]? with
  | none => rw [e] at h; cases h
  | some x => rw [e] at h; exact congrArg some h
section
variable {X : Cx} {O : List Nat} {m ma mb : Md} {a b c e : Expr} {es : List Expr} {fa fb fc f : Xp} {pos : Pos}
theorem se_var (i : Nat) {x : Str} (hN : X.N[i]? = some x := by rfl) (hv : Vis X.env.scope x := by first | exact Or.inl rfl | exact Or.inr (Or.inl rfl) | exact Or.inr (Or.inr rfl)) (ho : O.contains i = false := by rfl)
    (hd : (x == ("__debug__" : Str)) = false := by decide) (hcd : (x == ("__classdict__" : Str)) = false := by decide) : SE X O .s (.Name x pos) (xVar i) := by
  refine ⟨pe_imp (pe_var hN hv hd hcd) fun σ H Q h => ?_⟩
  obtain ⟨H0, A0, G, ρ, B, d, S, e, k⟩ := h
  rcases S.slot i d (getD_some e) with ⟨a, h1, _, _⟩ | ⟨_, v, h2, h3⟩
  · have := S.bo i a h1
    simp at ho
    exact absurd this ho
  · exact ⟨v, h2, k v H (Same.refl H) h3⟩
theorem se_varW (i : Nat) {x : Str} (hN : X.N[i]? = some x := by rfl) (hv : Vis X.env.scope x := by first | exact Or.inl rfl | exact Or.inr (Or.inl rfl) | exact Or.inr (Or.inr rfl))
    (hd : (x == ("__debug__" : Str)) = false := by decide) (hcd : (x == ("__classdict__" : Str)) = false := by decide) : SE X O .w (.Name x pos) (xVar i) := by
  refine ⟨pe_imp (pe_var hN hv hd hcd) fun σ H Q h => ?_⟩
  obtain ⟨H0, A0, G, ρ, B, d, S, e, k⟩ := h
  rcases S.slot i d (getD_some e) with ⟨a, h1, h2, h3⟩ | ⟨_, v, h2, h3⟩
  · exact ⟨_, h2, k _ H (Same.refl H) (.inr ⟨a, rfl, h3⟩)⟩
  · exact ⟨v, h2, k v H (Same.refl H) (.inl h3)⟩
theorem se_int {i j} : SE X O .f (.Constant (.int i) j pos) (xC (.int i)) :=
  ⟨pe_imp pe_int fun σ H Q ⟨H0, A0, G, ρ, B, d, S, e, k⟩ => by cases e; exact k _ H (Same.refl H) Res.int⟩
theorem se_bl {i j} : SE X O .f (.Constant (.bool i) j pos) (xC (.bool i)) :=
  ⟨pe_imp pe_bl fun σ H Q ⟨H0, A0, G, ρ, B, d, S, e, k⟩ => by cases e; exact k _ H (Same.refl H) Res.bl⟩
theorem se_non {j} : SE X O .f (.Constant .none j pos) (xC .none) :=
  ⟨pe_imp pe_non fun σ H Q ⟨H0, A0, G, ρ, B, d, S, e, k⟩ => by cases e; exact k _ H (Same.refl H) Res.non⟩
theorem se_str {i j} : SE X O .f (.Constant (.str i) j pos) (xC (.str i)) :=
  ⟨pe_imp pe_str fun σ H Q ⟨H0, A0, G, ρ, B, d, S, e, k⟩ => by cases e; exact k _ H (Same.refl H) Res.str⟩

/-! ### operators by values -/
def xBin (g : D → D → Option D) (fa fb : Xp) : Xp := fun ρ => (fa ρ).bind fun x => (fb ρ).bind fun y => g x y
def xUn (g : D → Option D) (fa : Xp) : Xp := fun ρ => (fa ρ).bind g
def rD (K : PySem.W.Frag) (m : Md) (g : D → D → Option D) : R2 := fun x y H Q => ∃ A dx dy d, Tr A H ∧ WRp K A H x dx ∧ WRp K A H y dy ∧ g dx dy = some d ∧ ∀ v H', Same H H' → Res K A H H' m v d → Q v H'
def rD1 (K : PySem.W.Frag) (m : Md) (g : D → Option D) : V → Hp → VK → Prop := fun x H Q => ∃ A dx d, Tr A H ∧ WRp K A H x dx ∧ g dx = some d ∧ ∀ v H', Same H H' → Res K A H H' m v d → Q v H'
theorem bind2 {α β : Type} {a : Option α} {b : α → Option β} {c : β} (h : a.bind b = some c) : ∃ x, a = some x ∧ b x = some c := Option.bind_eq_some_iff.mp h
theorem tOp_of {g : D → D → Option D} (σ : L2.St) (H : Hp) (Q : VK) (h : simT X.K O m (xBin g fa fb) σ H Q) : tOp (rD X.K m g) (simT X.K O ma fa) (simT X.K O mb fb) σ H Q := by
  obtain ⟨H0, A0, G, ρ, B, d, S, e, k⟩ := h
  obtain ⟨x, ex, e⟩ := bind2 e
  obtain ⟨y, ey, e⟩ := bind2 e
  refine ⟨H0, A0, G, ρ, B, x, S, ex, fun v H1 s1 r1 => ⟨H0, A0, G, ρ, B, y, S.mono s1, ey, fun u H2 s2 r2 => ?_⟩⟩
  exact ⟨Av A0 B, x, y, d, (S.mono (s1.trans s2)).tr, r1.toW.mono s2, r2.toW, e, fun z H3 s3 r3 => k z H3 ((s1.trans s2).trans s3) (r3.back (s1.trans s2))⟩
theorem se_op {op : Operator} {g : D → D → Option D} (ho : OpR X (binaryOp op) (rD X.K m g)) (ha : SE X O ma a fa) (hb : SE X O mb b fb) : SE X O m (.BinOp a op b pos) (xBin g fa fb) :=
  ⟨pe_imp (pe_op ho ha.pe hb.pe) tOp_of⟩
theorem se_cmp {op : CmpOp} {g : D → D → Option D} (ho : OpR X (compareOp op) (rD X.K m g)) (ha : SE X O ma a fa) (hb : SE X O mb b fb) (hm : behindInMarks op b = false := by first | exact nomark _ | rfl) : SE X O m (.Compare a [op] [b] pos) (xBin g fa fb) :=
  ⟨pe_imp (pe_cmpR ho ha.pe hb.pe hm) tOp_of⟩
/-- a comparison's answer as a test -/
def tB2 (g : D → D → Option D) (fa fb : Xp) : PEnv → Option Bool := fun ρ => (fa ρ).bind fun x => (fb ρ).bind fun y => (g x y).bind fun z => match z with | .bool b => some b | _ => none
def dB (d : D) : Option Bool := match d with | .bool b => some b | _ => none
theorem dB_some {d : D} {b : Bool} (h : dB d = some b) : d = .bool b := by
  cases d <;> simp_all [dB]
def tOf (f : Xp) : PEnv → Option Bool := fun ρ => (f ρ).bind dB
theorem st_cmp {op : CmpOp} {g : D → D → Option D} (ho : OpR X (compareOp op) (rD X.K .f g)) (ha : SE X O ma a fa) (hb : SE X O mb b fb) (hm : behindInMarks op b = false := by first | exact nomark _ | rfl) : ST X O (.Compare a [op] [b] pos) (tOf (xBin g fa fb)) := by
  refine ⟨pt_imp (pt_cmpR ho ha.pe hb.pe hm) fun σ H Q h => ?_⟩
  obtain ⟨H0, A0, G, ρ, B, b, S, e, k⟩ := h
  obtain ⟨d, ed, e⟩ := bind2 e
  have := dB_some e
  subst this
  refine tOp_of (m := .f) σ H _ ⟨H0, A0, G, ρ, B, _, S, ed, fun v H' s r => ?_⟩
  exact ⟨b, r.toW.bl, k H' s⟩
theorem se_un {op : UnaryOp} {g : D → Option D} (ho : UnR X (unaryOp op) (rD1 X.K m g)) (ha : SE X O ma a fa) : SE X O m (.UnaryOp op a pos) (xUn g fa) := by
  refine ⟨pe_imp (pe_un ho ha.pe) fun σ H Q h => ?_⟩
  obtain ⟨H0, A0, G, ρ, B, d, S, e, k⟩ := h
  obtain ⟨x, ex, e⟩ := bind2 e
  exact ⟨H0, A0, G, ρ, B, x, S, ex, fun v H1 s1 r1 => ⟨Av A0 B, x, d, (S.mono s1).tr, r1.toW, e, fun z H3 s3 r3 => k z H3 (s1.trans s3) (r3.back s1)⟩⟩

/-! ### tests -/
def tNotP (f : PEnv → Option Bool) : PEnv → Option Bool := fun ρ => (f ρ).map (!·)
def tAndP (f g : PEnv → Option Bool) : PEnv → Option Bool := fun ρ => (f ρ).bind fun b => if b then g ρ else some false
def tOrP (f g : PEnv → Option Bool) : PEnv → Option Bool := fun ρ => (f ρ).bind fun b => if b then some true else g ρ
theorem st_not {f : PEnv → Option Bool} (h : ST X O a f) : ST X O (.UnaryOp .Not a pos) (tNotP f) := by
  refine ⟨pt_imp (pt_not h.pt) fun σ H Q q => ?_⟩
  obtain ⟨H0, A0, G, ρ, B, b, S, e, k⟩ := q
  obtain ⟨x, ex, e⟩ := Option.map_eq_some_iff.mp e
  subst e
  exact ⟨H0, A0, G, ρ, B, x, S, ex, fun H' s => k H' s⟩
/-- and, or of tests -/
structure SW (X : Cx) (O : List Nat) (e : Expr) (f : PEnv → Option Bool) : Prop where
  pw : PW X e (simTT X.K O f)
theorem SW.st {f : PEnv → Option Bool} (h : SW X O a f) : ST X O a f := ⟨h.pw.pt⟩
theorem sw_and1 {f : PEnv → Option Bool} (h : ST X O a f) : SW X O (.BoolOp .And [a] pos) f := ⟨pw_and1 h.pt⟩
theorem sw_or1 {f : PEnv → Option Bool} (h : ST X O a f) : SW X O (.BoolOp .Or [a] pos) f := ⟨pw_or1 h.pt⟩
theorem pw_imp {e : Expr} {t t' : TT} (h : PW X e t) (hi : ∀ σ H Q, t' σ H Q → t σ H Q) : PW X e t' := ⟨fun w pins s σ H Q I q => h.run w pins s σ H Q I (hi _ _ _ q)⟩
theorem sw_and {f g : PEnv → Option Bool} (h : ST X O a f) (h' : SW X O (.BoolOp .And (b :: es) pos) g) : SW X O (.BoolOp .And (a :: b :: es) pos) (tAndP f g) := by
  refine ⟨pw_imp (pw_and h.pt h'.pw) fun σ H Q q => ?_⟩
  obtain ⟨H0, A0, G, ρ, B, b, S, e, k⟩ := q
  obtain ⟨x, ex, e⟩ := bind2 e
  refine ⟨H0, A0, G, ρ, B, x, S, ex, fun H1 s1 => ?_⟩
  cases x with
  | true => exact ⟨H0, A0, G, ρ, B, b, S.mono s1, e, fun H' s => k H' (s1.trans s)⟩
  | false => cases e; exact k H1 s1
theorem sw_or {f g : PEnv → Option Bool} (h : ST X O a f) (h' : SW X O (.BoolOp .Or (b :: es) pos) g) : SW X O (.BoolOp .Or (a :: b :: es) pos) (tOrP f g) := by
  refine ⟨pw_imp (pw_or h.pt h'.pw) fun σ H Q q => ?_⟩
  obtain ⟨H0, A0, G, ρ, B, b, S, e, k⟩ := q
  obtain ⟨x, ex, e⟩ := bind2 e
  refine ⟨H0, A0, G, ρ, B, x, S, ex, fun H1 s1 => ?_⟩
  cases x with
  | true => cases e; exact k H1 s1
  | false => exact ⟨H0, A0, G, ρ, B, b, S.mono s1, e, fun H' s => k H' (s1.trans s)⟩
/-- a value's truth -/
def oTru : D → Option Bool
  | .none => some false
  | .bool b => some b
  | .int i => some (i != 0)
  | .list xs => some (!xs.isEmpty)
  | .tuple xs => some (!xs.isEmpty)
  | .dict [] => some false
  | .dict ((.int _, _) :: _) => some true
  | .dict ((.str _, _) :: _) => some true
  | _ => none
theorem empty_of {K : PySem.W.Frag} {A : Addr → Prop} {H : Hp} {vs : List V} {ds : List D} (r : RpL K A H vs ds) : (!vs.isEmpty) = !ds.isEmpty := by
  cases r <;> rfl
theorem tru_of {K : PySem.W.Frag} {A : Addr → Prop} {H : Hp} {v : V} {d : D} {b : Bool} (h : WRp K A H v d) (e : oTru d = some b) : TruV K v H b := by
  have dict : ∀ {a : Addr} {ks : List (Key × V)} {ds : List D} {kd : List (D × D)}, H a = some (.dK ks) → RpL K A H (ks.map (·.2)) ds → kd = (ks.map fun p => keyD p.1).zip ds → oTru (.dict kd) = some b → TruV K (.ref a) H b := fun {a ks ds kd} h1 h2 h3 h4 => by
    refine .inr (.inr ⟨ks, h1, ?_⟩)
    subst h3
    cases ks with
    | nil => simp [oTru] at h4; simp [← h4]
    | cons p ks =>
      cases h2 with
      | cons h2 h2' =>
        obtain ⟨k, v⟩ := p
        cases k <;> simp [oTru, keyD] at h4 <;> simp [← h4]
  rcases h with h | ⟨a, z, h⟩
  · cases h with
    | non => cases e; exact rfl
    | bl c => cases e; exact rfl
    | int i => cases e; exact rfl
    | str x => cases e
    | lst h n r => cases e; exact .inl ⟨_, .inl (.inl h), (empty_of r).symm⟩
    | tup h n r => cases e; exact .inr (.inl ⟨_, .inl (.inl h), (empty_of r).symm⟩)
    | scr h n r => simp [oTru] at e
    | kl h r => simp [oTru] at e
    | dic h n r q => exact dict h r q e
  · subst z
    cases h with
    | lst h r => cases e; exact .inl ⟨_, .inl (.inl h), (empty_of r).symm⟩
    | dic h r q => exact dict h r q e
def tTru (f : Xp) : PEnv → Option Bool := fun ρ => (f ρ).bind oTru
theorem st_val (h : SE X O m a fa) (he : ∀ whole, isTrue a X.env whole = (do let v ← whole; standAt a.pos; holding [v] (truthy v)) := by intro _; rfl) : ST X O a (tTru fa) := by
  refine ⟨pt_imp (pt_truth h.pe he) fun σ H Q q => ?_⟩
  obtain ⟨H0, A0, G, ρ, B, b, S, e, k⟩ := q
  obtain ⟨x, ex, e⟩ := bind2 e
  exact ⟨H0, A0, G, ρ, B, x, S, ex, fun v H1 s1 r1 => ⟨b, tru_of r1.toW e, k H1 s1⟩⟩
/-- not as a value -/
def oNot (d : D) : Option D := (oTru d).map fun b => .bool (!b)
end
end Pm

namespace Pm
open PySem PySem.Spec PyProof.Rows L2

def shp (d : D) : Bool := SeqAt.shaped d
/-! ### what the operators do -/
def oAdd : D → D → Option D
  | .int a, .int b => some (.int (a + b))
  | .list a, .list b => if a.length + b.length ≤ 16777216 then some (.list (a ++ b)) else none
  | .tuple a, .tuple b => if a.length + b.length ≤ 16777216 then some (.tuple (a ++ b)) else none
  | .int a, .bool b => some (.int (a + (if b then 1 else 0)))
  | _, _ => none
def oSub : D → D → Option D
  | .int a, .int b => some (.int (a - b))
  | _, _ => none
def mulOk (a b : Int) : Bool := decide (a.natAbs < 2 ^ 63) || decide (b.natAbs < 2 ^ 63) || decide (a.natAbs.log2 + b.natAbs.log2 < 1000000)
def oMul : D → D → Option D
  | .int a, .int b => if mulOk a b then some (.int (a * b)) else none
  | .list a, .int k => if -(2 ^ 62) ≤ k ∧ k < 2 ^ 62 ∧ a.length * k.toNat ≤ 16777216 then some (.list (List.replicate k.toNat a).flatten) else none
  | .tuple a, .int k => if a ≠ [] ∧ 2 ≤ k ∧ k ≤ 1000 ∧ a.length ≤ 1000 then some (.tuple (List.replicate k.toNat a).flatten) else none
  | _, _ => none
def divOk (b : Int) : Bool := decide (b ≠ 0) && decide (b.natAbs.log2 < 9000)
def oFdiv : D → D → Option D
  | .int a, .int b => if divOk b then some (.int (a.fdiv b)) else none
  | _, _ => none
def oMod : D → D → Option D
  | .int a, .int b => if b ≠ 0 then some (.int (a.fmod b)) else none
  | _, _ => none
def oPow : D → D → Option D
  | .int a, .int b => if 0 ≤ b ∧ b ≤ 1000000 ∧ a.natAbs < 2 ^ 64 then some (.int (a ^ b.toNat)) else none
  | _, _ => none
def oShl : D → D → Option D
  | .int a, .int b => if 0 ≤ b ∧ b ≤ 1000000 ∧ a.natAbs < 2 ^ 64 then some (.int (a * 2 ^ b.toNat)) else none
  | _, _ => none
def oEq (x y : D) : Option D := if shp x && shp y then some (.bool (PyData.eqv x y)) else none
def oNe (x y : D) : Option D := if shp x && shp y then some (.bool (!PyData.eqv x y)) else none
def oLt : D → D → Option D
  | .int a, .int b => some (.bool (decide (a < b)))
  | _, _ => none
def oLe : D → D → Option D
  | .int a, .int b => some (.bool (decide (a ≤ b)))
  | _, _ => none
def oGt : D → D → Option D
  | .int a, .int b => some (.bool (decide (b < a)))
  | _, _ => none
def oGe : D → D → Option D
  | .int a, .int b => some (.bool (decide (b ≤ a)))
  | _, _ => none
def isNone : D → Bool
  | .none => true
  | _ => false
def oIs : D → D → Option D
  | x, .none => some (.bool (isNone x))
  | _, _ => none
def oIsNot : D → D → Option D
  | x, .none => some (.bool (!isNone x))
  | _, _ => none
def oIn : D → D → Option D
  | x, .list ys => if shp x && PyData.canLayAll0 ys then some (.bool (ys.any fun z => PyData.eqv z x)) else none
  | x, .tuple ys => if shp x && PyData.canLayAll0 ys then some (.bool (ys.any fun z => PyData.eqv z x)) else none
  | _, _ => none
def oNotIn : D → D → Option D
  | x, .list ys => if shp x && PyData.canLayAll0 ys then some (.bool (!ys.any fun z => PyData.eqv z x)) else none
  | x, .tuple ys => if shp x && PyData.canLayAll0 ys then some (.bool (!ys.any fun z => PyData.eqv z x)) else none
  | _, _ => none
def ixD (xs : List D) (i : Int) : Option D := atI xs i
def oIx : D → D → Option D
  | .list xs, .int i => atI xs i
  | .tuple xs, .int i => atI xs i
  | .dict [(.none, .list xs)], .int i => atI xs i
  | _, _ => none
def oNeg : D → Option D
  | .int i => some (.int (-i))
  | _ => none

section
variable {K : PySem.W.Frag} {A : Addr → Prop} {H H' : Hp} {v : V} {d : D} {vs : List V} {ds : List D}
mutual
theorem Rp.dp : ∀ {v : V} {d : D}, Rp K A H v d → d.canLay0 = true → Dp K H v d
  | _, _, .non, _ => .non
  | _, _, .bl b, _ => .bl b
  | _, _, .int i, _ => .int i
  | _, _, .str x, _ => .str x
  | _, _, .lst h n r, c => .lst (.inl (.inl h)) (RpL.dp r (by simpa [PyData.canLay0] using c))
  | _, _, .tup h n r, c => .tup (.inl (.inl h)) (RpL.dp r (by simpa [PyData.canLay0] using c))
  | _, _, .scr h n r, c => by simp [PyData.canLay0] at c
  | _, _, .kl h r, c => by simp [PyData.canLay0] at c
  | _, _, .dic h n r e, c => by simp [PyData.canLay0] at c
theorem RpL.dp : ∀ {vs : List V} {ds : List D}, RpL K A H vs ds → PyData.canLayAll0 ds = true → DpAll K H vs ds
  | _, _, .nil, _ => .nil
  | _, _, .cons h r, c => by
    simp only [PyData.canLayAll0, Bool.and_eq_true] at c
    exact .cons (Rp.dp h c.1) (RpL.dp r c.2)
end
theorem WRp.dpc (h : WRp K A H v d) (c : d.canLay0 = true) : Dp K H v d := by
  rcases h with h | ⟨a, e, h⟩
  · exact h.dp c
  · subst e
    cases h with
    | lst h r => exact .lst (.inl (.inl h)) (r.dp (by simpa [PyData.canLay0] using c))
    | dic h r e => simp [PyData.canLay0] at c
theorem WRp.dp (h : WRp K A H v d) (c : shp d = true) : Dp K H v d := h.dpc (SeqAt.canLay_of_shaped c)
theorem RpL.atI {i : Int} (r : RpL K A H vs ds) (h : L2.atI ds i = some d) : ∃ v, L2.atI vs i = some v ∧ Rp K A H v d := by
  unfold L2.atI at h ⊢
  rw [r.length]
  obtain ⟨j, e1, e2⟩ := Option.bind_eq_some_iff.mp h
  obtain ⟨v, e3, e4⟩ := r.get e2
  exact ⟨v, by rw [e1]; exact e3, e4⟩
theorem non_dec : Rp K A H v d → decide (v = V.non) = isNone d := by
  intro h
  cases h <;> rfl
theorem WRp.none_dec (h : WRp K A H v d) : decide (v = V.non) = isNone d := by
  rcases h with h | ⟨a, e, h⟩
  · exact non_dec h
  · subst e
    cases h <;> rfl
end
section
variable {X : Cx} {k : Nat}
theorem op_addD : OpR X (binaryOp .Add) (rD X.K .f oAdd) := by
  intro pins s σ H x y v u Q I rx ry ⟨A, dx, dy, d, tr, wx, wy, e, q⟩
  unfold oAdd at e
  split at e
  · cases e
    exact op_add pins s σ H x y v u Q I rx ry ⟨_, _, wx.int, wy.int, q _ H (Same.refl H) Res.int⟩
  · split at e
    · rename_i hz
      cases e
      obtain ⟨a, xs, rfl, ha, ra⟩ := wx.lst
      obtain ⟨b, ys, rfl, hb, rb⟩ := wy.lst
      refine op_cat pins s σ H _ _ v u Q I rx ry ⟨a, b, xs, ys, rfl, rfl, ha, hb, by rw [ra.length, rb.length]; exact hz, fun p hp => q _ _ (same_upd hp) (Res.newL tr hp (rb.app ra) (Same.refl H))⟩
    · cases e
  · split at e
    · rename_i hz
      cases e
      obtain ⟨a, xs, rfl, ha, na, ra⟩ := wx.tup
      obtain ⟨b, ys, rfl, hb, nb, rb⟩ := wy.tup
      refine op_catA pins s σ H _ _ v u Q I rx ry ⟨a, b, xs, ys, rfl, rfl, .of ha, .of hb, by rw [ra.length, rb.length]; exact hz, fun z => ?_, fun _ z => ?_, fun _ _ p hp => q _ _ (same_upd hp) (Res.flat (Rp.newT tr hp (rb.app ra)) rfl)⟩
      · subst z
        cases ra
        exact q _ H (Same.refl H) (Res.flat (.tup hb nb rb) rfl)
      · subst z
        cases rb
        exact q _ H (Same.refl H) (Res.flat (.tup ha na (by simpa using ra)) rfl)
    · cases e
  · cases e
    exact op_add_ib pins s σ H x y v u Q I rx ry ⟨_, _, wx.int, wy.bl, q _ H (Same.refl H) (by
      rename_i b
      cases b <;> exact Res.int)⟩
  · cases e
theorem op_subD : OpR X (binaryOp .Sub) (rD X.K .f oSub) := by
  intro pins s σ H x y v u Q I rx ry ⟨A, dx, dy, d, tr, wx, wy, e, q⟩
  unfold oSub at e
  split at e
  · cases e
    exact op_sub pins s σ H x y v u Q I rx ry ⟨_, _, wx.int, wy.int, q _ H (Same.refl H) Res.int⟩
  · cases e
theorem mul_case {a b : Int} (h : mulOk a b = true) : CMul a b ∨ CMulW a b := by
  unfold mulOk at h
  rw [Bool.or_eq_true, Bool.or_eq_true] at h
  rcases h with (h | h) | h
  · exact .inl (.inl (by have := of_decide_eq_true h; omega))
  · exact .inl (.inr (by have := of_decide_eq_true h; omega))
  · exact .inr (show a.natAbs.log2 + b.natAbs.log2 < 1000000 from of_decide_eq_true h)
theorem op_mulD : OpR X (binaryOp .Mult) (rD X.K .f oMul) := by
  intro pins s σ H x y v u Q I rx ry ⟨A, dx, dy, d, tr, wx, wy, e, q⟩
  unfold oMul at e
  split at e
  · split at e
    · rename_i hm
      cases e
      rcases mul_case hm with h | h
      · exact op_mul pins s σ H x y v u Q I rx ry ⟨_, _, wx.int, wy.int, h, q _ H (Same.refl H) Res.int⟩
      · exact op_mulW pins s σ H x y v u Q I rx ry ⟨_, _, wx.int, wy.int, h, q _ H (Same.refl H) Res.int⟩
    · cases e
  · split at e
    · rename_i hz
      cases e
      obtain ⟨a, xs, rfl, ha, ra⟩ := wx.lst
      refine op_rep pins s σ H _ _ v u Q I rx ry ⟨a, _, xs, rfl, wy.int, ha, by omega, by omega, by rw [ra.length]; exact hz.2.2, fun p hp => q _ _ (same_upd hp) (Res.newL tr hp (ra.rep _) (Same.refl H))⟩
    · cases e
  · split at e
    · rename_i hz
      cases e
      obtain ⟨a, xs, rfl, ha, na, ra⟩ := wx.tup
      refine op_repT pins s σ H _ _ v u Q I rx ry ⟨a, _, xs, rfl, wy.int, .of ha, fun z => ?_, hz.2.1, hz.2.2.1, by rw [ra.length]; exact hz.2.2.2, fun p hp => q _ _ (same_upd hp) (Res.flat (Rp.newT tr hp (ra.rep _)) rfl)⟩
      subst z
      cases ra
      exact hz.1 rfl
    · cases e
  · cases e
theorem op_fdivD : OpR X (binaryOp .FloorDiv) (rD X.K .f oFdiv) := by
  intro pins s σ H x y v u Q I rx ry ⟨A, dx, dy, d, tr, wx, wy, e, q⟩
  unfold oFdiv at e
  split at e
  · split at e
    · rename_i hz
      cases e
      unfold divOk at hz
      rw [Bool.and_eq_true] at hz
      have h1 := of_decide_eq_true hz.1
      have h2 := of_decide_eq_true hz.2
      exact (opI (C := fun i j => j ≠ 0 ∧ j.natAbs.log2 < 9000) fun i j _ _ _ _ _ hc q => floordiv_int hc.1 q (.inl (PyProof.noPylong_of_log2 hc.2))) pins s σ H x y v u Q I rx ry ⟨_, _, wx.int, wy.int, ⟨h1, h2⟩, q _ H (Same.refl H) Res.int⟩
    · cases e
  · cases e
theorem op_modD : OpR X (binaryOp .Mod) (rD X.K .f oMod) := by
  intro pins s σ H x y v u Q I rx ry ⟨A, dx, dy, d, tr, wx, wy, e, q⟩
  unfold oMod at e
  split at e
  · split at e
    · rename_i hz
      cases e
      exact op_modN pins s σ H x y v u Q I rx ry ⟨_, _, wx.int, wy.int, hz, q _ H (Same.refl H) Res.int⟩
    · cases e
  · cases e
theorem op_powD : OpR X (binaryOp .Pow) (rD X.K .f oPow) := by
  intro pins s σ H x y v u Q I rx ry ⟨A, dx, dy, d, tr, wx, wy, e, q⟩
  unfold oPow at e
  split at e
  · split at e
    · rename_i hz
      cases e
      exact op_pow pins s σ H x y v u Q I rx ry ⟨_, _, wx.int, wy.int, hz, q _ H (Same.refl H) Res.int⟩
    · cases e
  · cases e
theorem op_shlD : OpR X (binaryOp .LShift) (rD X.K .f oShl) := by
  intro pins s σ H x y v u Q I rx ry ⟨A, dx, dy, d, tr, wx, wy, e, q⟩
  unfold oShl at e
  split at e
  · split at e
    · rename_i hz
      cases e
      exact op_shl pins s σ H x y v u Q I rx ry ⟨_, _, wx.int, wy.int, hz, q _ H (Same.refl H) Res.int⟩
    · cases e
  · cases e
theorem op_eqP (hr : Room k X.A) : OpR X (compareOp .Eq) (rD X.K .f oEq) := by
  intro pins s σ H x y v u Q I rx ry ⟨A, dx, dy, d, tr, wx, wy, e, q⟩
  unfold oEq at e
  split at e
  · rename_i hz
    cases e
    rw [Bool.and_eq_true] at hz
    exact op_eqD hr.units pins s σ H x y v u Q I rx ry ⟨dx, dy, wx.dp hz.1, wy.dp hz.2, hz.1, hz.2, q _ H (Same.refl H) Res.bl⟩
  · cases e
theorem op_neP (hr : Room k X.A) : OpR X (compareOp .NotEq) (rD X.K .f oNe) := by
  intro pins s σ H x y v u Q I rx ry ⟨A, dx, dy, d, tr, wx, wy, e, q⟩
  unfold oNe at e
  split at e
  · rename_i hz
    cases e
    rw [Bool.and_eq_true] at hz
    exact op_neD hr.units pins s σ H x y v u Q I rx ry ⟨dx, dy, wx.dp hz.1, wy.dp hz.2, hz.1, hz.2, q _ H (Same.refl H) Res.bl⟩
  · cases e
theorem op_ltD : OpR X (compareOp .Lt) (rD X.K .f oLt) := by
  intro pins s σ H x y v u Q I rx ry ⟨A, dx, dy, d, tr, wx, wy, e, q⟩
  unfold oLt at e
  split at e
  · cases e
    exact op_lt pins s σ H x y v u Q I rx ry ⟨_, _, wx.int, wy.int, q _ H (Same.refl H) Res.bl⟩
  · cases e
theorem op_leD : OpR X (compareOp .LtE) (rD X.K .f oLe) := by
  intro pins s σ H x y v u Q I rx ry ⟨A, dx, dy, d, tr, wx, wy, e, q⟩
  unfold oLe at e
  split at e
  · cases e
    exact op_le pins s σ H x y v u Q I rx ry ⟨_, _, wx.int, wy.int, q _ H (Same.refl H) Res.bl⟩
  · cases e
theorem op_gtD : OpR X (compareOp .Gt) (rD X.K .f oGt) := by
  intro pins s σ H x y v u Q I rx ry ⟨A, dx, dy, d, tr, wx, wy, e, q⟩
  unfold oGt at e
  split at e
  · cases e
    exact op_gt pins s σ H x y v u Q I rx ry ⟨_, _, wx.int, wy.int, q _ H (Same.refl H) Res.bl⟩
  · cases e
theorem op_geD : OpR X (compareOp .GtE) (rD X.K .f oGe) := by
  intro pins s σ H x y v u Q I rx ry ⟨A, dx, dy, d, tr, wx, wy, e, q⟩
  unfold oGe at e
  split at e
  · cases e
    exact op_ge pins s σ H x y v u Q I rx ry ⟨_, _, wx.int, wy.int, q _ H (Same.refl H) Res.bl⟩
  · cases e
theorem op_isD : OpR X (compareOp .Is) (rD X.K .f oIs) := by
  intro pins s σ H x y v u Q I rx ry ⟨A, dx, dy, d, tr, wx, wy, e, q⟩
  unfold oIs at e
  split at e
  · cases e
    exact op_isN pins s σ H x y v u Q I rx ry ⟨wy.non, by rw [wx.none_dec]; exact q _ H (Same.refl H) Res.bl⟩
  · cases e
theorem op_isNotD : OpR X (compareOp .IsNot) (rD X.K .f oIsNot) := by
  intro pins s σ H x y v u Q I rx ry ⟨A, dx, dy, d, tr, wx, wy, e, q⟩
  unfold oIsNot at e
  split at e
  · cases e
    exact op_notN pins s σ H x y v u Q I rx ry ⟨wy.non, by rw [wx.none_dec]; exact q _ H (Same.refl H) Res.bl⟩
  · cases e
theorem hu65 {A : Around} (hr : Room k A) : A.units + 65 < cLine := by have := hr.un; omega
theorem op_inP (hr : Room k X.A) : OpR X (compareOp .In) (rD X.K .f oIn) := by
  intro pins s σ H x y v u Q I rx ry ⟨A, dx, dy, d, tr, wx, wy, e, q⟩
  unfold oIn at e
  split at e
  · split at e
    · rename_i hz
      cases e
      rw [Bool.and_eq_true] at hz
      obtain ⟨as, r1⟩ := Dp.reads I _ x v (wx.dp hz.1) rx
      obtain ⟨bs, r2⟩ := Dp.reads I _ y u (wy.dpc (by simpa [PyData.canLay0] using hz.2)) ry
      exact SeqAt.in_list_reads r2 r1 hz.2 (SeqAt.canLay_of_shaped hz.1) (room_in_shaped hz.1 (hu65 hr)) ⟨.bl _, H, I, rfl, q _ H (Same.refl H) Res.bl⟩
    · cases e
  · split at e
    · rename_i hz
      cases e
      rw [Bool.and_eq_true] at hz
      obtain ⟨as, r1⟩ := Dp.reads I _ x v (wx.dp hz.1) rx
      obtain ⟨bs, r2⟩ := Dp.reads I _ y u (wy.dpc (by simpa [PyData.canLay0] using hz.2)) ry
      exact SeqAt.in_tuple_reads r2 r1 hz.2 (SeqAt.canLay_of_shaped hz.1) (room_in_shaped hz.1 (hu65 hr)) ⟨.bl _, H, I, rfl, q _ H (Same.refl H) Res.bl⟩
    · cases e
  · cases e
theorem op_notInP (hr : Room k X.A) : OpR X (compareOp .NotIn) (rD X.K .f oNotIn) := by
  intro pins s σ H x y v u Q I rx ry ⟨A, dx, dy, d, tr, wx, wy, e, q⟩
  unfold oNotIn at e
  split at e
  · split at e
    · rename_i hz
      cases e
      rw [Bool.and_eq_true] at hz
      obtain ⟨as, r1⟩ := Dp.reads I _ x v (wx.dp hz.1) rx
      obtain ⟨bs, r2⟩ := Dp.reads I _ y u (wy.dpc (by simpa [PyData.canLay0] using hz.2)) ry
      exact SeqAt.notIn_list_reads r2 r1 hz.2 (SeqAt.canLay_of_shaped hz.1) (room_in_shaped hz.1 (hu65 hr)) ⟨.bl _, H, I, rfl, q _ H (Same.refl H) Res.bl⟩
    · cases e
  · split at e
    · rename_i hz
      cases e
      rw [Bool.and_eq_true] at hz
      obtain ⟨as, r1⟩ := Dp.reads I _ x v (wx.dp hz.1) rx
      obtain ⟨bs, r2⟩ := Dp.reads I _ y u (wy.dpc (by simpa [PyData.canLay0] using hz.2)) ry
      exact SeqAt.notIn_tuple_reads r2 r1 hz.2 (SeqAt.canLay_of_shaped hz.1) (room_in_shaped hz.1 (hu65 hr)) ⟨.bl _, H, I, rfl, q _ H (Same.refl H) Res.bl⟩
    · cases e
  · cases e
theorem un_negD : UnR X (unaryOp .USub) (rD1 X.K .f oNeg) := by
  intro pins s σ H x v Q I rx ⟨A, dx, d, tr, wx, e, q⟩
  unfold oNeg at e
  split at e
  · cases e
    exact un_neg pins s σ H x v Q I rx ⟨_, wx.int, q _ H (Same.refl H) Res.int⟩
  · cases e
end
end Pm

namespace Pm
open PySem PySem.Spec PyProof.Rows L2

/-! ### argument lists -/
abbrev XL := PEnv → Option (List D)
def xNil : XL := fun _ => some []
def xCons (f : Xp) (fs : XL) : XL := fun ρ => (f ρ).bind fun x => (fs ρ).bind fun xs => some (x :: xs)
section
variable {X : Cx} {O : List Nat} {m ma mb : Md} {st : Bool} {a b c e : Expr} {es : List Expr} {fa fb fc f : Xp} {fs : XL} {pos : Pos}
theorem sa_nil : SA X O st [] xNil := by
  refine ⟨pa_imp pa_nil fun σ H Q h => ?_⟩
  obtain ⟨H0, A0, G, ρ, B, ds, S, e, k⟩ := h
  cases e
  refine k [] H (Same.refl H) ?_
  cases st <;> exact .nil
theorem ResL.monoR {K : PySem.W.Frag} {A : Addr → Prop} {H H' : Hp} {vs : List V} {ds : List D} (s : Same H H') (h : ResL K A H st vs ds) : ResL K A H' st vs ds := by
  cases st with
  | true => exact RpL.mono s h
  | false => exact Paired.mapP h fun _ _ r => WRp.mono s r
theorem sa_cons (ha : SE X O m e f) (hr : SA X O st es fs) (hm : (st = true → m ≠ .w) := by first | exact fun _ => Md.noConfusion | exact fun h => Bool.noConfusion h) (hs : starEach (e :: es) X.env = (false, eval e X.env) :: starEach es X.env := by rfl) : SA X O st (e :: es) (xCons f fs) := by
  refine ⟨pa_imp (pa_cons ha.pe hr.pa hs) fun σ H Q h => ?_⟩
  obtain ⟨H0, A0, G, ρ, B, ds, S, e, k⟩ := h
  obtain ⟨x, ex, e⟩ := bind2 e
  obtain ⟨xs, exs, e⟩ := bind2 e
  cases e
  refine ⟨H0, A0, G, ρ, B, x, S, ex, fun v H1 s1 r1 => ⟨H0, A0, G, ρ, B, xs, S.mono s1, exs, fun vs H2 s2 r2 => k _ H2 (s1.trans s2) ?_⟩⟩
  cases st with
  | true => exact .cons ((r1.toS S.tr (hm rfl)).mono s2) r2
  | false => exact .cons (r1.toW.mono s2) r2
/-- their number is the written one -/
theorem SE.toS (h : SE X O .f e f) : SE X O .s e f := ⟨pe_imp h.pe fun σ H Q ⟨H0, A0, G, ρ, B, d, S, e, k⟩ => ⟨H0, A0, G, ρ, B, d, S, e, fun v H' s r => k v H' s (r.toS S.tr (by decide))⟩⟩
theorem SE.toW (h : SE X O m e f) : SE X O .w e f := ⟨pe_imp h.pe fun σ H Q ⟨H0, A0, G, ρ, B, d, S, e, k⟩ => ⟨H0, A0, G, ρ, B, d, S, e, fun v H' s r => k v H' s r.toW⟩⟩

/-! ### displays -/
def xTup (fs : XL) : Xp := fun ρ => (fs ρ).bind fun ds => if ds.length ≤ 1000 then some (.tuple ds) else none
def xLst (fs : XL) : Xp := fun ρ => (fs ρ).bind fun ds => if ds.length ≤ 1000 then some (.list ds) else none
theorem line1000 {n : Nat} (h : n ≤ 1000) : n ≤ sizeLine := Nat.le_of_lt (small1000 h)
theorem se_tup {x1} (h : SA X O true es fs) : SE X O .f (.Tuple es x1 pos) (xTup fs) := by
  refine ⟨pe_imp (pe_tup h.pa) fun σ H Q q => ?_⟩
  obtain ⟨H0, A0, G, ρ, B, d, S, e, k⟩ := q
  obtain ⟨x, ex, e⟩ := bind2 e
  split at e
  · rename_i hz
    cases e
    refine ⟨H0, A0, G, ρ, B, x, S, ex, fun vs H1 s1 (r1 : RpL _ _ _ _ _) => ⟨by rw [r1.length]; exact line1000 hz, fun p hp => ?_⟩⟩
    exact k _ _ (s1.trans (same_upd hp)) (Res.flat (Rp.newT (S.mono s1).tr hp r1) rfl)
  · cases e
theorem se_lst (h : SA X O true es fs) : SE X O .f (.List es pos) (xLst fs) := by
  refine ⟨pe_imp (pe_lst h.pa) fun σ H Q q => ?_⟩
  obtain ⟨H0, A0, G, ρ, B, d, S, e, k⟩ := q
  obtain ⟨x, ex, e⟩ := bind2 e
  split at e
  · rename_i hz
    cases e
    refine ⟨H0, A0, G, ρ, B, x, S, ex, fun vs H1 s1 (r1 : RpL _ _ _ _ _) => ⟨by rw [r1.length]; exact line1000 hz, fun p hp => ?_⟩⟩
    exact k _ _ (s1.trans (same_upd hp)) (Res.newL (S.mono s1).tr hp r1 s1)
  · cases e

/-! ### and, or, if, not as values -/
def xAnd (fa fb : Xp) : Xp := fun ρ => (fa ρ).bind fun x => (dB x).bind fun b => if b then fb ρ else some (.bool false)
def xOr (fa fb : Xp) : Xp := fun ρ => (fa ρ).bind fun x => (dB x).bind fun b => if b then some (.bool true) else fb ρ
def xIf (c : PEnv → Option Bool) (fa fb : Xp) : Xp := fun ρ => (c ρ).bind fun b => if b then fa ρ else fb ρ
theorem se_bone {op} (h : SE X O m a f) : SE X O m (.BoolOp op [a] pos) f := ⟨pe_one h.pe⟩
theorem se_and (ha : SE X O ma a fa) (hb : SE X O m (.BoolOp .And (b :: es) pos) fb) : SE X O m (.BoolOp .And (a :: b :: es) pos) (xAnd fa fb) := by
  refine ⟨pe_imp (pe_and ha.pe hb.pe) fun σ H Q q => ?_⟩
  obtain ⟨H0, A0, G, ρ, B, d, S, e, k⟩ := q
  obtain ⟨x, ex, e⟩ := bind2 e
  obtain ⟨c, ec, e⟩ := bind2 e
  have := dB_some ec
  subst this
  refine ⟨H0, A0, G, ρ, B, _, S, ex, fun v H1 s1 r1 => ⟨c, r1.toW.bl, ?_⟩⟩
  cases c with
  | true => exact ⟨H0, A0, G, ρ, B, d, S.mono s1, e, fun v H' s r => k v H' (s1.trans s) (r.back s1)⟩
  | false => cases e; exact k _ H1 s1 Res.bl
theorem se_or (ha : SE X O ma a fa) (hb : SE X O m (.BoolOp .Or (b :: es) pos) fb) : SE X O m (.BoolOp .Or (a :: b :: es) pos) (xOr fa fb) := by
  refine ⟨pe_imp (pe_or ha.pe hb.pe) fun σ H Q q => ?_⟩
  obtain ⟨H0, A0, G, ρ, B, d, S, e, k⟩ := q
  obtain ⟨x, ex, e⟩ := bind2 e
  obtain ⟨c, ec, e⟩ := bind2 e
  have := dB_some ec
  subst this
  refine ⟨H0, A0, G, ρ, B, _, S, ex, fun v H1 s1 r1 => ⟨c, r1.toW.bl, ?_⟩⟩
  cases c with
  | false => exact ⟨H0, A0, G, ρ, B, d, S.mono s1, e, fun v H' s r => k v H' (s1.trans s) (r.back s1)⟩
  | true => cases e; exact k _ H1 s1 Res.bl
theorem se_if {tc : PEnv → Option Bool} (hc : ST X O c tc) (ha : SE X O m a fa) (hb : SE X O m b fb) : SE X O m (.IfExp c a b pos) (xIf tc fa fb) := by
  refine ⟨pe_imp (pe_ifExp hc.pt ha.pe hb.pe) fun σ H Q q => ?_⟩
  obtain ⟨H0, A0, G, ρ, B, d, S, e, k⟩ := q
  obtain ⟨x, ex, e⟩ := bind2 e
  refine ⟨H0, A0, G, ρ, B, x, S, ex, fun H1 s1 => ?_⟩
  cases x with
  | true => exact ⟨H0, A0, G, ρ, B, d, S.mono s1, e, fun v H' s r => k v H' (s1.trans s) (r.back s1)⟩
  | false => exact ⟨H0, A0, G, ρ, B, d, S.mono s1, e, fun v H' s r => k v H' (s1.trans s) (r.back s1)⟩
theorem se_not (h : SE X O ma a fa) : SE X O m (.UnaryOp .Not a pos) (xUn oNot fa) := by
  refine ⟨pe_imp (pe_notT h.pe) fun σ H Q q => ?_⟩
  obtain ⟨H0, A0, G, ρ, B, d, S, e, k⟩ := q
  obtain ⟨x, ex, e⟩ := bind2 e
  obtain ⟨c, ec, e⟩ := Option.map_eq_some_iff.mp e
  subst e
  exact ⟨H0, A0, G, ρ, B, x, S, ex, fun v H1 s1 r1 => ⟨c, tru_of r1.toW ec, k _ H1 s1 Res.bl⟩⟩
/-- a op b op c -/
def xChain (g g' : D → D → Option D) (fa fb fc : Xp) : Xp := fun ρ => (fa ρ).bind fun x => (fb ρ).bind fun y => (g x y).bind fun z => (dB z).bind fun k => if k then (fc ρ).bind fun w => g' y w else some (.bool false)
variable {mc : Md}
theorem tChain_of {op op' : CmpOp} {g g' : D → D → Option D} (σ : L2.St) (H : Hp) (Q : VK) (h : simT X.K O .f (xChain g g' fa fb fc) σ H Q) :
    tChain (rD X.K .f g) (rD X.K .f g') (simT X.K O ma fa) (simT X.K O mb fb) (simT X.K O mc fc) σ H Q := by
  obtain ⟨H0, A0, G, ρ, B, d, S, e, k⟩ := h
  obtain ⟨x, ex, e⟩ := bind2 e
  obtain ⟨y, ey, e⟩ := bind2 e
  obtain ⟨z, ez, e⟩ := bind2 e
  obtain ⟨c, ec, e⟩ := bind2 e
  have := dB_some ec
  subst this
  refine ⟨H0, A0, G, ρ, B, x, S, ex, fun v H1 s1 r1 => ⟨H0, A0, G, ρ, B, y, S.mono s1, ey, fun u H2 s2 r2 => ⟨Av A0 B, x, y, _, (S.mono (s1.trans s2)).tr, r1.toW.mono s2, r2.toW, ez, fun z H3 s3 r3 => ⟨c, r3.toW.bl, ?_⟩⟩⟩⟩
  have s13 := (s1.trans s2).trans s3
  cases c with
  | false => cases e; exact k _ H3 s13 Res.bl
  | true =>
    replace e : ((fc ρ).bind fun w => g' y w) = some d := e
    obtain ⟨w, ew, e⟩ := bind2 e
    exact ⟨H0, A0, G, ρ, B, w, S.mono s13, ew, fun v' H4 s4 r4 => ⟨Av A0 B, y, w, d, (S.mono (s13.trans s4)).tr, r2.toW.mono (s3.trans s4), r4.toW, e, fun z H5 s5 r5 => k z H5 ((s13.trans s4).trans s5) (r5.back (s13.trans s4))⟩⟩
theorem se_chain {op op' : CmpOp} {g g' : D → D → Option D} (ho : OpR X (compareOp op) (rD X.K .f g)) (ho' : OpR X (compareOp op') (rD X.K .f g')) (ha : SE X O ma a fa) (hb : SE X O mb b fb) (hc : SE X O mc c fc)
    (hm : lastMarks [op, op'] [b, c] = false := by with_unfolding_all rfl) : SE X O .f (.Compare a [op, op'] [b, c] pos) (xChain g g' fa fb fc) :=
  ⟨pe_imp (pe_chain ho ho' ha.pe hb.pe hc.pe hm) (tChain_of (op := op) (op' := op'))⟩
theorem st_chain {op op' : CmpOp} {g g' : D → D → Option D} (ho : OpR X (compareOp op) (rD X.K .f g)) (ho' : OpR X (compareOp op') (rD X.K .f g')) (ha : SE X O ma a fa) (hb : SE X O mb b fb) (hc : SE X O mc c fc)
    (hm : lastMarks [op, op'] [b, c] = false := by with_unfolding_all rfl) : ST X O (.Compare a [op, op'] [b, c] pos) (tOf (xChain g g' fa fb fc)) := by
  refine ⟨pt_imp (pt_chain ho ho' ha.pe hb.pe hc.pe hm) fun σ H Q h => ?_⟩
  obtain ⟨H0, A0, G, ρ, B, b, S, e, k⟩ := h
  obtain ⟨d, ed, e⟩ := bind2 e
  have := dB_some e
  subst this
  exact tChain_of (op := op) (op' := op') σ H _ ⟨H0, A0, G, ρ, B, _, S, ed, fun v H' s r => ⟨b, r.toW.bl, k H' s⟩⟩

/-! ### subscripts -/
theorem ix_D : IxR X (rD X.K .s oIx) := by
  intro value slice pins s σ H x y v u Q I rx ry ⟨A, dx, dy, d, tr, wx, wy, e, q⟩ hs
  unfold oIx at e
  split at e
  · obtain ⟨p, xs, rfl, hp, r⟩ := wx.lst
    obtain ⟨z, ez, rz⟩ := r.atI e
    exact ix_list value slice pins s σ H _ y v u Q I rx ry ⟨p, xs, _, z, rfl, wy.int, .of hp, ez, q z H (Same.refl H) rz⟩ hs
  · obtain ⟨p, xs, rfl, hp, n, r⟩ := wx.tup
    obtain ⟨z, ez, rz⟩ := r.atI e
    exact ix_tup value slice pins s σ H _ y v u Q I rx ry ⟨p, xs, _, z, rfl, wy.int, .of hp, ez, q z H (Same.refl H) rz⟩ hs
  · obtain ⟨p, xs, rfl, hp, r⟩ := wx.scr
    obtain ⟨z, ez, rz⟩ := r.atI e
    exact ix_list value slice pins s σ H _ y v u Q I rx ry ⟨p, xs, _, z, rfl, wy.int, hp, ez, q z H (Same.refl H) rz⟩ hs
  · cases e
theorem se_ix (ha : SE X O ma a fa) (hb : SE X O mb b fb) (hs : PlainIx b := by exact fun _ _ => rfl) : SE X O .s (.Subscript a b pos) (xBin oIx fa fb) := ⟨pe_imp (pe_ix ix_D ha.pe hb.pe hs) tOp_of⟩
/-- slices -/
def cutD (xs : List D) (lo hi : Option Int) : List D := (xs.drop (HT.sIx xs.length 0 lo)).take (HT.sIx xs.length xs.length hi - HT.sIx xs.length 0 lo)
theorem RpL.cut {K : PySem.W.Frag} {A : Addr → Prop} {H : Hp} {vs : List V} {ds : List D} (r : RpL K A H vs ds) (lo hi : Option Int) : RpL K A H (cutV vs lo hi) (cutD ds lo hi) := by
  unfold cutV cutD
  rw [r.length]
  exact (r.drop _).take _
abbrev XO := PEnv → Option (Option Int)
def simO (K : PySem.W.Frag) (O : List Nat) (f : XO) : TO := fun σ H Q => ∃ H0 A0 G ρ B i, Sim K H0 A0 G O σ H ρ B ∧ f ρ = some i ∧ ∀ H', Same H H' → Q i H'
structure SO (X : Cx) (O : List Nat) (e : Option Expr) (f : XO) : Prop where
  po : PO X e (simO X.K O f)
def oNo : XO := fun _ => some none
def oAt (f : Xp) : XO := fun ρ => (f ρ).bind fun d => match d with | .int i => some (some i) | _ => none
theorem po_imp {e : Option Expr} {t t' : TO} (h : PO X e t) (hi : ∀ σ H Q, t' σ H Q → t σ H Q) : PO X e t' := ⟨fun pins s σ H Q I q => h.run pins s σ H Q I (hi _ _ _ q)⟩
theorem so_none : SO X O none oNo := ⟨po_imp po_none fun σ H Q ⟨H0, A0, G, ρ, B, i, S, e, k⟩ => by cases e; exact k H (Same.refl H)⟩
theorem so_some (h : SE X O m e f) : SO X O (some e) (oAt f) := by
  refine ⟨po_imp (po_some h.pe) fun σ H Q ⟨H0, A0, G, ρ, B, i, S, e, k⟩ => ?_⟩
  obtain ⟨x, ex, e⟩ := bind2 e
  split at e
  · cases e
    exact ⟨H0, A0, G, ρ, B, _, S, ex, fun v H1 s1 r1 => ⟨_, r1.toW.int, k H1 s1⟩⟩
  · cases e
def oSl : D → Option Int → Option Int → Option D
  | .list xs, lo, hi => some (.list (cutD xs lo hi))
  | .tuple xs, lo, hi => some (.tuple (cutD xs lo hi))
  | _, _, _ => none
def xSl (f : Xp) (lo hi : XO) : Xp := fun ρ => (f ρ).bind fun x => (lo ρ).bind fun i => (hi ρ).bind fun j => oSl x i j
theorem se_sl {lo hi : Option Expr} {flo fhi : XO} {p2 : Pos} (he : SE X O m e f) (hl : SO X O lo flo) (hh : SO X O hi fhi) : SE X O .f (.Subscript e (.Slice lo hi none p2) pos) (xSl f flo fhi) := by
  refine ⟨pe_imp (pe_slice (SlR.or sl_list sl_tupA) he.pe hl.po hh.po) fun σ H Q q => ?_⟩
  obtain ⟨H0, A0, G, ρ, B, d, S, e, k⟩ := q
  obtain ⟨x, ex, e⟩ := bind2 e
  obtain ⟨i, ei, e⟩ := bind2 e
  obtain ⟨j, ej, e⟩ := bind2 e
  refine ⟨H0, A0, G, ρ, B, x, S, ex, fun v H1 s1 r1 => ⟨H0, A0, G, ρ, B, i, S.mono s1, ei, fun H2 s2 => ⟨H0, A0, G, ρ, B, j, S.mono (s1.trans s2), ej, fun H3 s3 => ?_⟩⟩⟩
  have s13 := (s1.trans s2).trans s3
  have w := r1.toW.mono (s2.trans s3)
  unfold oSl at e
  split at e
  · cases e
    obtain ⟨p, xs, rfl, hp, r⟩ := w.lst
    exact .inl ⟨p, xs, rfl, .of hp, fun p hp => k _ _ (s13.trans (same_upd hp)) (Res.newL (S.mono s13).tr hp (r.cut _ _) s13)⟩
  · cases e
    obtain ⟨p, xs, rfl, hp, n, r⟩ := w.tup
    refine .inr ⟨p, xs, rfl, .of hp, fun z => ?_, fun z p hp => k _ _ (s13.trans (same_upd hp)) (Res.flat (Rp.newT (S.mono s13).tr hp (r.cut _ _)) rfl)⟩
    refine k _ _ s13 (Res.flat (.tup hp n ?_) rfl)
    have c := r.cut i j
    have hx : cutV xs i j = xs := by
      unfold cutV
      rw [z.1, z.2]
      simp
    rw [hx] at c
    exact c
  · cases e

/-! ### calls of built-ins by values -/
def rC (K : PySem.W.Frag) (m : Md) (g : List D → Option D) : List V → Hp → VK → Prop := fun vs H Q => ∃ A ds d, Tr A H ∧ Paired (WRp K A H) vs ds ∧ g ds = some d ∧ ∀ v H', Same H H' → Res K A H H' m v d → Q v H'
def xCall (g : List D → Option D) (fs : XL) : Xp := fun ρ => (fs ρ).bind g
theorem RpL.weak {K : PySem.W.Frag} {A : Addr → Prop} {H : Hp} {vs : List V} {ds : List D} (r : RpL K A H vs ds) : Paired (WRp K A H) vs ds := by
  induction ds generalizing vs with
  | nil => cases r; exact .nil
  | cons d ds ih => cases r with | cons h r => exact .cons (.inl h) (ih r)
theorem ResL.weak {K : PySem.W.Frag} {A : Addr → Prop} {H : Hp} {vs : List V} {ds : List D} (r : ResL K A H st vs ds) : Paired (WRp K A H) vs ds := by
  cases st with
  | true => exact RpL.weak r
  | false => exact r
theorem tCB_of {g : List D → Option D} (σ : L2.St) (H : Hp) (Q : VK) (q : simT X.K O m (xCall g fs) σ H Q) : tCB (rC X.K m g) (simA X.K O st fs) σ H Q := by
  obtain ⟨H0, A0, G, ρ, B, d, S, e, k⟩ := q
  obtain ⟨x, ex, e⟩ := bind2 e
  exact ⟨H0, A0, G, ρ, B, x, S, ex, fun vs H1 s1 r1 => ⟨Av A0 B, x, d, (S.mono s1).tr, r1.weak, e, fun v H' s r => k v H' (s1.trans s) (r.back s1)⟩⟩
theorem se_callB {x : Str} {p : Pos} {id : String} {g : List D → Option D} (hc : CallR X (.builtin id) (rC X.K m g)) (hm : X.mg x = none) (ha : SA X O st (e :: es) fs) (hg : Gl X x := by rfl) (hv : bootBuiltins x = some (.builtin id) := by rfl) (hn : x ≠ "__name__" := by decide) (hdb : (x == ("__debug__" : Str)) = false := by decide)
    (he : starEach (e :: es) X.env = (false, eval e X.env) :: starEach es X.env := by rfl) (hpl : (backTo pos (starEach es X.env)).any (·.1) = false := by rfl) : SE X O m (.Call (.Name x p) (e :: es) [] pos) (xCall g fs) :=
  ⟨pe_imp (pe_callB hc hg hm hv ha.pa hn hdb he hpl) tCB_of⟩
theorem se_callT {x : Str} {p : Pos} {id : String} {g : List D → Option D} (hc : CallR X (.type id) (rC X.K m g)) (hm : X.mg x = none) (ha : SA X O st (e :: es) fs) (hg : Gl X x := by rfl) (hv : bootBuiltins x = some (.type id) := by rfl) (hn : x ≠ "__name__" := by decide) (hdb : (x == ("__debug__" : Str)) = false := by decide)
    (he : starEach (e :: es) X.env = (false, eval e X.env) :: starEach es X.env := by rfl) (hpl : (backTo pos (starEach es X.env)).any (·.1) = false := by rfl) : SE X O m (.Call (.Name x p) (e :: es) [] pos) (xCall g fs) :=
  ⟨pe_imp (pe_callTy hc hg hm hv ha.pa hn hdb he hpl) tCB_of⟩

/-! ### calls of defs -/
mutual
def flat : D → Bool
  | .list _ => false
  | .dict _ => false
  | .tuple xs => flatL xs
  | .none => true
  | .bool _ => true
  | .int _ => true
  | .str _ => true
def flatL : List D → Bool
  | [] => true
  | x :: xs => flat x && flatL xs
end
mutual
theorem Rp.flatA {K : PySem.W.Frag} {A A' : Addr → Prop} {H : Hp} (t : Tr A' H) : ∀ {v : V} {d : D}, Rp K A H v d → flat d = true → Rp K A' H v d
  | _, _, .non, _ => .non
  | _, _, .bl b, _ => .bl b
  | _, _, .int i, _ => .int i
  | _, _, .str x, _ => .str x
  | _, _, .lst h n r, c => by simp [flat] at c
  | _, _, .tup h n r, c => .tup h (fun z => by
      obtain ⟨o, e, nt⟩ := t _ z
      rw [h] at e
      cases e
      exact nt _ rfl) (RpL.flatA t r (by simpa [flat] using c))
  | _, _, .scr h n r, c => by simp [flat] at c
  | _, _, .kl h r, c => by simp [flat] at c
  | _, _, .dic h n r e, c => by simp [flat] at c
theorem RpL.flatA {K : PySem.W.Frag} {A A' : Addr → Prop} {H : Hp} (t : Tr A' H) : ∀ {vs : List V} {ds : List D}, RpL K A H vs ds → flatL ds = true → RpL K A' H vs ds
  | _, _, .nil, _ => .nil
  | _, _, .cons h r, c => by
    simp only [flatL, Bool.and_eq_true] at c
    exact .cons (Rp.flatA t h c.1) (RpL.flatA t r c.2)
end
theorem flat_mut {d : D} (h : flat d = true) : isMut d = false := by
  cases d <;> simp_all [flat, isMut]
def spD (K : PySem.W.Frag) (n : Nat) (F : List D → Option D) : Sp := fun vs H Q _ => ∃ A ds d, Tr A H ∧ vs.length = n ∧ RpL K A H vs ds ∧ F ds = some d ∧ ∀ v H', Same H H' → Rp K A H' v d → Q v H'
/-- a def of the text, with its function -/
structure Def (P : Program) (w : World) (K : PySem.W.Frag) (mg : Str → Option Value) (base : Heap) (k : Nat) (x : Str) (ps : List Str) (F : List D → Option D) : Prop where
  ex : ∃ f fd, FnOk P w K mg base CX0 k f fd ps (spD K ps.length F) ∧ mg x = some (.ref f) ∧ PySem.W.keepIn K (.ref f) = true ∧ Binds K fd ps []
theorem Def.mono {P : Program} {w : World} {K : PySem.W.Frag} {mg : Str → Option Value} {base : Heap} {k k' : Nat} {x : Str} {ps : List Str} {F : List D → Option D} (h : Def P w K mg base k x ps F) (hk : k ≤ k') : Def P w K mg base k' x ps F :=
  let ⟨f, fd, h1, h2⟩ := h.ex; ⟨f, fd, h1.mono hk, h2⟩
variable {k j : Nat} {x : Str} {ps : List Str} {F : List D → Option D} {p : Pos}
theorem se_call (hd : Def X.prog X.w X.K X.mg X.base k x ps F) (hr : Room j X.A) (ha : SA X O true (e :: es) fs) (hk : k ≤ j := by decide) (hl : (e :: es).length = ps.length := by rfl) (hg : Gl X x := by rfl) (hdb : (x == ("__debug__" : Str)) = false := by decide)
    (he : starEach (e :: es) X.env = (false, eval e X.env) :: starEach es X.env := by rfl) (hpl : (backTo pos (starEach es X.env)).any (·.1) = false := by rfl) : SE X O .s (.Call (.Name x p) (e :: es) [] pos) (xCall (fun ds => if ds.length = ps.length then F ds else none) fs) := by
  obtain ⟨f, fd, hF, hm, kp, hb⟩ := hd.ex
  refine ⟨pe_imp (pe_call hF (hr.mono hk) hg hm kp hb .nil pass0 ha.pa hdb he hpl) fun σ H Q q => ?_⟩
  obtain ⟨H0, A0, G, ρ, B, d, S, e, k⟩ := q
  obtain ⟨ds, ex, e⟩ := bind2 e
  split at e
  · rename_i hz
    refine ⟨H0, A0, G, ρ, B, ds, S, ex, fun vs H1 s1 (r1 : RpL _ _ _ _ _) => ⟨Av A0 B, ds, d, (S.mono s1).tr, ?_, ?_, e, fun v H' s r => k v H' (s1.trans s) r⟩⟩
    · rw [List.append_nil, r1.length, hz]
    · rw [List.append_nil]; exact r1
  · cases e
theorem WRp.rp0 {K : PySem.W.Frag} {A : Addr → Prop} {H : Hp} {v : V} {d : D} (h : WRp K A H v d) : Rp K (fun _ => False) H v d := by
  rcases h with h | ⟨a, e, h⟩
  · exact h.anti fun _ z => z.elim
  · subst e
    exact (h.step (fun _ _ q _ => q) (fun _ z => z.elim) fun _ q => q : Tp K (fun _ => False) H a d).rp fun z => z
theorem weak_rp0 {K : PySem.W.Frag} {A : Addr → Prop} {H : Hp} : ∀ {vs : List V} {ds : List D}, Paired (WRp K A H) vs ds → RpL K (fun _ => False) H vs ds
  | _, _, .nil => .nil
  | _, _, .cons h r => .cons h.rp0 (weak_rp0 r)
/-- a call to which one's own lists go: what comes back holds no list -/
theorem se_callW (hd : Def X.prog X.w X.K X.mg X.base k x ps F) (hr : Room j X.A) (ha : SA X O false (e :: es) fs) (hk : k ≤ j := by decide) (hg : Gl X x := by rfl) (hdb : (x == ("__debug__" : Str)) = false := by decide)
    (he : starEach (e :: es) X.env = (false, eval e X.env) :: starEach es X.env := by rfl) (hpl : (backTo pos (starEach es X.env)).any (·.1) = false := by rfl) : SE X O .f (.Call (.Name x p) (e :: es) [] pos) (xCall (fun ds => if ds.length = ps.length then (F ds).bind fun d => if flat d then some d else none else none) fs) := by
  obtain ⟨f, fd, hF, hm, kp, hb⟩ := hd.ex
  refine ⟨pe_imp (pe_call hF (hr.mono hk) hg hm kp hb .nil pass0 ha.pa hdb he hpl) fun σ H Q q => ?_⟩
  obtain ⟨H0, A0, G, ρ, B, d, S, e, k⟩ := q
  obtain ⟨ds, ex, e⟩ := bind2 e
  split at e
  · rename_i hz
    obtain ⟨d', e', e⟩ := bind2 e
    split at e
    · rename_i hf
      cases e
      refine ⟨H0, A0, G, ρ, B, ds, S, ex, fun vs H1 s1 r1 => ⟨fun _ => False, ds, d, fun _ z => z.elim, ?_, ?_, e', fun v H' s r => k v H' (s1.trans s) (Res.flat (r.flatA (S.mono (s1.trans s)).tr hf) (flat_mut hf))⟩⟩
      · rw [List.append_nil, (weak_rp0 r1).length, hz]
      · rw [List.append_nil]; exact weak_rp0 r1
    · cases e
  · cases e
end
end Pm

namespace Pm
open PySem PySem.Spec PyProof.Rows L2

/-! ### what the built-ins do -/
def seqD : D → Option (List D)
  | .list xs => some xs
  | .tuple xs => some xs
  | _ => none
def asInts : List D → Option (List Int)
  | [] => some []
  | .int i :: r => (asInts r).map (i :: ·)
  | _ => none
def asBools : List D → Option (List Bool)
  | [] => some []
  | .bool i :: r => (asBools r).map (i :: ·)
  | _ => none
def bLen : List D → Option D
  | [.list xs] => some (.int xs.length)
  | [.tuple xs] => some (.int xs.length)
  | [.dict [(.none, .list xs)]] => some (.int xs.length)
  | _ => none
def bAbs : List D → Option D
  | [.int i] => some (.int (if i < 0 then -i else i))
  | _ => none
def bInt : List D → Option D
  | [.int i] => some (.int i)
  | [.bool b] => some (.int (if b then 1 else 0))
  | _ => none
def bMax2 : List D → Option D
  | [.int i, .int j] => some (.int (if j > i then j else i))
  | _ => none
def bMin2 : List D → Option D
  | [.int i, .int j] => some (.int (if j < i then j else i))
  | _ => none
def bSum : List D → Option D
  | [x] => (seqD x).bind fun xs => (asInts xs).map fun ns => .int ns.sum
  | _ => none
def bAll : List D → Option D
  | [x] => (seqD x).bind fun xs => (asBools xs).map fun ns => .bool (ns.all id)
  | _ => none
def bAny : List D → Option D
  | [x] => (seqD x).bind fun xs => (asBools xs).map fun ns => .bool (ns.any id)
  | _ => none
def bTuple : List D → Option D
  | [x] => (seqD x).map .tuple
  | _ => none
def bList : List D → Option D
  | [x] => (seqD x).map .list
  | _ => none

section
variable {K : PySem.W.Frag} {A : Addr → Prop} {H H' : Hp} {v : V} {d : D} {vs : List V} {ds : List D}
theorem p1 {F : V → D → Prop} {x : D} (h : Paired F vs [x]) : ∃ v, vs = [v] ∧ F v x := by
  cases h with
  | cons a r => cases r; exact ⟨_, rfl, a⟩
theorem p2 {F : V → D → Prop} {x y : D} (h : Paired F vs [x, y]) : ∃ v u, vs = [v, u] ∧ F v x ∧ F u y := by
  cases h with
  | cons a r =>
    cases r with
    | cons b r => cases r; exact ⟨_, _, rfl, a, b⟩
theorem WRp.seq {xs : List D} (h : WRp K A H v d) (e : seqD d = some xs) : ∃ a vs, v = .ref a ∧ (H a = some (.lst vs) ∨ H a = some (.tup vs)) ∧ RpL K A H vs xs := by
  unfold seqD at e
  split at e
  · cases e
    obtain ⟨a, vs, e1, e2, e3⟩ := h.lst
    exact ⟨a, vs, e1, .inl e2, e3⟩
  · cases e
    obtain ⟨a, vs, e1, e2, _, e3⟩ := h.tup
    exact ⟨a, vs, e1, .inr e2, e3⟩
  · cases e
theorem RpL.ints : ∀ {vs : List V} {ds : List D} {ns : List Int}, RpL K A H vs ds → asInts ds = some ns → vs = ns.map V.int
  | _, _, _, .nil, e => by cases e; rfl
  | _, _, ns, .cons h r, e => by
    cases h with
    | int i =>
      simp only [asInts] at e
      obtain ⟨ms, e1, e2⟩ := Option.map_eq_some_iff.mp e
      subst e2
      rw [RpL.ints r e1]
      rfl
    | _ => simp [asInts] at e
theorem RpL.bools : ∀ {vs : List V} {ds : List D} {ns : List Bool}, RpL K A H vs ds → asBools ds = some ns → vs = ns.map V.bl
  | _, _, _, .nil, e => by cases e; rfl
  | _, _, ns, .cons h r, e => by
    cases h with
    | bl i =>
      simp only [asBools] at e
      obtain ⟨ms, e1, e2⟩ := Option.map_eq_some_iff.mp e
      subst e2
      rw [RpL.bools r e1]
      rfl
    | _ => simp [asBools] at e
end

/-! ### a list or a tuple, walked -/
section
variable {X : Cx} {pins : List (Addr × Obj)} {σ : L2.St} {H : Hp} {s : Shared}
/-- the iterator of a list or a tuple -/
theorem sq_iter {A : Around} {E : Value → Shared → Prop} {a : Addr} {xs : List V} {Q : Value → Shared → Prop} (hh : A.handled = none) (I : Inv X pins σ H s) (h : H a = some (.lst xs) ∨ H a = some (.tup xs))
    (k : ∀ (its : List Value) (J : Addr) (fp wr : List Addr) (St : Nat → Heap → Prop) (h₂ : Heap), Vals xs its → Walks X.prog X.w A J fp wr its.length (fun i v => its[i]? = some v) St → St 0 h₂ → (∀ b ∈ fp, b < h₂.objs.size) →
      (∀ h' : Heap, (∀ b o, b ∉ wr → h₂.get? b = some o → h'.get? b = some o) → ∀ b o, s.heap.get? b = some o → h'.get? b = some o) → Q (.ref J) { s with heap := h₂ }) :
    wpAny (model X.prog X.w) A (pyIter (.ref a)) Q E s := by
  have fin : ∀ (o : Obj) (h' : Heap), (∀ b q, b ∉ [s.heap.objs.size] → (s.heap.push o).get? b = some q → h'.get? b = some q) → ∀ b q, s.heap.get? b = some q → h'.get? b = some q := fun o h' hk b q e =>
    hk b q (fun z => by
      have z' : b = s.heap.objs.size := by simpa using z
      exact absurd (z' ▸ Heap.lt_size e) (Nat.lt_irrefl _)) (Heap.get?_push_of_some _ e)
  have small : ∀ (o : Obj) (l : Addr), l < s.heap.objs.size → ∀ b ∈ [s.heap.objs.size, l], b < (s.heap.push o).objs.size := fun o l hl b hb => by
    rw [Heap.size_push]
    have z : b = s.heap.objs.size ∨ b = l := by simpa using hb
    rcases z with z | z
    · rw [z]; exact Nat.lt_succ_self _
    · rw [z]; exact Nat.lt_succ_of_lt hl
  rcases h with h | h
  · obtain ⟨its, rv, p, hz⟩ := I.list (.of h)
    have hlt : a < s.heap.objs.size := p.lt
    refine wpAny_pyIter_list p.isList ?_
    have W := Walks.list (prog := X.prog) (w := X.w) hh s.heap.objs.size a (Nat.ne_of_lt hlt) its.toArray
    refine k its _ [s.heap.objs.size, a] [s.heap.objs.size] (fun i h => h.IsListIter s.heap.objs.size a i ∧ h.IsList a its.toArray) _ rv (by simpa using W) ⟨⟨_, Heap.get?_push_size _ rfl, rfl, rfl⟩, p.isList.push _⟩ (small _ _ hlt) (fin _)
  · obtain ⟨its, rv, p, hz⟩ := I.tuple (.of h)
    have hlt : a < s.heap.objs.size := p.lt
    refine wpAny_pyIter_tuple (show s.heap.IsTuple a its.toArray from p) ?_
    have W := Walks.tuple (prog := X.prog) (w := X.w) hh s.heap.objs.size a (Nat.ne_of_lt hlt) its.toArray
    obtain ⟨o, ho, r⟩ := id p
    refine k its _ [s.heap.objs.size, a] [s.heap.objs.size] (fun i h => h.IsTupleIter s.heap.objs.size a i ∧ h.IsTuple a its.toArray) _ rv (by simpa using W) ⟨⟨_, Heap.get?_push_size _ rfl, rfl, rfl⟩, ⟨o, Heap.get?_push_of_some _ ho, r⟩⟩ (small _ _ hlt) (fin _)
end

section
variable {X : Cx} {k : Nat}
theorem ref1 {a : Addr} {us : List Value} (r : Vals [V.ref a] us) : us = [Value.ref a] := Vals.ref1 r
theorem cb_len : CallR X (.builtin "len") (rC X.K .f bLen) := by
  intro pins s σ H vs us Q I r ⟨A, ds, d, tr, w, e, q⟩
  unfold bLen at e
  split at e
  · cases e
    obtain ⟨v, rfl, w1⟩ := p1 w
    obtain ⟨a, xs, rfl, ha, ra⟩ := w1.lst
    exact call_len_seq pins s σ H _ us Q I r ⟨a, xs, rfl, .inl (.of ha), by rw [ra.length]; exact q _ H (Same.refl H) Res.int⟩
  · cases e
    obtain ⟨v, rfl, w1⟩ := p1 w
    obtain ⟨a, xs, rfl, ha, _, ra⟩ := w1.tup
    exact call_len_seq pins s σ H _ us Q I r ⟨a, xs, rfl, .inr (.of ha), by rw [ra.length]; exact q _ H (Same.refl H) Res.int⟩
  · cases e
    obtain ⟨v, rfl, w1⟩ := p1 w
    obtain ⟨a, xs, rfl, ha, ra⟩ := w1.scr
    exact call_len_seq pins s σ H _ us Q I r ⟨a, xs, rfl, .inl ha, by rw [ra.length]; exact q _ H (Same.refl H) Res.int⟩
  · cases e
theorem cb_abs : CallR X (.builtin "abs") (rC X.K .f bAbs) := by
  intro pins s σ H vs us Q I r ⟨A, ds, d, tr, w, e, q⟩
  unfold bAbs at e
  split at e
  · cases e
    obtain ⟨v, rfl, w1⟩ := p1 w
    exact call_abs pins s σ H _ us Q I r ⟨_, by rw [w1.int], q _ H (Same.refl H) Res.int⟩
  · cases e
theorem cb_int : CallR X (.type "int") (rC X.K .f bInt) := by
  intro pins s σ H vs us Q I r ⟨A, ds, d, tr, w, e, q⟩
  unfold bInt at e
  split at e
  · cases e
    obtain ⟨v, rfl, w1⟩ := p1 w
    exact call_int1 pins s σ H _ us Q I r (.inl ⟨_, by rw [w1.int], q _ H (Same.refl H) Res.int⟩)
  · cases e
    obtain ⟨v, rfl, w1⟩ := p1 w
    exact call_int1 pins s σ H _ us Q I r (.inr ⟨_, by rw [w1.bl], q _ H (Same.refl H) Res.int⟩)
  · cases e
theorem cb_max2 (hc : X.calm = true := by rfl) : CallR X (.builtin "max") (rC X.K .f bMax2) := by
  intro pins s σ H vs us Q I r ⟨A, ds, d, tr, w, e, q⟩
  unfold bMax2 at e
  split at e
  · cases e
    obtain ⟨v, u, rfl, w1, w2⟩ := p2 w
    exact call_max2 hc pins s σ H _ us Q I r ⟨_, _, by rw [w1.int, w2.int], q _ H (Same.refl H) Res.int⟩
  · cases e
theorem cb_min2 (hc : X.calm = true := by rfl) : CallR X (.builtin "min") (rC X.K .f bMin2) := by
  intro pins s σ H vs us Q I r ⟨A, ds, d, tr, w, e, q⟩
  unfold bMin2 at e
  split at e
  · cases e
    obtain ⟨v, u, rfl, w1, w2⟩ := p2 w
    exact call_min2 hc pins s σ H _ us Q I r ⟨_, _, by rw [w1.int, w2.int], q _ H (Same.refl H) Res.int⟩
  · cases e
theorem intsAt {its : List Value} {ns : List Int} (r : Vals (ns.map V.int) its) (i : Nat) (v : Value) (h : its[i]? = some v) : ∃ t, v = .int (ns.getD i 0) t := by
  have hi := r.length
  rw [List.length_map] at hi
  have hlt : i < ns.length := by rw [hi]; exact (List.getElem?_eq_some_iff.mp h).1
  obtain ⟨u, e, q⟩ := r.get (i := i) (x := .int ns[i]) (by simp [hlt])
  rw [h] at e
  cases e
  obtain ⟨t, rfl⟩ := q
  exact ⟨t, by simp [hlt]⟩
theorem preSum_all (ns : List Int) : preSum (fun i => ns.getD i 0) ns.length = ns.sum := by
  have h : ∀ k, k ≤ ns.length → preSum (fun i => ns.getD i 0) k = (ns.take k).sum := by
    intro k
    induction k with
    | zero => intro _; rfl
    | succ k ih =>
      intro hk
      show preSum (fun i => ns.getD i 0) k + ns.getD k 0 = _
      rw [ih (by omega), List.take_succ, List.sum_append, List.getElem?_eq_getElem (by omega)]
      simp [List.getD_eq_getElem?_getD, List.getElem?_eq_getElem (show k < ns.length by omega)]
  rw [h _ (Nat.le_refl _), List.take_length]
theorem cb_sum (hc : X.calm = true := by rfl) : CallR X (.builtin "sum") (rC X.K .f bSum) := by
  intro pins s σ H vs us Q I r ⟨A, ds, d, tr, w, e, q⟩
  unfold bSum at e
  split at e
  · obtain ⟨v, rfl, w1⟩ := p1 w
    obtain ⟨xs, e1, e⟩ := bind2 e
    obtain ⟨ns, e2, e⟩ := Option.map_eq_some_iff.mp e
    subst e
    obtain ⟨a, vs, rfl, ha, ra⟩ := w1.seq e1
    rw [ref1 r]
    have hv := ra.ints e2
    subst hv
    refine call_sum_walkG (sq_iter (show X.A.in1.handled = none from I.ok.hd hc) I ha fun its J fp wr St h₂ rv W st hfp kp => ?_)
    have hl := rv.length
    rw [List.length_map] at hl
    refine ⟨_, _, _, _, _, _, fun i => ns.getD i 0, rfl, W, st, hfp, fun i v h => intsAt rv i v h, fun h' tk t' hk => ?_⟩
    rw [← hl, preSum_all]
    exact ⟨.int _, H, I.kept (kp h' hk), ⟨_, rfl⟩, q _ H (Same.refl H) Res.int⟩
  · cases e
theorem truths {prog : Program} {w : World} {A : Around} {bs : List Bool} {its : List Value} (e : its = bs.map Value.bool) : TruthOf prog w A (fun i v => its[i]? = some v) (fun i => bs.getD i false) := by
  have := truth_bools (prog := prog) (w := w) (A := A) e
  simpa using this
theorem cb_all (hc : X.calm = true := by rfl) : CallR X (.builtin "all") (rC X.K .f bAll) := by
  intro pins s σ H vs us Q I r ⟨A, ds, d, tr, w, e, q⟩
  unfold bAll at e
  split at e
  · obtain ⟨v, rfl, w1⟩ := p1 w
    obtain ⟨xs, e1, e⟩ := bind2 e
    obtain ⟨ns, e2, e⟩ := Option.map_eq_some_iff.mp e
    subst e
    obtain ⟨a, vs, rfl, ha, ra⟩ := w1.seq e1
    rw [ref1 r]
    have hv := ra.bools e2
    subst hv
    refine call_all_walk (sq_iter (show X.A.in1.handled = none from I.ok.hd hc) I ha fun its J fp wr St h₂ rv W st hfp kp => ?_)
    have hl := rv.length
    rw [List.length_map] at hl
    refine ⟨_, _, _, _, _, _, _, rfl, W, st, truths rv.bls, fun h' tk hk => ?_⟩
    rw [← hl, L2.all_range]
    exact ⟨.bl _, H, I.kept (kp h' hk), rfl, q _ H (Same.refl H) Res.bl⟩
  · cases e
theorem cb_any (hc : X.calm = true := by rfl) : CallR X (.builtin "any") (rC X.K .f bAny) := by
  intro pins s σ H vs us Q I r ⟨A, ds, d, tr, w, e, q⟩
  unfold bAny at e
  split at e
  · obtain ⟨v, rfl, w1⟩ := p1 w
    obtain ⟨xs, e1, e⟩ := bind2 e
    obtain ⟨ns, e2, e⟩ := Option.map_eq_some_iff.mp e
    subst e
    obtain ⟨a, vs, rfl, ha, ra⟩ := w1.seq e1
    rw [ref1 r]
    have hv := ra.bools e2
    subst hv
    refine call_any_walk (sq_iter (show X.A.in1.handled = none from I.ok.hd hc) I ha fun its J fp wr St h₂ rv W st hfp kp => ?_)
    have hl := rv.length
    rw [List.length_map] at hl
    refine ⟨_, _, _, _, _, _, _, rfl, W, st, truths rv.bls, fun h' tk hk => ?_⟩
    rw [← hl, L2.any_range]
    exact ⟨.bl _, H, I.kept (kp h' hk), rfl, q _ H (Same.refl H) Res.bl⟩
  · cases e
theorem cb_tuple : CallR X (.type "tuple") (rC X.K .f bTuple) := by
  intro pins s σ H vs us Q I r ⟨A, ds, d, tr, w, e, q⟩
  unfold bTuple at e
  split at e
  · obtain ⟨v, rfl, w1⟩ := p1 w
    obtain ⟨xs, e1, e⟩ := Option.map_eq_some_iff.mp e
    subst e
    unfold seqD at e1
    split at e1
    · cases e1
      obtain ⟨a, ys, rfl, ha, ra⟩ := w1.lst
      exact call_tuple_of pins s σ H _ us Q I r ⟨a, ys, rfl, .inl ⟨.of ha, fun l hl => q _ _ (same_upd hl) (Res.flat (Rp.newT tr hl ra) rfl)⟩⟩
    · cases e1
      obtain ⟨a, ys, rfl, ha, na, ra⟩ := w1.tup
      exact call_tuple_of pins s σ H _ us Q I r ⟨a, ys, rfl, .inr ⟨.of ha, q _ H (Same.refl H) (Res.flat (.tup ha na ra) rfl)⟩⟩
    · cases e1
  · cases e
theorem cb_list : CallR X (.type "list") (rC X.K .f bList) := by
  intro pins s σ H vs us Q I r ⟨A, ds, d, tr, w, e, q⟩
  unfold bList at e
  split at e
  · obtain ⟨v, rfl, w1⟩ := p1 w
    obtain ⟨xs, e1, e⟩ := Option.map_eq_some_iff.mp e
    subst e
    obtain ⟨a, ys, rfl, ha, ra⟩ := w1.seq e1
    refine call_list_of pins s σ H _ us Q I r ⟨a, ys, rfl, ha.elim (fun h => .inl (.of h)) (fun h => .inr (.of h)), fun l hl => q _ _ (same_upd hl) (Res.newL tr hl ra (Same.refl H))⟩
  · cases e

/-! ### isinstance of a written built-in type -/
def tyName : D → String
  | .none => "NoneType"
  | .bool _ => "bool"
  | .int _ => "int"
  | .str _ => "str"
  | .list _ => "list"
  | .tuple _ => "tuple"
  | .dict _ => "dict"
def oIsi (T : String) (d : D) : Option D := match d with
  | .dict _ => none
  | _ => (kitB (tyName d) T).map .bool
theorem WRp.ty {K : PySem.W.Frag} {A : Addr → Prop} {H : Hp} {v : V} {d : D} (w : WRp K A H v d) (h : ∀ kvs, d ≠ .dict kvs) : TyX K H v (.type (tyName d)) := by
  rcases w with w | ⟨a, e, w⟩
  · cases w with
    | non => exact .base .non
    | bl b => exact .base (.bl b)
    | int i => exact .base (.int i)
    | str x => exact .base (.str x)
    | lst e n r => exact .base (.lst e)
    | tup e n r => exact .base (.tup e)
    | scr e n r => exact absurd rfl (h _)
    | kl e r => exact absurd rfl (h _)
    | dic e n r q => exact absurd rfl (h _)
  · subst e
    cases w with
    | lst e r => exact .base (.lst e)
    | dic e r q => exact absurd rfl (h _)
section
variable {O : List Nat} {m : Md} {a : Expr} {fa : Xp} {p pos pt : Pos} {x T' : Str} {T : String}
theorem se_isi (T : String) (ha : SE X O m a fa) (hm : X.mg "isinstance" = none) (hmT : X.mg T' = none) (hg : Gl X "isinstance" := by rfl) (hgT : Gl X T' := by rfl) (hvT : bootBuiltins T' = some (.type T) := by rfl) (hnT : T' ≠ "__name__" := by decide) (hdT : (T' == ("__debug__" : Str)) = false := by decide)
    (hs : starEach (a :: [Expr.Name T' pt]) X.env = (false, eval a X.env) :: starEach [Expr.Name T' pt] X.env := by rfl) (hs2 : starEach [Expr.Name T' pt] X.env = (false, eval (.Name T' pt) X.env) :: starEach [] X.env := by rfl)
    (hpl : (backTo pos (starEach [Expr.Name T' pt] X.env)).any (·.1) = false := by rfl) : SE X O .f (.Call (.Name "isinstance" p) [a, .Name T' pt] [] pos) (xUn (oIsi T) fa) := by
  have hT : PE X (.Name T' pt) (tC (.ty T)) := pe_bltn hgT hmT hvT rfl hnT hdT
  refine ⟨pe_imp (pe_callB call_isi hg hm (by decide +kernel) (pa_cons ha.pe (pa_cons hT pa_nil hs2) hs) (by decide) (by decide) hs hpl) fun σ H Q q => ?_⟩
  obtain ⟨H0, A0, G, ρ, B, d, S, e, k⟩ := q
  obtain ⟨y, ey, e⟩ := bind2 e
  unfold oIsi at e
  split at e
  · cases e
  · rename_i hnd
    obtain ⟨b, eb, e⟩ := Option.map_eq_some_iff.mp e
    subst e
    refine ⟨H0, A0, G, ρ, B, y, S, ey, fun v H1 s1 r1 => ?_⟩
    exact ⟨v, .ty T, .type (tyName y), .type T, b, rfl, .ty T, r1.toW.ty hnd, kit_ty eb, k _ H1 s1 Res.bl⟩
end
end
end Pm

namespace Pm
open PySem PySem.Spec PyProof.Rows L2

/-! ### what is walked -/
structure Yl (K : PySem.W.Frag) (J : It) (gs : List (V × D)) (ds : List D) : Prop where
  go : ∀ A H i d, Tr A H → (∀ p ∈ gs, WRp K A H p.1 p.2) → ds[i]? = some d → J.go i H ∧ ∀ x H', J.yld i H x H' → Same H H' ∧ Rp K A H' x d
  stop : ∀ A H, Tr A H → (∀ p ∈ gs, WRp K A H p.1 p.2) → J.stop ds.length H
def strongR (K : PySem.W.Frag) (A : Addr → Prop) (H : Hp) (st : Bool) (v : V) (d : D) : Prop := if st then Rp K A H v d else WRp K A H v d
def simI (K : PySem.W.Frag) (O : List Nat) (st : Bool) (f : XL) : TI := fun σ H R => ∃ H0 A0 G ρ B ds, Sim K H0 A0 G O σ H ρ B ∧ f ρ = some ds ∧
  ∀ J H' gs, Same H H' → Yl K J gs ds → (∀ p ∈ gs, strongR K (Av A0 B) H' st p.1 p.2) → ds.length ≤ 16777216 → R J H'
structure SI (X : Cx) (O : List Nat) (st : Bool) (tg iter : Expr) (f : XL) : Prop where
  pi : PI X tg iter (simI X.K O st f)
theorem pi_imp {X : Cx} {tg e : Expr} {t t' : TI} (h : PI X tg e t) (hi : ∀ σ H Q, t' σ H Q → t σ H Q) : PI X tg e t' := ⟨fun pins s σ H Q I q => h.run pins s σ H Q I (hi _ _ _ q)⟩
theorem pi_or {X : Cx} {tg e : Expr} {t t' : TI} (h : PI X tg e t) (h' : PI X tg e t') : PI X tg e (fun σ H R => t σ H R ∨ t' σ H R) :=
  ⟨fun pins s σ H Q I q => q.elim (h.run pins s σ H Q I) (h'.run pins s σ H Q I)⟩
/-- lists and tuples are no longer than the line -/
def HpOk (H : Hp) : Prop := ∀ a xs, (H a = some (.lst xs) ∨ H a = some (.tup xs)) → xs.length ≤ 16777216
theorem hpok {X : Cx} {pins : List (Addr × Obj)} {σ : L2.St} {H : Hp} {s : Shared} (I : Inv X pins σ H s) : HpOk H := fun a xs h => by
  rcases h with h | h
  · have z : xs.length ≤ sizeLine := (I.hok a _ h).1
    exact z
  · have z : xs.length ≤ sizeLine := (I.hok a _ h).1
    exact z
theorem pe_ok {X : Cx} {e : Expr} {t : TE} (h : PE X e t) : PE X e (fun σ H Q => t σ H fun v H' => HpOk H' → Q v H') :=
  ⟨fun pins s σ H Q I q => thn (h.run pins s σ H _ I q) fun u s' ⟨v, H', I', r, q'⟩ => ⟨v, H', I', r, q' (hpok I')⟩⟩
theorem pa_ok {X : Cx} {e : List Expr} {t : TA} (h : PA X e t) : PA X e (fun σ H Q => t σ H fun v H' => HpOk H' → Q v H') :=
  ⟨fun pos pins s σ H Q I q => thn (h.run pos pins s σ H _ I q) fun u s' ⟨v, H', I', r, q'⟩ => ⟨v, H', I', r, q' (hpok I')⟩⟩
section
variable {X : Cx} {O : List Nat} {m ma mb mc : Md} {st : Bool} {a b c e tg : Expr} {es : List Expr} {fa fb fc f : Xp} {fs : XL} {pos p : Pos}
def xSeq (f : Xp) : XL := fun ρ => (f ρ).bind seqD
def mdS : Md → Bool
  | .w => false
  | _ => true
theorem Res.sR {K : PySem.W.Frag} {A : Addr → Prop} {He H' : Hp} {v : V} {d : D} (t : Tr A He) (h : Res K A He H' m v d) : strongR K A H' (mdS m) v d := by
  cases m with
  | w => exact h
  | s => exact h
  | f => exact h.toS t (by decide)
theorem strongR.w {K : PySem.W.Frag} {A : Addr → Prop} {H' : Hp} {v : V} {d : D} (h : strongR K A H' st v d) : WRp K A H' v d := by
  cases st with
  | true => exact .inl h
  | false => exact h
/-- a tracked list has one content -/
theorem sql_one {K : PySem.W.Frag} {H : Hp} {a : Addr} {xs ys : List V} (h : H a = some (.lst xs)) (h' : Rd H a (.lst ys)) : ys = xs := by
  rcases h' with h' | ⟨o, h'⟩
  · rw [h] at h'; cases h'; rfl
  · rw [h] at h'; cases h'
theorem si_seq (h : SE X O m e f) : SI X O (mdS m) tg e (xSeq f) := by
  refine ⟨pi_imp (pi_or (pi_list (pe_ok h.pe)) (pi_tup (pe_ok h.pe))) fun σ H R q => ?_⟩
  obtain ⟨H0, A0, G, ρ, B, ds, S, e, k⟩ := q
  obtain ⟨d, ed, e⟩ := bind2 e
  unfold seqD at e
  split at e
  · cases e
    refine .inl ⟨H0, A0, G, ρ, B, _, S, ed, fun v H1 s1 r1 ok => ?_⟩
    obtain ⟨a, xs, rfl, ha, ra⟩ := r1.toW.lst
    refine ⟨a, rfl, ⟨xs, .of ha⟩, k _ H1 [(.ref a, .list ds)] s1 ⟨fun A H i d t g e => ?_, fun A H t g => ?_⟩ (fun p hp => ?_) (by rw [← ra.length]; exact ok a xs (.inl ha))⟩
    · obtain ⟨b, ys, eb, hb, rb⟩ := (g _ (List.mem_singleton.mpr rfl)).lst
      cases eb
      obtain ⟨y, ey, ry⟩ := rb.get e
      refine ⟨⟨ys, y, .of hb, ey⟩, fun x H' hy => ?_⟩
      obtain ⟨rfl, hy⟩ := hy
      have := hy ys (.of hb)
      rw [ey] at this
      cases this
      exact ⟨Same.refl _, ry⟩
    · obtain ⟨b, ys, eb, hb, rb⟩ := (g _ (List.mem_singleton.mpr rfl)).lst
      cases eb
      exact ⟨ys, .of hb, by rw [rb.length]; exact Nat.le_refl _⟩
    · rw [List.mem_singleton.mp hp]
      exact r1.sR S.tr
  · cases e
    refine .inr ⟨H0, A0, G, ρ, B, _, S, ed, fun v H1 s1 r1 ok => ?_⟩
    obtain ⟨a, xs, rfl, ha, na, ra⟩ := r1.toW.tup
    refine ⟨a, rfl, ⟨xs, .of ha⟩, k _ H1 [(.ref a, .tuple ds)] s1 ⟨fun A H i d t g e => ?_, fun A H t g => ?_⟩ (fun p hp => ?_) (by rw [← ra.length]; exact ok a xs (.inr ha))⟩
    · obtain ⟨b, ys, eb, hb, nb, rb⟩ := (g _ (List.mem_singleton.mpr rfl)).tup
      cases eb
      obtain ⟨y, ey, ry⟩ := rb.get e
      refine ⟨⟨ys, y, .of hb, ey⟩, fun x H' hy => ?_⟩
      obtain ⟨rfl, hy⟩ := hy
      have := hy ys (.of hb)
      rw [ey] at this
      cases this
      exact ⟨Same.refl _, ry⟩
    · obtain ⟨b, ys, eb, hb, nb, rb⟩ := (g _ (List.mem_singleton.mpr rfl)).tup
      cases eb
      exact ⟨ys, .of hb, by rw [rb.length]; exact Nat.le_refl _⟩
    · rw [List.mem_singleton.mp hp]
      exact r1.sR S.tr
  · cases e
/-- lo, lo + c, .. -/
def rangeD (lo c : Int) (n : Nat) : List D := (List.range n).map fun i => .int (lo + (i : Nat) * c)
theorem rangeD_len (lo c : Int) (n : Nat) : (rangeD lo c n).length = n := by simp [rangeD]
theorem rangeD_get {lo c : Int} {n i : Nat} {d : D} (h : (rangeD lo c n)[i]? = some d) : i < n ∧ d = .int (lo + (i : Nat) * c) := by
  have hl : i < n := by
    have := (List.getElem?_eq_some_iff.mp h).1
    rwa [rangeD_len] at this
  refine ⟨hl, ?_⟩
  unfold rangeD at h
  rw [List.getElem?_map, List.getElem?_range hl] at h
  cases h
  rfl
def oR1 : List D → Option (List D)
  | [.int j] => if j ≤ 16777216 ∧ -(2 ^ 62) ≤ j then some (rangeD 0 1 j.toNat) else none
  | _ => none
def oR2 : List D → Option (List D)
  | [.int i, .int j] => if -(2 ^ 60) ≤ i ∧ i < 2 ^ 60 ∧ -(2 ^ 60) ≤ j ∧ j < 2 ^ 60 ∧ j - i ≤ 16777216 then some (rangeD i 1 (j - i).toNat) else none
  | _ => none
def oR3 : List D → Option (List D)
  | [.int i, .int j, .int (-1)] => if -(2 ^ 60) ≤ i ∧ i < 2 ^ 60 ∧ -(2 ^ 60) ≤ j ∧ j < 2 ^ 60 ∧ i - j ≤ 16777216 then some (rangeD i (-1) (i - j).toNat) else none
  | [.int i, .int j, .int c] => if RgOk i j c then some (rangeD i c (rgN i j c)) else none
  | _ => none
where
  rgN (i j c : Int) : Nat := (Builtin.Range.rangeSize i j c).toNat
  RgOk (i j c : Int) : Bool := decide (c ≠ 0) && decide (c.natAbs < 1073741824) && Builtin.Range.small i j c && decide (0 ≤ Builtin.Range.rangeSize i j c) && decide (Builtin.Range.rangeSize i j c ≤ 16777216)
def xIt (g : List D → Option (List D)) (fs : XL) : XL := fun ρ => (fs ρ).bind g
theorem yl_r {K : PySem.W.Frag} (lo : Int) (n : Nat) : Yl K (Itr lo n) [] (rangeD lo 1 n) where
  go := fun A H i d t g e => by
    obtain ⟨h1, h2⟩ := rangeD_get e
    subst h2
    refine ⟨h1, fun x H' hy => ?_⟩
    obtain ⟨rfl, rfl⟩ := hy
    refine ⟨Same.refl _, ?_⟩
    rw [Int.mul_one]
    exact .int _
  stop := fun A H t g => by
    rw [rangeD_len]
    exact Nat.le_refl _
theorem yl_c {K : PySem.W.Frag} (lo c : Int) (n : Nat) : Yl K (Itc lo c n) [] (rangeD lo c n) where
  go := fun A H i d t g e => by
    obtain ⟨h1, h2⟩ := rangeD_get e
    subst h2
    refine ⟨h1, fun x H' hy => ?_⟩
    obtain ⟨rfl, rfl⟩ := hy
    exact ⟨Same.refl _, .int _⟩
  stop := fun A H t g => by
    rw [rangeD_len]
    exact Nat.le_refl _
theorem p3 {F : V → D → Prop} {vs : List V} {x y z : D} (h : Paired F vs [x, y, z]) : ∃ v u w, vs = [v, u, w] ∧ F v x ∧ F u y ∧ F w z := by
  cases h with
  | cons a r =>
    obtain ⟨u, w, rfl, h1, h2⟩ := p2 r
    exact ⟨_, _, _, rfl, a, h1, h2⟩
theorem si_r1 (hm : X.mg "range" = none) (ha : SA X O st [a] fs) (hg : Gl X "range" := by rfl) (hs : starEach [a] X.env = [(false, eval a X.env)] := by rfl) : SI X O true tg (.Call (.Name "range" p) [a] [] pos) (xIt oR1 fs) := by
  refine ⟨pi_imp (pi_range1 hg hm ha.pa hs) fun σ H R q => ?_⟩
  obtain ⟨H0, A0, G, ρ, B, ds, S, e, k⟩ := q
  obtain ⟨d, ed, e⟩ := bind2 e
  unfold oR1 at e
  split at e
  · split at e
    · rename_i hz
      cases e
      refine ⟨H0, A0, G, ρ, B, _, S, ed, fun vs H1 s1 r1 => ?_⟩
      obtain ⟨v, rfl, w⟩ := p1 r1.weak
      exact ⟨_, by rw [w.int], hz.2, by omega, k _ H1 [] s1 (yl_r _ _) (fun p hp => nomatch hp) (by rw [rangeD_len]; omega)⟩
    · cases e
  · cases e
theorem si_r2 (hm : X.mg "range" = none) (ha : SA X O st [a, b] fs) (hg : Gl X "range" := by rfl) (hs : starEach [a, b] X.env = [(false, eval a X.env), (false, eval b X.env)] := by rfl) (hs2 : starEach [b] X.env = [(false, eval b X.env)] := by rfl) : SI X O true tg (.Call (.Name "range" p) [a, b] [] pos) (xIt oR2 fs) := by
  refine ⟨pi_imp (pi_range2 hg hm ha.pa hs hs2) fun σ H R q => ?_⟩
  obtain ⟨H0, A0, G, ρ, B, ds, S, e, k⟩ := q
  obtain ⟨d, ed, e⟩ := bind2 e
  unfold oR2 at e
  split at e
  · split at e
    · rename_i hz
      cases e
      refine ⟨H0, A0, G, ρ, B, _, S, ed, fun vs H1 s1 r1 => ?_⟩
      obtain ⟨v, u, rfl, w, w'⟩ := p2 r1.weak
      exact ⟨_, _, by rw [w.int, w'.int], ⟨by omega, by omega, by omega, by omega⟩, k _ H1 [] s1 (yl_r _ _) (fun p hp => nomatch hp) (by rw [rangeD_len]; omega)⟩
    · cases e
  · cases e
theorem si_r3 (hm : X.mg "range" = none) (ha : SA X O st [a, b, c] fs) (hg : Gl X "range" := by rfl) (hs : starEach [a, b, c] X.env = (false, eval a X.env) :: starEach [b, c] X.env := by rfl) (hpl : (backTo pos (starEach [b, c] X.env)).any (·.1) = false := by rfl) : SI X O true tg (.Call (.Name "range" p) [a, b, c] [] pos) (xIt oR3 fs) := by
  refine ⟨pi_imp (pi_range3 hg hm ha.pa hs hpl) fun σ H R q => ?_⟩
  obtain ⟨H0, A0, G, ρ, B, ds, S, e, k⟩ := q
  obtain ⟨d, ed, e⟩ := bind2 e
  unfold oR3 at e
  split at e
  · split at e
    · rename_i hz
      cases e
      refine ⟨H0, A0, G, ρ, B, _, S, ed, fun vs H1 s1 r1 => ?_⟩
      obtain ⟨v, u, w, rfl, w1, w2, w3⟩ := p3 r1.weak
      exact ⟨_, _, _, _, by rw [w1.int, w2.int, w3.int], RgC.neg (by omega) (by omega) (by omega) (by omega), k _ H1 [] s1 (yl_c _ _ _) (fun p hp => nomatch hp) (by rw [rangeD_len]; omega)⟩
    · cases e
  · split at e
    · rename_i hz
      cases e
      refine ⟨H0, A0, G, ρ, B, _, S, ed, fun vs H1 s1 r1 => ?_⟩
      obtain ⟨v, u, w, rfl, w1, w2, w3⟩ := p3 r1.weak
      unfold oR3.RgOk at hz
      simp only [Bool.and_eq_true, decide_eq_true_eq] at hz
      obtain ⟨⟨⟨⟨z1, z2⟩, z3⟩, z4⟩, z5⟩ := hz
      refine ⟨_, _, _, oR3.rgN _ _ _, by rw [w1.int, w2.int, w3.int], ⟨z1, z2, z3, ?_⟩, k _ H1 [] s1 (yl_c _ _ _) (fun p hp => nomatch hp) ?_⟩
      · unfold oR3.rgN
        omega
      · rw [rangeD_len]
        unfold oR3.rgN
        omega
    · cases e
  · cases e
/-- enumerate of a list -/
def enumD (xs : List D) : List D := (List.range xs.length).zipWith (fun i x => .tuple [.int (i : Nat), x]) xs
theorem enumD_len (xs : List D) : (enumD xs).length = xs.length := by simp [enumD]
theorem enumD_get {xs : List D} {i : Nat} {d : D} (h : (enumD xs)[i]? = some d) : ∃ x, xs[i]? = some x ∧ d = .tuple [.int (i : Nat), x] := by
  have hl : i < xs.length := by
    have := (List.getElem?_eq_some_iff.mp h).1
    rwa [enumD_len] at this
  refine ⟨xs[i], List.getElem?_eq_getElem hl, ?_⟩
  unfold enumD at h
  rw [List.getElem?_zipWith, List.getElem?_range hl, List.getElem?_eq_getElem hl] at h
  cases h
  rfl
theorem sqOne {K : PySem.W.Frag} {H : Hp} {a : Addr} {xs : List V} (h : H a = some (.lst xs)) {P : List V → Prop} (p : ∀ ys, SqL K H a ys → P ys) : P xs := p xs (.of h)
end
end Pm

/-! enumerate of a tuple, as a Turn -/
namespace Pm
open PySem PySem.Spec PyProof.Rows L2
set_option maxHeartbeats 1000000 in
theorem meets_enum1 {v : Value} {ob : Obj} {Hy : Heap → Prop} (Bg : Begins v ob Hy) :
    Meets (Builtin.«enumerate.__new__» ⟨[.type "enumerate", v], []⟩) (fun _ R s => Hy s.heap ∧
      R (.ok (.ret (.ref (s.heap.push ob).objs.size))) { s with heap := (s.heap.push ob).push { cls := .type "enumerate", data := .fields #[.none, .bool false, .ref s.heap.objs.size, rawInt 0, .none, .none] } }) :=
  .of_wp fun prog w A R s z => by
    obtain ⟨hp, gs, dr, tks, ost⟩ := s; obtain ⟨z1, z⟩ := z
    have hsub := sub_enumerate
    have run : ∀ {A' : Around} {E : Value → Shared → Prop} {Q : Value → Shared → Prop}, Q (.ref hp.objs.size) ⟨hp.push ob, gs, dr, tks, ost⟩ → wpAny (model prog w) A' (pyIter v) Q E ⟨hp, gs, dr, tks, ost⟩ :=
      fun q => Bg.iter prog w _ _ ⟨hp, gs, dr, tks, ost⟩ _ z1 q
    wp_walk using run
    refine wpAny_stack_any fun stk => wpAny_pure ?_
    split
    · rename_i cc _ _ _ _ _
      cases (cc == Value.type "enumerate") <;> (wp_walk using run) <;> exact ⟨_, rfl, z⟩
    · wp_walk using run
      exact ⟨_, rfl, z⟩
section
variable {prog : Program} {w : World} {A : Around} {E : Value → Shared → Prop} {s : Shared}
theorem enum_one {v : Value} {ob : Obj} {Hy : Heap → Prop} {Q : Value → Shared → Prop} (Bg : Begins v ob Hy) (z1 : Hy s.heap)
    (k : ∀ hh, IsEnum hh (s.heap.objs.size + 1) s.heap.objs.size 0 .none → hh.get? s.heap.objs.size = some ob → (∀ b o, s.heap.get? b = some o → hh.get? b = some o) → Q (.ref (s.heap.objs.size + 1)) { s with heap := hh }) :
    wpAny (model prog w) A (call (.type "enumerate") [v]) Q E s := by
  refine callType_new F.called_enumerate (by decide) (F.typeCall_enumerate_1 _) (F.newCall_enumerate_1 _) (fun obj => F.args_object_init_2 obj _) F.entry_enumerate_new (meets_enum1 Bg) ⟨z1, ?_⟩
  have sz : (s.heap.push ob).objs.size = s.heap.objs.size + 1 := Heap.size_push ..
  have ie : IsEnum ((s.heap.push ob).push { cls := .type "enumerate", data := .fields #[.none, .bool false, .ref s.heap.objs.size, rawInt 0, .none, .none] }) (s.heap.objs.size + 1) s.heap.objs.size 0 .none := by
    rw [← sz]
    exact Heap.get?_push_size _ rfl
  show _ ∧ _
  rw [sz]
  exact ⟨⟨_, ie, rfl⟩, k _ ie (Heap.get?_push_of_some _ (Heap.get?_push_size _ Bg.free)) fun b o x => Heap.get?_push_of_some _ (Heap.get?_push_of_some _ x)⟩
end
/-- the tuple at a, each item in a new pair -/
def ItE (K : PySem.W.Frag) (a : Addr) : It where
  go := fun i H => ∃ (xs : List V) (x : V), SqT K H a xs ∧ xs[i]? = some x
  yld := fun i H v H' => ∃ T x, v = .ref T ∧ H T = none ∧ H' = upd H T (.tup [.int (i : Nat), x]) ∧ ∀ xs, SqT K H a xs → xs[i]? = some x
  stop := fun i H => ∃ xs : List V, SqT K H a xs ∧ xs.length ≤ i
theorem turn_enumTup {P : Program} {w : World} {K : PySem.W.Frag} {elts : List Expr} {kk : Nat} {tpos : Pos} (a e it : Addr) :
    Turn P w K (.Tuple elts kk tpos) (ItE K a) [e, it] e (fun i h => (∃ old, IsEnum h e it ((0 : Int) + ((i : Nat) : Int)) old) ∧ h.IsTupleIter it a i ∧ e ≠ it ∧ a ≠ it) where
  mem := List.mem_cons_self
  obj := by
    intro i h ⟨⟨old, he⟩, ⟨o, ho, hc, hd⟩, _⟩ b hb
    have hb' : b = e ∨ b = it := by simpa using hb
    rcases hb' with rfl | rfl
    · exact ⟨_, he, fun v q => nomatch q⟩
    · exact ⟨o, ho, fun v q => by rw [hd] at q; cases q⟩
  keep := by
    intro i h h' ⟨⟨old, he⟩, hi, hne⟩ k
    exact ⟨⟨old, k e (by simp) _ he⟩, hi.at fun o q => k it (by simp) o q, hne⟩
  item := by
    intro X hP hw hK hc i pins s σ H E I hf st hg
    subst hP hw hK
    obtain ⟨⟨old, he⟩, hit, hne, hat⟩ := st
    obtain ⟨xs, x, hq, hx⟩ := hg
    obtain ⟨its, rv, p, hz⟩ := I.tuple hq
    obtain ⟨u, hu, ru⟩ := rv.get hx
    have hi : i < its.length := (List.getElem?_eq_some_iff.mp hu).1
    have el : e < s.heap.objs.size := Heap.lt_size he
    have il : it < s.heap.objs.size := by
      obtain ⟨_, q, _⟩ := hit
      exact Heap.lt_size q
    have nef : e ∉ [it, a] := fun z => by
      have z' : e = it ∨ e = a := by simpa using z
      rcases z' with z' | z'
      · exact hne z'
      · obtain ⟨o, ho, hcl, _⟩ := p
        rw [← z'] at ho
        have := he.symm.trans ho
        cases this
        exact absurd (Value.type.inj hcl) (by decide)
    have Dr := Draws.tuple (prog := X.prog) (w := X.w) (A := X.A.in1) (I.ok.hd hc) it a hat its.toArray
    refine wpAny_pyNext_enum_itemC Dr he ⟨hit, p⟩ (by simpa using hi) hne nef fun y h' tk hy ho st' hT hsz hk => ?_
    have ey : y = u := by
      have hy' : its[i]? = some y := by simpa using hy
      rw [hu] at hy'
      exact (Option.some.inj hy').symm
    subst ey
    refine ⟨_, rfl, wpAny_letOwnedTupleGo_enum (s := { s with heap := h', toks := tk + 1 }) ho fun h'' he' sb => ?_⟩
    have hT2 : h''.get? s.heap.objs.size = some { cls := .type "tuple", data := .seq #[.int ((0 : Int) + ((i : Nat) : Int)) tk, y] } := (sb.2 _ (Nat.ne_of_gt el)).trans hT
    have ob : ObjOk X.prog X.w (upd H s.heap.objs.size (.tup [.int (i : Nat), x])) h'' s.heap.objs.size (.tup [.int (i : Nat), x]) :=
      ⟨by show 2 ≤ sizeLine; decide, [.int ((0 : Int) + ((i : Nat) : Int)) tk, y], .cons ⟨tk, by rw [Int.zero_add]⟩ (.cons ru .nil), ⟨_, hT2, rfl, _, rfl⟩⟩
    have J : Inv X pins σ (upd H s.heap.objs.size (.tup [.int (i : Nat), x])) { s with heap := h'', toks := tk + 1 } :=
      I.turnedNew (ch := [e, it]) (fun b q hb e1 => (sb.2 b (fun z => hb (by simp [z]))).trans (hk b q (fun z => hb (by simp [z])) (fun z => hb (by simp [z])) e1)) hf (Nat.le_refl _) ob
    refine ⟨.ref s.heap.objs.size, _, J, rfl, ⟨_, x, rfl, I.hok.fresh (Nat.le_refl _), rfl, fun ys hy => by rw [I.tuple_inj hy hq]; exact hx⟩, ⟨⟨y, ?_⟩, st'.1.at fun o q => (sb.2 it (Ne.symm hne)).trans q, hne, hat⟩, fun b hb => ?_⟩
    · have e1 : (0 : Int) + ((i + 1 : Nat) : Int) = (0 : Int) + (i : Int) + 1 := by omega
      rw [e1]
      exact he'
    · have lb : b < s.heap.objs.size := by
        have z : b = e ∨ b = it := by simpa using hb
        rcases z with rfl | rfl
        · exact el
        · exact il
      rw [upd_ne (Nat.ne_of_lt lb)]
      exact (hf b hb).1
  done := by
    intro X hP hw hK hc i pins s σ H E I hf st hg
    subst hP hw hK
    obtain ⟨⟨old, he⟩, hit, hne, hat⟩ := st
    obtain ⟨xs, hq, hx⟩ := hg
    obtain ⟨its, rv, p, hz⟩ := I.tuple hq
    obtain ⟨f0, f1, f2, f3, f4, f5⟩ := hf it (by simp)
    have hl := rv.length
    have hh : X.A.in1.in1.handled = none := I.ok.hd hc
    refine wpAny_pyNext_enum_endD (n := i) (St := fun j h => j = i ∧ h.IsTupleIter it a i ∧ h.IsTuple a its.toArray) (P := fun _ _ => True) (fp := [it, a]) ?_ he ⟨rfl, hit, p⟩ fun h' eb => ⟨rfl, I.turned (t' := s.toks) (fun b o hb q => eb b o hb q) f0 f1 f3 f4 f5⟩
    refine ⟨fun _ _ st => let ⟨o, ho, _⟩ := st.2.1; ⟨o, ho⟩, fun _ _ _ st hk => ⟨st.1, st.2.1.at fun o e => hk it (by simp) o e, st.2.2.at fun o e => hk a (by simp) o e⟩, ?_, ?_⟩
    · intro j s' Q E' hj st' hQ
      exact absurd st'.1 (Nat.ne_of_lt hj)
    · intro s' Q E' st' hE
      exact wpAny_nextOf_tuple_end hh st'.2.1 st'.2.2 (by simp; omega) hE
  self := fun A i s Q E st h => let ⟨⟨_, he⟩, _⟩ := st; wpAny_pyIter_enum he h
end Pm

namespace Pm
open PySem PySem.Spec PyProof.Rows L2
section
variable {X : Cx} {O : List Nat} {m ma mb mc : Md} {st : Bool} {a b c e tg : Expr} {es : List Expr} {fa fb fc f : Xp} {fs : XL} {pos p : Pos}
def iEnumT (K : PySem.W.Frag) (ta : TA) : TI := fun σ H R => ta σ H fun vs H1 => ∃ a xs, vs = [.ref a] ∧ SqT K H1 a xs ∧ R (ItE K a) H1
theorem pi_enumT {ta : TA} {tpos : Pos} {elts : List Expr} {kk : Nat} (hg : Gl X "enumerate") (hm : X.mg "enumerate" = none) (ha : PA X [e] ta) (hs : starEach [e] X.env = [(false, eval e X.env)] := by rfl) : PI X (.Tuple elts kk tpos) (.Call (.Name "enumerate" p) [e] [] pos) (iEnumT X.K ta) := by
  refine ⟨fun pins s σ H R I h => ?_⟩
  refine Call_ (ld_blt I hg hm boot_enumerate (callWith_type1 (thn (ha.run pos pins s σ H _ I h) fun us s1 q1 => ?_) hs rfl))
  obtain ⟨vs, H1, I1, r1, t, xs, ex, hq, q⟩ := q1
  subst ex
  rw [Vals.ref1 r1]
  obtain ⟨its, rv, pt, hz⟩ := I1.tuple hq
  refine enum_one (begins_tuple t its.toArray) pt fun h' he hit hk => wpAny_pyIter_enum he ?_
  have I2 : Inv X pins σ H1 { s1 with heap := h' } := I1.kept (t' := s1.toks) hk
  refine ⟨s1.heap.objs.size + 1, [s1.heap.objs.size + 1, s1.heap.objs.size], _, _, H1, rfl, I2, turn_enumTup t (s1.heap.objs.size + 1) s1.heap.objs.size, ⟨⟨.none, ?_⟩, ⟨_, hit, rfl, rfl⟩, Nat.succ_ne_self _, Nat.ne_of_lt pt.lt⟩, fun b hb => ?_, q⟩
  · exact he
  · have le : s1.heap.objs.size ≤ b := by
      have z : b = s1.heap.objs.size + 1 ∨ b = s1.heap.objs.size := by simpa using hb
      rcases z with rfl | rfl
      · exact Nat.le_succ _
      · exact Nat.le_refl _
    exact I1.fpOk le (I1.hok.fresh le)
def oEnum : List D → Option (List D)
  | [x] => (seqD x).map enumD
  | _ => none
theorem rp_pair {K : PySem.W.Frag} {A : Addr → Prop} {H : Hp} {T : Addr} {v u : V} {d d' : D} (t : Tr A H) (hT : H T = none) (r : Rp K A H v d) (r' : Rp K A H u d') : Rp K A (upd H T (.tup [v, u])) (.ref T) (.tuple [d, d']) :=
  Rp.newT t hT (.cons r (.cons r' .nil))
theorem rsL {K : PySem.W.Frag} {A : Addr → Prop} {H : Hp} {vs : List V} {x : D} (h : ResL K A H st vs [x]) : ∃ v, vs = [v] ∧ strongR K A H st v x := by
  cases st with
  | true =>
    cases h with
    | cons a r => cases r; exact ⟨_, rfl, a⟩
  | false =>
    cases h with
    | cons a r => cases r; exact ⟨_, rfl, a⟩
theorem rsL2 {K : PySem.W.Frag} {A : Addr → Prop} {H : Hp} {vs : List V} {x y : D} (h : ResL K A H st vs [x, y]) : ∃ v u, vs = [v, u] ∧ strongR K A H st v x ∧ strongR K A H st u y := by
  cases st with
  | true =>
    cases h with
    | cons a r =>
      cases r with
      | cons b r => cases r; exact ⟨_, _, rfl, a, b⟩
  | false =>
    cases h with
    | cons a r =>
      cases r with
      | cons b r => cases r; exact ⟨_, _, rfl, a, b⟩
theorem si_enum {tpos : Pos} {elts : List Expr} {kk : Nat} (hm : X.mg "enumerate" = none) (ha : SA X O st [a] fs) (hg : Gl X "enumerate" := by rfl) (hs : starEach [a] X.env = [(false, eval a X.env)] := by rfl) : SI X O st (.Tuple elts kk tpos) (.Call (.Name "enumerate" p) [a] [] pos) (xIt oEnum fs) := by
  refine ⟨pi_imp (pi_or (pi_enum hg hm (pa_ok ha.pa) hs) (pi_enumT hg hm (pa_ok ha.pa) hs)) fun σ H R q => ?_⟩
  obtain ⟨H0, A0, G, ρ, B, ds, S, e, k⟩ := q
  obtain ⟨d, ed, e⟩ := bind2 e
  unfold oEnum at e
  split at e
  · rename_i x
    obtain ⟨xs, ex, e⟩ := Option.map_eq_some_iff.mp e
    subst e
    unfold seqD at ex
    split at ex
    · cases ex
      refine .inl ⟨H0, A0, G, ρ, B, _, S, ed, fun vs H1 s1 r1 ok => ?_⟩
      obtain ⟨v, rfl, sr⟩ := rsL r1
      obtain ⟨t, ys, rfl, ht, rt⟩ := sr.w.lst
      refine ⟨t, ys, rfl, .of ht, k _ H1 [(.ref t, .list xs)] s1 ⟨fun A H i d tr g e => ?_, fun A H tr g => ?_⟩ (fun p hp => by rw [List.mem_singleton.mp hp]; exact sr) (by rw [enumD_len, ← rt.length]; exact ok t ys (.inl ht))⟩
      · obtain ⟨z, ez, rfl⟩ := enumD_get e
        obtain ⟨b, ys, eb, hb, rb⟩ := (g _ (List.mem_singleton.mpr rfl)).lst
        cases eb
        obtain ⟨y, ey, ry⟩ := rb.get ez
        refine ⟨⟨ys, y, .of hb, ey⟩, fun x H' hy => ?_⟩
        obtain ⟨T, u, rfl, hT, rfl, hu⟩ := hy
        have := hu ys (.of hb)
        rw [ey] at this
        cases this
        exact ⟨same_upd hT, rp_pair tr hT (.int _) ry⟩
      · obtain ⟨b, ys, eb, hb, rb⟩ := (g _ (List.mem_singleton.mpr rfl)).lst
        cases eb
        exact ⟨ys, .of hb, by rw [enumD_len, rb.length]; exact Nat.le_refl _⟩
    · cases ex
      refine .inr ⟨H0, A0, G, ρ, B, _, S, ed, fun vs H1 s1 r1 ok => ?_⟩
      obtain ⟨v, rfl, sr⟩ := rsL r1
      obtain ⟨t, ys, rfl, ht, nt, rt⟩ := sr.w.tup
      refine ⟨t, ys, rfl, .of ht, k _ H1 [(.ref t, .tuple xs)] s1 ⟨fun A H i d tr g e => ?_, fun A H tr g => ?_⟩ (fun p hp => by rw [List.mem_singleton.mp hp]; exact sr) (by rw [enumD_len, ← rt.length]; exact ok t ys (.inr ht))⟩
      · obtain ⟨z, ez, rfl⟩ := enumD_get e
        obtain ⟨b, ys, eb, hb, nb, rb⟩ := (g _ (List.mem_singleton.mpr rfl)).tup
        cases eb
        obtain ⟨y, ey, ry⟩ := rb.get ez
        refine ⟨⟨ys, y, .of hb, ey⟩, fun x H' hy => ?_⟩
        obtain ⟨T, u, rfl, hT, rfl, hu⟩ := hy
        have := hu ys (.of hb)
        rw [ey] at this
        cases this
        exact ⟨same_upd hT, rp_pair tr hT (.int _) ry⟩
      · obtain ⟨b, ys, eb, hb, nb, rb⟩ := (g _ (List.mem_singleton.mpr rfl)).tup
        cases eb
        exact ⟨ys, .of hb, by rw [enumD_len, rb.length]; exact Nat.le_refl _⟩
    · cases ex
  · cases e
/-- zip of two lists, of two tuples -/
def zipD (xs ys : List D) : List D := xs.zipWith (fun x y => .tuple [x, y]) ys
theorem zipD_get {xs ys : List D} {i : Nat} {d : D} (h : (zipD xs ys)[i]? = some d) : ∃ x y, xs[i]? = some x ∧ ys[i]? = some y ∧ d = .tuple [x, y] := by
  unfold zipD at h
  rw [List.getElem?_zipWith] at h
  cases e : xs[i]? with
  | none => rw [e] at h; cases ys[i]? <;> cases h
  | some x =>
    cases e' : ys[i]? with
    | none => rw [e, e'] at h; cases h
    | some y => rw [e, e'] at h; cases h; exact ⟨x, y, rfl, rfl, rfl⟩
theorem zipD_len (xs ys : List D) : (zipD xs ys).length = min xs.length ys.length := by simp [zipD]
def oZip : List D → Option (List D)
  | [.list xs, .list ys] => some (zipD xs ys)
  | [.tuple xs, .tuple ys] => some (zipD xs ys)
  | _ => none
theorem si_zip {tpos : Pos} {elts : List Expr} {kk : Nat} (hm : X.mg "zip" = none) (ha : SA X O st [a, b] fs) (hg : Gl X "zip" := by rfl)
    (hs : starEach [a, b] X.env = (false, eval a X.env) :: starEach [b] X.env := by rfl) (hpl : (backTo pos (starEach [b] X.env)).any (·.1) = false := by rfl) : SI X O st (.Tuple elts kk tpos) (.Call (.Name "zip" p) [a, b] [] pos) (xIt oZip fs) := by
  refine ⟨pi_imp (RZ.pi_zipA hg hm (pa_ok ha.pa) hs hpl) fun σ H R q => ?_⟩
  obtain ⟨H0, A0, G, ρ, B, ds, S, e, k⟩ := q
  obtain ⟨d, ed, e⟩ := bind2 e
  refine ⟨H0, A0, G, ρ, B, _, S, ed, fun vs H1 s1 r1 ok => ?_⟩
  unfold oZip at e
  split at e
  · cases e
    rename_i xs ys
    obtain ⟨v, u, rfl, sr, sr'⟩ := rsL2 r1
    obtain ⟨t, vs, rfl, ht, rt⟩ := sr.w.lst
    obtain ⟨t', vs', rfl, ht', rt'⟩ := sr'.w.lst
    refine ⟨t, t', vs, vs', rfl, .inl ⟨.of ht, .of ht', k _ H1 [(.ref t, .list xs), (.ref t', .list ys)] s1 ⟨fun A H i d tr g e => ?_, fun A H tr g => ?_⟩ (fun p hp => ?_) ?_⟩⟩
    · obtain ⟨x, y, ex, ey, rfl⟩ := zipD_get e
      obtain ⟨b, zs, eb, hb, rb⟩ := (g _ (List.mem_cons_self)).lst
      obtain ⟨b', zs', eb', hb', rb'⟩ := (g _ (List.mem_cons_of_mem _ List.mem_cons_self)).lst
      cases eb
      cases eb'
      obtain ⟨x1, ex1, rx1⟩ := rb.get ex
      obtain ⟨y1, ey1, ry1⟩ := rb'.get ey
      refine ⟨⟨zs, zs', x1, y1, .of hb, .of hb', ex1, ey1⟩, fun z H' hy => ?_⟩
      obtain ⟨T, u, w, rfl, hT, rfl, hu, hw⟩ := hy
      have e1 := hu zs (.of hb)
      have e2 := hw zs' (.of hb')
      rw [ex1] at e1
      rw [ey1] at e2
      cases e1
      cases e2
      exact ⟨same_upd hT, rp_pair tr hT rx1 ry1⟩
    · obtain ⟨b, zs, eb, hb, rb⟩ := (g _ (List.mem_cons_self)).lst
      obtain ⟨b', zs', eb', hb', rb'⟩ := (g _ (List.mem_cons_of_mem _ List.mem_cons_self)).lst
      cases eb
      cases eb'
      refine ⟨zs, zs', .of hb, .of hb', ?_⟩
      rw [zipD_len, rb.length, rb'.length]
      omega
    · have z : p = (.ref t, .list xs) ∨ p = (.ref t', .list ys) := by simpa using hp
      rcases z with rfl | rfl
      · exact sr
      · exact sr'
    · rw [zipD_len, ← rt.length]
      have := ok t vs (.inl ht)
      omega
  · cases e
    rename_i xs ys
    obtain ⟨v, u, rfl, sr, sr'⟩ := rsL2 r1
    obtain ⟨t, vs, rfl, ht, nt, rt⟩ := sr.w.tup
    obtain ⟨t', vs', rfl, ht', nt', rt'⟩ := sr'.w.tup
    refine ⟨t, t', vs, vs', rfl, .inr ⟨.of ht, .of ht', k _ H1 [(.ref t, .tuple xs), (.ref t', .tuple ys)] s1 ⟨fun A H i d tr g e => ?_, fun A H tr g => ?_⟩ (fun p hp => ?_) ?_⟩⟩
    · obtain ⟨x, y, ex, ey, rfl⟩ := zipD_get e
      obtain ⟨b, zs, eb, hb, nb, rb⟩ := (g _ (List.mem_cons_self)).tup
      obtain ⟨b', zs', eb', hb', nb', rb'⟩ := (g _ (List.mem_cons_of_mem _ List.mem_cons_self)).tup
      cases eb
      cases eb'
      obtain ⟨x1, ex1, rx1⟩ := rb.get ex
      obtain ⟨y1, ey1, ry1⟩ := rb'.get ey
      refine ⟨⟨zs, zs', x1, y1, .of hb, .of hb', ex1, ey1⟩, fun z H' hy => ?_⟩
      obtain ⟨T, u, w, rfl, hT, rfl, hu, hw⟩ := hy
      have e1 := hu zs (.of hb)
      have e2 := hw zs' (.of hb')
      rw [ex1] at e1
      rw [ey1] at e2
      cases e1
      cases e2
      exact ⟨same_upd hT, rp_pair tr hT rx1 ry1⟩
    · obtain ⟨b, zs, eb, hb, nb, rb⟩ := (g _ (List.mem_cons_self)).tup
      obtain ⟨b', zs', eb', hb', nb', rb'⟩ := (g _ (List.mem_cons_of_mem _ List.mem_cons_self)).tup
      cases eb
      cases eb'
      refine ⟨zs, zs', .of hb, .of hb', ?_⟩
      rw [zipD_len, rb.length, rb'.length]
      omega
    · have z : p = (.ref t, .tuple xs) ∨ p = (.ref t', .tuple ys) := by simpa using hp
      rcases z with rfl | rfl
      · exact sr
      · exact sr'
    · rw [zipD_len, ← rt.length]
      have := ok t vs (.inr ht)
      omega
  · cases e
end

end Pm

namespace Pm
open PySem PySem.Spec PyProof.Rows L2

/-! ### targets -/
abbrev XG := D → PEnv → Option PEnv
/-- the slots out of ts stand -/
def Ch (ts : List Nat) (σ σ' : L2.St) : Prop := σ'.length = σ.length ∧ ∀ i, ts.contains i = false → σ'[i]? = σ[i]?
def simG (K : PySem.W.Frag) (O O' ts : List Nat) (g : XG) : TG := fun v σ H Q => ∃ H0 A0 G ρ B d ρ', Sim K H0 A0 G O σ H ρ B ∧ Rp K (Av A0 B) H v d ∧ g d ρ = some ρ' ∧
  ∀ σ', Ch ts σ σ' → Sim K H0 A0 G O' σ' H ρ' (restr ts B) → Q σ' H
structure SG (X : Cx) (O O' ts : List Nat) (tg : Expr) (g : XG) : Prop where
  pg : PG X tg (simG X.K O O' ts g)
def simGs (K : PySem.W.Frag) (O O' ts : List Nat) (g : List D → PEnv → Option PEnv) : TGs := fun vs σ H Q => ∃ H0 A0 G ρ B ds ρ', Sim K H0 A0 G O σ H ρ B ∧ RpL K (Av A0 B) H vs ds ∧ g ds ρ = some ρ' ∧
  ∀ σ', Ch ts σ σ' → Sim K H0 A0 G O' σ' H ρ' (restr ts B) → Q σ' H
structure SGs (X : Cx) (O O' ts : List Nat) (tgs : List Expr) (g : List D → PEnv → Option PEnv) : Prop where
  pgs : PGs X tgs (simGs X.K O O' ts g)
theorem pg_imp {X : Cx} {e : Expr} {t t' : TG} (h : PG X e t) (hi : ∀ v σ H Q, t' v σ H Q → t v σ H Q) : PG X e t' := ⟨fun pins s σ H v u Q I r q => h.run pins s σ H v u Q I r (hi _ _ _ _ q)⟩
theorem pgs_imp {X : Cx} {e : List Expr} {t t' : TGs} (h : PGs X e t) (hi : ∀ v σ H Q, t' v σ H Q → t v σ H Q) : PGs X e t' := ⟨fun pins s σ H v u Q I r q => h.run pins s σ H v u Q I r (hi _ _ _ _ q)⟩
def gSet (i : Nat) : XG := fun d ρ => if i < ρ.length then some (ρ.set i (some d)) else none
def gTupD (n : Nat) (g : List D → PEnv → Option PEnv) : XG := fun d ρ => match d with
  | .tuple ds => if ds.length = n then g ds ρ else none
  | _ => none
def gsNil : List D → PEnv → Option PEnv := fun ds ρ => match ds with
  | [] => some ρ
  | _ => none
def gsCons (g : XG) (gs : List D → PEnv → Option PEnv) : List D → PEnv → Option PEnv := fun ds ρ => match ds with
  | d :: ds => (g d ρ).bind fun ρ' => gs ds ρ'
  | _ => none
theorem Ch.refl (ts : List Nat) (σ : L2.St) : Ch ts σ σ := ⟨rfl, fun _ _ => rfl⟩
theorem Ch.trans {ts us : List Nat} {σ σ' σ'' : L2.St} (h : Ch ts σ σ') (h' : Ch us σ' σ'') : Ch (ts ++ us) σ σ'' := by
  refine ⟨h'.1.trans h.1, fun i z => ?_⟩
  have e : ts.contains i = false ∧ us.contains i = false := by
    simpa [List.contains_eq_mem, not_or] using z
  exact (h'.2 i e.2).trans (h.2 i e.1)
theorem Ch.set (i : Nat) (x : Option V) (σ : L2.St) : Ch [i] σ (σ.set i x) := by
  refine ⟨List.length_set, fun j z => ?_⟩
  have e : j ≠ i := by simpa using z
  exact List.getElem?_set_ne (Ne.symm e)
section
variable {X : Cx} {O O' O'' ts us : List Nat} {tg : Expr} {tgs : List Expr} {g : XG} {gs : List D → PEnv → Option PEnv} {pos : Pos}
theorem sg_name (i : Nat) {x : Str} (hN : X.N.Nodup) (hi : X.N[i]? = some x := by rfl) (hx : Loc X.env.scope x := by first | exact Or.inl rfl | exact Or.inr rfl) (hf : X.fn x = true ∨ X.env.scope.names.lookup x = some .local := by first | exact .inl rfl | exact .inr rfl) (hO : O.filter (· != i) = O' := by rfl) : SG X O O' [i] (.Name x pos) (gSet i) := by
  refine ⟨pg_imp (pg_name hN hi hx hf) fun v σ H Q h => ?_⟩
  obtain ⟨H0, A0, G, ρ, B, d, ρ', S, r, e, k⟩ := h
  unfold gSet at e
  split at e
  · rename_i hl
    cases e
    have S' := S.setS r hl
    rw [hO] at S'
    exact k _ (Ch.set i _ σ) S'
  · cases e
theorem sgs_nil : SGs X O O [] [] gsNil := by
  refine ⟨pgs_imp pgs_nil fun v σ H Q h => ?_⟩
  obtain ⟨H0, A0, G, ρ, B, ds, ρ', S, r, e, k⟩ := h
  unfold gsNil at e
  split at e
  · cases e
    cases r
    exact ⟨rfl, k σ (Ch.refl _ _) (by rw [restr_nil]; exact S)⟩
  · cases e
theorem sgs_cons (h : SG X O O' ts tg g) (h' : SGs X O' O'' us tgs gs) (hs : (assignEach (tg :: tgs) X.env).map (·.2) = assign tg X.env :: (assignEach tgs X.env).map (·.2) := by rfl) : SGs X O O'' (ts ++ us) (tg :: tgs) (gsCons g gs) := by
  refine ⟨pgs_imp (pgs_cons h.pg h'.pgs hs) fun v σ H Q q => ?_⟩
  obtain ⟨H0, A0, G, ρ, B, ds, ρ', S, r, e, k⟩ := q
  unfold gsCons at e
  split at e
  · obtain ⟨ρ1, e1, e⟩ := bind2 e
    cases r with
    | cons r1 r2 =>
      refine ⟨_, _, rfl, H0, A0, G, ρ, B, _, ρ1, S, r1, e1, fun σ1 c1 S1 => ?_⟩
      refine ⟨H0, A0, G, ρ1, _, _, ρ', S1, r2.anti fun a z => restr_av z, e, fun σ2 c2 S2 => k σ2 (c1.trans c2) ?_⟩
      rw [restr_app] at S2
      exact S2
  · cases e
theorem sg_tup {k n : Nat} (hc : X.calm = true) (h : SGs X O O' ts tgs gs) (hn : (assignEach tgs X.env).length = n := by rfl) (hst : (assignEach tgs X.env).findIdx? (·.1) = none := by rfl) : SG X O O' ts (.Tuple tgs k pos) (gTupD n gs) := by
  refine ⟨pg_imp (pg_tup hc h.pgs hn hst) fun v σ H Q q => ?_⟩
  obtain ⟨H0, A0, G, ρ, B, d, ρ', S, r, e, k⟩ := q
  unfold gTupD at e
  split at e
  · split at e
    · rename_i hz
      cases r with
      | tup ht nt rt => exact ⟨_, _, rfl, .of ht, by rw [rt.length, hz], H0, A0, G, ρ, B, _, ρ', S, rt, e, k⟩
    · cases e
  · cases e
end

/-! ### comprehensions -/
def wipeP (ρ : PEnv) : List Nat → PEnv
  | [] => ρ
  | v :: vs => (wipeP ρ vs).set v none
theorem wipe_get (σ : L2.St) (i : Nat) : ∀ vs : List Nat, (wipe σ vs)[i]? = if vs.contains i then (if i < σ.length then some none else none) else σ[i]?
  | [] => by simp [wipe]
  | v :: vs => by
    unfold wipe
    by_cases h : v = i
    · subst h
      have hc : (v :: vs).contains v = true := by simp
      rw [hc, if_pos rfl]
      by_cases hl : v < σ.length
      · rw [List.getElem?_set_self (by rw [wipe_length]; exact hl), if_pos hl]
      · rw [if_neg hl, List.getElem?_eq_none (by rw [List.length_set, wipe_length]; omega)]
    · rw [List.getElem?_set_ne h, wipe_get σ i vs]
      have : (v :: vs).contains i = vs.contains i := by
        have h' : ¬ i = v := fun z => h z.symm
        simp [List.contains_cons, h']
      rw [this]
theorem wipe_eq {ts vs : List Nat} {σ σ2 : L2.St} (c : Ch ts (wipe σ vs) σ2) (h : ∀ i, ts.contains i = true → vs.contains i = true) : wipe σ2 vs = wipe σ vs := by
  apply List.ext_getElem?
  intro i
  have hl : σ2.length = σ.length := by rw [c.1, wipe_length]
  rw [wipe_get, wipe_get, hl]
  by_cases hv : vs.contains i = true
  · rw [if_pos hv, if_pos hv]
  · rw [if_neg hv, if_neg hv]
    have ht : ts.contains i = false := by
      cases e : ts.contains i with
      | false => rfl
      | true => exact absurd (h i e) hv
    rw [c.2 i ht, wipe_get, if_neg hv]
theorem Sim.wipe {K : PySem.W.Frag} {H0 H : Hp} {A0 : Addr → Prop} {G : List (V × D)} {O : List Nat} {σ : L2.St} {ρ : PEnv} {B : Nat → Option Addr} (S : Sim K H0 A0 G O σ H ρ B) : ∀ vs : List Nat, (∀ i ∈ vs, i ∉ O) → Sim K H0 A0 G O (wipe σ vs) H (wipeP ρ vs) B
  | [], _ => S
  | v :: vs, h => (S.wipe vs fun i hi => h i (List.mem_cons_of_mem _ hi)).drop v (h v List.mem_cons_self)
theorem restr_same {K : PySem.W.Frag} {H0 H : Hp} {A0 : Addr → Prop} {G : List (V × D)} {O : List Nat} {σ : L2.St} {ρ : PEnv} {B : Nat → Option Addr} (S : Sim K H0 A0 G O σ H ρ B) {ts : List Nat} (h : ∀ i, ts.contains i = true → i ∉ O) : restr ts B = B := by
  funext j
  unfold restr
  split
  · rename_i hj
    cases e : B j with
    | none => rfl
    | some a => exact absurd (S.bo j a e) (h j hj)
  · rfl
/-- the items made from one source -/
def lcL (g : XG) (t : PEnv → Option Bool) (f : Xp) (ρ : PEnv) : List D → Option (List D)
  | [] => some []
  | d :: ds => (g d ρ).bind fun ρ1 => (t ρ1).bind fun b => if b then (f ρ1).bind fun y => (lcL g t f ρ ds).bind fun ys => some (y :: ys) else lcL g t f ρ ds
def xLc (it : XL) (g : XG) (t : PEnv → Option Bool) (f : Xp) (own : List Nat) : Xp := fun ρ => (it ρ).bind fun ds => (lcL g t f (wipeP ρ own) ds).map .list
structure STs (X : Cx) (O : List Nat) (ifs : List Expr) (f : PEnv → Option Bool) : Prop where
  pts : PTs X ifs (simTT X.K O f)
def tYesP : PEnv → Option Bool := fun _ => some true
theorem pts_imp {X : Cx} {e : List Expr} {t t' : TT} (h : PTs X e t) (hi : ∀ σ H Q, t' σ H Q → t σ H Q) : PTs X e t' := ⟨fun pins s σ H Q I q => h.run pins s σ H Q I (hi _ _ _ q)⟩
theorem sts_nil {X : Cx} {O : List Nat} : STs X O [] tYesP := ⟨pts_imp pts_nil fun σ H Q ⟨H0, A0, G, ρ, B, b, S, e, k⟩ => by cases e; exact k H (Same.refl H)⟩
theorem sts_one {X : Cx} {O : List Nat} {c : Expr} {f : PEnv → Option Bool} (h : ST X O c f) : STs X O [c] f := ⟨pts_one h.pt⟩
theorem WRp.step {K : PySem.W.Frag} {A A' : Addr → Prop} {H H' : Hp} {v : V} {d : D} (h : WRp K A H v d) (s : Same H H') (ha : ∀ a, A' a → A a ∨ H a = none) : WRp K A' H' v d := by
  rcases h with h | ⟨a, e, h⟩
  · exact .inl (h.step (fun a o e _ => s a o e) ha)
  · exact .inr ⟨a, e, h.step (fun a o e _ => s a o e) ha fun o e => s _ o e⟩
abbrev Gd (A0 : Addr → Prop) (a : Addr) : Addr → Prop := fun b => A0 b ∨ b = a
theorem gd_av {A0 : Addr → Prop} {B : Nat → Option Addr} {a b : Addr} (h : Av (Gd A0 a) B b) : Av A0 B b ∨ b = a := by
  rcases h with (h | h) | h
  · exact .inl (.inl h)
  · exact .inr h
  · exact .inl (.inr h)
section
variable {X : Cx} {O ts : List Nat} {st : Bool} {m : Md} {tg iter elt : Expr} {ifs : List Expr} {scope : Scope} {own : List (Str × Nat)} {it : XL} {g : XG} {t : PEnv → Option Bool} {f : Xp} {pos : Pos}
theorem lc_of (hm : m ≠ .w) (hts : ∀ i, ts.contains i = true → (own.map (·.2)).contains i = true) (hO : ∀ i ∈ own.map (·.2), i ∉ O) (σ : L2.St) (H : Hp) (Q : VK) (q : simT X.K O .f (xLc it g t f (own.map (·.2))) σ H Q) :
    tLc (simI X.K O st it) (simG X.K O O ts g) (simTT X.K O t) (simT X.K O m f) (own.map (·.2)) σ H Q := by
  obtain ⟨H0, A0, G, ρ, B, d, S, e, k⟩ := q
  obtain ⟨ds, eds, e⟩ := bind2 e
  obtain ⟨ys, eys, e⟩ := Option.map_eq_some_iff.mp e
  subst e
  refine ⟨H0, A0, G, ρ, B, ds, S, eds, fun J H1 gs s1 yl gr hz Dn hD => ?_⟩
  have hts' : ∀ i, ts.contains i = true → i ∉ O := fun i hi => hO i (by simpa using hts i hi)
  -- what stands between two turns
  refine ⟨fun i n Hc => n = ds.length - i ∧ i ≤ ds.length ∧ Same H1 Hc ∧ ∃ vs pre post, Hc Dn = some (.lst vs) ∧ RpL X.K (Av (Gd A0 Dn) B) Hc vs pre ∧ pre.length ≤ i ∧ lcL g t f (wipeP ρ (own.map (·.2))) (ds.drop i) = some post ∧ ys = pre ++ post,
    ⟨ds.length, rfl, Nat.zero_le _, same_upd hD, [], [], ys, upd_same, .nil, Nat.le_refl _, eys, rfl⟩, ?_⟩
  rintro i n Hc ⟨rfl, hi, sc, vs, pre, post, hDc, rpre, hpl, epost, rfl⟩
  have Sg : Sim X.K H0 (Gd A0 Dn) G O σ Hc ρ B := (S.mono s1).guard hD sc ⟨_, hDc, NT.lst⟩
  have gw : ∀ p ∈ gs, WRp X.K (Av (Gd A0 Dn) B) Hc p.1 p.2 := fun p hp => (gr p hp).w.step sc fun a z => by
    rcases gd_av z with z | z
    · exact .inl z
    · exact .inr (by rw [z]; exact hD)
  by_cases hlt : i < ds.length
  · have ed : ds[i]? = some ds[i] := List.getElem?_eq_getElem hlt
    rw [List.drop_eq_getElem_cons hlt] at epost
    obtain ⟨hgo, hy⟩ := yl.go _ Hc i _ Sg.tr gw ed
    simp only [lcL] at epost
    obtain ⟨ρ1, eρ1, epost⟩ := bind2 epost
    obtain ⟨b, eb, epost⟩ := bind2 epost
    refine .inr ⟨hgo, fun H' => i + 1 ≤ ds.length ∧ Same H1 H' ∧ ∃ vs pre' post', H' Dn = some (.lst vs) ∧ RpL X.K (Av (Gd A0 Dn) B) H' vs pre' ∧ pre'.length ≤ i + 1 ∧ lcL g t f (wipeP ρ (own.map (·.2))) (ds.drop (i + 1)) = some post' ∧ pre ++ post = pre' ++ post', fun H' hN => ?_, fun x H' hx => ?_⟩
    · obtain ⟨h1, h2, h3⟩ := hN
      exact ⟨ds.length - (i + 1), by omega, rfl, h1, h2, h3⟩
    · obtain ⟨s2, rx⟩ := hy x H' hx
      refine ⟨H0, Gd A0 Dn, G, wipeP ρ (own.map (·.2)), B, _, ρ1, (Sg.mono s2).wipe _ hO, rx, eρ1, fun σ2 c2 S2 => ?_⟩
      rw [restr_same Sg hts'] at S2
      refine ⟨wipe_eq c2 hts, H0, Gd A0 Dn, G, ρ1, B, b, S2, eb, fun H3 s3 => ?_⟩
      cases b with
      | true =>
        rw [if_pos rfl]
        rw [if_pos rfl] at epost
        obtain ⟨y, ey, epost⟩ := bind2 epost
        obtain ⟨zs, ezs, epost⟩ := bind2 epost
        cases epost
        refine ⟨H0, Gd A0 Dn, G, ρ1, B, y, S2.mono s3, ey, fun v H4 s4 r4 => ?_⟩
        have r4' := r4.toS (S2.mono s3).tr hm
        have s24 := (s2.trans s3).trans s4
        have avD : Av (Gd A0 Dn) B Dn := .inl (.inr rfl)
        have kp : ∀ a o, H4 a = some o → ¬ Av (Gd A0 Dn) B a → upd H4 Dn (.lst (vs ++ [v])) a = some o := fun a o e n => by
          rw [upd_ne (fun z => n (by rw [z]; exact avD))]
          exact e
        refine ⟨vs, s24 _ _ hDc, ?_, by omega, fun a o e => ?_, vs ++ [v], pre ++ [y], zs, upd_same, ?_, by simp; omega, ezs, by simp⟩
        · rw [rpre.length]
          have : (16777216 : Nat) = sizeLine := rfl
          omega
        · have hne : a ≠ Dn := fun z => by rw [z, hD] at e; cases e
          rw [upd_ne hne]
          exact s24 _ _ (sc _ _ e)
        · exact RpL.app (.one (r4'.step kp fun _ z => .inl z)) ((rpre.mono s24).step kp fun _ z => .inl z)
      | false =>
        rw [if_neg Bool.false_ne_true]
        rw [if_neg Bool.false_ne_true] at epost
        have s23 := s2.trans s3
        exact ⟨by omega, sc.trans s23, vs, pre, post, s23 _ _ hDc, rpre.mono s23, by omega, epost, rfl⟩
  · have e : i = ds.length := by omega
    subst e
    refine .inl ⟨yl.stop _ Hc Sg.tr gw, ?_⟩
    rw [List.drop_length] at epost
    cases epost
    rw [List.append_nil] at k
    have hHD : H Dn = none := s1.free hD
    refine k _ Hc (s1.trans sc) (.inl ⟨Dn, rfl, hHD, .lst hDc (rpre.anti fun a z => ?_)⟩)
    rcases z with z | z
    · rcases z with z | z
      · exact .inl (.inl z)
      · exact .inr z
    · exact .inl (.inr z)
abbrev InBlk (X : Cx) (scope : Scope) (P : Cx → Prop) : Prop := ∀ (s : Shared) (H : Hp) (C : Addr) (cl : List (Str × Addr)) (fp : List Addr), P (X.blk s H scope (compEnvC scope cl C X.env) fp)
theorem se_lc (hN : X.N.Nodup) (hi : SI X O st tg iter it) (ok : BlkOk X.N X.env.scope scope own) (hg : InBlk X scope fun Y => SG Y O O ts tg g) (ht : InBlk X scope fun Y => STs Y O ifs t) (he : InBlk X scope fun Y => SE Y O m elt f)
    (hm : m ≠ .w := by decide) (hts : ts.all (fun i => (own.map (·.2)).contains i) = true := by rfl) (hO : (own.map (·.2)).all (fun i => !O.contains i) = true := by rfl) (hc : X.calm = true := by rfl) (hs : ∀ x, foldedSetIterable iter X.env x = pure x := by intro _; rfl) :
    SE X O .f (.ListComp elt [⟨tg, iter, ifs, 0⟩] scope pos) (xLc it g t f (own.map (·.2))) :=
  ⟨pe_imp (pe_lc hc hN hi.pi ok (fun s H C cl fp => (hg s H C cl fp).pg) (fun s H C cl fp => (ht s H C cl fp).pts) (fun s H C cl fp => (he s H C cl fp).pe) hs)
    (lc_of hm (fun i hi => by simpa using List.all_eq_true.mp hts i (by simpa using hi)) (fun i hi => by simpa using List.all_eq_true.mp hO i hi))⟩
end
end Pm

namespace Pm
open PySem PySem.Spec PyProof.Rows L2

/-! ### statements -/
inductive Out where
  | nx (ρ : PEnv) | rt (d : D) | bk (ρ : PEnv) | ct (ρ : PEnv)
abbrev XS := PEnv → Option Out
def PostS (K : PySem.W.Frag) (H0 : Hp) (A0 : Addr → Prop) (G : List (V × D)) (Ob Oc O' : List Nat) (D : Ends) : Out → Prop
  | .nx ρ => ∀ σ H B, Sim K H0 A0 G O' σ H ρ B → D.nx σ H
  | .rt d => ∀ v H, Same H0 H → Rp K A0 H v d → D.rt v H
  | .bk ρ => ∀ σ H B, Sim K H0 A0 G Ob σ H ρ B → D.bk σ H
  | .ct ρ => ∀ σ H B, Sim K H0 A0 G Oc σ H ρ B → D.ct σ H
def simS (K : PySem.W.Frag) (O Ob Oc O' : List Nat) (g : XS) : TS := fun D σ H => ∃ H0 A0 G ρ B o, Sim K H0 A0 G O σ H ρ B ∧ g ρ = some o ∧ PostS K H0 A0 G Ob Oc O' D o
structure SS (X : Cx) (O Ob Oc O' : List Nat) (st : Stmt) (g : XS) : Prop where
  ps : PS X st (simS X.K O Ob Oc O' g)
structure SSs (X : Cx) (O Ob Oc O' : List Nat) (st : List Stmt) (g : XS) : Prop where
  pss : PSs X st (simS X.K O Ob Oc O' g)
def sNop : XS := fun ρ => some (.nx ρ)
def sSeq (g h : XS) : XS := fun ρ => (g ρ).bind fun o => match o with
  | .nx ρ' => h ρ'
  | o => some o
section
variable {X : Cx} {O O1 O2 Ob Oc O' : List Nat} {m ma mb : Md} {st : Stmt} {sts : List Stmt} {g h : XS} {e a b c : Expr} {f fa fb : Xp} {pos pos' : Pos}
theorem sub_of (h : O1.all (fun i => O.contains i) = true) : ∀ i ∈ O1, i ∈ O := fun i hi => by simpa using List.all_eq_true.mp h i hi
theorem SS.weak (s : SS X O1 Ob Oc O' st g) (h : O1.all (fun i => O.contains i) = true := by rfl) : SS X O Ob Oc O' st g := by
  refine ⟨ps_imp s.ps fun D σ H q => ?_⟩
  obtain ⟨H0, A0, G, ρ, B, o, S, e, k⟩ := q
  obtain ⟨B', S'⟩ := S.weak (sub_of h)
  exact ⟨H0, A0, G, ρ, B', o, S', e, k⟩
theorem SSs.weak (s : SSs X O1 Ob Oc O' sts g) (h : O1.all (fun i => O.contains i) = true := by rfl) : SSs X O Ob Oc O' sts g := by
  refine ⟨pss_imp s.pss fun D σ H q => ?_⟩
  obtain ⟨H0, A0, G, ρ, B, o, S, e, k⟩ := q
  obtain ⟨B', S'⟩ := S.weak (sub_of h)
  exact ⟨H0, A0, G, ρ, B', o, S', e, k⟩
/-- an empty block; the own slots may be fewer behind it -/
theorem ss_nil (h : O'.all (fun i => O.contains i) = true := by rfl) : SSs X O Ob Oc O' [] sNop := by
  refine ⟨pss_imp pss_nil fun D σ H q => ?_⟩
  obtain ⟨H0, A0, G, ρ, B, o, S, e, k⟩ := q
  cases e
  obtain ⟨B', S'⟩ := S.weak (sub_of h)
  exact k σ H B' S'
theorem ss_cons (h1 : SS X O Ob Oc O1 st g) (h2 : SSs X O1 Ob Oc O' sts h) : SSs X O Ob Oc O' (st :: sts) (sSeq g h) := by
  refine ⟨pss_imp (pss_cons h1.ps h2.pss) fun D σ H q => ?_⟩
  obtain ⟨H0, A0, G, ρ, B, o, S, e, k⟩ := q
  obtain ⟨o1, e1, e⟩ := bind2 e
  refine ⟨H0, A0, G, ρ, B, o1, S, e1, ?_⟩
  cases o1 with
  | nx ρ1 => exact fun σ1 H1 B1 S1 => ⟨H0, A0, G, ρ1, B1, o, S1, e, k⟩
  | rt d => cases e; exact k
  | bk ρ1 => cases e; exact k
  | ct ρ1 => cases e; exact k
theorem ss_last (h1 : SS X O Ob Oc O' st g) : SSs X O Ob Oc O' [st] g := ⟨pss_one h1.ps⟩
def sBrk : XS := fun ρ => some (.bk ρ)
def sCnt : XS := fun ρ => some (.ct ρ)
theorem ss_pass (h : O'.all (fun i => O.contains i) = true := by rfl) : SS X O Ob Oc O' (.Pass pos) sNop := by
  refine ⟨ps_imp ps_pass fun D σ H q => ?_⟩
  obtain ⟨H0, A0, G, ρ, B, o, S, e, k⟩ := q
  cases e
  obtain ⟨B', S'⟩ := S.weak (sub_of h)
  exact k σ H B' S'
theorem ss_break (h : Ob.all (fun i => O.contains i) = true := by rfl) : SS X O Ob Oc O' (.Break pos) sBrk := by
  refine ⟨ps_imp ps_break fun D σ H q => ?_⟩
  obtain ⟨H0, A0, G, ρ, B, o, S, e, k⟩ := q
  cases e
  obtain ⟨B', S'⟩ := S.weak (sub_of h)
  exact k σ H B' S'
theorem ss_cont (h : Oc.all (fun i => O.contains i) = true := by rfl) : SS X O Ob Oc O' (.Continue pos) sCnt := by
  refine ⟨ps_imp ps_continue fun D σ H q => ?_⟩
  obtain ⟨H0, A0, G, ρ, B, o, S, e, k⟩ := q
  cases e
  obtain ⟨B', S'⟩ := S.weak (sub_of h)
  exact k σ H B' S'
def sRet (f : Xp) : XS := fun ρ => (f ρ).map .rt
theorem ss_ret (he : SE X O m e f) (hm : m ≠ .w := by decide) : SS X O Ob Oc O' (.Return (some e) pos) (sRet f) := by
  refine ⟨ps_imp (ps_ret he.pe) fun D σ H q => ?_⟩
  obtain ⟨H0, A0, G, ρ, B, o, S, e, k⟩ := q
  obtain ⟨d, ed, e⟩ := Option.map_eq_some_iff.mp e
  subst e
  exact ⟨H0, A0, G, ρ, B, d, S, ed, fun v H' s r => k v H' (S.same.trans s) ((r.toS S.tr hm).anti fun a z => .inl z)⟩
theorem ss_retN : SS X O Ob Oc O' (.Return none pos) (sRet (xC .none)) := by
  refine ⟨ps_imp ps_retN fun D σ H q => ?_⟩
  obtain ⟨H0, A0, G, ρ, B, o, S, e, k⟩ := q
  cases e
  exact k .non H S.same .non
def sIf (c : PEnv → Option Bool) (g h : XS) : XS := fun ρ => (c ρ).bind fun b => if b then g ρ else h ρ
theorem ss_if {c : Expr} {tc : PEnv → Option Bool} {p q : List Stmt} (hc : ST X O c tc) (hp : SSs X O Ob Oc O' p g) (hq : SSs X O Ob Oc O' q h) : SS X O Ob Oc O' (.If c p q pos) (sIf tc g h) := by
  refine ⟨ps_imp (ps_if hc.pt hp.pss hq.pss) fun D σ H q => ?_⟩
  obtain ⟨H0, A0, G, ρ, B, o, S, e, k⟩ := q
  obtain ⟨b, eb, e⟩ := bind2 e
  refine ⟨H0, A0, G, ρ, B, b, S, eb, fun H1 s1 => ?_⟩
  cases b with
  | true => exact ⟨H0, A0, G, ρ, B, o, S.mono s1, e, k⟩
  | false => exact ⟨H0, A0, G, ρ, B, o, S.mono s1, e, k⟩

/-! ### a name takes a value -/
def sSet (i : Nat) (f : Xp) : XS := fun ρ => (f ρ).bind fun d => if i < ρ.length then some (.nx (ρ.set i (some d))) else none
theorem Sim.grow {K : PySem.W.Frag} {H0 H : Hp} {A0 : Addr → Prop} {G : List (V × D)} {σ : L2.St} {ρ : PEnv} {B : Nat → Option Addr} {i : Nat} (S : Sim K H0 A0 G (O.filter (· != i)) σ H ρ B) (h : ∀ d, ρ[i]? = some (some d) → isMut d = false) : Sim K H0 A0 G (i :: O) σ H ρ B := by
  refine ⟨S.same, S.a0, S.len, fun j a e => List.mem_cons_of_mem _ (List.mem_filter.mp (S.bo j a e)).1, S.inj, S.fr, fun j d hj e m => ?_, S.slot, S.gs⟩
  by_cases hji : j = i
  · subst hji
    rw [h d e] at m
    cases m
  · rcases List.mem_cons.mp hj with hj | hj
    · exact absurd hj hji
    · exact S.ob j d (List.mem_filter.mpr ⟨hj, by simpa using hji⟩) e m
theorem setf_of {D : Ends} {i : Nat} (σ : L2.St) (H : Hp) (q : simS X.K O Ob Oc (i :: O) (sSet i f) D σ H) : tAsg (simT X.K O .f f) (gName i) D σ H := by
  obtain ⟨H0, A0, G, ρ, B, o, S, e, k⟩ := q
  obtain ⟨d, ed, e⟩ := bind2 e
  split at e
  · rename_i hl
    cases e
    refine ⟨H0, A0, G, ρ, B, d, S, ed, fun v H1 s1 r1 => ?_⟩
    rcases r1 with ⟨a, rfl, hn, r1⟩ | ⟨r1, nm⟩
    · obtain ⟨B', S'⟩ := S.setF s1 hn r1 hl
      exact k _ H1 B' S'
    · have S' := (S.mono s1).setS r1 hl
      refine k _ H1 _ (S'.grow fun d' e' => ?_)
      rw [List.getElem?_set_self hl] at e'
      cases e'
      exact nm
  · cases e
theorem ss_setF (i : Nat) {x : Str} {O' : List Nat} (hN : X.N.Nodup) (he : SE X O .f e f) (hi : X.N[i]? = some x := by rfl) (hx : Loc X.env.scope x := by first | exact Or.inl rfl | exact Or.inr rfl) (hs : swapsWith e (some (.Name x pos')) pos.line X.env = pure false := by rfl) (hf : X.fn x = true ∨ X.env.scope.names.lookup x = some .local := by first | exact .inl rfl | exact .inr rfl)
    (hO : i :: O = O' := by rfl) : SS X O Ob Oc O' (.Assign [.Name x pos'] e pos) (sSet i f) := by
  subst hO
  exact ⟨ps_imp (ps_set hN hi hx he.pe hs hf) fun D σ H q => setf_of σ H q⟩
theorem ss_setS (i : Nat) {x : Str} (hN : X.N.Nodup) (he : SE X O m e f) (hm : m ≠ .w := by decide) (hi : X.N[i]? = some x := by rfl) (hx : Loc X.env.scope x := by first | exact Or.inl rfl | exact Or.inr rfl) (hs : swapsWith e (some (.Name x pos')) pos.line X.env = pure false := by rfl) (hf : X.fn x = true ∨ X.env.scope.names.lookup x = some .local := by first | exact .inl rfl | exact .inr rfl)
    (hO : O.filter (· != i) = O' := by rfl) : SS X O Ob Oc O' (.Assign [.Name x pos'] e pos) (sSet i f) := by
  refine ⟨ps_imp (ps_set hN hi hx he.pe hs hf) fun D σ H q => ?_⟩
  obtain ⟨H0, A0, G, ρ, B, o, S, e, k⟩ := q
  obtain ⟨d, ed, e⟩ := bind2 e
  split at e
  · rename_i hl
    cases e
    refine ⟨H0, A0, G, ρ, B, d, S, ed, fun v H1 s1 r1 => ?_⟩
    have S' := (S.mono s1).setS ((r1.toS S.tr hm)) hl
    rw [hO] at S'
    exact k _ H1 _ S'
  · cases e
/-- x = [..] -/
theorem ss_setLc (i : Nat) {y : Str} {py : Pos} {ts : List Nat} {sf : Bool} {tg iter elt : Expr} {ifs : List Expr} {scope : Scope} {own : List (Str × Nat)} {it : XL} {gg : D → PEnv → Option PEnv} {t : PEnv → Option Bool} {spos : Pos} {O' : List Nat}
    (hN : X.N.Nodup) (hi : SI X O sf tg iter it) (ok : BlkOk X.N X.env.scope scope own) (hg : InBlk X scope fun Y => SG Y O O ts tg gg) (ht : InBlk X scope fun Y => STs Y O ifs t) (he : InBlk X scope fun Y => SE Y O m elt f)
    (hm : m ≠ .w := by decide) (hy : X.N[i]? = some y := by rfl) (hyl : X.env.scope.names.lookup y = some .local := by rfl) (hsw : swapsWith (.ListComp elt [⟨tg, iter, ifs, 0⟩] scope pos) (some (.Name y py)) spos.line X.env = pure true := by exact sw_true rfl rfl rfl (by decide +kernel))
    (hts : ts.all (fun i => (own.map (·.2)).contains i) = true := by rfl) (hO : (own.map (·.2)).all (fun i => !O.contains i) = true := by rfl) (hc : X.calm = true := by rfl) (hs : ∀ x, foldedSetIterable iter X.env x = pure x := by intro _; rfl) (hO' : i :: O = O' := by rfl) :
    SS X O Ob Oc O' (.Assign [.Name y py] (.ListComp elt [⟨tg, iter, ifs, 0⟩] scope pos) spos) (sSet i (xLc it gg t f (own.map (·.2)))) := by
  subst hO'
  refine ⟨ps_imp (ps_setLc (wi := simI X.K O sf it) (g := simG X.K O O ts gg) (tt := simTT X.K O t) (te := simT X.K O m f) hc hN hy hyl hsw hi.pi ok (fun s H C cl fp => (hg s H C cl fp).pg) (fun s H C cl fp => (ht s H C cl fp).pts) (fun s H C cl fp => (he s H C cl fp).pe) hs) fun D σ H q => ?_⟩
  exact lc_of hm (fun i hi => by simpa using List.all_eq_true.mp hts i (by simpa using hi)) (fun i hi => by simpa using List.all_eq_true.mp hO i hi) σ H _ (setf_of σ H q)
/-- a, b = e -/
def sTgt (g : D → PEnv → Option PEnv) (f : Xp) : XS := fun ρ => (f ρ).bind fun d => (g d ρ).map .nx
theorem ss_tgt {tg : Expr} {ts : List Nat} {gg : D → PEnv → Option PEnv} (he : SE X O m e f) (hg : SG X O O' ts tg gg) (hm : m ≠ .w := by decide) (hs : swapsWithSole [tg] e pos.line X.env = pure false := by rfl) (hw : swappedStores [tg] e X.env = pure none := by rfl)
    (h1 : (assignEach [tg] X.env).map (·.2) = [assign tg X.env] := by rfl) : SS X O Ob Oc O' (.Assign [tg] e pos) (sTgt gg f) := by
  refine ⟨ps_imp (ps_asg he.pe hg.pg hs hw h1) fun D σ H q => ?_⟩
  obtain ⟨H0, A0, G, ρ, B, o, S, e, k⟩ := q
  obtain ⟨d, ed, e⟩ := bind2 e
  obtain ⟨ρ', eρ, e⟩ := Option.map_eq_some_iff.mp e
  subst e
  refine ⟨H0, A0, G, ρ, B, d, S, ed, fun v H1 s1 r1 => ?_⟩
  exact ⟨H0, A0, G, ρ, B, d, ρ', S.mono s1, (r1.toS S.tr hm), eρ, fun σ' _ S' => k σ' H1 _ S'⟩
/-- x op= e -/
def sAug (i : Nat) (g : D → D → Option D) (f : Xp) : XS := fun ρ => (xVar i ρ).bind fun x => (f ρ).bind fun y => (g x y).bind fun z => if i < ρ.length then some (.nx (ρ.set i (some z))) else none
theorem ss_aug (i : Nat) {x : Str} {op : Operator} {g : D → D → Option D} (hN : X.N.Nodup) (ho : OpR X (inplaceOp op) (rD X.K .f g)) (he : SE X O m e f) (hni : O.contains i = false := by rfl) (hi : X.N[i]? = some x := by rfl) (hx : Loc X.env.scope x := by first | exact Or.inl rfl | exact Or.inr rfl) (hf : X.fn x = true ∨ X.env.scope.names.lookup x = some .local := by first | exact .inl rfl | exact .inr rfl) :
    SS X O Ob Oc (O.filter (· != i)) (.AugAssign (.Name x pos') op e pos) (sAug i g f) := by
  refine ⟨ps_imp (ps_aug hN hi hx he.pe (ti := rD X.K .f g) ho hf) fun D σ H q => ?_⟩
  obtain ⟨H0, A0, G, ρ, B, o, S, e, k⟩ := q
  obtain ⟨d, ed, e⟩ := bind2 e
  obtain ⟨y, ey, e⟩ := bind2 e
  obtain ⟨z, ez, e⟩ := bind2 e
  split at e
  · rename_i hl
    cases e
    rcases S.slot i d (getD_some ed) with ⟨a, h1, _, _⟩ | ⟨_, v, h2, h3⟩
    · have := S.bo i a h1
      simp at hni
      exact absurd this hni
    refine ⟨v, h2, H0, A0, G, ρ, B, y, S, ey, fun u H1 s1 r1 => ⟨Av A0 B, d, y, z, (S.mono s1).tr, .inl (h3.mono s1), r1.toW, ez, fun w H2 s2 r2 => ?_⟩⟩
    have S2 := S.mono (s1.trans s2)
    exact k _ H2 _ (S2.setS (r2.toS (S.mono s1).tr (by decide)) hl)
  · cases e

/-! ### an own list changes -/
def sApp (i : Nat) (f : Xp) : XS := fun ρ => (xVar i ρ).bind fun x => (f ρ).bind fun y => match x with
  | .list xs => if xs.length < 16777216 ∧ i < ρ.length then some (.nx (ρ.set i (some (.list (xs ++ [y]))))) else none
  | _ => none
theorem own_of {K : PySem.W.Frag} {H0 H : Hp} {A0 : Addr → Prop} {G : List (V × D)} {σ : L2.St} {ρ : PEnv} {B : Nat → Option Addr} {i : Nat} {xs : List D} (S : Sim K H0 A0 G O σ H ρ B) (hi : O.contains i = true) (e : xVar i ρ = some (.list xs)) : ∃ a vs, B i = some a ∧ σ[i]? = some (some (.ref a)) ∧ H a = some (.lst vs) ∧ RpL K (Av A0 B) H vs xs := by
  obtain ⟨a, h1, h2, h3⟩ := S.ob i _ (by simpa using hi) (getD_some e) rfl
  cases h3 with
  | lst h r => exact ⟨a, _, h1, h2, h, r⟩
theorem upd_lst {K : PySem.W.Frag} {H : Hp} {A : Addr → Prop} {a : Addr} {vs : List V} {ds : List D} (ha : A a) (r : RpL K A H vs ds) : Tp K A (upd H a (.lst vs)) a (.list ds) := by
  refine .lst upd_same (r.step (fun b o e n => ?_) fun _ z => .inl z)
  rw [upd_ne (fun z => n (by rw [z]; exact ha))]
  exact e
theorem ss_app (i : Nat) {x : Str} {apos p1 cpos : Pos} (he : SE X O m e f) (hm : m ≠ .w := by decide) (hO : O.contains i = true := by rfl) (hN : X.N[i]? = some x := by rfl) (hv : Vis X.env.scope x := by first | exact Or.inl rfl | exact Or.inr (Or.inl rfl) | exact Or.inr (Or.inr rfl))
    (hd : (x == ("__debug__" : Str)) = false := by decide) (hcd : (x == ("__classdict__" : Str)) = false := by decide) (hbase : attributeBase (.Name x p1) "append" X.env (eval (.Name x p1) X.env) = eval (.Name x p1) X.env := by rfl)
    (hfew : ((backTo cpos (starEach (e :: []) X.env)).all (fun x => !x.1) && (backToKw cpos (keywordEach [] X.env)).all (fun x => x.1.isSome) && decide ((e :: ([] : List Expr)).length + ([] : List Keyword).length + (if ([] : List Keyword).isEmpty then 0 else 1) < 30)) = true := by rfl)
    (hline : (apos.endLine == cpos.line) = true := by rfl) (hs : starEach (e :: []) X.env = (false, eval e X.env) :: starEach [] X.env := by rfl) (hplain : (backTo cpos (starEach [] X.env)).any (·.1) = false := by rfl)
    (hsw : swapsWith (.Call (.Attribute (.Name x p1) "append" apos) [e] [] cpos) none pos.line X.env = pure false := by rfl) : SS X O Ob Oc O (.Expr (.Call (.Attribute (.Name x p1) "append" apos) [e] [] cpos) pos) (sApp i f) := by
  refine ⟨ps_imp (ps_expr (pe_bm PySem.F.plainAttrs_list PySem.F.slot_list_append PySem.F.type_list_append mt_append (pe_var hN hv hd hcd) (pa_cons he.pe pa_nil hs) hbase hfew hline hs hplain) hsw) fun D σ H q => ?_⟩
  obtain ⟨H0, A0, G, ρ, B, o, S, e, k⟩ := q
  obtain ⟨d, ed, e⟩ := bind2 e
  obtain ⟨y, ey, e⟩ := bind2 e
  split at e
  · split at e
    · rename_i hz
      cases e
      obtain ⟨a, vs, hB, hσ, ha, ra⟩ := own_of S hO ed
      refine ⟨.ref a, hσ, .inl ⟨rfl, _, .of ha⟩, H0, A0, G, ρ, B, y, S, ey, fun v H1 s1 r1 => ?_⟩
      have S1 := S.mono s1
      refine ⟨a, vs, v, rfl, rfl, s1 _ _ ha, by rw [ra.length]; exact hz.1, ?_⟩
      have av : Av A0 B a := .inr ⟨i, hB⟩
      exact k _ _ B (S1.write hB hσ (upd_lst av (RpL.app (.one (r1.toS S.tr hm)) (ra.mono s1))) hz.2)
    · cases e
  · cases e
def sExt (i : Nat) (f : Xp) : XS := fun ρ => (xVar i ρ).bind fun x => (f ρ).bind fun y => match x, y with
  | .list xs, .list ys => if xs.length + ys.length ≤ 16777216 ∧ i < ρ.length then some (.nx (ρ.set i (some (.list (xs ++ ys))))) else none
  | _, _ => none
theorem ss_ext (i : Nat) {x : Str} {apos p1 cpos : Pos} (he : SE X O m e f) (hO : O.contains i = true := by rfl) (hN : X.N[i]? = some x := by rfl) (hv : Vis X.env.scope x := by first | exact Or.inl rfl | exact Or.inr (Or.inl rfl) | exact Or.inr (Or.inr rfl))
    (hd : (x == ("__debug__" : Str)) = false := by decide) (hcd : (x == ("__classdict__" : Str)) = false := by decide) (hbase : attributeBase (.Name x p1) "extend" X.env (eval (.Name x p1) X.env) = eval (.Name x p1) X.env := by rfl)
    (hfew : ((backTo cpos (starEach (e :: []) X.env)).all (fun x => !x.1) && (backToKw cpos (keywordEach [] X.env)).all (fun x => x.1.isSome) && decide ((e :: ([] : List Expr)).length + ([] : List Keyword).length + (if ([] : List Keyword).isEmpty then 0 else 1) < 30)) = true := by rfl)
    (hline : (apos.endLine == cpos.line) = true := by rfl) (hs : starEach (e :: []) X.env = (false, eval e X.env) :: starEach [] X.env := by rfl) (hplain : (backTo cpos (starEach [] X.env)).any (·.1) = false := by rfl)
    (hsw : swapsWith (.Call (.Attribute (.Name x p1) "extend" apos) [e] [] cpos) none pos.line X.env = pure false := by rfl) : SS X O Ob Oc O (.Expr (.Call (.Attribute (.Name x p1) "extend" apos) [e] [] cpos) pos) (sExt i f) := by
  refine ⟨ps_imp (ps_expr (pe_bm PySem.F.plainAttrs_list PySem.F.slot_list_extend PySem.F.type_list_extend mt_extend (pe_var hN hv hd hcd) (pa_cons he.pe pa_nil hs) hbase hfew hline hs hplain) hsw) fun D σ H q => ?_⟩
  obtain ⟨H0, A0, G, ρ, B, o, S, e, k⟩ := q
  obtain ⟨d, ed, e⟩ := bind2 e
  obtain ⟨y, ey, e⟩ := bind2 e
  split at e
  · split at e
    · rename_i hz
      cases e
      obtain ⟨a, vs, hB, hσ, ha, ra⟩ := own_of S hO ed
      refine ⟨.ref a, hσ, .inl ⟨rfl, _, .of ha⟩, H0, A0, G, ρ, B, _, S, ey, fun v H1 s1 r1 => ?_⟩
      have S1 := S.mono s1
      obtain ⟨b, zs, rfl, hb, rb⟩ := r1.toW.lst
      refine ⟨a, b, vs, zs, rfl, rfl, s1 _ _ ha, hb, by rw [ra.length, rb.length]; exact hz.1, ?_⟩
      have av : Av A0 B a := .inr ⟨i, hB⟩
      exact k _ _ B (S1.write hB hσ (upd_lst av (RpL.app rb (ra.mono s1))) hz.2)
    · cases e
  · cases e
/-- x[j] = e -/
def sPut (i : Nat) (fj f : Xp) : XS := fun ρ => (f ρ).bind fun y => (xVar i ρ).bind fun x => (fj ρ).bind fun j => match x, j with
  | .list xs, .int j => (ixN xs.length j).bind fun n => if i < ρ.length then some (.nx (ρ.set i (some (.list (xs.set n y))))) else none
  | _, _ => none
theorem ss_put (i : Nat) {x : Str} {p1 p2 : Pos} {j : Expr} {fj : Xp} (he : SE X O m e f) (hj : SE X O mb j fj) (hm : m ≠ .w := by decide) (hO : O.contains i = true := by rfl) (hN : X.N[i]? = some x := by rfl) (hv : Vis X.env.scope x := by first | exact Or.inl rfl | exact Or.inr (Or.inl rfl) | exact Or.inr (Or.inr rfl))
    (hd : (x == ("__debug__" : Str)) = false := by decide) (hcd : (x == ("__classdict__" : Str)) = false := by decide)
    (ha : ∀ v, assign (.Subscript (.Name x p1) j p2) X.env v = (do
      let ov ← holding [v] (eval (.Name x p1) X.env)
      let iv ← holding [v, ov] (eval j X.env)
      standAt p2
      holding [v, ov, iv] (setItem ov iv v)
      release [v, ov, iv] []) := by intro _; rfl)
    (hs : swapsWithSole [.Subscript (.Name x p1) j p2] e pos.line X.env = pure false := by rfl) (hw : swappedStores [.Subscript (.Name x p1) j p2] e X.env = pure none := by rfl)
    (h1 : (assignEach [.Subscript (.Name x p1) j p2] X.env).map (·.2) = [assign (.Subscript (.Name x p1) j p2) X.env] := by rfl) : SS X O Ob Oc O (.Assign [.Subscript (.Name x p1) j p2] e pos) (sPut i fj f) := by
  refine ⟨ps_imp (ps_asg he.pe (pg_sub (pe_var hN hv hd hcd) hj.pe set_list ha) hs hw h1) fun D σ H q => ?_⟩
  obtain ⟨H0, A0, G, ρ, B, o, S, e, k⟩ := q
  obtain ⟨y, ey, e⟩ := bind2 e
  obtain ⟨d, ed, e⟩ := bind2 e
  obtain ⟨z, ez, e⟩ := bind2 e
  split at e
  · obtain ⟨n, en, e⟩ := bind2 e
    split at e
    · rename_i hz
      cases e
      obtain ⟨a, vs, hB, hσ, ha, ra⟩ := own_of S hO ed
      refine ⟨H0, A0, G, ρ, B, y, S, ey, fun v H1 s1 r1 => ⟨.ref a, hσ, H0, A0, G, ρ, B, _, S.mono s1, ez, fun u H2 s2 r2 => ?_⟩⟩
      have s12 := s1.trans s2
      have S1 := S.mono s12
      refine ⟨a, vs, _, n, rfl, r2.toW.int, s12 _ _ ha, by rw [ra.length]; exact en, ?_⟩
      have av : Av A0 B a := .inr ⟨i, hB⟩
      exact k _ _ B (S1.write hB hσ (upd_lst av (RpL.set ((r1.toS S.tr hm).mono s2) n (ra.mono s12))) hz)
    · cases e
  · cases e

/-! ### loops -/
def forL (g : D → PEnv → Option PEnv) (b : XS) : List D → XS
  | [], ρ => some (.nx ρ)
  | d :: ds, ρ => (g d ρ).bind fun ρ1 => (b ρ1).bind fun o => match o with
    | .nx ρ2 => forL g b ds ρ2
    | .ct ρ2 => forL g b ds ρ2
    | .bk ρ2 => some (.nx ρ2)
    | .rt d => some (.rt d)
def sFor (it : XL) (g : D → PEnv → Option PEnv) (b : XS) : XS := fun ρ => (it ρ).bind fun ds => forL g b ds ρ
theorem ss_for {tg iter : Expr} {body : List Stmt} {ts : List Nat} {it : XL} {gg : D → PEnv → Option PEnv} (hi : SI X O true tg iter it) (hg : SG X O O1 ts tg gg) (hb : SSs X O1 O' O O body g)
    (hsub : O'.all (fun i => O.contains i) = true := by rfl) (hp : PassesOwn (model X.prog X.w) X.A X.env X.xe := by exact PassesOwn.never) (hc : X.calm = true := by rfl) (hs : ∀ x, foldedSetIterable iter X.env x = pure x := by intro _; rfl) : SS X O Ob Oc O' (.For tg iter body [] pos) (sFor it gg g) := by
  refine ⟨ps_imp (ps_for hp hc hi.pi hg.pg hb.pss hs) fun D σ H q => ?_⟩
  obtain ⟨H0, A0, G, ρ, B, o, S, e, k⟩ := q
  obtain ⟨ds, eds, e⟩ := bind2 e
  refine ⟨H0, A0, G, ρ, B, ds, S, eds, fun J H1 gs s1 yl gr hz => ?_⟩
  have Sg := (S.mono s1).ghost (G' := gs) fun p hp => gr p hp
  refine ⟨fun i n σi Hi => n = ds.length - i ∧ i ≤ ds.length ∧ ∃ ρi Bi, Sim X.K H0 A0 (gs ++ G) O σi Hi ρi Bi ∧ forL gg g (ds.drop i) ρi = some o, ⟨ds.length, rfl, Nat.zero_le _, ρ, B, Sg, e⟩, ?_⟩
  rintro i n σi Hi ⟨rfl, hi, ρi, Bi, Si, ei⟩
  have gw : ∀ p ∈ gs, WRp X.K (Av A0 Bi) Hi p.1 p.2 := fun p hp => .inl (Si.gs p (List.mem_append_left _ hp))
  by_cases hlt : i < ds.length
  · have ed : ds[i]? = some ds[i] := List.getElem?_eq_getElem hlt
    rw [List.drop_eq_getElem_cons hlt] at ei
    simp only [forL] at ei
    obtain ⟨ρ1, eρ1, ei⟩ := bind2 ei
    obtain ⟨o1, eo1, ei⟩ := bind2 ei
    obtain ⟨hgo, hy⟩ := yl.go _ Hi i _ Si.tr gw ed
    refine .inr ⟨hgo, fun σ' H' => i + 1 ≤ ds.length ∧ ∃ ρ' B', Sim X.K H0 A0 (gs ++ G) O σ' H' ρ' B' ∧ forL gg g (ds.drop (i + 1)) ρ' = some o, fun σ' H' hN => ⟨ds.length - (i + 1), by omega, rfl, hN.1, hN.2⟩, fun x H' hx => ?_⟩
    obtain ⟨s2, rx⟩ := hy x H' hx
    refine ⟨H0, A0, gs ++ G, ρi, Bi, _, ρ1, Si.mono s2, rx, eρ1, fun σ2 _ S2 => ⟨H0, A0, gs ++ G, ρ1, _, o1, S2, eo1, ?_⟩⟩
    cases o1 with
    | nx ρ2 => exact fun σ3 H3 B3 S3 => ⟨by omega, ρ2, B3, S3, ei⟩
    | ct ρ2 => exact fun σ3 H3 B3 S3 => ⟨by omega, ρ2, B3, S3, ei⟩
    | bk ρ2 => cases ei; exact fun σ3 H3 B3 S3 => k σ3 H3 B3 S3.unghost
    | rt d => cases ei; exact k
  · have e' : i = ds.length := by omega
    subst e'
    rw [List.drop_length] at ei
    cases ei
    obtain ⟨B', S'⟩ := Si.unghost.weak (sub_of hsub)
    exact .inl ⟨yl.stop _ Hi Si.tr gw, k σi Hi B' S'⟩
def whileF (c : PEnv → Option Bool) (b : XS) : Nat → XS
  | 0, _ => none
  | n + 1, ρ => (c ρ).bind fun t => if t then (b ρ).bind fun o => match o with
      | .nx ρ2 => whileF c b n ρ2
      | .ct ρ2 => whileF c b n ρ2
      | .bk ρ2 => some (.nx ρ2)
      | .rt d => some (.rt d)
    else some (.nx ρ)
/-- at most so many turns -/
def fuelN : Nat := 2 ^ 2000
def sWhile (c : PEnv → Option Bool) (b : XS) : XS := whileF c b fuelN
theorem ss_while {c : Expr} {body : List Stmt} {tc : PEnv → Option Bool} (hc : ST X O c tc) (hb : SSs X O O' O O body g) (hsub : O'.all (fun i => O.contains i) = true := by rfl) (hp : PassesOwn (model X.prog X.w) X.A X.env X.xe := by exact PassesOwn.never) : SS X O Ob Oc O' (.While c body [] pos) (sWhile tc g) := by
  refine ⟨ps_imp (ps_while hp hc.pt hb.pss) fun D σ H q => ?_⟩
  obtain ⟨H0, A0, G, ρ, B, o, S, e, k⟩ := q
  refine ⟨fun n σi Hi => ∃ ρi Bi, Sim X.K H0 A0 G O σi Hi ρi Bi ∧ whileF tc g n ρi = some o, ⟨fuelN, ρ, B, S, e⟩, ?_⟩
  rintro n σi Hi ⟨ρi, Bi, Si, ei⟩
  cases n with
  | zero => cases ei
  | succ n =>
    simp only [whileF] at ei
    obtain ⟨t, et, ei⟩ := bind2 ei
    refine ⟨H0, A0, G, ρi, Bi, t, Si, et, fun H1 s1 => ?_⟩
    cases t with
    | true =>
      rw [if_pos rfl] at ei ⊢
      obtain ⟨o1, eo1, ei⟩ := bind2 ei
      refine ⟨fun σ' H' => ∃ ρ' B', Sim X.K H0 A0 G O σ' H' ρ' B' ∧ whileF tc g n ρ' = some o, fun σ' H' hN => ⟨n, Nat.lt_succ_self _, hN⟩, H0, A0, G, ρi, Bi, o1, Si.mono s1, eo1, ?_⟩
      cases o1 with
      | nx ρ2 => exact fun σ3 H3 B3 S3 => ⟨ρ2, B3, S3, ei⟩
      | ct ρ2 => exact fun σ3 H3 B3 S3 => ⟨ρ2, B3, S3, ei⟩
      | bk ρ2 => cases ei; exact k
      | rt d => cases ei; exact k
    | false =>
      rw [if_neg Bool.false_ne_true] at ei ⊢
      cases ei
      obtain ⟨B', S'⟩ := (Si.mono s1).weak (sub_of hsub)
      exact k σi H1 B' S'
end

/-! ### a def's body -/
def runD (n N : Nat) (g : XS) : List D → Option D := fun ds => (g (ds.map some ++ List.replicate (N - n) none)).bind fun o => match o with
  | .nx _ => some .none
  | .rt d => some d
  | _ => none
theorem sim_start {K : PySem.W.Frag} {A : Addr → Prop} {H : Hp} {vs : List V} {ds : List D} {N : List Str} {n : Nat} (t : Tr A H) (r : RpL K A H vs ds) (hn : vs.length = n) : Sim K H A [] [] (start N vs) H (ds.map some ++ List.replicate (N.length - n) none) (fun _ => none) := by
  refine ⟨Same.refl H, t, ?_, fun i a e => (nomatch e), fun i j a e => (nomatch e), fun i a e => (nomatch e), fun i d hi => (nomatch hi), fun i d e => ?_, fun p hp => (nomatch hp)⟩
  · unfold L2.start
    simp [r.length, hn.symm]
  · refine .inr ⟨rfl, ?_⟩
    by_cases hi : i < ds.length
    · rw [List.getElem?_append_left (by simpa using hi), List.getElem?_map] at e
      rw [List.getElem?_eq_getElem hi] at e
      cases e
      obtain ⟨v, ev, rv⟩ := r.get (List.getElem?_eq_getElem hi)
      refine ⟨v, ?_, rv.anti fun a z => ?_⟩
      · unfold L2.start
        rw [List.getElem?_append_left (by rw [List.length_map, r.length]; exact hi), List.getElem?_map, ev]
        rfl
      · rcases z with z | ⟨j, z⟩
        · exact z
        · cases z
    · rw [List.getElem?_append_right (by simpa using hi), List.getElem?_replicate] at e
      split at e <;> cases e
theorem fn_ok {P : Program} {w : World} {K : PySem.W.Frag} {mg : Str → Option Value} {base : Heap} {x qual : Str} {st : Stmt} {f : Addr} {fd : FuncData} {N ps : List Str} {k : Nat} {O' : List Nat} {g : XS} (F : Fun K x qual st f fd) (S : FnScope N ps (defScope st))
    (hb : ∀ (cdv : Value) (A : Around) (outer : List Env) (s : Shared) (H : Hp) (E : XK), Room k (A.deeper (envOfC qual (defScope st) s.heap.objs.size f cdv)) → SSs (cxOf CX0 P w K mg base N qual (defScope st) f cdv A outer s H E).nox [] [] [] O' (defBody st) g) :
    FnOk P w K mg base CX0 (k + 1) f fd ps (spD K ps.length (runD ps.length N.length g)) := by
  refine F.ok S (fun vs H Q E h => ?_) (fun cdv A outer s H vs Q E hr h => ?_)
  · obtain ⟨A, ds, d, t, hn, _⟩ := h
    exact hn
  · obtain ⟨A', ds, d, t, hn, r, e, q⟩ := h
    obtain ⟨o, eo, e⟩ := bind2 e
    refine ⟨_, (hb cdv A outer s H E hr).pss, H, A', [], _, fun _ => none, o, sim_start t r hn, eo, ?_⟩
    cases o with
    | nx ρ => cases e; exact fun σ' H' B' S' => q .non H' S'.same .non
    | rt d' => cases e; exact fun v H' s' r' => q v H' s' r'
    | bk ρ => cases e
    | ct ρ => cases e
theorem def_ok {P : Program} {w : World} {K : PySem.W.Frag} {mg : Str → Option Value} {base : Heap} {x : Str} {f : Addr} {fd : FuncData} {ps : List Str} {k : Nat} {F : List D → Option D} (h : FnOk P w K mg base CX0 k f fd ps (spD K ps.length F)) (hm : mg x = some (.ref f)) (kp : PySem.W.keepIn K (.ref f) = true) (hb : Binds K fd ps []) : Def P w K mg base k x ps F := ⟨⟨f, fd, h, hm, kp, hb⟩⟩
end Pm

namespace Pm
open PySem PySem.Spec PyProof.Rows L2

/-! ### several names at once -/
def oAdd' : D → D → Option D
  | .int a, .int b => some (.int (a + b))
  | _, _ => none
section
variable {K : PySem.W.Frag} {A0 A : Addr → Prop} {H0 H H' : Hp} {G : List (V × D)} {O : List Nat} {σ : L2.St} {ρ : PEnv} {B : Nat → Option Addr} {v : V} {d : D}
/-- a guarded cell becomes a slot's own -/
theorem Sim.adopt (S : Sim K H0 (Gd A0 a) G O σ H ρ B) {i : Nat} (na : ¬ A0 a) (h0 : H0 a = none) (r : Tp K (Av (Gd A0 a) B) H a d) (hi : i < ρ.length) :
    Sim K H0 A0 G (i :: O) (σ.set i (some (.ref a))) H (ρ.set i (some d)) (fun j => if j = i then some a else B j) := by
  have hiσ : i < σ.length := by rw [← S.len]; exact hi
  have nb : ∀ j, B j ≠ some a := fun j z => (S.fr j a z).2.1 (.inr rfl)
  have sub : ∀ j b, (if j = i then some a else B j) = some b → (j = i ∧ b = a) ∨ (j ≠ i ∧ B j = some b) := fun j b e => by
    by_cases hj : j = i
    · simp [hj] at e; exact .inl ⟨hj, e.symm⟩
    · exact .inr ⟨hj, by simpa [hj] using e⟩
  have an : ∀ b, Av A0 (fun j => if j = i then some a else B j) b → Av (Gd A0 a) B b := fun b z => by
    rcases z with z | ⟨j, z⟩
    · exact .inl (.inl z)
    · rcases sub j b z with ⟨_, q⟩ | ⟨_, q⟩
      · exact .inl (.inr q)
      · exact .inr ⟨j, q⟩
  have ans : ∀ b, Av A0 (fun j => if j = i then some a else B j) b → Av (Gd A0 a) B b ∨ H b = none := fun b z => .inl (an b z)
  refine ⟨S.same, fun b z => S.a0 b (.inl z), by simp [S.len], fun j b e => ?_, fun j k b e e' => ?_, fun j b e => ?_, fun j d' hj e m => ?_, fun j d' e => ?_, fun p hp => (S.gs p hp).anti an⟩
  · rcases sub j b e with ⟨q, _⟩ | ⟨_, q⟩
    · rw [q]; exact List.mem_cons_self
    · exact List.mem_cons_of_mem _ (S.bo j b q)
  · rcases sub j b e with ⟨q, q'⟩ | ⟨q, q'⟩
    · rcases sub k b e' with ⟨p, p'⟩ | ⟨p, p'⟩
      · rw [q, p]
      · rw [q'] at p'; exact absurd p' (nb k)
    · rcases sub k b e' with ⟨p, p'⟩ | ⟨p, p'⟩
      · rw [p'] at q'; exact absurd q' (nb j)
      · exact S.inj j k b q' p'
  · rcases sub j b e with ⟨q, q'⟩ | ⟨q, q'⟩
    · rw [q']
      exact ⟨h0, na, r.some⟩
    · obtain ⟨h1, h2, h3⟩ := S.fr j b q'
      exact ⟨h1, fun z => h2 (.inl z), h3⟩
  · by_cases hne : j = i
    · subst hne
      rw [List.getElem?_set_self hi] at e
      cases e
      exact ⟨a, by simp, by rw [List.getElem?_set_self hiσ], r.step (fun _ _ q _ => q) ans fun _ q => q⟩
    · rw [List.getElem?_set_ne (Ne.symm hne)] at e
      rw [List.getElem?_set_ne (Ne.symm hne)]
      rcases List.mem_cons.mp hj with hj | hj
      · exact absurd hj hne
      obtain ⟨b, h1, h2, h3⟩ := S.ob j d' hj e m
      exact ⟨b, by simp [hne, h1], h2, h3.step (fun _ _ q _ => q) ans fun _ q => q⟩
  · by_cases hne : j = i
    · subst hne
      rw [List.getElem?_set_self hi] at e
      cases e
      exact .inl ⟨a, by simp, by rw [List.getElem?_set_self hiσ], r.step (fun _ _ q _ => q) ans fun _ q => q⟩
    · rw [List.getElem?_set_ne (Ne.symm hne)] at e
      rw [List.getElem?_set_ne (Ne.symm hne)]
      rcases S.slot j d' e with ⟨b, h1, h2, h3⟩ | ⟨h1, v, h2, h3⟩
      · exact .inl ⟨b, by simp [hne, h1], h2, h3.step (fun _ _ q _ => q) ans fun _ q => q⟩
      · exact .inr ⟨by simp [hne, h1], v, h2, h3.anti an⟩
theorem Sim.unguard (S : Sim K H0 (Gd A0 a) G O σ H ρ B) : Sim K H0 A0 G O σ H ρ B := by
  have an : ∀ b, Av A0 B b → Av (Gd A0 a) B b := fun b z => by
    rcases z with z | z
    · exact .inl (.inl z)
    · exact .inr z
  have ans : ∀ b, Av A0 B b → Av (Gd A0 a) B b ∨ H b = none := fun b z => .inl (an b z)
  refine ⟨S.same, fun b z => S.a0 b (.inl z), S.len, S.bo, S.inj, fun j b e => let ⟨h1, h2, h3⟩ := S.fr j b e; ⟨h1, fun z => h2 (.inl z), h3⟩, fun j d' hj e m => ?_, fun j d' e => ?_, fun p hp => (S.gs p hp).anti an⟩
  · obtain ⟨b, h1, h2, h3⟩ := S.ob j d' hj e m
    exact ⟨b, h1, h2, h3.step (fun _ _ q _ => q) ans fun _ q => q⟩
  · rcases S.slot j d' e with ⟨b, h1, h2, h3⟩ | ⟨h1, v, h2, h3⟩
    · exact .inl ⟨b, h1, h2, h3.step (fun _ _ q _ => q) ans fun _ q => q⟩
    · exact .inr ⟨h1, v, h2, h3.anti an⟩
end
abbrev Gl (A0 : Addr → Prop) (L : List Addr) : Addr → Prop := fun b => A0 b ∨ b ∈ L
theorem gl_nil (A0 : Addr → Prop) : Gl A0 [] = A0 := by
  funext b
  simp [Gl]
theorem gl_cons (A0 : Addr → Prop) (a : Addr) (L : List Addr) : Gl (Gd A0 a) L = Gl A0 (a :: L) := by
  funext b
  simp [Gl, Gd, or_assoc]
theorem gl_swap (A0 : Addr → Prop) (a : Addr) (L : List Addr) : Gd (Gl A0 L) a = Gl A0 (a :: L) := by
  funext b
  simp only [Gl, Gd, List.mem_cons]
  exact propext ⟨fun h => h.elim (fun h => h.elim .inl fun h => .inr (.inr h)) fun h => .inr (.inl h), fun h => h.elim (fun h => .inl (.inl h)) fun h => h.elim .inr fun h => .inl (.inr h)⟩
/-- values in a row: the new ones stand at L -/
inductive Pn (K : PySem.W.Frag) (A : Addr → Prop) (H : Hp) : List Addr → List Md → List V → List D → Prop where
  | nil : Pn K A H [] [] [] []
  | own {a : Addr} {L : List Addr} {ms : List Md} {vs : List V} {d : D} {ds : List D} : Tp K A H a d → Pn K A H L ms vs ds → Pn K A H (a :: L) (.f :: ms) (.ref a :: vs) (d :: ds)
  | val {m : Md} {v : V} {L : List Addr} {ms : List Md} {vs : List V} {d : D} {ds : List D} : Rp K A H v d → (m = .f → isMut d = false) → Pn K A H L ms vs ds → Pn K A H L (m :: ms) (v :: vs) (d :: ds)
theorem Pn.anti {K : PySem.W.Frag} {A A' : Addr → Prop} {H : Hp} {L : List Addr} {ms : List Md} {vs : List V} {ds : List D} (h : Pn K A H L ms vs ds) (ha : ∀ a, A' a → A a) : Pn K A' H L ms vs ds := by
  induction h with
  | nil => exact .nil
  | own t _ ih => exact .own (t.step (fun _ _ q _ => q) (fun a z => .inl (ha a z)) fun _ q => q) ih
  | val r n _ ih => exact .val (r.anti ha) n ih
theorem Pn.mono {K : PySem.W.Frag} {A : Addr → Prop} {H H' : Hp} {L : List Addr} {ms : List Md} {vs : List V} {ds : List D} (h : Pn K A H L ms vs ds) (s : Same H H') : Pn K A H' L ms vs ds := by
  induction h with
  | nil => exact .nil
  | own t _ ih => exact .own (t.mono s) ih
  | val r n _ ih => exact .val (r.mono s) n ih
theorem Pn.len {K : PySem.W.Frag} {A : Addr → Prop} {H : Hp} {L : List Addr} {ms : List Md} {vs : List V} {ds : List D} (h : Pn K A H L ms vs ds) : vs.length = ms.length ∧ ds.length = ms.length := by
  induction h with
  | nil => exact ⟨rfl, rfl⟩
  | own _ _ ih => simp [ih.1, ih.2]
  | val _ _ _ ih => simp [ih.1, ih.2]
def simAM (K : PySem.W.Frag) (O : List Nat) (ms : List Md) (f : XL) : TA := fun σ H Q => ∃ H0 A0 G ρ B ds, Sim K H0 A0 G O σ H ρ B ∧ f ρ = some ds ∧
  ∀ vs H' L, Same H H' → Sim K H0 (Gl A0 L) G O σ H' ρ B → (∀ a ∈ L, H a = none ∧ ¬ A0 a) → L.Nodup → Pn K (Av (Gl A0 L) B) H' L ms vs ds → Q vs H'
structure SAM (X : Cx) (O : List Nat) (ms : List Md) (es : List Expr) (f : XL) : Prop where
  pa : PA X es (simAM X.K O ms f)
def ownL : List Nat → List Md → List Nat → List Nat
  | i :: is, m :: ms, O => ownL is ms (if m = .f then i :: O else O.filter (· != i))
  | _, _, O => O
def setAll {α : Type} : List Nat → List α → List (Option α) → List (Option α)
  | i :: is, v :: vs, σ => setAll is vs (σ.set i (some v))
  | _, _, σ => σ
theorem assign_all {K : PySem.W.Frag} {H0 H : Hp} {A0 : Addr → Prop} {G : List (V × D)} : ∀ (is : List Nat) {O : List Nat} {σ : L2.St} {ρ : PEnv} {B : Nat → Option Addr} {L : List Addr} {ms : List Md} {vs : List V} {ds : List D},
    Sim K H0 (Gl A0 L) G O σ H ρ B → Pn K (Av (Gl A0 L) B) H L ms vs ds → (∀ a ∈ L, H0 a = none ∧ ¬ A0 a) → L.Nodup → (∀ i ∈ is, i < ρ.length) → is.length = ms.length →
    ∃ B', Sim K H0 A0 G (ownL is ms O) (setAll is vs σ) H (setAll is ds ρ) B'
  | [], O, σ, ρ, B, L, ms, vs, ds, S, p, hL, nd, hi, hl => by
    cases p with
    | nil => rw [gl_nil] at S; exact ⟨B, S⟩
    | own _ _ => simp at hl
    | val _ _ _ => simp at hl
  | i :: is, O, σ, ρ, B, L, ms, vs, ds, S, p, hL, nd, hi, hl => by
    cases p with
    | nil => simp at hl
    | @own a L' ms' vs' d ds' t p' =>
      have hia := hi i List.mem_cons_self
      rw [← gl_swap] at S
      have hn := List.nodup_cons.mp nd
      obtain ⟨h0, n0⟩ := hL a List.mem_cons_self
      have t' : Tp K (Av (Gd (Gl A0 L') a) B) H a d := by rw [gl_swap]; exact t
      have S1 := S.adopt (i := i) (fun z => by
        rcases z with z | z
        · exact n0 z
        · exact hn.1 z) h0 t' hia
      have e : ownL (i :: is) (.f :: ms') O = ownL is ms' (i :: O) := by simp [ownL]
      rw [e]
      refine assign_all is S1 (p'.anti fun c z => ?_) (fun b hb => hL b (List.mem_cons_of_mem _ hb)) hn.2 (fun j hj => by rw [List.length_set]; exact hi j (List.mem_cons_of_mem _ hj)) (by simpa using hl)
      rcases z with (z | z) | ⟨l, z⟩
      · exact .inl (.inl z)
      · exact .inl (.inr (List.mem_cons_of_mem _ z))
      · by_cases hli : l = i
        · simp [hli] at z
          exact .inl (.inr (by rw [z]; exact List.mem_cons_self))
        · simp [hli] at z
          exact .inr ⟨l, z⟩
    | @val m v L' ms' vs' d ds' r n p' =>
      have hia := hi i List.mem_cons_self
      have S1 := S.setS r hia
      have p2 := p'.anti (A' := Av (Gl A0 L) (restr [i] B)) fun c z => restr_av z
      have hi' : ∀ j ∈ is, j < (ρ.set i (some d)).length := fun j hj => by rw [List.length_set]; exact hi j (List.mem_cons_of_mem _ hj)
      by_cases hm : m = .f
      · have S2 := S1.grow fun d' e' => by
          rw [List.getElem?_set_self hia] at e'
          cases e'
          exact n hm
        have e : ownL (i :: is) (m :: ms') O = ownL is ms' (i :: O) := by simp [ownL, hm]
        rw [e]
        exact assign_all is S2 p2 hL nd hi' (by simpa using hl)
      · have e : ownL (i :: is) (m :: ms') O = ownL is ms' (O.filter (· != i)) := by simp [ownL, hm]
        rw [e]
        exact assign_all is S1 p2 hL nd hi' (by simpa using hl)
def sPar (is : List Nat) (fs : XL) : XS := fun ρ => (fs ρ).bind fun ds => if is.all (fun i => decide (i < ρ.length)) && decide (ds.length = is.length) then some (.nx (setAll is ds ρ)) else none
section
variable {X : Cx} {O O1 O2 Ob Oc O' : List Nat} {m ma mb : Md} {ms : List Md} {st : Stmt} {sts : List Stmt} {g h : XS} {e a b c : Expr} {es : List Expr} {f fa fb : Xp} {fs : XL} {pos pos' : Pos}
theorem sam_nil : SAM X O [] [] xNil := by
  refine ⟨pa_imp pa_nil fun σ H Q h => ?_⟩
  obtain ⟨H0, A0, G, ρ, B, ds, S, e, k⟩ := h
  cases e
  exact k [] H [] (Same.refl H) (by rw [gl_nil]; exact S) (fun a h => (nomatch h)) .nil .nil
theorem sam_cons (ha : SE X O m e f) (hr : SAM X O ms es fs) (hm : m ≠ .w := by decide) (hs : starEach (e :: es) X.env = (false, eval e X.env) :: starEach es X.env := by rfl) : SAM X O (m :: ms) (e :: es) (xCons f fs) := by
  refine ⟨pa_imp (pa_cons ha.pe hr.pa hs) fun σ H Q h => ?_⟩
  obtain ⟨H0, A0, G, ρ, B, ds, S, e, k⟩ := h
  obtain ⟨x, ex, e⟩ := bind2 e
  obtain ⟨xs, exs, e⟩ := bind2 e
  cases e
  refine ⟨H0, A0, G, ρ, B, x, S, ex, fun v H1 s1 r1 => ?_⟩
  by_cases hfa : m = .f ∧ ∃ a, v = V.ref a ∧ H a = none ∧ Tp X.K (fun b => Av A0 B b ∨ b = a) H1 a x
  · obtain ⟨rfl, a, rfl, hn, ra⟩ := hfa
    have naA : ¬ Av A0 B a := S.new hn
    have Sg := S.guard hn s1 ra.some
    refine ⟨H0, Gd A0 a, G, ρ, B, xs, Sg, exs, fun vs H2 L s2 S2 hL nd p => k _ H2 (a :: L) (s1.trans s2) (by rw [← gl_cons]; exact S2) (fun b hb => ?_) (List.nodup_cons.mpr ⟨fun z => ?_, nd⟩) (.own ?_ (by rw [← gl_cons]; exact p))⟩
    · rcases List.mem_cons.mp hb with rfl | hb
      · exact ⟨hn, fun z => naA (.inl z)⟩
      · obtain ⟨h1, h2⟩ := hL b hb
        exact ⟨s1.free h1, fun z => h2 (.inl z)⟩
    · exact (hL a z).2 (.inr rfl)
    · refine ra.step (fun c o e _ => s2 c o e) (fun c z => ?_) fun o e => s2 _ o e
      rcases z with (z | z) | z
      · exact .inl (.inl (.inl z))
      · rcases List.mem_cons.mp z with z | z
        · exact .inl (.inr z)
        · exact .inr (hL c z).1
      · exact .inl (.inl (.inr z))
  · have rb : Rp X.K (Av A0 B) H1 v x ∧ (m = .f → isMut x = false) := by
      cases m with
      | w => exact absurd rfl hm
      | s => exact ⟨r1, fun z => nomatch z⟩
      | f =>
        rcases r1 with ⟨b, e1, e2, e3⟩ | ⟨e1, e2⟩
        · exact absurd ⟨rfl, b, e1, e2, e3⟩ hfa
        · exact ⟨e1, fun _ => e2⟩
    refine ⟨H0, A0, G, ρ, B, xs, S.mono s1, exs, fun vs H2 L s2 S2 hL nd p => k _ H2 L (s1.trans s2) S2 (fun b hb => ⟨s1.free (hL b hb).1, (hL b hb).2⟩) nd (.val (rb.1.step (fun c o e _ => s2 c o e) fun c z => ?_) rb.2 p)⟩
    rcases z with (z | z) | z
    · exact .inl (.inl z)
    · exact .inr (hL c z).1
    · exact .inl (.inr z)
/-- behind the values: the names are set -/
theorem par_end {is : List Nat} {o : Out} {D : Ends} {K : PySem.W.Frag} {H0 H H1 : Hp} {A0 : Addr → Prop} {G : List (V × Pm.D)} {σ : L2.St} {ρ : PEnv} {B : Nat → Option Addr} {ds : List Pm.D} {vs : List V} {L : List Addr} (S0 : Same H0 H) (hO : ownL is ms O = O') (hl : is.length = ms.length)
    (e : (if is.all (fun i => decide (i < ρ.length)) && decide (ds.length = is.length) then some (Out.nx (setAll is ds ρ)) else none) = some o) (k : PostS K H0 A0 G Ob Oc O' D o)
    (S : Sim K H0 (Gl A0 L) G O σ H1 ρ B) (hL : ∀ a ∈ L, H a = none ∧ ¬ A0 a) (nd : L.Nodup) (p : Pn K (Av (Gl A0 L) B) H1 L ms vs ds) : D.nx (setAll is vs σ) H1 := by
  split at e
  · rename_i hz
    cases e
    simp only [Bool.and_eq_true, decide_eq_true_eq, List.all_eq_true] at hz
    obtain ⟨B', S'⟩ := assign_all is S p (fun a ha => ⟨S0.free (hL a ha).1, (hL a ha).2⟩) nd (fun i hi => hz.1 i hi) hl
    rw [hO] at S'
    exact k _ H1 B' S'
  · cases e
theorem ss_par (i j : Nat) {x y : Str} {px py pt : Pos} {kt k2 : Nat} {pt2 : Pos} (hN : X.N.Nodup) (ha : SAM X O [ma, mb] [a, b] fs) (hij : i ≠ j := by decide) (hi : X.N[i]? = some x := by rfl) (hj : X.N[j]? = some y := by rfl) (hx : X.env.scope.names.lookup x = some .local := by rfl) (hy : X.env.scope.names.lookup y = some .local := by rfl)
    (hw : swappedStores [.Tuple [.Name x px, .Name y py] kt pt] (.Tuple [a, b] k2 pt2) X.env = pure (some [x, y]) := by rfl) (hs : swapsWithSole [.Tuple [.Name x px, .Name y py] kt pt] (.Tuple [a, b] k2 pt2) pos.line X.env = pure false := by rfl) (hc : X.calm = true := by rfl) (hO : ownL [i, j] [ma, mb] O = O' := by rfl) :
    SS X O Ob Oc O' (.Assign [.Tuple [.Name x px, .Name y py] kt pt] (.Tuple [a, b] k2 pt2) pos) (sPar [i, j] fs) := by
  refine ⟨ps_imp (L2.ps_par hc hN hi hj hij hx hy ha.pa hw hs) fun D σ H q => ?_⟩
  obtain ⟨H0, A0, G, ρ, B, o, S, e, k⟩ := q
  obtain ⟨ds, eds, e⟩ := bind2 e
  refine ⟨H0, A0, G, ρ, B, ds, S, eds, fun vs H1 L s1 S1 hL nd p => ?_⟩
  have hl := p.len.1
  match vs, hl with
  | [v, w], _ => exact ⟨v, w, rfl, par_end (is := [i, j]) S.same hO rfl e k S1 hL nd p⟩
theorem ss_par3 (i j l : Nat) {mc : Md} {x y z : Str} {px py pz pt : Pos} {kt k2 : Nat} {pt2 : Pos} (hN : X.N.Nodup) (ha : SAM X O [ma, mb, mc] [a, b, c] fs) (hij : i ≠ j := by decide) (hil : i ≠ l := by decide) (hjl : j ≠ l := by decide) (hi : X.N[i]? = some x := by rfl) (hj : X.N[j]? = some y := by rfl) (hlz : X.N[l]? = some z := by rfl)
    (hx : X.env.scope.names.lookup x = some .local := by rfl) (hy : X.env.scope.names.lookup y = some .local := by rfl) (hz : X.env.scope.names.lookup z = some .local := by rfl)
    (hw : swappedStores [.Tuple [.Name x px, .Name y py, .Name z pz] kt pt] (.Tuple [a, b, c] k2 pt2) X.env = pure (some [x, y, z]) := by rfl) (hs : swapsWithSole [.Tuple [.Name x px, .Name y py, .Name z pz] kt pt] (.Tuple [a, b, c] k2 pt2) pos.line X.env = pure false := by rfl) (hc : X.calm = true := by rfl) (hO : ownL [i, j, l] [ma, mb, mc] O = O' := by rfl) :
    SS X O Ob Oc O' (.Assign [.Tuple [.Name x px, .Name y py, .Name z pz] kt pt] (.Tuple [a, b, c] k2 pt2) pos) (sPar [i, j, l] fs) := by
  refine ⟨ps_imp (ps_par3 hc hN hi hj hlz hij hil hjl hx hy hz ha.pa hw hs) fun D σ H q => ?_⟩
  obtain ⟨H0, A0, G, ρ, B, o, S, e, k⟩ := q
  obtain ⟨ds, eds, e⟩ := bind2 e
  refine ⟨H0, A0, G, ρ, B, ds, S, eds, fun vs H1 L s1 S1 hL nd p => ?_⟩
  have hl := p.len.1
  match vs, hl with
  | [u, v, w], _ => exact ⟨u, v, w, rfl, par_end (is := [i, j, l]) S.same hO rfl e k S1 hL nd p⟩
/-- any number of names, by a tuple that is taken apart -/
def gNames : List Nat → TGs
  | [] => gNil
  | i :: is => gCons (gName i) (gNames is)
theorem gNames_of {is : List Nat} {vs : List V} {σ : L2.St} {H : Hp} {Q : L2.St → Hp → Prop} (hl : vs.length = is.length) (h : Q (setAll is vs σ) H) : gNames is vs σ H Q := by
  induction is generalizing vs σ with
  | nil =>
    cases vs with
    | nil => exact ⟨rfl, h⟩
    | cons v vs => simp at hl
  | cons i is ih =>
    cases vs with
    | nil => simp at hl
    | cons v vs => exact ⟨v, vs, rfl, ih (by simpa using hl) h⟩
theorem ss_parT (is : List Nat) {tgs : List Expr} {kt k2 : Nat} {pt pt2 : Pos} (ha : SAM X O ms es fs) (hg : PGs X tgs (gNames is)) (hl : is.length = ms.length := by rfl) (hn : (assignEach tgs X.env).length = is.length := by rfl) (hst : (assignEach tgs X.env).findIdx? (·.1) = none := by rfl) (hsz : ms.length ≤ 1000 := by decide)
    (hw : swappedStores [.Tuple tgs kt pt] (.Tuple es k2 pt2) X.env = pure none := by rfl) (hs : swapsWithSole [.Tuple tgs kt pt] (.Tuple es k2 pt2) pos.line X.env = pure false := by rfl) (hc : X.calm = true := by rfl) (hO : ownL is ms O = O' := by rfl)
    (h1 : (assignEach [.Tuple tgs kt pt] X.env).map (·.2) = [assign (.Tuple tgs kt pt) X.env] := by rfl) : SS X O Ob Oc O' (.Assign [.Tuple tgs kt pt] (.Tuple es k2 pt2) pos) (sPar is fs) := by
  refine ⟨ps_imp (ps_asg (pe_tup ha.pa) (pg_tup hc hg hn hst) hs hw h1) fun D σ H q => ?_⟩
  obtain ⟨H0, A0, G, ρ, B, o, S, e, k⟩ := q
  obtain ⟨ds, eds, e⟩ := bind2 e
  refine ⟨H0, A0, G, ρ, B, ds, S, eds, fun vs H1 L s1 S1 hL nd p => ⟨by rw [p.len.1]; exact line1000 hsz, fun t ht => ?_⟩⟩
  have st := same_upd (o := .tup vs) ht
  refine ⟨t, vs, rfl, .of upd_same, by rw [p.len.1, hl], gNames_of (by rw [p.len.1, hl]) (par_end (is := is) S.same hO hl e k (S1.mono st) hL nd (p.mono st))⟩

/-! ### more operators in place -/
theorem iop_addD : OpR X (inplaceOp .Add) (rD X.K .f oAdd') := by
  intro pins s σ H x y v u Q I rx ry ⟨A, dx, dy, d, tr, wx, wy, e, q⟩
  unfold oAdd' at e
  split at e
  · cases e
    exact iop_add pins s σ H x y v u Q I rx ry ⟨_, _, wx.int, wy.int, q _ H (Same.refl H) Res.int⟩
  · cases e
theorem iop_subD : OpR X (inplaceOp .Sub) (rD X.K .f oSub) := by
  intro pins s σ H x y v u Q I rx ry ⟨A, dx, dy, d, tr, wx, wy, e, q⟩
  unfold oSub at e
  split at e
  · cases e
    exact iop_sub pins s σ H x y v u Q I rx ry ⟨_, _, wx.int, wy.int, q _ H (Same.refl H) Res.int⟩
  · cases e
end
end Pm

namespace Pm
open PySem PySem.Spec PyProof.Rows L2

/-! ### a comprehension over two sources -/
def lc2L (g : D → PEnv → Option PEnv) (t : PEnv → Option Bool) (it1 : XL) (g1 : D → PEnv → Option PEnv) (t1 : PEnv → Option Bool) (f : Xp) (vs1 : List Nat) (ρ : PEnv) : List D → Option (List D)
  | [] => some []
  | d :: ds => (g d ρ).bind fun ρ1 => (t ρ1).bind fun b => if b then (it1 ρ1).bind fun es => (lcL g1 t1 f (wipeP ρ1 vs1) es).bind fun ys => (lc2L g t it1 g1 t1 f vs1 ρ ds).bind fun zs => some (ys ++ zs) else lc2L g t it1 g1 t1 f vs1 ρ ds
def xLc2 (it : XL) (g : D → PEnv → Option PEnv) (t : PEnv → Option Bool) (it1 : XL) (g1 : D → PEnv → Option PEnv) (t1 : PEnv → Option Bool) (f : Xp) (own vs1 : List Nat) : Xp := fun ρ => (it ρ).bind fun ds => (lc2L g t it1 g1 t1 f vs1 (wipeP ρ own) ds).bind fun ys => if ys.length ≤ 16777216 then some (.list ys) else none
/-- the guarded cells alone may change -/
theorem Sim.monoG {K : PySem.W.Frag} {H0 H H' : Hp} {A0 : Addr → Prop} {G : List (V × D)} {O : List Nat} {σ : L2.St} {ρ : PEnv} {B : Nat → Option Addr} (S : Sim K H0 A0 G O σ H ρ B) (hk : ∀ a o, H a = some o → ¬ A0 a → H' a = some o) (ht : ∀ a, A0 a → ∃ o, H' a = some o ∧ NT o) (h0 : Same H0 H') : Sim K H0 A0 G O σ H' ρ B := by
  have st : ∀ a o, H a = some o → ¬ Av A0 B a → H' a = some o := fun a o e n => hk a o e fun z => n (.inl z)
  have bA : ∀ i a, B i = some a → ¬ A0 a := fun i a e => (S.fr i a e).2.1
  have kp : ∀ {a : Addr} {d : D} {i : Nat}, B i = some a → Tp K (Av A0 B) H a d → Tp K (Av A0 B) H' a d := fun {a d i} hb h => h.step st (fun _ z => .inl z) fun o e => hk a o e (bA i a hb)
  refine ⟨h0, ht, S.len, S.bo, S.inj, fun i a e => ?_, fun i d hi e mm => ?_, fun i d e => ?_, fun p hp => (S.gs p hp).step st fun _ z => .inl z⟩
  · obtain ⟨h1, h2, o, h3, h4⟩ := S.fr i a e
    exact ⟨h1, h2, o, hk a o h3 h2, h4⟩
  · obtain ⟨a, h1, h2, h3⟩ := S.ob i d hi e mm
    exact ⟨a, h1, h2, kp h1 h3⟩
  · rcases S.slot i d e with ⟨a, h1, h2, h3⟩ | ⟨h1, v, h2, h3⟩
    · exact .inl ⟨a, h1, h2, kp h1 h3⟩
    · exact .inr ⟨h1, v, h2, h3.step st fun _ z => .inl z⟩
section
variable {X : Cx} {O ts us : List Nat} {st : Bool} {m : Md} {tg iter elt tg1 iter1 : Expr} {ifs ifs1 : List Expr} {scope : Scope} {own : List (Str × Nat)} {vs1 : List Nat} {it it1 : XL} {g g1 : D → PEnv → Option PEnv} {t t1 : PEnv → Option Bool} {f : Xp} {pos : Pos}
theorem lc2_of (hm : m ≠ .w) (hts : ∀ i, ts.contains i = true → (own.map (·.2)).contains i = true) (hus : ∀ i, us.contains i = true → vs1.contains i = true) (hO : ∀ i ∈ own.map (·.2), i ∉ O) (hO1 : ∀ i ∈ vs1, i ∉ O) (σ : L2.St) (H : Hp) (Q : VK)
    (q : simT X.K O .f (xLc2 it g t it1 g1 t1 f (own.map (·.2)) vs1) σ H Q) :
    tLc2 (simI X.K O st it) (simG X.K O O ts g) (simTT X.K O t) (simI X.K O true it1) (simG X.K O O us g1) (simTT X.K O t1) (simT X.K O m f) (own.map (·.2)) vs1 σ H Q := by
  obtain ⟨H0, A0, G, ρ, B, d, S, e, k⟩ := q
  obtain ⟨ds, eds, e⟩ := bind2 e
  obtain ⟨ys, eys, e⟩ := bind2 e
  split at e
  rotate_left
  · cases e
  rename_i hys
  cases e
  refine ⟨H0, A0, G, ρ, B, ds, S, eds, fun J H1 gs s1 yl gr hz Dn hD => ?_⟩
  have hts' : ∀ i, ts.contains i = true → i ∉ O := fun i hi => hO i (by simpa using hts i hi)
  have hus' : ∀ i, us.contains i = true → i ∉ O := fun i hi => hO1 i (by simpa using hus i hi)
  have avD : Av (Gd A0 Dn) B Dn := .inl (.inr rfl)
  refine ⟨fun i n Hc => n = ds.length - i ∧ i ≤ ds.length ∧ Same H1 Hc ∧ ∃ vs pre post, Hc Dn = some (.lst vs) ∧ RpL X.K (Av (Gd A0 Dn) B) Hc vs pre ∧ lc2L g t it1 g1 t1 f vs1 (wipeP ρ (own.map (·.2))) (ds.drop i) = some post ∧ ys = pre ++ post,
    ⟨ds.length, rfl, Nat.zero_le _, same_upd hD, [], [], ys, upd_same, .nil, eys, rfl⟩, ?_⟩
  rintro i n Hc ⟨rfl, hi, sc, vs, pre, post, hDc, rpre, epost, eyp⟩
  have Sg : Sim X.K H0 (Gd A0 Dn) G O σ Hc ρ B := (S.mono s1).guard hD sc ⟨_, hDc, NT.lst⟩
  have gw : ∀ p ∈ gs, WRp X.K (Av (Gd A0 Dn) B) Hc p.1 p.2 := fun p hp => (gr p hp).w.step sc fun a z => by
    rcases gd_av z with z | z
    · exact .inl z
    · exact .inr (by rw [z]; exact hD)
  by_cases hlt : i < ds.length
  · have ed : ds[i]? = some ds[i] := List.getElem?_eq_getElem hlt
    rw [List.drop_eq_getElem_cons hlt] at epost
    obtain ⟨hgo, hy⟩ := yl.go _ Hc i _ Sg.tr gw ed
    simp only [lc2L] at epost
    obtain ⟨ρ1, eρ1, epost⟩ := bind2 epost
    obtain ⟨b, eb, epost⟩ := bind2 epost
    refine .inr ⟨hgo, fun H' => i + 1 ≤ ds.length ∧ Same H1 H' ∧ ∃ vs pre' post', H' Dn = some (.lst vs) ∧ RpL X.K (Av (Gd A0 Dn) B) H' vs pre' ∧ lc2L g t it1 g1 t1 f vs1 (wipeP ρ (own.map (·.2))) (ds.drop (i + 1)) = some post' ∧ ys = pre' ++ post', fun H' hN => ?_, fun x H' hx => ?_⟩
    · obtain ⟨h1, h2, h3⟩ := hN
      exact ⟨ds.length - (i + 1), by omega, rfl, h1, h2, h3⟩
    · obtain ⟨s2, rx⟩ := hy x H' hx
      refine ⟨H0, Gd A0 Dn, G, wipeP ρ (own.map (·.2)), B, _, ρ1, (Sg.mono s2).wipe _ hO, rx, eρ1, fun σ2 c2 S2 => ?_⟩
      rw [restr_same Sg hts'] at S2
      refine ⟨wipe_eq c2 hts, H0, Gd A0 Dn, G, ρ1, B, b, S2, eb, fun H3 s3 => ?_⟩
      cases b with
      | true =>
        rw [if_pos rfl]
        rw [if_pos rfl] at epost
        obtain ⟨es, ees, epost⟩ := bind2 epost
        obtain ⟨zs, ezs, epost⟩ := bind2 epost
        obtain ⟨ws, ews, epost⟩ := bind2 epost
        cases epost
        refine ⟨H0, Gd A0 Dn, G, ρ1, B, es, S2.mono s3, ees, fun J1 H4 gs1 s4 yl1 gr1 hz1 => ?_⟩
        have s24 := (s2.trans s3).trans s4
        have hD4 : H4 Dn = some (.lst vs) := s24 _ _ hDc
        have S4 := (S2.mono s3).mono s4
        have hdn : H Dn = none := s1.free hD
        -- the inner loop: the new list is written between its turns
        refine ⟨fun j n Hj => n = es.length - j ∧ j ≤ es.length ∧ (∀ a o, H4 a = some o → ¬ Gd A0 Dn a → Hj a = some o) ∧ Same H1 Hj ∧ ∃ us pre1 post1, Hj Dn = some (.lst us) ∧ RpL X.K (Av (Gd A0 Dn) B) Hj us pre1 ∧ lcL g1 t1 f (wipeP ρ1 vs1) (es.drop j) = some post1 ∧ ys = pre1 ++ (post1 ++ ws) ∧ (∀ a, A0 a → ∃ o, Hj a = some o ∧ NT o),
          ⟨es.length, rfl, Nat.zero_le _, fun a o e _ => e, sc.trans s24, vs, pre, zs, hD4, rpre.mono s24, ezs, eyp, fun a z => S4.a0 a (.inl z)⟩, ?_⟩
        rintro j n Hj ⟨rfl, hj, sj, s1j, us', pre1, post1, hDj, rp1, ep1, ey1, a0j⟩
        have stepj : ∀ a o, H4 a = some o → ¬ Av (Gd A0 Dn) B a → Hj a = some o := fun a o e n => sj a o e fun z => n (.inl z)
        have thr : ∀ a, Gd A0 Dn a → ∃ o, Hj a = some o ∧ NT o := fun a z => by
          rcases z with z | z
          · exact a0j a z
          · rw [z]; exact ⟨_, hDj, NT.lst⟩
        have Sj : Sim X.K H0 (Gd A0 Dn) G O σ2 Hj ρ1 B := S4.monoG sj thr fun a o e => s1j a o (s1 a o (S.same a o e))
        have gw1 : ∀ p ∈ gs1, WRp X.K (Av (Gd A0 Dn) B) Hj p.1 p.2 := fun p hp => .inl ((gr1 p hp : Rp _ _ _ _ _).step stepj fun _ z => .inl z)
        have hysl : ys.length ≤ 16777216 := hys
        by_cases hltj : j < es.length
        · have edj : es[j]? = some es[j] := List.getElem?_eq_getElem hltj
          rw [List.drop_eq_getElem_cons hltj] at ep1
          obtain ⟨hgo1, hy1⟩ := yl1.go _ Hj j _ Sj.tr gw1 edj
          simp only [lcL] at ep1
          obtain ⟨ρ2, eρ2, ep1⟩ := bind2 ep1
          obtain ⟨b1, eb1, ep1⟩ := bind2 ep1
          refine .inr ⟨hgo1, fun H' => j + 1 ≤ es.length ∧ (∀ a o, H4 a = some o → ¬ Gd A0 Dn a → H' a = some o) ∧ Same H1 H' ∧ ∃ us pre1 post1, H' Dn = some (.lst us) ∧ RpL X.K (Av (Gd A0 Dn) B) H' us pre1 ∧ lcL g1 t1 f (wipeP ρ1 vs1) (es.drop (j + 1)) = some post1 ∧ ys = pre1 ++ (post1 ++ ws) ∧ (∀ a, A0 a → ∃ o, H' a = some o ∧ NT o), fun H' hN => ?_, fun x1 H5 hx1 => ?_⟩
          · obtain ⟨h1, h2⟩ := hN
            exact ⟨es.length - (j + 1), by omega, rfl, h1, h2⟩
          · obtain ⟨s5, rx1⟩ := hy1 x1 H5 hx1
            refine ⟨H0, Gd A0 Dn, G, wipeP ρ1 vs1, B, _, ρ2, (Sj.mono s5).wipe _ hO1, rx1, eρ2, fun σ3 c3 S5 => ?_⟩
            rw [restr_same Sj hus'] at S5
            refine ⟨wipe_eq c3 hus, H0, Gd A0 Dn, G, ρ2, B, b1, S5, eb1, fun H6 s6 => ?_⟩
            cases b1 with
            | true =>
              rw [if_pos rfl]
              rw [if_pos rfl] at ep1
              obtain ⟨y, ey, ep1⟩ := bind2 ep1
              obtain ⟨p2, ep2, ep1⟩ := bind2 ep1
              cases ep1
              refine ⟨H0, Gd A0 Dn, G, ρ2, B, y, S5.mono s6, ey, fun v H7 s7 r7 => ?_⟩
              have r7' := r7.toS (S5.mono s6).tr hm
              have s57 := (s5.trans s6).trans s7
              have kp : ∀ a o, H7 a = some o → ¬ Av (Gd A0 Dn) B a → upd H7 Dn (.lst (us' ++ [v])) a = some o := fun a o e n => by
                rw [upd_ne (fun z => n (by rw [z]; exact avD))]
                exact e
              have hne : ∀ a, ¬ Gd A0 Dn a → a ≠ Dn := fun a n z => n (.inr z)
              have hpl : pre1.length < ys.length := by
                rw [ey1]
                simp only [List.length_append, List.length_cons]
                omega
              refine ⟨us', s57 _ _ hDj, ?_, by omega, fun a o e n => ?_, fun a o e => ?_, us' ++ [v], pre1 ++ [y], p2, upd_same, ?_, ep2, by simp [ey1], fun a z => ?_⟩
              · rw [rp1.length]
                have : (16777216 : Nat) = sizeLine := rfl
                omega
              · rw [upd_ne (hne a n)]
                exact s57 _ _ (sj a o e n)
              · have hne : a ≠ Dn := fun z => by rw [z, hD] at e; cases e
                rw [upd_ne hne]
                exact s57 _ _ (s1j _ _ e)
              · exact RpL.app (.one (r7'.step kp fun _ z => .inl z)) ((rp1.mono s57).step kp fun _ z => .inl z)
              · obtain ⟨o, e, nt⟩ := a0j a z
                by_cases ha : a = Dn
                · rw [ha]; exact ⟨_, upd_same, NT.lst⟩
                · exact ⟨o, by rw [upd_ne ha]; exact s57 _ _ e, nt⟩
            | false =>
              rw [if_neg Bool.false_ne_true]
              rw [if_neg Bool.false_ne_true] at ep1
              have s56 := s5.trans s6
              exact ⟨by omega, fun a o e n => s56 _ _ (sj a o e n), s1j.trans s56, us', pre1, post1, s56 _ _ hDj, rp1.mono s56, ep1, ey1, fun a z => let ⟨o, e, nt⟩ := a0j a z; ⟨o, s56 _ _ e, nt⟩⟩
        · have e : j = es.length := by omega
          subst e
          rw [List.drop_length] at ep1
          cases ep1
          exact .inl ⟨yl1.stop _ Hj Sj.tr gw1, by omega, s1j, us', pre1, ws, hDj, rp1, ews, by simpa using ey1⟩
      | false =>
        rw [if_neg Bool.false_ne_true]
        rw [if_neg Bool.false_ne_true] at epost
        have s23 := s2.trans s3
        exact ⟨by omega, sc.trans s23, vs, pre, post, s23 _ _ hDc, rpre.mono s23, epost, eyp⟩
  · have e : i = ds.length := by omega
    subst e
    refine .inl ⟨yl.stop _ Hc Sg.tr gw, ?_⟩
    rw [List.drop_length] at epost
    cases epost
    rw [List.append_nil] at eyp
    subst eyp
    have hHD : H Dn = none := s1.free hD
    refine k _ Hc (s1.trans sc) (.inl ⟨Dn, rfl, hHD, .lst hDc (rpre.anti fun a z => ?_)⟩)
    rcases z with z | z
    · rcases z with z | z
      · exact .inl (.inl z)
      · exact .inr z
    · exact .inl (.inr z)
theorem se_lc2 (hN : X.N.Nodup) (hi : SI X O st tg iter it) (ok : BlkOk X.N X.env.scope scope own) (hg : InBlk X scope fun Y => SG Y O O ts tg g) (ht : InBlk X scope fun Y => STs Y O ifs t) (hi1 : InBlk X scope fun Y => SI Y O true tg1 iter1 it1) (hg1 : InBlk X scope fun Y => SG Y O O us tg1 g1) (ht1 : InBlk X scope fun Y => STs Y O ifs1 t1) (he : InBlk X scope fun Y => SE Y O m elt f)
    (hm : m ≠ .w := by decide) (hv : vs1.all (fun i => (own.map (·.2)).contains i) = true := by rfl) (hts : ts.all (fun i => (own.map (·.2)).contains i) = true := by rfl) (hus : us.all (fun i => vs1.contains i) = true := by rfl) (hO : (own.map (·.2)).all (fun i => !O.contains i) = true := by rfl) (hc : X.calm = true := by rfl) (hs : ∀ x, foldedSetIterable iter X.env x = pure x := by intro _; rfl) (hs1 : ∀ env x, foldedSetIterable iter1 env x = pure x := by intro _ _; rfl) :
    SE X O .f (.ListComp elt [⟨tg, iter, ifs, 0⟩, ⟨tg1, iter1, ifs1, 0⟩] scope pos) (xLc2 it g t it1 g1 t1 f (own.map (·.2)) vs1) := by
  have hv' : ∀ i ∈ vs1, i ∈ own.map (·.2) := fun i hi => by simpa using List.all_eq_true.mp hv i hi
  have hO' : ∀ i ∈ own.map (·.2), i ∉ O := fun i hi => by simpa using List.all_eq_true.mp hO i hi
  exact ⟨pe_imp (pe_lc2 (wi := simI X.K O st it) (g := simG X.K O O ts g) (tt := simTT X.K O t) (wi1 := simI X.K O true it1) (g1 := simG X.K O O us g1) (tt1 := simTT X.K O t1) (te := simT X.K O m f) hc hN hi.pi ok hv' (fun s H C cl fp => (hg s H C cl fp).pg) (fun s H C cl fp => (ht s H C cl fp).pts) (fun s H C cl fp => (hi1 s H C cl fp).pi) (fun s H C cl fp => (hg1 s H C cl fp).pg) (fun s H C cl fp => (ht1 s H C cl fp).pts) (fun s H C cl fp => (he s H C cl fp).pe) hs hs1)
    (lc2_of hm (fun i hi => by simpa using List.all_eq_true.mp hts i (by simpa using hi)) (fun i hi => by simpa using List.all_eq_true.mp hus i (by simpa using hi)) hO' fun i hi => hO' i (hv' i hi))⟩
theorem ss_setLc2 (i : Nat) {y : Str} {py : Pos} {Ob Oc O' : List Nat} {spos : Pos} (hN : X.N.Nodup) (hi : SI X O st tg iter it) (ok : BlkOk X.N X.env.scope scope own) (hg : InBlk X scope fun Y => SG Y O O ts tg g) (ht : InBlk X scope fun Y => STs Y O ifs t) (hi1 : InBlk X scope fun Y => SI Y O true tg1 iter1 it1) (hg1 : InBlk X scope fun Y => SG Y O O us tg1 g1) (ht1 : InBlk X scope fun Y => STs Y O ifs1 t1) (he : InBlk X scope fun Y => SE Y O m elt f)
    (hm : m ≠ .w := by decide) (hy : X.N[i]? = some y := by rfl) (hyl : X.env.scope.names.lookup y = some .local := by rfl) (hsw : swapsWith (.ListComp elt [⟨tg, iter, ifs, 0⟩, ⟨tg1, iter1, ifs1, 0⟩] scope pos) (some (.Name y py)) spos.line X.env = pure true := by exact sw_true rfl rfl rfl (by decide +kernel))
    (hv : vs1.all (fun i => (own.map (·.2)).contains i) = true := by rfl) (hts : ts.all (fun i => (own.map (·.2)).contains i) = true := by rfl) (hus : us.all (fun i => vs1.contains i) = true := by rfl) (hO : (own.map (·.2)).all (fun i => !O.contains i) = true := by rfl) (hc : X.calm = true := by rfl) (hs : ∀ x, foldedSetIterable iter X.env x = pure x := by intro _; rfl) (hs1 : ∀ env x, foldedSetIterable iter1 env x = pure x := by intro _ _; rfl) (hO2 : i :: O = O' := by rfl) :
    SS X O Ob Oc O' (.Assign [.Name y py] (.ListComp elt [⟨tg, iter, ifs, 0⟩, ⟨tg1, iter1, ifs1, 0⟩] scope pos) spos) (sSet i (xLc2 it g t it1 g1 t1 f (own.map (·.2)) vs1)) := by
  subst hO2
  have hv' : ∀ i ∈ vs1, i ∈ own.map (·.2) := fun i hi => by simpa using List.all_eq_true.mp hv i hi
  have hO' : ∀ i ∈ own.map (·.2), i ∉ O := fun i hi => by simpa using List.all_eq_true.mp hO i hi
  refine ⟨ps_imp (ps_setLc2 (wi := simI X.K O st it) (g := simG X.K O O ts g) (tt := simTT X.K O t) (wi1 := simI X.K O true it1) (g1 := simG X.K O O us g1) (tt1 := simTT X.K O t1) (te := simT X.K O m f) hc hN hy hyl hsw hi.pi ok hv' (fun s H C cl fp => (hg s H C cl fp).pg) (fun s H C cl fp => (ht s H C cl fp).pts) (fun s H C cl fp => (hi1 s H C cl fp).pi) (fun s H C cl fp => (hg1 s H C cl fp).pg) (fun s H C cl fp => (ht1 s H C cl fp).pts) (fun s H C cl fp => (he s H C cl fp).pe) hs hs1) fun D σ H q => ?_⟩
  exact lc2_of hm (fun i hi => by simpa using List.all_eq_true.mp hts i (by simpa using hi)) (fun i hi => by simpa using List.all_eq_true.mp hus i (by simpa using hi)) hO' (fun i hi => hO' i (hv' i hi)) σ H _ (setf_of σ H q)
end
end Pm

namespace Pm
open PySem PySem.Spec PyProof.Rows L2

/-! ### dicts whose keys are ints -/
def isKeyI (i : Int) : D → Bool
  | .int j => j == i
  | _ => false
def dGetD (kd : List (D × D)) (i : Int) : Option D := (kd.find? fun p => isKeyI i p.1).map (·.2)
def dHasD (kd : List (D × D)) (i : Int) : Bool := kd.any fun p => isKeyI i p.1
def dPutD (kd : List (D × D)) (i : Int) (v : D) : List (D × D) := if dHasD kd i then kd.map (fun p => if isKeyI i p.1 then (p.1, v) else p) else kd ++ [(.int i, v)]
theorem keyD_is (k : Key) (i : Int) : isKeyI i (keyD k) = decide (k = Sum.inl i) := by
  cases k with
  | inl j =>
    simp only [keyD, isKeyI]
    by_cases h : j = i <;> simp [h]
  | inr s => simp [keyD, isKeyI]
section
variable {K : PySem.W.Frag} {A : Addr → Prop} {H : Hp}
theorem dget_some {i : Int} {d : D} : ∀ {ks : List (Key × V)} {ds : List D}, RpL K A H (ks.map (·.2)) ds → dGetD ((ks.map fun p => keyD p.1).zip ds) i = some d → ∃ v, valV ks (Sum.inl i) = some v ∧ Rp K A H v d
  | [], ds, r, e => by simp [dGetD] at e
  | (k, v) :: ks, ds, r, e => by
    cases r with
    | cons h r =>
      simp only [dGetD, List.map_cons, List.zip_cons_cons, List.find?_cons, keyD_is] at e
      by_cases hk : k = Sum.inl i
      · rw [decide_eq_true hk] at e
        cases e
        exact ⟨v, valV_pos hk, h⟩
      · rw [decide_eq_false hk] at e
        obtain ⟨w, e1, e2⟩ := dget_some r e
        exact ⟨w, by rw [valV_neg hk]; exact e1, e2⟩
theorem dhas_eq {i : Int} : ∀ {ks : List (Key × V)} {ds : List D}, RpL K A H (ks.map (·.2)) ds → dHasD ((ks.map fun p => keyD p.1).zip ds) i = (valV ks (Sum.inl i)).isSome
  | [], ds, r => by cases r; rfl
  | (k, v) :: ks, ds, r => by
    cases r with
    | cons h r =>
      simp only [dHasD, List.map_cons, List.zip_cons_cons, List.any_cons, keyD_is]
      by_cases hk : k = Sum.inl i
      · rw [decide_eq_true hk, valV_pos hk]
        rfl
      · rw [decide_eq_false hk, valV_neg hk, Bool.false_or]
        exact dhas_eq r
theorem dput_map {i : Int} {v : V} {d : D} (hv : Rp K A H v d) : ∀ {ks : List (Key × V)} {ds : List D}, RpL K A H (ks.map (·.2)) ds → ∃ ds', RpL K A H ((ks.map fun kv => if kv.1 = Sum.inl i then (kv.1, v) else kv).map (·.2)) ds' ∧
    ((ks.map fun p => keyD p.1).zip ds).map (fun p => if isKeyI i p.1 then (p.1, d) else p) = ((ks.map fun kv => if kv.1 = Sum.inl i then (kv.1, v) else kv).map fun p => keyD p.1).zip ds'
  | [], ds, r => by cases r; exact ⟨[], .nil, rfl⟩
  | (k, w) :: ks, ds, r => by
    cases r with
    | @cons _ _ d0 ds0 h r =>
      obtain ⟨ds', r', e⟩ := dput_map hv r
      simp only [List.map_cons, List.zip_cons_cons, keyD_is]
      by_cases hk : k = Sum.inl i
      · refine ⟨d :: ds', ?_, ?_⟩
        · rw [if_pos hk]; exact .cons hv r'
        · rw [if_pos hk, decide_eq_true hk, if_pos rfl, e]; rfl
      · refine ⟨d0 :: ds', ?_, ?_⟩
        · rw [if_neg hk]; exact .cons h r'
        · rw [if_neg hk, decide_eq_false hk, if_neg Bool.false_ne_true, e]; rfl
theorem dput_ok {i : Int} {v : V} {d : D} (hv : Rp K A H v d) {ks : List (Key × V)} {ds : List D} (r : RpL K A H (ks.map (·.2)) ds) : ∃ ds', RpL K A H ((putK ks (Sum.inl i) v).map (·.2)) ds' ∧
    dPutD ((ks.map fun p => keyD p.1).zip ds) i d = ((putK ks (Sum.inl i) v).map fun p => keyD p.1).zip ds' := by
  unfold dPutD putK
  rw [dhas_eq r, valV_any]
  by_cases hh : (valV ks (Sum.inl i)).isSome = true
  · rw [if_pos hh, if_pos hh]
    exact dput_map hv r
  · rw [if_neg hh, if_neg hh]
    refine ⟨ds ++ [d], ?_, ?_⟩
    · rw [List.map_append]
      exact RpL.app (.one hv) r
    · rw [List.map_append]
      have hl : (ks.map fun p => keyD p.1).length = ds.length := by
        have := r.length
        simpa using this
      rw [List.zip_append hl]
      rfl
/-- a value that stands for a dict -/
theorem WRp.dict {v : V} {kd : List (D × D)} (h : WRp K A H v (.dict kd)) (hs : ∀ xs, kd ≠ [(.none, .list xs)]) : ∃ a ks ds, v = .ref a ∧ H a = some (.dK ks) ∧ RpL K A H (ks.map (·.2)) ds ∧ kd = (ks.map fun p => keyD p.1).zip ds := by
  rcases h with h | ⟨a, e, h⟩
  · cases h with
    | scr h n r => exact absurd rfl (hs _)
    | kl h r => exact absurd rfl (hs _)
    | dic h n r e => exact ⟨_, _, _, rfl, h, r, e⟩
  · cases h with
    | dic h r z => exact ⟨_, _, _, e, h, r, z⟩
end
def oIxK : D → D → Option D
  | .dict kd, .int i => if (kd.any fun p => isNone p.1) then none else dGetD kd i
  | _, _ => none
def oInK : D → D → Option D
  | .int i, .dict kd => if (kd.any fun p => isNone p.1) then none else some (.bool (dHasD kd i))
  | _, _ => none
def oNotInK : D → D → Option D
  | .int i, .dict kd => if (kd.any fun p => isNone p.1) then none else some (.bool (!dHasD kd i))
  | _, _ => none
theorem no_scr {kd : List (D × D)} (h : ¬ (kd.any fun p => isNone p.1) = true) : ∀ xs, kd ≠ [(.none, .list xs)] := fun xs e => by
  subst e
  exact h rfl
section
variable {X : Cx} {O Ob Oc : List Nat} {m ma mb : Md} {k : Nat} {a b e : Expr} {fa fb f : Xp} {pos p1 p2 : Pos}
theorem hu1 {A : Around} (hr : Room k A) : A.units + 1 < cLine := by have := hr.un; omega
theorem se_new : SE X O .f (.Dict [] [] pos) (xC (.dict [])) := by
  refine ⟨pe_imp pe_dnewK fun σ H Q q => ?_⟩
  obtain ⟨H0, A0, G, ρ, B, d, S, e, k⟩ := q
  cases e
  exact fun p hp => k _ _ (same_upd hp) (.inl ⟨p, rfl, hp, .dic (ks := []) (ds := []) upd_same .nil rfl⟩)
theorem se_dget (hr : Room k X.A) (ha : SE X O ma a fa) (hb : SE X O mb b fb) (hs : NoSl b := by exact fun _ _ => rfl) : SE X O .s (.Subscript a b pos) (xBin oIxK fa fb) := by
  refine ⟨pe_imp (pe_dget (hu1 hr) ha.pe hb.pe hs) fun σ H Q q => ?_⟩
  obtain ⟨H0, A0, G, ρ, B, d, S, e, k⟩ := q
  obtain ⟨x, ex, e⟩ := bind2 e
  obtain ⟨y, ey, e⟩ := bind2 e
  refine ⟨H0, A0, G, ρ, B, x, S, ex, fun v H1 s1 r1 => ⟨H0, A0, G, ρ, B, y, S.mono s1, ey, fun u H2 s2 r2 => ?_⟩⟩
  unfold oIxK at e
  split at e
  · split at e
    · cases e
    · rename_i hn
      obtain ⟨t, ks, ds, rfl, ht, rt, ek⟩ := (r1.toW.mono s2).dict (no_scr hn)
      rw [ek] at e
      obtain ⟨w, ew, rw'⟩ := dget_some rt e
      exact ⟨t, w, rfl, by rw [← ew, r2.toW.int]; exact DGet.k (k := Sum.inl _) ht, k _ H2 (s1.trans s2) rw'⟩
  · cases e
theorem se_dset_dummy : True := trivial
theorem tIn_of {g : D → D → Option D} (σ : L2.St) (H : Hp) (Q : VK) (hg : ∀ x y z, g x y = some z → ∃ i kd, x = .int i ∧ y = .dict kd ∧ ¬ (kd.any fun p => isNone p.1) = true ∧ z = .bool (dHasD kd i)) (q : simT X.K O .f (xBin g fa fb) σ H Q) : tDIn (simT X.K O ma fa) (simT X.K O mb fb) σ H Q := by
  obtain ⟨H0, A0, G, ρ, B, d, S, e, k⟩ := q
  obtain ⟨x, ex, e⟩ := bind2 e
  obtain ⟨y, ey, e⟩ := bind2 e
  obtain ⟨i, kd, rfl, rfl, hn, rfl⟩ := hg _ _ _ e
  refine ⟨H0, A0, G, ρ, B, _, S, ex, fun v H1 s1 r1 => ⟨H0, A0, G, ρ, B, _, S.mono s1, ey, fun u H2 s2 r2 => ?_⟩⟩
  obtain ⟨t, ks, ds, rfl, ht, rt, ek⟩ := r2.toW.dict (no_scr hn)
  refine ⟨t, valV ks (Sum.inl i), rfl, by rw [r1.toW.int]; exact DGet.k (k := Sum.inl _) ht, k _ H2 (s1.trans s2) ?_⟩
  rw [ek, dhas_eq rt]
  exact Res.bl
theorem tNotIn_of {g : D → D → Option D} (σ : L2.St) (H : Hp) (Q : VK) (hg : ∀ x y z, g x y = some z → ∃ i kd, x = .int i ∧ y = .dict kd ∧ ¬ (kd.any fun p => isNone p.1) = true ∧ z = .bool (!dHasD kd i)) (q : simT X.K O .f (xBin g fa fb) σ H Q) : tDNotIn (simT X.K O ma fa) (simT X.K O mb fb) σ H Q := by
  obtain ⟨H0, A0, G, ρ, B, d, S, e, k⟩ := q
  obtain ⟨x, ex, e⟩ := bind2 e
  obtain ⟨y, ey, e⟩ := bind2 e
  obtain ⟨i, kd, rfl, rfl, hn, rfl⟩ := hg _ _ _ e
  refine ⟨H0, A0, G, ρ, B, _, S, ex, fun v H1 s1 r1 => ⟨H0, A0, G, ρ, B, _, S.mono s1, ey, fun u H2 s2 r2 => ?_⟩⟩
  obtain ⟨t, ks, ds, rfl, ht, rt, ek⟩ := r2.toW.dict (no_scr hn)
  refine ⟨t, valV ks (Sum.inl i), rfl, by rw [r1.toW.int]; exact DGet.k (k := Sum.inl _) ht, k _ H2 (s1.trans s2) ?_⟩
  rw [ek, dhas_eq rt]
  exact Res.bl
theorem inK_shape {x y z : D} (h : oInK x y = some z) : ∃ i kd, x = .int i ∧ y = .dict kd ∧ ¬ (kd.any fun p => isNone p.1) = true ∧ z = .bool (dHasD kd i) := by
  unfold oInK at h
  split at h
  · split at h
    · cases h
    · rename_i hn
      cases h
      exact ⟨_, _, rfl, rfl, hn, rfl⟩
  · cases h
theorem notInK_shape {x y z : D} (h : oNotInK x y = some z) : ∃ i kd, x = .int i ∧ y = .dict kd ∧ ¬ (kd.any fun p => isNone p.1) = true ∧ z = .bool (!dHasD kd i) := by
  unfold oNotInK at h
  split at h
  · split at h
    · cases h
    · rename_i hn
      cases h
      exact ⟨_, _, rfl, rfl, hn, rfl⟩
  · cases h
theorem se_din (hr : Room k X.A) (ha : SE X O ma a fa) (hb : SE X O mb b fb) (hm : behindInMarks .In b = false := by rfl) : SE X O .f (.Compare a [.In] [b] pos) (xBin oInK fa fb) := ⟨pe_imp (pe_cmp (pc_din (hu1 hr) ha.pe hb.pe) hm) fun σ H Q q => tIn_of σ H Q (fun _ _ _ => inK_shape) q⟩
theorem se_dnotin (hr : Room k X.A) (ha : SE X O ma a fa) (hb : SE X O mb b fb) (hm : behindInMarks .NotIn b = false := by rfl) : SE X O .f (.Compare a [.NotIn] [b] pos) (xBin oNotInK fa fb) := ⟨pe_imp (pe_cmp (pc_dnotin (hu1 hr) ha.pe hb.pe) hm) fun σ H Q q => tNotIn_of σ H Q (fun _ _ _ => notInK_shape) q⟩
theorem tB_of {g : D → D → Option D} {t : TE} (σ : L2.St) (H : Hp) (Q : Bool → Hp → Prop) (ht : ∀ Q, simT X.K O .f (xBin g fa fb) σ H Q → t σ H Q) (q : simTT X.K O (tOf (xBin g fa fb)) σ H Q) : tB t σ H Q := by
  obtain ⟨H0, A0, G, ρ, B, b, S, e, k⟩ := q
  obtain ⟨d, ed, e⟩ := bind2 e
  have := dB_some e
  subst this
  exact ht _ ⟨H0, A0, G, ρ, B, _, S, ed, fun v H' s r => ⟨b, r.toW.bl, k H' s⟩⟩
theorem st_din (hr : Room k X.A) (ha : SE X O ma a fa) (hb : SE X O mb b fb) (hm : behindInMarks .In b = false := by rfl) : ST X O (.Compare a [.In] [b] pos) (tOf (xBin oInK fa fb)) := ⟨pt_imp (pt_cmp (pc_din (hu1 hr) ha.pe hb.pe) hm) fun σ H Q q => tB_of σ H Q (fun Q q => tIn_of σ H Q (fun _ _ _ => inK_shape) q) q⟩
theorem st_dnotin (hr : Room k X.A) (ha : SE X O ma a fa) (hb : SE X O mb b fb) (hm : behindInMarks .NotIn b = false := by rfl) : ST X O (.Compare a [.NotIn] [b] pos) (tOf (xBin oNotInK fa fb)) := ⟨pt_imp (pt_cmp (pc_dnotin (hu1 hr) ha.pe hb.pe) hm) fun σ H Q q => tB_of σ H Q (fun Q q => tNotIn_of σ H Q (fun _ _ _ => notInK_shape) q) q⟩
/-- x[j] = e, a dict -/
def sPutK (i : Nat) (fj f : Xp) : XS := fun ρ => (f ρ).bind fun y => (xVar i ρ).bind fun x => (fj ρ).bind fun j => match x, j with
  | .dict kd, .int j => if kd.length < 16777216 ∧ i < ρ.length then some (.nx (ρ.set i (some (.dict (dPutD kd j y))))) else none
  | _, _ => none
theorem ownK_of {K : PySem.W.Frag} {H0 H : Hp} {A0 : Addr → Prop} {G : List (V × D)} {σ : L2.St} {ρ : PEnv} {B : Nat → Option Addr} {i : Nat} {kd : List (D × D)} (S : Sim K H0 A0 G O σ H ρ B) (hi : O.contains i = true) (e : xVar i ρ = some (.dict kd)) : ∃ a ks ds, B i = some a ∧ σ[i]? = some (some (.ref a)) ∧ H a = some (.dK ks) ∧ RpL K (Av A0 B) H (ks.map (·.2)) ds ∧ kd = (ks.map fun p => keyD p.1).zip ds := by
  obtain ⟨a, h1, h2, h3⟩ := S.ob i _ (by simpa using hi) (getD_some e) rfl
  cases h3 with
  | dic h r z => exact ⟨a, _, _, h1, h2, h, r, z⟩
theorem ss_putK (i : Nat) {x : Str} {j : Expr} {fj : Xp} (hr : Room k X.A) (he : SE X O m e f) (hj : SE X O mb j fj) (hm : m ≠ .w := by decide) (hO : O.contains i = true := by rfl) (hN : X.N[i]? = some x := by rfl) (hv : Vis X.env.scope x := by first | exact Or.inl rfl | exact Or.inr (Or.inl rfl) | exact Or.inr (Or.inr rfl))
    (hd : (x == ("__debug__" : Str)) = false := by decide) (hcd : (x == ("__classdict__" : Str)) = false := by decide) (hs : swapsWith e (some (.Subscript (.Name x p1) j p2)) pos.line X.env = pure false := by rfl) : SS X O Ob Oc O (.Assign [.Subscript (.Name x p1) j p2] e pos) (sPutK i fj f) := by
  refine ⟨ps_imp (ps_dput (hu1 hr) (pe_var hN hv hd hcd) hj.pe he.pe hs) fun D σ H q => ?_⟩
  obtain ⟨H0, A0, G, ρ, B, o, S, e, k⟩ := q
  obtain ⟨y, ey, e⟩ := bind2 e
  obtain ⟨d, ed, e⟩ := bind2 e
  obtain ⟨z, ez, e⟩ := bind2 e
  split at e
  · split at e
    · rename_i hz
      cases e
      obtain ⟨a, ks, ds, hB, hσ, ha, ra, ek⟩ := ownK_of S hO ed
      refine ⟨H0, A0, G, ρ, B, y, S, ey, fun v H1 s1 r1 => ⟨.ref a, hσ, H0, A0, G, ρ, B, _, S.mono s1, ez, fun u H2 s2 r2 => ?_⟩⟩
      have s12 := s1.trans s2
      have S1 := S.mono s12
      have av : Av A0 B a := .inr ⟨i, hB⟩
      have hlen : ks.length < sizeLine := by
        have e1 : ks.length = ds.length := by simpa using ra.length
        have e2 := hz.1
        rw [ek, List.length_zip, List.length_map, e1, Nat.min_self] at e2
        rw [e1]
        exact e2
      obtain ⟨ds', r', e'⟩ := dput_ok (i := _) ((r1.toS S.tr hm).mono s2) (ra.mono s12)
      refine ⟨a, _, rfl, by rw [r2.toW.int]; exact DPut.k (k := Sum.inl _) (s12 _ _ ha) hlen, ?_⟩
      rw [ek] at k
      refine k _ _ B (S1.write hB hσ (.dic upd_same (r'.step (fun b o e n => ?_) fun _ z => .inl z) e') hz.2)
      rw [upd_ne (fun z => n (by rw [z]; exact av))]
      exact e
    · cases e
  · cases e

/-! ### the least and the greatest of ints -/
def bMinI : List D → Option D
  | [x] => (seqD x).bind fun xs => (asInts xs).bind fun ns => ns.min?.map .int
  | _ => none
def bMaxI : List D → Option D
  | [x] => (seqD x).bind fun xs => (asInts xs).bind fun ns => ns.max?.map .int
  | _ => none
theorem cb_minI (hc : X.calm = true := by rfl) : CallR X (.builtin "min") (rC X.K .f bMinI) := by
  intro pins s σ H vs us Q I r ⟨A, ds, d, tr, w, e, q⟩
  unfold bMinI at e
  split at e
  · obtain ⟨v, rfl, w1⟩ := p1 w
    obtain ⟨xs, e1, e⟩ := bind2 e
    obtain ⟨ns, e2, e⟩ := bind2 e
    obtain ⟨mn, e3, e⟩ := Option.map_eq_some_iff.mp e
    subst e
    obtain ⟨a, vs, rfl, ha, ra⟩ := w1.seq e1
    rw [ref1 r]
    have hv := ra.ints e2
    subst hv
    refine call_min_walk (sq_iter (show X.A.in1.handled = none from I.ok.hd hc) I ha fun its J fp wr St h₂ rv W st hfp kp => ?_)
    have hl := rv.length
    rw [List.length_map] at hl
    have hne : 0 < ns.length := by
      cases ns with
      | nil => simp at e3
      | cons _ _ => simp
    refine ⟨_, _, _, _, _, _, _, rfl, W, st, hfp, by omega, CmpOf.ints_lt (fun i => ns.getD i 0) (fun i v h => intsAt rv i v h), fun v h' tk hv hk => ?_⟩
    obtain ⟨t, rfl⟩ := intsAt rv _ _ hv
    obtain ⟨b1, b2⟩ := argBest_lt (fun i => ns.getD i 0) (its.length - 1)
    refine ⟨.int mn, H, I.kept (kp h' hk), ⟨t, ?_⟩, q _ H (Same.refl H) Res.int⟩
    congr 1
    rw [List.min?_eq_some_iff] at e3
    refine Int.le_antisymm ?_ ?_
    · obtain ⟨i, hi, e4⟩ := List.mem_iff_getElem.mp e3.1
      have := b2 i (by omega)
      simp only [List.getD_eq_getElem?_getD, List.getElem?_eq_getElem hi, Option.getD_some] at this
      rw [e4] at this
      simpa [List.getD_eq_getElem?_getD] using this
    · have hb : argBest (fun i j => decide (ns.getD i 0 < ns.getD j 0)) (its.length - 1) < ns.length := by
        have h1 : argBest (fun i j => decide (ns.getD i 0 < ns.getD j 0)) (its.length - 1) ≤ its.length - 1 := b1
        omega
      exact e3.2 _ (by rw [List.getD_eq_getElem?_getD, List.getElem?_eq_getElem hb]; exact List.getElem_mem hb)
  · cases e
end
end Pm

namespace Pm
open PySem PySem.Spec PyProof.Rows L2
/-! ### a def behind the top -/
abbrev FnP (K : PySem.W.Frag) (x : Str) (st : Stmt) (f : Addr) (fd : FuncData) : Prop := FunD K x x (defArgs st) (defBody st) (defScope st) [] [] f fd
theorem fnp_ok {P : Program} {w : World} {K : PySem.W.Frag} {mg : Str → Option Value} {base : Heap} {x : Str} {st : Stmt} {f : Addr} {fd : FuncData} {N ps : List Str} {k : Nat} {O' : List Nat} {g : XS} (F : FnP K x st f fd) (S : FnScope N ps (defScope st))
    (hb : ∀ (cdv : Value) (A : Around) (outer : List Env) (s : Shared) (H : Hp) (E : XK), Room k (A.deeper (envOfC x (defScope st) s.heap.objs.size f cdv)) → SSs (cxOf CX0 P w K mg base N x (defScope st) f cdv A outer s H E).nox [] [] [] O' (defBody st) g) :
    FnOk P w K mg base CX0 (k + 1) f fd ps (spD K ps.length (runD ps.length N.length g)) := by
  refine F.ok S (fun vs H Q E h => ?_) (fun cdv A outer s H vs Q E hr h => ?_)
  · obtain ⟨A, ds, d, t, hn, _⟩ := h
    exact hn
  · obtain ⟨A', ds, d, t, hn, r, e, q⟩ := h
    obtain ⟨o, eo, e⟩ := bind2 e
    refine ⟨_, PSs.nox (hb cdv A outer s H E hr).pss, H, A', [], _, fun _ => none, o, sim_start t r hn, eo, ?_⟩
    cases o with
    | nx ρ => cases e; exact fun σ' H' B' S' => q .non H' S'.same .non
    | rt d' => cases e; exact fun v H' s' r' => q v H' s' r'
    | bk ρ => cases e
    | ct ρ => cases e
/-- a def that is never called keeps every promise -/
theorem fn_none {P : Program} {w : World} {K : PySem.W.Frag} {mg : Str → Option Value} {base : Heap} {x : Str} {st : Stmt} {f : Addr} {fd : FuncData} {N ps : List Str} {k : Nat} (F : FnP K x st f fd) (S : FnScope N ps (defScope st)) : FnOk P w K mg base CX0 (k + 1) f fd ps (spD K ps.length fun _ => none) := by
  refine F.ok S (fun vs H Q E h => ?_) (fun cdv A outer s H vs Q E hr h => ?_)
  · obtain ⟨A, ds, d, t, hn, _⟩ := h
    exact hn
  · obtain ⟨A', ds, d, t, hn, r, e, q⟩ := h
    cases e
theorem rpl_ints {K : PySem.W.Frag} {A : Addr → Prop} {H : Hp} : ∀ ns : List Int, RpL K A H (ns.map V.int) (ns.map PyData.int)
  | [] => .nil
  | n :: ns => .cons (.int n) (rpl_ints ns)
/-- what the end asks of the law's def -/
theorem sp_law {K : PySem.W.Frag} {F : List D → Option D} {n : Nat} (hF : ∀ ns : List Int, ns.length ≤ n → F [scr (ns.map PyData.int)] = some (.bool true)) (H : Hp) (a : Addr) (ns : List Int) (hl : ns.length ≤ n) (_ : Only H) (hS : SqL K H a (ns.map V.int)) :
    spD K 1 F [.ref a] H (fun v _ => v = .bl true) fun _ _ _ => False := by
  refine ⟨fun _ => False, [scr (ns.map PyData.int)], .bool true, fun _ z => z.elim, rfl, .cons ?_ .nil, hF ns hl, fun v H' s r => ?_⟩
  · rcases hS with h | h
    · exact .scr h id (rpl_ints ns)
    · exact .kl h (rpl_ints ns)
  · cases r
    rfl
end Pm

/-! Pm: ranges laid out at once. -/
namespace Pm
open PySem PySem.Spec PyProof.Rows L2
def oRgT (lo hi : Int) : Option (List D) := if -(2 ^ 62) ≤ lo ∧ lo < 2 ^ 62 ∧ -(2 ^ 62) ≤ hi ∧ hi < 2 ^ 62 ∧ (hi - lo).toNat ≤ 2 ^ 24 then some (rangeD lo 1 (hi - lo).toNat) else none
def oTupR1 : D → Option D
  | .int n => (oRgT 0 n).map .tuple
  | _ => none
def oLstR1 : D → Option D
  | .int n => (oRgT 0 n).map .list
  | _ => none
def oTupR2 : D → D → Option D
  | .int a, .int n => (oRgT a n).map .tuple
  | _, _ => none
def oLstR2 : D → D → Option D
  | .int a, .int n => (oRgT a n).map .list
  | _, _ => none
theorem rpl_rg {K : PySem.W.Frag} {A : Addr → Prop} {H : Hp} (a b : Int) : RpL K A H (rgV a b) (rangeD a 1 (b - a).toNat) := by
  unfold rgV rangeD
  induction List.range (b - a).toNat with
  | nil => exact .nil
  | cons i r ih =>
    refine .cons ?_ ih
    have e : a + (i : Nat) * 1 = a + (i : Nat) := by rw [Int.mul_one]
    show Rp K A H (V.int (a + (i : Nat))) (PyData.int (a + (i : Nat) * 1))
    rw [e]
    exact .int _
section
variable {X : Cx} {O : List Nat} {m m' : Md} {a b : Expr} {fa fb : Xp} {p p2 pos pos2 : Pos}
theorem se_tupR1 (h1 : X.mg "tuple" = none) (h2 : X.mg "range" = none) (ha : SE X O m a fa) (hc : X.calm = true := by rfl) (hg : L2.Gl X "tuple" := by rfl) (hg2 : L2.Gl X "range" := by rfl) (na : starEach [a] X.env = (false, eval a X.env) :: starEach [] X.env := by rfl)
    (na2 : starEach [Expr.Call (.Name "range" p) [a] [] pos] X.env = (false, eval (Expr.Call (.Name "range" p) [a] [] pos) X.env) :: starEach [] X.env := by rfl) : SE X O .f (.Call (.Name "tuple" p2) [.Call (.Name "range" p) [a] [] pos] [] pos2) (xUn oTupR1 fa) := by
  refine ⟨pe_imp (pe_tupRg hc hg h1 (prg_1 hg2 h2 ha.pe na) na2) fun σ H Q q => ?_⟩
  obtain ⟨H0, A0, G, ρ, B, d, S, e, k⟩ := q
  obtain ⟨y, ey, e⟩ := bind2 e
  refine ⟨H0, A0, G, ρ, B, y, S, ey, fun v H1 s1 r1 => ?_⟩
  unfold oTupR1 at e
  split at e
  · obtain ⟨ds, e1, e⟩ := Option.map_eq_some_iff.mp e
    subst e
    unfold oRgT at e1
    split at e1
    · rename_i hz
      cases e1
      exact ⟨_, r1.toW.int, ⟨hz.1, hz.2.1, hz.2.2.1, hz.2.2.2.1, hz.2.2.2.2⟩, fun q hq => k _ _ (s1.trans (same_upd hq)) (Res.flat (Rp.newT (S.mono s1).tr hq (rpl_rg _ _)) rfl)⟩
    · cases e1
  · cases e
theorem se_lstR1 (h1 : X.mg "list" = none) (h2 : X.mg "range" = none) (ha : SE X O m a fa) (hc : X.calm = true := by rfl) (hg : L2.Gl X "list" := by rfl) (hg2 : L2.Gl X "range" := by rfl) (na : starEach [a] X.env = (false, eval a X.env) :: starEach [] X.env := by rfl)
    (na2 : starEach [Expr.Call (.Name "range" p) [a] [] pos] X.env = (false, eval (Expr.Call (.Name "range" p) [a] [] pos) X.env) :: starEach [] X.env := by rfl) : SE X O .f (.Call (.Name "list" p2) [.Call (.Name "range" p) [a] [] pos] [] pos2) (xUn oLstR1 fa) := by
  refine ⟨pe_imp (pe_listRg hc hg h1 (prg_1 hg2 h2 ha.pe na) na2) fun σ H Q q => ?_⟩
  obtain ⟨H0, A0, G, ρ, B, d, S, e, k⟩ := q
  obtain ⟨y, ey, e⟩ := bind2 e
  refine ⟨H0, A0, G, ρ, B, y, S, ey, fun v H1 s1 r1 => ?_⟩
  unfold oLstR1 at e
  split at e
  · obtain ⟨ds, e1, e⟩ := Option.map_eq_some_iff.mp e
    subst e
    unfold oRgT at e1
    split at e1
    · rename_i hz
      cases e1
      exact ⟨_, r1.toW.int, ⟨hz.1, hz.2.1, hz.2.2.1, hz.2.2.2.1, hz.2.2.2.2⟩, fun q hq => k _ _ (s1.trans (same_upd hq)) (Res.newL (S.mono s1).tr hq (rpl_rg _ _) s1)⟩
    · cases e1
  · cases e
end
section
variable {X : Cx} {O : List Nat} {e : Expr} {es : List Expr} {fs : XL} {pos p : Pos} {k j : Nat} {x : Str} {ps : List Str} {F : List D → Option D} {P : Program} {w : World} {K : PySem.W.Frag} {mg : Str → Option Value} {base : Heap} {A : Around}
/-- a call of a def of the text, the context's parts by name -/
theorem se_callD (hd : Def P w K mg base k x ps F) (hr : Room j A) (ha : SA X O true (e :: es) fs) (hk : k ≤ j := by decide) (hX : X.prog = P ∧ X.w = w ∧ X.K = K ∧ X.mg = mg ∧ X.base = base ∧ X.A = A := by exact ⟨rfl, rfl, rfl, rfl, rfl, rfl⟩) (hl : (e :: es).length = ps.length := by rfl) (hg : L2.Gl X x := by rfl) (hdb : (x == ("__debug__" : Str)) = false := by decide)
    (he : starEach (e :: es) X.env = (false, eval e X.env) :: starEach es X.env := by rfl) (hpl : (backTo pos (starEach es X.env)).any (·.1) = false := by rfl) : SE X O .s (.Call (.Name x p) (e :: es) [] pos) (xCall (fun ds => if ds.length = ps.length then F ds else none) fs) := by
  obtain ⟨rfl, rfl, rfl, rfl, rfl, rfl⟩ := hX
  exact se_call hd hr ha hk hl hg hdb he hpl
theorem se_callWD (hd : Def P w K mg base k x ps F) (hr : Room j A) (ha : SA X O false (e :: es) fs) (hk : k ≤ j := by decide) (hX : X.prog = P ∧ X.w = w ∧ X.K = K ∧ X.mg = mg ∧ X.base = base ∧ X.A = A := by exact ⟨rfl, rfl, rfl, rfl, rfl, rfl⟩) (hg : L2.Gl X x := by rfl) (hdb : (x == ("__debug__" : Str)) = false := by decide)
    (he : starEach (e :: es) X.env = (false, eval e X.env) :: starEach es X.env := by rfl) (hpl : (backTo pos (starEach es X.env)).any (·.1) = false := by rfl) : SE X O .f (.Call (.Name x p) (e :: es) [] pos) (xCall (fun ds => if ds.length = ps.length then (F ds).bind fun d => if flat d then some d else none else none) fs) := by
  obtain ⟨rfl, rfl, rfl, rfl, rfl, rfl⟩ := hX
  exact se_callW hd hr ha hk hg hdb he hpl
end
end Pm

/-! Pm: a tuple taken once. -/
namespace Pm
open PySem PySem.Spec PyProof.Rows L2
theorem tuple_mul1 (l : Addr) (items : Array Value) (n : Nat) (dd : Option Addr) (sl : Array (Option Value)) (x : Int) (u : Tok) (c0 : (decide (x < -(2 ^ 63)) || decide (x ≥ 2 ^ 63)) = false) (c1 : (items.isEmpty || x == 1) = true) :
    Meets (Builtin.«tuple.__mul__» ⟨[.ref l, .int x u], []⟩) (fun _ R s => s.heap.get? l = some { cls := .type "tuple", dict := dd, data := .seq items n, slots := sl } ∧
      R (.ok (.ret (Value.ref l))) s) :=
  .of_wp fun prog w A R s h => by
    obtain ⟨hp, g, d, tk, os⟩ := s
    obtain ⟨hl, h⟩ := h
    have f1 := AutoSeq1.idx_int
    wp_walk using wpAny_loadPart' hl
    repeat (first
      | (refine wpAny_ite_false (decide_eq_false (by rw [c0]; exact Bool.false_ne_true)) ?_; wp_walk using wpAny_loadPart' hl)
      | (refine wpAny_ite_true (decide_eq_true c1) ?_; wp_walk using wpAny_loadPart' hl))
    exact ⟨_, rfl, h⟩
theorem tuple_mul0 (l : Addr) (items : Array Value) (n : Nat) (dd : Option Addr) (sl : Array (Option Value)) (x : Int) (u : Tok) (c0 : (decide (x < -(2 ^ 63)) || decide (x ≥ 2 ^ 63)) = false) (c1 : (items.isEmpty || x == 1) = false) (c2 : (decide (x ≤ 0) || items.isEmpty) = true) :
    Meets (Builtin.«tuple.__mul__» ⟨[.ref l, .int x u], []⟩) (fun _ R s => s.heap.get? l = some { cls := .type "tuple", dict := dd, data := .seq items n, slots := sl } ∧
      R (.ok (.ret (Value.ref s.heap.objs.size))) { s with heap := s.heap.push { cls := Value.type "tuple", data := Data.seq #[] }, toks := s.toks }) :=
  .of_wp fun prog w A R s h => by
    obtain ⟨hp, g, d, tk, os⟩ := s
    obtain ⟨hl, h⟩ := h
    have f1 := AutoSeq1.idx_int
    wp_walk using wpAny_loadPart' hl
    repeat (first
      | (refine wpAny_ite_false (decide_eq_false (by rw [c0]; exact Bool.false_ne_true)) ?_; wp_walk using wpAny_loadPart' hl)
      | (refine wpAny_ite_false (decide_eq_false (by rw [c1]; exact Bool.false_ne_true)) ?_; wp_walk using wpAny_loadPart' hl)
      | (refine wpAny_ite_true (decide_eq_true c2) ?_; wp_walk using wpAny_loadPart' hl))
    exact ⟨_, rfl, h⟩
def rRepS (K : PySem.W.Frag) : R2 := fun x y H Q => ∃ l k xs, x = .ref l ∧ y = .int k ∧ SqT K H l xs ∧ -(2 ^ 62) ≤ k ∧ k ≤ 1000 ∧ (xs = [] ∨ k = 1) ∧ Q (.ref l) H
def rRep0 (K : PySem.W.Frag) : R2 := fun x y H Q => ∃ l k xs, x = .ref l ∧ y = .int k ∧ SqT K H l xs ∧ -(2 ^ 62) ≤ k ∧ k ≤ 0 ∧ xs ≠ [] ∧ ∀ p, H p = none → Q (.ref p) (upd H p (.tup []))
section
variable {X : Cx}
theorem op_repS : OpR X (binaryOp .Mult) (rRepS X.K) := by
  intro pins s σ H x y v u Q I rx ry h
  obtain ⟨l, k, xs, rfl, rfl, hT, h1, h2, hz, q⟩ := h
  cases rx
  obtain ⟨t, rfl⟩ := ry
  obtain ⟨its, r, ⟨⟨cls, dd, data, sl⟩, ho, hc, n, hd⟩, hs⟩ := I.tuple hT
  simp only at hc hd
  subst hc hd
  have c0 : (decide (k < -(2 ^ 63)) || decide (k ≥ 2 ^ 63)) = false := by
    rw [decide_eq_false (by omega), decide_eq_false (by omega)] <;> rfl
  have c1 : (its.toArray.isEmpty || k == 1) = true := by
    rcases hz with hz | hz
    · subst hz
      cases r
      rfl
    · rw [hz, Bool.or_eq_true]
      exact .inr rfl
  exact wpAny_binaryOp_repeat_ref (T := "tuple") (U := "int") (by decide) ⟨_, ho, rfl⟩ (fun s' => typeIs_int s' k t) noFill_tuple_mul F.fills_int_mul F.slot_int_rmul repeat_tuple F.slot_int_index.lookup
    (call_meets F.slot_int_rmul (typeIs_int s k t) F.entry_int_rmul (F.args_int_rmul_2 _ _) (int_rmul_tuple k t l its.toArray n dd sl)
      ⟨ho, rfl, ⟨_, ho, rfl⟩, call_meets F.slot_tuple_mul ⟨_, ho, rfl⟩ F.entry_tuple_mul (F.args_tuple_mul_2 _ _) (tuple_mul1 l its.toArray n dd sl k t c0 c1) ⟨ho, ⟨.ref l, H, I, rfl, q⟩⟩⟩)
theorem op_rep0 : OpR X (binaryOp .Mult) (rRep0 X.K) := by
  intro pins s σ H x y v u Q I rx ry h
  obtain ⟨l, k, xs, rfl, rfl, hT, h1, h2, hz, q⟩ := h
  cases rx
  obtain ⟨t, rfl⟩ := ry
  obtain ⟨its, r, ⟨⟨cls, dd, data, sl⟩, ho, hc, n, hd⟩, hs⟩ := I.tuple hT
  simp only at hc hd
  subst hc hd
  have c0 : (decide (k < -(2 ^ 63)) || decide (k ≥ 2 ^ 63)) = false := by
    rw [decide_eq_false (by omega), decide_eq_false (by omega)] <;> rfl
  have hi : its.toArray.isEmpty = false := by
    cases r with
    | nil => exact absurd rfl hz
    | cons => rfl
  have c1 : (its.toArray.isEmpty || k == 1) = false := by
    rw [hi, Bool.false_or]
    exact beq_eq_false_iff_ne.mpr (by omega)
  have c2 : (decide (k ≤ 0) || its.toArray.isEmpty) = true := by
    rw [decide_eq_true h2, Bool.true_or]
  refine wpAny_binaryOp_repeat_ref (T := "tuple") (U := "int") (by decide) ⟨_, ho, rfl⟩ (fun s' => typeIs_int s' k t) noFill_tuple_mul F.fills_int_mul F.slot_int_rmul repeat_tuple F.slot_int_index.lookup
    (call_meets F.slot_int_rmul (typeIs_int s k t) F.entry_int_rmul (F.args_int_rmul_2 _ _) (int_rmul_tuple k t l its.toArray n dd sl)
      ⟨ho, rfl, ⟨_, ho, rfl⟩, call_meets F.slot_tuple_mul ⟨_, ho, rfl⟩ F.entry_tuple_mul (F.args_tuple_mul_2 _ _) (tuple_mul0 l its.toArray n dd sl k t c0 c1 c2) ⟨ho, ?_⟩⟩)
  refine ⟨.ref s.heap.objs.size, _, I.laid (t' := s.toks) (o := .tup []) (fun b ob q => Heap.get?_push_of_some _ q) (Nat.le_refl _) ?_, rfl, q _ (I.hok.fresh (Nat.le_refl _))⟩
  exact ⟨Nat.zero_le _, [], .nil, IsTup.new _ _⟩
end
/-- the product, tuples any number of times -/
def oMul' : D → D → Option D
  | .tuple a, .int k => if -(2 ^ 62) ≤ k ∧ k ≤ 1000 ∧ a.length ≤ 1000 then some (.tuple (List.replicate k.toNat a).flatten) else none
  | x, y => oMul x y
theorem op_mulD' {X : Cx} : OpR X (binaryOp .Mult) (rD X.K .f oMul') := by
  intro pins s σ H x y v u Q I rx ry h
  obtain ⟨A, dx, dy, d, tr, wx, wy, e, q⟩ := id h
  unfold oMul' at e
  split at e
  · rename_i a k
    split at e
    · rename_i hz
      cases e
      obtain ⟨l, xs, rfl, ha, na, ra⟩ := wx.tup
      by_cases h1 : xs = [] ∨ k = 1
      · refine op_repS pins s σ H _ _ v u Q I rx ry ⟨l, k, xs, rfl, wy.int, .of ha, hz.1, hz.2.1, h1, ?_⟩
        have e : (List.replicate k.toNat a).flatten = a := by
          rcases h1 with h1 | h1
          · subst h1
            cases ra
            simp
          · subst h1
            simp
        rw [e] at q
        exact q _ H (Same.refl H) (Res.flat (.tup ha na ra) rfl)
      · have h2 : xs ≠ [] := fun z => h1 (.inl z)
        by_cases h3 : k ≤ 0
        · refine op_rep0 pins s σ H _ _ v u Q I rx ry ⟨l, k, xs, rfl, wy.int, .of ha, hz.1, h3, h2, fun p hp => ?_⟩
          have e : (List.replicate k.toNat a).flatten = [] := by
            rw [Int.toNat_of_nonpos h3]
            rfl
          rw [e] at q
          exact q _ _ (same_upd hp) (Res.flat (Rp.newT tr hp .nil) rfl)
        · have h4 : k ≠ 1 := fun z => h1 (.inr z)
          exact op_repT pins s σ H _ _ v u Q I rx ry ⟨l, k, xs, rfl, wy.int, .of ha, h2, by omega, hz.2.1, by rw [ra.length]; exact hz.2.2, fun p hp => q _ _ (same_upd hp) (Res.flat (Rp.newT tr hp (ra.rep _)) rfl)⟩
    · cases e
  · exact op_mulD pins s σ H x y v u Q I rx ry ⟨A, dx, dy, d, tr, wx, wy, e, q⟩
end Pm

/-! Pm: plain facts for reading the printed functions. -/
namespace Pm
open PySem PySem.Spec PyProof.Rows L2
/-! ### loops -/
theorem whileF_succ (c : PEnv → Option Bool) (b : XS) (n : Nat) (ρ : PEnv) : whileF c b (n + 1) ρ = (c ρ).bind fun t => if t then (b ρ).bind fun o => match o with
      | .nx ρ2 => whileF c b n ρ2
      | .ct ρ2 => whileF c b n ρ2
      | .bk ρ2 => some (.nx ρ2)
      | .rt d => some (.rt d)
    else some (.nx ρ) := rfl
/-- a loop that goes on n turns and ends -/
theorem whileF_run {c : PEnv → Option Bool} {b : XS} {f : Nat → PEnv} {n N : Nat} (hN : n < N) (ht : ∀ i, i < n → c (f i) = some true) (hb : ∀ i, i < n → b (f i) = some (.nx (f (i + 1)))) (he : c (f n) = some false) : whileF c b N (f 0) = some (.nx (f n)) := by
  suffices h : ∀ k i, i + k = n → ∀ N, k < N → whileF c b N (f i) = some (.nx (f n)) from h n 0 (by omega) N hN
  intro k
  induction k with
  | zero =>
    intro i hi N hN
    obtain ⟨N, rfl⟩ : ∃ M, N = M + 1 := ⟨N - 1, by omega⟩
    have : i = n := by omega
    subst this
    simp [whileF_succ, he]
  | succ k ih =>
    intro i hi N hN
    obtain ⟨N, rfl⟩ : ∃ M, N = M + 1 := ⟨N - 1, by omega⟩
    simp [whileF_succ, ht i (by omega), hb i (by omega)]
    exact ih (i + 1) (by omega) N (by omega)
theorem forL_nil (g : D → PEnv → Option PEnv) (b : XS) (ρ : PEnv) : forL g b [] ρ = some (.nx ρ) := rfl
/-- a loop whose turns fold -/
theorem forL_fold {α : Type} {g : D → PEnv → Option PEnv} {b : XS} (f : α → PEnv) (st : α → D → α) (P : α → List D → Prop) (hb : ∀ a d ds, P a (d :: ds) → (g d (f a)).bind b = some (.nx (f (st a d))) ∧ P (st a d) ds) :
    ∀ (ds : List D) (a : α), P a ds → forL g b ds (f a) = some (.nx (f (ds.foldl st a)))
  | [], a, _ => rfl
  | d :: ds, a, h => by
    obtain ⟨h1, h2⟩ := hb a d ds h
    obtain ⟨ρ1, e1, e2⟩ := bind2 h1
    simp only [forL, e1, e2, Option.bind_some, List.foldl_cons]
    exact forL_fold f st P hb ds _ h2
/-- a loop by an invariant over what is done and what is left -/
theorem forL_inv {β : Type} {g : D → PEnv → Option PEnv} {b : XS} (enc : β → D) (I : List β → List β → PEnv → Prop)
    (hb : ∀ pre x rest ρ, I pre (x :: rest) ρ → ∃ ρ1 ρ2, g (enc x) ρ = some ρ1 ∧ (b ρ1 = some (.nx ρ2) ∨ b ρ1 = some (.ct ρ2)) ∧ I (pre ++ [x]) rest ρ2) :
    ∀ (xs pre : List β) (ρ : PEnv), I pre xs ρ → ∃ ρ', forL g b (xs.map enc) ρ = some (.nx ρ') ∧ I (pre ++ xs) [] ρ'
  | [], pre, ρ, h => ⟨ρ, rfl, by rwa [List.append_nil]⟩
  | x :: xs, pre, ρ, h => by
    obtain ⟨ρ1, ρ2, e1, e2, h2⟩ := hb pre x xs ρ h
    obtain ⟨ρ', e3, h3⟩ := forL_inv enc I hb xs (pre ++ [x]) ρ2 h2
    refine ⟨ρ', ?_, by rwa [List.append_assoc] at h3⟩
    rcases e2 with e2 | e2
    · simp only [List.map_cons, forL, e1, e2, Option.bind_some, e3]
    · simp only [List.map_cons, forL, e1, e2, Option.bind_some, e3]
/-- the same where a turn may end the def -/
theorem forL_inv' {β : Type} {g : D → PEnv → Option PEnv} {b : XS} (enc : β → D) (I : List β → List β → PEnv → Prop) (R : D → Prop)
    (hb : ∀ pre x rest ρ, I pre (x :: rest) ρ → ∃ ρ1, g (enc x) ρ = some ρ1 ∧ ((∃ ρ2, (b ρ1 = some (.nx ρ2) ∨ b ρ1 = some (.ct ρ2)) ∧ I (pre ++ [x]) rest ρ2) ∨ ∃ d, b ρ1 = some (.rt d) ∧ R d)) :
    ∀ (xs pre : List β) (ρ : PEnv), I pre xs ρ → (∃ ρ', forL g b (xs.map enc) ρ = some (.nx ρ') ∧ I (pre ++ xs) [] ρ') ∨ ∃ d, forL g b (xs.map enc) ρ = some (.rt d) ∧ R d
  | [], pre, ρ, h => .inl ⟨ρ, rfl, by rwa [List.append_nil]⟩
  | x :: xs, pre, ρ, h => by
    obtain ⟨ρ1, e1, h | ⟨d, e2, h2⟩⟩ := hb pre x xs ρ h
    · obtain ⟨ρ2, e2, h2⟩ := h
      rcases forL_inv' enc I R hb xs (pre ++ [x]) ρ2 h2 with ⟨ρ', e3, h3⟩ | ⟨d, e3, h3⟩
      · refine .inl ⟨ρ', ?_, by rwa [List.append_assoc] at h3⟩
        rcases e2 with e2 | e2
        · simp only [List.map_cons, forL, e1, e2, Option.bind_some, e3]
        · simp only [List.map_cons, forL, e1, e2, Option.bind_some, e3]
      · refine .inr ⟨d, ?_, h3⟩
        rcases e2 with e2 | e2
        · simp only [List.map_cons, forL, e1, e2, Option.bind_some, e3]
        · simp only [List.map_cons, forL, e1, e2, Option.bind_some, e3]
    · exact .inr ⟨d, by simp only [List.map_cons, forL, e1, e2, Option.bind_some], h2⟩
/-! ### comprehensions -/
theorem lcL_map {α : Type} {g : XG} {f : Xp} {ρ : PEnv} (enc h : α → D) : ∀ (xs : List α), (∀ x ∈ xs, (g (enc x) ρ).bind f = some (h x)) → lcL g tYesP f ρ (xs.map enc) = some (xs.map h)
  | [], _ => rfl
  | x :: xs, hx => by
    obtain ⟨ρ1, e1, e2⟩ := bind2 (hx x (List.mem_cons_self ..))
    have := lcL_map (g := g) (f := f) (ρ := ρ) enc h xs fun y hy => hx y (List.mem_cons_of_mem _ hy)
    simp only [List.map_cons, lcL, e1, e2, tYesP, Option.bind_some, if_true, this]
theorem lcL_filter {α : Type} {g : XG} {t : PEnv → Option Bool} {f : Xp} {ρ : PEnv} (enc h : α → D) (p : α → Bool) : ∀ (xs : List α), (∀ x ∈ xs, ∃ ρ1, g (enc x) ρ = some ρ1 ∧ t ρ1 = some (p x) ∧ (p x = true → f ρ1 = some (h x))) → lcL g t f ρ (xs.map enc) = some ((xs.filter p).map h)
  | [], _ => rfl
  | x :: xs, hx => by
    obtain ⟨ρ1, e1, e2, e3⟩ := hx x (List.mem_cons_self ..)
    have := lcL_filter (g := g) (t := t) (f := f) (ρ := ρ) enc h p xs fun y hy => hx y (List.mem_cons_of_mem _ hy)
    by_cases hp : p x = true
    · simp only [List.map_cons, lcL, e1, e2, hp, e3 hp, Option.bind_some, if_true, this, List.filter_cons_of_pos]
    · simp only [List.map_cons, lcL, e1, e2, hp, Option.bind_some, if_false, this, List.filter_cons_of_neg, Bool.false_eq_true, not_false_eq_true]
/-! ### places, ranges -/
theorem atI_nat {α : Type} (xs : List α) (i : Nat) (h : i < xs.length) : atI xs (i : Int) = some xs[i] := by
  unfold atI ixN
  simp [h]
theorem cut_init (xs : List D) : cutD xs none (some (-1)) = xs.dropLast := by
  unfold cutD
  rw [HT.sIx_none, List.drop_zero, Nat.sub_zero, List.dropLast_eq_take]
  congr 1
  unfold HT.sIx
  simp
  omega
theorem asInts_map (xs : List Int) : asInts (xs.map PyData.int) = some xs := by
  induction xs with
  | nil => rfl
  | cons x xs ih => simp [asInts, ih]
theorem asBools_map (xs : List Bool) : asBools (xs.map PyData.bool) = some xs := by
  induction xs with
  | nil => rfl
  | cons x xs ih => simp [asBools, ih]
theorem oR1_nat (n : Nat) (h : n ≤ 16777216) : oR1 [.int n] = some ((List.range n).map fun i => PyData.int (i : Nat)) := by
  show (if (n : Int) ≤ 16777216 ∧ -(2 ^ 62) ≤ (n : Int) then some (rangeD 0 1 (n : Int).toNat) else none) = _
  rw [if_pos (by constructor <;> omega)]
  unfold rangeD
  simp
/-! ### sizes -/
theorem log2_lt_of {n k : Nat} (hk : 0 < k) (h : n < 2 ^ k) : n.log2 < k := by
  by_cases h0 : n = 0
  · subst h0
    simpa using hk
  · exact (Nat.log2_lt h0).mpr h
/-- small enough for every product and quotient -/
def Sm (k : Nat) (a : Int) : Prop := a.natAbs ≤ 2 ^ k
theorem Sm.mul {j k : Nat} {a b : Int} (h1 : Sm j a) (h2 : Sm k b) : Sm (j + k) (a * b) := by
  unfold Sm at *
  rw [Int.natAbs_mul, Nat.pow_add]
  exact Nat.mul_le_mul h1 h2
theorem Sm.mono {j k : Nat} {a : Int} (h : Sm j a) (hk : j ≤ k) : Sm k a := Nat.le_trans h (Nat.pow_le_pow_right (by decide) hk)
theorem Sm.add {k : Nat} {a b : Int} (h1 : Sm k a) (h2 : Sm k b) : Sm (k + 1) (a + b) := by
  unfold Sm at *
  have := Int.natAbs_add_le a b
  rw [Nat.pow_succ]
  omega
theorem Sm.le {k : Nat} {a b : Int} (h : Sm k a) (hb : b.natAbs ≤ a.natAbs) : Sm k b := Nat.le_trans hb h
theorem Sm.lit {k : Nat} {a : Int} (h : a.natAbs ≤ 1024 := by decide) (hk : 10 ≤ k := by omega) : Sm k a := Nat.le_trans h (Nat.pow_le_pow_right (n := 2) (by decide) hk)
theorem Sm.zero {k : Nat} : Sm k 0 := Nat.zero_le _
theorem Sm.neg {k : Nat} {a : Int} (h : Sm k a) : Sm k (-a) := by
  unfold Sm at *
  rwa [Int.natAbs_neg]
theorem Sm.sub {k : Nat} {a b : Int} (h1 : Sm k a) (h2 : Sm k b) : Sm (k + 1) (a - b) := h1.add h2.neg
theorem Sm.mulOk {j k : Nat} {a b : Int} (h1 : Sm j a) (h2 : Sm k b) (hj : j ≤ 4000) (hk : k ≤ 4000) : mulOk a b = true := by
  have l1 : a.natAbs.log2 < j + 1 := log2_lt_of (by omega) (Nat.lt_of_le_of_lt h1 (Nat.pow_lt_pow_right (by decide) (by omega)))
  have l2 : b.natAbs.log2 < k + 1 := log2_lt_of (by omega) (Nat.lt_of_le_of_lt h2 (Nat.pow_lt_pow_right (by decide) (by omega)))
  unfold Pm.mulOk
  rw [Bool.or_eq_true]
  exact .inr (decide_eq_true (by omega))
theorem Sm.divOk {k : Nat} {a : Int} (h : Sm k a) (h0 : a ≠ 0) (hk : k ≤ 8000) : divOk a = true := by
  have l1 : a.natAbs.log2 < k + 1 := log2_lt_of (by omega) (Nat.lt_of_le_of_lt h (Nat.pow_lt_pow_right (by decide) (by omega)))
  unfold Pm.divOk
  rw [Bool.and_eq_true]
  exact ⟨decide_eq_true h0, decide_eq_true (by omega)⟩
/-! ### fractions in lowest terms -/
/-- p / q in lowest terms, the lower part positive -/
def fr (p q : Int) : D := .tuple [.int (p / (Int.gcd p q : Int)), .int (q / (Int.gcd p q : Int))]
theorem gcd_pos_of {p q : Int} (hq : 0 < q) : 0 < Int.gcd p q := Int.gcd_pos_of_ne_zero_right p (by omega)
theorem fr_scale {p q c : Int} (hq : 0 < q) (hc : 0 < c) : fr (p * c) (q * c) = fr p q := by
  unfold fr
  have g : Int.gcd (p * c) (q * c) = Int.gcd p q * c.natAbs := Int.gcd_mul_right p c q
  have e : ((c.natAbs : Nat) : Int) = c := Int.natAbs_of_nonneg (by omega)
  rw [g, Int.natCast_mul, e, Int.mul_ediv_mul_of_pos_left _ _ hc, Int.mul_ediv_mul_of_pos_left _ _ hc]
/-- its parts: p = p' g, q = q' g -/
theorem fr_parts (p : Int) {q : Int} (hq : 0 < q) : ∃ p' q' g : Int, fr p q = .tuple [.int p', .int q'] ∧ p = p' * g ∧ q = q' * g ∧ 0 < g ∧ 0 < q' ∧ p'.natAbs ≤ p.natAbs ∧ q'.natAbs ≤ q.natAbs := by
  have hg := gcd_pos_of (p := p) hq
  have hg' : 0 < (Int.gcd p q : Int) := by omega
  have d1 : (Int.gcd p q : Int) ∣ p := Int.gcd_dvd_left p q
  have d2 : (Int.gcd p q : Int) ∣ q := Int.gcd_dvd_right p q
  have e1 := Int.ediv_mul_cancel d1
  have e2 := Int.ediv_mul_cancel d2
  have n1 : (p / (Int.gcd p q : Int)).natAbs ≤ p.natAbs := by
    have := congrArg Int.natAbs e1
    rw [Int.natAbs_mul] at this
    rw [← this]
    exact Nat.le_mul_of_pos_right _ (by simpa using hg)
  have n2 : (q / (Int.gcd p q : Int)).natAbs ≤ q.natAbs := by
    have := congrArg Int.natAbs e2
    rw [Int.natAbs_mul] at this
    rw [← this]
    exact Nat.le_mul_of_pos_right _ (by simpa using hg)
  refine ⟨_, _, _, rfl, e1.symm, e2.symm, hg', ?_, n1, n2⟩
  exact Int.ediv_pos_of_pos_of_dvd hq (by omega) d2
theorem fr_eq {p q r s : Int} (hq : 0 < q) (hs : 0 < s) (h : p * s = r * q) : fr p q = fr r s := by
  rw [← fr_scale (p := p) hq hs, ← fr_scale (p := r) hs hq, h, Int.mul_comm q s]
theorem fr_inj {p q r s : Int} (hq : 0 < q) (hs : 0 < s) (h : fr p q = fr r s) : p * s = r * q := by
  obtain ⟨p1, q1, g, e1, rfl, rfl, _⟩ := fr_parts p hq
  obtain ⟨r1, s1, k, e2, rfl, rfl, _⟩ := fr_parts r hs
  rw [e1, e2] at h
  injection h with h
  injection h with h1 h
  injection h with h2 h
  injection h1 with h1
  injection h2 with h2
  subst h1 h2
  grind
end Pm

/-! Pm: the printed functions, read one step at a time. -/
namespace Pm
open PySem PySem.Spec PyProof.Rows L2
section
variable (ρ : PEnv)
def b2 (g : D → D → Option D) : Option D → Option D → Option D
  | some x, some y => g x y
  | _, _ => none
def c2 : Option D → Option (List D) → Option (List D)
  | some x, some xs => some (x :: xs)
  | _, _ => none
def sqO : Option Out → XS → Option Out
  | some (.nx ρ), h => h ρ
  | x, _ => x
def ifO {α : Type} : Option Bool → (PEnv → Option α) → (PEnv → Option α) → PEnv → Option α
  | some true, g, _, ρ => g ρ
  | some false, _, h, ρ => h ρ
  | none, _, _, _ => none
def stO (i : Nat) : Option D → PEnv → Option Out
  | some d, ρ => if i < ρ.length then some (.nx (ρ.set i (some d))) else none
  | none, _ => none
def endO : Option Out → Option D
  | some (.nx _) => some .none
  | some (.rt d) => some d
  | _ => none
def andO : Option D → Xp → PEnv → Option D
  | some (.bool true), f, ρ => f ρ
  | some (.bool false), _, _ => some (.bool false)
  | _, _, _ => none
def orO : Option D → Xp → PEnv → Option D
  | some (.bool true), _, _ => some (.bool true)
  | some (.bool false), f, ρ => f ρ
  | _, _, _ => none
def tyes : PEnv → Option Bool := fun _ => some true
def tno : PEnv → Option Bool := fun _ => some false
def mkT (ds : List D) : Option D := if ds.length ≤ 1000 then some (.tuple ds) else none
def mkL (ds : List D) : Option D := if ds.length ≤ 1000 then some (.list ds) else none
def chP (g' : D → D → Option D) (y : D) (fc : Xp) (ρ : PEnv) : Option D → Option D
  | some (.bool true) => b2 g' (some y) (fc ρ)
  | some (.bool false) => some (.bool false)
  | _ => none
def chO (g g' : D → D → Option D) : Option D → Option D → Xp → PEnv → Option D
  | some x, some y, fc, ρ => chP g' y fc ρ (g x y)
  | _, _, _, _ => none
def slO : Option D → Option (Option Int) → Option (Option Int) → Option D
  | some x, some i, some j => oSl x i j
  | _, _, _ => none
def atO : Option D → Option (Option Int)
  | some (.int i) => some (some i)
  | _ => none
def lcO (g : XG) (t : PEnv → Option Bool) (f : Xp) (ρ : PEnv) : Option (List D) → Option D
  | some ds => (lcL g t f ρ ds).map .list
  | none => none
def forO (g : D → PEnv → Option PEnv) (b : XS) (ρ : PEnv) : Option (List D) → Option Out
  | some ds => forL g b ds ρ
  | none => none
def gsO (gs : List D → PEnv → Option PEnv) (ds : List D) : Option PEnv → Option PEnv
  | some ρ => gs ds ρ
  | none => none
def nxO : Option PEnv → Option Out
  | some ρ => some (.nx ρ)
  | none => none
def tgO (g : D → PEnv → Option PEnv) : Option D → PEnv → Option Out
  | some d, ρ => nxO (g d ρ)
  | none, _ => none
def paO (is : List Nat) : Option (List D) → PEnv → Option Out
  | some ds, ρ => if is.all (fun i => decide (i < ρ.length)) && decide (ds.length = is.length) then some (.nx (setAll is ds ρ)) else none
  | none, _ => none
def apO (i : Nat) : Option D → Option D → PEnv → Option Out
  | some (.list xs), some y, ρ => if xs.length < 16777216 ∧ i < ρ.length then some (.nx (ρ.set i (some (.list (xs ++ [y]))))) else none
  | _, _, _ => none
def exO (i : Nat) : Option D → Option D → PEnv → Option Out
  | some (.list xs), some (.list ys), ρ => if xs.length + ys.length ≤ 16777216 ∧ i < ρ.length then some (.nx (ρ.set i (some (.list (xs ++ ys))))) else none
  | _, _, _ => none
def plO (i : Nat) (xs : List D) (y : D) (ρ : PEnv) : Option Nat → Option Out
  | some n => if i < ρ.length then some (.nx (ρ.set i (some (.list (xs.set n y))))) else none
  | none => none
def ptO (i : Nat) : Option D → Option D → Option D → PEnv → Option Out
  | some y, some (.list xs), some (.int j), ρ => plO i xs y ρ (ixN xs.length j)
  | _, _, _, _ => none
def pkO (i : Nat) : Option D → Option D → Option D → PEnv → Option Out
  | some y, some (.dict kd), some (.int j), ρ => if kd.length < 16777216 ∧ i < ρ.length then some (.nx (ρ.set i (some (.dict (dPutD kd j y))))) else none
  | _, _, _, _ => none
theorem xVar_a (i : Nat) : xVar i ρ = ρ.getD i none := rfl
theorem xC_a (d : D) : xC d ρ = some d := rfl
theorem xBin_a (g : D → D → Option D) (fa fb : Xp) : xBin g fa fb ρ = b2 g (fa ρ) (fb ρ) := by
  unfold xBin
  cases fa ρ <;> cases fb ρ <;> rfl
theorem xUn_a (g : D → Option D) (fa : Xp) : xUn g fa ρ = (fa ρ).bind g := rfl
theorem tOf_a (f : Xp) : tOf f ρ = (f ρ).bind dB := rfl
theorem tTru_a (f : Xp) : tTru f ρ = (f ρ).bind oTru := rfl
theorem tNotP_a (f : PEnv → Option Bool) : tNotP f ρ = (f ρ).map (!·) := rfl
theorem tAndP_a (f g : PEnv → Option Bool) : tAndP f g ρ = ifO (f ρ) g tno ρ := by
  unfold tAndP
  cases f ρ with
  | none => rfl
  | some b => cases b <;> rfl
theorem tOrP_a (f g : PEnv → Option Bool) : tOrP f g ρ = ifO (f ρ) tyes g ρ := by
  unfold tOrP
  cases f ρ with
  | none => rfl
  | some b => cases b <;> rfl
theorem tyes_a : tyes ρ = some true := rfl
theorem tno_a : tno ρ = some false := rfl
theorem tYesP_a : tYesP ρ = some true := rfl
theorem xNil_a : xNil ρ = some [] := rfl
theorem xCons_a (f : Xp) (fs : XL) : xCons f fs ρ = c2 (f ρ) (fs ρ) := by
  unfold xCons
  cases f ρ <;> cases fs ρ <;> rfl
theorem xTup_a (fs : XL) : xTup fs ρ = (fs ρ).bind mkT := rfl
theorem xLst_a (fs : XL) : xLst fs ρ = (fs ρ).bind mkL := rfl
theorem xAnd_a (fa fb : Xp) : xAnd fa fb ρ = andO (fa ρ) fb ρ := by
  unfold xAnd
  cases fa ρ with
  | none => rfl
  | some d => cases d with
    | bool b => cases b <;> rfl
    | _ => rfl
theorem xOr_a (fa fb : Xp) : xOr fa fb ρ = orO (fa ρ) fb ρ := by
  unfold xOr
  cases fa ρ with
  | none => rfl
  | some d => cases d with
    | bool b => cases b <;> rfl
    | _ => rfl
theorem xIf_a (c : PEnv → Option Bool) (fa fb : Xp) : xIf c fa fb ρ = ifO (c ρ) fa fb ρ := by
  unfold xIf
  cases c ρ with
  | none => rfl
  | some b => cases b <;> rfl
theorem xChain_a (g g' : D → D → Option D) (fa fb fc : Xp) : xChain g g' fa fb fc ρ = chO g g' (fa ρ) (fb ρ) fc ρ := by
  unfold xChain
  cases fa ρ with
  | none => rfl
  | some x => cases fb ρ with
    | none => rfl
    | some y =>
      simp only [Option.bind_some, chO]
      cases g x y with
      | none => rfl
      | some z => cases z with
        | bool b => cases b <;> (simp only [Option.bind_some, dB, chP]; cases fc ρ <;> rfl)
        | _ => rfl
theorem oNo_a : oNo ρ = some none := rfl
theorem oAt_a (f : Xp) : oAt f ρ = atO (f ρ) := by
  unfold oAt
  cases f ρ with
  | none => rfl
  | some d => cases d <;> rfl
theorem xSl_a (f : Xp) (lo hi : XO) : xSl f lo hi ρ = slO (f ρ) (lo ρ) (hi ρ) := by
  unfold xSl
  cases f ρ <;> cases lo ρ <;> cases hi ρ <;> rfl
theorem xCall_a (g : List D → Option D) (fs : XL) : xCall g fs ρ = (fs ρ).bind g := rfl
theorem xSeq_a (f : Xp) : xSeq f ρ = (f ρ).bind seqD := rfl
theorem xIt_a (g : List D → Option (List D)) (fs : XL) : xIt g fs ρ = (fs ρ).bind g := rfl
theorem xLc_a (it : XL) (g : XG) (t : PEnv → Option Bool) (f : Xp) (own : List Nat) : xLc it g t f own ρ = lcO g t f (wipeP ρ own) (it ρ) := by
  unfold xLc
  cases it ρ <;> rfl
theorem gSet_a (i : Nat) (d : D) : gSet i d ρ = if i < ρ.length then some (ρ.set i (some d)) else none := rfl
theorem gTupD_a (n : Nat) (g : List D → PEnv → Option PEnv) (ds : List D) : gTupD n g (.tuple ds) ρ = if ds.length = n then g ds ρ else none := rfl
theorem gsNil_a : gsNil [] ρ = some ρ := rfl
theorem gsCons_a (g : XG) (gs : List D → PEnv → Option PEnv) (d : D) (ds : List D) : gsCons g gs (d :: ds) ρ = gsO gs ds (g d ρ) := by
  show (g d ρ).bind (fun ρ' => gs ds ρ') = _
  cases g d ρ <;> rfl
theorem sNop_a : sNop ρ = some (.nx ρ) := rfl
theorem sBrk_a : sBrk ρ = some (.bk ρ) := rfl
theorem sCnt_a : sCnt ρ = some (.ct ρ) := rfl
theorem sSeq_a (g h : XS) : sSeq g h ρ = sqO (g ρ) h := by
  unfold sSeq
  cases g ρ with
  | none => rfl
  | some o => cases o <;> rfl
theorem sRet_a (f : Xp) : sRet f ρ = (f ρ).map .rt := rfl
theorem sIf_a (c : PEnv → Option Bool) (g h : XS) : sIf c g h ρ = ifO (c ρ) g h ρ := by
  unfold sIf
  cases c ρ with
  | none => rfl
  | some b => cases b <;> rfl
theorem sSet_a (i : Nat) (f : Xp) : sSet i f ρ = stO i (f ρ) ρ := by
  unfold sSet
  cases f ρ <;> rfl
theorem sTgt_a (g : D → PEnv → Option PEnv) (f : Xp) : sTgt g f ρ = tgO g (f ρ) ρ := by
  unfold sTgt
  cases f ρ with
  | none => rfl
  | some d =>
    show (g d ρ).map .nx = nxO (g d ρ)
    cases g d ρ <;> rfl
theorem sAug_a (i : Nat) (g : D → D → Option D) (f : Xp) : sAug i g f ρ = stO i (b2 g (ρ.getD i none) (f ρ)) ρ := by
  unfold sAug
  rw [xVar_a]
  cases ρ.getD i none with
  | none => rfl
  | some x => cases f ρ with
    | none => rfl
    | some y =>
      simp only [Option.bind_some, b2]
      cases g x y <;> rfl
theorem sApp_a (i : Nat) (f : Xp) : sApp i f ρ = apO i (ρ.getD i none) (f ρ) ρ := by
  unfold sApp
  rw [xVar_a]
  cases ρ.getD i none with
  | none => rfl
  | some x => cases f ρ with
    | none => cases x <;> rfl
    | some y => cases x <;> rfl
theorem sExt_a (i : Nat) (f : Xp) : sExt i f ρ = exO i (ρ.getD i none) (f ρ) ρ := by
  unfold sExt
  rw [xVar_a]
  cases ρ.getD i none with
  | none => rfl
  | some x => cases f ρ with
    | none => cases x <;> rfl
    | some y => cases x <;> cases y <;> rfl
theorem sPut_a (i : Nat) (fj f : Xp) : sPut i fj f ρ = ptO i (f ρ) (ρ.getD i none) (fj ρ) ρ := by
  unfold sPut
  rw [xVar_a]
  cases f ρ with
  | none => rfl
  | some y => cases ρ.getD i none with
    | none => rfl
    | some x => cases fj ρ with
      | none => cases x <;> rfl
      | some j => cases x with
        | list xs => cases j with
          | int j =>
            show (ixN xs.length j).bind _ = plO i xs y ρ (ixN xs.length j)
            cases ixN xs.length j <;> rfl
          | _ => rfl
        | _ => rfl
theorem sPutK_a (i : Nat) (fj f : Xp) : sPutK i fj f ρ = pkO i (f ρ) (ρ.getD i none) (fj ρ) ρ := by
  unfold sPutK
  rw [xVar_a]
  cases f ρ with
  | none => rfl
  | some y => cases ρ.getD i none with
    | none => rfl
    | some x => cases fj ρ with
      | none => cases x <;> rfl
      | some j => cases x <;> cases j <;> rfl
theorem pkO_s (i : Nat) (kd : List (D × D)) (y : D) (j : Int) : pkO i (some y) (some (.dict kd)) (some (.int j)) ρ = if kd.length < 16777216 ∧ i < ρ.length then some (.nx (ρ.set i (some (.dict (dPutD kd j y))))) else none := rfl
theorem xLc2_a (it : XL) (g : XG) (t : PEnv → Option Bool) (it1 : XL) (g1 : XG) (t1 : PEnv → Option Bool) (f : Xp) (own vs1 : List Nat) (ds : List D) (h : it ρ = some ds) : xLc2 it g t it1 g1 t1 f own vs1 ρ = (lc2L g t it1 g1 t1 f vs1 (wipeP ρ own) ds).bind fun ys => if ys.length ≤ 16777216 then some (.list ys) else none := by
  unfold xLc2
  rw [h]
  rfl
theorem sFor_a (it : XL) (g : D → PEnv → Option PEnv) (b : XS) : sFor it g b ρ = forO g b ρ (it ρ) := by
  unfold sFor
  cases it ρ <;> rfl
theorem sWhile_a (c : PEnv → Option Bool) (b : XS) : sWhile c b ρ = whileF c b fuelN ρ := rfl
theorem sPar_a (is : List Nat) (fs : XL) : sPar is fs ρ = paO is (fs ρ) ρ := by
  unfold sPar
  cases fs ρ <;> rfl
theorem runD_a (n N : Nat) (g : XS) (ds : List D) : runD n N g ds = endO (g (ds.map some ++ List.replicate (N - n) none)) := by
  unfold runD
  cases g (ds.map some ++ List.replicate (N - n) none) with
  | none => rfl
  | some o => cases o <;> rfl
theorem b2_s (g : D → D → Option D) (x y : D) : b2 g (some x) (some y) = g x y := rfl
theorem c2_s (x : D) (xs : List D) : c2 (some x) (some xs) = some (x :: xs) := rfl
theorem sqO_nx (h : XS) : sqO (some (.nx ρ)) h = h ρ := rfl
theorem sqO_rt (d : D) (h : XS) : sqO (some (.rt d)) h = some (.rt d) := rfl
theorem sqO_bk (h : XS) : sqO (some (.bk ρ)) h = some (.bk ρ) := rfl
theorem sqO_ct (h : XS) : sqO (some (.ct ρ)) h = some (.ct ρ) := rfl
section
variable {α : Type}
theorem ifO_t (g h : PEnv → Option α) : ifO (some true) g h ρ = g ρ := rfl
theorem ifO_f (g h : PEnv → Option α) : ifO (some false) g h ρ = h ρ := rfl
end
theorem stO_s (i : Nat) (d : D) : stO i (some d) ρ = if i < ρ.length then some (.nx (ρ.set i (some d))) else none := rfl
theorem endO_nx  : endO (some (.nx ρ)) = some .none := rfl
theorem endO_rt (d : D) : endO (some (.rt d)) = some d := rfl
theorem andO_t (f : Xp) : andO (some (.bool true)) f ρ = f ρ := rfl
theorem andO_f (f : Xp) : andO (some (.bool false)) f ρ = some (.bool false) := rfl
theorem orO_t (f : Xp) : orO (some (.bool true)) f ρ = some (.bool true) := rfl
theorem orO_f (f : Xp) : orO (some (.bool false)) f ρ = f ρ := rfl
theorem chO_s (g g' : D → D → Option D) (x y : D) (f : Xp) : chO g g' (some x) (some y) f ρ = chP g' y f ρ (g x y) := rfl
theorem chP_t (g' : D → D → Option D) (y : D) (f : Xp) : chP g' y f ρ (some (.bool true)) = b2 g' (some y) (f ρ) := rfl
theorem chP_f (g' : D → D → Option D) (y : D) (f : Xp) : chP g' y f ρ (some (.bool false)) = some (.bool false) := rfl
theorem slO_s (x : D) (i j : Option Int) : slO (some x) (some i) (some j) = oSl x i j := rfl
theorem atO_i (i : Int) : atO (some (.int i)) = some (some i) := rfl
theorem lcO_s (g : XG) (t : PEnv → Option Bool) (f : Xp) (ds : List D) : lcO g t f ρ (some ds) = (lcL g t f ρ ds).map .list := rfl
theorem forO_s (g : XG) (b : XS) (ds : List D) : forO g b ρ (some ds) = forL g b ds ρ := rfl
theorem gsO_s (gs : List D → PEnv → Option PEnv) (ds : List D) : gsO gs ds (some ρ) = gs ds ρ := rfl
theorem nxO_s  : nxO (some ρ) = some (.nx ρ) := rfl
theorem tgO_s (g : XG) (d : D) : tgO g (some d) ρ = nxO (g d ρ) := rfl
theorem paO_s (is : List Nat) (ds : List D) : paO is (some ds) ρ = if is.all (fun i => decide (i < ρ.length)) && decide (ds.length = is.length) then some (.nx (setAll is ds ρ)) else none := rfl
theorem apO_s (i : Nat) (xs : List D) (y : D) : apO i (some (.list xs)) (some y) ρ = if xs.length < 16777216 ∧ i < ρ.length then some (.nx (ρ.set i (some (.list (xs ++ [y]))))) else none := rfl
theorem exO_s (i : Nat) (xs ys : List D) : exO i (some (.list xs)) (some (.list ys)) ρ = if xs.length + ys.length ≤ 16777216 ∧ i < ρ.length then some (.nx (ρ.set i (some (.list (xs ++ ys))))) else none := rfl
theorem plO_s (i : Nat) (xs : List D) (y : D) (n : Nat) : plO i xs y ρ (some n) = if i < ρ.length then some (.nx (ρ.set i (some (.list (xs.set n y))))) else none := rfl
theorem ptO_s (i : Nat) (xs : List D) (y : D) (j : Int) : ptO i (some y) (some (.list xs)) (some (.int j)) ρ = plO i xs y ρ (ixN xs.length j) := rfl
section
variable (a b : Int) (t : Bool) (xs ys : List D) (x y z : D)
theorem dB_b  : dB (.bool t) = some t := rfl
theorem tru_b  : oTru (.bool t) = some t := rfl
theorem tru_n  : oTru .none = some false := rfl
theorem tru_i  : oTru (.int a) = some (a != 0) := rfl
theorem tru_l  : oTru (.list xs) = some (!xs.isEmpty) := rfl
theorem tru_t  : oTru (.tuple xs) = some (!xs.isEmpty) := rfl
theorem is_n  : oIs x .none = some (.bool (isNone x)) := rfl
theorem isn_n  : oIsNot x .none = some (.bool (!isNone x)) := rfl
theorem nn_n  : isNone .none = true := rfl
theorem nn_i  : isNone (.int a) = false := rfl
theorem nn_b  : isNone (.bool t) = false := rfl
theorem nn_t  : isNone (.tuple xs) = false := rfl
theorem nn_l  : isNone (.list xs) = false := rfl
theorem add_ii  : oAdd (.int a) (.int b) = some (.int (a + b)) := rfl
theorem add'_ii  : oAdd' (.int a) (.int b) = some (.int (a + b)) := rfl
theorem sub_ii  : oSub (.int a) (.int b) = some (.int (a - b)) := rfl
theorem neg_i  : oNeg (.int a) = some (.int (-a)) := rfl
theorem lt_ii  : oLt (.int a) (.int b) = some (.bool (decide (a < b))) := rfl
theorem le_ii  : oLe (.int a) (.int b) = some (.bool (decide (a ≤ b))) := rfl
theorem gt_ii  : oGt (.int a) (.int b) = some (.bool (decide (b < a))) := rfl
theorem ge_ii  : oGe (.int a) (.int b) = some (.bool (decide (b ≤ a))) := rfl
theorem ix_l  : oIx (.list xs) (.int a) = atI xs a := rfl
theorem ix_t  : oIx (.tuple xs) (.int a) = atI xs a := rfl
theorem ix_s  : oIx (scr xs) (.int a) = atI xs a := rfl
theorem at0 : atI (x :: xs) 0 = some x := by
  unfold atI ixN
  simp
theorem at1 : atI (x :: y :: xs) 1 = some y := by
  unfold atI ixN
  rw [if_pos (by decide), if_pos (by simp only [List.length_cons]; omega)]
  rfl
theorem at2 : atI (x :: y :: z :: xs) 2 = some z := by
  unfold atI ixN
  rw [if_pos (by decide), if_pos (by simp only [List.length_cons]; omega)]
  rfl
theorem sl_l (lo hi : Option Int) : oSl (.list xs) lo hi = some (.list (cutD xs lo hi)) := rfl
theorem sl_t (lo hi : Option Int) : oSl (.tuple xs) lo hi = some (.tuple (cutD xs lo hi)) := rfl
theorem len_l  : bLen [.list xs] = some (.int xs.length) := rfl
theorem len_t  : bLen [.tuple xs] = some (.int xs.length) := rfl
theorem len_s  : bLen [scr xs] = some (.int xs.length) := rfl
theorem abs_i  : bAbs [.int a] = some (.int (if a < 0 then -a else a)) := rfl
theorem int_i  : bInt [.int a] = some (.int a) := rfl
theorem int_b  : bInt [.bool t] = some (.int (if t then 1 else 0)) := rfl
theorem max_ii  : bMax2 [.int a, .int b] = some (.int (if b > a then b else a)) := rfl
theorem min_ii  : bMin2 [.int a, .int b] = some (.int (if b < a then b else a)) := rfl
theorem tup_s  : bTuple [x] = (seqD x).map .tuple := rfl
theorem lst_s  : bList [x] = (seqD x).map .list := rfl
theorem seq_l  : seqD (.list xs) = some xs := rfl
theorem seq_t  : seqD (.tuple xs) = some xs := rfl
theorem sum_s  : bSum [x] = (seqD x).bind fun xs => (asInts xs).map fun ns => .int ns.sum := rfl
theorem wipe_n (ρ : PEnv) : wipeP ρ [] = ρ := rfl
theorem wipe_c (ρ : PEnv) (v : Nat) (vs : List Nat) : wipeP ρ (v :: vs) = (wipeP ρ vs).set v none := rfl
variable {a b : Int} {xs ys : List D}
theorem mul_ii (h : mulOk a b = true) : oMul' (.int a) (.int b) = some (.int (a * b)) := if_pos h
theorem fdiv_ii (h : divOk b = true) : oFdiv (.int a) (.int b) = some (.int (a.fdiv b)) := if_pos h
theorem mod_ii (h : b ≠ 0) : oMod (.int a) (.int b) = some (.int (a.fmod b)) := if_pos h
theorem add_ll (h : xs.length + ys.length ≤ 16777216) : oAdd (.list xs) (.list ys) = some (.list (xs ++ ys)) := if_pos h
theorem add_tt (h : xs.length + ys.length ≤ 16777216) : oAdd (.tuple xs) (.tuple ys) = some (.tuple (xs ++ ys)) := if_pos h
end
end
end Pm


/-! the walk of dockheld_k28_whole_soundings_log, printed by gen.py -/
namespace K28
open PySem PySem.Spec PyProof.Rows L2 Pm
def topS (i : Nat) : Stmt := PySem.Challenge.pw_dockheld_k28_whole_soundings_log.main.body.getD i (.Pass ⟨0, 0, 0, 0⟩)
section
variable {P : Program} {w : World} {K : PySem.W.Frag} {mg : Str → Option Value} {base : Heap}
/-! ### divisor -/
abbrev s_divisor : Stmt := topS 1
theorem sc_divisor : FnScope ["first", "second"] ["first", "second"] (defScope s_divisor) := ⟨rfl, rfl, rfl, by decide +kernel, rfl, by decide +kernel, by decide +kernel⟩
def l1_divisor : XS :=
  (sSeq (sPar [0, 1] (xCons (xVar 1) (xCons (xBin oMod (xVar 0) (xVar 1)) xNil)))
  sNop)
def g_divisor : XS :=
  (sSeq (sPar [0, 1] (xCons (xCall bAbs (xCons (xVar 0) xNil)) (xCons (xCall bAbs (xCons (xVar 1) xNil)) xNil)))
  (sSeq (sWhile (tOf (xBin oGt (xVar 1) (xC (.int 0)))) l1_divisor)
  (sRet (xVar 0))))
def d_divisor : List D → Option D := runD 2 2 g_divisor
theorem ok_divisor {f : Addr} {fd : FuncData} (F : FnP K "divisor" s_divisor f fd) (b_abs : mg "abs" = none) : FnOk P w K mg base CX0 1 f fd ["first", "second"] (spD K 2 d_divisor) := by
  have nd := sc_divisor.nd
  refine fnp_ok (k := 0) (O' := []) F sc_divisor fun cdv A outer s H E hr => ?_
  exact (by exact ss_cons (by exact ss_par 0 1 nd (by exact sam_cons (by exact se_callB (st := false) cb_abs b_abs (by exact sa_cons (by exact se_var 0) sa_nil)) (by exact sam_cons (by exact se_callB (st := false) cb_abs b_abs (by exact sa_cons (by exact se_var 1) sa_nil)) sam_nil))) (by exact ss_cons (by exact SS.weak (O1 := [1]) (by exact ss_while (O' := [1]) (by exact st_cmp op_gtD (by exact se_varW 1) se_int) (by exact ss_cons (by exact SS.weak (O1 := []) (by exact ss_par 0 1 nd (by exact sam_cons (by exact se_var 1) (by exact sam_cons (by exact se_op op_modD (by exact se_var 0) (by exact se_var 1)) sam_nil)))) ss_nil))) (by exact ss_last (by exact ss_ret (by exact se_var 0)))))
/-! ### lowest -/
abbrev s_lowest : Stmt := topS 2
theorem sc_lowest : FnScope ["a", "b", "common"] ["a", "b"] (defScope s_lowest) := ⟨rfl, rfl, rfl, by decide +kernel, rfl, by decide +kernel, by decide +kernel⟩
def g_lowest : XS :=
  (sSeq (sSet 2 (xIf (tOf (xBin oGt (xVar 1) (xC (.int 0)))) (xCall (fun ds => if ds.length = 2 then (d_divisor) ds else none) (xCons (xVar 0) (xCons (xVar 1) xNil))) (xUn oNeg (xCall (fun ds => if ds.length = 2 then (d_divisor) ds else none) (xCons (xVar 0) (xCons (xVar 1) xNil))))))
  (sRet (xTup (xCons (xBin oFdiv (xVar 0) (xVar 2)) (xCons (xBin oFdiv (xVar 1) (xVar 2)) xNil)))))
def d_lowest : List D → Option D := runD 2 3 g_lowest
theorem ok_lowest {f : Addr} {fd : FuncData} (F : FnP K "lowest" s_lowest f fd) (D_divisor : Def P w K mg base 1 "divisor" ["first", "second"] (d_divisor)) : FnOk P w K mg base CX0 2 f fd ["a", "b"] (spD K 2 d_lowest) := by
  have nd := sc_lowest.nd
  refine fnp_ok (k := 1) (O' := []) F sc_lowest fun cdv A outer s H E hr => ?_
  exact (by exact ss_cons (by exact ss_setS 2 nd (by exact se_if (by exact st_cmp op_gtD (by exact se_var 1) se_int) (by exact se_callD D_divisor hr (by exact sa_cons (by exact se_var 0) (by exact sa_cons (by exact se_var 1) sa_nil))) (by exact SE.toS (by exact se_un un_negD (by exact se_callD D_divisor hr (by exact sa_cons (by exact se_var 0) (by exact sa_cons (by exact se_var 1) sa_nil))))))) (by exact ss_last (by exact ss_ret (by exact se_tup (by exact sa_cons (by exact se_op op_fdivD (by exact se_var 0) (by exact se_var 2)) (by exact sa_cons (by exact se_op op_fdivD (by exact se_var 1) (by exact se_var 2)) sa_nil))))))
/-! ### plus -/
abbrev s_plus : Stmt := topS 3
theorem sc_plus : FnScope ["first", "second"] ["first", "second"] (defScope s_plus) := ⟨rfl, rfl, rfl, by decide +kernel, rfl, by decide +kernel, by decide +kernel⟩
def g_plus : XS :=
  (sRet (xCall (fun ds => if ds.length = 2 then (d_lowest) ds else none) (xCons (xBin oAdd (xBin oMul' (xBin oIx (xVar 0) (xC (.int 0))) (xBin oIx (xVar 1) (xC (.int 1)))) (xBin oMul' (xBin oIx (xVar 1) (xC (.int 0))) (xBin oIx (xVar 0) (xC (.int 1))))) (xCons (xBin oMul' (xBin oIx (xVar 0) (xC (.int 1))) (xBin oIx (xVar 1) (xC (.int 1)))) xNil))))
def d_plus : List D → Option D := runD 2 2 g_plus
theorem ok_plus {f : Addr} {fd : FuncData} (F : FnP K "plus" s_plus f fd) (D_lowest : Def P w K mg base 2 "lowest" ["a", "b"] (d_lowest)) : FnOk P w K mg base CX0 3 f fd ["first", "second"] (spD K 2 d_plus) := by
  have nd := sc_plus.nd
  refine fnp_ok (k := 2) (O' := []) F sc_plus fun cdv A outer s H E hr => ?_
  exact (by exact ss_last (by exact ss_ret (by exact se_callD D_lowest hr (by exact sa_cons (by exact se_op op_addD (by exact se_op op_mulD' (by exact se_ix (by exact se_var 0) se_int) (by exact se_ix (by exact se_var 1) se_int)) (by exact se_op op_mulD' (by exact se_ix (by exact se_var 1) se_int) (by exact se_ix (by exact se_var 0) se_int))) (by exact sa_cons (by exact se_op op_mulD' (by exact se_ix (by exact se_var 0) se_int) (by exact se_ix (by exact se_var 1) se_int)) sa_nil)))))
/-! ### minus -/
abbrev s_minus : Stmt := topS 4
theorem sc_minus : FnScope ["first", "second"] ["first", "second"] (defScope s_minus) := ⟨rfl, rfl, rfl, by decide +kernel, rfl, by decide +kernel, by decide +kernel⟩
def g_minus : XS :=
  (sRet (xCall (fun ds => if ds.length = 2 then (d_lowest) ds else none) (xCons (xBin oSub (xBin oMul' (xBin oIx (xVar 0) (xC (.int 0))) (xBin oIx (xVar 1) (xC (.int 1)))) (xBin oMul' (xBin oIx (xVar 1) (xC (.int 0))) (xBin oIx (xVar 0) (xC (.int 1))))) (xCons (xBin oMul' (xBin oIx (xVar 0) (xC (.int 1))) (xBin oIx (xVar 1) (xC (.int 1)))) xNil))))
def d_minus : List D → Option D := runD 2 2 g_minus
theorem ok_minus {f : Addr} {fd : FuncData} (F : FnP K "minus" s_minus f fd) (D_lowest : Def P w K mg base 2 "lowest" ["a", "b"] (d_lowest)) : FnOk P w K mg base CX0 3 f fd ["first", "second"] (spD K 2 d_minus) := by
  have nd := sc_minus.nd
  refine fnp_ok (k := 2) (O' := []) F sc_minus fun cdv A outer s H E hr => ?_
  exact (by exact ss_last (by exact ss_ret (by exact se_callD D_lowest hr (by exact sa_cons (by exact se_op op_subD (by exact se_op op_mulD' (by exact se_ix (by exact se_var 0) se_int) (by exact se_ix (by exact se_var 1) se_int)) (by exact se_op op_mulD' (by exact se_ix (by exact se_var 1) se_int) (by exact se_ix (by exact se_var 0) se_int))) (by exact sa_cons (by exact se_op op_mulD' (by exact se_ix (by exact se_var 0) se_int) (by exact se_ix (by exact se_var 1) se_int)) sa_nil)))))
/-! ### times -/
abbrev s_times : Stmt := topS 5
theorem sc_times : FnScope ["first", "second"] ["first", "second"] (defScope s_times) := ⟨rfl, rfl, rfl, by decide +kernel, rfl, by decide +kernel, by decide +kernel⟩
def g_times : XS :=
  (sRet (xCall (fun ds => if ds.length = 2 then (d_lowest) ds else none) (xCons (xBin oMul' (xBin oIx (xVar 0) (xC (.int 0))) (xBin oIx (xVar 1) (xC (.int 0)))) (xCons (xBin oMul' (xBin oIx (xVar 0) (xC (.int 1))) (xBin oIx (xVar 1) (xC (.int 1)))) xNil))))
def d_times : List D → Option D := runD 2 2 g_times
theorem ok_times {f : Addr} {fd : FuncData} (F : FnP K "times" s_times f fd) (D_lowest : Def P w K mg base 2 "lowest" ["a", "b"] (d_lowest)) : FnOk P w K mg base CX0 3 f fd ["first", "second"] (spD K 2 d_times) := by
  have nd := sc_times.nd
  refine fnp_ok (k := 2) (O' := []) F sc_times fun cdv A outer s H E hr => ?_
  exact (by exact ss_last (by exact ss_ret (by exact se_callD D_lowest hr (by exact sa_cons (by exact se_op op_mulD' (by exact se_ix (by exact se_var 0) se_int) (by exact se_ix (by exact se_var 1) se_int)) (by exact sa_cons (by exact se_op op_mulD' (by exact se_ix (by exact se_var 0) se_int) (by exact se_ix (by exact se_var 1) se_int)) sa_nil)))))
/-! ### parted -/
abbrev s_parted : Stmt := topS 6
theorem sc_parted : FnScope ["first", "second"] ["first", "second"] (defScope s_parted) := ⟨rfl, rfl, rfl, by decide +kernel, rfl, by decide +kernel, by decide +kernel⟩
def g_parted : XS :=
  (sRet (xCall (fun ds => if ds.length = 2 then (d_lowest) ds else none) (xCons (xBin oMul' (xBin oIx (xVar 0) (xC (.int 0))) (xBin oIx (xVar 1) (xC (.int 1)))) (xCons (xBin oMul' (xBin oIx (xVar 0) (xC (.int 1))) (xBin oIx (xVar 1) (xC (.int 0)))) xNil))))
def d_parted : List D → Option D := runD 2 2 g_parted
theorem ok_parted {f : Addr} {fd : FuncData} (F : FnP K "parted" s_parted f fd) (D_lowest : Def P w K mg base 2 "lowest" ["a", "b"] (d_lowest)) : FnOk P w K mg base CX0 3 f fd ["first", "second"] (spD K 2 d_parted) := by
  have nd := sc_parted.nd
  refine fnp_ok (k := 2) (O' := []) F sc_parted fun cdv A outer s H E hr => ?_
  exact (by exact ss_last (by exact ss_ret (by exact se_callD D_lowest hr (by exact sa_cons (by exact se_op op_mulD' (by exact se_ix (by exact se_var 0) se_int) (by exact se_ix (by exact se_var 1) se_int)) (by exact sa_cons (by exact se_op op_mulD' (by exact se_ix (by exact se_var 0) se_int) (by exact se_ix (by exact se_var 1) se_int)) sa_nil)))))
/-! ### is_less -/
abbrev s_is_less : Stmt := topS 7
theorem sc_is_less : FnScope ["first", "second"] ["first", "second"] (defScope s_is_less) := ⟨rfl, rfl, rfl, by decide +kernel, rfl, by decide +kernel, by decide +kernel⟩
def g_is_less : XS :=
  (sRet (xBin oLt (xBin oMul' (xBin oIx (xVar 0) (xC (.int 0))) (xBin oIx (xVar 1) (xC (.int 1)))) (xBin oMul' (xBin oIx (xVar 1) (xC (.int 0))) (xBin oIx (xVar 0) (xC (.int 1))))))
def d_is_less : List D → Option D := runD 2 2 g_is_less
theorem ok_is_less {f : Addr} {fd : FuncData} (F : FnP K "is_less" s_is_less f fd) : FnOk P w K mg base CX0 1 f fd ["first", "second"] (spD K 2 d_is_less) := by
  have nd := sc_is_less.nd
  refine fnp_ok (k := 0) (O' := []) F sc_is_less fun cdv A outer s H E hr => ?_
  exact (by exact ss_last (by exact ss_ret (by exact se_cmp op_ltD (by exact se_op op_mulD' (by exact se_ix (by exact se_var 0) se_int) (by exact se_ix (by exact se_var 1) se_int)) (by exact se_op op_mulD' (by exact se_ix (by exact se_var 1) se_int) (by exact se_ix (by exact se_var 0) se_int)))))
/-! ### over -/
abbrev s_over : Stmt := topS 9
theorem sc_over : FnScope ["first", "second"] ["first", "second"] (defScope s_over) := ⟨rfl, rfl, rfl, by decide +kernel, rfl, by decide +kernel, by decide +kernel⟩
def g_over : XS :=
  (sRet (xCall (fun ds => if ds.length = 2 then (d_parted) ds else none) (xCons (xVar 0) (xCons (xVar 1) xNil))))
def d_over : List D → Option D := runD 2 2 g_over
theorem ok_over {f : Addr} {fd : FuncData} (F : FnP K "over" s_over f fd) (D_parted : Def P w K mg base 3 "parted" ["first", "second"] (d_parted)) : FnOk P w K mg base CX0 4 f fd ["first", "second"] (spD K 2 d_over) := by
  have nd := sc_over.nd
  refine fnp_ok (k := 3) (O' := []) F sc_over fun cdv A outer s H E hr => ?_
  exact (by exact ss_last (by exact ss_ret (by exact se_callD D_parted hr (by exact sa_cons (by exact se_var 0) (by exact sa_cons (by exact se_var 1) sa_nil)))))
/-! ### whole -/
abbrev s_whole : Stmt := topS 10
theorem sc_whole : FnScope ["number"] ["number"] (defScope s_whole) := ⟨rfl, rfl, rfl, by decide +kernel, rfl, by decide +kernel, by decide +kernel⟩
def g_whole : XS :=
  (sRet (xTup (xCons (xVar 0) (xCons (xC (.int 1)) xNil))))
def d_whole : List D → Option D := runD 1 1 g_whole
theorem ok_whole {f : Addr} {fd : FuncData} (F : FnP K "whole" s_whole f fd) : FnOk P w K mg base CX0 1 f fd ["number"] (spD K 1 d_whole) := by
  have nd := sc_whole.nd
  refine fnp_ok (k := 0) (O' := []) F sc_whole fun cdv A outer s H E hr => ?_
  exact (by exact ss_last (by exact ss_ret (by exact se_tup (by exact sa_cons (by exact se_var 0) (by exact sa_cons se_int sa_nil)))))
/-! ### bounds_at -/
abbrev s_bounds_at : Stmt := topS 12
theorem sc_bounds_at : FnScope ["soundings", "rate", "e", "low", "high", "hour", "depth", "here", "less", "more"] ["soundings", "rate", "e"] (defScope s_bounds_at) := ⟨rfl, rfl, rfl, by decide +kernel, rfl, by decide +kernel, by decide +kernel⟩
def l1_bounds_at : XS :=
  (sSeq (sSet 7 (xCall (fun ds => if ds.length = 2 then (d_minus) ds else none) (xCons (xCall (fun ds => if ds.length = 1 then (d_whole) ds else none) (xCons (xVar 6) xNil)) (xCons (xCall (fun ds => if ds.length = 2 then (d_times) ds else none) (xCons (xVar 1) (xCons (xCall (fun ds => if ds.length = 1 then (d_whole) ds else none) (xCons (xVar 5) xNil)) xNil))) xNil))))
  (sSeq (sPar [8, 9] (xCons (xCall (fun ds => if ds.length = 2 then (d_minus) ds else none) (xCons (xVar 7) (xCons (xCall (fun ds => if ds.length = 1 then (d_whole) ds else none) (xCons (xVar 2) xNil)) xNil))) (xCons (xCall (fun ds => if ds.length = 2 then (d_plus) ds else none) (xCons (xVar 7) (xCons (xCall (fun ds => if ds.length = 1 then (d_whole) ds else none) (xCons (xVar 2) xNil)) xNil))) xNil)))
  (sSeq (sSet 3 (xIf (tOrP (tOf (xBin oIs (xVar 3) (xC .none))) (tTru (xCall (fun ds => if ds.length = 2 then (d_is_less) ds else none) (xCons (xVar 3) (xCons (xVar 8) xNil))))) (xVar 8) (xVar 3)))
  (sSeq (sSet 4 (xIf (tOrP (tOf (xBin oIs (xVar 4) (xC .none))) (tTru (xCall (fun ds => if ds.length = 2 then (d_is_less) ds else none) (xCons (xVar 9) (xCons (xVar 4) xNil))))) (xVar 9) (xVar 4)))
  sNop))))
def g_bounds_at : XS :=
  (sSeq (sTgt (gTupD 2 (gsCons (gSet 3) (gsCons (gSet 4) gsNil))) (xTup (xCons (xC .none) (xCons (xC .none) xNil))))
  (sSeq (sFor (xSeq (xVar 0)) (gTupD 2 (gsCons (gSet 5) (gsCons (gSet 6) gsNil))) l1_bounds_at)
  (sRet (xTup (xCons (xVar 3) (xCons (xVar 4) xNil))))))
def d_bounds_at : List D → Option D := runD 3 10 g_bounds_at
theorem ok_bounds_at {f : Addr} {fd : FuncData} (F : FnP K "bounds_at" s_bounds_at f fd) (D_plus : Def P w K mg base 3 "plus" ["first", "second"] (d_plus)) (D_minus : Def P w K mg base 3 "minus" ["first", "second"] (d_minus)) (D_times : Def P w K mg base 3 "times" ["first", "second"] (d_times)) (D_is_less : Def P w K mg base 1 "is_less" ["first", "second"] (d_is_less)) (D_whole : Def P w K mg base 1 "whole" ["number"] (d_whole)) : FnOk P w K mg base CX0 4 f fd ["soundings", "rate", "e"] (spD K 3 d_bounds_at) := by
  have nd := sc_bounds_at.nd
  refine fnp_ok (k := 3) (O' := []) F sc_bounds_at fun cdv A outer s H E hr => ?_
  exact (by exact ss_cons (by exact ss_tgt (by exact se_tup (by exact sa_cons se_non (by exact sa_cons se_non sa_nil))) (by exact sg_tup rfl (by exact sgs_cons (by exact sg_name 3 nd) (by exact sgs_cons (by exact sg_name 4 nd) sgs_nil)))) (by exact ss_cons (by exact ss_for (O' := []) (by exact si_seq (m := .s) (by exact se_var 0)) (by exact sg_tup rfl (by exact sgs_cons (by exact sg_name 5 nd) (by exact sgs_cons (by exact sg_name 6 nd) sgs_nil))) (by exact ss_cons (by exact ss_setS 7 nd (by exact se_callD D_minus hr (by exact sa_cons (by exact se_callD D_whole hr (by exact sa_cons (by exact se_var 6) sa_nil)) (by exact sa_cons (by exact se_callD D_times hr (by exact sa_cons (by exact se_var 1) (by exact sa_cons (by exact se_callD D_whole hr (by exact sa_cons (by exact se_var 5) sa_nil)) sa_nil))) sa_nil)))) (by exact ss_cons (by exact ss_par 8 9 nd (by exact sam_cons (by exact se_callD D_minus hr (by exact sa_cons (by exact se_var 7) (by exact sa_cons (by exact se_callD D_whole hr (by exact sa_cons (by exact se_var 2) sa_nil)) sa_nil))) (by exact sam_cons (by exact se_callD D_plus hr (by exact sa_cons (by exact se_var 7) (by exact sa_cons (by exact se_callD D_whole hr (by exact sa_cons (by exact se_var 2) sa_nil)) sa_nil))) sam_nil))) (by exact ss_cons (by exact ss_setS 3 nd (by exact se_if (by exact SW.st (by exact sw_or (by exact st_cmp op_isD (by exact se_var 3) se_non) (by exact sw_or1 (by exact st_val (by exact se_callD D_is_less hr (by exact sa_cons (by exact se_var 3) (by exact sa_cons (by exact se_var 8) sa_nil))))))) (by exact se_var 8) (by exact se_var 3))) (by exact ss_cons (by exact ss_setS 4 nd (by exact se_if (by exact SW.st (by exact sw_or (by exact st_cmp op_isD (by exact se_var 4) se_non) (by exact sw_or1 (by exact st_val (by exact se_callD D_is_less hr (by exact sa_cons (by exact se_var 9) (by exact sa_cons (by exact se_var 4) sa_nil))))))) (by exact se_var 9) (by exact se_var 4))) ss_nil))))) (by exact ss_last (by exact ss_ret (by exact se_tup (by exact sa_cons (by exact se_var 3) (by exact sa_cons (by exact se_var 4) sa_nil)))))))
/-! ### fits_line -/
abbrev s_fits_line : Stmt := topS 13
theorem sc_fits_line : FnScope ["soundings", "e", "rate", "depth", "low", "high"] ["soundings", "e", "rate", "depth"] (defScope s_fits_line) := ⟨rfl, rfl, rfl, by decide +kernel, rfl, by decide +kernel, by decide +kernel⟩
def g_fits_line : XS :=
  (sSeq (sTgt (gTupD 2 (gsCons (gSet 4) (gsCons (gSet 5) gsNil))) (xCall (fun ds => if ds.length = 3 then (d_bounds_at) ds else none) (xCons (xVar 0) (xCons (xVar 2) (xCons (xVar 1) xNil)))))
  (sRet (xAnd (xUn oNot (xCall (fun ds => if ds.length = 2 then (d_is_less) ds else none) (xCons (xVar 3) (xCons (xVar 4) xNil)))) (xUn oNot (xCall (fun ds => if ds.length = 2 then (d_is_less) ds else none) (xCons (xVar 5) (xCons (xVar 3) xNil)))))))
def d_fits_line : List D → Option D := runD 4 6 g_fits_line
theorem ok_fits_line {f : Addr} {fd : FuncData} (F : FnP K "fits_line" s_fits_line f fd) (D_is_less : Def P w K mg base 1 "is_less" ["first", "second"] (d_is_less)) (D_bounds_at : Def P w K mg base 4 "bounds_at" ["soundings", "rate", "e"] (d_bounds_at)) : FnOk P w K mg base CX0 5 f fd ["soundings", "e", "rate", "depth"] (spD K 4 d_fits_line) := by
  have nd := sc_fits_line.nd
  refine fnp_ok (k := 4) (O' := []) F sc_fits_line fun cdv A outer s H E hr => ?_
  exact (by exact ss_cons (by exact ss_tgt (by exact se_callD D_bounds_at hr (by exact sa_cons (by exact se_var 0) (by exact sa_cons (by exact se_var 2) (by exact sa_cons (by exact se_var 1) sa_nil)))) (by exact sg_tup rfl (by exact sgs_cons (by exact sg_name 4 nd) (by exact sgs_cons (by exact sg_name 5 nd) sgs_nil)))) (by exact ss_last (by exact ss_ret (by exact se_and (by exact se_not (m := .f) (by exact se_callD D_is_less hr (by exact sa_cons (by exact se_var 3) (by exact sa_cons (by exact se_var 4) sa_nil)))) (by exact se_bone (by exact se_not (m := .f) (by exact se_callD D_is_less hr (by exact sa_cons (by exact se_var 5) (by exact sa_cons (by exact se_var 3) sa_nil)))))))))
/-! ### pair_rates -/
abbrev s_pair_rates : Stmt := topS 14
theorem sc_pair_rates : FnScope ["soundings", "e", "low", "high", "place", "hour", "depth", "later", "deeper", "less", "more"] ["soundings", "e"] (defScope s_pair_rates) := ⟨rfl, rfl, rfl, by decide +kernel, rfl, by decide +kernel, by decide +kernel⟩
def l1_pair_rates : XS :=
  (sSeq (sPar [9, 10] (xCons (xCall (fun ds => if ds.length = 2 then (d_lowest) ds else none) (xCons (xBin oSub (xBin oSub (xVar 8) (xVar 6)) (xBin oMul' (xC (.int 2)) (xVar 1))) (xCons (xBin oSub (xVar 7) (xVar 5)) xNil))) (xCons (xCall (fun ds => if ds.length = 2 then (d_lowest) ds else none) (xCons (xBin oAdd (xBin oSub (xVar 8) (xVar 6)) (xBin oMul' (xC (.int 2)) (xVar 1))) (xCons (xBin oSub (xVar 7) (xVar 5)) xNil))) xNil)))
  (sSeq (sSet 2 (xIf (tOrP (tOf (xBin oIs (xVar 2) (xC .none))) (tTru (xCall (fun ds => if ds.length = 2 then (d_is_less) ds else none) (xCons (xVar 2) (xCons (xVar 9) xNil))))) (xVar 9) (xVar 2)))
  (sSeq (sSet 3 (xIf (tOrP (tOf (xBin oIs (xVar 3) (xC .none))) (tTru (xCall (fun ds => if ds.length = 2 then (d_is_less) ds else none) (xCons (xVar 10) (xCons (xVar 3) xNil))))) (xVar 10) (xVar 3)))
  sNop)))
def l2_pair_rates : XS :=
  (sSeq (sFor (xSeq (xSl (xVar 0) (oAt (xBin oAdd (xVar 4) (xC (.int 1)))) oNo)) (gTupD 2 (gsCons (gSet 7) (gsCons (gSet 8) gsNil))) l1_pair_rates)
  sNop)
def g_pair_rates : XS :=
  (sSeq (sTgt (gTupD 2 (gsCons (gSet 2) (gsCons (gSet 3) gsNil))) (xTup (xCons (xC .none) (xCons (xC .none) xNil))))
  (sSeq (sFor (xIt oEnum (xCons (xVar 0) xNil)) (gTupD 2 (gsCons (gSet 4) (gsCons (gTupD 2 (gsCons (gSet 5) (gsCons (gSet 6) gsNil))) gsNil))) l2_pair_rates)
  (sRet (xTup (xCons (xVar 2) (xCons (xVar 3) xNil))))))
def d_pair_rates : List D → Option D := runD 2 11 g_pair_rates
theorem ok_pair_rates {f : Addr} {fd : FuncData} (F : FnP K "pair_rates" s_pair_rates f fd) (D_lowest : Def P w K mg base 2 "lowest" ["a", "b"] (d_lowest)) (D_is_less : Def P w K mg base 1 "is_less" ["first", "second"] (d_is_less)) (b_enumerate : mg "enumerate" = none) : FnOk P w K mg base CX0 3 f fd ["soundings", "e"] (spD K 2 d_pair_rates) := by
  have nd := sc_pair_rates.nd
  refine fnp_ok (k := 2) (O' := []) F sc_pair_rates fun cdv A outer s H E hr => ?_
  exact (by exact ss_cons (by exact ss_tgt (by exact se_tup (by exact sa_cons se_non (by exact sa_cons se_non sa_nil))) (by exact sg_tup rfl (by exact sgs_cons (by exact sg_name 2 nd) (by exact sgs_cons (by exact sg_name 3 nd) sgs_nil)))) (by exact ss_cons (by exact ss_for (O' := []) (by exact si_enum (st := true) b_enumerate (by exact sa_cons (by exact se_var 0) sa_nil)) (by exact sg_tup rfl (by exact sgs_cons (by exact sg_name 4 nd) (by exact sgs_cons (by exact sg_tup rfl (by exact sgs_cons (by exact sg_name 5 nd) (by exact sgs_cons (by exact sg_name 6 nd) sgs_nil))) sgs_nil))) (by exact ss_cons (by exact ss_for (O' := []) (by exact si_seq (m := .f) (by exact se_sl (by exact se_var 0) (by exact so_some (by exact se_op op_addD (by exact se_var 4) se_int)) so_none)) (by exact sg_tup rfl (by exact sgs_cons (by exact sg_name 7 nd) (by exact sgs_cons (by exact sg_name 8 nd) sgs_nil))) (by exact ss_cons (by exact ss_par 9 10 nd (by exact sam_cons (by exact se_callD D_lowest hr (by exact sa_cons (by exact se_op op_subD (by exact se_op op_subD (by exact se_var 8) (by exact se_var 6)) (by exact se_op op_mulD' se_int (by exact se_var 1))) (by exact sa_cons (by exact se_op op_subD (by exact se_var 7) (by exact se_var 5)) sa_nil))) (by exact sam_cons (by exact se_callD D_lowest hr (by exact sa_cons (by exact se_op op_addD (by exact se_op op_subD (by exact se_var 8) (by exact se_var 6)) (by exact se_op op_mulD' se_int (by exact se_var 1))) (by exact sa_cons (by exact se_op op_subD (by exact se_var 7) (by exact se_var 5)) sa_nil))) sam_nil))) (by exact ss_cons (by exact ss_setS 2 nd (by exact se_if (by exact SW.st (by exact sw_or (by exact st_cmp op_isD (by exact se_var 2) se_non) (by exact sw_or1 (by exact st_val (by exact se_callD D_is_less hr (by exact sa_cons (by exact se_var 2) (by exact sa_cons (by exact se_var 9) sa_nil))))))) (by exact se_var 9) (by exact se_var 2))) (by exact ss_cons (by exact ss_setS 3 nd (by exact se_if (by exact SW.st (by exact sw_or (by exact st_cmp op_isD (by exact se_var 3) se_non) (by exact sw_or1 (by exact st_val (by exact se_callD D_is_less hr (by exact sa_cons (by exact se_var 10) (by exact sa_cons (by exact se_var 3) sa_nil))))))) (by exact se_var 10) (by exact se_var 3))) ss_nil)))) ss_nil)) (by exact ss_last (by exact ss_ret (by exact se_tup (by exact sa_cons (by exact se_var 2) (by exact sa_cons (by exact se_var 3) sa_nil)))))))
/-! ### rate_range -/
abbrev s_rate_range : Stmt := topS 15
theorem sc_rate_range : FnScope ["soundings", "e", "low", "high"] ["soundings", "e"] (defScope s_rate_range) := ⟨rfl, rfl, rfl, by decide +kernel, rfl, by decide +kernel, by decide +kernel⟩
def g_rate_range : XS :=
  (sSeq (sTgt (gTupD 2 (gsCons (gSet 2) (gsCons (gSet 3) gsNil))) (xCall (fun ds => if ds.length = 2 then (d_pair_rates) ds else none) (xCons (xVar 0) (xCons (xVar 1) xNil))))
  (sRet (xIf (tTru (xCall (fun ds => if ds.length = 2 then (d_is_less) ds else none) (xCons (xVar 3) (xCons (xVar 2) xNil)))) (xC .none) (xTup (xCons (xVar 2) (xCons (xVar 3) xNil))))))
def d_rate_range : List D → Option D := runD 2 4 g_rate_range
theorem ok_rate_range {f : Addr} {fd : FuncData} (F : FnP K "rate_range" s_rate_range f fd) (D_is_less : Def P w K mg base 1 "is_less" ["first", "second"] (d_is_less)) (D_pair_rates : Def P w K mg base 3 "pair_rates" ["soundings", "e"] (d_pair_rates)) : FnOk P w K mg base CX0 4 f fd ["soundings", "e"] (spD K 2 d_rate_range) := by
  have nd := sc_rate_range.nd
  refine fnp_ok (k := 3) (O' := []) F sc_rate_range fun cdv A outer s H E hr => ?_
  exact (by exact ss_cons (by exact ss_tgt (by exact se_callD D_pair_rates hr (by exact sa_cons (by exact se_var 0) (by exact sa_cons (by exact se_var 1) sa_nil))) (by exact sg_tup rfl (by exact sgs_cons (by exact sg_name 2 nd) (by exact sgs_cons (by exact sg_name 3 nd) sgs_nil)))) (by exact ss_last (by exact ss_ret (by exact se_if (by exact st_val (by exact se_callD D_is_less hr (by exact sa_cons (by exact se_var 3) (by exact sa_cons (by exact se_var 2) sa_nil)))) se_non (by exact se_tup (by exact sa_cons (by exact se_var 2) (by exact sa_cons (by exact se_var 3) sa_nil)))))))
/-! ### bind_rates -/
abbrev s_bind_rates : Stmt := topS 17
theorem sc_bind_rates : FnScope ["soundings", "e", "found", "place", "hour", "depth", "later", "deeper", "off"] ["soundings", "e"] (defScope s_bind_rates) := ⟨rfl, rfl, rfl, by decide +kernel, rfl, by decide +kernel, by decide +kernel⟩
def l1_bind_rates : XS :=
  (sSeq (sApp 2 (xCall (fun ds => if ds.length = 2 then (d_lowest) ds else none) (xCons (xBin oAdd (xBin oSub (xVar 7) (xVar 5)) (xVar 8)) (xCons (xBin oSub (xVar 6) (xVar 4)) xNil))))
  sNop)
def l2_bind_rates : XS :=
  (sSeq (sFor (xSeq (xTup (xCons (xBin oMul' (xUn oNeg (xC (.int 2))) (xVar 1)) (xCons (xC (.int 0)) (xCons (xBin oMul' (xC (.int 2)) (xVar 1)) xNil))))) (gSet 8) l1_bind_rates)
  sNop)
def l3_bind_rates : XS :=
  (sSeq (sFor (xSeq (xSl (xVar 0) (oAt (xBin oAdd (xVar 3) (xC (.int 1)))) oNo)) (gTupD 2 (gsCons (gSet 6) (gsCons (gSet 7) gsNil))) l2_bind_rates)
  sNop)
def g_bind_rates : XS :=
  (sSeq (sSet 2 (xLst xNil))
  (sSeq (sFor (xIt oEnum (xCons (xVar 0) xNil)) (gTupD 2 (gsCons (gSet 3) (gsCons (gTupD 2 (gsCons (gSet 4) (gsCons (gSet 5) gsNil))) gsNil))) l3_bind_rates)
  (sRet (xVar 2))))
def d_bind_rates : List D → Option D := runD 2 9 g_bind_rates
theorem ok_bind_rates {f : Addr} {fd : FuncData} (F : FnP K "bind_rates" s_bind_rates f fd) (D_lowest : Def P w K mg base 2 "lowest" ["a", "b"] (d_lowest)) (b_enumerate : mg "enumerate" = none) : FnOk P w K mg base CX0 3 f fd ["soundings", "e"] (spD K 2 d_bind_rates) := by
  have nd := sc_bind_rates.nd
  refine fnp_ok (k := 2) (O' := []) F sc_bind_rates fun cdv A outer s H E hr => ?_
  exact (by exact ss_cons (by exact ss_setF 2 nd (by exact se_lst sa_nil)) (by exact ss_cons (by exact ss_for (O' := [2]) (by exact si_enum (st := true) b_enumerate (by exact sa_cons (by exact se_var 0) sa_nil)) (by exact sg_tup rfl (by exact sgs_cons (by exact sg_name 3 nd) (by exact sgs_cons (by exact sg_tup rfl (by exact sgs_cons (by exact sg_name 4 nd) (by exact sgs_cons (by exact sg_name 5 nd) sgs_nil))) sgs_nil))) (by exact ss_cons (by exact ss_for (O' := [2]) (by exact si_seq (m := .f) (by exact se_sl (by exact se_var 0) (by exact so_some (by exact se_op op_addD (by exact se_var 3) se_int)) so_none)) (by exact sg_tup rfl (by exact sgs_cons (by exact sg_name 6 nd) (by exact sgs_cons (by exact sg_name 7 nd) sgs_nil))) (by exact ss_cons (by exact ss_for (O' := [2]) (by exact si_seq (m := .f) (by exact se_tup (by exact sa_cons (by exact se_op op_mulD' (by exact se_un un_negD se_int) (by exact se_var 1)) (by exact sa_cons se_int (by exact sa_cons (by exact se_op op_mulD' se_int (by exact se_var 1)) sa_nil))))) (by exact sg_name 8 nd) (by exact ss_cons (by exact ss_app 2 (by exact se_callD D_lowest hr (by exact sa_cons (by exact se_op op_addD (by exact se_op op_subD (by exact se_var 7) (by exact se_var 5)) (by exact se_var 8)) (by exact sa_cons (by exact se_op op_subD (by exact se_var 6) (by exact se_var 4)) sa_nil)))) ss_nil)) ss_nil)) ss_nil)) (by exact ss_last (by exact SS.weak (O1 := []) (by exact ss_ret (by exact se_var 2))))))
/-! ### sure_depth -/
abbrev s_sure_depth : Stmt := topS 16
theorem sc_sure_depth : FnScope ["soundings", "e", "hour", "rates", "rate", "best_low", "best_high", "low", "high", "less", "more"] ["soundings", "e", "hour"] (defScope s_sure_depth) := ⟨rfl, rfl, rfl, by decide +kernel, rfl, by decide +kernel, by decide +kernel⟩
def l1_sure_depth : XS :=
  (sSeq (sIf (tAndP (tNotP (tTru (xCall (fun ds => if ds.length = 2 then (d_is_less) ds else none) (xCons (xVar 4) (xCons (xBin oIx (xVar 3) (xC (.int 0))) xNil))))) (tNotP (tTru (xCall (fun ds => if ds.length = 2 then (d_is_less) ds else none) (xCons (xBin oIx (xVar 3) (xC (.int 1))) (xCons (xVar 4) xNil)))))) (sSeq (sTgt (gTupD 2 (gsCons (gSet 7) (gsCons (gSet 8) gsNil))) (xCall (fun ds => if ds.length = 3 then (d_bounds_at) ds else none) (xCons (xVar 0) (xCons (xVar 4) (xCons (xVar 1) xNil)))))
  (sSeq (sPar [9, 10] (xCons (xCall (fun ds => if ds.length = 2 then (d_plus) ds else none) (xCons (xVar 7) (xCons (xCall (fun ds => if ds.length = 2 then (d_times) ds else none) (xCons (xVar 4) (xCons (xCall (fun ds => if ds.length = 1 then (d_whole) ds else none) (xCons (xVar 2) xNil)) xNil))) xNil))) (xCons (xCall (fun ds => if ds.length = 2 then (d_plus) ds else none) (xCons (xVar 8) (xCons (xCall (fun ds => if ds.length = 2 then (d_times) ds else none) (xCons (xVar 4) (xCons (xCall (fun ds => if ds.length = 1 then (d_whole) ds else none) (xCons (xVar 2) xNil)) xNil))) xNil))) xNil)))
  (sSeq (sSet 5 (xIf (tOrP (tOf (xBin oIs (xVar 5) (xC .none))) (tTru (xCall (fun ds => if ds.length = 2 then (d_is_less) ds else none) (xCons (xVar 9) (xCons (xVar 5) xNil))))) (xVar 9) (xVar 5)))
  (sSeq (sSet 6 (xIf (tOrP (tOf (xBin oIs (xVar 6) (xC .none))) (tTru (xCall (fun ds => if ds.length = 2 then (d_is_less) ds else none) (xCons (xVar 6) (xCons (xVar 10) xNil))))) (xVar 10) (xVar 6)))
  sNop)))) sNop)
  sNop)
def g_sure_depth : XS :=
  (sSeq (sSet 3 (xCall (fun ds => if ds.length = 2 then (d_rate_range) ds else none) (xCons (xVar 0) (xCons (xVar 1) xNil))))
  (sSeq (sIf (tOf (xBin oIs (xVar 3) (xC .none))) (sRet (xC .none)) sNop)
  (sSeq (sTgt (gTupD 2 (gsCons (gSet 5) (gsCons (gSet 6) gsNil))) (xTup (xCons (xC .none) (xCons (xC .none) xNil))))
  (sSeq (sFor (xSeq (xCall (fun ds => if ds.length = 2 then (d_bind_rates) ds else none) (xCons (xVar 0) (xCons (xVar 1) xNil)))) (gSet 4) l1_sure_depth)
  (sRet (xTup (xCons (xVar 5) (xCons (xVar 6) xNil))))))))
def d_sure_depth : List D → Option D := runD 3 11 g_sure_depth
theorem ok_sure_depth {f : Addr} {fd : FuncData} (F : FnP K "sure_depth" s_sure_depth f fd) (D_plus : Def P w K mg base 3 "plus" ["first", "second"] (d_plus)) (D_times : Def P w K mg base 3 "times" ["first", "second"] (d_times)) (D_is_less : Def P w K mg base 1 "is_less" ["first", "second"] (d_is_less)) (D_whole : Def P w K mg base 1 "whole" ["number"] (d_whole)) (D_bounds_at : Def P w K mg base 4 "bounds_at" ["soundings", "rate", "e"] (d_bounds_at)) (D_rate_range : Def P w K mg base 4 "rate_range" ["soundings", "e"] (d_rate_range)) (D_bind_rates : Def P w K mg base 3 "bind_rates" ["soundings", "e"] (d_bind_rates)) : FnOk P w K mg base CX0 5 f fd ["soundings", "e", "hour"] (spD K 3 d_sure_depth) := by
  have nd := sc_sure_depth.nd
  refine fnp_ok (k := 4) (O' := []) F sc_sure_depth fun cdv A outer s H E hr => ?_
  exact (by exact ss_cons (by exact ss_setS 3 nd (by exact se_callD D_rate_range hr (by exact sa_cons (by exact se_var 0) (by exact sa_cons (by exact se_var 1) sa_nil)))) (by exact ss_cons (by exact ss_if (O' := []) (by exact st_cmp op_isD (by exact se_var 3) se_non) (by exact ss_last (by exact ss_ret se_non)) ss_nil) (by exact ss_cons (by exact ss_tgt (by exact se_tup (by exact sa_cons se_non (by exact sa_cons se_non sa_nil))) (by exact sg_tup rfl (by exact sgs_cons (by exact sg_name 5 nd) (by exact sgs_cons (by exact sg_name 6 nd) sgs_nil)))) (by exact ss_cons (by exact ss_for (O' := []) (by exact si_seq (m := .s) (by exact se_callD D_bind_rates hr (by exact sa_cons (by exact se_var 0) (by exact sa_cons (by exact se_var 1) sa_nil)))) (by exact sg_name 4 nd) (by exact ss_cons (by exact ss_if (O' := []) (by exact SW.st (by exact sw_and (by exact st_not (by exact st_val (by exact se_callD D_is_less hr (by exact sa_cons (by exact se_var 4) (by exact sa_cons (by exact se_ix (by exact se_var 3) se_int) sa_nil))))) (by exact sw_and1 (by exact st_not (by exact st_val (by exact se_callD D_is_less hr (by exact sa_cons (by exact se_ix (by exact se_var 3) se_int) (by exact sa_cons (by exact se_var 4) sa_nil)))))))) (by exact ss_cons (by exact ss_tgt (by exact se_callD D_bounds_at hr (by exact sa_cons (by exact se_var 0) (by exact sa_cons (by exact se_var 4) (by exact sa_cons (by exact se_var 1) sa_nil)))) (by exact sg_tup rfl (by exact sgs_cons (by exact sg_name 7 nd) (by exact sgs_cons (by exact sg_name 8 nd) sgs_nil)))) (by exact ss_cons (by exact ss_par 9 10 nd (by exact sam_cons (by exact se_callD D_plus hr (by exact sa_cons (by exact se_var 7) (by exact sa_cons (by exact se_callD D_times hr (by exact sa_cons (by exact se_var 4) (by exact sa_cons (by exact se_callD D_whole hr (by exact sa_cons (by exact se_var 2) sa_nil)) sa_nil))) sa_nil))) (by exact sam_cons (by exact se_callD D_plus hr (by exact sa_cons (by exact se_var 8) (by exact sa_cons (by exact se_callD D_times hr (by exact sa_cons (by exact se_var 4) (by exact sa_cons (by exact se_callD D_whole hr (by exact sa_cons (by exact se_var 2) sa_nil)) sa_nil))) sa_nil))) sam_nil))) (by exact ss_cons (by exact ss_setS 5 nd (by exact se_if (by exact SW.st (by exact sw_or (by exact st_cmp op_isD (by exact se_var 5) se_non) (by exact sw_or1 (by exact st_val (by exact se_callD D_is_less hr (by exact sa_cons (by exact se_var 9) (by exact sa_cons (by exact se_var 5) sa_nil))))))) (by exact se_var 9) (by exact se_var 5))) (by exact ss_cons (by exact ss_setS 6 nd (by exact se_if (by exact SW.st (by exact sw_or (by exact st_cmp op_isD (by exact se_var 6) se_non) (by exact sw_or1 (by exact st_val (by exact se_callD D_is_less hr (by exact sa_cons (by exact se_var 6) (by exact sa_cons (by exact se_var 10) sa_nil))))))) (by exact se_var 10) (by exact se_var 6))) ss_nil)))) ss_nil) ss_nil)) (by exact ss_last (by exact ss_ret (by exact se_tup (by exact sa_cons (by exact se_var 5) (by exact sa_cons (by exact se_var 6) sa_nil)))))))))
/-! ### could_begin -/
abbrev s_could_begin : Stmt := topS 18
theorem sc_could_begin : FnScope ["soundings", "e", "hour", "low", "high", "when", "depth", "less", "more"] ["soundings", "e", "hour"] (defScope s_could_begin) := ⟨rfl, rfl, rfl, by decide +kernel, rfl, by decide +kernel, by decide +kernel⟩
def l1_could_begin : XS :=
  (sSeq (sIf (tOf (xBin oEq (xVar 5) (xVar 2))) (sSeq (sIf (tOf (xBin oGt (xCall bAbs (xCons (xVar 6) xNil)) (xVar 1))) (sRet (xC (.bool false))) sNop)
  sNop) (sSeq (sPar [7, 8] (xCons (xCall (fun ds => if ds.length = 2 then (d_lowest) ds else none) (xCons (xBin oSub (xVar 6) (xVar 1)) (xCons (xBin oSub (xVar 5) (xVar 2)) xNil))) (xCons (xCall (fun ds => if ds.length = 2 then (d_lowest) ds else none) (xCons (xBin oAdd (xVar 6) (xVar 1)) (xCons (xBin oSub (xVar 5) (xVar 2)) xNil))) xNil)))
  (sSeq (sSet 3 (xIf (tOrP (tOf (xBin oIs (xVar 3) (xC .none))) (tTru (xCall (fun ds => if ds.length = 2 then (d_is_less) ds else none) (xCons (xVar 3) (xCons (xVar 7) xNil))))) (xVar 7) (xVar 3)))
  (sSeq (sSet 4 (xIf (tOrP (tOf (xBin oIs (xVar 4) (xC .none))) (tTru (xCall (fun ds => if ds.length = 2 then (d_is_less) ds else none) (xCons (xVar 8) (xCons (xVar 4) xNil))))) (xVar 8) (xVar 4)))
  sNop))))
  sNop)
def g_could_begin : XS :=
  (sSeq (sTgt (gTupD 2 (gsCons (gSet 3) (gsCons (gSet 4) gsNil))) (xTup (xCons (xC .none) (xCons (xC .none) xNil))))
  (sSeq (sFor (xSeq (xVar 0)) (gTupD 2 (gsCons (gSet 5) (gsCons (gSet 6) gsNil))) l1_could_begin)
  (sSeq (sIf (tOf (xBin oIs (xVar 4) (xC .none))) (sRet (xC (.bool true))) sNop)
  (sRet (xAnd (xUn oNot (xCall (fun ds => if ds.length = 2 then (d_is_less) ds else none) (xCons (xVar 4) (xCons (xVar 3) xNil)))) (xBin oGe (xBin oIx (xVar 4) (xC (.int 0))) (xC (.int 0))))))))
def d_could_begin : List D → Option D := runD 3 9 g_could_begin
theorem ok_could_begin {f : Addr} {fd : FuncData} (F : FnP K "could_begin" s_could_begin f fd) (D_lowest : Def P w K mg base 2 "lowest" ["a", "b"] (d_lowest)) (D_is_less : Def P w K mg base 1 "is_less" ["first", "second"] (d_is_less)) (b_abs : mg "abs" = none) : FnOk P w K mg base CX0 3 f fd ["soundings", "e", "hour"] (spD K 3 d_could_begin) := by
  have nd := sc_could_begin.nd
  refine fnp_ok (k := 2) (O' := []) F sc_could_begin fun cdv A outer s H E hr => ?_
  exact (by exact ss_cons (by exact ss_tgt (by exact se_tup (by exact sa_cons se_non (by exact sa_cons se_non sa_nil))) (by exact sg_tup rfl (by exact sgs_cons (by exact sg_name 3 nd) (by exact sgs_cons (by exact sg_name 4 nd) sgs_nil)))) (by exact ss_cons (by exact ss_for (O' := []) (by exact si_seq (m := .s) (by exact se_var 0)) (by exact sg_tup rfl (by exact sgs_cons (by exact sg_name 5 nd) (by exact sgs_cons (by exact sg_name 6 nd) sgs_nil))) (by exact ss_cons (by exact ss_if (O' := []) (by exact st_cmp (op_eqP hr) (by exact se_var 5) (by exact se_var 2)) (by exact ss_cons (by exact ss_if (O' := []) (by exact st_cmp op_gtD (by exact se_callB (st := false) cb_abs b_abs (by exact sa_cons (by exact se_var 6) sa_nil)) (by exact se_var 1)) (by exact ss_last (by exact ss_ret se_bl)) ss_nil) ss_nil) (by exact ss_cons (by exact ss_par 7 8 nd (by exact sam_cons (by exact se_callD D_lowest hr (by exact sa_cons (by exact se_op op_subD (by exact se_var 6) (by exact se_var 1)) (by exact sa_cons (by exact se_op op_subD (by exact se_var 5) (by exact se_var 2)) sa_nil))) (by exact sam_cons (by exact se_callD D_lowest hr (by exact sa_cons (by exact se_op op_addD (by exact se_var 6) (by exact se_var 1)) (by exact sa_cons (by exact se_op op_subD (by exact se_var 5) (by exact se_var 2)) sa_nil))) sam_nil))) (by exact ss_cons (by exact ss_setS 3 nd (by exact se_if (by exact SW.st (by exact sw_or (by exact st_cmp op_isD (by exact se_var 3) se_non) (by exact sw_or1 (by exact st_val (by exact se_callD D_is_less hr (by exact sa_cons (by exact se_var 3) (by exact sa_cons (by exact se_var 7) sa_nil))))))) (by exact se_var 7) (by exact se_var 3))) (by exact ss_cons (by exact ss_setS 4 nd (by exact se_if (by exact SW.st (by exact sw_or (by exact st_cmp op_isD (by exact se_var 4) se_non) (by exact sw_or1 (by exact st_val (by exact se_callD D_is_less hr (by exact sa_cons (by exact se_var 8) (by exact sa_cons (by exact se_var 4) sa_nil))))))) (by exact se_var 8) (by exact se_var 4))) ss_nil)))) ss_nil)) (by exact ss_cons (by exact ss_if (O' := []) (by exact st_cmp op_isD (by exact se_var 4) se_non) (by exact ss_last (by exact ss_ret se_bl)) ss_nil) (by exact ss_last (by exact ss_ret (by exact se_and (by exact se_not (m := .f) (by exact se_callD D_is_less hr (by exact sa_cons (by exact se_var 4) (by exact sa_cons (by exact se_var 3) sa_nil)))) (by exact se_bone (by exact se_cmp op_geD (by exact se_ix (by exact se_var 4) se_int) se_int))))))))
/-! ### from_hour -/
abbrev s_from_hour : Stmt := topS 19
theorem sc_from_hour : FnScope ["soundings", "e", "hour"] ["soundings", "e"] (defScope s_from_hour) := ⟨rfl, rfl, rfl, by decide +kernel, rfl, by decide +kernel, by decide +kernel⟩
def l1_from_hour : XS :=
  (sSeq (sIf (tTru (xCall (fun ds => if ds.length = 3 then (d_could_begin) ds else none) (xCons (xVar 0) (xCons (xVar 1) (xCons (xVar 2) xNil))))) (sRet (xVar 2)) sNop)
  sNop)
def g_from_hour : XS :=
  (sSeq (sFor (xIt oR3 (xCons (xBin oIx (xBin oIx (xVar 0) (xC (.int 0))) (xC (.int 0))) (xCons (xUn oNeg (xC (.int 1))) (xCons (xUn oNeg (xC (.int 1))) xNil)))) (gSet 2) l1_from_hour)
  (sRet (xC .none)))
def d_from_hour : List D → Option D := runD 2 3 g_from_hour
theorem ok_from_hour {f : Addr} {fd : FuncData} (F : FnP K "from_hour" s_from_hour f fd) (D_could_begin : Def P w K mg base 3 "could_begin" ["soundings", "e", "hour"] (d_could_begin)) (b_range : mg "range" = none) : FnOk P w K mg base CX0 4 f fd ["soundings", "e"] (spD K 2 d_from_hour) := by
  have nd := sc_from_hour.nd
  refine fnp_ok (k := 3) (O' := []) F sc_from_hour fun cdv A outer s H E hr => ?_
  exact (by exact ss_cons (by exact ss_for (O' := []) (by exact si_r3 (st := false) b_range (by exact sa_cons (by exact se_ix (by exact se_ix (by exact se_var 0) se_int) se_int) (by exact sa_cons (by exact se_un un_negD se_int) (by exact sa_cons (by exact se_un un_negD se_int) sa_nil)))) (by exact sg_name 2 nd) (by exact ss_cons (by exact ss_if (O' := []) (by exact st_val (by exact se_callD D_could_begin hr (by exact sa_cons (by exact se_var 0) (by exact sa_cons (by exact se_var 1) (by exact sa_cons (by exact se_var 2) sa_nil))))) (by exact ss_last (by exact ss_ret (by exact se_var 2))) ss_nil) ss_nil)) (by exact ss_last (by exact ss_ret se_non)))
/-! ### odd_sounding -/
abbrev s_odd_sounding : Stmt := topS 20
theorem sc_odd_sounding : FnScope ["soundings", "e", "index", "rest"] ["soundings", "e"] (defScope s_odd_sounding) := ⟨rfl, rfl, rfl, by decide +kernel, rfl, by decide +kernel, by decide +kernel⟩
def l1_odd_sounding : XS :=
  (sSeq (sSet 3 (xBin oAdd (xSl (xVar 0) oNo (oAt (xVar 2))) (xSl (xVar 0) (oAt (xBin oAdd (xVar 2) (xC (.int 1)))) oNo)))
  (sSeq (sIf (tOrP (tOf (xBin oLt (xCall bLen (xCons (xVar 3) xNil)) (xC (.int 2)))) (tOf (xBin oIsNot (xCall (fun ds => if ds.length = 2 then ((d_rate_range) ds).bind fun d => if flat d then some d else none else none) (xCons (xVar 3) (xCons (xVar 1) xNil))) (xC .none)))) (sRet (xVar 2)) sNop)
  sNop))
def g_odd_sounding : XS :=
  (sSeq (sIf (tOf (xBin oIsNot (xCall (fun ds => if ds.length = 2 then (d_rate_range) ds else none) (xCons (xVar 0) (xCons (xVar 1) xNil))) (xC .none))) (sRet (xC .none)) sNop)
  (sSeq (sFor (xIt oR1 (xCons (xCall bLen (xCons (xVar 0) xNil)) xNil)) (gSet 2) l1_odd_sounding)
  (sRet (xC .none))))
def d_odd_sounding : List D → Option D := runD 2 4 g_odd_sounding
theorem ok_odd_sounding {f : Addr} {fd : FuncData} (F : FnP K "odd_sounding" s_odd_sounding f fd) (D_rate_range : Def P w K mg base 4 "rate_range" ["soundings", "e"] (d_rate_range)) (b_len : mg "len" = none) (b_range : mg "range" = none) : FnOk P w K mg base CX0 5 f fd ["soundings", "e"] (spD K 2 d_odd_sounding) := by
  have nd := sc_odd_sounding.nd
  refine fnp_ok (k := 4) (O' := []) F sc_odd_sounding fun cdv A outer s H E hr => ?_
  exact (by exact ss_cons (by exact ss_if (O' := []) (by exact st_cmp op_isNotD (by exact se_callD D_rate_range hr (by exact sa_cons (by exact se_var 0) (by exact sa_cons (by exact se_var 1) sa_nil))) se_non) (by exact ss_last (by exact ss_ret se_non)) ss_nil) (by exact ss_cons (by exact ss_for (O' := []) (by exact si_r1 (st := false) b_range (by exact sa_cons (by exact se_callB (st := false) cb_len b_len (by exact sa_cons (by exact se_var 0) sa_nil)) sa_nil)) (by exact sg_name 2 nd) (by exact ss_cons (by exact ss_setF 3 nd (by exact se_op op_addD (by exact se_sl (by exact se_var 0) so_none (by exact so_some (by exact se_var 2))) (by exact se_sl (by exact se_var 0) (by exact so_some (by exact se_op op_addD (by exact se_var 2) se_int)) so_none))) (by exact ss_cons (by exact ss_if (O' := [3]) (by exact SW.st (by exact sw_or (by exact st_cmp op_ltD (by exact se_callB (st := false) cb_len b_len (by exact sa_cons (by exact se_varW 3) sa_nil)) se_int) (by exact sw_or1 (by exact st_cmp op_isNotD (by exact se_callWD D_rate_range hr (by exact sa_cons (by exact se_varW 3) (by exact sa_cons (by exact se_var 1) sa_nil))) se_non)))) (by exact ss_last (by exact ss_ret (by exact se_var 2))) ss_nil) ss_nil))) (by exact ss_last (by exact ss_ret se_non))))
/-! ### best_line -/
abbrev s_best_line : Stmt := topS 21
theorem sc_best_line : FnScope ["soundings", "n", "both", "squares", "rate", "hours", "depths", "hour", "depth"] ["soundings"] (defScope s_best_line) := ⟨rfl, rfl, rfl, by decide +kernel, rfl, by decide +kernel, by decide +kernel⟩
def g_best_line : XS :=
  (sSeq (sSet 1 (xCall bLen (xCons (xVar 0) xNil)))
  (sSeq (sPar [5, 6] (xCons (xCall bSum (xCons (xLc (xSeq (xVar 0)) (gTupD 2 (gsCons (gSet 7) (gsCons (gSet 8) gsNil))) tYesP (xVar 7) [7, 8]) xNil)) (xCons (xCall bSum (xCons (xLc (xSeq (xVar 0)) (gTupD 2 (gsCons (gSet 7) (gsCons (gSet 8) gsNil))) tYesP (xVar 8) [7, 8]) xNil)) xNil)))
  (sSeq (sSet 2 (xCall bSum (xCons (xLc (xSeq (xVar 0)) (gTupD 2 (gsCons (gSet 7) (gsCons (gSet 8) gsNil))) tYesP (xBin oMul' (xVar 7) (xVar 8)) [7, 8]) xNil)))
  (sSeq (sSet 3 (xCall bSum (xCons (xLc (xSeq (xVar 0)) (gTupD 2 (gsCons (gSet 7) (gsCons (gSet 8) gsNil))) tYesP (xBin oMul' (xVar 7) (xVar 7)) [7, 8]) xNil)))
  (sSeq (sSet 4 (xCall (fun ds => if ds.length = 2 then (d_lowest) ds else none) (xCons (xBin oSub (xBin oMul' (xVar 1) (xVar 2)) (xBin oMul' (xVar 5) (xVar 6))) (xCons (xBin oSub (xBin oMul' (xVar 1) (xVar 3)) (xBin oMul' (xVar 5) (xVar 5))) xNil))))
  (sRet (xTup (xCons (xVar 4) (xCons (xCall (fun ds => if ds.length = 2 then (d_over) ds else none) (xCons (xCall (fun ds => if ds.length = 2 then (d_minus) ds else none) (xCons (xCall (fun ds => if ds.length = 1 then ((d_whole) ds).bind fun d => if flat d then some d else none else none) (xCons (xVar 6) xNil)) (xCons (xCall (fun ds => if ds.length = 2 then (d_times) ds else none) (xCons (xVar 4) (xCons (xCall (fun ds => if ds.length = 1 then ((d_whole) ds).bind fun d => if flat d then some d else none else none) (xCons (xVar 5) xNil)) xNil))) xNil))) (xCons (xCall (fun ds => if ds.length = 1 then ((d_whole) ds).bind fun d => if flat d then some d else none else none) (xCons (xVar 1) xNil)) xNil))) xNil)))))))))
def d_best_line : List D → Option D := runD 1 9 g_best_line
theorem ok_best_line {f : Addr} {fd : FuncData} (F : FnP K "best_line" s_best_line f fd) (D_lowest : Def P w K mg base 2 "lowest" ["a", "b"] (d_lowest)) (D_minus : Def P w K mg base 3 "minus" ["first", "second"] (d_minus)) (D_times : Def P w K mg base 3 "times" ["first", "second"] (d_times)) (D_over : Def P w K mg base 4 "over" ["first", "second"] (d_over)) (D_whole : Def P w K mg base 1 "whole" ["number"] (d_whole)) (b_len : mg "len" = none) (b_sum : mg "sum" = none) : FnOk P w K mg base CX0 5 f fd ["soundings"] (spD K 1 d_best_line) := by
  have nd := sc_best_line.nd
  refine fnp_ok (k := 4) (O' := []) F sc_best_line fun cdv A outer s H E hr => ?_
  exact (by exact ss_cons (by exact ss_setF 1 nd (by exact se_callB (st := false) cb_len b_len (by exact sa_cons (by exact se_var 0) sa_nil))) (by exact ss_cons (by exact ss_par 5 6 nd (by exact sam_cons (by exact se_callB (st := false) cb_sum b_sum (by exact sa_cons (by exact se_lc nd (by exact si_seq (m := .s) (by exact se_var 0)) (blkOk_by (own := [("hour", 7), ("depth", 8)]) rfl) (fun _ _ _ _ _ => (by exact sg_tup rfl (by exact sgs_cons (by exact sg_name 7 nd) (by exact sgs_cons (by exact sg_name 8 nd) sgs_nil)))) (fun _ _ _ _ _ => sts_nil) (fun _ _ _ _ _ => (by exact se_var 7))) sa_nil)) (by exact sam_cons (by exact se_callB (st := false) cb_sum b_sum (by exact sa_cons (by exact se_lc nd (by exact si_seq (m := .s) (by exact se_var 0)) (blkOk_by (own := [("hour", 7), ("depth", 8)]) rfl) (fun _ _ _ _ _ => (by exact sg_tup rfl (by exact sgs_cons (by exact sg_name 7 nd) (by exact sgs_cons (by exact sg_name 8 nd) sgs_nil)))) (fun _ _ _ _ _ => sts_nil) (fun _ _ _ _ _ => (by exact se_var 8))) sa_nil)) sam_nil))) (by exact ss_cons (by exact ss_setF 2 nd (by exact se_callB (st := false) cb_sum b_sum (by exact sa_cons (by exact se_lc nd (by exact si_seq (m := .s) (by exact se_var 0)) (blkOk_by (own := [("hour", 7), ("depth", 8)]) rfl) (fun _ _ _ _ _ => (by exact sg_tup rfl (by exact sgs_cons (by exact sg_name 7 nd) (by exact sgs_cons (by exact sg_name 8 nd) sgs_nil)))) (fun _ _ _ _ _ => sts_nil) (fun _ _ _ _ _ => (by exact se_op op_mulD' (by exact se_var 7) (by exact se_var 8)))) sa_nil))) (by exact ss_cons (by exact ss_setF 3 nd (by exact se_callB (st := false) cb_sum b_sum (by exact sa_cons (by exact se_lc nd (by exact si_seq (m := .s) (by exact se_var 0)) (blkOk_by (own := [("hour", 7), ("depth", 8)]) rfl) (fun _ _ _ _ _ => (by exact sg_tup rfl (by exact sgs_cons (by exact sg_name 7 nd) (by exact sgs_cons (by exact sg_name 8 nd) sgs_nil)))) (fun _ _ _ _ _ => sts_nil) (fun _ _ _ _ _ => (by exact se_op op_mulD' (by exact se_var 7) (by exact se_var 7)))) sa_nil))) (by exact ss_cons (by exact ss_setS 4 nd (by exact se_callD D_lowest hr (by exact sa_cons (by exact se_op op_subD (by exact se_op op_mulD' (by exact se_varW 1) (by exact se_varW 2)) (by exact se_op op_mulD' (by exact se_varW 5) (by exact se_varW 6))) (by exact sa_cons (by exact se_op op_subD (by exact se_op op_mulD' (by exact se_varW 1) (by exact se_varW 3)) (by exact se_op op_mulD' (by exact se_varW 5) (by exact se_varW 5))) sa_nil)))) (by exact ss_last (by exact ss_ret (by exact se_tup (by exact sa_cons (by exact se_var 4) (by exact sa_cons (by exact se_callD D_over hr (by exact sa_cons (by exact se_callD D_minus hr (by exact sa_cons (by exact se_callWD D_whole hr (by exact sa_cons (by exact se_varW 6) sa_nil)) (by exact sa_cons (by exact se_callD D_times hr (by exact sa_cons (by exact se_var 4) (by exact sa_cons (by exact se_callWD D_whole hr (by exact sa_cons (by exact se_varW 5) sa_nil)) sa_nil))) sa_nil))) (by exact sa_cons (by exact se_callWD D_whole hr (by exact sa_cons (by exact se_varW 1) sa_nil)) sa_nil))) sa_nil))))))))))
/-! ### speed_at -/
abbrev s_speed_at : Stmt := topS 23
theorem sc_speed_at : FnScope ["log", "hour", "first", "low", "last", "high"] ["log", "hour"] (defScope s_speed_at) := ⟨rfl, rfl, rfl, by decide +kernel, rfl, by decide +kernel, by decide +kernel⟩
def l1_speed_at : XS :=
  (sSeq (sIf (tOf (xChain oLe oLe (xVar 2) (xVar 1) (xVar 4))) (sRet (xCall (fun ds => if ds.length = 2 then (d_plus) ds else none) (xCons (xCall (fun ds => if ds.length = 1 then (d_whole) ds else none) (xCons (xVar 3) xNil)) (xCons (xCall (fun ds => if ds.length = 2 then (d_times) ds else none) (xCons (xCall (fun ds => if ds.length = 1 then (d_whole) ds else none) (xCons (xBin oSub (xVar 5) (xVar 3)) xNil)) (xCons (xCall (fun ds => if ds.length = 2 then (d_lowest) ds else none) (xCons (xBin oSub (xVar 1) (xVar 2)) (xCons (xBin oSub (xVar 4) (xVar 2)) xNil))) xNil))) xNil)))) sNop)
  sNop)
def g_speed_at : XS :=
  (sSeq (sFor (xIt oZip (xCons (xVar 0) (xCons (xSl (xVar 0) (oAt (xC (.int 1))) oNo) xNil))) (gTupD 2 (gsCons (gTupD 2 (gsCons (gSet 2) (gsCons (gSet 3) gsNil))) (gsCons (gTupD 2 (gsCons (gSet 4) (gsCons (gSet 5) gsNil))) gsNil))) l1_speed_at)
  (sRet (xIf (tAndP (tOf (xBin oEq (xCall bLen (xCons (xVar 0) xNil)) (xC (.int 1)))) (tOf (xBin oEq (xBin oIx (xBin oIx (xVar 0) (xC (.int 0))) (xC (.int 0))) (xVar 1)))) (xCall (fun ds => if ds.length = 1 then (d_whole) ds else none) (xCons (xBin oIx (xBin oIx (xVar 0) (xC (.int 0))) (xC (.int 1))) xNil)) (xC .none))))
def d_speed_at : List D → Option D := runD 2 6 g_speed_at
theorem ok_speed_at {f : Addr} {fd : FuncData} (F : FnP K "speed_at" s_speed_at f fd) (D_lowest : Def P w K mg base 2 "lowest" ["a", "b"] (d_lowest)) (D_plus : Def P w K mg base 3 "plus" ["first", "second"] (d_plus)) (D_times : Def P w K mg base 3 "times" ["first", "second"] (d_times)) (D_whole : Def P w K mg base 1 "whole" ["number"] (d_whole)) (b_len : mg "len" = none) (b_zip : mg "zip" = none) : FnOk P w K mg base CX0 4 f fd ["log", "hour"] (spD K 2 d_speed_at) := by
  have nd := sc_speed_at.nd
  refine fnp_ok (k := 3) (O' := []) F sc_speed_at fun cdv A outer s H E hr => ?_
  exact (by exact ss_cons (by exact ss_for (O' := []) (by exact si_zip (st := true) b_zip (by exact sa_cons (by exact se_var 0) (by exact sa_cons (by exact se_sl (by exact se_var 0) (by exact so_some se_int) so_none) sa_nil))) (by exact sg_tup rfl (by exact sgs_cons (by exact sg_tup rfl (by exact sgs_cons (by exact sg_name 2 nd) (by exact sgs_cons (by exact sg_name 3 nd) sgs_nil))) (by exact sgs_cons (by exact sg_tup rfl (by exact sgs_cons (by exact sg_name 4 nd) (by exact sgs_cons (by exact sg_name 5 nd) sgs_nil))) sgs_nil))) (by exact ss_cons (by exact ss_if (O' := []) (by exact st_chain op_leD op_leD (by exact se_var 2) (by exact se_var 1) (by exact se_var 4)) (by exact ss_last (by exact ss_ret (by exact se_callD D_plus hr (by exact sa_cons (by exact se_callD D_whole hr (by exact sa_cons (by exact se_var 3) sa_nil)) (by exact sa_cons (by exact se_callD D_times hr (by exact sa_cons (by exact se_callD D_whole hr (by exact sa_cons (by exact se_op op_subD (by exact se_var 5) (by exact se_var 3)) sa_nil)) (by exact sa_cons (by exact se_callD D_lowest hr (by exact sa_cons (by exact se_op op_subD (by exact se_var 1) (by exact se_var 2)) (by exact sa_cons (by exact se_op op_subD (by exact se_var 4) (by exact se_var 2)) sa_nil))) sa_nil))) sa_nil))))) ss_nil) ss_nil)) (by exact ss_last (by exact ss_ret (by exact se_if (by exact SW.st (by exact sw_and (by exact st_cmp (op_eqP hr) (by exact se_callB (st := false) cb_len b_len (by exact sa_cons (by exact se_var 0) sa_nil)) se_int) (by exact sw_and1 (by exact st_cmp (op_eqP hr) (by exact se_ix (by exact se_ix (by exact se_var 0) se_int) se_int) (by exact se_var 1))))) (by exact se_callD D_whole hr (by exact sa_cons (by exact se_ix (by exact se_ix (by exact se_var 0) se_int) se_int) sa_nil)) (by exact SE.toS se_non)))))
/-! ### run_between -/
abbrev s_run_between : Stmt := topS 24
theorem sc_run_between : FnScope ["log", "begin", "end", "found", "hour", "both"] ["log", "begin", "end"] (defScope s_run_between) := ⟨rfl, rfl, rfl, by decide +kernel, rfl, by decide +kernel, by decide +kernel⟩
def l1_run_between : XS :=
  (sSeq (sSet 5 (xCall (fun ds => if ds.length = 2 then (d_plus) ds else none) (xCons (xCall (fun ds => if ds.length = 2 then (d_speed_at) ds else none) (xCons (xVar 0) (xCons (xVar 4) xNil))) (xCons (xCall (fun ds => if ds.length = 2 then (d_speed_at) ds else none) (xCons (xVar 0) (xCons (xBin oAdd (xVar 4) (xC (.int 1))) xNil))) xNil))))
  (sSeq (sSet 3 (xCall (fun ds => if ds.length = 2 then (d_plus) ds else none) (xCons (xVar 3) (xCons (xCall (fun ds => if ds.length = 2 then (d_times) ds else none) (xCons (xVar 5) (xCons (xCall (fun ds => if ds.length = 2 then (d_lowest) ds else none) (xCons (xC (.int 1)) (xCons (xC (.int 2)) xNil))) xNil))) xNil))))
  sNop))
def g_run_between : XS :=
  (sSeq (sSet 3 (xCall (fun ds => if ds.length = 1 then (d_whole) ds else none) (xCons (xC (.int 0)) xNil)))
  (sSeq (sFor (xIt oR2 (xCons (xVar 1) (xCons (xVar 2) xNil))) (gSet 4) l1_run_between)
  (sRet (xVar 3))))
def d_run_between : List D → Option D := runD 3 6 g_run_between
theorem ok_run_between {f : Addr} {fd : FuncData} (F : FnP K "run_between" s_run_between f fd) (D_lowest : Def P w K mg base 2 "lowest" ["a", "b"] (d_lowest)) (D_plus : Def P w K mg base 3 "plus" ["first", "second"] (d_plus)) (D_times : Def P w K mg base 3 "times" ["first", "second"] (d_times)) (D_whole : Def P w K mg base 1 "whole" ["number"] (d_whole)) (D_speed_at : Def P w K mg base 4 "speed_at" ["log", "hour"] (d_speed_at)) (b_range : mg "range" = none) : FnOk P w K mg base CX0 5 f fd ["log", "begin", "end"] (spD K 3 d_run_between) := by
  have nd := sc_run_between.nd
  refine fnp_ok (k := 4) (O' := []) F sc_run_between fun cdv A outer s H E hr => ?_
  exact (by exact ss_cons (by exact ss_setS 3 nd (by exact se_callD D_whole hr (by exact sa_cons se_int sa_nil))) (by exact ss_cons (by exact ss_for (O' := []) (by exact si_r2 (st := false) b_range (by exact sa_cons (by exact se_var 1) (by exact sa_cons (by exact se_var 2) sa_nil))) (by exact sg_name 4 nd) (by exact ss_cons (by exact ss_setS 5 nd (by exact se_callD D_plus hr (by exact sa_cons (by exact se_callD D_speed_at hr (by exact sa_cons (by exact se_var 0) (by exact sa_cons (by exact se_var 4) sa_nil))) (by exact sa_cons (by exact se_callD D_speed_at hr (by exact sa_cons (by exact se_var 0) (by exact sa_cons (by exact se_op op_addD (by exact se_var 4) se_int) sa_nil))) sa_nil)))) (by exact ss_cons (by exact ss_setS 3 nd (by exact se_callD D_plus hr (by exact sa_cons (by exact se_var 3) (by exact sa_cons (by exact se_callD D_times hr (by exact sa_cons (by exact se_var 5) (by exact sa_cons (by exact se_callD D_lowest hr (by exact sa_cons se_int (by exact sa_cons se_int sa_nil))) sa_nil))) sa_nil)))) ss_nil))) (by exact ss_last (by exact ss_ret (by exact se_var 3)))))
/-! ### run_all -/
abbrev s_run_all : Stmt := topS 25
theorem sc_run_all : FnScope ["log"] ["log"] (defScope s_run_all) := ⟨rfl, rfl, rfl, by decide +kernel, rfl, by decide +kernel, by decide +kernel⟩
def g_run_all : XS :=
  (sRet (xCall (fun ds => if ds.length = 3 then (d_run_between) ds else none) (xCons (xVar 0) (xCons (xBin oIx (xBin oIx (xVar 0) (xC (.int 0))) (xC (.int 0))) (xCons (xBin oIx (xBin oIx (xVar 0) (xUn oNeg (xC (.int 1)))) (xC (.int 0))) xNil)))))
def d_run_all : List D → Option D := runD 1 1 g_run_all
theorem ok_run_all {f : Addr} {fd : FuncData} (F : FnP K "run_all" s_run_all f fd) (D_run_between : Def P w K mg base 5 "run_between" ["log", "begin", "end"] (d_run_between)) : FnOk P w K mg base CX0 6 f fd ["log"] (spD K 1 d_run_all) := by
  have nd := sc_run_all.nd
  refine fnp_ok (k := 5) (O' := []) F sc_run_all fun cdv A outer s H E hr => ?_
  exact (by exact ss_last (by exact ss_ret (by exact se_callD D_run_between hr (by exact sa_cons (by exact se_var 0) (by exact sa_cons (by exact se_ix (by exact se_ix (by exact se_var 0) se_int) se_int) (by exact sa_cons (by exact se_ix (by exact se_ix (by exact se_var 0) (by exact se_un un_negD se_int)) se_int) sa_nil))))))
/-! ### hour_of -/
abbrev s_hour_of : Stmt := topS 26
theorem sc_hour_of : FnScope ["log", "way", "hour"] ["log", "way"] (defScope s_hour_of) := ⟨rfl, rfl, rfl, by decide +kernel, rfl, by decide +kernel, by decide +kernel⟩
def l1_hour_of : XS :=
  (sSeq (sIf (tNotP (tTru (xCall (fun ds => if ds.length = 2 then (d_is_less) ds else none) (xCons (xCall (fun ds => if ds.length = 3 then (d_run_between) ds else none) (xCons (xVar 0) (xCons (xBin oIx (xBin oIx (xVar 0) (xC (.int 0))) (xC (.int 0))) (xCons (xVar 2) xNil)))) (xCons (xCall (fun ds => if ds.length = 1 then (d_whole) ds else none) (xCons (xVar 1) xNil)) xNil))))) (sRet (xVar 2)) sNop)
  sNop)
def g_hour_of : XS :=
  (sSeq (sFor (xIt oR2 (xCons (xBin oIx (xBin oIx (xVar 0) (xC (.int 0))) (xC (.int 0))) (xCons (xBin oAdd (xBin oIx (xBin oIx (xVar 0) (xUn oNeg (xC (.int 1)))) (xC (.int 0))) (xC (.int 1))) xNil))) (gSet 2) l1_hour_of)
  (sRet (xC .none)))
def d_hour_of : List D → Option D := runD 2 3 g_hour_of
theorem ok_hour_of {f : Addr} {fd : FuncData} (F : FnP K "hour_of" s_hour_of f fd) (D_is_less : Def P w K mg base 1 "is_less" ["first", "second"] (d_is_less)) (D_whole : Def P w K mg base 1 "whole" ["number"] (d_whole)) (D_run_between : Def P w K mg base 5 "run_between" ["log", "begin", "end"] (d_run_between)) (b_range : mg "range" = none) : FnOk P w K mg base CX0 6 f fd ["log", "way"] (spD K 2 d_hour_of) := by
  have nd := sc_hour_of.nd
  refine fnp_ok (k := 5) (O' := []) F sc_hour_of fun cdv A outer s H E hr => ?_
  exact (by exact ss_cons (by exact ss_for (O' := []) (by exact si_r2 (st := false) b_range (by exact sa_cons (by exact se_ix (by exact se_ix (by exact se_var 0) se_int) se_int) (by exact sa_cons (by exact se_op op_addD (by exact se_ix (by exact se_ix (by exact se_var 0) (by exact se_un un_negD se_int)) se_int) se_int) sa_nil))) (by exact sg_name 2 nd) (by exact ss_cons (by exact ss_if (O' := []) (by exact st_not (by exact st_val (by exact se_callD D_is_less hr (by exact sa_cons (by exact se_callD D_run_between hr (by exact sa_cons (by exact se_var 0) (by exact sa_cons (by exact se_ix (by exact se_ix (by exact se_var 0) se_int) se_int) (by exact sa_cons (by exact se_var 2) sa_nil)))) (by exact sa_cons (by exact se_callD D_whole hr (by exact sa_cons (by exact se_var 1) sa_nil)) sa_nil))))) (by exact ss_last (by exact ss_ret (by exact se_var 2))) ss_nil) ss_nil)) (by exact ss_last (by exact ss_ret se_non)))
/-! ### mean_speed -/
abbrev s_mean_speed : Stmt := topS 27
theorem sc_mean_speed : FnScope ["log", "hours"] ["log"] (defScope s_mean_speed) := ⟨rfl, rfl, rfl, by decide +kernel, rfl, by decide +kernel, by decide +kernel⟩
def g_mean_speed : XS :=
  (sSeq (sSet 1 (xBin oSub (xBin oIx (xBin oIx (xVar 0) (xUn oNeg (xC (.int 1)))) (xC (.int 0))) (xBin oIx (xBin oIx (xVar 0) (xC (.int 0))) (xC (.int 0)))))
  (sRet (xIf (tOf (xBin oEq (xVar 1) (xC (.int 0)))) (xC .none) (xCall (fun ds => if ds.length = 2 then (d_times) ds else none) (xCons (xCall (fun ds => if ds.length = 1 then (d_run_all) ds else none) (xCons (xVar 0) xNil)) (xCons (xCall (fun ds => if ds.length = 2 then ((d_lowest) ds).bind fun d => if flat d then some d else none else none) (xCons (xC (.int 1)) (xCons (xVar 1) xNil))) xNil))))))
def d_mean_speed : List D → Option D := runD 1 2 g_mean_speed
theorem ok_mean_speed {f : Addr} {fd : FuncData} (F : FnP K "mean_speed" s_mean_speed f fd) (D_lowest : Def P w K mg base 2 "lowest" ["a", "b"] (d_lowest)) (D_times : Def P w K mg base 3 "times" ["first", "second"] (d_times)) (D_run_all : Def P w K mg base 6 "run_all" ["log"] (d_run_all)) : FnOk P w K mg base CX0 7 f fd ["log"] (spD K 1 d_mean_speed) := by
  have nd := sc_mean_speed.nd
  refine fnp_ok (k := 6) (O' := []) F sc_mean_speed fun cdv A outer s H E hr => ?_
  exact (by exact ss_cons (by exact ss_setF 1 nd (by exact se_op op_subD (by exact se_ix (by exact se_ix (by exact se_var 0) (by exact se_un un_negD se_int)) se_int) (by exact se_ix (by exact se_ix (by exact se_var 0) se_int) se_int))) (by exact ss_last (by exact ss_ret (by exact se_if (by exact st_cmp (op_eqP hr) (by exact se_varW 1) se_int) (by exact SE.toS se_non) (by exact se_callD D_times hr (by exact sa_cons (by exact se_callD D_run_all hr (by exact sa_cons (by exact se_var 0) sa_nil)) (by exact sa_cons (by exact se_callWD D_lowest hr (by exact sa_cons se_int (by exact sa_cons (by exact se_varW 1) sa_nil))) sa_nil)))))))
/-! ### fastest -/
abbrev s_fastest : Stmt := topS 28
theorem sc_fastest : FnScope ["log", "length", "begin", "best", "found", "way"] ["log", "length"] (defScope s_fastest) := ⟨rfl, rfl, rfl, by decide +kernel, rfl, by decide +kernel, by decide +kernel⟩
def l1_fastest : XS :=
  (sSeq (sSet 5 (xCall (fun ds => if ds.length = 3 then (d_run_between) ds else none) (xCons (xVar 0) (xCons (xVar 2) (xCons (xBin oAdd (xVar 2) (xVar 1)) xNil)))))
  (sSeq (sIf (tOrP (tOf (xBin oIs (xVar 3) (xC .none))) (tTru (xCall (fun ds => if ds.length = 2 then (d_is_less) ds else none) (xCons (xVar 3) (xCons (xVar 5) xNil))))) (sSeq (sPar [3, 4] (xCons (xVar 5) (xCons (xTup (xCons (xVar 2) (xCons (xBin oAdd (xVar 2) (xVar 1)) xNil))) xNil)))
  sNop) sNop)
  sNop))
def g_fastest : XS :=
  (sSeq (sTgt (gTupD 2 (gsCons (gSet 3) (gsCons (gSet 4) gsNil))) (xTup (xCons (xC .none) (xCons (xC .none) xNil))))
  (sSeq (sFor (xIt oR2 (xCons (xBin oIx (xBin oIx (xVar 0) (xC (.int 0))) (xC (.int 0))) (xCons (xBin oAdd (xBin oSub (xBin oIx (xBin oIx (xVar 0) (xUn oNeg (xC (.int 1)))) (xC (.int 0))) (xVar 1)) (xC (.int 1))) xNil))) (gSet 2) l1_fastest)
  (sRet (xVar 4))))
def d_fastest : List D → Option D := runD 2 6 g_fastest
theorem ok_fastest {f : Addr} {fd : FuncData} (F : FnP K "fastest" s_fastest f fd) (D_is_less : Def P w K mg base 1 "is_less" ["first", "second"] (d_is_less)) (D_run_between : Def P w K mg base 5 "run_between" ["log", "begin", "end"] (d_run_between)) (b_range : mg "range" = none) : FnOk P w K mg base CX0 6 f fd ["log", "length"] (spD K 2 d_fastest) := by
  have nd := sc_fastest.nd
  refine fnp_ok (k := 5) (O' := []) F sc_fastest fun cdv A outer s H E hr => ?_
  exact (by exact ss_cons (by exact ss_tgt (by exact se_tup (by exact sa_cons se_non (by exact sa_cons se_non sa_nil))) (by exact sg_tup rfl (by exact sgs_cons (by exact sg_name 3 nd) (by exact sgs_cons (by exact sg_name 4 nd) sgs_nil)))) (by exact ss_cons (by exact ss_for (O' := []) (by exact si_r2 (st := false) b_range (by exact sa_cons (by exact se_ix (by exact se_ix (by exact se_var 0) se_int) se_int) (by exact sa_cons (by exact se_op op_addD (by exact se_op op_subD (by exact se_ix (by exact se_ix (by exact se_var 0) (by exact se_un un_negD se_int)) se_int) (by exact se_var 1)) se_int) sa_nil))) (by exact sg_name 2 nd) (by exact ss_cons (by exact ss_setS 5 nd (by exact se_callD D_run_between hr (by exact sa_cons (by exact se_var 0) (by exact sa_cons (by exact se_var 2) (by exact sa_cons (by exact se_op op_addD (by exact se_var 2) (by exact se_var 1)) sa_nil))))) (by exact ss_cons (by exact ss_if (O' := []) (by exact SW.st (by exact sw_or (by exact st_cmp op_isD (by exact se_var 3) se_non) (by exact sw_or1 (by exact st_val (by exact se_callD D_is_less hr (by exact sa_cons (by exact se_var 3) (by exact sa_cons (by exact se_var 5) sa_nil))))))) (by exact ss_cons (by exact ss_par 3 4 nd (by exact sam_cons (by exact se_var 5) (by exact sam_cons (by exact se_tup (by exact sa_cons (by exact se_var 2) (by exact sa_cons (by exact se_op op_addD (by exact se_var 2) (by exact se_var 1)) sa_nil))) sam_nil))) ss_nil) ss_nil) ss_nil))) (by exact ss_last (by exact ss_ret (by exact se_var 4)))))
/-! ### run_bounds -/
abbrev s_run_bounds : Stmt := topS 29
theorem sc_run_bounds : FnScope ["log", "e", "low", "hour", "speed"] ["log", "e"] (defScope s_run_bounds) := ⟨rfl, rfl, rfl, by decide +kernel, rfl, by decide +kernel, by decide +kernel⟩
def g_run_bounds : XS :=
  (sSeq (sSet 2 (xCall (fun ds => if ds.length = 1 then (d_run_all) ds else none) (xCons (xLc (xSeq (xVar 0)) (gTupD 2 (gsCons (gSet 3) (gsCons (gSet 4) gsNil))) tYesP (xTup (xCons (xVar 3) (xCons (xBin oSub (xVar 4) (xVar 1)) xNil))) [3, 4]) xNil)))
  (sRet (xTup (xCons (xVar 2) (xCons (xCall (fun ds => if ds.length = 1 then (d_run_all) ds else none) (xCons (xLc (xSeq (xVar 0)) (gTupD 2 (gsCons (gSet 3) (gsCons (gSet 4) gsNil))) tYesP (xTup (xCons (xVar 3) (xCons (xBin oAdd (xVar 4) (xVar 1)) xNil))) [3, 4]) xNil)) xNil)))))
def d_run_bounds : List D → Option D := runD 2 5 g_run_bounds
theorem ok_run_bounds {f : Addr} {fd : FuncData} (F : FnP K "run_bounds" s_run_bounds f fd) (D_run_all : Def P w K mg base 6 "run_all" ["log"] (d_run_all)) : FnOk P w K mg base CX0 7 f fd ["log", "e"] (spD K 2 d_run_bounds) := by
  have nd := sc_run_bounds.nd
  refine fnp_ok (k := 6) (O' := []) F sc_run_bounds fun cdv A outer s H E hr => ?_
  exact (by exact ss_cons (by exact ss_setS 2 nd (by exact se_callD D_run_all hr (by exact sa_cons (by exact se_lc nd (by exact si_seq (m := .s) (by exact se_var 0)) (blkOk_by (own := [("hour", 3), ("speed", 4)]) rfl) (fun _ _ _ _ _ => (by exact sg_tup rfl (by exact sgs_cons (by exact sg_name 3 nd) (by exact sgs_cons (by exact sg_name 4 nd) sgs_nil)))) (fun _ _ _ _ _ => sts_nil) (fun _ _ _ _ _ => (by exact se_tup (by exact sa_cons (by exact se_var 3) (by exact sa_cons (by exact se_op op_subD (by exact se_var 4) (by exact se_var 1)) sa_nil))))) sa_nil))) (by exact ss_last (by exact ss_ret (by exact se_tup (by exact sa_cons (by exact se_var 2) (by exact sa_cons (by exact se_callD D_run_all hr (by exact sa_cons (by exact se_lc nd (by exact si_seq (m := .s) (by exact se_var 0)) (blkOk_by (own := [("hour", 3), ("speed", 4)]) rfl) (fun _ _ _ _ _ => (by exact sg_tup rfl (by exact sgs_cons (by exact sg_name 3 nd) (by exact sgs_cons (by exact sg_name 4 nd) sgs_nil)))) (fun _ _ _ _ _ => sts_nil) (fun _ _ _ _ _ => (by exact se_tup (by exact sa_cons (by exact se_var 3) (by exact sa_cons (by exact se_op op_addD (by exact se_var 4) (by exact se_var 1)) sa_nil))))) sa_nil)) sa_nil))))))
/-! ### _law_mixed -/
abbrev s__law_mixed : Stmt := topS 31
theorem sc__law_mixed : FnScope ["script", "k", "cell", "first", "second", "third"] ["script", "k"] (defScope s__law_mixed) := ⟨rfl, rfl, rfl, by decide +kernel, rfl, by decide +kernel, by decide +kernel⟩
def g__law_mixed : XS :=
  (sSeq (sSet 2 (xC (.int 0)))
  (sSeq (sIf (tOf (xBin oGt (xCall bLen (xCons (xVar 0) xNil)) (xC (.int 0)))) (sSeq (sSet 2 (xBin oIx (xVar 0) (xBin oMod (xVar 1) (xCall bLen (xCons (xVar 0) xNil)))))
  sNop) sNop)
  (sSeq (sSet 3 (xBin oMod (xCall bInt (xCons (xBin oAdd (xBin oAdd (xBin oMul' (xVar 2) (xC (.int 48271))) (xBin oMul' (xVar 1) (xC (.int 69621)))) (xC (.int 8191))) xNil)) (xC (.int 2147483647))))
  (sSeq (sSet 4 (xBin oMod (xCall bInt (xCons (xBin oAdd (xBin oAdd (xBin oMul' (xVar 3) (xVar 3)) (xBin oFdiv (xVar 3) (xC (.int 7)))) (xBin oMul' (xVar 1) (xC (.int 16807)))) xNil)) (xC (.int 2147483629))))
  (sSeq (sSet 5 (xBin oMod (xCall bInt (xCons (xBin oAdd (xBin oAdd (xBin oMul' (xVar 4) (xVar 4)) (xBin oFdiv (xVar 4) (xC (.int 11)))) (xC (.int 40692))) xNil)) (xC (.int 2147483563))))
  (sRet (xBin oMod (xBin oFdiv (xVar 5) (xC (.int 5))) (xC (.int 1000003)))))))))
def d__law_mixed : List D → Option D := runD 2 6 g__law_mixed
theorem ok__law_mixed {f : Addr} {fd : FuncData} (F : FnP K "_law_mixed" s__law_mixed f fd) (b_int : mg "int" = none) (b_len : mg "len" = none) : FnOk P w K mg base CX0 1 f fd ["script", "k"] (spD K 2 d__law_mixed) := by
  have nd := sc__law_mixed.nd
  refine fnp_ok (k := 0) (O' := []) F sc__law_mixed fun cdv A outer s H E hr => ?_
  exact (by exact ss_cons (by exact ss_setF 2 nd se_int) (by exact ss_cons (by exact ss_if (O' := []) (by exact st_cmp op_gtD (by exact se_callB (st := false) cb_len b_len (by exact sa_cons (by exact se_var 0) sa_nil)) se_int) (by exact ss_cons (by exact ss_setS 2 nd (by exact se_ix (by exact se_var 0) (by exact se_op op_modD (by exact se_var 1) (by exact se_callB (st := false) cb_len b_len (by exact sa_cons (by exact se_var 0) sa_nil))))) ss_nil) ss_nil) (by exact ss_cons (by exact ss_setF 3 nd (by exact se_op op_modD (by exact se_callT (st := false) cb_int b_int (by exact sa_cons (by exact se_op op_addD (by exact se_op op_addD (by exact se_op op_mulD' (by exact se_var 2) se_int) (by exact se_op op_mulD' (by exact se_var 1) se_int)) se_int) sa_nil)) se_int)) (by exact ss_cons (by exact ss_setF 4 nd (by exact se_op op_modD (by exact se_callT (st := false) cb_int b_int (by exact sa_cons (by exact se_op op_addD (by exact se_op op_addD (by exact se_op op_mulD' (by exact se_varW 3) (by exact se_varW 3)) (by exact se_op op_fdivD (by exact se_varW 3) se_int)) (by exact se_op op_mulD' (by exact se_var 1) se_int)) sa_nil)) se_int)) (by exact ss_cons (by exact ss_setF 5 nd (by exact se_op op_modD (by exact se_callT (st := false) cb_int b_int (by exact sa_cons (by exact se_op op_addD (by exact se_op op_addD (by exact se_op op_mulD' (by exact se_varW 4) (by exact se_varW 4)) (by exact se_op op_fdivD (by exact se_varW 4) se_int)) se_int) sa_nil)) se_int)) (by exact ss_last (by exact ss_ret (by exact se_op op_modD (by exact se_op op_fdivD (by exact se_varW 5) se_int) se_int))))))))
/-! ### _law_row -/
abbrev s__law_row : Stmt := topS 32
theorem sc__law_row : FnScope ["script", "many", "big", "row", "k"] ["script", "many"] (defScope s__law_row) := ⟨rfl, rfl, rfl, by decide +kernel, rfl, by decide +kernel, by decide +kernel⟩
def l1__law_row : XS :=
  (sSeq (sIf (tOf (xBin oGt (xVar 2) (xC (.int 0)))) (sSeq (sApp 3 (xBin oMod (xCall bInt (xCons (xVar 2) xNil)) (xC (.int 1000))))
  (sSeq (sSet 2 (xBin oFdiv (xVar 2) (xC (.int 1000))))
  sNop)) (sSeq (sApp 3 (xCall (fun ds => if ds.length = 2 then (d__law_mixed) ds else none) (xCons (xVar 0) (xCons (xVar 4) xNil))))
  sNop))
  sNop)
def g__law_row : XS :=
  (sSeq (sSet 2 (xC (.int 0)))
  (sSeq (sIf (tAndP (tOf (xBin oGt (xCall bLen (xCons (xVar 0) xNil)) (xC (.int 0)))) (tOf (xBin oGe (xBin oIx (xVar 0) (xC (.int 0))) (xBin oPow (xC (.int 10)) (xC (.int 18)))))) (sSeq (sSet 2 (xBin oIx (xVar 0) (xC (.int 0))))
  sNop) sNop)
  (sSeq (sSet 3 (xLst xNil))
  (sSeq (sFor (xIt oR1 (xCons (xVar 1) xNil)) (gSet 4) l1__law_row)
  (sRet (xVar 3))))))
def d__law_row : List D → Option D := runD 2 5 g__law_row
theorem ok__law_row {f : Addr} {fd : FuncData} (F : FnP K "_law_row" s__law_row f fd) (D__law_mixed : Def P w K mg base 1 "_law_mixed" ["script", "k"] (d__law_mixed)) (b_int : mg "int" = none) (b_len : mg "len" = none) (b_range : mg "range" = none) : FnOk P w K mg base CX0 2 f fd ["script", "many"] (spD K 2 d__law_row) := by
  have nd := sc__law_row.nd
  refine fnp_ok (k := 1) (O' := []) F sc__law_row fun cdv A outer s H E hr => ?_
  exact (by exact ss_cons (by exact ss_setF 2 nd se_int) (by exact ss_cons (by exact ss_if (O' := []) (by exact SW.st (by exact sw_and (by exact st_cmp op_gtD (by exact se_callB (st := false) cb_len b_len (by exact sa_cons (by exact se_var 0) sa_nil)) se_int) (by exact sw_and1 (by exact st_cmp op_geD (by exact se_ix (by exact se_var 0) se_int) (by exact se_op op_powD se_int se_int))))) (by exact ss_cons (by exact ss_setS 2 nd (by exact se_ix (by exact se_var 0) se_int)) ss_nil) ss_nil) (by exact ss_cons (by exact ss_setF 3 nd (by exact se_lst sa_nil)) (by exact ss_cons (by exact ss_for (O' := [3]) (by exact si_r1 (st := false) b_range (by exact sa_cons (by exact se_var 1) sa_nil)) (by exact sg_name 4 nd) (by exact ss_cons (by exact ss_if (O' := [3]) (by exact st_cmp op_gtD (by exact se_var 2) se_int) (by exact ss_cons (by exact ss_app 3 (by exact se_op op_modD (by exact se_callT (st := false) cb_int b_int (by exact sa_cons (by exact se_var 2) sa_nil)) se_int)) (by exact ss_cons (by exact ss_setF 2 nd (by exact se_op op_fdivD (by exact se_var 2) se_int)) ss_nil)) (by exact ss_cons (by exact ss_app 3 (by exact se_callD D__law_mixed hr (by exact sa_cons (by exact se_var 0) (by exact sa_cons (by exact se_var 4) sa_nil)))) ss_nil)) ss_nil)) (by exact ss_last (by exact SS.weak (O1 := []) (by exact ss_ret (by exact se_var 3))))))))
/-! ### _law_is_int -/
abbrev s__law_is_int : Stmt := topS 33
theorem sc__law_is_int : FnScope ["value"] ["value"] (defScope s__law_is_int) := ⟨rfl, rfl, rfl, by decide +kernel, rfl, by decide +kernel, by decide +kernel⟩
def g__law_is_int : XS :=
  (sRet (xAnd (xUn (oIsi "int") (xVar 0)) (xUn oNot (xUn (oIsi "bool") (xVar 0)))))
def d__law_is_int : List D → Option D := runD 1 1 g__law_is_int
theorem ok__law_is_int {f : Addr} {fd : FuncData} (F : FnP K "_law_is_int" s__law_is_int f fd) (b_bool : mg "bool" = none) (b_int : mg "int" = none) (b_isinstance : mg "isinstance" = none) : FnOk P w K mg base CX0 1 f fd ["value"] (spD K 1 d__law_is_int) := by
  have nd := sc__law_is_int.nd
  refine fnp_ok (k := 0) (O' := []) F sc__law_is_int fun cdv A outer s H E hr => ?_
  exact (by exact ss_last (by exact ss_ret (by exact se_and (by exact se_isi "int" (by exact se_var 0) b_isinstance b_int) (by exact se_bone (by exact se_not (m := .f) (by exact se_isi "bool" (by exact se_var 0) b_isinstance b_bool))))))
/-! ### _law_like -/
abbrev s__law_like : Stmt := topS 34
theorem sc__law_like : FnScope ["value", "due", "k"] ["value", "due"] (defScope s__law_like) := ⟨rfl, rfl, rfl, by decide +kernel, rfl, by decide +kernel, by decide +kernel⟩
def g__law_like (d__law_like : List D → Option D) : XS :=
  (sSeq (sIf (tOf (xBin oIs (xVar 1) (xC .none))) (sRet (xBin oIs (xVar 0) (xC .none))) sNop)
  (sSeq (sIf (tTru (xUn (oIsi "bool") (xVar 1))) (sRet (xAnd (xUn (oIsi "bool") (xVar 0)) (xBin oEq (xVar 0) (xVar 1)))) sNop)
  (sSeq (sIf (tTru (xUn (oIsi "tuple") (xVar 1))) (sSeq (sIf (tOrP (tNotP (tTru (xUn (oIsi "tuple") (xVar 0)))) (tOf (xBin oNe (xCall bLen (xCons (xVar 0) xNil)) (xCall bLen (xCons (xVar 1) xNil))))) (sRet (xC (.bool false))) sNop)
  (sRet (xCall bAll (xCons (xLc (xIt oR1 (xCons (xCall bLen (xCons (xVar 1) xNil)) xNil)) (gSet 2) tYesP (xCall (fun ds => if ds.length = 2 then d__law_like ds else none) (xCons (xBin oIx (xVar 0) (xVar 2)) (xCons (xBin oIx (xVar 1) (xVar 2)) xNil))) [2]) xNil)))) sNop)
  (sSeq (sIf (tTru (xUn (oIsi "str") (xVar 1))) (sRet (xAnd (xUn (oIsi "str") (xVar 0)) (xBin oEq (xVar 0) (xVar 1)))) sNop)
  (sRet (xAnd (xCall (fun ds => if ds.length = 1 then (d__law_is_int) ds else none) (xCons (xVar 0) xNil)) (xBin oEq (xVar 0) (xVar 1))))))))
def d__law_like : Nat → List D → Option D
  | 0 => fun _ => none
  | n + 1 => runD 2 3 (g__law_like (d__law_like n))
theorem ok__law_like {f : Addr} {fd : FuncData} (F : FnP K "_law_like" s__law_like f fd) (hm : mg "_law_like" = some (.ref f)) (kp : PySem.W.keepIn K (.ref f) = true) (hb : Binds K fd ["value", "due"] []) (D__law_is_int : Def P w K mg base 1 "_law_is_int" ["value"] (d__law_is_int)) (b_all : mg "all" = none) (b_bool : mg "bool" = none) (b_isinstance : mg "isinstance" = none) (b_len : mg "len" = none) (b_range : mg "range" = none) (b_str : mg "str" = none) (b_tuple : mg "tuple" = none) : ∀ n, FnOk P w K mg base CX0 (2 + n) f fd ["value", "due"] (spD K 2 (d__law_like n)) := by
  intro n
  induction n with
  | zero => exact fn_none F sc__law_like
  | succ n ih =>
    have nd := sc__law_like.nd
    have D__law_like : Def P w K mg base (2 + n) "_law_like" ["value", "due"] (d__law_like n) := def_ok ih hm kp hb
    refine fnp_ok (k := 2 + n) (O' := []) F sc__law_like fun cdv A outer s H E hr => ?_
    exact (by exact ss_cons (by exact ss_if (O' := []) (by exact st_cmp op_isD (by exact se_var 1) se_non) (by exact ss_last (by exact ss_ret (by exact se_cmp op_isD (by exact se_var 0) se_non))) ss_nil) (by exact ss_cons (by exact ss_if (O' := []) (by exact st_val (by exact se_isi "bool" (by exact se_var 1) b_isinstance b_bool)) (by exact ss_last (by exact ss_ret (by exact se_and (by exact se_isi "bool" (by exact se_var 0) b_isinstance b_bool) (by exact se_bone (by exact se_cmp (op_eqP hr) (by exact se_var 0) (by exact se_var 1)))))) ss_nil) (by exact ss_cons (by exact ss_if (O' := []) (by exact st_val (by exact se_isi "tuple" (by exact se_var 1) b_isinstance b_tuple)) (by exact ss_cons (by exact ss_if (O' := []) (by exact SW.st (by exact sw_or (by exact st_not (by exact st_val (by exact se_isi "tuple" (by exact se_var 0) b_isinstance b_tuple))) (by exact sw_or1 (by exact st_cmp (op_neP hr) (by exact se_callB (st := false) cb_len b_len (by exact sa_cons (by exact se_var 0) sa_nil)) (by exact se_callB (st := false) cb_len b_len (by exact sa_cons (by exact se_var 1) sa_nil)))))) (by exact ss_last (by exact ss_ret se_bl)) ss_nil) (by exact ss_last (by exact ss_ret (by exact se_callB (st := false) cb_all b_all (by exact sa_cons (by exact se_lc nd (by exact si_r1 (st := false) b_range (by exact sa_cons (by exact se_callB (st := false) cb_len b_len (by exact sa_cons (by exact se_var 1) sa_nil)) sa_nil)) (blkOk_by (own := [("k", 2)]) rfl) (fun _ _ _ _ _ => (by exact sg_name 2 nd)) (fun _ _ _ _ _ => sts_nil) (fun _ _ _ _ _ => (by exact se_callD (hk := by omega) D__law_like hr (by exact sa_cons (by exact se_ix (by exact se_var 0) (by exact se_var 2)) (by exact sa_cons (by exact se_ix (by exact se_var 1) (by exact se_var 2)) sa_nil))))) sa_nil))))) ss_nil) (by exact ss_cons (by exact ss_if (O' := []) (by exact st_val (by exact se_isi "str" (by exact se_var 1) b_isinstance b_str)) (by exact ss_last (by exact ss_ret (by exact se_and (by exact se_isi "str" (by exact se_var 0) b_isinstance b_str) (by exact se_bone (by exact se_cmp (op_eqP hr) (by exact se_var 0) (by exact se_var 1)))))) ss_nil) (by exact ss_last (by exact ss_ret (by exact se_and (by exact se_callD (hk := by omega) D__law_is_int hr (by exact sa_cons (by exact se_var 0) sa_nil)) (by exact se_bone (by exact se_cmp (op_eqP hr) (by exact se_var 0) (by exact se_var 1))))))))))
/-! ### _law_common -/
abbrev s__law_common : Stmt := topS 35
theorem sc__law_common : FnScope ["first", "second"] ["first", "second"] (defScope s__law_common) := ⟨rfl, rfl, rfl, by decide +kernel, rfl, by decide +kernel, by decide +kernel⟩
def l1__law_common : XS :=
  (sSeq (sPar [0, 1] (xCons (xVar 1) (xCons (xBin oMod (xCall bInt (xCons (xVar 0) xNil)) (xVar 1)) xNil)))
  sNop)
def g__law_common : XS :=
  (sSeq (sPar [0, 1] (xCons (xCall bAbs (xCons (xVar 0) xNil)) (xCons (xCall bAbs (xCons (xVar 1) xNil)) xNil)))
  (sSeq (sWhile (tOf (xBin oGt (xVar 1) (xC (.int 0)))) l1__law_common)
  (sRet (xVar 0))))
def d__law_common : List D → Option D := runD 2 2 g__law_common
theorem ok__law_common {f : Addr} {fd : FuncData} (F : FnP K "_law_common" s__law_common f fd) (b_abs : mg "abs" = none) (b_int : mg "int" = none) : FnOk P w K mg base CX0 1 f fd ["first", "second"] (spD K 2 d__law_common) := by
  have nd := sc__law_common.nd
  refine fnp_ok (k := 0) (O' := []) F sc__law_common fun cdv A outer s H E hr => ?_
  exact (by exact ss_cons (by exact ss_par 0 1 nd (by exact sam_cons (by exact se_callB (st := false) cb_abs b_abs (by exact sa_cons (by exact se_var 0) sa_nil)) (by exact sam_cons (by exact se_callB (st := false) cb_abs b_abs (by exact sa_cons (by exact se_var 1) sa_nil)) sam_nil))) (by exact ss_cons (by exact SS.weak (O1 := [1]) (by exact ss_while (O' := [1]) (by exact st_cmp op_gtD (by exact se_varW 1) se_int) (by exact ss_cons (by exact SS.weak (O1 := []) (by exact ss_par 0 1 nd (by exact sam_cons (by exact se_var 1) (by exact sam_cons (by exact se_op op_modD (by exact se_callT (st := false) cb_int b_int (by exact sa_cons (by exact se_var 0) sa_nil)) (by exact se_var 1)) sam_nil)))) ss_nil))) (by exact ss_last (by exact ss_ret (by exact se_var 0)))))
/-! ### _law_ratio -/
abbrev s__law_ratio : Stmt := topS 36
theorem sc__law_ratio : FnScope ["a", "b", "shared"] ["a", "b"] (defScope s__law_ratio) := ⟨rfl, rfl, rfl, by decide +kernel, rfl, by decide +kernel, by decide +kernel⟩
def g__law_ratio : XS :=
  (sSeq (sSet 2 (xCall (fun ds => if ds.length = 2 then (d__law_common) ds else none) (xCons (xVar 0) (xCons (xVar 1) xNil))))
  (sSeq (sIf (tOf (xBin oLt (xVar 1) (xC (.int 0)))) (sSeq (sSet 2 (xUn oNeg (xVar 2)))
  sNop) sNop)
  (sRet (xTup (xCons (xBin oFdiv (xVar 0) (xVar 2)) (xCons (xBin oFdiv (xVar 1) (xVar 2)) xNil))))))
def d__law_ratio : List D → Option D := runD 2 3 g__law_ratio
theorem ok__law_ratio {f : Addr} {fd : FuncData} (F : FnP K "_law_ratio" s__law_ratio f fd) (D__law_common : Def P w K mg base 1 "_law_common" ["first", "second"] (d__law_common)) : FnOk P w K mg base CX0 2 f fd ["a", "b"] (spD K 2 d__law_ratio) := by
  have nd := sc__law_ratio.nd
  refine fnp_ok (k := 1) (O' := []) F sc__law_ratio fun cdv A outer s H E hr => ?_
  exact (by exact ss_cons (by exact ss_setS 2 nd (by exact se_callD D__law_common hr (by exact sa_cons (by exact se_var 0) (by exact sa_cons (by exact se_var 1) sa_nil)))) (by exact ss_cons (by exact ss_if (O' := []) (by exact st_cmp op_ltD (by exact se_var 1) se_int) (by exact ss_cons (by exact ss_setF 2 nd (by exact se_un un_negD (by exact se_var 2))) ss_nil) ss_nil) (by exact ss_last (by exact ss_ret (by exact se_tup (by exact sa_cons (by exact se_op op_fdivD (by exact se_var 0) (by exact se_var 2)) (by exact sa_cons (by exact se_op op_fdivD (by exact se_var 1) (by exact se_var 2)) sa_nil)))))))
/-! ### _law_sum -/
abbrev s__law_sum : Stmt := topS 37
theorem sc__law_sum : FnScope ["ratios", "top", "under", "a", "b"] ["ratios"] (defScope s__law_sum) := ⟨rfl, rfl, rfl, by decide +kernel, rfl, by decide +kernel, by decide +kernel⟩
def l1__law_sum : XS :=
  (sSeq (sPar [1, 2] (xCons (xBin oAdd (xBin oMul' (xVar 1) (xVar 4)) (xBin oMul' (xVar 3) (xVar 2))) (xCons (xBin oMul' (xVar 2) (xVar 4)) xNil)))
  sNop)
def g__law_sum : XS :=
  (sSeq (sTgt (gTupD 2 (gsCons (gSet 1) (gsCons (gSet 2) gsNil))) (xTup (xCons (xC (.int 0)) (xCons (xC (.int 1)) xNil))))
  (sSeq (sFor (xSeq (xVar 0)) (gTupD 2 (gsCons (gSet 3) (gsCons (gSet 4) gsNil))) l1__law_sum)
  (sRet (xCall (fun ds => if ds.length = 2 then (d__law_ratio) ds else none) (xCons (xVar 1) (xCons (xVar 2) xNil))))))
def d__law_sum : List D → Option D := runD 1 5 g__law_sum
theorem ok__law_sum {f : Addr} {fd : FuncData} (F : FnP K "_law_sum" s__law_sum f fd) (D__law_ratio : Def P w K mg base 2 "_law_ratio" ["a", "b"] (d__law_ratio)) : FnOk P w K mg base CX0 3 f fd ["ratios"] (spD K 1 d__law_sum) := by
  have nd := sc__law_sum.nd
  refine fnp_ok (k := 2) (O' := []) F sc__law_sum fun cdv A outer s H E hr => ?_
  exact (by exact ss_cons (by exact ss_tgt (by exact se_tup (by exact sa_cons se_int (by exact sa_cons se_int sa_nil))) (by exact sg_tup rfl (by exact sgs_cons (by exact sg_name 1 nd) (by exact sgs_cons (by exact sg_name 2 nd) sgs_nil)))) (by exact ss_cons (by exact ss_for (O' := []) (by exact si_seq (m := .s) (by exact se_var 0)) (by exact sg_tup rfl (by exact sgs_cons (by exact sg_name 3 nd) (by exact sgs_cons (by exact sg_name 4 nd) sgs_nil))) (by exact ss_cons (by exact ss_par 1 2 nd (by exact sam_cons (by exact se_op op_addD (by exact se_op op_mulD' (by exact se_var 1) (by exact se_var 4)) (by exact se_op op_mulD' (by exact se_var 3) (by exact se_var 2))) (by exact sam_cons (by exact se_op op_mulD' (by exact se_var 2) (by exact se_var 4)) sam_nil))) ss_nil)) (by exact ss_last (by exact ss_ret (by exact se_callD D__law_ratio hr (by exact sa_cons (by exact se_var 1) (by exact sa_cons (by exact se_var 2) sa_nil)))))))
/-! ### _law_less -/
abbrev s__law_less : Stmt := topS 38
theorem sc__law_less : FnScope ["one", "other"] ["one", "other"] (defScope s__law_less) := ⟨rfl, rfl, rfl, by decide +kernel, rfl, by decide +kernel, by decide +kernel⟩
def g__law_less : XS :=
  (sRet (xBin oLt (xBin oMul' (xBin oIx (xVar 0) (xC (.int 0))) (xBin oIx (xVar 1) (xC (.int 1)))) (xBin oMul' (xBin oIx (xVar 1) (xC (.int 0))) (xBin oIx (xVar 0) (xC (.int 1))))))
def d__law_less : List D → Option D := runD 2 2 g__law_less
theorem ok__law_less {f : Addr} {fd : FuncData} (F : FnP K "_law_less" s__law_less f fd) : FnOk P w K mg base CX0 1 f fd ["one", "other"] (spD K 2 d__law_less) := by
  have nd := sc__law_less.nd
  refine fnp_ok (k := 0) (O' := []) F sc__law_less fun cdv A outer s H E hr => ?_
  exact (by exact ss_last (by exact ss_ret (by exact se_cmp op_ltD (by exact se_op op_mulD' (by exact se_ix (by exact se_var 0) se_int) (by exact se_ix (by exact se_var 1) se_int)) (by exact se_op op_mulD' (by exact se_ix (by exact se_var 1) se_int) (by exact se_ix (by exact se_var 0) se_int)))))
/-! ### _law_rates -/
abbrev s__law_rates : Stmt := topS 39
theorem sc__law_rates : FnScope ["soundings", "e", "a", "low", "high", "b", "way", "rise"] ["soundings", "e"] (defScope s__law_rates) := ⟨rfl, rfl, rfl, by decide +kernel, rfl, by decide +kernel, by decide +kernel⟩
def l1__law_rates : XS :=
  (sSeq (sPar [6, 7] (xCons (xBin oSub (xBin oIx (xBin oIx (xVar 0) (xVar 5)) (xC (.int 0))) (xBin oIx (xBin oIx (xVar 0) (xVar 2)) (xC (.int 0)))) (xCons (xBin oSub (xBin oIx (xBin oIx (xVar 0) (xVar 5)) (xC (.int 1))) (xBin oIx (xBin oIx (xVar 0) (xVar 2)) (xC (.int 1)))) xNil)))
  (sSeq (sIf (tOrP (tOf (xBin oIs (xVar 3) (xC .none))) (tTru (xCall (fun ds => if ds.length = 2 then (d__law_less) ds else none) (xCons (xVar 3) (xCons (xTup (xCons (xBin oSub (xVar 7) (xBin oMul' (xC (.int 2)) (xVar 1))) (xCons (xVar 6) xNil))) xNil))))) (sSeq (sSet 3 (xTup (xCons (xBin oSub (xVar 7) (xBin oMul' (xC (.int 2)) (xVar 1))) (xCons (xVar 6) xNil))))
  sNop) sNop)
  (sSeq (sIf (tOrP (tOf (xBin oIs (xVar 4) (xC .none))) (tTru (xCall (fun ds => if ds.length = 2 then (d__law_less) ds else none) (xCons (xTup (xCons (xBin oAdd (xVar 7) (xBin oMul' (xC (.int 2)) (xVar 1))) (xCons (xVar 6) xNil))) (xCons (xVar 4) xNil))))) (sSeq (sSet 4 (xTup (xCons (xBin oAdd (xVar 7) (xBin oMul' (xC (.int 2)) (xVar 1))) (xCons (xVar 6) xNil))))
  sNop) sNop)
  sNop)))
def l2__law_rates : XS :=
  (sSeq (sFor (xIt oR2 (xCons (xBin oAdd (xVar 2) (xC (.int 1))) (xCons (xCall bLen (xCons (xVar 0) xNil)) xNil))) (gSet 5) l1__law_rates)
  sNop)
def g__law_rates : XS :=
  (sSeq (sTgt (gTupD 2 (gsCons (gSet 3) (gsCons (gSet 4) gsNil))) (xTup (xCons (xC .none) (xCons (xC .none) xNil))))
  (sSeq (sFor (xIt oR1 (xCons (xCall bLen (xCons (xVar 0) xNil)) xNil)) (gSet 2) l2__law_rates)
  (sSeq (sIf (tTru (xCall (fun ds => if ds.length = 2 then (d__law_less) ds else none) (xCons (xVar 4) (xCons (xVar 3) xNil)))) (sRet (xC .none)) sNop)
  (sRet (xTup (xCons (xCall (fun ds => if ds.length = 2 then (d__law_ratio) ds else none) (xCons (xBin oIx (xVar 3) (xC (.int 0))) (xCons (xBin oIx (xVar 3) (xC (.int 1))) xNil))) (xCons (xCall (fun ds => if ds.length = 2 then (d__law_ratio) ds else none) (xCons (xBin oIx (xVar 4) (xC (.int 0))) (xCons (xBin oIx (xVar 4) (xC (.int 1))) xNil))) xNil)))))))
def d__law_rates : List D → Option D := runD 2 8 g__law_rates
theorem ok__law_rates {f : Addr} {fd : FuncData} (F : FnP K "_law_rates" s__law_rates f fd) (D__law_ratio : Def P w K mg base 2 "_law_ratio" ["a", "b"] (d__law_ratio)) (D__law_less : Def P w K mg base 1 "_law_less" ["one", "other"] (d__law_less)) (b_len : mg "len" = none) (b_range : mg "range" = none) : FnOk P w K mg base CX0 3 f fd ["soundings", "e"] (spD K 2 d__law_rates) := by
  have nd := sc__law_rates.nd
  refine fnp_ok (k := 2) (O' := []) F sc__law_rates fun cdv A outer s H E hr => ?_
  exact (by exact ss_cons (by exact ss_tgt (by exact se_tup (by exact sa_cons se_non (by exact sa_cons se_non sa_nil))) (by exact sg_tup rfl (by exact sgs_cons (by exact sg_name 3 nd) (by exact sgs_cons (by exact sg_name 4 nd) sgs_nil)))) (by exact ss_cons (by exact ss_for (O' := []) (by exact si_r1 (st := false) b_range (by exact sa_cons (by exact se_callB (st := false) cb_len b_len (by exact sa_cons (by exact se_var 0) sa_nil)) sa_nil)) (by exact sg_name 2 nd) (by exact ss_cons (by exact ss_for (O' := []) (by exact si_r2 (st := false) b_range (by exact sa_cons (by exact se_op op_addD (by exact se_var 2) se_int) (by exact sa_cons (by exact se_callB (st := false) cb_len b_len (by exact sa_cons (by exact se_var 0) sa_nil)) sa_nil))) (by exact sg_name 5 nd) (by exact ss_cons (by exact ss_par 6 7 nd (by exact sam_cons (by exact se_op op_subD (by exact se_ix (by exact se_ix (by exact se_var 0) (by exact se_var 5)) se_int) (by exact se_ix (by exact se_ix (by exact se_var 0) (by exact se_var 2)) se_int)) (by exact sam_cons (by exact se_op op_subD (by exact se_ix (by exact se_ix (by exact se_var 0) (by exact se_var 5)) se_int) (by exact se_ix (by exact se_ix (by exact se_var 0) (by exact se_var 2)) se_int)) sam_nil))) (by exact ss_cons (by exact SS.weak (O1 := [7]) (by exact ss_if (O' := [7]) (by exact SW.st (by exact sw_or (by exact st_cmp op_isD (by exact se_var 3) se_non) (by exact sw_or1 (by exact st_val (by exact se_callD D__law_less hr (by exact sa_cons (by exact se_var 3) (by exact sa_cons (by exact se_tup (by exact sa_cons (by exact se_op op_subD (by exact se_varW 7) (by exact se_op op_mulD' se_int (by exact se_var 1))) (by exact sa_cons (by exact se_var 6) sa_nil))) sa_nil))))))) (by exact ss_cons (by exact ss_setF 3 nd (by exact se_tup (by exact sa_cons (by exact se_op op_subD (by exact se_varW 7) (by exact se_op op_mulD' se_int (by exact se_var 1))) (by exact sa_cons (by exact se_var 6) sa_nil)))) ss_nil) ss_nil)) (by exact ss_cons (by exact ss_if (O' := [7]) (by exact SW.st (by exact sw_or (by exact st_cmp op_isD (by exact se_var 4) se_non) (by exact sw_or1 (by exact st_val (by exact se_callD D__law_less hr (by exact sa_cons (by exact se_tup (by exact sa_cons (by exact se_op op_addD (by exact se_varW 7) (by exact se_op op_mulD' se_int (by exact se_var 1))) (by exact sa_cons (by exact se_var 6) sa_nil))) (by exact sa_cons (by exact se_var 4) sa_nil))))))) (by exact ss_cons (by exact ss_setF 4 nd (by exact se_tup (by exact sa_cons (by exact se_op op_addD (by exact se_varW 7) (by exact se_op op_mulD' se_int (by exact se_var 1))) (by exact sa_cons (by exact se_var 6) sa_nil)))) ss_nil) ss_nil) ss_nil)))) ss_nil)) (by exact ss_cons (by exact ss_if (O' := []) (by exact st_val (by exact se_callD D__law_less hr (by exact sa_cons (by exact se_var 4) (by exact sa_cons (by exact se_var 3) sa_nil)))) (by exact ss_last (by exact ss_ret se_non)) ss_nil) (by exact ss_last (by exact ss_ret (by exact se_tup (by exact sa_cons (by exact se_callD D__law_ratio hr (by exact sa_cons (by exact se_ix (by exact se_var 3) se_int) (by exact sa_cons (by exact se_ix (by exact se_var 3) se_int) sa_nil))) (by exact sa_cons (by exact se_callD D__law_ratio hr (by exact sa_cons (by exact se_ix (by exact se_var 4) se_int) (by exact sa_cons (by exact se_ix (by exact se_var 4) se_int) sa_nil))) sa_nil))))))))
/-! ### _law_lines -/
abbrev s__law_lines : Stmt := topS 40
theorem sc__law_lines : FnScope ["soundings", "e", "lines", "a", "b", "way", "first", "second", "off", "more", "rise", "base", "hour", "depth"] ["soundings", "e"] (defScope s__law_lines) := ⟨rfl, rfl, rfl, by decide +kernel, rfl, by decide +kernel, by decide +kernel⟩
def l1__law_lines : XS :=
  (sSeq (sSet 10 (xBin oSub (xBin oSub (xBin oAdd (xBin oIx (xVar 7) (xC (.int 1))) (xVar 9)) (xBin oIx (xVar 6) (xC (.int 1)))) (xVar 8)))
  (sSeq (sSet 11 (xBin oSub (xBin oMul' (xBin oAdd (xBin oIx (xVar 6) (xC (.int 1))) (xVar 8)) (xVar 5)) (xBin oMul' (xVar 10) (xBin oIx (xVar 6) (xC (.int 0))))))
  (sSeq (sIf (tTru (xCall bAll (xCons (xLc (xSeq (xVar 0)) (gTupD 2 (gsCons (gSet 12) (gsCons (gSet 13) gsNil))) tYesP (xBin oLe (xCall bAbs (xCons (xBin oSub (xBin oAdd (xVar 11) (xBin oMul' (xVar 10) (xVar 12))) (xBin oMul' (xVar 13) (xVar 5))) xNil)) (xBin oMul' (xVar 1) (xVar 5))) [12, 13]) xNil))) (sSeq (sApp 2 (xTup (xCons (xVar 10) (xCons (xVar 11) (xCons (xVar 5) xNil)))))
  sNop) sNop)
  sNop)))
def l2__law_lines : XS :=
  (sSeq (sPar [5, 6, 7] (xCons (xBin oSub (xBin oIx (xBin oIx (xVar 0) (xVar 4)) (xC (.int 0))) (xBin oIx (xBin oIx (xVar 0) (xVar 3)) (xC (.int 0)))) (xCons (xBin oIx (xVar 0) (xVar 3)) (xCons (xBin oIx (xVar 0) (xVar 4)) xNil))))
  (sSeq (sFor (xSeq (xTup (xCons (xTup (xCons (xUn oNeg (xVar 1)) (xCons (xUn oNeg (xVar 1)) xNil))) (xCons (xTup (xCons (xUn oNeg (xVar 1)) (xCons (xVar 1) xNil))) (xCons (xTup (xCons (xVar 1) (xCons (xUn oNeg (xVar 1)) xNil))) (xCons (xTup (xCons (xVar 1) (xCons (xVar 1) xNil))) xNil)))))) (gTupD 2 (gsCons (gSet 8) (gsCons (gSet 9) gsNil))) l1__law_lines)
  sNop))
def l3__law_lines : XS :=
  (sSeq (sFor (xIt oR2 (xCons (xBin oAdd (xVar 3) (xC (.int 1))) (xCons (xCall bLen (xCons (xVar 0) xNil)) xNil))) (gSet 4) l2__law_lines)
  sNop)
def g__law_lines : XS :=
  (sSeq (sSet 2 (xLst xNil))
  (sSeq (sFor (xIt oR1 (xCons (xCall bLen (xCons (xVar 0) xNil)) xNil)) (gSet 3) l3__law_lines)
  (sRet (xVar 2))))
def d__law_lines : List D → Option D := runD 2 14 g__law_lines
theorem ok__law_lines {f : Addr} {fd : FuncData} (F : FnP K "_law_lines" s__law_lines f fd) (b_abs : mg "abs" = none) (b_all : mg "all" = none) (b_len : mg "len" = none) (b_range : mg "range" = none) : FnOk P w K mg base CX0 1 f fd ["soundings", "e"] (spD K 2 d__law_lines) := by
  have nd := sc__law_lines.nd
  refine fnp_ok (k := 0) (O' := []) F sc__law_lines fun cdv A outer s H E hr => ?_
  exact (by exact ss_cons (by exact ss_setF 2 nd (by exact se_lst sa_nil)) (by exact ss_cons (by exact ss_for (O' := [2]) (by exact si_r1 (st := false) b_range (by exact sa_cons (by exact se_callB (st := false) cb_len b_len (by exact sa_cons (by exact se_var 0) sa_nil)) sa_nil)) (by exact sg_name 3 nd) (by exact ss_cons (by exact ss_for (O' := [2]) (by exact si_r2 (st := false) b_range (by exact sa_cons (by exact se_op op_addD (by exact se_var 3) se_int) (by exact sa_cons (by exact se_callB (st := false) cb_len b_len (by exact sa_cons (by exact se_var 0) sa_nil)) sa_nil))) (by exact sg_name 4 nd) (by exact ss_cons (by exact ss_parT [5, 6, 7] (by exact sam_cons (by exact se_op op_subD (by exact se_ix (by exact se_ix (by exact se_var 0) (by exact se_var 4)) se_int) (by exact se_ix (by exact se_ix (by exact se_var 0) (by exact se_var 3)) se_int)) (by exact sam_cons (by exact se_ix (by exact se_var 0) (by exact se_var 3)) (by exact sam_cons (by exact se_ix (by exact se_var 0) (by exact se_var 4)) sam_nil))) (pgs_cons (pg_name (i := 5) nd rfl (by first | exact .inl rfl | exact .inr rfl)) (pgs_cons (pg_name (i := 6) nd rfl (by first | exact .inl rfl | exact .inr rfl)) (pgs_cons (pg_name (i := 7) nd rfl (by first | exact .inl rfl | exact .inr rfl)) pgs_nil)))) (by exact ss_cons (by exact SS.weak (O1 := [2]) (by exact ss_for (O' := [2]) (by exact si_seq (m := .f) (by exact se_tup (by exact sa_cons (by exact se_tup (by exact sa_cons (by exact se_un un_negD (by exact se_var 1)) (by exact sa_cons (by exact se_un un_negD (by exact se_var 1)) sa_nil))) (by exact sa_cons (by exact se_tup (by exact sa_cons (by exact se_un un_negD (by exact se_var 1)) (by exact sa_cons (by exact se_var 1) sa_nil))) (by exact sa_cons (by exact se_tup (by exact sa_cons (by exact se_var 1) (by exact sa_cons (by exact se_un un_negD (by exact se_var 1)) sa_nil))) (by exact sa_cons (by exact se_tup (by exact sa_cons (by exact se_var 1) (by exact sa_cons (by exact se_var 1) sa_nil))) sa_nil)))))) (by exact sg_tup rfl (by exact sgs_cons (by exact sg_name 8 nd) (by exact sgs_cons (by exact sg_name 9 nd) sgs_nil))) (by exact ss_cons (by exact ss_setF 10 nd (by exact se_op op_subD (by exact se_op op_subD (by exact se_op op_addD (by exact se_ix (by exact se_var 7) se_int) (by exact se_var 9)) (by exact se_ix (by exact se_var 6) se_int)) (by exact se_var 8))) (by exact ss_cons (by exact ss_setF 11 nd (by exact se_op op_subD (by exact se_op op_mulD' (by exact se_op op_addD (by exact se_ix (by exact se_var 6) se_int) (by exact se_var 8)) (by exact se_var 5)) (by exact se_op op_mulD' (by exact se_varW 10) (by exact se_ix (by exact se_var 6) se_int)))) (by exact ss_cons (by exact ss_if (O' := [2]) (by exact st_val (by exact se_callB (st := false) cb_all b_all (by exact sa_cons (by exact se_lc nd (by exact si_seq (m := .s) (by exact se_var 0)) (blkOk_by (own := [("hour", 12), ("depth", 13)]) rfl) (fun _ _ _ _ _ => (by exact sg_tup rfl (by exact sgs_cons (by exact sg_name 12 nd) (by exact sgs_cons (by exact sg_name 13 nd) sgs_nil)))) (fun _ _ _ _ _ => sts_nil) (fun _ _ _ _ _ => (by exact se_cmp op_leD (by exact se_callB (st := false) cb_abs b_abs (by exact sa_cons (by exact se_op op_subD (by exact se_op op_addD (by exact se_varW 11) (by exact se_op op_mulD' (by exact se_varW 10) (by exact se_var 12))) (by exact se_op op_mulD' (by exact se_var 13) (by exact se_var 5))) sa_nil)) (by exact se_op op_mulD' (by exact se_var 1) (by exact se_var 5))))) sa_nil))) (by exact ss_cons (by exact SS.weak (O1 := [2]) (by exact ss_app 2 (by exact se_tup (by exact sa_cons (by exact se_var 10) (by exact sa_cons (by exact se_var 11) (by exact sa_cons (by exact se_var 5) sa_nil)))))) ss_nil) ss_nil) ss_nil))))) ss_nil))) ss_nil)) (by exact ss_last (by exact SS.weak (O1 := []) (by exact ss_ret (by exact se_var 2))))))
/-! ### _law_begun -/
abbrev s__law_begun : Stmt := topS 41
theorem sc__law_begun : FnScope ["soundings", "e", "begin", "low", "high", "good", "hour", "depth", "way"] ["soundings", "e"] (defScope s__law_begun) := ⟨rfl, rfl, rfl, by decide +kernel, rfl, by decide +kernel, by decide +kernel⟩
def l1__law_begun : XS :=
  (sSeq (sSet 8 (xBin oSub (xVar 6) (xVar 2)))
  (sSeq (sIf (tOf (xBin oEq (xVar 8) (xC (.int 0)))) (sSeq (sSet 5 (xAnd (xVar 5) (xBin oLe (xCall bAbs (xCons (xVar 7) xNil)) (xVar 1))))
  sNop) (sSeq (sIf (tTru (xCall (fun ds => if ds.length = 2 then (d__law_less) ds else none) (xCons (xVar 3) (xCons (xTup (xCons (xBin oSub (xVar 7) (xVar 1)) (xCons (xVar 8) xNil))) xNil)))) (sSeq (sSet 3 (xTup (xCons (xBin oSub (xVar 7) (xVar 1)) (xCons (xVar 8) xNil))))
  sNop) sNop)
  (sSeq (sIf (tTru (xCall (fun ds => if ds.length = 2 then (d__law_less) ds else none) (xCons (xTup (xCons (xBin oAdd (xVar 7) (xVar 1)) (xCons (xVar 8) xNil))) (xCons (xVar 4) xNil)))) (sSeq (sSet 4 (xTup (xCons (xBin oAdd (xVar 7) (xVar 1)) (xCons (xVar 8) xNil))))
  sNop) sNop)
  sNop)))
  sNop))
def l2__law_begun : XS :=
  (sSeq (sTgt (gTupD 3 (gsCons (gSet 3) (gsCons (gSet 4) (gsCons (gSet 5) gsNil)))) (xTup (xCons (xTup (xCons (xC (.int 0)) (xCons (xC (.int 1)) xNil))) (xCons (xTup (xCons (xC (.int 99)) (xCons (xC (.int 1)) xNil))) (xCons (xC (.bool true)) xNil)))))
  (sSeq (sFor (xSeq (xVar 0)) (gTupD 2 (gsCons (gSet 6) (gsCons (gSet 7) gsNil))) l1__law_begun)
  (sSeq (sIf (tAndP (tTru (xVar 5)) (tNotP (tTru (xCall (fun ds => if ds.length = 2 then (d__law_less) ds else none) (xCons (xVar 4) (xCons (xVar 3) xNil)))))) (sRet (xVar 2)) sNop)
  sNop)))
def g__law_begun : XS :=
  (sSeq (sFor (xIt oR3 (xCons (xBin oIx (xBin oIx (xVar 0) (xC (.int 0))) (xC (.int 0))) (xCons (xUn oNeg (xC (.int 1))) (xCons (xUn oNeg (xC (.int 1))) xNil)))) (gSet 2) l2__law_begun)
  (sRet (xC .none)))
def d__law_begun : List D → Option D := runD 2 9 g__law_begun
theorem ok__law_begun {f : Addr} {fd : FuncData} (F : FnP K "_law_begun" s__law_begun f fd) (D__law_less : Def P w K mg base 1 "_law_less" ["one", "other"] (d__law_less)) (b_abs : mg "abs" = none) (b_range : mg "range" = none) : FnOk P w K mg base CX0 2 f fd ["soundings", "e"] (spD K 2 d__law_begun) := by
  have nd := sc__law_begun.nd
  refine fnp_ok (k := 1) (O' := []) F sc__law_begun fun cdv A outer s H E hr => ?_
  exact (by exact ss_cons (by exact ss_for (O' := []) (by exact si_r3 (st := false) b_range (by exact sa_cons (by exact se_ix (by exact se_ix (by exact se_var 0) se_int) se_int) (by exact sa_cons (by exact se_un un_negD se_int) (by exact sa_cons (by exact se_un un_negD se_int) sa_nil)))) (by exact sg_name 2 nd) (by exact ss_cons (by exact ss_tgt (by exact se_tup (by exact sa_cons (by exact se_tup (by exact sa_cons se_int (by exact sa_cons se_int sa_nil))) (by exact sa_cons (by exact se_tup (by exact sa_cons se_int (by exact sa_cons se_int sa_nil))) (by exact sa_cons se_bl sa_nil)))) (by exact sg_tup rfl (by exact sgs_cons (by exact sg_name 3 nd) (by exact sgs_cons (by exact sg_name 4 nd) (by exact sgs_cons (by exact sg_name 5 nd) sgs_nil))))) (by exact ss_cons (by exact ss_for (O' := []) (by exact si_seq (m := .s) (by exact se_var 0)) (by exact sg_tup rfl (by exact sgs_cons (by exact sg_name 6 nd) (by exact sgs_cons (by exact sg_name 7 nd) sgs_nil))) (by exact ss_cons (by exact ss_setF 8 nd (by exact se_op op_subD (by exact se_var 6) (by exact se_var 2))) (by exact ss_cons (by exact ss_if (O' := []) (by exact st_cmp (op_eqP hr) (by exact se_varW 8) se_int) (by exact ss_cons (by exact ss_setF 5 nd (by exact se_and (by exact se_var 5) (by exact se_bone (by exact se_cmp op_leD (by exact se_callB (st := false) cb_abs b_abs (by exact sa_cons (by exact se_var 7) sa_nil)) (by exact se_var 1))))) ss_nil) (by exact ss_cons (by exact SS.weak (O1 := []) (by exact ss_if (O' := []) (by exact st_val (by exact se_callD D__law_less hr (by exact sa_cons (by exact se_var 3) (by exact sa_cons (by exact se_tup (by exact sa_cons (by exact se_op op_subD (by exact se_var 7) (by exact se_var 1)) (by exact sa_cons (by exact se_var 8) sa_nil))) sa_nil)))) (by exact ss_cons (by exact ss_setF 3 nd (by exact se_tup (by exact sa_cons (by exact se_op op_subD (by exact se_var 7) (by exact se_var 1)) (by exact sa_cons (by exact se_var 8) sa_nil)))) ss_nil) ss_nil)) (by exact ss_cons (by exact ss_if (O' := []) (by exact st_val (by exact se_callD D__law_less hr (by exact sa_cons (by exact se_tup (by exact sa_cons (by exact se_op op_addD (by exact se_var 7) (by exact se_var 1)) (by exact sa_cons (by exact se_var 8) sa_nil))) (by exact sa_cons (by exact se_var 4) sa_nil)))) (by exact ss_cons (by exact ss_setF 4 nd (by exact se_tup (by exact sa_cons (by exact se_op op_addD (by exact se_var 7) (by exact se_var 1)) (by exact sa_cons (by exact se_var 8) sa_nil)))) ss_nil) ss_nil) ss_nil))) ss_nil))) (by exact ss_cons (by exact ss_if (O' := []) (by exact SW.st (by exact sw_and (by exact st_val (by exact se_var 5)) (by exact sw_and1 (by exact st_not (by exact st_val (by exact se_callD D__law_less hr (by exact sa_cons (by exact se_var 4) (by exact sa_cons (by exact se_var 3) sa_nil)))))))) (by exact ss_last (by exact ss_ret (by exact se_var 2))) ss_nil) ss_nil)))) (by exact ss_last (by exact ss_ret se_non)))
/-! ### _law_sounded -/
abbrev s__law_sounded : Stmt := topS 42
theorem sc__law_sounded : FnScope ["soundings", "e", "later", "rates", "lines", "depths", "rise", "base", "way", "told", "odd", "hour", "depth", "k", "a", "b"] ["soundings", "e", "later"] (defScope s__law_sounded) := ⟨rfl, rfl, rfl, by decide +kernel, rfl, by decide +kernel, by decide +kernel⟩
def l1__law_sounded : XS :=
  (sSeq (sSet 9 (xTup (xCons (xBin oAdd (xVar 7) (xBin oMul' (xVar 6) (xVar 2))) (xCons (xVar 8) xNil))))
  (sSeq (sIf (tOf (xBin oIs (xVar 5) (xC .none))) (sSeq (sSet 5 (xTup (xCons (xVar 9) (xCons (xVar 9) xNil))))
  sNop) sNop)
  (sSeq (sIf (tTru (xCall (fun ds => if ds.length = 2 then (d__law_less) ds else none) (xCons (xVar 9) (xCons (xBin oIx (xVar 5) (xC (.int 0))) xNil)))) (sSeq (sSet 5 (xTup (xCons (xVar 9) (xCons (xBin oIx (xVar 5) (xC (.int 1))) xNil))))
  sNop) sNop)
  (sSeq (sIf (tTru (xCall (fun ds => if ds.length = 2 then (d__law_less) ds else none) (xCons (xBin oIx (xVar 5) (xC (.int 1))) (xCons (xVar 9) xNil)))) (sSeq (sSet 5 (xTup (xCons (xBin oIx (xVar 5) (xC (.int 0))) (xCons (xVar 9) xNil))))
  sNop) sNop)
  (sSeq (sIf (tNotP (tTru (xCall (fun ds => if ds.length = 2 then (d__law_like 8) ds else none) (xCons (xCall (fun ds => if ds.length = 4 then (d_fits_line) ds else none) (xCons (xVar 0) (xCons (xVar 1) (xCons (xCall (fun ds => if ds.length = 2 then (d__law_ratio) ds else none) (xCons (xVar 6) (xCons (xVar 8) xNil))) (xCons (xCall (fun ds => if ds.length = 2 then (d__law_ratio) ds else none) (xCons (xVar 7) (xCons (xVar 8) xNil))) xNil))))) (xCons (xC (.bool true)) xNil))))) (sRet (xC (.bool false))) sNop)
  sNop)))))
def l2__law_sounded : XS :=
  (sSeq (sIf (tNotP (tTru (xCall (fun ds => if ds.length = 2 then (d__law_like 8) ds else none) (xCons (xCall (fun ds => if ds.length = 4 then (d_fits_line) ds else none) (xCons (xVar 0) (xCons (xVar 1) (xCons (xCall (fun ds => if ds.length = 2 then (d__law_ratio) ds else none) (xCons (xVar 14) (xCons (xVar 15) xNil))) (xCons (xCall (fun ds => if ds.length = 2 then (d__law_ratio) ds else none) (xCons (xBin oSub (xBin oMul' (xVar 12) (xVar 15)) (xBin oMul' (xVar 11) (xVar 14))) (xCons (xVar 15) xNil))) xNil))))) (xCons (xC (.bool false)) xNil))))) (sRet (xC (.bool false))) sNop)
  sNop)
def l3__law_sounded : XS :=
  (sSeq (sIf (tOf (xBin oIsNot (xCall (fun ds => if ds.length = 2 then (d__law_rates) ds else none) (xCons (xBin oAdd (xSl (xVar 0) oNo (oAt (xVar 13))) (xSl (xVar 0) (oAt (xBin oAdd (xVar 13) (xC (.int 1)))) oNo)) (xCons (xVar 1) xNil))) (xC .none))) (sSeq (sSet 10 (xVar 13))
  sBrk) sNop)
  sNop)
def g__law_sounded : XS :=
  (sSeq (sPar [3, 4, 5] (xCons (xCall (fun ds => if ds.length = 2 then (d__law_rates) ds else none) (xCons (xVar 0) (xCons (xVar 1) xNil))) (xCons (xCall (fun ds => if ds.length = 2 then (d__law_lines) ds else none) (xCons (xVar 0) (xCons (xVar 1) xNil))) (xCons (xC .none) xNil))))
  (sSeq (sIf (tOrP (tNotP (tTru (xCall (fun ds => if ds.length = 2 then (d__law_like 8) ds else none) (xCons (xCall (fun ds => if ds.length = 2 then (d_rate_range) ds else none) (xCons (xVar 0) (xCons (xVar 1) xNil))) (xCons (xVar 3) xNil))))) (tOf (xBin oNe (xBin oIs (xVar 3) (xC .none)) (xBin oEq (xCall bLen (xCons (xVar 4) xNil)) (xC (.int 0)))))) (sRet (xC (.bool false))) sNop)
  (sSeq (sFor (xSeq (xVar 4)) (gTupD 3 (gsCons (gSet 6) (gsCons (gSet 7) (gsCons (gSet 8) gsNil)))) l1__law_sounded)
  (sSeq (sIf (tOf (xBin oIsNot (xVar 5) (xC .none))) (sSeq (sSet 5 (xCall bTuple (xCons (xLc (xSeq (xVar 5)) (gTupD 2 (gsCons (gSet 14) (gsCons (gSet 15) gsNil))) tYesP (xCall (fun ds => if ds.length = 2 then (d__law_ratio) ds else none) (xCons (xVar 14) (xCons (xVar 15) xNil))) [14, 15]) xNil)))
  sNop) sNop)
  (sSeq (sIf (tNotP (tTru (xCall (fun ds => if ds.length = 2 then ((d__law_like 8) ds).bind fun d => if flat d then some d else none else none) (xCons (xCall (fun ds => if ds.length = 3 then (d_sure_depth) ds else none) (xCons (xVar 0) (xCons (xVar 1) (xCons (xVar 2) xNil)))) (xCons (xVar 5) xNil))))) (sRet (xC (.bool false))) sNop)
  (sSeq (sIf (tNotP (tTru (xCall (fun ds => if ds.length = 2 then (d__law_like 8) ds else none) (xCons (xCall (fun ds => if ds.length = 2 then (d_from_hour) ds else none) (xCons (xVar 0) (xCons (xVar 1) xNil))) (xCons (xCall (fun ds => if ds.length = 2 then (d__law_begun) ds else none) (xCons (xVar 0) (xCons (xVar 1) xNil))) xNil))))) (sRet (xC (.bool false))) sNop)
  (sSeq (sPar [10, 11, 12] (xCons (xC .none) (xCons (xBin oIx (xBin oIx (xVar 0) (xC (.int 0))) (xC (.int 0))) (xCons (xBin oIx (xBin oIx (xVar 0) (xC (.int 0))) (xC (.int 1))) xNil))))
  (sSeq (sIf (tOf (xBin oIsNot (xVar 3) (xC .none))) (sSeq (sFor (xSeq (xTup (xCons (xTup (xCons (xBin oSub (xBin oMul' (xC (.int 2)) (xBin oIx (xBin oIx (xVar 3) (xC (.int 0))) (xC (.int 0)))) (xC (.int 1))) (xCons (xBin oMul' (xC (.int 2)) (xBin oIx (xBin oIx (xVar 3) (xC (.int 0))) (xC (.int 1)))) xNil))) (xCons (xTup (xCons (xBin oAdd (xBin oMul' (xC (.int 2)) (xBin oIx (xBin oIx (xVar 3) (xC (.int 1))) (xC (.int 0)))) (xC (.int 1))) (xCons (xBin oMul' (xC (.int 2)) (xBin oIx (xBin oIx (xVar 3) (xC (.int 1))) (xC (.int 1)))) xNil))) xNil)))) (gTupD 2 (gsCons (gSet 14) (gsCons (gSet 15) gsNil))) l2__law_sounded)
  sNop) (sSeq (sFor (xIt oR1 (xCons (xCall bLen (xCons (xVar 0) xNil)) xNil)) (gSet 13) l3__law_sounded)
  sNop))
  (sRet (xCall (fun ds => if ds.length = 2 then (d__law_like 8) ds else none) (xCons (xCall (fun ds => if ds.length = 2 then (d_odd_sounding) ds else none) (xCons (xVar 0) (xCons (xVar 1) xNil))) (xCons (xVar 10) xNil))))))))))))
def d__law_sounded : List D → Option D := runD 3 16 g__law_sounded
theorem ok__law_sounded {f : Addr} {fd : FuncData} (F : FnP K "_law_sounded" s__law_sounded f fd) (D_fits_line : Def P w K mg base 5 "fits_line" ["soundings", "e", "rate", "depth"] (d_fits_line)) (D_rate_range : Def P w K mg base 4 "rate_range" ["soundings", "e"] (d_rate_range)) (D_sure_depth : Def P w K mg base 5 "sure_depth" ["soundings", "e", "hour"] (d_sure_depth)) (D_from_hour : Def P w K mg base 4 "from_hour" ["soundings", "e"] (d_from_hour)) (D_odd_sounding : Def P w K mg base 5 "odd_sounding" ["soundings", "e"] (d_odd_sounding)) (D__law_like : Def P w K mg base 10 "_law_like" ["value", "due"] (d__law_like 8)) (D__law_ratio : Def P w K mg base 2 "_law_ratio" ["a", "b"] (d__law_ratio)) (D__law_less : Def P w K mg base 1 "_law_less" ["one", "other"] (d__law_less)) (D__law_rates : Def P w K mg base 3 "_law_rates" ["soundings", "e"] (d__law_rates)) (D__law_lines : Def P w K mg base 1 "_law_lines" ["soundings", "e"] (d__law_lines)) (D__law_begun : Def P w K mg base 2 "_law_begun" ["soundings", "e"] (d__law_begun)) (b_len : mg "len" = none) (b_range : mg "range" = none) (b_tuple : mg "tuple" = none) : FnOk P w K mg base CX0 11 f fd ["soundings", "e", "later"] (spD K 3 d__law_sounded) := by
  have nd := sc__law_sounded.nd
  refine fnp_ok (k := 10) (O' := []) F sc__law_sounded fun cdv A outer s H E hr => ?_
  exact (by exact ss_cons (by exact ss_par3 3 4 5 nd (by exact sam_cons (by exact se_callD D__law_rates hr (by exact sa_cons (by exact se_var 0) (by exact sa_cons (by exact se_var 1) sa_nil))) (by exact sam_cons (by exact se_callD D__law_lines hr (by exact sa_cons (by exact se_var 0) (by exact sa_cons (by exact se_var 1) sa_nil))) (by exact sam_cons se_non sam_nil)))) (by exact ss_cons (by exact ss_if (O' := [5]) (by exact SW.st (by exact sw_or (by exact st_not (by exact st_val (by exact se_callD D__law_like hr (by exact sa_cons (by exact se_callD D_rate_range hr (by exact sa_cons (by exact se_var 0) (by exact sa_cons (by exact se_var 1) sa_nil))) (by exact sa_cons (by exact se_var 3) sa_nil))))) (by exact sw_or1 (by exact st_cmp (op_neP hr) (by exact se_cmp op_isD (by exact se_var 3) se_non) (by exact se_cmp (op_eqP hr) (by exact se_callB (st := false) cb_len b_len (by exact sa_cons (by exact se_var 4) sa_nil)) se_int))))) (by exact ss_last (by exact ss_ret se_bl)) ss_nil) (by exact ss_cons (by exact ss_for (O' := [5]) (by exact si_seq (m := .s) (by exact se_var 4)) (by exact sg_tup rfl (by exact sgs_cons (by exact sg_name 6 nd) (by exact sgs_cons (by exact sg_name 7 nd) (by exact sgs_cons (by exact sg_name 8 nd) sgs_nil)))) (by exact ss_cons (by exact ss_setF 9 nd (by exact se_tup (by exact sa_cons (by exact se_op op_addD (by exact se_var 7) (by exact se_op op_mulD' (by exact se_var 6) (by exact se_var 2))) (by exact sa_cons (by exact se_var 8) sa_nil)))) (by exact ss_cons (by exact ss_if (O' := [5, 5]) (by exact st_cmp op_isD (by exact se_varW 5) se_non) (by exact ss_cons (by exact SS.weak (O1 := [5]) (by exact ss_setF 5 nd (by exact se_tup (by exact sa_cons (by exact se_var 9) (by exact sa_cons (by exact se_var 9) sa_nil))))) ss_nil) ss_nil) (by exact ss_cons (by exact ss_if (O' := [5, 5, 5]) (by exact st_val (by exact se_callD D__law_less hr (by exact sa_cons (by exact se_var 9) (by exact sa_cons (by exact se_ix (by exact se_varW 5) se_int) sa_nil)))) (by exact ss_cons (by exact ss_setF 5 nd (by exact se_tup (by exact sa_cons (by exact se_var 9) (by exact sa_cons (by exact se_ix (by exact se_varW 5) se_int) sa_nil)))) ss_nil) ss_nil) (by exact ss_cons (by exact ss_if (O' := [5, 5, 5, 5]) (by exact st_val (by exact se_callD D__law_less hr (by exact sa_cons (by exact se_ix (by exact se_varW 5) se_int) (by exact sa_cons (by exact se_var 9) sa_nil)))) (by exact ss_cons (by exact ss_setF 5 nd (by exact se_tup (by exact sa_cons (by exact se_ix (by exact se_varW 5) se_int) (by exact sa_cons (by exact se_var 9) sa_nil)))) ss_nil) ss_nil) (by exact ss_cons (by exact ss_if (O' := [5, 5, 5, 5]) (by exact st_not (by exact st_val (by exact se_callD D__law_like hr (by exact sa_cons (by exact se_callD D_fits_line hr (by exact sa_cons (by exact se_var 0) (by exact sa_cons (by exact se_var 1) (by exact sa_cons (by exact se_callD D__law_ratio hr (by exact sa_cons (by exact se_var 6) (by exact sa_cons (by exact se_var 8) sa_nil))) (by exact sa_cons (by exact se_callD D__law_ratio hr (by exact sa_cons (by exact se_var 7) (by exact sa_cons (by exact se_var 8) sa_nil))) sa_nil))))) (by exact sa_cons se_bl sa_nil))))) (by exact ss_last (by exact ss_ret se_bl)) ss_nil) ss_nil)))))) (by exact ss_cons (by exact ss_if (O' := [5, 5]) (by exact st_cmp op_isNotD (by exact se_varW 5) se_non) (by exact ss_cons (by exact ss_setF 5 nd (by exact se_callT (st := false) cb_tuple b_tuple (by exact sa_cons (by exact se_lc nd (by exact si_seq (m := .w) (by exact se_varW 5)) (blkOk_by (own := [("a", 14), ("b", 15)]) rfl) (fun _ _ _ _ _ => (by exact sg_tup rfl (by exact sgs_cons (by exact sg_name 14 nd) (by exact sgs_cons (by exact sg_name 15 nd) sgs_nil)))) (fun _ _ _ _ _ => sts_nil) (fun _ _ _ _ _ => (by exact se_callD D__law_ratio hr (by exact sa_cons (by exact se_var 14) (by exact sa_cons (by exact se_var 15) sa_nil))))) sa_nil))) ss_nil) ss_nil) (by exact ss_cons (by exact ss_if (O' := [5, 5]) (by exact st_not (by exact st_val (by exact se_callWD D__law_like hr (by exact sa_cons (by exact se_callD D_sure_depth hr (by exact sa_cons (by exact se_var 0) (by exact sa_cons (by exact se_var 1) (by exact sa_cons (by exact se_var 2) sa_nil)))) (by exact sa_cons (by exact se_varW 5) sa_nil))))) (by exact ss_last (by exact ss_ret se_bl)) ss_nil) (by exact ss_cons (by exact ss_if (O' := [5, 5]) (by exact st_not (by exact st_val (by exact se_callD D__law_like hr (by exact sa_cons (by exact se_callD D_from_hour hr (by exact sa_cons (by exact se_var 0) (by exact sa_cons (by exact se_var 1) sa_nil))) (by exact sa_cons (by exact se_callD D__law_begun hr (by exact sa_cons (by exact se_var 0) (by exact sa_cons (by exact se_var 1) sa_nil))) sa_nil))))) (by exact ss_last (by exact ss_ret se_bl)) ss_nil) (by exact ss_cons (by exact ss_par3 10 11 12 nd (by exact sam_cons se_non (by exact sam_cons (by exact se_ix (by exact se_ix (by exact se_var 0) se_int) se_int) (by exact sam_cons (by exact se_ix (by exact se_ix (by exact se_var 0) se_int) se_int) sam_nil)))) (by exact ss_cons (by exact ss_if (O' := [5, 5]) (by exact st_cmp op_isNotD (by exact se_var 3) se_non) (by exact ss_cons (by exact ss_for (O' := [10, 5, 5]) (by exact si_seq (m := .f) (by exact se_tup (by exact sa_cons (by exact se_tup (by exact sa_cons (by exact se_op op_subD (by exact se_op op_mulD' se_int (by exact se_ix (by exact se_ix (by exact se_var 3) se_int) se_int)) se_int) (by exact sa_cons (by exact se_op op_mulD' se_int (by exact se_ix (by exact se_ix (by exact se_var 3) se_int) se_int)) sa_nil))) (by exact sa_cons (by exact se_tup (by exact sa_cons (by exact se_op op_addD (by exact se_op op_mulD' se_int (by exact se_ix (by exact se_ix (by exact se_var 3) se_int) se_int)) se_int) (by exact sa_cons (by exact se_op op_mulD' se_int (by exact se_ix (by exact se_ix (by exact se_var 3) se_int) se_int)) sa_nil))) sa_nil)))) (by exact sg_tup rfl (by exact sgs_cons (by exact sg_name 14 nd) (by exact sgs_cons (by exact sg_name 15 nd) sgs_nil))) (by exact ss_cons (by exact ss_if (O' := [10, 5, 5]) (by exact st_not (by exact st_val (by exact se_callD D__law_like hr (by exact sa_cons (by exact se_callD D_fits_line hr (by exact sa_cons (by exact se_var 0) (by exact sa_cons (by exact se_var 1) (by exact sa_cons (by exact se_callD D__law_ratio hr (by exact sa_cons (by exact se_var 14) (by exact sa_cons (by exact se_var 15) sa_nil))) (by exact sa_cons (by exact se_callD D__law_ratio hr (by exact sa_cons (by exact se_op op_subD (by exact se_op op_mulD' (by exact se_var 12) (by exact se_var 15)) (by exact se_op op_mulD' (by exact se_var 11) (by exact se_var 14))) (by exact sa_cons (by exact se_var 15) sa_nil))) sa_nil))))) (by exact sa_cons se_bl sa_nil))))) (by exact ss_last (by exact ss_ret se_bl)) ss_nil) ss_nil)) ss_nil) (by exact ss_cons (by exact ss_for (O' := [5, 5]) (by exact si_r1 (st := false) b_range (by exact sa_cons (by exact se_callB (st := false) cb_len b_len (by exact sa_cons (by exact se_var 0) sa_nil)) sa_nil)) (by exact sg_name 13 nd) (by exact ss_cons (by exact ss_if (O' := [10, 5, 5]) (by exact st_cmp op_isNotD (by exact se_callD D__law_rates hr (by exact sa_cons (by exact se_op op_addD (by exact se_sl (by exact se_var 0) so_none (by exact so_some (by exact se_var 13))) (by exact se_sl (by exact se_var 0) (by exact so_some (by exact se_op op_addD (by exact se_var 13) se_int)) so_none)) (by exact sa_cons (by exact se_var 1) sa_nil))) se_non) (by exact ss_cons (by exact ss_setS 10 nd (by exact se_var 13)) (by exact ss_last ss_break)) ss_nil) ss_nil)) ss_nil)) (by exact ss_last (by exact ss_ret (by exact se_callD D__law_like hr (by exact sa_cons (by exact se_callD D_odd_sounding hr (by exact sa_cons (by exact se_var 0) (by exact sa_cons (by exact se_var 1) sa_nil))) (by exact sa_cons (by exact se_var 10) sa_nil)))))))))))))
/-! ### _law_squares -/
abbrev s__law_squares : Stmt := topS 43
theorem sc__law_squares : FnScope ["soundings", "under", "due", "n", "hours", "depths", "both", "squares", "one"] ["soundings"] (defScope s__law_squares) := ⟨rfl, rfl, rfl, by decide +kernel, rfl, by decide +kernel, by decide +kernel⟩
def g__law_squares : XS :=
  (sSeq (sPar [3, 4, 5] (xCons (xCall bLen (xCons (xVar 0) xNil)) (xCons (xCall bSum (xCons (xLc (xSeq (xVar 0)) (gSet 8) tYesP (xBin oIx (xVar 8) (xC (.int 0))) [8]) xNil)) (xCons (xCall bSum (xCons (xLc (xSeq (xVar 0)) (gSet 8) tYesP (xBin oIx (xVar 8) (xC (.int 1))) [8]) xNil)) xNil))))
  (sSeq (sPar [6, 7] (xCons (xCall bSum (xCons (xLc (xSeq (xVar 0)) (gSet 8) tYesP (xBin oMul' (xBin oIx (xVar 8) (xC (.int 0))) (xBin oIx (xVar 8) (xC (.int 1)))) [8]) xNil)) (xCons (xCall bSum (xCons (xLc (xSeq (xVar 0)) (gSet 8) tYesP (xBin oMul' (xBin oIx (xVar 8) (xC (.int 0))) (xBin oIx (xVar 8) (xC (.int 0)))) [8]) xNil)) xNil)))
  (sSeq (sSet 1 (xBin oSub (xBin oMul' (xVar 3) (xVar 7)) (xBin oMul' (xVar 4) (xVar 4))))
  (sSeq (sSet 2 (xTup (xCons (xCall (fun ds => if ds.length = 2 then ((d__law_ratio) ds).bind fun d => if flat d then some d else none else none) (xCons (xBin oSub (xBin oMul' (xVar 3) (xVar 6)) (xBin oMul' (xVar 4) (xVar 5))) (xCons (xVar 1) xNil))) (xCons (xCall (fun ds => if ds.length = 2 then ((d__law_ratio) ds).bind fun d => if flat d then some d else none else none) (xCons (xBin oSub (xBin oMul' (xVar 5) (xVar 7)) (xBin oMul' (xVar 4) (xVar 6))) (xCons (xVar 1) xNil))) xNil))))
  (sRet (xCall (fun ds => if ds.length = 2 then ((d__law_like 8) ds).bind fun d => if flat d then some d else none else none) (xCons (xCall (fun ds => if ds.length = 1 then (d_best_line) ds else none) (xCons (xVar 0) xNil)) (xCons (xVar 2) xNil))))))))
def d__law_squares : List D → Option D := runD 1 9 g__law_squares
theorem ok__law_squares {f : Addr} {fd : FuncData} (F : FnP K "_law_squares" s__law_squares f fd) (D_best_line : Def P w K mg base 5 "best_line" ["soundings"] (d_best_line)) (D__law_like : Def P w K mg base 10 "_law_like" ["value", "due"] (d__law_like 8)) (D__law_ratio : Def P w K mg base 2 "_law_ratio" ["a", "b"] (d__law_ratio)) (b_len : mg "len" = none) (b_sum : mg "sum" = none) : FnOk P w K mg base CX0 11 f fd ["soundings"] (spD K 1 d__law_squares) := by
  have nd := sc__law_squares.nd
  refine fnp_ok (k := 10) (O' := []) F sc__law_squares fun cdv A outer s H E hr => ?_
  exact (by exact ss_cons (by exact ss_par3 3 4 5 nd (by exact sam_cons (by exact se_callB (st := false) cb_len b_len (by exact sa_cons (by exact se_var 0) sa_nil)) (by exact sam_cons (by exact se_callB (st := false) cb_sum b_sum (by exact sa_cons (by exact se_lc nd (by exact si_seq (m := .s) (by exact se_var 0)) (blkOk_by (own := [("one", 8)]) rfl) (fun _ _ _ _ _ => (by exact sg_name 8 nd)) (fun _ _ _ _ _ => sts_nil) (fun _ _ _ _ _ => (by exact se_ix (by exact se_var 8) se_int))) sa_nil)) (by exact sam_cons (by exact se_callB (st := false) cb_sum b_sum (by exact sa_cons (by exact se_lc nd (by exact si_seq (m := .s) (by exact se_var 0)) (blkOk_by (own := [("one", 8)]) rfl) (fun _ _ _ _ _ => (by exact sg_name 8 nd)) (fun _ _ _ _ _ => sts_nil) (fun _ _ _ _ _ => (by exact se_ix (by exact se_var 8) se_int))) sa_nil)) sam_nil)))) (by exact ss_cons (by exact ss_par 6 7 nd (by exact sam_cons (by exact se_callB (st := false) cb_sum b_sum (by exact sa_cons (by exact se_lc nd (by exact si_seq (m := .s) (by exact se_var 0)) (blkOk_by (own := [("one", 8)]) rfl) (fun _ _ _ _ _ => (by exact sg_name 8 nd)) (fun _ _ _ _ _ => sts_nil) (fun _ _ _ _ _ => (by exact se_op op_mulD' (by exact se_ix (by exact se_var 8) se_int) (by exact se_ix (by exact se_var 8) se_int)))) sa_nil)) (by exact sam_cons (by exact se_callB (st := false) cb_sum b_sum (by exact sa_cons (by exact se_lc nd (by exact si_seq (m := .s) (by exact se_var 0)) (blkOk_by (own := [("one", 8)]) rfl) (fun _ _ _ _ _ => (by exact sg_name 8 nd)) (fun _ _ _ _ _ => sts_nil) (fun _ _ _ _ _ => (by exact se_op op_mulD' (by exact se_ix (by exact se_var 8) se_int) (by exact se_ix (by exact se_var 8) se_int)))) sa_nil)) sam_nil))) (by exact ss_cons (by exact ss_setF 1 nd (by exact se_op op_subD (by exact se_op op_mulD' (by exact se_varW 3) (by exact se_varW 7)) (by exact se_op op_mulD' (by exact se_varW 4) (by exact se_varW 4)))) (by exact ss_cons (by exact ss_setF 2 nd (by exact se_tup (by exact sa_cons (by exact se_callWD D__law_ratio hr (by exact sa_cons (by exact se_op op_subD (by exact se_op op_mulD' (by exact se_varW 3) (by exact se_varW 6)) (by exact se_op op_mulD' (by exact se_varW 4) (by exact se_varW 5))) (by exact sa_cons (by exact se_varW 1) sa_nil))) (by exact sa_cons (by exact se_callWD D__law_ratio hr (by exact sa_cons (by exact se_op op_subD (by exact se_op op_mulD' (by exact se_varW 5) (by exact se_varW 7)) (by exact se_op op_mulD' (by exact se_varW 4) (by exact se_varW 6))) (by exact sa_cons (by exact se_varW 1) sa_nil))) sa_nil)))) (by exact ss_last (by exact ss_ret (by exact se_callWD D__law_like hr (by exact sa_cons (by exact se_callD D_best_line hr (by exact sa_cons (by exact se_var 0) sa_nil)) (by exact sa_cons (by exact se_varW 2) sa_nil)))))))))
/-! ### _law_speeds -/
abbrev s__law_speeds : Stmt := topS 44
theorem sc__law_speeds : FnScope ["log", "speeds", "hour", "told", "k", "way"] ["log"] (defScope s__law_speeds) := ⟨rfl, rfl, rfl, by decide +kernel, rfl, by decide +kernel, by decide +kernel⟩
def l1__law_speeds : XS :=
  (sSeq (sSet 5 (xBin oSub (xBin oIx (xBin oIx (xVar 0) (xBin oAdd (xVar 4) (xC (.int 1)))) (xC (.int 0))) (xBin oIx (xBin oIx (xVar 0) (xVar 4)) (xC (.int 0)))))
  (sSeq (sIf (tOf (xChain oLe oLe (xBin oIx (xBin oIx (xVar 0) (xVar 4)) (xC (.int 0))) (xVar 2) (xBin oIx (xBin oIx (xVar 0) (xBin oAdd (xVar 4) (xC (.int 1)))) (xC (.int 0))))) (sSeq (sSet 3 (xTup (xCons (xBin oAdd (xBin oMul' (xBin oIx (xBin oIx (xVar 0) (xVar 4)) (xC (.int 1))) (xVar 5)) (xBin oMul' (xBin oSub (xBin oIx (xBin oIx (xVar 0) (xBin oAdd (xVar 4) (xC (.int 1)))) (xC (.int 1))) (xBin oIx (xBin oIx (xVar 0) (xVar 4)) (xC (.int 1)))) (xBin oSub (xVar 2) (xBin oIx (xBin oIx (xVar 0) (xVar 4)) (xC (.int 0)))))) (xCons (xVar 5) xNil))))
  sNop) sNop)
  sNop))
def l2__law_speeds : XS :=
  (sSeq (sSet 3 (xTup (xCons (xBin oIx (xBin oIx (xVar 0) (xC (.int 0))) (xC (.int 1))) (xCons (xC (.int 1)) xNil))))
  (sSeq (sFor (xIt oR1 (xCons (xBin oSub (xCall bLen (xCons (xVar 0) xNil)) (xC (.int 1))) xNil)) (gSet 4) l1__law_speeds)
  (sSeq (sApp 1 (xCall (fun ds => if ds.length = 2 then (d__law_ratio) ds else none) (xCons (xBin oIx (xVar 3) (xC (.int 0))) (xCons (xBin oIx (xVar 3) (xC (.int 1))) xNil))))
  sNop)))
def g__law_speeds : XS :=
  (sSeq (sSet 1 (xLst xNil))
  (sSeq (sFor (xIt oR2 (xCons (xBin oIx (xBin oIx (xVar 0) (xC (.int 0))) (xC (.int 0))) (xCons (xBin oAdd (xBin oIx (xBin oIx (xVar 0) (xBin oSub (xCall bLen (xCons (xVar 0) xNil)) (xC (.int 1)))) (xC (.int 0))) (xC (.int 1))) xNil))) (gSet 2) l2__law_speeds)
  (sRet (xVar 1))))
def d__law_speeds : List D → Option D := runD 1 6 g__law_speeds
theorem ok__law_speeds {f : Addr} {fd : FuncData} (F : FnP K "_law_speeds" s__law_speeds f fd) (D__law_ratio : Def P w K mg base 2 "_law_ratio" ["a", "b"] (d__law_ratio)) (b_len : mg "len" = none) (b_range : mg "range" = none) : FnOk P w K mg base CX0 3 f fd ["log"] (spD K 1 d__law_speeds) := by
  have nd := sc__law_speeds.nd
  refine fnp_ok (k := 2) (O' := []) F sc__law_speeds fun cdv A outer s H E hr => ?_
  exact (by exact ss_cons (by exact ss_setF 1 nd (by exact se_lst sa_nil)) (by exact ss_cons (by exact ss_for (O' := [1]) (by exact si_r2 (st := false) b_range (by exact sa_cons (by exact se_ix (by exact se_ix (by exact se_var 0) se_int) se_int) (by exact sa_cons (by exact se_op op_addD (by exact se_ix (by exact se_ix (by exact se_var 0) (by exact se_op op_subD (by exact se_callB (st := false) cb_len b_len (by exact sa_cons (by exact se_var 0) sa_nil)) se_int)) se_int) se_int) sa_nil))) (by exact sg_name 2 nd) (by exact ss_cons (by exact ss_setF 3 nd (by exact se_tup (by exact sa_cons (by exact se_ix (by exact se_ix (by exact se_var 0) se_int) se_int) (by exact sa_cons se_int sa_nil)))) (by exact ss_cons (by exact ss_for (O' := [3, 1]) (by exact si_r1 (st := false) b_range (by exact sa_cons (by exact se_op op_subD (by exact se_callB (st := false) cb_len b_len (by exact sa_cons (by exact se_var 0) sa_nil)) se_int) sa_nil)) (by exact sg_name 4 nd) (by exact ss_cons (by exact ss_setF 5 nd (by exact se_op op_subD (by exact se_ix (by exact se_ix (by exact se_var 0) (by exact se_op op_addD (by exact se_var 4) se_int)) se_int) (by exact se_ix (by exact se_ix (by exact se_var 0) (by exact se_var 4)) se_int))) (by exact ss_cons (by exact ss_if (O' := [3, 3, 1]) (by exact st_chain op_leD op_leD (by exact se_ix (by exact se_ix (by exact se_var 0) (by exact se_var 4)) se_int) (by exact se_var 2) (by exact se_ix (by exact se_ix (by exact se_var 0) (by exact se_op op_addD (by exact se_var 4) se_int)) se_int)) (by exact ss_cons (by exact SS.weak (O1 := [3, 1]) (by exact ss_setF 3 nd (by exact se_tup (by exact sa_cons (by exact se_op op_addD (by exact se_op op_mulD' (by exact se_ix (by exact se_ix (by exact se_var 0) (by exact se_var 4)) se_int) (by exact se_var 5)) (by exact se_op op_mulD' (by exact se_op op_subD (by exact se_ix (by exact se_ix (by exact se_var 0) (by exact se_op op_addD (by exact se_var 4) se_int)) se_int) (by exact se_ix (by exact se_ix (by exact se_var 0) (by exact se_var 4)) se_int)) (by exact se_op op_subD (by exact se_var 2) (by exact se_ix (by exact se_ix (by exact se_var 0) (by exact se_var 4)) se_int)))) (by exact sa_cons (by exact se_var 5) sa_nil))))) ss_nil) ss_nil) ss_nil))) (by exact ss_cons (by exact ss_app 1 (by exact se_callD D__law_ratio hr (by exact sa_cons (by exact se_ix (by exact se_varW 3) se_int) (by exact sa_cons (by exact se_ix (by exact se_varW 3) se_int) sa_nil)))) ss_nil)))) (by exact ss_last (by exact SS.weak (O1 := []) (by exact ss_ret (by exact se_var 1))))))
/-! ### _law_logged -/
abbrev s__law_logged : Stmt := topS 45
theorem sc__law_logged : FnScope ["log", "row", "size", "halves", "k", "way", "first", "last", "bounds", "mean", "speeds", "begin", "e", "both", "goal", "hours", "run", "length", "best", "due"] ["log", "row"] (defScope s__law_logged) := ⟨rfl, rfl, rfl, by decide +kernel, rfl, by decide +kernel, by decide +kernel⟩
def l1__law_logged : XS :=
  (sSeq (sSet 13 (xCall (fun ds => if ds.length = 1 then (d__law_sum) ds else none) (xCons (xTup (xCons (xBin oIx (xVar 10) (xVar 4)) (xCons (xBin oIx (xVar 10) (xBin oAdd (xVar 4) (xC (.int 1)))) xNil))) xNil)))
  (sSeq (sApp 3 (xCall (fun ds => if ds.length = 2 then (d__law_ratio) ds else none) (xCons (xBin oIx (xVar 13) (xC (.int 0))) (xCons (xBin oMul' (xC (.int 2)) (xBin oIx (xVar 13) (xC (.int 1)))) xNil))))
  sNop))
def l2__law_logged : XS :=
  (sSeq (sIf (tNotP (tTru (xCall (fun ds => if ds.length = 2 then (d__law_like 8) ds else none) (xCons (xCall (fun ds => if ds.length = 2 then (d_speed_at) ds else none) (xCons (xVar 0) (xCons (xBin oAdd (xVar 11) (xVar 4)) xNil))) (xCons (xBin oIx (xVar 10) (xVar 4)) xNil))))) (sRet (xC (.bool false))) sNop)
  sNop)
def l3__law_logged : XS :=
  (sSeq (sSet 16 (xCall (fun ds => if ds.length = 1 then (d__law_sum) ds else none) (xCons (xSl (xVar 3) oNo (oAt (xVar 4))) xNil)))
  (sSeq (sIf (tOf (xBin oGe (xBin oIx (xVar 16) (xC (.int 0))) (xBin oMul' (xVar 14) (xBin oIx (xVar 16) (xC (.int 1)))))) (sSeq (sApp 15 (xBin oAdd (xVar 11) (xVar 4)))
  sNop) sNop)
  sNop))
def l4__law_logged : XS :=
  (sSeq (sSet 16 (xCall (fun ds => if ds.length = 1 then (d__law_sum) ds else none) (xCons (xSl (xVar 3) (oAt (xVar 4)) (oAt (xBin oAdd (xVar 4) (xVar 17)))) xNil)))
  (sSeq (sIf (tOrP (tOf (xBin oIs (xVar 18) (xC .none))) (tTru (xCall (fun ds => if ds.length = 2 then (d__law_less) ds else none) (xCons (xVar 18) (xCons (xVar 16) xNil))))) (sSeq (sPar [18, 19] (xCons (xVar 16) (xCons (xTup (xCons (xBin oAdd (xVar 11) (xVar 4)) (xCons (xBin oAdd (xBin oAdd (xVar 11) (xVar 4)) (xVar 17)) xNil))) xNil)))
  sNop) sNop)
  sNop))
def g__law_logged : XS :=
  (sSeq (sPar [10, 11, 12] (xCons (xCall (fun ds => if ds.length = 1 then (d__law_speeds) ds else none) (xCons (xVar 0) xNil)) (xCons (xBin oIx (xBin oIx (xVar 0) (xC (.int 0))) (xC (.int 0))) (xCons (xBin oMod (xCall bInt (xCons (xBin oIx (xVar 1) (xC (.int 22))) xNil)) (xC (.int 3))) xNil))))
  (sSeq (sSet 2 (xBin oSub (xCall bLen (xCons (xVar 10) xNil)) (xC (.int 1))))
  (sSeq (sSet 3 (xLst xNil))
  (sSeq (sFor (xIt oR1 (xCons (xVar 2) xNil)) (gSet 4) l1__law_logged)
  (sSeq (sSet 5 (xCall (fun ds => if ds.length = 1 then ((d__law_sum) ds).bind fun d => if flat d then some d else none else none) (xCons (xVar 3) xNil)))
  (sSeq (sFor (xIt oR1 (xCons (xBin oAdd (xVar 2) (xC (.int 1))) xNil)) (gSet 4) l2__law_logged)
  (sSeq (sIf (tOrP (tOf (xBin oIsNot (xCall (fun ds => if ds.length = 2 then (d_speed_at) ds else none) (xCons (xVar 0) (xCons (xBin oAdd (xBin oAdd (xVar 11) (xVar 2)) (xC (.int 1))) xNil))) (xC .none))) (tAndP (tOf (xBin oGt (xVar 11) (xC (.int 0)))) (tOf (xBin oIsNot (xCall (fun ds => if ds.length = 2 then (d_speed_at) ds else none) (xCons (xVar 0) (xCons (xBin oSub (xVar 11) (xC (.int 1))) xNil))) (xC .none))))) (sRet (xC (.bool false))) sNop)
  (sSeq (sSet 6 (xBin oMod (xCall bInt (xCons (xBin oIx (xVar 1) (xC (.int 23))) xNil)) (xBin oAdd (xVar 2) (xC (.int 1)))))
  (sSeq (sSet 7 (xBin oAdd (xVar 6) (xBin oMod (xCall bInt (xCons (xBin oIx (xVar 1) (xC (.int 24))) xNil)) (xBin oSub (xBin oAdd (xVar 2) (xC (.int 1))) (xVar 6)))))
  (sSeq (sIf (tNotP (tTru (xCall (fun ds => if ds.length = 2 then ((d__law_like 8) ds).bind fun d => if flat d then some d else none else none) (xCons (xCall (fun ds => if ds.length = 1 then (d_run_all) ds else none) (xCons (xVar 0) xNil)) (xCons (xVar 5) xNil))))) (sRet (xC (.bool false))) sNop)
  (sSeq (sIf (tNotP (tTru (xCall (fun ds => if ds.length = 2 then (d__law_like 8) ds else none) (xCons (xCall (fun ds => if ds.length = 3 then (d_run_between) ds else none) (xCons (xVar 0) (xCons (xBin oAdd (xVar 11) (xVar 6)) (xCons (xBin oAdd (xVar 11) (xVar 7)) xNil)))) (xCons (xCall (fun ds => if ds.length = 1 then (d__law_sum) ds else none) (xCons (xSl (xVar 3) (oAt (xVar 6)) (oAt (xVar 7))) xNil)) xNil))))) (sRet (xC (.bool false))) sNop)
  (sSeq (sSet 8 (xTup (xCons (xCall (fun ds => if ds.length = 1 then (d__law_sum) ds else none) (xCons (xTup (xCons (xVar 5) (xCons (xTup (xCons (xBin oMul' (xUn oNeg (xVar 12)) (xVar 2)) (xCons (xC (.int 1)) xNil))) xNil))) xNil)) (xCons (xCall (fun ds => if ds.length = 1 then (d__law_sum) ds else none) (xCons (xTup (xCons (xVar 5) (xCons (xTup (xCons (xBin oMul' (xVar 12) (xVar 2)) (xCons (xC (.int 1)) xNil))) xNil))) xNil)) xNil))))
  (sSeq (sIf (tNotP (tTru (xCall (fun ds => if ds.length = 2 then ((d__law_like 8) ds).bind fun d => if flat d then some d else none else none) (xCons (xCall (fun ds => if ds.length = 2 then ((d_run_bounds) ds).bind fun d => if flat d then some d else none else none) (xCons (xVar 0) (xCons (xVar 12) xNil))) (xCons (xVar 8) xNil))))) (sRet (xC (.bool false))) sNop)
  (sSeq (sSet 9 (xC .none))
  (sSeq (sIf (tOf (xBin oGt (xVar 2) (xC (.int 0)))) (sSeq (sSet 9 (xCall (fun ds => if ds.length = 2 then (d__law_ratio) ds else none) (xCons (xBin oIx (xVar 5) (xC (.int 0))) (xCons (xBin oMul' (xBin oIx (xVar 5) (xC (.int 1))) (xVar 2)) xNil))))
  sNop) sNop)
  (sSeq (sPar [14, 15] (xCons (xBin oMod (xCall bInt (xCons (xBin oIx (xVar 1) (xC (.int 25))) xNil)) (xC (.int 25))) (xCons (xLst xNil) xNil)))
  (sSeq (sFor (xIt oR1 (xCons (xBin oAdd (xVar 2) (xC (.int 1))) xNil)) (gSet 4) l3__law_logged)
  (sSeq (sIf (tOrP (tNotP (tTru (xCall (fun ds => if ds.length = 2 then (d__law_like 8) ds else none) (xCons (xCall (fun ds => if ds.length = 1 then (d_mean_speed) ds else none) (xCons (xVar 0) xNil)) (xCons (xVar 9) xNil))))) (tNotP (tTru (xCall (fun ds => if ds.length = 2 then (d__law_like 8) ds else none) (xCons (xCall (fun ds => if ds.length = 2 then ((d_hour_of) ds).bind fun d => if flat d then some d else none else none) (xCons (xVar 0) (xCons (xVar 14) xNil))) (xCons (xBin oIx (xBin oAdd (xVar 15) (xLst (xCons (xC .none) xNil))) (xC (.int 0))) xNil)))))) (sRet (xC (.bool false))) sNop)
  (sSeq (sPar [17, 18, 19] (xCons (xBin oAdd (xC (.int 1)) (xBin oMod (xCall bInt (xCons (xBin oIx (xVar 1) (xC (.int 26))) xNil)) (xC (.int 5)))) (xCons (xC .none) (xCons (xC .none) xNil))))
  (sSeq (sFor (xIt oR1 (xCons (xBin oAdd (xBin oSub (xVar 2) (xVar 17)) (xC (.int 1))) xNil)) (gSet 4) l4__law_logged)
  (sRet (xCall (fun ds => if ds.length = 2 then ((d__law_like 8) ds).bind fun d => if flat d then some d else none else none) (xCons (xCall (fun ds => if ds.length = 2 then ((d_fastest) ds).bind fun d => if flat d then some d else none else none) (xCons (xVar 0) (xCons (xVar 17) xNil))) (xCons (xVar 19) xNil))))))))))))))))))))))))
def d__law_logged : List D → Option D := runD 2 20 g__law_logged
theorem ok__law_logged {f : Addr} {fd : FuncData} (F : FnP K "_law_logged" s__law_logged f fd) (D_speed_at : Def P w K mg base 4 "speed_at" ["log", "hour"] (d_speed_at)) (D_run_between : Def P w K mg base 5 "run_between" ["log", "begin", "end"] (d_run_between)) (D_run_all : Def P w K mg base 6 "run_all" ["log"] (d_run_all)) (D_hour_of : Def P w K mg base 6 "hour_of" ["log", "way"] (d_hour_of)) (D_mean_speed : Def P w K mg base 7 "mean_speed" ["log"] (d_mean_speed)) (D_fastest : Def P w K mg base 6 "fastest" ["log", "length"] (d_fastest)) (D_run_bounds : Def P w K mg base 7 "run_bounds" ["log", "e"] (d_run_bounds)) (D__law_like : Def P w K mg base 10 "_law_like" ["value", "due"] (d__law_like 8)) (D__law_ratio : Def P w K mg base 2 "_law_ratio" ["a", "b"] (d__law_ratio)) (D__law_sum : Def P w K mg base 3 "_law_sum" ["ratios"] (d__law_sum)) (D__law_less : Def P w K mg base 1 "_law_less" ["one", "other"] (d__law_less)) (D__law_speeds : Def P w K mg base 3 "_law_speeds" ["log"] (d__law_speeds)) (b_int : mg "int" = none) (b_len : mg "len" = none) (b_range : mg "range" = none) : FnOk P w K mg base CX0 11 f fd ["log", "row"] (spD K 2 d__law_logged) := by
  have nd := sc__law_logged.nd
  refine fnp_ok (k := 10) (O' := []) F sc__law_logged fun cdv A outer s H E hr => ?_
  exact (by exact ss_cons (by exact ss_par3 10 11 12 nd (by exact sam_cons (by exact se_callD D__law_speeds hr (by exact sa_cons (by exact se_var 0) sa_nil)) (by exact sam_cons (by exact se_ix (by exact se_ix (by exact se_var 0) se_int) se_int) (by exact sam_cons (by exact se_op op_modD (by exact se_callT (st := false) cb_int b_int (by exact sa_cons (by exact se_ix (by exact se_var 1) se_int) sa_nil)) se_int) sam_nil)))) (by exact ss_cons (by exact ss_setF 2 nd (by exact se_op op_subD (by exact se_callB (st := false) cb_len b_len (by exact sa_cons (by exact se_var 10) sa_nil)) se_int)) (by exact ss_cons (by exact ss_setF 3 nd (by exact se_lst sa_nil)) (by exact ss_cons (by exact ss_for (O' := [3, 2, 12]) (by exact si_r1 (st := false) b_range (by exact sa_cons (by exact se_varW 2) sa_nil)) (by exact sg_name 4 nd) (by exact ss_cons (by exact ss_setS 13 nd (by exact se_callD D__law_sum hr (by exact sa_cons (by exact se_tup (by exact sa_cons (by exact se_ix (by exact se_var 10) (by exact se_var 4)) (by exact sa_cons (by exact se_ix (by exact se_var 10) (by exact se_op op_addD (by exact se_var 4) se_int)) sa_nil))) sa_nil))) (by exact ss_cons (by exact ss_app 3 (by exact se_callD D__law_ratio hr (by exact sa_cons (by exact se_ix (by exact se_var 13) se_int) (by exact sa_cons (by exact se_op op_mulD' se_int (by exact se_ix (by exact se_var 13) se_int)) sa_nil)))) ss_nil))) (by exact ss_cons (by exact ss_setF 5 nd (by exact se_callWD D__law_sum hr (by exact sa_cons (by exact se_varW 3) sa_nil))) (by exact ss_cons (by exact ss_for (O' := [5, 3, 2, 12]) (by exact si_r1 (st := false) b_range (by exact sa_cons (by exact se_op op_addD (by exact se_varW 2) se_int) sa_nil)) (by exact sg_name 4 nd) (by exact ss_cons (by exact ss_if (O' := [5, 3, 2, 12]) (by exact st_not (by exact st_val (by exact se_callD D__law_like hr (by exact sa_cons (by exact se_callD D_speed_at hr (by exact sa_cons (by exact se_var 0) (by exact sa_cons (by exact se_op op_addD (by exact se_var 11) (by exact se_var 4)) sa_nil))) (by exact sa_cons (by exact se_ix (by exact se_var 10) (by exact se_var 4)) sa_nil))))) (by exact ss_last (by exact ss_ret se_bl)) ss_nil) ss_nil)) (by exact ss_cons (by exact ss_if (O' := [5, 3, 2, 12]) (by exact SW.st (by exact sw_or (by exact st_cmp op_isNotD (by exact se_callD D_speed_at hr (by exact sa_cons (by exact se_var 0) (by exact sa_cons (by exact se_op op_addD (by exact se_op op_addD (by exact se_var 11) (by exact se_varW 2)) se_int) sa_nil))) se_non) (by exact sw_or1 (by exact SW.st (by exact sw_and (by exact st_cmp op_gtD (by exact se_var 11) se_int) (by exact sw_and1 (by exact st_cmp op_isNotD (by exact se_callD D_speed_at hr (by exact sa_cons (by exact se_var 0) (by exact sa_cons (by exact se_op op_subD (by exact se_var 11) se_int) sa_nil))) se_non))))))) (by exact ss_last (by exact ss_ret se_bl)) ss_nil) (by exact ss_cons (by exact ss_setF 6 nd (by exact se_op op_modD (by exact se_callT (st := false) cb_int b_int (by exact sa_cons (by exact se_ix (by exact se_var 1) se_int) sa_nil)) (by exact se_op op_addD (by exact se_varW 2) se_int))) (by exact ss_cons (by exact ss_setF 7 nd (by exact se_op op_addD (by exact se_varW 6) (by exact se_op op_modD (by exact se_callT (st := false) cb_int b_int (by exact sa_cons (by exact se_ix (by exact se_var 1) se_int) sa_nil)) (by exact se_op op_subD (by exact se_op op_addD (by exact se_varW 2) se_int) (by exact se_varW 6))))) (by exact ss_cons (by exact ss_if (O' := [7, 6, 5, 3, 2, 12]) (by exact st_not (by exact st_val (by exact se_callWD D__law_like hr (by exact sa_cons (by exact se_callD D_run_all hr (by exact sa_cons (by exact se_var 0) sa_nil)) (by exact sa_cons (by exact se_varW 5) sa_nil))))) (by exact ss_last (by exact ss_ret se_bl)) ss_nil) (by exact ss_cons (by exact ss_if (O' := [7, 6, 5, 3, 2, 12]) (by exact st_not (by exact st_val (by exact se_callD D__law_like hr (by exact sa_cons (by exact se_callD D_run_between hr (by exact sa_cons (by exact se_var 0) (by exact sa_cons (by exact se_op op_addD (by exact se_var 11) (by exact se_varW 6)) (by exact sa_cons (by exact se_op op_addD (by exact se_var 11) (by exact se_varW 7)) sa_nil)))) (by exact sa_cons (by exact se_callD D__law_sum hr (by exact sa_cons (by exact se_sl (by exact se_varW 3) (by exact so_some (by exact se_varW 6)) (by exact so_some (by exact se_varW 7))) sa_nil)) sa_nil))))) (by exact ss_last (by exact ss_ret se_bl)) ss_nil) (by exact ss_cons (by exact SS.weak (O1 := [7, 6, 3, 2, 12]) (by exact ss_setF 8 nd (by exact se_tup (by exact sa_cons (by exact se_callD D__law_sum hr (by exact sa_cons (by exact se_tup (by exact sa_cons (by exact se_var 5) (by exact sa_cons (by exact se_tup (by exact sa_cons (by exact se_op op_mulD' (by exact se_un un_negD (by exact se_varW 12)) (by exact se_varW 2)) (by exact sa_cons se_int sa_nil))) sa_nil))) sa_nil)) (by exact sa_cons (by exact se_callD D__law_sum hr (by exact sa_cons (by exact se_tup (by exact sa_cons (by exact se_var 5) (by exact sa_cons (by exact se_tup (by exact sa_cons (by exact se_op op_mulD' (by exact se_varW 12) (by exact se_varW 2)) (by exact sa_cons se_int sa_nil))) sa_nil))) sa_nil)) sa_nil))))) (by exact ss_cons (by exact ss_if (O' := [8, 7, 6, 3, 2, 12]) (by exact st_not (by exact st_val (by exact se_callWD D__law_like hr (by exact sa_cons (by exact se_callWD D_run_bounds hr (by exact sa_cons (by exact se_var 0) (by exact sa_cons (by exact se_varW 12) sa_nil))) (by exact sa_cons (by exact se_varW 8) sa_nil))))) (by exact ss_last (by exact ss_ret se_bl)) ss_nil) (by exact ss_cons (by exact ss_setF 9 nd se_non) (by exact ss_cons (by exact ss_if (O' := [8, 7, 6, 3, 2, 12]) (by exact st_cmp op_gtD (by exact se_varW 2) se_int) (by exact ss_cons (by exact ss_setS 9 nd (by exact se_callD D__law_ratio hr (by exact sa_cons (by exact se_ix (by exact se_var 5) se_int) (by exact sa_cons (by exact se_op op_mulD' (by exact se_ix (by exact se_var 5) se_int) (by exact se_varW 2)) sa_nil)))) ss_nil) ss_nil) (by exact ss_cons (by exact ss_par 14 15 nd (by exact sam_cons (by exact se_op op_modD (by exact se_callT (st := false) cb_int b_int (by exact sa_cons (by exact se_ix (by exact se_var 1) se_int) sa_nil)) se_int) (by exact sam_cons (by exact se_lst sa_nil) sam_nil))) (by exact ss_cons (by exact ss_for (O' := [15, 14, 8, 7, 6, 3, 2, 12]) (by exact si_r1 (st := false) b_range (by exact sa_cons (by exact se_op op_addD (by exact se_varW 2) se_int) sa_nil)) (by exact sg_name 4 nd) (by exact ss_cons (by exact ss_setS 16 nd (by exact se_callD D__law_sum hr (by exact sa_cons (by exact se_sl (by exact se_varW 3) so_none (by exact so_some (by exact se_var 4))) sa_nil))) (by exact ss_cons (by exact ss_if (O' := [15, 14, 8, 7, 6, 3, 2, 12]) (by exact st_cmp op_geD (by exact se_ix (by exact se_var 16) se_int) (by exact se_op op_mulD' (by exact se_varW 14) (by exact se_ix (by exact se_var 16) se_int))) (by exact ss_cons (by exact ss_app 15 (by exact se_op op_addD (by exact se_var 11) (by exact se_var 4))) ss_nil) ss_nil) ss_nil))) (by exact ss_cons (by exact ss_if (O' := [15, 14, 8, 7, 6, 3, 2, 12]) (by exact SW.st (by exact sw_or (by exact st_not (by exact st_val (by exact se_callD D__law_like hr (by exact sa_cons (by exact se_callD D_mean_speed hr (by exact sa_cons (by exact se_var 0) sa_nil)) (by exact sa_cons (by exact se_var 9) sa_nil))))) (by exact sw_or1 (by exact st_not (by exact st_val (by exact se_callD D__law_like hr (by exact sa_cons (by exact se_callWD D_hour_of hr (by exact sa_cons (by exact se_var 0) (by exact sa_cons (by exact se_varW 14) sa_nil))) (by exact sa_cons (by exact se_ix (by exact se_op op_addD (by exact se_varW 15) (by exact se_lst (by exact sa_cons se_non sa_nil))) se_int) sa_nil)))))))) (by exact ss_last (by exact ss_ret se_bl)) ss_nil) (by exact ss_cons (by exact ss_par3 17 18 19 nd (by exact sam_cons (by exact se_op op_addD se_int (by exact se_op op_modD (by exact se_callT (st := false) cb_int b_int (by exact sa_cons (by exact se_ix (by exact se_var 1) se_int) sa_nil)) se_int)) (by exact sam_cons se_non (by exact sam_cons se_non sam_nil)))) (by exact ss_cons (by exact SS.weak (O1 := [19, 17, 15, 14, 8, 7, 6, 3, 2, 12]) (by exact ss_for (O' := [19, 17, 15, 14, 8, 7, 6, 3, 2, 12]) (by exact si_r1 (st := false) b_range (by exact sa_cons (by exact se_op op_addD (by exact se_op op_subD (by exact se_varW 2) (by exact se_varW 17)) se_int) sa_nil)) (by exact sg_name 4 nd) (by exact ss_cons (by exact ss_setS 16 nd (by exact se_callD D__law_sum hr (by exact sa_cons (by exact se_sl (by exact se_varW 3) (by exact so_some (by exact se_var 4)) (by exact so_some (by exact se_op op_addD (by exact se_var 4) (by exact se_varW 17)))) sa_nil))) (by exact ss_cons (by exact ss_if (O' := [19, 19, 17, 15, 14, 8, 7, 6, 3, 2, 12]) (by exact SW.st (by exact sw_or (by exact st_cmp op_isD (by exact se_var 18) se_non) (by exact sw_or1 (by exact st_val (by exact se_callD D__law_less hr (by exact sa_cons (by exact se_var 18) (by exact sa_cons (by exact se_var 16) sa_nil))))))) (by exact ss_cons (by exact ss_par 18 19 nd (by exact sam_cons (by exact se_var 16) (by exact sam_cons (by exact se_tup (by exact sa_cons (by exact se_op op_addD (by exact se_var 11) (by exact se_var 4)) (by exact sa_cons (by exact se_op op_addD (by exact se_op op_addD (by exact se_var 11) (by exact se_var 4)) (by exact se_varW 17)) sa_nil))) sam_nil))) ss_nil) ss_nil) ss_nil)))) (by exact ss_last (by exact ss_ret (by exact se_callWD D__law_like hr (by exact sa_cons (by exact se_callWD D_fastest hr (by exact sa_cons (by exact se_var 0) (by exact sa_cons (by exact se_varW 17) sa_nil))) (by exact sa_cons (by exact se_varW 19) sa_nil)))))))))))))))))))))))))
/-! ### _law_steady -/
abbrev s__law_steady : Stmt := topS 46
theorem sc__law_steady : FnScope ["row", "log", "soundings", "way", "begin", "size", "speed", "hour", "depth", "k"] ["row"] (defScope s__law_steady) := ⟨rfl, rfl, rfl, by decide +kernel, rfl, by decide +kernel, by decide +kernel⟩
def l1__law_steady : XS :=
  (sSeq (sIf (tNotP (tTru (xCall (fun ds => if ds.length = 2 then (d__law_like 8) ds else none) (xCons (xCall (fun ds => if ds.length = 3 then ((d_run_between) ds).bind fun d => if flat d then some d else none else none) (xCons (xVar 1) (xCons (xVar 4) (xCons (xVar 7) xNil)))) (xCons (xTup (xCons (xVar 8) (xCons (xC (.int 1)) xNil))) xNil))))) (sRet (xC (.bool false))) sNop)
  sNop)
def g__law_steady : XS :=
  (sSeq (sPar [4, 5, 6] (xCons (xBin oMod (xCall bInt (xCons (xBin oIx (xVar 0) (xC (.int 27))) xNil)) (xC (.int 6))) (xCons (xBin oAdd (xC (.int 2)) (xBin oMod (xCall bInt (xCons (xBin oIx (xVar 0) (xC (.int 28))) xNil)) (xC (.int 6)))) (xCons (xBin oAdd (xC (.int 1)) (xBin oMod (xCall bInt (xCons (xBin oIx (xVar 0) (xC (.int 29))) xNil)) (xC (.int 6)))) xNil))))
  (sSeq (sSet 1 (xTup (xCons (xTup (xCons (xVar 4) (xCons (xVar 6) xNil))) (xCons (xTup (xCons (xBin oAdd (xVar 4) (xVar 5)) (xCons (xVar 6) xNil))) xNil))))
  (sSeq (sSet 2 (xCall bTuple (xCons (xLc (xIt oR2 (xCons (xC (.int 1)) (xCons (xBin oAdd (xVar 5) (xC (.int 1))) xNil))) (gSet 9) tYesP (xTup (xCons (xBin oAdd (xVar 4) (xVar 9)) (xCons (xBin oMul' (xVar 6) (xVar 9)) xNil))) [9]) xNil)))
  (sSeq (sFor (xSeq (xVar 2)) (gTupD 2 (gsCons (gSet 7) (gsCons (gSet 8) gsNil))) l1__law_steady)
  (sSeq (sIf (tNotP (tTru (xCall (fun ds => if ds.length = 2 then (d__law_like 8) ds else none) (xCons (xCall (fun ds => if ds.length = 1 then (d_best_line) ds else none) (xCons (xVar 2) xNil)) (xCons (xTup (xCons (xTup (xCons (xVar 6) (xCons (xC (.int 1)) xNil))) (xCons (xTup (xCons (xBin oMul' (xUn oNeg (xVar 6)) (xVar 4)) (xCons (xC (.int 1)) xNil))) xNil))) xNil))))) (sRet (xC (.bool false))) sNop)
  (sSeq (sIf (tNotP (tTru (xCall (fun ds => if ds.length = 2 then (d__law_like 8) ds else none) (xCons (xCall (fun ds => if ds.length = 2 then (d_rate_range) ds else none) (xCons (xVar 2) (xCons (xC (.int 0)) xNil))) (xCons (xTup (xCons (xTup (xCons (xVar 6) (xCons (xC (.int 1)) xNil))) (xCons (xTup (xCons (xVar 6) (xCons (xC (.int 1)) xNil))) xNil))) xNil))))) (sRet (xC (.bool false))) sNop)
  (sSeq (sIf (tNotP (tTru (xCall (fun ds => if ds.length = 2 then (d__law_like 8) ds else none) (xCons (xCall (fun ds => if ds.length = 2 then (d_from_hour) ds else none) (xCons (xVar 2) (xCons (xC (.int 0)) xNil))) (xCons (xVar 4) xNil))))) (sRet (xC (.bool false))) sNop)
  (sSeq (sSet 3 (xBin oMod (xCall bInt (xCons (xBin oIx (xVar 0) (xC (.int 30))) xNil)) (xBin oAdd (xBin oMul' (xVar 6) (xVar 5)) (xC (.int 1)))))
  (sRet (xCall (fun ds => if ds.length = 2 then (d__law_like 8) ds else none) (xCons (xCall (fun ds => if ds.length = 2 then ((d_hour_of) ds).bind fun d => if flat d then some d else none else none) (xCons (xVar 1) (xCons (xVar 3) xNil))) (xCons (xBin oAdd (xVar 4) (xBin oFdiv (xBin oSub (xBin oAdd (xVar 3) (xVar 6)) (xC (.int 1))) (xVar 6))) xNil))))))))))))
def d__law_steady : List D → Option D := runD 1 10 g__law_steady
theorem ok__law_steady {f : Addr} {fd : FuncData} (F : FnP K "_law_steady" s__law_steady f fd) (D_rate_range : Def P w K mg base 4 "rate_range" ["soundings", "e"] (d_rate_range)) (D_from_hour : Def P w K mg base 4 "from_hour" ["soundings", "e"] (d_from_hour)) (D_best_line : Def P w K mg base 5 "best_line" ["soundings"] (d_best_line)) (D_run_between : Def P w K mg base 5 "run_between" ["log", "begin", "end"] (d_run_between)) (D_hour_of : Def P w K mg base 6 "hour_of" ["log", "way"] (d_hour_of)) (D__law_like : Def P w K mg base 10 "_law_like" ["value", "due"] (d__law_like 8)) (b_int : mg "int" = none) (b_range : mg "range" = none) (b_tuple : mg "tuple" = none) : FnOk P w K mg base CX0 11 f fd ["row"] (spD K 1 d__law_steady) := by
  have nd := sc__law_steady.nd
  refine fnp_ok (k := 10) (O' := []) F sc__law_steady fun cdv A outer s H E hr => ?_
  exact (by exact ss_cons (by exact ss_parT [4, 5, 6] (by exact sam_cons (by exact se_op op_modD (by exact se_callT (st := false) cb_int b_int (by exact sa_cons (by exact se_ix (by exact se_var 0) se_int) sa_nil)) se_int) (by exact sam_cons (by exact se_op op_addD se_int (by exact se_op op_modD (by exact se_callT (st := false) cb_int b_int (by exact sa_cons (by exact se_ix (by exact se_var 0) se_int) sa_nil)) se_int)) (by exact sam_cons (by exact se_op op_addD se_int (by exact se_op op_modD (by exact se_callT (st := false) cb_int b_int (by exact sa_cons (by exact se_ix (by exact se_var 0) se_int) sa_nil)) se_int)) sam_nil))) (pgs_cons (pg_name (i := 4) nd rfl (by first | exact .inl rfl | exact .inr rfl)) (pgs_cons (pg_name (i := 5) nd rfl (by first | exact .inl rfl | exact .inr rfl)) (pgs_cons (pg_name (i := 6) nd rfl (by first | exact .inl rfl | exact .inr rfl)) pgs_nil)))) (by exact ss_cons (by exact SS.weak (O1 := [5]) (by exact ss_setF 1 nd (by exact se_tup (by exact sa_cons (by exact se_tup (by exact sa_cons (by exact se_var 4) (by exact sa_cons (by exact se_var 6) sa_nil))) (by exact sa_cons (by exact se_tup (by exact sa_cons (by exact se_op op_addD (by exact se_var 4) (by exact se_varW 5)) (by exact sa_cons (by exact se_var 6) sa_nil))) sa_nil))))) (by exact ss_cons (by exact ss_setF 2 nd (by exact se_callT (st := false) cb_tuple b_tuple (by exact sa_cons (by exact se_lc nd (by exact si_r2 (st := false) b_range (by exact sa_cons se_int (by exact sa_cons (by exact se_op op_addD (by exact se_varW 5) se_int) sa_nil))) (blkOk_by (own := [("k", 9)]) rfl) (fun _ _ _ _ _ => (by exact sg_name 9 nd)) (fun _ _ _ _ _ => sts_nil) (fun _ _ _ _ _ => (by exact se_tup (by exact sa_cons (by exact se_op op_addD (by exact se_var 4) (by exact se_var 9)) (by exact sa_cons (by exact se_op op_mulD' (by exact se_var 6) (by exact se_var 9)) sa_nil))))) sa_nil))) (by exact ss_cons (by exact SS.weak (O1 := [1, 5]) (by exact ss_for (O' := [1, 5]) (by exact si_seq (m := .s) (by exact se_var 2)) (by exact sg_tup rfl (by exact sgs_cons (by exact sg_name 7 nd) (by exact sgs_cons (by exact sg_name 8 nd) sgs_nil))) (by exact ss_cons (by exact ss_if (O' := [1, 5]) (by exact st_not (by exact st_val (by exact se_callD D__law_like hr (by exact sa_cons (by exact se_callWD D_run_between hr (by exact sa_cons (by exact se_varW 1) (by exact sa_cons (by exact se_var 4) (by exact sa_cons (by exact se_var 7) sa_nil)))) (by exact sa_cons (by exact se_tup (by exact sa_cons (by exact se_var 8) (by exact sa_cons se_int sa_nil))) sa_nil))))) (by exact ss_last (by exact ss_ret se_bl)) ss_nil) ss_nil))) (by exact ss_cons (by exact ss_if (O' := [1, 5]) (by exact st_not (by exact st_val (by exact se_callD D__law_like hr (by exact sa_cons (by exact se_callD D_best_line hr (by exact sa_cons (by exact se_var 2) sa_nil)) (by exact sa_cons (by exact se_tup (by exact sa_cons (by exact se_tup (by exact sa_cons (by exact se_var 6) (by exact sa_cons se_int sa_nil))) (by exact sa_cons (by exact se_tup (by exact sa_cons (by exact se_op op_mulD' (by exact se_un un_negD (by exact se_var 6)) (by exact se_var 4)) (by exact sa_cons se_int sa_nil))) sa_nil))) sa_nil))))) (by exact ss_last (by exact ss_ret se_bl)) ss_nil) (by exact ss_cons (by exact ss_if (O' := [1, 5]) (by exact st_not (by exact st_val (by exact se_callD D__law_like hr (by exact sa_cons (by exact se_callD D_rate_range hr (by exact sa_cons (by exact se_var 2) (by exact sa_cons se_int sa_nil))) (by exact sa_cons (by exact se_tup (by exact sa_cons (by exact se_tup (by exact sa_cons (by exact se_var 6) (by exact sa_cons se_int sa_nil))) (by exact sa_cons (by exact se_tup (by exact sa_cons (by exact se_var 6) (by exact sa_cons se_int sa_nil))) sa_nil))) sa_nil))))) (by exact ss_last (by exact ss_ret se_bl)) ss_nil) (by exact ss_cons (by exact ss_if (O' := [1, 5]) (by exact st_not (by exact st_val (by exact se_callD D__law_like hr (by exact sa_cons (by exact se_callD D_from_hour hr (by exact sa_cons (by exact se_var 2) (by exact sa_cons se_int sa_nil))) (by exact sa_cons (by exact se_var 4) sa_nil))))) (by exact ss_last (by exact ss_ret se_bl)) ss_nil) (by exact ss_cons (by exact ss_setF 3 nd (by exact se_op op_modD (by exact se_callT (st := false) cb_int b_int (by exact sa_cons (by exact se_ix (by exact se_var 0) se_int) sa_nil)) (by exact se_op op_addD (by exact se_op op_mulD' (by exact se_var 6) (by exact se_varW 5)) se_int))) (by exact ss_last (by exact ss_ret (by exact se_callD D__law_like hr (by exact sa_cons (by exact se_callWD D_hour_of hr (by exact sa_cons (by exact se_varW 1) (by exact sa_cons (by exact se_varW 3) sa_nil))) (by exact sa_cons (by exact se_op op_addD (by exact se_var 4) (by exact se_op op_fdivD (by exact se_op op_subD (by exact se_op op_addD (by exact se_varW 3) (by exact se_var 6)) se_int) (by exact se_var 6))) sa_nil)))))))))))))
/-! ### law -/
abbrev s_law : Stmt := topS 47
theorem sc_law : FnScope ["script", "spoilt", "k", "later", "soundings", "hour", "row", "log", "rate", "e", "start", "count", "depth"] ["script"] (defScope s_law) := ⟨rfl, rfl, rfl, by decide +kernel, rfl, by decide +kernel, by decide +kernel⟩
def l1_law : XS :=
  (sSeq (sSet 12 (xBin oAdd (xBin oSub (xBin oAdd (xBin oMul' (xVar 8) (xBin oSub (xVar 5) (xVar 10))) (xBin oMod (xCall bInt (xCons (xBin oIx (xVar 6) (xBin oAdd (xC (.int 6)) (xVar 2))) xNil)) (xBin oAdd (xBin oMul' (xC (.int 2)) (xVar 9)) (xC (.int 1))))) (xVar 9)) (xBin oMul' (xCall bInt (xCons (xBin oEq (xVar 2) (xVar 1)) xNil)) (xBin oAdd (xBin oMul' (xC (.int 3)) (xVar 9)) (xC (.int 1))))))
  (sSeq (sApp 4 (xTup (xCons (xVar 5) (xCons (xCall bMax2 (xCons (xC (.int 0)) (xCons (xVar 12) xNil))) xNil))))
  (sSeq (sSet 5 (xBin oAdd (xBin oAdd (xVar 5) (xC (.int 1))) (xBin oMod (xCall bInt (xCons (xBin oIx (xVar 6) (xBin oAdd (xC (.int 10)) (xVar 2))) xNil)) (xC (.int 3)))))
  sNop)))
def l2_law : XS :=
  (sSeq (sApp 7 (xTup (xCons (xVar 5) (xCons (xBin oMod (xCall bInt (xCons (xBin oIx (xVar 6) (xBin oAdd (xC (.int 17)) (xVar 2))) xNil)) (xC (.int 9))) xNil))))
  (sSeq (sSet 5 (xBin oAdd (xBin oAdd (xVar 5) (xC (.int 1))) (xBin oMod (xBin oFdiv (xCall bInt (xCons (xBin oIx (xVar 6) (xBin oAdd (xC (.int 10)) (xVar 2))) xNil)) (xC (.int 3))) (xC (.int 3)))))
  sNop))
def g_law : XS :=
  (sSeq (sPar [6, 7, 4] (xCons (xCall (fun ds => if ds.length = 2 then (d__law_row) ds else none) (xCons (xVar 0) (xCons (xC (.int 32)) xNil))) (xCons (xLst xNil) (xCons (xLst xNil) xNil))))
  (sSeq (sPar [5, 8, 9] (xCons (xBin oAdd (xC (.int 1)) (xBin oMod (xCall bInt (xCons (xBin oIx (xVar 6) (xC (.int 0))) xNil)) (xC (.int 4)))) (xCons (xBin oMod (xCall bInt (xCons (xBin oIx (xVar 6) (xC (.int 1))) xNil)) (xC (.int 6))) (xCons (xBin oMod (xCall bInt (xCons (xBin oIx (xVar 6) (xC (.int 2))) xNil)) (xC (.int 3))) xNil))))
  (sSeq (sPar [10, 11] (xCons (xBin oMod (xCall bInt (xCons (xBin oIx (xVar 6) (xC (.int 3))) xNil)) (xBin oAdd (xVar 5) (xC (.int 1)))) (xCons (xBin oIx (xTup (xCons (xC (.int 2)) (xCons (xC (.int 3)) (xCons (xC (.int 4)) (xCons (xC (.int 4)) xNil))))) (xBin oMod (xCall bInt (xCons (xBin oIx (xVar 6) (xC (.int 4))) xNil)) (xC (.int 4)))) xNil)))
  (sSeq (sSet 1 (xBin oMod (xCall bInt (xCons (xBin oIx (xVar 6) (xC (.int 5))) xNil)) (xC (.int 6))))
  (sSeq (sFor (xIt oR1 (xCons (xVar 11) xNil)) (gSet 2) l1_law)
  (sSeq (sSet 3 (xBin oAdd (xBin oIx (xBin oIx (xVar 4) (xC (.int 0))) (xC (.int 0))) (xBin oMod (xCall bInt (xCons (xBin oIx (xVar 6) (xC (.int 14))) xNil)) (xC (.int 12)))))
  (sSeq (sSet 4 (xCall bTuple (xCons (xVar 4) xNil)))
  (sSeq (sIf (tOrP (tNotP (tTru (xCall (fun ds => if ds.length = 3 then ((d__law_sounded) ds).bind fun d => if flat d then some d else none else none) (xCons (xVar 4) (xCons (xVar 9) (xCons (xVar 3) xNil)))))) (tOrP (tNotP (tTru (xCall (fun ds => if ds.length = 1 then ((d__law_squares) ds).bind fun d => if flat d then some d else none else none) (xCons (xVar 4) xNil)))) (tNotP (tTru (xCall (fun ds => if ds.length = 1 then (d__law_steady) ds else none) (xCons (xVar 6) xNil)))))) (sRet (xC (.bool false))) sNop)
  (sSeq (sSet 5 (xBin oMod (xCall bInt (xCons (xBin oIx (xVar 6) (xC (.int 15))) xNil)) (xC (.int 4))))
  (sSeq (sFor (xIt oR1 (xCons (xBin oAdd (xC (.int 1)) (xBin oMod (xCall bInt (xCons (xBin oIx (xVar 6) (xC (.int 16))) xNil)) (xC (.int 4)))) xNil)) (gSet 2) l2_law)
  (sRet (xCall (fun ds => if ds.length = 2 then (d__law_logged) ds else none) (xCons (xCall bTuple (xCons (xVar 7) xNil)) (xCons (xVar 6) xNil))))))))))))))
def d_law : List D → Option D := runD 1 13 g_law
theorem ok_law {f : Addr} {fd : FuncData} (F : FnP K "law" s_law f fd) (D__law_row : Def P w K mg base 2 "_law_row" ["script", "many"] (d__law_row)) (D__law_sounded : Def P w K mg base 11 "_law_sounded" ["soundings", "e", "later"] (d__law_sounded)) (D__law_squares : Def P w K mg base 11 "_law_squares" ["soundings"] (d__law_squares)) (D__law_logged : Def P w K mg base 11 "_law_logged" ["log", "row"] (d__law_logged)) (D__law_steady : Def P w K mg base 11 "_law_steady" ["row"] (d__law_steady)) (b_int : mg "int" = none) (b_max : mg "max" = none) (b_range : mg "range" = none) (b_tuple : mg "tuple" = none) : FnOk P w K mg base CX0 12 f fd ["script"] (spD K 1 d_law) := by
  have nd := sc_law.nd
  refine fnp_ok (k := 11) (O' := []) F sc_law fun cdv A outer s H E hr => ?_
  exact (by exact ss_cons (by exact ss_par3 6 7 4 nd (by exact sam_cons (by exact se_callD D__law_row hr (by exact sa_cons (by exact se_var 0) (by exact sa_cons se_int sa_nil))) (by exact sam_cons (by exact se_lst sa_nil) (by exact sam_cons (by exact se_lst sa_nil) sam_nil)))) (by exact ss_cons (by exact ss_par3 5 8 9 nd (by exact sam_cons (by exact se_op op_addD se_int (by exact se_op op_modD (by exact se_callT (st := false) cb_int b_int (by exact sa_cons (by exact se_ix (by exact se_var 6) se_int) sa_nil)) se_int)) (by exact sam_cons (by exact se_op op_modD (by exact se_callT (st := false) cb_int b_int (by exact sa_cons (by exact se_ix (by exact se_var 6) se_int) sa_nil)) se_int) (by exact sam_cons (by exact se_op op_modD (by exact se_callT (st := false) cb_int b_int (by exact sa_cons (by exact se_ix (by exact se_var 6) se_int) sa_nil)) se_int) sam_nil)))) (by exact ss_cons (by exact ss_par 10 11 nd (by exact sam_cons (by exact se_op op_modD (by exact se_callT (st := false) cb_int b_int (by exact sa_cons (by exact se_ix (by exact se_var 6) se_int) sa_nil)) (by exact se_op op_addD (by exact se_varW 5) se_int)) (by exact sam_cons (by exact se_ix (by exact se_tup (by exact sa_cons se_int (by exact sa_cons se_int (by exact sa_cons se_int (by exact sa_cons se_int sa_nil))))) (by exact se_op op_modD (by exact se_callT (st := false) cb_int b_int (by exact sa_cons (by exact se_ix (by exact se_var 6) se_int) sa_nil)) se_int)) sam_nil))) (by exact ss_cons (by exact ss_setF 1 nd (by exact se_op op_modD (by exact se_callT (st := false) cb_int b_int (by exact sa_cons (by exact se_ix (by exact se_var 6) se_int) sa_nil)) se_int)) (by exact ss_cons (by exact ss_for (O' := [1, 10, 9, 8, 5, 4, 7]) (by exact si_r1 (st := false) b_range (by exact sa_cons (by exact se_var 11) sa_nil)) (by exact sg_name 2 nd) (by exact ss_cons (by exact ss_setF 12 nd (by exact se_op op_addD (by exact se_op op_subD (by exact se_op op_addD (by exact se_op op_mulD' (by exact se_varW 8) (by exact se_op op_subD (by exact se_varW 5) (by exact se_varW 10))) (by exact se_op op_modD (by exact se_callT (st := false) cb_int b_int (by exact sa_cons (by exact se_ix (by exact se_var 6) (by exact se_op op_addD se_int (by exact se_var 2))) sa_nil)) (by exact se_op op_addD (by exact se_op op_mulD' se_int (by exact se_varW 9)) se_int))) (by exact se_varW 9)) (by exact se_op op_mulD' (by exact se_callT (st := false) cb_int b_int (by exact sa_cons (by exact se_cmp (op_eqP hr) (by exact se_var 2) (by exact se_varW 1)) sa_nil)) (by exact se_op op_addD (by exact se_op op_mulD' se_int (by exact se_varW 9)) se_int)))) (by exact ss_cons (by exact SS.weak (O1 := [12, 1, 10, 9, 8, 4, 7]) (by exact ss_app 4 (by exact se_tup (by exact sa_cons (by exact se_var 5) (by exact sa_cons (by exact se_callB (st := false) cb_max2 b_max (by exact sa_cons se_int (by exact sa_cons (by exact se_varW 12) sa_nil))) sa_nil))))) (by exact ss_cons (by exact ss_setF 5 nd (by exact se_op op_addD (by exact se_op op_addD (by exact se_var 5) se_int) (by exact se_op op_modD (by exact se_callT (st := false) cb_int b_int (by exact sa_cons (by exact se_ix (by exact se_var 6) (by exact se_op op_addD se_int (by exact se_var 2))) sa_nil)) se_int))) ss_nil)))) (by exact ss_cons (by exact ss_setF 3 nd (by exact se_op op_addD (by exact se_ix (by exact se_ix (by exact se_varW 4) se_int) se_int) (by exact se_op op_modD (by exact se_callT (st := false) cb_int b_int (by exact sa_cons (by exact se_ix (by exact se_var 6) se_int) sa_nil)) se_int))) (by exact ss_cons (by exact ss_setF 4 nd (by exact se_callT (st := false) cb_tuple b_tuple (by exact sa_cons (by exact se_varW 4) sa_nil))) (by exact ss_cons (by exact ss_if (O' := [4, 3, 1, 10, 9, 8, 5, 4, 7]) (by exact SW.st (by exact sw_or (by exact st_not (by exact st_val (by exact se_callWD D__law_sounded hr (by exact sa_cons (by exact se_varW 4) (by exact sa_cons (by exact se_varW 9) (by exact sa_cons (by exact se_varW 3) sa_nil)))))) (by exact sw_or (by exact st_not (by exact st_val (by exact se_callWD D__law_squares hr (by exact sa_cons (by exact se_varW 4) sa_nil)))) (by exact sw_or1 (by exact st_not (by exact st_val (by exact se_callD D__law_steady hr (by exact sa_cons (by exact se_var 6) sa_nil)))))))) (by exact ss_last (by exact ss_ret se_bl)) ss_nil) (by exact ss_cons (by exact ss_setF 5 nd (by exact se_op op_modD (by exact se_callT (st := false) cb_int b_int (by exact sa_cons (by exact se_ix (by exact se_var 6) se_int) sa_nil)) se_int)) (by exact ss_cons (by exact ss_for (O' := [5, 4, 3, 1, 10, 9, 8, 5, 4, 7]) (by exact si_r1 (st := false) b_range (by exact sa_cons (by exact se_op op_addD se_int (by exact se_op op_modD (by exact se_callT (st := false) cb_int b_int (by exact sa_cons (by exact se_ix (by exact se_var 6) se_int) sa_nil)) se_int)) sa_nil)) (by exact sg_name 2 nd) (by exact ss_cons (by exact SS.weak (O1 := [4, 3, 1, 10, 9, 8, 4, 7]) (by exact ss_app 7 (by exact se_tup (by exact sa_cons (by exact se_var 5) (by exact sa_cons (by exact se_op op_modD (by exact se_callT (st := false) cb_int b_int (by exact sa_cons (by exact se_ix (by exact se_var 6) (by exact se_op op_addD se_int (by exact se_var 2))) sa_nil)) se_int) sa_nil))))) (by exact ss_cons (by exact ss_setF 5 nd (by exact se_op op_addD (by exact se_op op_addD (by exact se_var 5) se_int) (by exact se_op op_modD (by exact se_op op_fdivD (by exact se_callT (st := false) cb_int b_int (by exact sa_cons (by exact se_ix (by exact se_var 6) (by exact se_op op_addD se_int (by exact se_var 2))) sa_nil)) se_int) se_int))) ss_nil))) (by exact ss_last (by exact ss_ret (by exact se_callD D__law_logged hr (by exact sa_cons (by exact se_callT (st := false) cb_tuple b_tuple (by exact sa_cons (by exact se_varW 7) sa_nil)) (by exact sa_cons (by exact se_var 6) sa_nil)))))))))))))))
end
/-! ### the head -/
def h_divisor : He.DefD := ⟨("divisor", none), "divisor", "divisor", defArgs s_divisor, defBody s_divisor, defScope s_divisor, [], []⟩
def h_lowest : He.DefD := ⟨("lowest", none), "lowest", "lowest", defArgs s_lowest, defBody s_lowest, defScope s_lowest, [], []⟩
def h_plus : He.DefD := ⟨("plus", none), "plus", "plus", defArgs s_plus, defBody s_plus, defScope s_plus, [], []⟩
def h_minus : He.DefD := ⟨("minus", none), "minus", "minus", defArgs s_minus, defBody s_minus, defScope s_minus, [], []⟩
def h_times : He.DefD := ⟨("times", none), "times", "times", defArgs s_times, defBody s_times, defScope s_times, [], []⟩
def h_parted : He.DefD := ⟨("parted", none), "parted", "parted", defArgs s_parted, defBody s_parted, defScope s_parted, [], []⟩
def h_is_less : He.DefD := ⟨("is_less", none), "is_less", "is_less", defArgs s_is_less, defBody s_is_less, defScope s_is_less, [], []⟩
def h_over : He.DefD := ⟨("over", none), "over", "over", defArgs s_over, defBody s_over, defScope s_over, [], []⟩
def h_whole : He.DefD := ⟨("whole", none), "whole", "whole", defArgs s_whole, defBody s_whole, defScope s_whole, [], []⟩
def h_bounds_at : He.DefD := ⟨("bounds_at", none), "bounds_at", "bounds_at", defArgs s_bounds_at, defBody s_bounds_at, defScope s_bounds_at, [], []⟩
def h_fits_line : He.DefD := ⟨("fits_line", none), "fits_line", "fits_line", defArgs s_fits_line, defBody s_fits_line, defScope s_fits_line, [], []⟩
def h_pair_rates : He.DefD := ⟨("pair_rates", none), "pair_rates", "pair_rates", defArgs s_pair_rates, defBody s_pair_rates, defScope s_pair_rates, [], []⟩
def h_rate_range : He.DefD := ⟨("rate_range", none), "rate_range", "rate_range", defArgs s_rate_range, defBody s_rate_range, defScope s_rate_range, [], []⟩
def h_bind_rates : He.DefD := ⟨("bind_rates", none), "bind_rates", "bind_rates", defArgs s_bind_rates, defBody s_bind_rates, defScope s_bind_rates, [], []⟩
def h_sure_depth : He.DefD := ⟨("sure_depth", none), "sure_depth", "sure_depth", defArgs s_sure_depth, defBody s_sure_depth, defScope s_sure_depth, [], []⟩
def h_could_begin : He.DefD := ⟨("could_begin", none), "could_begin", "could_begin", defArgs s_could_begin, defBody s_could_begin, defScope s_could_begin, [], []⟩
def h_from_hour : He.DefD := ⟨("from_hour", none), "from_hour", "from_hour", defArgs s_from_hour, defBody s_from_hour, defScope s_from_hour, [], []⟩
def h_odd_sounding : He.DefD := ⟨("odd_sounding", none), "odd_sounding", "odd_sounding", defArgs s_odd_sounding, defBody s_odd_sounding, defScope s_odd_sounding, [], []⟩
def h_best_line : He.DefD := ⟨("best_line", none), "best_line", "best_line", defArgs s_best_line, defBody s_best_line, defScope s_best_line, [], []⟩
def h_speed_at : He.DefD := ⟨("speed_at", none), "speed_at", "speed_at", defArgs s_speed_at, defBody s_speed_at, defScope s_speed_at, [], []⟩
def h_run_between : He.DefD := ⟨("run_between", none), "run_between", "run_between", defArgs s_run_between, defBody s_run_between, defScope s_run_between, [], []⟩
def h_run_all : He.DefD := ⟨("run_all", none), "run_all", "run_all", defArgs s_run_all, defBody s_run_all, defScope s_run_all, [], []⟩
def h_hour_of : He.DefD := ⟨("hour_of", none), "hour_of", "hour_of", defArgs s_hour_of, defBody s_hour_of, defScope s_hour_of, [], []⟩
def h_mean_speed : He.DefD := ⟨("mean_speed", none), "mean_speed", "mean_speed", defArgs s_mean_speed, defBody s_mean_speed, defScope s_mean_speed, [], []⟩
def h_fastest : He.DefD := ⟨("fastest", none), "fastest", "fastest", defArgs s_fastest, defBody s_fastest, defScope s_fastest, [], []⟩
def h_run_bounds : He.DefD := ⟨("run_bounds", none), "run_bounds", "run_bounds", defArgs s_run_bounds, defBody s_run_bounds, defScope s_run_bounds, [], []⟩
def h__law_mixed : He.DefD := ⟨("_law_mixed", none), "_law_mixed", "_law_mixed", defArgs s__law_mixed, defBody s__law_mixed, defScope s__law_mixed, [], []⟩
def h__law_row : He.DefD := ⟨("_law_row", none), "_law_row", "_law_row", defArgs s__law_row, defBody s__law_row, defScope s__law_row, [], []⟩
def h__law_is_int : He.DefD := ⟨("_law_is_int", none), "_law_is_int", "_law_is_int", defArgs s__law_is_int, defBody s__law_is_int, defScope s__law_is_int, [], []⟩
def h__law_like : He.DefD := ⟨("_law_like", none), "_law_like", "_law_like", defArgs s__law_like, defBody s__law_like, defScope s__law_like, [], []⟩
def h__law_common : He.DefD := ⟨("_law_common", none), "_law_common", "_law_common", defArgs s__law_common, defBody s__law_common, defScope s__law_common, [], []⟩
def h__law_ratio : He.DefD := ⟨("_law_ratio", none), "_law_ratio", "_law_ratio", defArgs s__law_ratio, defBody s__law_ratio, defScope s__law_ratio, [], []⟩
def h__law_sum : He.DefD := ⟨("_law_sum", none), "_law_sum", "_law_sum", defArgs s__law_sum, defBody s__law_sum, defScope s__law_sum, [], []⟩
def h__law_less : He.DefD := ⟨("_law_less", none), "_law_less", "_law_less", defArgs s__law_less, defBody s__law_less, defScope s__law_less, [], []⟩
def h__law_rates : He.DefD := ⟨("_law_rates", none), "_law_rates", "_law_rates", defArgs s__law_rates, defBody s__law_rates, defScope s__law_rates, [], []⟩
def h__law_lines : He.DefD := ⟨("_law_lines", none), "_law_lines", "_law_lines", defArgs s__law_lines, defBody s__law_lines, defScope s__law_lines, [], []⟩
def h__law_begun : He.DefD := ⟨("_law_begun", none), "_law_begun", "_law_begun", defArgs s__law_begun, defBody s__law_begun, defScope s__law_begun, [], []⟩
def h__law_sounded : He.DefD := ⟨("_law_sounded", none), "_law_sounded", "_law_sounded", defArgs s__law_sounded, defBody s__law_sounded, defScope s__law_sounded, [], []⟩
def h__law_squares : He.DefD := ⟨("_law_squares", none), "_law_squares", "_law_squares", defArgs s__law_squares, defBody s__law_squares, defScope s__law_squares, [], []⟩
def h__law_speeds : He.DefD := ⟨("_law_speeds", none), "_law_speeds", "_law_speeds", defArgs s__law_speeds, defBody s__law_speeds, defScope s__law_speeds, [], []⟩
def h__law_logged : He.DefD := ⟨("_law_logged", none), "_law_logged", "_law_logged", defArgs s__law_logged, defBody s__law_logged, defScope s__law_logged, [], []⟩
def h__law_steady : He.DefD := ⟨("_law_steady", none), "_law_steady", "_law_steady", defArgs s__law_steady, defBody s__law_steady, defScope s__law_steady, [], []⟩
def h_law : He.DefD := ⟨("law", none), "law", "law", defArgs s_law, defBody s_law, defScope s_law, [], []⟩
def fn0 : List He.DefD := [h_divisor, h_lowest, h_plus, h_minus, h_times, h_parted, h_is_less, h_over, h_whole, h_bounds_at, h_fits_line, h_pair_rates, h_rate_range, h_bind_rates, h_sure_depth, h_could_begin, h_from_hour, h_odd_sounding, h_best_line, h_speed_at, h_run_between, h_run_all, h_hour_of, h_mean_speed, h_fastest, h_run_bounds, h__law_mixed, h__law_row, h__law_is_int, h__law_like]
def fn1 : List He.DefD := [h__law_common, h__law_ratio, h__law_sum, h__law_less, h__law_rates, h__law_lines, h__law_begun, h__law_sounded, h__law_squares, h__law_speeds, h__law_logged, h__law_steady, h_law]
def fn : List He.DefD := fn0 ++ fn1
def fa0 : List He.Fa := [.glo "divisor", .glo "lowest", .glo "plus", .glo "minus", .glo "times", .glo "parted", .glo "is_less", .glo "over", .glo "whole", .glo "bounds_at", .glo "fits_line", .glo "pair_rates", .glo "rate_range", .glo "bind_rates", .glo "sure_depth", .glo "could_begin", .glo "from_hour", .glo "odd_sounding", .glo "best_line", .glo "speed_at", .glo "run_between", .glo "run_all", .glo "hour_of", .glo "mean_speed", .glo "fastest", .glo "run_bounds", .glo "_law_mixed", .glo "_law_row", .glo "_law_is_int", .glo "_law_like"]
def fa1 : List He.Fa := [.glo "_law_common", .glo "_law_ratio", .glo "_law_sum", .glo "_law_less", .glo "_law_rates", .glo "_law_lines", .glo "_law_begun", .glo "_law_sounded", .glo "_law_squares", .glo "_law_speeds", .glo "_law_logged", .glo "_law_steady", .glo "law", .free "abs", .free "all", .free "bool", .free "enumerate", .free "int", .free "isinstance", .free "len", .free "max", .free "range", .free "str", .free "sum", .free "tuple", .free "zip"]
def fa : List He.Fa := fa0 ++ fa1
def loo0 : List PySem.Str := ["divisor", "lowest", "plus", "minus", "times", "parted", "is_less", "over", "whole", "bounds_at", "fits_line", "pair_rates", "rate_range", "bind_rates", "sure_depth", "could_begin", "from_hour", "odd_sounding", "best_line", "speed_at", "run_between", "run_all", "hour_of", "mean_speed", "fastest", "run_bounds", "_law_mixed", "_law_row", "_law_is_int", "_law_like"]
def loo1 : List PySem.Str := ["_law_common", "_law_ratio", "_law_sum", "_law_less", "_law_rates", "_law_lines", "_law_begun", "_law_sounded", "_law_squares", "_law_speeds", "_law_logged", "_law_steady"]
def loo : List PySem.Str := loo0 ++ loo1
abbrev R : PySem.W.OpenRow := PySem.W.OpenLaw.row PySem.Challenge.rw_dockheld_k28_whole_soundings_log
abbrev hk : PySem.W.Hook := He.hookD 4 fa fn
def ob (s : PySem.W.SharedT) : He.AlD := He.obsDG 4 fa fn (HandSHeadRun.getT s)
theorem ob_eq (s : PySem.W.SharedT) : ob s = hk.obs s.abs := He.obsDG_eq (HandSHeadRun.getT_eq s)
theorem run (w : World) : HandSHeadRun.RunEq R (PySem.W.view R.prog [47]) hk ob 20000 loo w := by
  intro os
  kernel_rfl
theorem facts {P : Program} {w : World} {K : PySem.W.Frag} {h : Heap} {mg : Str → Option Value} {f : Addr} (X : K.In h) (G : h.Ns mainGlobals mg) (hfa : mg ("law" : Str) = some (.ref f)) (c : He.SaysD fa fn K) :
    ∃ fd : FuncData, (∀ (s : Shared) (v : Value), BindsTo s fd ⟨[v], []⟩ [("script", v)]) ∧ ∀ base : Heap, K.In base → base.Ns mainGlobals mg → FnOk P w K mg base CX0 12 f fd ["script"] (spD K 1 d_law) := by
  obtain ⟨fd_divisor, F_divisor⟩ := c.def_ 0 (d := h_divisor) rfl
  obtain ⟨fd_lowest, F_lowest⟩ := c.def_ 1 (d := h_lowest) rfl
  obtain ⟨fd_plus, F_plus⟩ := c.def_ 2 (d := h_plus) rfl
  obtain ⟨fd_minus, F_minus⟩ := c.def_ 3 (d := h_minus) rfl
  obtain ⟨fd_times, F_times⟩ := c.def_ 4 (d := h_times) rfl
  obtain ⟨fd_parted, F_parted⟩ := c.def_ 5 (d := h_parted) rfl
  obtain ⟨fd_is_less, F_is_less⟩ := c.def_ 6 (d := h_is_less) rfl
  obtain ⟨fd_over, F_over⟩ := c.def_ 7 (d := h_over) rfl
  obtain ⟨fd_whole, F_whole⟩ := c.def_ 8 (d := h_whole) rfl
  obtain ⟨fd_bounds_at, F_bounds_at⟩ := c.def_ 9 (d := h_bounds_at) rfl
  obtain ⟨fd_fits_line, F_fits_line⟩ := c.def_ 10 (d := h_fits_line) rfl
  obtain ⟨fd_pair_rates, F_pair_rates⟩ := c.def_ 11 (d := h_pair_rates) rfl
  obtain ⟨fd_rate_range, F_rate_range⟩ := c.def_ 12 (d := h_rate_range) rfl
  obtain ⟨fd_bind_rates, F_bind_rates⟩ := c.def_ 13 (d := h_bind_rates) rfl
  obtain ⟨fd_sure_depth, F_sure_depth⟩ := c.def_ 14 (d := h_sure_depth) rfl
  obtain ⟨fd_could_begin, F_could_begin⟩ := c.def_ 15 (d := h_could_begin) rfl
  obtain ⟨fd_from_hour, F_from_hour⟩ := c.def_ 16 (d := h_from_hour) rfl
  obtain ⟨fd_odd_sounding, F_odd_sounding⟩ := c.def_ 17 (d := h_odd_sounding) rfl
  obtain ⟨fd_best_line, F_best_line⟩ := c.def_ 18 (d := h_best_line) rfl
  obtain ⟨fd_speed_at, F_speed_at⟩ := c.def_ 19 (d := h_speed_at) rfl
  obtain ⟨fd_run_between, F_run_between⟩ := c.def_ 20 (d := h_run_between) rfl
  obtain ⟨fd_run_all, F_run_all⟩ := c.def_ 21 (d := h_run_all) rfl
  obtain ⟨fd_hour_of, F_hour_of⟩ := c.def_ 22 (d := h_hour_of) rfl
  obtain ⟨fd_mean_speed, F_mean_speed⟩ := c.def_ 23 (d := h_mean_speed) rfl
  obtain ⟨fd_fastest, F_fastest⟩ := c.def_ 24 (d := h_fastest) rfl
  obtain ⟨fd_run_bounds, F_run_bounds⟩ := c.def_ 25 (d := h_run_bounds) rfl
  obtain ⟨fd__law_mixed, F__law_mixed⟩ := c.def_ 26 (d := h__law_mixed) rfl
  obtain ⟨fd__law_row, F__law_row⟩ := c.def_ 27 (d := h__law_row) rfl
  obtain ⟨fd__law_is_int, F__law_is_int⟩ := c.def_ 28 (d := h__law_is_int) rfl
  obtain ⟨fd__law_like, F__law_like⟩ := c.def_ 29 (d := h__law_like) rfl
  obtain ⟨fd__law_common, F__law_common⟩ := c.def_ 30 (d := h__law_common) rfl
  obtain ⟨fd__law_ratio, F__law_ratio⟩ := c.def_ 31 (d := h__law_ratio) rfl
  obtain ⟨fd__law_sum, F__law_sum⟩ := c.def_ 32 (d := h__law_sum) rfl
  obtain ⟨fd__law_less, F__law_less⟩ := c.def_ 33 (d := h__law_less) rfl
  obtain ⟨fd__law_rates, F__law_rates⟩ := c.def_ 34 (d := h__law_rates) rfl
  obtain ⟨fd__law_lines, F__law_lines⟩ := c.def_ 35 (d := h__law_lines) rfl
  obtain ⟨fd__law_begun, F__law_begun⟩ := c.def_ 36 (d := h__law_begun) rfl
  obtain ⟨fd__law_sounded, F__law_sounded⟩ := c.def_ 37 (d := h__law_sounded) rfl
  obtain ⟨fd__law_squares, F__law_squares⟩ := c.def_ 38 (d := h__law_squares) rfl
  obtain ⟨fd__law_speeds, F__law_speeds⟩ := c.def_ 39 (d := h__law_speeds) rfl
  obtain ⟨fd__law_logged, F__law_logged⟩ := c.def_ 40 (d := h__law_logged) rfl
  obtain ⟨fd__law_steady, F__law_steady⟩ := c.def_ 41 (d := h__law_steady) rfl
  obtain ⟨fd_law, F_law⟩ := c.def_ 42 (d := h_law) rfl
  have e := hfa.symm.trans (He.glo_ok X G (c.fact 42 (f := .glo "law") rfl))
  cases e
  refine ⟨fd_law, fun s v => FunD.bindsA (ps := ["script"]) F_law (fun _ _ _ _ _ _ us hl => match us, hl with | [_], _ => rfl) s [v] rfl, fun base _ _ => ?_⟩
  have b_abs : mg "abs" = none := He.free_ok X G (c.fact 43 (f := .free "abs") rfl)
  have b_all : mg "all" = none := He.free_ok X G (c.fact 44 (f := .free "all") rfl)
  have b_bool : mg "bool" = none := He.free_ok X G (c.fact 45 (f := .free "bool") rfl)
  have b_enumerate : mg "enumerate" = none := He.free_ok X G (c.fact 46 (f := .free "enumerate") rfl)
  have b_int : mg "int" = none := He.free_ok X G (c.fact 47 (f := .free "int") rfl)
  have b_isinstance : mg "isinstance" = none := He.free_ok X G (c.fact 48 (f := .free "isinstance") rfl)
  have b_len : mg "len" = none := He.free_ok X G (c.fact 49 (f := .free "len") rfl)
  have b_max : mg "max" = none := He.free_ok X G (c.fact 50 (f := .free "max") rfl)
  have b_range : mg "range" = none := He.free_ok X G (c.fact 51 (f := .free "range") rfl)
  have b_str : mg "str" = none := He.free_ok X G (c.fact 52 (f := .free "str") rfl)
  have b_sum : mg "sum" = none := He.free_ok X G (c.fact 53 (f := .free "sum") rfl)
  have b_tuple : mg "tuple" = none := He.free_ok X G (c.fact 54 (f := .free "tuple") rfl)
  have b_zip : mg "zip" = none := He.free_ok X G (c.fact 55 (f := .free "zip") rfl)
  have D_divisor : Def P w K mg base 1 "divisor" ["first", "second"] d_divisor := def_ok (ok_divisor F_divisor b_abs) (He.glo_ok X G (c.fact 0 (f := .glo "divisor") rfl)) F_divisor.kp (F_divisor.bindsN (ps := ["first", "second"]) fun _ _ _ _ _ _ us hl => match us, hl with | [_, _], _ => rfl)
  have D_lowest : Def P w K mg base 2 "lowest" ["a", "b"] d_lowest := def_ok (ok_lowest F_lowest D_divisor) (He.glo_ok X G (c.fact 1 (f := .glo "lowest") rfl)) F_lowest.kp (F_lowest.bindsN (ps := ["a", "b"]) fun _ _ _ _ _ _ us hl => match us, hl with | [_, _], _ => rfl)
  have D_plus : Def P w K mg base 3 "plus" ["first", "second"] d_plus := def_ok (ok_plus F_plus D_lowest) (He.glo_ok X G (c.fact 2 (f := .glo "plus") rfl)) F_plus.kp (F_plus.bindsN (ps := ["first", "second"]) fun _ _ _ _ _ _ us hl => match us, hl with | [_, _], _ => rfl)
  have D_minus : Def P w K mg base 3 "minus" ["first", "second"] d_minus := def_ok (ok_minus F_minus D_lowest) (He.glo_ok X G (c.fact 3 (f := .glo "minus") rfl)) F_minus.kp (F_minus.bindsN (ps := ["first", "second"]) fun _ _ _ _ _ _ us hl => match us, hl with | [_, _], _ => rfl)
  have D_times : Def P w K mg base 3 "times" ["first", "second"] d_times := def_ok (ok_times F_times D_lowest) (He.glo_ok X G (c.fact 4 (f := .glo "times") rfl)) F_times.kp (F_times.bindsN (ps := ["first", "second"]) fun _ _ _ _ _ _ us hl => match us, hl with | [_, _], _ => rfl)
  have D_parted : Def P w K mg base 3 "parted" ["first", "second"] d_parted := def_ok (ok_parted F_parted D_lowest) (He.glo_ok X G (c.fact 5 (f := .glo "parted") rfl)) F_parted.kp (F_parted.bindsN (ps := ["first", "second"]) fun _ _ _ _ _ _ us hl => match us, hl with | [_, _], _ => rfl)
  have D_is_less : Def P w K mg base 1 "is_less" ["first", "second"] d_is_less := def_ok (ok_is_less F_is_less) (He.glo_ok X G (c.fact 6 (f := .glo "is_less") rfl)) F_is_less.kp (F_is_less.bindsN (ps := ["first", "second"]) fun _ _ _ _ _ _ us hl => match us, hl with | [_, _], _ => rfl)
  have D_over : Def P w K mg base 4 "over" ["first", "second"] d_over := def_ok (ok_over F_over D_parted) (He.glo_ok X G (c.fact 7 (f := .glo "over") rfl)) F_over.kp (F_over.bindsN (ps := ["first", "second"]) fun _ _ _ _ _ _ us hl => match us, hl with | [_, _], _ => rfl)
  have D_whole : Def P w K mg base 1 "whole" ["number"] d_whole := def_ok (ok_whole F_whole) (He.glo_ok X G (c.fact 8 (f := .glo "whole") rfl)) F_whole.kp (F_whole.bindsN (ps := ["number"]) fun _ _ _ _ _ _ us hl => match us, hl with | [_], _ => rfl)
  have D_bounds_at : Def P w K mg base 4 "bounds_at" ["soundings", "rate", "e"] d_bounds_at := def_ok (ok_bounds_at F_bounds_at D_plus D_minus D_times D_is_less D_whole) (He.glo_ok X G (c.fact 9 (f := .glo "bounds_at") rfl)) F_bounds_at.kp (F_bounds_at.bindsN (ps := ["soundings", "rate", "e"]) fun _ _ _ _ _ _ us hl => match us, hl with | [_, _, _], _ => rfl)
  have D_fits_line : Def P w K mg base 5 "fits_line" ["soundings", "e", "rate", "depth"] d_fits_line := def_ok (ok_fits_line F_fits_line D_is_less D_bounds_at) (He.glo_ok X G (c.fact 10 (f := .glo "fits_line") rfl)) F_fits_line.kp (F_fits_line.bindsN (ps := ["soundings", "e", "rate", "depth"]) fun _ _ _ _ _ _ us hl => match us, hl with | [_, _, _, _], _ => rfl)
  have D_pair_rates : Def P w K mg base 3 "pair_rates" ["soundings", "e"] d_pair_rates := def_ok (ok_pair_rates F_pair_rates D_lowest D_is_less b_enumerate) (He.glo_ok X G (c.fact 11 (f := .glo "pair_rates") rfl)) F_pair_rates.kp (F_pair_rates.bindsN (ps := ["soundings", "e"]) fun _ _ _ _ _ _ us hl => match us, hl with | [_, _], _ => rfl)
  have D_rate_range : Def P w K mg base 4 "rate_range" ["soundings", "e"] d_rate_range := def_ok (ok_rate_range F_rate_range D_is_less D_pair_rates) (He.glo_ok X G (c.fact 12 (f := .glo "rate_range") rfl)) F_rate_range.kp (F_rate_range.bindsN (ps := ["soundings", "e"]) fun _ _ _ _ _ _ us hl => match us, hl with | [_, _], _ => rfl)
  have D_bind_rates : Def P w K mg base 3 "bind_rates" ["soundings", "e"] d_bind_rates := def_ok (ok_bind_rates F_bind_rates D_lowest b_enumerate) (He.glo_ok X G (c.fact 13 (f := .glo "bind_rates") rfl)) F_bind_rates.kp (F_bind_rates.bindsN (ps := ["soundings", "e"]) fun _ _ _ _ _ _ us hl => match us, hl with | [_, _], _ => rfl)
  have D_sure_depth : Def P w K mg base 5 "sure_depth" ["soundings", "e", "hour"] d_sure_depth := def_ok (ok_sure_depth F_sure_depth D_plus D_times D_is_less D_whole D_bounds_at D_rate_range D_bind_rates) (He.glo_ok X G (c.fact 14 (f := .glo "sure_depth") rfl)) F_sure_depth.kp (F_sure_depth.bindsN (ps := ["soundings", "e", "hour"]) fun _ _ _ _ _ _ us hl => match us, hl with | [_, _, _], _ => rfl)
  have D_could_begin : Def P w K mg base 3 "could_begin" ["soundings", "e", "hour"] d_could_begin := def_ok (ok_could_begin F_could_begin D_lowest D_is_less b_abs) (He.glo_ok X G (c.fact 15 (f := .glo "could_begin") rfl)) F_could_begin.kp (F_could_begin.bindsN (ps := ["soundings", "e", "hour"]) fun _ _ _ _ _ _ us hl => match us, hl with | [_, _, _], _ => rfl)
  have D_from_hour : Def P w K mg base 4 "from_hour" ["soundings", "e"] d_from_hour := def_ok (ok_from_hour F_from_hour D_could_begin b_range) (He.glo_ok X G (c.fact 16 (f := .glo "from_hour") rfl)) F_from_hour.kp (F_from_hour.bindsN (ps := ["soundings", "e"]) fun _ _ _ _ _ _ us hl => match us, hl with | [_, _], _ => rfl)
  have D_odd_sounding : Def P w K mg base 5 "odd_sounding" ["soundings", "e"] d_odd_sounding := def_ok (ok_odd_sounding F_odd_sounding D_rate_range b_len b_range) (He.glo_ok X G (c.fact 17 (f := .glo "odd_sounding") rfl)) F_odd_sounding.kp (F_odd_sounding.bindsN (ps := ["soundings", "e"]) fun _ _ _ _ _ _ us hl => match us, hl with | [_, _], _ => rfl)
  have D_best_line : Def P w K mg base 5 "best_line" ["soundings"] d_best_line := def_ok (ok_best_line F_best_line D_lowest D_minus D_times D_over D_whole b_len b_sum) (He.glo_ok X G (c.fact 18 (f := .glo "best_line") rfl)) F_best_line.kp (F_best_line.bindsN (ps := ["soundings"]) fun _ _ _ _ _ _ us hl => match us, hl with | [_], _ => rfl)
  have D_speed_at : Def P w K mg base 4 "speed_at" ["log", "hour"] d_speed_at := def_ok (ok_speed_at F_speed_at D_lowest D_plus D_times D_whole b_len b_zip) (He.glo_ok X G (c.fact 19 (f := .glo "speed_at") rfl)) F_speed_at.kp (F_speed_at.bindsN (ps := ["log", "hour"]) fun _ _ _ _ _ _ us hl => match us, hl with | [_, _], _ => rfl)
  have D_run_between : Def P w K mg base 5 "run_between" ["log", "begin", "end"] d_run_between := def_ok (ok_run_between F_run_between D_lowest D_plus D_times D_whole D_speed_at b_range) (He.glo_ok X G (c.fact 20 (f := .glo "run_between") rfl)) F_run_between.kp (F_run_between.bindsN (ps := ["log", "begin", "end"]) fun _ _ _ _ _ _ us hl => match us, hl with | [_, _, _], _ => rfl)
  have D_run_all : Def P w K mg base 6 "run_all" ["log"] d_run_all := def_ok (ok_run_all F_run_all D_run_between) (He.glo_ok X G (c.fact 21 (f := .glo "run_all") rfl)) F_run_all.kp (F_run_all.bindsN (ps := ["log"]) fun _ _ _ _ _ _ us hl => match us, hl with | [_], _ => rfl)
  have D_hour_of : Def P w K mg base 6 "hour_of" ["log", "way"] d_hour_of := def_ok (ok_hour_of F_hour_of D_is_less D_whole D_run_between b_range) (He.glo_ok X G (c.fact 22 (f := .glo "hour_of") rfl)) F_hour_of.kp (F_hour_of.bindsN (ps := ["log", "way"]) fun _ _ _ _ _ _ us hl => match us, hl with | [_, _], _ => rfl)
  have D_mean_speed : Def P w K mg base 7 "mean_speed" ["log"] d_mean_speed := def_ok (ok_mean_speed F_mean_speed D_lowest D_times D_run_all) (He.glo_ok X G (c.fact 23 (f := .glo "mean_speed") rfl)) F_mean_speed.kp (F_mean_speed.bindsN (ps := ["log"]) fun _ _ _ _ _ _ us hl => match us, hl with | [_], _ => rfl)
  have D_fastest : Def P w K mg base 6 "fastest" ["log", "length"] d_fastest := def_ok (ok_fastest F_fastest D_is_less D_run_between b_range) (He.glo_ok X G (c.fact 24 (f := .glo "fastest") rfl)) F_fastest.kp (F_fastest.bindsN (ps := ["log", "length"]) fun _ _ _ _ _ _ us hl => match us, hl with | [_, _], _ => rfl)
  have D_run_bounds : Def P w K mg base 7 "run_bounds" ["log", "e"] d_run_bounds := def_ok (ok_run_bounds F_run_bounds D_run_all) (He.glo_ok X G (c.fact 25 (f := .glo "run_bounds") rfl)) F_run_bounds.kp (F_run_bounds.bindsN (ps := ["log", "e"]) fun _ _ _ _ _ _ us hl => match us, hl with | [_, _], _ => rfl)
  have D__law_mixed : Def P w K mg base 1 "_law_mixed" ["script", "k"] d__law_mixed := def_ok (ok__law_mixed F__law_mixed b_int b_len) (He.glo_ok X G (c.fact 26 (f := .glo "_law_mixed") rfl)) F__law_mixed.kp (F__law_mixed.bindsN (ps := ["script", "k"]) fun _ _ _ _ _ _ us hl => match us, hl with | [_, _], _ => rfl)
  have D__law_row : Def P w K mg base 2 "_law_row" ["script", "many"] d__law_row := def_ok (ok__law_row F__law_row D__law_mixed b_int b_len b_range) (He.glo_ok X G (c.fact 27 (f := .glo "_law_row") rfl)) F__law_row.kp (F__law_row.bindsN (ps := ["script", "many"]) fun _ _ _ _ _ _ us hl => match us, hl with | [_, _], _ => rfl)
  have D__law_is_int : Def P w K mg base 1 "_law_is_int" ["value"] d__law_is_int := def_ok (ok__law_is_int F__law_is_int b_bool b_int b_isinstance) (He.glo_ok X G (c.fact 28 (f := .glo "_law_is_int") rfl)) F__law_is_int.kp (F__law_is_int.bindsN (ps := ["value"]) fun _ _ _ _ _ _ us hl => match us, hl with | [_], _ => rfl)
  have D__law_like : Def P w K mg base 10 "_law_like" ["value", "due"] (d__law_like 8) := def_ok (ok__law_like F__law_like (He.glo_ok X G (c.fact 29 (f := .glo "_law_like") rfl)) F__law_like.kp (F__law_like.bindsN (ps := ["value", "due"]) fun _ _ _ _ _ _ us hl => match us, hl with | [_, _], _ => rfl) D__law_is_int b_all b_bool b_isinstance b_len b_range b_str b_tuple 8) (He.glo_ok X G (c.fact 29 (f := .glo "_law_like") rfl)) F__law_like.kp (F__law_like.bindsN (ps := ["value", "due"]) fun _ _ _ _ _ _ us hl => match us, hl with | [_, _], _ => rfl)
  have D__law_common : Def P w K mg base 1 "_law_common" ["first", "second"] d__law_common := def_ok (ok__law_common F__law_common b_abs b_int) (He.glo_ok X G (c.fact 30 (f := .glo "_law_common") rfl)) F__law_common.kp (F__law_common.bindsN (ps := ["first", "second"]) fun _ _ _ _ _ _ us hl => match us, hl with | [_, _], _ => rfl)
  have D__law_ratio : Def P w K mg base 2 "_law_ratio" ["a", "b"] d__law_ratio := def_ok (ok__law_ratio F__law_ratio D__law_common) (He.glo_ok X G (c.fact 31 (f := .glo "_law_ratio") rfl)) F__law_ratio.kp (F__law_ratio.bindsN (ps := ["a", "b"]) fun _ _ _ _ _ _ us hl => match us, hl with | [_, _], _ => rfl)
  have D__law_sum : Def P w K mg base 3 "_law_sum" ["ratios"] d__law_sum := def_ok (ok__law_sum F__law_sum D__law_ratio) (He.glo_ok X G (c.fact 32 (f := .glo "_law_sum") rfl)) F__law_sum.kp (F__law_sum.bindsN (ps := ["ratios"]) fun _ _ _ _ _ _ us hl => match us, hl with | [_], _ => rfl)
  have D__law_less : Def P w K mg base 1 "_law_less" ["one", "other"] d__law_less := def_ok (ok__law_less F__law_less) (He.glo_ok X G (c.fact 33 (f := .glo "_law_less") rfl)) F__law_less.kp (F__law_less.bindsN (ps := ["one", "other"]) fun _ _ _ _ _ _ us hl => match us, hl with | [_, _], _ => rfl)
  have D__law_rates : Def P w K mg base 3 "_law_rates" ["soundings", "e"] d__law_rates := def_ok (ok__law_rates F__law_rates D__law_ratio D__law_less b_len b_range) (He.glo_ok X G (c.fact 34 (f := .glo "_law_rates") rfl)) F__law_rates.kp (F__law_rates.bindsN (ps := ["soundings", "e"]) fun _ _ _ _ _ _ us hl => match us, hl with | [_, _], _ => rfl)
  have D__law_lines : Def P w K mg base 1 "_law_lines" ["soundings", "e"] d__law_lines := def_ok (ok__law_lines F__law_lines b_abs b_all b_len b_range) (He.glo_ok X G (c.fact 35 (f := .glo "_law_lines") rfl)) F__law_lines.kp (F__law_lines.bindsN (ps := ["soundings", "e"]) fun _ _ _ _ _ _ us hl => match us, hl with | [_, _], _ => rfl)
  have D__law_begun : Def P w K mg base 2 "_law_begun" ["soundings", "e"] d__law_begun := def_ok (ok__law_begun F__law_begun D__law_less b_abs b_range) (He.glo_ok X G (c.fact 36 (f := .glo "_law_begun") rfl)) F__law_begun.kp (F__law_begun.bindsN (ps := ["soundings", "e"]) fun _ _ _ _ _ _ us hl => match us, hl with | [_, _], _ => rfl)
  have D__law_sounded : Def P w K mg base 11 "_law_sounded" ["soundings", "e", "later"] d__law_sounded := def_ok (ok__law_sounded F__law_sounded D_fits_line D_rate_range D_sure_depth D_from_hour D_odd_sounding D__law_like D__law_ratio D__law_less D__law_rates D__law_lines D__law_begun b_len b_range b_tuple) (He.glo_ok X G (c.fact 37 (f := .glo "_law_sounded") rfl)) F__law_sounded.kp (F__law_sounded.bindsN (ps := ["soundings", "e", "later"]) fun _ _ _ _ _ _ us hl => match us, hl with | [_, _, _], _ => rfl)
  have D__law_squares : Def P w K mg base 11 "_law_squares" ["soundings"] d__law_squares := def_ok (ok__law_squares F__law_squares D_best_line D__law_like D__law_ratio b_len b_sum) (He.glo_ok X G (c.fact 38 (f := .glo "_law_squares") rfl)) F__law_squares.kp (F__law_squares.bindsN (ps := ["soundings"]) fun _ _ _ _ _ _ us hl => match us, hl with | [_], _ => rfl)
  have D__law_speeds : Def P w K mg base 3 "_law_speeds" ["log"] d__law_speeds := def_ok (ok__law_speeds F__law_speeds D__law_ratio b_len b_range) (He.glo_ok X G (c.fact 39 (f := .glo "_law_speeds") rfl)) F__law_speeds.kp (F__law_speeds.bindsN (ps := ["log"]) fun _ _ _ _ _ _ us hl => match us, hl with | [_], _ => rfl)
  have D__law_logged : Def P w K mg base 11 "_law_logged" ["log", "row"] d__law_logged := def_ok (ok__law_logged F__law_logged D_speed_at D_run_between D_run_all D_hour_of D_mean_speed D_fastest D_run_bounds D__law_like D__law_ratio D__law_sum D__law_less D__law_speeds b_int b_len b_range) (He.glo_ok X G (c.fact 40 (f := .glo "_law_logged") rfl)) F__law_logged.kp (F__law_logged.bindsN (ps := ["log", "row"]) fun _ _ _ _ _ _ us hl => match us, hl with | [_, _], _ => rfl)
  have D__law_steady : Def P w K mg base 11 "_law_steady" ["row"] d__law_steady := def_ok (ok__law_steady F__law_steady D_rate_range D_from_hour D_best_line D_run_between D_hour_of D__law_like b_int b_range b_tuple) (He.glo_ok X G (c.fact 41 (f := .glo "_law_steady") rfl)) F__law_steady.kp (F__law_steady.bindsN (ps := ["row"]) fun _ _ _ _ _ _ us hl => match us, hl with | [_], _ => rfl)
  exact ok_law F_law D__law_row D__law_sounded D__law_squares D__law_logged D__law_steady b_int b_max b_range b_tuple
/-- THE LAW from its plain function -/
theorem holds_of (hF : ∀ ns : List Int, ns.length ≤ 63 → d_law [scr (ns.map PyData.int)] = some (.bool true)) : PySem.Challenge.rw_dockheld_k28_whole_soundings_log.Holds := by
  w_on; o_law
  refine HandSHeadRun.head_any (r := PySem.W.OpenLaw.row PySem.Challenge.rw_dockheld_k28_whole_soundings_log) (q := PySem.W.view (PySem.W.OpenLaw.row PySem.Challenge.rw_dockheld_k28_whole_soundings_log).prog [47]) (H := hk) (ob := ob) (M := 20000) (loose := loo) (d := HandSHeadRun.topDef (PySem.W.OpenLaw.row PySem.Challenge.rw_dockheld_k28_whole_soundings_log).prog 47) (kwd := []) ob_eq
    (by kernel_rfl) (fun s => by kernel_rfl) run (by kernel_rfl) (by kernel_rfl) (by kernel_rfl) (by rfl) (by first | assumption | decide +kernel) (by decide +kernel) ⟨rfl, rfl, rfl, rfl, rfl, by decide +kernel⟩ ?hw ?hc
  case hw => w_witness2
  case hc =>
    refine L2.walk_ofE (l := PySem.Challenge.rw_dockheld_k28_whole_soundings_log) (n := 63) (k := 12) (x := "script") (CX := L2.CX0) rfl (by decide) (by kernel_rfl) ⟨rfl, by decide, by decide⟩ ?F (fun _ _ _ _ z => z)
    intro w mg fa h Y G hmg0
    obtain ⟨K, KX, c⟩ := Y
    have hmg : mg ("law" : PySem.Str) = some (.ref fa) := by
      have e : (HandSHeadRun.topDef (PySem.W.OpenLaw.row PySem.Challenge.rw_dockheld_k28_whole_soundings_log).prog 47).name = ("law" : PySem.Str) := by kernel_rfl
      rw [← e]
      exact hmg0
    obtain ⟨fd, hb, hF2⟩ := facts (P := (PySem.Challenge.rw_dockheld_k28_whole_soundings_log).prog) (w := w) KX G hmg c
    exact ⟨K, fd, spD K 1 d_law, KX, hb, sp_law hF, hF2⟩
end K28

namespace K28
open PySem PySem.Spec PyProof.Rows L2 Pm
theorem divisor_loop : ∀ (N y : Nat), y < N → ∀ x : Nat, whileF (tOf (xBin oGt (xVar 1) (xC (.int 0)))) (sSeq (sPar [0, 1] (xCons (xVar 1) (xCons (xBin oMod (xVar 0) (xVar 1)) xNil))) sNop) N [some (.int x), some (.int y)] = some (.nx [some (.int (Nat.gcd x y : Nat)), some (.int 0)]) := by
  intro N
  induction N with
  | zero => intro y h; omega
  | succ N ih =>
    intro y hy x
    rw [whileF_succ]
    by_cases h0 : y = 0
    · subst h0
      simp [tOf, xBin, xVar, xC, oGt, dB]
    · have hp : 0 < y := by omega
      have e : ((x : Int).fmod (y : Int)) = ((x % y : Nat) : Int) := by
        rw [Int.fmod_eq_emod_of_nonneg _ (by omega)]
        rfl
      have hlt : x % y < y := Nat.mod_lt _ hp
      simp [tOf, xBin, xVar, xC, oGt, dB, hp, sSeq, sPar, xCons, xNil, oMod, h0, setAll, sNop, e]
      rw [← Int.natCast_emod, ih (x % y) (by omega) y, Nat.gcd_comm y, ← Nat.gcd_rec, Nat.gcd_comm]
theorem abs_eq (a : Int) : (if a < 0 then -a else a) = (a.natAbs : Int) := by split <;> omega
theorem Sm.fuel {b : Int} (hb : Sm 1999 b) : b.natAbs < fuelN := Nat.lt_of_le_of_lt hb (Nat.pow_lt_pow_right (by decide) (by decide))
theorem divisor_eq (a b : Int) (hb : Sm 1999 b) : d_divisor [.int a, .int b] = some (.int (Int.gcd a b : Nat)) := by
  have := divisor_loop fuelN b.natAbs (Sm.fuel hb) a.natAbs
  simp -implicitDefEqProofs only [d_divisor, g_divisor, xVar_a, xC_a, xBin_a, xUn_a, tOf_a, tTru_a, tNotP_a, tAndP_a, tOrP_a, tyes_a, tno_a, tYesP_a, xNil_a, xCons_a, xTup_a, xLst_a, xAnd_a, xOr_a, xIf_a, xChain_a, oNo_a, oAt_a, xSl_a, xCall_a, xSeq_a, xIt_a, xLc_a, gSet_a, gTupD_a, gsNil_a, gsCons_a, sNop_a, sBrk_a, sCnt_a, sSeq_a, sRet_a, sIf_a, sSet_a, sTgt_a, sAug_a, sApp_a, sExt_a, sPut_a, sPutK_a, pkO_s, sFor_a, sWhile_a, sPar_a, runD_a, b2_s, c2_s, sqO_nx, sqO_rt, sqO_bk, sqO_ct, ifO_t, ifO_f, stO_s, endO_nx, endO_rt, andO_t, andO_f, orO_t, orO_f, chO_s, chP_t, chP_f, slO_s, atO_i, lcO_s, forO_s, gsO_s, nxO_s, tgO_s, paO_s, apO_s, exO_s, plO_s, ptO_s, dB_b, tru_b, tru_n, tru_i, tru_l, tru_t, is_n, isn_n, nn_n, nn_i, nn_b, nn_t, nn_l, add_ii, add'_ii, sub_ii, neg_i, lt_ii, le_ii, gt_ii, ge_ii, ix_l, ix_t, ix_s, at0, at1, at2, sl_l, sl_t, len_l, len_t, len_s, abs_i, int_i, int_b, max_ii, min_ii, tup_s, lst_s, seq_l, seq_t, sum_s, wipe_n, wipe_c, mul_ii, fdiv_ii, mod_ii, add_ll, add_tt, setAll, mkT, mkL, oNot, List.getD_cons_zero, List.getD_cons_succ, List.length_cons, List.length_nil, List.set_cons_zero, List.set_cons_succ, List.map_cons, List.map_nil, List.replicate, List.cons_append, List.nil_append, List.append_nil, Option.bind_some, Option.map_some, List.all_cons, List.all_nil, if_true, if_false, reduceIte, Nat.reduceAdd, Nat.reduceSub, Nat.reduceLT, Nat.reduceLeDiff, Nat.reduceEqDiff, decide_true, decide_false, Bool.and_true, Bool.and_self, Bool.true_and, Bool.not_true, Bool.not_false, ne_eq, not_true_eq_false, not_false_eq_true, Nat.zero_add, Bool.false_eq_true, and_self, true_and, and_true, abs_eq, l1_divisor, this, Int.gcd]
theorem lowest_eq (a b : Int) (h0 : 0 < b) (hb : Sm 1999 b) : d_lowest [.int a, .int b] = some (fr a b) := by
  have hg := gcd_pos_of (p := a) h0
  have hs : Sm 1999 (Int.gcd a b : Int) := by
    show (Int.gcd a b : Int).natAbs ≤ 2 ^ 1999
    have : Int.gcd a b ≤ b.natAbs := Int.gcd_le_natAbs_right a (by omega)
    simpa using Nat.le_trans this hb
  have hd := hs.divOk (by omega) (by omega)
  have f1 : a.fdiv (Int.gcd a b : Int) = a / (Int.gcd a b : Int) := Int.fdiv_eq_ediv_of_nonneg _ (by omega)
  have f2 : b.fdiv (Int.gcd a b : Int) = b / (Int.gcd a b : Int) := Int.fdiv_eq_ediv_of_nonneg _ (by omega)
  simp [d_lowest, runD, g_lowest, sSeq, sSet, xIf, tOf, xBin, xVar, xC, oGt, dB, h0, xCall, xCons, xNil, divisor_eq a b hb, sRet, xTup, oFdiv, hd, f1, f2, fr]
theorem ix0 (a b : D) : oIx (.tuple [a, b]) (.int 0) = some a := rfl
theorem ix1 (a b : D) : oIx (.tuple [a, b]) (.int 1) = some b := rfl
theorem plus_eq {p q r s : Int} (hq : 0 < q) (hs : 0 < s) (b1 : Sm 900 p) (b2 : Sm 900 q) (b3 : Sm 900 r) (b4 : Sm 900 s) : d_plus [fr p q, fr r s] = some (fr (p * s + r * q) (q * s)) := by
  obtain ⟨p', q', g, e1, rfl, rfl, hg, hq', n1, n2⟩ := fr_parts p hq
  obtain ⟨r', s', k, e2, rfl, rfl, hk, hs', n3, n4⟩ := fr_parts r hs
  have m1 := (b1.le n1).mulOk (b4.le n4) (by omega) (by omega)
  have m2 := (b3.le n3).mulOk (b2.le n2) (by omega) (by omega)
  have m3 := (b2.le n2).mulOk (b4.le n4) (by omega) (by omega)
  have hp : 0 < q' * s' := Int.mul_pos hq' hs'
  have hl := lowest_eq (p' * s' + r' * q') (q' * s') hp (((b2.le n2).mul (b4.le n4)).mono (by omega))
  have hf : fr (p' * g * (s' * k) + r' * k * (q' * g)) (q' * g * (s' * k)) = fr (p' * s' + r' * q') (q' * s') := by
    have a1 : p' * g * (s' * k) + r' * k * (q' * g) = (p' * s' + r' * q') * (g * k) := by grind
    have a2 : q' * g * (s' * k) = (q' * s') * (g * k) := by grind
    rw [a1, a2, fr_scale hp (Int.mul_pos hg hk)]
  rw [hf, e1, e2]
  simp [d_plus, runD, g_plus, sRet, xCall, xCons, xNil, xBin, xVar, xC, ix0, ix1, oMul', oMul, m1, m2, m3, oAdd, hl]
theorem minus_eq {p q r s : Int} (hq : 0 < q) (hs : 0 < s) (b1 : Sm 900 p) (b2 : Sm 900 q) (b3 : Sm 900 r) (b4 : Sm 900 s) : d_minus [fr p q, fr r s] = some (fr (p * s - r * q) (q * s)) := by
  obtain ⟨p', q', g, e1, rfl, rfl, hg, hq', n1, n2⟩ := fr_parts p hq
  obtain ⟨r', s', k, e2, rfl, rfl, hk, hs', n3, n4⟩ := fr_parts r hs
  have m1 := (b1.le n1).mulOk (b4.le n4) (by omega) (by omega)
  have m2 := (b3.le n3).mulOk (b2.le n2) (by omega) (by omega)
  have m3 := (b2.le n2).mulOk (b4.le n4) (by omega) (by omega)
  have hp : 0 < q' * s' := Int.mul_pos hq' hs'
  have hl := lowest_eq (p' * s' - r' * q') (q' * s') hp (((b2.le n2).mul (b4.le n4)).mono (by omega))
  have hf : fr (p' * g * (s' * k) - r' * k * (q' * g)) (q' * g * (s' * k)) = fr (p' * s' - r' * q') (q' * s') := by
    have a1 : p' * g * (s' * k) - r' * k * (q' * g) = (p' * s' - r' * q') * (g * k) := by grind
    have a2 : q' * g * (s' * k) = (q' * s') * (g * k) := by grind
    rw [a1, a2, fr_scale hp (Int.mul_pos hg hk)]
  rw [hf, e1, e2]
  simp [d_minus, runD, g_minus, sRet, xCall, xCons, xNil, xBin, xVar, xC, ix0, ix1, oMul', oMul, m1, m2, m3, oSub, hl]
theorem times_eq {p q r s : Int} (hq : 0 < q) (hs : 0 < s) (b1 : Sm 900 p) (b2 : Sm 900 q) (b3 : Sm 900 r) (b4 : Sm 900 s) : d_times [fr p q, fr r s] = some (fr (p * r) (q * s)) := by
  obtain ⟨p', q', g, e1, rfl, rfl, hg, hq', n1, n2⟩ := fr_parts p hq
  obtain ⟨r', s', k, e2, rfl, rfl, hk, hs', n3, n4⟩ := fr_parts r hs
  have m1 := (b1.le n1).mulOk (b3.le n3) (by omega) (by omega)
  have m3 := (b2.le n2).mulOk (b4.le n4) (by omega) (by omega)
  have hp : 0 < q' * s' := Int.mul_pos hq' hs'
  have hl := lowest_eq (p' * r') (q' * s') hp (((b2.le n2).mul (b4.le n4)).mono (by omega))
  have hf : fr (p' * g * (r' * k)) (q' * g * (s' * k)) = fr (p' * r') (q' * s') := by
    have a1 : p' * g * (r' * k) = (p' * r') * (g * k) := by grind
    have a2 : q' * g * (s' * k) = (q' * s') * (g * k) := by grind
    rw [a1, a2, fr_scale hp (Int.mul_pos hg hk)]
  rw [hf, e1, e2]
  simp [d_times, runD, g_times, sRet, xCall, xCons, xNil, xBin, xVar, xC, ix0, ix1, oMul', oMul, m1, m3, hl]
theorem is_less_eq {p q r s : Int} (hq : 0 < q) (hs : 0 < s) (b1 : Sm 900 p) (b2 : Sm 900 q) (b3 : Sm 900 r) (b4 : Sm 900 s) : d_is_less [fr p q, fr r s] = some (.bool (decide (p * s < r * q))) := by
  obtain ⟨p', q', g, e1, rfl, rfl, hg, hq', n1, n2⟩ := fr_parts p hq
  obtain ⟨r', s', k, e2, rfl, rfl, hk, hs', n3, n4⟩ := fr_parts r hs
  have m1 := (b1.le n1).mulOk (b4.le n4) (by omega) (by omega)
  have m2 := (b3.le n3).mulOk (b2.le n2) (by omega) (by omega)
  have hgk := Int.mul_pos hg hk
  have hf : decide (p' * g * (s' * k) < r' * k * (q' * g)) = decide (p' * s' < r' * q') := by
    have a1 : p' * g * (s' * k) = (p' * s') * (g * k) := by grind
    have a2 : r' * k * (q' * g) = (r' * q') * (g * k) := by grind
    rw [a1, a2]
    by_cases h : p' * s' < r' * q'
    · rw [decide_eq_true h, decide_eq_true (Int.mul_lt_mul_of_pos_right h hgk)]
    · rw [decide_eq_false h, decide_eq_false (Int.not_lt.mpr (Int.mul_le_mul_of_nonneg_right (Int.not_lt.mp h) (by omega)))]
  rw [hf, e1, e2]
  simp [d_is_less, runD, g_is_less, sRet, xCall, xCons, xNil, xBin, xVar, xC, ix0, ix1, oMul', oMul, m1, m2, oLt]
theorem fr_one (n : Int) : fr n 1 = .tuple [.int n, .int 1] := by simp [fr]
theorem whole_eq (n : Int) : d_whole [.int n] = some (fr n 1) := by
  rw [fr_one]
  rfl
end K28

namespace K28
open PySem PySem.Spec PyProof.Rows L2 Pm
theorem eq_int (i j : Int) : oEq (.int i) (.int j) = some (.bool (decide (i = j))) := by
  simp [oEq, shp, SeqAt.shaped, PyData.eqv, PyData.canLay0, PyData.depth]
  rfl
theorem ne_int (i j : Int) : oNe (.int i) (.int j) = some (.bool (!decide (i = j))) := by
  simp [oNe, shp, SeqAt.shaped, PyData.eqv, PyData.canLay0, PyData.depth]
  rfl
theorem k_isi1 : kitB "int" "bool" = some false := by kernel_rfl
theorem isi1 (i : Int) : oIsi "bool" (.int i) = some (.bool false) := by
  show (kitB "int" "bool").map PyData.bool = _
  rw [k_isi1]
  rfl
theorem k_isi2 : kitB "int" "tuple" = some false := by kernel_rfl
theorem isi2 (i : Int) : oIsi "tuple" (.int i) = some (.bool false) := by
  show (kitB "int" "tuple").map PyData.bool = _
  rw [k_isi2]
  rfl
theorem k_isi3 : kitB "int" "str" = some false := by kernel_rfl
theorem isi3 (i : Int) : oIsi "str" (.int i) = some (.bool false) := by
  show (kitB "int" "str").map PyData.bool = _
  rw [k_isi3]
  rfl
theorem k_isi0 : kitB "int" "int" = some true := by kernel_rfl
theorem isi0 (i : Int) : oIsi "int" (.int i) = some (.bool true) := by
  show (kitB "int" "int").map PyData.bool = _
  rw [k_isi0]
  rfl
theorem k_isb1 : kitB "bool" "bool" = some true := by kernel_rfl
theorem isb1 (i : Bool) : oIsi "bool" (.bool i) = some (.bool true) := by
  show (kitB "bool" "bool").map PyData.bool = _
  rw [k_isb1]
  rfl
theorem k_ist1 : kitB "tuple" "bool" = some false := by kernel_rfl
theorem ist1 (i : List D) : oIsi "bool" (.tuple i) = some (.bool false) := by
  show (kitB "tuple" "bool").map PyData.bool = _
  rw [k_ist1]
  rfl
theorem k_ist2 : kitB "tuple" "tuple" = some true := by kernel_rfl
theorem ist2 (i : List D) : oIsi "tuple" (.tuple i) = some (.bool true) := by
  show (kitB "tuple" "tuple").map PyData.bool = _
  rw [k_ist2]
  rfl
theorem asBools_rep (n : Nat) : asBools (List.replicate n (PyData.bool true)) = some (List.replicate n true) := by
  have := asBools_map (List.replicate n true)
  rwa [List.map_replicate] at this
theorem asBools_rng (n : Nat) : asBools ((List.range n).map fun _ => PyData.bool true) = some (List.replicate n true) := by
  rw [List.map_const', List.length_range, asBools_rep]
theorem is_int_int (i : Int) : d__law_is_int [.int i] = some (.bool true) := by
  simp [d__law_is_int, runD, g__law_is_int, sRet, xAnd, xUn, xVar, isi0, isi1, dB, oNot, oTru]
theorem like_none (n : Nat) : d__law_like (n + 1) [.none, .none] = some (.bool true) := by
  simp [d__law_like, runD, g__law_like, sSeq, sIf, tOf, xBin, xVar, xC, oIs, isNone, dB, sRet]
theorem like_bool (n : Nat) (b : Bool) : d__law_like (n + 1) [.bool b, .bool b] = some (.bool true) := by
  have e : oEq (.bool b) (.bool b) = some (.bool true) := by
    simp [oEq, shp, SeqAt.shaped, PyData.eqv, PyData.canLay0, PyData.depth]
  simp [d__law_like, runD, g__law_like, sSeq, sIf, tOf, xBin, xVar, xC, oIs, isNone, dB, tTru, xUn, isb1, oTru, sNop, sRet, xAnd, e]
theorem like_int (n : Nat) (i : Int) : d__law_like (n + 1) [.int i, .int i] = some (.bool true) := by
  simp [d__law_like, runD, g__law_like, sSeq, sIf, tOf, xBin, xVar, xC, oIs, isNone, dB, tTru, xUn, isi1, isi2, isi3, oTru, sNop, sRet, xAnd, xCall, xCons, xNil, is_int_int, eq_int]
theorem like_tup (n : Nat) (xs : List D) (hl : xs.length ≤ 16777216) (h : ∀ x ∈ xs, d__law_like n [x, x] = some (.bool true)) : d__law_like (n + 1) [.tuple xs, .tuple xs] = some (.bool true) := by
  have hr := oR1_nat xs.length hl
  have hm : lcL (gSet 2) tYesP (xCall (fun ds => if ds.length = 2 then d__law_like n ds else none) (xCons (xBin oIx (xVar 0) (xVar 2)) (xCons (xBin oIx (xVar 1) (xVar 2)) xNil))) [some (.tuple xs), some (.tuple xs), none] ((List.range xs.length).map fun i => PyData.int (i : Nat)) = some ((List.range xs.length).map fun _ => PyData.bool true) := by
    refine lcL_map _ _ _ fun i hi => ?_
    have hi' : i < xs.length := by simpa using hi
    simp [gSet, xCall, xCons, xNil, xBin, xVar, oIx, atI_nat xs i hi', h]
  simp [d__law_like, runD, g__law_like, sSeq, sIf, tOf, xBin, xVar, xC, oIs, isNone, dB, tTru, xUn, ist1, ist2, oTru, sNop, sRet, xCall, xCons, xNil, tOrP, tNotP, bLen, ne_int, xLc, xIt, hr, wipeP, hm, bAll, seqD, asBools_rng]
theorem like_fr (n : Nat) (p q : Int) : d__law_like (n + 2) [fr p q, fr p q] = some (.bool true) := by
  refine like_tup _ _ (by simp) fun x hx => ?_
  simp at hx
  rcases hx with rfl | rfl <;> exact like_int _ _
end K28

namespace K28
open PySem PySem.Spec PyProof.Rows L2 Pm
theorem common_loop : ∀ (N y : Nat), y < N → ∀ x : Nat, whileF (tOf (xBin oGt (xVar 1) (xC (.int 0)))) (sSeq (sPar [0, 1] (xCons (xVar 1) (xCons (xBin oMod (xCall bInt (xCons (xVar 0) xNil)) (xVar 1)) xNil))) sNop) N [some (.int x), some (.int y)] = some (.nx [some (.int (Nat.gcd x y : Nat)), some (.int 0)]) := by
  intro N
  induction N with
  | zero => intro y h; omega
  | succ N ih =>
    intro y hy x
    rw [whileF_succ]
    by_cases h0 : y = 0
    · subst h0
      simp [tOf, xBin, xVar, xC, oGt, dB]
    · have hp : 0 < y := by omega
      have e : ((x : Int).fmod (y : Int)) = ((x % y : Nat) : Int) := by
        rw [Int.fmod_eq_emod_of_nonneg _ (by omega)]
        rfl
      have hlt : x % y < y := Nat.mod_lt _ hp
      simp [tOf, xBin, xVar, xC, oGt, dB, hp, sSeq, sPar, xCons, xNil, xCall, bInt, oMod, h0, setAll, sNop, e]
      rw [← Int.natCast_emod, ih (x % y) (by omega) y, Nat.gcd_comm y, ← Nat.gcd_rec, Nat.gcd_comm]
theorem common_eq (a b : Int) (hb : Sm 1999 b) : d__law_common [.int a, .int b] = some (.int (Int.gcd a b : Nat)) := by
  have := common_loop fuelN b.natAbs (Sm.fuel hb) a.natAbs
  simp -implicitDefEqProofs only [d__law_common, g__law_common, xVar_a, xC_a, xBin_a, xUn_a, tOf_a, tTru_a, tNotP_a, tAndP_a, tOrP_a, tyes_a, tno_a, tYesP_a, xNil_a, xCons_a, xTup_a, xLst_a, xAnd_a, xOr_a, xIf_a, xChain_a, oNo_a, oAt_a, xSl_a, xCall_a, xSeq_a, xIt_a, xLc_a, gSet_a, gTupD_a, gsNil_a, gsCons_a, sNop_a, sBrk_a, sCnt_a, sSeq_a, sRet_a, sIf_a, sSet_a, sTgt_a, sAug_a, sApp_a, sExt_a, sPut_a, sPutK_a, pkO_s, sFor_a, sWhile_a, sPar_a, runD_a, b2_s, c2_s, sqO_nx, sqO_rt, sqO_bk, sqO_ct, ifO_t, ifO_f, stO_s, endO_nx, endO_rt, andO_t, andO_f, orO_t, orO_f, chO_s, chP_t, chP_f, slO_s, atO_i, lcO_s, forO_s, gsO_s, nxO_s, tgO_s, paO_s, apO_s, exO_s, plO_s, ptO_s, dB_b, tru_b, tru_n, tru_i, tru_l, tru_t, is_n, isn_n, nn_n, nn_i, nn_b, nn_t, nn_l, add_ii, add'_ii, sub_ii, neg_i, lt_ii, le_ii, gt_ii, ge_ii, ix_l, ix_t, ix_s, at0, at1, at2, sl_l, sl_t, len_l, len_t, len_s, abs_i, int_i, int_b, max_ii, min_ii, tup_s, lst_s, seq_l, seq_t, sum_s, wipe_n, wipe_c, mul_ii, fdiv_ii, mod_ii, add_ll, add_tt, setAll, mkT, mkL, oNot, List.getD_cons_zero, List.getD_cons_succ, List.length_cons, List.length_nil, List.set_cons_zero, List.set_cons_succ, List.map_cons, List.map_nil, List.replicate, List.cons_append, List.nil_append, List.append_nil, Option.bind_some, Option.map_some, List.all_cons, List.all_nil, if_true, if_false, reduceIte, Nat.reduceAdd, Nat.reduceSub, Nat.reduceLT, Nat.reduceLeDiff, Nat.reduceEqDiff, decide_true, decide_false, Bool.and_true, Bool.and_self, Bool.true_and, Bool.not_true, Bool.not_false, ne_eq, not_true_eq_false, not_false_eq_true, Nat.zero_add, Bool.false_eq_true, and_self, true_and, and_true, abs_eq, l1__law_common, this, Int.gcd]
theorem ratio_eq (a b : Int) (h0 : 0 < b) (hb : Sm 1999 b) : d__law_ratio [.int a, .int b] = some (fr a b) := by
  have hg := gcd_pos_of (p := a) h0
  have hs : Sm 1999 (Int.gcd a b : Int) := by
    show (Int.gcd a b : Int).natAbs ≤ 2 ^ 1999
    have : Int.gcd a b ≤ b.natAbs := Int.gcd_le_natAbs_right a (by omega)
    simpa using Nat.le_trans this hb
  have hd := hs.divOk (by omega) (by omega)
  have f1 : a.fdiv (Int.gcd a b : Int) = a / (Int.gcd a b : Int) := Int.fdiv_eq_ediv_of_nonneg _ (by omega)
  have f2 : b.fdiv (Int.gcd a b : Int) = b / (Int.gcd a b : Int) := Int.fdiv_eq_ediv_of_nonneg _ (by omega)
  have hn : ¬ b < 0 := by omega
  simp [d__law_ratio, runD, g__law_ratio, sSeq, sSet, sIf, tOf, xBin, xVar, xC, oLt, dB, hn, xCall, xCons, xNil, common_eq a b hb, sRet, xTup, oFdiv, hd, f1, f2, fr, sNop]
end K28

namespace K28
open PySem PySem.Spec PyProof.Rows L2 Pm
/-! ratios as rational numbers -/
def rd (x : Rat) : D := .tuple [.int x.num, .int x.den]
theorem fr_rd (p : Int) {q : Int} (hq : 0 < q) : fr p q = rd ((p : Rat) / (q : Rat)) := by
  unfold fr rd
  rw [← Rat.divInt_eq_div, Rat.num_divInt, Rat.den_divInt, if_neg (by omega), Int.sign_eq_one_of_pos hq, Int.one_mul, Int.gcd_comm q p]
  have : (((q.natAbs / Int.gcd p q : Nat)) : Int) = q / (Int.gcd p q : Int) := by
    rw [Int.natCast_ediv, Int.natAbs_of_nonneg (by omega)]
  rw [this]
theorem rat_eq (x : Rat) : x = (x.num : Rat) / ((x.den : Int) : Rat) := by
  have := Rat.num_divInt_den x
  rw [Rat.divInt_eq_div] at this
  exact this.symm
theorem den_pos (x : Rat) : (0 : Int) < (x.den : Int) := by
  have := x.den_pos
  omega
theorem rd_fr (x : Rat) : rd x = fr x.num x.den := by
  rw [fr_rd _ (den_pos x), ← rat_eq]
theorem rd_int (n : Int) : rd (n : Rat) = .tuple [.int n, .int 1] := rfl
/-- small ratios -/
def SR (k : Nat) (x : Rat) : Prop := Sm k x.num ∧ Sm k (x.den : Int)
theorem SR.mono {j k : Nat} {x : Rat} (h : SR j x) (hk : j ≤ k) : SR k x := ⟨h.1.mono hk, h.2.mono hk⟩
theorem SR.div {k : Nat} {p q : Int} (hp : Sm k p) (hq : Sm k q) (h0 : 0 < q) : SR k ((p : Rat) / (q : Rat)) := by
  obtain ⟨p', q', g, e, rfl, rfl, hg, hq', n1, n2⟩ := fr_parts p h0
  rw [fr_rd _ h0] at e
  unfold rd at e
  injection e with e
  injection e with e1 e2
  injection e2 with e2 e3
  injection e1 with e1
  injection e2 with e2
  refine ⟨?_, ?_⟩
  · rw [e1]
    exact hp.le n1
  · rw [e2]
    exact hq.le n2
theorem SR.int {k : Nat} {p : Int} (hp : Sm k p) : SR k (p : Rat) := by
  refine ⟨hp, ?_⟩
  show (1 : Int).natAbs ≤ 2 ^ k
  exact Nat.one_le_two_pow
theorem cast_pos {n : Int} (h : 0 < n) : (0 : Rat) < (n : Rat) := Rat.intCast_pos.mpr h
theorem rdiv_lt {a b c d : Rat} (hb : 0 < b) (hd : 0 < d) : a / b < c / d ↔ a * d < c * b := by
  rw [Rat.div_lt_iff hb]
  have : c / d * b = (c * b) / d := by grind
  rw [this, Rat.lt_div_iff hd]
theorem rdiv_add {a b c d : Rat} (hb : 0 < b) (hd : 0 < d) : a / b + c / d = (a * d + c * b) / (b * d) := by
  have h1: b ≠ 0 := by grind
  have h2 : d ≠ 0 := by grind
  grind
theorem rdiv_sub {a b c d : Rat} (hb : 0 < b) (hd : 0 < d) : a / b - c / d = (a * d - c * b) / (b * d) := by
  have h1: b ≠ 0 := by grind
  have h2 : d ≠ 0 := by grind
  grind
theorem rdiv_mul {a b c d : Rat} (hb : 0 < b) (hd : 0 < d) : a / b * (c / d) = (a * c) / (b * d) := by
  have h1: b ≠ 0 := by grind
  have h2 : d ≠ 0 := by grind
  grind
theorem rdiv_eq {a b c d : Rat} (hb : 0 < b) (hd : 0 < d) : a / b = c / d ↔ a * d = c * b := by
  have h1: b ≠ 0 := by grind
  have h2 : d ≠ 0 := by grind
  constructor
  · intro h
    have : a = c / d * b := by rw [← h]; grind
    grind
  · intro h
    grind
section
variable {p q r s : Int}
theorem qadd (hq : 0 < q) (hs : 0 < s) : (p : Rat) / q + (r : Rat) / s = ((p * s + r * q : Int) : Rat) / ((q * s : Int) : Rat) := by
  rw [rdiv_add (cast_pos hq) (cast_pos hs)]
  simp
theorem qsub (hq : 0 < q) (hs : 0 < s) : (p : Rat) / q - (r : Rat) / s = ((p * s - r * q : Int) : Rat) / ((q * s : Int) : Rat) := by
  rw [rdiv_sub (cast_pos hq) (cast_pos hs)]
  simp
theorem qmul (hq : 0 < q) (hs : 0 < s) : (p : Rat) / q * ((r : Rat) / s) = ((p * r : Int) : Rat) / ((q * s : Int) : Rat) := by
  rw [rdiv_mul (cast_pos hq) (cast_pos hs)]
  simp
theorem qlt (hq : 0 < q) (hs : 0 < s) : (p : Rat) / q < (r : Rat) / s ↔ p * s < r * q := by
  rw [rdiv_lt (cast_pos hq) (cast_pos hs)]
  exact_mod_cast Iff.rfl
theorem qeq (hq : 0 < q) (hs : 0 < s) : (p : Rat) / q = (r : Rat) / s ↔ p * s = r * q := by
  rw [rdiv_eq (cast_pos hq) (cast_pos hs)]
  exact_mod_cast Iff.rfl
end
theorem SR.add {i j : Nat} {x y : Rat} (hx : SR i x) (hy : SR j y) : SR (i + j + 1) (x + y) := by
  rw [rat_eq x, rat_eq y, qadd (den_pos x) (den_pos y)]
  exact SR.div (((hx.1.mul hy.2).mono (k := i + j) (by omega)).add ((hy.1.mul hx.2).mono (k := i + j) (by omega))) ((hx.2.mul hy.2).mono (by omega)) (Int.mul_pos (den_pos x) (den_pos y))
theorem SR.sub {i j : Nat} {x y : Rat} (hx : SR i x) (hy : SR j y) : SR (i + j + 1) (x - y) := by
  rw [rat_eq x, rat_eq y, qsub (den_pos x) (den_pos y)]
  exact SR.div (((hx.1.mul hy.2).mono (k := i + j) (by omega)).sub ((hy.1.mul hx.2).mono (k := i + j) (by omega))) ((hx.2.mul hy.2).mono (by omega)) (Int.mul_pos (den_pos x) (den_pos y))
theorem SR.mul {i j : Nat} {x y : Rat} (hx : SR i x) (hy : SR j y) : SR (i + j) (x * y) := by
  rw [rat_eq x, rat_eq y, qmul (den_pos x) (den_pos y)]
  exact SR.div ((hx.1.mul hy.1).mono (by omega)) ((hx.2.mul hy.2).mono (by omega)) (Int.mul_pos (den_pos x) (den_pos y))
theorem lowest_rd (a b : Int) (h0 : 0 < b) (hb : Sm 1999 b) : d_lowest [.int a, .int b] = some (rd ((a : Rat) / (b : Rat))) := by
  rw [lowest_eq a b h0 hb, fr_rd a h0]
theorem ratio_rd (a b : Int) (h0 : 0 < b) (hb : Sm 1999 b) : d__law_ratio [.int a, .int b] = some (rd ((a : Rat) / (b : Rat))) := by
  rw [ratio_eq a b h0 hb, fr_rd a h0]
theorem plus_rd {x y : Rat} (hx : SR 900 x) (hy : SR 900 y) : d_plus [rd x, rd y] = some (rd (x + y)) := by
  rw [rd_fr x, rd_fr y, plus_eq (den_pos x) (den_pos y) hx.1 hx.2 hy.1 hy.2, fr_rd _ (Int.mul_pos (den_pos x) (den_pos y)), ← qadd (den_pos x) (den_pos y), ← rat_eq, ← rat_eq]
theorem minus_rd {x y : Rat} (hx : SR 900 x) (hy : SR 900 y) : d_minus [rd x, rd y] = some (rd (x - y)) := by
  rw [rd_fr x, rd_fr y, minus_eq (den_pos x) (den_pos y) hx.1 hx.2 hy.1 hy.2, fr_rd _ (Int.mul_pos (den_pos x) (den_pos y)), ← qsub (den_pos x) (den_pos y), ← rat_eq, ← rat_eq]
theorem times_rd {x y : Rat} (hx : SR 900 x) (hy : SR 900 y) : d_times [rd x, rd y] = some (rd (x * y)) := by
  rw [rd_fr x, rd_fr y, times_eq (den_pos x) (den_pos y) hx.1 hx.2 hy.1 hy.2, fr_rd _ (Int.mul_pos (den_pos x) (den_pos y)), ← qmul (den_pos x) (den_pos y), ← rat_eq, ← rat_eq]
theorem is_less_rd {x y : Rat} (hx : SR 900 x) (hy : SR 900 y) : d_is_less [rd x, rd y] = some (.bool (decide (x < y))) := by
  rw [rd_fr x, rd_fr y, is_less_eq (den_pos x) (den_pos y) hx.1 hx.2 hy.1 hy.2]
  have := Rat.lt_iff x y
  rw [decide_eq_decide.mpr this]
theorem whole_rd (n : Int) : d_whole [.int n] = some (rd (n : Rat)) := rfl
theorem like_rd (n : Nat) (x : Rat) : d__law_like (n + 2) [rd x, rd x] = some (.bool true) := by
  rw [rd_fr]
  exact like_fr _ _ _
theorem flat_rd (x : Rat) : flat (rd x) = true := rfl
theorem rd_0 (x : Rat) : oIx (rd x) (.int 0) = some (.int x.num) := rfl
theorem rd_1 (x : Rat) : oIx (rd x) (.int 1) = some (.int x.den) := rfl
/-- a ratio or none -/
def od : Option Rat → D
  | none => .none
  | some x => rd x
def omax : Option Rat → Rat → Option Rat
  | none, y => some y
  | some x, y => some (if x < y then y else x)
def omin : Option Rat → Rat → Option Rat
  | none, y => some y
  | some x, y => some (if y < x then y else x)
theorem nn_rd (x : Rat) : isNone (rd x) = false := rfl
end K28

namespace K28
open PySem PySem.Spec PyProof.Rows L2 Pm
theorem cut_from (xs : List D) (n : Nat) (h : n ≤ xs.length) : Pm.cutD xs (some (n : Int)) none = xs.drop n := by
  unfold Pm.cutD
  rw [HT.sIx_none, HT.sIx_nat, Nat.min_eq_left h, ← List.length_drop, List.take_length]
theorem cut_upto (xs : List D) (n : Nat) : Pm.cutD xs none (some (n : Int)) = xs.take n := by
  unfold Pm.cutD
  rw [HT.sIx_none, List.drop_zero, Nat.sub_zero, HT.sIx_nat]
  rw [← List.take_take, List.take_length]
theorem oR2_ij {i j : Int} (h : -(2 ^ 60) ≤ i ∧ i < 2 ^ 60 ∧ -(2 ^ 60) ≤ j ∧ j < 2 ^ 60 ∧ j - i ≤ 16777216) : oR2 [.int i, .int j] = some (rangeD i 1 (j - i).toNat) := if_pos h
theorem oR2_list {i j : Int} (h : -1000 ≤ i ∧ i < 1000000 ∧ -1000 ≤ j ∧ j < 1000000) : oR2 [.int i, .int j] = some ((List.range (j - i).toNat).map fun k => PyData.int (i + (k : Nat))) := by
  rw [oR2_ij (by omega)]
  unfold rangeD
  simp
theorem enum_zip {α : Type} (enc : α → D) (S : List α) : enumD (S.map enc) = S.zipIdx.map fun p => .tuple [.int (p.2 : Nat), enc p.1] := by
  unfold enumD
  apply List.ext_getElem?
  intro i
  by_cases h : i < S.length
  · simp [h]
  · simp [h]
theorem zipIdx_ints {α : Type} (S : List α) (a : Nat) : (S.zipIdx a).map (fun p => PyData.int (p.2 : Nat)) = (List.range S.length).map fun (i : Nat) => PyData.int ((a : Int) + (i : Nat)) := by
  apply List.ext_getElem?
  intro i
  by_cases h : i < S.length
  · simp [h]
  · simp [h]
theorem zipIdx_ints0 {α : Type} (S : List α) : S.zipIdx.map (fun p => PyData.int (p.2 : Nat)) = (List.range S.length).map fun (i : Nat) => PyData.int (i : Nat) := by
  have := zipIdx_ints S 0
  simpa using this
/-! extremes -/
def mx (l : List Rat) : Option Rat := l.foldl omax none
def mn (l : List Rat) : Option Rat := l.foldl omin none
theorem mx_app (l : List Rat) (x : Rat) : mx (l ++ [x]) = omax (mx l) x := by simp [mx]
theorem mn_app (l : List Rat) (x : Rat) : mn (l ++ [x]) = omin (mn l) x := by simp [mn]
theorem mx_spec0 (l : List Rat) : ∀ (l' : List Rat) (o : Option Rat), l'.foldl omax o = o ∧ l' = [] ∨ ∃ m, l'.foldl omax o = some m ∧ (m ∈ l' ∨ o = some m) ∧ (∀ y ∈ l', y ≤ m) ∧ ∀ z, o = some z → z ≤ m := by
  intro l'
  induction l' with
  | nil => intro o; exact .inl ⟨rfl, rfl⟩
  | cons a l' ih =>
    intro o
    refine .inr ?_
    rw [List.foldl_cons]
    cases o with
    | none =>
      rcases ih (omax none a) with ⟨h, h2⟩ | ⟨m, h1, h2, h3, h4⟩
      · subst h2
        exact ⟨a, rfl, by simp, by intro y hy; simp at hy; subst hy; exact Rat.le_refl, by simp⟩
      · refine ⟨m, h1, ?_, ?_, by simp⟩
        · rcases h2 with h2 | h2
          · exact .inl (List.mem_cons_of_mem _ h2)
          · cases h2
            exact .inl (by simp)
        · intro y hy
          rcases List.mem_cons.mp hy with rfl | hy
          · exact h4 _ rfl
          · exact h3 y hy
    | some z =>
      rcases ih (omax (some z) a) with ⟨h, h2⟩ | ⟨m, h1, h2, h3, h4⟩
      · subst h2
        refine ⟨if z < a then a else z, rfl, ?_, ?_, ?_⟩
        · split
          · exact .inl (by simp)
          · exact .inr rfl
        · intro y hy
          simp at hy
          subst hy
          grind
        · intro z' hz'
          cases hz'
          grind
      · have h4' := h4 _ rfl
        refine ⟨m, h1, ?_, ?_, ?_⟩
        · rcases h2 with h2 | h2
          · exact .inl (List.mem_cons_of_mem _ h2)
          · injection h2 with h2
            by_cases hz : z < a
            · rw [if_pos hz] at h2
              subst h2
              exact .inl (by simp)
            · rw [if_neg hz] at h2
              subst h2
              exact .inr rfl
        · intro y hy
          rcases List.mem_cons.mp hy with rfl | hy
          · grind
          · exact h3 y hy
        · intro z' hz'
          cases hz'
          grind
theorem mx_spec {l : List Rat} (h : l ≠ []) : ∃ m, mx l = some m ∧ m ∈ l ∧ ∀ y ∈ l, y ≤ m := by
  rcases mx_spec0 l l none with ⟨_, h2⟩ | ⟨m, h1, h2, h3, _⟩
  · exact absurd h2 h
  · rcases h2 with h2 | h2
    · exact ⟨m, h1, h2, h3⟩
    · cases h2
theorem omin_neg (o : Option Rat) (x : Rat) : (omin o x).map (-·) = omax (o.map (-·)) (-x) := by
  cases o with
  | none => rfl
  | some z =>
    show some (-(if x < z then x else z)) = some (if -z < -x then -x else -z)
    congr 1
    grind
theorem mn_neg (l : List Rat) : (mn l).map (-·) = mx (l.map (-·)) := by
  have : ∀ (l : List Rat) o, (l.foldl omin o).map (-·) = (l.map (-·)).foldl omax (o.map (-·)) := by
    intro l
    induction l with
    | nil => intro o; rfl
    | cons a l ih => intro o; rw [List.foldl_cons, ih, omin_neg, List.map_cons, List.foldl_cons]
  exact this l none
theorem mn_spec {l : List Rat} (h : l ≠ []) : ∃ m, mn l = some m ∧ m ∈ l ∧ ∀ y ∈ l, m ≤ y := by
  obtain ⟨m, h1, h2, h3⟩ := mx_spec (l := l.map (-·)) (by simpa using h)
  rw [← mn_neg] at h1
  cases hm : mn l with
  | none => rw [hm] at h1; cases h1
  | some z =>
    rw [hm] at h1
    injection h1 with h1
    obtain ⟨w, hw, hw2⟩ := List.mem_map.mp h2
    have : w = z := by grind
    subst this
    refine ⟨w, rfl, hw, fun y hy => ?_⟩
    have := h3 (-y) (List.mem_map_of_mem hy)
    grind
theorem mx_eq {l : List Rat} {m : Rat} (h1 : m ∈ l) (h2 : ∀ y ∈ l, y ≤ m) : mx l = some m := by
  obtain ⟨m', e, h3, h4⟩ := mx_spec (l := l) (by intro h; rw [h] at h1; cases h1)
  have := h4 m h1
  have := h2 m' h3
  rw [e]
  congr 1
  grind
theorem mn_eq {l : List Rat} {m : Rat} (h1 : m ∈ l) (h2 : ∀ y ∈ l, m ≤ y) : mn l = some m := by
  obtain ⟨m', e, h3, h4⟩ := mn_spec (l := l) (by intro h; rw [h] at h1; cases h1)
  have := h4 m h1
  have := h2 m' h3
  rw [e]
  congr 1
  grind
theorem mx_mem {l : List Rat} {m : Rat} (h : mx l = some m) : m ∈ l := by
  by_cases h0 : l = []
  · subst h0
    cases h
  · obtain ⟨m', e, h3, h4⟩ := mx_spec h0
    rw [e] at h
    cases h
    exact h3
theorem mn_mem {l : List Rat} {m : Rat} (h : mn l = some m) : m ∈ l := by
  by_cases h0 : l = []
  · subst h0
    cases h
  · obtain ⟨m', e, h3, h4⟩ := mn_spec h0
    rw [e] at h
    cases h
    exact h3
theorem mx_all {k : Nat} {l : List Rat} (h : ∀ x ∈ l, SR k x) : ∀ m, mx l = some m → SR k m := fun m hm => h m (mx_mem hm)
theorem mn_all {k : Nat} {l : List Rat} (h : ∀ x ∈ l, SR k x) : ∀ m, mn l = some m → SR k m := fun m hm => h m (mn_mem hm)
/-! the running extremes in the program's words -/
theorem omaxO {o : Option Rat} {y : Rat} (ho : ∀ x, o = some x → SR 900 x) (hy : SR 900 y) (i j : Nat) (ρ : PEnv) (h1 : ρ.getD i none = some (od o)) (h2 : ρ.getD j none = some (rd y)) : xIf (tOrP (tOf (xBin oIs (xVar i) (xC .none))) (tTru (xCall (fun ds => if ds.length = 2 then (d_is_less) ds else none) (xCons (xVar i) (xCons (xVar j) xNil))))) (xVar j) (xVar i) ρ = some (od (omax o y)) := by
  cases o with
  | none => simp -implicitDefEqProofs only [xVar_a, xC_a, xBin_a, xUn_a, tOf_a, tTru_a, tNotP_a, tAndP_a, tOrP_a, tyes_a, tno_a, tYesP_a, xNil_a, xCons_a, xTup_a, xLst_a, xAnd_a, xOr_a, xIf_a, xChain_a, oNo_a, oAt_a, xSl_a, xCall_a, xSeq_a, xIt_a, xLc_a, gSet_a, gTupD_a, gsNil_a, gsCons_a, sNop_a, sBrk_a, sCnt_a, sSeq_a, sRet_a, sIf_a, sSet_a, sTgt_a, sAug_a, sApp_a, sExt_a, sPut_a, sPutK_a, pkO_s, sFor_a, sWhile_a, sPar_a, runD_a, b2_s, c2_s, sqO_nx, sqO_rt, sqO_bk, sqO_ct, ifO_t, ifO_f, stO_s, endO_nx, endO_rt, andO_t, andO_f, orO_t, orO_f, chO_s, chP_t, chP_f, slO_s, atO_i, lcO_s, forO_s, gsO_s, nxO_s, tgO_s, paO_s, apO_s, exO_s, plO_s, ptO_s, dB_b, tru_b, tru_n, tru_i, tru_l, tru_t, is_n, isn_n, nn_n, nn_i, nn_b, nn_t, nn_l, add_ii, add'_ii, sub_ii, neg_i, lt_ii, le_ii, gt_ii, ge_ii, ix_l, ix_t, ix_s, at0, at1, at2, sl_l, sl_t, len_l, len_t, len_s, abs_i, int_i, int_b, max_ii, min_ii, tup_s, lst_s, seq_l, seq_t, sum_s, wipe_n, wipe_c, mul_ii, fdiv_ii, mod_ii, add_ll, add_tt, setAll, mkT, mkL, oNot, List.getD_cons_zero, List.getD_cons_succ, List.length_cons, List.length_nil, List.set_cons_zero, List.set_cons_succ, List.map_cons, List.map_nil, List.replicate, List.cons_append, List.nil_append, List.append_nil, Option.bind_some, Option.map_some, List.all_cons, List.all_nil, if_true, if_false, reduceIte, Nat.reduceAdd, Nat.reduceSub, Nat.reduceLT, Nat.reduceLeDiff, Nat.reduceEqDiff, decide_true, decide_false, Bool.and_true, Bool.and_self, Bool.true_and, Bool.not_true, Bool.not_false, ne_eq, not_true_eq_false, not_false_eq_true, Nat.zero_add, Bool.false_eq_true, and_self, true_and, and_true, h1, h2, od, omax]
  | some x =>
    have hx := ho x rfl
    by_cases h : x < y
    · simp -implicitDefEqProofs only [xVar_a, xC_a, xBin_a, xUn_a, tOf_a, tTru_a, tNotP_a, tAndP_a, tOrP_a, tyes_a, tno_a, tYesP_a, xNil_a, xCons_a, xTup_a, xLst_a, xAnd_a, xOr_a, xIf_a, xChain_a, oNo_a, oAt_a, xSl_a, xCall_a, xSeq_a, xIt_a, xLc_a, gSet_a, gTupD_a, gsNil_a, gsCons_a, sNop_a, sBrk_a, sCnt_a, sSeq_a, sRet_a, sIf_a, sSet_a, sTgt_a, sAug_a, sApp_a, sExt_a, sPut_a, sPutK_a, pkO_s, sFor_a, sWhile_a, sPar_a, runD_a, b2_s, c2_s, sqO_nx, sqO_rt, sqO_bk, sqO_ct, ifO_t, ifO_f, stO_s, endO_nx, endO_rt, andO_t, andO_f, orO_t, orO_f, chO_s, chP_t, chP_f, slO_s, atO_i, lcO_s, forO_s, gsO_s, nxO_s, tgO_s, paO_s, apO_s, exO_s, plO_s, ptO_s, dB_b, tru_b, tru_n, tru_i, tru_l, tru_t, is_n, isn_n, nn_n, nn_i, nn_b, nn_t, nn_l, add_ii, add'_ii, sub_ii, neg_i, lt_ii, le_ii, gt_ii, ge_ii, ix_l, ix_t, ix_s, at0, at1, at2, sl_l, sl_t, len_l, len_t, len_s, abs_i, int_i, int_b, max_ii, min_ii, tup_s, lst_s, seq_l, seq_t, sum_s, wipe_n, wipe_c, mul_ii, fdiv_ii, mod_ii, add_ll, add_tt, setAll, mkT, mkL, oNot, List.getD_cons_zero, List.getD_cons_succ, List.length_cons, List.length_nil, List.set_cons_zero, List.set_cons_succ, List.map_cons, List.map_nil, List.replicate, List.cons_append, List.nil_append, List.append_nil, Option.bind_some, Option.map_some, List.all_cons, List.all_nil, if_true, if_false, reduceIte, Nat.reduceAdd, Nat.reduceSub, Nat.reduceLT, Nat.reduceLeDiff, Nat.reduceEqDiff, decide_true, decide_false, Bool.and_true, Bool.and_self, Bool.true_and, Bool.not_true, Bool.not_false, ne_eq, not_true_eq_false, not_false_eq_true, Nat.zero_add, Bool.false_eq_true, and_self, true_and, and_true, h1, h2, od, omax, nn_rd, is_less_rd hx hy, h]
    · simp -implicitDefEqProofs only [xVar_a, xC_a, xBin_a, xUn_a, tOf_a, tTru_a, tNotP_a, tAndP_a, tOrP_a, tyes_a, tno_a, tYesP_a, xNil_a, xCons_a, xTup_a, xLst_a, xAnd_a, xOr_a, xIf_a, xChain_a, oNo_a, oAt_a, xSl_a, xCall_a, xSeq_a, xIt_a, xLc_a, gSet_a, gTupD_a, gsNil_a, gsCons_a, sNop_a, sBrk_a, sCnt_a, sSeq_a, sRet_a, sIf_a, sSet_a, sTgt_a, sAug_a, sApp_a, sExt_a, sPut_a, sPutK_a, pkO_s, sFor_a, sWhile_a, sPar_a, runD_a, b2_s, c2_s, sqO_nx, sqO_rt, sqO_bk, sqO_ct, ifO_t, ifO_f, stO_s, endO_nx, endO_rt, andO_t, andO_f, orO_t, orO_f, chO_s, chP_t, chP_f, slO_s, atO_i, lcO_s, forO_s, gsO_s, nxO_s, tgO_s, paO_s, apO_s, exO_s, plO_s, ptO_s, dB_b, tru_b, tru_n, tru_i, tru_l, tru_t, is_n, isn_n, nn_n, nn_i, nn_b, nn_t, nn_l, add_ii, add'_ii, sub_ii, neg_i, lt_ii, le_ii, gt_ii, ge_ii, ix_l, ix_t, ix_s, at0, at1, at2, sl_l, sl_t, len_l, len_t, len_s, abs_i, int_i, int_b, max_ii, min_ii, tup_s, lst_s, seq_l, seq_t, sum_s, wipe_n, wipe_c, mul_ii, fdiv_ii, mod_ii, add_ll, add_tt, setAll, mkT, mkL, oNot, List.getD_cons_zero, List.getD_cons_succ, List.length_cons, List.length_nil, List.set_cons_zero, List.set_cons_succ, List.map_cons, List.map_nil, List.replicate, List.cons_append, List.nil_append, List.append_nil, Option.bind_some, Option.map_some, List.all_cons, List.all_nil, if_true, if_false, reduceIte, Nat.reduceAdd, Nat.reduceSub, Nat.reduceLT, Nat.reduceLeDiff, Nat.reduceEqDiff, decide_true, decide_false, Bool.and_true, Bool.and_self, Bool.true_and, Bool.not_true, Bool.not_false, ne_eq, not_true_eq_false, not_false_eq_true, Nat.zero_add, Bool.false_eq_true, and_self, true_and, and_true, h1, h2, od, omax, nn_rd, is_less_rd hx hy, h]
theorem ominO {o : Option Rat} {y : Rat} (ho : ∀ x, o = some x → SR 900 x) (hy : SR 900 y) (i j : Nat) (ρ : PEnv) (h1 : ρ.getD i none = some (od o)) (h2 : ρ.getD j none = some (rd y)) : xIf (tOrP (tOf (xBin oIs (xVar i) (xC .none))) (tTru (xCall (fun ds => if ds.length = 2 then (d_is_less) ds else none) (xCons (xVar j) (xCons (xVar i) xNil))))) (xVar j) (xVar i) ρ = some (od (omin o y)) := by
  cases o with
  | none => simp -implicitDefEqProofs only [xVar_a, xC_a, xBin_a, xUn_a, tOf_a, tTru_a, tNotP_a, tAndP_a, tOrP_a, tyes_a, tno_a, tYesP_a, xNil_a, xCons_a, xTup_a, xLst_a, xAnd_a, xOr_a, xIf_a, xChain_a, oNo_a, oAt_a, xSl_a, xCall_a, xSeq_a, xIt_a, xLc_a, gSet_a, gTupD_a, gsNil_a, gsCons_a, sNop_a, sBrk_a, sCnt_a, sSeq_a, sRet_a, sIf_a, sSet_a, sTgt_a, sAug_a, sApp_a, sExt_a, sPut_a, sPutK_a, pkO_s, sFor_a, sWhile_a, sPar_a, runD_a, b2_s, c2_s, sqO_nx, sqO_rt, sqO_bk, sqO_ct, ifO_t, ifO_f, stO_s, endO_nx, endO_rt, andO_t, andO_f, orO_t, orO_f, chO_s, chP_t, chP_f, slO_s, atO_i, lcO_s, forO_s, gsO_s, nxO_s, tgO_s, paO_s, apO_s, exO_s, plO_s, ptO_s, dB_b, tru_b, tru_n, tru_i, tru_l, tru_t, is_n, isn_n, nn_n, nn_i, nn_b, nn_t, nn_l, add_ii, add'_ii, sub_ii, neg_i, lt_ii, le_ii, gt_ii, ge_ii, ix_l, ix_t, ix_s, at0, at1, at2, sl_l, sl_t, len_l, len_t, len_s, abs_i, int_i, int_b, max_ii, min_ii, tup_s, lst_s, seq_l, seq_t, sum_s, wipe_n, wipe_c, mul_ii, fdiv_ii, mod_ii, add_ll, add_tt, setAll, mkT, mkL, oNot, List.getD_cons_zero, List.getD_cons_succ, List.length_cons, List.length_nil, List.set_cons_zero, List.set_cons_succ, List.map_cons, List.map_nil, List.replicate, List.cons_append, List.nil_append, List.append_nil, Option.bind_some, Option.map_some, List.all_cons, List.all_nil, if_true, if_false, reduceIte, Nat.reduceAdd, Nat.reduceSub, Nat.reduceLT, Nat.reduceLeDiff, Nat.reduceEqDiff, decide_true, decide_false, Bool.and_true, Bool.and_self, Bool.true_and, Bool.not_true, Bool.not_false, ne_eq, not_true_eq_false, not_false_eq_true, Nat.zero_add, Bool.false_eq_true, and_self, true_and, and_true, h1, h2, od, omin]
  | some x =>
    have hx := ho x rfl
    by_cases h : y < x
    · simp -implicitDefEqProofs only [xVar_a, xC_a, xBin_a, xUn_a, tOf_a, tTru_a, tNotP_a, tAndP_a, tOrP_a, tyes_a, tno_a, tYesP_a, xNil_a, xCons_a, xTup_a, xLst_a, xAnd_a, xOr_a, xIf_a, xChain_a, oNo_a, oAt_a, xSl_a, xCall_a, xSeq_a, xIt_a, xLc_a, gSet_a, gTupD_a, gsNil_a, gsCons_a, sNop_a, sBrk_a, sCnt_a, sSeq_a, sRet_a, sIf_a, sSet_a, sTgt_a, sAug_a, sApp_a, sExt_a, sPut_a, sPutK_a, pkO_s, sFor_a, sWhile_a, sPar_a, runD_a, b2_s, c2_s, sqO_nx, sqO_rt, sqO_bk, sqO_ct, ifO_t, ifO_f, stO_s, endO_nx, endO_rt, andO_t, andO_f, orO_t, orO_f, chO_s, chP_t, chP_f, slO_s, atO_i, lcO_s, forO_s, gsO_s, nxO_s, tgO_s, paO_s, apO_s, exO_s, plO_s, ptO_s, dB_b, tru_b, tru_n, tru_i, tru_l, tru_t, is_n, isn_n, nn_n, nn_i, nn_b, nn_t, nn_l, add_ii, add'_ii, sub_ii, neg_i, lt_ii, le_ii, gt_ii, ge_ii, ix_l, ix_t, ix_s, at0, at1, at2, sl_l, sl_t, len_l, len_t, len_s, abs_i, int_i, int_b, max_ii, min_ii, tup_s, lst_s, seq_l, seq_t, sum_s, wipe_n, wipe_c, mul_ii, fdiv_ii, mod_ii, add_ll, add_tt, setAll, mkT, mkL, oNot, List.getD_cons_zero, List.getD_cons_succ, List.length_cons, List.length_nil, List.set_cons_zero, List.set_cons_succ, List.map_cons, List.map_nil, List.replicate, List.cons_append, List.nil_append, List.append_nil, Option.bind_some, Option.map_some, List.all_cons, List.all_nil, if_true, if_false, reduceIte, Nat.reduceAdd, Nat.reduceSub, Nat.reduceLT, Nat.reduceLeDiff, Nat.reduceEqDiff, decide_true, decide_false, Bool.and_true, Bool.and_self, Bool.true_and, Bool.not_true, Bool.not_false, ne_eq, not_true_eq_false, not_false_eq_true, Nat.zero_add, Bool.false_eq_true, and_self, true_and, and_true, h1, h2, od, omin, nn_rd, is_less_rd hy hx, h]
    · simp -implicitDefEqProofs only [xVar_a, xC_a, xBin_a, xUn_a, tOf_a, tTru_a, tNotP_a, tAndP_a, tOrP_a, tyes_a, tno_a, tYesP_a, xNil_a, xCons_a, xTup_a, xLst_a, xAnd_a, xOr_a, xIf_a, xChain_a, oNo_a, oAt_a, xSl_a, xCall_a, xSeq_a, xIt_a, xLc_a, gSet_a, gTupD_a, gsNil_a, gsCons_a, sNop_a, sBrk_a, sCnt_a, sSeq_a, sRet_a, sIf_a, sSet_a, sTgt_a, sAug_a, sApp_a, sExt_a, sPut_a, sPutK_a, pkO_s, sFor_a, sWhile_a, sPar_a, runD_a, b2_s, c2_s, sqO_nx, sqO_rt, sqO_bk, sqO_ct, ifO_t, ifO_f, stO_s, endO_nx, endO_rt, andO_t, andO_f, orO_t, orO_f, chO_s, chP_t, chP_f, slO_s, atO_i, lcO_s, forO_s, gsO_s, nxO_s, tgO_s, paO_s, apO_s, exO_s, plO_s, ptO_s, dB_b, tru_b, tru_n, tru_i, tru_l, tru_t, is_n, isn_n, nn_n, nn_i, nn_b, nn_t, nn_l, add_ii, add'_ii, sub_ii, neg_i, lt_ii, le_ii, gt_ii, ge_ii, ix_l, ix_t, ix_s, at0, at1, at2, sl_l, sl_t, len_l, len_t, len_s, abs_i, int_i, int_b, max_ii, min_ii, tup_s, lst_s, seq_l, seq_t, sum_s, wipe_n, wipe_c, mul_ii, fdiv_ii, mod_ii, add_ll, add_tt, setAll, mkT, mkL, oNot, List.getD_cons_zero, List.getD_cons_succ, List.length_cons, List.length_nil, List.set_cons_zero, List.set_cons_succ, List.map_cons, List.map_nil, List.replicate, List.cons_append, List.nil_append, List.append_nil, Option.bind_some, Option.map_some, List.all_cons, List.all_nil, if_true, if_false, reduceIte, Nat.reduceAdd, Nat.reduceSub, Nat.reduceLT, Nat.reduceLeDiff, Nat.reduceEqDiff, decide_true, decide_false, Bool.and_true, Bool.and_self, Bool.true_and, Bool.not_true, Bool.not_false, ne_eq, not_true_eq_false, not_false_eq_true, Nat.zero_add, Bool.false_eq_true, and_self, true_and, and_true, h1, h2, od, omin, nn_rd, is_less_rd hy hx, h]
/-! soundings -/
abbrev Sd := Int × Int
def enc (s : Sd) : D := .tuple [.int s.1, .int s.2]
def OkS (S : List Sd) : Prop := ∀ s ∈ S, Sm 10 s.1 ∧ Sm 10 s.2
def dn (e : Int) (r : Rat) (s : Sd) : Rat := (s.2 : Rat) - r * (s.1 : Rat) - (e : Rat)
def up (e : Int) (r : Rat) (s : Sd) : Rat := (s.2 : Rat) - r * (s.1 : Rat) + (e : Rat)
theorem here_sr {r : Rat} {s : Sd} (hr : SR 200 r) (hs : Sm 10 s.1 ∧ Sm 10 s.2) : SR 221 ((s.2 : Rat) - r * (s.1 : Rat)) := ((SR.int hs.2).sub (hr.mul (SR.int hs.1))).mono (by omega)
theorem dn_sr {e : Int} {r : Rat} {s : Sd} (he : Sm 10 e) (hr : SR 200 r) (hs : Sm 10 s.1 ∧ Sm 10 s.2) : SR 300 (dn e r s) := ((here_sr hr hs).sub (SR.int he)).mono (by omega)
theorem up_sr {e : Int} {r : Rat} {s : Sd} (he : Sm 10 e) (hr : SR 200 r) (hs : Sm 10 s.1 ∧ Sm 10 s.2) : SR 300 (up e r s) := ((here_sr hr hs).add (SR.int he)).mono (by omega)
theorem bounds_loop {S : List Sd} {e : Int} {r : Rat} (hS : OkS S) (he : Sm 10 e) (hr : SR 200 r) (x0 : Option D) : ∃ a b c d f, forL (gTupD 2 (gsCons (gSet 5) (gsCons (gSet 6) gsNil))) l1_bounds_at (S.map enc) [x0, some (rd r), some (.int e), some .none, some .none, none, none, none, none, none] =
    some (.nx [x0, some (rd r), some (.int e), some (od (mx (S.map (dn e r)))), some (od (mn (S.map (up e r)))), a, b, c, d, f]) := by
  obtain ⟨ρ', e1, h⟩ := forL_inv (g := gTupD 2 (gsCons (gSet 5) (gsCons (gSet 6) gsNil))) (b := l1_bounds_at) enc
    (fun pre rest ρ => pre ++ rest = S ∧ ∃ a b c d f, ρ = [x0, some (rd r), some (.int e), some (od (mx (pre.map (dn e r)))), some (od (mn (pre.map (up e r)))), a, b, c, d, f]) (fun pre x rest ρ ⟨hp, a, b, c, d, f, e'⟩ => by
      subst e'
      have hm : ∀ s ∈ pre, Sm 10 s.1 ∧ Sm 10 s.2 := fun s hs => hS s (by rw [← hp]; simp [hs])
      have hx := hS x (by rw [← hp]; simp)
      have o1 := omaxO (o := mx (pre.map (dn e r))) (y := dn e r x) (mx_all fun z hz => by
        obtain ⟨s, hs, rfl⟩ := List.mem_map.mp hz
        exact (dn_sr he hr (hm s hs)).mono (by omega)) ((dn_sr he hr hx).mono (by omega)) 3 8
      have o2 := ominO (o := mn (pre.map (up e r))) (y := up e r x) (mn_all fun z hz => by
        obtain ⟨s, hs, rfl⟩ := List.mem_map.mp hz
        exact (up_sr he hr (hm s hs)).mono (by omega)) ((up_sr he hr hx).mono (by omega)) 4 9
      have q1 := times_rd (hr.mono (by omega)) (SR.int (k := 900) (hx.1.mono (by omega)))
      have q2 := minus_rd (SR.int (k := 900) (hx.2.mono (by omega))) ((hr.mul (SR.int hx.1)).mono (by omega))
      have q3 := minus_rd ((here_sr hr hx).mono (by omega)) (SR.int (k := 900) (he.mono (by omega)))
      have q4 := plus_rd ((here_sr hr hx).mono (by omega)) (SR.int (k := 900) (he.mono (by omega)))
      refine ⟨[x0, some (rd r), some (.int e), some (od (mx (pre.map (dn e r)))), some (od (mn (pre.map (up e r)))), some (.int x.1), some (.int x.2), c, d, f], [x0, some (rd r), some (.int e), some (od (mx ((pre ++ [x]).map (dn e r)))), some (od (mn ((pre ++ [x]).map (up e r)))), some (.int x.1), some (.int x.2), some (rd ((x.2 : Rat) - r * (x.1 : Rat))), some (rd (dn e r x)), some (rd (up e r x))], rfl, .inl ?_, by rw [List.append_assoc]; exact hp, _, _, _, _, _, rfl⟩
      rw [List.map_append, List.map_append, List.map_singleton, List.map_singleton, mx_app, mn_app]
      generalize mx (pre.map (dn e r)) = m1 at o1 ⊢
      generalize mn (pre.map (up e r)) = m2 at o2 ⊢
      unfold dn at *
      unfold up at *
      simp -implicitDefEqProofs only [l1_bounds_at, ↓ o1, ↓ o2, xVar_a, xC_a, xBin_a, xUn_a, tOf_a, tTru_a, tNotP_a, tAndP_a, tOrP_a, tyes_a, tno_a, tYesP_a, xNil_a, xCons_a, xTup_a, xLst_a, xAnd_a, xOr_a, xIf_a, xChain_a, oNo_a, oAt_a, xSl_a, xCall_a, xSeq_a, xIt_a, xLc_a, gSet_a, gTupD_a, gsNil_a, gsCons_a, sNop_a, sBrk_a, sCnt_a, sSeq_a, sRet_a, sIf_a, sSet_a, sTgt_a, sAug_a, sApp_a, sExt_a, sPut_a, sPutK_a, pkO_s, sFor_a, sWhile_a, sPar_a, runD_a, b2_s, c2_s, sqO_nx, sqO_rt, sqO_bk, sqO_ct, ifO_t, ifO_f, stO_s, endO_nx, endO_rt, andO_t, andO_f, orO_t, orO_f, chO_s, chP_t, chP_f, slO_s, atO_i, lcO_s, forO_s, gsO_s, nxO_s, tgO_s, paO_s, apO_s, exO_s, plO_s, ptO_s, dB_b, tru_b, tru_n, tru_i, tru_l, tru_t, is_n, isn_n, nn_n, nn_i, nn_b, nn_t, nn_l, add_ii, add'_ii, sub_ii, neg_i, lt_ii, le_ii, gt_ii, ge_ii, ix_l, ix_t, ix_s, at0, at1, at2, sl_l, sl_t, len_l, len_t, len_s, abs_i, int_i, int_b, max_ii, min_ii, tup_s, lst_s, seq_l, seq_t, sum_s, wipe_n, wipe_c, mul_ii, fdiv_ii, mod_ii, add_ll, add_tt, setAll, mkT, mkL, oNot, List.getD_cons_zero, List.getD_cons_succ, List.length_cons, List.length_nil, List.set_cons_zero, List.set_cons_succ, List.map_cons, List.map_nil, List.replicate, List.cons_append, List.nil_append, List.append_nil, Option.bind_some, Option.map_some, List.all_cons, List.all_nil, if_true, if_false, reduceIte, Nat.reduceAdd, Nat.reduceSub, Nat.reduceLT, Nat.reduceLeDiff, Nat.reduceEqDiff, decide_true, decide_false, Bool.and_true, Bool.and_self, Bool.true_and, Bool.not_true, Bool.not_false, ne_eq, not_true_eq_false, not_false_eq_true, Nat.zero_add, Bool.false_eq_true, and_self, true_and, and_true, whole_rd, q1, q2, q3, q4]) S [] [x0, some (rd r), some (.int e), some .none, some .none, none, none, none, none, none] ⟨rfl, none, none, none, none, none, rfl⟩
  obtain ⟨_, a, b, c, d, f, e'⟩ := h
  subst e'
  exact ⟨a, b, c, d, f, e1⟩
theorem bounds_at_eq {S : List Sd} {e : Int} {r : Rat} (hS : OkS S) (he : Sm 10 e) (hr : SR 200 r) : d_bounds_at [.tuple (S.map enc), rd r, .int e] = some (.tuple [od (mx (S.map (dn e r))), od (mn (S.map (up e r)))]) := by
  obtain ⟨a, b, c, d, f, h⟩ := bounds_loop hS he hr (some (.tuple (S.map enc)))
  simp -implicitDefEqProofs only [d_bounds_at, g_bounds_at, xVar_a, xC_a, xBin_a, xUn_a, tOf_a, tTru_a, tNotP_a, tAndP_a, tOrP_a, tyes_a, tno_a, tYesP_a, xNil_a, xCons_a, xTup_a, xLst_a, xAnd_a, xOr_a, xIf_a, xChain_a, oNo_a, oAt_a, xSl_a, xCall_a, xSeq_a, xIt_a, xLc_a, gSet_a, gTupD_a, gsNil_a, gsCons_a, sNop_a, sBrk_a, sCnt_a, sSeq_a, sRet_a, sIf_a, sSet_a, sTgt_a, sAug_a, sApp_a, sExt_a, sPut_a, sPutK_a, pkO_s, sFor_a, sWhile_a, sPar_a, runD_a, b2_s, c2_s, sqO_nx, sqO_rt, sqO_bk, sqO_ct, ifO_t, ifO_f, stO_s, endO_nx, endO_rt, andO_t, andO_f, orO_t, orO_f, chO_s, chP_t, chP_f, slO_s, atO_i, lcO_s, forO_s, gsO_s, nxO_s, tgO_s, paO_s, apO_s, exO_s, plO_s, ptO_s, dB_b, tru_b, tru_n, tru_i, tru_l, tru_t, is_n, isn_n, nn_n, nn_i, nn_b, nn_t, nn_l, add_ii, add'_ii, sub_ii, neg_i, lt_ii, le_ii, gt_ii, ge_ii, ix_l, ix_t, ix_s, at0, at1, at2, sl_l, sl_t, len_l, len_t, len_s, abs_i, int_i, int_b, max_ii, min_ii, tup_s, lst_s, seq_l, seq_t, sum_s, wipe_n, wipe_c, mul_ii, fdiv_ii, mod_ii, add_ll, add_tt, setAll, mkT, mkL, oNot, List.getD_cons_zero, List.getD_cons_succ, List.length_cons, List.length_nil, List.set_cons_zero, List.set_cons_succ, List.map_cons, List.map_nil, List.replicate, List.cons_append, List.nil_append, List.append_nil, Option.bind_some, Option.map_some, List.all_cons, List.all_nil, if_true, if_false, reduceIte, Nat.reduceAdd, Nat.reduceSub, Nat.reduceLT, Nat.reduceLeDiff, Nat.reduceEqDiff, decide_true, decide_false, Bool.and_true, Bool.and_self, Bool.true_and, Bool.not_true, Bool.not_false, ne_eq, not_true_eq_false, not_false_eq_true, Nat.zero_add, Bool.false_eq_true, and_self, true_and, and_true, h]
end K28

namespace K28
open PySem PySem.Spec PyProof.Rows L2 Pm
def Inc (S : List Sd) : Prop := S.Pairwise fun s t => s.1 < t.1
def pairs : List Sd → List (Sd × Sd)
  | [] => []
  | s :: S => S.map (fun t => (s, t)) ++ pairs S
theorem pairs_mem {S : List Sd} : ∀ {p : Sd × Sd}, p ∈ pairs S → p.1 ∈ S ∧ p.2 ∈ S := by
  induction S with
  | nil => intro p h; cases h
  | cons s S ih =>
    intro p h
    rcases List.mem_append.mp h with h | h
    · obtain ⟨t, ht, rfl⟩ := List.mem_map.mp h
      exact ⟨by simp, by simp [ht]⟩
    · have := ih h
      exact ⟨by simp [this.1], by simp [this.2]⟩
theorem pairs_lt {S : List Sd} (hi : Inc S) : ∀ {p : Sd × Sd}, p ∈ pairs S → p.1.1 < p.2.1 := by
  induction S with
  | nil => intro p h; cases h
  | cons s S ih =>
    intro p h
    have hi' := List.pairwise_cons.mp hi
    rcases List.mem_append.mp h with h | h
    · obtain ⟨t, ht, rfl⟩ := List.mem_map.mp h
      exact hi'.1 t ht
    · exact ih hi'.2 h
theorem mem_pairs {S : List Sd} (hi : Inc S) {s t : Sd} (hs : s ∈ S) (ht : t ∈ S) (h : s.1 < t.1) : (s, t) ∈ pairs S := by
  induction S with
  | nil => cases hs
  | cons a S ih =>
    have hi' := List.pairwise_cons.mp hi
    refine List.mem_append.mpr ?_
    rcases List.mem_cons.mp hs with rfl | hs1
    · rcases List.mem_cons.mp ht with rfl | ht1
      · omega
      · exact .inl (List.mem_map_of_mem ht1)
    · rcases List.mem_cons.mp ht with rfl | ht1
      · have := hi'.1 s hs1
        omega
      · exact .inr (ih hi'.2 hs1 ht1)
def plo (e : Int) (p : Sd × Sd) : Rat := ((p.2.2 - p.1.2 - 2 * e : Int) : Rat) / ((p.2.1 - p.1.1 : Int) : Rat)
def phi (e : Int) (p : Sd × Sd) : Rat := ((p.2.2 - p.1.2 + 2 * e : Int) : Rat) / ((p.2.1 - p.1.1 : Int) : Rat)
def OkP (p : Sd × Sd) : Prop := p.1.1 < p.2.1 ∧ Sm 10 p.1.1 ∧ Sm 10 p.1.2 ∧ Sm 10 p.2.1 ∧ Sm 10 p.2.2
theorem okp_way {p : Sd × Sd} (h : OkP p) : Sm 11 (p.2.1 - p.1.1) := (h.2.2.2.1.sub h.2.1).mono (by omega)
theorem okp_rise {p : Sd × Sd} (h : OkP p) : Sm 11 (p.2.2 - p.1.2) := (h.2.2.2.2.sub h.2.2.1).mono (by omega)
theorem sm_2e {e : Int} (he : Sm 10 e) : Sm 12 (2 * e) := ((Sm.lit (k := 10) (a := 2)).mul he |>.le (b := 2 * e) (Nat.le_refl _)) |> fun _ => by
  unfold Sm at *
  omega
theorem plo_sr {e : Int} (he : Sm 10 e) {p : Sd × Sd} (h : OkP p) : SR 100 (plo e p) := SR.div ((((okp_rise h).mono (k := 12) (by omega)).sub (sm_2e he)).mono (by omega)) ((okp_way h).mono (by omega)) (by have := h.1; omega)
theorem phi_sr {e : Int} (he : Sm 10 e) {p : Sd × Sd} (h : OkP p) : SR 100 (phi e p) := SR.div ((((okp_rise h).mono (k := 12) (by omega)).add (sm_2e he)).mono (by omega)) ((okp_way h).mono (by omega)) (by have := h.1; omega)
theorem okp_of {S : List Sd} (hS : OkS S) (hi : Inc S) {p : Sd × Sd} (h : p ∈ pairs S) : OkP p := by
  have h1 := pairs_mem h
  have h2 := hS _ h1.1
  have h3 := hS _ h1.2
  exact ⟨pairs_lt hi h, h2.1, h2.2, h3.1, h3.2⟩
theorem pr_loop1 {e : Int} (he : Sm 10 e) (x0 pl : Option D) (x : Sd) (T : List Sd) (P : List (Sd × Sd)) (hP : ∀ p ∈ P, OkP p) (hT : ∀ t ∈ T, OkP (x, t)) (a0 b0 c0 d0 : Option D) :
    ∃ a b c d, forL (gTupD 2 (gsCons (gSet 7) (gsCons (gSet 8) gsNil))) l1_pair_rates (T.map enc) [x0, some (.int e), some (od (mx (P.map (plo e)))), some (od (mn (P.map (phi e)))), pl, some (.int x.1), some (.int x.2), a0, b0, c0, d0] =
    some (.nx [x0, some (.int e), some (od (mx ((P ++ T.map fun t => (x, t)).map (plo e)))), some (od (mn ((P ++ T.map fun t => (x, t)).map (phi e)))), pl, some (.int x.1), some (.int x.2), a, b, c, d]) := by
  obtain ⟨ρ', e1, h⟩ := forL_inv (g := gTupD 2 (gsCons (gSet 7) (gsCons (gSet 8) gsNil))) (b := l1_pair_rates) enc
    (fun pre rest ρ => pre ++ rest = T ∧ ∃ a b c d, ρ = [x0, some (.int e), some (od (mx ((P ++ pre.map fun t => (x, t)).map (plo e)))), some (od (mn ((P ++ pre.map fun t => (x, t)).map (phi e)))), pl, some (.int x.1), some (.int x.2), a, b, c, d]) (fun pre y rest ρ ⟨hp, a, b, c, d, e'⟩ => by
      subst e'
      have hy := hT y (by rw [← hp]; simp)
      have hm : ∀ p ∈ P ++ pre.map (fun t => (x, t)), OkP p := by
        intro p hp'
        rcases List.mem_append.mp hp' with h | h
        · exact hP p h
        · obtain ⟨t, ht, rfl⟩ := List.mem_map.mp h
          exact hT t (by rw [← hp]; simp [ht])
      have o1 := omaxO (o := mx ((P ++ pre.map fun t => (x, t)).map (plo e))) (y := plo e (x, y)) (mx_all fun z hz => by
        obtain ⟨s, hs, rfl⟩ := List.mem_map.mp hz
        exact (plo_sr he (hm s hs)).mono (by omega)) ((plo_sr he hy).mono (by omega)) 2 9
      have o2 := ominO (o := mn ((P ++ pre.map fun t => (x, t)).map (phi e))) (y := phi e (x, y)) (mn_all fun z hz => by
        obtain ⟨s, hs, rfl⟩ := List.mem_map.mp hz
        exact (phi_sr he (hm s hs)).mono (by omega)) ((phi_sr he hy).mono (by omega)) 3 10
      have hw : 0 < y.1 - x.1 := by have : x.1 < y.1 := hy.1; omega
      have k2 := (Sm.lit (k := 10) (a := 2)).mulOk he (by omega) (by omega)
      have q1 := lowest_rd (y.2 - x.2 - 2 * e) (y.1 - x.1) hw ((okp_way hy).mono (by omega))
      have q2 := lowest_rd (y.2 - x.2 + 2 * e) (y.1 - x.1) hw ((okp_way hy).mono (by omega))
      refine ⟨[x0, some (.int e), some (od (mx ((P ++ pre.map fun t => (x, t)).map (plo e)))), some (od (mn ((P ++ pre.map fun t => (x, t)).map (phi e)))), pl, some (.int x.1), some (.int x.2), some (.int y.1), some (.int y.2), c, d], [x0, some (.int e), some (od (mx ((P ++ (pre ++ [y]).map fun t => (x, t)).map (plo e)))), some (od (mn ((P ++ (pre ++ [y]).map fun t => (x, t)).map (phi e)))), pl, some (.int x.1), some (.int x.2), some (.int y.1), some (.int y.2), some (rd (plo e (x, y))), some (rd (phi e (x, y)))], rfl, .inl ?_, by rw [List.append_assoc]; exact hp, _, _, _, _, rfl⟩
      rw [List.map_append (l₁ := pre), ← List.append_assoc, List.map_append (l₁ := P ++ _), List.map_append (l₁ := P ++ _), List.map_singleton, List.map_singleton, List.map_singleton, mx_app, mn_app]
      generalize mx ((P ++ pre.map fun t => (x, t)).map (plo e)) = m1 at o1 ⊢
      generalize mn ((P ++ pre.map fun t => (x, t)).map (phi e)) = m2 at o2 ⊢
      unfold plo at *
      unfold phi at *
      simp -implicitDefEqProofs only [l1_pair_rates, ↓ o1, ↓ o2, xVar_a, xC_a, xBin_a, xUn_a, tOf_a, tTru_a, tNotP_a, tAndP_a, tOrP_a, tyes_a, tno_a, tYesP_a, xNil_a, xCons_a, xTup_a, xLst_a, xAnd_a, xOr_a, xIf_a, xChain_a, oNo_a, oAt_a, xSl_a, xCall_a, xSeq_a, xIt_a, xLc_a, gSet_a, gTupD_a, gsNil_a, gsCons_a, sNop_a, sBrk_a, sCnt_a, sSeq_a, sRet_a, sIf_a, sSet_a, sTgt_a, sAug_a, sApp_a, sExt_a, sPut_a, sPutK_a, pkO_s, sFor_a, sWhile_a, sPar_a, runD_a, b2_s, c2_s, sqO_nx, sqO_rt, sqO_bk, sqO_ct, ifO_t, ifO_f, stO_s, endO_nx, endO_rt, andO_t, andO_f, orO_t, orO_f, chO_s, chP_t, chP_f, slO_s, atO_i, lcO_s, forO_s, gsO_s, nxO_s, tgO_s, paO_s, apO_s, exO_s, plO_s, ptO_s, dB_b, tru_b, tru_n, tru_i, tru_l, tru_t, is_n, isn_n, nn_n, nn_i, nn_b, nn_t, nn_l, add_ii, add'_ii, sub_ii, neg_i, lt_ii, le_ii, gt_ii, ge_ii, ix_l, ix_t, ix_s, at0, at1, at2, sl_l, sl_t, len_l, len_t, len_s, abs_i, int_i, int_b, max_ii, min_ii, tup_s, lst_s, seq_l, seq_t, sum_s, wipe_n, wipe_c, mul_ii, fdiv_ii, mod_ii, add_ll, add_tt, setAll, mkT, mkL, oNot, List.getD_cons_zero, List.getD_cons_succ, List.length_cons, List.length_nil, List.set_cons_zero, List.set_cons_succ, List.map_cons, List.map_nil, List.replicate, List.cons_append, List.nil_append, List.append_nil, Option.bind_some, Option.map_some, List.all_cons, List.all_nil, if_true, if_false, reduceIte, Nat.reduceAdd, Nat.reduceSub, Nat.reduceLT, Nat.reduceLeDiff, Nat.reduceEqDiff, decide_true, decide_false, Bool.and_true, Bool.and_self, Bool.true_and, Bool.not_true, Bool.not_false, ne_eq, not_true_eq_false, not_false_eq_true, Nat.zero_add, Bool.false_eq_true, and_self, true_and, and_true, k2, q1, q2]) T [] [x0, some (.int e), some (od (mx (P.map (plo e)))), some (od (mn (P.map (phi e)))), pl, some (.int x.1), some (.int x.2), a0, b0, c0, d0] ⟨rfl, a0, b0, c0, d0, by simp⟩
  obtain ⟨_, a, b, c, d, e'⟩ := h
  subst e'
  exact ⟨a, b, c, d, e1⟩
theorem pairs_pre {S pre rest : List Sd} {x : Sd} {P : List (Sd × Sd)} (h : P ++ pairs (x :: rest) = pairs S) : (P ++ rest.map fun t => (x, t)) ++ pairs rest = pairs S := by
  rw [List.append_assoc]
  exact h
theorem zipIdx_split {α : Type} {S : List α} {pre rest : List (α × Nat)} {x : α × Nat} (h : pre ++ x :: rest = S.zipIdx) : x.2 = pre.length ∧ S.drop (x.2 + 1) = rest.map Prod.fst ∧ x.2 < S.length ∧ S[x.2]? = some x.1 ∧ S = pre.map Prod.fst ++ x.1 :: rest.map Prod.fst := by
  have h1 : S.zipIdx[pre.length]? = some x := by rw [← h]; simp
  have h2 : S = (pre ++ x :: rest).map Prod.fst := by rw [h]; simp
  rw [List.map_append, List.map_cons] at h2
  have h3 : x.2 = pre.length := by
    rw [List.getElem?_zipIdx] at h1
    cases hq : S[pre.length]? with
    | none => rw [hq] at h1; cases h1
    | some z => rw [hq] at h1; simp at h1; rw [← h1]
  refine ⟨h3, ?_, ?_, ?_, h2⟩
  · rw [h3]
    conv => lhs; rw [h2]
    rw [show pre.map Prod.fst ++ x.1 :: rest.map Prod.fst = (pre.map Prod.fst ++ [x.1]) ++ rest.map Prod.fst by simp]
    exact List.drop_left' (by simp)
  · rw [h3, h2]
    simp
  · rw [h3]
    conv => lhs; rw [h2]
    simp
theorem pair_rates_eq {S : List Sd} {e : Int} (hS : OkS S) (hi : Inc S) (hl : S.length ≤ 1000) (he : Sm 10 e) : d_pair_rates [.tuple (S.map enc), .int e] = some (.tuple [od (mx ((pairs S).map (plo e))), od (mn ((pairs S).map (phi e)))]) := by
  have hen : oEnum [.tuple (S.map enc)] = some (S.zipIdx.map fun p => .tuple [.int (p.2 : Nat), enc p.1]) := by
    show some (enumD (S.map enc)) = _
    rw [enum_zip]
  obtain ⟨ρ', e1, h⟩ := forL_inv (g := gTupD 2 (gsCons (gSet 4) (gsCons (gTupD 2 (gsCons (gSet 5) (gsCons (gSet 6) gsNil))) gsNil))) (b := l2_pair_rates) (fun p : Sd × Nat => .tuple [.int (p.2 : Nat), enc p.1])
    (fun pre rest ρ => pre ++ rest = S.zipIdx ∧ ∃ P, P ++ pairs (rest.map Prod.fst) = pairs S ∧ ∃ a b c d f g h, ρ = [some (.tuple (S.map enc)), some (.int e), some (od (mx (P.map (plo e)))), some (od (mn (P.map (phi e)))), a, b, c, d, f, g, h]) (fun pre x rest ρ ⟨hp, P, hP, a, b, c, d, f, g, h, e'⟩ => by
      subst e'
      have hx2 := zipIdx_split hp
      have hPm : ∀ p ∈ P, OkP p := fun p h => okp_of hS hi (by rw [← hP]; simp [h])
      have hTm : ∀ t ∈ rest.map Prod.fst, OkP (x.1, t) := fun t h => okp_of hS hi (by rw [← hP]; simp only [List.map_cons, pairs]; simp only [List.mem_append, List.mem_map]; exact .inr (.inl ⟨t, by simpa using h, rfl⟩))
      have hcut : Pm.cutD (S.map enc) (some ((x.2 : Nat) + 1 : Int)) none = (rest.map Prod.fst).map enc := by
        have := cut_from (S.map enc) (x.2 + 1) (by have := hx2.2.2.1; simp; omega)
        rw [← List.map_drop, hx2.2.1] at this
        exact this
      obtain ⟨a', b', c', d', e2⟩ := pr_loop1 he (some (.tuple (S.map enc))) (some (.int x.2)) x.1 (rest.map Prod.fst) P hPm hTm d f g h
      refine ⟨[some (.tuple (S.map enc)), some (.int e), some (od (mx (P.map (plo e)))), some (od (mn (P.map (phi e)))), some (.int x.2), some (.int x.1.1), some (.int x.1.2), d, f, g, h], _, rfl, .inl ?_, by rw [List.append_assoc]; exact hp, _, pairs_pre (pre := []) hP, some (.int x.2), some (.int x.1.1), some (.int x.1.2), a', b', c', d', rfl⟩
      simp -implicitDefEqProofs only [l2_pair_rates, xVar_a, xC_a, xBin_a, xUn_a, tOf_a, tTru_a, tNotP_a, tAndP_a, tOrP_a, tyes_a, tno_a, tYesP_a, xNil_a, xCons_a, xTup_a, xLst_a, xAnd_a, xOr_a, xIf_a, xChain_a, oNo_a, oAt_a, xSl_a, xCall_a, xSeq_a, xIt_a, xLc_a, gSet_a, gTupD_a, gsNil_a, gsCons_a, sNop_a, sBrk_a, sCnt_a, sSeq_a, sRet_a, sIf_a, sSet_a, sTgt_a, sAug_a, sApp_a, sExt_a, sPut_a, sPutK_a, pkO_s, sFor_a, sWhile_a, sPar_a, runD_a, b2_s, c2_s, sqO_nx, sqO_rt, sqO_bk, sqO_ct, ifO_t, ifO_f, stO_s, endO_nx, endO_rt, andO_t, andO_f, orO_t, orO_f, chO_s, chP_t, chP_f, slO_s, atO_i, lcO_s, forO_s, gsO_s, nxO_s, tgO_s, paO_s, apO_s, exO_s, plO_s, ptO_s, dB_b, tru_b, tru_n, tru_i, tru_l, tru_t, is_n, isn_n, nn_n, nn_i, nn_b, nn_t, nn_l, add_ii, add'_ii, sub_ii, neg_i, lt_ii, le_ii, gt_ii, ge_ii, ix_l, ix_t, ix_s, at0, at1, at2, sl_l, sl_t, len_l, len_t, len_s, abs_i, int_i, int_b, max_ii, min_ii, tup_s, lst_s, seq_l, seq_t, sum_s, wipe_n, wipe_c, mul_ii, fdiv_ii, mod_ii, add_ll, add_tt, setAll, mkT, mkL, oNot, List.getD_cons_zero, List.getD_cons_succ, List.length_cons, List.length_nil, List.set_cons_zero, List.set_cons_succ, List.map_cons, List.map_nil, List.replicate, List.cons_append, List.nil_append, List.append_nil, Option.bind_some, Option.map_some, List.all_cons, List.all_nil, if_true, if_false, reduceIte, Nat.reduceAdd, Nat.reduceSub, Nat.reduceLT, Nat.reduceLeDiff, Nat.reduceEqDiff, decide_true, decide_false, Bool.and_true, Bool.and_self, Bool.true_and, Bool.not_true, Bool.not_false, ne_eq, not_true_eq_false, not_false_eq_true, Nat.zero_add, Bool.false_eq_true, and_self, true_and, and_true, hcut, e2]) S.zipIdx [] [some (.tuple (S.map enc)), some (.int e), some .none, some .none, none, none, none, none, none, none, none] ⟨rfl, [], by simp, none, none, none, none, none, none, none, rfl⟩
  obtain ⟨_, P, hP, a, b, c, d, f, g, h, e'⟩ := h
  subst e'
  simp only [List.map_nil, pairs, List.append_nil] at hP
  subst hP
  simp -implicitDefEqProofs only [d_pair_rates, g_pair_rates, xVar_a, xC_a, xBin_a, xUn_a, tOf_a, tTru_a, tNotP_a, tAndP_a, tOrP_a, tyes_a, tno_a, tYesP_a, xNil_a, xCons_a, xTup_a, xLst_a, xAnd_a, xOr_a, xIf_a, xChain_a, oNo_a, oAt_a, xSl_a, xCall_a, xSeq_a, xIt_a, xLc_a, gSet_a, gTupD_a, gsNil_a, gsCons_a, sNop_a, sBrk_a, sCnt_a, sSeq_a, sRet_a, sIf_a, sSet_a, sTgt_a, sAug_a, sApp_a, sExt_a, sPut_a, sPutK_a, pkO_s, sFor_a, sWhile_a, sPar_a, runD_a, b2_s, c2_s, sqO_nx, sqO_rt, sqO_bk, sqO_ct, ifO_t, ifO_f, stO_s, endO_nx, endO_rt, andO_t, andO_f, orO_t, orO_f, chO_s, chP_t, chP_f, slO_s, atO_i, lcO_s, forO_s, gsO_s, nxO_s, tgO_s, paO_s, apO_s, exO_s, plO_s, ptO_s, dB_b, tru_b, tru_n, tru_i, tru_l, tru_t, is_n, isn_n, nn_n, nn_i, nn_b, nn_t, nn_l, add_ii, add'_ii, sub_ii, neg_i, lt_ii, le_ii, gt_ii, ge_ii, ix_l, ix_t, ix_s, at0, at1, at2, sl_l, sl_t, len_l, len_t, len_s, abs_i, int_i, int_b, max_ii, min_ii, tup_s, lst_s, seq_l, seq_t, sum_s, wipe_n, wipe_c, mul_ii, fdiv_ii, mod_ii, add_ll, add_tt, setAll, mkT, mkL, oNot, List.getD_cons_zero, List.getD_cons_succ, List.length_cons, List.length_nil, List.set_cons_zero, List.set_cons_succ, List.map_cons, List.map_nil, List.replicate, List.cons_append, List.nil_append, List.append_nil, Option.bind_some, Option.map_some, List.all_cons, List.all_nil, if_true, if_false, reduceIte, Nat.reduceAdd, Nat.reduceSub, Nat.reduceLT, Nat.reduceLeDiff, Nat.reduceEqDiff, decide_true, decide_false, Bool.and_true, Bool.and_self, Bool.true_and, Bool.not_true, Bool.not_false, ne_eq, not_true_eq_false, not_false_eq_true, Nat.zero_add, Bool.false_eq_true, and_self, true_and, and_true, hen, e1]
end K28

namespace K28
open PySem PySem.Spec PyProof.Rows L2 Pm
def rrD (lo hi : Rat) : D := if hi < lo then .none else .tuple [rd lo, rd hi]
theorem mxp_sr {S : List Sd} {e : Int} (hS : OkS S) (hi : Inc S) (he : Sm 10 e) : ∀ m, mx ((pairs S).map (plo e)) = some m → SR 100 m := mx_all fun z hz => by
  obtain ⟨s, hs, rfl⟩ := List.mem_map.mp hz
  exact plo_sr he (okp_of hS hi hs)
theorem mnp_sr {S : List Sd} {e : Int} (hS : OkS S) (hi : Inc S) (he : Sm 10 e) : ∀ m, mn ((pairs S).map (phi e)) = some m → SR 100 m := mn_all fun z hz => by
  obtain ⟨s, hs, rfl⟩ := List.mem_map.mp hz
  exact phi_sr he (okp_of hS hi hs)
theorem rate_range_eq {S : List Sd} {e : Int} (hS : OkS S) (hi : Inc S) (hl : S.length ≤ 1000) (he : Sm 10 e) {lo hg : Rat} (h1 : mx ((pairs S).map (plo e)) = some lo) (h2 : mn ((pairs S).map (phi e)) = some hg) : d_rate_range [.tuple (S.map enc), .int e] = some (rrD lo hg) := by
  have h := pair_rates_eq hS hi hl he
  rw [h1, h2] at h
  have q := is_less_rd ((mnp_sr hS hi he _ h2).mono (by omega)) ((mxp_sr hS hi he _ h1).mono (by omega))
  unfold rrD
  by_cases hz : hg < lo
  · rw [if_pos hz]
    simp -implicitDefEqProofs only [d_rate_range, g_rate_range, xVar_a, xC_a, xBin_a, xUn_a, tOf_a, tTru_a, tNotP_a, tAndP_a, tOrP_a, tyes_a, tno_a, tYesP_a, xNil_a, xCons_a, xTup_a, xLst_a, xAnd_a, xOr_a, xIf_a, xChain_a, oNo_a, oAt_a, xSl_a, xCall_a, xSeq_a, xIt_a, xLc_a, gSet_a, gTupD_a, gsNil_a, gsCons_a, sNop_a, sBrk_a, sCnt_a, sSeq_a, sRet_a, sIf_a, sSet_a, sTgt_a, sAug_a, sApp_a, sExt_a, sPut_a, sPutK_a, pkO_s, sFor_a, sWhile_a, sPar_a, runD_a, b2_s, c2_s, sqO_nx, sqO_rt, sqO_bk, sqO_ct, ifO_t, ifO_f, stO_s, endO_nx, endO_rt, andO_t, andO_f, orO_t, orO_f, chO_s, chP_t, chP_f, slO_s, atO_i, lcO_s, forO_s, gsO_s, nxO_s, tgO_s, paO_s, apO_s, exO_s, plO_s, ptO_s, dB_b, tru_b, tru_n, tru_i, tru_l, tru_t, is_n, isn_n, nn_n, nn_i, nn_b, nn_t, nn_l, add_ii, add'_ii, sub_ii, neg_i, lt_ii, le_ii, gt_ii, ge_ii, ix_l, ix_t, ix_s, at0, at1, at2, sl_l, sl_t, len_l, len_t, len_s, abs_i, int_i, int_b, max_ii, min_ii, tup_s, lst_s, seq_l, seq_t, sum_s, wipe_n, wipe_c, mul_ii, fdiv_ii, mod_ii, add_ll, add_tt, setAll, mkT, mkL, oNot, List.getD_cons_zero, List.getD_cons_succ, List.length_cons, List.length_nil, List.set_cons_zero, List.set_cons_succ, List.map_cons, List.map_nil, List.replicate, List.cons_append, List.nil_append, List.append_nil, Option.bind_some, Option.map_some, List.all_cons, List.all_nil, if_true, if_false, reduceIte, Nat.reduceAdd, Nat.reduceSub, Nat.reduceLT, Nat.reduceLeDiff, Nat.reduceEqDiff, decide_true, decide_false, Bool.and_true, Bool.and_self, Bool.true_and, Bool.not_true, Bool.not_false, ne_eq, not_true_eq_false, not_false_eq_true, Nat.zero_add, Bool.false_eq_true, and_self, true_and, and_true, h, od, q, hz]
  · rw [if_neg hz]
    simp -implicitDefEqProofs only [d_rate_range, g_rate_range, xVar_a, xC_a, xBin_a, xUn_a, tOf_a, tTru_a, tNotP_a, tAndP_a, tOrP_a, tyes_a, tno_a, tYesP_a, xNil_a, xCons_a, xTup_a, xLst_a, xAnd_a, xOr_a, xIf_a, xChain_a, oNo_a, oAt_a, xSl_a, xCall_a, xSeq_a, xIt_a, xLc_a, gSet_a, gTupD_a, gsNil_a, gsCons_a, sNop_a, sBrk_a, sCnt_a, sSeq_a, sRet_a, sIf_a, sSet_a, sTgt_a, sAug_a, sApp_a, sExt_a, sPut_a, sPutK_a, pkO_s, sFor_a, sWhile_a, sPar_a, runD_a, b2_s, c2_s, sqO_nx, sqO_rt, sqO_bk, sqO_ct, ifO_t, ifO_f, stO_s, endO_nx, endO_rt, andO_t, andO_f, orO_t, orO_f, chO_s, chP_t, chP_f, slO_s, atO_i, lcO_s, forO_s, gsO_s, nxO_s, tgO_s, paO_s, apO_s, exO_s, plO_s, ptO_s, dB_b, tru_b, tru_n, tru_i, tru_l, tru_t, is_n, isn_n, nn_n, nn_i, nn_b, nn_t, nn_l, add_ii, add'_ii, sub_ii, neg_i, lt_ii, le_ii, gt_ii, ge_ii, ix_l, ix_t, ix_s, at0, at1, at2, sl_l, sl_t, len_l, len_t, len_s, abs_i, int_i, int_b, max_ii, min_ii, tup_s, lst_s, seq_l, seq_t, sum_s, wipe_n, wipe_c, mul_ii, fdiv_ii, mod_ii, add_ll, add_tt, setAll, mkT, mkL, oNot, List.getD_cons_zero, List.getD_cons_succ, List.length_cons, List.length_nil, List.set_cons_zero, List.set_cons_succ, List.map_cons, List.map_nil, List.replicate, List.cons_append, List.nil_append, List.append_nil, Option.bind_some, Option.map_some, List.all_cons, List.all_nil, if_true, if_false, reduceIte, Nat.reduceAdd, Nat.reduceSub, Nat.reduceLT, Nat.reduceLeDiff, Nat.reduceEqDiff, decide_true, decide_false, Bool.and_true, Bool.and_self, Bool.true_and, Bool.not_true, Bool.not_false, ne_eq, not_true_eq_false, not_false_eq_true, Nat.zero_add, Bool.false_eq_true, and_self, true_and, and_true, h, od, q, hz]
def Fits (S : List Sd) (e : Int) (r β : Rat) : Prop := ∀ s ∈ S, dn e r s ≤ β ∧ β ≤ up e r s
theorem fits_line_eq {S : List Sd} {e : Int} {r β : Rat} (hS : OkS S) (hn : S ≠ []) (he : Sm 10 e) (hr : SR 200 r) (hβ : SR 900 β) : ∃ t, d_fits_line [.tuple (S.map enc), .int e, rd r, rd β] = some (.bool t) ∧ (t = true ↔ Fits S e r β) := by
  have h := bounds_at_eq hS he hr
  obtain ⟨a, h1, h2, h3⟩ := mx_spec (l := S.map (dn e r)) (by simpa using hn)
  obtain ⟨b, h4, h5, h6⟩ := mn_spec (l := S.map (up e r)) (by simpa using hn)
  rw [h1, h4] at h
  have q1 := is_less_rd hβ (y := a) (by
    obtain ⟨s, hs, rfl⟩ := List.mem_map.mp h2
    exact (dn_sr he hr (hS s hs)).mono (by omega))
  have q2 := is_less_rd (x := b) (by
    obtain ⟨s, hs, rfl⟩ := List.mem_map.mp h5
    exact (up_sr he hr (hS s hs)).mono (by omega)) hβ
  refine ⟨!decide (β < a) && !decide (b < β), ?_, ?_⟩
  · by_cases z1 : β < a
    · simp -implicitDefEqProofs only [d_fits_line, g_fits_line, xVar_a, xC_a, xBin_a, xUn_a, tOf_a, tTru_a, tNotP_a, tAndP_a, tOrP_a, tyes_a, tno_a, tYesP_a, xNil_a, xCons_a, xTup_a, xLst_a, xAnd_a, xOr_a, xIf_a, xChain_a, oNo_a, oAt_a, xSl_a, xCall_a, xSeq_a, xIt_a, xLc_a, gSet_a, gTupD_a, gsNil_a, gsCons_a, sNop_a, sBrk_a, sCnt_a, sSeq_a, sRet_a, sIf_a, sSet_a, sTgt_a, sAug_a, sApp_a, sExt_a, sPut_a, sPutK_a, pkO_s, sFor_a, sWhile_a, sPar_a, runD_a, b2_s, c2_s, sqO_nx, sqO_rt, sqO_bk, sqO_ct, ifO_t, ifO_f, stO_s, endO_nx, endO_rt, andO_t, andO_f, orO_t, orO_f, chO_s, chP_t, chP_f, slO_s, atO_i, lcO_s, forO_s, gsO_s, nxO_s, tgO_s, paO_s, apO_s, exO_s, plO_s, ptO_s, dB_b, tru_b, tru_n, tru_i, tru_l, tru_t, is_n, isn_n, nn_n, nn_i, nn_b, nn_t, nn_l, add_ii, add'_ii, sub_ii, neg_i, lt_ii, le_ii, gt_ii, ge_ii, ix_l, ix_t, ix_s, at0, at1, at2, sl_l, sl_t, len_l, len_t, len_s, abs_i, int_i, int_b, max_ii, min_ii, tup_s, lst_s, seq_l, seq_t, sum_s, wipe_n, wipe_c, mul_ii, fdiv_ii, mod_ii, add_ll, add_tt, setAll, mkT, mkL, oNot, List.getD_cons_zero, List.getD_cons_succ, List.length_cons, List.length_nil, List.set_cons_zero, List.set_cons_succ, List.map_cons, List.map_nil, List.replicate, List.cons_append, List.nil_append, List.append_nil, Option.bind_some, Option.map_some, List.all_cons, List.all_nil, if_true, if_false, reduceIte, Nat.reduceAdd, Nat.reduceSub, Nat.reduceLT, Nat.reduceLeDiff, Nat.reduceEqDiff, decide_true, decide_false, Bool.and_true, Bool.and_self, Bool.true_and, Bool.not_true, Bool.not_false, ne_eq, not_true_eq_false, not_false_eq_true, Nat.zero_add, Bool.false_eq_true, and_self, true_and, and_true, h, od, q1, q2, z1, Bool.not_true, Bool.false_and]
    · simp -implicitDefEqProofs only [d_fits_line, g_fits_line, xVar_a, xC_a, xBin_a, xUn_a, tOf_a, tTru_a, tNotP_a, tAndP_a, tOrP_a, tyes_a, tno_a, tYesP_a, xNil_a, xCons_a, xTup_a, xLst_a, xAnd_a, xOr_a, xIf_a, xChain_a, oNo_a, oAt_a, xSl_a, xCall_a, xSeq_a, xIt_a, xLc_a, gSet_a, gTupD_a, gsNil_a, gsCons_a, sNop_a, sBrk_a, sCnt_a, sSeq_a, sRet_a, sIf_a, sSet_a, sTgt_a, sAug_a, sApp_a, sExt_a, sPut_a, sPutK_a, pkO_s, sFor_a, sWhile_a, sPar_a, runD_a, b2_s, c2_s, sqO_nx, sqO_rt, sqO_bk, sqO_ct, ifO_t, ifO_f, stO_s, endO_nx, endO_rt, andO_t, andO_f, orO_t, orO_f, chO_s, chP_t, chP_f, slO_s, atO_i, lcO_s, forO_s, gsO_s, nxO_s, tgO_s, paO_s, apO_s, exO_s, plO_s, ptO_s, dB_b, tru_b, tru_n, tru_i, tru_l, tru_t, is_n, isn_n, nn_n, nn_i, nn_b, nn_t, nn_l, add_ii, add'_ii, sub_ii, neg_i, lt_ii, le_ii, gt_ii, ge_ii, ix_l, ix_t, ix_s, at0, at1, at2, sl_l, sl_t, len_l, len_t, len_s, abs_i, int_i, int_b, max_ii, min_ii, tup_s, lst_s, seq_l, seq_t, sum_s, wipe_n, wipe_c, mul_ii, fdiv_ii, mod_ii, add_ll, add_tt, setAll, mkT, mkL, oNot, List.getD_cons_zero, List.getD_cons_succ, List.length_cons, List.length_nil, List.set_cons_zero, List.set_cons_succ, List.map_cons, List.map_nil, List.replicate, List.cons_append, List.nil_append, List.append_nil, Option.bind_some, Option.map_some, List.all_cons, List.all_nil, if_true, if_false, reduceIte, Nat.reduceAdd, Nat.reduceSub, Nat.reduceLT, Nat.reduceLeDiff, Nat.reduceEqDiff, decide_true, decide_false, Bool.and_true, Bool.and_self, Bool.true_and, Bool.not_true, Bool.not_false, ne_eq, not_true_eq_false, not_false_eq_true, Nat.zero_add, Bool.false_eq_true, and_self, true_and, and_true, h, od, q1, q2, z1]
  · unfold Fits
    simp only [Bool.and_eq_true, Bool.not_eq_true', decide_eq_false_iff_not, Rat.not_lt]
    constructor
    · rintro ⟨k1, k2⟩ s hs
      have := h3 _ (List.mem_map_of_mem (f := dn e r) hs)
      have := h6 _ (List.mem_map_of_mem (f := up e r) hs)
      grind
    · intro k
      obtain ⟨s, hs, rfl⟩ := List.mem_map.mp h2
      obtain ⟨s', hs', rfl⟩ := List.mem_map.mp h5
      exact ⟨(k s hs).1, (k s' hs').2⟩
def pof (e o : Int) (p : Sd × Sd) : Rat := ((p.2.2 - p.1.2 + o : Int) : Rat) / ((p.2.1 - p.1.1 : Int) : Rat)
def bR (e : Int) (p : Sd × Sd) : List Rat := [pof e (-2 * e) p, pof e 0 p, pof e (2 * e) p]
theorem bR_len (e : Int) (P : List (Sd × Sd)) : (P.flatMap (bR e)).length = 3 * P.length := by
  induction P with
  | nil => rfl
  | cons a P ih =>
    rw [List.flatMap_cons, List.length_append, ih]
    simp [bR]
    omega
theorem br_loop1 {e : Int} (he : Sm 10 e) (x0 pl : Option D) (x : Sd) (T : List Sd) (Q : List Rat) (hT : ∀ t ∈ T, OkP (x, t)) (hl : Q.length + 3 * T.length ≤ 10000) (a0 b0 c0 : Option D) :
    ∃ a b c, forL (gTupD 2 (gsCons (gSet 6) (gsCons (gSet 7) gsNil))) l2_bind_rates (T.map enc) [x0, some (.int e), some (.list (Q.map rd)), pl, some (.int x.1), some (.int x.2), a0, b0, c0] =
    some (.nx [x0, some (.int e), some (.list ((Q ++ (T.map fun t => (x, t)).flatMap (bR e)).map rd)), pl, some (.int x.1), some (.int x.2), a, b, c]) := by
  obtain ⟨ρ', e1, h⟩ := forL_inv (g := gTupD 2 (gsCons (gSet 6) (gsCons (gSet 7) gsNil))) (b := l2_bind_rates) enc
    (fun pre rest ρ => pre ++ rest = T ∧ ∃ a b c, ρ = [x0, some (.int e), some (.list ((Q ++ (pre.map fun t => (x, t)).flatMap (bR e)).map rd)), pl, some (.int x.1), some (.int x.2), a, b, c]) (fun pre y rest ρ ⟨hp, a, b, c, e'⟩ => by
      subst e'
      have hy := hT y (by rw [← hp]; simp)
      have hw : 0 < y.1 - x.1 := by have : x.1 < y.1 := hy.1; omega
      have k1 := (Sm.lit (k := 10) (a := -2)).mulOk he (by omega) (by omega)
      have k2 := (Sm.lit (k := 10) (a := 2)).mulOk he (by omega) (by omega)
      have qq := fun o => lowest_rd (y.2 - x.2 + o) (y.1 - x.1) hw ((okp_way hy).mono (by omega))
      have hlen : (Q ++ (pre.map fun t => (x, t)).flatMap (bR e)).length + 3 ≤ 10000 := by
        have h1 : pre.length + (rest.length + 1) = T.length := by rw [← hp]; simp
        rw [List.length_append, bR_len, List.length_map]
        omega
      refine ⟨[x0, some (.int e), some (.list ((Q ++ (pre.map fun t => (x, t)).flatMap (bR e)).map rd)), pl, some (.int x.1), some (.int x.2), some (.int y.1), some (.int y.2), c], [x0, some (.int e), some (.list ((Q ++ ((pre ++ [y]).map fun t => (x, t)).flatMap (bR e)).map rd)), pl, some (.int x.1), some (.int x.2), some (.int y.1), some (.int y.2), some (.int (2 * e))], rfl, .inl ?_, by rw [List.append_assoc]; exact hp, _, _, _, rfl⟩
      rw [List.map_append (l₁ := pre), List.flatMap_append, ← List.append_assoc, List.map_append (f := rd) (l₁ := Q ++ _)]
      have hlen' : ((Q ++ (pre.map fun t => (x, t)).flatMap (bR e)).map rd).length + 3 ≤ 10000 := by rw [List.length_map]; exact hlen
      generalize (Q ++ (pre.map fun t => (x, t)).flatMap (bR e)).map rd = M at hlen' ⊢
      have l0 : M.length < 16777216 := by omega
      have l1 : M.length + 1 < 16777216 := by omega
      have l2 : M.length + 1 + 1 < 16777216 := by omega
      simp -implicitDefEqProofs only [l2_bind_rates, l1_bind_rates, forL, xVar_a, xC_a, xBin_a, xUn_a, tOf_a, tTru_a, tNotP_a, tAndP_a, tOrP_a, tyes_a, tno_a, tYesP_a, xNil_a, xCons_a, xTup_a, xLst_a, xAnd_a, xOr_a, xIf_a, xChain_a, oNo_a, oAt_a, xSl_a, xCall_a, xSeq_a, xIt_a, xLc_a, gSet_a, gTupD_a, gsNil_a, gsCons_a, sNop_a, sBrk_a, sCnt_a, sSeq_a, sRet_a, sIf_a, sSet_a, sTgt_a, sAug_a, sApp_a, sExt_a, sPut_a, sPutK_a, pkO_s, sFor_a, sWhile_a, sPar_a, runD_a, b2_s, c2_s, sqO_nx, sqO_rt, sqO_bk, sqO_ct, ifO_t, ifO_f, stO_s, endO_nx, endO_rt, andO_t, andO_f, orO_t, orO_f, chO_s, chP_t, chP_f, slO_s, atO_i, lcO_s, forO_s, gsO_s, nxO_s, tgO_s, paO_s, apO_s, exO_s, plO_s, ptO_s, dB_b, tru_b, tru_n, tru_i, tru_l, tru_t, is_n, isn_n, nn_n, nn_i, nn_b, nn_t, nn_l, add_ii, add'_ii, sub_ii, neg_i, lt_ii, le_ii, gt_ii, ge_ii, ix_l, ix_t, ix_s, at0, at1, at2, sl_l, sl_t, len_l, len_t, len_s, abs_i, int_i, int_b, max_ii, min_ii, tup_s, lst_s, seq_l, seq_t, sum_s, wipe_n, wipe_c, mul_ii, fdiv_ii, mod_ii, add_ll, add_tt, setAll, mkT, mkL, oNot, List.getD_cons_zero, List.getD_cons_succ, List.length_cons, List.length_nil, List.set_cons_zero, List.set_cons_succ, List.map_cons, List.map_nil, List.replicate, List.cons_append, List.nil_append, List.append_nil, Option.bind_some, Option.map_some, List.all_cons, List.all_nil, if_true, if_false, reduceIte, Nat.reduceAdd, Nat.reduceSub, Nat.reduceLT, Nat.reduceLeDiff, Nat.reduceEqDiff, decide_true, decide_false, Bool.and_true, Bool.and_self, Bool.true_and, Bool.not_true, Bool.not_false, ne_eq, not_true_eq_false, not_false_eq_true, Nat.zero_add, Bool.false_eq_true, and_self, true_and, and_true, k1, k2, qq, List.length_append, l0, l1, l2, List.flatMap_cons, List.flatMap_nil, bR, pof, List.append_assoc]) T [] [x0, some (.int e), some (.list (Q.map rd)), pl, some (.int x.1), some (.int x.2), a0, b0, c0] ⟨rfl, a0, b0, c0, by simp⟩
  obtain ⟨_, a, b, c, e'⟩ := h
  subst e'
  exact ⟨a, b, c, e1⟩
theorem bind_rates_eq {S : List Sd} {e : Int} (hS : OkS S) (hi : Inc S) (hl : S.length ≤ 1000) (hpl : (pairs S).length ≤ 1000) (he : Sm 10 e) : d_bind_rates [.tuple (S.map enc), .int e] = some (.list (((pairs S).flatMap (bR e)).map rd)) := by
  have hen : oEnum [.tuple (S.map enc)] = some (S.zipIdx.map fun p => .tuple [.int (p.2 : Nat), enc p.1]) := by
    show some (enumD (S.map enc)) = _
    rw [enum_zip]
  obtain ⟨ρ', e1, h⟩ := forL_inv (g := gTupD 2 (gsCons (gSet 3) (gsCons (gTupD 2 (gsCons (gSet 4) (gsCons (gSet 5) gsNil))) gsNil))) (b := l3_bind_rates) (fun p : Sd × Nat => .tuple [.int (p.2 : Nat), enc p.1])
    (fun pre rest ρ => pre ++ rest = S.zipIdx ∧ ∃ P, P ++ pairs (rest.map Prod.fst) = pairs S ∧ ∃ a b c d f g, ρ = [some (.tuple (S.map enc)), some (.int e), some (.list ((P.flatMap (bR e)).map rd)), a, b, c, d, f, g]) (fun pre x rest ρ ⟨hp, P, hP, a, b, c, d, f, g, e'⟩ => by
      subst e'
      have hx2 := zipIdx_split hp
      have hTm : ∀ t ∈ rest.map Prod.fst, OkP (x.1, t) := fun t h => okp_of hS hi (by rw [← hP]; simp only [List.map_cons, pairs]; simp only [List.mem_append, List.mem_map]; exact .inr (.inl ⟨t, by simpa using h, rfl⟩))
      have hcut : Pm.cutD (S.map enc) (some ((x.2 : Nat) + 1 : Int)) none = (rest.map Prod.fst).map enc := by
        have := cut_from (S.map enc) (x.2 + 1) (by have := hx2.2.2.1; simp; omega)
        rw [← List.map_drop, hx2.2.1] at this
        exact this
      have hlen : (P.flatMap (bR e)).length + 3 * (rest.map Prod.fst).length ≤ 10000 := by
        have := congrArg List.length hP
        simp only [List.map_cons, pairs, List.length_append, List.length_map] at this
        rw [bR_len, List.length_map]
        omega
      obtain ⟨a', b', c', e2⟩ := br_loop1 he (some (.tuple (S.map enc))) (some (.int x.2)) x.1 (rest.map Prod.fst) (P.flatMap (bR e)) hTm hlen d f g
      rw [← List.flatMap_append] at e2
      refine ⟨[some (.tuple (S.map enc)), some (.int e), some (.list ((P.flatMap (bR e)).map rd)), some (.int x.2), some (.int x.1.1), some (.int x.1.2), d, f, g], _, rfl, .inl ?_, by rw [List.append_assoc]; exact hp, _, pairs_pre (pre := []) hP, some (.int x.2), some (.int x.1.1), some (.int x.1.2), a', b', c', rfl⟩
      simp -implicitDefEqProofs only [l3_bind_rates, xVar_a, xC_a, xBin_a, xUn_a, tOf_a, tTru_a, tNotP_a, tAndP_a, tOrP_a, tyes_a, tno_a, tYesP_a, xNil_a, xCons_a, xTup_a, xLst_a, xAnd_a, xOr_a, xIf_a, xChain_a, oNo_a, oAt_a, xSl_a, xCall_a, xSeq_a, xIt_a, xLc_a, gSet_a, gTupD_a, gsNil_a, gsCons_a, sNop_a, sBrk_a, sCnt_a, sSeq_a, sRet_a, sIf_a, sSet_a, sTgt_a, sAug_a, sApp_a, sExt_a, sPut_a, sPutK_a, pkO_s, sFor_a, sWhile_a, sPar_a, runD_a, b2_s, c2_s, sqO_nx, sqO_rt, sqO_bk, sqO_ct, ifO_t, ifO_f, stO_s, endO_nx, endO_rt, andO_t, andO_f, orO_t, orO_f, chO_s, chP_t, chP_f, slO_s, atO_i, lcO_s, forO_s, gsO_s, nxO_s, tgO_s, paO_s, apO_s, exO_s, plO_s, ptO_s, dB_b, tru_b, tru_n, tru_i, tru_l, tru_t, is_n, isn_n, nn_n, nn_i, nn_b, nn_t, nn_l, add_ii, add'_ii, sub_ii, neg_i, lt_ii, le_ii, gt_ii, ge_ii, ix_l, ix_t, ix_s, at0, at1, at2, sl_l, sl_t, len_l, len_t, len_s, abs_i, int_i, int_b, max_ii, min_ii, tup_s, lst_s, seq_l, seq_t, sum_s, wipe_n, wipe_c, mul_ii, fdiv_ii, mod_ii, add_ll, add_tt, setAll, mkT, mkL, oNot, List.getD_cons_zero, List.getD_cons_succ, List.length_cons, List.length_nil, List.set_cons_zero, List.set_cons_succ, List.map_cons, List.map_nil, List.replicate, List.cons_append, List.nil_append, List.append_nil, Option.bind_some, Option.map_some, List.all_cons, List.all_nil, if_true, if_false, reduceIte, Nat.reduceAdd, Nat.reduceSub, Nat.reduceLT, Nat.reduceLeDiff, Nat.reduceEqDiff, decide_true, decide_false, Bool.and_true, Bool.and_self, Bool.true_and, Bool.not_true, Bool.not_false, ne_eq, not_true_eq_false, not_false_eq_true, Nat.zero_add, Bool.false_eq_true, and_self, true_and, and_true, hcut, e2]) S.zipIdx [] [some (.tuple (S.map enc)), some (.int e), some (.list []), none, none, none, none, none, none] ⟨rfl, [], by simp, none, none, none, none, none, none, rfl⟩
  obtain ⟨_, P, hP, a, b, c, d, f, g, e'⟩ := h
  subst e'
  simp only [List.map_nil, pairs, List.append_nil] at hP
  subst hP
  simp -implicitDefEqProofs only [d_bind_rates, g_bind_rates, xVar_a, xC_a, xBin_a, xUn_a, tOf_a, tTru_a, tNotP_a, tAndP_a, tOrP_a, tyes_a, tno_a, tYesP_a, xNil_a, xCons_a, xTup_a, xLst_a, xAnd_a, xOr_a, xIf_a, xChain_a, oNo_a, oAt_a, xSl_a, xCall_a, xSeq_a, xIt_a, xLc_a, gSet_a, gTupD_a, gsNil_a, gsCons_a, sNop_a, sBrk_a, sCnt_a, sSeq_a, sRet_a, sIf_a, sSet_a, sTgt_a, sAug_a, sApp_a, sExt_a, sPut_a, sPutK_a, pkO_s, sFor_a, sWhile_a, sPar_a, runD_a, b2_s, c2_s, sqO_nx, sqO_rt, sqO_bk, sqO_ct, ifO_t, ifO_f, stO_s, endO_nx, endO_rt, andO_t, andO_f, orO_t, orO_f, chO_s, chP_t, chP_f, slO_s, atO_i, lcO_s, forO_s, gsO_s, nxO_s, tgO_s, paO_s, apO_s, exO_s, plO_s, ptO_s, dB_b, tru_b, tru_n, tru_i, tru_l, tru_t, is_n, isn_n, nn_n, nn_i, nn_b, nn_t, nn_l, add_ii, add'_ii, sub_ii, neg_i, lt_ii, le_ii, gt_ii, ge_ii, ix_l, ix_t, ix_s, at0, at1, at2, sl_l, sl_t, len_l, len_t, len_s, abs_i, int_i, int_b, max_ii, min_ii, tup_s, lst_s, seq_l, seq_t, sum_s, wipe_n, wipe_c, mul_ii, fdiv_ii, mod_ii, add_ll, add_tt, setAll, mkT, mkL, oNot, List.getD_cons_zero, List.getD_cons_succ, List.length_cons, List.length_nil, List.set_cons_zero, List.set_cons_succ, List.map_cons, List.map_nil, List.replicate, List.cons_append, List.nil_append, List.append_nil, Option.bind_some, Option.map_some, List.all_cons, List.all_nil, if_true, if_false, reduceIte, Nat.reduceAdd, Nat.reduceSub, Nat.reduceLT, Nat.reduceLeDiff, Nat.reduceEqDiff, decide_true, decide_false, Bool.and_true, Bool.and_self, Bool.true_and, Bool.not_true, Bool.not_false, ne_eq, not_true_eq_false, not_false_eq_true, Nat.zero_add, Bool.false_eq_true, and_self, true_and, and_true, hen, e1]
end K28

namespace K28
open PySem PySem.Spec PyProof.Rows L2 Pm
def lw (S : List Sd) (e : Int) (r : Rat) : Rat := (mx (S.map (dn e r))).getD 0
def hw (S : List Sd) (e : Int) (r : Rat) : Rat := (mn (S.map (up e r))).getD 0
theorem lw_spec {S : List Sd} (e : Int) (r : Rat) (hn : S ≠ []) : mx (S.map (dn e r)) = some (lw S e r) ∧ (∃ s ∈ S, lw S e r = dn e r s) ∧ ∀ s ∈ S, dn e r s ≤ lw S e r := by
  obtain ⟨a, h1, h2, h3⟩ := mx_spec (l := S.map (dn e r)) (by simpa using hn)
  unfold lw
  rw [h1]
  obtain ⟨s, hs, hs2⟩ := List.mem_map.mp h2
  exact ⟨rfl, ⟨s, hs, hs2.symm⟩, fun s hs => h3 _ (List.mem_map_of_mem (f := dn e r) hs)⟩
theorem hw_spec {S : List Sd} (e : Int) (r : Rat) (hn : S ≠ []) : mn (S.map (up e r)) = some (hw S e r) ∧ (∃ s ∈ S, hw S e r = up e r s) ∧ ∀ s ∈ S, hw S e r ≤ up e r s := by
  obtain ⟨a, h1, h2, h3⟩ := mn_spec (l := S.map (up e r)) (by simpa using hn)
  unfold hw
  rw [h1]
  obtain ⟨s, hs, hs2⟩ := List.mem_map.mp h2
  exact ⟨rfl, ⟨s, hs, hs2.symm⟩, fun s hs => h3 _ (List.mem_map_of_mem (f := up e r) hs)⟩
theorem od_s (x : Rat) : od (some x) = rd x := rfl
def inR (lo hg r : Rat) : Bool := !decide (r < lo) && !decide (hg < r)
def fl (S : List Sd) (e : Int) (H : Int) (r : Rat) : Rat := lw S e r + r * (H : Rat)
def fh (S : List Sd) (e : Int) (H : Int) (r : Rat) : Rat := hw S e r + r * (H : Rat)
theorem pof_sr {e o : Int} (ho : Sm 12 o) {p : Sd × Sd} (h : OkP p) : SR 100 (pof e o p) := SR.div ((((okp_rise h).mono (k := 12) (by omega)).add ho).mono (by omega)) ((okp_way h).mono (by omega)) (by have := h.1; omega)
theorem bR_sr {e : Int} (he : Sm 10 e) {p : Sd × Sd} (h : OkP p) : ∀ r ∈ bR e p, SR 100 r := by
  intro r hr
  unfold bR at hr
  simp only [List.mem_cons, List.not_mem_nil, or_false] at hr
  rcases hr with rfl | rfl | rfl
  · exact pof_sr (by have := (sm_2e he).neg; rwa [← Int.neg_mul] at this) h
  · exact pof_sr Sm.zero h
  · exact pof_sr (sm_2e he) h
theorem sure_loop {S : List Sd} {e H : Int} {lo hg : Rat} (hS : OkS S) (hn : S ≠ []) (he : Sm 10 e) (hH : Sm 10 H) (s1 : SR 100 lo) (s2 : SR 100 hg) (R : List Rat) (hR : ∀ r ∈ R, SR 100 r) :
    ∃ a b c d f, forL (gSet 4) l1_sure_depth (R.map rd) [some (.tuple (S.map enc)), some (.int e), some (.int H), some (.tuple [rd lo, rd hg]), none, some .none, some .none, none, none, none, none] =
    some (.nx [some (.tuple (S.map enc)), some (.int e), some (.int H), some (.tuple [rd lo, rd hg]), a, some (od (mn ((R.filter (inR lo hg)).map (fl S e H)))), some (od (mx ((R.filter (inR lo hg)).map (fh S e H)))), b, c, d, f]) := by
  have sl : ∀ r, SR 100 r → SR 300 (lw S e r) := fun r hr => by
    obtain ⟨s, hs, h⟩ := (lw_spec e r hn).2.1
    rw [h]
    exact dn_sr he (hr.mono (by omega)) (hS s hs)
  have sh : ∀ r, SR 100 r → SR 300 (hw S e r) := fun r hr => by
    obtain ⟨s, hs, h⟩ := (hw_spec e r hn).2.1
    rw [h]
    exact up_sr he (hr.mono (by omega)) (hS s hs)
  have fls : ∀ r, SR 100 r → SR 900 (fl S e H r) := fun r hr => ((sl r hr).add (hr.mul (SR.int hH))).mono (by omega)
  have fhs : ∀ r, SR 100 r → SR 900 (fh S e H r) := fun r hr => ((sh r hr).add (hr.mul (SR.int hH))).mono (by omega)
  obtain ⟨ρ', e1, h⟩ := forL_inv (g := gSet 4) (b := l1_sure_depth) rd
    (fun pre rest ρ => pre ++ rest = R ∧ ∃ a b c d f, ρ = [some (.tuple (S.map enc)), some (.int e), some (.int H), some (.tuple [rd lo, rd hg]), a, some (od (mn ((pre.filter (inR lo hg)).map (fl S e H)))), some (od (mx ((pre.filter (inR lo hg)).map (fh S e H)))), b, c, d, f]) (fun pre x rest ρ ⟨hp, a, b, c, d, f, e'⟩ => by
      subst e'
      have hm : ∀ r ∈ pre.filter (inR lo hg), SR 100 r := fun r hr => hR r (by rw [← hp]; simp [(List.mem_filter.mp hr).1])
      have hx := hR x (by rw [← hp]; simp)
      have o1 := ominO (o := mn ((pre.filter (inR lo hg)).map (fl S e H))) (y := fl S e H x) (mn_all fun z hz => by
        obtain ⟨s, hs, rfl⟩ := List.mem_map.mp hz
        exact fls s (hm s hs)) (fls x hx) 5 9
      have o2 := omaxO (o := mx ((pre.filter (inR lo hg)).map (fh S e H))) (y := fh S e H x) (mx_all fun z hz => by
        obtain ⟨s, hs, rfl⟩ := List.mem_map.mp hz
        exact fhs s (hm s hs)) (fhs x hx) 6 10
      have c1 := is_less_rd (hx.mono (k := 900) (by omega)) (s1.mono (by omega))
      have c2 := is_less_rd (s2.mono (k := 900) (by omega)) (hx.mono (k := 900) (by omega))
      have hb := bounds_at_eq hS he (hx.mono (k := 200) (by omega))
      rw [(lw_spec e x hn).1, (hw_spec e x hn).1] at hb
      have t1 := times_rd (hx.mono (by omega)) (SR.int (k := 900) (hH.mono (by omega)))
      have p1 := plus_rd ((sl x hx).mono (by omega)) ((hx.mul (SR.int hH)).mono (by omega))
      have p2 := plus_rd ((sh x hx).mono (by omega)) ((hx.mul (SR.int hH)).mono (by omega))
      rw [show lw S e x + x * (H : Rat) = fl S e H x from rfl] at p1
      rw [show hw S e x + x * (H : Rat) = fh S e H x from rfl] at p2
      by_cases hin : inR lo hg x = true
      · refine ⟨[some (.tuple (S.map enc)), some (.int e), some (.int H), some (.tuple [rd lo, rd hg]), some (rd x), some (od (mn ((pre.filter (inR lo hg)).map (fl S e H)))), some (od (mx ((pre.filter (inR lo hg)).map (fh S e H)))), b, c, d, f], [some (.tuple (S.map enc)), some (.int e), some (.int H), some (.tuple [rd lo, rd hg]), some (rd x), some (od (mn (((pre ++ [x]).filter (inR lo hg)).map (fl S e H)))), some (od (mx (((pre ++ [x]).filter (inR lo hg)).map (fh S e H)))), some (rd (lw S e x)), some (rd (hw S e x)), some (rd (fl S e H x)), some (rd (fh S e H x))], rfl, .inl ?_, by rw [List.append_assoc]; exact hp, _, _, _, _, _, rfl⟩
        have hf : (pre ++ [x]).filter (inR lo hg) = pre.filter (inR lo hg) ++ [x] := by rw [List.filter_append, List.filter_cons_of_pos hin, List.filter_nil]
        rw [hf, List.map_append, List.map_append, List.map_singleton, List.map_singleton, mx_app, mn_app]
        generalize mn ((pre.filter (inR lo hg)).map (fl S e H)) = m1 at o1 ⊢
        generalize mx ((pre.filter (inR lo hg)).map (fh S e H)) = m2 at o2 ⊢
        unfold inR at hin
        have z1 : ¬ x < lo := by intro h; simp [h] at hin
        have z2 : ¬ hg < x := by intro h; simp [h] at hin
        simp -implicitDefEqProofs only [l1_sure_depth, ↓ o1, ↓ o2, xVar_a, xC_a, xBin_a, xUn_a, tOf_a, tTru_a, tNotP_a, tAndP_a, tOrP_a, tyes_a, tno_a, tYesP_a, xNil_a, xCons_a, xTup_a, xLst_a, xAnd_a, xOr_a, xIf_a, xChain_a, oNo_a, oAt_a, xSl_a, xCall_a, xSeq_a, xIt_a, xLc_a, gSet_a, gTupD_a, gsNil_a, gsCons_a, sNop_a, sBrk_a, sCnt_a, sSeq_a, sRet_a, sIf_a, sSet_a, sTgt_a, sAug_a, sApp_a, sExt_a, sPut_a, sPutK_a, pkO_s, sFor_a, sWhile_a, sPar_a, runD_a, b2_s, c2_s, sqO_nx, sqO_rt, sqO_bk, sqO_ct, ifO_t, ifO_f, stO_s, endO_nx, endO_rt, andO_t, andO_f, orO_t, orO_f, chO_s, chP_t, chP_f, slO_s, atO_i, lcO_s, forO_s, gsO_s, nxO_s, tgO_s, paO_s, apO_s, exO_s, plO_s, ptO_s, dB_b, tru_b, tru_n, tru_i, tru_l, tru_t, is_n, isn_n, nn_n, nn_i, nn_b, nn_t, nn_l, add_ii, add'_ii, sub_ii, neg_i, lt_ii, le_ii, gt_ii, ge_ii, ix_l, ix_t, ix_s, at0, at1, at2, sl_l, sl_t, len_l, len_t, len_s, abs_i, int_i, int_b, max_ii, min_ii, tup_s, lst_s, seq_l, seq_t, sum_s, wipe_n, wipe_c, mul_ii, fdiv_ii, mod_ii, add_ll, add_tt, setAll, mkT, mkL, oNot, List.getD_cons_zero, List.getD_cons_succ, List.length_cons, List.length_nil, List.set_cons_zero, List.set_cons_succ, List.map_cons, List.map_nil, List.replicate, List.cons_append, List.nil_append, List.append_nil, Option.bind_some, Option.map_some, List.all_cons, List.all_nil, if_true, if_false, reduceIte, Nat.reduceAdd, Nat.reduceSub, Nat.reduceLT, Nat.reduceLeDiff, Nat.reduceEqDiff, decide_true, decide_false, Bool.and_true, Bool.and_self, Bool.true_and, Bool.not_true, Bool.not_false, ne_eq, not_true_eq_false, not_false_eq_true, Nat.zero_add, Bool.false_eq_true, and_self, true_and, and_true, c1, c2, z1, z2, hb, od_s, whole_rd, t1, p1, p2]
      · refine ⟨[some (.tuple (S.map enc)), some (.int e), some (.int H), some (.tuple [rd lo, rd hg]), some (rd x), some (od (mn ((pre.filter (inR lo hg)).map (fl S e H)))), some (od (mx ((pre.filter (inR lo hg)).map (fh S e H)))), b, c, d, f], [some (.tuple (S.map enc)), some (.int e), some (.int H), some (.tuple [rd lo, rd hg]), some (rd x), some (od (mn (((pre ++ [x]).filter (inR lo hg)).map (fl S e H)))), some (od (mx (((pre ++ [x]).filter (inR lo hg)).map (fh S e H)))), b, c, d, f], rfl, .inl ?_, by rw [List.append_assoc]; exact hp, _, _, _, _, _, rfl⟩
        have hf : (pre ++ [x]).filter (inR lo hg) = pre.filter (inR lo hg) := by rw [List.filter_append, List.filter_cons_of_neg hin, List.filter_nil, List.append_nil]
        rw [hf]
        by_cases z1 : x < lo
        · simp -implicitDefEqProofs only [l1_sure_depth, xVar_a, xC_a, xBin_a, xUn_a, tOf_a, tTru_a, tNotP_a, tAndP_a, tOrP_a, tyes_a, tno_a, tYesP_a, xNil_a, xCons_a, xTup_a, xLst_a, xAnd_a, xOr_a, xIf_a, xChain_a, oNo_a, oAt_a, xSl_a, xCall_a, xSeq_a, xIt_a, xLc_a, gSet_a, gTupD_a, gsNil_a, gsCons_a, sNop_a, sBrk_a, sCnt_a, sSeq_a, sRet_a, sIf_a, sSet_a, sTgt_a, sAug_a, sApp_a, sExt_a, sPut_a, sPutK_a, pkO_s, sFor_a, sWhile_a, sPar_a, runD_a, b2_s, c2_s, sqO_nx, sqO_rt, sqO_bk, sqO_ct, ifO_t, ifO_f, stO_s, endO_nx, endO_rt, andO_t, andO_f, orO_t, orO_f, chO_s, chP_t, chP_f, slO_s, atO_i, lcO_s, forO_s, gsO_s, nxO_s, tgO_s, paO_s, apO_s, exO_s, plO_s, ptO_s, dB_b, tru_b, tru_n, tru_i, tru_l, tru_t, is_n, isn_n, nn_n, nn_i, nn_b, nn_t, nn_l, add_ii, add'_ii, sub_ii, neg_i, lt_ii, le_ii, gt_ii, ge_ii, ix_l, ix_t, ix_s, at0, at1, at2, sl_l, sl_t, len_l, len_t, len_s, abs_i, int_i, int_b, max_ii, min_ii, tup_s, lst_s, seq_l, seq_t, sum_s, wipe_n, wipe_c, mul_ii, fdiv_ii, mod_ii, add_ll, add_tt, setAll, mkT, mkL, oNot, List.getD_cons_zero, List.getD_cons_succ, List.length_cons, List.length_nil, List.set_cons_zero, List.set_cons_succ, List.map_cons, List.map_nil, List.replicate, List.cons_append, List.nil_append, List.append_nil, Option.bind_some, Option.map_some, List.all_cons, List.all_nil, if_true, if_false, reduceIte, Nat.reduceAdd, Nat.reduceSub, Nat.reduceLT, Nat.reduceLeDiff, Nat.reduceEqDiff, decide_true, decide_false, Bool.and_true, Bool.and_self, Bool.true_and, Bool.not_true, Bool.not_false, ne_eq, not_true_eq_false, not_false_eq_true, Nat.zero_add, Bool.false_eq_true, and_self, true_and, and_true, c1, c2, z1]
        · by_cases z2 : hg < x
          · simp -implicitDefEqProofs only [l1_sure_depth, xVar_a, xC_a, xBin_a, xUn_a, tOf_a, tTru_a, tNotP_a, tAndP_a, tOrP_a, tyes_a, tno_a, tYesP_a, xNil_a, xCons_a, xTup_a, xLst_a, xAnd_a, xOr_a, xIf_a, xChain_a, oNo_a, oAt_a, xSl_a, xCall_a, xSeq_a, xIt_a, xLc_a, gSet_a, gTupD_a, gsNil_a, gsCons_a, sNop_a, sBrk_a, sCnt_a, sSeq_a, sRet_a, sIf_a, sSet_a, sTgt_a, sAug_a, sApp_a, sExt_a, sPut_a, sPutK_a, pkO_s, sFor_a, sWhile_a, sPar_a, runD_a, b2_s, c2_s, sqO_nx, sqO_rt, sqO_bk, sqO_ct, ifO_t, ifO_f, stO_s, endO_nx, endO_rt, andO_t, andO_f, orO_t, orO_f, chO_s, chP_t, chP_f, slO_s, atO_i, lcO_s, forO_s, gsO_s, nxO_s, tgO_s, paO_s, apO_s, exO_s, plO_s, ptO_s, dB_b, tru_b, tru_n, tru_i, tru_l, tru_t, is_n, isn_n, nn_n, nn_i, nn_b, nn_t, nn_l, add_ii, add'_ii, sub_ii, neg_i, lt_ii, le_ii, gt_ii, ge_ii, ix_l, ix_t, ix_s, at0, at1, at2, sl_l, sl_t, len_l, len_t, len_s, abs_i, int_i, int_b, max_ii, min_ii, tup_s, lst_s, seq_l, seq_t, sum_s, wipe_n, wipe_c, mul_ii, fdiv_ii, mod_ii, add_ll, add_tt, setAll, mkT, mkL, oNot, List.getD_cons_zero, List.getD_cons_succ, List.length_cons, List.length_nil, List.set_cons_zero, List.set_cons_succ, List.map_cons, List.map_nil, List.replicate, List.cons_append, List.nil_append, List.append_nil, Option.bind_some, Option.map_some, List.all_cons, List.all_nil, if_true, if_false, reduceIte, Nat.reduceAdd, Nat.reduceSub, Nat.reduceLT, Nat.reduceLeDiff, Nat.reduceEqDiff, decide_true, decide_false, Bool.and_true, Bool.and_self, Bool.true_and, Bool.not_true, Bool.not_false, ne_eq, not_true_eq_false, not_false_eq_true, Nat.zero_add, Bool.false_eq_true, and_self, true_and, and_true, c1, c2, z1, z2]
          · exact absurd (by simp [inR, z1, z2]) hin) R [] [some (.tuple (S.map enc)), some (.int e), some (.int H), some (.tuple [rd lo, rd hg]), none, some .none, some .none, none, none, none, none] ⟨rfl, none, none, none, none, none, rfl⟩
  obtain ⟨_, a, b, c, d, f, e'⟩ := h
  subst e'
  exact ⟨a, b, c, d, f, e1⟩
def bindS (S : List Sd) (e : Int) : List Rat := (pairs S).flatMap (bR e)
theorem sure_depth_eq {S : List Sd} {e H : Int} (hS : OkS S) (hn : S ≠ []) (hi : Inc S) (hl : S.length ≤ 1000) (hpl : (pairs S).length ≤ 1000) (he : Sm 10 e) (hH : Sm 10 H) {lo hg : Rat} (h1 : mx ((pairs S).map (plo e)) = some lo) (h2 : mn ((pairs S).map (phi e)) = some hg) :
    d_sure_depth [.tuple (S.map enc), .int e, .int H] = some (if hg < lo then .none else .tuple [od (mn (((bindS S e).filter (inR lo hg)).map (fl S e H))), od (mx (((bindS S e).filter (inR lo hg)).map (fh S e H)))]) := by
  have hr := rate_range_eq hS hi hl he h1 h2
  have hb := bind_rates_eq hS hi hl hpl he
  unfold rrD at hr
  by_cases hz : hg < lo
  · rw [if_pos hz] at hr
    rw [if_pos hz]
    simp -implicitDefEqProofs only [d_sure_depth, g_sure_depth, xVar_a, xC_a, xBin_a, xUn_a, tOf_a, tTru_a, tNotP_a, tAndP_a, tOrP_a, tyes_a, tno_a, tYesP_a, xNil_a, xCons_a, xTup_a, xLst_a, xAnd_a, xOr_a, xIf_a, xChain_a, oNo_a, oAt_a, xSl_a, xCall_a, xSeq_a, xIt_a, xLc_a, gSet_a, gTupD_a, gsNil_a, gsCons_a, sNop_a, sBrk_a, sCnt_a, sSeq_a, sRet_a, sIf_a, sSet_a, sTgt_a, sAug_a, sApp_a, sExt_a, sPut_a, sPutK_a, pkO_s, sFor_a, sWhile_a, sPar_a, runD_a, b2_s, c2_s, sqO_nx, sqO_rt, sqO_bk, sqO_ct, ifO_t, ifO_f, stO_s, endO_nx, endO_rt, andO_t, andO_f, orO_t, orO_f, chO_s, chP_t, chP_f, slO_s, atO_i, lcO_s, forO_s, gsO_s, nxO_s, tgO_s, paO_s, apO_s, exO_s, plO_s, ptO_s, dB_b, tru_b, tru_n, tru_i, tru_l, tru_t, is_n, isn_n, nn_n, nn_i, nn_b, nn_t, nn_l, add_ii, add'_ii, sub_ii, neg_i, lt_ii, le_ii, gt_ii, ge_ii, ix_l, ix_t, ix_s, at0, at1, at2, sl_l, sl_t, len_l, len_t, len_s, abs_i, int_i, int_b, max_ii, min_ii, tup_s, lst_s, seq_l, seq_t, sum_s, wipe_n, wipe_c, mul_ii, fdiv_ii, mod_ii, add_ll, add_tt, setAll, mkT, mkL, oNot, List.getD_cons_zero, List.getD_cons_succ, List.length_cons, List.length_nil, List.set_cons_zero, List.set_cons_succ, List.map_cons, List.map_nil, List.replicate, List.cons_append, List.nil_append, List.append_nil, Option.bind_some, Option.map_some, List.all_cons, List.all_nil, if_true, if_false, reduceIte, Nat.reduceAdd, Nat.reduceSub, Nat.reduceLT, Nat.reduceLeDiff, Nat.reduceEqDiff, decide_true, decide_false, Bool.and_true, Bool.and_self, Bool.true_and, Bool.not_true, Bool.not_false, ne_eq, not_true_eq_false, not_false_eq_true, Nat.zero_add, Bool.false_eq_true, and_self, true_and, and_true, hr]
  · rw [if_neg hz] at hr
    rw [if_neg hz]
    obtain ⟨a, b, c, d, f, h⟩ := sure_loop (lo := lo) (hg := hg) hS hn he hH (mxp_sr hS hi he _ h1) (mnp_sr hS hi he _ h2) (bindS S e) (fun r hr => by
      obtain ⟨p, hp, hp2⟩ := List.mem_flatMap.mp hr
      exact bR_sr he (okp_of hS hi hp) r hp2)
    unfold bindS at *
    simp -implicitDefEqProofs only [d_sure_depth, g_sure_depth, xVar_a, xC_a, xBin_a, xUn_a, tOf_a, tTru_a, tNotP_a, tAndP_a, tOrP_a, tyes_a, tno_a, tYesP_a, xNil_a, xCons_a, xTup_a, xLst_a, xAnd_a, xOr_a, xIf_a, xChain_a, oNo_a, oAt_a, xSl_a, xCall_a, xSeq_a, xIt_a, xLc_a, gSet_a, gTupD_a, gsNil_a, gsCons_a, sNop_a, sBrk_a, sCnt_a, sSeq_a, sRet_a, sIf_a, sSet_a, sTgt_a, sAug_a, sApp_a, sExt_a, sPut_a, sPutK_a, pkO_s, sFor_a, sWhile_a, sPar_a, runD_a, b2_s, c2_s, sqO_nx, sqO_rt, sqO_bk, sqO_ct, ifO_t, ifO_f, stO_s, endO_nx, endO_rt, andO_t, andO_f, orO_t, orO_f, chO_s, chP_t, chP_f, slO_s, atO_i, lcO_s, forO_s, gsO_s, nxO_s, tgO_s, paO_s, apO_s, exO_s, plO_s, ptO_s, dB_b, tru_b, tru_n, tru_i, tru_l, tru_t, is_n, isn_n, nn_n, nn_i, nn_b, nn_t, nn_l, add_ii, add'_ii, sub_ii, neg_i, lt_ii, le_ii, gt_ii, ge_ii, ix_l, ix_t, ix_s, at0, at1, at2, sl_l, sl_t, len_l, len_t, len_s, abs_i, int_i, int_b, max_ii, min_ii, tup_s, lst_s, seq_l, seq_t, sum_s, wipe_n, wipe_c, mul_ii, fdiv_ii, mod_ii, add_ll, add_tt, setAll, mkT, mkL, oNot, List.getD_cons_zero, List.getD_cons_succ, List.length_cons, List.length_nil, List.set_cons_zero, List.set_cons_succ, List.map_cons, List.map_nil, List.replicate, List.cons_append, List.nil_append, List.append_nil, Option.bind_some, Option.map_some, List.all_cons, List.all_nil, if_true, if_false, reduceIte, Nat.reduceAdd, Nat.reduceSub, Nat.reduceLT, Nat.reduceLeDiff, Nat.reduceEqDiff, decide_true, decide_false, Bool.and_true, Bool.and_self, Bool.true_and, Bool.not_true, Bool.not_false, ne_eq, not_true_eq_false, not_false_eq_true, Nat.zero_add, Bool.false_eq_true, and_self, true_and, and_true, hr, hb, h]
end K28

namespace K28
open PySem PySem.Spec PyProof.Rows L2 Pm
/-- a loop that looks for the first -/
theorem forL_find {β : Type} {g : D → PEnv → Option PEnv} {b : XS} (en : β → D) (P : β → Bool) (I : PEnv → Prop) (ret : β → D) : ∀ (xs : List β), (∀ x ∈ xs, ∀ ρ, I ρ → ∃ ρ1, g (en x) ρ = some ρ1 ∧ (P x = true → b ρ1 = some (.rt (ret x))) ∧ (P x = false → ∃ ρ2, b ρ1 = some (.nx ρ2) ∧ I ρ2)) →
    ∀ ρ, I ρ → (∃ x, xs.find? P = some x ∧ forL g b (xs.map en) ρ = some (.rt (ret x))) ∨ (xs.find? P = none ∧ ∃ ρ', forL g b (xs.map en) ρ = some (.nx ρ') ∧ I ρ')
  | [], _, ρ, h => .inr ⟨rfl, ρ, rfl, h⟩
  | x :: xs, hb, ρ, h => by
    obtain ⟨ρ1, e1, h1, h2⟩ := hb x (List.mem_cons_self ..) ρ h
    cases hp : P x with
    | true =>
      exact .inl ⟨x, by rw [List.find?_cons_of_pos hp], by simp only [List.map_cons, forL, e1, h1 hp, Option.bind_some]⟩
    | false =>
      obtain ⟨ρ2, e2, h3⟩ := h2 hp
      have hn : xs.find? P = (x :: xs).find? P := by rw [List.find?_cons_of_neg (by rw [hp]; decide)]
      rcases forL_find en P I ret xs (fun y hy => hb y (List.mem_cons_of_mem _ hy)) ρ2 h3 with ⟨z, z1, z2⟩ | ⟨z1, ρ', z2, z3⟩
      · exact .inl ⟨z, by rw [← hn, z1], by simp only [List.map_cons, forL, e1, e2, Option.bind_some, z2]⟩
      · exact .inr ⟨by rw [← hn, z1], ρ', by simp only [List.map_cons, forL, e1, e2, Option.bind_some, z2], z3⟩
def foundD {β : Type} (en : β → D) : Option β → D
  | some x => en x
  | none => .none
/-! rates, odd ones -/
def rates (S : List Sd) (e : Int) : Option (Rat × Rat) := match mx ((pairs S).map (plo e)), mn ((pairs S).map (phi e)) with
  | some lo, some hg => if hg < lo then none else some (lo, hg)
  | _, _ => none
def ratesD : Option (Rat × Rat) → D
  | some (a, b) => .tuple [rd a, rd b]
  | none => .none
theorem pairs_ne {S : List Sd} (h : 2 ≤ S.length) : pairs S ≠ [] := by
  match S, h with
  | s :: t :: S, _ => simp [pairs]
theorem rates_spec {S : List Sd} (e : Int) (h : 2 ≤ S.length) : ∃ lo hg, mx ((pairs S).map (plo e)) = some lo ∧ mn ((pairs S).map (phi e)) = some hg ∧ rates S e = (if hg < lo then none else some (lo, hg)) ∧ rrD lo hg = ratesD (rates S e) := by
  have hp := pairs_ne h
  obtain ⟨lo, h1, _⟩ := mx_spec (l := (pairs S).map (plo e)) (by simpa using hp)
  obtain ⟨hg, h2, _⟩ := mn_spec (l := (pairs S).map (phi e)) (by simpa using hp)
  refine ⟨lo, hg, h1, h2, ?_, ?_⟩
  · unfold rates
    rw [h1, h2]
  · unfold rates rrD
    rw [h1, h2]
    simp only
    split <;> rfl
theorem rate_range_r {S : List Sd} {e : Int} (hS : OkS S) (hi : Inc S) (hl : S.length ≤ 1000) (h2 : 2 ≤ S.length) (he : Sm 10 e) : d_rate_range [.tuple (S.map enc), .int e] = some (ratesD (rates S e)) := by
  obtain ⟨lo, hg, h1, h2, _, h4⟩ := rates_spec e h2
  rw [rate_range_eq hS hi hl he h1 h2, h4]
theorem ratesD_nn (o : Option (Rat × Rat)) : isNone (ratesD o) = o.isNone := by
  cases o with
  | none => rfl
  | some p => rfl
theorem ratesD_flat (o : Option (Rat × Rat)) : flat (ratesD o) = true := by
  cases o with
  | none => rfl
  | some p => rfl
def rem (S : List Sd) (k : Nat) : List Sd := S.take k ++ S.drop (k + 1)
theorem rem_sub (S : List Sd) (k : Nat) : (rem S k).Sublist S := by
  unfold rem
  conv => rhs; rw [← List.take_append_drop k S]
  refine List.Sublist.append (List.Sublist.refl _) ?_
  have := List.drop_sublist 1 (S.drop k)
  rwa [List.drop_drop] at this
theorem rem_len {S : List Sd} {k : Nat} (h : k < S.length) : (rem S k).length = S.length - 1 := by
  unfold rem
  rw [List.length_append, List.length_take, List.length_drop]
  omega
theorem OkS.sub {S T : List Sd} (h : OkS S) (hs : T.Sublist S) : OkS T := fun s hs' => h s (hs.subset hs')
theorem Inc.sub {S T : List Sd} (h : Inc S) (hs : T.Sublist S) : Inc T := List.Pairwise.sublist hs h
def oddP (S : List Sd) (e : Int) (k : Nat) : Bool := decide ((rem S k).length < 2) || (rates (rem S k) e).isSome
theorem nIdx (n : Nat) : (List.range n).map (fun i : Nat => PyData.int (i : Nat)) = (List.range n).map fun i : Nat => (fun i : Nat => PyData.int (i : Nat)) i := rfl
theorem odd_eq {S : List Sd} {e : Int} (hS : OkS S) (hi : Inc S) (hl : S.length ≤ 1000) (h2 : 2 ≤ S.length) (he : Sm 10 e) : d_odd_sounding [.tuple (S.map enc), .int e] = some (if (rates S e).isSome then .none else foundD (fun i : Nat => PyData.int (i : Nat)) ((List.range S.length).find? (oddP S e))) := by
  have hr := rate_range_r hS hi hl h2 he
  have hR : oR1 [.int (S.map enc).length] = some ((List.range S.length).map fun i => PyData.int (i : Nat)) := by
    have := oR1_nat (S.map enc).length (by rw [List.length_map]; omega)
    rwa [List.length_map] at this ⊢
  cases hz : (rates S e).isSome with
  | true =>
    have hq : (rates S e).isNone = false := by
      cases h : rates S e with
      | none => rw [h] at hz; cases hz
      | some _ => rfl
    simp -implicitDefEqProofs only [d_odd_sounding, g_odd_sounding, xVar_a, xC_a, xBin_a, xUn_a, tOf_a, tTru_a, tNotP_a, tAndP_a, tOrP_a, tyes_a, tno_a, tYesP_a, xNil_a, xCons_a, xTup_a, xLst_a, xAnd_a, xOr_a, xIf_a, xChain_a, oNo_a, oAt_a, xSl_a, xCall_a, xSeq_a, xIt_a, xLc_a, gSet_a, gTupD_a, gsNil_a, gsCons_a, sNop_a, sBrk_a, sCnt_a, sSeq_a, sRet_a, sIf_a, sSet_a, sTgt_a, sAug_a, sApp_a, sExt_a, sPut_a, sPutK_a, pkO_s, sFor_a, sWhile_a, sPar_a, runD_a, b2_s, c2_s, sqO_nx, sqO_rt, sqO_bk, sqO_ct, ifO_t, ifO_f, stO_s, endO_nx, endO_rt, andO_t, andO_f, orO_t, orO_f, chO_s, chP_t, chP_f, slO_s, atO_i, lcO_s, forO_s, gsO_s, nxO_s, tgO_s, paO_s, apO_s, exO_s, plO_s, ptO_s, dB_b, tru_b, tru_n, tru_i, tru_l, tru_t, is_n, isn_n, nn_n, nn_i, nn_b, nn_t, nn_l, add_ii, add'_ii, sub_ii, neg_i, lt_ii, le_ii, gt_ii, ge_ii, ix_l, ix_t, ix_s, at0, at1, at2, sl_l, sl_t, len_l, len_t, len_s, abs_i, int_i, int_b, max_ii, min_ii, tup_s, lst_s, seq_l, seq_t, sum_s, wipe_n, wipe_c, mul_ii, fdiv_ii, mod_ii, add_ll, add_tt, setAll, mkT, mkL, oNot, List.getD_cons_zero, List.getD_cons_succ, List.length_cons, List.length_nil, List.set_cons_zero, List.set_cons_succ, List.map_cons, List.map_nil, List.replicate, List.cons_append, List.nil_append, List.append_nil, Option.bind_some, Option.map_some, List.all_cons, List.all_nil, if_true, if_false, reduceIte, Nat.reduceAdd, Nat.reduceSub, Nat.reduceLT, Nat.reduceLeDiff, Nat.reduceEqDiff, decide_true, decide_false, Bool.and_true, Bool.and_self, Bool.true_and, Bool.not_true, Bool.not_false, ne_eq, not_true_eq_false, not_false_eq_true, Nat.zero_add, Bool.false_eq_true, and_self, true_and, and_true, hr, isn_n, ratesD_nn, hq]
  | false =>
    have hq : (rates S e).isNone = true := by
      cases h : rates S e with
      | none => rfl
      | some _ => rw [h] at hz; cases hz
    have key := forL_find (g := gSet 2) (b := l1_odd_sounding) (fun i : Nat => PyData.int (i : Nat)) (oddP S e) (fun ρ => ∃ a b, ρ = [some (.tuple (S.map enc)), some (.int e), a, b]) (fun i => .int (i : Nat)) (List.range S.length) (fun k hk ρ ⟨a, b, e'⟩ => by
      subst e'
      have hk' : k < S.length := by simpa using hk
      have c1 := cut_upto (S.map enc) k
      have c2 : Pm.cutD (S.map enc) (some ((k : Nat) + 1 : Int)) none = (S.drop (k + 1)).map enc := by
        rw [List.map_drop]
        exact cut_from (S.map enc) (k + 1) (by simp; omega)
      rw [← List.map_take] at c1
      have c3 : oAdd (.tuple ((S.take k).map enc)) (.tuple ((S.drop (k + 1)).map enc)) = some (.tuple ((rem S k).map enc)) := by
        rw [add_tt (by simp; omega)]
        unfold rem
        rw [List.map_append]
      have hlen := rem_len hk'
      refine ⟨[some (.tuple (S.map enc)), some (.int e), some (.int k), b], rfl, fun hp => ?_, fun hp => ?_⟩
      · unfold oddP at hp
        by_cases hb : (rem S k).length < 2
        · have hb' : (((rem S k).length : Nat) : Int) < 2 := by omega
          simp -implicitDefEqProofs only [l1_odd_sounding, xVar_a, xC_a, xBin_a, xUn_a, tOf_a, tTru_a, tNotP_a, tAndP_a, tOrP_a, tyes_a, tno_a, tYesP_a, xNil_a, xCons_a, xTup_a, xLst_a, xAnd_a, xOr_a, xIf_a, xChain_a, oNo_a, oAt_a, xSl_a, xCall_a, xSeq_a, xIt_a, xLc_a, gSet_a, gTupD_a, gsNil_a, gsCons_a, sNop_a, sBrk_a, sCnt_a, sSeq_a, sRet_a, sIf_a, sSet_a, sTgt_a, sAug_a, sApp_a, sExt_a, sPut_a, sPutK_a, pkO_s, sFor_a, sWhile_a, sPar_a, runD_a, b2_s, c2_s, sqO_nx, sqO_rt, sqO_bk, sqO_ct, ifO_t, ifO_f, stO_s, endO_nx, endO_rt, andO_t, andO_f, orO_t, orO_f, chO_s, chP_t, chP_f, slO_s, atO_i, lcO_s, forO_s, gsO_s, nxO_s, tgO_s, paO_s, apO_s, exO_s, plO_s, ptO_s, dB_b, tru_b, tru_n, tru_i, tru_l, tru_t, is_n, isn_n, nn_n, nn_i, nn_b, nn_t, nn_l, add_ii, add'_ii, sub_ii, neg_i, lt_ii, le_ii, gt_ii, ge_ii, ix_l, ix_t, ix_s, at0, at1, at2, sl_l, sl_t, len_l, len_t, len_s, abs_i, int_i, int_b, max_ii, min_ii, tup_s, lst_s, seq_l, seq_t, sum_s, wipe_n, wipe_c, mul_ii, fdiv_ii, mod_ii, add_ll, add_tt, setAll, mkT, mkL, oNot, List.getD_cons_zero, List.getD_cons_succ, List.length_cons, List.length_nil, List.set_cons_zero, List.set_cons_succ, List.map_cons, List.map_nil, List.replicate, List.cons_append, List.nil_append, List.append_nil, Option.bind_some, Option.map_some, List.all_cons, List.all_nil, if_true, if_false, reduceIte, Nat.reduceAdd, Nat.reduceSub, Nat.reduceLT, Nat.reduceLeDiff, Nat.reduceEqDiff, decide_true, decide_false, Bool.and_true, Bool.and_self, Bool.true_and, Bool.not_true, Bool.not_false, ne_eq, not_true_eq_false, not_false_eq_true, Nat.zero_add, Bool.false_eq_true, and_self, true_and, and_true, c1, c2, c3, List.length_map, hb']
        · have hb' : ¬ (((rem S k).length : Nat) : Int) < 2 := by omega
          have hr2 := rate_range_r (hS.sub (rem_sub S k)) (hi.sub (rem_sub S k)) (by omega) (by omega) he
          have hq2 : (rates (rem S k) e).isNone = false := by
            cases h : rates (rem S k) e with
            | none => rw [h] at hp; simp [hb] at hp
            | some _ => rfl
          simp -implicitDefEqProofs only [l1_odd_sounding, xVar_a, xC_a, xBin_a, xUn_a, tOf_a, tTru_a, tNotP_a, tAndP_a, tOrP_a, tyes_a, tno_a, tYesP_a, xNil_a, xCons_a, xTup_a, xLst_a, xAnd_a, xOr_a, xIf_a, xChain_a, oNo_a, oAt_a, xSl_a, xCall_a, xSeq_a, xIt_a, xLc_a, gSet_a, gTupD_a, gsNil_a, gsCons_a, sNop_a, sBrk_a, sCnt_a, sSeq_a, sRet_a, sIf_a, sSet_a, sTgt_a, sAug_a, sApp_a, sExt_a, sPut_a, sPutK_a, pkO_s, sFor_a, sWhile_a, sPar_a, runD_a, b2_s, c2_s, sqO_nx, sqO_rt, sqO_bk, sqO_ct, ifO_t, ifO_f, stO_s, endO_nx, endO_rt, andO_t, andO_f, orO_t, orO_f, chO_s, chP_t, chP_f, slO_s, atO_i, lcO_s, forO_s, gsO_s, nxO_s, tgO_s, paO_s, apO_s, exO_s, plO_s, ptO_s, dB_b, tru_b, tru_n, tru_i, tru_l, tru_t, is_n, isn_n, nn_n, nn_i, nn_b, nn_t, nn_l, add_ii, add'_ii, sub_ii, neg_i, lt_ii, le_ii, gt_ii, ge_ii, ix_l, ix_t, ix_s, at0, at1, at2, sl_l, sl_t, len_l, len_t, len_s, abs_i, int_i, int_b, max_ii, min_ii, tup_s, lst_s, seq_l, seq_t, sum_s, wipe_n, wipe_c, mul_ii, fdiv_ii, mod_ii, add_ll, add_tt, setAll, mkT, mkL, oNot, List.getD_cons_zero, List.getD_cons_succ, List.length_cons, List.length_nil, List.set_cons_zero, List.set_cons_succ, List.map_cons, List.map_nil, List.replicate, List.cons_append, List.nil_append, List.append_nil, Option.bind_some, Option.map_some, List.all_cons, List.all_nil, if_true, if_false, reduceIte, Nat.reduceAdd, Nat.reduceSub, Nat.reduceLT, Nat.reduceLeDiff, Nat.reduceEqDiff, decide_true, decide_false, Bool.and_true, Bool.and_self, Bool.true_and, Bool.not_true, Bool.not_false, ne_eq, not_true_eq_false, not_false_eq_true, Nat.zero_add, Bool.false_eq_true, and_self, true_and, and_true, c1, c2, c3, List.length_map, hb', hr2, ratesD_flat, isn_n, ratesD_nn, hq2]
      · unfold oddP at hp
        have hb : ¬ (rem S k).length < 2 := by intro h; simp [h] at hp
        have hb' : ¬ (((rem S k).length : Nat) : Int) < 2 := by omega
        have hr2 := rate_range_r (hS.sub (rem_sub S k)) (hi.sub (rem_sub S k)) (by omega) (by omega) he
        have hq2 : (rates (rem S k) e).isNone = true := by
          cases h : rates (rem S k) e with
          | none => rfl
          | some _ => rw [h] at hp; simp at hp
        refine ⟨[some (.tuple (S.map enc)), some (.int e), some (.int k), some (.tuple ((rem S k).map enc))], ?_, _, _, rfl⟩
        simp -implicitDefEqProofs only [l1_odd_sounding, xVar_a, xC_a, xBin_a, xUn_a, tOf_a, tTru_a, tNotP_a, tAndP_a, tOrP_a, tyes_a, tno_a, tYesP_a, xNil_a, xCons_a, xTup_a, xLst_a, xAnd_a, xOr_a, xIf_a, xChain_a, oNo_a, oAt_a, xSl_a, xCall_a, xSeq_a, xIt_a, xLc_a, gSet_a, gTupD_a, gsNil_a, gsCons_a, sNop_a, sBrk_a, sCnt_a, sSeq_a, sRet_a, sIf_a, sSet_a, sTgt_a, sAug_a, sApp_a, sExt_a, sPut_a, sPutK_a, pkO_s, sFor_a, sWhile_a, sPar_a, runD_a, b2_s, c2_s, sqO_nx, sqO_rt, sqO_bk, sqO_ct, ifO_t, ifO_f, stO_s, endO_nx, endO_rt, andO_t, andO_f, orO_t, orO_f, chO_s, chP_t, chP_f, slO_s, atO_i, lcO_s, forO_s, gsO_s, nxO_s, tgO_s, paO_s, apO_s, exO_s, plO_s, ptO_s, dB_b, tru_b, tru_n, tru_i, tru_l, tru_t, is_n, isn_n, nn_n, nn_i, nn_b, nn_t, nn_l, add_ii, add'_ii, sub_ii, neg_i, lt_ii, le_ii, gt_ii, ge_ii, ix_l, ix_t, ix_s, at0, at1, at2, sl_l, sl_t, len_l, len_t, len_s, abs_i, int_i, int_b, max_ii, min_ii, tup_s, lst_s, seq_l, seq_t, sum_s, wipe_n, wipe_c, mul_ii, fdiv_ii, mod_ii, add_ll, add_tt, setAll, mkT, mkL, oNot, List.getD_cons_zero, List.getD_cons_succ, List.length_cons, List.length_nil, List.set_cons_zero, List.set_cons_succ, List.map_cons, List.map_nil, List.replicate, List.cons_append, List.nil_append, List.append_nil, Option.bind_some, Option.map_some, List.all_cons, List.all_nil, if_true, if_false, reduceIte, Nat.reduceAdd, Nat.reduceSub, Nat.reduceLT, Nat.reduceLeDiff, Nat.reduceEqDiff, decide_true, decide_false, Bool.and_true, Bool.and_self, Bool.true_and, Bool.not_true, Bool.not_false, ne_eq, not_true_eq_false, not_false_eq_true, Nat.zero_add, Bool.false_eq_true, and_self, true_and, and_true, c1, c2, c3, List.length_map, hb', hr2, ratesD_flat, isn_n, ratesD_nn, hq2]) [some (.tuple (S.map enc)), some (.int e), none, none] ⟨none, none, rfl⟩
    rcases key with ⟨k, f1, f2⟩ | ⟨f1, ρ', f2, a, b, e'⟩
    · rw [f1]
      simp -implicitDefEqProofs only [d_odd_sounding, g_odd_sounding, xVar_a, xC_a, xBin_a, xUn_a, tOf_a, tTru_a, tNotP_a, tAndP_a, tOrP_a, tyes_a, tno_a, tYesP_a, xNil_a, xCons_a, xTup_a, xLst_a, xAnd_a, xOr_a, xIf_a, xChain_a, oNo_a, oAt_a, xSl_a, xCall_a, xSeq_a, xIt_a, xLc_a, gSet_a, gTupD_a, gsNil_a, gsCons_a, sNop_a, sBrk_a, sCnt_a, sSeq_a, sRet_a, sIf_a, sSet_a, sTgt_a, sAug_a, sApp_a, sExt_a, sPut_a, sPutK_a, pkO_s, sFor_a, sWhile_a, sPar_a, runD_a, b2_s, c2_s, sqO_nx, sqO_rt, sqO_bk, sqO_ct, ifO_t, ifO_f, stO_s, endO_nx, endO_rt, andO_t, andO_f, orO_t, orO_f, chO_s, chP_t, chP_f, slO_s, atO_i, lcO_s, forO_s, gsO_s, nxO_s, tgO_s, paO_s, apO_s, exO_s, plO_s, ptO_s, dB_b, tru_b, tru_n, tru_i, tru_l, tru_t, is_n, isn_n, nn_n, nn_i, nn_b, nn_t, nn_l, add_ii, add'_ii, sub_ii, neg_i, lt_ii, le_ii, gt_ii, ge_ii, ix_l, ix_t, ix_s, at0, at1, at2, sl_l, sl_t, len_l, len_t, len_s, abs_i, int_i, int_b, max_ii, min_ii, tup_s, lst_s, seq_l, seq_t, sum_s, wipe_n, wipe_c, mul_ii, fdiv_ii, mod_ii, add_ll, add_tt, setAll, mkT, mkL, oNot, List.getD_cons_zero, List.getD_cons_succ, List.length_cons, List.length_nil, List.set_cons_zero, List.set_cons_succ, List.map_cons, List.map_nil, List.replicate, List.cons_append, List.nil_append, List.append_nil, Option.bind_some, Option.map_some, List.all_cons, List.all_nil, if_true, if_false, reduceIte, Nat.reduceAdd, Nat.reduceSub, Nat.reduceLT, Nat.reduceLeDiff, Nat.reduceEqDiff, decide_true, decide_false, Bool.and_true, Bool.and_self, Bool.true_and, Bool.not_true, Bool.not_false, ne_eq, not_true_eq_false, not_false_eq_true, Nat.zero_add, Bool.false_eq_true, and_self, true_and, and_true, hr, isn_n, ratesD_nn, hq, hR, f2, foundD]
    · rw [f1]
      subst e'
      simp -implicitDefEqProofs only [d_odd_sounding, g_odd_sounding, xVar_a, xC_a, xBin_a, xUn_a, tOf_a, tTru_a, tNotP_a, tAndP_a, tOrP_a, tyes_a, tno_a, tYesP_a, xNil_a, xCons_a, xTup_a, xLst_a, xAnd_a, xOr_a, xIf_a, xChain_a, oNo_a, oAt_a, xSl_a, xCall_a, xSeq_a, xIt_a, xLc_a, gSet_a, gTupD_a, gsNil_a, gsCons_a, sNop_a, sBrk_a, sCnt_a, sSeq_a, sRet_a, sIf_a, sSet_a, sTgt_a, sAug_a, sApp_a, sExt_a, sPut_a, sPutK_a, pkO_s, sFor_a, sWhile_a, sPar_a, runD_a, b2_s, c2_s, sqO_nx, sqO_rt, sqO_bk, sqO_ct, ifO_t, ifO_f, stO_s, endO_nx, endO_rt, andO_t, andO_f, orO_t, orO_f, chO_s, chP_t, chP_f, slO_s, atO_i, lcO_s, forO_s, gsO_s, nxO_s, tgO_s, paO_s, apO_s, exO_s, plO_s, ptO_s, dB_b, tru_b, tru_n, tru_i, tru_l, tru_t, is_n, isn_n, nn_n, nn_i, nn_b, nn_t, nn_l, add_ii, add'_ii, sub_ii, neg_i, lt_ii, le_ii, gt_ii, ge_ii, ix_l, ix_t, ix_s, at0, at1, at2, sl_l, sl_t, len_l, len_t, len_s, abs_i, int_i, int_b, max_ii, min_ii, tup_s, lst_s, seq_l, seq_t, sum_s, wipe_n, wipe_c, mul_ii, fdiv_ii, mod_ii, add_ll, add_tt, setAll, mkT, mkL, oNot, List.getD_cons_zero, List.getD_cons_succ, List.length_cons, List.length_nil, List.set_cons_zero, List.set_cons_succ, List.map_cons, List.map_nil, List.replicate, List.cons_append, List.nil_append, List.append_nil, Option.bind_some, Option.map_some, List.all_cons, List.all_nil, if_true, if_false, reduceIte, Nat.reduceAdd, Nat.reduceSub, Nat.reduceLT, Nat.reduceLeDiff, Nat.reduceEqDiff, decide_true, decide_false, Bool.and_true, Bool.and_self, Bool.true_and, Bool.not_true, Bool.not_false, ne_eq, not_true_eq_false, not_false_eq_true, Nat.zero_add, Bool.false_eq_true, and_self, true_and, and_true, hr, isn_n, ratesD_nn, hq, hR, f2, foundD]
end K28

namespace K28
open PySem PySem.Spec PyProof.Rows L2 Pm
def cl (e b : Int) (s : Sd) : Rat := ((s.2 - e : Int) : Rat) / ((s.1 - b : Int) : Rat)
def cu (e b : Int) (s : Sd) : Rat := ((s.2 + e : Int) : Rat) / ((s.1 - b : Int) : Rat)
def nb (b : Int) (s : Sd) : Bool := !decide (s.1 = b)
def CB (S : List Sd) (e b : Int) : Prop := (∀ s ∈ S, s.1 = b → (s.2.natAbs : Int) ≤ e) ∧ (∀ s ∈ S, ∀ t ∈ S, s.1 ≠ b → t.1 ≠ b → cl e b s ≤ cu e b t) ∧ ∀ t ∈ S, t.1 ≠ b → 0 ≤ cu e b t
theorem nb_mem {S : List Sd} {b : Int} {s : Sd} : s ∈ S.filter (nb b) ↔ s ∈ S ∧ s.1 ≠ b := by
  rw [List.mem_filter]
  simp [nb]
theorem way_ok {b : Int} (hb : Sm 10 b) {s : Sd} (hs : Sm 10 s.1 ∧ Sm 10 s.2) : Sm 11 (s.1 - b) := (hs.1.sub hb).mono (by omega)
theorem cl_sr {e b : Int} (he : Sm 10 e) (hb : Sm 10 b) {s : Sd} (hs : Sm 10 s.1 ∧ Sm 10 s.2) (h : b < s.1) : SR 100 (cl e b s) := SR.div ((hs.2.sub he).mono (by omega)) ((way_ok hb hs).mono (by omega)) (by omega)
theorem cu_sr {e b : Int} (he : Sm 10 e) (hb : Sm 10 b) {s : Sd} (hs : Sm 10 s.1 ∧ Sm 10 s.2) (h : b < s.1) : SR 100 (cu e b s) := SR.div ((hs.2.add he).mono (by omega)) ((way_ok hb hs).mono (by omega)) (by omega)
theorem num_nonneg (x : Rat) : 0 ≤ x.num ↔ 0 ≤ x := by
  rw [Rat.le_iff 0 x]
  show _ ↔ (0 : Int) * (x.den : Int) ≤ x.num * 1
  rw [Int.zero_mul, Int.mul_one]
theorem begin_eq {S : List Sd} {e b : Int} (hS : OkS S) (he : Sm 10 e) (hb : Sm 10 b) (hb2 : ∀ s ∈ S, b ≤ s.1) (hn : S.filter (nb b) ≠ []) : ∃ t, d_could_begin [.tuple (S.map enc), .int e, .int b] = some (.bool t) ∧ (t = true ↔ CB S e b) := by
  have key := forL_inv' (g := gTupD 2 (gsCons (gSet 5) (gsCons (gSet 6) gsNil))) (b := l1_could_begin) enc
    (fun pre rest ρ => pre ++ rest = S ∧ (∀ s ∈ pre, s.1 = b → (s.2.natAbs : Int) ≤ e) ∧ ∃ a c d f, ρ = [some (.tuple (S.map enc)), some (.int e), some (.int b), some (od (mx ((pre.filter (nb b)).map (cl e b)))), some (od (mn ((pre.filter (nb b)).map (cu e b)))), a, c, d, f])
    (fun d => d = .bool false ∧ ∃ s ∈ S, s.1 = b ∧ e < (s.2.natAbs : Int)) (fun pre x rest ρ ⟨hp, hpre, a, c, d, f, e'⟩ => by
      subst e'
      have hxS : x ∈ S := by rw [← hp]; simp
      have hx := hS x hxS
      refine ⟨[some (.tuple (S.map enc)), some (.int e), some (.int b), some (od (mx ((pre.filter (nb b)).map (cl e b)))), some (od (mn ((pre.filter (nb b)).map (cu e b)))), some (.int x.1), some (.int x.2), d, f], rfl, ?_⟩
      by_cases hxb : x.1 = b
      · have hf : (pre ++ [x]).filter (nb b) = pre.filter (nb b) := by
          rw [List.filter_append, List.filter_cons_of_neg (by simp [nb, hxb]), List.filter_nil, List.append_nil]
        by_cases hz : e < (x.2.natAbs : Int)
        · refine .inr ⟨.bool false, ?_, rfl, x, hxS, hxb, hz⟩
          simp -implicitDefEqProofs only [l1_could_begin, xVar_a, xC_a, xBin_a, xUn_a, tOf_a, tTru_a, tNotP_a, tAndP_a, tOrP_a, tyes_a, tno_a, tYesP_a, xNil_a, xCons_a, xTup_a, xLst_a, xAnd_a, xOr_a, xIf_a, xChain_a, oNo_a, oAt_a, xSl_a, xCall_a, xSeq_a, xIt_a, xLc_a, gSet_a, gTupD_a, gsNil_a, gsCons_a, sNop_a, sBrk_a, sCnt_a, sSeq_a, sRet_a, sIf_a, sSet_a, sTgt_a, sAug_a, sApp_a, sExt_a, sPut_a, sPutK_a, pkO_s, sFor_a, sWhile_a, sPar_a, runD_a, b2_s, c2_s, sqO_nx, sqO_rt, sqO_bk, sqO_ct, ifO_t, ifO_f, stO_s, endO_nx, endO_rt, andO_t, andO_f, orO_t, orO_f, chO_s, chP_t, chP_f, slO_s, atO_i, lcO_s, forO_s, gsO_s, nxO_s, tgO_s, paO_s, apO_s, exO_s, plO_s, ptO_s, dB_b, tru_b, tru_n, tru_i, tru_l, tru_t, is_n, isn_n, nn_n, nn_i, nn_b, nn_t, nn_l, add_ii, add'_ii, sub_ii, neg_i, lt_ii, le_ii, gt_ii, ge_ii, ix_l, ix_t, ix_s, at0, at1, at2, sl_l, sl_t, len_l, len_t, len_s, abs_i, int_i, int_b, max_ii, min_ii, tup_s, lst_s, seq_l, seq_t, sum_s, wipe_n, wipe_c, mul_ii, fdiv_ii, mod_ii, add_ll, add_tt, setAll, mkT, mkL, oNot, List.getD_cons_zero, List.getD_cons_succ, List.length_cons, List.length_nil, List.set_cons_zero, List.set_cons_succ, List.map_cons, List.map_nil, List.replicate, List.cons_append, List.nil_append, List.append_nil, Option.bind_some, Option.map_some, List.all_cons, List.all_nil, if_true, if_false, reduceIte, Nat.reduceAdd, Nat.reduceSub, Nat.reduceLT, Nat.reduceLeDiff, Nat.reduceEqDiff, decide_true, decide_false, Bool.and_true, Bool.and_self, Bool.true_and, Bool.not_true, Bool.not_false, ne_eq, not_true_eq_false, not_false_eq_true, Nat.zero_add, Bool.false_eq_true, and_self, true_and, and_true, eq_int, hxb, abs_eq, hz]
        · refine .inl ⟨[some (.tuple (S.map enc)), some (.int e), some (.int b), some (od (mx (((pre ++ [x]).filter (nb b)).map (cl e b)))), some (od (mn (((pre ++ [x]).filter (nb b)).map (cu e b)))), some (.int x.1), some (.int x.2), d, f], .inl ?_, by rw [List.append_assoc]; exact hp, ?_, _, _, _, _, rfl⟩
          · rw [hf]
            simp -implicitDefEqProofs only [l1_could_begin, xVar_a, xC_a, xBin_a, xUn_a, tOf_a, tTru_a, tNotP_a, tAndP_a, tOrP_a, tyes_a, tno_a, tYesP_a, xNil_a, xCons_a, xTup_a, xLst_a, xAnd_a, xOr_a, xIf_a, xChain_a, oNo_a, oAt_a, xSl_a, xCall_a, xSeq_a, xIt_a, xLc_a, gSet_a, gTupD_a, gsNil_a, gsCons_a, sNop_a, sBrk_a, sCnt_a, sSeq_a, sRet_a, sIf_a, sSet_a, sTgt_a, sAug_a, sApp_a, sExt_a, sPut_a, sPutK_a, pkO_s, sFor_a, sWhile_a, sPar_a, runD_a, b2_s, c2_s, sqO_nx, sqO_rt, sqO_bk, sqO_ct, ifO_t, ifO_f, stO_s, endO_nx, endO_rt, andO_t, andO_f, orO_t, orO_f, chO_s, chP_t, chP_f, slO_s, atO_i, lcO_s, forO_s, gsO_s, nxO_s, tgO_s, paO_s, apO_s, exO_s, plO_s, ptO_s, dB_b, tru_b, tru_n, tru_i, tru_l, tru_t, is_n, isn_n, nn_n, nn_i, nn_b, nn_t, nn_l, add_ii, add'_ii, sub_ii, neg_i, lt_ii, le_ii, gt_ii, ge_ii, ix_l, ix_t, ix_s, at0, at1, at2, sl_l, sl_t, len_l, len_t, len_s, abs_i, int_i, int_b, max_ii, min_ii, tup_s, lst_s, seq_l, seq_t, sum_s, wipe_n, wipe_c, mul_ii, fdiv_ii, mod_ii, add_ll, add_tt, setAll, mkT, mkL, oNot, List.getD_cons_zero, List.getD_cons_succ, List.length_cons, List.length_nil, List.set_cons_zero, List.set_cons_succ, List.map_cons, List.map_nil, List.replicate, List.cons_append, List.nil_append, List.append_nil, Option.bind_some, Option.map_some, List.all_cons, List.all_nil, if_true, if_false, reduceIte, Nat.reduceAdd, Nat.reduceSub, Nat.reduceLT, Nat.reduceLeDiff, Nat.reduceEqDiff, decide_true, decide_false, Bool.and_true, Bool.and_self, Bool.true_and, Bool.not_true, Bool.not_false, ne_eq, not_true_eq_false, not_false_eq_true, Nat.zero_add, Bool.false_eq_true, and_self, true_and, and_true, eq_int, hxb, abs_eq, hz]
          · intro s hs h
            rcases List.mem_append.mp hs with hs | hs
            · exact hpre s hs h
            · simp at hs
              subst hs
              omega
      · have hlt : b < x.1 := by have := hb2 x hxS; omega
        have hm : ∀ s ∈ pre.filter (nb b), s ∈ S ∧ b < s.1 := fun s hs => by
          have h := nb_mem.mp hs
          have h2 : s ∈ S := by rw [← hp]; simp [h.1]
          have := hb2 s h2
          exact ⟨h2, by omega⟩
        have hf : (pre ++ [x]).filter (nb b) = pre.filter (nb b) ++ [x] := by
          rw [List.filter_append, List.filter_cons_of_pos (by simp [nb, hxb]), List.filter_nil]
        have o1 := omaxO (o := mx ((pre.filter (nb b)).map (cl e b))) (y := cl e b x) (mx_all fun z hz => by
          obtain ⟨s, hs, rfl⟩ := List.mem_map.mp hz
          exact (cl_sr he hb (hS s (hm s hs).1) (hm s hs).2).mono (by omega)) ((cl_sr he hb hx hlt).mono (by omega)) 3 7
        have o2 := ominO (o := mn ((pre.filter (nb b)).map (cu e b))) (y := cu e b x) (mn_all fun z hz => by
          obtain ⟨s, hs, rfl⟩ := List.mem_map.mp hz
          exact (cu_sr he hb (hS s (hm s hs).1) (hm s hs).2).mono (by omega)) ((cu_sr he hb hx hlt).mono (by omega)) 4 8
        have q1 := lowest_rd (x.2 - e) (x.1 - b) (by omega) ((way_ok hb hx).mono (by omega))
        have q2 := lowest_rd (x.2 + e) (x.1 - b) (by omega) ((way_ok hb hx).mono (by omega))
        refine .inl ⟨[some (.tuple (S.map enc)), some (.int e), some (.int b), some (od (mx (((pre ++ [x]).filter (nb b)).map (cl e b)))), some (od (mn (((pre ++ [x]).filter (nb b)).map (cu e b)))), some (.int x.1), some (.int x.2), some (rd (cl e b x)), some (rd (cu e b x))], .inl ?_, by rw [List.append_assoc]; exact hp, ?_, _, _, _, _, rfl⟩
        · rw [hf, List.map_append, List.map_append, List.map_singleton, List.map_singleton, mx_app, mn_app]
          generalize mx ((pre.filter (nb b)).map (cl e b)) = m1 at o1 ⊢
          generalize mn ((pre.filter (nb b)).map (cu e b)) = m2 at o2 ⊢
          unfold cl at *
          unfold cu at *
          simp -implicitDefEqProofs only [l1_could_begin, ↓ o1, ↓ o2, xVar_a, xC_a, xBin_a, xUn_a, tOf_a, tTru_a, tNotP_a, tAndP_a, tOrP_a, tyes_a, tno_a, tYesP_a, xNil_a, xCons_a, xTup_a, xLst_a, xAnd_a, xOr_a, xIf_a, xChain_a, oNo_a, oAt_a, xSl_a, xCall_a, xSeq_a, xIt_a, xLc_a, gSet_a, gTupD_a, gsNil_a, gsCons_a, sNop_a, sBrk_a, sCnt_a, sSeq_a, sRet_a, sIf_a, sSet_a, sTgt_a, sAug_a, sApp_a, sExt_a, sPut_a, sPutK_a, pkO_s, sFor_a, sWhile_a, sPar_a, runD_a, b2_s, c2_s, sqO_nx, sqO_rt, sqO_bk, sqO_ct, ifO_t, ifO_f, stO_s, endO_nx, endO_rt, andO_t, andO_f, orO_t, orO_f, chO_s, chP_t, chP_f, slO_s, atO_i, lcO_s, forO_s, gsO_s, nxO_s, tgO_s, paO_s, apO_s, exO_s, plO_s, ptO_s, dB_b, tru_b, tru_n, tru_i, tru_l, tru_t, is_n, isn_n, nn_n, nn_i, nn_b, nn_t, nn_l, add_ii, add'_ii, sub_ii, neg_i, lt_ii, le_ii, gt_ii, ge_ii, ix_l, ix_t, ix_s, at0, at1, at2, sl_l, sl_t, len_l, len_t, len_s, abs_i, int_i, int_b, max_ii, min_ii, tup_s, lst_s, seq_l, seq_t, sum_s, wipe_n, wipe_c, mul_ii, fdiv_ii, mod_ii, add_ll, add_tt, setAll, mkT, mkL, oNot, List.getD_cons_zero, List.getD_cons_succ, List.length_cons, List.length_nil, List.set_cons_zero, List.set_cons_succ, List.map_cons, List.map_nil, List.replicate, List.cons_append, List.nil_append, List.append_nil, Option.bind_some, Option.map_some, List.all_cons, List.all_nil, if_true, if_false, reduceIte, Nat.reduceAdd, Nat.reduceSub, Nat.reduceLT, Nat.reduceLeDiff, Nat.reduceEqDiff, decide_true, decide_false, Bool.and_true, Bool.and_self, Bool.true_and, Bool.not_true, Bool.not_false, ne_eq, not_true_eq_false, not_false_eq_true, Nat.zero_add, Bool.false_eq_true, and_self, true_and, and_true, eq_int, hxb, q1, q2]
        · intro s hs h
          rcases List.mem_append.mp hs with hs | hs
          · exact hpre s hs h
          · simp at hs
            subst hs
            exact absurd h hxb) S [] [some (.tuple (S.map enc)), some (.int e), some (.int b), some .none, some .none, none, none, none, none] ⟨rfl, by simp, none, none, none, none, rfl⟩
  rcases key with ⟨ρ', e1, _, hall, a, c, d, f, e'⟩ | ⟨d, e1, rfl, s, hs, h1, h2⟩
  · subst e'
    rw [List.nil_append] at e1 hall
    obtain ⟨lo, l1, l2, l3⟩ := mx_spec (l := (S.filter (nb b)).map (cl e b)) (by simpa using hn)
    obtain ⟨hg, g1, g2, g3⟩ := mn_spec (l := (S.filter (nb b)).map (cu e b)) (by simpa using hn)
    rw [l1, g1] at e1
    obtain ⟨s1, hs1, hl⟩ := List.mem_map.mp l2
    obtain ⟨s2, hs2, hh⟩ := List.mem_map.mp g2
    have hs1' := nb_mem.mp hs1
    have hs2' := nb_mem.mp hs2
    have q := is_less_rd (x := hg) (y := lo) (by
      rw [← hh]
      exact (cu_sr he hb (hS s2 hs2'.1) (by have := hb2 s2 hs2'.1; have := hs2'.2; omega)).mono (by omega)) (by
      rw [← hl]
      exact (cl_sr he hb (hS s1 hs1'.1) (by have := hb2 s1 hs1'.1; have := hs1'.2; omega)).mono (by omega))
    refine ⟨!decide (hg < lo) && decide (0 ≤ hg.num), ?_, ?_⟩
    · by_cases hz : hg < lo
      · simp -implicitDefEqProofs only [d_could_begin, g_could_begin, xVar_a, xC_a, xBin_a, xUn_a, tOf_a, tTru_a, tNotP_a, tAndP_a, tOrP_a, tyes_a, tno_a, tYesP_a, xNil_a, xCons_a, xTup_a, xLst_a, xAnd_a, xOr_a, xIf_a, xChain_a, oNo_a, oAt_a, xSl_a, xCall_a, xSeq_a, xIt_a, xLc_a, gSet_a, gTupD_a, gsNil_a, gsCons_a, sNop_a, sBrk_a, sCnt_a, sSeq_a, sRet_a, sIf_a, sSet_a, sTgt_a, sAug_a, sApp_a, sExt_a, sPut_a, sPutK_a, pkO_s, sFor_a, sWhile_a, sPar_a, runD_a, b2_s, c2_s, sqO_nx, sqO_rt, sqO_bk, sqO_ct, ifO_t, ifO_f, stO_s, endO_nx, endO_rt, andO_t, andO_f, orO_t, orO_f, chO_s, chP_t, chP_f, slO_s, atO_i, lcO_s, forO_s, gsO_s, nxO_s, tgO_s, paO_s, apO_s, exO_s, plO_s, ptO_s, dB_b, tru_b, tru_n, tru_i, tru_l, tru_t, is_n, isn_n, nn_n, nn_i, nn_b, nn_t, nn_l, add_ii, add'_ii, sub_ii, neg_i, lt_ii, le_ii, gt_ii, ge_ii, ix_l, ix_t, ix_s, at0, at1, at2, sl_l, sl_t, len_l, len_t, len_s, abs_i, int_i, int_b, max_ii, min_ii, tup_s, lst_s, seq_l, seq_t, sum_s, wipe_n, wipe_c, mul_ii, fdiv_ii, mod_ii, add_ll, add_tt, setAll, mkT, mkL, oNot, List.getD_cons_zero, List.getD_cons_succ, List.length_cons, List.length_nil, List.set_cons_zero, List.set_cons_succ, List.map_cons, List.map_nil, List.replicate, List.cons_append, List.nil_append, List.append_nil, Option.bind_some, Option.map_some, List.all_cons, List.all_nil, if_true, if_false, reduceIte, Nat.reduceAdd, Nat.reduceSub, Nat.reduceLT, Nat.reduceLeDiff, Nat.reduceEqDiff, decide_true, decide_false, Bool.and_true, Bool.and_self, Bool.true_and, Bool.not_true, Bool.not_false, ne_eq, not_true_eq_false, not_false_eq_true, Nat.zero_add, Bool.false_eq_true, and_self, true_and, and_true, e1, od_s, nn_rd, q, hz, Bool.false_and]
      · simp -implicitDefEqProofs only [d_could_begin, g_could_begin, xVar_a, xC_a, xBin_a, xUn_a, tOf_a, tTru_a, tNotP_a, tAndP_a, tOrP_a, tyes_a, tno_a, tYesP_a, xNil_a, xCons_a, xTup_a, xLst_a, xAnd_a, xOr_a, xIf_a, xChain_a, oNo_a, oAt_a, xSl_a, xCall_a, xSeq_a, xIt_a, xLc_a, gSet_a, gTupD_a, gsNil_a, gsCons_a, sNop_a, sBrk_a, sCnt_a, sSeq_a, sRet_a, sIf_a, sSet_a, sTgt_a, sAug_a, sApp_a, sExt_a, sPut_a, sPutK_a, pkO_s, sFor_a, sWhile_a, sPar_a, runD_a, b2_s, c2_s, sqO_nx, sqO_rt, sqO_bk, sqO_ct, ifO_t, ifO_f, stO_s, endO_nx, endO_rt, andO_t, andO_f, orO_t, orO_f, chO_s, chP_t, chP_f, slO_s, atO_i, lcO_s, forO_s, gsO_s, nxO_s, tgO_s, paO_s, apO_s, exO_s, plO_s, ptO_s, dB_b, tru_b, tru_n, tru_i, tru_l, tru_t, is_n, isn_n, nn_n, nn_i, nn_b, nn_t, nn_l, add_ii, add'_ii, sub_ii, neg_i, lt_ii, le_ii, gt_ii, ge_ii, ix_l, ix_t, ix_s, at0, at1, at2, sl_l, sl_t, len_l, len_t, len_s, abs_i, int_i, int_b, max_ii, min_ii, tup_s, lst_s, seq_l, seq_t, sum_s, wipe_n, wipe_c, mul_ii, fdiv_ii, mod_ii, add_ll, add_tt, setAll, mkT, mkL, oNot, List.getD_cons_zero, List.getD_cons_succ, List.length_cons, List.length_nil, List.set_cons_zero, List.set_cons_succ, List.map_cons, List.map_nil, List.replicate, List.cons_append, List.nil_append, List.append_nil, Option.bind_some, Option.map_some, List.all_cons, List.all_nil, if_true, if_false, reduceIte, Nat.reduceAdd, Nat.reduceSub, Nat.reduceLT, Nat.reduceLeDiff, Nat.reduceEqDiff, decide_true, decide_false, Bool.and_true, Bool.and_self, Bool.true_and, Bool.not_true, Bool.not_false, ne_eq, not_true_eq_false, not_false_eq_true, Nat.zero_add, Bool.false_eq_true, and_self, true_and, and_true, e1, od_s, nn_rd, q, hz, rd_0]
    · rw [Bool.and_eq_true, Bool.not_eq_true', decide_eq_false_iff_not, decide_eq_true_eq, num_nonneg, Rat.not_lt]
      constructor
      · rintro ⟨k1, k2⟩
        refine ⟨hall, fun s hs t ht h1 h2 => ?_, fun t ht h2 => ?_⟩
        · have a1 := l3 _ (List.mem_map_of_mem (f := cl e b) (nb_mem.mpr ⟨hs, h1⟩))
          have a2 := g3 _ (List.mem_map_of_mem (f := cu e b) (nb_mem.mpr ⟨ht, h2⟩))
          grind
        · have a2 := g3 _ (List.mem_map_of_mem (f := cu e b) (nb_mem.mpr ⟨ht, h2⟩))
          grind
      · rintro ⟨_, k1, k2⟩
        rw [← hl, ← hh]
        exact ⟨k1 _ hs1'.1 _ hs2'.1 hs1'.2 hs2'.2, k2 _ hs2'.1 hs2'.2⟩
  · refine ⟨false, ?_, ?_⟩
    · simp -implicitDefEqProofs only [d_could_begin, g_could_begin, xVar_a, xC_a, xBin_a, xUn_a, tOf_a, tTru_a, tNotP_a, tAndP_a, tOrP_a, tyes_a, tno_a, tYesP_a, xNil_a, xCons_a, xTup_a, xLst_a, xAnd_a, xOr_a, xIf_a, xChain_a, oNo_a, oAt_a, xSl_a, xCall_a, xSeq_a, xIt_a, xLc_a, gSet_a, gTupD_a, gsNil_a, gsCons_a, sNop_a, sBrk_a, sCnt_a, sSeq_a, sRet_a, sIf_a, sSet_a, sTgt_a, sAug_a, sApp_a, sExt_a, sPut_a, sPutK_a, pkO_s, sFor_a, sWhile_a, sPar_a, runD_a, b2_s, c2_s, sqO_nx, sqO_rt, sqO_bk, sqO_ct, ifO_t, ifO_f, stO_s, endO_nx, endO_rt, andO_t, andO_f, orO_t, orO_f, chO_s, chP_t, chP_f, slO_s, atO_i, lcO_s, forO_s, gsO_s, nxO_s, tgO_s, paO_s, apO_s, exO_s, plO_s, ptO_s, dB_b, tru_b, tru_n, tru_i, tru_l, tru_t, is_n, isn_n, nn_n, nn_i, nn_b, nn_t, nn_l, add_ii, add'_ii, sub_ii, neg_i, lt_ii, le_ii, gt_ii, ge_ii, ix_l, ix_t, ix_s, at0, at1, at2, sl_l, sl_t, len_l, len_t, len_s, abs_i, int_i, int_b, max_ii, min_ii, tup_s, lst_s, seq_l, seq_t, sum_s, wipe_n, wipe_c, mul_ii, fdiv_ii, mod_ii, add_ll, add_tt, setAll, mkT, mkL, oNot, List.getD_cons_zero, List.getD_cons_succ, List.length_cons, List.length_nil, List.set_cons_zero, List.set_cons_succ, List.map_cons, List.map_nil, List.replicate, List.cons_append, List.nil_append, List.append_nil, Option.bind_some, Option.map_some, List.all_cons, List.all_nil, if_true, if_false, reduceIte, Nat.reduceAdd, Nat.reduceSub, Nat.reduceLT, Nat.reduceLeDiff, Nat.reduceEqDiff, decide_true, decide_false, Bool.and_true, Bool.and_self, Bool.true_and, Bool.not_true, Bool.not_false, ne_eq, not_true_eq_false, not_false_eq_true, Nat.zero_add, Bool.false_eq_true, and_self, true_and, and_true, e1]
    · constructor
      · intro h; cases h
      · intro h
        have := h.1 s hs h1
        omega
noncomputable def cbB (S : List Sd) (e b : Int) : Bool := @decide (CB S e b) (Classical.propDecidable _)
theorem cbB_iff (S : List Sd) (e b : Int) : cbB S e b = true ↔ CB S e b := @decide_eq_true_iff (CB S e b) (Classical.propDecidable _)
theorem nb_ne {S : List Sd} (hi : Inc S) (h2 : 2 ≤ S.length) {b : Int} (hb2 : ∀ s ∈ S, b ≤ s.1) : S.filter (nb b) ≠ [] := by
  match S, h2 with
  | s :: t :: S, _ =>
    have h1 := (List.pairwise_cons.mp hi).1 t (by simp)
    have h2 := hb2 s (by simp)
    intro h
    have : t ∈ (s :: t :: S).filter (nb b) := nb_mem.mpr ⟨by simp, by omega⟩
    rw [h] at this
    cases this
theorem oR3_down {h0 : Int} (h : 0 ≤ h0) (hs : Sm 10 h0) : oR3 [.int h0, .int (-1), .int (-1)] = some ((List.range (h0 + 1).toNat).map fun k : Nat => PyData.int (h0 - (k : Nat))) := by
  unfold Sm at hs
  show (if -(2 ^ 60) ≤ h0 ∧ h0 < 2 ^ 60 ∧ -(2 ^ 60) ≤ (-1 : Int) ∧ (-1 : Int) < 2 ^ 60 ∧ h0 - (-1) ≤ 16777216 then some (rangeD h0 (-1) (h0 - (-1)).toNat) else none) = _
  rw [if_pos (by omega)]
  unfold rangeD
  rw [show h0 - (-1) = h0 + 1 by omega]
  congr 1
  refine List.map_congr_left fun k _ => ?_
  congr 1
  omega
noncomputable def begun (S : List Sd) (e h0 : Int) : D := foundD (fun k : Nat => PyData.int (h0 - (k : Nat))) ((List.range (h0 + 1).toNat).find? fun k => cbB S e (h0 - (k : Nat)))
theorem from_hour_eq {s0 : Sd} {S' : List Sd} {e : Int} (hS : OkS (s0 :: S')) (hi : Inc (s0 :: S')) (h2 : 2 ≤ (s0 :: S').length) (he : Sm 10 e) (h0 : 0 ≤ s0.1) : d_from_hour [.tuple ((s0 :: S').map enc), .int e] = some (begun (s0 :: S') e s0.1) := by
  have hs0 := hS s0 (by simp)
  have hr := oR3_down h0 hs0.1
  have hle : ∀ s ∈ s0 :: S', s0.1 ≤ s.1 := fun s hs => by
    rcases List.mem_cons.mp hs with rfl | hs
    · omega
    · have := (List.pairwise_cons.mp hi).1 s hs
      omega
  have key := forL_find (g := gSet 2) (b := l1_from_hour) (fun k : Nat => PyData.int (s0.1 - (k : Nat))) (fun k => cbB (s0 :: S') e (s0.1 - (k : Nat))) (fun ρ => ∃ a, ρ = [some (.tuple ((s0 :: S').map enc)), some (.int e), a]) (fun k : Nat => PyData.int (s0.1 - (k : Nat))) (List.range (s0.1 + 1).toNat) (fun k hk ρ ⟨a, e'⟩ => by
    subst e'
    have hk' : k < (s0.1 + 1).toNat := by simpa using hk
    have hsm : Sm 10 (s0.1 - (k : Nat)) := hs0.1.le (by omega)
    obtain ⟨t, t1, t2⟩ := begin_eq (b := s0.1 - (k : Nat)) hS he hsm (fun s hs => by have := hle s hs; omega) (nb_ne hi h2 fun s hs => by have := hle s hs; omega)
    rw [← cbB_iff] at t2
    generalize (s0 :: S').map enc = M at t1 ⊢
    refine ⟨_, rfl, fun hp => ?_, fun hp => ?_⟩
    · have ht := t2.mpr hp
      subst ht
      simp -implicitDefEqProofs only [l1_from_hour, xVar_a, xC_a, xBin_a, xUn_a, tOf_a, tTru_a, tNotP_a, tAndP_a, tOrP_a, tyes_a, tno_a, tYesP_a, xNil_a, xCons_a, xTup_a, xLst_a, xAnd_a, xOr_a, xIf_a, xChain_a, oNo_a, oAt_a, xSl_a, xCall_a, xSeq_a, xIt_a, xLc_a, gSet_a, gTupD_a, gsNil_a, gsCons_a, sNop_a, sBrk_a, sCnt_a, sSeq_a, sRet_a, sIf_a, sSet_a, sTgt_a, sAug_a, sApp_a, sExt_a, sPut_a, sPutK_a, pkO_s, sFor_a, sWhile_a, sPar_a, runD_a, b2_s, c2_s, sqO_nx, sqO_rt, sqO_bk, sqO_ct, ifO_t, ifO_f, stO_s, endO_nx, endO_rt, andO_t, andO_f, orO_t, orO_f, chO_s, chP_t, chP_f, slO_s, atO_i, lcO_s, forO_s, gsO_s, nxO_s, tgO_s, paO_s, apO_s, exO_s, plO_s, ptO_s, dB_b, tru_b, tru_n, tru_i, tru_l, tru_t, is_n, isn_n, nn_n, nn_i, nn_b, nn_t, nn_l, add_ii, add'_ii, sub_ii, neg_i, lt_ii, le_ii, gt_ii, ge_ii, ix_l, ix_t, ix_s, at0, at1, at2, sl_l, sl_t, len_l, len_t, len_s, abs_i, int_i, int_b, max_ii, min_ii, tup_s, lst_s, seq_l, seq_t, sum_s, wipe_n, wipe_c, mul_ii, fdiv_ii, mod_ii, add_ll, add_tt, setAll, mkT, mkL, oNot, List.getD_cons_zero, List.getD_cons_succ, List.length_cons, List.length_nil, List.set_cons_zero, List.set_cons_succ, List.map_cons, List.map_nil, List.replicate, List.cons_append, List.nil_append, List.append_nil, Option.bind_some, Option.map_some, List.all_cons, List.all_nil, if_true, if_false, reduceIte, Nat.reduceAdd, Nat.reduceSub, Nat.reduceLT, Nat.reduceLeDiff, Nat.reduceEqDiff, decide_true, decide_false, Bool.and_true, Bool.and_self, Bool.true_and, Bool.not_true, Bool.not_false, ne_eq, not_true_eq_false, not_false_eq_true, Nat.zero_add, Bool.false_eq_true, and_self, true_and, and_true, t1]
    · have ht : t = false := by
        cases t with
        | false => rfl
        | true => rw [t2.mp rfl] at hp; cases hp
      subst ht
      exact ⟨[some (.tuple M), some (.int e), some (.int (s0.1 - (k : Nat)))], by simp -implicitDefEqProofs only [l1_from_hour, xVar_a, xC_a, xBin_a, xUn_a, tOf_a, tTru_a, tNotP_a, tAndP_a, tOrP_a, tyes_a, tno_a, tYesP_a, xNil_a, xCons_a, xTup_a, xLst_a, xAnd_a, xOr_a, xIf_a, xChain_a, oNo_a, oAt_a, xSl_a, xCall_a, xSeq_a, xIt_a, xLc_a, gSet_a, gTupD_a, gsNil_a, gsCons_a, sNop_a, sBrk_a, sCnt_a, sSeq_a, sRet_a, sIf_a, sSet_a, sTgt_a, sAug_a, sApp_a, sExt_a, sPut_a, sPutK_a, pkO_s, sFor_a, sWhile_a, sPar_a, runD_a, b2_s, c2_s, sqO_nx, sqO_rt, sqO_bk, sqO_ct, ifO_t, ifO_f, stO_s, endO_nx, endO_rt, andO_t, andO_f, orO_t, orO_f, chO_s, chP_t, chP_f, slO_s, atO_i, lcO_s, forO_s, gsO_s, nxO_s, tgO_s, paO_s, apO_s, exO_s, plO_s, ptO_s, dB_b, tru_b, tru_n, tru_i, tru_l, tru_t, is_n, isn_n, nn_n, nn_i, nn_b, nn_t, nn_l, add_ii, add'_ii, sub_ii, neg_i, lt_ii, le_ii, gt_ii, ge_ii, ix_l, ix_t, ix_s, at0, at1, at2, sl_l, sl_t, len_l, len_t, len_s, abs_i, int_i, int_b, max_ii, min_ii, tup_s, lst_s, seq_l, seq_t, sum_s, wipe_n, wipe_c, mul_ii, fdiv_ii, mod_ii, add_ll, add_tt, setAll, mkT, mkL, oNot, List.getD_cons_zero, List.getD_cons_succ, List.length_cons, List.length_nil, List.set_cons_zero, List.set_cons_succ, List.map_cons, List.map_nil, List.replicate, List.cons_append, List.nil_append, List.append_nil, Option.bind_some, Option.map_some, List.all_cons, List.all_nil, if_true, if_false, reduceIte, Nat.reduceAdd, Nat.reduceSub, Nat.reduceLT, Nat.reduceLeDiff, Nat.reduceEqDiff, decide_true, decide_false, Bool.and_true, Bool.and_self, Bool.true_and, Bool.not_true, Bool.not_false, ne_eq, not_true_eq_false, not_false_eq_true, Nat.zero_add, Bool.false_eq_true, and_self, true_and, and_true, t1], _, rfl⟩) [some (.tuple ((s0 :: S').map enc)), some (.int e), none] ⟨none, rfl⟩
  have hi0 : oIx (.tuple ((s0 :: S').map enc)) (.int 0) = some (.tuple [.int s0.1, .int s0.2]) := by
    rw [ix_t, List.map_cons, at0]
    rfl
  unfold begun
  rcases key with ⟨k, f1, f2⟩ | ⟨f1, ρ', f2, a, e'⟩
  · rw [f1]
    generalize (s0 :: S').map enc = M at *
    simp -implicitDefEqProofs only [d_from_hour, g_from_hour, xBin_a, xVar_a, xC_a, hi0, List.getD_cons_zero, b2_s, xVar_a, xC_a, xBin_a, xUn_a, tOf_a, tTru_a, tNotP_a, tAndP_a, tOrP_a, tyes_a, tno_a, tYesP_a, xNil_a, xCons_a, xTup_a, xLst_a, xAnd_a, xOr_a, xIf_a, xChain_a, oNo_a, oAt_a, xSl_a, xCall_a, xSeq_a, xIt_a, xLc_a, gSet_a, gTupD_a, gsNil_a, gsCons_a, sNop_a, sBrk_a, sCnt_a, sSeq_a, sRet_a, sIf_a, sSet_a, sTgt_a, sAug_a, sApp_a, sExt_a, sPut_a, sPutK_a, pkO_s, sFor_a, sWhile_a, sPar_a, runD_a, b2_s, c2_s, sqO_nx, sqO_rt, sqO_bk, sqO_ct, ifO_t, ifO_f, stO_s, endO_nx, endO_rt, andO_t, andO_f, orO_t, orO_f, chO_s, chP_t, chP_f, slO_s, atO_i, lcO_s, forO_s, gsO_s, nxO_s, tgO_s, paO_s, apO_s, exO_s, plO_s, ptO_s, dB_b, tru_b, tru_n, tru_i, tru_l, tru_t, is_n, isn_n, nn_n, nn_i, nn_b, nn_t, nn_l, add_ii, add'_ii, sub_ii, neg_i, lt_ii, le_ii, gt_ii, ge_ii, ix_l, ix_t, ix_s, at0, at1, at2, sl_l, sl_t, len_l, len_t, len_s, abs_i, int_i, int_b, max_ii, min_ii, tup_s, lst_s, seq_l, seq_t, sum_s, wipe_n, wipe_c, mul_ii, fdiv_ii, mod_ii, add_ll, add_tt, setAll, mkT, mkL, oNot, List.getD_cons_zero, List.getD_cons_succ, List.length_cons, List.length_nil, List.set_cons_zero, List.set_cons_succ, List.map_cons, List.map_nil, List.replicate, List.cons_append, List.nil_append, List.append_nil, Option.bind_some, Option.map_some, List.all_cons, List.all_nil, if_true, if_false, reduceIte, Nat.reduceAdd, Nat.reduceSub, Nat.reduceLT, Nat.reduceLeDiff, Nat.reduceEqDiff, decide_true, decide_false, Bool.and_true, Bool.and_self, Bool.true_and, Bool.not_true, Bool.not_false, ne_eq, not_true_eq_false, not_false_eq_true, Nat.zero_add, Bool.false_eq_true, and_self, true_and, and_true, hr, f2, foundD]
  · rw [f1]
    subst e'
    generalize (s0 :: S').map enc = M at *
    simp -implicitDefEqProofs only [d_from_hour, g_from_hour, xBin_a, xVar_a, xC_a, hi0, List.getD_cons_zero, b2_s, xVar_a, xC_a, xBin_a, xUn_a, tOf_a, tTru_a, tNotP_a, tAndP_a, tOrP_a, tyes_a, tno_a, tYesP_a, xNil_a, xCons_a, xTup_a, xLst_a, xAnd_a, xOr_a, xIf_a, xChain_a, oNo_a, oAt_a, xSl_a, xCall_a, xSeq_a, xIt_a, xLc_a, gSet_a, gTupD_a, gsNil_a, gsCons_a, sNop_a, sBrk_a, sCnt_a, sSeq_a, sRet_a, sIf_a, sSet_a, sTgt_a, sAug_a, sApp_a, sExt_a, sPut_a, sPutK_a, pkO_s, sFor_a, sWhile_a, sPar_a, runD_a, b2_s, c2_s, sqO_nx, sqO_rt, sqO_bk, sqO_ct, ifO_t, ifO_f, stO_s, endO_nx, endO_rt, andO_t, andO_f, orO_t, orO_f, chO_s, chP_t, chP_f, slO_s, atO_i, lcO_s, forO_s, gsO_s, nxO_s, tgO_s, paO_s, apO_s, exO_s, plO_s, ptO_s, dB_b, tru_b, tru_n, tru_i, tru_l, tru_t, is_n, isn_n, nn_n, nn_i, nn_b, nn_t, nn_l, add_ii, add'_ii, sub_ii, neg_i, lt_ii, le_ii, gt_ii, ge_ii, ix_l, ix_t, ix_s, at0, at1, at2, sl_l, sl_t, len_l, len_t, len_s, abs_i, int_i, int_b, max_ii, min_ii, tup_s, lst_s, seq_l, seq_t, sum_s, wipe_n, wipe_c, mul_ii, fdiv_ii, mod_ii, add_ll, add_tt, setAll, mkT, mkL, oNot, List.getD_cons_zero, List.getD_cons_succ, List.length_cons, List.length_nil, List.set_cons_zero, List.set_cons_succ, List.map_cons, List.map_nil, List.replicate, List.cons_append, List.nil_append, List.append_nil, Option.bind_some, Option.map_some, List.all_cons, List.all_nil, if_true, if_false, reduceIte, Nat.reduceAdd, Nat.reduceSub, Nat.reduceLT, Nat.reduceLeDiff, Nat.reduceEqDiff, decide_true, decide_false, Bool.and_true, Bool.and_self, Bool.true_and, Bool.not_true, Bool.not_false, ne_eq, not_true_eq_false, not_false_eq_true, Nat.zero_add, Bool.false_eq_true, and_self, true_and, and_true, hr, f2, foundD]
end K28

namespace K28
open PySem PySem.Spec PyProof.Rows L2 Pm
def tp (a : Int × Int) : D := .tuple [.int a.1, .int a.2]
def pv (a : Int × Int) : Rat := (a.1 : Rat) / (a.2 : Rat)
def pd : Option (Int × Int) → D
  | none => .none
  | some a => tp a
/-- fit for the law's fractions -/
def Okf (a : Int × Int) : Prop := 0 < a.2 ∧ Sm 100 a.1 ∧ Sm 100 a.2
theorem Okf.sr {a : Int × Int} (h : Okf a) : SR 100 (pv a) := SR.div h.2.1 h.2.2 h.1
theorem less_tp {a b : Int × Int} (ha : Okf a) (hb : Okf b) : d__law_less [tp a, tp b] = some (.bool (decide (pv a < pv b))) := by
  have m1 := ha.2.1.mulOk hb.2.2 (by omega) (by omega)
  have m2 := hb.2.1.mulOk ha.2.2 (by omega) (by omega)
  have e : decide (pv a < pv b) = decide (a.1 * b.2 < b.1 * a.2) := decide_eq_decide.mpr (qlt ha.1 hb.1)
  rw [e]
  unfold tp
  simp -implicitDefEqProofs only [d__law_less, g__law_less, xVar_a, xC_a, xBin_a, xUn_a, tOf_a, tTru_a, tNotP_a, tAndP_a, tOrP_a, tyes_a, tno_a, tYesP_a, xNil_a, xCons_a, xTup_a, xLst_a, xAnd_a, xOr_a, xIf_a, xChain_a, oNo_a, oAt_a, xSl_a, xCall_a, xSeq_a, xIt_a, xLc_a, gSet_a, gTupD_a, gsNil_a, gsCons_a, sNop_a, sBrk_a, sCnt_a, sSeq_a, sRet_a, sIf_a, sSet_a, sTgt_a, sAug_a, sApp_a, sExt_a, sPut_a, sPutK_a, pkO_s, sFor_a, sWhile_a, sPar_a, runD_a, b2_s, c2_s, sqO_nx, sqO_rt, sqO_bk, sqO_ct, ifO_t, ifO_f, stO_s, endO_nx, endO_rt, andO_t, andO_f, orO_t, orO_f, chO_s, chP_t, chP_f, slO_s, atO_i, lcO_s, forO_s, gsO_s, nxO_s, tgO_s, paO_s, apO_s, exO_s, plO_s, ptO_s, dB_b, tru_b, tru_n, tru_i, tru_l, tru_t, is_n, isn_n, nn_n, nn_i, nn_b, nn_t, nn_l, add_ii, add'_ii, sub_ii, neg_i, lt_ii, le_ii, gt_ii, ge_ii, ix_l, ix_t, ix_s, at0, at1, at2, sl_l, sl_t, len_l, len_t, len_s, abs_i, int_i, int_b, max_ii, min_ii, tup_s, lst_s, seq_l, seq_t, sum_s, wipe_n, wipe_c, mul_ii, fdiv_ii, mod_ii, add_ll, add_tt, setAll, mkT, mkL, oNot, List.getD_cons_zero, List.getD_cons_succ, List.length_cons, List.length_nil, List.set_cons_zero, List.set_cons_succ, List.map_cons, List.map_nil, List.replicate, List.cons_append, List.nil_append, List.append_nil, Option.bind_some, Option.map_some, List.all_cons, List.all_nil, if_true, if_false, reduceIte, Nat.reduceAdd, Nat.reduceSub, Nat.reduceLT, Nat.reduceLeDiff, Nat.reduceEqDiff, decide_true, decide_false, Bool.and_true, Bool.and_self, Bool.true_and, Bool.not_true, Bool.not_false, ne_eq, not_true_eq_false, not_false_eq_true, Nat.zero_add, Bool.false_eq_true, and_self, true_and, and_true, m1, m2]
theorem nn_tp (a : Int × Int) : isNone (tp a) = false := rfl
theorem pd_s (a : Int × Int) : pd (some a) = tp a := rfl
theorem pd_n : pd none = .none := rfl
def omaxp : Option (Int × Int) → Int × Int → Option (Int × Int)
  | none, y => some y
  | some x, y => some (if pv x < pv y then y else x)
def ominp : Option (Int × Int) → Int × Int → Option (Int × Int)
  | none, y => some y
  | some x, y => some (if pv y < pv x then y else x)
theorem set_same (ρ : PEnv) (i : Nat) (d : D) (h : ρ.getD i none = some d) : ρ.set i (some d) = ρ := by
  apply List.ext_getElem?
  intro j
  rw [List.getElem?_set]
  split
  · next h1 =>
    subst h1
    rw [List.getD_eq_getElem?_getD] at h
    cases hq : ρ[i]? with
    | none => rw [hq] at h; cases h
    | some z =>
      rw [hq] at h
      simp at h
      have := (List.getElem?_eq_some_iff.mp hq).1
      simp [this, h]
  · rfl
theorem omaxpS {o : Option (Int × Int)} {a : Int × Int} (ho : ∀ x, o = some x → Okf x) (ha : Okf a) (i : Nat) (fa : Xp) (ρ : PEnv) (h1 : ρ.getD i none = some (pd o)) (h2 : fa ρ = some (tp a)) (hi : i < ρ.length) : sIf (tOrP (tOf (xBin oIs (xVar i) (xC .none))) (tTru (xCall (fun ds => if ds.length = 2 then (d__law_less) ds else none) (xCons (xVar i) (xCons fa xNil))))) (sSeq (sSet i fa) sNop) sNop ρ = some (.nx (ρ.set i (some (pd (omaxp o a))))) := by
  cases o with
  | none => simp -implicitDefEqProofs only [xVar_a, xC_a, xBin_a, xUn_a, tOf_a, tTru_a, tNotP_a, tAndP_a, tOrP_a, tyes_a, tno_a, tYesP_a, xNil_a, xCons_a, xTup_a, xLst_a, xAnd_a, xOr_a, xIf_a, xChain_a, oNo_a, oAt_a, xSl_a, xCall_a, xSeq_a, xIt_a, xLc_a, gSet_a, gTupD_a, gsNil_a, gsCons_a, sNop_a, sBrk_a, sCnt_a, sSeq_a, sRet_a, sIf_a, sSet_a, sTgt_a, sAug_a, sApp_a, sExt_a, sPut_a, sPutK_a, pkO_s, sFor_a, sWhile_a, sPar_a, runD_a, b2_s, c2_s, sqO_nx, sqO_rt, sqO_bk, sqO_ct, ifO_t, ifO_f, stO_s, endO_nx, endO_rt, andO_t, andO_f, orO_t, orO_f, chO_s, chP_t, chP_f, slO_s, atO_i, lcO_s, forO_s, gsO_s, nxO_s, tgO_s, paO_s, apO_s, exO_s, plO_s, ptO_s, dB_b, tru_b, tru_n, tru_i, tru_l, tru_t, is_n, isn_n, nn_n, nn_i, nn_b, nn_t, nn_l, add_ii, add'_ii, sub_ii, neg_i, lt_ii, le_ii, gt_ii, ge_ii, ix_l, ix_t, ix_s, at0, at1, at2, sl_l, sl_t, len_l, len_t, len_s, abs_i, int_i, int_b, max_ii, min_ii, tup_s, lst_s, seq_l, seq_t, sum_s, wipe_n, wipe_c, mul_ii, fdiv_ii, mod_ii, add_ll, add_tt, setAll, mkT, mkL, oNot, List.getD_cons_zero, List.getD_cons_succ, List.length_cons, List.length_nil, List.set_cons_zero, List.set_cons_succ, List.map_cons, List.map_nil, List.replicate, List.cons_append, List.nil_append, List.append_nil, Option.bind_some, Option.map_some, List.all_cons, List.all_nil, if_true, if_false, reduceIte, Nat.reduceAdd, Nat.reduceSub, Nat.reduceLT, Nat.reduceLeDiff, Nat.reduceEqDiff, decide_true, decide_false, Bool.and_true, Bool.and_self, Bool.true_and, Bool.not_true, Bool.not_false, ne_eq, not_true_eq_false, not_false_eq_true, Nat.zero_add, Bool.false_eq_true, and_self, true_and, and_true, h1, h2, hi, pd_n, pd_s, omaxp]
  | some x =>
    have hx := ho x rfl
    by_cases h : pv x < pv a
    · simp -implicitDefEqProofs only [xVar_a, xC_a, xBin_a, xUn_a, tOf_a, tTru_a, tNotP_a, tAndP_a, tOrP_a, tyes_a, tno_a, tYesP_a, xNil_a, xCons_a, xTup_a, xLst_a, xAnd_a, xOr_a, xIf_a, xChain_a, oNo_a, oAt_a, xSl_a, xCall_a, xSeq_a, xIt_a, xLc_a, gSet_a, gTupD_a, gsNil_a, gsCons_a, sNop_a, sBrk_a, sCnt_a, sSeq_a, sRet_a, sIf_a, sSet_a, sTgt_a, sAug_a, sApp_a, sExt_a, sPut_a, sPutK_a, pkO_s, sFor_a, sWhile_a, sPar_a, runD_a, b2_s, c2_s, sqO_nx, sqO_rt, sqO_bk, sqO_ct, ifO_t, ifO_f, stO_s, endO_nx, endO_rt, andO_t, andO_f, orO_t, orO_f, chO_s, chP_t, chP_f, slO_s, atO_i, lcO_s, forO_s, gsO_s, nxO_s, tgO_s, paO_s, apO_s, exO_s, plO_s, ptO_s, dB_b, tru_b, tru_n, tru_i, tru_l, tru_t, is_n, isn_n, nn_n, nn_i, nn_b, nn_t, nn_l, add_ii, add'_ii, sub_ii, neg_i, lt_ii, le_ii, gt_ii, ge_ii, ix_l, ix_t, ix_s, at0, at1, at2, sl_l, sl_t, len_l, len_t, len_s, abs_i, int_i, int_b, max_ii, min_ii, tup_s, lst_s, seq_l, seq_t, sum_s, wipe_n, wipe_c, mul_ii, fdiv_ii, mod_ii, add_ll, add_tt, setAll, mkT, mkL, oNot, List.getD_cons_zero, List.getD_cons_succ, List.length_cons, List.length_nil, List.set_cons_zero, List.set_cons_succ, List.map_cons, List.map_nil, List.replicate, List.cons_append, List.nil_append, List.append_nil, Option.bind_some, Option.map_some, List.all_cons, List.all_nil, if_true, if_false, reduceIte, Nat.reduceAdd, Nat.reduceSub, Nat.reduceLT, Nat.reduceLeDiff, Nat.reduceEqDiff, decide_true, decide_false, Bool.and_true, Bool.and_self, Bool.true_and, Bool.not_true, Bool.not_false, ne_eq, not_true_eq_false, not_false_eq_true, Nat.zero_add, Bool.false_eq_true, and_self, true_and, and_true, h1, h2, hi, pd_s, omaxp, nn_tp, less_tp hx ha, h]
    · rw [pd_s] at h1
      simp -implicitDefEqProofs only [xVar_a, xC_a, xBin_a, xUn_a, tOf_a, tTru_a, tNotP_a, tAndP_a, tOrP_a, tyes_a, tno_a, tYesP_a, xNil_a, xCons_a, xTup_a, xLst_a, xAnd_a, xOr_a, xIf_a, xChain_a, oNo_a, oAt_a, xSl_a, xCall_a, xSeq_a, xIt_a, xLc_a, gSet_a, gTupD_a, gsNil_a, gsCons_a, sNop_a, sBrk_a, sCnt_a, sSeq_a, sRet_a, sIf_a, sSet_a, sTgt_a, sAug_a, sApp_a, sExt_a, sPut_a, sPutK_a, pkO_s, sFor_a, sWhile_a, sPar_a, runD_a, b2_s, c2_s, sqO_nx, sqO_rt, sqO_bk, sqO_ct, ifO_t, ifO_f, stO_s, endO_nx, endO_rt, andO_t, andO_f, orO_t, orO_f, chO_s, chP_t, chP_f, slO_s, atO_i, lcO_s, forO_s, gsO_s, nxO_s, tgO_s, paO_s, apO_s, exO_s, plO_s, ptO_s, dB_b, tru_b, tru_n, tru_i, tru_l, tru_t, is_n, isn_n, nn_n, nn_i, nn_b, nn_t, nn_l, add_ii, add'_ii, sub_ii, neg_i, lt_ii, le_ii, gt_ii, ge_ii, ix_l, ix_t, ix_s, at0, at1, at2, sl_l, sl_t, len_l, len_t, len_s, abs_i, int_i, int_b, max_ii, min_ii, tup_s, lst_s, seq_l, seq_t, sum_s, wipe_n, wipe_c, mul_ii, fdiv_ii, mod_ii, add_ll, add_tt, setAll, mkT, mkL, oNot, List.getD_cons_zero, List.getD_cons_succ, List.length_cons, List.length_nil, List.set_cons_zero, List.set_cons_succ, List.map_cons, List.map_nil, List.replicate, List.cons_append, List.nil_append, List.append_nil, Option.bind_some, Option.map_some, List.all_cons, List.all_nil, if_true, if_false, reduceIte, Nat.reduceAdd, Nat.reduceSub, Nat.reduceLT, Nat.reduceLeDiff, Nat.reduceEqDiff, decide_true, decide_false, Bool.and_true, Bool.and_self, Bool.true_and, Bool.not_true, Bool.not_false, ne_eq, not_true_eq_false, not_false_eq_true, Nat.zero_add, Bool.false_eq_true, and_self, true_and, and_true, h1, h2, hi, pd_s, omaxp, nn_tp, less_tp hx ha, h, set_same ρ i _ h1]
theorem ominpS {o : Option (Int × Int)} {a : Int × Int} (ho : ∀ x, o = some x → Okf x) (ha : Okf a) (i : Nat) (fa : Xp) (ρ : PEnv) (h1 : ρ.getD i none = some (pd o)) (h2 : fa ρ = some (tp a)) (hi : i < ρ.length) : sIf (tOrP (tOf (xBin oIs (xVar i) (xC .none))) (tTru (xCall (fun ds => if ds.length = 2 then (d__law_less) ds else none) (xCons fa (xCons (xVar i) xNil))))) (sSeq (sSet i fa) sNop) sNop ρ = some (.nx (ρ.set i (some (pd (ominp o a))))) := by
  cases o with
  | none => simp -implicitDefEqProofs only [xVar_a, xC_a, xBin_a, xUn_a, tOf_a, tTru_a, tNotP_a, tAndP_a, tOrP_a, tyes_a, tno_a, tYesP_a, xNil_a, xCons_a, xTup_a, xLst_a, xAnd_a, xOr_a, xIf_a, xChain_a, oNo_a, oAt_a, xSl_a, xCall_a, xSeq_a, xIt_a, xLc_a, gSet_a, gTupD_a, gsNil_a, gsCons_a, sNop_a, sBrk_a, sCnt_a, sSeq_a, sRet_a, sIf_a, sSet_a, sTgt_a, sAug_a, sApp_a, sExt_a, sPut_a, sPutK_a, pkO_s, sFor_a, sWhile_a, sPar_a, runD_a, b2_s, c2_s, sqO_nx, sqO_rt, sqO_bk, sqO_ct, ifO_t, ifO_f, stO_s, endO_nx, endO_rt, andO_t, andO_f, orO_t, orO_f, chO_s, chP_t, chP_f, slO_s, atO_i, lcO_s, forO_s, gsO_s, nxO_s, tgO_s, paO_s, apO_s, exO_s, plO_s, ptO_s, dB_b, tru_b, tru_n, tru_i, tru_l, tru_t, is_n, isn_n, nn_n, nn_i, nn_b, nn_t, nn_l, add_ii, add'_ii, sub_ii, neg_i, lt_ii, le_ii, gt_ii, ge_ii, ix_l, ix_t, ix_s, at0, at1, at2, sl_l, sl_t, len_l, len_t, len_s, abs_i, int_i, int_b, max_ii, min_ii, tup_s, lst_s, seq_l, seq_t, sum_s, wipe_n, wipe_c, mul_ii, fdiv_ii, mod_ii, add_ll, add_tt, setAll, mkT, mkL, oNot, List.getD_cons_zero, List.getD_cons_succ, List.length_cons, List.length_nil, List.set_cons_zero, List.set_cons_succ, List.map_cons, List.map_nil, List.replicate, List.cons_append, List.nil_append, List.append_nil, Option.bind_some, Option.map_some, List.all_cons, List.all_nil, if_true, if_false, reduceIte, Nat.reduceAdd, Nat.reduceSub, Nat.reduceLT, Nat.reduceLeDiff, Nat.reduceEqDiff, decide_true, decide_false, Bool.and_true, Bool.and_self, Bool.true_and, Bool.not_true, Bool.not_false, ne_eq, not_true_eq_false, not_false_eq_true, Nat.zero_add, Bool.false_eq_true, and_self, true_and, and_true, h1, h2, hi, pd_n, pd_s, ominp]
  | some x =>
    have hx := ho x rfl
    by_cases h : pv a < pv x
    · simp -implicitDefEqProofs only [xVar_a, xC_a, xBin_a, xUn_a, tOf_a, tTru_a, tNotP_a, tAndP_a, tOrP_a, tyes_a, tno_a, tYesP_a, xNil_a, xCons_a, xTup_a, xLst_a, xAnd_a, xOr_a, xIf_a, xChain_a, oNo_a, oAt_a, xSl_a, xCall_a, xSeq_a, xIt_a, xLc_a, gSet_a, gTupD_a, gsNil_a, gsCons_a, sNop_a, sBrk_a, sCnt_a, sSeq_a, sRet_a, sIf_a, sSet_a, sTgt_a, sAug_a, sApp_a, sExt_a, sPut_a, sPutK_a, pkO_s, sFor_a, sWhile_a, sPar_a, runD_a, b2_s, c2_s, sqO_nx, sqO_rt, sqO_bk, sqO_ct, ifO_t, ifO_f, stO_s, endO_nx, endO_rt, andO_t, andO_f, orO_t, orO_f, chO_s, chP_t, chP_f, slO_s, atO_i, lcO_s, forO_s, gsO_s, nxO_s, tgO_s, paO_s, apO_s, exO_s, plO_s, ptO_s, dB_b, tru_b, tru_n, tru_i, tru_l, tru_t, is_n, isn_n, nn_n, nn_i, nn_b, nn_t, nn_l, add_ii, add'_ii, sub_ii, neg_i, lt_ii, le_ii, gt_ii, ge_ii, ix_l, ix_t, ix_s, at0, at1, at2, sl_l, sl_t, len_l, len_t, len_s, abs_i, int_i, int_b, max_ii, min_ii, tup_s, lst_s, seq_l, seq_t, sum_s, wipe_n, wipe_c, mul_ii, fdiv_ii, mod_ii, add_ll, add_tt, setAll, mkT, mkL, oNot, List.getD_cons_zero, List.getD_cons_succ, List.length_cons, List.length_nil, List.set_cons_zero, List.set_cons_succ, List.map_cons, List.map_nil, List.replicate, List.cons_append, List.nil_append, List.append_nil, Option.bind_some, Option.map_some, List.all_cons, List.all_nil, if_true, if_false, reduceIte, Nat.reduceAdd, Nat.reduceSub, Nat.reduceLT, Nat.reduceLeDiff, Nat.reduceEqDiff, decide_true, decide_false, Bool.and_true, Bool.and_self, Bool.true_and, Bool.not_true, Bool.not_false, ne_eq, not_true_eq_false, not_false_eq_true, Nat.zero_add, Bool.false_eq_true, and_self, true_and, and_true, h1, h2, hi, pd_s, ominp, nn_tp, less_tp ha hx, h]
    · rw [pd_s] at h1
      simp -implicitDefEqProofs only [xVar_a, xC_a, xBin_a, xUn_a, tOf_a, tTru_a, tNotP_a, tAndP_a, tOrP_a, tyes_a, tno_a, tYesP_a, xNil_a, xCons_a, xTup_a, xLst_a, xAnd_a, xOr_a, xIf_a, xChain_a, oNo_a, oAt_a, xSl_a, xCall_a, xSeq_a, xIt_a, xLc_a, gSet_a, gTupD_a, gsNil_a, gsCons_a, sNop_a, sBrk_a, sCnt_a, sSeq_a, sRet_a, sIf_a, sSet_a, sTgt_a, sAug_a, sApp_a, sExt_a, sPut_a, sPutK_a, pkO_s, sFor_a, sWhile_a, sPar_a, runD_a, b2_s, c2_s, sqO_nx, sqO_rt, sqO_bk, sqO_ct, ifO_t, ifO_f, stO_s, endO_nx, endO_rt, andO_t, andO_f, orO_t, orO_f, chO_s, chP_t, chP_f, slO_s, atO_i, lcO_s, forO_s, gsO_s, nxO_s, tgO_s, paO_s, apO_s, exO_s, plO_s, ptO_s, dB_b, tru_b, tru_n, tru_i, tru_l, tru_t, is_n, isn_n, nn_n, nn_i, nn_b, nn_t, nn_l, add_ii, add'_ii, sub_ii, neg_i, lt_ii, le_ii, gt_ii, ge_ii, ix_l, ix_t, ix_s, at0, at1, at2, sl_l, sl_t, len_l, len_t, len_s, abs_i, int_i, int_b, max_ii, min_ii, tup_s, lst_s, seq_l, seq_t, sum_s, wipe_n, wipe_c, mul_ii, fdiv_ii, mod_ii, add_ll, add_tt, setAll, mkT, mkL, oNot, List.getD_cons_zero, List.getD_cons_succ, List.length_cons, List.length_nil, List.set_cons_zero, List.set_cons_succ, List.map_cons, List.map_nil, List.replicate, List.cons_append, List.nil_append, List.append_nil, Option.bind_some, Option.map_some, List.all_cons, List.all_nil, if_true, if_false, reduceIte, Nat.reduceAdd, Nat.reduceSub, Nat.reduceLT, Nat.reduceLeDiff, Nat.reduceEqDiff, decide_true, decide_false, Bool.and_true, Bool.and_self, Bool.true_and, Bool.not_true, Bool.not_false, ne_eq, not_true_eq_false, not_false_eq_true, Nat.zero_add, Bool.false_eq_true, and_self, true_and, and_true, h1, h2, hi, pd_s, ominp, nn_tp, less_tp ha hx, h, set_same ρ i _ h1]
def mxp (l : List (Int × Int)) : Option (Int × Int) := l.foldl omaxp none
def mnp (l : List (Int × Int)) : Option (Int × Int) := l.foldl ominp none
theorem mxp_app (l : List (Int × Int)) (x : Int × Int) : mxp (l ++ [x]) = omaxp (mxp l) x := by simp [mxp]
theorem mnp_app (l : List (Int × Int)) (x : Int × Int) : mnp (l ++ [x]) = ominp (mnp l) x := by simp [mnp]
theorem mxp_mx (l : List (Int × Int)) : (mxp l).map pv = mx (l.map pv) := by
  have : ∀ (l : List (Int × Int)) o, (l.foldl omaxp o).map pv = (l.map pv).foldl omax (o.map pv) := by
    intro l
    induction l with
    | nil => intro o; rfl
    | cons a l ih =>
      intro o
      rw [List.foldl_cons, ih, List.map_cons, List.foldl_cons]
      congr 1
      cases o with
      | none => rfl
      | some x =>
        show some (pv (if pv x < pv a then a else x)) = some (if pv x < pv a then pv a else pv x)
        split <;> rfl
  exact this l none
theorem mnp_mn (l : List (Int × Int)) : (mnp l).map pv = mn (l.map pv) := by
  have : ∀ (l : List (Int × Int)) o, (l.foldl ominp o).map pv = (l.map pv).foldl omin (o.map pv) := by
    intro l
    induction l with
    | nil => intro o; rfl
    | cons a l ih =>
      intro o
      rw [List.foldl_cons, ih, List.map_cons, List.foldl_cons]
      congr 1
      cases o with
      | none => rfl
      | some x =>
        show some (pv (if pv a < pv x then a else x)) = some (if pv a < pv x then pv a else pv x)
        split <;> rfl
  exact this l none
theorem foldp_mem {f : Option (Int × Int) → Int × Int → Option (Int × Int)} (hf : ∀ o y z, f o y = some z → z = y ∨ o = some z) (l : List (Int × Int)) : ∀ o z, l.foldl f o = some z → z ∈ l ∨ o = some z := by
  induction l with
  | nil => intro o z h; exact .inr h
  | cons a l ih =>
    intro o z h
    rw [List.foldl_cons] at h
    rcases ih _ _ h with h | h
    · exact .inl (List.mem_cons_of_mem _ h)
    · rcases hf _ _ _ h with h | h
      · exact .inl (by simp [h])
      · exact .inr h
theorem mxp_mem {l : List (Int × Int)} {z : Int × Int} (h : mxp l = some z) : z ∈ l := by
  rcases foldp_mem (fun o y z h => by
    cases o with
    | none => cases h; exact .inl rfl
    | some x =>
      simp only [omaxp] at h
      split at h
      · cases h; exact .inl rfl
      · cases h; exact .inr rfl) l none z h with h | h
  · exact h
  · cases h
theorem mnp_mem {l : List (Int × Int)} {z : Int × Int} (h : mnp l = some z) : z ∈ l := by
  rcases foldp_mem (fun o y z h => by
    cases o with
    | none => cases h; exact .inl rfl
    | some x =>
      simp only [ominp] at h
      split at h
      · cases h; exact .inl rfl
      · cases h; exact .inr rfl) l none z h with h | h
  · exact h
  · cases h
/-! the law's rates -/
def lo2 (e : Int) (p : Sd × Sd) : Int × Int := (p.2.2 - p.1.2 - 2 * e, p.2.1 - p.1.1)
def hi2 (e : Int) (p : Sd × Sd) : Int × Int := (p.2.2 - p.1.2 + 2 * e, p.2.1 - p.1.1)
theorem lo2_ok {e : Int} (he : Sm 10 e) {p : Sd × Sd} (h : OkP p) : Okf (lo2 e p) := ⟨by have := h.1; show 0 < p.2.1 - p.1.1; omega, (((okp_rise h).mono (k := 12) (by omega)).sub (sm_2e he)).mono (by omega), (okp_way h).mono (by omega)⟩
theorem hi2_ok {e : Int} (he : Sm 10 e) {p : Sd × Sd} (h : OkP p) : Okf (hi2 e p) := ⟨by have := h.1; show 0 < p.2.1 - p.1.1; omega, (((okp_rise h).mono (k := 12) (by omega)).add (sm_2e he)).mono (by omega), (okp_way h).mono (by omega)⟩
theorem atI_enc {S : List Sd} {i : Nat} {x : Sd} (h : S[i]? = some x) : atI (S.map enc) (i : Int) = some (enc x) := by
  have hl := (List.getElem?_eq_some_iff.mp h).1
  rw [atI_nat _ i (by rw [List.length_map]; exact hl), List.getElem_map]
  rw [List.getElem?_eq_getElem hl] at h
  injection h with h
  rw [h]
theorem enc_0 (x : Sd) : oIx (enc x) (.int 0) = some (.int x.1) := rfl
theorem enc_1 (x : Sd) : oIx (enc x) (.int 1) = some (.int x.2) := rfl
theorem lr_loop1 {S : List Sd} {e : Int} (he : Sm 10 e) (x : Sd × Nat) (hx : S[x.2]? = some x.1) (T : List (Sd × Nat)) (P : List (Sd × Sd)) (hP : ∀ p ∈ P, OkP p) (hT : ∀ t ∈ T, S[t.2]? = some t.1 ∧ OkP (x.1, t.1)) (a0 b0 c0 : Option D) :
    ∃ a b c, forL (gSet 5) l1__law_rates (T.map fun p => .int (p.2 : Nat)) [some (.tuple (S.map enc)), some (.int e), some (.int x.2), some (pd (mxp (P.map (lo2 e)))), some (pd (mnp (P.map (hi2 e)))), a0, b0, c0] =
    some (.nx [some (.tuple (S.map enc)), some (.int e), some (.int x.2), some (pd (mxp ((P ++ T.map fun t => (x.1, t.1)).map (lo2 e)))), some (pd (mnp ((P ++ T.map fun t => (x.1, t.1)).map (hi2 e)))), a, b, c]) := by
  have i1 := atI_enc hx
  obtain ⟨ρ', e1, h⟩ := forL_inv (g := gSet 5) (b := l1__law_rates) (fun p : Sd × Nat => .int (p.2 : Nat))
    (fun pre rest ρ => pre ++ rest = T ∧ ∃ a b c, ρ = [some (.tuple (S.map enc)), some (.int e), some (.int x.2), some (pd (mxp ((P ++ pre.map fun t => (x.1, t.1)).map (lo2 e)))), some (pd (mnp ((P ++ pre.map fun t => (x.1, t.1)).map (hi2 e)))), a, b, c]) (fun pre y rest ρ ⟨hp, a, b, c, e'⟩ => by
      subst e'
      obtain ⟨hy1, hy⟩ := hT y (by rw [← hp]; simp)
      have i2 := atI_enc hy1
      have hm : ∀ p ∈ P ++ pre.map (fun t => (x.1, t.1)), OkP p := by
        intro p hp'
        rcases List.mem_append.mp hp' with h | h
        · exact hP p h
        · obtain ⟨t, ht, rfl⟩ := List.mem_map.mp h
          exact (hT t (by rw [← hp]; simp [ht])).2
      have k2 := (Sm.lit (k := 10) (a := 2)).mulOk he (by omega) (by omega)
      have o1 := omaxpS (o := mxp ((P ++ pre.map fun t => (x.1, t.1)).map (lo2 e))) (a := lo2 e (x.1, y.1)) (fun z hz => by
        obtain ⟨s, hs, rfl⟩ := List.mem_map.mp (mxp_mem hz)
        exact lo2_ok he (hm s hs)) (lo2_ok he hy) 3
      have o2 := ominpS (o := mnp ((P ++ pre.map fun t => (x.1, t.1)).map (hi2 e))) (a := hi2 e (x.1, y.1)) (fun z hz => by
        obtain ⟨s, hs, rfl⟩ := List.mem_map.mp (mnp_mem hz)
        exact hi2_ok he (hm s hs)) (hi2_ok he hy) 4
      refine ⟨[some (.tuple (S.map enc)), some (.int e), some (.int x.2), some (pd (mxp ((P ++ pre.map fun t => (x.1, t.1)).map (lo2 e)))), some (pd (mnp ((P ++ pre.map fun t => (x.1, t.1)).map (hi2 e)))), some (.int y.2), b, c], [some (.tuple (S.map enc)), some (.int e), some (.int x.2), some (pd (mxp ((P ++ (pre ++ [y]).map fun t => (x.1, t.1)).map (lo2 e)))), some (pd (mnp ((P ++ (pre ++ [y]).map fun t => (x.1, t.1)).map (hi2 e)))), some (.int y.2), some (.int (y.1.1 - x.1.1)), some (.int (y.1.2 - x.1.2))], rfl, .inl ?_, by rw [List.append_assoc]; exact hp, _, _, _, rfl⟩
      rw [List.map_append (l₁ := pre), ← List.append_assoc, List.map_append (l₁ := P ++ _), List.map_append (l₁ := P ++ _), List.map_singleton, List.map_singleton, List.map_singleton, mxp_app, mnp_app]
      generalize mxp ((P ++ pre.map fun t => (x.1, t.1)).map (lo2 e)) = m1 at o1 ⊢
      generalize mnp ((P ++ pre.map fun t => (x.1, t.1)).map (hi2 e)) = m2 at o2 ⊢
      generalize hM : S.map enc = M at i1 i2 ⊢
      unfold lo2 at *
      unfold hi2 at *
      unfold tp at o1
      unfold tp at o2
      simp -implicitDefEqProofs only [l1__law_rates, ↓ o1, ↓ o2, xVar_a, xC_a, xBin_a, xUn_a, tOf_a, tTru_a, tNotP_a, tAndP_a, tOrP_a, tyes_a, tno_a, tYesP_a, xNil_a, xCons_a, xTup_a, xLst_a, xAnd_a, xOr_a, xIf_a, xChain_a, oNo_a, oAt_a, xSl_a, xCall_a, xSeq_a, xIt_a, xLc_a, gSet_a, gTupD_a, gsNil_a, gsCons_a, sNop_a, sBrk_a, sCnt_a, sSeq_a, sRet_a, sIf_a, sSet_a, sTgt_a, sAug_a, sApp_a, sExt_a, sPut_a, sPutK_a, pkO_s, sFor_a, sWhile_a, sPar_a, runD_a, b2_s, c2_s, sqO_nx, sqO_rt, sqO_bk, sqO_ct, ifO_t, ifO_f, stO_s, endO_nx, endO_rt, andO_t, andO_f, orO_t, orO_f, chO_s, chP_t, chP_f, slO_s, atO_i, lcO_s, forO_s, gsO_s, nxO_s, tgO_s, paO_s, apO_s, exO_s, plO_s, ptO_s, dB_b, tru_b, tru_n, tru_i, tru_l, tru_t, is_n, isn_n, nn_n, nn_i, nn_b, nn_t, nn_l, add_ii, add'_ii, sub_ii, neg_i, lt_ii, le_ii, gt_ii, ge_ii, ix_l, ix_t, ix_s, at0, at1, at2, sl_l, sl_t, len_l, len_t, len_s, abs_i, int_i, int_b, max_ii, min_ii, tup_s, lst_s, seq_l, seq_t, sum_s, wipe_n, wipe_c, mul_ii, fdiv_ii, mod_ii, add_ll, add_tt, setAll, mkT, mkL, oNot, List.getD_cons_zero, List.getD_cons_succ, List.length_cons, List.length_nil, List.set_cons_zero, List.set_cons_succ, List.map_cons, List.map_nil, List.replicate, List.cons_append, List.nil_append, List.append_nil, Option.bind_some, Option.map_some, List.all_cons, List.all_nil, if_true, if_false, reduceIte, Nat.reduceAdd, Nat.reduceSub, Nat.reduceLT, Nat.reduceLeDiff, Nat.reduceEqDiff, decide_true, decide_false, Bool.and_true, Bool.and_self, Bool.true_and, Bool.not_true, Bool.not_false, ne_eq, not_true_eq_false, not_false_eq_true, Nat.zero_add, Bool.false_eq_true, and_self, true_and, and_true, k2, i1, i2, enc_0, enc_1]) T [] [some (.tuple (S.map enc)), some (.int e), some (.int x.2), some (pd (mxp (P.map (lo2 e)))), some (pd (mnp (P.map (hi2 e)))), a0, b0, c0] ⟨rfl, a0, b0, c0, by simp⟩
  obtain ⟨_, a, b, c, e'⟩ := h
  subst e'
  exact ⟨a, b, c, e1⟩
theorem oR1_zip {α : Type} (f : α → D) (S : List α) (hl : S.length ≤ 1000) : oR1 [.int (S.map f).length] = some (S.zipIdx.map fun p => .int (p.2 : Nat)) := by
  rw [zipIdx_ints0]
  have := oR1_nat (S.map f).length (by rw [List.length_map]; omega)
  rwa [List.length_map] at this ⊢
theorem oR2_zip {α : Type} (f : α → D) (S : List α) (k : Nat) (hl : S.length ≤ 1000) (hk : k < S.length) : oR2 [.int ((k : Nat) + 1), .int (S.map f).length] = some (((S.drop (k + 1)).zipIdx (k + 1)).map fun p => .int (p.2 : Nat)) := by
  rw [zipIdx_ints, List.length_map, oR2_list (by omega)]
  rw [List.length_drop]
  congr 1
  have : (((S.length : Nat) : Int) - (((k : Nat) : Int) + 1)).toNat = S.length - (k + 1) := by omega
  rw [this]
  exact List.map_congr_left fun i _ => by congr 1
theorem zip_get {α : Type} {S : List α} {k : Nat} {p : α × Nat} (h : p ∈ (S.drop k).zipIdx k) : S[p.2]? = some p.1 := by
  obtain ⟨h1, h2⟩ := List.mem_zipIdx_iff_le_and_getElem?_sub.mp h
  rw [List.getElem?_drop, show k + (p.2 - k) = p.2 by omega] at h2
  exact h2
theorem zip_fst {α : Type} {S : List α} {k : Nat} : ((S.drop k).zipIdx k).map Prod.fst = S.drop k := by simp
theorem law_rates_eq {S : List Sd} {e : Int} (hS : OkS S) (hi : Inc S) (hl : S.length ≤ 1000) (hl2 : 2 ≤ S.length) (he : Sm 10 e) : d__law_rates [.tuple (S.map enc), .int e] = some (ratesD (rates S e)) := by
  have hr1 := oR1_zip enc S hl
  obtain ⟨ρ', e1, h⟩ := forL_inv (g := gSet 2) (b := l2__law_rates) (fun p : Sd × Nat => .int (p.2 : Nat))
    (fun pre rest ρ => pre ++ rest = S.zipIdx ∧ ∃ P, P ++ pairs (rest.map Prod.fst) = pairs S ∧ ∃ a b c d, ρ = [some (.tuple (S.map enc)), some (.int e), a, some (pd (mxp (P.map (lo2 e)))), some (pd (mnp (P.map (hi2 e)))), b, c, d]) (fun pre x rest ρ ⟨hp, P, hP, a, b, c, d, e'⟩ => by
      subst e'
      have hx2 := zipIdx_split hp
      have hPm : ∀ p ∈ P, OkP p := fun p h => okp_of hS hi (by rw [← hP]; simp [h])
      have hTm : ∀ t ∈ (S.drop (x.2 + 1)).zipIdx (x.2 + 1), S[t.2]? = some t.1 ∧ OkP (x.1, t.1) := fun t h => by
        refine ⟨zip_get h, okp_of hS hi ?_⟩
        have h1 : t.1 ∈ ((S.drop (x.2 + 1)).zipIdx (x.2 + 1)).map Prod.fst := List.mem_map_of_mem h
        rw [zip_fst, hx2.2.1] at h1
        rw [← hP]
        simp only [List.map_cons, pairs]
        simp only [List.mem_append, List.mem_map]
        exact .inr (.inl ⟨t.1, by simpa using h1, rfl⟩)
      have hr2 := oR2_zip enc S x.2 hl hx2.2.2.1
      obtain ⟨a', b', c', e2⟩ := lr_loop1 he x hx2.2.2.2.1 ((S.drop (x.2 + 1)).zipIdx (x.2 + 1)) P hPm hTm b c d
      have hT : ((S.drop (x.2 + 1)).zipIdx (x.2 + 1)).map (fun t => (x.1, t.1)) = (rest.map Prod.fst).map fun t => (x.1, t) := by
        rw [← hx2.2.1]
        conv => rhs; rw [← zip_fst (S := S) (k := x.2 + 1), List.map_map]
        rfl
      rw [hT] at e2
      refine ⟨[some (.tuple (S.map enc)), some (.int e), some (.int x.2), some (pd (mxp (P.map (lo2 e)))), some (pd (mnp (P.map (hi2 e)))), b, c, d], _, rfl, .inl ?_, by rw [List.append_assoc]; exact hp, _, pairs_pre (pre := []) hP, some (.int x.2), a', b', c', rfl⟩
      simp -implicitDefEqProofs only [l2__law_rates, xVar_a, xC_a, xBin_a, xUn_a, tOf_a, tTru_a, tNotP_a, tAndP_a, tOrP_a, tyes_a, tno_a, tYesP_a, xNil_a, xCons_a, xTup_a, xLst_a, xAnd_a, xOr_a, xIf_a, xChain_a, oNo_a, oAt_a, xSl_a, xCall_a, xSeq_a, xIt_a, xLc_a, gSet_a, gTupD_a, gsNil_a, gsCons_a, sNop_a, sBrk_a, sCnt_a, sSeq_a, sRet_a, sIf_a, sSet_a, sTgt_a, sAug_a, sApp_a, sExt_a, sPut_a, sPutK_a, pkO_s, sFor_a, sWhile_a, sPar_a, runD_a, b2_s, c2_s, sqO_nx, sqO_rt, sqO_bk, sqO_ct, ifO_t, ifO_f, stO_s, endO_nx, endO_rt, andO_t, andO_f, orO_t, orO_f, chO_s, chP_t, chP_f, slO_s, atO_i, lcO_s, forO_s, gsO_s, nxO_s, tgO_s, paO_s, apO_s, exO_s, plO_s, ptO_s, dB_b, tru_b, tru_n, tru_i, tru_l, tru_t, is_n, isn_n, nn_n, nn_i, nn_b, nn_t, nn_l, add_ii, add'_ii, sub_ii, neg_i, lt_ii, le_ii, gt_ii, ge_ii, ix_l, ix_t, ix_s, at0, at1, at2, sl_l, sl_t, len_l, len_t, len_s, abs_i, int_i, int_b, max_ii, min_ii, tup_s, lst_s, seq_l, seq_t, sum_s, wipe_n, wipe_c, mul_ii, fdiv_ii, mod_ii, add_ll, add_tt, setAll, mkT, mkL, oNot, List.getD_cons_zero, List.getD_cons_succ, List.length_cons, List.length_nil, List.set_cons_zero, List.set_cons_succ, List.map_cons, List.map_nil, List.replicate, List.cons_append, List.nil_append, List.append_nil, Option.bind_some, Option.map_some, List.all_cons, List.all_nil, if_true, if_false, reduceIte, Nat.reduceAdd, Nat.reduceSub, Nat.reduceLT, Nat.reduceLeDiff, Nat.reduceEqDiff, decide_true, decide_false, Bool.and_true, Bool.and_self, Bool.true_and, Bool.not_true, Bool.not_false, ne_eq, not_true_eq_false, not_false_eq_true, Nat.zero_add, Bool.false_eq_true, and_self, true_and, and_true, hr2, e2]) S.zipIdx [] [some (.tuple (S.map enc)), some (.int e), none, some .none, some .none, none, none, none] ⟨rfl, [], by simp, none, none, none, none, rfl⟩
  obtain ⟨_, P, hP, a, b, c, d, e'⟩ := h
  subst e'
  simp only [List.map_nil, pairs, List.append_nil] at hP
  subst hP
  obtain ⟨lo, hg, h1, h2, h3, h4⟩ := rates_spec e hl2
  have p1 := mxp_mx ((pairs S).map (lo2 e))
  have p2 := mnp_mn ((pairs S).map (hi2 e))
  rw [List.map_map, show pv ∘ lo2 e = plo e from rfl, h1] at p1
  rw [List.map_map, show pv ∘ hi2 e = phi e from rfl, h2] at p2
  cases ha : mxp ((pairs S).map (lo2 e)) with
  | none => rw [ha] at p1; cases p1
  | some x =>
    cases hb : mnp ((pairs S).map (hi2 e)) with
    | none => rw [hb] at p2; cases p2
    | some y =>
      rw [ha] at p1
      rw [hb] at p2
      injection p1 with p1
      injection p2 with p2
      have ox : Okf x := by
        obtain ⟨s, hs, h⟩ := List.mem_map.mp (mxp_mem ha)
        rw [← h]
        exact lo2_ok he (okp_of hS hi hs)
      have oy : Okf y := by
        obtain ⟨s, hs, h⟩ := List.mem_map.mp (mnp_mem hb)
        rw [← h]
        exact hi2_ok he (okp_of hS hi hs)
      have q := less_tp oy ox
      have r1 := ratio_rd x.1 x.2 ox.1 (ox.2.2.mono (by omega))
      have r2 := ratio_rd y.1 y.2 oy.1 (oy.2.2.mono (by omega))
      rw [show (x.1 : Rat) / (x.2 : Rat) = lo from p1] at r1
      rw [show (y.1 : Rat) / (y.2 : Rat) = hg from p2] at r2
      rw [p1, p2] at q
      rw [ha, hb, pd_s, pd_s] at e1
      unfold tp at e1 q
      rw [h3]
      by_cases hz : hg < lo
      · rw [if_pos hz]
        simp -implicitDefEqProofs only [d__law_rates, g__law_rates, xVar_a, xC_a, xBin_a, xUn_a, tOf_a, tTru_a, tNotP_a, tAndP_a, tOrP_a, tyes_a, tno_a, tYesP_a, xNil_a, xCons_a, xTup_a, xLst_a, xAnd_a, xOr_a, xIf_a, xChain_a, oNo_a, oAt_a, xSl_a, xCall_a, xSeq_a, xIt_a, xLc_a, gSet_a, gTupD_a, gsNil_a, gsCons_a, sNop_a, sBrk_a, sCnt_a, sSeq_a, sRet_a, sIf_a, sSet_a, sTgt_a, sAug_a, sApp_a, sExt_a, sPut_a, sPutK_a, pkO_s, sFor_a, sWhile_a, sPar_a, runD_a, b2_s, c2_s, sqO_nx, sqO_rt, sqO_bk, sqO_ct, ifO_t, ifO_f, stO_s, endO_nx, endO_rt, andO_t, andO_f, orO_t, orO_f, chO_s, chP_t, chP_f, slO_s, atO_i, lcO_s, forO_s, gsO_s, nxO_s, tgO_s, paO_s, apO_s, exO_s, plO_s, ptO_s, dB_b, tru_b, tru_n, tru_i, tru_l, tru_t, is_n, isn_n, nn_n, nn_i, nn_b, nn_t, nn_l, add_ii, add'_ii, sub_ii, neg_i, lt_ii, le_ii, gt_ii, ge_ii, ix_l, ix_t, ix_s, at0, at1, at2, sl_l, sl_t, len_l, len_t, len_s, abs_i, int_i, int_b, max_ii, min_ii, tup_s, lst_s, seq_l, seq_t, sum_s, wipe_n, wipe_c, mul_ii, fdiv_ii, mod_ii, add_ll, add_tt, setAll, mkT, mkL, oNot, List.getD_cons_zero, List.getD_cons_succ, List.length_cons, List.length_nil, List.set_cons_zero, List.set_cons_succ, List.map_cons, List.map_nil, List.replicate, List.cons_append, List.nil_append, List.append_nil, Option.bind_some, Option.map_some, List.all_cons, List.all_nil, if_true, if_false, reduceIte, Nat.reduceAdd, Nat.reduceSub, Nat.reduceLT, Nat.reduceLeDiff, Nat.reduceEqDiff, decide_true, decide_false, Bool.and_true, Bool.and_self, Bool.true_and, Bool.not_true, Bool.not_false, ne_eq, not_true_eq_false, not_false_eq_true, Nat.zero_add, Bool.false_eq_true, and_self, true_and, and_true, hr1, e1, q, hz, ratesD]
      · rw [if_neg hz]
        simp -implicitDefEqProofs only [d__law_rates, g__law_rates, xVar_a, xC_a, xBin_a, xUn_a, tOf_a, tTru_a, tNotP_a, tAndP_a, tOrP_a, tyes_a, tno_a, tYesP_a, xNil_a, xCons_a, xTup_a, xLst_a, xAnd_a, xOr_a, xIf_a, xChain_a, oNo_a, oAt_a, xSl_a, xCall_a, xSeq_a, xIt_a, xLc_a, gSet_a, gTupD_a, gsNil_a, gsCons_a, sNop_a, sBrk_a, sCnt_a, sSeq_a, sRet_a, sIf_a, sSet_a, sTgt_a, sAug_a, sApp_a, sExt_a, sPut_a, sPutK_a, pkO_s, sFor_a, sWhile_a, sPar_a, runD_a, b2_s, c2_s, sqO_nx, sqO_rt, sqO_bk, sqO_ct, ifO_t, ifO_f, stO_s, endO_nx, endO_rt, andO_t, andO_f, orO_t, orO_f, chO_s, chP_t, chP_f, slO_s, atO_i, lcO_s, forO_s, gsO_s, nxO_s, tgO_s, paO_s, apO_s, exO_s, plO_s, ptO_s, dB_b, tru_b, tru_n, tru_i, tru_l, tru_t, is_n, isn_n, nn_n, nn_i, nn_b, nn_t, nn_l, add_ii, add'_ii, sub_ii, neg_i, lt_ii, le_ii, gt_ii, ge_ii, ix_l, ix_t, ix_s, at0, at1, at2, sl_l, sl_t, len_l, len_t, len_s, abs_i, int_i, int_b, max_ii, min_ii, tup_s, lst_s, seq_l, seq_t, sum_s, wipe_n, wipe_c, mul_ii, fdiv_ii, mod_ii, add_ll, add_tt, setAll, mkT, mkL, oNot, List.getD_cons_zero, List.getD_cons_succ, List.length_cons, List.length_nil, List.set_cons_zero, List.set_cons_succ, List.map_cons, List.map_nil, List.replicate, List.cons_append, List.nil_append, List.append_nil, Option.bind_some, Option.map_some, List.all_cons, List.all_nil, if_true, if_false, reduceIte, Nat.reduceAdd, Nat.reduceSub, Nat.reduceLT, Nat.reduceLeDiff, Nat.reduceEqDiff, decide_true, decide_false, Bool.and_true, Bool.and_self, Bool.true_and, Bool.not_true, Bool.not_false, ne_eq, not_true_eq_false, not_false_eq_true, Nat.zero_add, Bool.false_eq_true, and_self, true_and, and_true, hr1, e1, q, hz, ratesD, r1, r2]
end K28

namespace K28
open PySem PySem.Spec PyProof.Rows L2 Pm
/-! the law's first hour -/
def cl2 (e b : Int) (s : Sd) : Int × Int := (s.2 - e, s.1 - b)
def cu2 (e b : Int) (s : Sd) : Int × Int := (s.2 + e, s.1 - b)
theorem cl2_ok {e b : Int} (he : Sm 10 e) (hb : Sm 10 b) {s : Sd} (hs : Sm 10 s.1 ∧ Sm 10 s.2) (h : b < s.1) : Okf (cl2 e b s) := ⟨by show 0 < s.1 - b; omega, (hs.2.sub he).mono (by omega), (way_ok hb hs).mono (by omega)⟩
theorem cu2_ok {e b : Int} (he : Sm 10 e) (hb : Sm 10 b) {s : Sd} (hs : Sm 10 s.1 ∧ Sm 10 s.2) (h : b < s.1) : Okf (cu2 e b s) := ⟨by show 0 < s.1 - b; omega, (hs.2.add he).mono (by omega), (way_ok hb hs).mono (by omega)⟩
theorem pmaxS {x a : Int × Int} (hx : Okf x) (ha : Okf a) (i : Nat) (fa : Xp) (ρ : PEnv) (h1 : ρ.getD i none = some (tp x)) (h2 : fa ρ = some (tp a)) (hi : i < ρ.length) : sIf (tTru (xCall (fun ds => if ds.length = 2 then (d__law_less) ds else none) (xCons (xVar i) (xCons fa xNil)))) (sSeq (sSet i fa) sNop) sNop ρ = some (.nx (ρ.set i (some (tp (if pv x < pv a then a else x))))) := by
  by_cases h : pv x < pv a
  · simp -implicitDefEqProofs only [xVar_a, xC_a, xBin_a, xUn_a, tOf_a, tTru_a, tNotP_a, tAndP_a, tOrP_a, tyes_a, tno_a, tYesP_a, xNil_a, xCons_a, xTup_a, xLst_a, xAnd_a, xOr_a, xIf_a, xChain_a, oNo_a, oAt_a, xSl_a, xCall_a, xSeq_a, xIt_a, xLc_a, gSet_a, gTupD_a, gsNil_a, gsCons_a, sNop_a, sBrk_a, sCnt_a, sSeq_a, sRet_a, sIf_a, sSet_a, sTgt_a, sAug_a, sApp_a, sExt_a, sPut_a, sPutK_a, pkO_s, sFor_a, sWhile_a, sPar_a, runD_a, b2_s, c2_s, sqO_nx, sqO_rt, sqO_bk, sqO_ct, ifO_t, ifO_f, stO_s, endO_nx, endO_rt, andO_t, andO_f, orO_t, orO_f, chO_s, chP_t, chP_f, slO_s, atO_i, lcO_s, forO_s, gsO_s, nxO_s, tgO_s, paO_s, apO_s, exO_s, plO_s, ptO_s, dB_b, tru_b, tru_n, tru_i, tru_l, tru_t, is_n, isn_n, nn_n, nn_i, nn_b, nn_t, nn_l, add_ii, add'_ii, sub_ii, neg_i, lt_ii, le_ii, gt_ii, ge_ii, ix_l, ix_t, ix_s, at0, at1, at2, sl_l, sl_t, len_l, len_t, len_s, abs_i, int_i, int_b, max_ii, min_ii, tup_s, lst_s, seq_l, seq_t, sum_s, wipe_n, wipe_c, mul_ii, fdiv_ii, mod_ii, add_ll, add_tt, setAll, mkT, mkL, oNot, List.getD_cons_zero, List.getD_cons_succ, List.length_cons, List.length_nil, List.set_cons_zero, List.set_cons_succ, List.map_cons, List.map_nil, List.replicate, List.cons_append, List.nil_append, List.append_nil, Option.bind_some, Option.map_some, List.all_cons, List.all_nil, if_true, if_false, reduceIte, Nat.reduceAdd, Nat.reduceSub, Nat.reduceLT, Nat.reduceLeDiff, Nat.reduceEqDiff, decide_true, decide_false, Bool.and_true, Bool.and_self, Bool.true_and, Bool.not_true, Bool.not_false, ne_eq, not_true_eq_false, not_false_eq_true, Nat.zero_add, Bool.false_eq_true, and_self, true_and, and_true, h1, h2, hi, less_tp hx ha, h]
  · simp -implicitDefEqProofs only [xVar_a, xC_a, xBin_a, xUn_a, tOf_a, tTru_a, tNotP_a, tAndP_a, tOrP_a, tyes_a, tno_a, tYesP_a, xNil_a, xCons_a, xTup_a, xLst_a, xAnd_a, xOr_a, xIf_a, xChain_a, oNo_a, oAt_a, xSl_a, xCall_a, xSeq_a, xIt_a, xLc_a, gSet_a, gTupD_a, gsNil_a, gsCons_a, sNop_a, sBrk_a, sCnt_a, sSeq_a, sRet_a, sIf_a, sSet_a, sTgt_a, sAug_a, sApp_a, sExt_a, sPut_a, sPutK_a, pkO_s, sFor_a, sWhile_a, sPar_a, runD_a, b2_s, c2_s, sqO_nx, sqO_rt, sqO_bk, sqO_ct, ifO_t, ifO_f, stO_s, endO_nx, endO_rt, andO_t, andO_f, orO_t, orO_f, chO_s, chP_t, chP_f, slO_s, atO_i, lcO_s, forO_s, gsO_s, nxO_s, tgO_s, paO_s, apO_s, exO_s, plO_s, ptO_s, dB_b, tru_b, tru_n, tru_i, tru_l, tru_t, is_n, isn_n, nn_n, nn_i, nn_b, nn_t, nn_l, add_ii, add'_ii, sub_ii, neg_i, lt_ii, le_ii, gt_ii, ge_ii, ix_l, ix_t, ix_s, at0, at1, at2, sl_l, sl_t, len_l, len_t, len_s, abs_i, int_i, int_b, max_ii, min_ii, tup_s, lst_s, seq_l, seq_t, sum_s, wipe_n, wipe_c, mul_ii, fdiv_ii, mod_ii, add_ll, add_tt, setAll, mkT, mkL, oNot, List.getD_cons_zero, List.getD_cons_succ, List.length_cons, List.length_nil, List.set_cons_zero, List.set_cons_succ, List.map_cons, List.map_nil, List.replicate, List.cons_append, List.nil_append, List.append_nil, Option.bind_some, Option.map_some, List.all_cons, List.all_nil, if_true, if_false, reduceIte, Nat.reduceAdd, Nat.reduceSub, Nat.reduceLT, Nat.reduceLeDiff, Nat.reduceEqDiff, decide_true, decide_false, Bool.and_true, Bool.and_self, Bool.true_and, Bool.not_true, Bool.not_false, ne_eq, not_true_eq_false, not_false_eq_true, Nat.zero_add, Bool.false_eq_true, and_self, true_and, and_true, h1, h2, hi, less_tp hx ha, h, set_same ρ i _ h1]
theorem pminS {x a : Int × Int} (hx : Okf x) (ha : Okf a) (i : Nat) (fa : Xp) (ρ : PEnv) (h1 : ρ.getD i none = some (tp x)) (h2 : fa ρ = some (tp a)) (hi : i < ρ.length) : sIf (tTru (xCall (fun ds => if ds.length = 2 then (d__law_less) ds else none) (xCons fa (xCons (xVar i) xNil)))) (sSeq (sSet i fa) sNop) sNop ρ = some (.nx (ρ.set i (some (tp (if pv a < pv x then a else x))))) := by
  by_cases h : pv a < pv x
  · simp -implicitDefEqProofs only [xVar_a, xC_a, xBin_a, xUn_a, tOf_a, tTru_a, tNotP_a, tAndP_a, tOrP_a, tyes_a, tno_a, tYesP_a, xNil_a, xCons_a, xTup_a, xLst_a, xAnd_a, xOr_a, xIf_a, xChain_a, oNo_a, oAt_a, xSl_a, xCall_a, xSeq_a, xIt_a, xLc_a, gSet_a, gTupD_a, gsNil_a, gsCons_a, sNop_a, sBrk_a, sCnt_a, sSeq_a, sRet_a, sIf_a, sSet_a, sTgt_a, sAug_a, sApp_a, sExt_a, sPut_a, sPutK_a, pkO_s, sFor_a, sWhile_a, sPar_a, runD_a, b2_s, c2_s, sqO_nx, sqO_rt, sqO_bk, sqO_ct, ifO_t, ifO_f, stO_s, endO_nx, endO_rt, andO_t, andO_f, orO_t, orO_f, chO_s, chP_t, chP_f, slO_s, atO_i, lcO_s, forO_s, gsO_s, nxO_s, tgO_s, paO_s, apO_s, exO_s, plO_s, ptO_s, dB_b, tru_b, tru_n, tru_i, tru_l, tru_t, is_n, isn_n, nn_n, nn_i, nn_b, nn_t, nn_l, add_ii, add'_ii, sub_ii, neg_i, lt_ii, le_ii, gt_ii, ge_ii, ix_l, ix_t, ix_s, at0, at1, at2, sl_l, sl_t, len_l, len_t, len_s, abs_i, int_i, int_b, max_ii, min_ii, tup_s, lst_s, seq_l, seq_t, sum_s, wipe_n, wipe_c, mul_ii, fdiv_ii, mod_ii, add_ll, add_tt, setAll, mkT, mkL, oNot, List.getD_cons_zero, List.getD_cons_succ, List.length_cons, List.length_nil, List.set_cons_zero, List.set_cons_succ, List.map_cons, List.map_nil, List.replicate, List.cons_append, List.nil_append, List.append_nil, Option.bind_some, Option.map_some, List.all_cons, List.all_nil, if_true, if_false, reduceIte, Nat.reduceAdd, Nat.reduceSub, Nat.reduceLT, Nat.reduceLeDiff, Nat.reduceEqDiff, decide_true, decide_false, Bool.and_true, Bool.and_self, Bool.true_and, Bool.not_true, Bool.not_false, ne_eq, not_true_eq_false, not_false_eq_true, Nat.zero_add, Bool.false_eq_true, and_self, true_and, and_true, h1, h2, hi, less_tp ha hx, h]
  · simp -implicitDefEqProofs only [xVar_a, xC_a, xBin_a, xUn_a, tOf_a, tTru_a, tNotP_a, tAndP_a, tOrP_a, tyes_a, tno_a, tYesP_a, xNil_a, xCons_a, xTup_a, xLst_a, xAnd_a, xOr_a, xIf_a, xChain_a, oNo_a, oAt_a, xSl_a, xCall_a, xSeq_a, xIt_a, xLc_a, gSet_a, gTupD_a, gsNil_a, gsCons_a, sNop_a, sBrk_a, sCnt_a, sSeq_a, sRet_a, sIf_a, sSet_a, sTgt_a, sAug_a, sApp_a, sExt_a, sPut_a, sPutK_a, pkO_s, sFor_a, sWhile_a, sPar_a, runD_a, b2_s, c2_s, sqO_nx, sqO_rt, sqO_bk, sqO_ct, ifO_t, ifO_f, stO_s, endO_nx, endO_rt, andO_t, andO_f, orO_t, orO_f, chO_s, chP_t, chP_f, slO_s, atO_i, lcO_s, forO_s, gsO_s, nxO_s, tgO_s, paO_s, apO_s, exO_s, plO_s, ptO_s, dB_b, tru_b, tru_n, tru_i, tru_l, tru_t, is_n, isn_n, nn_n, nn_i, nn_b, nn_t, nn_l, add_ii, add'_ii, sub_ii, neg_i, lt_ii, le_ii, gt_ii, ge_ii, ix_l, ix_t, ix_s, at0, at1, at2, sl_l, sl_t, len_l, len_t, len_s, abs_i, int_i, int_b, max_ii, min_ii, tup_s, lst_s, seq_l, seq_t, sum_s, wipe_n, wipe_c, mul_ii, fdiv_ii, mod_ii, add_ll, add_tt, setAll, mkT, mkL, oNot, List.getD_cons_zero, List.getD_cons_succ, List.length_cons, List.length_nil, List.set_cons_zero, List.set_cons_succ, List.map_cons, List.map_nil, List.replicate, List.cons_append, List.nil_append, List.append_nil, Option.bind_some, Option.map_some, List.all_cons, List.all_nil, if_true, if_false, reduceIte, Nat.reduceAdd, Nat.reduceSub, Nat.reduceLT, Nat.reduceLeDiff, Nat.reduceEqDiff, decide_true, decide_false, Bool.and_true, Bool.and_self, Bool.true_and, Bool.not_true, Bool.not_false, ne_eq, not_true_eq_false, not_false_eq_true, Nat.zero_add, Bool.false_eq_true, and_self, true_and, and_true, h1, h2, hi, less_tp ha hx, h, set_same ρ i _ h1]
def gd (e b : Int) (s : Sd) : Bool := decide (s.1 ≠ b) || decide ((s.2.natAbs : Int) ≤ e)
theorem begun_step {S : List Sd} {e b : Int} (hS : OkS S) (he : Sm 10 e) (hb : Sm 10 b) (hb2 : ∀ s ∈ S, b ≤ s.1) (x1 x2 x3 x4 x5 x6 : Option D) :
    ∃ x y a c d, Okf x ∧ Okf y ∧ (x = (0, 1) ∨ ∃ s ∈ S, s.1 ≠ b ∧ x = cl2 e b s) ∧ (y = (99, 1) ∨ ∃ s ∈ S, s.1 ≠ b ∧ y = cu2 e b s) ∧ (0 ≤ pv x ∧ ∀ s ∈ S, s.1 ≠ b → cl e b s ≤ pv x) ∧ (pv y ≤ 99 ∧ ∀ s ∈ S, s.1 ≠ b → pv y ≤ cu e b s) ∧
    forL (gTupD 2 (gsCons (gSet 6) (gsCons (gSet 7) gsNil))) l1__law_begun (S.map enc) [some (.tuple (S.map enc)), some (.int e), some (.int b), some (tp (0, 1)), some (tp (99, 1)), some (.bool true), x4, x5, x6] =
    some (.nx [some (.tuple (S.map enc)), some (.int e), some (.int b), some (tp x), some (tp y), some (.bool (S.all (gd e b))), a, c, d]) := by
  obtain ⟨ρ', e1, _, h⟩ := forL_inv (g := gTupD 2 (gsCons (gSet 6) (gsCons (gSet 7) gsNil))) (b := l1__law_begun) enc
    (fun pre rest ρ => pre ++ rest = S ∧ ∃ x y a c d, Okf x ∧ Okf y ∧ (x = (0, 1) ∨ ∃ s ∈ S, s.1 ≠ b ∧ x = cl2 e b s) ∧ (y = (99, 1) ∨ ∃ s ∈ S, s.1 ≠ b ∧ y = cu2 e b s) ∧ (0 ≤ pv x ∧ ∀ s ∈ pre, s.1 ≠ b → cl e b s ≤ pv x) ∧ (pv y ≤ 99 ∧ ∀ s ∈ pre, s.1 ≠ b → pv y ≤ cu e b s) ∧
      ρ = [some (.tuple (S.map enc)), some (.int e), some (.int b), some (tp x), some (tp y), some (.bool (pre.all (gd e b))), a, c, d]) (fun pre z rest ρ ⟨hp, x, y, a, c, d, ox, oy, mx1, my1, bx, by1, e'⟩ => by
      subst e'
      have hzS : z ∈ S := by rw [← hp]; simp
      have hz := hS z hzS
      refine ⟨[some (.tuple (S.map enc)), some (.int e), some (.int b), some (tp x), some (tp y), some (.bool (pre.all (gd e b))), some (.int z.1), some (.int z.2), d], ?_⟩
      have hall : (pre ++ [z]).all (gd e b) = (pre.all (gd e b) && gd e b z) := by rw [List.all_append]; simp
      by_cases hzb : z.1 = b
      · refine ⟨[some (.tuple (S.map enc)), some (.int e), some (.int b), some (tp x), some (tp y), some (.bool ((pre ++ [z]).all (gd e b))), some (.int z.1), some (.int z.2), some (.int (z.1 - b))], rfl, .inl ?_, by rw [List.append_assoc]; exact hp, x, y, _, _, _, ox, oy, mx1, my1, ⟨bx.1, ?_⟩, ⟨by1.1, ?_⟩, rfl⟩
        · rw [hall, show gd e b z = decide ((z.2.natAbs : Int) ≤ e) by simp [gd, hzb]]
          generalize pre.all (gd e b) = t
          have hw : z.1 - b = 0 := by omega
          cases t with
          | true => simp -implicitDefEqProofs only [l1__law_begun, xVar_a, xC_a, xBin_a, xUn_a, tOf_a, tTru_a, tNotP_a, tAndP_a, tOrP_a, tyes_a, tno_a, tYesP_a, xNil_a, xCons_a, xTup_a, xLst_a, xAnd_a, xOr_a, xIf_a, xChain_a, oNo_a, oAt_a, xSl_a, xCall_a, xSeq_a, xIt_a, xLc_a, gSet_a, gTupD_a, gsNil_a, gsCons_a, sNop_a, sBrk_a, sCnt_a, sSeq_a, sRet_a, sIf_a, sSet_a, sTgt_a, sAug_a, sApp_a, sExt_a, sPut_a, sPutK_a, pkO_s, sFor_a, sWhile_a, sPar_a, runD_a, b2_s, c2_s, sqO_nx, sqO_rt, sqO_bk, sqO_ct, ifO_t, ifO_f, stO_s, endO_nx, endO_rt, andO_t, andO_f, orO_t, orO_f, chO_s, chP_t, chP_f, slO_s, atO_i, lcO_s, forO_s, gsO_s, nxO_s, tgO_s, paO_s, apO_s, exO_s, plO_s, ptO_s, dB_b, tru_b, tru_n, tru_i, tru_l, tru_t, is_n, isn_n, nn_n, nn_i, nn_b, nn_t, nn_l, add_ii, add'_ii, sub_ii, neg_i, lt_ii, le_ii, gt_ii, ge_ii, ix_l, ix_t, ix_s, at0, at1, at2, sl_l, sl_t, len_l, len_t, len_s, abs_i, int_i, int_b, max_ii, min_ii, tup_s, lst_s, seq_l, seq_t, sum_s, wipe_n, wipe_c, mul_ii, fdiv_ii, mod_ii, add_ll, add_tt, setAll, mkT, mkL, oNot, List.getD_cons_zero, List.getD_cons_succ, List.length_cons, List.length_nil, List.set_cons_zero, List.set_cons_succ, List.map_cons, List.map_nil, List.replicate, List.cons_append, List.nil_append, List.append_nil, Option.bind_some, Option.map_some, List.all_cons, List.all_nil, if_true, if_false, reduceIte, Nat.reduceAdd, Nat.reduceSub, Nat.reduceLT, Nat.reduceLeDiff, Nat.reduceEqDiff, decide_true, decide_false, Bool.and_true, Bool.and_self, Bool.true_and, Bool.not_true, Bool.not_false, ne_eq, not_true_eq_false, not_false_eq_true, Nat.zero_add, Bool.false_eq_true, and_self, true_and, and_true, hw, eq_int, abs_eq]
          | false => simp -implicitDefEqProofs only [l1__law_begun, xVar_a, xC_a, xBin_a, xUn_a, tOf_a, tTru_a, tNotP_a, tAndP_a, tOrP_a, tyes_a, tno_a, tYesP_a, xNil_a, xCons_a, xTup_a, xLst_a, xAnd_a, xOr_a, xIf_a, xChain_a, oNo_a, oAt_a, xSl_a, xCall_a, xSeq_a, xIt_a, xLc_a, gSet_a, gTupD_a, gsNil_a, gsCons_a, sNop_a, sBrk_a, sCnt_a, sSeq_a, sRet_a, sIf_a, sSet_a, sTgt_a, sAug_a, sApp_a, sExt_a, sPut_a, sPutK_a, pkO_s, sFor_a, sWhile_a, sPar_a, runD_a, b2_s, c2_s, sqO_nx, sqO_rt, sqO_bk, sqO_ct, ifO_t, ifO_f, stO_s, endO_nx, endO_rt, andO_t, andO_f, orO_t, orO_f, chO_s, chP_t, chP_f, slO_s, atO_i, lcO_s, forO_s, gsO_s, nxO_s, tgO_s, paO_s, apO_s, exO_s, plO_s, ptO_s, dB_b, tru_b, tru_n, tru_i, tru_l, tru_t, is_n, isn_n, nn_n, nn_i, nn_b, nn_t, nn_l, add_ii, add'_ii, sub_ii, neg_i, lt_ii, le_ii, gt_ii, ge_ii, ix_l, ix_t, ix_s, at0, at1, at2, sl_l, sl_t, len_l, len_t, len_s, abs_i, int_i, int_b, max_ii, min_ii, tup_s, lst_s, seq_l, seq_t, sum_s, wipe_n, wipe_c, mul_ii, fdiv_ii, mod_ii, add_ll, add_tt, setAll, mkT, mkL, oNot, List.getD_cons_zero, List.getD_cons_succ, List.length_cons, List.length_nil, List.set_cons_zero, List.set_cons_succ, List.map_cons, List.map_nil, List.replicate, List.cons_append, List.nil_append, List.append_nil, Option.bind_some, Option.map_some, List.all_cons, List.all_nil, if_true, if_false, reduceIte, Nat.reduceAdd, Nat.reduceSub, Nat.reduceLT, Nat.reduceLeDiff, Nat.reduceEqDiff, decide_true, decide_false, Bool.and_true, Bool.and_self, Bool.true_and, Bool.not_true, Bool.not_false, ne_eq, not_true_eq_false, not_false_eq_true, Nat.zero_add, Bool.false_eq_true, and_self, true_and, and_true, hw, eq_int, Bool.false_and]
        · intro s hs h
          rcases List.mem_append.mp hs with hs | hs
          · exact bx.2 s hs h
          · simp at hs
            subst hs
            exact absurd hzb h
        · intro s hs h
          rcases List.mem_append.mp hs with hs | hs
          · exact by1.2 s hs h
          · simp at hs
            subst hs
            exact absurd hzb h
      · have hlt : b < z.1 := by have := hb2 z hzS; omega
        have ol := cl2_ok he hb hz hlt
        have ou := cu2_ok he hb hz hlt
        have o1 := pmaxS ox ol 3
        have o2 := pminS oy ou 4
        have pl : pv (cl2 e b z) = cl e b z := rfl
        have pu : pv (cu2 e b z) = cu e b z := rfl
        refine ⟨[some (.tuple (S.map enc)), some (.int e), some (.int b), some (tp (if pv x < pv (cl2 e b z) then cl2 e b z else x)), some (tp (if pv (cu2 e b z) < pv y then cu2 e b z else y)), some (.bool ((pre ++ [z]).all (gd e b))), some (.int z.1), some (.int z.2), some (.int (z.1 - b))], rfl, .inl ?_, by rw [List.append_assoc]; exact hp, _, _, _, _, _, ?_, ?_, ?_, ?_, ⟨?_, ?_⟩, ⟨?_, ?_⟩, rfl⟩
        · rw [hall, show gd e b z = true by simp [gd, hzb], Bool.and_true]
          generalize hA : (if pv x < pv (cl2 e b z) then cl2 e b z else x) = A at o1 ⊢
          generalize hB : (if pv (cu2 e b z) < pv y then cu2 e b z else y) = B at o2 ⊢
          generalize pre.all (gd e b) = t
          have hw : z.1 - b ≠ 0 := by omega
          unfold cl2 at o1
          unfold cu2 at o2
          unfold tp at *
          simp -implicitDefEqProofs only [l1__law_begun, ↓ o1, ↓ o2, xVar_a, xC_a, xBin_a, xUn_a, tOf_a, tTru_a, tNotP_a, tAndP_a, tOrP_a, tyes_a, tno_a, tYesP_a, xNil_a, xCons_a, xTup_a, xLst_a, xAnd_a, xOr_a, xIf_a, xChain_a, oNo_a, oAt_a, xSl_a, xCall_a, xSeq_a, xIt_a, xLc_a, gSet_a, gTupD_a, gsNil_a, gsCons_a, sNop_a, sBrk_a, sCnt_a, sSeq_a, sRet_a, sIf_a, sSet_a, sTgt_a, sAug_a, sApp_a, sExt_a, sPut_a, sPutK_a, pkO_s, sFor_a, sWhile_a, sPar_a, runD_a, b2_s, c2_s, sqO_nx, sqO_rt, sqO_bk, sqO_ct, ifO_t, ifO_f, stO_s, endO_nx, endO_rt, andO_t, andO_f, orO_t, orO_f, chO_s, chP_t, chP_f, slO_s, atO_i, lcO_s, forO_s, gsO_s, nxO_s, tgO_s, paO_s, apO_s, exO_s, plO_s, ptO_s, dB_b, tru_b, tru_n, tru_i, tru_l, tru_t, is_n, isn_n, nn_n, nn_i, nn_b, nn_t, nn_l, add_ii, add'_ii, sub_ii, neg_i, lt_ii, le_ii, gt_ii, ge_ii, ix_l, ix_t, ix_s, at0, at1, at2, sl_l, sl_t, len_l, len_t, len_s, abs_i, int_i, int_b, max_ii, min_ii, tup_s, lst_s, seq_l, seq_t, sum_s, wipe_n, wipe_c, mul_ii, fdiv_ii, mod_ii, add_ll, add_tt, setAll, mkT, mkL, oNot, List.getD_cons_zero, List.getD_cons_succ, List.length_cons, List.length_nil, List.set_cons_zero, List.set_cons_succ, List.map_cons, List.map_nil, List.replicate, List.cons_append, List.nil_append, List.append_nil, Option.bind_some, Option.map_some, List.all_cons, List.all_nil, if_true, if_false, reduceIte, Nat.reduceAdd, Nat.reduceSub, Nat.reduceLT, Nat.reduceLeDiff, Nat.reduceEqDiff, decide_true, decide_false, Bool.and_true, Bool.and_self, Bool.true_and, Bool.not_true, Bool.not_false, ne_eq, not_true_eq_false, not_false_eq_true, Nat.zero_add, Bool.false_eq_true, and_self, true_and, and_true, hw, eq_int]
        · split
          · exact ol
          · exact ox
        · split
          · exact ou
          · exact oy
        · split
          · exact .inr ⟨z, hzS, hzb, rfl⟩
          · exact mx1
        · split
          · exact .inr ⟨z, hzS, hzb, rfl⟩
          · exact my1
        · have := bx.1
          split <;> grind
        · intro s hs h
          rcases List.mem_append.mp hs with hs | hs
          · have := bx.2 s hs h
            split <;> grind
          · simp at hs
            subst hs
            split <;> grind
        · have := by1.1
          split <;> grind
        · intro s hs h
          rcases List.mem_append.mp hs with hs | hs
          · have := by1.2 s hs h
            split <;> grind
          · simp at hs
            subst hs
            split <;> grind) S [] [some (.tuple (S.map enc)), some (.int e), some (.int b), some (tp (0, 1)), some (tp (99, 1)), some (.bool true), x4, x5, x6] ⟨rfl, (0, 1), (99, 1), x4, x5, x6, ⟨by decide, Sm.lit, Sm.lit⟩, ⟨by decide, Sm.lit, Sm.lit⟩, .inl rfl, .inl rfl, ⟨by decide +kernel, by simp⟩, ⟨by decide +kernel, by simp⟩, rfl⟩
  obtain ⟨x, y, a, c, d, h1, h2, h3, h4, h5, h6, e'⟩ := h
  subst e'
  exact ⟨x, y, a, c, d, h1, h2, h3, h4, h5, h6, e1⟩
theorem pv01 : pv (0, 1) = 0 := by decide +kernel
theorem pv991 : pv (99, 1) = 99 := by decide +kernel
theorem cl_le {e b : Int} (he0 : 0 ≤ e) {s : Sd} (hs : s.2 ≤ 99) (h : b < s.1) : cl e b s ≤ 99 := by
  unfold cl
  have hp : (0 : Rat) < ((s.1 - b : Int) : Rat) := cast_pos (by omega)
  rw [← Rat.not_lt, show (99 : Rat) = ((99 : Int) : Rat) / ((1 : Int) : Rat) from by decide +kernel, qlt (by decide) (by omega), Int.not_lt]
  omega
theorem cond_iff {S : List Sd} {e b : Int} (he0 : 0 ≤ e) (hd : ∀ s ∈ S, s.2 ≤ 99) (hb2 : ∀ s ∈ S, b ≤ s.1) {x y : Int × Int} (mx1 : x = (0, 1) ∨ ∃ s ∈ S, s.1 ≠ b ∧ x = cl2 e b s) (my1 : y = (99, 1) ∨ ∃ s ∈ S, s.1 ≠ b ∧ y = cu2 e b s) (bx : 0 ≤ pv x ∧ ∀ s ∈ S, s.1 ≠ b → cl e b s ≤ pv x) (by1 : pv y ≤ 99 ∧ ∀ s ∈ S, s.1 ≠ b → pv y ≤ cu e b s) : (S.all (gd e b) && !decide (pv y < pv x)) = true ↔ CB S e b := by
  rw [Bool.and_eq_true, List.all_eq_true, Bool.not_eq_true', decide_eq_false_iff_not, Rat.not_lt]
  constructor
  · rintro ⟨k1, k2⟩
    refine ⟨fun s hs h => ?_, fun s hs t ht h1 h2 => ?_, fun t ht h2 => ?_⟩
    · have := k1 s hs
      simpa [gd, h] using this
    · have := bx.2 s hs h1
      have := by1.2 t ht h2
      grind
    · have := bx.1
      have := by1.2 t ht h2
      grind
  · rintro ⟨k1, k2, k3⟩
    refine ⟨fun s hs => ?_, ?_⟩
    · by_cases h : s.1 = b
      · simp [gd, h, k1 s hs h]
      · simp [gd, h]
    · rcases mx1 with rfl | ⟨s, hs, h1, rfl⟩
      · rw [pv01]
        rcases my1 with rfl | ⟨t, ht, h2, rfl⟩
        · rw [pv991]
          decide +kernel
        · exact k3 t ht h2
      · rcases my1 with rfl | ⟨t, ht, h2, rfl⟩
        · rw [pv991]
          have := hb2 s hs
          exact cl_le he0 (hd s hs) (by omega)
        · exact k2 s hs t ht h1 h2
theorem law_begun_eq {s0 : Sd} {S' : List Sd} {e : Int} (hS : OkS (s0 :: S')) (hi : Inc (s0 :: S')) (he : Sm 10 e) (he0 : 0 ≤ e) (hd : ∀ s ∈ s0 :: S', s.2 ≤ 99) (h0 : 0 ≤ s0.1) : d__law_begun [.tuple ((s0 :: S').map enc), .int e] = some (begun (s0 :: S') e s0.1) := by
  have hs0 := hS s0 (by simp)
  have hr := oR3_down h0 hs0.1
  have hle : ∀ s ∈ s0 :: S', s0.1 ≤ s.1 := fun s hs => by
    rcases List.mem_cons.mp hs with rfl | hs
    · omega
    · have := (List.pairwise_cons.mp hi).1 s hs
      omega
  have key := forL_find (g := gSet 2) (b := l2__law_begun) (fun k : Nat => PyData.int (s0.1 - (k : Nat))) (fun k => cbB (s0 :: S') e (s0.1 - (k : Nat))) (fun ρ => ∃ a b c d f g h, ρ = [some (.tuple ((s0 :: S').map enc)), some (.int e), a, b, c, d, f, g, h]) (fun k : Nat => PyData.int (s0.1 - (k : Nat))) (List.range (s0.1 + 1).toNat) (fun k hk ρ ⟨a, b, c, d, f, g, h, e'⟩ => by
    subst e'
    have hk' : k < (s0.1 + 1).toNat := by simpa using hk
    have hsm : Sm 10 (s0.1 - (k : Nat)) := hs0.1.le (by omega)
    obtain ⟨x, y, a1, c1, d1, ox, oy, q1, q2, q3, q4, q5⟩ := begun_step (b := s0.1 - (k : Nat)) hS he hsm (fun s hs => by have := hle s hs; omega) b c d f g h
    have hc := cond_iff he0 hd (fun s hs => by have := hle s hs; omega) q1 q2 q3 q4
    rw [← cbB_iff] at hc
    have hl := less_tp oy ox
    unfold tp at q5 hl
    generalize hG : (s0 :: S').all (gd e (s0.1 - (k : Nat))) = G at hc q5
    generalize (s0 :: S').map enc = M at q5 ⊢
    refine ⟨[some (.tuple M), some (.int e), some (.int (s0.1 - (k : Nat))), b, c, d, f, g, h], rfl, fun hp => ?_, fun hp => ?_⟩
    · have ht := hc.mpr hp
      rw [Bool.and_eq_true] at ht
      obtain ⟨t1, t2⟩ := ht
      subst t1
      have t3 : decide (pv y < pv x) = false := by simpa using t2
      simp -implicitDefEqProofs only [l2__law_begun, xVar_a, xC_a, xBin_a, xUn_a, tOf_a, tTru_a, tNotP_a, tAndP_a, tOrP_a, tyes_a, tno_a, tYesP_a, xNil_a, xCons_a, xTup_a, xLst_a, xAnd_a, xOr_a, xIf_a, xChain_a, oNo_a, oAt_a, xSl_a, xCall_a, xSeq_a, xIt_a, xLc_a, gSet_a, gTupD_a, gsNil_a, gsCons_a, sNop_a, sBrk_a, sCnt_a, sSeq_a, sRet_a, sIf_a, sSet_a, sTgt_a, sAug_a, sApp_a, sExt_a, sPut_a, sPutK_a, pkO_s, sFor_a, sWhile_a, sPar_a, runD_a, b2_s, c2_s, sqO_nx, sqO_rt, sqO_bk, sqO_ct, ifO_t, ifO_f, stO_s, endO_nx, endO_rt, andO_t, andO_f, orO_t, orO_f, chO_s, chP_t, chP_f, slO_s, atO_i, lcO_s, forO_s, gsO_s, nxO_s, tgO_s, paO_s, apO_s, exO_s, plO_s, ptO_s, dB_b, tru_b, tru_n, tru_i, tru_l, tru_t, is_n, isn_n, nn_n, nn_i, nn_b, nn_t, nn_l, add_ii, add'_ii, sub_ii, neg_i, lt_ii, le_ii, gt_ii, ge_ii, ix_l, ix_t, ix_s, at0, at1, at2, sl_l, sl_t, len_l, len_t, len_s, abs_i, int_i, int_b, max_ii, min_ii, tup_s, lst_s, seq_l, seq_t, sum_s, wipe_n, wipe_c, mul_ii, fdiv_ii, mod_ii, add_ll, add_tt, setAll, mkT, mkL, oNot, List.getD_cons_zero, List.getD_cons_succ, List.length_cons, List.length_nil, List.set_cons_zero, List.set_cons_succ, List.map_cons, List.map_nil, List.replicate, List.cons_append, List.nil_append, List.append_nil, Option.bind_some, Option.map_some, List.all_cons, List.all_nil, if_true, if_false, reduceIte, Nat.reduceAdd, Nat.reduceSub, Nat.reduceLT, Nat.reduceLeDiff, Nat.reduceEqDiff, decide_true, decide_false, Bool.and_true, Bool.and_self, Bool.true_and, Bool.not_true, Bool.not_false, ne_eq, not_true_eq_false, not_false_eq_true, Nat.zero_add, Bool.false_eq_true, and_self, true_and, and_true, q5, hl, t3]
    · cases G with
      | false => exact ⟨[some (.tuple M), some (.int e), some (.int (s0.1 - (k : Nat))), some (.tuple [.int x.1, .int x.2]), some (.tuple [.int y.1, .int y.2]), some (.bool false), a1, c1, d1], by simp -implicitDefEqProofs only [l2__law_begun, xVar_a, xC_a, xBin_a, xUn_a, tOf_a, tTru_a, tNotP_a, tAndP_a, tOrP_a, tyes_a, tno_a, tYesP_a, xNil_a, xCons_a, xTup_a, xLst_a, xAnd_a, xOr_a, xIf_a, xChain_a, oNo_a, oAt_a, xSl_a, xCall_a, xSeq_a, xIt_a, xLc_a, gSet_a, gTupD_a, gsNil_a, gsCons_a, sNop_a, sBrk_a, sCnt_a, sSeq_a, sRet_a, sIf_a, sSet_a, sTgt_a, sAug_a, sApp_a, sExt_a, sPut_a, sPutK_a, pkO_s, sFor_a, sWhile_a, sPar_a, runD_a, b2_s, c2_s, sqO_nx, sqO_rt, sqO_bk, sqO_ct, ifO_t, ifO_f, stO_s, endO_nx, endO_rt, andO_t, andO_f, orO_t, orO_f, chO_s, chP_t, chP_f, slO_s, atO_i, lcO_s, forO_s, gsO_s, nxO_s, tgO_s, paO_s, apO_s, exO_s, plO_s, ptO_s, dB_b, tru_b, tru_n, tru_i, tru_l, tru_t, is_n, isn_n, nn_n, nn_i, nn_b, nn_t, nn_l, add_ii, add'_ii, sub_ii, neg_i, lt_ii, le_ii, gt_ii, ge_ii, ix_l, ix_t, ix_s, at0, at1, at2, sl_l, sl_t, len_l, len_t, len_s, abs_i, int_i, int_b, max_ii, min_ii, tup_s, lst_s, seq_l, seq_t, sum_s, wipe_n, wipe_c, mul_ii, fdiv_ii, mod_ii, add_ll, add_tt, setAll, mkT, mkL, oNot, List.getD_cons_zero, List.getD_cons_succ, List.length_cons, List.length_nil, List.set_cons_zero, List.set_cons_succ, List.map_cons, List.map_nil, List.replicate, List.cons_append, List.nil_append, List.append_nil, Option.bind_some, Option.map_some, List.all_cons, List.all_nil, if_true, if_false, reduceIte, Nat.reduceAdd, Nat.reduceSub, Nat.reduceLT, Nat.reduceLeDiff, Nat.reduceEqDiff, decide_true, decide_false, Bool.and_true, Bool.and_self, Bool.true_and, Bool.not_true, Bool.not_false, ne_eq, not_true_eq_false, not_false_eq_true, Nat.zero_add, Bool.false_eq_true, and_self, true_and, and_true, q5], _, _, _, _, _, _, _, rfl⟩
      | true =>
        have t3 : decide (pv y < pv x) = true := by
          cases hz : decide (pv y < pv x) with
          | true => rfl
          | false => rw [hz] at hc; rw [hc.mp rfl] at hp; cases hp
        exact ⟨[some (.tuple M), some (.int e), some (.int (s0.1 - (k : Nat))), some (.tuple [.int x.1, .int x.2]), some (.tuple [.int y.1, .int y.2]), some (.bool true), a1, c1, d1], by simp -implicitDefEqProofs only [l2__law_begun, xVar_a, xC_a, xBin_a, xUn_a, tOf_a, tTru_a, tNotP_a, tAndP_a, tOrP_a, tyes_a, tno_a, tYesP_a, xNil_a, xCons_a, xTup_a, xLst_a, xAnd_a, xOr_a, xIf_a, xChain_a, oNo_a, oAt_a, xSl_a, xCall_a, xSeq_a, xIt_a, xLc_a, gSet_a, gTupD_a, gsNil_a, gsCons_a, sNop_a, sBrk_a, sCnt_a, sSeq_a, sRet_a, sIf_a, sSet_a, sTgt_a, sAug_a, sApp_a, sExt_a, sPut_a, sPutK_a, pkO_s, sFor_a, sWhile_a, sPar_a, runD_a, b2_s, c2_s, sqO_nx, sqO_rt, sqO_bk, sqO_ct, ifO_t, ifO_f, stO_s, endO_nx, endO_rt, andO_t, andO_f, orO_t, orO_f, chO_s, chP_t, chP_f, slO_s, atO_i, lcO_s, forO_s, gsO_s, nxO_s, tgO_s, paO_s, apO_s, exO_s, plO_s, ptO_s, dB_b, tru_b, tru_n, tru_i, tru_l, tru_t, is_n, isn_n, nn_n, nn_i, nn_b, nn_t, nn_l, add_ii, add'_ii, sub_ii, neg_i, lt_ii, le_ii, gt_ii, ge_ii, ix_l, ix_t, ix_s, at0, at1, at2, sl_l, sl_t, len_l, len_t, len_s, abs_i, int_i, int_b, max_ii, min_ii, tup_s, lst_s, seq_l, seq_t, sum_s, wipe_n, wipe_c, mul_ii, fdiv_ii, mod_ii, add_ll, add_tt, setAll, mkT, mkL, oNot, List.getD_cons_zero, List.getD_cons_succ, List.length_cons, List.length_nil, List.set_cons_zero, List.set_cons_succ, List.map_cons, List.map_nil, List.replicate, List.cons_append, List.nil_append, List.append_nil, Option.bind_some, Option.map_some, List.all_cons, List.all_nil, if_true, if_false, reduceIte, Nat.reduceAdd, Nat.reduceSub, Nat.reduceLT, Nat.reduceLeDiff, Nat.reduceEqDiff, decide_true, decide_false, Bool.and_true, Bool.and_self, Bool.true_and, Bool.not_true, Bool.not_false, ne_eq, not_true_eq_false, not_false_eq_true, Nat.zero_add, Bool.false_eq_true, and_self, true_and, and_true, q5, hl, t3], _, _, _, _, _, _, _, rfl⟩) [some (.tuple ((s0 :: S').map enc)), some (.int e), none, none, none, none, none, none, none] ⟨none, none, none, none, none, none, none, rfl⟩
  have hi0 : oIx (.tuple ((s0 :: S').map enc)) (.int 0) = some (.tuple [.int s0.1, .int s0.2]) := by
    rw [ix_t, List.map_cons, at0]
    rfl
  unfold begun
  rcases key with ⟨k, f1, f2⟩ | ⟨f1, ρ', f2, a, b, c, d, f, g, h, e'⟩
  · rw [f1]
    generalize (s0 :: S').map enc = M at *
    simp -implicitDefEqProofs only [d__law_begun, g__law_begun, xBin_a, xVar_a, xC_a, hi0, List.getD_cons_zero, b2_s, xVar_a, xC_a, xBin_a, xUn_a, tOf_a, tTru_a, tNotP_a, tAndP_a, tOrP_a, tyes_a, tno_a, tYesP_a, xNil_a, xCons_a, xTup_a, xLst_a, xAnd_a, xOr_a, xIf_a, xChain_a, oNo_a, oAt_a, xSl_a, xCall_a, xSeq_a, xIt_a, xLc_a, gSet_a, gTupD_a, gsNil_a, gsCons_a, sNop_a, sBrk_a, sCnt_a, sSeq_a, sRet_a, sIf_a, sSet_a, sTgt_a, sAug_a, sApp_a, sExt_a, sPut_a, sPutK_a, pkO_s, sFor_a, sWhile_a, sPar_a, runD_a, b2_s, c2_s, sqO_nx, sqO_rt, sqO_bk, sqO_ct, ifO_t, ifO_f, stO_s, endO_nx, endO_rt, andO_t, andO_f, orO_t, orO_f, chO_s, chP_t, chP_f, slO_s, atO_i, lcO_s, forO_s, gsO_s, nxO_s, tgO_s, paO_s, apO_s, exO_s, plO_s, ptO_s, dB_b, tru_b, tru_n, tru_i, tru_l, tru_t, is_n, isn_n, nn_n, nn_i, nn_b, nn_t, nn_l, add_ii, add'_ii, sub_ii, neg_i, lt_ii, le_ii, gt_ii, ge_ii, ix_l, ix_t, ix_s, at0, at1, at2, sl_l, sl_t, len_l, len_t, len_s, abs_i, int_i, int_b, max_ii, min_ii, tup_s, lst_s, seq_l, seq_t, sum_s, wipe_n, wipe_c, mul_ii, fdiv_ii, mod_ii, add_ll, add_tt, setAll, mkT, mkL, oNot, List.getD_cons_zero, List.getD_cons_succ, List.length_cons, List.length_nil, List.set_cons_zero, List.set_cons_succ, List.map_cons, List.map_nil, List.replicate, List.cons_append, List.nil_append, List.append_nil, Option.bind_some, Option.map_some, List.all_cons, List.all_nil, if_true, if_false, reduceIte, Nat.reduceAdd, Nat.reduceSub, Nat.reduceLT, Nat.reduceLeDiff, Nat.reduceEqDiff, decide_true, decide_false, Bool.and_true, Bool.and_self, Bool.true_and, Bool.not_true, Bool.not_false, ne_eq, not_true_eq_false, not_false_eq_true, Nat.zero_add, Bool.false_eq_true, and_self, true_and, and_true, hr, f2, foundD]
  · rw [f1]
    subst e'
    generalize (s0 :: S').map enc = M at *
    simp -implicitDefEqProofs only [d__law_begun, g__law_begun, xBin_a, xVar_a, xC_a, hi0, List.getD_cons_zero, b2_s, xVar_a, xC_a, xBin_a, xUn_a, tOf_a, tTru_a, tNotP_a, tAndP_a, tOrP_a, tyes_a, tno_a, tYesP_a, xNil_a, xCons_a, xTup_a, xLst_a, xAnd_a, xOr_a, xIf_a, xChain_a, oNo_a, oAt_a, xSl_a, xCall_a, xSeq_a, xIt_a, xLc_a, gSet_a, gTupD_a, gsNil_a, gsCons_a, sNop_a, sBrk_a, sCnt_a, sSeq_a, sRet_a, sIf_a, sSet_a, sTgt_a, sAug_a, sApp_a, sExt_a, sPut_a, sPutK_a, pkO_s, sFor_a, sWhile_a, sPar_a, runD_a, b2_s, c2_s, sqO_nx, sqO_rt, sqO_bk, sqO_ct, ifO_t, ifO_f, stO_s, endO_nx, endO_rt, andO_t, andO_f, orO_t, orO_f, chO_s, chP_t, chP_f, slO_s, atO_i, lcO_s, forO_s, gsO_s, nxO_s, tgO_s, paO_s, apO_s, exO_s, plO_s, ptO_s, dB_b, tru_b, tru_n, tru_i, tru_l, tru_t, is_n, isn_n, nn_n, nn_i, nn_b, nn_t, nn_l, add_ii, add'_ii, sub_ii, neg_i, lt_ii, le_ii, gt_ii, ge_ii, ix_l, ix_t, ix_s, at0, at1, at2, sl_l, sl_t, len_l, len_t, len_s, abs_i, int_i, int_b, max_ii, min_ii, tup_s, lst_s, seq_l, seq_t, sum_s, wipe_n, wipe_c, mul_ii, fdiv_ii, mod_ii, add_ll, add_tt, setAll, mkT, mkL, oNot, List.getD_cons_zero, List.getD_cons_succ, List.length_cons, List.length_nil, List.set_cons_zero, List.set_cons_succ, List.map_cons, List.map_nil, List.replicate, List.cons_append, List.nil_append, List.append_nil, Option.bind_some, Option.map_some, List.all_cons, List.all_nil, if_true, if_false, reduceIte, Nat.reduceAdd, Nat.reduceSub, Nat.reduceLT, Nat.reduceLeDiff, Nat.reduceEqDiff, decide_true, decide_false, Bool.and_true, Bool.and_self, Bool.true_and, Bool.not_true, Bool.not_false, ne_eq, not_true_eq_false, not_false_eq_true, Nat.zero_add, Bool.false_eq_true, and_self, true_and, and_true, hr, f2, foundD]
end K28

namespace K28
open PySem PySem.Spec PyProof.Rows L2 Pm
/-! the law's lines -/
def enc3 (l : Int × Int × Int) : D := .tuple [.int l.1, .int l.2.1, .int l.2.2]
def ln (p : Sd × Sd) (o : Int × Int) : Int × Int × Int := (p.2.2 + o.2 - p.1.2 - o.1, (p.1.2 + o.1) * (p.2.1 - p.1.1) - (p.2.2 + o.2 - p.1.2 - o.1) * p.1.1, p.2.1 - p.1.1)
def lnOk (S : List Sd) (e : Int) (l : Int × Int × Int) : Bool := S.all fun s => decide (((l.2.1 + l.1 * s.1 - s.2 * l.2.2).natAbs : Int) ≤ e * l.2.2)
def offs (e : Int) : List (Int × Int) := [(-e, -e), (-e, e), (e, -e), (e, e)]
def lnsOf (S : List Sd) (e : Int) (p : Sd × Sd) : List (Int × Int × Int) := ((offs e).map (ln p)).filter (lnOk S e)
def lines (S : List Sd) (e : Int) : List (Int × Int × Int) := (pairs S).flatMap (lnsOf S e)
theorem lns_len (S : List Sd) (e : Int) (P : List (Sd × Sd)) : (P.flatMap (lnsOf S e)).length ≤ 4 * P.length := by
  induction P with
  | nil => simp
  | cons a P ih =>
    rw [List.flatMap_cons, List.length_append, List.length_cons]
    have : (lnsOf S e a).length ≤ 4 := by
      unfold lnsOf
      exact Nat.le_trans (List.length_filter_le _ _) (by simp [offs])
    omega
theorem offs_sm {e : Int} (he : Sm 10 e) {o : Int × Int} (h : o ∈ offs e) : Sm 10 o.1 ∧ Sm 10 o.2 := by
  simp only [offs, List.mem_cons, List.not_mem_nil, or_false] at h
  rcases h with rfl | rfl | rfl | rfl
  · exact ⟨he.neg, he.neg⟩
  · exact ⟨he.neg, he⟩
  · exact ⟨he, he.neg⟩
  · exact ⟨he, he⟩
theorem ln_sm {p : Sd × Sd} (hp : OkP p) {o : Int × Int} (ho : Sm 10 o.1 ∧ Sm 10 o.2) : Sm 13 (ln p o).1 ∧ Sm 30 (ln p o).2.1 ∧ Sm 11 (ln p o).2.2 := by
  have h1 : Sm 13 (p.2.2 + o.2 - p.1.2 - o.1) := ((((hp.2.2.2.2.add ho.2)).sub (hp.2.2.1.mono (by omega))).sub (ho.1.mono (by omega))).mono (by omega)
  have h2 : Sm 11 (p.2.1 - p.1.1) := okp_way hp
  have h3 : Sm 11 (p.1.2 + o.1) := (hp.2.2.1.add ho.1).mono (by omega)
  exact ⟨h1, (((h3.mul h2).mono (k := 29) (by omega)).sub ((h1.mul hp.2.1).mono (k := 29) (by omega))).mono (by omega), h2⟩
theorem lines_step {S : List Sd} {e : Int} (hS : OkS S) (he : Sm 10 e) (a b : Option D) (x y : Sd) (hxy : OkP (x, y)) (Q : List (Int × Int × Int)) (hQ : Q.length ≤ 10000) (a0 b0 c0 d0 f0 g0 : Option D) :
    ∃ a1 b1 c1 d1 f1 g1, forL (gTupD 2 (gsCons (gSet 8) (gsCons (gSet 9) gsNil))) l1__law_lines ((offs e).map tp) [some (.tuple (S.map enc)), some (.int e), some (.list (Q.map enc3)), a, b, some (.int (y.1 - x.1)), some (.tuple [.int x.1, .int x.2]), some (.tuple [.int y.1, .int y.2]), a0, b0, c0, d0, f0, g0] =
    some (.nx [some (.tuple (S.map enc)), some (.int e), some (.list ((Q ++ lnsOf S e (x, y)).map enc3)), a, b, some (.int (y.1 - x.1)), some (.tuple [.int x.1, .int x.2]), some (.tuple [.int y.1, .int y.2]), a1, b1, c1, d1, f1, g1]) := by
  obtain ⟨ρ', e1, h⟩ := forL_inv (g := gTupD 2 (gsCons (gSet 8) (gsCons (gSet 9) gsNil))) (b := l1__law_lines) tp
    (fun pre rest ρ => pre ++ rest = offs e ∧ ∃ a1 b1 c1 d1 f1 g1, ρ = [some (.tuple (S.map enc)), some (.int e), some (.list ((Q ++ (pre.map (ln (x, y))).filter (lnOk S e)).map enc3)), a, b, some (.int (y.1 - x.1)), some (.tuple [.int x.1, .int x.2]), some (.tuple [.int y.1, .int y.2]), a1, b1, c1, d1, f1, g1]) (fun pre o rest ρ ⟨hp, a1, b1, c1, d1, f1, g1, e'⟩ => by
      subst e'
      have ho := offs_sm he (o := o) (by rw [← hp]; simp)
      have hlen : pre.length ≤ 4 := by
        have := congrArg List.length hp
        simp [offs] at this
        omega
      obtain ⟨s1, s2, s3⟩ := ln_sm hxy ho
      have hf : ∀ t : Bool, lnOk S e (ln (x, y) o) = t → (Q ++ ((pre ++ [o]).map (ln (x, y))).filter (lnOk S e)).map enc3 = (Q ++ (pre.map (ln (x, y))).filter (lnOk S e)).map enc3 ++ (if t then [enc3 (ln (x, y) o)] else []) := by
        intro t ht
        rw [List.map_append (l₁ := pre), List.filter_append, ← List.append_assoc, List.map_append, List.map_singleton]
        cases t with
        | true => rw [List.filter_cons_of_pos ht]; rfl
        | false => rw [List.filter_cons_of_neg (by rw [ht]; decide)]; rfl
      have hl16 : ((Q ++ (pre.map (ln (x, y))).filter (lnOk S e)).map enc3).length < 16777216 := by
        rw [List.length_map, List.length_append]
        have := List.length_filter_le (lnOk S e) (pre.map (ln (x, y)))
        rw [List.length_map] at this
        omega
      have k1 : mulOk (x.2 + o.1) (y.1 - x.1) = true := (hxy.2.2.1.add ho.1).mulOk s3 (by omega) (by omega)
      have k2 : mulOk (y.2 + o.2 - x.2 - o.1) x.1 = true := s1.mulOk hxy.2.1 (by omega) (by omega)
      have k3 : mulOk e (y.1 - x.1) = true := he.mulOk s3 (by omega) (by omega)
      have hlc : lcL (gTupD 2 (gsCons (gSet 12) (gsCons (gSet 13) gsNil))) tYesP (xBin oLe (xCall bAbs (xCons (xBin oSub (xBin oAdd (xVar 11) (xBin oMul' (xVar 10) (xVar 12))) (xBin oMul' (xVar 13) (xVar 5))) xNil)) (xBin oMul' (xVar 1) (xVar 5)))
          [some (.tuple (S.map enc)), some (.int e), some (.list ((Q ++ (pre.map (ln (x, y))).filter (lnOk S e)).map enc3)), a, b, some (.int (y.1 - x.1)), some (.tuple [.int x.1, .int x.2]), some (.tuple [.int y.1, .int y.2]), some (.int o.1), some (.int o.2), some (.int (ln (x, y) o).1), some (.int (ln (x, y) o).2.1), none, none] (S.map enc) = some (S.map fun s => PyData.bool (decide ((((ln (x, y) o).2.1 + (ln (x, y) o).1 * s.1 - s.2 * (ln (x, y) o).2.2).natAbs : Int) ≤ e * (ln (x, y) o).2.2))) := by
        refine lcL_map _ _ _ fun s hs => ?_
        have hs' := hS s hs
        have m1 := s1.mulOk hs'.1 (by omega) (by omega)
        have m2 : mulOk s.2 (y.1 - x.1) = true := hs'.2.mulOk s3 (by omega) (by omega)
        have hw : (ln (x, y) o).2.2 = y.1 - x.1 := rfl
        rw [hw]
        generalize (ln (x, y) o).2.1 = B at *
        generalize (ln (x, y) o).1 = R at *
        simp -implicitDefEqProofs only [enc, xVar_a, xC_a, xBin_a, xUn_a, tOf_a, tTru_a, tNotP_a, tAndP_a, tOrP_a, tyes_a, tno_a, tYesP_a, xNil_a, xCons_a, xTup_a, xLst_a, xAnd_a, xOr_a, xIf_a, xChain_a, oNo_a, oAt_a, xSl_a, xCall_a, xSeq_a, xIt_a, xLc_a, gSet_a, gTupD_a, gsNil_a, gsCons_a, sNop_a, sBrk_a, sCnt_a, sSeq_a, sRet_a, sIf_a, sSet_a, sTgt_a, sAug_a, sApp_a, sExt_a, sPut_a, sPutK_a, pkO_s, sFor_a, sWhile_a, sPar_a, runD_a, b2_s, c2_s, sqO_nx, sqO_rt, sqO_bk, sqO_ct, ifO_t, ifO_f, stO_s, endO_nx, endO_rt, andO_t, andO_f, orO_t, orO_f, chO_s, chP_t, chP_f, slO_s, atO_i, lcO_s, forO_s, gsO_s, nxO_s, tgO_s, paO_s, apO_s, exO_s, plO_s, ptO_s, dB_b, tru_b, tru_n, tru_i, tru_l, tru_t, is_n, isn_n, nn_n, nn_i, nn_b, nn_t, nn_l, add_ii, add'_ii, sub_ii, neg_i, lt_ii, le_ii, gt_ii, ge_ii, ix_l, ix_t, ix_s, at0, at1, at2, sl_l, sl_t, len_l, len_t, len_s, abs_i, int_i, int_b, max_ii, min_ii, tup_s, lst_s, seq_l, seq_t, sum_s, wipe_n, wipe_c, mul_ii, fdiv_ii, mod_ii, add_ll, add_tt, setAll, mkT, mkL, oNot, List.getD_cons_zero, List.getD_cons_succ, List.length_cons, List.length_nil, List.set_cons_zero, List.set_cons_succ, List.map_cons, List.map_nil, List.replicate, List.cons_append, List.nil_append, List.append_nil, Option.bind_some, Option.map_some, List.all_cons, List.all_nil, if_true, if_false, reduceIte, Nat.reduceAdd, Nat.reduceSub, Nat.reduceLT, Nat.reduceLeDiff, Nat.reduceEqDiff, decide_true, decide_false, Bool.and_true, Bool.and_self, Bool.true_and, Bool.not_true, Bool.not_false, ne_eq, not_true_eq_false, not_false_eq_true, Nat.zero_add, Bool.false_eq_true, and_self, true_and, and_true, m1, m2, k3, abs_eq]
      have hb := asBools_map (S.map fun s => decide ((((ln (x, y) o).2.1 + (ln (x, y) o).1 * s.1 - s.2 * (ln (x, y) o).2.2).natAbs : Int) ≤ e * (ln (x, y) o).2.2))
      rw [List.map_map] at hb
      have hbA : bAll [.list (S.map fun s => PyData.bool (decide ((((ln (x, y) o).2.1 + (ln (x, y) o).1 * s.1 - s.2 * (ln (x, y) o).2.2).natAbs : Int) ≤ e * (ln (x, y) o).2.2)))] = some (.bool (lnOk S e (ln (x, y) o))) := by
        show (asBools (S.map fun s => PyData.bool (decide ((((ln (x, y) o).2.1 + (ln (x, y) o).1 * s.1 - s.2 * (ln (x, y) o).2.2).natAbs : Int) ≤ e * (ln (x, y) o).2.2)))).map _ = _
        have hb' : asBools (S.map fun s => PyData.bool (decide ((((ln (x, y) o).2.1 + (ln (x, y) o).1 * s.1 - s.2 * (ln (x, y) o).2.2).natAbs : Int) ≤ e * (ln (x, y) o).2.2))) = _ := hb
        rw [hb']
        unfold lnOk
        simp [List.all_map, Function.comp_def]
      refine ⟨[some (.tuple (S.map enc)), some (.int e), some (.list ((Q ++ (pre.map (ln (x, y))).filter (lnOk S e)).map enc3)), a, b, some (.int (y.1 - x.1)), some (.tuple [.int x.1, .int x.2]), some (.tuple [.int y.1, .int y.2]), some (.int o.1), some (.int o.2), c1, d1, f1, g1], [some (.tuple (S.map enc)), some (.int e), some (.list ((Q ++ ((pre ++ [o]).map (ln (x, y))).filter (lnOk S e)).map enc3)), a, b, some (.int (y.1 - x.1)), some (.tuple [.int x.1, .int x.2]), some (.tuple [.int y.1, .int y.2]), some (.int o.1), some (.int o.2), some (.int (ln (x, y) o).1), some (.int (ln (x, y) o).2.1), f1, g1], rfl, .inl ?_, by rw [List.append_assoc]; exact hp, _, _, _, _, _, _, rfl⟩
      rw [hf _ rfl]
      generalize (Q ++ (pre.map (ln (x, y))).filter (lnOk S e)).map enc3 = M at *
      generalize lnOk S e (ln (x, y) o) = t at *
      generalize (S.map fun s => PyData.bool (decide ((((ln (x, y) o).2.1 + (ln (x, y) o).1 * s.1 - s.2 * (ln (x, y) o).2.2).natAbs : Int) ≤ e * (ln (x, y) o).2.2))) = N at *
      generalize S.map enc = MM at *
      have r1 : y.2 + o.2 - x.2 - o.1 = (ln (x, y) o).1 := rfl
      have r2 : (x.2 + o.1) * (y.1 - x.1) - (ln (x, y) o).1 * x.1 = (ln (x, y) o).2.1 := rfl
      rw [r1] at k2
      cases t with
      | true =>
        rw [if_pos rfl]
        simp -implicitDefEqProofs only [l1__law_lines, xVar_a, xC_a, xBin_a, xUn_a, tOf_a, tTru_a, tNotP_a, tAndP_a, tOrP_a, tyes_a, tno_a, tYesP_a, xNil_a, xCons_a, xTup_a, xLst_a, xAnd_a, xOr_a, xIf_a, xChain_a, oNo_a, oAt_a, xSl_a, xCall_a, xSeq_a, xIt_a, xLc_a, gSet_a, gTupD_a, gsNil_a, gsCons_a, sNop_a, sBrk_a, sCnt_a, sSeq_a, sRet_a, sIf_a, sSet_a, sTgt_a, sAug_a, sApp_a, sExt_a, sPut_a, sPutK_a, pkO_s, sFor_a, sWhile_a, sPar_a, runD_a, b2_s, c2_s, sqO_nx, sqO_rt, sqO_bk, sqO_ct, ifO_t, ifO_f, stO_s, endO_nx, endO_rt, andO_t, andO_f, orO_t, orO_f, chO_s, chP_t, chP_f, slO_s, atO_i, lcO_s, forO_s, gsO_s, nxO_s, tgO_s, paO_s, apO_s, exO_s, plO_s, ptO_s, dB_b, tru_b, tru_n, tru_i, tru_l, tru_t, is_n, isn_n, nn_n, nn_i, nn_b, nn_t, nn_l, add_ii, add'_ii, sub_ii, neg_i, lt_ii, le_ii, gt_ii, ge_ii, ix_l, ix_t, ix_s, at0, at1, at2, sl_l, sl_t, len_l, len_t, len_s, abs_i, int_i, int_b, max_ii, min_ii, tup_s, lst_s, seq_l, seq_t, sum_s, wipe_n, wipe_c, mul_ii, fdiv_ii, mod_ii, add_ll, add_tt, setAll, mkT, mkL, oNot, List.getD_cons_zero, List.getD_cons_succ, List.length_cons, List.length_nil, List.set_cons_zero, List.set_cons_succ, List.map_cons, List.map_nil, List.replicate, List.cons_append, List.nil_append, List.append_nil, Option.bind_some, Option.map_some, List.all_cons, List.all_nil, if_true, if_false, reduceIte, Nat.reduceAdd, Nat.reduceSub, Nat.reduceLT, Nat.reduceLeDiff, Nat.reduceEqDiff, decide_true, decide_false, Bool.and_true, Bool.and_self, Bool.true_and, Bool.not_true, Bool.not_false, ne_eq, not_true_eq_false, not_false_eq_true, Nat.zero_add, Bool.false_eq_true, and_self, true_and, and_true, k1, k2, r1, r2, hlc, hbA, hl16]
        rfl
      | false =>
        simp -implicitDefEqProofs only [l1__law_lines, xVar_a, xC_a, xBin_a, xUn_a, tOf_a, tTru_a, tNotP_a, tAndP_a, tOrP_a, tyes_a, tno_a, tYesP_a, xNil_a, xCons_a, xTup_a, xLst_a, xAnd_a, xOr_a, xIf_a, xChain_a, oNo_a, oAt_a, xSl_a, xCall_a, xSeq_a, xIt_a, xLc_a, gSet_a, gTupD_a, gsNil_a, gsCons_a, sNop_a, sBrk_a, sCnt_a, sSeq_a, sRet_a, sIf_a, sSet_a, sTgt_a, sAug_a, sApp_a, sExt_a, sPut_a, sPutK_a, pkO_s, sFor_a, sWhile_a, sPar_a, runD_a, b2_s, c2_s, sqO_nx, sqO_rt, sqO_bk, sqO_ct, ifO_t, ifO_f, stO_s, endO_nx, endO_rt, andO_t, andO_f, orO_t, orO_f, chO_s, chP_t, chP_f, slO_s, atO_i, lcO_s, forO_s, gsO_s, nxO_s, tgO_s, paO_s, apO_s, exO_s, plO_s, ptO_s, dB_b, tru_b, tru_n, tru_i, tru_l, tru_t, is_n, isn_n, nn_n, nn_i, nn_b, nn_t, nn_l, add_ii, add'_ii, sub_ii, neg_i, lt_ii, le_ii, gt_ii, ge_ii, ix_l, ix_t, ix_s, at0, at1, at2, sl_l, sl_t, len_l, len_t, len_s, abs_i, int_i, int_b, max_ii, min_ii, tup_s, lst_s, seq_l, seq_t, sum_s, wipe_n, wipe_c, mul_ii, fdiv_ii, mod_ii, add_ll, add_tt, setAll, mkT, mkL, oNot, List.getD_cons_zero, List.getD_cons_succ, List.length_cons, List.length_nil, List.set_cons_zero, List.set_cons_succ, List.map_cons, List.map_nil, List.replicate, List.cons_append, List.nil_append, List.append_nil, Option.bind_some, Option.map_some, List.all_cons, List.all_nil, if_true, if_false, reduceIte, Nat.reduceAdd, Nat.reduceSub, Nat.reduceLT, Nat.reduceLeDiff, Nat.reduceEqDiff, decide_true, decide_false, Bool.and_true, Bool.and_self, Bool.true_and, Bool.not_true, Bool.not_false, ne_eq, not_true_eq_false, not_false_eq_true, Nat.zero_add, Bool.false_eq_true, and_self, true_and, and_true, k1, k2, r1, r2, hlc, hbA]) (offs e) [] [some (.tuple (S.map enc)), some (.int e), some (.list (Q.map enc3)), a, b, some (.int (y.1 - x.1)), some (.tuple [.int x.1, .int x.2]), some (.tuple [.int y.1, .int y.2]), a0, b0, c0, d0, f0, g0] ⟨rfl, a0, b0, c0, d0, f0, g0, by simp⟩
  obtain ⟨_, a1, b1, c1, d1, f1, g1, e'⟩ := h
  subst e'
  exact ⟨a1, b1, c1, d1, f1, g1, e1⟩
end K28

namespace K28
open PySem PySem.Spec PyProof.Rows L2 Pm
theorem ll_loop1 {S : List Sd} {e : Int} (hS : OkS S) (he : Sm 10 e) (x : Sd × Nat) (hx : S[x.2]? = some x.1) (T : List (Sd × Nat)) (Q : List (Int × Int × Int)) (hT : ∀ t ∈ T, S[t.2]? = some t.1 ∧ OkP (x.1, t.1)) (hQ : Q.length + 4 * T.length ≤ 10000) (a0 b0 c0 d0 f0 g0 h0 i0 j0 k0 : Option D) :
    ∃ a b c d f g h i j k, forL (gSet 4) l2__law_lines (T.map fun p => .int (p.2 : Nat)) [some (.tuple (S.map enc)), some (.int e), some (.list (Q.map enc3)), some (.int x.2), a0, b0, c0, d0, f0, g0, h0, i0, j0, k0] =
    some (.nx [some (.tuple (S.map enc)), some (.int e), some (.list ((Q ++ (T.map fun t => (x.1, t.1)).flatMap (lnsOf S e)).map enc3)), some (.int x.2), a, b, c, d, f, g, h, i, j, k]) := by
  have i1 := atI_enc hx
  obtain ⟨ρ', e1, h⟩ := forL_inv (g := gSet 4) (b := l2__law_lines) (fun p : Sd × Nat => .int (p.2 : Nat))
    (fun pre rest ρ => pre ++ rest = T ∧ ∃ a b c d f g h i j k, ρ = [some (.tuple (S.map enc)), some (.int e), some (.list ((Q ++ (pre.map fun t => (x.1, t.1)).flatMap (lnsOf S e)).map enc3)), some (.int x.2), a, b, c, d, f, g, h, i, j, k]) (fun pre y rest ρ ⟨hp, a, b, c, d, f, g, h, i, j, k, e'⟩ => by
      subst e'
      obtain ⟨hy1, hy⟩ := hT y (by rw [← hp]; simp)
      have i2 := atI_enc hy1
      have hlen : (Q ++ (pre.map fun t => (x.1, t.1)).flatMap (lnsOf S e)).length ≤ 10000 := by
        have h1 : pre.length + (rest.length + 1) = T.length := by rw [← hp]; simp
        have := lns_len S e (pre.map fun t => (x.1, t.1))
        rw [List.length_map] at this
        rw [List.length_append]
        omega
      obtain ⟨a1, b1, c1, d1, f1, g1, e2⟩ := lines_step hS he (some (.int x.2)) (some (.int y.2)) x.1 y.1 hy _ hlen f g h i j k
      refine ⟨[some (.tuple (S.map enc)), some (.int e), some (.list ((Q ++ (pre.map fun t => (x.1, t.1)).flatMap (lnsOf S e)).map enc3)), some (.int x.2), some (.int y.2), b, c, d, f, g, h, i, j, k], [some (.tuple (S.map enc)), some (.int e), some (.list ((Q ++ ((pre ++ [y]).map fun t => (x.1, t.1)).flatMap (lnsOf S e)).map enc3)), some (.int x.2), some (.int y.2), some (.int (y.1.1 - x.1.1)), some (enc x.1), some (enc y.1), a1, b1, c1, d1, f1, g1], rfl, .inl ?_, by rw [List.append_assoc]; exact hp, _, _, _, _, _, _, _, _, _, _, rfl⟩
      have hq : Q ++ ((pre ++ [y]).map fun t => (x.1, t.1)).flatMap (lnsOf S e) = Q ++ (pre.map fun t => (x.1, t.1)).flatMap (lnsOf S e) ++ lnsOf S e (x.1, y.1) := by
        rw [List.map_append (l₁ := pre), List.flatMap_append, ← List.append_assoc]
        simp
      rw [hq]
      generalize (Q ++ (pre.map fun t => (x.1, t.1)).flatMap (lnsOf S e) ++ lnsOf S e (x.1, y.1)).map enc3 = M1 at *
      generalize (Q ++ (pre.map fun t => (x.1, t.1)).flatMap (lnsOf S e)).map enc3 = M2 at *
      generalize S.map enc = MM at *
      simp only [offs, List.map_cons, List.map_nil, tp] at e2
      unfold enc at i1 i2 ⊢
      simp -implicitDefEqProofs only [l2__law_lines, xVar_a, xC_a, xBin_a, xUn_a, tOf_a, tTru_a, tNotP_a, tAndP_a, tOrP_a, tyes_a, tno_a, tYesP_a, xNil_a, xCons_a, xTup_a, xLst_a, xAnd_a, xOr_a, xIf_a, xChain_a, oNo_a, oAt_a, xSl_a, xCall_a, xSeq_a, xIt_a, xLc_a, gSet_a, gTupD_a, gsNil_a, gsCons_a, sNop_a, sBrk_a, sCnt_a, sSeq_a, sRet_a, sIf_a, sSet_a, sTgt_a, sAug_a, sApp_a, sExt_a, sPut_a, sPutK_a, pkO_s, sFor_a, sWhile_a, sPar_a, runD_a, b2_s, c2_s, sqO_nx, sqO_rt, sqO_bk, sqO_ct, ifO_t, ifO_f, stO_s, endO_nx, endO_rt, andO_t, andO_f, orO_t, orO_f, chO_s, chP_t, chP_f, slO_s, atO_i, lcO_s, forO_s, gsO_s, nxO_s, tgO_s, paO_s, apO_s, exO_s, plO_s, ptO_s, dB_b, tru_b, tru_n, tru_i, tru_l, tru_t, is_n, isn_n, nn_n, nn_i, nn_b, nn_t, nn_l, add_ii, add'_ii, sub_ii, neg_i, lt_ii, le_ii, gt_ii, ge_ii, ix_l, ix_t, ix_s, at0, at1, at2, sl_l, sl_t, len_l, len_t, len_s, abs_i, int_i, int_b, max_ii, min_ii, tup_s, lst_s, seq_l, seq_t, sum_s, wipe_n, wipe_c, mul_ii, fdiv_ii, mod_ii, add_ll, add_tt, setAll, mkT, mkL, oNot, List.getD_cons_zero, List.getD_cons_succ, List.length_cons, List.length_nil, List.set_cons_zero, List.set_cons_succ, List.map_cons, List.map_nil, List.replicate, List.cons_append, List.nil_append, List.append_nil, Option.bind_some, Option.map_some, List.all_cons, List.all_nil, if_true, if_false, reduceIte, Nat.reduceAdd, Nat.reduceSub, Nat.reduceLT, Nat.reduceLeDiff, Nat.reduceEqDiff, decide_true, decide_false, Bool.and_true, Bool.and_self, Bool.true_and, Bool.not_true, Bool.not_false, ne_eq, not_true_eq_false, not_false_eq_true, Nat.zero_add, Bool.false_eq_true, and_self, true_and, and_true, i1, i2, e2]) T [] [some (.tuple (S.map enc)), some (.int e), some (.list (Q.map enc3)), some (.int x.2), a0, b0, c0, d0, f0, g0, h0, i0, j0, k0] ⟨rfl, a0, b0, c0, d0, f0, g0, h0, i0, j0, k0, by simp⟩
  obtain ⟨_, a, b, c, d, f, g, h, i, j, k, e'⟩ := h
  subst e'
  exact ⟨a, b, c, d, f, g, h, i, j, k, e1⟩
theorem law_lines_eq {S : List Sd} {e : Int} (hS : OkS S) (hi : Inc S) (hl : S.length ≤ 1000) (hpl : (pairs S).length ≤ 1000) (he : Sm 10 e) : d__law_lines [.tuple (S.map enc), .int e] = some (.list ((lines S e).map enc3)) := by
  have hr1 := oR1_zip enc S hl
  obtain ⟨ρ', e1, h⟩ := forL_inv (g := gSet 3) (b := l3__law_lines) (fun p : Sd × Nat => .int (p.2 : Nat))
    (fun pre rest ρ => pre ++ rest = S.zipIdx ∧ ∃ P, P ++ pairs (rest.map Prod.fst) = pairs S ∧ ∃ a b c d f g h i j k l, ρ = [some (.tuple (S.map enc)), some (.int e), some (.list ((P.flatMap (lnsOf S e)).map enc3)), a, b, c, d, f, g, h, i, j, k, l]) (fun pre x rest ρ ⟨hp, P, hP, a, b, c, d, f, g, h, i, j, k, l, e'⟩ => by
      subst e'
      have hx2 := zipIdx_split hp
      have hTm : ∀ t ∈ (S.drop (x.2 + 1)).zipIdx (x.2 + 1), S[t.2]? = some t.1 ∧ OkP (x.1, t.1) := fun t h => by
        refine ⟨zip_get h, okp_of hS hi ?_⟩
        have h1 : t.1 ∈ ((S.drop (x.2 + 1)).zipIdx (x.2 + 1)).map Prod.fst := List.mem_map_of_mem h
        rw [zip_fst, hx2.2.1] at h1
        rw [← hP]
        simp only [List.map_cons, pairs]
        simp only [List.mem_append, List.mem_map]
        exact .inr (.inl ⟨t.1, by simpa using h1, rfl⟩)
      have hr2 := oR2_zip enc S x.2 hl hx2.2.2.1
      have hT : ((S.drop (x.2 + 1)).zipIdx (x.2 + 1)).map (fun t => (x.1, t.1)) = (rest.map Prod.fst).map fun t => (x.1, t) := by
        rw [← hx2.2.1]
        conv => rhs; rw [← zip_fst (S := S) (k := x.2 + 1), List.map_map]
        rfl
      have hlen : (P.flatMap (lnsOf S e)).length + 4 * ((S.drop (x.2 + 1)).zipIdx (x.2 + 1)).length ≤ 10000 := by
        have := congrArg List.length hP
        simp only [List.map_cons, pairs, List.length_append, List.length_map] at this
        have h1 := lns_len S e P
        have h2 := congrArg List.length hT
        rw [List.length_map, List.length_map, List.length_map] at h2
        omega
      obtain ⟨a1, b1, c1, d1, f1, g1, h1, i1, j1, k1, e2⟩ := ll_loop1 hS he x hx2.2.2.2.1 ((S.drop (x.2 + 1)).zipIdx (x.2 + 1)) (P.flatMap (lnsOf S e)) hTm hlen b c d f g h i j k l
      rw [hT, ← List.flatMap_append] at e2
      refine ⟨[some (.tuple (S.map enc)), some (.int e), some (.list ((P.flatMap (lnsOf S e)).map enc3)), some (.int x.2), b, c, d, f, g, h, i, j, k, l], _, rfl, .inl ?_, by rw [List.append_assoc]; exact hp, _, pairs_pre (pre := []) hP, some (.int x.2), a1, b1, c1, d1, f1, g1, h1, i1, j1, k1, rfl⟩
      simp -implicitDefEqProofs only [l3__law_lines, xVar_a, xC_a, xBin_a, xUn_a, tOf_a, tTru_a, tNotP_a, tAndP_a, tOrP_a, tyes_a, tno_a, tYesP_a, xNil_a, xCons_a, xTup_a, xLst_a, xAnd_a, xOr_a, xIf_a, xChain_a, oNo_a, oAt_a, xSl_a, xCall_a, xSeq_a, xIt_a, xLc_a, gSet_a, gTupD_a, gsNil_a, gsCons_a, sNop_a, sBrk_a, sCnt_a, sSeq_a, sRet_a, sIf_a, sSet_a, sTgt_a, sAug_a, sApp_a, sExt_a, sPut_a, sPutK_a, pkO_s, sFor_a, sWhile_a, sPar_a, runD_a, b2_s, c2_s, sqO_nx, sqO_rt, sqO_bk, sqO_ct, ifO_t, ifO_f, stO_s, endO_nx, endO_rt, andO_t, andO_f, orO_t, orO_f, chO_s, chP_t, chP_f, slO_s, atO_i, lcO_s, forO_s, gsO_s, nxO_s, tgO_s, paO_s, apO_s, exO_s, plO_s, ptO_s, dB_b, tru_b, tru_n, tru_i, tru_l, tru_t, is_n, isn_n, nn_n, nn_i, nn_b, nn_t, nn_l, add_ii, add'_ii, sub_ii, neg_i, lt_ii, le_ii, gt_ii, ge_ii, ix_l, ix_t, ix_s, at0, at1, at2, sl_l, sl_t, len_l, len_t, len_s, abs_i, int_i, int_b, max_ii, min_ii, tup_s, lst_s, seq_l, seq_t, sum_s, wipe_n, wipe_c, mul_ii, fdiv_ii, mod_ii, add_ll, add_tt, setAll, mkT, mkL, oNot, List.getD_cons_zero, List.getD_cons_succ, List.length_cons, List.length_nil, List.set_cons_zero, List.set_cons_succ, List.map_cons, List.map_nil, List.replicate, List.cons_append, List.nil_append, List.append_nil, Option.bind_some, Option.map_some, List.all_cons, List.all_nil, if_true, if_false, reduceIte, Nat.reduceAdd, Nat.reduceSub, Nat.reduceLT, Nat.reduceLeDiff, Nat.reduceEqDiff, decide_true, decide_false, Bool.and_true, Bool.and_self, Bool.true_and, Bool.not_true, Bool.not_false, ne_eq, not_true_eq_false, not_false_eq_true, Nat.zero_add, Bool.false_eq_true, and_self, true_and, and_true, hr2, e2]) S.zipIdx [] [some (.tuple (S.map enc)), some (.int e), some (.list []), none, none, none, none, none, none, none, none, none, none, none] ⟨rfl, [], by simp, none, none, none, none, none, none, none, none, none, none, none, rfl⟩
  obtain ⟨_, P, hP, a, b, c, d, f, g, h, i, j, k, l, e'⟩ := h
  subst e'
  simp only [List.map_nil, pairs, List.append_nil] at hP
  subst hP
  unfold lines
  simp -implicitDefEqProofs only [d__law_lines, g__law_lines, xVar_a, xC_a, xBin_a, xUn_a, tOf_a, tTru_a, tNotP_a, tAndP_a, tOrP_a, tyes_a, tno_a, tYesP_a, xNil_a, xCons_a, xTup_a, xLst_a, xAnd_a, xOr_a, xIf_a, xChain_a, oNo_a, oAt_a, xSl_a, xCall_a, xSeq_a, xIt_a, xLc_a, gSet_a, gTupD_a, gsNil_a, gsCons_a, sNop_a, sBrk_a, sCnt_a, sSeq_a, sRet_a, sIf_a, sSet_a, sTgt_a, sAug_a, sApp_a, sExt_a, sPut_a, sPutK_a, pkO_s, sFor_a, sWhile_a, sPar_a, runD_a, b2_s, c2_s, sqO_nx, sqO_rt, sqO_bk, sqO_ct, ifO_t, ifO_f, stO_s, endO_nx, endO_rt, andO_t, andO_f, orO_t, orO_f, chO_s, chP_t, chP_f, slO_s, atO_i, lcO_s, forO_s, gsO_s, nxO_s, tgO_s, paO_s, apO_s, exO_s, plO_s, ptO_s, dB_b, tru_b, tru_n, tru_i, tru_l, tru_t, is_n, isn_n, nn_n, nn_i, nn_b, nn_t, nn_l, add_ii, add'_ii, sub_ii, neg_i, lt_ii, le_ii, gt_ii, ge_ii, ix_l, ix_t, ix_s, at0, at1, at2, sl_l, sl_t, len_l, len_t, len_s, abs_i, int_i, int_b, max_ii, min_ii, tup_s, lst_s, seq_l, seq_t, sum_s, wipe_n, wipe_c, mul_ii, fdiv_ii, mod_ii, add_ll, add_tt, setAll, mkT, mkL, oNot, List.getD_cons_zero, List.getD_cons_succ, List.length_cons, List.length_nil, List.set_cons_zero, List.set_cons_succ, List.map_cons, List.map_nil, List.replicate, List.cons_append, List.nil_append, List.append_nil, Option.bind_some, Option.map_some, List.all_cons, List.all_nil, if_true, if_false, reduceIte, Nat.reduceAdd, Nat.reduceSub, Nat.reduceLT, Nat.reduceLeDiff, Nat.reduceEqDiff, decide_true, decide_false, Bool.and_true, Bool.and_self, Bool.true_and, Bool.not_true, Bool.not_false, ne_eq, not_true_eq_false, not_false_eq_true, Nat.zero_add, Bool.false_eq_true, and_self, true_and, and_true, hr1, e1]
end K28

namespace K28
open PySem PySem.Spec PyProof.Rows L2 Pm
/-! plain facts of lines -/
theorem mul_le_pos {x y w : Rat} (hw : 0 < w) : x * w ≤ y * w ↔ x ≤ y := by
  constructor
  · intro h
    rw [← Rat.not_lt] at h ⊢
    intro h2
    exact h (Rat.mul_lt_mul_of_pos_right h2 hw)
  · intro h
    exact Rat.mul_le_mul_of_nonneg_right h (by grind)
theorem div_le_p {a w r : Rat} (hw : 0 < w) : a / w ≤ r ↔ a ≤ r * w := by
  rw [← mul_le_pos hw, Rat.div_mul_cancel (by grind)]
theorem le_div_p {a w r : Rat} (hw : 0 < w) : r ≤ a / w ↔ r * w ≤ a := by
  rw [← mul_le_pos hw, Rat.div_mul_cancel (by grind)]
theorem lt_cast {a b : Int} (h : a < b) : (a : Rat) < (b : Rat) := Rat.intCast_lt_intCast.mpr h
theorem plo_le {e : Int} {p : Sd × Sd} {r : Rat} (h : p.1.1 < p.2.1) : plo e p ≤ r ↔ (p.2.2 : Rat) - p.1.2 - 2 * e ≤ r * ((p.2.1 : Rat) - p.1.1) := by
  unfold plo
  rw [div_le_p (cast_pos (by omega))]
  push_cast
  exact Iff.rfl
theorem le_phi {e : Int} {p : Sd × Sd} {r : Rat} (h : p.1.1 < p.2.1) : r ≤ phi e p ↔ r * ((p.2.1 : Rat) - p.1.1) ≤ (p.2.2 : Rat) - p.1.2 + 2 * e := by
  unfold phi
  rw [le_div_p (cast_pos (by omega))]
  push_cast
  exact Iff.rfl
theorem fits_rate {S : List Sd} {e : Int} (hi : Inc S) {r β : Rat} (h : Fits S e r β) {p : Sd × Sd} (hp : p ∈ pairs S) : plo e p ≤ r ∧ r ≤ phi e p := by
  have hlt := pairs_lt hi hp
  have hm := pairs_mem hp
  have h1 := h _ hm.1
  have h2 := h _ hm.2
  unfold dn up at h1 h2
  rw [plo_le hlt, le_phi hlt]
  grind
theorem rate_fits {S : List Sd} {e : Int} (hn : S ≠ []) (hi : Inc S) (he : 0 ≤ e) {r : Rat} (h : ∀ p ∈ pairs S, plo e p ≤ r ∧ r ≤ phi e p) : Fits S e r (lw S e r) ∧ Fits S e r (hw S e r) ∧ lw S e r ≤ hw S e r := by
  have key : ∀ s ∈ S, ∀ t ∈ S, dn e r s ≤ up e r t := by
    intro s hs t ht
    have he' : (0 : Rat) ≤ (e : Rat) := Rat.intCast_nonneg.mpr he
    unfold dn up
    by_cases h1 : s.1 < t.1
    · have hp := mem_pairs hi hs ht h1
      have := h _ hp
      rw [plo_le h1, le_phi h1] at this
      grind
    · by_cases h2 : t.1 < s.1
      · have hp := mem_pairs hi ht hs h2
        have := h _ hp
        rw [plo_le h2, le_phi h2] at this
        grind
      · have e1 : s.1 = t.1 := by omega
        have e2 : s = t := by
          clear h
          induction S with
          | nil => cases hs
          | cons a S ih =>
            have hi' := List.pairwise_cons.mp hi
            rcases List.mem_cons.mp hs with h1 | h1 <;> rcases List.mem_cons.mp ht with h2 | h2
            · rw [h1, h2]
            · have := hi'.1 t h2
              rw [h1] at e1
              omega
            · have := hi'.1 s h1
              rw [h2] at e1
              omega
            · exact ih (by intro h; rw [h] at h1; cases h1) hi'.2 h1 h2
        subst e2
        grind
  obtain ⟨_, ⟨s1, m1, l1⟩, l2⟩ := lw_spec (S := S) e r hn
  obtain ⟨_, ⟨s2, m2, u1⟩, u2⟩ := hw_spec (S := S) e r hn
  refine ⟨fun s hs => ⟨l2 s hs, ?_⟩, fun s hs => ⟨?_, u2 s hs⟩, ?_⟩
  · rw [l1]
    exact key _ m1 _ hs
  · rw [u1]
    exact key _ hs _ m2
  · rw [l1, u1]
    exact key _ m1 _ m2
/-- a line's rate, its depth at hour 0 -/
def lr (l : Int × Int × Int) : Rat := (l.1 : Rat) / (l.2.2 : Rat)
def lb (l : Int × Int × Int) : Rat := (l.2.1 : Rat) / (l.2.2 : Rat)
theorem ln_at {p : Sd × Sd} (h : p.1.1 < p.2.1) (o : Int × Int) : lb (ln p o) + lr (ln p o) * (p.1.1 : Rat) = (p.1.2 : Rat) + o.1 ∧ lb (ln p o) + lr (ln p o) * (p.2.1 : Rat) = (p.2.2 : Rat) + o.2 := by
  have hw : (0 : Rat) < ((p.2.1 - p.1.1 : Int) : Rat) := cast_pos (by omega)
  have hw0 : ((p.2.1 - p.1.1 : Int) : Rat) ≠ 0 := by grind
  have e1 : lr (ln p o) * ((p.2.1 - p.1.1 : Int) : Rat) = ((p.2.2 + o.2 - p.1.2 - o.1 : Int) : Rat) := Rat.div_mul_cancel hw0
  have e2 : lb (ln p o) * ((p.2.1 - p.1.1 : Int) : Rat) = (((p.1.2 + o.1) * (p.2.1 - p.1.1) - (p.2.2 + o.2 - p.1.2 - o.1) * p.1.1 : Int) : Rat) := Rat.div_mul_cancel hw0
  generalize lr (ln p o) = r at *
  generalize lb (ln p o) = β at *
  have k : ∀ a b : Rat, a * ((p.2.1 - p.1.1 : Int) : Rat) = b * ((p.2.1 - p.1.1 : Int) : Rat) → a = b := by
    intro a b h
    have h1 := (mul_le_pos (x := a) (y := b) hw).mp (by rw [h]; exact Rat.le_refl)
    have h2 := (mul_le_pos (x := b) (y := a) hw).mp (by rw [h]; exact Rat.le_refl)
    grind
  push_cast at *
  constructor
  · apply k
    grind
  · apply k
    grind
theorem lnOk_iff {S : List Sd} {e : Int} {l : Int × Int × Int} (hw : 0 < l.2.2) : lnOk S e l = true ↔ Fits S e (lr l) (lb l) := by
  have hw' : (0 : Rat) < (l.2.2 : Rat) := cast_pos hw
  have hw0 : (l.2.2 : Rat) ≠ 0 := by grind
  have e1 : lr l * (l.2.2 : Rat) = (l.1 : Rat) := Rat.div_mul_cancel hw0
  have e2 : lb l * (l.2.2 : Rat) = (l.2.1 : Rat) := Rat.div_mul_cancel hw0
  unfold lnOk Fits
  rw [List.all_eq_true]
  refine forall_congr' fun s => forall_congr' fun hs => ?_
  rw [decide_eq_true_eq]
  generalize lr l = r at *
  generalize lb l = β at *
  have a1 : ((l.2.1 + l.1 * s.1 - s.2 * l.2.2).natAbs : Int) ≤ e * l.2.2 ↔ (-(e * l.2.2) ≤ l.2.1 + l.1 * s.1 - s.2 * l.2.2) ∧ l.2.1 + l.1 * s.1 - s.2 * l.2.2 ≤ e * l.2.2 := by
    generalize l.2.1 + l.1 * s.1 - s.2 * l.2.2 = z
    generalize e * l.2.2 = y
    omega
  rw [a1, ← Rat.intCast_le_intCast, ← Rat.intCast_le_intCast]
  unfold dn up
  rw [← mul_le_pos (x := (s.2 : Rat) - r * s.1 - e) hw', ← mul_le_pos (x := β) hw']
  push_cast
  rw [← e1, ← e2]
  constructor
  · rintro ⟨h1, h2⟩
    grind
  · rintro ⟨h1, h2⟩
    grind
theorem mem_lines {S : List Sd} {e : Int} {l : Int × Int × Int} : l ∈ lines S e ↔ ∃ p ∈ pairs S, ∃ o ∈ offs e, l = ln p o ∧ lnOk S e l = true := by
  unfold lines lnsOf
  rw [List.mem_flatMap]
  constructor
  · rintro ⟨p, hp, h⟩
    obtain ⟨h1, h2⟩ := List.mem_filter.mp h
    obtain ⟨o, ho, rfl⟩ := List.mem_map.mp h1
    exact ⟨p, hp, o, ho, rfl, h2⟩
  · rintro ⟨p, hp, o, ho, rfl, h⟩
    exact ⟨p, hp, List.mem_filter.mpr ⟨List.mem_map_of_mem ho, h⟩⟩
theorem lines_fit {S : List Sd} {e : Int} (hi : Inc S) {l : Int × Int × Int} (h : l ∈ lines S e) : 0 < l.2.2 ∧ Fits S e (lr l) (lb l) := by
  obtain ⟨p, hp, o, ho, rfl, h⟩ := mem_lines.mp h
  have hw : 0 < (ln p o).2.2 := by
    have := pairs_lt hi hp
    show 0 < p.2.1 - p.1.1
    omega
  exact ⟨hw, (lnOk_iff hw).mp h⟩
/-- a line through two corners that fits is one of the lines -/
theorem in_lines {S : List Sd} {e : Int} (hi : Inc S) {p : Sd × Sd} (hp : p ∈ pairs S) {o : Int × Int} (ho : o ∈ offs e) {r β : Rat} (h : Fits S e r β) (h1 : β + r * (p.1.1 : Rat) = (p.1.2 : Rat) + o.1) (h2 : β + r * (p.2.1 : Rat) = (p.2.2 : Rat) + o.2) : ∃ l ∈ lines S e, lr l = r ∧ lb l = β := by
  have hlt := pairs_lt hi hp
  obtain ⟨a1, a2⟩ := ln_at hlt o
  have hw : (0 : Rat) < (p.2.1 : Rat) - p.1.1 := by have := lt_cast hlt; grind
  have er : lr (ln p o) = r := by
    have b1 : lr (ln p o) * ((p.2.1 : Rat) - p.1.1) = r * ((p.2.1 : Rat) - p.1.1) := by grind
    have h1 := (mul_le_pos (x := lr (ln p o)) (y := r) hw).mp (by rw [b1]; exact Rat.le_refl)
    have h2 := (mul_le_pos (x := r) (y := lr (ln p o)) hw).mp (by rw [b1]; exact Rat.le_refl)
    grind
  have eb : lb (ln p o) = β := by
    rw [er] at a1
    grind
  refine ⟨ln p o, mem_lines.mpr ⟨p, hp, o, ho, rfl, (lnOk_iff (by show 0 < p.2.1 - p.1.1; omega)).mpr (by rw [er, eb]; exact h)⟩, er, eb⟩
end K28

namespace K28
open PySem PySem.Spec PyProof.Rows L2 Pm
theorem exists_other {S : List Sd} (hi : Inc S) (h2 : 2 ≤ S.length) (s0 : Sd) : S.filter (nb s0.1) ≠ [] := by
  match S, h2 with
  | s :: t :: S, _ =>
    have h1 := (List.pairwise_cons.mp hi).1 t (by simp)
    intro h
    by_cases hz : t.1 = s0.1
    · have : s ∈ (s :: t :: S).filter (nb s0.1) := nb_mem.mpr ⟨by simp, by omega⟩
      rw [h] at this
      cases this
    · have : t ∈ (s :: t :: S).filter (nb s0.1) := nb_mem.mpr ⟨by simp, by omega⟩
      rw [h] at this
      cases this
/-- the least and the greatest slope about a corner that a sounding lets be -/
def slA (e : Int) (s0 : Sd) (c : Rat) (t : Sd) : Rat := if s0.1 < t.1 then ((t.2 : Rat) - e - c) / ((t.1 : Rat) - s0.1) else (c - t.2 - e) / ((s0.1 : Rat) - t.1)
def slB (e : Int) (s0 : Sd) (c : Rat) (t : Sd) : Rat := if s0.1 < t.1 then ((t.2 : Rat) + e - c) / ((t.1 : Rat) - s0.1) else (c - t.2 + e) / ((s0.1 : Rat) - t.1)
theorem sl_iff {e : Int} {s0 t : Sd} (h : t.1 ≠ s0.1) (c r : Rat) : (slA e s0 c t ≤ r ↔ dn e r t ≤ c - r * (s0.1 : Rat)) ∧ (r ≤ slB e s0 c t ↔ c - r * (s0.1 : Rat) ≤ up e r t) → True := fun _ => trivial
theorem slA_le {e : Int} {s0 t : Sd} (h : t.1 ≠ s0.1) (c r : Rat) : slA e s0 c t ≤ r ↔ (if s0.1 < t.1 then dn e r t ≤ c - r * (s0.1 : Rat) else c - r * (s0.1 : Rat) ≤ up e r t) := by
  unfold slA dn up
  by_cases h1 : s0.1 < t.1
  · have := lt_cast h1
    rw [if_pos h1, if_pos h1, div_le_p (by grind)]
    constructor <;> intro h <;> grind
  · have := lt_cast (show t.1 < s0.1 by omega)
    rw [if_neg h1, if_neg h1, div_le_p (by grind)]
    constructor <;> intro h <;> grind
theorem le_slB {e : Int} {s0 t : Sd} (h : t.1 ≠ s0.1) (c r : Rat) : r ≤ slB e s0 c t ↔ (if s0.1 < t.1 then c - r * (s0.1 : Rat) ≤ up e r t else dn e r t ≤ c - r * (s0.1 : Rat)) := by
  unfold slB dn up
  by_cases h1 : s0.1 < t.1
  · have := lt_cast h1
    rw [if_pos h1, if_pos h1, le_div_p (by grind)]
    constructor <;> intro h <;> grind
  · have := lt_cast (show t.1 < s0.1 by omega)
    rw [if_neg h1, if_neg h1, le_div_p (by grind)]
    constructor <;> intro h <;> grind
theorem slA_at {e : Int} {s0 t : Sd} (h : t.1 ≠ s0.1) (c : Rat) : c + slA e s0 c t * ((t.1 : Rat) - s0.1) = (t.2 : Rat) + (if s0.1 < t.1 then -e else e : Int) := by
  unfold slA
  by_cases h1 : s0.1 < t.1
  · have := lt_cast h1
    rw [if_pos h1, if_pos h1, Rat.div_mul_cancel (by grind)]
    push_cast
    grind
  · have := lt_cast (show t.1 < s0.1 by omega)
    rw [if_neg h1, if_neg h1, show (t.1 : Rat) - s0.1 = -((s0.1 : Rat) - t.1) by grind, Rat.mul_neg, Rat.div_mul_cancel (by grind)]
    grind
theorem slB_at {e : Int} {s0 t : Sd} (h : t.1 ≠ s0.1) (c : Rat) : c + slB e s0 c t * ((t.1 : Rat) - s0.1) = (t.2 : Rat) + (if s0.1 < t.1 then e else -e : Int) := by
  unfold slB
  by_cases h1 : s0.1 < t.1
  · have := lt_cast h1
    rw [if_pos h1, if_pos h1, Rat.div_mul_cancel (by grind)]
    grind
  · have := lt_cast (show t.1 < s0.1 by omega)
    rw [if_neg h1, if_neg h1, show (t.1 : Rat) - s0.1 = -((s0.1 : Rat) - t.1) by grind, Rat.mul_neg, Rat.div_mul_cancel (by grind)]
    push_cast
    grind
theorem same_hour {S : List Sd} (hi : Inc S) {s t : Sd} (hs : s ∈ S) (ht : t ∈ S) (e1 : s.1 = t.1) : s = t := by
  induction S with
  | nil => cases hs
  | cons a S ih =>
    have hi' := List.pairwise_cons.mp hi
    rcases List.mem_cons.mp hs with h1 | h1 <;> rcases List.mem_cons.mp ht with h2 | h2
    · rw [h1, h2]
    · have := hi'.1 t h2
      rw [h1] at e1
      omega
    · have := hi'.1 s h1
      rw [h2] at e1
      omega
    · exact ih hi'.2 h1 h2
theorem offs_all (e : Int) (a b : Int) (ha : a = -e ∨ a = e) (hb : b = -e ∨ b = e) : (a, b) ∈ offs e := by
  unfold offs
  rcases ha with rfl | rfl <;> rcases hb with rfl | rfl <;> simp
theorem corner_line {S : List Sd} {e : Int} (hi : Inc S) {s0 t : Sd} (hs : s0 ∈ S) (ht : t ∈ S) (hne : t.1 ≠ s0.1) {a b : Int} (ha : a = -e ∨ a = e) (hb : b = -e ∨ b = e) {r β : Rat} (h : Fits S e r β) (h1 : β + r * (s0.1 : Rat) = (s0.2 : Rat) + a) (h2 : β + r * (t.1 : Rat) = (t.2 : Rat) + b) : ∃ l ∈ lines S e, lr l = r ∧ lb l = β := by
  by_cases hlt : s0.1 < t.1
  · exact in_lines hi (mem_pairs hi hs ht hlt) (offs_all e a b ha hb) h h1 h2
  · exact in_lines hi (mem_pairs hi ht hs (by omega)) (offs_all e b a hb ha) h h2 h1
/-- turned down about a corner -/
theorem pivot_down {S : List Sd} {e : Int} (hi : Inc S) (he : 0 ≤ e) (h2 : 2 ≤ S.length) {s0 : Sd} (hs : s0 ∈ S) {a : Int} (ha : a = -e ∨ a = e) {r β : Rat} (h : Fits S e r β) (h1 : β + r * (s0.1 : Rat) = (s0.2 : Rat) + a) : ∃ l ∈ lines S e, lr l ≤ r ∧ lb l + lr l * (s0.1 : Rat) = (s0.2 : Rat) + a := by
  have he' : (0 : Rat) ≤ (e : Rat) := Rat.intCast_nonneg.mpr he
  obtain ⟨m, m1, m2, m3⟩ := mx_spec (l := (S.filter (nb s0.1)).map (slA e s0 ((s0.2 : Rat) + a))) (by simpa using exists_other hi h2 s0)
  obtain ⟨t, ht, htm⟩ := List.mem_map.mp m2
  obtain ⟨tS, tne⟩ := nb_mem.mp ht
  have hle : ∀ u ∈ S, u.1 ≠ s0.1 → slA e s0 ((s0.2 : Rat) + a) u ≤ m := fun u hu hn => m3 _ (List.mem_map_of_mem (nb_mem.mpr ⟨hu, hn⟩))
  have hβ : β = (s0.2 : Rat) + a - r * (s0.1 : Rat) := by grind
  have hmr : m ≤ r := by
    rw [← htm, slA_le tne]
    have := h t tS
    rw [hβ] at this
    split
    · exact this.1
    · exact this.2
  have hB : ∀ u ∈ S, u.1 ≠ s0.1 → m ≤ slB e s0 ((s0.2 : Rat) + a) u := fun u hu hn => by
    have : r ≤ slB e s0 ((s0.2 : Rat) + a) u := by
      rw [le_slB hn]
      have := h u hu
      rw [hβ] at this
      split
      · exact this.2
      · exact this.1
    grind
  have hf : Fits S e m ((s0.2 : Rat) + a - m * (s0.1 : Rat)) := by
    intro u hu
    by_cases hn : u.1 = s0.1
    · have := same_hour hi hu hs hn
      subst this
      unfold dn up
      rcases ha with rfl | rfl
      · push_cast
        constructor <;> grind
      · constructor <;> grind
    · have b1 := (slA_le hn ((s0.2 : Rat) + a) m).mp (hle u hu hn)
      have b2 := (le_slB hn ((s0.2 : Rat) + a) m).mp (hB u hu hn)
      split at b1
      · next hz =>
        rw [if_pos hz] at b2
        exact ⟨b1, b2⟩
      · next hz =>
        rw [if_neg hz] at b2
        exact ⟨b2, b1⟩
  have hat := slA_at (e := e) tne ((s0.2 : Rat) + a)
  rw [htm] at hat
  obtain ⟨l, hl, l1, l2⟩ := corner_line hi hs tS tne ha (b := if s0.1 < t.1 then -e else e) (by split <;> simp) hf (by grind) (by grind)
  exact ⟨l, hl, by rw [l1]; exact hmr, by rw [l1, l2]; grind⟩
/-- turned up about a corner -/
theorem pivot_up {S : List Sd} {e : Int} (hi : Inc S) (he : 0 ≤ e) (h2 : 2 ≤ S.length) {s0 : Sd} (hs : s0 ∈ S) {a : Int} (ha : a = -e ∨ a = e) {r β : Rat} (h : Fits S e r β) (h1 : β + r * (s0.1 : Rat) = (s0.2 : Rat) + a) : ∃ l ∈ lines S e, r ≤ lr l ∧ lb l + lr l * (s0.1 : Rat) = (s0.2 : Rat) + a := by
  have he' : (0 : Rat) ≤ (e : Rat) := Rat.intCast_nonneg.mpr he
  obtain ⟨m, m1, m2, m3⟩ := mn_spec (l := (S.filter (nb s0.1)).map (slB e s0 ((s0.2 : Rat) + a))) (by simpa using exists_other hi h2 s0)
  obtain ⟨t, ht, htm⟩ := List.mem_map.mp m2
  obtain ⟨tS, tne⟩ := nb_mem.mp ht
  have hle : ∀ u ∈ S, u.1 ≠ s0.1 → m ≤ slB e s0 ((s0.2 : Rat) + a) u := fun u hu hn => m3 _ (List.mem_map_of_mem (nb_mem.mpr ⟨hu, hn⟩))
  have hβ : β = (s0.2 : Rat) + a - r * (s0.1 : Rat) := by grind
  have hmr : r ≤ m := by
    rw [← htm, le_slB tne]
    have := h t tS
    rw [hβ] at this
    split
    · exact this.2
    · exact this.1
  have hA : ∀ u ∈ S, u.1 ≠ s0.1 → slA e s0 ((s0.2 : Rat) + a) u ≤ m := fun u hu hn => by
    have : slA e s0 ((s0.2 : Rat) + a) u ≤ r := by
      rw [slA_le hn]
      have := h u hu
      rw [hβ] at this
      split
      · exact this.1
      · exact this.2
    grind
  have hf : Fits S e m ((s0.2 : Rat) + a - m * (s0.1 : Rat)) := by
    intro u hu
    by_cases hn : u.1 = s0.1
    · have := same_hour hi hu hs hn
      subst this
      unfold dn up
      rcases ha with rfl | rfl
      · push_cast
        constructor <;> grind
      · constructor <;> grind
    · have b1 := (slA_le hn ((s0.2 : Rat) + a) m).mp (hA u hu hn)
      have b2 := (le_slB hn ((s0.2 : Rat) + a) m).mp (hle u hu hn)
      split at b1
      · next hz =>
        rw [if_pos hz] at b2
        exact ⟨b1, b2⟩
      · next hz =>
        rw [if_neg hz] at b2
        exact ⟨b2, b1⟩
  have hat := slB_at (e := e) tne ((s0.2 : Rat) + a)
  rw [htm] at hat
  obtain ⟨l, hl, l1, l2⟩ := corner_line hi hs tS tne ha (b := if s0.1 < t.1 then e else -e) (by split <;> simp) hf (by grind) (by grind)
  exact ⟨l, hl, by rw [l1]; exact hmr, by rw [l1, l2]; grind⟩
theorem mul_mono {a b c : Rat} (h : a ≤ b) (hc : 0 ≤ c) : a * c ≤ b * c := Rat.mul_le_mul_of_nonneg_right h hc
/-- below each line that fits there is one of the lines -/
theorem line_below {S : List Sd} {e H : Int} (hi : Inc S) (he : 0 ≤ e) (h2 : 2 ≤ S.length) {r β : Rat} (h : Fits S e r β) : ∃ l ∈ lines S e, lb l + lr l * (H : Rat) ≤ β + r * (H : Rat) := by
  have hn : S ≠ [] := by intro h; rw [h] at h2; simp at h2
  obtain ⟨_, ⟨s0, hs, l1⟩, l2⟩ := lw_spec (S := S) e r hn
  have hle : lw S e r ≤ β := by rw [l1]; exact (h s0 hs).1
  have hf : Fits S e r (lw S e r) := fun s hs' => ⟨l2 s hs', by have := (h s hs').2; grind⟩
  have hc : lw S e r + r * (s0.1 : Rat) = (s0.2 : Rat) + (-e : Int) := by
    rw [l1]
    unfold dn
    push_cast
    grind
  by_cases hH : s0.1 ≤ H
  · obtain ⟨l, hl, k1, k2⟩ := pivot_down hi he h2 hs (.inl rfl) hf hc
    refine ⟨l, hl, ?_⟩
    have := mul_mono k1 (c := (H : Rat) - s0.1) (by have := Rat.intCast_le_intCast.mpr hH; grind)
    grind
  · obtain ⟨l, hl, k1, k2⟩ := pivot_up hi he h2 hs (.inl rfl) hf hc
    refine ⟨l, hl, ?_⟩
    have := mul_mono k1 (c := (s0.1 : Rat) - H) (by have := lt_cast (show H < s0.1 by omega); grind)
    grind
theorem line_above {S : List Sd} {e H : Int} (hi : Inc S) (he : 0 ≤ e) (h2 : 2 ≤ S.length) {r β : Rat} (h : Fits S e r β) : ∃ l ∈ lines S e, β + r * (H : Rat) ≤ lb l + lr l * (H : Rat) := by
  have hn : S ≠ [] := by intro h; rw [h] at h2; simp at h2
  obtain ⟨_, ⟨s0, hs, l1⟩, l2⟩ := hw_spec (S := S) e r hn
  have hle : β ≤ hw S e r := by rw [l1]; exact (h s0 hs).2
  have hf : Fits S e r (hw S e r) := fun s hs' => ⟨by have := (h s hs').1; grind, l2 s hs'⟩
  have hc : hw S e r + r * (s0.1 : Rat) = (s0.2 : Rat) + (e : Int) := by
    rw [l1]
    unfold up
    grind
  by_cases hH : s0.1 ≤ H
  · obtain ⟨l, hl, k1, k2⟩ := pivot_up hi he h2 hs (.inr rfl) hf hc
    refine ⟨l, hl, ?_⟩
    have := mul_mono k1 (c := (H : Rat) - s0.1) (by have := Rat.intCast_le_intCast.mpr hH; grind)
    grind
  · obtain ⟨l, hl, k1, k2⟩ := pivot_down hi he h2 hs (.inr rfl) hf hc
    refine ⟨l, hl, ?_⟩
    have := mul_mono k1 (c := (s0.1 : Rat) - H) (by have := lt_cast (show H < s0.1 by omega); grind)
    grind
end K28

namespace K28
open PySem PySem.Spec PyProof.Rows L2 Pm
theorem ext_of {S : List Sd} {e : Int} {lo hg : Rat} (h1 : mx ((pairs S).map (plo e)) = some lo) (h2 : mn ((pairs S).map (phi e)) = some hg) (hp : pairs S ≠ []) (r : Rat) : (lo ≤ r ∧ r ≤ hg) ↔ ∀ p ∈ pairs S, plo e p ≤ r ∧ r ≤ phi e p := by
  obtain ⟨a, a1, a2, a3⟩ := mx_spec (l := (pairs S).map (plo e)) (by simpa using hp)
  obtain ⟨b, b1, b2, b3⟩ := mn_spec (l := (pairs S).map (phi e)) (by simpa using hp)
  rw [h1] at a1
  cases a1
  rw [h2] at b1
  cases b1
  constructor
  · rintro ⟨k1, k2⟩ p hp
    have := a3 _ (List.mem_map_of_mem (f := plo e) hp)
    have := b3 _ (List.mem_map_of_mem (f := phi e) hp)
    grind
  · intro k
    obtain ⟨p, hp1, rfl⟩ := List.mem_map.mp a2
    obtain ⟨q, hq1, rfl⟩ := List.mem_map.mp b2
    exact ⟨(k p hp1).1, (k q hq1).2⟩
theorem lines_nil_iff {S : List Sd} {e : Int} (hi : Inc S) (he : 0 ≤ e) (h2 : 2 ≤ S.length) {lo hg : Rat} (h3 : mx ((pairs S).map (plo e)) = some lo) (h4 : mn ((pairs S).map (phi e)) = some hg) : hg < lo ↔ lines S e = [] := by
  have hp := pairs_ne h2
  have hn : S ≠ [] := by intro h; rw [h] at h2; simp at h2
  have hx := ext_of h3 h4 hp
  constructor
  · intro h
    cases hl : lines S e with
    | nil => rfl
    | cons l L =>
      obtain ⟨_, hf⟩ := lines_fit (e := e) hi (l := l) (by rw [hl]; simp)
      have := (hx (lr l)).mpr fun p hp => fits_rate hi hf hp
      grind
  · intro h
    rw [← Rat.not_le]
    intro hle
    obtain ⟨hf, _⟩ := rate_fits hn hi he ((hx lo).mp ⟨Rat.le_refl, hle⟩)
    obtain ⟨l, hl, _⟩ := line_below (H := 0) hi he h2 hf
    rw [h] at hl
    cases hl
theorem rates_isNone {S : List Sd} {e : Int} (hi : Inc S) (he : 0 ≤ e) (h2 : 2 ≤ S.length) : (rates S e).isNone = decide (lines S e = []) := by
  obtain ⟨lo, hg, h3, h4, h5, _⟩ := rates_spec e h2
  rw [h5]
  have := lines_nil_iff hi he h2 h3 h4
  by_cases hz : hg < lo
  · rw [if_pos hz, decide_eq_true (this.mp hz)]
    rfl
  · rw [if_neg hz, decide_eq_false (fun h => hz (this.mpr h))]
    rfl
theorem two_rates {S : List Sd} {e : Int} (hi : Inc S) (he : 0 ≤ e) (h2 : S.length = 2) : (rates S e).isSome = true := by
  match S, h2 with
  | [s, t], _ =>
    obtain ⟨lo, hg, h3, h4, h5, _⟩ := rates_spec (S := [s, t]) e (by simp)
    rw [h5]
    have a1 : mx ((pairs [s, t]).map (plo e)) = some (plo e (s, t)) := rfl
    have a2 : mn ((pairs [s, t]).map (phi e)) = some (phi e (s, t)) := rfl
    rw [a1] at h3
    rw [a2] at h4
    cases h3
    cases h4
    have hlt : s.1 < t.1 := (List.pairwise_cons.mp hi).1 t (by simp)
    have hw := lt_cast hlt
    have : ¬ phi e (s, t) < plo e (s, t) := by
      rw [Rat.not_lt, plo_le (p := (s, t)) hlt]
      unfold phi
      have he' : (0 : Rat) ≤ (e : Rat) := Rat.intCast_nonneg.mpr he
      rw [show ((t.1 : Rat) - s.1) = ((t.1 - s.1 : Int) : Rat) by push_cast; rfl, Rat.div_mul_cancel (by have := cast_pos (show 0 < t.1 - s.1 by omega); grind)]
      push_cast
      grind
    rw [if_neg this]
    rfl
theorem slope_bind {S : List Sd} {e : Int} {l : Int × Int × Int} (h : l ∈ lines S e) : lr l ∈ bindS S e := by
  obtain ⟨p, hp, o, ho, rfl, _⟩ := mem_lines.mp h
  refine List.mem_flatMap.mpr ⟨p, hp, ?_⟩
  unfold bR pof
  show ((p.2.2 + o.2 - p.1.2 - o.1 : Int) : Rat) / ((p.2.1 - p.1.1 : Int) : Rat) ∈ _
  simp only [offs, List.mem_cons, List.not_mem_nil, or_false] at ho
  simp only [List.mem_cons, List.not_mem_nil, or_false]
  rcases ho with rfl | rfl | rfl | rfl
  · exact .inr (.inl (by congr 2; simp only; omega))
  · exact .inr (.inr (by congr 2; simp only; omega))
  · exact .inl (by congr 2; simp only; omega)
  · exact .inr (.inl (by congr 2; simp only; omega))
def told (H : Int) (l : Int × Int × Int) : Rat := lb l + lr l * (H : Rat)
theorem inR_iff {lo hg r : Rat} : inR lo hg r = true ↔ lo ≤ r ∧ r ≤ hg := by
  unfold inR
  simp [Rat.not_lt]
theorem least_told {S : List Sd} {e H : Int} (hi : Inc S) (he : 0 ≤ e) (h2 : 2 ≤ S.length) {lo hg : Rat} (h3 : mx ((pairs S).map (plo e)) = some lo) (h4 : mn ((pairs S).map (phi e)) = some hg) (hne : lines S e ≠ []) :
    mn (((bindS S e).filter (inR lo hg)).map (fl S e H)) = mn ((lines S e).map (told H)) := by
  have hp := pairs_ne h2
  have hn : S ≠ [] := by intro h; rw [h] at h2; simp at h2
  have hx := ext_of h3 h4 hp
  obtain ⟨m, m1, m2, m3⟩ := mn_spec (l := (lines S e).map (told H)) (by simpa using hne)
  rw [m1]
  obtain ⟨l, hl, hlm⟩ := List.mem_map.mp m2
  have low : ∀ r, inR lo hg r = true → m ≤ fl S e H r := fun r hr => by
    obtain ⟨hf, _⟩ := rate_fits hn hi he ((hx r).mp (inR_iff.mp hr))
    obtain ⟨l', hl', k⟩ := line_below (H := H) hi he h2 hf
    have : m ≤ told H l' := m3 _ (List.mem_map_of_mem (f := told H) hl')
    unfold told at this
    unfold fl
    grind
  obtain ⟨_, hf⟩ := lines_fit hi hl
  have hin : inR lo hg (lr l) = true := inR_iff.mpr ((hx (lr l)).mpr fun p hp => fits_rate hi hf hp)
  have e1 : fl S e H (lr l) = m := by
    have := low _ hin
    obtain ⟨_, ⟨s0, hs, l1⟩, _⟩ := lw_spec (S := S) e (lr l) hn
    have h5 := (hf s0 hs).1
    unfold told at hlm
    unfold fl at *
    grind
  refine mn_eq ?_ ?_
  · rw [← e1]
    exact List.mem_map_of_mem (List.mem_filter.mpr ⟨slope_bind hl, hin⟩)
  · intro y hy
    obtain ⟨r, hr, rfl⟩ := List.mem_map.mp hy
    exact low r (List.mem_filter.mp hr).2
theorem most_told {S : List Sd} {e H : Int} (hi : Inc S) (he : 0 ≤ e) (h2 : 2 ≤ S.length) {lo hg : Rat} (h3 : mx ((pairs S).map (plo e)) = some lo) (h4 : mn ((pairs S).map (phi e)) = some hg) (hne : lines S e ≠ []) :
    mx (((bindS S e).filter (inR lo hg)).map (fh S e H)) = mx ((lines S e).map (told H)) := by
  have hp := pairs_ne h2
  have hn : S ≠ [] := by intro h; rw [h] at h2; simp at h2
  have hx := ext_of h3 h4 hp
  obtain ⟨m, m1, m2, m3⟩ := mx_spec (l := (lines S e).map (told H)) (by simpa using hne)
  rw [m1]
  obtain ⟨l, hl, hlm⟩ := List.mem_map.mp m2
  have high : ∀ r, inR lo hg r = true → fh S e H r ≤ m := fun r hr => by
    obtain ⟨_, hf, _⟩ := rate_fits hn hi he ((hx r).mp (inR_iff.mp hr))
    obtain ⟨l', hl', k⟩ := line_above (H := H) hi he h2 hf
    have : told H l' ≤ m := m3 _ (List.mem_map_of_mem (f := told H) hl')
    unfold told at this
    unfold fh
    grind
  obtain ⟨_, hf⟩ := lines_fit hi hl
  have hin : inR lo hg (lr l) = true := inR_iff.mpr ((hx (lr l)).mpr fun p hp => fits_rate hi hf hp)
  have e1 : fh S e H (lr l) = m := by
    have := high _ hin
    obtain ⟨_, ⟨s0, hs, l1⟩, _⟩ := hw_spec (S := S) e (lr l) hn
    have h5 := (hf s0 hs).2
    unfold told at hlm
    unfold fh at *
    grind
  refine mx_eq ?_ ?_
  · rw [← e1]
    exact List.mem_map_of_mem (List.mem_filter.mpr ⟨slope_bind hl, hin⟩)
  · intro y hy
    obtain ⟨r, hr, rfl⟩ := List.mem_map.mp hy
    exact high r (List.mem_filter.mp hr).2
theorem no_fit_beyond {S : List Sd} {e : Int} (hi : Inc S) (h2 : 2 ≤ S.length) {lo hg : Rat} (h3 : mx ((pairs S).map (plo e)) = some lo) (h4 : mn ((pairs S).map (phi e)) = some hg) {r : Rat} (hr : r < lo ∨ hg < r) (β : Rat) : ¬ Fits S e r β := by
  intro h
  have := (ext_of h3 h4 (pairs_ne h2) r).mpr fun p hp => fits_rate hi h hp
  grind
end K28

namespace K28
open PySem PySem.Spec PyProof.Rows L2 Pm
def toldp (H : Int) (l : Int × Int × Int) : Int × Int := (l.2.1 + l.1 * H, l.2.2)
theorem pv_toldp {H : Int} {l : Int × Int × Int} (hw : 0 < l.2.2) : pv (toldp H l) = told H l := by
  have hw0 : (l.2.2 : Rat) ≠ 0 := by have := cast_pos hw; grind
  unfold pv toldp told lr lb
  push_cast
  grind
theorem line_sm {S : List Sd} {e : Int} (hS : OkS S) (hi : Inc S) (he : Sm 10 e) {l : Int × Int × Int} (h : l ∈ lines S e) : Sm 13 l.1 ∧ Sm 30 l.2.1 ∧ Sm 11 l.2.2 ∧ 0 < l.2.2 := by
  have hw := (lines_fit hi h).1
  obtain ⟨p, hp, o, ho, rfl, _⟩ := mem_lines.mp h
  have := ln_sm (okp_of hS hi hp) (offs_sm he ho)
  exact ⟨this.1, this.2.1, this.2.2, hw⟩
theorem toldp_ok {S : List Sd} {e H : Int} (hS : OkS S) (hi : Inc S) (he : Sm 10 e) (hH : Sm 10 H) {l : Int × Int × Int} (h : l ∈ lines S e) : Okf (toldp H l) := by
  obtain ⟨h1, h2, h3, h4⟩ := line_sm hS hi he h
  exact ⟨h4, ((h2.add ((h1.mul hH).mono (k := 30) (by omega))).mono (by omega)), h3.mono (by omega)⟩
def dd : Option (Int × Int) → Option (Int × Int) → D
  | some a, some b => .tuple [tp a, tp b]
  | _, _ => .none
theorem told_step {x y a : Int × Int} (hx : Okf x) (hy : Okf y) (ha : Okf a) : True := trivial
theorem told_loop {S : List Sd} {e H : Int} (hS : OkS S) (hn : S ≠ []) (hi : Inc S) (he : Sm 10 e) (hH : Sm 10 H) (x3 x4 : Option D) :
    ∃ a b c d, forL (gTupD 3 (gsCons (gSet 6) (gsCons (gSet 7) (gsCons (gSet 8) gsNil)))) l1__law_sounded ((lines S e).map enc3) [some (.tuple (S.map enc)), some (.int e), some (.int H), x3, x4, some .none, none, none, none, none, none, none, none, none, none, none] =
    some (.nx [some (.tuple (S.map enc)), some (.int e), some (.int H), x3, x4, some (dd (mnp ((lines S e).map (toldp H))) (mxp ((lines S e).map (toldp H)))), a, b, c, d, none, none, none, none, none, none]) := by
  obtain ⟨ρ', e1, _, h⟩ := forL_inv (g := gTupD 3 (gsCons (gSet 6) (gsCons (gSet 7) (gsCons (gSet 8) gsNil)))) (b := l1__law_sounded) enc3
    (fun pre rest ρ => pre ++ rest = lines S e ∧ (pre = [] ∨ ∃ x y, mnp (pre.map (toldp H)) = some x ∧ mxp (pre.map (toldp H)) = some y) ∧ ∃ a b c d, ρ = [some (.tuple (S.map enc)), some (.int e), some (.int H), x3, x4, some (dd (mnp (pre.map (toldp H))) (mxp (pre.map (toldp H)))), a, b, c, d, none, none, none, none, none, none]) (fun pre l rest ρ ⟨hp, hsome, a, b, c, d, e'⟩ => by
      subst e'
      have hl : l ∈ lines S e := by rw [← hp]; simp
      have hm : ∀ k ∈ pre, k ∈ lines S e := fun k hk => by rw [← hp]; simp [hk]
      obtain ⟨s1, s2, s3, s4⟩ := line_sm hS hi he hl
      have ot := toldp_ok hS hi he hH hl
      have k1 : mulOk l.1 H = true := s1.mulOk hH (by omega) (by omega)
      have r1 := ratio_rd l.1 l.2.2 s4 (s3.mono (by omega))
      have r2 := ratio_rd l.2.1 l.2.2 s4 (s3.mono (by omega))
      obtain ⟨t, t1, t2⟩ := fits_line_eq (r := (l.1 : Rat) / (l.2.2 : Rat)) (β := (l.2.1 : Rat) / (l.2.2 : Rat)) hS hn he (SR.div (s1.mono (by omega)) (s3.mono (by omega)) s4) (SR.div (s2.mono (by omega)) (s3.mono (by omega)) s4)
      have ht := t2.mpr (lines_fit hi hl).2
      subst ht
      have lk := like_bool 7 true
      have e3 : enc3 l = .tuple [.int l.1, .int l.2.1, .int l.2.2] := rfl
      have et : tp (toldp H l) = .tuple [.int (l.2.1 + l.1 * H), .int l.2.2] := rfl
      refine ⟨[some (.tuple (S.map enc)), some (.int e), some (.int H), x3, x4, some (dd (mnp (pre.map (toldp H))) (mxp (pre.map (toldp H)))), some (.int l.1), some (.int l.2.1), some (.int l.2.2), d, none, none, none, none, none, none], [some (.tuple (S.map enc)), some (.int e), some (.int H), x3, x4, some (dd (mnp ((pre ++ [l]).map (toldp H))) (mxp ((pre ++ [l]).map (toldp H)))), some (.int l.1), some (.int l.2.1), some (.int l.2.2), some (tp (toldp H l)), none, none, none, none, none, none], rfl, .inl ?_, by rw [List.append_assoc]; exact hp, .inr ?_, _, _, _, _, rfl⟩
      · rw [List.map_append, List.map_singleton, mxp_app, mnp_app]
        rcases hsome with rfl | ⟨x, y, hx, hy⟩
        · have q := less_tp ot ot
          have z : ¬ pv (toldp H l) < pv (toldp H l) := by rw [Rat.not_lt]; exact Rat.le_refl
          have m1 : dd (ominp (mnp ([].map (toldp H))) (toldp H l)) (omaxp (mxp ([].map (toldp H))) (toldp H l)) = .tuple [tp (toldp H l), tp (toldp H l)] := rfl
          have m2 : dd (mnp ([].map (toldp H))) (mxp ([].map (toldp H))) = .none := rfl
          rw [m1, m2]
          generalize S.map enc = M at *
          rw [et] at *
          simp -implicitDefEqProofs only [l1__law_sounded, xVar_a, xC_a, xBin_a, xUn_a, tOf_a, tTru_a, tNotP_a, tAndP_a, tOrP_a, tyes_a, tno_a, tYesP_a, xNil_a, xCons_a, xTup_a, xLst_a, xAnd_a, xOr_a, xIf_a, xChain_a, oNo_a, oAt_a, xSl_a, xCall_a, xSeq_a, xIt_a, xLc_a, gSet_a, gTupD_a, gsNil_a, gsCons_a, sNop_a, sBrk_a, sCnt_a, sSeq_a, sRet_a, sIf_a, sSet_a, sTgt_a, sAug_a, sApp_a, sExt_a, sPut_a, sPutK_a, pkO_s, sFor_a, sWhile_a, sPar_a, runD_a, b2_s, c2_s, sqO_nx, sqO_rt, sqO_bk, sqO_ct, ifO_t, ifO_f, stO_s, endO_nx, endO_rt, andO_t, andO_f, orO_t, orO_f, chO_s, chP_t, chP_f, slO_s, atO_i, lcO_s, forO_s, gsO_s, nxO_s, tgO_s, paO_s, apO_s, exO_s, plO_s, ptO_s, dB_b, tru_b, tru_n, tru_i, tru_l, tru_t, is_n, isn_n, nn_n, nn_i, nn_b, nn_t, nn_l, add_ii, add'_ii, sub_ii, neg_i, lt_ii, le_ii, gt_ii, ge_ii, ix_l, ix_t, ix_s, at0, at1, at2, sl_l, sl_t, len_l, len_t, len_s, abs_i, int_i, int_b, max_ii, min_ii, tup_s, lst_s, seq_l, seq_t, sum_s, wipe_n, wipe_c, mul_ii, fdiv_ii, mod_ii, add_ll, add_tt, setAll, mkT, mkL, oNot, List.getD_cons_zero, List.getD_cons_succ, List.length_cons, List.length_nil, List.set_cons_zero, List.set_cons_succ, List.map_cons, List.map_nil, List.replicate, List.cons_append, List.nil_append, List.append_nil, Option.bind_some, Option.map_some, List.all_cons, List.all_nil, if_true, if_false, reduceIte, Nat.reduceAdd, Nat.reduceSub, Nat.reduceLT, Nat.reduceLeDiff, Nat.reduceEqDiff, decide_true, decide_false, Bool.and_true, Bool.and_self, Bool.true_and, Bool.not_true, Bool.not_false, ne_eq, not_true_eq_false, not_false_eq_true, Nat.zero_add, Bool.false_eq_true, and_self, true_and, and_true, k1, q, z, r1, r2, t1, lk]
        · have ox : Okf x := by
            obtain ⟨k, hk, h⟩ := List.mem_map.mp (mnp_mem hx)
            rw [← h]
            exact toldp_ok hS hi he hH (hm k hk)
          have oy : Okf y := by
            obtain ⟨k, hk, h⟩ := List.mem_map.mp (mxp_mem hy)
            rw [← h]
            exact toldp_ok hS hi he hH (hm k hk)
          have q1 := less_tp ot ox
          have q2 := less_tp oy ot
          rw [hx, hy]
          have m2 : dd (some x) (some y) = .tuple [tp x, tp y] := rfl
          have m1 : dd (ominp (some x) (toldp H l)) (omaxp (some y) (toldp H l)) = .tuple [tp (if pv (toldp H l) < pv x then toldp H l else x), tp (if pv y < pv (toldp H l) then toldp H l else y)] := rfl
          rw [m1, m2]
          generalize S.map enc = M at *
          by_cases z1 : pv (toldp H l) < pv x
          · by_cases z2 : pv y < pv (toldp H l)
            · rw [if_pos z1, if_pos z2]
              rw [et] at *
              simp -implicitDefEqProofs only [l1__law_sounded, xVar_a, xC_a, xBin_a, xUn_a, tOf_a, tTru_a, tNotP_a, tAndP_a, tOrP_a, tyes_a, tno_a, tYesP_a, xNil_a, xCons_a, xTup_a, xLst_a, xAnd_a, xOr_a, xIf_a, xChain_a, oNo_a, oAt_a, xSl_a, xCall_a, xSeq_a, xIt_a, xLc_a, gSet_a, gTupD_a, gsNil_a, gsCons_a, sNop_a, sBrk_a, sCnt_a, sSeq_a, sRet_a, sIf_a, sSet_a, sTgt_a, sAug_a, sApp_a, sExt_a, sPut_a, sPutK_a, pkO_s, sFor_a, sWhile_a, sPar_a, runD_a, b2_s, c2_s, sqO_nx, sqO_rt, sqO_bk, sqO_ct, ifO_t, ifO_f, stO_s, endO_nx, endO_rt, andO_t, andO_f, orO_t, orO_f, chO_s, chP_t, chP_f, slO_s, atO_i, lcO_s, forO_s, gsO_s, nxO_s, tgO_s, paO_s, apO_s, exO_s, plO_s, ptO_s, dB_b, tru_b, tru_n, tru_i, tru_l, tru_t, is_n, isn_n, nn_n, nn_i, nn_b, nn_t, nn_l, add_ii, add'_ii, sub_ii, neg_i, lt_ii, le_ii, gt_ii, ge_ii, ix_l, ix_t, ix_s, at0, at1, at2, sl_l, sl_t, len_l, len_t, len_s, abs_i, int_i, int_b, max_ii, min_ii, tup_s, lst_s, seq_l, seq_t, sum_s, wipe_n, wipe_c, mul_ii, fdiv_ii, mod_ii, add_ll, add_tt, setAll, mkT, mkL, oNot, List.getD_cons_zero, List.getD_cons_succ, List.length_cons, List.length_nil, List.set_cons_zero, List.set_cons_succ, List.map_cons, List.map_nil, List.replicate, List.cons_append, List.nil_append, List.append_nil, Option.bind_some, Option.map_some, List.all_cons, List.all_nil, if_true, if_false, reduceIte, Nat.reduceAdd, Nat.reduceSub, Nat.reduceLT, Nat.reduceLeDiff, Nat.reduceEqDiff, decide_true, decide_false, Bool.and_true, Bool.and_self, Bool.true_and, Bool.not_true, Bool.not_false, ne_eq, not_true_eq_false, not_false_eq_true, Nat.zero_add, Bool.false_eq_true, and_self, true_and, and_true, k1, q1, q2, z1, z2, r1, r2, t1, lk]
            · rw [if_pos z1, if_neg z2]
              rw [et] at *
              simp -implicitDefEqProofs only [l1__law_sounded, xVar_a, xC_a, xBin_a, xUn_a, tOf_a, tTru_a, tNotP_a, tAndP_a, tOrP_a, tyes_a, tno_a, tYesP_a, xNil_a, xCons_a, xTup_a, xLst_a, xAnd_a, xOr_a, xIf_a, xChain_a, oNo_a, oAt_a, xSl_a, xCall_a, xSeq_a, xIt_a, xLc_a, gSet_a, gTupD_a, gsNil_a, gsCons_a, sNop_a, sBrk_a, sCnt_a, sSeq_a, sRet_a, sIf_a, sSet_a, sTgt_a, sAug_a, sApp_a, sExt_a, sPut_a, sPutK_a, pkO_s, sFor_a, sWhile_a, sPar_a, runD_a, b2_s, c2_s, sqO_nx, sqO_rt, sqO_bk, sqO_ct, ifO_t, ifO_f, stO_s, endO_nx, endO_rt, andO_t, andO_f, orO_t, orO_f, chO_s, chP_t, chP_f, slO_s, atO_i, lcO_s, forO_s, gsO_s, nxO_s, tgO_s, paO_s, apO_s, exO_s, plO_s, ptO_s, dB_b, tru_b, tru_n, tru_i, tru_l, tru_t, is_n, isn_n, nn_n, nn_i, nn_b, nn_t, nn_l, add_ii, add'_ii, sub_ii, neg_i, lt_ii, le_ii, gt_ii, ge_ii, ix_l, ix_t, ix_s, at0, at1, at2, sl_l, sl_t, len_l, len_t, len_s, abs_i, int_i, int_b, max_ii, min_ii, tup_s, lst_s, seq_l, seq_t, sum_s, wipe_n, wipe_c, mul_ii, fdiv_ii, mod_ii, add_ll, add_tt, setAll, mkT, mkL, oNot, List.getD_cons_zero, List.getD_cons_succ, List.length_cons, List.length_nil, List.set_cons_zero, List.set_cons_succ, List.map_cons, List.map_nil, List.replicate, List.cons_append, List.nil_append, List.append_nil, Option.bind_some, Option.map_some, List.all_cons, List.all_nil, if_true, if_false, reduceIte, Nat.reduceAdd, Nat.reduceSub, Nat.reduceLT, Nat.reduceLeDiff, Nat.reduceEqDiff, decide_true, decide_false, Bool.and_true, Bool.and_self, Bool.true_and, Bool.not_true, Bool.not_false, ne_eq, not_true_eq_false, not_false_eq_true, Nat.zero_add, Bool.false_eq_true, and_self, true_and, and_true, k1, q1, q2, z1, z2, r1, r2, t1, lk]
          · by_cases z2 : pv y < pv (toldp H l)
            · rw [if_neg z1, if_pos z2]
              rw [et] at *
              simp -implicitDefEqProofs only [l1__law_sounded, xVar_a, xC_a, xBin_a, xUn_a, tOf_a, tTru_a, tNotP_a, tAndP_a, tOrP_a, tyes_a, tno_a, tYesP_a, xNil_a, xCons_a, xTup_a, xLst_a, xAnd_a, xOr_a, xIf_a, xChain_a, oNo_a, oAt_a, xSl_a, xCall_a, xSeq_a, xIt_a, xLc_a, gSet_a, gTupD_a, gsNil_a, gsCons_a, sNop_a, sBrk_a, sCnt_a, sSeq_a, sRet_a, sIf_a, sSet_a, sTgt_a, sAug_a, sApp_a, sExt_a, sPut_a, sPutK_a, pkO_s, sFor_a, sWhile_a, sPar_a, runD_a, b2_s, c2_s, sqO_nx, sqO_rt, sqO_bk, sqO_ct, ifO_t, ifO_f, stO_s, endO_nx, endO_rt, andO_t, andO_f, orO_t, orO_f, chO_s, chP_t, chP_f, slO_s, atO_i, lcO_s, forO_s, gsO_s, nxO_s, tgO_s, paO_s, apO_s, exO_s, plO_s, ptO_s, dB_b, tru_b, tru_n, tru_i, tru_l, tru_t, is_n, isn_n, nn_n, nn_i, nn_b, nn_t, nn_l, add_ii, add'_ii, sub_ii, neg_i, lt_ii, le_ii, gt_ii, ge_ii, ix_l, ix_t, ix_s, at0, at1, at2, sl_l, sl_t, len_l, len_t, len_s, abs_i, int_i, int_b, max_ii, min_ii, tup_s, lst_s, seq_l, seq_t, sum_s, wipe_n, wipe_c, mul_ii, fdiv_ii, mod_ii, add_ll, add_tt, setAll, mkT, mkL, oNot, List.getD_cons_zero, List.getD_cons_succ, List.length_cons, List.length_nil, List.set_cons_zero, List.set_cons_succ, List.map_cons, List.map_nil, List.replicate, List.cons_append, List.nil_append, List.append_nil, Option.bind_some, Option.map_some, List.all_cons, List.all_nil, if_true, if_false, reduceIte, Nat.reduceAdd, Nat.reduceSub, Nat.reduceLT, Nat.reduceLeDiff, Nat.reduceEqDiff, decide_true, decide_false, Bool.and_true, Bool.and_self, Bool.true_and, Bool.not_true, Bool.not_false, ne_eq, not_true_eq_false, not_false_eq_true, Nat.zero_add, Bool.false_eq_true, and_self, true_and, and_true, k1, q1, q2, z1, z2, r1, r2, t1, lk]
            · rw [if_neg z1, if_neg z2]
              rw [et] at *
              simp -implicitDefEqProofs only [l1__law_sounded, xVar_a, xC_a, xBin_a, xUn_a, tOf_a, tTru_a, tNotP_a, tAndP_a, tOrP_a, tyes_a, tno_a, tYesP_a, xNil_a, xCons_a, xTup_a, xLst_a, xAnd_a, xOr_a, xIf_a, xChain_a, oNo_a, oAt_a, xSl_a, xCall_a, xSeq_a, xIt_a, xLc_a, gSet_a, gTupD_a, gsNil_a, gsCons_a, sNop_a, sBrk_a, sCnt_a, sSeq_a, sRet_a, sIf_a, sSet_a, sTgt_a, sAug_a, sApp_a, sExt_a, sPut_a, sPutK_a, pkO_s, sFor_a, sWhile_a, sPar_a, runD_a, b2_s, c2_s, sqO_nx, sqO_rt, sqO_bk, sqO_ct, ifO_t, ifO_f, stO_s, endO_nx, endO_rt, andO_t, andO_f, orO_t, orO_f, chO_s, chP_t, chP_f, slO_s, atO_i, lcO_s, forO_s, gsO_s, nxO_s, tgO_s, paO_s, apO_s, exO_s, plO_s, ptO_s, dB_b, tru_b, tru_n, tru_i, tru_l, tru_t, is_n, isn_n, nn_n, nn_i, nn_b, nn_t, nn_l, add_ii, add'_ii, sub_ii, neg_i, lt_ii, le_ii, gt_ii, ge_ii, ix_l, ix_t, ix_s, at0, at1, at2, sl_l, sl_t, len_l, len_t, len_s, abs_i, int_i, int_b, max_ii, min_ii, tup_s, lst_s, seq_l, seq_t, sum_s, wipe_n, wipe_c, mul_ii, fdiv_ii, mod_ii, add_ll, add_tt, setAll, mkT, mkL, oNot, List.getD_cons_zero, List.getD_cons_succ, List.length_cons, List.length_nil, List.set_cons_zero, List.set_cons_succ, List.map_cons, List.map_nil, List.replicate, List.cons_append, List.nil_append, List.append_nil, Option.bind_some, Option.map_some, List.all_cons, List.all_nil, if_true, if_false, reduceIte, Nat.reduceAdd, Nat.reduceSub, Nat.reduceLT, Nat.reduceLeDiff, Nat.reduceEqDiff, decide_true, decide_false, Bool.and_true, Bool.and_self, Bool.true_and, Bool.not_true, Bool.not_false, ne_eq, not_true_eq_false, not_false_eq_true, Nat.zero_add, Bool.false_eq_true, and_self, true_and, and_true, k1, q1, q2, z1, z2, r1, r2, t1, lk]
      · rw [List.map_append, List.map_singleton, mxp_app, mnp_app]
        cases h1 : mnp (pre.map (toldp H)) <;> cases h2 : mxp (pre.map (toldp H)) <;> exact ⟨_, _, rfl, rfl⟩) (lines S e) [] [some (.tuple (S.map enc)), some (.int e), some (.int H), x3, x4, some .none, none, none, none, none, none, none, none, none, none, none] ⟨rfl, .inl rfl, none, none, none, none, rfl⟩
  obtain ⟨_, a, b, c, d, e'⟩ := h
  subst e'
  exact ⟨a, b, c, d, e1⟩
end K28

namespace K28
open PySem PySem.Spec PyProof.Rows L2 Pm
/-- a loop that breaks at the first -/
theorem forL_findB {β : Type} {g : D → PEnv → Option PEnv} {b : XS} (en : β → D) (P : β → Bool) (I : PEnv → Prop) (J : β → PEnv → Prop) : ∀ (xs : List β), (∀ x ∈ xs, ∀ ρ, I ρ → ∃ ρ1 ρ2, g (en x) ρ = some ρ1 ∧ (P x = true → b ρ1 = some (.bk ρ2) ∧ J x ρ2) ∧ (P x = false → b ρ1 = some (.nx ρ2) ∧ I ρ2)) →
    ∀ ρ, I ρ → ∃ ρ', forL g b (xs.map en) ρ = some (.nx ρ') ∧ ((∃ x, xs.find? P = some x ∧ J x ρ') ∨ (xs.find? P = none ∧ I ρ'))
  | [], _, ρ, h => ⟨ρ, rfl, .inr ⟨rfl, h⟩⟩
  | x :: xs, hb, ρ, h => by
    obtain ⟨ρ1, ρ2, e1, h1, h2⟩ := hb x (List.mem_cons_self ..) ρ h
    cases hp : P x with
    | true =>
      obtain ⟨e2, h3⟩ := h1 hp
      exact ⟨ρ2, by simp only [List.map_cons, forL, e1, e2, Option.bind_some], .inl ⟨x, by rw [List.find?_cons_of_pos hp], h3⟩⟩
    | false =>
      obtain ⟨e2, h3⟩ := h2 hp
      have hn : xs.find? P = (x :: xs).find? P := by rw [List.find?_cons_of_neg (by rw [hp]; decide)]
      obtain ⟨ρ', z1, z2⟩ := forL_findB en P I J xs (fun y hy => hb y (List.mem_cons_of_mem _ hy)) ρ2 h3
      refine ⟨ρ', by simp only [List.map_cons, forL, e1, e2, Option.bind_some, z1], ?_⟩
      rw [← hn]
      exact z2
theorem like_rr (n : Nat) (x y : Rat) : d__law_like (n + 3) [.tuple [rd x, rd y], .tuple [rd x, rd y]] = some (.bool true) := by
  refine like_tup _ _ (by simp) fun z hz => ?_
  simp at hz
  rcases hz with rfl | rfl <;> exact like_rd _ _
theorem like_ratesD (n : Nat) (o : Option (Rat × Rat)) : d__law_like (n + 3) [ratesD o, ratesD o] = some (.bool true) := by
  cases o with
  | none => exact like_none _
  | some p => exact like_rr _ _ _
theorem like_found {β : Type} (n : Nat) (f : β → Int) (o : Option β) : d__law_like (n + 1) [foundD (fun x => PyData.int (f x)) o, foundD (fun x => PyData.int (f x)) o] = some (.bool true) := by
  cases o with
  | none => exact like_none _
  | some p => exact like_int _ _
theorem ne_same (t : Bool) : oNe (.bool t) (.bool t) = some (.bool false) := by
  cases t <;> simp [oNe, shp, SeqAt.shaped, PyData.eqv, PyData.canLay0, PyData.depth]
/-- a rate beyond the rates -/
theorem below_lo (lo : Rat) : ((2 * lo.num - 1 : Int) : Rat) / ((2 * (lo.den : Int) : Int) : Rat) < lo := by
  have hd := den_pos lo
  conv => rhs; rw [rat_eq lo]
  rw [qlt (by omega) hd]
  have : (2 * lo.num - 1) * (lo.den : Int) = lo.num * (2 * (lo.den : Int)) - lo.den := by grind
  omega
theorem above_hi (hg : Rat) : hg < ((2 * hg.num + 1 : Int) : Rat) / ((2 * (hg.den : Int) : Int) : Rat) := by
  have hd := den_pos hg
  conv => lhs; rw [rat_eq hg]
  rw [qlt hd (by omega)]
  have : (2 * hg.num + 1) * (hg.den : Int) = hg.num * (2 * (hg.den : Int)) + hg.den := by grind
  omega
theorem no_step {S : List Sd} {e : Int} (hS : OkS S) (hi : Inc S) (h2 : 2 ≤ S.length) (he : Sm 10 e) {lo hg : Rat} (h3 : mx ((pairs S).map (plo e)) = some lo) (h4 : mn ((pairs S).map (phi e)) = some hg) {a b h d : Int} (hb : 0 < b) (sa : Sm 120 a) (sb : Sm 120 b) (sh : Sm 10 h) (sd : Sm 10 d) (hr : (a : Rat) / (b : Rat) < lo ∨ hg < (a : Rat) / (b : Rat)) :
    mulOk d b = true ∧ mulOk h a = true ∧ ∃ r β, d__law_ratio [.int a, .int b] = some (rd r) ∧ d__law_ratio [.int (d * b - h * a), .int b] = some (rd β) ∧ d_fits_line [.tuple (S.map enc), .int e, rd r, rd β] = some (.bool false) := by
  have hn : S ≠ [] := by intro h; rw [h] at h2; simp at h2
  have sx : Sm 131 (d * b - h * a) := (((sd.mul sb).mono (k := 130) (by omega)).sub ((sh.mul sa).mono (k := 130) (by omega))).mono (by omega)
  refine ⟨sd.mulOk sb (by omega) (by omega), sh.mulOk sa (by omega) (by omega), _, _, ratio_rd a b hb (sb.mono (by omega)), ratio_rd _ b hb (sb.mono (by omega)), ?_⟩
  obtain ⟨t, t1, t2⟩ := fits_line_eq (r := (a : Rat) / (b : Rat)) (β := ((d * b - h * a : Int) : Rat) / (b : Rat)) hS hn he (SR.div (sa.mono (by omega)) (sb.mono (by omega)) hb) (SR.div (sx.mono (by omega)) (sb.mono (by omega)) hb)
  cases t with
  | false => exact t1
  | true => exact absurd (t2.mp rfl) (no_fit_beyond hi h2 h3 h4 hr _)
theorem sure_told {S : List Sd} {e H : Int} (hS : OkS S) (hi : Inc S) (hl : S.length ≤ 1000) (hpl : (pairs S).length ≤ 1000) (h2 : 2 ≤ S.length) (he : Sm 10 e) (he0 : 0 ≤ e) (hH : Sm 10 H) :
    (lines S e = [] ∧ d_sure_depth [.tuple (S.map enc), .int e, .int H] = some .none ∧ dd (mnp ((lines S e).map (toldp H))) (mxp ((lines S e).map (toldp H))) = .none) ∨ ∃ x y, Okf x ∧ Okf y ∧ d_sure_depth [.tuple (S.map enc), .int e, .int H] = some (.tuple [rd (pv x), rd (pv y)]) ∧ dd (mnp ((lines S e).map (toldp H))) (mxp ((lines S e).map (toldp H))) = .tuple [tp x, tp y] := by
  have hn : S ≠ [] := by intro h; rw [h] at h2; simp at h2
  obtain ⟨lo, hg, h3, h4, _, _⟩ := rates_spec e h2
  have hs := sure_depth_eq hS hn hi hl hpl he hH h3 h4
  have hiff := lines_nil_iff hi he0 h2 h3 h4
  by_cases hz : lines S e = []
  · rw [if_pos (hiff.mpr hz)] at hs
    exact .inl ⟨hz, hs, by rw [hz]; rfl⟩
  · rw [if_neg (fun h => hz (hiff.mp h)), least_told hi he0 h2 h3 h4 hz, most_told hi he0 h2 h3 h4 hz] at hs
    refine .inr ?_
    have p1 := mnp_mn ((lines S e).map (toldp H))
    have p2 := mxp_mx ((lines S e).map (toldp H))
    have ep : ((lines S e).map (toldp H)).map pv = (lines S e).map (told H) := by
      rw [List.map_map]
      exact List.map_congr_left fun l hl => pv_toldp (lines_fit hi hl).1
    rw [ep] at p1 p2
    obtain ⟨a, a1, _⟩ := mn_spec (l := (lines S e).map (told H)) (by simpa using hz)
    obtain ⟨b, b1, _⟩ := mx_spec (l := (lines S e).map (told H)) (by simpa using hz)
    rw [a1] at p1 hs
    rw [b1] at p2 hs
    cases hx : mnp ((lines S e).map (toldp H)) with
    | none => rw [hx] at p1; cases p1
    | some x =>
      cases hy : mxp ((lines S e).map (toldp H)) with
      | none => rw [hy] at p2; cases p2
      | some y =>
        rw [hx] at p1
        rw [hy] at p2
        injection p1 with p1
        injection p2 with p2
        refine ⟨x, y, ?_, ?_, ?_, rfl⟩
        · obtain ⟨k, hk, h⟩ := List.mem_map.mp (mnp_mem hx)
          rw [← h]
          exact toldp_ok hS hi he hH hk
        · obtain ⟨k, hk, h⟩ := List.mem_map.mp (mxp_mem hy)
          rw [← h]
          exact toldp_ok hS hi he hH hk
        · rw [p1, p2]
          exact hs
end K28

namespace K28
open PySem PySem.Spec PyProof.Rows L2 Pm
theorem odd_loop {S : List Sd} {e : Int} (hS : OkS S) (hi : Inc S) (hl : S.length ≤ 1000) (h2 : 3 ≤ S.length) (he : Sm 10 e) (y2 y3 y4 y5 y6 y7 y8 y9 y11 y12 y14 y15 : Option D) :
    ∃ a, forL (gSet 13) l3__law_sounded ((List.range S.length).map fun i : Nat => PyData.int (i : Nat)) [some (.tuple (S.map enc)), some (.int e), y2, y3, y4, y5, y6, y7, y8, y9, some .none, y11, y12, none, y14, y15] =
      some (.nx [some (.tuple (S.map enc)), some (.int e), y2, y3, y4, y5, y6, y7, y8, y9, some (foundD (fun i : Nat => PyData.int (i : Nat)) ((List.range S.length).find? (oddP S e))), y11, y12, a, y14, y15]) := by
  obtain ⟨ρ', e1, h⟩ := forL_findB (g := gSet 13) (b := l3__law_sounded) (fun i : Nat => PyData.int (i : Nat)) (oddP S e) (fun ρ => ∃ a, ρ = [some (.tuple (S.map enc)), some (.int e), y2, y3, y4, y5, y6, y7, y8, y9, some .none, y11, y12, a, y14, y15])
    (fun k ρ => ∃ a, ρ = [some (.tuple (S.map enc)), some (.int e), y2, y3, y4, y5, y6, y7, y8, y9, some (.int (k : Nat)), y11, y12, a, y14, y15]) (List.range S.length) (fun k hk ρ ⟨a, e'⟩ => by
      subst e'
      have hk' : k < S.length := by simpa using hk
      have c1 := cut_upto (S.map enc) k
      have c2 : Pm.cutD (S.map enc) (some ((k : Nat) + 1 : Int)) none = (S.drop (k + 1)).map enc := by
        rw [List.map_drop]
        exact cut_from (S.map enc) (k + 1) (by simp; omega)
      rw [← List.map_take] at c1
      have c3 : oAdd (.tuple ((S.take k).map enc)) (.tuple ((S.drop (k + 1)).map enc)) = some (.tuple ((rem S k).map enc)) := by
        rw [add_tt (by simp; omega)]
        unfold rem
        rw [List.map_append]
      have hlen := rem_len hk'
      have hr2 := law_rates_eq (hS.sub (rem_sub S k)) (hi.sub (rem_sub S k)) (by omega) (by omega) he
      have hb : ¬ (rem S k).length < 2 := by omega
      by_cases hp : oddP S e k = true
      · have hq2 : (rates (rem S k) e).isNone = false := by
          cases h : rates (rem S k) e with
          | none => unfold oddP at hp; rw [h] at hp; simp [hb] at hp
          | some _ => rfl
        refine ⟨[some (.tuple (S.map enc)), some (.int e), y2, y3, y4, y5, y6, y7, y8, y9, some .none, y11, y12, some (.int (k : Nat)), y14, y15], [some (.tuple (S.map enc)), some (.int e), y2, y3, y4, y5, y6, y7, y8, y9, some (.int (k : Nat)), y11, y12, some (.int (k : Nat)), y14, y15], rfl, fun _ => ⟨?_, _, rfl⟩, fun h => by rw [h] at hp; cases hp⟩
        simp -implicitDefEqProofs only [l3__law_sounded, xVar_a, xC_a, xBin_a, xUn_a, tOf_a, tTru_a, tNotP_a, tAndP_a, tOrP_a, tyes_a, tno_a, tYesP_a, xNil_a, xCons_a, xTup_a, xLst_a, xAnd_a, xOr_a, xIf_a, xChain_a, oNo_a, oAt_a, xSl_a, xCall_a, xSeq_a, xIt_a, xLc_a, gSet_a, gTupD_a, gsNil_a, gsCons_a, sNop_a, sBrk_a, sCnt_a, sSeq_a, sRet_a, sIf_a, sSet_a, sTgt_a, sAug_a, sApp_a, sExt_a, sPut_a, sPutK_a, pkO_s, sFor_a, sWhile_a, sPar_a, runD_a, b2_s, c2_s, sqO_nx, sqO_rt, sqO_bk, sqO_ct, ifO_t, ifO_f, stO_s, endO_nx, endO_rt, andO_t, andO_f, orO_t, orO_f, chO_s, chP_t, chP_f, slO_s, atO_i, lcO_s, forO_s, gsO_s, nxO_s, tgO_s, paO_s, apO_s, exO_s, plO_s, ptO_s, dB_b, tru_b, tru_n, tru_i, tru_l, tru_t, is_n, isn_n, nn_n, nn_i, nn_b, nn_t, nn_l, add_ii, add'_ii, sub_ii, neg_i, lt_ii, le_ii, gt_ii, ge_ii, ix_l, ix_t, ix_s, at0, at1, at2, sl_l, sl_t, len_l, len_t, len_s, abs_i, int_i, int_b, max_ii, min_ii, tup_s, lst_s, seq_l, seq_t, sum_s, wipe_n, wipe_c, mul_ii, fdiv_ii, mod_ii, add_ll, add_tt, setAll, mkT, mkL, oNot, List.getD_cons_zero, List.getD_cons_succ, List.length_cons, List.length_nil, List.set_cons_zero, List.set_cons_succ, List.map_cons, List.map_nil, List.replicate, List.cons_append, List.nil_append, List.append_nil, Option.bind_some, Option.map_some, List.all_cons, List.all_nil, if_true, if_false, reduceIte, Nat.reduceAdd, Nat.reduceSub, Nat.reduceLT, Nat.reduceLeDiff, Nat.reduceEqDiff, decide_true, decide_false, Bool.and_true, Bool.and_self, Bool.true_and, Bool.not_true, Bool.not_false, ne_eq, not_true_eq_false, not_false_eq_true, Nat.zero_add, Bool.false_eq_true, and_self, true_and, and_true, c1, c2, c3, hr2, isn_n, ratesD_nn, hq2]
      · have hq2 : (rates (rem S k) e).isNone = true := by
          cases h : rates (rem S k) e with
          | none => rfl
          | some _ => unfold oddP at hp; rw [h] at hp; simp at hp
        refine ⟨[some (.tuple (S.map enc)), some (.int e), y2, y3, y4, y5, y6, y7, y8, y9, some .none, y11, y12, some (.int (k : Nat)), y14, y15], [some (.tuple (S.map enc)), some (.int e), y2, y3, y4, y5, y6, y7, y8, y9, some .none, y11, y12, some (.int (k : Nat)), y14, y15], rfl, fun h => absurd h hp, fun _ => ⟨?_, _, rfl⟩⟩
        simp -implicitDefEqProofs only [l3__law_sounded, xVar_a, xC_a, xBin_a, xUn_a, tOf_a, tTru_a, tNotP_a, tAndP_a, tOrP_a, tyes_a, tno_a, tYesP_a, xNil_a, xCons_a, xTup_a, xLst_a, xAnd_a, xOr_a, xIf_a, xChain_a, oNo_a, oAt_a, xSl_a, xCall_a, xSeq_a, xIt_a, xLc_a, gSet_a, gTupD_a, gsNil_a, gsCons_a, sNop_a, sBrk_a, sCnt_a, sSeq_a, sRet_a, sIf_a, sSet_a, sTgt_a, sAug_a, sApp_a, sExt_a, sPut_a, sPutK_a, pkO_s, sFor_a, sWhile_a, sPar_a, runD_a, b2_s, c2_s, sqO_nx, sqO_rt, sqO_bk, sqO_ct, ifO_t, ifO_f, stO_s, endO_nx, endO_rt, andO_t, andO_f, orO_t, orO_f, chO_s, chP_t, chP_f, slO_s, atO_i, lcO_s, forO_s, gsO_s, nxO_s, tgO_s, paO_s, apO_s, exO_s, plO_s, ptO_s, dB_b, tru_b, tru_n, tru_i, tru_l, tru_t, is_n, isn_n, nn_n, nn_i, nn_b, nn_t, nn_l, add_ii, add'_ii, sub_ii, neg_i, lt_ii, le_ii, gt_ii, ge_ii, ix_l, ix_t, ix_s, at0, at1, at2, sl_l, sl_t, len_l, len_t, len_s, abs_i, int_i, int_b, max_ii, min_ii, tup_s, lst_s, seq_l, seq_t, sum_s, wipe_n, wipe_c, mul_ii, fdiv_ii, mod_ii, add_ll, add_tt, setAll, mkT, mkL, oNot, List.getD_cons_zero, List.getD_cons_succ, List.length_cons, List.length_nil, List.set_cons_zero, List.set_cons_succ, List.map_cons, List.map_nil, List.replicate, List.cons_append, List.nil_append, List.append_nil, Option.bind_some, Option.map_some, List.all_cons, List.all_nil, if_true, if_false, reduceIte, Nat.reduceAdd, Nat.reduceSub, Nat.reduceLT, Nat.reduceLeDiff, Nat.reduceEqDiff, decide_true, decide_false, Bool.and_true, Bool.and_self, Bool.true_and, Bool.not_true, Bool.not_false, ne_eq, not_true_eq_false, not_false_eq_true, Nat.zero_add, Bool.false_eq_true, and_self, true_and, and_true, c1, c2, c3, hr2, isn_n, ratesD_nn, hq2]) [some (.tuple (S.map enc)), some (.int e), y2, y3, y4, y5, y6, y7, y8, y9, some .none, y11, y12, none, y14, y15] ⟨none, rfl⟩
  rcases h with ⟨k, f1, a, e'⟩ | ⟨f1, a, e'⟩
  · subst e'
    rw [f1]
    exact ⟨a, e1⟩
  · subst e'
    rw [f1]
    exact ⟨a, e1⟩
theorem sounded_ok {s0 : Sd} {S' : List Sd} {e H : Int} (hS : OkS (s0 :: S')) (hi : Inc (s0 :: S')) (hl : (s0 :: S').length ≤ 1000) (hpl : (pairs (s0 :: S')).length ≤ 1000) (h2 : 2 ≤ (s0 :: S').length) (he : Sm 10 e) (he0 : 0 ≤ e) (hH : Sm 10 H) (hd : ∀ s ∈ s0 :: S', s.2 ≤ 99) (h0 : 0 ≤ s0.1) :
    d__law_sounded [.tuple ((s0 :: S').map enc), .int e, .int H] = some (.bool true) := by
  have hs0 := hS s0 (by simp)
  have hA : atI ((s0 :: S').map enc) 0 = some (.tuple [.int s0.1, .int s0.2]) := by
    rw [List.map_cons, at0]
    rfl
  have hn : s0 :: S' ≠ [] := by simp
  have f1 := law_rates_eq hS hi hl h2 he
  have f2 := law_lines_eq hS hi hl hpl he
  have f3 := rate_range_r hS hi hl h2 he
  have f4 := like_ratesD 5 (rates (s0 :: S') e)
  have f6 := from_hour_eq hS hi h2 he h0
  have f7 := law_begun_eq hS hi he he0 hd h0
  have f8 : d__law_like 8 [begun (s0 :: S') e s0.1, begun (s0 :: S') e s0.1] = some (.bool true) := like_found 7 (fun k : Nat => s0.1 - (k : Nat)) _
  have f9 := odd_eq hS hi hl h2 he
  have f10 := rates_isNone hi he0 h2
  have hR : oR1 [.int ((s0 :: S').map enc).length] = some ((List.range (s0 :: S').length).map fun i => PyData.int (i : Nat)) := by
    have := oR1_nat ((s0 :: S').map enc).length (by rw [List.length_map]; omega)
    rwa [List.length_map] at this ⊢
  have lkt := like_bool 7 true
  have lkf := like_bool 7 false
  rcases sure_told hS hi hl hpl h2 he he0 hH with ⟨q1, q2, q3⟩ | ⟨x, y, ox, oy, q2, q3⟩
  · -- no line fits
    have hrn : rates (s0 :: S') e = none := by
      rw [q1, decide_eq_true rfl] at f10
      exact Option.isNone_iff_eq_none.mp f10
    have h3 : 3 ≤ (s0 :: S').length := by
      by_cases h : (s0 :: S').length = 2
      · have := two_rates (e := e) hi he0 h
        rw [hrn] at this
        cases this
      · omega
    rw [hrn] at f1 f3 f4 f9
    rw [q1] at f2
    simp only [ratesD] at f1 f3 f4
    have lkn := like_none 7
    have lko := like_found 7 (fun i : Nat => ((i : Nat) : Int)) ((List.range (s0 :: S').length).find? (oddP (s0 :: S') e))
    have e00 : decide (((0 : Nat) : Int) = 0) = true := rfl
    rw [if_neg (by decide)] at f9
    obtain ⟨a, g1⟩ := odd_loop hS hi hl h3 he (some (.int H)) (some .none) (some (.list [])) (some .none) none none none none (some (.int s0.1)) (some (.int s0.2)) none none
    generalize foundD (fun i : Nat => PyData.int (i : Nat)) ((List.range (s0 :: S').length).find? (oddP (s0 :: S') e)) = OD at *
    have hfb : flat (.bool true) = true := rfl
    generalize (List.range (s0 :: S').length).map (fun i : Nat => PyData.int (i : Nat)) = RR at *
    generalize (s0 :: S').map enc = M at *
    simp -implicitDefEqProofs only [d__law_sounded, g__law_sounded, forL, xVar_a, xC_a, xBin_a, xUn_a, tOf_a, tTru_a, tNotP_a, tAndP_a, tOrP_a, tyes_a, tno_a, tYesP_a, xNil_a, xCons_a, xTup_a, xLst_a, xAnd_a, xOr_a, xIf_a, xChain_a, oNo_a, oAt_a, xSl_a, xCall_a, xSeq_a, xIt_a, xLc_a, gSet_a, gTupD_a, gsNil_a, gsCons_a, sNop_a, sBrk_a, sCnt_a, sSeq_a, sRet_a, sIf_a, sSet_a, sTgt_a, sAug_a, sApp_a, sExt_a, sPut_a, sPutK_a, pkO_s, sFor_a, sWhile_a, sPar_a, runD_a, b2_s, c2_s, sqO_nx, sqO_rt, sqO_bk, sqO_ct, ifO_t, ifO_f, stO_s, endO_nx, endO_rt, andO_t, andO_f, orO_t, orO_f, chO_s, chP_t, chP_f, slO_s, atO_i, lcO_s, forO_s, gsO_s, nxO_s, tgO_s, paO_s, apO_s, exO_s, plO_s, ptO_s, dB_b, tru_b, tru_n, tru_i, tru_l, tru_t, is_n, isn_n, nn_n, nn_i, nn_b, nn_t, nn_l, add_ii, add'_ii, sub_ii, neg_i, lt_ii, le_ii, gt_ii, ge_ii, ix_l, ix_t, ix_s, at0, at1, at2, sl_l, sl_t, len_l, len_t, len_s, abs_i, int_i, int_b, max_ii, min_ii, tup_s, lst_s, seq_l, seq_t, sum_s, wipe_n, wipe_c, mul_ii, fdiv_ii, mod_ii, add_ll, add_tt, setAll, mkT, mkL, oNot, List.getD_cons_zero, List.getD_cons_succ, List.length_cons, List.length_nil, List.set_cons_zero, List.set_cons_succ, List.map_cons, List.map_nil, List.replicate, List.cons_append, List.nil_append, List.append_nil, Option.bind_some, Option.map_some, List.all_cons, List.all_nil, if_true, if_false, reduceIte, Nat.reduceAdd, Nat.reduceSub, Nat.reduceLT, Nat.reduceLeDiff, Nat.reduceEqDiff, decide_true, decide_false, Bool.and_true, Bool.and_self, Bool.true_and, Bool.not_true, Bool.not_false, ne_eq, not_true_eq_false, not_false_eq_true, Nat.zero_add, Bool.false_eq_true, and_self, true_and, and_true, hfb, f1, f2, f3, f4, ne_same, eq_int, Int.ofNat_zero, e00, q2, lkn, flat, f6, f7, f8, hA, hR, g1, f9, lko]
  · have hne : lines (s0 :: S') e ≠ [] := by
      intro h
      rw [h] at q3
      cases q3
    obtain ⟨a, b, c, d, g1⟩ := told_loop (H := H) hS hn hi he hH (some (ratesD (rates (s0 :: S') e))) (some (.list ((lines (s0 :: S') e).map enc3)))
    rw [q3] at g1
    rw [decide_eq_false hne] at f10
    obtain ⟨lo, hg, h3, h4, h5, _⟩ := rates_spec (S := s0 :: S') e h2
    have hrs : rates (s0 :: S') e = some (lo, hg) := by
      rw [h5] at f10 ⊢
      split at f10
      · cases f10
      · next hz => rw [if_neg hz]
    have r1 := ratio_rd x.1 x.2 ox.1 (ox.2.2.mono (by omega))
    have r2 := ratio_rd y.1 y.2 oy.1 (oy.2.2.mono (by omega))
    rw [show (x.1 : Rat) / (x.2 : Rat) = pv x from rfl] at r1
    rw [show (y.1 : Rat) / (y.2 : Rat) = pv y from rfl] at r2
    have hlen : decide ((((lines (s0 :: S') e).map enc3).length : Int) = 0) = false := by
      rw [List.length_map]
      refine decide_eq_false fun h => hne (List.length_eq_zero_iff.mp (by omega))
    have slo := mxp_sr hS hi he _ h3
    have shg := mnp_sr hS hi he _ h4
    have two : Sm 10 2 := Sm.lit
    have a1 : Sm 120 (2 * lo.num - 1) := (((two.mul slo.1).mono (k := 115) (by omega)).sub (Sm.lit (a := 1))).mono (by omega)
    have a2 : Sm 120 (2 * (lo.den : Int)) := (two.mul slo.2).mono (by omega)
    have a3 : Sm 120 (2 * hg.num + 1) := (((two.mul shg.1).mono (k := 115) (by omega)).add (Sm.lit (a := 1))).mono (by omega)
    have a4 : Sm 120 (2 * (hg.den : Int)) := (two.mul shg.2).mono (by omega)
    obtain ⟨m1, m2, v1, v2, u1, u2, u3⟩ := no_step hS hi h2 he h3 h4 (by have := den_pos lo; omega) a1 a2 hs0.1 hs0.2 (.inl (below_lo lo))
    obtain ⟨m3, m4, v3, v4, u4, u5, u6⟩ := no_step hS hi h2 he h3 h4 (by have := den_pos hg; omega) a3 a4 hs0.1 hs0.2 (.inr (above_hi hg))
    have m5 := two.mulOk slo.1 (by omega) (by omega)
    have m6 := two.mulOk slo.2 (by omega) (by omega)
    have m7 := two.mulOk shg.1 (by omega) (by omega)
    have m8 := two.mulOk shg.2 (by omega) (by omega)
    rw [hrs] at f1 f3 f4 f9 g1
    simp only [ratesD] at f1 f3 f4 g1
    rw [if_pos (by rfl)] at f9
    have lks := like_rr 5 (pv x) (pv y)
    have lkn := like_none 7
    have hfl : flat (.bool true) = true := rfl
    have et : ∀ z, tp z = .tuple [.int z.1, .int z.2] := fun z => rfl
    simp only [et] at g1
    generalize (lines (s0 :: S') e).map enc3 = L at *
    generalize (s0 :: S').map enc = M at *
    simp -implicitDefEqProofs only [d__law_sounded, g__law_sounded, l2__law_sounded, forL, lcL, xVar_a, xC_a, xBin_a, xUn_a, tOf_a, tTru_a, tNotP_a, tAndP_a, tOrP_a, tyes_a, tno_a, tYesP_a, xNil_a, xCons_a, xTup_a, xLst_a, xAnd_a, xOr_a, xIf_a, xChain_a, oNo_a, oAt_a, xSl_a, xCall_a, xSeq_a, xIt_a, xLc_a, gSet_a, gTupD_a, gsNil_a, gsCons_a, sNop_a, sBrk_a, sCnt_a, sSeq_a, sRet_a, sIf_a, sSet_a, sTgt_a, sAug_a, sApp_a, sExt_a, sPut_a, sPutK_a, pkO_s, sFor_a, sWhile_a, sPar_a, runD_a, b2_s, c2_s, sqO_nx, sqO_rt, sqO_bk, sqO_ct, ifO_t, ifO_f, stO_s, endO_nx, endO_rt, andO_t, andO_f, orO_t, orO_f, chO_s, chP_t, chP_f, slO_s, atO_i, lcO_s, forO_s, gsO_s, nxO_s, tgO_s, paO_s, apO_s, exO_s, plO_s, ptO_s, dB_b, tru_b, tru_n, tru_i, tru_l, tru_t, is_n, isn_n, nn_n, nn_i, nn_b, nn_t, nn_l, add_ii, add'_ii, sub_ii, neg_i, lt_ii, le_ii, gt_ii, ge_ii, ix_l, ix_t, ix_s, at0, at1, at2, sl_l, sl_t, len_l, len_t, len_s, abs_i, int_i, int_b, max_ii, min_ii, tup_s, lst_s, seq_l, seq_t, sum_s, wipe_n, wipe_c, mul_ii, fdiv_ii, mod_ii, add_ll, add_tt, setAll, mkT, mkL, oNot, List.getD_cons_zero, List.getD_cons_succ, List.length_cons, List.length_nil, List.set_cons_zero, List.set_cons_succ, List.map_cons, List.map_nil, List.replicate, List.cons_append, List.nil_append, List.append_nil, Option.bind_some, Option.map_some, List.all_cons, List.all_nil, if_true, if_false, reduceIte, Nat.reduceAdd, Nat.reduceSub, Nat.reduceLT, Nat.reduceLeDiff, Nat.reduceEqDiff, decide_true, decide_false, Bool.and_true, Bool.and_self, Bool.true_and, Bool.not_true, Bool.not_false, ne_eq, not_true_eq_false, not_false_eq_true, Nat.zero_add, Bool.false_eq_true, and_self, true_and, and_true, f1, f2, f3, f4, ne_same, eq_int, hlen, g1, r1, r2, q2, lks, hfl, f6, f7, f8, hA, rd_0, rd_1, m1, m2, m3, m4, m5, m6, m7, m8, u1, u2, u3, u4, u5, u6, lkf, f9, lkn]
end K28

namespace K28
open PySem PySem.Spec PyProof.Rows L2 Pm
def sq (S : List Sd) (f : Sd → Int) : Int := (S.map f).sum
theorem sq_cons (s : Sd) (S : List Sd) (f : Sd → Int) : sq (s :: S) f = f s + sq S f := by simp [sq]
theorem sum_f (S : List Sd) (f : Sd → Int) : bSum [.list (S.map fun s => PyData.int (f s))] = some (.int (sq S f)) := by
  rw [sum_s, seq_l, Option.bind_some, show (S.map fun s => PyData.int (f s)) = (S.map f).map PyData.int by rw [List.map_map]; rfl, asInts_map]
  rfl
theorem sq_sm {k : Nat} {f : Sd → Int} : ∀ {S : List Sd}, (∀ s ∈ S, Sm k (f s)) → S.length ≤ 1000 → Sm (k + 10) (sq S f) := by
  suffices h : ∀ {S : List Sd}, (∀ s ∈ S, Sm k (f s)) → (sq S f).natAbs ≤ S.length * 2 ^ k by
    intro S h1 h2
    have := h h1
    unfold Sm
    rw [Nat.pow_add]
    have h3 : S.length * 2 ^ k ≤ 1024 * 2 ^ k := Nat.mul_le_mul_right _ (by omega)
    omega
  intro S
  induction S with
  | nil => intro _; simp [sq]
  | cons s S ih =>
    intro h1
    have h2 := ih fun t ht => h1 t (by simp [ht])
    have h3 := h1 s (by simp)
    unfold Sm at h3
    rw [sq_cons, List.length_cons, Nat.succ_mul]
    have := Int.natAbs_add_le (f s) (sq S f)
    omega
def hB (S : List Sd) : Int := sq S fun s => s.1
def dB2 (S : List Sd) : Int := sq S fun s => s.2
def bB (S : List Sd) : Int := sq S fun s => s.1 * s.2
def qB (S : List Sd) : Int := sq S fun s => s.1 * s.1
def under (S : List Sd) : Int := (S.length : Int) * qB S - hB S * hB S
theorem sqd_nonneg (x : Int) : 0 ≤ x * x := by
  rcases Int.le_total 0 x with h | h
  · exact Int.mul_nonneg h h
  · exact Int.mul_nonneg_of_nonpos_of_nonpos h h
theorem under_cons (a : Sd) (S : List Sd) : under (a :: S) = under S + sq S fun s => (s.1 - a.1) * (s.1 - a.1) := by
  have h : (sq S fun s => (s.1 - a.1) * (s.1 - a.1)) = qB S - 2 * a.1 * hB S + (S.length : Int) * (a.1 * a.1) := by
    unfold qB hB
    induction S with
    | nil => simp [sq]
    | cons s S ih =>
      rw [sq_cons, sq_cons, sq_cons, ih, List.length_cons]
      push_cast
      grind
  rw [h]
  unfold under qB hB
  rw [sq_cons, sq_cons, List.length_cons]
  push_cast
  grind
theorem sq_nonneg {S : List Sd} {f : Sd → Int} (h : ∀ s, 0 ≤ f s) : 0 ≤ sq S f := by
  induction S with
  | nil => simp [sq]
  | cons s S ih => rw [sq_cons]; have := h s; omega
theorem under_nonneg : ∀ S : List Sd, 0 ≤ under S
  | [] => by simp [under, qB, hB, sq]
  | a :: S => by
    rw [under_cons]
    have := under_nonneg S
    have := sq_nonneg (S := S) (f := fun s => (s.1 - a.1) * (s.1 - a.1)) fun s => sqd_nonneg _
    omega
theorem under_pos {S : List Sd} (hi : Inc S) (h2 : 2 ≤ S.length) : 0 < under S := by
  match S, h2 with
  | s :: t :: S, _ =>
    rw [under_cons, sq_cons]
    have h1 := (List.pairwise_cons.mp hi).1 t (by simp)
    have := under_nonneg (t :: S)
    have := sq_nonneg (S := S) (f := fun z => (z.1 - s.1) * (z.1 - s.1)) fun z => sqd_nonneg _
    have : 0 < (t.1 - s.1) * (t.1 - s.1) := Int.mul_pos (by omega) (by omega)
    omega
theorem over_rd {x : Rat} {n : Int} (hx : SR 900 x) (hn : 0 < n) (sn : Sm 900 n) : d_over [rd x, rd (n : Rat)] = some (rd (x / (n : Rat))) := by
  have hd := den_pos x
  have m1 : mulOk x.num 1 = true := hx.1.mulOk (Sm.lit (k := 10)) (by omega) (by omega)
  have m2 := hx.2.mulOk sn (by omega) (by omega)
  have hl := lowest_rd (x.num * 1) ((x.den : Int) * n) (Int.mul_pos hd hn) ((hx.2.mul sn).mono (by omega))
  have e : ((x.num * 1 : Int) : Rat) / (((x.den : Int) * n : Int) : Rat) = x / (n : Rat) := by
    conv => rhs; rw [rat_eq x]
    have h1 : ((x.den : Int) : Rat) ≠ 0 := by have := cast_pos hd; grind
    have h2 : (n : Rat) ≠ 0 := by have := cast_pos hn; grind
    push_cast
    grind
  rw [e] at hl
  simp -implicitDefEqProofs only [d_over, g_over, d_parted, g_parted, xVar_a, xC_a, xBin_a, xUn_a, tOf_a, tTru_a, tNotP_a, tAndP_a, tOrP_a, tyes_a, tno_a, tYesP_a, xNil_a, xCons_a, xTup_a, xLst_a, xAnd_a, xOr_a, xIf_a, xChain_a, oNo_a, oAt_a, xSl_a, xCall_a, xSeq_a, xIt_a, xLc_a, gSet_a, gTupD_a, gsNil_a, gsCons_a, sNop_a, sBrk_a, sCnt_a, sSeq_a, sRet_a, sIf_a, sSet_a, sTgt_a, sAug_a, sApp_a, sExt_a, sPut_a, sPutK_a, pkO_s, sFor_a, sWhile_a, sPar_a, runD_a, b2_s, c2_s, sqO_nx, sqO_rt, sqO_bk, sqO_ct, ifO_t, ifO_f, stO_s, endO_nx, endO_rt, andO_t, andO_f, orO_t, orO_f, chO_s, chP_t, chP_f, slO_s, atO_i, lcO_s, forO_s, gsO_s, nxO_s, tgO_s, paO_s, apO_s, exO_s, plO_s, ptO_s, dB_b, tru_b, tru_n, tru_i, tru_l, tru_t, is_n, isn_n, nn_n, nn_i, nn_b, nn_t, nn_l, add_ii, add'_ii, sub_ii, neg_i, lt_ii, le_ii, gt_ii, ge_ii, ix_l, ix_t, ix_s, at0, at1, at2, sl_l, sl_t, len_l, len_t, len_s, abs_i, int_i, int_b, max_ii, min_ii, tup_s, lst_s, seq_l, seq_t, sum_s, wipe_n, wipe_c, mul_ii, fdiv_ii, mod_ii, add_ll, add_tt, setAll, mkT, mkL, oNot, List.getD_cons_zero, List.getD_cons_succ, List.length_cons, List.length_nil, List.set_cons_zero, List.set_cons_succ, List.map_cons, List.map_nil, List.replicate, List.cons_append, List.nil_append, List.append_nil, Option.bind_some, Option.map_some, List.all_cons, List.all_nil, if_true, if_false, reduceIte, Nat.reduceAdd, Nat.reduceSub, Nat.reduceLT, Nat.reduceLeDiff, Nat.reduceEqDiff, decide_true, decide_false, Bool.and_true, Bool.and_self, Bool.true_and, Bool.not_true, Bool.not_false, ne_eq, not_true_eq_false, not_false_eq_true, Nat.zero_add, Bool.false_eq_true, and_self, true_and, and_true, rd_0, rd_1, rd_int, m1, m2, hl]
theorem flat_int (x : Int) : flat (rd (x : Rat)) = true := rfl
theorem best_line_eq {S : List Sd} (hS : OkS S) (hi : Inc S) (hl : S.length ≤ 1000) (h2 : 2 ≤ S.length) :
    d_best_line [.tuple (S.map enc)] = some (.tuple [rd (((S.length : Int) * bB S - hB S * dB2 S : Int) / (under S : Rat)), rd (((dB2 S * qB S - hB S * bB S : Int) : Rat) / (under S : Rat))]) := by
  have hu := under_pos hi h2
  have sh : Sm 20 (hB S) := sq_sm (fun s hs => (hS s hs).1) hl
  have sd : Sm 20 (dB2 S) := sq_sm (fun s hs => (hS s hs).2) hl
  have sb : Sm 30 (bB S) := sq_sm (fun s hs => (hS s hs).1.mul (hS s hs).2) hl
  have sqq : Sm 30 (qB S) := sq_sm (fun s hs => (hS s hs).1.mul (hS s hs).1) hl
  have sn : Sm 10 (S.length : Int) := by unfold Sm; omega
  have k1 := sn.mulOk sb (by omega) (by omega)
  have k2 := sh.mulOk sd (by omega) (by omega)
  have k3 := sn.mulOk sqq (by omega) (by omega)
  have k4 := sh.mulOk sh (by omega) (by omega)
  have su : Sm 41 (under S) := (((sn.mul sqq).mono (k := 40) (by omega)).sub ((sh.mul sh).mono (k := 40) (by omega)))
  have st : Sm 41 ((S.length : Int) * bB S - hB S * dB2 S) := (((sn.mul sb).mono (k := 40) (by omega)).sub ((sh.mul sd).mono (k := 40) (by omega)))
  have hw := lowest_rd ((S.length : Int) * bB S - hB S * dB2 S) (under S) hu (su.mono (by omega))
  have sr : SR 41 ((((S.length : Int) * bB S - hB S * dB2 S : Int) : Rat) / (under S : Rat)) := SR.div st su hu
  generalize hr : ((((S.length : Int) * bB S - hB S * dB2 S : Int) : Rat) / (under S : Rat)) = r at *
  have t1 := times_rd (sr.mono (by omega)) (SR.int (k := 900) (sh.mono (by omega)))
  have t2 := minus_rd (SR.int (k := 900) (sd.mono (by omega))) ((sr.mul (SR.int sh)).mono (by omega))
  have t3 := over_rd (n := (S.length : Int)) (((SR.int sd).sub (sr.mul (SR.int sh))).mono (k := 900) (by omega)) (by omega) (sn.mono (by omega))
  have e : ((dB2 S : Rat) - r * (hB S : Rat)) / ((S.length : Int) : Rat) = ((dB2 S * qB S - hB S * bB S : Int) : Rat) / (under S : Rat) := by
    have h1 : (0 : Rat) < (under S : Rat) := cast_pos hu
    have h3 : (0 : Rat) < ((S.length : Int) : Rat) := cast_pos (by omega)
    have h4 : r * (under S : Rat) = (((S.length : Int) * bB S - hB S * dB2 S : Int) : Rat) := by rw [← hr]; exact Rat.div_mul_cancel (by grind)
    rw [rdiv_eq h3 h1]
    have : ((dB2 S : Rat) - r * (hB S : Rat)) * (under S : Rat) = (dB2 S : Rat) * (under S : Rat) - (r * (under S : Rat)) * (hB S : Rat) := by grind
    rw [this, h4]
    unfold under
    push_cast
    grind
  rw [e] at t3
  have f1 := sum_f S fun s => s.1
  have f2 := sum_f S fun s => s.2
  have f3 := sum_f S fun s => s.1 * s.2
  have f4 := sum_f S fun s => s.1 * s.1
  have L : ∀ (ρ : PEnv), ρ.length = 9 → lcL (gTupD 2 (gsCons (gSet 7) (gsCons (gSet 8) gsNil))) tYesP (xVar 7) ρ (S.map enc) = some (S.map fun s => PyData.int s.1) ∧ lcL (gTupD 2 (gsCons (gSet 7) (gsCons (gSet 8) gsNil))) tYesP (xVar 8) ρ (S.map enc) = some (S.map fun s => PyData.int s.2) ∧ lcL (gTupD 2 (gsCons (gSet 7) (gsCons (gSet 8) gsNil))) tYesP (xBin oMul' (xVar 7) (xVar 8)) ρ (S.map enc) = some (S.map fun s => PyData.int (s.1 * s.2)) ∧ lcL (gTupD 2 (gsCons (gSet 7) (gsCons (gSet 8) gsNil))) tYesP (xBin oMul' (xVar 7) (xVar 7)) ρ (S.map enc) = some (S.map fun s => PyData.int (s.1 * s.1)) := by
    intro ρ hρ
    match ρ, hρ with
    | [a, b, c, d, f, g, h, i, j], _ =>
      refine ⟨lcL_map _ _ _ fun s hs => ?_, lcL_map _ _ _ fun s hs => ?_, lcL_map _ _ _ fun s hs => ?_, lcL_map _ _ _ fun s hs => ?_⟩
      · simp -implicitDefEqProofs only [enc, xVar_a, xC_a, xBin_a, xUn_a, tOf_a, tTru_a, tNotP_a, tAndP_a, tOrP_a, tyes_a, tno_a, tYesP_a, xNil_a, xCons_a, xTup_a, xLst_a, xAnd_a, xOr_a, xIf_a, xChain_a, oNo_a, oAt_a, xSl_a, xCall_a, xSeq_a, xIt_a, xLc_a, gSet_a, gTupD_a, gsNil_a, gsCons_a, sNop_a, sBrk_a, sCnt_a, sSeq_a, sRet_a, sIf_a, sSet_a, sTgt_a, sAug_a, sApp_a, sExt_a, sPut_a, sPutK_a, pkO_s, sFor_a, sWhile_a, sPar_a, runD_a, b2_s, c2_s, sqO_nx, sqO_rt, sqO_bk, sqO_ct, ifO_t, ifO_f, stO_s, endO_nx, endO_rt, andO_t, andO_f, orO_t, orO_f, chO_s, chP_t, chP_f, slO_s, atO_i, lcO_s, forO_s, gsO_s, nxO_s, tgO_s, paO_s, apO_s, exO_s, plO_s, ptO_s, dB_b, tru_b, tru_n, tru_i, tru_l, tru_t, is_n, isn_n, nn_n, nn_i, nn_b, nn_t, nn_l, add_ii, add'_ii, sub_ii, neg_i, lt_ii, le_ii, gt_ii, ge_ii, ix_l, ix_t, ix_s, at0, at1, at2, sl_l, sl_t, len_l, len_t, len_s, abs_i, int_i, int_b, max_ii, min_ii, tup_s, lst_s, seq_l, seq_t, sum_s, wipe_n, wipe_c, mul_ii, fdiv_ii, mod_ii, add_ll, add_tt, setAll, mkT, mkL, oNot, List.getD_cons_zero, List.getD_cons_succ, List.length_cons, List.length_nil, List.set_cons_zero, List.set_cons_succ, List.map_cons, List.map_nil, List.replicate, List.cons_append, List.nil_append, List.append_nil, Option.bind_some, Option.map_some, List.all_cons, List.all_nil, if_true, if_false, reduceIte, Nat.reduceAdd, Nat.reduceSub, Nat.reduceLT, Nat.reduceLeDiff, Nat.reduceEqDiff, decide_true, decide_false, Bool.and_true, Bool.and_self, Bool.true_and, Bool.not_true, Bool.not_false, ne_eq, not_true_eq_false, not_false_eq_true, Nat.zero_add, Bool.false_eq_true, and_self, true_and, and_true]
      · simp -implicitDefEqProofs only [enc, xVar_a, xC_a, xBin_a, xUn_a, tOf_a, tTru_a, tNotP_a, tAndP_a, tOrP_a, tyes_a, tno_a, tYesP_a, xNil_a, xCons_a, xTup_a, xLst_a, xAnd_a, xOr_a, xIf_a, xChain_a, oNo_a, oAt_a, xSl_a, xCall_a, xSeq_a, xIt_a, xLc_a, gSet_a, gTupD_a, gsNil_a, gsCons_a, sNop_a, sBrk_a, sCnt_a, sSeq_a, sRet_a, sIf_a, sSet_a, sTgt_a, sAug_a, sApp_a, sExt_a, sPut_a, sPutK_a, pkO_s, sFor_a, sWhile_a, sPar_a, runD_a, b2_s, c2_s, sqO_nx, sqO_rt, sqO_bk, sqO_ct, ifO_t, ifO_f, stO_s, endO_nx, endO_rt, andO_t, andO_f, orO_t, orO_f, chO_s, chP_t, chP_f, slO_s, atO_i, lcO_s, forO_s, gsO_s, nxO_s, tgO_s, paO_s, apO_s, exO_s, plO_s, ptO_s, dB_b, tru_b, tru_n, tru_i, tru_l, tru_t, is_n, isn_n, nn_n, nn_i, nn_b, nn_t, nn_l, add_ii, add'_ii, sub_ii, neg_i, lt_ii, le_ii, gt_ii, ge_ii, ix_l, ix_t, ix_s, at0, at1, at2, sl_l, sl_t, len_l, len_t, len_s, abs_i, int_i, int_b, max_ii, min_ii, tup_s, lst_s, seq_l, seq_t, sum_s, wipe_n, wipe_c, mul_ii, fdiv_ii, mod_ii, add_ll, add_tt, setAll, mkT, mkL, oNot, List.getD_cons_zero, List.getD_cons_succ, List.length_cons, List.length_nil, List.set_cons_zero, List.set_cons_succ, List.map_cons, List.map_nil, List.replicate, List.cons_append, List.nil_append, List.append_nil, Option.bind_some, Option.map_some, List.all_cons, List.all_nil, if_true, if_false, reduceIte, Nat.reduceAdd, Nat.reduceSub, Nat.reduceLT, Nat.reduceLeDiff, Nat.reduceEqDiff, decide_true, decide_false, Bool.and_true, Bool.and_self, Bool.true_and, Bool.not_true, Bool.not_false, ne_eq, not_true_eq_false, not_false_eq_true, Nat.zero_add, Bool.false_eq_true, and_self, true_and, and_true]
      · have m := (hS s hs).1.mulOk (hS s hs).2 (by omega) (by omega)
        simp -implicitDefEqProofs only [enc, xVar_a, xC_a, xBin_a, xUn_a, tOf_a, tTru_a, tNotP_a, tAndP_a, tOrP_a, tyes_a, tno_a, tYesP_a, xNil_a, xCons_a, xTup_a, xLst_a, xAnd_a, xOr_a, xIf_a, xChain_a, oNo_a, oAt_a, xSl_a, xCall_a, xSeq_a, xIt_a, xLc_a, gSet_a, gTupD_a, gsNil_a, gsCons_a, sNop_a, sBrk_a, sCnt_a, sSeq_a, sRet_a, sIf_a, sSet_a, sTgt_a, sAug_a, sApp_a, sExt_a, sPut_a, sPutK_a, pkO_s, sFor_a, sWhile_a, sPar_a, runD_a, b2_s, c2_s, sqO_nx, sqO_rt, sqO_bk, sqO_ct, ifO_t, ifO_f, stO_s, endO_nx, endO_rt, andO_t, andO_f, orO_t, orO_f, chO_s, chP_t, chP_f, slO_s, atO_i, lcO_s, forO_s, gsO_s, nxO_s, tgO_s, paO_s, apO_s, exO_s, plO_s, ptO_s, dB_b, tru_b, tru_n, tru_i, tru_l, tru_t, is_n, isn_n, nn_n, nn_i, nn_b, nn_t, nn_l, add_ii, add'_ii, sub_ii, neg_i, lt_ii, le_ii, gt_ii, ge_ii, ix_l, ix_t, ix_s, at0, at1, at2, sl_l, sl_t, len_l, len_t, len_s, abs_i, int_i, int_b, max_ii, min_ii, tup_s, lst_s, seq_l, seq_t, sum_s, wipe_n, wipe_c, mul_ii, fdiv_ii, mod_ii, add_ll, add_tt, setAll, mkT, mkL, oNot, List.getD_cons_zero, List.getD_cons_succ, List.length_cons, List.length_nil, List.set_cons_zero, List.set_cons_succ, List.map_cons, List.map_nil, List.replicate, List.cons_append, List.nil_append, List.append_nil, Option.bind_some, Option.map_some, List.all_cons, List.all_nil, if_true, if_false, reduceIte, Nat.reduceAdd, Nat.reduceSub, Nat.reduceLT, Nat.reduceLeDiff, Nat.reduceEqDiff, decide_true, decide_false, Bool.and_true, Bool.and_self, Bool.true_and, Bool.not_true, Bool.not_false, ne_eq, not_true_eq_false, not_false_eq_true, Nat.zero_add, Bool.false_eq_true, and_self, true_and, and_true, m]
      · have m := (hS s hs).1.mulOk (hS s hs).1 (by omega) (by omega)
        simp -implicitDefEqProofs only [enc, xVar_a, xC_a, xBin_a, xUn_a, tOf_a, tTru_a, tNotP_a, tAndP_a, tOrP_a, tyes_a, tno_a, tYesP_a, xNil_a, xCons_a, xTup_a, xLst_a, xAnd_a, xOr_a, xIf_a, xChain_a, oNo_a, oAt_a, xSl_a, xCall_a, xSeq_a, xIt_a, xLc_a, gSet_a, gTupD_a, gsNil_a, gsCons_a, sNop_a, sBrk_a, sCnt_a, sSeq_a, sRet_a, sIf_a, sSet_a, sTgt_a, sAug_a, sApp_a, sExt_a, sPut_a, sPutK_a, pkO_s, sFor_a, sWhile_a, sPar_a, runD_a, b2_s, c2_s, sqO_nx, sqO_rt, sqO_bk, sqO_ct, ifO_t, ifO_f, stO_s, endO_nx, endO_rt, andO_t, andO_f, orO_t, orO_f, chO_s, chP_t, chP_f, slO_s, atO_i, lcO_s, forO_s, gsO_s, nxO_s, tgO_s, paO_s, apO_s, exO_s, plO_s, ptO_s, dB_b, tru_b, tru_n, tru_i, tru_l, tru_t, is_n, isn_n, nn_n, nn_i, nn_b, nn_t, nn_l, add_ii, add'_ii, sub_ii, neg_i, lt_ii, le_ii, gt_ii, ge_ii, ix_l, ix_t, ix_s, at0, at1, at2, sl_l, sl_t, len_l, len_t, len_s, abs_i, int_i, int_b, max_ii, min_ii, tup_s, lst_s, seq_l, seq_t, sum_s, wipe_n, wipe_c, mul_ii, fdiv_ii, mod_ii, add_ll, add_tt, setAll, mkT, mkL, oNot, List.getD_cons_zero, List.getD_cons_succ, List.length_cons, List.length_nil, List.set_cons_zero, List.set_cons_succ, List.map_cons, List.map_nil, List.replicate, List.cons_append, List.nil_append, List.append_nil, Option.bind_some, Option.map_some, List.all_cons, List.all_nil, if_true, if_false, reduceIte, Nat.reduceAdd, Nat.reduceSub, Nat.reduceLT, Nat.reduceLeDiff, Nat.reduceEqDiff, decide_true, decide_false, Bool.and_true, Bool.and_self, Bool.true_and, Bool.not_true, Bool.not_false, ne_eq, not_true_eq_false, not_false_eq_true, Nat.zero_add, Bool.false_eq_true, and_self, true_and, and_true, m]
  have hlen : (S.map enc).length = S.length := List.length_map ..
  generalize (S.map enc) = M at *
  have eh : (sq S fun s => s.1) = hB S := rfl
  have ed : (sq S fun s => s.2) = dB2 S := rfl
  have eb : (sq S fun s => s.1 * s.2) = bB S := rfl
  have eq : (sq S fun s => s.1 * s.1) = qB S := rfl
  have eu : (S.length : Int) * qB S - hB S * hB S = under S := rfl
  rw [eh] at f1
  rw [ed] at f2
  rw [eb] at f3
  rw [eq] at f4
  have L1 := fun ρ h => (L ρ h).1
  have L2' := fun ρ h => (L ρ h).2.1
  have L3 := fun ρ h => (L ρ h).2.2.1
  have L4 := fun ρ h => (L ρ h).2.2.2
  generalize (S.map fun s => PyData.int s.1) = N1 at *
  generalize (S.map fun s => PyData.int s.2) = N2 at *
  generalize (S.map fun s => PyData.int (s.1 * s.2)) = N3 at *
  generalize (S.map fun s => PyData.int (s.1 * s.1)) = N4 at *
  simp -implicitDefEqProofs only [d_best_line, g_best_line, xVar_a, xC_a, xBin_a, xUn_a, tOf_a, tTru_a, tNotP_a, tAndP_a, tOrP_a, tyes_a, tno_a, tYesP_a, xNil_a, xCons_a, xTup_a, xLst_a, xAnd_a, xOr_a, xIf_a, xChain_a, oNo_a, oAt_a, xSl_a, xCall_a, xSeq_a, xIt_a, xLc_a, gSet_a, gTupD_a, gsNil_a, gsCons_a, sNop_a, sBrk_a, sCnt_a, sSeq_a, sRet_a, sIf_a, sSet_a, sTgt_a, sAug_a, sApp_a, sExt_a, sPut_a, sPutK_a, pkO_s, sFor_a, sWhile_a, sPar_a, runD_a, b2_s, c2_s, sqO_nx, sqO_rt, sqO_bk, sqO_ct, ifO_t, ifO_f, stO_s, endO_nx, endO_rt, andO_t, andO_f, orO_t, orO_f, chO_s, chP_t, chP_f, slO_s, atO_i, lcO_s, forO_s, gsO_s, nxO_s, tgO_s, paO_s, apO_s, exO_s, plO_s, ptO_s, dB_b, tru_b, tru_n, tru_i, tru_l, tru_t, is_n, isn_n, nn_n, nn_i, nn_b, nn_t, nn_l, add_ii, add'_ii, sub_ii, neg_i, lt_ii, le_ii, gt_ii, ge_ii, ix_l, ix_t, ix_s, at0, at1, at2, sl_l, sl_t, len_l, len_t, len_s, abs_i, int_i, int_b, max_ii, min_ii, tup_s, lst_s, seq_l, seq_t, sum_s, wipe_n, wipe_c, mul_ii, fdiv_ii, mod_ii, add_ll, add_tt, setAll, mkT, mkL, oNot, List.getD_cons_zero, List.getD_cons_succ, List.length_cons, List.length_nil, List.set_cons_zero, List.set_cons_succ, List.map_cons, List.map_nil, List.replicate, List.cons_append, List.nil_append, List.append_nil, Option.bind_some, Option.map_some, List.all_cons, List.all_nil, if_true, if_false, reduceIte, Nat.reduceAdd, Nat.reduceSub, Nat.reduceLT, Nat.reduceLeDiff, Nat.reduceEqDiff, decide_true, decide_false, Bool.and_true, Bool.and_self, Bool.true_and, Bool.not_true, Bool.not_false, ne_eq, not_true_eq_false, not_false_eq_true, Nat.zero_add, Bool.false_eq_true, and_self, true_and, and_true, hlen, L1, L2', L3, L4, f1, f2, f3, f4, k1, k2, k3, k4, eu, hw, whole_rd, flat_int, t1, t2, t3]
theorem squares_ok {S : List Sd} (hS : OkS S) (hi : Inc S) (hl : S.length ≤ 1000) (h2 : 2 ≤ S.length) : d__law_squares [.tuple (S.map enc)] = some (.bool true) := by
  have hb := best_line_eq hS hi hl h2
  have hu := under_pos hi h2
  have sh : Sm 20 (hB S) := sq_sm (fun s hs => (hS s hs).1) hl
  have sd : Sm 20 (dB2 S) := sq_sm (fun s hs => (hS s hs).2) hl
  have sb : Sm 30 (bB S) := sq_sm (fun s hs => (hS s hs).1.mul (hS s hs).2) hl
  have sqq : Sm 30 (qB S) := sq_sm (fun s hs => (hS s hs).1.mul (hS s hs).1) hl
  have sn : Sm 10 (S.length : Int) := by unfold Sm; omega
  have k1 := sn.mulOk sb (by omega) (by omega)
  have k2 := sh.mulOk sd (by omega) (by omega)
  have k3 := sn.mulOk sqq (by omega) (by omega)
  have k4 := sh.mulOk sh (by omega) (by omega)
  have k5 := sd.mulOk sqq (by omega) (by omega)
  have k6 := sh.mulOk sb (by omega) (by omega)
  have su : Sm 41 (under S) := (((sn.mul sqq).mono (k := 40) (by omega)).sub ((sh.mul sh).mono (k := 40) (by omega)))
  have w1 := ratio_rd ((S.length : Int) * bB S - hB S * dB2 S) (under S) hu (su.mono (by omega))
  have w2 := ratio_rd (dB2 S * qB S - hB S * bB S) (under S) hu (su.mono (by omega))
  have lk := like_rr 5 ((((S.length : Int) * bB S - hB S * dB2 S : Int) : Rat) / (under S : Rat)) (((dB2 S * qB S - hB S * bB S : Int) : Rat) / (under S : Rat))
  generalize ((((S.length : Int) * bB S - hB S * dB2 S : Int) : Rat) / (under S : Rat)) = r at *
  generalize (((dB2 S * qB S - hB S * bB S : Int) : Rat) / (under S : Rat)) = β at *
  have f1 := sum_f S fun s => s.1
  have f2 := sum_f S fun s => s.2
  have f3 := sum_f S fun s => s.1 * s.2
  have f4 := sum_f S fun s => s.1 * s.1
  have L : ∀ (ρ : PEnv), ρ.length = 9 → lcL (gSet 8) tYesP (xBin oIx (xVar 8) (xC (.int 0))) ρ (S.map enc) = some (S.map fun s => PyData.int s.1) ∧ lcL (gSet 8) tYesP (xBin oIx (xVar 8) (xC (.int 1))) ρ (S.map enc) = some (S.map fun s => PyData.int s.2) ∧ lcL (gSet 8) tYesP (xBin oMul' (xBin oIx (xVar 8) (xC (.int 0))) (xBin oIx (xVar 8) (xC (.int 1)))) ρ (S.map enc) = some (S.map fun s => PyData.int (s.1 * s.2)) ∧ lcL (gSet 8) tYesP (xBin oMul' (xBin oIx (xVar 8) (xC (.int 0))) (xBin oIx (xVar 8) (xC (.int 0)))) ρ (S.map enc) = some (S.map fun s => PyData.int (s.1 * s.1)) := by
    intro ρ hρ
    match ρ, hρ with
    | [a, b, c, d, f, g, h, i, j], _ =>
      refine ⟨lcL_map _ _ _ fun s hs => ?_, lcL_map _ _ _ fun s hs => ?_, lcL_map _ _ _ fun s hs => ?_, lcL_map _ _ _ fun s hs => ?_⟩
      · simp -implicitDefEqProofs only [enc, xVar_a, xC_a, xBin_a, xUn_a, tOf_a, tTru_a, tNotP_a, tAndP_a, tOrP_a, tyes_a, tno_a, tYesP_a, xNil_a, xCons_a, xTup_a, xLst_a, xAnd_a, xOr_a, xIf_a, xChain_a, oNo_a, oAt_a, xSl_a, xCall_a, xSeq_a, xIt_a, xLc_a, gSet_a, gTupD_a, gsNil_a, gsCons_a, sNop_a, sBrk_a, sCnt_a, sSeq_a, sRet_a, sIf_a, sSet_a, sTgt_a, sAug_a, sApp_a, sExt_a, sPut_a, sPutK_a, pkO_s, sFor_a, sWhile_a, sPar_a, runD_a, b2_s, c2_s, sqO_nx, sqO_rt, sqO_bk, sqO_ct, ifO_t, ifO_f, stO_s, endO_nx, endO_rt, andO_t, andO_f, orO_t, orO_f, chO_s, chP_t, chP_f, slO_s, atO_i, lcO_s, forO_s, gsO_s, nxO_s, tgO_s, paO_s, apO_s, exO_s, plO_s, ptO_s, dB_b, tru_b, tru_n, tru_i, tru_l, tru_t, is_n, isn_n, nn_n, nn_i, nn_b, nn_t, nn_l, add_ii, add'_ii, sub_ii, neg_i, lt_ii, le_ii, gt_ii, ge_ii, ix_l, ix_t, ix_s, at0, at1, at2, sl_l, sl_t, len_l, len_t, len_s, abs_i, int_i, int_b, max_ii, min_ii, tup_s, lst_s, seq_l, seq_t, sum_s, wipe_n, wipe_c, mul_ii, fdiv_ii, mod_ii, add_ll, add_tt, setAll, mkT, mkL, oNot, List.getD_cons_zero, List.getD_cons_succ, List.length_cons, List.length_nil, List.set_cons_zero, List.set_cons_succ, List.map_cons, List.map_nil, List.replicate, List.cons_append, List.nil_append, List.append_nil, Option.bind_some, Option.map_some, List.all_cons, List.all_nil, if_true, if_false, reduceIte, Nat.reduceAdd, Nat.reduceSub, Nat.reduceLT, Nat.reduceLeDiff, Nat.reduceEqDiff, decide_true, decide_false, Bool.and_true, Bool.and_self, Bool.true_and, Bool.not_true, Bool.not_false, ne_eq, not_true_eq_false, not_false_eq_true, Nat.zero_add, Bool.false_eq_true, and_self, true_and, and_true]
      · simp -implicitDefEqProofs only [enc, xVar_a, xC_a, xBin_a, xUn_a, tOf_a, tTru_a, tNotP_a, tAndP_a, tOrP_a, tyes_a, tno_a, tYesP_a, xNil_a, xCons_a, xTup_a, xLst_a, xAnd_a, xOr_a, xIf_a, xChain_a, oNo_a, oAt_a, xSl_a, xCall_a, xSeq_a, xIt_a, xLc_a, gSet_a, gTupD_a, gsNil_a, gsCons_a, sNop_a, sBrk_a, sCnt_a, sSeq_a, sRet_a, sIf_a, sSet_a, sTgt_a, sAug_a, sApp_a, sExt_a, sPut_a, sPutK_a, pkO_s, sFor_a, sWhile_a, sPar_a, runD_a, b2_s, c2_s, sqO_nx, sqO_rt, sqO_bk, sqO_ct, ifO_t, ifO_f, stO_s, endO_nx, endO_rt, andO_t, andO_f, orO_t, orO_f, chO_s, chP_t, chP_f, slO_s, atO_i, lcO_s, forO_s, gsO_s, nxO_s, tgO_s, paO_s, apO_s, exO_s, plO_s, ptO_s, dB_b, tru_b, tru_n, tru_i, tru_l, tru_t, is_n, isn_n, nn_n, nn_i, nn_b, nn_t, nn_l, add_ii, add'_ii, sub_ii, neg_i, lt_ii, le_ii, gt_ii, ge_ii, ix_l, ix_t, ix_s, at0, at1, at2, sl_l, sl_t, len_l, len_t, len_s, abs_i, int_i, int_b, max_ii, min_ii, tup_s, lst_s, seq_l, seq_t, sum_s, wipe_n, wipe_c, mul_ii, fdiv_ii, mod_ii, add_ll, add_tt, setAll, mkT, mkL, oNot, List.getD_cons_zero, List.getD_cons_succ, List.length_cons, List.length_nil, List.set_cons_zero, List.set_cons_succ, List.map_cons, List.map_nil, List.replicate, List.cons_append, List.nil_append, List.append_nil, Option.bind_some, Option.map_some, List.all_cons, List.all_nil, if_true, if_false, reduceIte, Nat.reduceAdd, Nat.reduceSub, Nat.reduceLT, Nat.reduceLeDiff, Nat.reduceEqDiff, decide_true, decide_false, Bool.and_true, Bool.and_self, Bool.true_and, Bool.not_true, Bool.not_false, ne_eq, not_true_eq_false, not_false_eq_true, Nat.zero_add, Bool.false_eq_true, and_self, true_and, and_true]
      · have m := (hS s hs).1.mulOk (hS s hs).2 (by omega) (by omega)
        simp -implicitDefEqProofs only [enc, xVar_a, xC_a, xBin_a, xUn_a, tOf_a, tTru_a, tNotP_a, tAndP_a, tOrP_a, tyes_a, tno_a, tYesP_a, xNil_a, xCons_a, xTup_a, xLst_a, xAnd_a, xOr_a, xIf_a, xChain_a, oNo_a, oAt_a, xSl_a, xCall_a, xSeq_a, xIt_a, xLc_a, gSet_a, gTupD_a, gsNil_a, gsCons_a, sNop_a, sBrk_a, sCnt_a, sSeq_a, sRet_a, sIf_a, sSet_a, sTgt_a, sAug_a, sApp_a, sExt_a, sPut_a, sPutK_a, pkO_s, sFor_a, sWhile_a, sPar_a, runD_a, b2_s, c2_s, sqO_nx, sqO_rt, sqO_bk, sqO_ct, ifO_t, ifO_f, stO_s, endO_nx, endO_rt, andO_t, andO_f, orO_t, orO_f, chO_s, chP_t, chP_f, slO_s, atO_i, lcO_s, forO_s, gsO_s, nxO_s, tgO_s, paO_s, apO_s, exO_s, plO_s, ptO_s, dB_b, tru_b, tru_n, tru_i, tru_l, tru_t, is_n, isn_n, nn_n, nn_i, nn_b, nn_t, nn_l, add_ii, add'_ii, sub_ii, neg_i, lt_ii, le_ii, gt_ii, ge_ii, ix_l, ix_t, ix_s, at0, at1, at2, sl_l, sl_t, len_l, len_t, len_s, abs_i, int_i, int_b, max_ii, min_ii, tup_s, lst_s, seq_l, seq_t, sum_s, wipe_n, wipe_c, mul_ii, fdiv_ii, mod_ii, add_ll, add_tt, setAll, mkT, mkL, oNot, List.getD_cons_zero, List.getD_cons_succ, List.length_cons, List.length_nil, List.set_cons_zero, List.set_cons_succ, List.map_cons, List.map_nil, List.replicate, List.cons_append, List.nil_append, List.append_nil, Option.bind_some, Option.map_some, List.all_cons, List.all_nil, if_true, if_false, reduceIte, Nat.reduceAdd, Nat.reduceSub, Nat.reduceLT, Nat.reduceLeDiff, Nat.reduceEqDiff, decide_true, decide_false, Bool.and_true, Bool.and_self, Bool.true_and, Bool.not_true, Bool.not_false, ne_eq, not_true_eq_false, not_false_eq_true, Nat.zero_add, Bool.false_eq_true, and_self, true_and, and_true, m]
      · have m := (hS s hs).1.mulOk (hS s hs).1 (by omega) (by omega)
        simp -implicitDefEqProofs only [enc, xVar_a, xC_a, xBin_a, xUn_a, tOf_a, tTru_a, tNotP_a, tAndP_a, tOrP_a, tyes_a, tno_a, tYesP_a, xNil_a, xCons_a, xTup_a, xLst_a, xAnd_a, xOr_a, xIf_a, xChain_a, oNo_a, oAt_a, xSl_a, xCall_a, xSeq_a, xIt_a, xLc_a, gSet_a, gTupD_a, gsNil_a, gsCons_a, sNop_a, sBrk_a, sCnt_a, sSeq_a, sRet_a, sIf_a, sSet_a, sTgt_a, sAug_a, sApp_a, sExt_a, sPut_a, sPutK_a, pkO_s, sFor_a, sWhile_a, sPar_a, runD_a, b2_s, c2_s, sqO_nx, sqO_rt, sqO_bk, sqO_ct, ifO_t, ifO_f, stO_s, endO_nx, endO_rt, andO_t, andO_f, orO_t, orO_f, chO_s, chP_t, chP_f, slO_s, atO_i, lcO_s, forO_s, gsO_s, nxO_s, tgO_s, paO_s, apO_s, exO_s, plO_s, ptO_s, dB_b, tru_b, tru_n, tru_i, tru_l, tru_t, is_n, isn_n, nn_n, nn_i, nn_b, nn_t, nn_l, add_ii, add'_ii, sub_ii, neg_i, lt_ii, le_ii, gt_ii, ge_ii, ix_l, ix_t, ix_s, at0, at1, at2, sl_l, sl_t, len_l, len_t, len_s, abs_i, int_i, int_b, max_ii, min_ii, tup_s, lst_s, seq_l, seq_t, sum_s, wipe_n, wipe_c, mul_ii, fdiv_ii, mod_ii, add_ll, add_tt, setAll, mkT, mkL, oNot, List.getD_cons_zero, List.getD_cons_succ, List.length_cons, List.length_nil, List.set_cons_zero, List.set_cons_succ, List.map_cons, List.map_nil, List.replicate, List.cons_append, List.nil_append, List.append_nil, Option.bind_some, Option.map_some, List.all_cons, List.all_nil, if_true, if_false, reduceIte, Nat.reduceAdd, Nat.reduceSub, Nat.reduceLT, Nat.reduceLeDiff, Nat.reduceEqDiff, decide_true, decide_false, Bool.and_true, Bool.and_self, Bool.true_and, Bool.not_true, Bool.not_false, ne_eq, not_true_eq_false, not_false_eq_true, Nat.zero_add, Bool.false_eq_true, and_self, true_and, and_true, m]
  have hlen : (S.map enc).length = S.length := List.length_map ..
  generalize (S.map enc) = M at *
  have eh : (sq S fun s => s.1) = hB S := rfl
  have ed : (sq S fun s => s.2) = dB2 S := rfl
  have eb : (sq S fun s => s.1 * s.2) = bB S := rfl
  have eq : (sq S fun s => s.1 * s.1) = qB S := rfl
  have eu : (S.length : Int) * qB S - hB S * hB S = under S := rfl
  rw [eh] at f1
  rw [ed] at f2
  rw [eb] at f3
  rw [eq] at f4
  have L1 := fun ρ h => (L ρ h).1
  have L2' := fun ρ h => (L ρ h).2.1
  have L3 := fun ρ h => (L ρ h).2.2.1
  have L4 := fun ρ h => (L ρ h).2.2.2
  generalize (S.map fun s => PyData.int s.1) = N1 at *
  generalize (S.map fun s => PyData.int s.2) = N2 at *
  generalize (S.map fun s => PyData.int (s.1 * s.2)) = N3 at *
  generalize (S.map fun s => PyData.int (s.1 * s.1)) = N4 at *
  have hfl : flat (.bool true) = true := rfl
  simp -implicitDefEqProofs only [d__law_squares, g__law_squares, xVar_a, xC_a, xBin_a, xUn_a, tOf_a, tTru_a, tNotP_a, tAndP_a, tOrP_a, tyes_a, tno_a, tYesP_a, xNil_a, xCons_a, xTup_a, xLst_a, xAnd_a, xOr_a, xIf_a, xChain_a, oNo_a, oAt_a, xSl_a, xCall_a, xSeq_a, xIt_a, xLc_a, gSet_a, gTupD_a, gsNil_a, gsCons_a, sNop_a, sBrk_a, sCnt_a, sSeq_a, sRet_a, sIf_a, sSet_a, sTgt_a, sAug_a, sApp_a, sExt_a, sPut_a, sPutK_a, pkO_s, sFor_a, sWhile_a, sPar_a, runD_a, b2_s, c2_s, sqO_nx, sqO_rt, sqO_bk, sqO_ct, ifO_t, ifO_f, stO_s, endO_nx, endO_rt, andO_t, andO_f, orO_t, orO_f, chO_s, chP_t, chP_f, slO_s, atO_i, lcO_s, forO_s, gsO_s, nxO_s, tgO_s, paO_s, apO_s, exO_s, plO_s, ptO_s, dB_b, tru_b, tru_n, tru_i, tru_l, tru_t, is_n, isn_n, nn_n, nn_i, nn_b, nn_t, nn_l, add_ii, add'_ii, sub_ii, neg_i, lt_ii, le_ii, gt_ii, ge_ii, ix_l, ix_t, ix_s, at0, at1, at2, sl_l, sl_t, len_l, len_t, len_s, abs_i, int_i, int_b, max_ii, min_ii, tup_s, lst_s, seq_l, seq_t, sum_s, wipe_n, wipe_c, mul_ii, fdiv_ii, mod_ii, add_ll, add_tt, setAll, mkT, mkL, oNot, List.getD_cons_zero, List.getD_cons_succ, List.length_cons, List.length_nil, List.set_cons_zero, List.set_cons_succ, List.map_cons, List.map_nil, List.replicate, List.cons_append, List.nil_append, List.append_nil, Option.bind_some, Option.map_some, List.all_cons, List.all_nil, if_true, if_false, reduceIte, Nat.reduceAdd, Nat.reduceSub, Nat.reduceLT, Nat.reduceLeDiff, Nat.reduceEqDiff, decide_true, decide_false, Bool.and_true, Bool.and_self, Bool.true_and, Bool.not_true, Bool.not_false, ne_eq, not_true_eq_false, not_false_eq_true, Nat.zero_add, Bool.false_eq_true, and_self, true_and, and_true, hlen, L1, L2', L3, L4, f1, f2, f3, f4, k1, k2, k3, k4, k5, k6, eu, w1, w2, flat_rd, hb, lk, hfl]
end K28

namespace K28
open PySem PySem.Spec PyProof.Rows L2 Pm
/-! a log -/
def sqD (b : Bool) (xs : List D) : D := if b then .list xs else .tuple xs
theorem ix_q (b : Bool) (xs : List D) (i : Int) : oIx (sqD b xs) (.int i) = atI xs i := by cases b <;> rfl
theorem sl_q (b : Bool) (xs : List D) (lo hi : Option Int) : oSl (sqD b xs) lo hi = some (sqD b (Pm.cutD xs lo hi)) := by cases b <;> rfl
theorem len_q (b : Bool) (xs : List D) : bLen [sqD b xs] = some (.int xs.length) := by cases b <;> rfl
theorem zip_q (b : Bool) (xs ys : List D) : oZip [sqD b xs, sqD b ys] = some (zipD xs ys) := by cases b <;> rfl
theorem zip_enc (L T : List Sd) : zipD (L.map enc) (T.map enc) = (L.zip T).map fun p => .tuple [enc p.1, enc p.2] := by
  unfold zipD
  induction L generalizing T with
  | nil => simp
  | cons s L ih => cases T with
    | nil => simp
    | cons t T => simp [ih]
def seg (p : Sd × Sd) (h : Int) : Rat := (p.1.2 : Rat) + ((p.2.2 - p.1.2 : Int) : Rat) * (((h - p.1.1 : Int) : Rat) / ((p.2.1 - p.1.1 : Int) : Rat))
def spd : List Sd → Int → Rat
  | a :: b :: L, h => if h ≤ b.1 then seg (a, b) h else spd (b :: L) h
  | [a], _ => (a.2 : Rat)
  | [], _ => 0
def segs (L : List Sd) : List (Sd × Sd) := L.zip (L.drop 1)
theorem segs_cons (a b : Sd) (L : List Sd) : segs (a :: b :: L) = (a, b) :: segs (b :: L) := rfl
theorem seg_left {p : Sd × Sd} : seg p p.1.1 = (p.1.2 : Rat) := by
  unfold seg
  rw [Int.sub_self]
  grind
theorem seg_right {p : Sd × Sd} (h : p.1.1 < p.2.1) : seg p p.2.1 = (p.2.2 : Rat) := by
  unfold seg
  have : ((p.2.1 - p.1.1 : Int) : Rat) ≠ 0 := by have := cast_pos (show 0 < p.2.1 - p.1.1 by omega); grind
  push_cast at *
  grind
theorem segs_mem {L : List Sd} : ∀ {p : Sd × Sd}, p ∈ segs L → p.1 ∈ L ∧ p.2 ∈ L := by
  intro p h
  unfold segs at h
  have h1 := List.of_mem_zip (a := p.1) (b := p.2) h
  exact ⟨h1.1, List.mem_of_mem_drop h1.2⟩
theorem segs_lt {L : List Sd} (hi : Inc L) : ∀ {p : Sd × Sd}, p ∈ segs L → p.1.1 < p.2.1 := by
  induction L with
  | nil => intro p h; cases h
  | cons a L ih =>
    intro p h
    have hi' := List.pairwise_cons.mp hi
    cases L with
    | nil => cases h
    | cons b L =>
      rw [segs_cons] at h
      rcases List.mem_cons.mp h with rfl | h
      · exact hi'.1 b (by simp)
      · exact ih hi'.2 h
theorem seg_spd {L : List Sd} (hi : Inc L) {h : Int} : ∀ {p : Sd × Sd}, p ∈ segs L → p.1.1 ≤ h → h ≤ p.2.1 → seg p h = spd L h := by
  induction L with
  | nil => intro p h; cases h
  | cons a L ih =>
    intro p hp h1 h2
    have hi' := List.pairwise_cons.mp hi
    cases L with
    | nil => cases hp
    | cons b L =>
      rw [segs_cons] at hp
      unfold spd
      rcases List.mem_cons.mp hp with rfl | hp
      · rw [if_pos h2]
      · by_cases hb : h ≤ b.1
        · rw [if_pos hb]
          have hm := (segs_mem hp).1
          have hbp : b.1 ≤ p.1.1 := by
            rcases List.mem_cons.mp hm with e | hm
            · rw [e]; omega
            · have := (List.pairwise_cons.mp hi'.2).1 _ hm
              omega
          have e1 : p.1 = b := same_hour hi'.2 hm (by simp) (by omega)
          have e2 : h = b.1 := by omega
          subst e2
          have hlt : a.1 < b.1 := hi'.1 b (by simp)
          rw [seg_right (p := (a, b)) hlt]
          have := seg_left (p := p)
          rw [e1] at this
          exact this
        · rw [if_neg hb]
          exact ih hi'.2 hp h1 h2
theorem segs_some {L : List Sd} {a z : Sd} {h : Int} (ha : L.head? = some a) (hz : L.getLast? = some z) (h1 : a.1 ≤ h) (h2 : h ≤ z.1) (hl : 2 ≤ L.length) : ∃ p ∈ segs L, p.1.1 ≤ h ∧ h ≤ p.2.1 := by
  induction L generalizing a with
  | nil => simp at hl
  | cons b L ih =>
    cases L with
    | nil => simp at hl
    | cons c L =>
      simp at ha
      subst ha
      rw [segs_cons]
      by_cases hc : h ≤ c.1
      · exact ⟨(b, c), by simp, h1, hc⟩
      · cases L with
        | nil =>
          simp at hz
          subst hz
          omega
        | cons d L =>
          obtain ⟨p, hp, k⟩ := ih (a := c) rfl (by simpa [List.getLast?_cons_cons] using hz) (by omega) (by simp)
          exact ⟨p, List.mem_cons_of_mem _ hp, k⟩
theorem segs_out {L : List Sd} (hi : Inc L) {a z : Sd} (ha : L.head? = some a) (hz : L.getLast? = some z) : ∀ s ∈ L, a.1 ≤ s.1 ∧ s.1 ≤ z.1 := by
  induction L generalizing a with
  | nil => cases ha
  | cons b L ih =>
    intro s hs
    simp at ha
    subst ha
    have hi' := List.pairwise_cons.mp hi
    cases L with
    | nil =>
      simp at hz hs
      subst hz
      subst hs
      omega
    | cons c L =>
      have k := ih hi'.2 (a := c) rfl (by simpa [List.getLast?_cons_cons] using hz)
      rcases List.mem_cons.mp hs with rfl | hs
      · have := hi'.1 c (by simp)
        have := k c (by simp)
        omega
      · have := hi'.1 s hs
        have := k s hs
        omega
structure LogOk (L : List Sd) (a z : Sd) (Q : Int) : Prop where
  inc : Inc L
  hd : L.head? = some a
  lst : L.getLast? = some z
  ok : OkS L
  pos : 0 ≤ a.1
  q0 : 0 < Q
  qs : Sm 10 Q
  gap : ∀ p ∈ segs L, (p.2.1 - p.1.1) ∣ Q
  len : L.length ≤ 1000
/-- so many Q-ths -/
def Fm (Q : Int) (B : Nat) (x : Rat) : Prop := ∃ n : Int, x = (n : Rat) / (Q : Rat) ∧ n.natAbs ≤ B
theorem Fm.add {Q : Int} (hQ : 0 < Q) {B C : Nat} {x y : Rat} (h1 : Fm Q B x) (h2 : Fm Q C y) : Fm Q (B + C) (x + y) := by
  obtain ⟨n, rfl, hn⟩ := h1
  obtain ⟨m, rfl, hm⟩ := h2
  refine ⟨n + m, ?_, by have := Int.natAbs_add_le n m; omega⟩
  push_cast
  grind
theorem Fm.half {Q : Int} (hQ : 0 < Q) {B : Nat} {x : Rat} (h1 : Fm Q B x) : Fm (2 * Q) B (x / 2) := by
  obtain ⟨n, rfl, hn⟩ := h1
  refine ⟨n, ?_, hn⟩
  have := cast_pos hQ
  push_cast
  grind
theorem Fm.sr {Q : Int} (hQ : 0 < Q) {k : Nat} (sQ : Sm k Q) {x : Rat} (h : Fm Q (2 ^ k) x) : SR k x := by
  obtain ⟨n, rfl, hn⟩ := h
  exact SR.div hn sQ hQ
theorem Fm.mono {Q : Int} {B C : Nat} {x : Rat} (h : Fm Q B x) (hB : B ≤ C) : Fm Q C x := by
  obtain ⟨n, e, hn⟩ := h
  exact ⟨n, e, by omega⟩
theorem seg_fm {Q : Int} (hQ : 0 < Q) (sQ : Sm 10 Q) {p : Sd × Sd} (hp : OkP p) (hg : (p.2.1 - p.1.1) ∣ Q) {h : Int} (h1 : p.1.1 ≤ h) (h2 : h ≤ p.2.1) : Fm Q (2 ^ 34) (seg p h) := by
  obtain ⟨c, hc⟩ := hg
  have hw : 0 < p.2.1 - p.1.1 := by have := hp.1; omega
  have hc0 : 0 < c := by
    rcases Int.lt_trichotomy c 0 with h | h | h
    · have := Int.mul_neg_of_pos_of_neg hw h
      omega
    · rw [h] at hc
      omega
    · exact h
  have sc : Sm 10 c := sQ.le (by
    have : c ≤ Q := by
      rw [hc]
      have := Int.mul_le_mul_of_nonneg_right (show 1 ≤ p.2.1 - p.1.1 by omega) (show 0 ≤ c by omega)
      omega
    omega)
  refine ⟨p.1.2 * Q + (p.2.2 - p.1.2) * ((h - p.1.1) * c), ?_, ?_⟩
  · have e1 : (0 : Rat) < ((p.2.1 - p.1.1 : Int) : Rat) := cast_pos hw
    have e2 : (Q : Rat) = ((p.2.1 - p.1.1 : Int) : Rat) * (c : Rat) := by rw [hc]; push_cast; rfl
    have e3 : (0 : Rat) < (c : Rat) := cast_pos hc0
    have e4 : (0 : Rat) < (Q : Rat) := cast_pos hQ
    unfold seg
    have k : ∀ x y : Rat, x * (Q : Rat) = y → x = y / (Q : Rat) := fun x y h => by
      rw [← h, Rat.mul_div_cancel (by grind)]
    apply k
    have e5 : ((h - p.1.1 : Int) : Rat) / ((p.2.1 - p.1.1 : Int) : Rat) * ((p.2.1 - p.1.1 : Int) : Rat) = ((h - p.1.1 : Int) : Rat) := Rat.div_mul_cancel (by grind)
    generalize ((h - p.1.1 : Int) : Rat) / ((p.2.1 - p.1.1 : Int) : Rat) = t at *
    rw [e2]
    have : ((p.1.2 : Rat) + ((p.2.2 - p.1.2 : Int) : Rat) * t) * (((p.2.1 - p.1.1 : Int) : Rat) * (c : Rat)) = (p.1.2 : Rat) * (((p.2.1 - p.1.1 : Int) : Rat) * (c : Rat)) + ((p.2.2 - p.1.2 : Int) : Rat) * ((t * ((p.2.1 - p.1.1 : Int) : Rat)) * (c : Rat)) := by grind
    rw [this, e5, ← e2]
    push_cast
    grind
  · have s1 : Sm 20 (p.1.2 * Q) := hp.2.2.1.mul sQ
    have s2 : Sm 11 (p.2.2 - p.1.2) := okp_rise hp
    have s3 : Sm 11 (h - p.1.1) := (okp_way hp).le (by omega)
    exact ((s1.mono (k := 33) (by omega)).add ((s2.mul (s3.mul sc)).mono (k := 33) (by omega)))
theorem okp_seg {L : List Sd} (hi : Inc L) (hS : OkS L) {p : Sd × Sd} (h : p ∈ segs L) : OkP p := by
  have h1 := segs_mem h
  have h2 := hS _ h1.1
  have h3 := hS _ h1.2
  exact ⟨segs_lt hi h, h2.1, h2.2, h3.1, h3.2⟩
theorem head_get {L : List Sd} {a : Sd} (ha : L.head? = some a) : ∃ T, L = a :: T := by
  cases L with
  | nil => cases ha
  | cons b T =>
    simp at ha
    subst ha
    exact ⟨T, rfl⟩
theorem LogOk.at0 {L : List Sd} {a z : Sd} {Q : Int} (h : LogOk L a z Q) : atI (L.map enc) 0 = some (.tuple [.int a.1, .int a.2]) := by
  obtain ⟨T, rfl⟩ := head_get h.hd
  rw [List.map_cons, Pm.at0]
  rfl
theorem LogOk.atL {L : List Sd} {a z : Sd} {Q : Int} (h : LogOk L a z Q) : atI (L.map enc) (-1) = some (.tuple [.int z.1, .int z.2]) := by
  have hz := h.lst
  have hn : L ≠ [] := by intro h; rw [h] at hz; cases hz
  have hl : 0 < L.length := List.length_pos_iff.mpr hn
  rw [List.getLast?_eq_getElem?] at hz
  unfold atI
  have e : ixN (L.map enc).length (-1) = some (L.length - 1) := by
    unfold ixN
    rw [if_neg (by decide), List.length_map, if_pos (by omega)]
    congr 1
    omega
  rw [e]
  show (L.map enc)[L.length - 1]? = _
  rw [List.getElem?_map, hz]
  rfl
theorem LogOk.spd_fm {L : List Sd} {a z : Sd} {Q : Int} (hL : LogOk L a z Q) {h : Int} (h1 : a.1 ≤ h) (h2 : h ≤ z.1) : Fm Q (2 ^ 34) (spd L h) := by
  by_cases hl : 2 ≤ L.length
  · obtain ⟨p, hp, k1, k2⟩ := segs_some hL.hd hL.lst h1 h2 hl
    rw [← seg_spd hL.inc hp k1 k2]
    exact seg_fm hL.q0 hL.qs (okp_seg hL.inc hL.ok hp) (hL.gap p hp) k1 k2
  · obtain ⟨T, e⟩ := head_get hL.hd
    subst e
    cases T with
    | nil =>
      refine ⟨a.2 * Q, ?_, ?_⟩
      · have := cast_pos hL.q0
        show (a.2 : Rat) = _
        push_cast
        rw [Rat.mul_div_cancel (by grind)]
      · exact ((hL.ok a (by simp)).2.mul hL.qs).mono (k := 34) (by omega)
    | cons b T => simp at hl
theorem speed_at_eq (bq : Bool) {L : List Sd} {a z : Sd} {Q : Int} (hL : LogOk L a z Q) {h : Int} : d_speed_at [sqD bq (L.map enc), .int h] = some (if a.1 ≤ h ∧ h ≤ z.1 then rd (spd L h) else .none) := by
  have hcut : Pm.cutD (L.map enc) (some (1 : Int)) none = (L.drop 1).map enc := by
    obtain ⟨T, e⟩ := head_get hL.hd
    rw [List.map_drop]
    exact cut_from (L.map enc) 1 (by rw [e]; simp)
  have hz : zipD (L.map enc) ((L.drop 1).map enc) = (segs L).map fun p => .tuple [enc p.1, enc p.2] := zip_enc _ _
  have key := forL_find (g := gTupD 2 (gsCons (gTupD 2 (gsCons (gSet 2) (gsCons (gSet 3) gsNil))) (gsCons (gTupD 2 (gsCons (gSet 4) (gsCons (gSet 5) gsNil))) gsNil))) (b := l1_speed_at) (fun p : Sd × Sd => .tuple [enc p.1, enc p.2]) (fun p => decide (p.1.1 ≤ h) && decide (h ≤ p.2.1)) (fun ρ => ∃ x2 x3 x4 x5, ρ = [some (sqD bq (L.map enc)), some (.int h), x2, x3, x4, x5]) (fun p => rd (seg p h)) (segs L) (fun p hp ρ ⟨x2, x3, x4, x5, e'⟩ => by
    subst e'
    have ok := okp_seg hL.inc hL.ok hp
    refine ⟨[some (sqD bq (L.map enc)), some (.int h), some (.int p.1.1), some (.int p.1.2), some (.int p.2.1), some (.int p.2.2)], rfl, fun hq => ?_, fun hq => ⟨[some (sqD bq (L.map enc)), some (.int h), some (.int p.1.1), some (.int p.1.2), some (.int p.2.1), some (.int p.2.2)], ?_, _, _, _, _, rfl⟩⟩
    · rw [Bool.and_eq_true, decide_eq_true_eq, decide_eq_true_eq] at hq
      have hw : 0 < p.2.1 - p.1.1 := by have := ok.1; omega
      have sw := okp_way ok
      have s3 : Sm 11 (h - p.1.1) := sw.le (by omega)
      have q1 := lowest_rd (h - p.1.1) (p.2.1 - p.1.1) hw (sw.mono (by omega))
      have sr1 : SR 11 (((h - p.1.1 : Int) : Rat) / ((p.2.1 - p.1.1 : Int) : Rat)) := SR.div s3 sw hw
      have sr2 : SR 11 (((p.2.2 - p.1.2 : Int) : Rat)) := SR.int (okp_rise ok)
      have q2 := times_rd (sr2.mono (k := 900) (by omega)) (sr1.mono (by omega))
      have q3 := plus_rd (SR.int (k := 900) (ok.2.2.1.mono (by omega))) ((sr2.mul sr1).mono (by omega))
      rw [show (p.1.2 : Rat) + ((p.2.2 - p.1.2 : Int) : Rat) * (((h - p.1.1 : Int) : Rat) / ((p.2.1 - p.1.1 : Int) : Rat)) = seg p h from rfl] at q3
      simp -implicitDefEqProofs only [l1_speed_at, xVar_a, xC_a, xBin_a, xUn_a, tOf_a, tTru_a, tNotP_a, tAndP_a, tOrP_a, tyes_a, tno_a, tYesP_a, xNil_a, xCons_a, xTup_a, xLst_a, xAnd_a, xOr_a, xIf_a, xChain_a, oNo_a, oAt_a, xSl_a, xCall_a, xSeq_a, xIt_a, xLc_a, gSet_a, gTupD_a, gsNil_a, gsCons_a, sNop_a, sBrk_a, sCnt_a, sSeq_a, sRet_a, sIf_a, sSet_a, sTgt_a, sAug_a, sApp_a, sExt_a, sPut_a, sPutK_a, pkO_s, sFor_a, sWhile_a, sPar_a, runD_a, b2_s, c2_s, sqO_nx, sqO_rt, sqO_bk, sqO_ct, ifO_t, ifO_f, stO_s, endO_nx, endO_rt, andO_t, andO_f, orO_t, orO_f, chO_s, chP_t, chP_f, slO_s, atO_i, lcO_s, forO_s, gsO_s, nxO_s, tgO_s, paO_s, apO_s, exO_s, plO_s, ptO_s, dB_b, tru_b, tru_n, tru_i, tru_l, tru_t, is_n, isn_n, nn_n, nn_i, nn_b, nn_t, nn_l, add_ii, add'_ii, sub_ii, neg_i, lt_ii, le_ii, gt_ii, ge_ii, ix_l, ix_t, ix_s, at0, at1, at2, sl_l, sl_t, len_l, len_t, len_s, abs_i, int_i, int_b, max_ii, min_ii, tup_s, lst_s, seq_l, seq_t, sum_s, wipe_n, wipe_c, mul_ii, fdiv_ii, mod_ii, add_ll, add_tt, setAll, mkT, mkL, oNot, List.getD_cons_zero, List.getD_cons_succ, List.length_cons, List.length_nil, List.set_cons_zero, List.set_cons_succ, List.map_cons, List.map_nil, List.replicate, List.cons_append, List.nil_append, List.append_nil, Option.bind_some, Option.map_some, List.all_cons, List.all_nil, if_true, if_false, reduceIte, Nat.reduceAdd, Nat.reduceSub, Nat.reduceLT, Nat.reduceLeDiff, Nat.reduceEqDiff, decide_true, decide_false, Bool.and_true, Bool.and_self, Bool.true_and, Bool.not_true, Bool.not_false, ne_eq, not_true_eq_false, not_false_eq_true, Nat.zero_add, Bool.false_eq_true, and_self, true_and, and_true, hq.1, hq.2, whole_rd, q1, q2, q3]
    · by_cases h1 : p.1.1 ≤ h
      · have h2 : ¬ h ≤ p.2.1 := by intro h2; simp [h1, h2] at hq
        simp -implicitDefEqProofs only [l1_speed_at, xVar_a, xC_a, xBin_a, xUn_a, tOf_a, tTru_a, tNotP_a, tAndP_a, tOrP_a, tyes_a, tno_a, tYesP_a, xNil_a, xCons_a, xTup_a, xLst_a, xAnd_a, xOr_a, xIf_a, xChain_a, oNo_a, oAt_a, xSl_a, xCall_a, xSeq_a, xIt_a, xLc_a, gSet_a, gTupD_a, gsNil_a, gsCons_a, sNop_a, sBrk_a, sCnt_a, sSeq_a, sRet_a, sIf_a, sSet_a, sTgt_a, sAug_a, sApp_a, sExt_a, sPut_a, sPutK_a, pkO_s, sFor_a, sWhile_a, sPar_a, runD_a, b2_s, c2_s, sqO_nx, sqO_rt, sqO_bk, sqO_ct, ifO_t, ifO_f, stO_s, endO_nx, endO_rt, andO_t, andO_f, orO_t, orO_f, chO_s, chP_t, chP_f, slO_s, atO_i, lcO_s, forO_s, gsO_s, nxO_s, tgO_s, paO_s, apO_s, exO_s, plO_s, ptO_s, dB_b, tru_b, tru_n, tru_i, tru_l, tru_t, is_n, isn_n, nn_n, nn_i, nn_b, nn_t, nn_l, add_ii, add'_ii, sub_ii, neg_i, lt_ii, le_ii, gt_ii, ge_ii, ix_l, ix_t, ix_s, at0, at1, at2, sl_l, sl_t, len_l, len_t, len_s, abs_i, int_i, int_b, max_ii, min_ii, tup_s, lst_s, seq_l, seq_t, sum_s, wipe_n, wipe_c, mul_ii, fdiv_ii, mod_ii, add_ll, add_tt, setAll, mkT, mkL, oNot, List.getD_cons_zero, List.getD_cons_succ, List.length_cons, List.length_nil, List.set_cons_zero, List.set_cons_succ, List.map_cons, List.map_nil, List.replicate, List.cons_append, List.nil_append, List.append_nil, Option.bind_some, Option.map_some, List.all_cons, List.all_nil, if_true, if_false, reduceIte, Nat.reduceAdd, Nat.reduceSub, Nat.reduceLT, Nat.reduceLeDiff, Nat.reduceEqDiff, decide_true, decide_false, Bool.and_true, Bool.and_self, Bool.true_and, Bool.not_true, Bool.not_false, ne_eq, not_true_eq_false, not_false_eq_true, Nat.zero_add, Bool.false_eq_true, and_self, true_and, and_true, h1, h2]
      · simp -implicitDefEqProofs only [l1_speed_at, xVar_a, xC_a, xBin_a, xUn_a, tOf_a, tTru_a, tNotP_a, tAndP_a, tOrP_a, tyes_a, tno_a, tYesP_a, xNil_a, xCons_a, xTup_a, xLst_a, xAnd_a, xOr_a, xIf_a, xChain_a, oNo_a, oAt_a, xSl_a, xCall_a, xSeq_a, xIt_a, xLc_a, gSet_a, gTupD_a, gsNil_a, gsCons_a, sNop_a, sBrk_a, sCnt_a, sSeq_a, sRet_a, sIf_a, sSet_a, sTgt_a, sAug_a, sApp_a, sExt_a, sPut_a, sPutK_a, pkO_s, sFor_a, sWhile_a, sPar_a, runD_a, b2_s, c2_s, sqO_nx, sqO_rt, sqO_bk, sqO_ct, ifO_t, ifO_f, stO_s, endO_nx, endO_rt, andO_t, andO_f, orO_t, orO_f, chO_s, chP_t, chP_f, slO_s, atO_i, lcO_s, forO_s, gsO_s, nxO_s, tgO_s, paO_s, apO_s, exO_s, plO_s, ptO_s, dB_b, tru_b, tru_n, tru_i, tru_l, tru_t, is_n, isn_n, nn_n, nn_i, nn_b, nn_t, nn_l, add_ii, add'_ii, sub_ii, neg_i, lt_ii, le_ii, gt_ii, ge_ii, ix_l, ix_t, ix_s, at0, at1, at2, sl_l, sl_t, len_l, len_t, len_s, abs_i, int_i, int_b, max_ii, min_ii, tup_s, lst_s, seq_l, seq_t, sum_s, wipe_n, wipe_c, mul_ii, fdiv_ii, mod_ii, add_ll, add_tt, setAll, mkT, mkL, oNot, List.getD_cons_zero, List.getD_cons_succ, List.length_cons, List.length_nil, List.set_cons_zero, List.set_cons_succ, List.map_cons, List.map_nil, List.replicate, List.cons_append, List.nil_append, List.append_nil, Option.bind_some, Option.map_some, List.all_cons, List.all_nil, if_true, if_false, reduceIte, Nat.reduceAdd, Nat.reduceSub, Nat.reduceLT, Nat.reduceLeDiff, Nat.reduceEqDiff, decide_true, decide_false, Bool.and_true, Bool.and_self, Bool.true_and, Bool.not_true, Bool.not_false, ne_eq, not_true_eq_false, not_false_eq_true, Nat.zero_add, Bool.false_eq_true, and_self, true_and, and_true, h1]) [some (sqD bq (L.map enc)), some (.int h), none, none, none, none] ⟨none, none, none, none, rfl⟩
  have hA := hL.at0
  have hout := segs_out hL.inc hL.hd hL.lst
  have hlen : (L.map enc).length = L.length := List.length_map ..
  rcases key with ⟨p, f1, f2⟩ | ⟨f1, ρ', f2, x2, x3, x4, x5, e'⟩
  · have hp := List.mem_of_find?_eq_some f1
    have hq := List.find?_some f1
    rw [Bool.and_eq_true, decide_eq_true_eq, decide_eq_true_eq] at hq
    have hm := segs_mem hp
    have b1 := hout _ hm.1
    have b2 := hout _ hm.2
    rw [if_pos (by omega), ← seg_spd hL.inc hp hq.1 hq.2]
    generalize L.map enc = M at *
    simp -implicitDefEqProofs only [d_speed_at, g_speed_at, xVar_a, xC_a, xBin_a, xUn_a, tOf_a, tTru_a, tNotP_a, tAndP_a, tOrP_a, tyes_a, tno_a, tYesP_a, xNil_a, xCons_a, xTup_a, xLst_a, xAnd_a, xOr_a, xIf_a, xChain_a, oNo_a, oAt_a, xSl_a, xCall_a, xSeq_a, xIt_a, xLc_a, gSet_a, gTupD_a, gsNil_a, gsCons_a, sNop_a, sBrk_a, sCnt_a, sSeq_a, sRet_a, sIf_a, sSet_a, sTgt_a, sAug_a, sApp_a, sExt_a, sPut_a, sPutK_a, pkO_s, sFor_a, sWhile_a, sPar_a, runD_a, b2_s, c2_s, sqO_nx, sqO_rt, sqO_bk, sqO_ct, ifO_t, ifO_f, stO_s, endO_nx, endO_rt, andO_t, andO_f, orO_t, orO_f, chO_s, chP_t, chP_f, slO_s, atO_i, lcO_s, forO_s, gsO_s, nxO_s, tgO_s, paO_s, apO_s, exO_s, plO_s, ptO_s, dB_b, tru_b, tru_n, tru_i, tru_l, tru_t, is_n, isn_n, nn_n, nn_i, nn_b, nn_t, nn_l, add_ii, add'_ii, sub_ii, neg_i, lt_ii, le_ii, gt_ii, ge_ii, ix_l, ix_t, ix_s, at0, at1, at2, sl_l, sl_t, len_l, len_t, len_s, abs_i, int_i, int_b, max_ii, min_ii, tup_s, lst_s, seq_l, seq_t, sum_s, wipe_n, wipe_c, mul_ii, fdiv_ii, mod_ii, add_ll, add_tt, setAll, mkT, mkL, oNot, List.getD_cons_zero, List.getD_cons_succ, List.length_cons, List.length_nil, List.set_cons_zero, List.set_cons_succ, List.map_cons, List.map_nil, List.replicate, List.cons_append, List.nil_append, List.append_nil, Option.bind_some, Option.map_some, List.all_cons, List.all_nil, if_true, if_false, reduceIte, Nat.reduceAdd, Nat.reduceSub, Nat.reduceLT, Nat.reduceLeDiff, Nat.reduceEqDiff, decide_true, decide_false, Bool.and_true, Bool.and_self, Bool.true_and, Bool.not_true, Bool.not_false, ne_eq, not_true_eq_false, not_false_eq_true, Nat.zero_add, Bool.false_eq_true, and_self, true_and, and_true, sl_q, hcut, zip_q, hz, f2]
  · subst e'
    by_cases hl : 2 ≤ L.length
    · have hno : ¬ (a.1 ≤ h ∧ h ≤ z.1) := by
        rintro ⟨h1, h2⟩
        obtain ⟨p, hp, k1, k2⟩ := segs_some hL.hd hL.lst h1 h2 hl
        have := List.find?_eq_none.mp f1 p hp
        simp [k1, k2] at this
      rw [if_neg hno]
      have e1 : decide ((L.length : Int) = 1) = false := decide_eq_false (by omega)
      generalize L.map enc = M at *
      simp -implicitDefEqProofs only [d_speed_at, g_speed_at, xVar_a, xC_a, xBin_a, xUn_a, tOf_a, tTru_a, tNotP_a, tAndP_a, tOrP_a, tyes_a, tno_a, tYesP_a, xNil_a, xCons_a, xTup_a, xLst_a, xAnd_a, xOr_a, xIf_a, xChain_a, oNo_a, oAt_a, xSl_a, xCall_a, xSeq_a, xIt_a, xLc_a, gSet_a, gTupD_a, gsNil_a, gsCons_a, sNop_a, sBrk_a, sCnt_a, sSeq_a, sRet_a, sIf_a, sSet_a, sTgt_a, sAug_a, sApp_a, sExt_a, sPut_a, sPutK_a, pkO_s, sFor_a, sWhile_a, sPar_a, runD_a, b2_s, c2_s, sqO_nx, sqO_rt, sqO_bk, sqO_ct, ifO_t, ifO_f, stO_s, endO_nx, endO_rt, andO_t, andO_f, orO_t, orO_f, chO_s, chP_t, chP_f, slO_s, atO_i, lcO_s, forO_s, gsO_s, nxO_s, tgO_s, paO_s, apO_s, exO_s, plO_s, ptO_s, dB_b, tru_b, tru_n, tru_i, tru_l, tru_t, is_n, isn_n, nn_n, nn_i, nn_b, nn_t, nn_l, add_ii, add'_ii, sub_ii, neg_i, lt_ii, le_ii, gt_ii, ge_ii, ix_l, ix_t, ix_s, at0, at1, at2, sl_l, sl_t, len_l, len_t, len_s, abs_i, int_i, int_b, max_ii, min_ii, tup_s, lst_s, seq_l, seq_t, sum_s, wipe_n, wipe_c, mul_ii, fdiv_ii, mod_ii, add_ll, add_tt, setAll, mkT, mkL, oNot, List.getD_cons_zero, List.getD_cons_succ, List.length_cons, List.length_nil, List.set_cons_zero, List.set_cons_succ, List.map_cons, List.map_nil, List.replicate, List.cons_append, List.nil_append, List.append_nil, Option.bind_some, Option.map_some, List.all_cons, List.all_nil, if_true, if_false, reduceIte, Nat.reduceAdd, Nat.reduceSub, Nat.reduceLT, Nat.reduceLeDiff, Nat.reduceEqDiff, decide_true, decide_false, Bool.and_true, Bool.and_self, Bool.true_and, Bool.not_true, Bool.not_false, ne_eq, not_true_eq_false, not_false_eq_true, Nat.zero_add, Bool.false_eq_true, and_self, true_and, and_true, sl_q, hcut, zip_q, hz, f2, len_q, hlen, eq_int, e1]
    · have hz1 : L = [a] ∧ z = a := by
        obtain ⟨T, e⟩ := head_get hL.hd
        cases T with
        | nil =>
          refine ⟨e, ?_⟩
          have := hL.lst
          rw [e] at this
          simp at this
          exact this.symm
        | cons b T => rw [e] at hl; simp at hl
      have e1 : decide ((L.length : Int) = 1) = true := decide_eq_true (by rw [hz1.1]; rfl)
      by_cases h3 : a.1 = h
      · rw [if_pos (by rw [hz1.2]; omega)]
        have e4 : spd L h = (a.2 : Rat) := by rw [hz1.1]; rfl
        rw [e4]
        generalize L.map enc = M at *
        simp -implicitDefEqProofs only [d_speed_at, g_speed_at, xVar_a, xC_a, xBin_a, xUn_a, tOf_a, tTru_a, tNotP_a, tAndP_a, tOrP_a, tyes_a, tno_a, tYesP_a, xNil_a, xCons_a, xTup_a, xLst_a, xAnd_a, xOr_a, xIf_a, xChain_a, oNo_a, oAt_a, xSl_a, xCall_a, xSeq_a, xIt_a, xLc_a, gSet_a, gTupD_a, gsNil_a, gsCons_a, sNop_a, sBrk_a, sCnt_a, sSeq_a, sRet_a, sIf_a, sSet_a, sTgt_a, sAug_a, sApp_a, sExt_a, sPut_a, sPutK_a, pkO_s, sFor_a, sWhile_a, sPar_a, runD_a, b2_s, c2_s, sqO_nx, sqO_rt, sqO_bk, sqO_ct, ifO_t, ifO_f, stO_s, endO_nx, endO_rt, andO_t, andO_f, orO_t, orO_f, chO_s, chP_t, chP_f, slO_s, atO_i, lcO_s, forO_s, gsO_s, nxO_s, tgO_s, paO_s, apO_s, exO_s, plO_s, ptO_s, dB_b, tru_b, tru_n, tru_i, tru_l, tru_t, is_n, isn_n, nn_n, nn_i, nn_b, nn_t, nn_l, add_ii, add'_ii, sub_ii, neg_i, lt_ii, le_ii, gt_ii, ge_ii, ix_l, ix_t, ix_s, at0, at1, at2, sl_l, sl_t, len_l, len_t, len_s, abs_i, int_i, int_b, max_ii, min_ii, tup_s, lst_s, seq_l, seq_t, sum_s, wipe_n, wipe_c, mul_ii, fdiv_ii, mod_ii, add_ll, add_tt, setAll, mkT, mkL, oNot, List.getD_cons_zero, List.getD_cons_succ, List.length_cons, List.length_nil, List.set_cons_zero, List.set_cons_succ, List.map_cons, List.map_nil, List.replicate, List.cons_append, List.nil_append, List.append_nil, Option.bind_some, Option.map_some, List.all_cons, List.all_nil, if_true, if_false, reduceIte, Nat.reduceAdd, Nat.reduceSub, Nat.reduceLT, Nat.reduceLeDiff, Nat.reduceEqDiff, decide_true, decide_false, Bool.and_true, Bool.and_self, Bool.true_and, Bool.not_true, Bool.not_false, ne_eq, not_true_eq_false, not_false_eq_true, Nat.zero_add, Bool.false_eq_true, and_self, true_and, and_true, sl_q, hcut, zip_q, hz, f2, len_q, hlen, eq_int, e1, ix_q, hA, h3, whole_rd]
      · rw [if_neg (by rw [hz1.2]; omega)]
        generalize L.map enc = M at *
        simp -implicitDefEqProofs only [d_speed_at, g_speed_at, xVar_a, xC_a, xBin_a, xUn_a, tOf_a, tTru_a, tNotP_a, tAndP_a, tOrP_a, tyes_a, tno_a, tYesP_a, xNil_a, xCons_a, xTup_a, xLst_a, xAnd_a, xOr_a, xIf_a, xChain_a, oNo_a, oAt_a, xSl_a, xCall_a, xSeq_a, xIt_a, xLc_a, gSet_a, gTupD_a, gsNil_a, gsCons_a, sNop_a, sBrk_a, sCnt_a, sSeq_a, sRet_a, sIf_a, sSet_a, sTgt_a, sAug_a, sApp_a, sExt_a, sPut_a, sPutK_a, pkO_s, sFor_a, sWhile_a, sPar_a, runD_a, b2_s, c2_s, sqO_nx, sqO_rt, sqO_bk, sqO_ct, ifO_t, ifO_f, stO_s, endO_nx, endO_rt, andO_t, andO_f, orO_t, orO_f, chO_s, chP_t, chP_f, slO_s, atO_i, lcO_s, forO_s, gsO_s, nxO_s, tgO_s, paO_s, apO_s, exO_s, plO_s, ptO_s, dB_b, tru_b, tru_n, tru_i, tru_l, tru_t, is_n, isn_n, nn_n, nn_i, nn_b, nn_t, nn_l, add_ii, add'_ii, sub_ii, neg_i, lt_ii, le_ii, gt_ii, ge_ii, ix_l, ix_t, ix_s, at0, at1, at2, sl_l, sl_t, len_l, len_t, len_s, abs_i, int_i, int_b, max_ii, min_ii, tup_s, lst_s, seq_l, seq_t, sum_s, wipe_n, wipe_c, mul_ii, fdiv_ii, mod_ii, add_ll, add_tt, setAll, mkT, mkL, oNot, List.getD_cons_zero, List.getD_cons_succ, List.length_cons, List.length_nil, List.set_cons_zero, List.set_cons_succ, List.map_cons, List.map_nil, List.replicate, List.cons_append, List.nil_append, List.append_nil, Option.bind_some, Option.map_some, List.all_cons, List.all_nil, if_true, if_false, reduceIte, Nat.reduceAdd, Nat.reduceSub, Nat.reduceLT, Nat.reduceLeDiff, Nat.reduceEqDiff, decide_true, decide_false, Bool.and_true, Bool.and_self, Bool.true_and, Bool.not_true, Bool.not_false, ne_eq, not_true_eq_false, not_false_eq_true, Nat.zero_add, Bool.false_eq_true, and_self, true_and, and_true, sl_q, hcut, zip_q, hz, f2, len_q, hlen, eq_int, e1, ix_q, hA, h3]
end K28

namespace K28
open PySem PySem.Spec PyProof.Rows L2 Pm
def rs : List Rat → Rat
  | [] => 0
  | x :: l => x + rs l
theorem rs_app (l m : List Rat) : rs (l ++ m) = rs l + rs m := by
  induction l with
  | nil => show rs m = 0 + rs m; grind
  | cons x l ih => show x + rs (l ++ m) = x + rs l + rs m; grind
def hv (L : List Sd) (h : Int) : Rat := (spd L h + spd L (h + 1)) / 2
def rb (L : List Sd) (b : Int) (n : Nat) : Rat := rs ((List.range n).map fun k => hv L (b + (k : Nat)))
theorem rb_succ (L : List Sd) (b : Int) (n : Nat) : rb L b (n + 1) = rb L b n + hv L (b + (n : Nat)) := by
  unfold rb
  rw [List.range_succ, List.map_append, rs_app]
  show _ + (hv L (b + (n : Nat)) + 0) = _
  grind
theorem LogOk.hv_fm {L : List Sd} {a z : Sd} {Q : Int} (hL : LogOk L a z Q) {h : Int} (h1 : a.1 ≤ h) (h2 : h + 1 ≤ z.1) : Fm (2 * Q) (2 ^ 35) (hv L h) :=
  (((hL.spd_fm h1 (by omega)).add hL.q0 (hL.spd_fm (h := h + 1) (by omega) h2)).half hL.q0).mono (by decide)
theorem LogOk.rb_fm {L : List Sd} {a z : Sd} {Q : Int} (hL : LogOk L a z Q) {b : Int} (h1 : a.1 ≤ b) : ∀ n : Nat, b + (n : Nat) ≤ z.1 → Fm (2 * Q) (n * 2 ^ 35) (rb L b n)
  | 0, _ => ⟨0, by show (0 : Rat) = ((0 : Int) : Rat) / _; rw [Rat.div_def]; show (0 : Rat) = 0 * _; rw [Rat.zero_mul], by simp⟩
  | n + 1, h => by
    rw [rb_succ, Nat.succ_mul]
    have hq := hL.q0
    exact (hL.rb_fm h1 n (by omega)).add (by omega) (hL.hv_fm (by omega) (by omega))
theorem LogOk.zle {L : List Sd} {a z : Sd} {Q : Int} (hL : LogOk L a z Q) : z ∈ L ∧ Sm 10 z.1 ∧ a.1 ≤ z.1 := by
  have hm : z ∈ L := List.mem_of_getLast? hL.lst
  exact ⟨hm, (hL.ok z hm).1, (segs_out hL.inc hL.hd hL.lst z hm).1⟩
theorem LogOk.rb_sr {L : List Sd} {a z : Sd} {Q : Int} (hL : LogOk L a z Q) {b : Int} (h1 : a.1 ≤ b) {n : Nat} (h : b + (n : Nat) ≤ z.1) : SR 50 (rb L b n) := by
  have hz := hL.zle.2.1
  have hp := hL.pos
  have hq := hL.q0
  unfold Sm at hz
  refine Fm.sr (Q := 2 * Q) (by omega) ((Sm.lit (k := 10) (a := 2)).mul hL.qs |>.mono (by omega)) ((hL.rb_fm h1 n h).mono ?_)
  have : n ≤ 1024 := by omega
  have := Nat.mul_le_mul_right (2 ^ 35) this
  exact Nat.le_trans this (by decide)
theorem LogOk.hv_sr {L : List Sd} {a z : Sd} {Q : Int} (hL : LogOk L a z Q) {h : Int} (h1 : a.1 ≤ h) (h2 : h + 1 ≤ z.1) : SR 50 (hv L h) := by
  have hq := hL.q0
  exact Fm.sr (Q := 2 * Q) (by omega) ((Sm.lit (k := 10) (a := 2)).mul hL.qs |>.mono (by omega)) ((hL.hv_fm h1 h2).mono (by decide))
theorem LogOk.spd_sr {L : List Sd} {a z : Sd} {Q : Int} (hL : LogOk L a z Q) {h : Int} (h1 : a.1 ≤ h) (h2 : h ≤ z.1) : SR 50 (spd L h) :=
  Fm.sr hL.q0 (hL.qs.mono (by omega)) ((hL.spd_fm h1 h2).mono (by decide))
theorem rng_pre {n : Nat} {pre rest : List Nat} {x : Nat} (hp : pre ++ x :: rest = List.range n) : x = pre.length ∧ x < n := by
  have hlen : pre.length + (rest.length + 1) = n := by
    have := congrArg List.length hp
    simpa using this
  have h1 : (pre ++ x :: rest)[pre.length]? = some x := by simp
  rw [hp, List.getElem?_range (by omega)] at h1
  have := (Option.some.inj h1).symm
  exact ⟨this, by omega⟩
theorem half_lit : d_lowest [.int 1, .int 2] = some (rd (1 / 2)) := by
  have := lowest_rd 1 2 (by decide) Sm.lit
  rwa [show ((1 : Int) : Rat) / ((2 : Int) : Rat) = 1 / 2 by decide +kernel] at this
theorem half_sr : SR 10 (1 / 2 : Rat) := by
  have := SR.div (k := 10) (p := 1) (q := 2) Sm.lit Sm.lit (by decide)
  rwa [show ((1 : Int) : Rat) / ((2 : Int) : Rat) = 1 / 2 by decide +kernel] at this
theorem run_between_eq (bq : Bool) {L : List Sd} {a z : Sd} {Q : Int} (hL : LogOk L a z Q) {b e : Int} (h1 : a.1 ≤ b) (h2 : b ≤ e) (h3 : e ≤ z.1) : d_run_between [sqD bq (L.map enc), .int b, .int e] = some (rd (rb L b (e - b).toNat)) := by
  have hz := hL.zle.2.1
  have hp0 := hL.pos
  unfold Sm at hz
  have hr := oR2_list (i := b) (j := e) (by omega)
  obtain ⟨ρ', e1, h⟩ := forL_inv (g := gSet 4) (b := l1_run_between) (fun k : Nat => PyData.int (b + (k : Nat)))
    (fun pre rest ρ => pre ++ rest = List.range (e - b).toNat ∧ ∃ j u, ρ = [some (sqD bq (L.map enc)), some (.int b), some (.int e), some (rd (rb L b pre.length)), j, u]) (fun pre x rest ρ ⟨hp, j, u, e'⟩ => by
      subst e'
      obtain ⟨hx, hxn⟩ := rng_pre hp
      subst hx
      have s1 := speed_at_eq bq hL (h := b + (pre.length : Nat))
      rw [if_pos (by omega)] at s1
      have s2 := speed_at_eq bq hL (h := b + (pre.length : Nat) + 1)
      rw [if_pos (by omega)] at s2
      have r1 := hL.spd_sr (h := b + (pre.length : Nat)) (by omega) (by omega)
      have r2 := hL.spd_sr (h := b + (pre.length : Nat) + 1) (by omega) (by omega)
      have q1 := plus_rd (r1.mono (by omega)) (r2.mono (by omega))
      have q2 := times_rd ((r1.add r2).mono (k := 900) (by omega)) (half_sr.mono (by omega))
      have q3 := plus_rd ((hL.rb_sr h1 (n := pre.length) (by omega)).mono (k := 900) (by omega)) (((r1.add r2).mul half_sr).mono (k := 900) (by omega))
      have ev : (spd L (b + (pre.length : Nat)) + spd L (b + (pre.length : Nat) + 1)) * (1 / 2) = hv L (b + (pre.length : Nat)) := by unfold hv; grind
      rw [ev] at q2 q3
      rw [← rb_succ] at q3
      refine ⟨[some (sqD bq (L.map enc)), some (.int b), some (.int e), some (rd (rb L b pre.length)), some (.int (b + (pre.length : Nat))), u], [some (sqD bq (L.map enc)), some (.int b), some (.int e), some (rd (rb L b (pre ++ [pre.length]).length)), some (.int (b + (pre.length : Nat))), some (rd (spd L (b + (pre.length : Nat)) + spd L (b + (pre.length : Nat) + 1)))], rfl, .inl ?_, by rw [List.append_assoc]; exact hp, _, _, rfl⟩
      rw [List.length_append, List.length_singleton]
      generalize pre.length = n at *
      generalize L.map enc = M at *
      simp -implicitDefEqProofs only [l1_run_between, xVar_a, xC_a, xBin_a, xUn_a, tOf_a, tTru_a, tNotP_a, tAndP_a, tOrP_a, tyes_a, tno_a, tYesP_a, xNil_a, xCons_a, xTup_a, xLst_a, xAnd_a, xOr_a, xIf_a, xChain_a, oNo_a, oAt_a, xSl_a, xCall_a, xSeq_a, xIt_a, xLc_a, gSet_a, gTupD_a, gsNil_a, gsCons_a, sNop_a, sBrk_a, sCnt_a, sSeq_a, sRet_a, sIf_a, sSet_a, sTgt_a, sAug_a, sApp_a, sExt_a, sPut_a, sPutK_a, pkO_s, sFor_a, sWhile_a, sPar_a, runD_a, b2_s, c2_s, sqO_nx, sqO_rt, sqO_bk, sqO_ct, ifO_t, ifO_f, stO_s, endO_nx, endO_rt, andO_t, andO_f, orO_t, orO_f, chO_s, chP_t, chP_f, slO_s, atO_i, lcO_s, forO_s, gsO_s, nxO_s, tgO_s, paO_s, apO_s, exO_s, plO_s, ptO_s, dB_b, tru_b, tru_n, tru_i, tru_l, tru_t, is_n, isn_n, nn_n, nn_i, nn_b, nn_t, nn_l, add_ii, add'_ii, sub_ii, neg_i, lt_ii, le_ii, gt_ii, ge_ii, ix_l, ix_t, ix_s, at0, at1, at2, sl_l, sl_t, len_l, len_t, len_s, abs_i, int_i, int_b, max_ii, min_ii, tup_s, lst_s, seq_l, seq_t, sum_s, wipe_n, wipe_c, mul_ii, fdiv_ii, mod_ii, add_ll, add_tt, setAll, mkT, mkL, oNot, List.getD_cons_zero, List.getD_cons_succ, List.length_cons, List.length_nil, List.set_cons_zero, List.set_cons_succ, List.map_cons, List.map_nil, List.replicate, List.cons_append, List.nil_append, List.append_nil, Option.bind_some, Option.map_some, List.all_cons, List.all_nil, if_true, if_false, reduceIte, Nat.reduceAdd, Nat.reduceSub, Nat.reduceLT, Nat.reduceLeDiff, Nat.reduceEqDiff, decide_true, decide_false, Bool.and_true, Bool.and_self, Bool.true_and, Bool.not_true, Bool.not_false, ne_eq, not_true_eq_false, not_false_eq_true, Nat.zero_add, Bool.false_eq_true, and_self, true_and, and_true, s1, s2, q1, half_lit, q2, q3]) (List.range (e - b).toNat) [] [some (sqD bq (L.map enc)), some (.int b), some (.int e), some (rd 0), none, none] ⟨rfl, none, none, rfl⟩
  obtain ⟨_, j, u, e'⟩ := h
  subst e'
  have e0 : d_whole [.int 0] = some (rd 0) := rfl
  simp only [List.nil_append, List.length_range] at e1
  generalize L.map enc = M at *
  simp -implicitDefEqProofs only [d_run_between, g_run_between, xVar_a, xC_a, xBin_a, xUn_a, tOf_a, tTru_a, tNotP_a, tAndP_a, tOrP_a, tyes_a, tno_a, tYesP_a, xNil_a, xCons_a, xTup_a, xLst_a, xAnd_a, xOr_a, xIf_a, xChain_a, oNo_a, oAt_a, xSl_a, xCall_a, xSeq_a, xIt_a, xLc_a, gSet_a, gTupD_a, gsNil_a, gsCons_a, sNop_a, sBrk_a, sCnt_a, sSeq_a, sRet_a, sIf_a, sSet_a, sTgt_a, sAug_a, sApp_a, sExt_a, sPut_a, sPutK_a, pkO_s, sFor_a, sWhile_a, sPar_a, runD_a, b2_s, c2_s, sqO_nx, sqO_rt, sqO_bk, sqO_ct, ifO_t, ifO_f, stO_s, endO_nx, endO_rt, andO_t, andO_f, orO_t, orO_f, chO_s, chP_t, chP_f, slO_s, atO_i, lcO_s, forO_s, gsO_s, nxO_s, tgO_s, paO_s, apO_s, exO_s, plO_s, ptO_s, dB_b, tru_b, tru_n, tru_i, tru_l, tru_t, is_n, isn_n, nn_n, nn_i, nn_b, nn_t, nn_l, add_ii, add'_ii, sub_ii, neg_i, lt_ii, le_ii, gt_ii, ge_ii, ix_l, ix_t, ix_s, at0, at1, at2, sl_l, sl_t, len_l, len_t, len_s, abs_i, int_i, int_b, max_ii, min_ii, tup_s, lst_s, seq_l, seq_t, sum_s, wipe_n, wipe_c, mul_ii, fdiv_ii, mod_ii, add_ll, add_tt, setAll, mkT, mkL, oNot, List.getD_cons_zero, List.getD_cons_succ, List.length_cons, List.length_nil, List.set_cons_zero, List.set_cons_succ, List.map_cons, List.map_nil, List.replicate, List.cons_append, List.nil_append, List.append_nil, Option.bind_some, Option.map_some, List.all_cons, List.all_nil, if_true, if_false, reduceIte, Nat.reduceAdd, Nat.reduceSub, Nat.reduceLT, Nat.reduceLeDiff, Nat.reduceEqDiff, decide_true, decide_false, Bool.and_true, Bool.and_self, Bool.true_and, Bool.not_true, Bool.not_false, ne_eq, not_true_eq_false, not_false_eq_true, Nat.zero_add, Bool.false_eq_true, and_self, true_and, and_true, e0, hr, e1]
theorem run_all_eq (bq : Bool) {L : List Sd} {a z : Sd} {Q : Int} (hL : LogOk L a z Q) : d_run_all [sqD bq (L.map enc)] = some (rd (rb L a.1 (z.1 - a.1).toNat)) := by
  have h := run_between_eq bq hL (b := a.1) (e := z.1) (by omega) hL.zle.2.2 (by omega)
  have hA := hL.at0
  have hZ := hL.atL
  generalize L.map enc = M at *
  simp -implicitDefEqProofs only [d_run_all, g_run_all, xVar_a, xC_a, xBin_a, xUn_a, tOf_a, tTru_a, tNotP_a, tAndP_a, tOrP_a, tyes_a, tno_a, tYesP_a, xNil_a, xCons_a, xTup_a, xLst_a, xAnd_a, xOr_a, xIf_a, xChain_a, oNo_a, oAt_a, xSl_a, xCall_a, xSeq_a, xIt_a, xLc_a, gSet_a, gTupD_a, gsNil_a, gsCons_a, sNop_a, sBrk_a, sCnt_a, sSeq_a, sRet_a, sIf_a, sSet_a, sTgt_a, sAug_a, sApp_a, sExt_a, sPut_a, sPutK_a, pkO_s, sFor_a, sWhile_a, sPar_a, runD_a, b2_s, c2_s, sqO_nx, sqO_rt, sqO_bk, sqO_ct, ifO_t, ifO_f, stO_s, endO_nx, endO_rt, andO_t, andO_f, orO_t, orO_f, chO_s, chP_t, chP_f, slO_s, atO_i, lcO_s, forO_s, gsO_s, nxO_s, tgO_s, paO_s, apO_s, exO_s, plO_s, ptO_s, dB_b, tru_b, tru_n, tru_i, tru_l, tru_t, is_n, isn_n, nn_n, nn_i, nn_b, nn_t, nn_l, add_ii, add'_ii, sub_ii, neg_i, lt_ii, le_ii, gt_ii, ge_ii, ix_l, ix_t, ix_s, at0, at1, at2, sl_l, sl_t, len_l, len_t, len_s, abs_i, int_i, int_b, max_ii, min_ii, tup_s, lst_s, seq_l, seq_t, sum_s, wipe_n, wipe_c, mul_ii, fdiv_ii, mod_ii, add_ll, add_tt, setAll, mkT, mkL, oNot, List.getD_cons_zero, List.getD_cons_succ, List.length_cons, List.length_nil, List.set_cons_zero, List.set_cons_succ, List.map_cons, List.map_nil, List.replicate, List.cons_append, List.nil_append, List.append_nil, Option.bind_some, Option.map_some, List.all_cons, List.all_nil, if_true, if_false, reduceIte, Nat.reduceAdd, Nat.reduceSub, Nat.reduceLT, Nat.reduceLeDiff, Nat.reduceEqDiff, decide_true, decide_false, Bool.and_true, Bool.and_self, Bool.true_and, Bool.not_true, Bool.not_false, ne_eq, not_true_eq_false, not_false_eq_true, Nat.zero_add, Bool.false_eq_true, and_self, true_and, and_true, ix_q, hA, hZ, h]
/-- the first hour by which a way is run -/
def hourP (L : List Sd) (a : Sd) (goal : Int) (k : Nat) : Bool := !decide (rb L a.1 k < (goal : Rat))
theorem hour_of_eq (bq : Bool) {L : List Sd} {a z : Sd} {Q : Int} (hL : LogOk L a z Q) {goal : Int} (hg : Sm 20 goal) : d_hour_of [sqD bq (L.map enc), .int goal] = some (foundD (fun k : Nat => PyData.int (a.1 + (k : Nat))) ((List.range (z.1 - a.1 + 1).toNat).find? (hourP L a goal))) := by
  have hz := hL.zle.2.1
  have hp0 := hL.pos
  have haz := hL.zle.2.2
  unfold Sm at hz
  have hr := oR2_list (i := a.1) (j := z.1 + 1) (by omega)
  rw [show z.1 + 1 - a.1 = z.1 - a.1 + 1 by omega] at hr
  have hA := hL.at0
  have hZ := hL.atL
  have key := forL_find (g := gSet 2) (b := l1_hour_of) (fun k : Nat => PyData.int (a.1 + (k : Nat))) (hourP L a goal) (fun ρ => ∃ j, ρ = [some (sqD bq (L.map enc)), some (.int goal), j]) (fun k : Nat => PyData.int (a.1 + (k : Nat))) (List.range (z.1 - a.1 + 1).toNat) (fun k hk ρ ⟨j, e'⟩ => by
    subst e'
    have hk' : k < (z.1 - a.1 + 1).toNat := by simpa using hk
    have h := run_between_eq bq hL (b := a.1) (e := a.1 + (k : Nat)) (by omega) (by omega) (by omega)
    rw [show (a.1 + (k : Nat) - a.1).toNat = k by omega] at h
    have q := is_less_rd ((hL.rb_sr (b := a.1) (by omega) (n := k) (by omega)).mono (k := 900) (by omega)) (SR.int (k := 900) (hg.mono (by omega)))
    refine ⟨[some (sqD bq (L.map enc)), some (.int goal), some (.int (a.1 + (k : Nat)))], rfl, fun hp => ?_, fun hp => ⟨[some (sqD bq (L.map enc)), some (.int goal), some (.int (a.1 + (k : Nat)))], ?_, _, rfl⟩⟩
    · have hz : ¬ rb L a.1 k < (goal : Rat) := by intro hz; simp [hourP, hz] at hp
      generalize L.map enc = M at *
      simp -implicitDefEqProofs only [l1_hour_of, xVar_a, xC_a, xBin_a, xUn_a, tOf_a, tTru_a, tNotP_a, tAndP_a, tOrP_a, tyes_a, tno_a, tYesP_a, xNil_a, xCons_a, xTup_a, xLst_a, xAnd_a, xOr_a, xIf_a, xChain_a, oNo_a, oAt_a, xSl_a, xCall_a, xSeq_a, xIt_a, xLc_a, gSet_a, gTupD_a, gsNil_a, gsCons_a, sNop_a, sBrk_a, sCnt_a, sSeq_a, sRet_a, sIf_a, sSet_a, sTgt_a, sAug_a, sApp_a, sExt_a, sPut_a, sPutK_a, pkO_s, sFor_a, sWhile_a, sPar_a, runD_a, b2_s, c2_s, sqO_nx, sqO_rt, sqO_bk, sqO_ct, ifO_t, ifO_f, stO_s, endO_nx, endO_rt, andO_t, andO_f, orO_t, orO_f, chO_s, chP_t, chP_f, slO_s, atO_i, lcO_s, forO_s, gsO_s, nxO_s, tgO_s, paO_s, apO_s, exO_s, plO_s, ptO_s, dB_b, tru_b, tru_n, tru_i, tru_l, tru_t, is_n, isn_n, nn_n, nn_i, nn_b, nn_t, nn_l, add_ii, add'_ii, sub_ii, neg_i, lt_ii, le_ii, gt_ii, ge_ii, ix_l, ix_t, ix_s, at0, at1, at2, sl_l, sl_t, len_l, len_t, len_s, abs_i, int_i, int_b, max_ii, min_ii, tup_s, lst_s, seq_l, seq_t, sum_s, wipe_n, wipe_c, mul_ii, fdiv_ii, mod_ii, add_ll, add_tt, setAll, mkT, mkL, oNot, List.getD_cons_zero, List.getD_cons_succ, List.length_cons, List.length_nil, List.set_cons_zero, List.set_cons_succ, List.map_cons, List.map_nil, List.replicate, List.cons_append, List.nil_append, List.append_nil, Option.bind_some, Option.map_some, List.all_cons, List.all_nil, if_true, if_false, reduceIte, Nat.reduceAdd, Nat.reduceSub, Nat.reduceLT, Nat.reduceLeDiff, Nat.reduceEqDiff, decide_true, decide_false, Bool.and_true, Bool.and_self, Bool.true_and, Bool.not_true, Bool.not_false, ne_eq, not_true_eq_false, not_false_eq_true, Nat.zero_add, Bool.false_eq_true, and_self, true_and, and_true, ix_q, hA, h, whole_rd, q, hz]
    · have hz : rb L a.1 k < (goal : Rat) := by simpa [hourP] using hp
      generalize L.map enc = M at *
      simp -implicitDefEqProofs only [l1_hour_of, xVar_a, xC_a, xBin_a, xUn_a, tOf_a, tTru_a, tNotP_a, tAndP_a, tOrP_a, tyes_a, tno_a, tYesP_a, xNil_a, xCons_a, xTup_a, xLst_a, xAnd_a, xOr_a, xIf_a, xChain_a, oNo_a, oAt_a, xSl_a, xCall_a, xSeq_a, xIt_a, xLc_a, gSet_a, gTupD_a, gsNil_a, gsCons_a, sNop_a, sBrk_a, sCnt_a, sSeq_a, sRet_a, sIf_a, sSet_a, sTgt_a, sAug_a, sApp_a, sExt_a, sPut_a, sPutK_a, pkO_s, sFor_a, sWhile_a, sPar_a, runD_a, b2_s, c2_s, sqO_nx, sqO_rt, sqO_bk, sqO_ct, ifO_t, ifO_f, stO_s, endO_nx, endO_rt, andO_t, andO_f, orO_t, orO_f, chO_s, chP_t, chP_f, slO_s, atO_i, lcO_s, forO_s, gsO_s, nxO_s, tgO_s, paO_s, apO_s, exO_s, plO_s, ptO_s, dB_b, tru_b, tru_n, tru_i, tru_l, tru_t, is_n, isn_n, nn_n, nn_i, nn_b, nn_t, nn_l, add_ii, add'_ii, sub_ii, neg_i, lt_ii, le_ii, gt_ii, ge_ii, ix_l, ix_t, ix_s, at0, at1, at2, sl_l, sl_t, len_l, len_t, len_s, abs_i, int_i, int_b, max_ii, min_ii, tup_s, lst_s, seq_l, seq_t, sum_s, wipe_n, wipe_c, mul_ii, fdiv_ii, mod_ii, add_ll, add_tt, setAll, mkT, mkL, oNot, List.getD_cons_zero, List.getD_cons_succ, List.length_cons, List.length_nil, List.set_cons_zero, List.set_cons_succ, List.map_cons, List.map_nil, List.replicate, List.cons_append, List.nil_append, List.append_nil, Option.bind_some, Option.map_some, List.all_cons, List.all_nil, if_true, if_false, reduceIte, Nat.reduceAdd, Nat.reduceSub, Nat.reduceLT, Nat.reduceLeDiff, Nat.reduceEqDiff, decide_true, decide_false, Bool.and_true, Bool.and_self, Bool.true_and, Bool.not_true, Bool.not_false, ne_eq, not_true_eq_false, not_false_eq_true, Nat.zero_add, Bool.false_eq_true, and_self, true_and, and_true, ix_q, hA, h, whole_rd, q, hz]) [some (sqD bq (L.map enc)), some (.int goal), none] ⟨none, rfl⟩
  rcases key with ⟨k, f1, f2⟩ | ⟨f1, ρ', f2, j, e'⟩
  · rw [f1]
    generalize L.map enc = M at *
    simp -implicitDefEqProofs only [d_hour_of, g_hour_of, xVar_a, xC_a, xBin_a, xUn_a, tOf_a, tTru_a, tNotP_a, tAndP_a, tOrP_a, tyes_a, tno_a, tYesP_a, xNil_a, xCons_a, xTup_a, xLst_a, xAnd_a, xOr_a, xIf_a, xChain_a, oNo_a, oAt_a, xSl_a, xCall_a, xSeq_a, xIt_a, xLc_a, gSet_a, gTupD_a, gsNil_a, gsCons_a, sNop_a, sBrk_a, sCnt_a, sSeq_a, sRet_a, sIf_a, sSet_a, sTgt_a, sAug_a, sApp_a, sExt_a, sPut_a, sPutK_a, pkO_s, sFor_a, sWhile_a, sPar_a, runD_a, b2_s, c2_s, sqO_nx, sqO_rt, sqO_bk, sqO_ct, ifO_t, ifO_f, stO_s, endO_nx, endO_rt, andO_t, andO_f, orO_t, orO_f, chO_s, chP_t, chP_f, slO_s, atO_i, lcO_s, forO_s, gsO_s, nxO_s, tgO_s, paO_s, apO_s, exO_s, plO_s, ptO_s, dB_b, tru_b, tru_n, tru_i, tru_l, tru_t, is_n, isn_n, nn_n, nn_i, nn_b, nn_t, nn_l, add_ii, add'_ii, sub_ii, neg_i, lt_ii, le_ii, gt_ii, ge_ii, ix_l, ix_t, ix_s, at0, at1, at2, sl_l, sl_t, len_l, len_t, len_s, abs_i, int_i, int_b, max_ii, min_ii, tup_s, lst_s, seq_l, seq_t, sum_s, wipe_n, wipe_c, mul_ii, fdiv_ii, mod_ii, add_ll, add_tt, setAll, mkT, mkL, oNot, List.getD_cons_zero, List.getD_cons_succ, List.length_cons, List.length_nil, List.set_cons_zero, List.set_cons_succ, List.map_cons, List.map_nil, List.replicate, List.cons_append, List.nil_append, List.append_nil, Option.bind_some, Option.map_some, List.all_cons, List.all_nil, if_true, if_false, reduceIte, Nat.reduceAdd, Nat.reduceSub, Nat.reduceLT, Nat.reduceLeDiff, Nat.reduceEqDiff, decide_true, decide_false, Bool.and_true, Bool.and_self, Bool.true_and, Bool.not_true, Bool.not_false, ne_eq, not_true_eq_false, not_false_eq_true, Nat.zero_add, Bool.false_eq_true, and_self, true_and, and_true, ix_q, hA, hZ, hr, f2, foundD]
  · subst e'
    rw [f1]
    generalize L.map enc = M at *
    simp -implicitDefEqProofs only [d_hour_of, g_hour_of, xVar_a, xC_a, xBin_a, xUn_a, tOf_a, tTru_a, tNotP_a, tAndP_a, tOrP_a, tyes_a, tno_a, tYesP_a, xNil_a, xCons_a, xTup_a, xLst_a, xAnd_a, xOr_a, xIf_a, xChain_a, oNo_a, oAt_a, xSl_a, xCall_a, xSeq_a, xIt_a, xLc_a, gSet_a, gTupD_a, gsNil_a, gsCons_a, sNop_a, sBrk_a, sCnt_a, sSeq_a, sRet_a, sIf_a, sSet_a, sTgt_a, sAug_a, sApp_a, sExt_a, sPut_a, sPutK_a, pkO_s, sFor_a, sWhile_a, sPar_a, runD_a, b2_s, c2_s, sqO_nx, sqO_rt, sqO_bk, sqO_ct, ifO_t, ifO_f, stO_s, endO_nx, endO_rt, andO_t, andO_f, orO_t, orO_f, chO_s, chP_t, chP_f, slO_s, atO_i, lcO_s, forO_s, gsO_s, nxO_s, tgO_s, paO_s, apO_s, exO_s, plO_s, ptO_s, dB_b, tru_b, tru_n, tru_i, tru_l, tru_t, is_n, isn_n, nn_n, nn_i, nn_b, nn_t, nn_l, add_ii, add'_ii, sub_ii, neg_i, lt_ii, le_ii, gt_ii, ge_ii, ix_l, ix_t, ix_s, at0, at1, at2, sl_l, sl_t, len_l, len_t, len_s, abs_i, int_i, int_b, max_ii, min_ii, tup_s, lst_s, seq_l, seq_t, sum_s, wipe_n, wipe_c, mul_ii, fdiv_ii, mod_ii, add_ll, add_tt, setAll, mkT, mkL, oNot, List.getD_cons_zero, List.getD_cons_succ, List.length_cons, List.length_nil, List.set_cons_zero, List.set_cons_succ, List.map_cons, List.map_nil, List.replicate, List.cons_append, List.nil_append, List.append_nil, Option.bind_some, Option.map_some, List.all_cons, List.all_nil, if_true, if_false, reduceIte, Nat.reduceAdd, Nat.reduceSub, Nat.reduceLT, Nat.reduceLeDiff, Nat.reduceEqDiff, decide_true, decide_false, Bool.and_true, Bool.and_self, Bool.true_and, Bool.not_true, Bool.not_false, ne_eq, not_true_eq_false, not_false_eq_true, Nat.zero_add, Bool.false_eq_true, and_self, true_and, and_true, ix_q, hA, hZ, hr, f2, foundD]
theorem mean_speed_eq (bq : Bool) {L : List Sd} {a z : Sd} {Q : Int} (hL : LogOk L a z Q) : d_mean_speed [sqD bq (L.map enc)] = some (if z.1 - a.1 = 0 then .none else rd (rb L a.1 (z.1 - a.1).toNat * ((1 : Rat) / ((z.1 - a.1 : Int) : Rat)))) := by
  have h := run_all_eq bq hL
  have hA := hL.at0
  have hZ := hL.atL
  have hz := hL.zle
  have hp0 := hL.pos
  by_cases h0 : z.1 - a.1 = 0
  · rw [if_pos h0]
    generalize L.map enc = M at *
    simp -implicitDefEqProofs only [d_mean_speed, g_mean_speed, xVar_a, xC_a, xBin_a, xUn_a, tOf_a, tTru_a, tNotP_a, tAndP_a, tOrP_a, tyes_a, tno_a, tYesP_a, xNil_a, xCons_a, xTup_a, xLst_a, xAnd_a, xOr_a, xIf_a, xChain_a, oNo_a, oAt_a, xSl_a, xCall_a, xSeq_a, xIt_a, xLc_a, gSet_a, gTupD_a, gsNil_a, gsCons_a, sNop_a, sBrk_a, sCnt_a, sSeq_a, sRet_a, sIf_a, sSet_a, sTgt_a, sAug_a, sApp_a, sExt_a, sPut_a, sPutK_a, pkO_s, sFor_a, sWhile_a, sPar_a, runD_a, b2_s, c2_s, sqO_nx, sqO_rt, sqO_bk, sqO_ct, ifO_t, ifO_f, stO_s, endO_nx, endO_rt, andO_t, andO_f, orO_t, orO_f, chO_s, chP_t, chP_f, slO_s, atO_i, lcO_s, forO_s, gsO_s, nxO_s, tgO_s, paO_s, apO_s, exO_s, plO_s, ptO_s, dB_b, tru_b, tru_n, tru_i, tru_l, tru_t, is_n, isn_n, nn_n, nn_i, nn_b, nn_t, nn_l, add_ii, add'_ii, sub_ii, neg_i, lt_ii, le_ii, gt_ii, ge_ii, ix_l, ix_t, ix_s, at0, at1, at2, sl_l, sl_t, len_l, len_t, len_s, abs_i, int_i, int_b, max_ii, min_ii, tup_s, lst_s, seq_l, seq_t, sum_s, wipe_n, wipe_c, mul_ii, fdiv_ii, mod_ii, add_ll, add_tt, setAll, mkT, mkL, oNot, List.getD_cons_zero, List.getD_cons_succ, List.length_cons, List.length_nil, List.set_cons_zero, List.set_cons_succ, List.map_cons, List.map_nil, List.replicate, List.cons_append, List.nil_append, List.append_nil, Option.bind_some, Option.map_some, List.all_cons, List.all_nil, if_true, if_false, reduceIte, Nat.reduceAdd, Nat.reduceSub, Nat.reduceLT, Nat.reduceLeDiff, Nat.reduceEqDiff, decide_true, decide_false, Bool.and_true, Bool.and_self, Bool.true_and, Bool.not_true, Bool.not_false, ne_eq, not_true_eq_false, not_false_eq_true, Nat.zero_add, Bool.false_eq_true, and_self, true_and, and_true, ix_q, hA, hZ, eq_int, h0]
  · rw [if_neg h0]
    have hw : 0 < z.1 - a.1 := by omega
    have sw : Sm 10 (z.1 - a.1) := hz.2.1.le (by omega)
    have q := lowest_rd 1 (z.1 - a.1) hw (sw.mono (by omega))
    have s1 : SR 10 (((1 : Int) : Rat) / ((z.1 - a.1 : Int) : Rat)) := SR.div Sm.lit sw hw
    rw [show ((1 : Int) : Rat) = 1 from rfl] at q s1
    have t := times_rd ((hL.rb_sr (b := a.1) (by omega) (n := (z.1 - a.1).toNat) (by omega)).mono (k := 900) (by omega)) (s1.mono (by omega))
    have e0 : decide (z.1 - a.1 = 0) = false := decide_eq_false h0
    generalize L.map enc = M at *
    simp -implicitDefEqProofs only [d_mean_speed, g_mean_speed, xVar_a, xC_a, xBin_a, xUn_a, tOf_a, tTru_a, tNotP_a, tAndP_a, tOrP_a, tyes_a, tno_a, tYesP_a, xNil_a, xCons_a, xTup_a, xLst_a, xAnd_a, xOr_a, xIf_a, xChain_a, oNo_a, oAt_a, xSl_a, xCall_a, xSeq_a, xIt_a, xLc_a, gSet_a, gTupD_a, gsNil_a, gsCons_a, sNop_a, sBrk_a, sCnt_a, sSeq_a, sRet_a, sIf_a, sSet_a, sTgt_a, sAug_a, sApp_a, sExt_a, sPut_a, sPutK_a, pkO_s, sFor_a, sWhile_a, sPar_a, runD_a, b2_s, c2_s, sqO_nx, sqO_rt, sqO_bk, sqO_ct, ifO_t, ifO_f, stO_s, endO_nx, endO_rt, andO_t, andO_f, orO_t, orO_f, chO_s, chP_t, chP_f, slO_s, atO_i, lcO_s, forO_s, gsO_s, nxO_s, tgO_s, paO_s, apO_s, exO_s, plO_s, ptO_s, dB_b, tru_b, tru_n, tru_i, tru_l, tru_t, is_n, isn_n, nn_n, nn_i, nn_b, nn_t, nn_l, add_ii, add'_ii, sub_ii, neg_i, lt_ii, le_ii, gt_ii, ge_ii, ix_l, ix_t, ix_s, at0, at1, at2, sl_l, sl_t, len_l, len_t, len_s, abs_i, int_i, int_b, max_ii, min_ii, tup_s, lst_s, seq_l, seq_t, sum_s, wipe_n, wipe_c, mul_ii, fdiv_ii, mod_ii, add_ll, add_tt, setAll, mkT, mkL, oNot, List.getD_cons_zero, List.getD_cons_succ, List.length_cons, List.length_nil, List.set_cons_zero, List.set_cons_succ, List.map_cons, List.map_nil, List.replicate, List.cons_append, List.nil_append, List.append_nil, Option.bind_some, Option.map_some, List.all_cons, List.all_nil, if_true, if_false, reduceIte, Nat.reduceAdd, Nat.reduceSub, Nat.reduceLT, Nat.reduceLeDiff, Nat.reduceEqDiff, decide_true, decide_false, Bool.and_true, Bool.and_self, Bool.true_and, Bool.not_true, Bool.not_false, ne_eq, not_true_eq_false, not_false_eq_true, Nat.zero_add, Bool.false_eq_true, and_self, true_and, and_true, ix_q, hA, hZ, eq_int, e0, h, q, flat_rd, t]
end K28

namespace K28
open PySem PySem.Spec PyProof.Rows L2 Pm
/-! the fastest hours -/
def ostep (o : Option (Rat × Int)) (x : Rat × Int) : Option (Rat × Int) := match o with
  | none => some x
  | some y => if y.1 < x.1 then some x else some y
def fastF (L : List Sd) (a : Sd) (len : Nat) (n : Nat) : Option (Rat × Int) := (List.range n).foldl (fun o k => ostep o (rb L (a.1 + (k : Nat)) len, a.1 + (k : Nat))) none
theorem fastF_succ (L : List Sd) (a : Sd) (len n : Nat) : fastF L a len (n + 1) = ostep (fastF L a len n) (rb L (a.1 + (n : Nat)) len, a.1 + (n : Nat)) := by
  unfold fastF
  rw [List.range_succ, List.foldl_append]
  rfl
def foundF (len : Nat) : Option (Rat × Int) → D
  | none => .none
  | some x => .tuple [.int x.2, .int (x.2 + (len : Nat))]
theorem fastF_mem {L : List Sd} {a : Sd} {len : Nat} : ∀ {n : Nat} {x : Rat × Int}, fastF L a len n = some x → ∃ k < n, x = (rb L (a.1 + (k : Nat)) len, a.1 + (k : Nat))
  | 0, x, h => by cases h
  | n + 1, x, h => by
    rw [fastF_succ] at h
    cases ho : fastF L a len n with
    | none =>
      rw [ho] at h
      cases h
      exact ⟨n, by omega, rfl⟩
    | some y =>
      rw [ho] at h
      simp only [ostep] at h
      split at h
      · cases h
        exact ⟨n, by omega, rfl⟩
      · cases h
        obtain ⟨k, hk, e⟩ := fastF_mem ho
        exact ⟨k, by omega, e⟩
theorem fastest_eq (bq : Bool) {L : List Sd} {a z : Sd} {Q : Int} (hL : LogOk L a z Q) {len : Nat} (hlen : len ≤ 100) : d_fastest [sqD bq (L.map enc), .int (len : Nat)] = some (foundF len (fastF L a len (z.1 - a.1 - (len : Nat) + 1).toNat)) := by
  have hz := hL.zle.2.1
  have hp0 := hL.pos
  have haz := hL.zle.2.2
  unfold Sm at hz
  have hr := oR2_list (i := a.1) (j := z.1 - (len : Nat) + 1) (by omega)
  rw [show z.1 - (len : Nat) + 1 - a.1 = z.1 - a.1 - (len : Nat) + 1 by omega] at hr
  have hA := hL.at0
  have hZ := hL.atL
  obtain ⟨ρ', e1, h⟩ := forL_inv (g := gSet 2) (b := l1_fastest) (fun k : Nat => PyData.int (a.1 + (k : Nat)))
    (fun pre rest ρ => pre ++ rest = List.range (z.1 - a.1 - (len : Nat) + 1).toNat ∧ ∃ j u, ρ = [some (sqD bq (L.map enc)), some (.int (len : Nat)), j, some (od ((fastF L a len pre.length).map Prod.fst)), some (foundF len (fastF L a len pre.length)), u]) (fun pre x rest ρ ⟨hp, j, u, e'⟩ => by
      subst e'
      obtain ⟨hx, hxn⟩ := rng_pre hp
      subst hx
      have h := run_between_eq bq hL (b := a.1 + (pre.length : Nat)) (e := a.1 + (pre.length : Nat) + (len : Nat)) (by omega) (by omega) (by omega)
      rw [show (a.1 + (pre.length : Nat) + (len : Nat) - (a.1 + (pre.length : Nat))).toNat = len by omega] at h
      have s1 := hL.rb_sr (b := a.1 + (pre.length : Nat)) (by omega) (n := len) (by omega)
      refine ⟨[some (sqD bq (L.map enc)), some (.int (len : Nat)), some (.int (a.1 + (pre.length : Nat))), some (od ((fastF L a len pre.length).map Prod.fst)), some (foundF len (fastF L a len pre.length)), u], [some (sqD bq (L.map enc)), some (.int (len : Nat)), some (.int (a.1 + (pre.length : Nat))), some (od ((fastF L a len (pre ++ [pre.length]).length).map Prod.fst)), some (foundF len (fastF L a len (pre ++ [pre.length]).length)), some (rd (rb L (a.1 + (pre.length : Nat)) len))], rfl, .inl ?_, by rw [List.append_assoc]; exact hp, _, _, rfl⟩
      rw [List.length_append, List.length_singleton, fastF_succ]
      cases ho : fastF L a len pre.length with
      | none =>
        generalize pre.length = n at *
        generalize L.map enc = M at *
        simp -implicitDefEqProofs only [l1_fastest, xVar_a, xC_a, xBin_a, xUn_a, tOf_a, tTru_a, tNotP_a, tAndP_a, tOrP_a, tyes_a, tno_a, tYesP_a, xNil_a, xCons_a, xTup_a, xLst_a, xAnd_a, xOr_a, xIf_a, xChain_a, oNo_a, oAt_a, xSl_a, xCall_a, xSeq_a, xIt_a, xLc_a, gSet_a, gTupD_a, gsNil_a, gsCons_a, sNop_a, sBrk_a, sCnt_a, sSeq_a, sRet_a, sIf_a, sSet_a, sTgt_a, sAug_a, sApp_a, sExt_a, sPut_a, sPutK_a, pkO_s, sFor_a, sWhile_a, sPar_a, runD_a, b2_s, c2_s, sqO_nx, sqO_rt, sqO_bk, sqO_ct, ifO_t, ifO_f, stO_s, endO_nx, endO_rt, andO_t, andO_f, orO_t, orO_f, chO_s, chP_t, chP_f, slO_s, atO_i, lcO_s, forO_s, gsO_s, nxO_s, tgO_s, paO_s, apO_s, exO_s, plO_s, ptO_s, dB_b, tru_b, tru_n, tru_i, tru_l, tru_t, is_n, isn_n, nn_n, nn_i, nn_b, nn_t, nn_l, add_ii, add'_ii, sub_ii, neg_i, lt_ii, le_ii, gt_ii, ge_ii, ix_l, ix_t, ix_s, at0, at1, at2, sl_l, sl_t, len_l, len_t, len_s, abs_i, int_i, int_b, max_ii, min_ii, tup_s, lst_s, seq_l, seq_t, sum_s, wipe_n, wipe_c, mul_ii, fdiv_ii, mod_ii, add_ll, add_tt, setAll, mkT, mkL, oNot, List.getD_cons_zero, List.getD_cons_succ, List.length_cons, List.length_nil, List.set_cons_zero, List.set_cons_succ, List.map_cons, List.map_nil, List.replicate, List.cons_append, List.nil_append, List.append_nil, Option.bind_some, Option.map_some, List.all_cons, List.all_nil, if_true, if_false, reduceIte, Nat.reduceAdd, Nat.reduceSub, Nat.reduceLT, Nat.reduceLeDiff, Nat.reduceEqDiff, decide_true, decide_false, Bool.and_true, Bool.and_self, Bool.true_and, Bool.not_true, Bool.not_false, ne_eq, not_true_eq_false, not_false_eq_true, Nat.zero_add, Bool.false_eq_true, and_self, true_and, and_true, h, od, ostep, foundF, Option.map_none]
      | some y =>
        obtain ⟨k, hk, ey⟩ := fastF_mem ho
        have s2 := hL.rb_sr (b := a.1 + (k : Nat)) (by omega) (n := len) (by omega)
        have q := is_less_rd (x := y.1) (y := rb L (a.1 + (pre.length : Nat)) len) (by rw [ey]; exact s2.mono (by omega)) (s1.mono (by omega))
        have e2 : ∀ w : Rat × Int, foundF len (some w) = .tuple [.int w.2, .int (w.2 + (len : Nat))] := fun _ => rfl
        generalize pre.length = n at *
        generalize L.map enc = M at *
        by_cases hc : y.1 < rb L (a.1 + (n : Nat)) len
        · simp -implicitDefEqProofs only [l1_fastest, xVar_a, xC_a, xBin_a, xUn_a, tOf_a, tTru_a, tNotP_a, tAndP_a, tOrP_a, tyes_a, tno_a, tYesP_a, xNil_a, xCons_a, xTup_a, xLst_a, xAnd_a, xOr_a, xIf_a, xChain_a, oNo_a, oAt_a, xSl_a, xCall_a, xSeq_a, xIt_a, xLc_a, gSet_a, gTupD_a, gsNil_a, gsCons_a, sNop_a, sBrk_a, sCnt_a, sSeq_a, sRet_a, sIf_a, sSet_a, sTgt_a, sAug_a, sApp_a, sExt_a, sPut_a, sPutK_a, pkO_s, sFor_a, sWhile_a, sPar_a, runD_a, b2_s, c2_s, sqO_nx, sqO_rt, sqO_bk, sqO_ct, ifO_t, ifO_f, stO_s, endO_nx, endO_rt, andO_t, andO_f, orO_t, orO_f, chO_s, chP_t, chP_f, slO_s, atO_i, lcO_s, forO_s, gsO_s, nxO_s, tgO_s, paO_s, apO_s, exO_s, plO_s, ptO_s, dB_b, tru_b, tru_n, tru_i, tru_l, tru_t, is_n, isn_n, nn_n, nn_i, nn_b, nn_t, nn_l, add_ii, add'_ii, sub_ii, neg_i, lt_ii, le_ii, gt_ii, ge_ii, ix_l, ix_t, ix_s, at0, at1, at2, sl_l, sl_t, len_l, len_t, len_s, abs_i, int_i, int_b, max_ii, min_ii, tup_s, lst_s, seq_l, seq_t, sum_s, wipe_n, wipe_c, mul_ii, fdiv_ii, mod_ii, add_ll, add_tt, setAll, mkT, mkL, oNot, List.getD_cons_zero, List.getD_cons_succ, List.length_cons, List.length_nil, List.set_cons_zero, List.set_cons_succ, List.map_cons, List.map_nil, List.replicate, List.cons_append, List.nil_append, List.append_nil, Option.bind_some, Option.map_some, List.all_cons, List.all_nil, if_true, if_false, reduceIte, Nat.reduceAdd, Nat.reduceSub, Nat.reduceLT, Nat.reduceLeDiff, Nat.reduceEqDiff, decide_true, decide_false, Bool.and_true, Bool.and_self, Bool.true_and, Bool.not_true, Bool.not_false, ne_eq, not_true_eq_false, not_false_eq_true, Nat.zero_add, Bool.false_eq_true, and_self, true_and, and_true, h, od_s, ostep, nn_rd, q, hc, e2]
        · simp -implicitDefEqProofs only [l1_fastest, xVar_a, xC_a, xBin_a, xUn_a, tOf_a, tTru_a, tNotP_a, tAndP_a, tOrP_a, tyes_a, tno_a, tYesP_a, xNil_a, xCons_a, xTup_a, xLst_a, xAnd_a, xOr_a, xIf_a, xChain_a, oNo_a, oAt_a, xSl_a, xCall_a, xSeq_a, xIt_a, xLc_a, gSet_a, gTupD_a, gsNil_a, gsCons_a, sNop_a, sBrk_a, sCnt_a, sSeq_a, sRet_a, sIf_a, sSet_a, sTgt_a, sAug_a, sApp_a, sExt_a, sPut_a, sPutK_a, pkO_s, sFor_a, sWhile_a, sPar_a, runD_a, b2_s, c2_s, sqO_nx, sqO_rt, sqO_bk, sqO_ct, ifO_t, ifO_f, stO_s, endO_nx, endO_rt, andO_t, andO_f, orO_t, orO_f, chO_s, chP_t, chP_f, slO_s, atO_i, lcO_s, forO_s, gsO_s, nxO_s, tgO_s, paO_s, apO_s, exO_s, plO_s, ptO_s, dB_b, tru_b, tru_n, tru_i, tru_l, tru_t, is_n, isn_n, nn_n, nn_i, nn_b, nn_t, nn_l, add_ii, add'_ii, sub_ii, neg_i, lt_ii, le_ii, gt_ii, ge_ii, ix_l, ix_t, ix_s, at0, at1, at2, sl_l, sl_t, len_l, len_t, len_s, abs_i, int_i, int_b, max_ii, min_ii, tup_s, lst_s, seq_l, seq_t, sum_s, wipe_n, wipe_c, mul_ii, fdiv_ii, mod_ii, add_ll, add_tt, setAll, mkT, mkL, oNot, List.getD_cons_zero, List.getD_cons_succ, List.length_cons, List.length_nil, List.set_cons_zero, List.set_cons_succ, List.map_cons, List.map_nil, List.replicate, List.cons_append, List.nil_append, List.append_nil, Option.bind_some, Option.map_some, List.all_cons, List.all_nil, if_true, if_false, reduceIte, Nat.reduceAdd, Nat.reduceSub, Nat.reduceLT, Nat.reduceLeDiff, Nat.reduceEqDiff, decide_true, decide_false, Bool.and_true, Bool.and_self, Bool.true_and, Bool.not_true, Bool.not_false, ne_eq, not_true_eq_false, not_false_eq_true, Nat.zero_add, Bool.false_eq_true, and_self, true_and, and_true, h, od_s, ostep, nn_rd, q, hc, e2]) (List.range (z.1 - a.1 - (len : Nat) + 1).toNat) [] [some (sqD bq (L.map enc)), some (.int (len : Nat)), none, some .none, some .none, none] ⟨rfl, none, none, rfl⟩
  obtain ⟨_, j, u, e'⟩ := h
  subst e'
  simp only [List.nil_append, List.length_range] at e1
  generalize L.map enc = M at *
  simp -implicitDefEqProofs only [d_fastest, g_fastest, xVar_a, xC_a, xBin_a, xUn_a, tOf_a, tTru_a, tNotP_a, tAndP_a, tOrP_a, tyes_a, tno_a, tYesP_a, xNil_a, xCons_a, xTup_a, xLst_a, xAnd_a, xOr_a, xIf_a, xChain_a, oNo_a, oAt_a, xSl_a, xCall_a, xSeq_a, xIt_a, xLc_a, gSet_a, gTupD_a, gsNil_a, gsCons_a, sNop_a, sBrk_a, sCnt_a, sSeq_a, sRet_a, sIf_a, sSet_a, sTgt_a, sAug_a, sApp_a, sExt_a, sPut_a, sPutK_a, pkO_s, sFor_a, sWhile_a, sPar_a, runD_a, b2_s, c2_s, sqO_nx, sqO_rt, sqO_bk, sqO_ct, ifO_t, ifO_f, stO_s, endO_nx, endO_rt, andO_t, andO_f, orO_t, orO_f, chO_s, chP_t, chP_f, slO_s, atO_i, lcO_s, forO_s, gsO_s, nxO_s, tgO_s, paO_s, apO_s, exO_s, plO_s, ptO_s, dB_b, tru_b, tru_n, tru_i, tru_l, tru_t, is_n, isn_n, nn_n, nn_i, nn_b, nn_t, nn_l, add_ii, add'_ii, sub_ii, neg_i, lt_ii, le_ii, gt_ii, ge_ii, ix_l, ix_t, ix_s, at0, at1, at2, sl_l, sl_t, len_l, len_t, len_s, abs_i, int_i, int_b, max_ii, min_ii, tup_s, lst_s, seq_l, seq_t, sum_s, wipe_n, wipe_c, mul_ii, fdiv_ii, mod_ii, add_ll, add_tt, setAll, mkT, mkL, oNot, List.getD_cons_zero, List.getD_cons_succ, List.length_cons, List.length_nil, List.set_cons_zero, List.set_cons_succ, List.map_cons, List.map_nil, List.replicate, List.cons_append, List.nil_append, List.append_nil, Option.bind_some, Option.map_some, List.all_cons, List.all_nil, if_true, if_false, reduceIte, Nat.reduceAdd, Nat.reduceSub, Nat.reduceLT, Nat.reduceLeDiff, Nat.reduceEqDiff, decide_true, decide_false, Bool.and_true, Bool.and_self, Bool.true_and, Bool.not_true, Bool.not_false, ne_eq, not_true_eq_false, not_false_eq_true, Nat.zero_add, Bool.false_eq_true, and_self, true_and, and_true, ix_q, hA, hZ, hr, e1]
/-! speeds wrong by so much -/
def shL (L : List Sd) (c : Int) : List Sd := L.map fun s => (s.1, s.2 + c)
theorem seg_shift (a b : Sd) (c h : Int) : seg ((a.1, a.2 + c), (b.1, b.2 + c)) h = seg (a, b) h + (c : Rat) := by
  unfold seg
  have : (b.2 + c - (a.2 + c) : Int) = b.2 - a.2 := by omega
  simp only [this]
  push_cast
  grind
theorem spd_shift (c : Int) (h : Int) : ∀ {L : List Sd}, L ≠ [] → spd (shL L c) h = spd L h + (c : Rat)
  | [], h => absurd rfl h
  | [a], _ => by
    show ((a.2 + c : Int) : Rat) = (a.2 : Rat) + c
    push_cast
    rfl
  | a :: b :: L, _ => by
    show (if h ≤ b.1 then seg ((a.1, a.2 + c), (b.1, b.2 + c)) h else spd (shL (b :: L) c) h) = (if h ≤ b.1 then seg (a, b) h else spd (b :: L) h) + c
    split
    · exact seg_shift a b c h
    · exact spd_shift c h (by simp)
theorem rb_shift {L : List Sd} (hn : L ≠ []) (c b : Int) : ∀ n : Nat, rb (shL L c) b n = rb L b n + ((c * (n : Nat) : Int) : Rat)
  | 0 => by
    show (0 : Rat) = 0 + ((c * 0 : Int) : Rat)
    rw [Int.mul_zero]
    exact (Rat.add_zero 0).symm
  | n + 1 => by
    rw [rb_succ, rb_succ, rb_shift hn c b n]
    unfold hv
    rw [spd_shift _ _ hn, spd_shift _ _ hn]
    push_cast
    grind
theorem segs_shift (c : Int) : ∀ L : List Sd, segs (shL L c) = (segs L).map fun p => ((p.1.1, p.1.2 + c), (p.2.1, p.2.2 + c))
  | [] => rfl
  | [a] => rfl
  | a :: b :: L => by
    rw [segs_cons, List.map_cons, ← segs_shift c (b :: L)]
    rfl
theorem LogOk.shift {L : List Sd} {a z : Sd} {Q : Int} (hL : LogOk L a z Q) {c : Int} (hs : ∀ s ∈ L, Sm 9 s.2) (hc : Sm 9 c) : LogOk (shL L c) (a.1, a.2 + c) (z.1, z.2 + c) Q where
  inc := by
    unfold shL Inc
    rw [List.pairwise_map]
    exact hL.inc
  hd := by unfold shL; rw [List.head?_map, hL.hd]; rfl
  lst := by unfold shL; rw [List.getLast?_map, hL.lst]; rfl
  ok := by
    intro s h
    obtain ⟨t, ht, rfl⟩ := List.mem_map.mp h
    exact ⟨(hL.ok t ht).1, (hs t ht).add hc⟩
  pos := hL.pos
  q0 := hL.q0
  qs := hL.qs
  gap := by
    intro p hp
    rw [segs_shift] at hp
    obtain ⟨q, hq, rfl⟩ := List.mem_map.mp hp
    exact hL.gap q hq
  len := by unfold shL; rw [List.length_map]; exact hL.len
theorem run_bounds_eq {L : List Sd} {a z : Sd} {Q e : Int} (hL : LogOk L a z Q) (hs : ∀ s ∈ L, Sm 9 s.2) (he : Sm 9 e) : d_run_bounds [.tuple (L.map enc), .int e] = some (.tuple [rd (rb L a.1 (z.1 - a.1).toNat + ((-e * ((z.1 - a.1).toNat : Nat) : Int) : Rat)), rd (rb L a.1 (z.1 - a.1).toNat + ((e * ((z.1 - a.1).toNat : Nat) : Int) : Rat))]) := by
  have hn : L ≠ [] := by intro h; have := hL.hd; rw [h] at this; cases this
  have h1 := run_all_eq true (hL.shift hs he.neg)
  have h2 := run_all_eq true (hL.shift hs he)
  rw [rb_shift hn] at h1 h2
  have l1 : ∀ ρ : PEnv, ρ.length = 5 → ρ.getD 1 none = some (.int e) → lcL (gTupD 2 (gsCons (gSet 3) (gsCons (gSet 4) gsNil))) tYesP (xTup (xCons (xVar 3) (xCons (xBin oSub (xVar 4) (xVar 1)) xNil))) ρ (L.map enc) = some ((shL L (-e)).map enc) := fun ρ hl h0 => by
    match ρ, hl with
    | [x, y, u, v, w], _ =>
      simp only [List.getD_cons_succ, List.getD_cons_zero] at h0
      subst h0
      unfold shL
      rw [List.map_map]
      refine lcL_map _ _ _ fun s hs => ?_
      have : s.2 + -e = s.2 - e := by omega
      simp -implicitDefEqProofs only [enc, Function.comp, xVar_a, xC_a, xBin_a, xUn_a, tOf_a, tTru_a, tNotP_a, tAndP_a, tOrP_a, tyes_a, tno_a, tYesP_a, xNil_a, xCons_a, xTup_a, xLst_a, xAnd_a, xOr_a, xIf_a, xChain_a, oNo_a, oAt_a, xSl_a, xCall_a, xSeq_a, xIt_a, xLc_a, gSet_a, gTupD_a, gsNil_a, gsCons_a, sNop_a, sBrk_a, sCnt_a, sSeq_a, sRet_a, sIf_a, sSet_a, sTgt_a, sAug_a, sApp_a, sExt_a, sPut_a, sPutK_a, pkO_s, sFor_a, sWhile_a, sPar_a, runD_a, b2_s, c2_s, sqO_nx, sqO_rt, sqO_bk, sqO_ct, ifO_t, ifO_f, stO_s, endO_nx, endO_rt, andO_t, andO_f, orO_t, orO_f, chO_s, chP_t, chP_f, slO_s, atO_i, lcO_s, forO_s, gsO_s, nxO_s, tgO_s, paO_s, apO_s, exO_s, plO_s, ptO_s, dB_b, tru_b, tru_n, tru_i, tru_l, tru_t, is_n, isn_n, nn_n, nn_i, nn_b, nn_t, nn_l, add_ii, add'_ii, sub_ii, neg_i, lt_ii, le_ii, gt_ii, ge_ii, ix_l, ix_t, ix_s, at0, at1, at2, sl_l, sl_t, len_l, len_t, len_s, abs_i, int_i, int_b, max_ii, min_ii, tup_s, lst_s, seq_l, seq_t, sum_s, wipe_n, wipe_c, mul_ii, fdiv_ii, mod_ii, add_ll, add_tt, setAll, mkT, mkL, oNot, List.getD_cons_zero, List.getD_cons_succ, List.length_cons, List.length_nil, List.set_cons_zero, List.set_cons_succ, List.map_cons, List.map_nil, List.replicate, List.cons_append, List.nil_append, List.append_nil, Option.bind_some, Option.map_some, List.all_cons, List.all_nil, if_true, if_false, reduceIte, Nat.reduceAdd, Nat.reduceSub, Nat.reduceLT, Nat.reduceLeDiff, Nat.reduceEqDiff, decide_true, decide_false, Bool.and_true, Bool.and_self, Bool.true_and, Bool.not_true, Bool.not_false, ne_eq, not_true_eq_false, not_false_eq_true, Nat.zero_add, Bool.false_eq_true, and_self, true_and, and_true, this]
  have l2 : ∀ ρ : PEnv, ρ.length = 5 → ρ.getD 1 none = some (.int e) → lcL (gTupD 2 (gsCons (gSet 3) (gsCons (gSet 4) gsNil))) tYesP (xTup (xCons (xVar 3) (xCons (xBin oAdd (xVar 4) (xVar 1)) xNil))) ρ (L.map enc) = some ((shL L e).map enc) := fun ρ hl h0 => by
    match ρ, hl with
    | [x, y, u, v, w], _ =>
      simp only [List.getD_cons_succ, List.getD_cons_zero] at h0
      subst h0
      unfold shL
      rw [List.map_map]
      refine lcL_map _ _ _ fun s hs => ?_
      simp -implicitDefEqProofs only [enc, Function.comp, xVar_a, xC_a, xBin_a, xUn_a, tOf_a, tTru_a, tNotP_a, tAndP_a, tOrP_a, tyes_a, tno_a, tYesP_a, xNil_a, xCons_a, xTup_a, xLst_a, xAnd_a, xOr_a, xIf_a, xChain_a, oNo_a, oAt_a, xSl_a, xCall_a, xSeq_a, xIt_a, xLc_a, gSet_a, gTupD_a, gsNil_a, gsCons_a, sNop_a, sBrk_a, sCnt_a, sSeq_a, sRet_a, sIf_a, sSet_a, sTgt_a, sAug_a, sApp_a, sExt_a, sPut_a, sPutK_a, pkO_s, sFor_a, sWhile_a, sPar_a, runD_a, b2_s, c2_s, sqO_nx, sqO_rt, sqO_bk, sqO_ct, ifO_t, ifO_f, stO_s, endO_nx, endO_rt, andO_t, andO_f, orO_t, orO_f, chO_s, chP_t, chP_f, slO_s, atO_i, lcO_s, forO_s, gsO_s, nxO_s, tgO_s, paO_s, apO_s, exO_s, plO_s, ptO_s, dB_b, tru_b, tru_n, tru_i, tru_l, tru_t, is_n, isn_n, nn_n, nn_i, nn_b, nn_t, nn_l, add_ii, add'_ii, sub_ii, neg_i, lt_ii, le_ii, gt_ii, ge_ii, ix_l, ix_t, ix_s, at0, at1, at2, sl_l, sl_t, len_l, len_t, len_s, abs_i, int_i, int_b, max_ii, min_ii, tup_s, lst_s, seq_l, seq_t, sum_s, wipe_n, wipe_c, mul_ii, fdiv_ii, mod_ii, add_ll, add_tt, setAll, mkT, mkL, oNot, List.getD_cons_zero, List.getD_cons_succ, List.length_cons, List.length_nil, List.set_cons_zero, List.set_cons_succ, List.map_cons, List.map_nil, List.replicate, List.cons_append, List.nil_append, List.append_nil, Option.bind_some, Option.map_some, List.all_cons, List.all_nil, if_true, if_false, reduceIte, Nat.reduceAdd, Nat.reduceSub, Nat.reduceLT, Nat.reduceLeDiff, Nat.reduceEqDiff, decide_true, decide_false, Bool.and_true, Bool.and_self, Bool.true_and, Bool.not_true, Bool.not_false, ne_eq, not_true_eq_false, not_false_eq_true, Nat.zero_add, Bool.false_eq_true, and_self, true_and, and_true]
  unfold sqD at h1 h2
  simp only [if_true] at h1 h2
  generalize L.map enc = M at *
  simp -implicitDefEqProofs only [d_run_bounds, g_run_bounds, xVar_a, xC_a, xBin_a, xUn_a, tOf_a, tTru_a, tNotP_a, tAndP_a, tOrP_a, tyes_a, tno_a, tYesP_a, xNil_a, xCons_a, xTup_a, xLst_a, xAnd_a, xOr_a, xIf_a, xChain_a, oNo_a, oAt_a, xSl_a, xCall_a, xSeq_a, xIt_a, xLc_a, gSet_a, gTupD_a, gsNil_a, gsCons_a, sNop_a, sBrk_a, sCnt_a, sSeq_a, sRet_a, sIf_a, sSet_a, sTgt_a, sAug_a, sApp_a, sExt_a, sPut_a, sPutK_a, pkO_s, sFor_a, sWhile_a, sPar_a, runD_a, b2_s, c2_s, sqO_nx, sqO_rt, sqO_bk, sqO_ct, ifO_t, ifO_f, stO_s, endO_nx, endO_rt, andO_t, andO_f, orO_t, orO_f, chO_s, chP_t, chP_f, slO_s, atO_i, lcO_s, forO_s, gsO_s, nxO_s, tgO_s, paO_s, apO_s, exO_s, plO_s, ptO_s, dB_b, tru_b, tru_n, tru_i, tru_l, tru_t, is_n, isn_n, nn_n, nn_i, nn_b, nn_t, nn_l, add_ii, add'_ii, sub_ii, neg_i, lt_ii, le_ii, gt_ii, ge_ii, ix_l, ix_t, ix_s, at0, at1, at2, sl_l, sl_t, len_l, len_t, len_s, abs_i, int_i, int_b, max_ii, min_ii, tup_s, lst_s, seq_l, seq_t, sum_s, wipe_n, wipe_c, mul_ii, fdiv_ii, mod_ii, add_ll, add_tt, setAll, mkT, mkL, oNot, List.getD_cons_zero, List.getD_cons_succ, List.length_cons, List.length_nil, List.set_cons_zero, List.set_cons_succ, List.map_cons, List.map_nil, List.replicate, List.cons_append, List.nil_append, List.append_nil, Option.bind_some, Option.map_some, List.all_cons, List.all_nil, if_true, if_false, reduceIte, Nat.reduceAdd, Nat.reduceSub, Nat.reduceLT, Nat.reduceLeDiff, Nat.reduceEqDiff, decide_true, decide_false, Bool.and_true, Bool.and_self, Bool.true_and, Bool.not_true, Bool.not_false, ne_eq, not_true_eq_false, not_false_eq_true, Nat.zero_add, Bool.false_eq_true, and_self, true_and, and_true, l1, l2, h1, h2]
/-! the law's sums -/
theorem law_sum_eq (bq : Bool) (xs : List Rat) (hx : ∀ x ∈ xs, SR 100 x) (hl : xs.length ≤ 15) : d__law_sum [sqD bq (xs.map rd)] = some (rd (rs xs)) := by
  have hq : seqD (sqD bq (xs.map rd)) = some (xs.map rd) := by cases bq <;> rfl
  obtain ⟨ρ', e1, h⟩ := forL_inv (g := gTupD 2 (gsCons (gSet 3) (gsCons (gSet 4) gsNil))) (b := l1__law_sum) rd
    (fun pre rest ρ => pre ++ rest = xs ∧ ∃ t u j k, 0 < u ∧ Sm (101 * pre.length + 10) t ∧ Sm (101 * pre.length + 10) u ∧ (t : Rat) / (u : Rat) = rs pre ∧ ρ = [some (sqD bq (xs.map rd)), some (.int t), some (.int u), j, k]) (fun pre x rest ρ ⟨hp, t, u, j, k, hu, st, su, ev, e'⟩ => by
      subst e'
      have hxx := hx x (by rw [← hp]; simp)
      have hlen : pre.length + (rest.length + 1) ≤ 15 := by
        have : pre.length + (rest.length + 1) = xs.length := by rw [← hp]; simp
        omega
      have hd := den_pos x
      have m1 := st.mulOk hxx.2 (by omega) (by omega)
      have m2 := hxx.1.mulOk su (by omega) (by omega)
      have m3 := su.mulOk hxx.2 (by omega) (by omega)
      refine ⟨[some (sqD bq (xs.map rd)), some (.int t), some (.int u), some (.int x.num), some (.int x.den)], [some (sqD bq (xs.map rd)), some (.int (t * x.den + x.num * u)), some (.int (u * x.den)), some (.int x.num), some (.int x.den)], rfl, .inl ?_, by rw [List.append_assoc]; exact hp, t * x.den + x.num * u, u * x.den, _, _, Int.mul_pos hu hd, ?_, ?_, ?_, rfl⟩
      · generalize xs.map rd = M at *
        simp -implicitDefEqProofs only [l1__law_sum, xVar_a, xC_a, xBin_a, xUn_a, tOf_a, tTru_a, tNotP_a, tAndP_a, tOrP_a, tyes_a, tno_a, tYesP_a, xNil_a, xCons_a, xTup_a, xLst_a, xAnd_a, xOr_a, xIf_a, xChain_a, oNo_a, oAt_a, xSl_a, xCall_a, xSeq_a, xIt_a, xLc_a, gSet_a, gTupD_a, gsNil_a, gsCons_a, sNop_a, sBrk_a, sCnt_a, sSeq_a, sRet_a, sIf_a, sSet_a, sTgt_a, sAug_a, sApp_a, sExt_a, sPut_a, sPutK_a, pkO_s, sFor_a, sWhile_a, sPar_a, runD_a, b2_s, c2_s, sqO_nx, sqO_rt, sqO_bk, sqO_ct, ifO_t, ifO_f, stO_s, endO_nx, endO_rt, andO_t, andO_f, orO_t, orO_f, chO_s, chP_t, chP_f, slO_s, atO_i, lcO_s, forO_s, gsO_s, nxO_s, tgO_s, paO_s, apO_s, exO_s, plO_s, ptO_s, dB_b, tru_b, tru_n, tru_i, tru_l, tru_t, is_n, isn_n, nn_n, nn_i, nn_b, nn_t, nn_l, add_ii, add'_ii, sub_ii, neg_i, lt_ii, le_ii, gt_ii, ge_ii, ix_l, ix_t, ix_s, at0, at1, at2, sl_l, sl_t, len_l, len_t, len_s, abs_i, int_i, int_b, max_ii, min_ii, tup_s, lst_s, seq_l, seq_t, sum_s, wipe_n, wipe_c, mul_ii, fdiv_ii, mod_ii, add_ll, add_tt, setAll, mkT, mkL, oNot, List.getD_cons_zero, List.getD_cons_succ, List.length_cons, List.length_nil, List.set_cons_zero, List.set_cons_succ, List.map_cons, List.map_nil, List.replicate, List.cons_append, List.nil_append, List.append_nil, Option.bind_some, Option.map_some, List.all_cons, List.all_nil, if_true, if_false, reduceIte, Nat.reduceAdd, Nat.reduceSub, Nat.reduceLT, Nat.reduceLeDiff, Nat.reduceEqDiff, decide_true, decide_false, Bool.and_true, Bool.and_self, Bool.true_and, Bool.not_true, Bool.not_false, ne_eq, not_true_eq_false, not_false_eq_true, Nat.zero_add, Bool.false_eq_true, and_self, true_and, and_true, m1, m2, m3]
      · rw [List.length_append, List.length_singleton]
        exact (((st.mul hxx.2).mono (k := 101 * pre.length + 110) (by omega)).add ((hxx.1.mul su).mono (by omega))).mono (by omega)
      · rw [List.length_append, List.length_singleton]
        exact (su.mul hxx.2).mono (by omega)
      · rw [rs_app, ← ev]
        show _ = (t : Rat) / u + (x + 0)
        conv => rhs; rw [rat_eq x]
        rw [← qadd hu hd]
        grind) xs [] [some (sqD bq (xs.map rd)), some (.int 0), some (.int 1), none, none] ⟨rfl, 0, 1, none, none, by decide, Sm.zero, Sm.lit, by decide +kernel, rfl⟩
  obtain ⟨_, t, u, j, k, hu, st, su, ev, e'⟩ := h
  subst e'
  have w := ratio_rd t u hu (su.mono (by simp; omega))
  rw [ev] at w
  simp only [List.nil_append] at w e1
  generalize xs.map rd = M at *
  simp -implicitDefEqProofs only [d__law_sum, g__law_sum, xVar_a, xC_a, xBin_a, xUn_a, tOf_a, tTru_a, tNotP_a, tAndP_a, tOrP_a, tyes_a, tno_a, tYesP_a, xNil_a, xCons_a, xTup_a, xLst_a, xAnd_a, xOr_a, xIf_a, xChain_a, oNo_a, oAt_a, xSl_a, xCall_a, xSeq_a, xIt_a, xLc_a, gSet_a, gTupD_a, gsNil_a, gsCons_a, sNop_a, sBrk_a, sCnt_a, sSeq_a, sRet_a, sIf_a, sSet_a, sTgt_a, sAug_a, sApp_a, sExt_a, sPut_a, sPutK_a, pkO_s, sFor_a, sWhile_a, sPar_a, runD_a, b2_s, c2_s, sqO_nx, sqO_rt, sqO_bk, sqO_ct, ifO_t, ifO_f, stO_s, endO_nx, endO_rt, andO_t, andO_f, orO_t, orO_f, chO_s, chP_t, chP_f, slO_s, atO_i, lcO_s, forO_s, gsO_s, nxO_s, tgO_s, paO_s, apO_s, exO_s, plO_s, ptO_s, dB_b, tru_b, tru_n, tru_i, tru_l, tru_t, is_n, isn_n, nn_n, nn_i, nn_b, nn_t, nn_l, add_ii, add'_ii, sub_ii, neg_i, lt_ii, le_ii, gt_ii, ge_ii, ix_l, ix_t, ix_s, at0, at1, at2, sl_l, sl_t, len_l, len_t, len_s, abs_i, int_i, int_b, max_ii, min_ii, tup_s, lst_s, seq_l, seq_t, sum_s, wipe_n, wipe_c, mul_ii, fdiv_ii, mod_ii, add_ll, add_tt, setAll, mkT, mkL, oNot, List.getD_cons_zero, List.getD_cons_succ, List.length_cons, List.length_nil, List.set_cons_zero, List.set_cons_succ, List.map_cons, List.map_nil, List.replicate, List.cons_append, List.nil_append, List.append_nil, Option.bind_some, Option.map_some, List.all_cons, List.all_nil, if_true, if_false, reduceIte, Nat.reduceAdd, Nat.reduceSub, Nat.reduceLT, Nat.reduceLeDiff, Nat.reduceEqDiff, decide_true, decide_false, Bool.and_true, Bool.and_self, Bool.true_and, Bool.not_true, Bool.not_false, ne_eq, not_true_eq_false, not_false_eq_true, Nat.zero_add, Bool.false_eq_true, and_self, true_and, and_true, hq, e1, w]
end K28

namespace K28
open PySem PySem.Spec PyProof.Rows L2 Pm
theorem segs_len (L : List Sd) : (segs L).length = L.length - 1 := by
  unfold segs
  rw [List.length_zip, List.length_drop]
  omega
theorem segs_get {L : List Sd} {q : (Sd × Sd) × Nat} (h : q ∈ (segs L).zipIdx) : L[q.2]? = some q.1.1 ∧ L[q.2 + 1]? = some q.1.2 := by
  have h1 := List.mem_zipIdx_iff_getElem?.mp h
  unfold segs at h1
  have h2 := List.getElem?_zip_eq_some.mp h1
  rw [List.getElem?_drop, Nat.add_comm 1] at h2
  exact h2
theorem LogOk.atE {L : List Sd} {a z : Sd} {Q : Int} (h : LogOk L a z Q) : atI (L.map enc) ((L.length : Int) - 1) = some (.tuple [.int z.1, .int z.2]) := by
  have hz := h.lst
  have hn : L ≠ [] := by intro h; rw [h] at hz; cases hz
  have hl : 0 < L.length := List.length_pos_iff.mpr hn
  rw [List.getLast?_eq_getElem?] at hz
  have := atI_enc hz
  rw [show ((L.length - 1 : Nat) : Int) = (L.length : Int) - 1 by omega] at this
  exact this
theorem Okf.of_sm {k : Nat} {a : Int × Int} (h0 : 0 < a.2) (h1 : Sm k a.1) (h2 : Sm k a.2) (hk : k ≤ 100) : Okf a := ⟨h0, h1.mono hk, h2.mono hk⟩
def segp (p : Sd × Sd) (h : Int) : Int × Int := (p.1.2 * (p.2.1 - p.1.1) + (p.2.2 - p.1.2) * (h - p.1.1), p.2.1 - p.1.1)
theorem pv_segp {p : Sd × Sd} (hlt : p.1.1 < p.2.1) (h : Int) : pv (segp p h) = seg p h := by
  have hw : ((p.2.1 - p.1.1 : Int) : Rat) ≠ 0 := by have := cast_pos (show 0 < p.2.1 - p.1.1 by omega); grind
  unfold pv segp seg
  push_cast at *
  grind
theorem speeds_step {L : List Sd} {a z : Sd} {Q : Int} (hL : LogOk L a z Q) {h : Int} (h1 : a.1 ≤ h) (h2 : h ≤ z.1) (x1 x4 x5 : Option D) :
    ∃ x j k, Okf x ∧ pv x = spd L h ∧ forL (gSet 4) l1__law_speeds ((segs L).zipIdx.map fun q => PyData.int (q.2 : Nat)) [some (.tuple (L.map enc)), x1, some (.int h), some (tp (a.2, 1)), x4, x5] = some (.nx [some (.tuple (L.map enc)), x1, some (.int h), some (tp x), j, k]) := by
  obtain ⟨T, eT⟩ := head_get hL.hd
  have ha := hL.ok a (by rw [eT]; simp)
  obtain ⟨ρ', e1, h⟩ := forL_inv (g := gSet 4) (b := l1__law_speeds) (fun q : (Sd × Sd) × Nat => PyData.int (q.2 : Nat))
    (fun pre rest ρ => pre ++ rest = (segs L).zipIdx ∧ ∃ x j k, Okf x ∧ ((∀ q ∈ pre, ¬ (q.1.1.1 ≤ h ∧ h ≤ q.1.2.1)) ∧ x = (a.2, 1) ∨ pv x = spd L h) ∧ ρ = [some (.tuple (L.map enc)), x1, some (.int h), some (tp x), j, k]) (fun pre q rest ρ ⟨hp, x, j, k, ox, hx, e'⟩ => by
      subst e'
      have hq : q ∈ (segs L).zipIdx := by rw [← hp]; simp
      obtain ⟨g1, g2⟩ := segs_get hq
      have i1 := atI_enc g1
      have i2 : atI (L.map enc) ((q.2 : Nat) + 1 : Int) = some (enc q.1.2) := atI_enc g2
      have hqs : q.1 ∈ segs L := by
        have := List.mem_zipIdx_iff_getElem?.mp hq
        exact List.mem_of_getElem? this
      have ok := okp_seg hL.inc hL.ok hqs
      have sw := okp_way ok
      by_cases hin : q.1.1.1 ≤ h ∧ h ≤ q.1.2.1
      · have s3 : Sm 11 (h - q.1.1.1) := sw.le (by have := ok.1; omega)
        have k1 : mulOk q.1.1.2 (q.1.2.1 - q.1.1.1) = true := ok.2.2.1.mulOk sw (by omega) (by omega)
        have k2 : mulOk (q.1.2.2 - q.1.1.2) (h - q.1.1.1) = true := (okp_rise ok).mulOk s3 (by omega) (by omega)
        have osg : Okf (segp q.1 h) := Okf.of_sm (k := 30) (by show 0 < q.1.2.1 - q.1.1.1; have := ok.1; omega) (((ok.2.2.1.mul sw).mono (k := 29) (by omega)).add (((okp_rise ok).mul s3).mono (k := 29) (by omega))) (sw.mono (by omega)) (by omega)
        refine ⟨[some (.tuple (L.map enc)), x1, some (.int h), some (tp x), some (.int q.2), k], [some (.tuple (L.map enc)), x1, some (.int h), some (tp (segp q.1 h)), some (.int q.2), some (.int (q.1.2.1 - q.1.1.1))], rfl, .inl ?_, by rw [List.append_assoc]; exact hp, segp q.1 h, _, _, osg, .inr ?_, rfl⟩
        · generalize L.map enc = M at *
          unfold enc at i1 i2
          simp -implicitDefEqProofs only [l1__law_speeds, xVar_a, xC_a, xBin_a, xUn_a, tOf_a, tTru_a, tNotP_a, tAndP_a, tOrP_a, tyes_a, tno_a, tYesP_a, xNil_a, xCons_a, xTup_a, xLst_a, xAnd_a, xOr_a, xIf_a, xChain_a, oNo_a, oAt_a, xSl_a, xCall_a, xSeq_a, xIt_a, xLc_a, gSet_a, gTupD_a, gsNil_a, gsCons_a, sNop_a, sBrk_a, sCnt_a, sSeq_a, sRet_a, sIf_a, sSet_a, sTgt_a, sAug_a, sApp_a, sExt_a, sPut_a, sPutK_a, pkO_s, sFor_a, sWhile_a, sPar_a, runD_a, b2_s, c2_s, sqO_nx, sqO_rt, sqO_bk, sqO_ct, ifO_t, ifO_f, stO_s, endO_nx, endO_rt, andO_t, andO_f, orO_t, orO_f, chO_s, chP_t, chP_f, slO_s, atO_i, lcO_s, forO_s, gsO_s, nxO_s, tgO_s, paO_s, apO_s, exO_s, plO_s, ptO_s, dB_b, tru_b, tru_n, tru_i, tru_l, tru_t, is_n, isn_n, nn_n, nn_i, nn_b, nn_t, nn_l, add_ii, add'_ii, sub_ii, neg_i, lt_ii, le_ii, gt_ii, ge_ii, ix_l, ix_t, ix_s, at0, at1, at2, sl_l, sl_t, len_l, len_t, len_s, abs_i, int_i, int_b, max_ii, min_ii, tup_s, lst_s, seq_l, seq_t, sum_s, wipe_n, wipe_c, mul_ii, fdiv_ii, mod_ii, add_ll, add_tt, setAll, mkT, mkL, oNot, List.getD_cons_zero, List.getD_cons_succ, List.length_cons, List.length_nil, List.set_cons_zero, List.set_cons_succ, List.map_cons, List.map_nil, List.replicate, List.cons_append, List.nil_append, List.append_nil, Option.bind_some, Option.map_some, List.all_cons, List.all_nil, if_true, if_false, reduceIte, Nat.reduceAdd, Nat.reduceSub, Nat.reduceLT, Nat.reduceLeDiff, Nat.reduceEqDiff, decide_true, decide_false, Bool.and_true, Bool.and_self, Bool.true_and, Bool.not_true, Bool.not_false, ne_eq, not_true_eq_false, not_false_eq_true, Nat.zero_add, Bool.false_eq_true, and_self, true_and, and_true, i1, i2, hin.1, hin.2, k1, k2, segp, tp]
        · rw [pv_segp ok.1]
          exact seg_spd hL.inc hqs hin.1 hin.2
      · refine ⟨[some (.tuple (L.map enc)), x1, some (.int h), some (tp x), some (.int q.2), k], [some (.tuple (L.map enc)), x1, some (.int h), some (tp x), some (.int q.2), some (.int (q.1.2.1 - q.1.1.1))], rfl, .inl ?_, by rw [List.append_assoc]; exact hp, x, _, _, ox, ?_, rfl⟩
        · generalize L.map enc = M at *
          unfold enc at i1 i2
          by_cases hz1 : q.1.1.1 ≤ h
          · have hz2 : ¬ h ≤ q.1.2.1 := fun h => hin ⟨hz1, h⟩
            simp -implicitDefEqProofs only [l1__law_speeds, xVar_a, xC_a, xBin_a, xUn_a, tOf_a, tTru_a, tNotP_a, tAndP_a, tOrP_a, tyes_a, tno_a, tYesP_a, xNil_a, xCons_a, xTup_a, xLst_a, xAnd_a, xOr_a, xIf_a, xChain_a, oNo_a, oAt_a, xSl_a, xCall_a, xSeq_a, xIt_a, xLc_a, gSet_a, gTupD_a, gsNil_a, gsCons_a, sNop_a, sBrk_a, sCnt_a, sSeq_a, sRet_a, sIf_a, sSet_a, sTgt_a, sAug_a, sApp_a, sExt_a, sPut_a, sPutK_a, pkO_s, sFor_a, sWhile_a, sPar_a, runD_a, b2_s, c2_s, sqO_nx, sqO_rt, sqO_bk, sqO_ct, ifO_t, ifO_f, stO_s, endO_nx, endO_rt, andO_t, andO_f, orO_t, orO_f, chO_s, chP_t, chP_f, slO_s, atO_i, lcO_s, forO_s, gsO_s, nxO_s, tgO_s, paO_s, apO_s, exO_s, plO_s, ptO_s, dB_b, tru_b, tru_n, tru_i, tru_l, tru_t, is_n, isn_n, nn_n, nn_i, nn_b, nn_t, nn_l, add_ii, add'_ii, sub_ii, neg_i, lt_ii, le_ii, gt_ii, ge_ii, ix_l, ix_t, ix_s, at0, at1, at2, sl_l, sl_t, len_l, len_t, len_s, abs_i, int_i, int_b, max_ii, min_ii, tup_s, lst_s, seq_l, seq_t, sum_s, wipe_n, wipe_c, mul_ii, fdiv_ii, mod_ii, add_ll, add_tt, setAll, mkT, mkL, oNot, List.getD_cons_zero, List.getD_cons_succ, List.length_cons, List.length_nil, List.set_cons_zero, List.set_cons_succ, List.map_cons, List.map_nil, List.replicate, List.cons_append, List.nil_append, List.append_nil, Option.bind_some, Option.map_some, List.all_cons, List.all_nil, if_true, if_false, reduceIte, Nat.reduceAdd, Nat.reduceSub, Nat.reduceLT, Nat.reduceLeDiff, Nat.reduceEqDiff, decide_true, decide_false, Bool.and_true, Bool.and_self, Bool.true_and, Bool.not_true, Bool.not_false, ne_eq, not_true_eq_false, not_false_eq_true, Nat.zero_add, Bool.false_eq_true, and_self, true_and, and_true, i1, i2, hz1, hz2]
          · simp -implicitDefEqProofs only [l1__law_speeds, xVar_a, xC_a, xBin_a, xUn_a, tOf_a, tTru_a, tNotP_a, tAndP_a, tOrP_a, tyes_a, tno_a, tYesP_a, xNil_a, xCons_a, xTup_a, xLst_a, xAnd_a, xOr_a, xIf_a, xChain_a, oNo_a, oAt_a, xSl_a, xCall_a, xSeq_a, xIt_a, xLc_a, gSet_a, gTupD_a, gsNil_a, gsCons_a, sNop_a, sBrk_a, sCnt_a, sSeq_a, sRet_a, sIf_a, sSet_a, sTgt_a, sAug_a, sApp_a, sExt_a, sPut_a, sPutK_a, pkO_s, sFor_a, sWhile_a, sPar_a, runD_a, b2_s, c2_s, sqO_nx, sqO_rt, sqO_bk, sqO_ct, ifO_t, ifO_f, stO_s, endO_nx, endO_rt, andO_t, andO_f, orO_t, orO_f, chO_s, chP_t, chP_f, slO_s, atO_i, lcO_s, forO_s, gsO_s, nxO_s, tgO_s, paO_s, apO_s, exO_s, plO_s, ptO_s, dB_b, tru_b, tru_n, tru_i, tru_l, tru_t, is_n, isn_n, nn_n, nn_i, nn_b, nn_t, nn_l, add_ii, add'_ii, sub_ii, neg_i, lt_ii, le_ii, gt_ii, ge_ii, ix_l, ix_t, ix_s, at0, at1, at2, sl_l, sl_t, len_l, len_t, len_s, abs_i, int_i, int_b, max_ii, min_ii, tup_s, lst_s, seq_l, seq_t, sum_s, wipe_n, wipe_c, mul_ii, fdiv_ii, mod_ii, add_ll, add_tt, setAll, mkT, mkL, oNot, List.getD_cons_zero, List.getD_cons_succ, List.length_cons, List.length_nil, List.set_cons_zero, List.set_cons_succ, List.map_cons, List.map_nil, List.replicate, List.cons_append, List.nil_append, List.append_nil, Option.bind_some, Option.map_some, List.all_cons, List.all_nil, if_true, if_false, reduceIte, Nat.reduceAdd, Nat.reduceSub, Nat.reduceLT, Nat.reduceLeDiff, Nat.reduceEqDiff, decide_true, decide_false, Bool.and_true, Bool.and_self, Bool.true_and, Bool.not_true, Bool.not_false, ne_eq, not_true_eq_false, not_false_eq_true, Nat.zero_add, Bool.false_eq_true, and_self, true_and, and_true, i1, i2, hz1]
        · rcases hx with ⟨c1, c2⟩ | c
          · refine .inl ⟨fun r hr => ?_, c2⟩
            rcases List.mem_append.mp hr with hr | hr
            · exact c1 r hr
            · simp at hr
              subst hr
              exact hin
          · exact .inr c) (segs L).zipIdx [] [some (.tuple (L.map enc)), x1, some (.int h), some (tp (a.2, 1)), x4, x5] ⟨rfl, (a.2, 1), x4, x5, Okf.of_sm (k := 10) (by show (0 : Int) < 1; decide) ha.2 (by show Sm 10 1; exact Sm.lit) (by omega), .inl ⟨by simp, rfl⟩, rfl⟩
  obtain ⟨_, x, j, k, ox, hx, e'⟩ := h
  subst e'
  refine ⟨x, j, k, ox, ?_, e1⟩
  rcases hx with ⟨c1, c2⟩ | c
  · by_cases hl : 2 ≤ L.length
    · obtain ⟨p, hp, k1, k2⟩ := segs_some hL.hd hL.lst h1 h2 hl
      obtain ⟨i, hi1, hi2⟩ := List.mem_iff_getElem.mp hp
      have : (p, i) ∈ (segs L).zipIdx := List.mem_zipIdx_iff_getElem?.mpr (by
        show (segs L)[i]? = some p
        rw [List.getElem?_eq_getElem hi1, hi2])
      exact absurd ⟨k1, k2⟩ (c1 (p, i) (by simpa using this))
    · rw [c2, eT]
      cases T with
      | nil =>
        show (a.2 : Rat) / ((1 : Int) : Rat) = (a.2 : Rat)
        have : ((1 : Int) : Rat) = 1 := rfl
        rw [this]
        grind
      | cons b T => rw [eT] at hl; simp at hl
  · exact c
theorem law_speeds_eq {L : List Sd} {a z : Sd} {Q : Int} (hL : LogOk L a z Q) : d__law_speeds [.tuple (L.map enc)] = some (.list ((List.range (z.1 - a.1 + 1).toNat).map fun k : Nat => rd (spd L (a.1 + (k : Nat))))) := by
  have hz := hL.zle.2.1
  have hp0 := hL.pos
  have haz := hL.zle.2.2
  unfold Sm at hz
  have hr := oR2_list (i := a.1) (j := z.1 + 1) (by omega)
  rw [show z.1 + 1 - a.1 = z.1 - a.1 + 1 by omega] at hr
  have hA := hL.at0
  have hZ := hL.atE
  obtain ⟨T, eT⟩ := head_get hL.hd
  have hlen : (L.map enc).length = L.length := List.length_map ..
  have hR : oR1 [.int ((L.length : Int) - 1)] = some ((segs L).zipIdx.map fun q => PyData.int (q.2 : Nat)) := by
    have hl : 0 < L.length := by rw [eT]; simp
    have := oR1_nat (L.length - 1) (by have := hL.len; omega)
    rw [zipIdx_ints0, segs_len]
    rwa [show ((L.length - 1 : Nat) : Int) = (L.length : Int) - 1 by omega] at this
  obtain ⟨ρ', e1, h⟩ := forL_inv (g := gSet 2) (b := l2__law_speeds) (fun k : Nat => PyData.int (a.1 + (k : Nat)))
    (fun pre rest ρ => pre ++ rest = List.range (z.1 - a.1 + 1).toNat ∧ ∃ x2 x3 x4 x5, ρ = [some (.tuple (L.map enc)), some (.list ((List.range pre.length).map fun k : Nat => rd (spd L (a.1 + (k : Nat))))), x2, x3, x4, x5]) (fun pre x rest ρ ⟨hp, x2, x3, x4, x5, e'⟩ => by
      subst e'
      obtain ⟨hx, hxn⟩ := rng_pre hp
      subst hx
      obtain ⟨y, j, k, oy, py, hf⟩ := speeds_step hL (h := a.1 + (pre.length : Nat)) (by omega) (by omega) (some (.list ((List.range pre.length).map fun k : Nat => rd (spd L (a.1 + (k : Nat)))))) x4 x5
      have w := ratio_rd y.1 y.2 oy.1 (oy.2.2.mono (by omega))
      rw [show (y.1 : Rat) / (y.2 : Rat) = pv y from rfl, py] at w
      have hl16 : ((List.range pre.length).map fun k : Nat => rd (spd L (a.1 + (k : Nat)))).length < 16777216 := by
        rw [List.length_map, List.length_range]
        omega
      refine ⟨[some (.tuple (L.map enc)), some (.list ((List.range pre.length).map fun k : Nat => rd (spd L (a.1 + (k : Nat))))), some (.int (a.1 + (pre.length : Nat))), x3, x4, x5], [some (.tuple (L.map enc)), some (.list ((List.range (pre ++ [pre.length]).length).map fun k : Nat => rd (spd L (a.1 + (k : Nat))))), some (.int (a.1 + (pre.length : Nat))), some (tp y), j, k], rfl, .inl ?_, by rw [List.append_assoc]; exact hp, _, _, _, _, rfl⟩
      rw [List.length_append, List.length_singleton, List.range_succ, List.map_append, List.map_singleton]
      generalize ((List.range pre.length).map fun k : Nat => rd (spd L (a.1 + (k : Nat)))) = N at *
      generalize pre.length = n at *
      generalize L.map enc = M at *
      unfold tp at *
      simp -implicitDefEqProofs only [l2__law_speeds, xVar_a, xC_a, xBin_a, xUn_a, tOf_a, tTru_a, tNotP_a, tAndP_a, tOrP_a, tyes_a, tno_a, tYesP_a, xNil_a, xCons_a, xTup_a, xLst_a, xAnd_a, xOr_a, xIf_a, xChain_a, oNo_a, oAt_a, xSl_a, xCall_a, xSeq_a, xIt_a, xLc_a, gSet_a, gTupD_a, gsNil_a, gsCons_a, sNop_a, sBrk_a, sCnt_a, sSeq_a, sRet_a, sIf_a, sSet_a, sTgt_a, sAug_a, sApp_a, sExt_a, sPut_a, sPutK_a, pkO_s, sFor_a, sWhile_a, sPar_a, runD_a, b2_s, c2_s, sqO_nx, sqO_rt, sqO_bk, sqO_ct, ifO_t, ifO_f, stO_s, endO_nx, endO_rt, andO_t, andO_f, orO_t, orO_f, chO_s, chP_t, chP_f, slO_s, atO_i, lcO_s, forO_s, gsO_s, nxO_s, tgO_s, paO_s, apO_s, exO_s, plO_s, ptO_s, dB_b, tru_b, tru_n, tru_i, tru_l, tru_t, is_n, isn_n, nn_n, nn_i, nn_b, nn_t, nn_l, add_ii, add'_ii, sub_ii, neg_i, lt_ii, le_ii, gt_ii, ge_ii, ix_l, ix_t, ix_s, at0, at1, at2, sl_l, sl_t, len_l, len_t, len_s, abs_i, int_i, int_b, max_ii, min_ii, tup_s, lst_s, seq_l, seq_t, sum_s, wipe_n, wipe_c, mul_ii, fdiv_ii, mod_ii, add_ll, add_tt, setAll, mkT, mkL, oNot, List.getD_cons_zero, List.getD_cons_succ, List.length_cons, List.length_nil, List.set_cons_zero, List.set_cons_succ, List.map_cons, List.map_nil, List.replicate, List.cons_append, List.nil_append, List.append_nil, Option.bind_some, Option.map_some, List.all_cons, List.all_nil, if_true, if_false, reduceIte, Nat.reduceAdd, Nat.reduceSub, Nat.reduceLT, Nat.reduceLeDiff, Nat.reduceEqDiff, decide_true, decide_false, Bool.and_true, Bool.and_self, Bool.true_and, Bool.not_true, Bool.not_false, ne_eq, not_true_eq_false, not_false_eq_true, Nat.zero_add, Bool.false_eq_true, and_self, true_and, and_true, hA, hlen, hR, hf, w, hl16]) (List.range (z.1 - a.1 + 1).toNat) [] [some (.tuple (L.map enc)), some (.list []), none, none, none, none] ⟨rfl, none, none, none, none, rfl⟩
  obtain ⟨_, x2, x3, x4, x5, e'⟩ := h
  subst e'
  simp only [List.nil_append, List.length_range] at e1
  generalize L.map enc = M at *
  simp -implicitDefEqProofs only [d__law_speeds, g__law_speeds, xVar_a, xC_a, xBin_a, xUn_a, tOf_a, tTru_a, tNotP_a, tAndP_a, tOrP_a, tyes_a, tno_a, tYesP_a, xNil_a, xCons_a, xTup_a, xLst_a, xAnd_a, xOr_a, xIf_a, xChain_a, oNo_a, oAt_a, xSl_a, xCall_a, xSeq_a, xIt_a, xLc_a, gSet_a, gTupD_a, gsNil_a, gsCons_a, sNop_a, sBrk_a, sCnt_a, sSeq_a, sRet_a, sIf_a, sSet_a, sTgt_a, sAug_a, sApp_a, sExt_a, sPut_a, sPutK_a, pkO_s, sFor_a, sWhile_a, sPar_a, runD_a, b2_s, c2_s, sqO_nx, sqO_rt, sqO_bk, sqO_ct, ifO_t, ifO_f, stO_s, endO_nx, endO_rt, andO_t, andO_f, orO_t, orO_f, chO_s, chP_t, chP_f, slO_s, atO_i, lcO_s, forO_s, gsO_s, nxO_s, tgO_s, paO_s, apO_s, exO_s, plO_s, ptO_s, dB_b, tru_b, tru_n, tru_i, tru_l, tru_t, is_n, isn_n, nn_n, nn_i, nn_b, nn_t, nn_l, add_ii, add'_ii, sub_ii, neg_i, lt_ii, le_ii, gt_ii, ge_ii, ix_l, ix_t, ix_s, at0, at1, at2, sl_l, sl_t, len_l, len_t, len_s, abs_i, int_i, int_b, max_ii, min_ii, tup_s, lst_s, seq_l, seq_t, sum_s, wipe_n, wipe_c, mul_ii, fdiv_ii, mod_ii, add_ll, add_tt, setAll, mkT, mkL, oNot, List.getD_cons_zero, List.getD_cons_succ, List.length_cons, List.length_nil, List.set_cons_zero, List.set_cons_succ, List.map_cons, List.map_nil, List.replicate, List.cons_append, List.nil_append, List.append_nil, Option.bind_some, Option.map_some, List.all_cons, List.all_nil, if_true, if_false, reduceIte, Nat.reduceAdd, Nat.reduceSub, Nat.reduceLT, Nat.reduceLeDiff, Nat.reduceEqDiff, decide_true, decide_false, Bool.and_true, Bool.and_self, Bool.true_and, Bool.not_true, Bool.not_false, ne_eq, not_true_eq_false, not_false_eq_true, Nat.zero_add, Bool.false_eq_true, and_self, true_and, and_true, hA, hlen, hZ, hr, e1]
end K28

namespace K28
open PySem PySem.Spec PyProof.Rows L2 Pm
def spL (L : List Sd) (a : Sd) (n : Nat) : List D := (List.range n).map fun k : Nat => rd (spd L (a.1 + (k : Nat)))
def hvL (L : List Sd) (a : Sd) (n : Nat) : List D := (List.range n).map fun k : Nat => rd (hv L (a.1 + (k : Nat)))
theorem spL_len (L : List Sd) (a : Sd) (n : Nat) : (spL L a n).length = n := by simp [spL]
theorem hvL_len (L : List Sd) (a : Sd) (n : Nat) : (hvL L a n).length = n := by simp [hvL]
theorem spL_at (L : List Sd) (a : Sd) {n k : Nat} (h : k < n) : atI (spL L a n) (k : Int) = some (rd (spd L (a.1 + (k : Nat)))) := by
  rw [atI_nat _ k (by rw [spL_len]; exact h)]
  simp [spL]
theorem rg0 (n : Nat) (h : n ≤ 1000) : oR1 [.int (n : Int)] = some ((List.range n).map fun k : Nat => PyData.int (k : Nat)) := oR1_nat n (by omega)
theorem rg1 (n : Nat) (h : n ≤ 1000) : oR1 [.int ((n : Int) + 1)] = some ((List.range (n + 1)).map fun k : Nat => PyData.int (k : Nat)) := oR1_nat (n + 1) (by omega)
theorem rgi {i : Int} (h : -1000 ≤ i ∧ i ≤ 1000) : oR1 [.int i] = some ((List.range i.toNat).map fun k : Nat => PyData.int (k : Nat)) := by
  show (if (i : Int) ≤ 16777216 ∧ -(2 ^ 62) ≤ i then some (rangeD 0 1 i.toNat) else none) = _
  rw [if_pos (by constructor <;> omega)]
  unfold rangeD
  simp
theorem cut_win (xs : List D) (i k : Nat) (h : i + k ≤ xs.length) : Pm.cutD xs (some (i : Int)) (some ((i : Int) + (k : Int))) = (xs.drop i).take k := by
  unfold Pm.cutD
  rw [HT.sIx_nat, ← Int.natCast_add, HT.sIx_nat, Nat.min_eq_left (by omega), Nat.min_eq_left (by omega)]
  congr 1
  omega
theorem range_win {α : Type} (f : Nat → α) (n i m : Nat) (h : i + m ≤ n) : (((List.range n).map f).drop i).take m = (List.range m).map fun k => f (i + k) := by
  apply List.ext_getElem?
  intro j
  by_cases hj : j < m
  · rw [List.getElem?_take, if_pos hj, List.getElem?_drop, List.getElem?_map, List.getElem?_map, List.getElem?_range (by omega), List.getElem?_range hj]
    rfl
  · rw [List.getElem?_take, if_neg hj, List.getElem?_map, List.getElem?_eq_none (by simp; omega)]
    rfl
theorem hvL_win {L : List Sd} {a : Sd} {n i m : Nat} (h : i + m ≤ n) : Pm.cutD (hvL L a n) (some (i : Int)) (some ((i : Int) + (m : Int))) = ((List.range m).map fun k : Nat => hv L (a.1 + (i : Nat) + (k : Nat))).map rd := by
  rw [cut_win _ _ _ (by rw [hvL_len]; exact h)]
  unfold hvL
  rw [range_win _ _ _ _ h, List.map_map]
  refine List.map_congr_left fun k _ => ?_
  show rd (hv L (a.1 + ((i + k : Nat) : Int))) = rd (hv L (a.1 + (i : Nat) + (k : Nat)))
  rw [show a.1 + ((i + k : Nat) : Int) = a.1 + (i : Nat) + (k : Nat) by omega]
theorem hvL_upto {L : List Sd} {a : Sd} {n m : Nat} (h : m ≤ n) : Pm.cutD (hvL L a n) none (some (m : Int)) = ((List.range m).map fun k : Nat => hv L (a.1 + (k : Nat))).map rd := by
  rw [cut_upto]
  have := range_win (fun k : Nat => rd (hv L (a.1 + (k : Nat)))) n 0 m (by omega)
  rw [List.drop_zero] at this
  unfold hvL
  rw [this, List.map_map]
  refine List.map_congr_left fun k _ => ?_
  show rd (hv L (a.1 + ((0 + k : Nat) : Int))) = rd (hv L (a.1 + (k : Nat)))
  rw [Nat.zero_add]
/-- the law's sum of some halves -/
theorem sum_win {L : List Sd} {a z : Sd} {Q : Int} (hL : LogOk L a z Q) {b : Int} (hb : a.1 ≤ b) {m : Nat} (hm : b + (m : Nat) ≤ z.1) (h15 : m ≤ 15) : d__law_sum [.list (((List.range m).map fun k : Nat => hv L (b + (k : Nat))).map rd)] = some (rd (rb L b m)) := by
  refine law_sum_eq true _ (fun x hx => ?_) (by simpa using h15)
  obtain ⟨k, hk, rfl⟩ := List.mem_map.mp hx
  have : k < m := by simpa using hk
  exact (hL.hv_sr (by omega) (by omega)).mono (by omega)
theorem half_of {x : Rat} (hx : SR 200 x) : mulOk 2 (x.den : Int) = true ∧ d__law_ratio [.int x.num, .int (2 * (x.den : Int))] = some (rd (x / 2)) := by
  have hd := den_pos x
  refine ⟨(Sm.lit (k := 10) (a := 2)).mulOk hx.2 (by omega) (by omega), ?_⟩
  rw [ratio_rd x.num (2 * (x.den : Int)) (by omega) (((Sm.lit (k := 10) (a := 2)).mul hx.2).mono (by omega))]
  have h1 : ((x.den : Int) : Rat) ≠ 0 := by have := cast_pos hd; grind
  congr 2
  conv => rhs; rw [rat_eq x]
  push_cast at *
  grind
theorem halves_loop {L : List Sd} {a z : Sd} {Q : Int} (hL : LogOk L a z Q) {N : Nat} (hN : a.1 + (N : Nat) = z.1) (h100 : N ≤ 100) (y0 y1 y2 y5 y6 y7 y8 y9 y11 y12 y14 y15 y16 y17 y18 y19 : Option D) :
    ∃ j u, forL (gSet 4) l1__law_logged ((List.range N).map fun k : Nat => PyData.int (k : Nat)) [y0, y1, y2, some (.list []), none, y5, y6, y7, y8, y9, some (.list (spL L a (N + 1))), y11, y12, none, y14, y15, y16, y17, y18, y19] =
      some (.nx [y0, y1, y2, some (.list (hvL L a N)), j, y5, y6, y7, y8, y9, some (.list (spL L a (N + 1))), y11, y12, u, y14, y15, y16, y17, y18, y19]) := by
  obtain ⟨ρ', e1, h⟩ := forL_inv (g := gSet 4) (b := l1__law_logged) (fun k : Nat => PyData.int (k : Nat))
    (fun pre rest ρ => pre ++ rest = List.range N ∧ ∃ j u, ρ = [y0, y1, y2, some (.list (hvL L a pre.length)), j, y5, y6, y7, y8, y9, some (.list (spL L a (N + 1))), y11, y12, u, y14, y15, y16, y17, y18, y19]) (fun pre x rest ρ ⟨hp, j, u, e'⟩ => by
      subst e'
      obtain ⟨hx, hxn⟩ := rng_pre hp
      subst hx
      have s1 := hL.spd_sr (h := a.1 + (pre.length : Nat)) (by omega) (by omega)
      have s2 := hL.spd_sr (h := a.1 + ((pre.length + 1 : Nat) : Int)) (by omega) (by omega)
      have i1 := spL_at L a (n := N + 1) (k := pre.length) (by omega)
      have i2 : atI (spL L a (N + 1)) ((pre.length : Nat) + 1 : Int) = _ := spL_at L a (n := N + 1) (k := pre.length + 1) (by omega)
      have hs : d__law_sum [.tuple [rd (spd L (a.1 + (pre.length : Nat))), rd (spd L (a.1 + ((pre.length + 1 : Nat) : Int)))]] = some (rd (spd L (a.1 + (pre.length : Nat)) + spd L (a.1 + ((pre.length + 1 : Nat) : Int)))) := by
        have := law_sum_eq false [spd L (a.1 + (pre.length : Nat)), spd L (a.1 + ((pre.length + 1 : Nat) : Int))] (fun x hx => by
          simp at hx
          rcases hx with rfl | rfl
          · exact s1.mono (by omega)
          · exact s2.mono (by omega)) (by simp)
        have e : rs [spd L (a.1 + (pre.length : Nat)), spd L (a.1 + ((pre.length + 1 : Nat) : Int))] = spd L (a.1 + (pre.length : Nat)) + spd L (a.1 + ((pre.length + 1 : Nat) : Int)) := by
          show _ + (_ + 0) = _
          rw [Rat.add_zero]
        rw [e] at this
        exact this
      obtain ⟨m, hh⟩ := half_of ((s1.add s2).mono (k := 200) (by omega))
      have ev : (spd L (a.1 + (pre.length : Nat)) + spd L (a.1 + ((pre.length + 1 : Nat) : Int))) / 2 = hv L (a.1 + (pre.length : Nat)) := by
        unfold hv
        rw [show a.1 + ((pre.length + 1 : Nat) : Int) = a.1 + (pre.length : Nat) + 1 by omega]
      rw [ev] at hh
      have hl16 : (hvL L a pre.length).length < 16777216 := by rw [hvL_len]; omega
      have hap : hvL L a (pre.length + 1) = hvL L a pre.length ++ [rd (hv L (a.1 + (pre.length : Nat)))] := by
        unfold hvL
        rw [List.range_succ, List.map_append]
        rfl
      refine ⟨[y0, y1, y2, some (.list (hvL L a pre.length)), some (.int (pre.length : Nat)), y5, y6, y7, y8, y9, some (.list (spL L a (N + 1))), y11, y12, u, y14, y15, y16, y17, y18, y19], [y0, y1, y2, some (.list (hvL L a (pre ++ [pre.length]).length)), some (.int (pre.length : Nat)), y5, y6, y7, y8, y9, some (.list (spL L a (N + 1))), y11, y12, some (rd (spd L (a.1 + (pre.length : Nat)) + spd L (a.1 + ((pre.length + 1 : Nat) : Int)))), y14, y15, y16, y17, y18, y19], rfl, .inl ?_, by rw [List.append_assoc]; exact hp, _, _, rfl⟩
      rw [List.length_append, List.length_singleton, hap]
      generalize spL L a (N + 1) = SP at *
      generalize hvL L a pre.length = HV at *
      generalize pre.length = n at *
      simp -implicitDefEqProofs only [l1__law_logged, xVar_a, xC_a, xBin_a, xUn_a, tOf_a, tTru_a, tNotP_a, tAndP_a, tOrP_a, tyes_a, tno_a, tYesP_a, xNil_a, xCons_a, xTup_a, xLst_a, xAnd_a, xOr_a, xIf_a, xChain_a, oNo_a, oAt_a, xSl_a, xCall_a, xSeq_a, xIt_a, xLc_a, gSet_a, gTupD_a, gsNil_a, gsCons_a, sNop_a, sBrk_a, sCnt_a, sSeq_a, sRet_a, sIf_a, sSet_a, sTgt_a, sAug_a, sApp_a, sExt_a, sPut_a, sPutK_a, pkO_s, sFor_a, sWhile_a, sPar_a, runD_a, b2_s, c2_s, sqO_nx, sqO_rt, sqO_bk, sqO_ct, ifO_t, ifO_f, stO_s, endO_nx, endO_rt, andO_t, andO_f, orO_t, orO_f, chO_s, chP_t, chP_f, slO_s, atO_i, lcO_s, forO_s, gsO_s, nxO_s, tgO_s, paO_s, apO_s, exO_s, plO_s, ptO_s, dB_b, tru_b, tru_n, tru_i, tru_l, tru_t, is_n, isn_n, nn_n, nn_i, nn_b, nn_t, nn_l, add_ii, add'_ii, sub_ii, neg_i, lt_ii, le_ii, gt_ii, ge_ii, ix_l, ix_t, ix_s, at0, at1, at2, sl_l, sl_t, len_l, len_t, len_s, abs_i, int_i, int_b, max_ii, min_ii, tup_s, lst_s, seq_l, seq_t, sum_s, wipe_n, wipe_c, mul_ii, fdiv_ii, mod_ii, add_ll, add_tt, setAll, mkT, mkL, oNot, List.getD_cons_zero, List.getD_cons_succ, List.length_cons, List.length_nil, List.set_cons_zero, List.set_cons_succ, List.map_cons, List.map_nil, List.replicate, List.cons_append, List.nil_append, List.append_nil, Option.bind_some, Option.map_some, List.all_cons, List.all_nil, if_true, if_false, reduceIte, Nat.reduceAdd, Nat.reduceSub, Nat.reduceLT, Nat.reduceLeDiff, Nat.reduceEqDiff, decide_true, decide_false, Bool.and_true, Bool.and_self, Bool.true_and, Bool.not_true, Bool.not_false, ne_eq, not_true_eq_false, not_false_eq_true, Nat.zero_add, Bool.false_eq_true, and_self, true_and, and_true, i1, i2, hs, rd_0, rd_1, m, hh, hl16]) (List.range N) [] [y0, y1, y2, some (.list []), none, y5, y6, y7, y8, y9, some (.list (spL L a (N + 1))), y11, y12, none, y14, y15, y16, y17, y18, y19] ⟨rfl, none, none, rfl⟩
  obtain ⟨_, j, u, e'⟩ := h
  subst e'
  simp only [List.nil_append, List.length_range] at e1
  exact ⟨j, u, e1⟩
theorem speed_loop {L : List Sd} {a z : Sd} {Q : Int} (hL : LogOk L a z Q) {N : Nat} (hN : a.1 + (N : Nat) = z.1) (y1 y2 y3 y4 y5 y6 y7 y8 y9 y12 y13 y14 y15 y16 y17 y18 y19 : Option D) :
    ∃ j, forL (gSet 4) l2__law_logged ((List.range (N + 1)).map fun k : Nat => PyData.int (k : Nat)) [some (.tuple (L.map enc)), y1, y2, y3, y4, y5, y6, y7, y8, y9, some (.list (spL L a (N + 1))), some (.int a.1), y12, y13, y14, y15, y16, y17, y18, y19] =
      some (.nx [some (.tuple (L.map enc)), y1, y2, y3, j, y5, y6, y7, y8, y9, some (.list (spL L a (N + 1))), some (.int a.1), y12, y13, y14, y15, y16, y17, y18, y19]) := by
  obtain ⟨ρ', e1, h⟩ := forL_inv (g := gSet 4) (b := l2__law_logged) (fun k : Nat => PyData.int (k : Nat))
    (fun pre rest ρ => pre ++ rest = List.range (N + 1) ∧ ∃ j, ρ = [some (.tuple (L.map enc)), y1, y2, y3, j, y5, y6, y7, y8, y9, some (.list (spL L a (N + 1))), some (.int a.1), y12, y13, y14, y15, y16, y17, y18, y19]) (fun pre x rest ρ ⟨hp, j, e'⟩ => by
      subst e'
      obtain ⟨hx, hxn⟩ := rng_pre hp
      subst hx
      have i1 := spL_at L a (n := N + 1) (k := pre.length) (by omega)
      have s1 : d_speed_at [.tuple (L.map enc), .int (a.1 + (pre.length : Nat))] = some (if a.1 ≤ a.1 + (pre.length : Nat) ∧ a.1 + (pre.length : Nat) ≤ z.1 then rd (spd L (a.1 + (pre.length : Nat))) else .none) := speed_at_eq false hL
      rw [if_pos (by omega)] at s1
      have lk := like_rd 6 (spd L (a.1 + (pre.length : Nat)))
      refine ⟨[some (.tuple (L.map enc)), y1, y2, y3, some (.int (pre.length : Nat)), y5, y6, y7, y8, y9, some (.list (spL L a (N + 1))), some (.int a.1), y12, y13, y14, y15, y16, y17, y18, y19], [some (.tuple (L.map enc)), y1, y2, y3, some (.int (pre.length : Nat)), y5, y6, y7, y8, y9, some (.list (spL L a (N + 1))), some (.int a.1), y12, y13, y14, y15, y16, y17, y18, y19], rfl, .inl ?_, by rw [List.append_assoc]; exact hp, _, rfl⟩
      generalize spL L a (N + 1) = SP at *
      generalize pre.length = n at *
      generalize L.map enc = M at *
      simp -implicitDefEqProofs only [l2__law_logged, xVar_a, xC_a, xBin_a, xUn_a, tOf_a, tTru_a, tNotP_a, tAndP_a, tOrP_a, tyes_a, tno_a, tYesP_a, xNil_a, xCons_a, xTup_a, xLst_a, xAnd_a, xOr_a, xIf_a, xChain_a, oNo_a, oAt_a, xSl_a, xCall_a, xSeq_a, xIt_a, xLc_a, gSet_a, gTupD_a, gsNil_a, gsCons_a, sNop_a, sBrk_a, sCnt_a, sSeq_a, sRet_a, sIf_a, sSet_a, sTgt_a, sAug_a, sApp_a, sExt_a, sPut_a, sPutK_a, pkO_s, sFor_a, sWhile_a, sPar_a, runD_a, b2_s, c2_s, sqO_nx, sqO_rt, sqO_bk, sqO_ct, ifO_t, ifO_f, stO_s, endO_nx, endO_rt, andO_t, andO_f, orO_t, orO_f, chO_s, chP_t, chP_f, slO_s, atO_i, lcO_s, forO_s, gsO_s, nxO_s, tgO_s, paO_s, apO_s, exO_s, plO_s, ptO_s, dB_b, tru_b, tru_n, tru_i, tru_l, tru_t, is_n, isn_n, nn_n, nn_i, nn_b, nn_t, nn_l, add_ii, add'_ii, sub_ii, neg_i, lt_ii, le_ii, gt_ii, ge_ii, ix_l, ix_t, ix_s, at0, at1, at2, sl_l, sl_t, len_l, len_t, len_s, abs_i, int_i, int_b, max_ii, min_ii, tup_s, lst_s, seq_l, seq_t, sum_s, wipe_n, wipe_c, mul_ii, fdiv_ii, mod_ii, add_ll, add_tt, setAll, mkT, mkL, oNot, List.getD_cons_zero, List.getD_cons_succ, List.length_cons, List.length_nil, List.set_cons_zero, List.set_cons_succ, List.map_cons, List.map_nil, List.replicate, List.cons_append, List.nil_append, List.append_nil, Option.bind_some, Option.map_some, List.all_cons, List.all_nil, if_true, if_false, reduceIte, Nat.reduceAdd, Nat.reduceSub, Nat.reduceLT, Nat.reduceLeDiff, Nat.reduceEqDiff, decide_true, decide_false, Bool.and_true, Bool.and_self, Bool.true_and, Bool.not_true, Bool.not_false, ne_eq, not_true_eq_false, not_false_eq_true, Nat.zero_add, Bool.false_eq_true, and_self, true_and, and_true, i1, s1, lk]) (List.range (N + 1)) [] [some (.tuple (L.map enc)), y1, y2, y3, y4, y5, y6, y7, y8, y9, some (.list (spL L a (N + 1))), some (.int a.1), y12, y13, y14, y15, y16, y17, y18, y19] ⟨rfl, y4, rfl⟩
  obtain ⟨_, j, e'⟩ := h
  subst e'
  exact ⟨j, e1⟩
/-- the law's goal: no less than -/
theorem ge_goal {x : Rat} {goal : Int} : decide (goal * (x.den : Int) ≤ x.num) = !decide (x < (goal : Rat)) := by
  have h := qlt (p := x.num) (q := (x.den : Int)) (r := goal) (s := 1) (den_pos x) (by decide)
  rw [← rat_eq x, show ((goal : Int) : Rat) / ((1 : Int) : Rat) = (goal : Rat) by rw [show ((1 : Int) : Rat) = 1 from rfl]; grind, Int.mul_one] at h
  by_cases hz : x < (goal : Rat)
  · rw [decide_eq_true hz]
    have := h.mp hz
    exact decide_eq_false (by omega)
  · rw [decide_eq_false hz]
    have : ¬ x.num < goal * (x.den : Int) := fun k => hz (h.mpr k)
    exact decide_eq_true (by omega)
theorem hours_loop {L : List Sd} {a z : Sd} {Q : Int} (hL : LogOk L a z Q) {N : Nat} (hN : a.1 + (N : Nat) = z.1) (h14 : N ≤ 14) {goal : Int} (hg : Sm 10 goal) (y0 y1 y2 y4 y5 y6 y7 y8 y9 y10 y12 y13 y17 y18 y19 : Option D) :
    ∃ j u, forL (gSet 4) l3__law_logged ((List.range (N + 1)).map fun k : Nat => PyData.int (k : Nat)) [y0, y1, y2, some (.list (hvL L a N)), y4, y5, y6, y7, y8, y9, y10, some (.int a.1), y12, y13, some (.int goal), some (.list []), none, y17, y18, y19] =
      some (.nx [y0, y1, y2, some (.list (hvL L a N)), j, y5, y6, y7, y8, y9, y10, some (.int a.1), y12, y13, some (.int goal), some (.list (((List.range (N + 1)).filter (hourP L a goal)).map fun k : Nat => PyData.int (a.1 + (k : Nat)))), u, y17, y18, y19]) := by
  obtain ⟨ρ', e1, _, h⟩ := forL_inv (g := gSet 4) (b := l3__law_logged) (fun k : Nat => PyData.int (k : Nat))
    (fun pre rest ρ => pre ++ rest = List.range (N + 1) ∧ ∃ j u, ρ = [y0, y1, y2, some (.list (hvL L a N)), j, y5, y6, y7, y8, y9, y10, some (.int a.1), y12, y13, some (.int goal), some (.list ((pre.filter (hourP L a goal)).map fun k : Nat => PyData.int (a.1 + (k : Nat)))), u, y17, y18, y19]) (fun pre x rest ρ ⟨hp, j, u, e'⟩ => by
      subst e'
      obtain ⟨hx, hxn⟩ := rng_pre hp
      have c := hvL_upto (L := L) (a := a) (n := N) (m := x) (by omega)
      have s := sum_win hL (b := a.1) (by omega) (m := x) (by omega) (by omega)
      have sr := hL.rb_sr (b := a.1) (by omega) (n := x) (by omega)
      have m := hg.mulOk sr.2 (by omega) (by omega)
      have ge := ge_goal (x := rb L a.1 x) (goal := goal)
      have hl16 : ((pre.filter (hourP L a goal)).map fun k : Nat => PyData.int (a.1 + (k : Nat))).length < 16777216 := by
        rw [List.length_map]
        have := List.length_filter_le (hourP L a goal) pre
        omega
      have hfx : hourP L a goal x = !decide (rb L a.1 x < (goal : Rat)) := rfl
      refine ⟨[y0, y1, y2, some (.list (hvL L a N)), some (.int (x : Nat)), y5, y6, y7, y8, y9, y10, some (.int a.1), y12, y13, some (.int goal), some (.list ((pre.filter (hourP L a goal)).map fun k : Nat => PyData.int (a.1 + (k : Nat)))), u, y17, y18, y19], [y0, y1, y2, some (.list (hvL L a N)), some (.int (x : Nat)), y5, y6, y7, y8, y9, y10, some (.int a.1), y12, y13, some (.int goal), some (.list (((pre ++ [x]).filter (hourP L a goal)).map fun k : Nat => PyData.int (a.1 + (k : Nat)))), some (rd (rb L a.1 x)), y17, y18, y19], rfl, .inl ?_, by rw [List.append_assoc]; exact hp, _, _, rfl⟩
      rw [List.filter_append]
      cases hP : hourP L a goal x with
      | true =>
        rw [List.filter_cons_of_pos hP, List.filter_nil, List.map_append, List.map_singleton]
        rw [hP] at hfx
        rw [← hfx] at ge
        generalize ((pre.filter (hourP L a goal)).map fun k : Nat => PyData.int (a.1 + (k : Nat))) = HO at *
        generalize hvL L a N = HV at *
        generalize (((List.range x).map fun k : Nat => hv L (a.1 + (k : Nat))).map rd) = W at *
        simp -implicitDefEqProofs only [l3__law_logged, xVar_a, xC_a, xBin_a, xUn_a, tOf_a, tTru_a, tNotP_a, tAndP_a, tOrP_a, tyes_a, tno_a, tYesP_a, xNil_a, xCons_a, xTup_a, xLst_a, xAnd_a, xOr_a, xIf_a, xChain_a, oNo_a, oAt_a, xSl_a, xCall_a, xSeq_a, xIt_a, xLc_a, gSet_a, gTupD_a, gsNil_a, gsCons_a, sNop_a, sBrk_a, sCnt_a, sSeq_a, sRet_a, sIf_a, sSet_a, sTgt_a, sAug_a, sApp_a, sExt_a, sPut_a, sPutK_a, pkO_s, sFor_a, sWhile_a, sPar_a, runD_a, b2_s, c2_s, sqO_nx, sqO_rt, sqO_bk, sqO_ct, ifO_t, ifO_f, stO_s, endO_nx, endO_rt, andO_t, andO_f, orO_t, orO_f, chO_s, chP_t, chP_f, slO_s, atO_i, lcO_s, forO_s, gsO_s, nxO_s, tgO_s, paO_s, apO_s, exO_s, plO_s, ptO_s, dB_b, tru_b, tru_n, tru_i, tru_l, tru_t, is_n, isn_n, nn_n, nn_i, nn_b, nn_t, nn_l, add_ii, add'_ii, sub_ii, neg_i, lt_ii, le_ii, gt_ii, ge_ii, ix_l, ix_t, ix_s, at0, at1, at2, sl_l, sl_t, len_l, len_t, len_s, abs_i, int_i, int_b, max_ii, min_ii, tup_s, lst_s, seq_l, seq_t, sum_s, wipe_n, wipe_c, mul_ii, fdiv_ii, mod_ii, add_ll, add_tt, setAll, mkT, mkL, oNot, List.getD_cons_zero, List.getD_cons_succ, List.length_cons, List.length_nil, List.set_cons_zero, List.set_cons_succ, List.map_cons, List.map_nil, List.replicate, List.cons_append, List.nil_append, List.append_nil, Option.bind_some, Option.map_some, List.all_cons, List.all_nil, if_true, if_false, reduceIte, Nat.reduceAdd, Nat.reduceSub, Nat.reduceLT, Nat.reduceLeDiff, Nat.reduceEqDiff, decide_true, decide_false, Bool.and_true, Bool.and_self, Bool.true_and, Bool.not_true, Bool.not_false, ne_eq, not_true_eq_false, not_false_eq_true, Nat.zero_add, Bool.false_eq_true, and_self, true_and, and_true, c, s, rd_0, rd_1, m, ge, hl16]
      | false =>
        rw [List.filter_cons_of_neg (by rw [hP]; decide), List.filter_nil, List.append_nil]
        rw [hP] at hfx
        rw [← hfx] at ge
        generalize ((pre.filter (hourP L a goal)).map fun k : Nat => PyData.int (a.1 + (k : Nat))) = HO at *
        generalize hvL L a N = HV at *
        generalize (((List.range x).map fun k : Nat => hv L (a.1 + (k : Nat))).map rd) = W at *
        simp -implicitDefEqProofs only [l3__law_logged, xVar_a, xC_a, xBin_a, xUn_a, tOf_a, tTru_a, tNotP_a, tAndP_a, tOrP_a, tyes_a, tno_a, tYesP_a, xNil_a, xCons_a, xTup_a, xLst_a, xAnd_a, xOr_a, xIf_a, xChain_a, oNo_a, oAt_a, xSl_a, xCall_a, xSeq_a, xIt_a, xLc_a, gSet_a, gTupD_a, gsNil_a, gsCons_a, sNop_a, sBrk_a, sCnt_a, sSeq_a, sRet_a, sIf_a, sSet_a, sTgt_a, sAug_a, sApp_a, sExt_a, sPut_a, sPutK_a, pkO_s, sFor_a, sWhile_a, sPar_a, runD_a, b2_s, c2_s, sqO_nx, sqO_rt, sqO_bk, sqO_ct, ifO_t, ifO_f, stO_s, endO_nx, endO_rt, andO_t, andO_f, orO_t, orO_f, chO_s, chP_t, chP_f, slO_s, atO_i, lcO_s, forO_s, gsO_s, nxO_s, tgO_s, paO_s, apO_s, exO_s, plO_s, ptO_s, dB_b, tru_b, tru_n, tru_i, tru_l, tru_t, is_n, isn_n, nn_n, nn_i, nn_b, nn_t, nn_l, add_ii, add'_ii, sub_ii, neg_i, lt_ii, le_ii, gt_ii, ge_ii, ix_l, ix_t, ix_s, at0, at1, at2, sl_l, sl_t, len_l, len_t, len_s, abs_i, int_i, int_b, max_ii, min_ii, tup_s, lst_s, seq_l, seq_t, sum_s, wipe_n, wipe_c, mul_ii, fdiv_ii, mod_ii, add_ll, add_tt, setAll, mkT, mkL, oNot, List.getD_cons_zero, List.getD_cons_succ, List.length_cons, List.length_nil, List.set_cons_zero, List.set_cons_succ, List.map_cons, List.map_nil, List.replicate, List.cons_append, List.nil_append, List.append_nil, Option.bind_some, Option.map_some, List.all_cons, List.all_nil, if_true, if_false, reduceIte, Nat.reduceAdd, Nat.reduceSub, Nat.reduceLT, Nat.reduceLeDiff, Nat.reduceEqDiff, decide_true, decide_false, Bool.and_true, Bool.and_self, Bool.true_and, Bool.not_true, Bool.not_false, ne_eq, not_true_eq_false, not_false_eq_true, Nat.zero_add, Bool.false_eq_true, and_self, true_and, and_true, c, s, rd_0, rd_1, m, ge]) (List.range (N + 1)) [] [y0, y1, y2, some (.list (hvL L a N)), y4, y5, y6, y7, y8, y9, y10, some (.int a.1), y12, y13, some (.int goal), some (.list []), none, y17, y18, y19] ⟨rfl, y4, none, rfl⟩
  obtain ⟨j, u, e'⟩ := h
  subst e'
  exact ⟨j, u, e1⟩
theorem head_found {β : Type} (f : β → D) (P : β → Bool) (l : List β) : atI ((l.filter P).map f ++ [PyData.none]) 0 = some (foundD f (l.find? P)) := by
  induction l with
  | nil => exact at0 _ _
  | cons x l ih =>
    cases hP : P x with
    | true => rw [List.filter_cons_of_pos hP, List.find?_cons_of_pos hP]; exact at0 _ _
    | false => rw [List.filter_cons_of_neg (by rw [hP]; decide), List.find?_cons_of_neg (by rw [hP]; decide)]; exact ih
theorem fast_loop {L : List Sd} {a z : Sd} {Q : Int} (hL : LogOk L a z Q) {N : Nat} (hN : a.1 + (N : Nat) = z.1) (h14 : N ≤ 14) {len : Nat} (hlen : len ≤ 100) (n : Nat) (hn : n = ((N : Int) - (len : Nat) + 1).toNat) (y0 y1 y2 y4 y5 y6 y7 y8 y9 y10 y12 y13 y14 y15 y16 : Option D) :
    ∃ j u, forL (gSet 4) l4__law_logged ((List.range n).map fun k : Nat => PyData.int (k : Nat)) [y0, y1, y2, some (.list (hvL L a N)), y4, y5, y6, y7, y8, y9, y10, some (.int a.1), y12, y13, y14, y15, y16, some (.int (len : Nat)), some .none, some .none] =
      some (.nx [y0, y1, y2, some (.list (hvL L a N)), j, y5, y6, y7, y8, y9, y10, some (.int a.1), y12, y13, y14, y15, u, some (.int (len : Nat)), some (od ((fastF L a len n).map Prod.fst)), some (foundF len (fastF L a len n))]) := by
  obtain ⟨ρ', e1, h⟩ := forL_inv (g := gSet 4) (b := l4__law_logged) (fun k : Nat => PyData.int (k : Nat))
    (fun pre rest ρ => pre ++ rest = List.range n ∧ ∃ j u, ρ = [y0, y1, y2, some (.list (hvL L a N)), j, y5, y6, y7, y8, y9, y10, some (.int a.1), y12, y13, y14, y15, u, some (.int (len : Nat)), some (od ((fastF L a len pre.length).map Prod.fst)), some (foundF len (fastF L a len pre.length))]) (fun pre x rest ρ ⟨hp, j, u, e'⟩ => by
      subst e'
      obtain ⟨hx, hxn⟩ := rng_pre hp
      subst hx
      have c := hvL_win (L := L) (a := a) (n := N) (i := pre.length) (m := len) (by omega)
      have s := sum_win hL (b := a.1 + (pre.length : Nat)) (by omega) (m := len) (by omega) (by omega)
      have s1 := hL.rb_sr (b := a.1 + (pre.length : Nat)) (by omega) (n := len) (by omega)
      refine ⟨[y0, y1, y2, some (.list (hvL L a N)), some (.int (pre.length : Nat)), y5, y6, y7, y8, y9, y10, some (.int a.1), y12, y13, y14, y15, u, some (.int (len : Nat)), some (od ((fastF L a len pre.length).map Prod.fst)), some (foundF len (fastF L a len pre.length))], [y0, y1, y2, some (.list (hvL L a N)), some (.int (pre.length : Nat)), y5, y6, y7, y8, y9, y10, some (.int a.1), y12, y13, y14, y15, some (rd (rb L (a.1 + (pre.length : Nat)) len)), some (.int (len : Nat)), some (od ((fastF L a len (pre ++ [pre.length]).length).map Prod.fst)), some (foundF len (fastF L a len (pre ++ [pre.length]).length))], rfl, .inl ?_, by rw [List.append_assoc]; exact hp, _, _, rfl⟩
      rw [List.length_append, List.length_singleton, fastF_succ]
      generalize (((List.range len).map fun k : Nat => hv L (a.1 + (pre.length : Nat) + (k : Nat))).map rd) = W at *
      generalize hvL L a N = HV at *
      cases ho : fastF L a len pre.length with
      | none =>
        generalize pre.length = n at *
        simp -implicitDefEqProofs only [l4__law_logged, xVar_a, xC_a, xBin_a, xUn_a, tOf_a, tTru_a, tNotP_a, tAndP_a, tOrP_a, tyes_a, tno_a, tYesP_a, xNil_a, xCons_a, xTup_a, xLst_a, xAnd_a, xOr_a, xIf_a, xChain_a, oNo_a, oAt_a, xSl_a, xCall_a, xSeq_a, xIt_a, xLc_a, gSet_a, gTupD_a, gsNil_a, gsCons_a, sNop_a, sBrk_a, sCnt_a, sSeq_a, sRet_a, sIf_a, sSet_a, sTgt_a, sAug_a, sApp_a, sExt_a, sPut_a, sPutK_a, pkO_s, sFor_a, sWhile_a, sPar_a, runD_a, b2_s, c2_s, sqO_nx, sqO_rt, sqO_bk, sqO_ct, ifO_t, ifO_f, stO_s, endO_nx, endO_rt, andO_t, andO_f, orO_t, orO_f, chO_s, chP_t, chP_f, slO_s, atO_i, lcO_s, forO_s, gsO_s, nxO_s, tgO_s, paO_s, apO_s, exO_s, plO_s, ptO_s, dB_b, tru_b, tru_n, tru_i, tru_l, tru_t, is_n, isn_n, nn_n, nn_i, nn_b, nn_t, nn_l, add_ii, add'_ii, sub_ii, neg_i, lt_ii, le_ii, gt_ii, ge_ii, ix_l, ix_t, ix_s, at0, at1, at2, sl_l, sl_t, len_l, len_t, len_s, abs_i, int_i, int_b, max_ii, min_ii, tup_s, lst_s, seq_l, seq_t, sum_s, wipe_n, wipe_c, mul_ii, fdiv_ii, mod_ii, add_ll, add_tt, setAll, mkT, mkL, oNot, List.getD_cons_zero, List.getD_cons_succ, List.length_cons, List.length_nil, List.set_cons_zero, List.set_cons_succ, List.map_cons, List.map_nil, List.replicate, List.cons_append, List.nil_append, List.append_nil, Option.bind_some, Option.map_some, List.all_cons, List.all_nil, if_true, if_false, reduceIte, Nat.reduceAdd, Nat.reduceSub, Nat.reduceLT, Nat.reduceLeDiff, Nat.reduceEqDiff, decide_true, decide_false, Bool.and_true, Bool.and_self, Bool.true_and, Bool.not_true, Bool.not_false, ne_eq, not_true_eq_false, not_false_eq_true, Nat.zero_add, Bool.false_eq_true, and_self, true_and, and_true, c, s, od, ostep, foundF, Option.map_none]
      | some y =>
        obtain ⟨k, hk, ey⟩ := fastF_mem ho
        have s2 := hL.rb_sr (b := a.1 + (k : Nat)) (by omega) (n := len) (by omega)
        have q : d__law_less [rd y.1, rd (rb L (a.1 + (pre.length : Nat)) len)] = some (.bool (decide (y.1 < rb L (a.1 + (pre.length : Nat)) len))) := by
          have s3 : SR 50 y.1 := by rw [ey]; exact s2
          have := less_tp (a := (y.1.num, (y.1.den : Int))) (b := ((rb L (a.1 + (pre.length : Nat)) len).num, ((rb L (a.1 + (pre.length : Nat)) len).den : Int))) ⟨den_pos _, s3.1.mono (by omega), s3.2.mono (by omega)⟩ ⟨den_pos _, s1.1.mono (by omega), s1.2.mono (by omega)⟩
          rw [show pv (y.1.num, (y.1.den : Int)) = y.1 from (rat_eq y.1).symm, show pv ((rb L (a.1 + (pre.length : Nat)) len).num, ((rb L (a.1 + (pre.length : Nat)) len).den : Int)) = rb L (a.1 + (pre.length : Nat)) len from (rat_eq _).symm] at this
          exact this
        have e2 : ∀ w : Rat × Int, foundF len (some w) = .tuple [.int w.2, .int (w.2 + (len : Nat))] := fun _ => rfl
        generalize pre.length = n at *
        by_cases hc : y.1 < rb L (a.1 + (n : Nat)) len
        · simp -implicitDefEqProofs only [l4__law_logged, xVar_a, xC_a, xBin_a, xUn_a, tOf_a, tTru_a, tNotP_a, tAndP_a, tOrP_a, tyes_a, tno_a, tYesP_a, xNil_a, xCons_a, xTup_a, xLst_a, xAnd_a, xOr_a, xIf_a, xChain_a, oNo_a, oAt_a, xSl_a, xCall_a, xSeq_a, xIt_a, xLc_a, gSet_a, gTupD_a, gsNil_a, gsCons_a, sNop_a, sBrk_a, sCnt_a, sSeq_a, sRet_a, sIf_a, sSet_a, sTgt_a, sAug_a, sApp_a, sExt_a, sPut_a, sPutK_a, pkO_s, sFor_a, sWhile_a, sPar_a, runD_a, b2_s, c2_s, sqO_nx, sqO_rt, sqO_bk, sqO_ct, ifO_t, ifO_f, stO_s, endO_nx, endO_rt, andO_t, andO_f, orO_t, orO_f, chO_s, chP_t, chP_f, slO_s, atO_i, lcO_s, forO_s, gsO_s, nxO_s, tgO_s, paO_s, apO_s, exO_s, plO_s, ptO_s, dB_b, tru_b, tru_n, tru_i, tru_l, tru_t, is_n, isn_n, nn_n, nn_i, nn_b, nn_t, nn_l, add_ii, add'_ii, sub_ii, neg_i, lt_ii, le_ii, gt_ii, ge_ii, ix_l, ix_t, ix_s, at0, at1, at2, sl_l, sl_t, len_l, len_t, len_s, abs_i, int_i, int_b, max_ii, min_ii, tup_s, lst_s, seq_l, seq_t, sum_s, wipe_n, wipe_c, mul_ii, fdiv_ii, mod_ii, add_ll, add_tt, setAll, mkT, mkL, oNot, List.getD_cons_zero, List.getD_cons_succ, List.length_cons, List.length_nil, List.set_cons_zero, List.set_cons_succ, List.map_cons, List.map_nil, List.replicate, List.cons_append, List.nil_append, List.append_nil, Option.bind_some, Option.map_some, List.all_cons, List.all_nil, if_true, if_false, reduceIte, Nat.reduceAdd, Nat.reduceSub, Nat.reduceLT, Nat.reduceLeDiff, Nat.reduceEqDiff, decide_true, decide_false, Bool.and_true, Bool.and_self, Bool.true_and, Bool.not_true, Bool.not_false, ne_eq, not_true_eq_false, not_false_eq_true, Nat.zero_add, Bool.false_eq_true, and_self, true_and, and_true, c, s, od_s, ostep, nn_rd, q, hc, e2]
        · simp -implicitDefEqProofs only [l4__law_logged, xVar_a, xC_a, xBin_a, xUn_a, tOf_a, tTru_a, tNotP_a, tAndP_a, tOrP_a, tyes_a, tno_a, tYesP_a, xNil_a, xCons_a, xTup_a, xLst_a, xAnd_a, xOr_a, xIf_a, xChain_a, oNo_a, oAt_a, xSl_a, xCall_a, xSeq_a, xIt_a, xLc_a, gSet_a, gTupD_a, gsNil_a, gsCons_a, sNop_a, sBrk_a, sCnt_a, sSeq_a, sRet_a, sIf_a, sSet_a, sTgt_a, sAug_a, sApp_a, sExt_a, sPut_a, sPutK_a, pkO_s, sFor_a, sWhile_a, sPar_a, runD_a, b2_s, c2_s, sqO_nx, sqO_rt, sqO_bk, sqO_ct, ifO_t, ifO_f, stO_s, endO_nx, endO_rt, andO_t, andO_f, orO_t, orO_f, chO_s, chP_t, chP_f, slO_s, atO_i, lcO_s, forO_s, gsO_s, nxO_s, tgO_s, paO_s, apO_s, exO_s, plO_s, ptO_s, dB_b, tru_b, tru_n, tru_i, tru_l, tru_t, is_n, isn_n, nn_n, nn_i, nn_b, nn_t, nn_l, add_ii, add'_ii, sub_ii, neg_i, lt_ii, le_ii, gt_ii, ge_ii, ix_l, ix_t, ix_s, at0, at1, at2, sl_l, sl_t, len_l, len_t, len_s, abs_i, int_i, int_b, max_ii, min_ii, tup_s, lst_s, seq_l, seq_t, sum_s, wipe_n, wipe_c, mul_ii, fdiv_ii, mod_ii, add_ll, add_tt, setAll, mkT, mkL, oNot, List.getD_cons_zero, List.getD_cons_succ, List.length_cons, List.length_nil, List.set_cons_zero, List.set_cons_succ, List.map_cons, List.map_nil, List.replicate, List.cons_append, List.nil_append, List.append_nil, Option.bind_some, Option.map_some, List.all_cons, List.all_nil, if_true, if_false, reduceIte, Nat.reduceAdd, Nat.reduceSub, Nat.reduceLT, Nat.reduceLeDiff, Nat.reduceEqDiff, decide_true, decide_false, Bool.and_true, Bool.and_self, Bool.true_and, Bool.not_true, Bool.not_false, ne_eq, not_true_eq_false, not_false_eq_true, Nat.zero_add, Bool.false_eq_true, and_self, true_and, and_true, c, s, od_s, ostep, nn_rd, q, hc, e2]) (List.range n) [] [y0, y1, y2, some (.list (hvL L a N)), y4, y5, y6, y7, y8, y9, y10, some (.int a.1), y12, y13, y14, y15, y16, some (.int (len : Nat)), some .none, some .none] ⟨rfl, y4, y16, rfl⟩
  obtain ⟨_, j, u, e'⟩ := h
  subst e'
  simp only [List.nil_append, List.length_range] at e1
  exact ⟨j, u, e1⟩
end K28

namespace K28
open PySem PySem.Spec PyProof.Rows L2 Pm
theorem row_at (r : List Int) (i : Nat) (h : i < r.length) : atI (r.map PyData.int) (i : Int) = some (.int (r.getD i 0)) := by
  rw [atI_nat _ i (by simpa using h)]
  simp [h]
theorem fmod_rng (x : Int) {m : Int} (hm : 0 < m) : 0 ≤ x.fmod m ∧ x.fmod m < m := ⟨Int.fmod_nonneg_of_pos _ hm, Int.fmod_lt_of_pos _ hm⟩
theorem fmod_nat (x : Int) {m : Int} (hm : 0 < m) : ∃ k : Nat, x.fmod m = (k : Int) ∧ (k : Int) < m := by
  obtain ⟨h1, h2⟩ := fmod_rng x hm
  obtain ⟨k, hk⟩ := Int.eq_ofNat_of_zero_le h1
  exact ⟨k, hk, by omega⟩
theorem logged_ok {L : List Sd} {a z : Sd} {Q : Int} (hL : LogOk L a z Q) (hs9 : ∀ s ∈ L, Sm 9 s.2) {N : Nat} (hN : a.1 + (N : Nat) = z.1) (h14 : N ≤ 14) {r : List Int} (hr : r.length = 32) : d__law_logged [.tuple (L.map enc), .list (r.map PyData.int)] = some (.bool true) := by
  have hzN : (z.1 - a.1).toNat = N := by omega
  have hzN1 : (z.1 - a.1 + 1).toNat = N + 1 := by omega
  have hA := hL.at0
  have i22 : atI (r.map PyData.int) 22 = some (.int (r.getD 22 0)) := row_at r 22 (by omega)
  have i23 : atI (r.map PyData.int) 23 = some (.int (r.getD 23 0)) := row_at r 23 (by omega)
  have i24 : atI (r.map PyData.int) 24 = some (.int (r.getD 24 0)) := row_at r 24 (by omega)
  have i25 : atI (r.map PyData.int) 25 = some (.int (r.getD 25 0)) := row_at r 25 (by omega)
  have i26 : atI (r.map PyData.int) 26 = some (.int (r.getD 26 0)) := row_at r 26 (by omega)
  obtain ⟨e, he, he3⟩ := fmod_nat (r.getD 22 0) (m := 3) (by decide)
  obtain ⟨i, hi, hi3⟩ := fmod_nat (r.getD 23 0) (m := (N : Int) + 1) (by omega)
  obtain ⟨m, hm, hm3⟩ := fmod_nat (r.getD 24 0) (m := (N : Int) + 1 - (i : Int)) (by omega)
  obtain ⟨goal, hgo, hgo3⟩ := fmod_nat (r.getD 25 0) (m := 25) (by decide)
  obtain ⟨l5, hl5, hl53⟩ := fmod_nat (r.getD 26 0) (m := 5) (by decide)
  have n3 : (3 : Int) ≠ 0 := by decide
  have n25 : (25 : Int) ≠ 0 := by decide
  have n5 : (5 : Int) ≠ 0 := by decide
  have nN : (N : Int) + 1 ≠ 0 := by omega
  have nNi : (N : Int) + 1 - (i : Int) ≠ 0 := by omega
  have se : Sm 9 (e : Int) := by unfold Sm; omega
  have sN : Sm 9 (N : Int) := by unfold Sm; omega
  have sg : Sm 10 (goal : Int) := by unfold Sm; omega
  have f0 : d__law_speeds [.tuple (L.map enc)] = some (.list (spL L a (N + 1))) := by
    have := law_speeds_eq hL
    rw [hzN1] at this
    exact this
  have hlen : (((spL L a (N + 1)).length : Nat) : Int) - 1 = (N : Int) := by rw [spL_len]; omega
  have g0 := rg0 N (by omega)
  have g1 := rg1 N (by omega)
  obtain ⟨j1, u1, lp1⟩ := halves_loop hL hN (by omega) (some (.tuple (L.map enc))) (some (.list (r.map PyData.int))) (some (.int (N : Nat))) none none none none none (some (.int a.1)) (some (.int (e : Nat))) none none none none none none
  have fW : d__law_sum [.list (hvL L a N)] = some (rd (rb L a.1 N)) := by
    have := sum_win hL (b := a.1) (by omega) (m := N) (by omega) (by omega)
    rw [List.map_map] at this
    exact this
  obtain ⟨j2, lp2⟩ := speed_loop hL hN (some (.list (r.map PyData.int))) (some (.int (N : Nat))) (some (.list (hvL L a N))) j1 (some (rd (rb L a.1 N))) none none none none (some (.int (e : Nat))) u1 none none none none none none
  have sp1 : d_speed_at [.tuple (L.map enc), .int (a.1 + (N : Nat) + 1)] = some (if a.1 ≤ a.1 + (N : Nat) + 1 ∧ a.1 + (N : Nat) + 1 ≤ z.1 then rd (spd L (a.1 + (N : Nat) + 1)) else .none) := speed_at_eq false hL
  rw [if_neg (by omega)] at sp1
  have sp2 : d_speed_at [.tuple (L.map enc), .int (a.1 - 1)] = some (if a.1 ≤ a.1 - 1 ∧ a.1 - 1 ≤ z.1 then rd (spd L (a.1 - 1)) else .none) := speed_at_eq false hL
  rw [if_neg (by omega)] at sp2
  have ra : d_run_all [.tuple (L.map enc)] = some (rd (rb L a.1 N)) := by
    have := run_all_eq false hL
    rw [hzN] at this
    exact this
  have lkW := like_rd 6 (rb L a.1 N)
  have rbt : d_run_between [.tuple (L.map enc), .int (a.1 + (i : Nat)), .int (a.1 + ((i : Int) + (m : Nat)))] = some (rd (rb L (a.1 + (i : Nat)) m)) := by
    have := run_between_eq false hL (b := a.1 + (i : Nat)) (e := a.1 + ((i : Int) + (m : Nat))) (by omega) (by omega) (by omega)
    rw [show (a.1 + ((i : Int) + (m : Nat)) - (a.1 + (i : Nat))).toNat = m by omega] at this
    exact this
  have cw := hvL_win (L := L) (a := a) (n := N) (i := i) (m := m) (by omega)
  have sw := sum_win hL (b := a.1 + (i : Nat)) (by omega) (m := m) (by omega) (by omega)
  have lkm := like_rd 6 (rb L (a.1 + (i : Nat)) m)
  have srW := hL.rb_sr (b := a.1) (by omega) (n := N) (by omega)
  have k1 : mulOk (-(e : Int)) (N : Int) = true := (se.neg).mulOk sN (by omega) (by omega)
  have k2 : mulOk (e : Int) (N : Int) = true := se.mulOk sN (by omega) (by omega)
  have two : ∀ c : Int, Sm 30 c → d__law_sum [.tuple [rd (rb L a.1 N), .tuple [.int c, .int 1]]] = some (rd (rb L a.1 N + (c : Rat))) := fun c hc => by
    have := law_sum_eq false [rb L a.1 N, (c : Rat)] (fun x hx => by
      simp at hx
      rcases hx with rfl | rfl
      · exact srW.mono (by omega)
      · exact (SR.int hc).mono (by omega)) (by simp)
    have e1 : rs [rb L a.1 N, (c : Rat)] = rb L a.1 N + (c : Rat) := by
      show _ + (_ + 0) = _
      rw [Rat.add_zero]
    rw [e1] at this
    exact this
  have b1 := two (-(e : Int) * (N : Int)) ((se.neg.mul sN).mono (by omega))
  have b2 := two ((e : Int) * (N : Int)) ((se.mul sN).mono (by omega))
  have rbd := run_bounds_eq hL hs9 se
  rw [hzN] at rbd
  generalize ev1 : rb L a.1 N + ((-(e : Int) * (N : Int) : Int) : Rat) = w1 at *
  generalize ev2 : rb L a.1 N + (((e : Int) * (N : Int) : Int) : Rat) = w2 at *
  have lkb := like_rr 5 w1 w2
  obtain ⟨j3, u3, lp3⟩ := hours_loop hL hN h14 sg (some (.tuple (L.map enc))) (some (.list (r.map PyData.int))) (some (.int (N : Nat))) j2 (some (rd (rb L a.1 N))) (some (.int (i : Nat))) (some (.int ((i : Int) + (m : Nat)))) (some (.tuple [rd w1, rd w2])) (some (if (N : Int) = 0 then .none else rd (rb L a.1 N * ((1 : Rat) / ((N : Int) : Rat))))) (some (.list (spL L a (N + 1)))) (some (.int (e : Nat))) u1 none none none
  have ms : d_mean_speed [.tuple (L.map enc)] = some (if (N : Int) = 0 then .none else rd (rb L a.1 N * ((1 : Rat) / ((N : Int) : Rat)))) := by
    have := mean_speed_eq false hL
    rw [hzN, show z.1 - a.1 = (N : Int) by omega] at this
    exact this
  have ho : d_hour_of [.tuple (L.map enc), .int (goal : Nat)] = some (foundD (fun k : Nat => PyData.int (a.1 + (k : Nat))) ((List.range (N + 1)).find? (hourP L a goal))) := by
    have := hour_of_eq false hL (goal := (goal : Int)) (by unfold Sm; omega)
    rw [hzN1] at this
    exact this
  have lkh := like_found 7 (fun k : Nat => a.1 + (k : Nat)) ((List.range (N + 1)).find? (hourP L a goal))
  have hfd := head_found (fun k : Nat => PyData.int (a.1 + (k : Nat))) (hourP L a goal) (List.range (N + 1))
  have hll : (((List.range (N + 1)).filter (hourP L a goal)).map fun k : Nat => PyData.int (a.1 + (k : Nat))).length + 1 ≤ 16777216 := by
    rw [List.length_map]
    have := List.length_filter_le (hourP L a goal) (List.range (N + 1))
    rw [List.length_range] at this
    omega
  have g4 := rgi (i := (N : Int) - ((1 + l5 : Nat) : Int) + 1) (by omega)
  obtain ⟨j4, u4, lp4⟩ := fast_loop hL hN h14 (len := 1 + l5) (by omega) ((N : Int) - ((1 + l5 : Nat) : Int) + 1).toNat rfl (some (.tuple (L.map enc))) (some (.list (r.map PyData.int))) (some (.int (N : Nat))) j3 (some (rd (rb L a.1 N))) (some (.int (i : Nat))) (some (.int ((i : Int) + (m : Nat)))) (some (.tuple [rd w1, rd w2])) (some (if (N : Int) = 0 then .none else rd (rb L a.1 N * ((1 : Rat) / ((N : Int) : Rat))))) (some (.list (spL L a (N + 1)))) (some (.int (e : Nat))) u1 (some (.int (goal : Nat))) (some (.list (((List.range (N + 1)).filter (hourP L a goal)).map fun k : Nat => PyData.int (a.1 + (k : Nat))))) u3
  have fa : d_fastest [.tuple (L.map enc), .int ((1 + l5 : Nat) : Int)] = some (foundF (1 + l5) (fastF L a (1 + l5) ((N : Int) - ((1 + l5 : Nat) : Int) + 1).toNat)) := by
    have := fastest_eq false hL (len := 1 + l5) (by omega)
    rw [show z.1 - a.1 = (N : Int) by omega] at this
    exact this
  have lkf : ∀ o, d__law_like 8 [foundF (1 + l5) o, foundF (1 + l5) o] = some (.bool true) := fun o => by
    cases o with
    | none => exact like_none 7
    | some x =>
      refine like_tup 7 _ (by simp) fun y hy => ?_
      simp at hy
      rcases hy with rfl | rfl <;> exact like_int _ _
  have ffl : ∀ o, flat (foundF (1 + l5) o) = true := fun o => by cases o <;> rfl
  have lkf' := lkf (fastF L a (1 + l5) ((N : Int) - ((1 + l5 : Nat) : Int) + 1).toNat)
  have ffl' := ffl (fastF L a (1 + l5) ((N : Int) - ((1 + l5 : Nat) : Int) + 1).toNat)
  have hfl1 : flat (foundD (fun k : Nat => PyData.int (a.1 + (k : Nat))) ((List.range (N + 1)).find? (hourP L a goal))) = true := by
    cases (List.range (N + 1)).find? (hourP L a goal) <;> rfl
  have hfb : flat (.bool true) = true := rfl
  have hfw : flat (.tuple [rd w1, rd w2]) = true := rfl
  have c1l : (1 : Int) + (l5 : Int) = ((1 + l5 : Nat) : Int) := by omega
  generalize fastF L a (1 + l5) ((N : Int) - ((1 + l5 : Nat) : Int) + 1).toNat = FF at *
  generalize foundF (1 + l5) FF = FD at *
  generalize foundD (fun k : Nat => PyData.int (a.1 + (k : Nat))) ((List.range (N + 1)).find? (hourP L a goal)) = HD at *
  generalize (((List.range (N + 1)).filter (hourP L a goal)).map fun k : Nat => PyData.int (a.1 + (k : Nat))) = HO at *
  generalize (((List.range m).map fun k : Nat => hv L (a.1 + (i : Nat) + (k : Nat))).map rd) = HW at *
  generalize hvL L a N = HV at *
  generalize spL L a (N + 1) = SP at *
  generalize (List.range N).map (fun k : Nat => PyData.int (k : Nat)) = R0 at *
  generalize (List.range (N + 1)).map (fun k : Nat => PyData.int (k : Nat)) = R1 at *
  generalize (List.range ((N : Int) - ((1 + l5 : Nat) : Int) + 1).toNat).map (fun k : Nat => PyData.int (k : Nat)) = R4 at *
  generalize hl1 : 1 + l5 = len at *
  generalize L.map enc = M at *
  generalize r.map PyData.int = RR at *
  have hadd : oAdd (.list HO) (.list [.none]) = some (.list (HO ++ [.none])) := add_ll (by simpa using hll)
  by_cases hN0 : (N : Int) = 0
  · rw [if_pos hN0] at lp3 lp4 ms
    have hN0' : ¬ (0 : Int) < (N : Int) := by omega
    have lkn := like_none 7
    by_cases ha0 : 0 < a.1
    · simp -implicitDefEqProofs only [d__law_logged, g__law_logged, xVar_a, xC_a, xBin_a, xUn_a, tOf_a, tTru_a, tNotP_a, tAndP_a, tOrP_a, tyes_a, tno_a, tYesP_a, xNil_a, xCons_a, xTup_a, xLst_a, xAnd_a, xOr_a, xIf_a, xChain_a, oNo_a, oAt_a, xSl_a, xCall_a, xSeq_a, xIt_a, xLc_a, gSet_a, gTupD_a, gsNil_a, gsCons_a, sNop_a, sBrk_a, sCnt_a, sSeq_a, sRet_a, sIf_a, sSet_a, sTgt_a, sAug_a, sApp_a, sExt_a, sPut_a, sPutK_a, pkO_s, sFor_a, sWhile_a, sPar_a, runD_a, b2_s, c2_s, sqO_nx, sqO_rt, sqO_bk, sqO_ct, ifO_t, ifO_f, stO_s, endO_nx, endO_rt, andO_t, andO_f, orO_t, orO_f, chO_s, chP_t, chP_f, slO_s, atO_i, lcO_s, forO_s, gsO_s, nxO_s, tgO_s, paO_s, apO_s, exO_s, plO_s, ptO_s, dB_b, tru_b, tru_n, tru_i, tru_l, tru_t, is_n, isn_n, nn_n, nn_i, nn_b, nn_t, nn_l, add_ii, add'_ii, sub_ii, neg_i, lt_ii, le_ii, gt_ii, ge_ii, ix_l, ix_t, ix_s, at0, at1, at2, sl_l, sl_t, len_l, len_t, len_s, abs_i, int_i, int_b, max_ii, min_ii, tup_s, lst_s, seq_l, seq_t, sum_s, wipe_n, wipe_c, mul_ii, fdiv_ii, mod_ii, add_ll, add_tt, setAll, mkT, mkL, oNot, List.getD_cons_zero, List.getD_cons_succ, List.length_cons, List.length_nil, List.set_cons_zero, List.set_cons_succ, List.map_cons, List.map_nil, List.replicate, List.cons_append, List.nil_append, List.append_nil, Option.bind_some, Option.map_some, List.all_cons, List.all_nil, if_true, if_false, reduceIte, Nat.reduceAdd, Nat.reduceSub, Nat.reduceLT, Nat.reduceLeDiff, Nat.reduceEqDiff, decide_true, decide_false, Bool.and_true, Bool.and_self, Bool.true_and, Bool.not_true, Bool.not_false, ne_eq, not_true_eq_false, not_false_eq_true, Nat.zero_add, Bool.false_eq_true, and_self, true_and, and_true, f0, hA, i22, i23, i24, i25, i26, mod_ii n3, mod_ii n25, mod_ii n5, mod_ii nN, mod_ii nNi, he, hi, hm, hgo, hl5, hlen, g0, g1, lp1, fW, flat_rd, lp2, sp1, sp2, isn_n, nn_n, ha0, ra, lkW, rbt, cw, sw, lkm, k1, k2, b1, b2, rbd, lkb, hfb, hfw, hN0', lp3, ms, ho, lkn, hfl1, hfd, hll, lkh, c1l, g4, lp4, fa, lkf', ffl', hadd]
    · simp -implicitDefEqProofs only [d__law_logged, g__law_logged, xVar_a, xC_a, xBin_a, xUn_a, tOf_a, tTru_a, tNotP_a, tAndP_a, tOrP_a, tyes_a, tno_a, tYesP_a, xNil_a, xCons_a, xTup_a, xLst_a, xAnd_a, xOr_a, xIf_a, xChain_a, oNo_a, oAt_a, xSl_a, xCall_a, xSeq_a, xIt_a, xLc_a, gSet_a, gTupD_a, gsNil_a, gsCons_a, sNop_a, sBrk_a, sCnt_a, sSeq_a, sRet_a, sIf_a, sSet_a, sTgt_a, sAug_a, sApp_a, sExt_a, sPut_a, sPutK_a, pkO_s, sFor_a, sWhile_a, sPar_a, runD_a, b2_s, c2_s, sqO_nx, sqO_rt, sqO_bk, sqO_ct, ifO_t, ifO_f, stO_s, endO_nx, endO_rt, andO_t, andO_f, orO_t, orO_f, chO_s, chP_t, chP_f, slO_s, atO_i, lcO_s, forO_s, gsO_s, nxO_s, tgO_s, paO_s, apO_s, exO_s, plO_s, ptO_s, dB_b, tru_b, tru_n, tru_i, tru_l, tru_t, is_n, isn_n, nn_n, nn_i, nn_b, nn_t, nn_l, add_ii, add'_ii, sub_ii, neg_i, lt_ii, le_ii, gt_ii, ge_ii, ix_l, ix_t, ix_s, at0, at1, at2, sl_l, sl_t, len_l, len_t, len_s, abs_i, int_i, int_b, max_ii, min_ii, tup_s, lst_s, seq_l, seq_t, sum_s, wipe_n, wipe_c, mul_ii, fdiv_ii, mod_ii, add_ll, add_tt, setAll, mkT, mkL, oNot, List.getD_cons_zero, List.getD_cons_succ, List.length_cons, List.length_nil, List.set_cons_zero, List.set_cons_succ, List.map_cons, List.map_nil, List.replicate, List.cons_append, List.nil_append, List.append_nil, Option.bind_some, Option.map_some, List.all_cons, List.all_nil, if_true, if_false, reduceIte, Nat.reduceAdd, Nat.reduceSub, Nat.reduceLT, Nat.reduceLeDiff, Nat.reduceEqDiff, decide_true, decide_false, Bool.and_true, Bool.and_self, Bool.true_and, Bool.not_true, Bool.not_false, ne_eq, not_true_eq_false, not_false_eq_true, Nat.zero_add, Bool.false_eq_true, and_self, true_and, and_true, f0, hA, i22, i23, i24, i25, i26, mod_ii n3, mod_ii n25, mod_ii n5, mod_ii nN, mod_ii nNi, he, hi, hm, hgo, hl5, hlen, g0, g1, lp1, fW, flat_rd, lp2, sp1, sp2, isn_n, nn_n, ha0, ra, lkW, rbt, cw, sw, lkm, k1, k2, b1, b2, rbd, lkb, hfb, hfw, hN0', lp3, ms, ho, lkn, hfl1, hfd, hll, lkh, c1l, g4, lp4, fa, lkf', ffl', hadd]
  · rw [if_neg hN0] at lp3 lp4 ms
    have hN0' : (0 : Int) < (N : Int) := by omega
    have k3 : mulOk ((rb L a.1 N).den : Int) (N : Int) = true := srW.2.mulOk sN (by omega) (by omega)
    have mr : d__law_ratio [.int (rb L a.1 N).num, .int (((rb L a.1 N).den : Int) * (N : Int))] = some (rd (rb L a.1 N * ((1 : Rat) / ((N : Int) : Rat)))) := by
      have hd := den_pos (rb L a.1 N)
      have h1 : (((rb L a.1 N).den : Int) : Rat) ≠ 0 := by have := cast_pos hd; grind
      have h2 : ((N : Int) : Rat) ≠ 0 := by have := cast_pos hN0'; grind
      have key : ((rb L a.1 N).num : Rat) / ((((rb L a.1 N).den : Int) * (N : Int) : Int) : Rat) = rb L a.1 N * ((1 : Rat) / ((N : Int) : Rat)) := by
        have e := rat_eq (rb L a.1 N)
        generalize (rb L a.1 N).num = u at *
        generalize ((rb L a.1 N).den : Int) = v at *
        rw [Rat.intCast_mul, e]
        grind
      rw [← key]
      exact ratio_rd _ _ (Int.mul_pos hd hN0') ((srW.2.mul sN).mono (by omega))
    have lkn := like_rd 6 (rb L a.1 N * ((1 : Rat) / ((N : Int) : Rat)))
    generalize rb L a.1 N * ((1 : Rat) / ((N : Int) : Rat)) = ME at *
    by_cases ha0 : 0 < a.1
    · simp -implicitDefEqProofs only [d__law_logged, g__law_logged, xVar_a, xC_a, xBin_a, xUn_a, tOf_a, tTru_a, tNotP_a, tAndP_a, tOrP_a, tyes_a, tno_a, tYesP_a, xNil_a, xCons_a, xTup_a, xLst_a, xAnd_a, xOr_a, xIf_a, xChain_a, oNo_a, oAt_a, xSl_a, xCall_a, xSeq_a, xIt_a, xLc_a, gSet_a, gTupD_a, gsNil_a, gsCons_a, sNop_a, sBrk_a, sCnt_a, sSeq_a, sRet_a, sIf_a, sSet_a, sTgt_a, sAug_a, sApp_a, sExt_a, sPut_a, sPutK_a, pkO_s, sFor_a, sWhile_a, sPar_a, runD_a, b2_s, c2_s, sqO_nx, sqO_rt, sqO_bk, sqO_ct, ifO_t, ifO_f, stO_s, endO_nx, endO_rt, andO_t, andO_f, orO_t, orO_f, chO_s, chP_t, chP_f, slO_s, atO_i, lcO_s, forO_s, gsO_s, nxO_s, tgO_s, paO_s, apO_s, exO_s, plO_s, ptO_s, dB_b, tru_b, tru_n, tru_i, tru_l, tru_t, is_n, isn_n, nn_n, nn_i, nn_b, nn_t, nn_l, add_ii, add'_ii, sub_ii, neg_i, lt_ii, le_ii, gt_ii, ge_ii, ix_l, ix_t, ix_s, at0, at1, at2, sl_l, sl_t, len_l, len_t, len_s, abs_i, int_i, int_b, max_ii, min_ii, tup_s, lst_s, seq_l, seq_t, sum_s, wipe_n, wipe_c, mul_ii, fdiv_ii, mod_ii, add_ll, add_tt, setAll, mkT, mkL, oNot, List.getD_cons_zero, List.getD_cons_succ, List.length_cons, List.length_nil, List.set_cons_zero, List.set_cons_succ, List.map_cons, List.map_nil, List.replicate, List.cons_append, List.nil_append, List.append_nil, Option.bind_some, Option.map_some, List.all_cons, List.all_nil, if_true, if_false, reduceIte, Nat.reduceAdd, Nat.reduceSub, Nat.reduceLT, Nat.reduceLeDiff, Nat.reduceEqDiff, decide_true, decide_false, Bool.and_true, Bool.and_self, Bool.true_and, Bool.not_true, Bool.not_false, ne_eq, not_true_eq_false, not_false_eq_true, Nat.zero_add, Bool.false_eq_true, and_self, true_and, and_true, f0, hA, i22, i23, i24, i25, i26, mod_ii n3, mod_ii n25, mod_ii n5, mod_ii nN, mod_ii nNi, he, hi, hm, hgo, hl5, hlen, g0, g1, lp1, fW, flat_rd, lp2, sp1, sp2, isn_n, nn_n, ha0, ra, lkW, rbt, cw, sw, lkm, k1, k2, b1, b2, rbd, lkb, hfb, hfw, hN0', rd_0, rd_1, k3, mr, lp3, ms, ho, lkn, hfl1, hfd, hll, lkh, c1l, g4, lp4, fa, lkf', ffl', hadd]
    · simp -implicitDefEqProofs only [d__law_logged, g__law_logged, xVar_a, xC_a, xBin_a, xUn_a, tOf_a, tTru_a, tNotP_a, tAndP_a, tOrP_a, tyes_a, tno_a, tYesP_a, xNil_a, xCons_a, xTup_a, xLst_a, xAnd_a, xOr_a, xIf_a, xChain_a, oNo_a, oAt_a, xSl_a, xCall_a, xSeq_a, xIt_a, xLc_a, gSet_a, gTupD_a, gsNil_a, gsCons_a, sNop_a, sBrk_a, sCnt_a, sSeq_a, sRet_a, sIf_a, sSet_a, sTgt_a, sAug_a, sApp_a, sExt_a, sPut_a, sPutK_a, pkO_s, sFor_a, sWhile_a, sPar_a, runD_a, b2_s, c2_s, sqO_nx, sqO_rt, sqO_bk, sqO_ct, ifO_t, ifO_f, stO_s, endO_nx, endO_rt, andO_t, andO_f, orO_t, orO_f, chO_s, chP_t, chP_f, slO_s, atO_i, lcO_s, forO_s, gsO_s, nxO_s, tgO_s, paO_s, apO_s, exO_s, plO_s, ptO_s, dB_b, tru_b, tru_n, tru_i, tru_l, tru_t, is_n, isn_n, nn_n, nn_i, nn_b, nn_t, nn_l, add_ii, add'_ii, sub_ii, neg_i, lt_ii, le_ii, gt_ii, ge_ii, ix_l, ix_t, ix_s, at0, at1, at2, sl_l, sl_t, len_l, len_t, len_s, abs_i, int_i, int_b, max_ii, min_ii, tup_s, lst_s, seq_l, seq_t, sum_s, wipe_n, wipe_c, mul_ii, fdiv_ii, mod_ii, add_ll, add_tt, setAll, mkT, mkL, oNot, List.getD_cons_zero, List.getD_cons_succ, List.length_cons, List.length_nil, List.set_cons_zero, List.set_cons_succ, List.map_cons, List.map_nil, List.replicate, List.cons_append, List.nil_append, List.append_nil, Option.bind_some, Option.map_some, List.all_cons, List.all_nil, if_true, if_false, reduceIte, Nat.reduceAdd, Nat.reduceSub, Nat.reduceLT, Nat.reduceLeDiff, Nat.reduceEqDiff, decide_true, decide_false, Bool.and_true, Bool.and_self, Bool.true_and, Bool.not_true, Bool.not_false, ne_eq, not_true_eq_false, not_false_eq_true, Nat.zero_add, Bool.false_eq_true, and_self, true_and, and_true, f0, hA, i22, i23, i24, i25, i26, mod_ii n3, mod_ii n25, mod_ii n5, mod_ii nN, mod_ii nNi, he, hi, hm, hgo, hl5, hlen, g0, g1, lp1, fW, flat_rd, lp2, sp1, sp2, isn_n, nn_n, ha0, ra, lkW, rbt, cw, sw, lkm, k1, k2, b1, b2, rbd, lkb, hfb, hfw, hN0', rd_0, rd_1, k3, mr, lp3, ms, ho, lkn, hfl1, hfd, hll, lkh, c1l, g4, lp4, fa, lkf', ffl', hadd]
end K28

namespace K28
open PySem PySem.Spec PyProof.Rows L2 Pm
/-! a steady log -/
def stL (b n v : Int) : List Sd := [(b, v), (b + n, v)]
theorem stL_spd (b n v h : Int) : spd (stL b n v) h = (v : Rat) := by
  show (if h ≤ b + n then seg ((b, v), (b + n, v)) h else (v : Rat)) = v
  split
  · unfold seg
    rw [Int.sub_self]
    rw [show ((0 : Int) : Rat) = 0 from rfl, Rat.zero_mul, Rat.add_zero]
  · rfl
theorem stL_rb (b n v c : Int) : ∀ k : Nat, rb (stL b n v) c k = ((v * (k : Nat) : Int) : Rat)
  | 0 => by
    rw [Int.natCast_zero, Int.mul_zero]
    rfl
  | k + 1 => by
    rw [rb_succ, stL_rb b n v c k]
    unfold hv
    rw [stL_spd, stL_spd]
    push_cast
    grind
theorem stL_ok {b n v : Int} (hb : 0 ≤ b) (hb2 : b ≤ 6) (hn : 2 ≤ n) (hn2 : n ≤ 8) (hv : 1 ≤ v) (hv2 : v ≤ 7) : LogOk (stL b n v) (b, v) (b + n, v) n where
  inc := by
    unfold stL Inc
    simp
    omega
  hd := rfl
  lst := rfl
  ok := by
    intro s hs
    simp [stL] at hs
    unfold Sm
    rcases hs with rfl | rfl <;> (constructor <;> (simp only; omega))
  pos := hb
  q0 := by omega
  qs := by unfold Sm; omega
  gap := by
    intro p hp
    simp [segs, stL] at hp
    subst hp
    show b + n - b ∣ n
    exact ⟨1, by omega⟩
  len := by simp [stL]
def stS (b v : Int) (n : Nat) : List Sd := (List.range n).map fun i : Nat => (b + (1 + (i : Nat)), v * (1 + (i : Nat)))
theorem stS_mem {b v : Int} {n : Nat} {s : Sd} (h : s ∈ stS b v n) : ∃ i : Nat, i < n ∧ s = (b + (1 + (i : Int)), v * (1 + (i : Int))) := by
  obtain ⟨i, hi, rfl⟩ := List.mem_map.mp h
  exact ⟨i, by simpa using hi, rfl⟩
theorem stS_inc (b v : Int) (n : Nat) : Inc (stS b v n) := by
  unfold stS Inc
  rw [List.pairwise_map]
  refine List.Pairwise.imp ?_ List.pairwise_lt_range
  intro i j h
  show b + (1 + (i : Int)) < b + (1 + (j : Int))
  omega
theorem mul_sm {v c : Int} (hv : 0 ≤ v) (hv2 : v ≤ 7) (hc : 0 ≤ c) (hc2 : c ≤ 8) : 0 ≤ v * c ∧ v * c ≤ 56 := by
  have h1 := Int.mul_nonneg hv hc
  have h2 := Int.mul_le_mul_of_nonneg_right hv2 hc
  omega
theorem stS_ok {b v : Int} {n : Nat} (hb : 0 ≤ b) (hb2 : b ≤ 6) (hn2 : n ≤ 8) (hv : 1 ≤ v) (hv2 : v ≤ 7) : OkS (stS b v n) := by
  intro s hs
  obtain ⟨i, hi, rfl⟩ := stS_mem hs
  have := mul_sm (v := v) (c := 1 + (i : Int)) (by omega) hv2 (by omega) (by omega)
  unfold Sm
  constructor <;> (simp only; omega)
theorem stS_eq {b v : Int} {n : Nat} {s : Sd} (h : s ∈ stS b v n) : s.2 = v * (s.1 - b) := by
  obtain ⟨i, hi, rfl⟩ := stS_mem h
  show v * (1 + (i : Int)) = v * (b + (1 + (i : Int)) - b)
  congr 1
  omega
theorem sq_lin {S : List Sd} {b v : Int} (h : ∀ s ∈ S, s.2 = v * (s.1 - b)) : dB2 S = v * (hB S - (S.length : Int) * b) ∧ bB S = v * (qB S - b * hB S) := by
  unfold dB2 bB hB qB
  induction S with
  | nil => simp [sq]
  | cons s S ih =>
    obtain ⟨h1, h2⟩ := ih fun t ht => h t (by simp [ht])
    have hs := h s (by simp)
    rw [sq_cons, sq_cons, sq_cons, sq_cons, h1, h2, hs, List.length_cons]
    push_cast
    constructor <;> grind
theorem lin_best {S : List Sd} {b v : Int} (hi : Inc S) (h2 : 2 ≤ S.length) (h : ∀ s ∈ S, s.2 = v * (s.1 - b)) : ((((S.length : Int) * bB S - hB S * dB2 S : Int) : Rat) / (under S : Rat)) = (v : Rat) ∧ (((dB2 S * qB S - hB S * bB S : Int) : Rat) / (under S : Rat)) = ((-v * b : Int) : Rat) := by
  obtain ⟨e1, e2⟩ := sq_lin h
  have hu := under_pos hi h2
  have hu' := cast_pos hu
  have k : ∀ x y : Int, x = y * under S → (x : Rat) / (under S : Rat) = (y : Rat) := fun x y h => by
    rw [h, Rat.intCast_mul, Rat.mul_div_cancel (by grind)]
  constructor
  · apply k
    rw [e1, e2]
    unfold under
    grind
  · apply k
    rw [e1, e2]
    unfold under
    grind
theorem lin_rates {S : List Sd} {b v : Int} (hi : Inc S) (h2 : 2 ≤ S.length) (h : ∀ s ∈ S, s.2 = v * (s.1 - b)) : rates S 0 = some ((v : Rat), (v : Rat)) := by
  have hp : ∀ p ∈ pairs S, plo 0 p = (v : Rat) ∧ phi 0 p = (v : Rat) := fun p hp => by
    have hlt := pairs_lt hi hp
    have hm := pairs_mem hp
    have hw : (0 : Rat) < ((p.2.1 - p.1.1 : Int) : Rat) := cast_pos (by omega)
    have e : p.2.2 - p.1.2 = v * (p.2.1 - p.1.1) := by
      rw [h _ hm.1, h _ hm.2]
      grind
    unfold plo phi
    rw [show p.2.2 - p.1.2 - 2 * 0 = v * (p.2.1 - p.1.1) by omega, show p.2.2 - p.1.2 + 2 * 0 = v * (p.2.1 - p.1.1) by omega, Rat.intCast_mul, Rat.mul_div_cancel (by grind)]
    exact ⟨rfl, rfl⟩
  obtain ⟨lo, hg, h3, h4, h5, _⟩ := rates_spec (S := S) 0 h2
  obtain ⟨p, hp1, e1⟩ := List.mem_map.mp (mx_mem h3)
  obtain ⟨q, hq1, e2⟩ := List.mem_map.mp (mn_mem h4)
  rw [(hp p hp1).1] at e1
  rw [(hp q hq1).2] at e2
  subst e1
  subst e2
  rw [h5, if_neg (by rw [Rat.not_lt]; exact Rat.le_refl)]
theorem lin_begun {b v : Int} {n : Nat} (hb : 0 ≤ b) (hn : 2 ≤ n) (hv : 1 ≤ v) : begun (stS b v n) 0 (b + 1) = .int b := by
  unfold begun
  have hf : (List.range (b + 1 + 1).toNat).find? (fun k => cbB (stS b v n) 0 (b + 1 - (k : Nat))) = some 1 := by
    rw [List.find?_range_eq_some]
    refine ⟨?_, by simp; omega, ?_⟩
    · rw [cbB_iff]
      have e : b + 1 - ((1 : Nat) : Int) = b := by omega
      rw [e]
      have hcl : ∀ s ∈ stS b v n, cl 0 b s = (v : Rat) ∧ cu 0 b s = (v : Rat) := fun s hs => by
        have he := stS_eq hs
        obtain ⟨i, hi, rfl⟩ := stS_mem hs
        have hw : (0 : Rat) < ((b + (1 + (i : Int)) - b : Int) : Rat) := cast_pos (by omega)
        unfold cl cu
        rw [Int.sub_zero, Int.add_zero, he, Rat.intCast_mul, Rat.mul_div_cancel (by grind)]
        exact ⟨rfl, rfl⟩
      refine ⟨fun s hs h => ?_, fun s hs t ht _ _ => ?_, fun t ht _ => ?_⟩
      · obtain ⟨i, hi, rfl⟩ := stS_mem hs
        simp only at h
        omega
      · rw [(hcl s hs).1, (hcl t ht).2]
        exact Rat.le_refl
      · rw [(hcl t ht).2]
        exact Rat.intCast_nonneg.mpr (by omega)
    · intro j hj
      have : j = 0 := by omega
      subst this
      rw [Bool.not_eq_true']
      cases hc : cbB (stS b v n) 0 (b + 1 - ((0 : Nat) : Int)) with
      | false => rfl
      | true =>
        have := (cbB_iff _ _ _).mp hc
        have h1 := this.1 (b + (1 + ((0 : Nat) : Int)), v * (1 + ((0 : Nat) : Int))) (List.mem_map.mpr ⟨0, by simp; omega, rfl⟩) (by simp only; omega)
        simp only at h1
        omega
  rw [hf]
  show PyData.int (b + 1 - ((1 : Nat) : Int)) = .int b
  congr 1
  omega
theorem ceil_find {v way : Int} {n : Nat} (hv : 1 ≤ v) (h0 : 0 ≤ way) (h1 : way ≤ v * (n : Int)) (P : Nat → Bool) (hP : ∀ k : Nat, P k = decide (way ≤ v * (k : Int))) : ∃ c : Nat, (way + v - 1).fdiv v = (c : Int) ∧ (List.range (n + 1)).find? P = some c := by
  have hf : (way + v - 1).fdiv v = (way + v - 1) / v := Int.fdiv_eq_ediv_of_nonneg _ (by omega)
  have hc0 : 0 ≤ (way + v - 1) / v := Int.ediv_nonneg (by omega) (by omega)
  obtain ⟨c, hc⟩ := Int.eq_ofNat_of_zero_le hc0
  have hd := Int.mul_ediv_add_emod (way + v - 1) v
  have hm1 := Int.emod_nonneg (way + v - 1) (show v ≠ 0 by omega)
  have hm2 := Int.emod_lt_of_pos (way + v - 1) (show 0 < v by omega)
  rw [hc] at hd
  refine ⟨c, by rw [hf, hc], ?_⟩
  rw [List.find?_range_eq_some]
  have hcn : c ≤ n := by
    by_cases h : c ≤ n
    · exact h
    · have : v * ((n : Int) + 1) ≤ v * (c : Int) := Int.mul_le_mul_of_nonneg_left (by omega) (by omega)
      have e : v * ((n : Int) + 1) = v * n + v := by grind
      omega
  refine ⟨?_, by simp; omega, ?_⟩
  · rw [hP]
    exact decide_eq_true (by omega)
  · intro j hj
    rw [hP, Bool.not_eq_true']
    refine decide_eq_false fun h => ?_
    have : v * ((j : Int) + 1) ≤ v * (c : Int) := Int.mul_le_mul_of_nonneg_left (by omega) (by omega)
    have e : v * ((j : Int) + 1) = v * j + v := by grind
    omega
theorem steady_loop {b v : Int} {n : Nat} (hb : 0 ≤ b) (hb2 : b ≤ 6) (hn : 2 ≤ n) (hn2 : n ≤ 8) (hv : 1 ≤ v) (hv2 : v ≤ 7) (y0 y2 y3 y5 y6 y9 : Option D) :
    ∃ j u, forL (gTupD 2 (gsCons (gSet 7) (gsCons (gSet 8) gsNil))) l1__law_steady ((stS b v n).map enc) [y0, some (.tuple ((stL b n v).map enc)), y2, y3, some (.int b), y5, y6, none, none, y9] =
      some (.nx [y0, some (.tuple ((stL b n v).map enc)), y2, y3, some (.int b), y5, y6, j, u, y9]) := by
  have hL := stL_ok hb hb2 (n := (n : Int)) (by omega) (by omega) hv hv2
  obtain ⟨ρ', e1, _, h⟩ := forL_inv (g := gTupD 2 (gsCons (gSet 7) (gsCons (gSet 8) gsNil))) (b := l1__law_steady) enc
    (fun pre rest ρ => pre ++ rest = stS b v n ∧ ∃ j u, ρ = [y0, some (.tuple ((stL b n v).map enc)), y2, y3, some (.int b), y5, y6, j, u, y9]) (fun pre x rest ρ ⟨hp, j, u, e'⟩ => by
      subst e'
      obtain ⟨i, hi, hx⟩ := stS_mem (s := x) (by rw [← hp]; simp)
      have rbt : d_run_between [.tuple ((stL b n v).map enc), .int b, .int x.1] = some (.tuple [.int x.2, .int 1]) := by
        have := run_between_eq false hL (b := b) (e := x.1) (by omega) (by rw [hx]; simp only; omega) (by rw [hx]; simp only; omega)
        rw [stL_rb, rd_int] at this
        have e2 : v * (((x.1 - b).toNat : Nat) : Int) = x.2 := by
          rw [hx]
          show v * (((b + (1 + (i : Int)) - b).toNat : Nat) : Int) = v * (1 + (i : Int))
          congr 1
          omega
        rw [e2] at this
        exact this
      have hfl : flat (.tuple [.int x.2, .int 1]) = true := rfl
      have lk : d__law_like 8 [.tuple [.int x.2, .int 1], .tuple [.int x.2, .int 1]] = some (.bool true) := like_rd 6 (x.2 : Rat)
      refine ⟨[y0, some (.tuple ((stL b n v).map enc)), y2, y3, some (.int b), y5, y6, some (.int x.1), some (.int x.2), y9], [y0, some (.tuple ((stL b n v).map enc)), y2, y3, some (.int b), y5, y6, some (.int x.1), some (.int x.2), y9], rfl, .inl ?_, by rw [List.append_assoc]; exact hp, _, _, rfl⟩
      generalize (stL b n v).map enc = M at *
      simp -implicitDefEqProofs only [l1__law_steady, xVar_a, xC_a, xBin_a, xUn_a, tOf_a, tTru_a, tNotP_a, tAndP_a, tOrP_a, tyes_a, tno_a, tYesP_a, xNil_a, xCons_a, xTup_a, xLst_a, xAnd_a, xOr_a, xIf_a, xChain_a, oNo_a, oAt_a, xSl_a, xCall_a, xSeq_a, xIt_a, xLc_a, gSet_a, gTupD_a, gsNil_a, gsCons_a, sNop_a, sBrk_a, sCnt_a, sSeq_a, sRet_a, sIf_a, sSet_a, sTgt_a, sAug_a, sApp_a, sExt_a, sPut_a, sPutK_a, pkO_s, sFor_a, sWhile_a, sPar_a, runD_a, b2_s, c2_s, sqO_nx, sqO_rt, sqO_bk, sqO_ct, ifO_t, ifO_f, stO_s, endO_nx, endO_rt, andO_t, andO_f, orO_t, orO_f, chO_s, chP_t, chP_f, slO_s, atO_i, lcO_s, forO_s, gsO_s, nxO_s, tgO_s, paO_s, apO_s, exO_s, plO_s, ptO_s, dB_b, tru_b, tru_n, tru_i, tru_l, tru_t, is_n, isn_n, nn_n, nn_i, nn_b, nn_t, nn_l, add_ii, add'_ii, sub_ii, neg_i, lt_ii, le_ii, gt_ii, ge_ii, ix_l, ix_t, ix_s, at0, at1, at2, sl_l, sl_t, len_l, len_t, len_s, abs_i, int_i, int_b, max_ii, min_ii, tup_s, lst_s, seq_l, seq_t, sum_s, wipe_n, wipe_c, mul_ii, fdiv_ii, mod_ii, add_ll, add_tt, setAll, mkT, mkL, oNot, List.getD_cons_zero, List.getD_cons_succ, List.length_cons, List.length_nil, List.set_cons_zero, List.set_cons_succ, List.map_cons, List.map_nil, List.replicate, List.cons_append, List.nil_append, List.append_nil, Option.bind_some, Option.map_some, List.all_cons, List.all_nil, if_true, if_false, reduceIte, Nat.reduceAdd, Nat.reduceSub, Nat.reduceLT, Nat.reduceLeDiff, Nat.reduceEqDiff, decide_true, decide_false, Bool.and_true, Bool.and_self, Bool.true_and, Bool.not_true, Bool.not_false, ne_eq, not_true_eq_false, not_false_eq_true, Nat.zero_add, Bool.false_eq_true, and_self, true_and, and_true, rbt, hfl, lk]) (stS b v n) [] [y0, some (.tuple ((stL b n v).map enc)), y2, y3, some (.int b), y5, y6, none, none, y9] ⟨rfl, none, none, rfl⟩
  obtain ⟨j, u, e'⟩ := h
  subst e'
  exact ⟨j, u, e1⟩
theorem steady_ok {r : List Int} (hr : r.length = 32) : d__law_steady [.list (r.map PyData.int)] = some (.bool true) := by
  have i27 : atI (r.map PyData.int) 27 = some (.int (r.getD 27 0)) := row_at r 27 (by omega)
  have i28 : atI (r.map PyData.int) 28 = some (.int (r.getD 28 0)) := row_at r 28 (by omega)
  have i29 : atI (r.map PyData.int) 29 = some (.int (r.getD 29 0)) := row_at r 29 (by omega)
  have i30 : atI (r.map PyData.int) 30 = some (.int (r.getD 30 0)) := row_at r 30 (by omega)
  obtain ⟨b, hb, hb6⟩ := fmod_nat (r.getD 27 0) (m := 6) (by decide)
  obtain ⟨n', hn', hn6⟩ := fmod_nat (r.getD 28 0) (m := 6) (by decide)
  obtain ⟨v', hv', hv6⟩ := fmod_nat (r.getD 29 0) (m := 6) (by decide)
  have n6 : (6 : Int) ≠ 0 := by decide
  have ev : (1 : Int) + (v' : Int) = ((1 + v' : Nat) : Int) := by omega
  have en : (2 : Int) + (n' : Int) = ((2 + n' : Nat) : Int) := by omega
  generalize hv : 1 + v' = v at *
  generalize hn : 2 + n' = n at *
  have hvp : (1 : Int) ≤ (v : Int) := by omega
  have hL := stL_ok (b := (b : Int)) (n := (n : Int)) (v := (v : Int)) (by omega) (by omega) (by omega) (by omega) hvp (by omega)
  have hvn := mul_sm (v := (v : Int)) (c := (n : Int)) (by omega) (by omega) (by omega) (by omega)
  obtain ⟨way, hw, hw2⟩ := fmod_nat (r.getD 30 0) (m := (v : Int) * (n : Int) + 1) (by omega)
  have nw : (v : Int) * (n : Int) + 1 ≠ 0 := by omega
  have sv : Sm 10 (v : Int) := by unfold Sm; omega
  have sn : Sm 10 (n : Int) := by unfold Sm; omega
  have sb : Sm 10 (b : Int) := by unfold Sm; omega
  have kvn : mulOk (v : Int) (n : Int) = true := sv.mulOk sn (by omega) (by omega)
  have kvb : mulOk (-(v : Int)) (b : Int) = true := sv.neg.mulOk sb (by omega) (by omega)
  have hS := stS_ok (b := (b : Int)) (v := (v : Int)) (n := n) (by omega) (by omega) (by omega) hvp (by omega)
  have hI := stS_inc (b : Int) (v : Int) n
  have hlen : (stS (b : Int) (v : Int) n).length = n := by simp [stS]
  have hR : oR2 [.int 1, .int ((n : Int) + 1)] = some ((List.range n).map fun k : Nat => PyData.int (1 + (k : Nat))) := by
    have := oR2_list (i := 1) (j := (n : Int) + 1) (by omega)
    rwa [show ((n : Int) + 1 - 1).toNat = n by omega] at this
  have hlc : ∀ ρ : PEnv, ρ.length = 10 → ρ.getD 4 none = some (.int (b : Int)) → ρ.getD 6 none = some (.int (v : Int)) → lcL (gSet 9) tYesP (xTup (xCons (xBin oAdd (xVar 4) (xVar 9)) (xCons (xBin oMul' (xVar 6) (xVar 9)) xNil))) ρ ((List.range n).map fun k : Nat => PyData.int (1 + (k : Nat))) = some ((stS (b : Int) (v : Int) n).map enc) := fun ρ hl h4 h6 => by
    match ρ, hl with
    | [a0, a1, a2, a3, a4, a5, a6, a7, a8, a9], _ =>
      simp only [List.getD_cons_succ, List.getD_cons_zero] at h4 h6
      subst h4
      subst h6
      unfold stS
      rw [List.map_map]
      refine lcL_map _ _ _ fun i hi => ?_
      have hi' : i < n := by simpa using hi
      have k : mulOk (v : Int) (1 + (i : Int)) = true := sv.mulOk (k := 10) (by unfold Sm; omega) (by omega) (by omega)
      simp -implicitDefEqProofs only [enc, Function.comp, xVar_a, xC_a, xBin_a, xUn_a, tOf_a, tTru_a, tNotP_a, tAndP_a, tOrP_a, tyes_a, tno_a, tYesP_a, xNil_a, xCons_a, xTup_a, xLst_a, xAnd_a, xOr_a, xIf_a, xChain_a, oNo_a, oAt_a, xSl_a, xCall_a, xSeq_a, xIt_a, xLc_a, gSet_a, gTupD_a, gsNil_a, gsCons_a, sNop_a, sBrk_a, sCnt_a, sSeq_a, sRet_a, sIf_a, sSet_a, sTgt_a, sAug_a, sApp_a, sExt_a, sPut_a, sPutK_a, pkO_s, sFor_a, sWhile_a, sPar_a, runD_a, b2_s, c2_s, sqO_nx, sqO_rt, sqO_bk, sqO_ct, ifO_t, ifO_f, stO_s, endO_nx, endO_rt, andO_t, andO_f, orO_t, orO_f, chO_s, chP_t, chP_f, slO_s, atO_i, lcO_s, forO_s, gsO_s, nxO_s, tgO_s, paO_s, apO_s, exO_s, plO_s, ptO_s, dB_b, tru_b, tru_n, tru_i, tru_l, tru_t, is_n, isn_n, nn_n, nn_i, nn_b, nn_t, nn_l, add_ii, add'_ii, sub_ii, neg_i, lt_ii, le_ii, gt_ii, ge_ii, ix_l, ix_t, ix_s, at0, at1, at2, sl_l, sl_t, len_l, len_t, len_s, abs_i, int_i, int_b, max_ii, min_ii, tup_s, lst_s, seq_l, seq_t, sum_s, wipe_n, wipe_c, mul_ii, fdiv_ii, mod_ii, add_ll, add_tt, setAll, mkT, mkL, oNot, List.getD_cons_zero, List.getD_cons_succ, List.length_cons, List.length_nil, List.set_cons_zero, List.set_cons_succ, List.map_cons, List.map_nil, List.replicate, List.cons_append, List.nil_append, List.append_nil, Option.bind_some, Option.map_some, List.all_cons, List.all_nil, if_true, if_false, reduceIte, Nat.reduceAdd, Nat.reduceSub, Nat.reduceLT, Nat.reduceLeDiff, Nat.reduceEqDiff, decide_true, decide_false, Bool.and_true, Bool.and_self, Bool.true_and, Bool.not_true, Bool.not_false, ne_eq, not_true_eq_false, not_false_eq_true, Nat.zero_add, Bool.false_eq_true, and_self, true_and, and_true, k]
  have eL : (stL (b : Int) (n : Int) (v : Int)).map enc = [.tuple [.int (b : Int), .int (v : Int)], .tuple [.int ((b : Int) + (n : Int)), .int (v : Int)]] := rfl
  obtain ⟨j, u, lp⟩ := steady_loop (b := (b : Int)) (v := (v : Int)) (n := n) (by omega) (by omega) (by omega) (by omega) hvp (by omega) (some (.list (r.map PyData.int))) (some (.tuple ((stS (b : Int) (v : Int) n).map enc))) none (some (.int (n : Nat))) (some (.int (v : Nat))) none
  have hlin := lin_best (S := stS (b : Int) (v : Int) n) hI (by omega) (fun s hs => stS_eq hs)
  have bl := best_line_eq hS hI (by omega) (by omega)
  rw [hlin.1, hlin.2, rd_int, rd_int] at bl
  have lkb : d__law_like 8 [.tuple [.tuple [.int (v : Int), .int 1], .tuple [.int (-(v : Int) * (b : Int)), .int 1]], .tuple [.tuple [.int (v : Int), .int 1], .tuple [.int (-(v : Int) * (b : Int)), .int 1]]] = some (.bool true) := like_rr 5 ((v : Int) : Rat) ((-(v : Int) * (b : Int) : Int) : Rat)
  have rr := rate_range_r hS hI (by omega) (by omega) (Sm.zero : Sm 10 0)
  rw [lin_rates hI (by omega) (fun s hs => stS_eq hs)] at rr
  have rr' : d_rate_range [.tuple ((stS (b : Int) (v : Int) n).map enc), .int 0] = some (.tuple [.tuple [.int (v : Int), .int 1], .tuple [.int (v : Int), .int 1]]) := rr
  have lkr : d__law_like 8 [.tuple [.tuple [.int (v : Int), .int 1], .tuple [.int (v : Int), .int 1]], .tuple [.tuple [.int (v : Int), .int 1], .tuple [.int (v : Int), .int 1]]] = some (.bool true) := like_rr 5 ((v : Int) : Rat) ((v : Int) : Rat)
  have fh : d_from_hour [.tuple ((stS (b : Int) (v : Int) n).map enc), .int 0] = some (.int (b : Int)) := by
    have hb := lin_begun (b := (b : Int)) (v := (v : Int)) (n := n) (by omega) (by omega) hvp
    have hc : stS (b : Int) (v : Int) n = ((b : Int) + (1 + ((0 : Nat) : Int)), (v : Int) * (1 + ((0 : Nat) : Int))) :: (stS (b : Int) (v : Int) n).tail := by
      obtain ⟨k, rfl⟩ : ∃ k, n = k + 1 := ⟨n - 1, by omega⟩
      unfold stS
      rw [List.range_succ_eq_map]
      rfl
    have := from_hour_eq (s0 := ((b : Int) + (1 + ((0 : Nat) : Int)), (v : Int) * (1 + ((0 : Nat) : Int)))) (S' := (stS (b : Int) (v : Int) n).tail) (e := 0) (by rw [← hc]; exact hS) (by rw [← hc]; exact hI) (by rw [← hc]; omega) Sm.zero (by show (0 : Int) ≤ (b : Int) + (1 + ((0 : Nat) : Int)); omega)
    rw [← hc] at this
    rw [this, show (b : Int) + (1 + ((0 : Nat) : Int)) = (b : Int) + 1 by omega, hb]
  have lki := like_int 7 (b : Int)
  obtain ⟨c, hc1, hc2⟩ := ceil_find (v := (v : Int)) (way := (way : Int)) (n := n) hvp (by omega) (by omega) (hourP (stL (b : Int) (n : Int) (v : Int)) ((b : Int), (v : Int)) (way : Int)) (fun k => by
    unfold hourP
    rw [stL_rb]
    by_cases h : (way : Int) ≤ (v : Int) * (k : Int)
    · rw [decide_eq_true h, decide_eq_false (by rw [Rat.not_lt]; exact Rat.intCast_le_intCast.mpr h)]
      rfl
    · rw [decide_eq_false h, decide_eq_true (Rat.intCast_lt_intCast.mpr (by omega))]
      rfl)
  have ho : d_hour_of [.tuple ((stL (b : Int) (n : Int) (v : Int)).map enc), .int (way : Nat)] = some (.int ((b : Int) + (c : Int))) := by
    have h := hour_of_eq false hL (goal := (way : Int)) (by unfold Sm; omega)
    have e : ((b : Int) + (n : Int) - (b : Int) + 1).toNat = n + 1 := by omega
    simp only at h
    rw [e, hc2] at h
    exact h
  have lkc := like_int 7 ((b : Int) + (c : Int))
  have dv : divOk (v : Int) = true := sv.divOk (by omega) (by omega)
  have hfi : flat (.int ((b : Int) + (c : Int))) = true := rfl
  rw [eL] at lp ho
  generalize (List.range n).map (fun k : Nat => PyData.int (1 + (k : Nat))) = RN at *
  generalize (stS (b : Int) (v : Int) n).map enc = MS at *
  generalize r.map PyData.int = RR at *
  simp -implicitDefEqProofs only [d__law_steady, g__law_steady, xVar_a, xC_a, xBin_a, xUn_a, tOf_a, tTru_a, tNotP_a, tAndP_a, tOrP_a, tyes_a, tno_a, tYesP_a, xNil_a, xCons_a, xTup_a, xLst_a, xAnd_a, xOr_a, xIf_a, xChain_a, oNo_a, oAt_a, xSl_a, xCall_a, xSeq_a, xIt_a, xLc_a, gSet_a, gTupD_a, gsNil_a, gsCons_a, sNop_a, sBrk_a, sCnt_a, sSeq_a, sRet_a, sIf_a, sSet_a, sTgt_a, sAug_a, sApp_a, sExt_a, sPut_a, sPutK_a, pkO_s, sFor_a, sWhile_a, sPar_a, runD_a, b2_s, c2_s, sqO_nx, sqO_rt, sqO_bk, sqO_ct, ifO_t, ifO_f, stO_s, endO_nx, endO_rt, andO_t, andO_f, orO_t, orO_f, chO_s, chP_t, chP_f, slO_s, atO_i, lcO_s, forO_s, gsO_s, nxO_s, tgO_s, paO_s, apO_s, exO_s, plO_s, ptO_s, dB_b, tru_b, tru_n, tru_i, tru_l, tru_t, is_n, isn_n, nn_n, nn_i, nn_b, nn_t, nn_l, add_ii, add'_ii, sub_ii, neg_i, lt_ii, le_ii, gt_ii, ge_ii, ix_l, ix_t, ix_s, at0, at1, at2, sl_l, sl_t, len_l, len_t, len_s, abs_i, int_i, int_b, max_ii, min_ii, tup_s, lst_s, seq_l, seq_t, sum_s, wipe_n, wipe_c, mul_ii, fdiv_ii, mod_ii, add_ll, add_tt, setAll, mkT, mkL, oNot, List.getD_cons_zero, List.getD_cons_succ, List.length_cons, List.length_nil, List.set_cons_zero, List.set_cons_succ, List.map_cons, List.map_nil, List.replicate, List.cons_append, List.nil_append, List.append_nil, Option.bind_some, Option.map_some, List.all_cons, List.all_nil, if_true, if_false, reduceIte, Nat.reduceAdd, Nat.reduceSub, Nat.reduceLT, Nat.reduceLeDiff, Nat.reduceEqDiff, decide_true, decide_false, Bool.and_true, Bool.and_self, Bool.true_and, Bool.not_true, Bool.not_false, ne_eq, not_true_eq_false, not_false_eq_true, Nat.zero_add, Bool.false_eq_true, and_self, true_and, and_true, i27, i28, i29, i30, mod_ii n6, mod_ii nw, hb, hn', hv', en, ev, hR, hlc, lp, bl, kvb, lkb, rr', lkr, fh, lki, kvn, hw, ho, hfi, fdiv_ii dv, hc1, lkc]
end K28

namespace K28
open PySem PySem.Spec PyProof.Rows L2 Pm
theorem mulOk_r (a : Int) {b : Int} (h : b.natAbs < 2 ^ 63) : mulOk a b = true := by
  unfold mulOk
  rw [decide_eq_true h]
  simp
theorem mulOk_lt {a b m : Int} (h0 : 0 ≤ a) (h : a < m) (hm : m ≤ 2147483647) : mulOk a b = true := by
  unfold mulOk
  rw [decide_eq_true (show a.natAbs < 2 ^ 63 by omega)]
  simp
theorem divOk_lit {b : Int} (h : b ≠ 0) (h2 : Sm 20 b) : divOk b = true := h2.divOk h (by omega)
def mix1 (c k : Int) : Int := (c * 48271 + k * 69621 + 8191).fmod 2147483647
def mix2 (c k : Int) : Int := (mix1 c k * mix1 c k + (mix1 c k).fdiv 7 + k * 16807).fmod 2147483629
def mix3 (c k : Int) : Int := (mix2 c k * mix2 c k + (mix2 c k).fdiv 11 + 40692).fmod 2147483563
theorem mixed_int (ns : List Int) (k : Nat) : ∃ v : Int, d__law_mixed [scr (ns.map PyData.int), .int k] = some (.int v) := by
  obtain ⟨c, hc⟩ : ∃ c : Int, (if 0 < ns.length then oIx (scr (ns.map PyData.int)) (.int ((k : Int).fmod ns.length)) else some (.int 0)) = some (.int c) := by
    by_cases h : 0 < ns.length
    · have h1 := fmod_rng (k : Int) (m := (ns.length : Int)) (by omega)
      obtain ⟨j, hj⟩ := Int.eq_ofNat_of_zero_le h1.1
      rw [if_pos h, hj]
      have h2 := h1.2
      rw [hj] at h2
      exact ⟨_, row_at ns j (by omega)⟩
    · exact ⟨0, if_neg h⟩
  have m1 := mulOk_r c (b := 48271) (by decide)
  have m2 := mulOk_r (k : Int) (b := 69621) (by decide)
  have m3 := mulOk_r (k : Int) (b := 16807) (by decide)
  have n1 : (2147483647 : Int) ≠ 0 := by decide
  have n2 : (2147483629 : Int) ≠ 0 := by decide
  have n3 : (2147483563 : Int) ≠ 0 := by decide
  have n4 : (1000003 : Int) ≠ 0 := by decide
  have d1 := divOk_lit (b := 7) (by decide) Sm.lit
  have d2 := divOk_lit (b := 11) (by decide) Sm.lit
  have d3 := divOk_lit (b := 5) (by decide) Sm.lit
  have r1 := fmod_rng (c * 48271 + (k : Int) * 69621 + 8191) (m := 2147483647) (by decide)
  have m4 : ∀ x, mulOk ((c * 48271 + (k : Int) * 69621 + 8191).fmod 2147483647) x = true := fun x => mulOk_lt r1.1 r1.2 (by decide)
  have r2 := fun x : Int => fmod_rng x (m := 2147483629) (by decide)
  have m5 : ∀ x y : Int, mulOk (x.fmod 2147483629) y = true := fun x y => mulOk_lt (r2 x).1 (r2 x).2 (by decide)
  by_cases h : 0 < ns.length
  · have h' : (0 : Int) < (ns.length : Int) := by omega
    have hn : (ns.length : Int) ≠ 0 := by omega
    rw [if_pos h, ix_s] at hc
    refine ⟨((mix3 c k).fdiv 5).fmod 1000003, ?_⟩
    simp only [mix3, mix2, mix1]
    simp -implicitDefEqProofs only [d__law_mixed, g__law_mixed, xVar_a, xC_a, xBin_a, xUn_a, tOf_a, tTru_a, tNotP_a, tAndP_a, tOrP_a, tyes_a, tno_a, tYesP_a, xNil_a, xCons_a, xTup_a, xLst_a, xAnd_a, xOr_a, xIf_a, xChain_a, oNo_a, oAt_a, xSl_a, xCall_a, xSeq_a, xIt_a, xLc_a, gSet_a, gTupD_a, gsNil_a, gsCons_a, sNop_a, sBrk_a, sCnt_a, sSeq_a, sRet_a, sIf_a, sSet_a, sTgt_a, sAug_a, sApp_a, sExt_a, sPut_a, sPutK_a, pkO_s, sFor_a, sWhile_a, sPar_a, runD_a, b2_s, c2_s, sqO_nx, sqO_rt, sqO_bk, sqO_ct, ifO_t, ifO_f, stO_s, endO_nx, endO_rt, andO_t, andO_f, orO_t, orO_f, chO_s, chP_t, chP_f, slO_s, atO_i, lcO_s, forO_s, gsO_s, nxO_s, tgO_s, paO_s, apO_s, exO_s, plO_s, ptO_s, dB_b, tru_b, tru_n, tru_i, tru_l, tru_t, is_n, isn_n, nn_n, nn_i, nn_b, nn_t, nn_l, add_ii, add'_ii, sub_ii, neg_i, lt_ii, le_ii, gt_ii, ge_ii, ix_l, ix_t, ix_s, at0, at1, at2, sl_l, sl_t, len_l, len_t, len_s, abs_i, int_i, int_b, max_ii, min_ii, tup_s, lst_s, seq_l, seq_t, sum_s, wipe_n, wipe_c, mul_ii, fdiv_ii, mod_ii, add_ll, add_tt, setAll, mkT, mkL, oNot, List.getD_cons_zero, List.getD_cons_succ, List.length_cons, List.length_nil, List.set_cons_zero, List.set_cons_succ, List.map_cons, List.map_nil, List.replicate, List.cons_append, List.nil_append, List.append_nil, Option.bind_some, Option.map_some, List.all_cons, List.all_nil, if_true, if_false, reduceIte, Nat.reduceAdd, Nat.reduceSub, Nat.reduceLT, Nat.reduceLeDiff, Nat.reduceEqDiff, decide_true, decide_false, Bool.and_true, Bool.and_self, Bool.true_and, Bool.not_true, Bool.not_false, ne_eq, not_true_eq_false, not_false_eq_true, Nat.zero_add, Bool.false_eq_true, and_self, true_and, and_true, List.length_map, h', mod_ii hn, hc, m1, m2, m3, m4, m5, mod_ii n1, mod_ii n2, mod_ii n3, mod_ii n4, fdiv_ii d1, fdiv_ii d2, fdiv_ii d3]
  · have h' : ¬ (0 : Int) < (ns.length : Int) := by omega
    rw [if_neg h] at hc
    cases hc
    refine ⟨((mix3 0 k).fdiv 5).fmod 1000003, ?_⟩
    simp only [mix3, mix2, mix1]
    simp -implicitDefEqProofs only [d__law_mixed, g__law_mixed, xVar_a, xC_a, xBin_a, xUn_a, tOf_a, tTru_a, tNotP_a, tAndP_a, tOrP_a, tyes_a, tno_a, tYesP_a, xNil_a, xCons_a, xTup_a, xLst_a, xAnd_a, xOr_a, xIf_a, xChain_a, oNo_a, oAt_a, xSl_a, xCall_a, xSeq_a, xIt_a, xLc_a, gSet_a, gTupD_a, gsNil_a, gsCons_a, sNop_a, sBrk_a, sCnt_a, sSeq_a, sRet_a, sIf_a, sSet_a, sTgt_a, sAug_a, sApp_a, sExt_a, sPut_a, sPutK_a, pkO_s, sFor_a, sWhile_a, sPar_a, runD_a, b2_s, c2_s, sqO_nx, sqO_rt, sqO_bk, sqO_ct, ifO_t, ifO_f, stO_s, endO_nx, endO_rt, andO_t, andO_f, orO_t, orO_f, chO_s, chP_t, chP_f, slO_s, atO_i, lcO_s, forO_s, gsO_s, nxO_s, tgO_s, paO_s, apO_s, exO_s, plO_s, ptO_s, dB_b, tru_b, tru_n, tru_i, tru_l, tru_t, is_n, isn_n, nn_n, nn_i, nn_b, nn_t, nn_l, add_ii, add'_ii, sub_ii, neg_i, lt_ii, le_ii, gt_ii, ge_ii, ix_l, ix_t, ix_s, at0, at1, at2, sl_l, sl_t, len_l, len_t, len_s, abs_i, int_i, int_b, max_ii, min_ii, tup_s, lst_s, seq_l, seq_t, sum_s, wipe_n, wipe_c, mul_ii, fdiv_ii, mod_ii, add_ll, add_tt, setAll, mkT, mkL, oNot, List.getD_cons_zero, List.getD_cons_succ, List.length_cons, List.length_nil, List.set_cons_zero, List.set_cons_succ, List.map_cons, List.map_nil, List.replicate, List.cons_append, List.nil_append, List.append_nil, Option.bind_some, Option.map_some, List.all_cons, List.all_nil, if_true, if_false, reduceIte, Nat.reduceAdd, Nat.reduceSub, Nat.reduceLT, Nat.reduceLeDiff, Nat.reduceEqDiff, decide_true, decide_false, Bool.and_true, Bool.and_self, Bool.true_and, Bool.not_true, Bool.not_false, ne_eq, not_true_eq_false, not_false_eq_true, Nat.zero_add, Bool.false_eq_true, and_self, true_and, and_true, List.length_map, h', m1, m2, m3, m4, m5, mod_ii n1, mod_ii n2, mod_ii n3, mod_ii n4, fdiv_ii d1, fdiv_ii d2, fdiv_ii d3]
theorem row_int (ns : List Int) : ∃ r : List Int, r.length = 32 ∧ d__law_row [scr (ns.map PyData.int), .int 32] = some (.list (r.map PyData.int)) := by
  have hr : oR1 [.int 32] = some (List.map (fun i => PyData.int (i : Nat)) (List.range 32)) := oR1_nat 32 (by omega)
  have n1 : (1000 : Int) ≠ 0 := by decide
  have d1 := divOk_lit (b := 1000) (by decide) Sm.lit
  have key : ∀ big : Int, ∃ r : List Int, r.length = 32 ∧ ∃ x y, forL (gSet 4) l1__law_row (List.map (fun i => PyData.int (i : Nat)) (List.range 32)) [some (scr (ns.map PyData.int)), some (.int 32), some (.int big), some (.list []), none] = some (.nx [some (scr (ns.map PyData.int)), some (.int 32), x, some (.list (r.map PyData.int)), y]) := fun big => by
    obtain ⟨ρ', e, h⟩ := forL_inv (g := gSet 4) (b := l1__law_row) (fun i : Nat => PyData.int (i : Nat))
      (fun pre rest ρ => pre.length + rest.length = 32 ∧ ∃ (r : List Int) (big : Int) (j : Option D), r.length = pre.length ∧ ρ = [some (scr (ns.map PyData.int)), some (.int 32), some (.int big), some (.list (r.map PyData.int)), j]) (fun pre x rest ρ ⟨hl, r, big, j, hrl, e⟩ => by
        subst e
        have hx : (r.map PyData.int).length < 16777216 := by rw [List.length_map]; simp at hl; omega
        obtain ⟨v, hv⟩ := mixed_int ns x
        by_cases hb : 0 < big
        · refine ⟨_, [some (scr (ns.map PyData.int)), some (.int 32), some (.int (big.fdiv 1000)), some (.list ((r ++ [big.fmod 1000]).map PyData.int)), some (.int x)], rfl, .inl ?_, by simp at hl ⊢; omega, r ++ [big.fmod 1000], big.fdiv 1000, some (.int x), by simp; omega, rfl⟩
          simp -implicitDefEqProofs only [l1__law_row, xVar_a, xC_a, xBin_a, xUn_a, tOf_a, tTru_a, tNotP_a, tAndP_a, tOrP_a, tyes_a, tno_a, tYesP_a, xNil_a, xCons_a, xTup_a, xLst_a, xAnd_a, xOr_a, xIf_a, xChain_a, oNo_a, oAt_a, xSl_a, xCall_a, xSeq_a, xIt_a, xLc_a, gSet_a, gTupD_a, gsNil_a, gsCons_a, sNop_a, sBrk_a, sCnt_a, sSeq_a, sRet_a, sIf_a, sSet_a, sTgt_a, sAug_a, sApp_a, sExt_a, sPut_a, sPutK_a, pkO_s, sFor_a, sWhile_a, sPar_a, runD_a, b2_s, c2_s, sqO_nx, sqO_rt, sqO_bk, sqO_ct, ifO_t, ifO_f, stO_s, endO_nx, endO_rt, andO_t, andO_f, orO_t, orO_f, chO_s, chP_t, chP_f, slO_s, atO_i, lcO_s, forO_s, gsO_s, nxO_s, tgO_s, paO_s, apO_s, exO_s, plO_s, ptO_s, dB_b, tru_b, tru_n, tru_i, tru_l, tru_t, is_n, isn_n, nn_n, nn_i, nn_b, nn_t, nn_l, add_ii, add'_ii, sub_ii, neg_i, lt_ii, le_ii, gt_ii, ge_ii, ix_l, ix_t, ix_s, at0, at1, at2, sl_l, sl_t, len_l, len_t, len_s, abs_i, int_i, int_b, max_ii, min_ii, tup_s, lst_s, seq_l, seq_t, sum_s, wipe_n, wipe_c, mul_ii, fdiv_ii, mod_ii, add_ll, add_tt, setAll, mkT, mkL, oNot, List.getD_cons_zero, List.getD_cons_succ, List.length_cons, List.length_nil, List.set_cons_zero, List.set_cons_succ, List.map_cons, List.map_nil, List.replicate, List.cons_append, List.nil_append, List.append_nil, Option.bind_some, Option.map_some, List.all_cons, List.all_nil, if_true, if_false, reduceIte, Nat.reduceAdd, Nat.reduceSub, Nat.reduceLT, Nat.reduceLeDiff, Nat.reduceEqDiff, decide_true, decide_false, Bool.and_true, Bool.and_self, Bool.true_and, Bool.not_true, Bool.not_false, ne_eq, not_true_eq_false, not_false_eq_true, Nat.zero_add, Bool.false_eq_true, and_self, true_and, and_true, hb, mod_ii n1, fdiv_ii d1, hx, List.map_append]
        · refine ⟨_, [some (scr (ns.map PyData.int)), some (.int 32), some (.int big), some (.list ((r ++ [v]).map PyData.int)), some (.int x)], rfl, .inl ?_, by simp at hl ⊢; omega, r ++ [v], big, some (.int x), by simp; omega, rfl⟩
          simp -implicitDefEqProofs only [l1__law_row, xVar_a, xC_a, xBin_a, xUn_a, tOf_a, tTru_a, tNotP_a, tAndP_a, tOrP_a, tyes_a, tno_a, tYesP_a, xNil_a, xCons_a, xTup_a, xLst_a, xAnd_a, xOr_a, xIf_a, xChain_a, oNo_a, oAt_a, xSl_a, xCall_a, xSeq_a, xIt_a, xLc_a, gSet_a, gTupD_a, gsNil_a, gsCons_a, sNop_a, sBrk_a, sCnt_a, sSeq_a, sRet_a, sIf_a, sSet_a, sTgt_a, sAug_a, sApp_a, sExt_a, sPut_a, sPutK_a, pkO_s, sFor_a, sWhile_a, sPar_a, runD_a, b2_s, c2_s, sqO_nx, sqO_rt, sqO_bk, sqO_ct, ifO_t, ifO_f, stO_s, endO_nx, endO_rt, andO_t, andO_f, orO_t, orO_f, chO_s, chP_t, chP_f, slO_s, atO_i, lcO_s, forO_s, gsO_s, nxO_s, tgO_s, paO_s, apO_s, exO_s, plO_s, ptO_s, dB_b, tru_b, tru_n, tru_i, tru_l, tru_t, is_n, isn_n, nn_n, nn_i, nn_b, nn_t, nn_l, add_ii, add'_ii, sub_ii, neg_i, lt_ii, le_ii, gt_ii, ge_ii, ix_l, ix_t, ix_s, at0, at1, at2, sl_l, sl_t, len_l, len_t, len_s, abs_i, int_i, int_b, max_ii, min_ii, tup_s, lst_s, seq_l, seq_t, sum_s, wipe_n, wipe_c, mul_ii, fdiv_ii, mod_ii, add_ll, add_tt, setAll, mkT, mkL, oNot, List.getD_cons_zero, List.getD_cons_succ, List.length_cons, List.length_nil, List.set_cons_zero, List.set_cons_succ, List.map_cons, List.map_nil, List.replicate, List.cons_append, List.nil_append, List.append_nil, Option.bind_some, Option.map_some, List.all_cons, List.all_nil, if_true, if_false, reduceIte, Nat.reduceAdd, Nat.reduceSub, Nat.reduceLT, Nat.reduceLeDiff, Nat.reduceEqDiff, decide_true, decide_false, Bool.and_true, Bool.and_self, Bool.true_and, Bool.not_true, Bool.not_false, ne_eq, not_true_eq_false, not_false_eq_true, Nat.zero_add, Bool.false_eq_true, and_self, true_and, and_true, hb, hv, hx, List.map_append]) (List.range 32) [] [some (scr (ns.map PyData.int)), some (.int 32), some (.int big), some (.list []), none] ⟨by simp, [], big, none, rfl, rfl⟩
    obtain ⟨_, r, big', j, hrl, e'⟩ := h
    subst e'
    exact ⟨r, by simpa using hrl, _, _, e⟩
  have pw : oPow (.int 10) (.int 18) = some (.int 1000000000000000000) := by
    show (if (0 : Int) ≤ 18 ∧ (18 : Int) ≤ 1000000 ∧ (10 : Int).natAbs < 2 ^ 64 then some (PyData.int (10 ^ (18 : Int).toNat)) else none) = _
    rw [if_pos (by decide)]
    rfl
  cases ns with
  | nil =>
    obtain ⟨r, h1, x, y, h2⟩ := key 0
    refine ⟨r, h1, ?_⟩
    have e0 : ¬ (0 : Int) < ((0 : Nat) : Int) := by decide
    simp only [List.map_nil] at h2
    simp -implicitDefEqProofs only [d__law_row, g__law_row, xVar_a, xC_a, xBin_a, xUn_a, tOf_a, tTru_a, tNotP_a, tAndP_a, tOrP_a, tyes_a, tno_a, tYesP_a, xNil_a, xCons_a, xTup_a, xLst_a, xAnd_a, xOr_a, xIf_a, xChain_a, oNo_a, oAt_a, xSl_a, xCall_a, xSeq_a, xIt_a, xLc_a, gSet_a, gTupD_a, gsNil_a, gsCons_a, sNop_a, sBrk_a, sCnt_a, sSeq_a, sRet_a, sIf_a, sSet_a, sTgt_a, sAug_a, sApp_a, sExt_a, sPut_a, sPutK_a, pkO_s, sFor_a, sWhile_a, sPar_a, runD_a, b2_s, c2_s, sqO_nx, sqO_rt, sqO_bk, sqO_ct, ifO_t, ifO_f, stO_s, endO_nx, endO_rt, andO_t, andO_f, orO_t, orO_f, chO_s, chP_t, chP_f, slO_s, atO_i, lcO_s, forO_s, gsO_s, nxO_s, tgO_s, paO_s, apO_s, exO_s, plO_s, ptO_s, dB_b, tru_b, tru_n, tru_i, tru_l, tru_t, is_n, isn_n, nn_n, nn_i, nn_b, nn_t, nn_l, add_ii, add'_ii, sub_ii, neg_i, lt_ii, le_ii, gt_ii, ge_ii, ix_l, ix_t, ix_s, at0, at1, at2, sl_l, sl_t, len_l, len_t, len_s, abs_i, int_i, int_b, max_ii, min_ii, tup_s, lst_s, seq_l, seq_t, sum_s, wipe_n, wipe_c, mul_ii, fdiv_ii, mod_ii, add_ll, add_tt, setAll, mkT, mkL, oNot, List.getD_cons_zero, List.getD_cons_succ, List.length_cons, List.length_nil, List.set_cons_zero, List.set_cons_succ, List.map_cons, List.map_nil, List.replicate, List.cons_append, List.nil_append, List.append_nil, Option.bind_some, Option.map_some, List.all_cons, List.all_nil, if_true, if_false, reduceIte, Nat.reduceAdd, Nat.reduceSub, Nat.reduceLT, Nat.reduceLeDiff, Nat.reduceEqDiff, decide_true, decide_false, Bool.and_true, Bool.and_self, Bool.true_and, Bool.not_true, Bool.not_false, ne_eq, not_true_eq_false, not_false_eq_true, Nat.zero_add, Bool.false_eq_true, and_self, true_and, and_true, e0, hr, h2]
  | cons c cs =>
    have e0 : (0 : Int) < ((cs.length + 1 : Nat) : Int) := by omega
    have hc : atI (PyData.int c :: cs.map PyData.int) 0 = some (.int c) := at0 _ _
    by_cases hb : (1000000000000000000 : Int) ≤ c
    · obtain ⟨r, h1, x, y, h2⟩ := key c
      refine ⟨r, h1, ?_⟩
      simp only [List.map_cons] at h2
      simp -implicitDefEqProofs only [d__law_row, g__law_row, xVar_a, xC_a, xBin_a, xUn_a, tOf_a, tTru_a, tNotP_a, tAndP_a, tOrP_a, tyes_a, tno_a, tYesP_a, xNil_a, xCons_a, xTup_a, xLst_a, xAnd_a, xOr_a, xIf_a, xChain_a, oNo_a, oAt_a, xSl_a, xCall_a, xSeq_a, xIt_a, xLc_a, gSet_a, gTupD_a, gsNil_a, gsCons_a, sNop_a, sBrk_a, sCnt_a, sSeq_a, sRet_a, sIf_a, sSet_a, sTgt_a, sAug_a, sApp_a, sExt_a, sPut_a, sPutK_a, pkO_s, sFor_a, sWhile_a, sPar_a, runD_a, b2_s, c2_s, sqO_nx, sqO_rt, sqO_bk, sqO_ct, ifO_t, ifO_f, stO_s, endO_nx, endO_rt, andO_t, andO_f, orO_t, orO_f, chO_s, chP_t, chP_f, slO_s, atO_i, lcO_s, forO_s, gsO_s, nxO_s, tgO_s, paO_s, apO_s, exO_s, plO_s, ptO_s, dB_b, tru_b, tru_n, tru_i, tru_l, tru_t, is_n, isn_n, nn_n, nn_i, nn_b, nn_t, nn_l, add_ii, add'_ii, sub_ii, neg_i, lt_ii, le_ii, gt_ii, ge_ii, ix_l, ix_t, ix_s, at0, at1, at2, sl_l, sl_t, len_l, len_t, len_s, abs_i, int_i, int_b, max_ii, min_ii, tup_s, lst_s, seq_l, seq_t, sum_s, wipe_n, wipe_c, mul_ii, fdiv_ii, mod_ii, add_ll, add_tt, setAll, mkT, mkL, oNot, List.getD_cons_zero, List.getD_cons_succ, List.length_cons, List.length_nil, List.set_cons_zero, List.set_cons_succ, List.map_cons, List.map_nil, List.replicate, List.cons_append, List.nil_append, List.append_nil, Option.bind_some, Option.map_some, List.all_cons, List.all_nil, if_true, if_false, reduceIte, Nat.reduceAdd, Nat.reduceSub, Nat.reduceLT, Nat.reduceLeDiff, Nat.reduceEqDiff, decide_true, decide_false, Bool.and_true, Bool.and_self, Bool.true_and, Bool.not_true, Bool.not_false, ne_eq, not_true_eq_false, not_false_eq_true, Nat.zero_add, Bool.false_eq_true, and_self, true_and, and_true, List.length_map, e0, hc, pw, hb, hr, h2]
    · obtain ⟨r, h1, x, y, h2⟩ := key 0
      refine ⟨r, h1, ?_⟩
      simp only [List.map_cons] at h2
      simp -implicitDefEqProofs only [d__law_row, g__law_row, xVar_a, xC_a, xBin_a, xUn_a, tOf_a, tTru_a, tNotP_a, tAndP_a, tOrP_a, tyes_a, tno_a, tYesP_a, xNil_a, xCons_a, xTup_a, xLst_a, xAnd_a, xOr_a, xIf_a, xChain_a, oNo_a, oAt_a, xSl_a, xCall_a, xSeq_a, xIt_a, xLc_a, gSet_a, gTupD_a, gsNil_a, gsCons_a, sNop_a, sBrk_a, sCnt_a, sSeq_a, sRet_a, sIf_a, sSet_a, sTgt_a, sAug_a, sApp_a, sExt_a, sPut_a, sPutK_a, pkO_s, sFor_a, sWhile_a, sPar_a, runD_a, b2_s, c2_s, sqO_nx, sqO_rt, sqO_bk, sqO_ct, ifO_t, ifO_f, stO_s, endO_nx, endO_rt, andO_t, andO_f, orO_t, orO_f, chO_s, chP_t, chP_f, slO_s, atO_i, lcO_s, forO_s, gsO_s, nxO_s, tgO_s, paO_s, apO_s, exO_s, plO_s, ptO_s, dB_b, tru_b, tru_n, tru_i, tru_l, tru_t, is_n, isn_n, nn_n, nn_i, nn_b, nn_t, nn_l, add_ii, add'_ii, sub_ii, neg_i, lt_ii, le_ii, gt_ii, ge_ii, ix_l, ix_t, ix_s, at0, at1, at2, sl_l, sl_t, len_l, len_t, len_s, abs_i, int_i, int_b, max_ii, min_ii, tup_s, lst_s, seq_l, seq_t, sum_s, wipe_n, wipe_c, mul_ii, fdiv_ii, mod_ii, add_ll, add_tt, setAll, mkT, mkL, oNot, List.getD_cons_zero, List.getD_cons_succ, List.length_cons, List.length_nil, List.set_cons_zero, List.set_cons_succ, List.map_cons, List.map_nil, List.replicate, List.cons_append, List.nil_append, List.append_nil, Option.bind_some, Option.map_some, List.all_cons, List.all_nil, if_true, if_false, reduceIte, Nat.reduceAdd, Nat.reduceSub, Nat.reduceLT, Nat.reduceLeDiff, Nat.reduceEqDiff, decide_true, decide_false, Bool.and_true, Bool.and_self, Bool.true_and, Bool.not_true, Bool.not_false, ne_eq, not_true_eq_false, not_false_eq_true, Nat.zero_add, Bool.false_eq_true, and_self, true_and, and_true, List.length_map, e0, hc, pw, hb, hr, h2]
end K28

namespace K28
open PySem PySem.Spec PyProof.Rows L2 Pm
theorem pairs_len (S : List Sd) : (pairs S).length ≤ S.length * S.length := by
  induction S with
  | nil => simp [pairs]
  | cons s S ih =>
    simp only [pairs, List.length_append, List.length_map, List.length_cons]
    have : (S.length + 1) * (S.length + 1) = S.length * S.length + S.length + S.length + 1 := by
      rw [Nat.mul_add, Nat.add_mul]
      omega
    omega
theorem inc_app {S : List Sd} {s : Sd} (hi : Inc S) (h : ∀ t ∈ S, t.1 < s.1) : Inc (S ++ [s]) := by
  unfold Inc
  rw [List.pairwise_append]
  refine ⟨hi, by simp, fun t ht u hu => ?_⟩
  simp at hu
  subst hu
  exact h t ht
theorem rowI {r : List Int} (hr : r.length = 32) (c k : Nat) (h : c + k < 32) : atI (r.map PyData.int) ((c : Int) + (k : Int)) = some (.int (r.getD (c + k) 0)) := by
  have := row_at r (c + k) (by omega)
  rwa [Int.natCast_add] at this
theorem sound_loop {r : List Int} (hr : r.length = 32) {hour0 rate e start count : Nat} (h1 : 1 ≤ hour0) (h4 : hour0 ≤ 4) (hrate : rate ≤ 5) (he : e ≤ 2) (hst : start ≤ hour0) (hc2 : 2 ≤ count) (hc4 : count ≤ 4) (y0 y7 : Option D) (sp : Nat) :
    ∃ (S : List Sd) (h : Int) (j d : Option D), S.length = count ∧ Inc S ∧ (∀ s ∈ S, 1 ≤ s.1 ∧ s.1 ≤ 20 ∧ 0 ≤ s.2 ∧ s.2 ≤ 99) ∧
      forL (gSet 2) l1_law ((List.range count).map fun k : Nat => PyData.int (k : Nat)) [y0, some (.int (sp : Nat)), none, none, some (.list []), some (.int (hour0 : Nat)), some (.list (r.map PyData.int)), y7, some (.int (rate : Nat)), some (.int (e : Nat)), some (.int (start : Nat)), some (.int (count : Nat)), none] =
      some (.nx [y0, some (.int (sp : Nat)), j, none, some (.list (S.map enc)), some (.int h), some (.list (r.map PyData.int)), y7, some (.int (rate : Nat)), some (.int (e : Nat)), some (.int (start : Nat)), some (.int (count : Nat)), d]) := by
  obtain ⟨ρ', e1, _, h⟩ := forL_inv (g := gSet 2) (b := l1_law) (fun k : Nat => PyData.int (k : Nat))
    (fun pre rest ρ => pre ++ rest = List.range count ∧ ∃ (S : List Sd) (h : Int) (j d : Option D), S.length = pre.length ∧ Inc S ∧ (∀ s ∈ S, s.1 < h ∧ 1 ≤ s.1 ∧ s.1 ≤ 20 ∧ 0 ≤ s.2 ∧ s.2 ≤ 99) ∧ (hour0 : Int) ≤ h ∧ h ≤ (hour0 : Int) + 3 * (pre.length : Int) ∧ ρ = [y0, some (.int (sp : Nat)), j, none, some (.list (S.map enc)), some (.int h), some (.list (r.map PyData.int)), y7, some (.int (rate : Nat)), some (.int (e : Nat)), some (.int (start : Nat)), some (.int (count : Nat)), d]) (fun pre k rest ρ ⟨hp, S, h, j, d, hl, hi, hS, hlo, hhi, e'⟩ => by
      subst e'
      obtain ⟨hx, hxn⟩ := rng_pre hp
      have i6 := rowI hr 6 k (by omega)
      have i10 := rowI hr 10 k (by omega)
      have n3 : (3 : Int) ≠ 0 := by decide
      have ne : 2 * (e : Int) + 1 ≠ 0 := by omega
      obtain ⟨a, ha, ha2⟩ := fmod_nat (r.getD (6 + k) 0) (m := 2 * (e : Int) + 1) (by omega)
      obtain ⟨g, hg, hg2⟩ := fmod_nat (r.getD (10 + k) 0) (m := 3) (by decide)
      have k1 : mulOk (rate : Int) (h - (start : Int)) = true := (show Sm 10 (rate : Int) by unfold Sm; omega).mulOk (show Sm 10 (h - (start : Int)) by unfold Sm; omega) (by omega) (by omega)
      have k2 : mulOk 2 (e : Int) = true := (Sm.lit (k := 10) (a := 2)).mulOk (show Sm 10 (e : Int) by unfold Sm; omega) (by omega) (by omega)
      have k3 : mulOk 3 (e : Int) = true := (Sm.lit (k := 10) (a := 3)).mulOk (show Sm 10 (e : Int) by unfold Sm; omega) (by omega) (by omega)
      have k4 : ∀ c : Int, c.natAbs ≤ 1 → mulOk c (3 * (e : Int) + 1) = true := fun c hc => (show Sm 10 c by unfold Sm; omega).mulOk (show Sm 10 (3 * (e : Int) + 1) by unfold Sm; omega) (by omega) (by omega)
      have hprod : (rate : Int) * (h - (start : Int)) ≤ 5 * 16 ∧ 0 ≤ (rate : Int) * (h - (start : Int)) ∧ (rate : Int) * (h - (start : Int)) ≤ 5 * (h - (start : Int)) := by
        have q0 := Int.mul_nonneg (show 0 ≤ (rate : Int) by omega) (show 0 ≤ h - (start : Int) by omega)
        have q1 := Int.mul_le_mul_of_nonneg_right (show (rate : Int) ≤ 5 by omega) (show 0 ≤ h - (start : Int) by omega)
        omega
      have hlm : (S.map enc).length < 16777216 := by rw [List.length_map]; omega
      have key : ∀ bb : Int, 0 ≤ bb → bb ≤ 1 → (k = sp → bb = 1) → (k ≠ sp → bb = 0) → ∃ t : Int, 0 ≤ t ∧ t ≤ 99 ∧ t = (if (rate : Int) * (h - (start : Int)) + (a : Int) - (e : Int) + bb * (3 * (e : Int) + 1) > 0 then (rate : Int) * (h - (start : Int)) + (a : Int) - (e : Int) + bb * (3 * (e : Int) + 1) else 0) := fun bb hb0 hb1 _ _ => by
        have hbb : bb * (3 * (e : Int) + 1) ≤ 3 * (e : Int) + 1 := by
          have := Int.mul_le_mul_of_nonneg_right hb1 (show 0 ≤ 3 * (e : Int) + 1 by omega)
          omega
        refine ⟨_, ?_, ?_, rfl⟩ <;> split <;> omega
      have kk : decide ((k : Int) = (sp : Int)) = decide (k = sp) := by
        by_cases hks : k = sp
        · rw [decide_eq_true hks, decide_eq_true (by omega)]
        · rw [decide_eq_false hks, decide_eq_false (by omega)]
      obtain ⟨bb, hbb⟩ : ∃ bb : Int, bb = if decide (k = sp) = true then 1 else 0 := ⟨_, rfl⟩
      have hb01 : 0 ≤ bb ∧ bb ≤ 1 := by rw [hbb]; split <;> omega
      obtain ⟨t, t0, t99, ht⟩ := key bb hb01.1 hb01.2 (fun h => by rw [hbb, if_pos (decide_eq_true h)]) (fun h => by rw [hbb, if_neg (by simpa using h)])
      refine ⟨[y0, some (.int (sp : Nat)), some (.int (k : Nat)), none, some (.list (S.map enc)), some (.int h), some (.list (r.map PyData.int)), y7, some (.int (rate : Nat)), some (.int (e : Nat)), some (.int (start : Nat)), some (.int (count : Nat)), d], [y0, some (.int (sp : Nat)), some (.int (k : Nat)), none, some (.list ((S ++ [(h, t)]).map enc)), some (.int (h + 1 + (g : Nat))), some (.list (r.map PyData.int)), y7, some (.int (rate : Nat)), some (.int (e : Nat)), some (.int (start : Nat)), some (.int (count : Nat)), some (.int ((rate : Int) * (h - (start : Int)) + (a : Int) - (e : Int) + bb * (3 * (e : Int) + 1)))], rfl, .inl ?_, by rw [List.append_assoc]; exact hp, S ++ [(h, t)], h + 1 + (g : Nat), _, _, by simp [hl], inc_app hi (fun s hs => (hS s hs).1), ?_, by omega, ?_, rfl⟩
      · have k4' := k4 bb (by omega)
        have i6' : atI (r.map PyData.int) (6 + (k : Int)) = some (.int (r.getD (6 + k) 0)) := i6
        have i10' : atI (r.map PyData.int) (10 + (k : Int)) = some (.int (r.getD (10 + k) 0)) := i10
        generalize r.map PyData.int = RR at *
        rw [List.map_append, List.map_singleton]
        generalize S.map enc = M at *
        simp -implicitDefEqProofs only [l1_law, enc, xVar_a, xC_a, xBin_a, xUn_a, tOf_a, tTru_a, tNotP_a, tAndP_a, tOrP_a, tyes_a, tno_a, tYesP_a, xNil_a, xCons_a, xTup_a, xLst_a, xAnd_a, xOr_a, xIf_a, xChain_a, oNo_a, oAt_a, xSl_a, xCall_a, xSeq_a, xIt_a, xLc_a, gSet_a, gTupD_a, gsNil_a, gsCons_a, sNop_a, sBrk_a, sCnt_a, sSeq_a, sRet_a, sIf_a, sSet_a, sTgt_a, sAug_a, sApp_a, sExt_a, sPut_a, sPutK_a, pkO_s, sFor_a, sWhile_a, sPar_a, runD_a, b2_s, c2_s, sqO_nx, sqO_rt, sqO_bk, sqO_ct, ifO_t, ifO_f, stO_s, endO_nx, endO_rt, andO_t, andO_f, orO_t, orO_f, chO_s, chP_t, chP_f, slO_s, atO_i, lcO_s, forO_s, gsO_s, nxO_s, tgO_s, paO_s, apO_s, exO_s, plO_s, ptO_s, dB_b, tru_b, tru_n, tru_i, tru_l, tru_t, is_n, isn_n, nn_n, nn_i, nn_b, nn_t, nn_l, add_ii, add'_ii, sub_ii, neg_i, lt_ii, le_ii, gt_ii, ge_ii, ix_l, ix_t, ix_s, at0, at1, at2, sl_l, sl_t, len_l, len_t, len_s, abs_i, int_i, int_b, max_ii, min_ii, tup_s, lst_s, seq_l, seq_t, sum_s, wipe_n, wipe_c, mul_ii, fdiv_ii, mod_ii, add_ll, add_tt, setAll, mkT, mkL, oNot, List.getD_cons_zero, List.getD_cons_succ, List.length_cons, List.length_nil, List.set_cons_zero, List.set_cons_succ, List.map_cons, List.map_nil, List.replicate, List.cons_append, List.nil_append, List.append_nil, Option.bind_some, Option.map_some, List.all_cons, List.all_nil, if_true, if_false, reduceIte, Nat.reduceAdd, Nat.reduceSub, Nat.reduceLT, Nat.reduceLeDiff, Nat.reduceEqDiff, decide_true, decide_false, Bool.and_true, Bool.and_self, Bool.true_and, Bool.not_true, Bool.not_false, ne_eq, not_true_eq_false, not_false_eq_true, Nat.zero_add, Bool.false_eq_true, and_self, true_and, and_true, i6', i10', mod_ii n3, mod_ii ne, ha, hg, k1, k2, k3, eq_int, kk, ← hbb, k4', ← ht, hlm]
      · intro s hs
        rcases List.mem_append.mp hs with hs | hs
        · have := hS s hs
          omega
        · simp at hs
          subst hs
          simp only
          omega
      · simp
        omega) (List.range count) [] [y0, some (.int (sp : Nat)), none, none, some (.list []), some (.int (hour0 : Nat)), some (.list (r.map PyData.int)), y7, some (.int (rate : Nat)), some (.int (e : Nat)), some (.int (start : Nat)), some (.int (count : Nat)), none] ⟨rfl, [], hour0, none, none, rfl, List.Pairwise.nil, by simp, by omega, by simp, rfl⟩
  obtain ⟨S, h, j, d, hl, hi, hS, _, _, e'⟩ := h
  subst e'
  exact ⟨S, h, j, d, by simpa using hl, hi, fun s hs => (hS s hs).2, e1⟩
end K28

namespace K28
open PySem PySem.Spec PyProof.Rows L2 Pm
theorem segs_app : ∀ {L : List Sd} {z : Sd}, L.getLast? = some z → ∀ x : Sd, segs (L ++ [x]) = segs L ++ [(z, x)]
  | [], _, h, _ => by cases h
  | [a], z, h, x => by
    simp at h
    subst h
    rfl
  | a :: b :: L, z, h, x => by
    have h' : (b :: L).getLast? = some z := by rwa [List.getLast?_cons_cons] at h
    have := segs_app h' x
    show (a, b) :: segs ((b :: L) ++ [x]) = (a, b) :: segs (b :: L) ++ [(z, x)]
    rw [this]
    rfl
theorem dvd6 {w : Int} (h1 : 1 ≤ w) (h3 : w ≤ 3) : w ∣ 6 := by
  have : w = 1 ∨ w = 2 ∨ w = 3 := by omega
  rcases this with rfl | rfl | rfl <;> decide
theorem log_loop {r : List Int} (hr : r.length = 32) {h0 n : Nat} (hh : h0 ≤ 3) (hn1 : 1 ≤ n) (hn : n ≤ 4) (y0 y1 y2 y3 y4 y8 y9 y10 y11 y12 : Option D) :
    ∃ (L : List Sd) (a z : Sd) (j : Option D) (h : Int), LogOk L a z 6 ∧ (∀ s ∈ L, Sm 9 s.2) ∧ z.1 - a.1 ≤ 9 ∧
      forL (gSet 2) l2_law ((List.range n).map fun k : Nat => PyData.int (k : Nat)) [y0, y1, y2, y3, y4, some (.int (h0 : Nat)), some (.list (r.map PyData.int)), some (.list []), y8, y9, y10, y11, y12] =
      some (.nx [y0, y1, j, y3, y4, some (.int h), some (.list (r.map PyData.int)), some (.list (L.map enc)), y8, y9, y10, y11, y12]) := by
  obtain ⟨ρ', e1, _, h⟩ := forL_inv (g := gSet 2) (b := l2_law) (fun k : Nat => PyData.int (k : Nat))
    (fun pre rest ρ => pre ++ rest = List.range n ∧ ∃ (L : List Sd) (h : Int) (j : Option D), L.length = pre.length ∧ (∀ s ∈ L, (h0 : Int) ≤ s.1 ∧ s.1 < h ∧ 0 ≤ s.2 ∧ s.2 ≤ 8) ∧ Inc L ∧ (∀ p ∈ segs L, (p.2.1 - p.1.1) ∣ 6) ∧ (h0 : Int) ≤ h ∧ h ≤ (h0 : Int) + 3 * (pre.length : Int) ∧ (L = [] ∧ h = (h0 : Int) ∨ ∃ a z, L.head? = some a ∧ L.getLast? = some z ∧ a.1 = (h0 : Int) ∧ 1 ≤ h - z.1 ∧ h - z.1 ≤ 3 ∧ z.1 ≤ (h0 : Int) + 3 * ((pre.length : Int) - 1)) ∧
      ρ = [y0, y1, j, y3, y4, some (.int h), some (.list (r.map PyData.int)), some (.list (L.map enc)), y8, y9, y10, y11, y12]) (fun pre k rest ρ ⟨hp, L, h, j, hl, hL, hi, hg, hlo, hhi, hd, e'⟩ => by
      subst e'
      obtain ⟨hx, hxn⟩ := rng_pre hp
      have i17 : atI (r.map PyData.int) (17 + (k : Int)) = some (.int (r.getD (17 + k) 0)) := rowI hr 17 k (by omega)
      have i10 : atI (r.map PyData.int) (10 + (k : Int)) = some (.int (r.getD (10 + k) 0)) := rowI hr 10 k (by omega)
      have n3 : (3 : Int) ≠ 0 := by decide
      have n9 : (9 : Int) ≠ 0 := by decide
      have d3 := divOk_lit (b := 3) (by decide) Sm.lit
      obtain ⟨v, hv, hv2⟩ := fmod_nat (r.getD (17 + k) 0) (m := 9) (by decide)
      obtain ⟨g, hg', hg2⟩ := fmod_nat ((r.getD (10 + k) 0).fdiv 3) (m := 3) (by decide)
      have hlm : (L.map enc).length < 16777216 := by rw [List.length_map]; omega
      refine ⟨[y0, y1, some (.int (k : Nat)), y3, y4, some (.int h), some (.list (r.map PyData.int)), some (.list (L.map enc)), y8, y9, y10, y11, y12], [y0, y1, some (.int (k : Nat)), y3, y4, some (.int (h + 1 + (g : Nat))), some (.list (r.map PyData.int)), some (.list ((L ++ [(h, (v : Int))]).map enc)), y8, y9, y10, y11, y12], rfl, .inl ?_, by rw [List.append_assoc]; exact hp, L ++ [(h, (v : Int))], h + 1 + (g : Nat), _, by simp [hl], ?_, inc_app hi (fun s hs => (hL s hs).2.1), ?_, by omega, by simp; omega, .inr ?_, rfl⟩
      · generalize r.map PyData.int = RR at *
        rw [List.map_append, List.map_singleton]
        generalize L.map enc = M at *
        simp -implicitDefEqProofs only [l2_law, enc, xVar_a, xC_a, xBin_a, xUn_a, tOf_a, tTru_a, tNotP_a, tAndP_a, tOrP_a, tyes_a, tno_a, tYesP_a, xNil_a, xCons_a, xTup_a, xLst_a, xAnd_a, xOr_a, xIf_a, xChain_a, oNo_a, oAt_a, xSl_a, xCall_a, xSeq_a, xIt_a, xLc_a, gSet_a, gTupD_a, gsNil_a, gsCons_a, sNop_a, sBrk_a, sCnt_a, sSeq_a, sRet_a, sIf_a, sSet_a, sTgt_a, sAug_a, sApp_a, sExt_a, sPut_a, sPutK_a, pkO_s, sFor_a, sWhile_a, sPar_a, runD_a, b2_s, c2_s, sqO_nx, sqO_rt, sqO_bk, sqO_ct, ifO_t, ifO_f, stO_s, endO_nx, endO_rt, andO_t, andO_f, orO_t, orO_f, chO_s, chP_t, chP_f, slO_s, atO_i, lcO_s, forO_s, gsO_s, nxO_s, tgO_s, paO_s, apO_s, exO_s, plO_s, ptO_s, dB_b, tru_b, tru_n, tru_i, tru_l, tru_t, is_n, isn_n, nn_n, nn_i, nn_b, nn_t, nn_l, add_ii, add'_ii, sub_ii, neg_i, lt_ii, le_ii, gt_ii, ge_ii, ix_l, ix_t, ix_s, at0, at1, at2, sl_l, sl_t, len_l, len_t, len_s, abs_i, int_i, int_b, max_ii, min_ii, tup_s, lst_s, seq_l, seq_t, sum_s, wipe_n, wipe_c, mul_ii, fdiv_ii, mod_ii, add_ll, add_tt, setAll, mkT, mkL, oNot, List.getD_cons_zero, List.getD_cons_succ, List.length_cons, List.length_nil, List.set_cons_zero, List.set_cons_succ, List.map_cons, List.map_nil, List.replicate, List.cons_append, List.nil_append, List.append_nil, Option.bind_some, Option.map_some, List.all_cons, List.all_nil, if_true, if_false, reduceIte, Nat.reduceAdd, Nat.reduceSub, Nat.reduceLT, Nat.reduceLeDiff, Nat.reduceEqDiff, decide_true, decide_false, Bool.and_true, Bool.and_self, Bool.true_and, Bool.not_true, Bool.not_false, ne_eq, not_true_eq_false, not_false_eq_true, Nat.zero_add, Bool.false_eq_true, and_self, true_and, and_true, i17, i10, mod_ii n3, mod_ii n9, fdiv_ii d3, hv, hg', hlm]
      · intro s hs
        rcases List.mem_append.mp hs with hs | hs
        · have := hL s hs
          omega
        · simp at hs
          subst hs
          simp only
          omega
      · rcases hd with ⟨rfl, _⟩ | ⟨a, z, q1, q2, q3, q4, q5, q6⟩
        · intro p hp
          cases hp
        · rw [segs_app q2]
          intro p hp
          rcases List.mem_append.mp hp with hp | hp
          · exact hg p hp
          · simp at hp
            subst hp
            exact dvd6 q4 q5
      · rcases hd with ⟨rfl, e0⟩ | ⟨a, z, q1, q2, q3, q4, q5, q6⟩
        · refine ⟨(h, (v : Int)), (h, (v : Int)), rfl, rfl, e0, by simp only; omega, by simp only; omega, ?_⟩
          simp only [List.length_append, List.length_singleton]
          simp at hl
          omega
        · refine ⟨a, (h, (v : Int)), ?_, by simp, q3, by simp only; omega, by simp only; omega, ?_⟩
          · cases L with
            | nil => cases q1
            | cons b L => exact q1
          · simp only [List.length_append, List.length_singleton]
            omega) (List.range n) [] [y0, y1, y2, y3, y4, some (.int (h0 : Nat)), some (.list (r.map PyData.int)), some (.list []), y8, y9, y10, y11, y12] ⟨rfl, [], h0, y2, rfl, by simp, List.Pairwise.nil, (by intro p hp; cases hp), by omega, by simp, .inl ⟨rfl, rfl⟩, rfl⟩
  obtain ⟨L, h, j, hl, hL, hi, hg, _, hhi, hd, e'⟩ := h
  subst e'
  simp only [List.nil_append, List.length_range] at hl hhi hd
  rcases hd with ⟨rfl, _⟩ | ⟨a, z, q1, q2, q3, q4, q5, q6⟩
  · simp at hl
    omega
  · have hzm : z ∈ L := List.mem_of_getLast? q2
    have hz := hL z hzm
    refine ⟨L, a, z, j, h, ⟨hi, q1, q2, ?_, by omega, by decide, Sm.lit, hg, by omega⟩, ?_, by omega, e1⟩
    · intro s hs
      have h1 := hL s hs
      have h2 := segs_out hi q1 q2 s hs
      unfold Sm
      constructor <;> omega
    · intro s hs
      have h1 := hL s hs
      unfold Sm
      omega
theorem four_at (k : Nat) (h : (k : Int) < 4) : ∃ c : Nat, 2 ≤ c ∧ c ≤ 4 ∧ atI [PyData.int 2, .int 3, .int 4, .int 4] (k : Int) = some (.int (c : Int)) := by
  have : k = 0 ∨ k = 1 ∨ k = 2 ∨ k = 3 := by omega
  rcases this with rfl | rfl | rfl | rfl
  · exact ⟨2, by omega, by omega, rfl⟩
  · exact ⟨3, by omega, by omega, rfl⟩
  · exact ⟨4, by omega, by omega, rfl⟩
  · exact ⟨4, by omega, by omega, rfl⟩
theorem law_ok (ns : List Int) : d_law [scr (ns.map PyData.int)] = some (.bool true) := by
  obtain ⟨r, hr, hrow⟩ := row_int ns
  have i0 : atI (r.map PyData.int) 0 = some (.int (r.getD 0 0)) := row_at r 0 (by omega)
  have i1 : atI (r.map PyData.int) 1 = some (.int (r.getD 1 0)) := row_at r 1 (by omega)
  have i2 : atI (r.map PyData.int) 2 = some (.int (r.getD 2 0)) := row_at r 2 (by omega)
  have i3 : atI (r.map PyData.int) 3 = some (.int (r.getD 3 0)) := row_at r 3 (by omega)
  have i4 : atI (r.map PyData.int) 4 = some (.int (r.getD 4 0)) := row_at r 4 (by omega)
  have i5 : atI (r.map PyData.int) 5 = some (.int (r.getD 5 0)) := row_at r 5 (by omega)
  have i14 : atI (r.map PyData.int) 14 = some (.int (r.getD 14 0)) := row_at r 14 (by omega)
  have i15 : atI (r.map PyData.int) 15 = some (.int (r.getD 15 0)) := row_at r 15 (by omega)
  have i16 : atI (r.map PyData.int) 16 = some (.int (r.getD 16 0)) := row_at r 16 (by omega)
  obtain ⟨h', hh', hh4⟩ := fmod_nat (r.getD 0 0) (m := 4) (by decide)
  obtain ⟨rate, hrt, hrt6⟩ := fmod_nat (r.getD 1 0) (m := 6) (by decide)
  obtain ⟨e, he, he3⟩ := fmod_nat (r.getD 2 0) (m := 3) (by decide)
  have c1 : (1 : Int) + (h' : Int) = ((1 + h' : Nat) : Int) := by omega
  generalize hh : 1 + h' = hour0 at *
  obtain ⟨start, hst, hst2⟩ := fmod_nat (r.getD 3 0) (m := (hour0 : Int) + 1) (by omega)
  obtain ⟨k4, hk4, hk42⟩ := fmod_nat (r.getD 4 0) (m := 4) (by decide)
  obtain ⟨count, cc2, cc4, hcount⟩ := four_at k4 hk42
  obtain ⟨sp, hsp, hsp6⟩ := fmod_nat (r.getD 5 0) (m := 6) (by decide)
  obtain ⟨la, hla, hla12⟩ := fmod_nat (r.getD 14 0) (m := 12) (by decide)
  obtain ⟨l0, hl0, hl04⟩ := fmod_nat (r.getD 15 0) (m := 4) (by decide)
  obtain ⟨ln', hln, hln4⟩ := fmod_nat (r.getD 16 0) (m := 4) (by decide)
  have c2 : (1 : Int) + (ln' : Int) = ((1 + ln' : Nat) : Int) := by omega
  generalize hlnn : 1 + ln' = lnn at *
  have n4 : (4 : Int) ≠ 0 := by decide
  have n6 : (6 : Int) ≠ 0 := by decide
  have n3 : (3 : Int) ≠ 0 := by decide
  have n12 : (12 : Int) ≠ 0 := by decide
  have nh : (hour0 : Int) + 1 ≠ 0 := by omega
  obtain ⟨S, h, j, d, hSl, hSi, hS, lp1⟩ := sound_loop hr (hour0 := hour0) (rate := rate) (e := e) (start := start) (count := count) (by omega) (by omega) (by omega) (by omega) (by omega) cc2 cc4 (some (scr (ns.map PyData.int))) (some (.list [])) sp
  have g1 := rg0 count (by omega)
  obtain ⟨s0, S', eS⟩ : ∃ s0 S', S = s0 :: S' := by
    cases S with
    | nil => simp at hSl; omega
    | cons s0 S' => exact ⟨s0, S', rfl⟩
  have hOk : OkS S := fun s hs => by
    have := hS s hs
    unfold Sm
    constructor <;> omega
  have hA : atI (S.map enc) 0 = some (.tuple [.int s0.1, .int s0.2]) := by
    rw [eS, List.map_cons, at0]
    rfl
  have hs0 := hS s0 (by rw [eS]; simp)
  have sd : d__law_sounded [.tuple (S.map enc), .int (e : Nat), .int (s0.1 + (la : Nat))] = some (.bool true) := by
    have hp := pairs_len S
    rw [hSl] at hp
    have hp16 : count * count ≤ 4 * 4 := Nat.mul_le_mul cc4 cc4
    rw [eS] at hOk hSi hSl hS hp ⊢
    exact sounded_ok hOk hSi (by omega) (by omega) (by omega) (by unfold Sm; omega) (by omega) (by unfold Sm; omega) (fun s hs => (hS s hs).2.2.2) (by omega)
  have sq := squares_ok hOk hSi (by omega) (by omega)
  have st := steady_ok hr
  obtain ⟨L, a, z, j2, h2, hL, hL9, hz9, lp2⟩ := log_loop hr (h0 := l0) (n := lnn) (by omega) (by omega) (by omega) (some (scr (ns.map PyData.int))) (some (.int (sp : Nat))) j (some (.int (s0.1 + (la : Nat)))) (some (.tuple (S.map enc))) (some (.int (rate : Nat))) (some (.int (e : Nat))) (some (.int (start : Nat))) (some (.int (count : Nat))) d
  have g2 := rg0 lnn (by omega)
  have haz := hL.zle.2.2
  have lg := logged_ok hL hL9 (N := (z.1 - a.1).toNat) (by omega) (by omega) hr
  have hfb : flat (.bool true) = true := rfl
  generalize (List.range count).map (fun k : Nat => PyData.int (k : Nat)) = R1 at *
  generalize (List.range lnn).map (fun k : Nat => PyData.int (k : Nat)) = R2 at *
  generalize S.map enc = MS at *
  generalize L.map enc = ML at *
  generalize r.map PyData.int = RR at *
  simp -implicitDefEqProofs only [d_law, g_law, xVar_a, xC_a, xBin_a, xUn_a, tOf_a, tTru_a, tNotP_a, tAndP_a, tOrP_a, tyes_a, tno_a, tYesP_a, xNil_a, xCons_a, xTup_a, xLst_a, xAnd_a, xOr_a, xIf_a, xChain_a, oNo_a, oAt_a, xSl_a, xCall_a, xSeq_a, xIt_a, xLc_a, gSet_a, gTupD_a, gsNil_a, gsCons_a, sNop_a, sBrk_a, sCnt_a, sSeq_a, sRet_a, sIf_a, sSet_a, sTgt_a, sAug_a, sApp_a, sExt_a, sPut_a, sPutK_a, pkO_s, sFor_a, sWhile_a, sPar_a, runD_a, b2_s, c2_s, sqO_nx, sqO_rt, sqO_bk, sqO_ct, ifO_t, ifO_f, stO_s, endO_nx, endO_rt, andO_t, andO_f, orO_t, orO_f, chO_s, chP_t, chP_f, slO_s, atO_i, lcO_s, forO_s, gsO_s, nxO_s, tgO_s, paO_s, apO_s, exO_s, plO_s, ptO_s, dB_b, tru_b, tru_n, tru_i, tru_l, tru_t, is_n, isn_n, nn_n, nn_i, nn_b, nn_t, nn_l, add_ii, add'_ii, sub_ii, neg_i, lt_ii, le_ii, gt_ii, ge_ii, ix_l, ix_t, ix_s, at0, at1, at2, sl_l, sl_t, len_l, len_t, len_s, abs_i, int_i, int_b, max_ii, min_ii, tup_s, lst_s, seq_l, seq_t, sum_s, wipe_n, wipe_c, mul_ii, fdiv_ii, mod_ii, add_ll, add_tt, setAll, mkT, mkL, oNot, List.getD_cons_zero, List.getD_cons_succ, List.length_cons, List.length_nil, List.set_cons_zero, List.set_cons_succ, List.map_cons, List.map_nil, List.replicate, List.cons_append, List.nil_append, List.append_nil, Option.bind_some, Option.map_some, List.all_cons, List.all_nil, if_true, if_false, reduceIte, Nat.reduceAdd, Nat.reduceSub, Nat.reduceLT, Nat.reduceLeDiff, Nat.reduceEqDiff, decide_true, decide_false, Bool.and_true, Bool.and_self, Bool.true_and, Bool.not_true, Bool.not_false, ne_eq, not_true_eq_false, not_false_eq_true, Nat.zero_add, Bool.false_eq_true, and_self, true_and, and_true, hrow, i0, i1, i2, i3, i4, i5, i14, i15, i16, mod_ii n4, mod_ii n6, mod_ii n3, mod_ii n12, mod_ii nh, hh', hrt, he, c1, hst, hk4, hcount, hsp, g1, lp1, hA, hla, sd, sq, st, hfb, hl0, hln, c2, g2, lp2, lg]
end K28


theorem PySem.Challenge.cw_dockheld_k28_whole_soundings_log_holds : PySem.Challenge.rw_dockheld_k28_whole_soundings_log.Holds := by
  exact K28.holds_of fun ns _ => K28.law_ok ns

