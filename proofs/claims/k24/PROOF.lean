import PyProof.Rows.All
import HandS.ForMost
import HandS.Deep
import HandS.TupAny
import HandS.Defaults
import HandS.Wide
import HandS.WideBits
import HandS.TupMul
import HandS.IsInst
import HandS.Flow
import PyProof.Rows.InDataRows
import HandS.Zip
import HandS.Rev
import HandS.RevRange
import KE.GoesEnum
import HandS.Style
import HandS.HeadEnd
import HandS.HeadHook1
import HandS.HeadHook2
import HandS.Conv
import KE.SortData
import HandS.DictComp
import HandS.Head0
import HandS.Head1
import HandS.Head2
import PySem.Challenge.RW_dockheld_k24_whole_loads_lines
set_option Elab.async false
set_option linter.all false
set_option maxRecDepth 100000
set_option maxHeartbeats 0
set_option exponentiation.threshold 3000
/-! Pm: plain data for the values, a simulation of the layer's readings by plain functions over slots. -/
namespace Pm
open PySem PySem.Spec PyProof.Rows L2

abbrev D := PyData
abbrev PEnv := List (Option D)
abbrev Xp := PEnv → Option D

/-- a list of the written part -/
def KL (K : PySem.W.Frag) (a : Addr) (xs : List V) : Prop :=
  ∃ (o : Obj) (its : Array Value) (n : Nat), K.lookup a = some o ∧ o.cls = .type "list" ∧ o.dict = none ∧ o.data = .seq its n ∧ its.size ≤ sizeLine ∧ Vals xs its.toList

def keyD : Key → D
  | .inl i => .int i
  | .inr s => .str s

/-- the script itself -/
def scr (ds : List D) : D := .dict [(.none, .list ds)]

mutual
/-- v stands for d in H; the cells on the way keep off A -/
inductive Rp (K : PySem.W.Frag) (A : Addr → Prop) (H : Hp) : V → D → Prop
  | non : Rp K A H .non .none
  | bl (b : Bool) : Rp K A H (.bl b) (.bool b)
  | int (i : Int) : Rp K A H (.int i) (.int i)
  | str (x : Str) : Rp K A H (.str x) (.str x)
  | lst {a : Addr} {xs : List V} {ds : List D} : H a = some (.lst xs) → ¬ A a → RpL K A H xs ds → Rp K A H (.ref a) (.list ds)
  | scr {a : Addr} {xs : List V} {ds : List D} : Rd H a (.lst xs) → ¬ A a → RpL K A H xs ds → Rp K A H (.ref a) (.dict [(.none, .list ds)])
  | kl {a : Addr} {xs : List V} {ds : List D} : KL K a xs → RpL K A H xs ds → Rp K A H (.ref a) (.dict [(.none, .list ds)])
  | tup {a : Addr} {xs : List V} {ds : List D} : H a = some (.tup xs) → ¬ A a → RpL K A H xs ds → Rp K A H (.ref a) (.tuple ds)
  | dic {a : Addr} {ks : List (Key × V)} {ds : List D} {kd : List (D × D)} : H a = some (.dK ks) → ¬ A a → RpL K A H (ks.map (·.2)) ds → kd = (ks.map fun p => keyD p.1).zip ds → Rp K A H (.ref a) (.dict kd)
inductive RpL (K : PySem.W.Frag) (A : Addr → Prop) (H : Hp) : List V → List D → Prop
  | nil : RpL K A H [] []
  | cons {v : V} {vs : List V} {d : D} {ds : List D} : Rp K A H v d → RpL K A H vs ds → RpL K A H (v :: vs) (d :: ds)
end

/-- the cell at a is d, whatever is said of a itself -/
inductive Tp (K : PySem.W.Frag) (A : Addr → Prop) (H : Hp) : Addr → D → Prop
  | lst {a : Addr} {xs : List V} {ds : List D} : H a = some (.lst xs) → RpL K A H xs ds → Tp K A H a (.list ds)
  | dic {a : Addr} {ks : List (Key × V)} {ds : List D} {kd : List (D × D)} : H a = some (.dK ks) → RpL K A H (ks.map (·.2)) ds → kd = (ks.map fun p => keyD p.1).zip ds → Tp K A H a (.dict kd)

def isMut : D → Bool
  | .list _ => true
  | .dict _ => true
  | _ => false

section
variable {K : PySem.W.Frag} {A A' : Addr → Prop} {H H' : Hp} {v : V} {d : D} {vs : List V} {ds : List D} {a : Addr}

theorem rd_some {xs : HO} (h : Rd H a xs) : ∃ o, H a = some o := by
  rcases h with h | ⟨o, h⟩
  · exact ⟨_, h⟩
  · exact ⟨_, h⟩

mutual
theorem Rp.step (hk : ∀ a o, H a = some o → ¬ A a → H' a = some o) (ha : ∀ a, A' a → A a ∨ H a = none) : ∀ {v : V} {d : D}, Rp K A H v d → Rp K A' H' v d
  | _, _, .non => .non
  | _, _, .bl b => .bl b
  | _, _, .int i => .int i
  | _, _, .str x => .str x
  | _, _, .lst h n r => by
    refine .lst (hk _ _ h n) (fun z => ?_) (RpL.step hk ha r)
    rcases ha _ z with q | q
    · exact n q
    · rw [q] at h; cases h
  | _, _, .scr h n r => by
    refine .scr ?_ (fun z => ?_) (RpL.step hk ha r)
    · rcases h with h | ⟨o, h⟩
      · exact .inl (hk _ _ h n)
      · exact .inr ⟨o, hk _ _ h n⟩
    · obtain ⟨o, e⟩ := rd_some h
      rcases ha _ z with q | q
      · exact n q
      · rw [q] at e; cases e
  | _, _, .kl h r => .kl h (RpL.step hk ha r)
  | _, _, .tup h n r => by
    refine .tup (hk _ _ h n) (fun z => ?_) (RpL.step hk ha r)
    rcases ha _ z with q | q
    · exact n q
    · rw [q] at h; cases h
  | _, _, .dic h n r e => by
    refine .dic (hk _ _ h n) (fun z => ?_) (RpL.step hk ha r) e
    rcases ha _ z with q | q
    · exact n q
    · rw [q] at h; cases h
theorem RpL.step (hk : ∀ a o, H a = some o → ¬ A a → H' a = some o) (ha : ∀ a, A' a → A a ∨ H a = none) : ∀ {vs : List V} {ds : List D}, RpL K A H vs ds → RpL K A' H' vs ds
  | _, _, .nil => .nil
  | _, _, .cons h r => .cons (Rp.step hk ha h) (RpL.step hk ha r)
end
theorem Rp.mono (s : Same H H') (h : Rp K A H v d) : Rp K A H' v d := h.step (fun a o e _ => s a o e) fun _ z => .inl z
theorem RpL.mono (s : Same H H') (h : RpL K A H vs ds) : RpL K A H' vs ds := h.step (fun a o e _ => s a o e) fun _ z => .inl z
theorem Rp.anti (h : Rp K A H v d) (ha : ∀ a, A' a → A a) : Rp K A' H v d := h.step (fun _ _ e _ => e) fun a z => .inl (ha a z)
theorem RpL.anti (h : RpL K A H vs ds) (ha : ∀ a, A' a → A a) : RpL K A' H vs ds := h.step (fun _ _ e _ => e) fun a z => .inl (ha a z)
theorem Tp.step (h : Tp K A H a d) (hk : ∀ a o, H a = some o → ¬ A a → H' a = some o) (ha : ∀ a, A' a → A a ∨ H a = none) (h0 : ∀ o, H a = some o → H' a = some o) : Tp K A' H' a d := by
  cases h with
  | lst e r => exact .lst (h0 _ e) (r.step hk ha)
  | dic e r z => exact .dic (h0 _ e) (r.step hk ha) z
theorem Tp.mono (s : Same H H') (h : Tp K A H a d) : Tp K A H' a d := h.step (fun a o e _ => s a o e) (fun _ z => .inl z) fun o e => s _ o e
theorem Tp.rp (h : Tp K A H a d) (n : ¬ A a) : Rp K A H (.ref a) d := by
  cases h with
  | lst e r => exact .lst e n r
  | dic e r z => exact .dic e n r z
theorem Tp.some (h : Tp K A H a d) : ∃ o, H a = Option.some o ∧ ∀ xs, o ≠ .tup xs := by
  cases h with
  | lst e r => exact ⟨_, e, fun _ h => nomatch h⟩
  | dic e r z => exact ⟨_, e, fun _ h => nomatch h⟩
theorem RpL.length (h : RpL K A H vs ds) : vs.length = ds.length := by
  induction ds generalizing vs with
  | nil => cases h; rfl
  | cons d ds ih => cases h with | cons _ r => simp [ih r]
theorem RpL.app {vs' : List V} {ds' : List D} (h' : RpL K A H vs' ds') : ∀ {vs : List V} {ds : List D}, RpL K A H vs ds → RpL K A H (vs ++ vs') (ds ++ ds')
  | _, _, .nil => h'
  | _, _, .cons h r => .cons h (RpL.app h' r)
theorem RpL.one (h : Rp K A H v d) : RpL K A H [v] [d] := .cons h .nil
theorem RpL.get : ∀ {vs : List V} {ds : List D} {i : Nat} {d : D}, RpL K A H vs ds → ds[i]? = some d → ∃ v, vs[i]? = some v ∧ Rp K A H v d
  | _, _, _, _, .nil, e => by simp at e
  | _, _, 0, _, .cons h r, e => by simp at e; subst e; exact ⟨_, rfl, h⟩
  | _, _, i + 1, _, .cons h r, e => by
    obtain ⟨v, e', q⟩ := RpL.get (i := i) r (by simpa using e)
    exact ⟨v, by simpa using e', q⟩
theorem RpL.getV : ∀ {vs : List V} {ds : List D} {i : Nat} {v : V}, RpL K A H vs ds → vs[i]? = some v → ∃ d, ds[i]? = some d ∧ Rp K A H v d
  | _, _, _, _, .nil, e => by simp at e
  | _, _, 0, _, .cons h r, e => by simp at e; subst e; exact ⟨_, rfl, h⟩
  | _, _, i + 1, _, .cons h r, e => by
    obtain ⟨v, e', q⟩ := RpL.getV (i := i) r (by simpa using e)
    exact ⟨v, by simpa using e', q⟩
theorem RpL.set {v : V} {d : D} (h : Rp K A H v d) : ∀ {vs : List V} {ds : List D} (i : Nat), RpL K A H vs ds → RpL K A H (vs.set i v) (ds.set i d)
  | _, _, _, .nil => .nil
  | _, _, 0, .cons _ r => .cons h r
  | _, _, i + 1, .cons q r => .cons q (RpL.set h i r)
theorem RpL.take : ∀ {vs : List V} {ds : List D} (n : Nat), RpL K A H vs ds → RpL K A H (vs.take n) (ds.take n)
  | _, _, 0, _ => by simpa using RpL.nil
  | _, _, _ + 1, .nil => .nil
  | _, _, n + 1, .cons h r => .cons h (RpL.take n r)
theorem RpL.drop : ∀ {vs : List V} {ds : List D} (n : Nat), RpL K A H vs ds → RpL K A H (vs.drop n) (ds.drop n)
  | _, _, 0, r => r
  | _, _, _ + 1, .nil => .nil
  | _, _, n + 1, .cons _ r => RpL.drop n r
theorem RpL.eraseIdx : ∀ {vs : List V} {ds : List D} (n : Nat), RpL K A H vs ds → RpL K A H (vs.eraseIdx n) (ds.eraseIdx n)
  | _, _, _, .nil => .nil
  | _, _, 0, .cons _ r => r
  | _, _, n + 1, .cons h r => .cons h (RpL.eraseIdx n r)
theorem RpL.reverse : ∀ {vs : List V} {ds : List D}, RpL K A H vs ds → RpL K A H vs.reverse ds.reverse
  | _, _, .nil => .nil
  | _, _, .cons h r => by rw [List.reverse_cons, List.reverse_cons]; exact RpL.app (.one h) (RpL.reverse r)
theorem RpL.rep (h : RpL K A H vs ds) : ∀ n : Nat, RpL K A H (List.replicate n vs).flatten (List.replicate n ds).flatten
  | 0 => .nil
  | n + 1 => by rw [List.replicate_succ, List.replicate_succ]; exact RpL.app (RpL.rep h n) h
end

/-- no tuple -/
def NT (o : HO) : Prop := ∀ xs, o ≠ .tup xs
theorem NT.lst {xs : List V} : NT (.lst xs) := fun _ h => nomatch h
theorem NT.dK {xs : List (Key × V)} : NT (.dK xs) := fun _ h => nomatch h
/-! ### slots -/
def Av (A0 : Addr → Prop) (B : Nat → Option Addr) (a : Addr) : Prop := A0 a ∨ ∃ i, B i = some a

structure Sim (K : PySem.W.Frag) (H0 : Hp) (A0 : Addr → Prop) (G : List (V × D)) (O : List Nat) (σ : L2.St) (H : Hp) (ρ : PEnv) (B : Nat → Option Addr) : Prop where
  same : Same H0 H
  a0 : ∀ a, A0 a → ∃ o, H a = some o ∧ NT o
  len : ρ.length = σ.length
  bo : ∀ i a, B i = some a → i ∈ O
  inj : ∀ i j a, B i = some a → B j = some a → i = j
  fr : ∀ i a, B i = some a → H0 a = none ∧ ¬ A0 a ∧ ∃ o, H a = some o ∧ NT o
  ob : ∀ i d, i ∈ O → ρ[i]? = some (some d) → isMut d = true → ∃ a, B i = some a ∧ σ[i]? = some (some (.ref a)) ∧ Tp K (Av A0 B) H a d
  slot : ∀ i d, ρ[i]? = some (some d) → (∃ a, B i = some a ∧ σ[i]? = some (some (.ref a)) ∧ Tp K (Av A0 B) H a d) ∨ (B i = none ∧ ∃ v, σ[i]? = some (some v) ∧ Rp K (Av A0 B) H v d)
  gs : ∀ p ∈ G, Rp K (Av A0 B) H p.1 p.2

section
variable {K : PySem.W.Frag} {A0 A : Addr → Prop} {H0 H H' : Hp} {G : List (V × D)} {O O' : List Nat} {σ : L2.St} {ρ : PEnv} {B : Nat → Option Addr} {v : V} {d : D}
theorem Sim.tr (S : Sim K H0 A0 G O σ H ρ B) : ∀ a, Av A0 B a → ∃ o, H a = some o ∧ NT o := fun a h => by
  rcases h with h | ⟨i, h⟩
  · exact S.a0 a h
  · exact (S.fr i a h).2.2
theorem Sim.mono (S : Sim K H0 A0 G O σ H ρ B) (s : Same H H') : Sim K H0 A0 G O σ H' ρ B where
  same := S.same.trans s
  a0 := fun a h => let ⟨o, e, n⟩ := S.a0 a h; ⟨o, s _ _ e, n⟩
  len := S.len
  bo := S.bo
  inj := S.inj
  fr := fun i a h => let ⟨h1, h2, o, e, n⟩ := S.fr i a h; ⟨h1, h2, o, s _ _ e, n⟩
  ob := fun i d hi h m => let ⟨a, h1, h2, h3⟩ := S.ob i d hi h m; ⟨a, h1, h2, h3.mono s⟩
  slot := fun i d h => by
    rcases S.slot i d h with ⟨a, h1, h2, h3⟩ | ⟨h1, v, h2, h3⟩
    · exact .inl ⟨a, h1, h2, h3.mono s⟩
    · exact .inr ⟨h1, v, h2, h3.mono s⟩
  gs := fun p hp => (S.gs p hp).mono s
/-- a is not one of the tracked cells of A -/
theorem Sim.new (S : Sim K H0 A0 G O σ H ρ B) {a : Addr} (h : H a = none) : ¬ Av A0 B a := fun z => by
  obtain ⟨o, e, _⟩ := S.tr a z
  rw [h] at e; cases e
/-- fewer own slots -/
theorem Sim.weak (S : Sim K H0 A0 G O σ H ρ B) (h : ∀ i ∈ O', i ∈ O) : ∃ B', Sim K H0 A0 G O' σ H ρ B' := by
  let B' : Nat → Option Addr := fun i => if i ∈ O' then B i else none
  have sub : ∀ i a, B' i = some a → B i = some a ∧ i ∈ O' := fun i a e => by
    by_cases hi : i ∈ O'
    · exact ⟨by simpa [B', hi] using e, hi⟩
    · simp [B', hi] at e
  have an : ∀ a, Av A0 B' a → Av A0 B a := fun a z => by
    rcases z with z | ⟨i, z⟩
    · exact .inl z
    · exact .inr ⟨i, (sub i a z).1⟩
  have ans : ∀ a, Av A0 B' a → Av A0 B a ∨ H a = none := fun a z => .inl (an a z)
  refine ⟨B', ⟨S.same, S.a0, S.len, fun i a e => (sub i a e).2, fun i j a e e' => S.inj i j a (sub i a e).1 (sub j a e').1, fun i a e => S.fr i a (sub i a e).1, fun i d hi e m => ?_, fun i d e => ?_, fun p hp => (S.gs p hp).anti an⟩⟩
  · obtain ⟨a, h1, h2, h3⟩ := S.ob i d (h i hi) e m
    exact ⟨a, by simp [B', hi, h1], h2, h3.step (fun _ _ q _ => q) ans fun _ q => q⟩
  · rcases S.slot i d e with ⟨a, h1, h2, h3⟩ | ⟨h1, v, h2, h3⟩
    · by_cases hi : i ∈ O'
      · exact .inl ⟨a, by simp [B', hi, h1], h2, h3.step (fun _ _ q _ => q) ans fun _ q => q⟩
      · refine .inr ⟨by simp [B', hi], _, h2, (h3.step (fun _ _ q _ => q) ans fun _ q => q).rp fun z => ?_⟩
        rcases z with z | ⟨j, z⟩
        · exact (S.fr i a h1).2.1 z
        · obtain ⟨z1, z2⟩ := sub j a z
          have := S.inj i j a h1 z1
          subst this
          exact hi z2
    · refine .inr ⟨?_, v, h2, h3.anti an⟩
      by_cases hi : i ∈ O' <;> simp [B', hi, h1]
/-- the slots ts are nobody's own -/
def restr (ts : List Nat) (B : Nat → Option Addr) : Nat → Option Addr := fun j => if ts.contains j then none else B j
theorem restr_one (i j : Nat) (B : Nat → Option Addr) : restr [i] B j = if j = i then none else B j := by
  by_cases h : j = i
  · simp [restr, h]
  · have : ([i].contains j) = false := by simp [h]
    simp [restr, this, h]
theorem restr_sub {ts : List Nat} {B : Nat → Option Addr} {j : Nat} {a : Addr} (h : restr ts B j = some a) : B j = some a := by
  unfold restr at h
  split at h
  · cases h
  · exact h
theorem restr_av {ts : List Nat} {B : Nat → Option Addr} {A0 : Addr → Prop} {a : Addr} (h : Av A0 (restr ts B) a) : Av A0 B a := by
  rcases h with h | ⟨i, h⟩
  · exact .inl h
  · exact .inr ⟨i, restr_sub h⟩
theorem restr_app (ts us : List Nat) (B : Nat → Option Addr) : restr us (restr ts B) = restr (ts ++ us) B := by
  funext j
  unfold restr
  by_cases h1 : us.contains j <;> by_cases h2 : ts.contains j <;> simp_all
theorem restr_nil (B : Nat → Option Addr) : restr [] B = B := by
  funext j
  simp [restr]
/-- a slot takes a value that is not one's own -/
theorem Sim.setS (S : Sim K H0 A0 G O σ H ρ B) {i : Nat} (r : Rp K (Av A0 B) H v d) (hi : i < ρ.length) : Sim K H0 A0 G (O.filter (· != i)) (σ.set i (some v)) H (ρ.set i (some d)) (restr [i] B) := by
  have sub : ∀ j a, restr [i] B j = some a → B j = some a ∧ j ≠ i := fun j a e => by
    rw [restr_one] at e
    by_cases hj : j = i
    · simp [hj] at e
    · exact ⟨by simpa [hj] using e, hj⟩
  have an : ∀ a, Av A0 (restr [i] B) a → Av A0 B a := fun a z => restr_av z
  have ans : ∀ a, Av A0 (restr [i] B) a → Av A0 B a ∨ H a = none := fun a z => .inl (an a z)
  have hiσ : i < σ.length := by rw [← S.len]; exact hi
  refine ⟨S.same, S.a0, by simp [S.len], fun j a e => ?_, fun j k a e e' => S.inj j k a (sub j a e).1 (sub k a e').1, fun j a e => S.fr j a (sub j a e).1, fun j d' hj e m => ?_, fun j d' e => ?_, fun p hp => (S.gs p hp).anti an⟩
  · exact List.mem_filter.mpr ⟨S.bo j a (sub j a e).1, by simp [(sub j a e).2]⟩
  · obtain ⟨hj1, hj2⟩ := List.mem_filter.mp hj
    have hne : j ≠ i := by simpa using hj2
    rw [List.getElem?_set_ne (Ne.symm hne)] at e
    obtain ⟨a, h1, h2, h3⟩ := S.ob j d' hj1 e m
    exact ⟨a, by rw [restr_one, if_neg hne, h1], by rw [List.getElem?_set_ne (Ne.symm hne)]; exact h2, h3.step (fun _ _ q _ => q) ans fun _ q => q⟩
  · by_cases hne : j = i
    · subst hne
      rw [List.getElem?_set_self hi] at e
      cases e
      exact .inr ⟨by rw [restr_one, if_pos rfl], v, by rw [List.getElem?_set_self hiσ], r.anti an⟩
    · rw [List.getElem?_set_ne (Ne.symm hne)] at e
      rw [List.getElem?_set_ne (Ne.symm hne)]
      rcases S.slot j d' e with ⟨a, h1, h2, h3⟩ | ⟨h1, v, h2, h3⟩
      · exact .inl ⟨a, by rw [restr_one, if_neg hne, h1], h2, h3.step (fun _ _ q _ => q) ans fun _ q => q⟩
      · exact .inr ⟨by rw [restr_one, if_neg hne, h1], v, h2, h3.anti an⟩
/-- a slot takes a new cell as its own -/
theorem Sim.setF (S : Sim K H0 A0 G O σ H ρ B) (s : Same H H') {i : Nat} {a : Addr} (hn : H a = none) (r : Tp K (fun b => Av A0 B b ∨ b = a) H' a d) (hi : i < ρ.length) : ∃ B', Sim K H0 A0 G (i :: O) (σ.set i (some (.ref a))) H' (ρ.set i (some d)) B' := by
  let B' : Nat → Option Addr := fun j => if j = i then some a else B j
  have sub : ∀ j b, B' j = some b → (j = i ∧ b = a) ∨ (j ≠ i ∧ B j = some b) := fun j b e => by
    by_cases hj : j = i
    · simp [B', hj] at e; exact .inl ⟨hj, e.symm⟩
    · exact .inr ⟨hj, by simpa [B', hj] using e⟩
  have an : ∀ b, Av A0 B' b → Av A0 B b ∨ b = a := fun b z => by
    rcases z with z | ⟨j, z⟩
    · exact .inl (.inl z)
    · rcases sub j b z with ⟨_, q⟩ | ⟨_, q⟩
      · exact .inr q
      · exact .inl (.inr ⟨j, q⟩)
  have ans : ∀ b, Av A0 B' b → Av A0 B b ∨ H b = none := fun b z => by
    rcases an b z with z | z
    · exact .inl z
    · exact .inr (by rw [z]; exact hn)
  have kp : ∀ b o, H b = some o → ¬ Av A0 B b → H' b = some o := fun b o e _ => s b o e
  have hiσ : i < σ.length := by rw [← S.len]; exact hi
  have na : ¬ A0 a := fun z => by
    obtain ⟨o, e, _⟩ := S.a0 a z
    rw [hn] at e; cases e
  have nb : ∀ j, B j ≠ some a := fun j z => by
    obtain ⟨_, _, o, e, _⟩ := S.fr j a z
    rw [hn] at e; cases e
  refine ⟨B', ⟨S.same.trans s, fun b z => let ⟨o, e, n⟩ := S.a0 b z; ⟨o, s _ _ e, n⟩, by simp [S.len], fun j b e => ?_, fun j k b e e' => ?_, fun j b e => ?_, fun j d' hj e m => ?_, fun j d' e => ?_, fun p hp => (S.gs p hp).step kp ans⟩⟩
  · rcases sub j b e with ⟨q, _⟩ | ⟨_, q⟩
    · rw [q]; exact List.mem_cons_self
    · exact List.mem_cons_of_mem _ (S.bo j b q)
  · rcases sub j b e with ⟨q, q'⟩ | ⟨q, q'⟩
    · rcases sub k b e' with ⟨p, p'⟩ | ⟨p, p'⟩
      · rw [q, p]
      · rw [q'] at p'; exact absurd p' (nb k)
    · rcases sub k b e' with ⟨p, p'⟩ | ⟨p, p'⟩
      · rw [p'] at q'; exact absurd q' (nb j)
      · exact S.inj j k b q' p'
  · rcases sub j b e with ⟨q, q'⟩ | ⟨q, q'⟩
    · rw [q']
      refine ⟨?_, na, r.some⟩
      exact S.same.free hn
    · obtain ⟨h1, h2, o, h3, h4⟩ := S.fr j b q'
      exact ⟨h1, h2, o, s _ _ h3, h4⟩
  · by_cases hne : j = i
    · subst hne
      rw [List.getElem?_set_self hi] at e
      cases e
      exact ⟨a, by simp [B'], by rw [List.getElem?_set_self hiσ], r.step (fun _ _ q _ => q) (fun b z => .inl (an b z)) fun _ q => q⟩
    · rw [List.getElem?_set_ne (Ne.symm hne)] at e
      rw [List.getElem?_set_ne (Ne.symm hne)]
      rcases List.mem_cons.mp hj with hj | hj
      · exact absurd hj hne
      obtain ⟨b, h1, h2, h3⟩ := S.ob j d' hj e m
      exact ⟨b, by simp [B', hne, h1], h2, h3.step kp ans fun o q => s _ _ q⟩
  · by_cases hne : j = i
    · subst hne
      rw [List.getElem?_set_self hi] at e
      cases e
      exact .inl ⟨a, by simp [B'], by rw [List.getElem?_set_self hiσ], r.step (fun _ _ q _ => q) (fun b z => .inl (an b z)) fun _ q => q⟩
    · rw [List.getElem?_set_ne (Ne.symm hne)] at e
      rw [List.getElem?_set_ne (Ne.symm hne)]
      rcases S.slot j d' e with ⟨b, h1, h2, h3⟩ | ⟨h1, v, h2, h3⟩
      · exact .inl ⟨b, by simp [B', hne, h1], h2, h3.step kp ans fun o q => s _ _ q⟩
      · exact .inr ⟨by simp [B', hne, h1], v, h2, h3.step kp ans⟩
/-- an own cell is written -/
theorem Sim.write (S : Sim K H0 A0 G O σ H ρ B) {i : Nat} {a : Addr} {o : HO} (hb : B i = some a) (hs : σ[i]? = some (some (.ref a))) (r : Tp K (Av A0 B) (upd H a o) a d) (hi : i < ρ.length) : Sim K H0 A0 G O σ (upd H a o) (ρ.set i (some d)) B := by
  obtain ⟨f0, f1, o1, f2, f3⟩ := S.fr i a hb
  have nt : NT o := by
    obtain ⟨o', e, n⟩ := r.some
    rw [upd_same] at e
    cases e
    exact n
  have av : Av A0 B a := .inr ⟨i, hb⟩
  have kp : ∀ b q, H b = some q → ¬ Av A0 B b → upd H a o b = some q := fun b q e n => by
    rw [upd_ne (fun z => n (by rw [z]; exact av))]; exact e
  have kn : ∀ b q, H b = some q → b ≠ a → upd H a o b = some q := fun b q e n => by
    rw [upd_ne n]; exact e
  have ans : ∀ b, Av A0 B b → Av A0 B b ∨ H b = none := fun b z => .inl z
  have there : ∀ b, (∃ q, H b = some q ∧ NT q) → ∃ q, upd H a o b = some q ∧ NT q := fun b ⟨q, e, n⟩ => by
    by_cases hb : b = a
    · subst hb; exact ⟨o, upd_same, nt⟩
    · exact ⟨q, kn b q e hb, n⟩
  refine ⟨fun b q e => ?_, fun b z => there b (S.a0 b z), by simp [S.len], S.bo, S.inj, fun j b e => ?_, fun j d' hj e m => ?_, fun j d' e => ?_, fun p hp => (S.gs p hp).step kp ans⟩
  · exact kn b q (S.same b q e) (fun z => by rw [z, f0] at e; cases e)
  · obtain ⟨h1, h2, h3⟩ := S.fr j b e
    exact ⟨h1, h2, there b h3⟩
  · by_cases hne : j = i
    · subst hne
      rw [List.getElem?_set_self hi] at e
      cases e
      exact ⟨a, hb, hs, r⟩
    · rw [List.getElem?_set_ne (Ne.symm hne)] at e
      obtain ⟨b, h1, h2, h3⟩ := S.ob j d' hj e m
      refine ⟨b, h1, h2, h3.step kp ans fun q z => kn b q z fun w => hne ?_⟩
      rw [w] at h1
      exact S.inj j i a h1 hb
  · by_cases hne : j = i
    · subst hne
      rw [List.getElem?_set_self hi] at e
      cases e
      exact .inl ⟨a, hb, hs, r⟩
    · rw [List.getElem?_set_ne (Ne.symm hne)] at e
      rcases S.slot j d' e with ⟨b, h1, h2, h3⟩ | ⟨h1, v, h2, h3⟩
      · refine .inl ⟨b, h1, h2, h3.step kp ans fun q z => kn b q z fun w => hne ?_⟩
        rw [w] at h1
        exact S.inj j i a h1 hb
      · exact .inr ⟨h1, v, h2, h3.step kp ans⟩
/-- one more cell that is kept off (a comprehension's list) -/
theorem Sim.guard (S : Sim K H0 A0 G O σ H ρ B) {a : Addr} (hn : H a = none) (s : Same H H') (ht : ∃ o, H' a = some o ∧ NT o) : Sim K H0 (fun b => A0 b ∨ b = a) G O σ H' ρ B := by
  have kp : ∀ b o, H b = some o → ¬ Av A0 B b → H' b = some o := fun b o e _ => s b o e
  have ans : ∀ b, Av (fun b => A0 b ∨ b = a) B b → Av A0 B b ∨ H b = none := fun b z => by
    rcases z with (z | z) | z
    · exact .inl (.inl z)
    · exact .inr (by rw [z]; exact hn)
    · exact .inl (.inr z)
  refine ⟨S.same.trans s, fun b z => ?_, S.len, S.bo, S.inj, fun i b e => ?_, fun i d hi e m => ?_, fun i d e => ?_, fun p hp => (S.gs p hp).step kp ans⟩
  · rcases z with z | z
    · obtain ⟨o, e, n⟩ := S.a0 b z
      exact ⟨o, s _ _ e, n⟩
    · rw [z]; exact ht
  · obtain ⟨h1, h2, o, h3, h4⟩ := S.fr i b e
    refine ⟨h1, fun z => ?_, o, s _ _ h3, h4⟩
    rcases z with z | z
    · exact h2 z
    · rw [z, hn] at h3; cases h3
  · obtain ⟨b, h1, h2, h3⟩ := S.ob i d hi e m
    exact ⟨b, h1, h2, h3.step kp ans fun o q => s _ _ q⟩
  · rcases S.slot i d e with ⟨b, h1, h2, h3⟩ | ⟨h1, v, h2, h3⟩
    · exact .inl ⟨b, h1, h2, h3.step kp ans fun o q => s _ _ q⟩
    · exact .inr ⟨h1, v, h2, h3.step kp ans⟩
/-- one more ghost -/
theorem Sim.ghost (S : Sim K H0 A0 G O σ H ρ B) {G' : List (V × D)} (h : ∀ p ∈ G', Rp K (Av A0 B) H p.1 p.2) : Sim K H0 A0 (G' ++ G) O σ H ρ B :=
  ⟨S.same, S.a0, S.len, S.bo, S.inj, S.fr, S.ob, S.slot, fun p hp => (List.mem_append.mp hp).elim (h p) (S.gs p)⟩
theorem Sim.unghost {G' : List (V × D)} (S : Sim K H0 A0 (G' ++ G) O σ H ρ B) : Sim K H0 A0 G O σ H ρ B :=
  ⟨S.same, S.a0, S.len, S.bo, S.inj, S.fr, S.ob, S.slot, fun p hp => S.gs p (List.mem_append_right _ hp)⟩
/-- a slot is forgotten -/
theorem Sim.drop (S : Sim K H0 A0 G O σ H ρ B) (i : Nat) (hO : i ∉ O) : Sim K H0 A0 G O (σ.set i none) H (ρ.set i none) B := by
  have nb : ∀ j a, B j = some a → j ≠ i := fun j a e z => hO (z ▸ S.bo j a e)
  have ne : ∀ j d, (ρ.set i none)[j]? = some (some d) → j ≠ i ∧ ρ[j]? = some (some d) := fun j d e => by
    by_cases hj : j = i
    · subst hj
      by_cases hl : j < ρ.length
      · rw [List.getElem?_set_self hl] at e; cases e
      · rw [List.getElem?_eq_none (by simpa using hl)] at e; cases e
    · rw [List.getElem?_set_ne (Ne.symm hj)] at e
      exact ⟨hj, e⟩
  refine ⟨S.same, S.a0, by simp [S.len], S.bo, S.inj, S.fr, fun j d hj e m => ?_, fun j d e => ?_, S.gs⟩
  · obtain ⟨h, e⟩ := ne j d e
    rw [List.getElem?_set_ne (Ne.symm h)]
    exact S.ob j d hj e m
  · obtain ⟨h, e⟩ := ne j d e
    rw [List.getElem?_set_ne (Ne.symm h)]
    exact S.slot j d e
end
end Pm

namespace Pm
open PySem PySem.Spec PyProof.Rows L2

/-- weak, strong, fresh -/
inductive Md where | w | s | f
  deriving DecidableEq

def WRp (K : PySem.W.Frag) (A : Addr → Prop) (H : Hp) (v : V) (d : D) : Prop := Rp K A H v d ∨ ∃ a, v = V.ref a ∧ Tp K A H a d
def Res (K : PySem.W.Frag) (A : Addr → Prop) (He H' : Hp) : Md → V → D → Prop
  | .w, v, d => WRp K A H' v d
  | .s, v, d => Rp K A H' v d
  | .f, v, d => (∃ a, v = V.ref a ∧ He a = none ∧ Tp K (fun b => A b ∨ b = a) H' a d) ∨ (Rp K A H' v d ∧ isMut d = false)
/-- all that is kept off is tracked -/
def Tr (A : Addr → Prop) (H : Hp) : Prop := ∀ a, A a → ∃ o, H a = some o ∧ NT o

section
variable {K : PySem.W.Frag} {A A' : Addr → Prop} {H He H' H'' : Hp} {v : V} {d : D} {m : Md}
theorem Tr.mono (t : Tr A H) (s : Same H H') : Tr A H' := fun a h => let ⟨o, e, n⟩ := t a h; ⟨o, s _ _ e, n⟩
theorem Tr.no (t : Tr A H) {a : Addr} (h : H a = none) : ¬ A a := fun z => by
  obtain ⟨o, e, _⟩ := t a z
  rw [h] at e; cases e
theorem WRp.mono (s : Same H H') (h : WRp K A H v d) : WRp K A H' v d := by
  rcases h with h | ⟨a, e, h⟩
  · exact .inl (h.mono s)
  · exact .inr ⟨a, e, h.mono s⟩
theorem Res.mono (s : Same H' H'') (h : Res K A He H' m v d) : Res K A He H'' m v d := by
  cases m with
  | w => exact WRp.mono s h
  | s => exact Rp.mono s h
  | f =>
    rcases h with ⟨a, e, n, h⟩ | ⟨h, n⟩
    · exact .inl ⟨a, e, n, h.mono s⟩
    · exact .inr ⟨h.mono s, n⟩
theorem Res.back (s : Same He H) (h : Res K A H H' m v d) : Res K A He H' m v d := by
  cases m with
  | w => exact h
  | s => exact h
  | f =>
    rcases h with ⟨a, e, n, h⟩ | h
    · exact .inl ⟨a, e, s.free n, h⟩
    · exact .inr h
theorem Res.toW (h : Res K A He H' m v d) : WRp K A H' v d := by
  cases m with
  | w => exact h
  | s => exact .inl h
  | f =>
    rcases h with ⟨a, e, n, h⟩ | h
    · exact .inr ⟨a, e, h.step (fun _ _ q _ => q) (fun _ z => .inl (.inl z)) fun _ q => q⟩
    · exact .inl h.1
theorem Res.toS (t : Tr A He) (hm : m ≠ .w) (h : Res K A He H' m v d) : Rp K A H' v d := by
  cases m with
  | w => exact absurd rfl hm
  | s => exact h
  | f =>
    rcases h with ⟨a, e, n, h⟩ | h
    · subst e
      exact (h.step (fun _ _ q _ => q) (fun _ z => .inl (.inl z)) fun _ q => q : Tp K A H' a d).rp (t.no n)
    · exact h.1
/-- a value without a cell of its own to be written -/
theorem Res.flat (h : Rp K A H' v d) (n : isMut d = false) : Res K A He H' m v d := by
  cases m with
  | w => exact .inl h
  | s => exact h
  | f => exact .inr ⟨h, n⟩
theorem Res.int {i : Int} : Res K A He H' m (.int i) (.int i) := Res.flat (.int i) rfl
theorem Res.bl {b : Bool} : Res K A He H' m (.bl b) (.bool b) := Res.flat (.bl b) rfl
theorem Res.non : Res K A He H' m .non .none := Res.flat .non rfl
theorem Res.str {b : Str} : Res K A He H' m (.str b) (.str b) := Res.flat (.str b) rfl
/-- a new list, a new tuple -/
theorem Res.newL {p : Addr} {vs : List V} {ds : List D} (t : Tr A H) (hn : H p = none) (r : RpL K A H vs ds) (s : Same He H) : Res K A He (upd H p (.lst vs)) .f (.ref p) (.list ds) := by
  refine .inl ⟨p, rfl, s.free hn, .lst upd_same ?_⟩
  refine r.step (fun a o e _ => ?_) fun a z => ?_
  · rw [upd_ne (ne_of_none e hn)]; exact e
  · rcases z with z | z
    · exact .inl z
    · exact .inr (by rw [z]; exact hn)
theorem same_upd {p : Addr} {o : HO} (h : H p = none) : Same H (upd H p o) := fun b x e => by
  rw [upd_ne (ne_of_none e h)]; exact e
theorem Rp.newT {p : Addr} {vs : List V} {ds : List D} (t : Tr A H) (hn : H p = none) (r : RpL K A H vs ds) : Rp K A (upd H p (.tup vs)) (.ref p) (.tuple ds) :=
  .tup upd_same (t.no hn) (r.mono (same_upd hn))
theorem WRp.int {i : Int} (h : WRp K A H v (.int i)) : v = .int i := by
  rcases h with h | ⟨a, e, h⟩
  · cases h; rfl
  · cases h
theorem WRp.bl {i : Bool} (h : WRp K A H v (.bool i)) : v = .bl i := by
  rcases h with h | ⟨a, e, h⟩
  · cases h; rfl
  · cases h
theorem WRp.non (h : WRp K A H v .none) : v = .non := by
  rcases h with h | ⟨a, e, h⟩
  · cases h; rfl
  · cases h
theorem WRp.str {i : Str} (h : WRp K A H v (.str i)) : v = .str i := by
  rcases h with h | ⟨a, e, h⟩
  · cases h; rfl
  · cases h
theorem WRp.lst {ds : List D} (h : WRp K A H v (.list ds)) : ∃ a xs, v = .ref a ∧ H a = some (.lst xs) ∧ RpL K A H xs ds := by
  rcases h with h | ⟨a, e, h⟩
  · cases h with
    | lst h n r => exact ⟨_, _, rfl, h, r⟩
  · cases h with
    | lst h r => exact ⟨_, _, e, h, r⟩
theorem WRp.tup {ds : List D} (h : WRp K A H v (.tuple ds)) : ∃ a xs, v = .ref a ∧ H a = some (.tup xs) ∧ ¬ A a ∧ RpL K A H xs ds := by
  rcases h with h | ⟨a, e, h⟩
  · cases h with
    | tup h n r => exact ⟨_, _, rfl, h, n, r⟩
  · cases h
theorem WRp.scr {ds : List D} (h : WRp K A H v (.dict [(.none, .list ds)])) : ∃ a xs, v = .ref a ∧ SqL K H a xs ∧ RpL K A H xs ds := by
  rcases h with h | ⟨a, e, h⟩
  · cases h with
    | scr h n r => exact ⟨_, _, rfl, .inl h, r⟩
    | kl h r => exact ⟨_, _, rfl, .inr h, r⟩
    | dic h n r e =>
      rename_i ks ds'
      cases ks with
      | nil => simp at e
      | cons p ks =>
        cases ds' with
        | nil => simp at e
        | cons d' ds' =>
          simp only [List.map_cons, List.zip_cons_cons, List.cons.injEq, Prod.mk.injEq] at e
          obtain ⟨⟨e, _⟩, _⟩ := e
          obtain ⟨k, _⟩ := p
          cases k <;> cases e
  · cases h with
    | dic h r e =>
      rename_i ks ds'
      cases ks with
      | nil => simp at e
      | cons p ks =>
        cases ds' with
        | nil => simp at e
        | cons d' ds' =>
          simp only [List.map_cons, List.zip_cons_cons, List.cons.injEq, Prod.mk.injEq] at e
          obtain ⟨⟨e, _⟩, _⟩ := e
          obtain ⟨k, _⟩ := p
          cases k <;> cases e
end

/-! ### judgements -/
def simT (K : PySem.W.Frag) (O : List Nat) (m : Md) (f : Xp) : TE := fun σ H Q => ∃ H0 A0 G ρ B d, Sim K H0 A0 G O σ H ρ B ∧ f ρ = some d ∧ ∀ v H', Same H H' → Res K (Av A0 B) H H' m v d → Q v H'
structure SE (X : Cx) (O : List Nat) (m : Md) (e : Expr) (f : Xp) : Prop where
  pe : PE X e (simT X.K O m f)
def simTT (K : PySem.W.Frag) (O : List Nat) (f : PEnv → Option Bool) : TT := fun σ H Q => ∃ H0 A0 G ρ B b, Sim K H0 A0 G O σ H ρ B ∧ f ρ = some b ∧ ∀ H', Same H H' → Q b H'
structure ST (X : Cx) (O : List Nat) (e : Expr) (f : PEnv → Option Bool) : Prop where
  pt : PT X e (simTT X.K O f)
def ResL (K : PySem.W.Frag) (A : Addr → Prop) (H : Hp) (strong : Bool) (vs : List V) (ds : List D) : Prop := if strong then RpL K A H vs ds else Paired (WRp K A H) vs ds
def simA (K : PySem.W.Frag) (O : List Nat) (strong : Bool) (f : PEnv → Option (List D)) : TA := fun σ H Q => ∃ H0 A0 G ρ B ds, Sim K H0 A0 G O σ H ρ B ∧ f ρ = some ds ∧ ∀ vs H', Same H H' → ResL K (Av A0 B) H' strong vs ds → Q vs H'
structure SA (X : Cx) (O : List Nat) (strong : Bool) (es : List Expr) (f : PEnv → Option (List D)) : Prop where
  pa : PA X es (simA X.K O strong f)

theorem pe_imp {X : Cx} {e : Expr} {t t' : TE} (h : PE X e t) (hi : ∀ σ H Q, t' σ H Q → t σ H Q) : PE X e t' := ⟨fun pins s σ H Q I q => h.run pins s σ H Q I (hi _ _ _ q)⟩
theorem pt_imp {X : Cx} {e : Expr} {t t' : TT} (h : PT X e t) (hi : ∀ σ H Q, t' σ H Q → t σ H Q) : PT X e t' := ⟨fun pins s σ H Q I q => h.run pins s σ H Q I (hi _ _ _ q)⟩
theorem pa_imp {X : Cx} {e : List Expr} {t t' : TA} (h : PA X e t) (hi : ∀ σ H Q, t' σ H Q → t σ H Q) : PA X e t' := ⟨fun pos pins s σ H Q I q => h.run pos pins s σ H Q I (hi _ _ _ q)⟩
theorem ps_imp {X : Cx} {e : Stmt} {t t' : TS} (h : PS X e t) (hi : ∀ D σ H, t' D σ H → t D σ H) : PS X e t' := ⟨fun pins s σ H Q I q => h.run pins s σ H Q I (hi _ _ _ q)⟩
theorem pss_imp {X : Cx} {e : List Stmt} {t t' : TS} (h : PSs X e t) (hi : ∀ D σ H, t' D σ H → t D σ H) : PSs X e t' := ⟨fun pins s σ H Q I q => h.run pins s σ H Q I (hi _ _ _ q)⟩

/-! ### names, constants -/
def xVar (i : Nat) : Xp := fun ρ => ρ.getD i none
def xC (d : D) : Xp := fun _ => some d
theorem getD_some {ρ : PEnv} {i : Nat} {d : D} (h : ρ.getD i none = some d) : ρ[i]? = some (some d) := by
  rw [List.getD_eq_getElem?_getD] at h
  cases e : ρ[i]? with
  | none => rw [e] at h; cases h
  | some x => rw [e] at h; exact congrArg some h
section
variable {X : Cx} {O : List Nat} {m ma mb : Md} {a b c e : Expr} {es : List Expr} {fa fb fc f : Xp} {pos : Pos}
theorem se_var (i : Nat) {x : Str} (hN : X.N[i]? = some x := by rfl) (hv : Vis X.env.scope x := by first | exact Or.inl rfl | exact Or.inr (Or.inl rfl) | exact Or.inr (Or.inr rfl)) (ho : O.contains i = false := by rfl)
    (hd : (x == ("__debug__" : Str)) = false := by decide) (hcd : (x == ("__classdict__" : Str)) = false := by decide) : SE X O .s (.Name x pos) (xVar i) := by
  refine ⟨pe_imp (pe_var hN hv hd hcd) fun σ H Q h => ?_⟩
  obtain ⟨H0, A0, G, ρ, B, d, S, e, k⟩ := h
  rcases S.slot i d (getD_some e) with ⟨a, h1, _, _⟩ | ⟨_, v, h2, h3⟩
  · have := S.bo i a h1
    simp at ho
    exact absurd this ho
  · exact ⟨v, h2, k v H (Same.refl H) h3⟩
theorem se_varW (i : Nat) {x : Str} (hN : X.N[i]? = some x := by rfl) (hv : Vis X.env.scope x := by first | exact Or.inl rfl | exact Or.inr (Or.inl rfl) | exact Or.inr (Or.inr rfl))
    (hd : (x == ("__debug__" : Str)) = false := by decide) (hcd : (x == ("__classdict__" : Str)) = false := by decide) : SE X O .w (.Name x pos) (xVar i) := by
  refine ⟨pe_imp (pe_var hN hv hd hcd) fun σ H Q h => ?_⟩
  obtain ⟨H0, A0, G, ρ, B, d, S, e, k⟩ := h
  rcases S.slot i d (getD_some e) with ⟨a, h1, h2, h3⟩ | ⟨_, v, h2, h3⟩
  · exact ⟨_, h2, k _ H (Same.refl H) (.inr ⟨a, rfl, h3⟩)⟩
  · exact ⟨v, h2, k v H (Same.refl H) (.inl h3)⟩
theorem se_int {i j} : SE X O .f (.Constant (.int i) j pos) (xC (.int i)) :=
  ⟨pe_imp pe_int fun σ H Q ⟨H0, A0, G, ρ, B, d, S, e, k⟩ => by cases e; exact k _ H (Same.refl H) Res.int⟩
theorem se_bl {i j} : SE X O .f (.Constant (.bool i) j pos) (xC (.bool i)) :=
  ⟨pe_imp pe_bl fun σ H Q ⟨H0, A0, G, ρ, B, d, S, e, k⟩ => by cases e; exact k _ H (Same.refl H) Res.bl⟩
theorem se_non {j} : SE X O .f (.Constant .none j pos) (xC .none) :=
  ⟨pe_imp pe_non fun σ H Q ⟨H0, A0, G, ρ, B, d, S, e, k⟩ => by cases e; exact k _ H (Same.refl H) Res.non⟩
theorem se_str {i j} : SE X O .f (.Constant (.str i) j pos) (xC (.str i)) :=
  ⟨pe_imp pe_str fun σ H Q ⟨H0, A0, G, ρ, B, d, S, e, k⟩ => by cases e; exact k _ H (Same.refl H) Res.str⟩

/-! ### operators by values -/
def xBin (g : D → D → Option D) (fa fb : Xp) : Xp := fun ρ => (fa ρ).bind fun x => (fb ρ).bind fun y => g x y
def xUn (g : D → Option D) (fa : Xp) : Xp := fun ρ => (fa ρ).bind g
def rD (K : PySem.W.Frag) (m : Md) (g : D → D → Option D) : R2 := fun x y H Q => ∃ A dx dy d, Tr A H ∧ WRp K A H x dx ∧ WRp K A H y dy ∧ g dx dy = some d ∧ ∀ v H', Same H H' → Res K A H H' m v d → Q v H'
def rD1 (K : PySem.W.Frag) (m : Md) (g : D → Option D) : V → Hp → VK → Prop := fun x H Q => ∃ A dx d, Tr A H ∧ WRp K A H x dx ∧ g dx = some d ∧ ∀ v H', Same H H' → Res K A H H' m v d → Q v H'
theorem bind2 {α β : Type} {a : Option α} {b : α → Option β} {c : β} (h : a.bind b = some c) : ∃ x, a = some x ∧ b x = some c := Option.bind_eq_some_iff.mp h
theorem tOp_of {g : D → D → Option D} (σ : L2.St) (H : Hp) (Q : VK) (h : simT X.K O m (xBin g fa fb) σ H Q) : tOp (rD X.K m g) (simT X.K O ma fa) (simT X.K O mb fb) σ H Q := by
  obtain ⟨H0, A0, G, ρ, B, d, S, e, k⟩ := h
  obtain ⟨x, ex, e⟩ := bind2 e
  obtain ⟨y, ey, e⟩ := bind2 e
  refine ⟨H0, A0, G, ρ, B, x, S, ex, fun v H1 s1 r1 => ⟨H0, A0, G, ρ, B, y, S.mono s1, ey, fun u H2 s2 r2 => ?_⟩⟩
  exact ⟨Av A0 B, x, y, d, (S.mono (s1.trans s2)).tr, r1.toW.mono s2, r2.toW, e, fun z H3 s3 r3 => k z H3 ((s1.trans s2).trans s3) (r3.back (s1.trans s2))⟩
theorem se_op {op : Operator} {g : D → D → Option D} (ho : OpR X (binaryOp op) (rD X.K m g)) (ha : SE X O ma a fa) (hb : SE X O mb b fb) : SE X O m (.BinOp a op b pos) (xBin g fa fb) :=
  ⟨pe_imp (pe_op ho ha.pe hb.pe) tOp_of⟩
theorem se_cmp {op : CmpOp} {g : D → D → Option D} (ho : OpR X (compareOp op) (rD X.K m g)) (ha : SE X O ma a fa) (hb : SE X O mb b fb) (hm : behindInMarks op b = false := by first | exact nomark _ | rfl) : SE X O m (.Compare a [op] [b] pos) (xBin g fa fb) :=
  ⟨pe_imp (pe_cmpR ho ha.pe hb.pe hm) tOp_of⟩
/-- a comparison's answer as a test -/
def tB2 (g : D → D → Option D) (fa fb : Xp) : PEnv → Option Bool := fun ρ => (fa ρ).bind fun x => (fb ρ).bind fun y => (g x y).bind fun z => match z with | .bool b => some b | _ => none
def dB (d : D) : Option Bool := match d with | .bool b => some b | _ => none
theorem dB_some {d : D} {b : Bool} (h : dB d = some b) : d = .bool b := by
  cases d <;> simp_all [dB]
def tOf (f : Xp) : PEnv → Option Bool := fun ρ => (f ρ).bind dB
theorem st_cmp {op : CmpOp} {g : D → D → Option D} (ho : OpR X (compareOp op) (rD X.K .f g)) (ha : SE X O ma a fa) (hb : SE X O mb b fb) (hm : behindInMarks op b = false := by first | exact nomark _ | rfl) : ST X O (.Compare a [op] [b] pos) (tOf (xBin g fa fb)) := by
  refine ⟨pt_imp (pt_cmpR ho ha.pe hb.pe hm) fun σ H Q h => ?_⟩
  obtain ⟨H0, A0, G, ρ, B, b, S, e, k⟩ := h
  obtain ⟨d, ed, e⟩ := bind2 e
  have := dB_some e
  subst this
  refine tOp_of (m := .f) σ H _ ⟨H0, A0, G, ρ, B, _, S, ed, fun v H' s r => ?_⟩
  exact ⟨b, r.toW.bl, k H' s⟩
theorem se_un {op : UnaryOp} {g : D → Option D} (ho : UnR X (unaryOp op) (rD1 X.K m g)) (ha : SE X O ma a fa) : SE X O m (.UnaryOp op a pos) (xUn g fa) := by
  refine ⟨pe_imp (pe_un ho ha.pe) fun σ H Q h => ?_⟩
  obtain ⟨H0, A0, G, ρ, B, d, S, e, k⟩ := h
  obtain ⟨x, ex, e⟩ := bind2 e
  exact ⟨H0, A0, G, ρ, B, x, S, ex, fun v H1 s1 r1 => ⟨Av A0 B, x, d, (S.mono s1).tr, r1.toW, e, fun z H3 s3 r3 => k z H3 (s1.trans s3) (r3.back s1)⟩⟩

/-! ### tests -/
def tNotP (f : PEnv → Option Bool) : PEnv → Option Bool := fun ρ => (f ρ).map (!·)
def tAndP (f g : PEnv → Option Bool) : PEnv → Option Bool := fun ρ => (f ρ).bind fun b => if b then g ρ else some false
def tOrP (f g : PEnv → Option Bool) : PEnv → Option Bool := fun ρ => (f ρ).bind fun b => if b then some true else g ρ
theorem st_not {f : PEnv → Option Bool} (h : ST X O a f) : ST X O (.UnaryOp .Not a pos) (tNotP f) := by
  refine ⟨pt_imp (pt_not h.pt) fun σ H Q q => ?_⟩
  obtain ⟨H0, A0, G, ρ, B, b, S, e, k⟩ := q
  obtain ⟨x, ex, e⟩ := Option.map_eq_some_iff.mp e
  subst e
  exact ⟨H0, A0, G, ρ, B, x, S, ex, fun H' s => k H' s⟩
/-- and, or of tests -/
structure SW (X : Cx) (O : List Nat) (e : Expr) (f : PEnv → Option Bool) : Prop where
  pw : PW X e (simTT X.K O f)
theorem SW.st {f : PEnv → Option Bool} (h : SW X O a f) : ST X O a f := ⟨h.pw.pt⟩
theorem sw_and1 {f : PEnv → Option Bool} (h : ST X O a f) : SW X O (.BoolOp .And [a] pos) f := ⟨pw_and1 h.pt⟩
theorem sw_or1 {f : PEnv → Option Bool} (h : ST X O a f) : SW X O (.BoolOp .Or [a] pos) f := ⟨pw_or1 h.pt⟩
theorem pw_imp {e : Expr} {t t' : TT} (h : PW X e t) (hi : ∀ σ H Q, t' σ H Q → t σ H Q) : PW X e t' := ⟨fun w pins s σ H Q I q => h.run w pins s σ H Q I (hi _ _ _ q)⟩
theorem sw_and {f g : PEnv → Option Bool} (h : ST X O a f) (h' : SW X O (.BoolOp .And (b :: es) pos) g) : SW X O (.BoolOp .And (a :: b :: es) pos) (tAndP f g) := by
  refine ⟨pw_imp (pw_and h.pt h'.pw) fun σ H Q q => ?_⟩
  obtain ⟨H0, A0, G, ρ, B, b, S, e, k⟩ := q
  obtain ⟨x, ex, e⟩ := bind2 e
  refine ⟨H0, A0, G, ρ, B, x, S, ex, fun H1 s1 => ?_⟩
  cases x with
  | true => exact ⟨H0, A0, G, ρ, B, b, S.mono s1, e, fun H' s => k H' (s1.trans s)⟩
  | false => cases e; exact k H1 s1
theorem sw_or {f g : PEnv → Option Bool} (h : ST X O a f) (h' : SW X O (.BoolOp .Or (b :: es) pos) g) : SW X O (.BoolOp .Or (a :: b :: es) pos) (tOrP f g) := by
  refine ⟨pw_imp (pw_or h.pt h'.pw) fun σ H Q q => ?_⟩
  obtain ⟨H0, A0, G, ρ, B, b, S, e, k⟩ := q
  obtain ⟨x, ex, e⟩ := bind2 e
  refine ⟨H0, A0, G, ρ, B, x, S, ex, fun H1 s1 => ?_⟩
  cases x with
  | true => cases e; exact k H1 s1
  | false => exact ⟨H0, A0, G, ρ, B, b, S.mono s1, e, fun H' s => k H' (s1.trans s)⟩
/-- a value's truth -/
def oTru : D → Option Bool
  | .none => some false
  | .bool b => some b
  | .int i => some (i != 0)
  | .list xs => some (!xs.isEmpty)
  | .tuple xs => some (!xs.isEmpty)
  | .dict [] => some false
  | .dict ((.int _, _) :: _) => some true
  | .dict ((.str _, _) :: _) => some true
  | _ => none
theorem empty_of {K : PySem.W.Frag} {A : Addr → Prop} {H : Hp} {vs : List V} {ds : List D} (r : RpL K A H vs ds) : (!vs.isEmpty) = !ds.isEmpty := by
  cases r <;> rfl
theorem tru_of {K : PySem.W.Frag} {A : Addr → Prop} {H : Hp} {v : V} {d : D} {b : Bool} (h : WRp K A H v d) (e : oTru d = some b) : TruV K v H b := by
  have dict : ∀ {a : Addr} {ks : List (Key × V)} {ds : List D} {kd : List (D × D)}, H a = some (.dK ks) → RpL K A H (ks.map (·.2)) ds → kd = (ks.map fun p => keyD p.1).zip ds → oTru (.dict kd) = some b → TruV K (.ref a) H b := fun {a ks ds kd} h1 h2 h3 h4 => by
    refine .inr (.inr ⟨ks, h1, ?_⟩)
    subst h3
    cases ks with
    | nil => simp [oTru] at h4; simp [← h4]
    | cons p ks =>
      cases h2 with
      | cons h2 h2' =>
        obtain ⟨k, v⟩ := p
        cases k <;> simp [oTru, keyD] at h4 <;> simp [← h4]
  rcases h with h | ⟨a, z, h⟩
  · cases h with
    | non => cases e; exact rfl
    | bl c => cases e; exact rfl
    | int i => cases e; exact rfl
    | str x => cases e
    | lst h n r => cases e; exact .inl ⟨_, .inl (.inl h), (empty_of r).symm⟩
    | tup h n r => cases e; exact .inr (.inl ⟨_, .inl (.inl h), (empty_of r).symm⟩)
    | scr h n r => simp [oTru] at e
    | kl h r => simp [oTru] at e
    | dic h n r q => exact dict h r q e
  · subst z
    cases h with
    | lst h r => cases e; exact .inl ⟨_, .inl (.inl h), (empty_of r).symm⟩
    | dic h r q => exact dict h r q e
def tTru (f : Xp) : PEnv → Option Bool := fun ρ => (f ρ).bind oTru
theorem st_val (h : SE X O m a fa) (he : ∀ whole, isTrue a X.env whole = (do let v ← whole; standAt a.pos; holding [v] (truthy v)) := by intro _; rfl) : ST X O a (tTru fa) := by
  refine ⟨pt_imp (pt_truth h.pe he) fun σ H Q q => ?_⟩
  obtain ⟨H0, A0, G, ρ, B, b, S, e, k⟩ := q
  obtain ⟨x, ex, e⟩ := bind2 e
  exact ⟨H0, A0, G, ρ, B, x, S, ex, fun v H1 s1 r1 => ⟨b, tru_of r1.toW e, k H1 s1⟩⟩
/-- not as a value -/
def oNot (d : D) : Option D := (oTru d).map fun b => .bool (!b)
end
end Pm

namespace Pm
open PySem PySem.Spec PyProof.Rows L2

def shp (d : D) : Bool := SeqAt.shaped d
/-! ### what the operators do -/
def oAdd : D → D → Option D
  | .int a, .int b => some (.int (a + b))
  | .list a, .list b => if a.length + b.length ≤ 16777216 then some (.list (a ++ b)) else none
  | .tuple a, .tuple b => if a.length + b.length ≤ 16777216 then some (.tuple (a ++ b)) else none
  | .int a, .bool b => some (.int (a + (if b then 1 else 0)))
  | _, _ => none
def oSub : D → D → Option D
  | .int a, .int b => some (.int (a - b))
  | _, _ => none
def mulOk (a b : Int) : Bool := decide (a.natAbs < 2 ^ 63) || decide (b.natAbs < 2 ^ 63) || decide (a.natAbs.log2 + b.natAbs.log2 < 1000000)
def oMul : D → D → Option D
  | .int a, .int b => if mulOk a b then some (.int (a * b)) else none
  | .list a, .int k => if -(2 ^ 62) ≤ k ∧ k < 2 ^ 62 ∧ a.length * k.toNat ≤ 16777216 then some (.list (List.replicate k.toNat a).flatten) else none
  | .tuple a, .int k => if a ≠ [] ∧ 2 ≤ k ∧ k ≤ 1000 ∧ a.length ≤ 1000 then some (.tuple (List.replicate k.toNat a).flatten) else none
  | _, _ => none
def divOk (b : Int) : Bool := decide (b ≠ 0) && decide (b.natAbs.log2 < 9000)
def oFdiv : D → D → Option D
  | .int a, .int b => if divOk b then some (.int (a.fdiv b)) else none
  | _, _ => none
def oMod : D → D → Option D
  | .int a, .int b => if b ≠ 0 then some (.int (a.fmod b)) else none
  | _, _ => none
def oPow : D → D → Option D
  | .int a, .int b => if 0 ≤ b ∧ b ≤ 1000000 ∧ a.natAbs < 2 ^ 64 then some (.int (a ^ b.toNat)) else none
  | _, _ => none
def oShl : D → D → Option D
  | .int a, .int b => if 0 ≤ b ∧ b ≤ 1000000 ∧ a.natAbs < 2 ^ 64 then some (.int (a * 2 ^ b.toNat)) else none
  | _, _ => none
def oEq (x y : D) : Option D := if shp x && shp y then some (.bool (PyData.eqv x y)) else none
def oNe (x y : D) : Option D := if shp x && shp y then some (.bool (!PyData.eqv x y)) else none
def oLt : D → D → Option D
  | .int a, .int b => some (.bool (decide (a < b)))
  | _, _ => none
def oLe : D → D → Option D
  | .int a, .int b => some (.bool (decide (a ≤ b)))
  | _, _ => none
def oGt : D → D → Option D
  | .int a, .int b => some (.bool (decide (b < a)))
  | _, _ => none
def oGe : D → D → Option D
  | .int a, .int b => some (.bool (decide (b ≤ a)))
  | _, _ => none
def isNone : D → Bool
  | .none => true
  | _ => false
def oIs : D → D → Option D
  | x, .none => some (.bool (isNone x))
  | _, _ => none
def oIsNot : D → D → Option D
  | x, .none => some (.bool (!isNone x))
  | _, _ => none
def oIn : D → D → Option D
  | x, .list ys => if shp x && PyData.canLayAll0 ys then some (.bool (ys.any fun z => PyData.eqv z x)) else none
  | x, .tuple ys => if shp x && PyData.canLayAll0 ys then some (.bool (ys.any fun z => PyData.eqv z x)) else none
  | _, _ => none
def oNotIn : D → D → Option D
  | x, .list ys => if shp x && PyData.canLayAll0 ys then some (.bool (!ys.any fun z => PyData.eqv z x)) else none
  | x, .tuple ys => if shp x && PyData.canLayAll0 ys then some (.bool (!ys.any fun z => PyData.eqv z x)) else none
  | _, _ => none
def ixD (xs : List D) (i : Int) : Option D := atI xs i
def oIx : D → D → Option D
  | .list xs, .int i => atI xs i
  | .tuple xs, .int i => atI xs i
  | .dict [(.none, .list xs)], .int i => atI xs i
  | _, _ => none
def oNeg : D → Option D
  | .int i => some (.int (-i))
  | _ => none

section
variable {K : PySem.W.Frag} {A : Addr → Prop} {H H' : Hp} {v : V} {d : D} {vs : List V} {ds : List D}
mutual
theorem Rp.dp : ∀ {v : V} {d : D}, Rp K A H v d → d.canLay0 = true → Dp K H v d
  | _, _, .non, _ => .non
  | _, _, .bl b, _ => .bl b
  | _, _, .int i, _ => .int i
  | _, _, .str x, _ => .str x
  | _, _, .lst h n r, c => .lst (.inl (.inl h)) (RpL.dp r (by simpa [PyData.canLay0] using c))
  | _, _, .tup h n r, c => .tup (.inl (.inl h)) (RpL.dp r (by simpa [PyData.canLay0] using c))
  | _, _, .scr h n r, c => by simp [PyData.canLay0] at c
  | _, _, .kl h r, c => by simp [PyData.canLay0] at c
  | _, _, .dic h n r e, c => by simp [PyData.canLay0] at c
theorem RpL.dp : ∀ {vs : List V} {ds : List D}, RpL K A H vs ds → PyData.canLayAll0 ds = true → DpAll K H vs ds
  | _, _, .nil, _ => .nil
  | _, _, .cons h r, c => by
    simp only [PyData.canLayAll0, Bool.and_eq_true] at c
    exact .cons (Rp.dp h c.1) (RpL.dp r c.2)
end
theorem WRp.dpc (h : WRp K A H v d) (c : d.canLay0 = true) : Dp K H v d := by
  rcases h with h | ⟨a, e, h⟩
  · exact h.dp c
  · subst e
    cases h with
    | lst h r => exact .lst (.inl (.inl h)) (r.dp (by simpa [PyData.canLay0] using c))
    | dic h r e => simp [PyData.canLay0] at c
theorem WRp.dp (h : WRp K A H v d) (c : shp d = true) : Dp K H v d := h.dpc (SeqAt.canLay_of_shaped c)
theorem RpL.atI {i : Int} (r : RpL K A H vs ds) (h : L2.atI ds i = some d) : ∃ v, L2.atI vs i = some v ∧ Rp K A H v d := by
  unfold L2.atI at h ⊢
  rw [r.length]
  obtain ⟨j, e1, e2⟩ := Option.bind_eq_some_iff.mp h
  obtain ⟨v, e3, e4⟩ := r.get e2
  exact ⟨v, by rw [e1]; exact e3, e4⟩
theorem non_dec : Rp K A H v d → decide (v = V.non) = isNone d := by
  intro h
  cases h <;> rfl
theorem WRp.none_dec (h : WRp K A H v d) : decide (v = V.non) = isNone d := by
  rcases h with h | ⟨a, e, h⟩
  · exact non_dec h
  · subst e
    cases h <;> rfl
end
section
variable {X : Cx} {k : Nat}
theorem op_addD : OpR X (binaryOp .Add) (rD X.K .f oAdd) := by
  intro pins s σ H x y v u Q I rx ry ⟨A, dx, dy, d, tr, wx, wy, e, q⟩
  unfold oAdd at e
  split at e
  · cases e
    exact op_add pins s σ H x y v u Q I rx ry ⟨_, _, wx.int, wy.int, q _ H (Same.refl H) Res.int⟩
  · split at e
    · rename_i hz
      cases e
      obtain ⟨a, xs, rfl, ha, ra⟩ := wx.lst
      obtain ⟨b, ys, rfl, hb, rb⟩ := wy.lst
      refine op_cat pins s σ H _ _ v u Q I rx ry ⟨a, b, xs, ys, rfl, rfl, ha, hb, by rw [ra.length, rb.length]; exact hz, fun p hp => q _ _ (same_upd hp) (Res.newL tr hp (rb.app ra) (Same.refl H))⟩
    · cases e
  · split at e
    · rename_i hz
      cases e
      obtain ⟨a, xs, rfl, ha, na, ra⟩ := wx.tup
      obtain ⟨b, ys, rfl, hb, nb, rb⟩ := wy.tup
      refine op_catA pins s σ H _ _ v u Q I rx ry ⟨a, b, xs, ys, rfl, rfl, .of ha, .of hb, by rw [ra.length, rb.length]; exact hz, fun z => ?_, fun _ z => ?_, fun _ _ p hp => q _ _ (same_upd hp) (Res.flat (Rp.newT tr hp (rb.app ra)) rfl)⟩
      · subst z
        cases ra
        exact q _ H (Same.refl H) (Res.flat (.tup hb nb rb) rfl)
      · subst z
        cases rb
        exact q _ H (Same.refl H) (Res.flat (.tup ha na (by simpa using ra)) rfl)
    · cases e
  · cases e
    exact op_add_ib pins s σ H x y v u Q I rx ry ⟨_, _, wx.int, wy.bl, q _ H (Same.refl H) (by
      rename_i b
      cases b <;> exact Res.int)⟩
  · cases e
theorem op_subD : OpR X (binaryOp .Sub) (rD X.K .f oSub) := by
  intro pins s σ H x y v u Q I rx ry ⟨A, dx, dy, d, tr, wx, wy, e, q⟩
  unfold oSub at e
  split at e
  · cases e
    exact op_sub pins s σ H x y v u Q I rx ry ⟨_, _, wx.int, wy.int, q _ H (Same.refl H) Res.int⟩
  · cases e
theorem mul_case {a b : Int} (h : mulOk a b = true) : CMul a b ∨ CMulW a b := by
  unfold mulOk at h
  rw [Bool.or_eq_true, Bool.or_eq_true] at h
  rcases h with (h | h) | h
  · exact .inl (.inl (by have := of_decide_eq_true h; omega))
  · exact .inl (.inr (by have := of_decide_eq_true h; omega))
  · exact .inr (show a.natAbs.log2 + b.natAbs.log2 < 1000000 from of_decide_eq_true h)
theorem op_mulD : OpR X (binaryOp .Mult) (rD X.K .f oMul) := by
  intro pins s σ H x y v u Q I rx ry ⟨A, dx, dy, d, tr, wx, wy, e, q⟩
  unfold oMul at e
  split at e
  · split at e
    · rename_i hm
      cases e
      rcases mul_case hm with h | h
      · exact op_mul pins s σ H x y v u Q I rx ry ⟨_, _, wx.int, wy.int, h, q _ H (Same.refl H) Res.int⟩
      · exact op_mulW pins s σ H x y v u Q I rx ry ⟨_, _, wx.int, wy.int, h, q _ H (Same.refl H) Res.int⟩
    · cases e
  · split at e
    · rename_i hz
      cases e
      obtain ⟨a, xs, rfl, ha, ra⟩ := wx.lst
      refine op_rep pins s σ H _ _ v u Q I rx ry ⟨a, _, xs, rfl, wy.int, ha, by omega, by omega, by rw [ra.length]; exact hz.2.2, fun p hp => q _ _ (same_upd hp) (Res.newL tr hp (ra.rep _) (Same.refl H))⟩
    · cases e
  · split at e
    · rename_i hz
      cases e
      obtain ⟨a, xs, rfl, ha, na, ra⟩ := wx.tup
      refine op_repT pins s σ H _ _ v u Q I rx ry ⟨a, _, xs, rfl, wy.int, .of ha, fun z => ?_, hz.2.1, hz.2.2.1, by rw [ra.length]; exact hz.2.2.2, fun p hp => q _ _ (same_upd hp) (Res.flat (Rp.newT tr hp (ra.rep _)) rfl)⟩
      subst z
      cases ra
      exact hz.1 rfl
    · cases e
  · cases e
theorem op_fdivD : OpR X (binaryOp .FloorDiv) (rD X.K .f oFdiv) := by
  intro pins s σ H x y v u Q I rx ry ⟨A, dx, dy, d, tr, wx, wy, e, q⟩
  unfold oFdiv at e
  split at e
  · split at e
    · rename_i hz
      cases e
      unfold divOk at hz
      rw [Bool.and_eq_true] at hz
      have h1 := of_decide_eq_true hz.1
      have h2 := of_decide_eq_true hz.2
      exact (opI (C := fun i j => j ≠ 0 ∧ j.natAbs.log2 < 9000) fun i j _ _ _ _ _ hc q => floordiv_int hc.1 q (.inl (PyProof.noPylong_of_log2 hc.2))) pins s σ H x y v u Q I rx ry ⟨_, _, wx.int, wy.int, ⟨h1, h2⟩, q _ H (Same.refl H) Res.int⟩
    · cases e
  · cases e
theorem op_modD : OpR X (binaryOp .Mod) (rD X.K .f oMod) := by
  intro pins s σ H x y v u Q I rx ry ⟨A, dx, dy, d, tr, wx, wy, e, q⟩
  unfold oMod at e
  split at e
  · split at e
    · rename_i hz
      cases e
      exact op_modN pins s σ H x y v u Q I rx ry ⟨_, _, wx.int, wy.int, hz, q _ H (Same.refl H) Res.int⟩
    · cases e
  · cases e
theorem op_powD : OpR X (binaryOp .Pow) (rD X.K .f oPow) := by
  intro pins s σ H x y v u Q I rx ry ⟨A, dx, dy, d, tr, wx, wy, e, q⟩
  unfold oPow at e
  split at e
  · split at e
    · rename_i hz
      cases e
      exact op_pow pins s σ H x y v u Q I rx ry ⟨_, _, wx.int, wy.int, hz, q _ H (Same.refl H) Res.int⟩
    · cases e
  · cases e
theorem op_shlD : OpR X (binaryOp .LShift) (rD X.K .f oShl) := by
  intro pins s σ H x y v u Q I rx ry ⟨A, dx, dy, d, tr, wx, wy, e, q⟩
  unfold oShl at e
  split at e
  · split at e
    · rename_i hz
      cases e
      exact op_shl pins s σ H x y v u Q I rx ry ⟨_, _, wx.int, wy.int, hz, q _ H (Same.refl H) Res.int⟩
    · cases e
  · cases e
theorem op_eqP (hr : Room k X.A) : OpR X (compareOp .Eq) (rD X.K .f oEq) := by
  intro pins s σ H x y v u Q I rx ry ⟨A, dx, dy, d, tr, wx, wy, e, q⟩
  unfold oEq at e
  split at e
  · rename_i hz
    cases e
    rw [Bool.and_eq_true] at hz
    exact op_eqD hr.units pins s σ H x y v u Q I rx ry ⟨dx, dy, wx.dp hz.1, wy.dp hz.2, hz.1, hz.2, q _ H (Same.refl H) Res.bl⟩
  · cases e
theorem op_neP (hr : Room k X.A) : OpR X (compareOp .NotEq) (rD X.K .f oNe) := by
  intro pins s σ H x y v u Q I rx ry ⟨A, dx, dy, d, tr, wx, wy, e, q⟩
  unfold oNe at e
  split at e
  · rename_i hz
    cases e
    rw [Bool.and_eq_true] at hz
    exact op_neD hr.units pins s σ H x y v u Q I rx ry ⟨dx, dy, wx.dp hz.1, wy.dp hz.2, hz.1, hz.2, q _ H (Same.refl H) Res.bl⟩
  · cases e
theorem op_ltD : OpR X (compareOp .Lt) (rD X.K .f oLt) := by
  intro pins s σ H x y v u Q I rx ry ⟨A, dx, dy, d, tr, wx, wy, e, q⟩
  unfold oLt at e
  split at e
  · cases e
    exact op_lt pins s σ H x y v u Q I rx ry ⟨_, _, wx.int, wy.int, q _ H (Same.refl H) Res.bl⟩
  · cases e
theorem op_leD : OpR X (compareOp .LtE) (rD X.K .f oLe) := by
  intro pins s σ H x y v u Q I rx ry ⟨A, dx, dy, d, tr, wx, wy, e, q⟩
  unfold oLe at e
  split at e
  · cases e
    exact op_le pins s σ H x y v u Q I rx ry ⟨_, _, wx.int, wy.int, q _ H (Same.refl H) Res.bl⟩
  · cases e
theorem op_gtD : OpR X (compareOp .Gt) (rD X.K .f oGt) := by
  intro pins s σ H x y v u Q I rx ry ⟨A, dx, dy, d, tr, wx, wy, e, q⟩
  unfold oGt at e
  split at e
  · cases e
    exact op_gt pins s σ H x y v u Q I rx ry ⟨_, _, wx.int, wy.int, q _ H (Same.refl H) Res.bl⟩
  · cases e
theorem op_geD : OpR X (compareOp .GtE) (rD X.K .f oGe) := by
  intro pins s σ H x y v u Q I rx ry ⟨A, dx, dy, d, tr, wx, wy, e, q⟩
  unfold oGe at e
  split at e
  · cases e
    exact op_ge pins s σ H x y v u Q I rx ry ⟨_, _, wx.int, wy.int, q _ H (Same.refl H) Res.bl⟩
  · cases e
theorem op_isD : OpR X (compareOp .Is) (rD X.K .f oIs) := by
  intro pins s σ H x y v u Q I rx ry ⟨A, dx, dy, d, tr, wx, wy, e, q⟩
  unfold oIs at e
  split at e
  · cases e
    exact op_isN pins s σ H x y v u Q I rx ry ⟨wy.non, by rw [wx.none_dec]; exact q _ H (Same.refl H) Res.bl⟩
  · cases e
theorem op_isNotD : OpR X (compareOp .IsNot) (rD X.K .f oIsNot) := by
  intro pins s σ H x y v u Q I rx ry ⟨A, dx, dy, d, tr, wx, wy, e, q⟩
  unfold oIsNot at e
  split at e
  · cases e
    exact op_notN pins s σ H x y v u Q I rx ry ⟨wy.non, by rw [wx.none_dec]; exact q _ H (Same.refl H) Res.bl⟩
  · cases e
theorem hu65 {A : Around} (hr : Room k A) : A.units + 65 < cLine := by have := hr.un; omega
theorem op_inP (hr : Room k X.A) : OpR X (compareOp .In) (rD X.K .f oIn) := by
  intro pins s σ H x y v u Q I rx ry ⟨A, dx, dy, d, tr, wx, wy, e, q⟩
  unfold oIn at e
  split at e
  · split at e
    · rename_i hz
      cases e
      rw [Bool.and_eq_true] at hz
      obtain ⟨as, r1⟩ := Dp.reads I _ x v (wx.dp hz.1) rx
      obtain ⟨bs, r2⟩ := Dp.reads I _ y u (wy.dpc (by simpa [PyData.canLay0] using hz.2)) ry
      exact SeqAt.in_list_reads r2 r1 hz.2 (SeqAt.canLay_of_shaped hz.1) (room_in_shaped hz.1 (hu65 hr)) ⟨.bl _, H, I, rfl, q _ H (Same.refl H) Res.bl⟩
    · cases e
  · split at e
    · rename_i hz
      cases e
      rw [Bool.and_eq_true] at hz
      obtain ⟨as, r1⟩ := Dp.reads I _ x v (wx.dp hz.1) rx
      obtain ⟨bs, r2⟩ := Dp.reads I _ y u (wy.dpc (by simpa [PyData.canLay0] using hz.2)) ry
      exact SeqAt.in_tuple_reads r2 r1 hz.2 (SeqAt.canLay_of_shaped hz.1) (room_in_shaped hz.1 (hu65 hr)) ⟨.bl _, H, I, rfl, q _ H (Same.refl H) Res.bl⟩
    · cases e
  · cases e
theorem op_notInP (hr : Room k X.A) : OpR X (compareOp .NotIn) (rD X.K .f oNotIn) := by
  intro pins s σ H x y v u Q I rx ry ⟨A, dx, dy, d, tr, wx, wy, e, q⟩
  unfold oNotIn at e
  split at e
  · split at e
    · rename_i hz
      cases e
      rw [Bool.and_eq_true] at hz
      obtain ⟨as, r1⟩ := Dp.reads I _ x v (wx.dp hz.1) rx
      obtain ⟨bs, r2⟩ := Dp.reads I _ y u (wy.dpc (by simpa [PyData.canLay0] using hz.2)) ry
      exact SeqAt.notIn_list_reads r2 r1 hz.2 (SeqAt.canLay_of_shaped hz.1) (room_in_shaped hz.1 (hu65 hr)) ⟨.bl _, H, I, rfl, q _ H (Same.refl H) Res.bl⟩
    · cases e
  · split at e
    · rename_i hz
      cases e
      rw [Bool.and_eq_true] at hz
      obtain ⟨as, r1⟩ := Dp.reads I _ x v (wx.dp hz.1) rx
      obtain ⟨bs, r2⟩ := Dp.reads I _ y u (wy.dpc (by simpa [PyData.canLay0] using hz.2)) ry
      exact SeqAt.notIn_tuple_reads r2 r1 hz.2 (SeqAt.canLay_of_shaped hz.1) (room_in_shaped hz.1 (hu65 hr)) ⟨.bl _, H, I, rfl, q _ H (Same.refl H) Res.bl⟩
    · cases e
  · cases e
theorem un_negD : UnR X (unaryOp .USub) (rD1 X.K .f oNeg) := by
  intro pins s σ H x v Q I rx ⟨A, dx, d, tr, wx, e, q⟩
  unfold oNeg at e
  split at e
  · cases e
    exact un_neg pins s σ H x v Q I rx ⟨_, wx.int, q _ H (Same.refl H) Res.int⟩
  · cases e
end
end Pm

namespace Pm
open PySem PySem.Spec PyProof.Rows L2

/-! ### argument lists -/
abbrev XL := PEnv → Option (List D)
def xNil : XL := fun _ => some []
def xCons (f : Xp) (fs : XL) : XL := fun ρ => (f ρ).bind fun x => (fs ρ).bind fun xs => some (x :: xs)
section
variable {X : Cx} {O : List Nat} {m ma mb : Md} {st : Bool} {a b c e : Expr} {es : List Expr} {fa fb fc f : Xp} {fs : XL} {pos : Pos}
theorem sa_nil : SA X O st [] xNil := by
  refine ⟨pa_imp pa_nil fun σ H Q h => ?_⟩
  obtain ⟨H0, A0, G, ρ, B, ds, S, e, k⟩ := h
  cases e
  refine k [] H (Same.refl H) ?_
  cases st <;> exact .nil
theorem ResL.monoR {K : PySem.W.Frag} {A : Addr → Prop} {H H' : Hp} {vs : List V} {ds : List D} (s : Same H H') (h : ResL K A H st vs ds) : ResL K A H' st vs ds := by
  cases st with
  | true => exact RpL.mono s h
  | false => exact Paired.mapP h fun _ _ r => WRp.mono s r
theorem sa_cons (ha : SE X O m e f) (hr : SA X O st es fs) (hm : (st = true → m ≠ .w) := by first | exact fun _ => Md.noConfusion | exact fun h => Bool.noConfusion h) (hs : starEach (e :: es) X.env = (false, eval e X.env) :: starEach es X.env := by rfl) : SA X O st (e :: es) (xCons f fs) := by
  refine ⟨pa_imp (pa_cons ha.pe hr.pa hs) fun σ H Q h => ?_⟩
  obtain ⟨H0, A0, G, ρ, B, ds, S, e, k⟩ := h
  obtain ⟨x, ex, e⟩ := bind2 e
  obtain ⟨xs, exs, e⟩ := bind2 e
  cases e
  refine ⟨H0, A0, G, ρ, B, x, S, ex, fun v H1 s1 r1 => ⟨H0, A0, G, ρ, B, xs, S.mono s1, exs, fun vs H2 s2 r2 => k _ H2 (s1.trans s2) ?_⟩⟩
  cases st with
  | true => exact .cons ((r1.toS S.tr (hm rfl)).mono s2) r2
  | false => exact .cons (r1.toW.mono s2) r2
/-- their number is the written one -/
theorem SE.toS (h : SE X O .f e f) : SE X O .s e f := ⟨pe_imp h.pe fun σ H Q ⟨H0, A0, G, ρ, B, d, S, e, k⟩ => ⟨H0, A0, G, ρ, B, d, S, e, fun v H' s r => k v H' s (r.toS S.tr (by decide))⟩⟩
theorem SE.toW (h : SE X O m e f) : SE X O .w e f := ⟨pe_imp h.pe fun σ H Q ⟨H0, A0, G, ρ, B, d, S, e, k⟩ => ⟨H0, A0, G, ρ, B, d, S, e, fun v H' s r => k v H' s r.toW⟩⟩

/-! ### displays -/
def xTup (fs : XL) : Xp := fun ρ => (fs ρ).bind fun ds => if ds.length ≤ 1000 then some (.tuple ds) else none
def xLst (fs : XL) : Xp := fun ρ => (fs ρ).bind fun ds => if ds.length ≤ 1000 then some (.list ds) else none
theorem line1000 {n : Nat} (h : n ≤ 1000) : n ≤ sizeLine := Nat.le_of_lt (small1000 h)
theorem se_tup {x1} (h : SA X O true es fs) : SE X O .f (.Tuple es x1 pos) (xTup fs) := by
  refine ⟨pe_imp (pe_tup h.pa) fun σ H Q q => ?_⟩
  obtain ⟨H0, A0, G, ρ, B, d, S, e, k⟩ := q
  obtain ⟨x, ex, e⟩ := bind2 e
  split at e
  · rename_i hz
    cases e
    refine ⟨H0, A0, G, ρ, B, x, S, ex, fun vs H1 s1 (r1 : RpL _ _ _ _ _) => ⟨by rw [r1.length]; exact line1000 hz, fun p hp => ?_⟩⟩
    exact k _ _ (s1.trans (same_upd hp)) (Res.flat (Rp.newT (S.mono s1).tr hp r1) rfl)
  · cases e
theorem se_lst (h : SA X O true es fs) : SE X O .f (.List es pos) (xLst fs) := by
  refine ⟨pe_imp (pe_lst h.pa) fun σ H Q q => ?_⟩
  obtain ⟨H0, A0, G, ρ, B, d, S, e, k⟩ := q
  obtain ⟨x, ex, e⟩ := bind2 e
  split at e
  · rename_i hz
    cases e
    refine ⟨H0, A0, G, ρ, B, x, S, ex, fun vs H1 s1 (r1 : RpL _ _ _ _ _) => ⟨by rw [r1.length]; exact line1000 hz, fun p hp => ?_⟩⟩
    exact k _ _ (s1.trans (same_upd hp)) (Res.newL (S.mono s1).tr hp r1 s1)
  · cases e

/-! ### and, or, if, not as values -/
def xAnd (fa fb : Xp) : Xp := fun ρ => (fa ρ).bind fun x => (dB x).bind fun b => if b then fb ρ else some (.bool false)
def xOr (fa fb : Xp) : Xp := fun ρ => (fa ρ).bind fun x => (dB x).bind fun b => if b then some (.bool true) else fb ρ
def xIf (c : PEnv → Option Bool) (fa fb : Xp) : Xp := fun ρ => (c ρ).bind fun b => if b then fa ρ else fb ρ
theorem se_bone {op} (h : SE X O m a f) : SE X O m (.BoolOp op [a] pos) f := ⟨pe_one h.pe⟩
theorem se_and (ha : SE X O ma a fa) (hb : SE X O m (.BoolOp .And (b :: es) pos) fb) : SE X O m (.BoolOp .And (a :: b :: es) pos) (xAnd fa fb) := by
  refine ⟨pe_imp (pe_and ha.pe hb.pe) fun σ H Q q => ?_⟩
  obtain ⟨H0, A0, G, ρ, B, d, S, e, k⟩ := q
  obtain ⟨x, ex, e⟩ := bind2 e
  obtain ⟨c, ec, e⟩ := bind2 e
  have := dB_some ec
  subst this
  refine ⟨H0, A0, G, ρ, B, _, S, ex, fun v H1 s1 r1 => ⟨c, r1.toW.bl, ?_⟩⟩
  cases c with
  | true => exact ⟨H0, A0, G, ρ, B, d, S.mono s1, e, fun v H' s r => k v H' (s1.trans s) (r.back s1)⟩
  | false => cases e; exact k _ H1 s1 Res.bl
theorem se_or (ha : SE X O ma a fa) (hb : SE X O m (.BoolOp .Or (b :: es) pos) fb) : SE X O m (.BoolOp .Or (a :: b :: es) pos) (xOr fa fb) := by
  refine ⟨pe_imp (pe_or ha.pe hb.pe) fun σ H Q q => ?_⟩
  obtain ⟨H0, A0, G, ρ, B, d, S, e, k⟩ := q
  obtain ⟨x, ex, e⟩ := bind2 e
  obtain ⟨c, ec, e⟩ := bind2 e
  have := dB_some ec
  subst this
  refine ⟨H0, A0, G, ρ, B, _, S, ex, fun v H1 s1 r1 => ⟨c, r1.toW.bl, ?_⟩⟩
  cases c with
  | false => exact ⟨H0, A0, G, ρ, B, d, S.mono s1, e, fun v H' s r => k v H' (s1.trans s) (r.back s1)⟩
  | true => cases e; exact k _ H1 s1 Res.bl
theorem se_if {tc : PEnv → Option Bool} (hc : ST X O c tc) (ha : SE X O m a fa) (hb : SE X O m b fb) : SE X O m (.IfExp c a b pos) (xIf tc fa fb) := by
  refine ⟨pe_imp (pe_ifExp hc.pt ha.pe hb.pe) fun σ H Q q => ?_⟩
  obtain ⟨H0, A0, G, ρ, B, d, S, e, k⟩ := q
  obtain ⟨x, ex, e⟩ := bind2 e
  refine ⟨H0, A0, G, ρ, B, x, S, ex, fun H1 s1 => ?_⟩
  cases x with
  | true => exact ⟨H0, A0, G, ρ, B, d, S.mono s1, e, fun v H' s r => k v H' (s1.trans s) (r.back s1)⟩
  | false => exact ⟨H0, A0, G, ρ, B, d, S.mono s1, e, fun v H' s r => k v H' (s1.trans s) (r.back s1)⟩
theorem se_not (h : SE X O ma a fa) : SE X O m (.UnaryOp .Not a pos) (xUn oNot fa) := by
  refine ⟨pe_imp (pe_notT h.pe) fun σ H Q q => ?_⟩
  obtain ⟨H0, A0, G, ρ, B, d, S, e, k⟩ := q
  obtain ⟨x, ex, e⟩ := bind2 e
  obtain ⟨c, ec, e⟩ := Option.map_eq_some_iff.mp e
  subst e
  exact ⟨H0, A0, G, ρ, B, x, S, ex, fun v H1 s1 r1 => ⟨c, tru_of r1.toW ec, k _ H1 s1 Res.bl⟩⟩
/-- a op b op c -/
def xChain (g g' : D → D → Option D) (fa fb fc : Xp) : Xp := fun ρ => (fa ρ).bind fun x => (fb ρ).bind fun y => (g x y).bind fun z => (dB z).bind fun k => if k then (fc ρ).bind fun w => g' y w else some (.bool false)
variable {mc : Md}
theorem tChain_of {op op' : CmpOp} {g g' : D → D → Option D} (σ : L2.St) (H : Hp) (Q : VK) (h : simT X.K O .f (xChain g g' fa fb fc) σ H Q) :
    tChain (rD X.K .f g) (rD X.K .f g') (simT X.K O ma fa) (simT X.K O mb fb) (simT X.K O mc fc) σ H Q := by
  obtain ⟨H0, A0, G, ρ, B, d, S, e, k⟩ := h
  obtain ⟨x, ex, e⟩ := bind2 e
  obtain ⟨y, ey, e⟩ := bind2 e
  obtain ⟨z, ez, e⟩ := bind2 e
  obtain ⟨c, ec, e⟩ := bind2 e
  have := dB_some ec
  subst this
  refine ⟨H0, A0, G, ρ, B, x, S, ex, fun v H1 s1 r1 => ⟨H0, A0, G, ρ, B, y, S.mono s1, ey, fun u H2 s2 r2 => ⟨Av A0 B, x, y, _, (S.mono (s1.trans s2)).tr, r1.toW.mono s2, r2.toW, ez, fun z H3 s3 r3 => ⟨c, r3.toW.bl, ?_⟩⟩⟩⟩
  have s13 := (s1.trans s2).trans s3
  cases c with
  | false => cases e; exact k _ H3 s13 Res.bl
  | true =>
    replace e : ((fc ρ).bind fun w => g' y w) = some d := e
    obtain ⟨w, ew, e⟩ := bind2 e
    exact ⟨H0, A0, G, ρ, B, w, S.mono s13, ew, fun v' H4 s4 r4 => ⟨Av A0 B, y, w, d, (S.mono (s13.trans s4)).tr, r2.toW.mono (s3.trans s4), r4.toW, e, fun z H5 s5 r5 => k z H5 ((s13.trans s4).trans s5) (r5.back (s13.trans s4))⟩⟩
theorem se_chain {op op' : CmpOp} {g g' : D → D → Option D} (ho : OpR X (compareOp op) (rD X.K .f g)) (ho' : OpR X (compareOp op') (rD X.K .f g')) (ha : SE X O ma a fa) (hb : SE X O mb b fb) (hc : SE X O mc c fc)
    (hm : lastMarks [op, op'] [b, c] = false := by with_unfolding_all rfl) : SE X O .f (.Compare a [op, op'] [b, c] pos) (xChain g g' fa fb fc) :=
  ⟨pe_imp (pe_chain ho ho' ha.pe hb.pe hc.pe hm) (tChain_of (op := op) (op' := op'))⟩
theorem st_chain {op op' : CmpOp} {g g' : D → D → Option D} (ho : OpR X (compareOp op) (rD X.K .f g)) (ho' : OpR X (compareOp op') (rD X.K .f g')) (ha : SE X O ma a fa) (hb : SE X O mb b fb) (hc : SE X O mc c fc)
    (hm : lastMarks [op, op'] [b, c] = false := by with_unfolding_all rfl) : ST X O (.Compare a [op, op'] [b, c] pos) (tOf (xChain g g' fa fb fc)) := by
  refine ⟨pt_imp (pt_chain ho ho' ha.pe hb.pe hc.pe hm) fun σ H Q h => ?_⟩
  obtain ⟨H0, A0, G, ρ, B, b, S, e, k⟩ := h
  obtain ⟨d, ed, e⟩ := bind2 e
  have := dB_some e
  subst this
  exact tChain_of (op := op) (op' := op') σ H _ ⟨H0, A0, G, ρ, B, _, S, ed, fun v H' s r => ⟨b, r.toW.bl, k H' s⟩⟩

/-! ### subscripts -/
theorem ix_D : IxR X (rD X.K .s oIx) := by
  intro value slice pins s σ H x y v u Q I rx ry ⟨A, dx, dy, d, tr, wx, wy, e, q⟩ hs
  unfold oIx at e
  split at e
  · obtain ⟨p, xs, rfl, hp, r⟩ := wx.lst
    obtain ⟨z, ez, rz⟩ := r.atI e
    exact ix_list value slice pins s σ H _ y v u Q I rx ry ⟨p, xs, _, z, rfl, wy.int, .of hp, ez, q z H (Same.refl H) rz⟩ hs
  · obtain ⟨p, xs, rfl, hp, n, r⟩ := wx.tup
    obtain ⟨z, ez, rz⟩ := r.atI e
    exact ix_tup value slice pins s σ H _ y v u Q I rx ry ⟨p, xs, _, z, rfl, wy.int, .of hp, ez, q z H (Same.refl H) rz⟩ hs
  · obtain ⟨p, xs, rfl, hp, r⟩ := wx.scr
    obtain ⟨z, ez, rz⟩ := r.atI e
    exact ix_list value slice pins s σ H _ y v u Q I rx ry ⟨p, xs, _, z, rfl, wy.int, hp, ez, q z H (Same.refl H) rz⟩ hs
  · cases e
theorem se_ix (ha : SE X O ma a fa) (hb : SE X O mb b fb) (hs : PlainIx b := by exact fun _ _ => rfl) : SE X O .s (.Subscript a b pos) (xBin oIx fa fb) := ⟨pe_imp (pe_ix ix_D ha.pe hb.pe hs) tOp_of⟩
/-- slices -/
def cutD (xs : List D) (lo hi : Option Int) : List D := (xs.drop (HT.sIx xs.length 0 lo)).take (HT.sIx xs.length xs.length hi - HT.sIx xs.length 0 lo)
theorem RpL.cut {K : PySem.W.Frag} {A : Addr → Prop} {H : Hp} {vs : List V} {ds : List D} (r : RpL K A H vs ds) (lo hi : Option Int) : RpL K A H (cutV vs lo hi) (cutD ds lo hi) := by
  unfold cutV cutD
  rw [r.length]
  exact (r.drop _).take _
abbrev XO := PEnv → Option (Option Int)
def simO (K : PySem.W.Frag) (O : List Nat) (f : XO) : TO := fun σ H Q => ∃ H0 A0 G ρ B i, Sim K H0 A0 G O σ H ρ B ∧ f ρ = some i ∧ ∀ H', Same H H' → Q i H'
structure SO (X : Cx) (O : List Nat) (e : Option Expr) (f : XO) : Prop where
  po : PO X e (simO X.K O f)
def oNo : XO := fun _ => some none
def oAt (f : Xp) : XO := fun ρ => (f ρ).bind fun d => match d with | .int i => some (some i) | _ => none
theorem po_imp {e : Option Expr} {t t' : TO} (h : PO X e t) (hi : ∀ σ H Q, t' σ H Q → t σ H Q) : PO X e t' := ⟨fun pins s σ H Q I q => h.run pins s σ H Q I (hi _ _ _ q)⟩
theorem so_none : SO X O none oNo := ⟨po_imp po_none fun σ H Q ⟨H0, A0, G, ρ, B, i, S, e, k⟩ => by cases e; exact k H (Same.refl H)⟩
theorem so_some (h : SE X O m e f) : SO X O (some e) (oAt f) := by
  refine ⟨po_imp (po_some h.pe) fun σ H Q ⟨H0, A0, G, ρ, B, i, S, e, k⟩ => ?_⟩
  obtain ⟨x, ex, e⟩ := bind2 e
  split at e
  · cases e
    exact ⟨H0, A0, G, ρ, B, _, S, ex, fun v H1 s1 r1 => ⟨_, r1.toW.int, k H1 s1⟩⟩
  · cases e
def oSl : D → Option Int → Option Int → Option D
  | .list xs, lo, hi => some (.list (cutD xs lo hi))
  | .tuple xs, lo, hi => some (.tuple (cutD xs lo hi))
  | _, _, _ => none
def xSl (f : Xp) (lo hi : XO) : Xp := fun ρ => (f ρ).bind fun x => (lo ρ).bind fun i => (hi ρ).bind fun j => oSl x i j
theorem se_sl {lo hi : Option Expr} {flo fhi : XO} {p2 : Pos} (he : SE X O m e f) (hl : SO X O lo flo) (hh : SO X O hi fhi) : SE X O .f (.Subscript e (.Slice lo hi none p2) pos) (xSl f flo fhi) := by
  refine ⟨pe_imp (pe_slice (SlR.or sl_list sl_tupA) he.pe hl.po hh.po) fun σ H Q q => ?_⟩
  obtain ⟨H0, A0, G, ρ, B, d, S, e, k⟩ := q
  obtain ⟨x, ex, e⟩ := bind2 e
  obtain ⟨i, ei, e⟩ := bind2 e
  obtain ⟨j, ej, e⟩ := bind2 e
  refine ⟨H0, A0, G, ρ, B, x, S, ex, fun v H1 s1 r1 => ⟨H0, A0, G, ρ, B, i, S.mono s1, ei, fun H2 s2 => ⟨H0, A0, G, ρ, B, j, S.mono (s1.trans s2), ej, fun H3 s3 => ?_⟩⟩⟩
  have s13 := (s1.trans s2).trans s3
  have w := r1.toW.mono (s2.trans s3)
  unfold oSl at e
  split at e
  · cases e
    obtain ⟨p, xs, rfl, hp, r⟩ := w.lst
    exact .inl ⟨p, xs, rfl, .of hp, fun p hp => k _ _ (s13.trans (same_upd hp)) (Res.newL (S.mono s13).tr hp (r.cut _ _) s13)⟩
  · cases e
    obtain ⟨p, xs, rfl, hp, n, r⟩ := w.tup
    refine .inr ⟨p, xs, rfl, .of hp, fun z => ?_, fun z p hp => k _ _ (s13.trans (same_upd hp)) (Res.flat (Rp.newT (S.mono s13).tr hp (r.cut _ _)) rfl)⟩
    refine k _ _ s13 (Res.flat (.tup hp n ?_) rfl)
    have c := r.cut i j
    have hx : cutV xs i j = xs := by
      unfold cutV
      rw [z.1, z.2]
      simp
    rw [hx] at c
    exact c
  · cases e

/-! ### calls of built-ins by values -/
def rC (K : PySem.W.Frag) (m : Md) (g : List D → Option D) : List V → Hp → VK → Prop := fun vs H Q => ∃ A ds d, Tr A H ∧ Paired (WRp K A H) vs ds ∧ g ds = some d ∧ ∀ v H', Same H H' → Res K A H H' m v d → Q v H'
def xCall (g : List D → Option D) (fs : XL) : Xp := fun ρ => (fs ρ).bind g
theorem RpL.weak {K : PySem.W.Frag} {A : Addr → Prop} {H : Hp} {vs : List V} {ds : List D} (r : RpL K A H vs ds) : Paired (WRp K A H) vs ds := by
  induction ds generalizing vs with
  | nil => cases r; exact .nil
  | cons d ds ih => cases r with | cons h r => exact .cons (.inl h) (ih r)
theorem ResL.weak {K : PySem.W.Frag} {A : Addr → Prop} {H : Hp} {vs : List V} {ds : List D} (r : ResL K A H st vs ds) : Paired (WRp K A H) vs ds := by
  cases st with
  | true => exact RpL.weak r
  | false => exact r
theorem tCB_of {g : List D → Option D} (σ : L2.St) (H : Hp) (Q : VK) (q : simT X.K O m (xCall g fs) σ H Q) : tCB (rC X.K m g) (simA X.K O st fs) σ H Q := by
  obtain ⟨H0, A0, G, ρ, B, d, S, e, k⟩ := q
  obtain ⟨x, ex, e⟩ := bind2 e
  exact ⟨H0, A0, G, ρ, B, x, S, ex, fun vs H1 s1 r1 => ⟨Av A0 B, x, d, (S.mono s1).tr, r1.weak, e, fun v H' s r => k v H' (s1.trans s) (r.back s1)⟩⟩
theorem se_callB {x : Str} {p : Pos} {id : String} {g : List D → Option D} (hc : CallR X (.builtin id) (rC X.K m g)) (hm : X.mg x = none) (ha : SA X O st (e :: es) fs) (hg : Gl X x := by rfl) (hv : bootBuiltins x = some (.builtin id) := by rfl) (hn : x ≠ "__name__" := by decide) (hdb : (x == ("__debug__" : Str)) = false := by decide)
    (he : starEach (e :: es) X.env = (false, eval e X.env) :: starEach es X.env := by rfl) (hpl : (backTo pos (starEach es X.env)).any (·.1) = false := by rfl) : SE X O m (.Call (.Name x p) (e :: es) [] pos) (xCall g fs) :=
  ⟨pe_imp (pe_callB hc hg hm hv ha.pa hn hdb he hpl) tCB_of⟩
theorem se_callT {x : Str} {p : Pos} {id : String} {g : List D → Option D} (hc : CallR X (.type id) (rC X.K m g)) (hm : X.mg x = none) (ha : SA X O st (e :: es) fs) (hg : Gl X x := by rfl) (hv : bootBuiltins x = some (.type id) := by rfl) (hn : x ≠ "__name__" := by decide) (hdb : (x == ("__debug__" : Str)) = false := by decide)
    (he : starEach (e :: es) X.env = (false, eval e X.env) :: starEach es X.env := by rfl) (hpl : (backTo pos (starEach es X.env)).any (·.1) = false := by rfl) : SE X O m (.Call (.Name x p) (e :: es) [] pos) (xCall g fs) :=
  ⟨pe_imp (pe_callTy hc hg hm hv ha.pa hn hdb he hpl) tCB_of⟩

/-! ### calls of defs -/
mutual
def flat : D → Bool
  | .list _ => false
  | .dict _ => false
  | .tuple xs => flatL xs
  | .none => true
  | .bool _ => true
  | .int _ => true
  | .str _ => true
def flatL : List D → Bool
  | [] => true
  | x :: xs => flat x && flatL xs
end
mutual
theorem Rp.flatA {K : PySem.W.Frag} {A A' : Addr → Prop} {H : Hp} (t : Tr A' H) : ∀ {v : V} {d : D}, Rp K A H v d → flat d = true → Rp K A' H v d
  | _, _, .non, _ => .non
  | _, _, .bl b, _ => .bl b
  | _, _, .int i, _ => .int i
  | _, _, .str x, _ => .str x
  | _, _, .lst h n r, c => by simp [flat] at c
  | _, _, .tup h n r, c => .tup h (fun z => by
      obtain ⟨o, e, nt⟩ := t _ z
      rw [h] at e
      cases e
      exact nt _ rfl) (RpL.flatA t r (by simpa [flat] using c))
  | _, _, .scr h n r, c => by simp [flat] at c
  | _, _, .kl h r, c => by simp [flat] at c
  | _, _, .dic h n r e, c => by simp [flat] at c
theorem RpL.flatA {K : PySem.W.Frag} {A A' : Addr → Prop} {H : Hp} (t : Tr A' H) : ∀ {vs : List V} {ds : List D}, RpL K A H vs ds → flatL ds = true → RpL K A' H vs ds
  | _, _, .nil, _ => .nil
  | _, _, .cons h r, c => by
    simp only [flatL, Bool.and_eq_true] at c
    exact .cons (Rp.flatA t h c.1) (RpL.flatA t r c.2)
end
theorem flat_mut {d : D} (h : flat d = true) : isMut d = false := by
  cases d <;> simp_all [flat, isMut]
def spD (K : PySem.W.Frag) (n : Nat) (F : List D → Option D) : Sp := fun vs H Q _ => ∃ A ds d, Tr A H ∧ vs.length = n ∧ RpL K A H vs ds ∧ F ds = some d ∧ ∀ v H', Same H H' → Rp K A H' v d → Q v H'
/-- a def of the text, with its function -/
structure Def (P : Program) (w : World) (K : PySem.W.Frag) (mg : Str → Option Value) (base : Heap) (k : Nat) (x : Str) (ps : List Str) (F : List D → Option D) : Prop where
  ex : ∃ f fd, FnOk P w K mg base CX0 k f fd ps (spD K ps.length F) ∧ mg x = some (.ref f) ∧ PySem.W.keepIn K (.ref f) = true ∧ Binds K fd ps []
theorem Def.mono {P : Program} {w : World} {K : PySem.W.Frag} {mg : Str → Option Value} {base : Heap} {k k' : Nat} {x : Str} {ps : List Str} {F : List D → Option D} (h : Def P w K mg base k x ps F) (hk : k ≤ k') : Def P w K mg base k' x ps F :=
  let ⟨f, fd, h1, h2⟩ := h.ex; ⟨f, fd, h1.mono hk, h2⟩
variable {k j : Nat} {x : Str} {ps : List Str} {F : List D → Option D} {p : Pos}
theorem se_call (hd : Def X.prog X.w X.K X.mg X.base k x ps F) (hr : Room j X.A) (ha : SA X O true (e :: es) fs) (hk : k ≤ j := by decide) (hl : (e :: es).length = ps.length := by rfl) (hg : Gl X x := by rfl) (hdb : (x == ("__debug__" : Str)) = false := by decide)
    (he : starEach (e :: es) X.env = (false, eval e X.env) :: starEach es X.env := by rfl) (hpl : (backTo pos (starEach es X.env)).any (·.1) = false := by rfl) : SE X O .s (.Call (.Name x p) (e :: es) [] pos) (xCall (fun ds => if ds.length = ps.length then F ds else none) fs) := by
  obtain ⟨f, fd, hF, hm, kp, hb⟩ := hd.ex
  refine ⟨pe_imp (pe_call hF (hr.mono hk) hg hm kp hb .nil pass0 ha.pa hdb he hpl) fun σ H Q q => ?_⟩
  obtain ⟨H0, A0, G, ρ, B, d, S, e, k⟩ := q
  obtain ⟨ds, ex, e⟩ := bind2 e
  split at e
  · rename_i hz
    refine ⟨H0, A0, G, ρ, B, ds, S, ex, fun vs H1 s1 (r1 : RpL _ _ _ _ _) => ⟨Av A0 B, ds, d, (S.mono s1).tr, ?_, ?_, e, fun v H' s r => k v H' (s1.trans s) r⟩⟩
    · rw [List.append_nil, r1.length, hz]
    · rw [List.append_nil]; exact r1
  · cases e
theorem WRp.rp0 {K : PySem.W.Frag} {A : Addr → Prop} {H : Hp} {v : V} {d : D} (h : WRp K A H v d) : Rp K (fun _ => False) H v d := by
  rcases h with h | ⟨a, e, h⟩
  · exact h.anti fun _ z => z.elim
  · subst e
    exact (h.step (fun _ _ q _ => q) (fun _ z => z.elim) fun _ q => q : Tp K (fun _ => False) H a d).rp fun z => z
theorem weak_rp0 {K : PySem.W.Frag} {A : Addr → Prop} {H : Hp} : ∀ {vs : List V} {ds : List D}, Paired (WRp K A H) vs ds → RpL K (fun _ => False) H vs ds
  | _, _, .nil => .nil
  | _, _, .cons h r => .cons h.rp0 (weak_rp0 r)
/-- a call to which one's own lists go: what comes back holds no list -/
theorem se_callW (hd : Def X.prog X.w X.K X.mg X.base k x ps F) (hr : Room j X.A) (ha : SA X O false (e :: es) fs) (hk : k ≤ j := by decide) (hg : Gl X x := by rfl) (hdb : (x == ("__debug__" : Str)) = false := by decide)
    (he : starEach (e :: es) X.env = (false, eval e X.env) :: starEach es X.env := by rfl) (hpl : (backTo pos (starEach es X.env)).any (·.1) = false := by rfl) : SE X O .f (.Call (.Name x p) (e :: es) [] pos) (xCall (fun ds => if ds.length = ps.length then (F ds).bind fun d => if flat d then some d else none else none) fs) := by
  obtain ⟨f, fd, hF, hm, kp, hb⟩ := hd.ex
  refine ⟨pe_imp (pe_call hF (hr.mono hk) hg hm kp hb .nil pass0 ha.pa hdb he hpl) fun σ H Q q => ?_⟩
  obtain ⟨H0, A0, G, ρ, B, d, S, e, k⟩ := q
  obtain ⟨ds, ex, e⟩ := bind2 e
  split at e
  · rename_i hz
    obtain ⟨d', e', e⟩ := bind2 e
    split at e
    · rename_i hf
      cases e
      refine ⟨H0, A0, G, ρ, B, ds, S, ex, fun vs H1 s1 r1 => ⟨fun _ => False, ds, d, fun _ z => z.elim, ?_, ?_, e', fun v H' s r => k v H' (s1.trans s) (Res.flat (r.flatA (S.mono (s1.trans s)).tr hf) (flat_mut hf))⟩⟩
      · rw [List.append_nil, (weak_rp0 r1).length, hz]
      · rw [List.append_nil]; exact weak_rp0 r1
    · cases e
  · cases e
end
end Pm

namespace Pm
open PySem PySem.Spec PyProof.Rows L2

/-! ### what the built-ins do -/
def seqD : D → Option (List D)
  | .list xs => some xs
  | .tuple xs => some xs
  | _ => none
def asInts : List D → Option (List Int)
  | [] => some []
  | .int i :: r => (asInts r).map (i :: ·)
  | _ => none
def asBools : List D → Option (List Bool)
  | [] => some []
  | .bool i :: r => (asBools r).map (i :: ·)
  | _ => none
def bLen : List D → Option D
  | [.list xs] => some (.int xs.length)
  | [.tuple xs] => some (.int xs.length)
  | [.dict [(.none, .list xs)]] => some (.int xs.length)
  | _ => none
def bAbs : List D → Option D
  | [.int i] => some (.int (if i < 0 then -i else i))
  | _ => none
def bInt : List D → Option D
  | [.int i] => some (.int i)
  | [.bool b] => some (.int (if b then 1 else 0))
  | _ => none
def bMax2 : List D → Option D
  | [.int i, .int j] => some (.int (if j > i then j else i))
  | _ => none
def bMin2 : List D → Option D
  | [.int i, .int j] => some (.int (if j < i then j else i))
  | _ => none
def bSum : List D → Option D
  | [x] => (seqD x).bind fun xs => (asInts xs).map fun ns => .int ns.sum
  | _ => none
def bAll : List D → Option D
  | [x] => (seqD x).bind fun xs => (asBools xs).map fun ns => .bool (ns.all id)
  | _ => none
def bAny : List D → Option D
  | [x] => (seqD x).bind fun xs => (asBools xs).map fun ns => .bool (ns.any id)
  | _ => none
def bTuple : List D → Option D
  | [x] => (seqD x).map .tuple
  | _ => none
def bList : List D → Option D
  | [x] => (seqD x).map .list
  | _ => none

section
variable {K : PySem.W.Frag} {A : Addr → Prop} {H H' : Hp} {v : V} {d : D} {vs : List V} {ds : List D}
theorem p1 {F : V → D → Prop} {x : D} (h : Paired F vs [x]) : ∃ v, vs = [v] ∧ F v x := by
  cases h with
  | cons a r => cases r; exact ⟨_, rfl, a⟩
theorem p2 {F : V → D → Prop} {x y : D} (h : Paired F vs [x, y]) : ∃ v u, vs = [v, u] ∧ F v x ∧ F u y := by
  cases h with
  | cons a r =>
    cases r with
    | cons b r => cases r; exact ⟨_, _, rfl, a, b⟩
theorem WRp.seq {xs : List D} (h : WRp K A H v d) (e : seqD d = some xs) : ∃ a vs, v = .ref a ∧ (H a = some (.lst vs) ∨ H a = some (.tup vs)) ∧ RpL K A H vs xs := by
  unfold seqD at e
  split at e
  · cases e
    obtain ⟨a, vs, e1, e2, e3⟩ := h.lst
    exact ⟨a, vs, e1, .inl e2, e3⟩
  · cases e
    obtain ⟨a, vs, e1, e2, _, e3⟩ := h.tup
    exact ⟨a, vs, e1, .inr e2, e3⟩
  · cases e
theorem RpL.ints : ∀ {vs : List V} {ds : List D} {ns : List Int}, RpL K A H vs ds → asInts ds = some ns → vs = ns.map V.int
  | _, _, _, .nil, e => by cases e; rfl
  | _, _, ns, .cons h r, e => by
    cases h with
    | int i =>
      simp only [asInts] at e
      obtain ⟨ms, e1, e2⟩ := Option.map_eq_some_iff.mp e
      subst e2
      rw [RpL.ints r e1]
      rfl
    | _ => simp [asInts] at e
theorem RpL.bools : ∀ {vs : List V} {ds : List D} {ns : List Bool}, RpL K A H vs ds → asBools ds = some ns → vs = ns.map V.bl
  | _, _, _, .nil, e => by cases e; rfl
  | _, _, ns, .cons h r, e => by
    cases h with
    | bl i =>
      simp only [asBools] at e
      obtain ⟨ms, e1, e2⟩ := Option.map_eq_some_iff.mp e
      subst e2
      rw [RpL.bools r e1]
      rfl
    | _ => simp [asBools] at e
end

/-! ### a list or a tuple, walked -/
section
variable {X : Cx} {pins : List (Addr × Obj)} {σ : L2.St} {H : Hp} {s : Shared}
/-- the iterator of a list or a tuple -/
theorem sq_iter {A : Around} {E : Value → Shared → Prop} {a : Addr} {xs : List V} {Q : Value → Shared → Prop} (hh : A.handled = none) (I : Inv X pins σ H s) (h : H a = some (.lst xs) ∨ H a = some (.tup xs))
    (k : ∀ (its : List Value) (J : Addr) (fp wr : List Addr) (St : Nat → Heap → Prop) (h₂ : Heap), Vals xs its → Walks X.prog X.w A J fp wr its.length (fun i v => its[i]? = some v) St → St 0 h₂ → (∀ b ∈ fp, b < h₂.objs.size) →
      (∀ h' : Heap, (∀ b o, b ∉ wr → h₂.get? b = some o → h'.get? b = some o) → ∀ b o, s.heap.get? b = some o → h'.get? b = some o) → Q (.ref J) { s with heap := h₂ }) :
    wpAny (model X.prog X.w) A (pyIter (.ref a)) Q E s := by
  have fin : ∀ (o : Obj) (h' : Heap), (∀ b q, b ∉ [s.heap.objs.size] → (s.heap.push o).get? b = some q → h'.get? b = some q) → ∀ b q, s.heap.get? b = some q → h'.get? b = some q := fun o h' hk b q e =>
    hk b q (fun z => by
      have z' : b = s.heap.objs.size := by simpa using z
      exact absurd (z' ▸ Heap.lt_size e) (Nat.lt_irrefl _)) (Heap.get?_push_of_some _ e)
  have small : ∀ (o : Obj) (l : Addr), l < s.heap.objs.size → ∀ b ∈ [s.heap.objs.size, l], b < (s.heap.push o).objs.size := fun o l hl b hb => by
    rw [Heap.size_push]
    have z : b = s.heap.objs.size ∨ b = l := by simpa using hb
    rcases z with z | z
    · rw [z]; exact Nat.lt_succ_self _
    · rw [z]; exact Nat.lt_succ_of_lt hl
  rcases h with h | h
  · obtain ⟨its, rv, p, hz⟩ := I.list (.of h)
    have hlt : a < s.heap.objs.size := p.lt
    refine wpAny_pyIter_list p.isList ?_
    have W := Walks.list (prog := X.prog) (w := X.w) hh s.heap.objs.size a (Nat.ne_of_lt hlt) its.toArray
    refine k its _ [s.heap.objs.size, a] [s.heap.objs.size] (fun i h => h.IsListIter s.heap.objs.size a i ∧ h.IsList a its.toArray) _ rv (by simpa using W) ⟨⟨_, Heap.get?_push_size _ rfl, rfl, rfl⟩, p.isList.push _⟩ (small _ _ hlt) (fin _)
  · obtain ⟨its, rv, p, hz⟩ := I.tuple (.of h)
    have hlt : a < s.heap.objs.size := p.lt
    refine wpAny_pyIter_tuple (show s.heap.IsTuple a its.toArray from p) ?_
    have W := Walks.tuple (prog := X.prog) (w := X.w) hh s.heap.objs.size a (Nat.ne_of_lt hlt) its.toArray
    obtain ⟨o, ho, r⟩ := id p
    refine k its _ [s.heap.objs.size, a] [s.heap.objs.size] (fun i h => h.IsTupleIter s.heap.objs.size a i ∧ h.IsTuple a its.toArray) _ rv (by simpa using W) ⟨⟨_, Heap.get?_push_size _ rfl, rfl, rfl⟩, ⟨o, Heap.get?_push_of_some _ ho, r⟩⟩ (small _ _ hlt) (fin _)
end

section
variable {X : Cx} {k : Nat}
theorem ref1 {a : Addr} {us : List Value} (r : Vals [V.ref a] us) : us = [Value.ref a] := Vals.ref1 r
theorem cb_len : CallR X (.builtin "len") (rC X.K .f bLen) := by
  intro pins s σ H vs us Q I r ⟨A, ds, d, tr, w, e, q⟩
  unfold bLen at e
  split at e
  · cases e
    obtain ⟨v, rfl, w1⟩ := p1 w
    obtain ⟨a, xs, rfl, ha, ra⟩ := w1.lst
    exact call_len_seq pins s σ H _ us Q I r ⟨a, xs, rfl, .inl (.of ha), by rw [ra.length]; exact q _ H (Same.refl H) Res.int⟩
  · cases e
    obtain ⟨v, rfl, w1⟩ := p1 w
    obtain ⟨a, xs, rfl, ha, _, ra⟩ := w1.tup
    exact call_len_seq pins s σ H _ us Q I r ⟨a, xs, rfl, .inr (.of ha), by rw [ra.length]; exact q _ H (Same.refl H) Res.int⟩
  · cases e
    obtain ⟨v, rfl, w1⟩ := p1 w
    obtain ⟨a, xs, rfl, ha, ra⟩ := w1.scr
    exact call_len_seq pins s σ H _ us Q I r ⟨a, xs, rfl, .inl ha, by rw [ra.length]; exact q _ H (Same.refl H) Res.int⟩
  · cases e
theorem cb_abs : CallR X (.builtin "abs") (rC X.K .f bAbs) := by
  intro pins s σ H vs us Q I r ⟨A, ds, d, tr, w, e, q⟩
  unfold bAbs at e
  split at e
  · cases e
    obtain ⟨v, rfl, w1⟩ := p1 w
    exact call_abs pins s σ H _ us Q I r ⟨_, by rw [w1.int], q _ H (Same.refl H) Res.int⟩
  · cases e
theorem cb_int : CallR X (.type "int") (rC X.K .f bInt) := by
  intro pins s σ H vs us Q I r ⟨A, ds, d, tr, w, e, q⟩
  unfold bInt at e
  split at e
  · cases e
    obtain ⟨v, rfl, w1⟩ := p1 w
    exact call_int1 pins s σ H _ us Q I r (.inl ⟨_, by rw [w1.int], q _ H (Same.refl H) Res.int⟩)
  · cases e
    obtain ⟨v, rfl, w1⟩ := p1 w
    exact call_int1 pins s σ H _ us Q I r (.inr ⟨_, by rw [w1.bl], q _ H (Same.refl H) Res.int⟩)
  · cases e
theorem cb_max2 (hc : X.calm = true := by rfl) : CallR X (.builtin "max") (rC X.K .f bMax2) := by
  intro pins s σ H vs us Q I r ⟨A, ds, d, tr, w, e, q⟩
  unfold bMax2 at e
  split at e
  · cases e
    obtain ⟨v, u, rfl, w1, w2⟩ := p2 w
    exact call_max2 hc pins s σ H _ us Q I r ⟨_, _, by rw [w1.int, w2.int], q _ H (Same.refl H) Res.int⟩
  · cases e
theorem cb_min2 (hc : X.calm = true := by rfl) : CallR X (.builtin "min") (rC X.K .f bMin2) := by
  intro pins s σ H vs us Q I r ⟨A, ds, d, tr, w, e, q⟩
  unfold bMin2 at e
  split at e
  · cases e
    obtain ⟨v, u, rfl, w1, w2⟩ := p2 w
    exact call_min2 hc pins s σ H _ us Q I r ⟨_, _, by rw [w1.int, w2.int], q _ H (Same.refl H) Res.int⟩
  · cases e
theorem intsAt {its : List Value} {ns : List Int} (r : Vals (ns.map V.int) its) (i : Nat) (v : Value) (h : its[i]? = some v) : ∃ t, v = .int (ns.getD i 0) t := by
  have hi := r.length
  rw [List.length_map] at hi
  have hlt : i < ns.length := by rw [hi]; exact (List.getElem?_eq_some_iff.mp h).1
  obtain ⟨u, e, q⟩ := r.get (i := i) (x := .int ns[i]) (by simp [hlt])
  rw [h] at e
  cases e
  obtain ⟨t, rfl⟩ := q
  exact ⟨t, by simp [hlt]⟩
theorem preSum_all (ns : List Int) : preSum (fun i => ns.getD i 0) ns.length = ns.sum := by
  have h : ∀ k, k ≤ ns.length → preSum (fun i => ns.getD i 0) k = (ns.take k).sum := by
    intro k
    induction k with
    | zero => intro _; rfl
    | succ k ih =>
      intro hk
      show preSum (fun i => ns.getD i 0) k + ns.getD k 0 = _
      rw [ih (by omega), List.take_succ, List.sum_append, List.getElem?_eq_getElem (by omega)]
      simp [List.getD_eq_getElem?_getD, List.getElem?_eq_getElem (show k < ns.length by omega)]
  rw [h _ (Nat.le_refl _), List.take_length]
theorem cb_sum (hc : X.calm = true := by rfl) : CallR X (.builtin "sum") (rC X.K .f bSum) := by
  intro pins s σ H vs us Q I r ⟨A, ds, d, tr, w, e, q⟩
  unfold bSum at e
  split at e
  · obtain ⟨v, rfl, w1⟩ := p1 w
    obtain ⟨xs, e1, e⟩ := bind2 e
    obtain ⟨ns, e2, e⟩ := Option.map_eq_some_iff.mp e
    subst e
    obtain ⟨a, vs, rfl, ha, ra⟩ := w1.seq e1
    rw [ref1 r]
    have hv := ra.ints e2
    subst hv
    refine call_sum_walkG (sq_iter (show X.A.in1.handled = none from I.ok.hd hc) I ha fun its J fp wr St h₂ rv W st hfp kp => ?_)
    have hl := rv.length
    rw [List.length_map] at hl
    refine ⟨_, _, _, _, _, _, fun i => ns.getD i 0, rfl, W, st, hfp, fun i v h => intsAt rv i v h, fun h' tk t' hk => ?_⟩
    rw [← hl, preSum_all]
    exact ⟨.int _, H, I.kept (kp h' hk), ⟨_, rfl⟩, q _ H (Same.refl H) Res.int⟩
  · cases e
theorem truths {prog : Program} {w : World} {A : Around} {bs : List Bool} {its : List Value} (e : its = bs.map Value.bool) : TruthOf prog w A (fun i v => its[i]? = some v) (fun i => bs.getD i false) := by
  have := truth_bools (prog := prog) (w := w) (A := A) e
  simpa using this
theorem cb_all (hc : X.calm = true := by rfl) : CallR X (.builtin "all") (rC X.K .f bAll) := by
  intro pins s σ H vs us Q I r ⟨A, ds, d, tr, w, e, q⟩
  unfold bAll at e
  split at e
  · obtain ⟨v, rfl, w1⟩ := p1 w
    obtain ⟨xs, e1, e⟩ := bind2 e
    obtain ⟨ns, e2, e⟩ := Option.map_eq_some_iff.mp e
    subst e
    obtain ⟨a, vs, rfl, ha, ra⟩ := w1.seq e1
    rw [ref1 r]
    have hv := ra.bools e2
    subst hv
    refine call_all_walk (sq_iter (show X.A.in1.handled = none from I.ok.hd hc) I ha fun its J fp wr St h₂ rv W st hfp kp => ?_)
    have hl := rv.length
    rw [List.length_map] at hl
    refine ⟨_, _, _, _, _, _, _, rfl, W, st, truths rv.bls, fun h' tk hk => ?_⟩
    rw [← hl, L2.all_range]
    exact ⟨.bl _, H, I.kept (kp h' hk), rfl, q _ H (Same.refl H) Res.bl⟩
  · cases e
theorem cb_any (hc : X.calm = true := by rfl) : CallR X (.builtin "any") (rC X.K .f bAny) := by
  intro pins s σ H vs us Q I r ⟨A, ds, d, tr, w, e, q⟩
  unfold bAny at e
  split at e
  · obtain ⟨v, rfl, w1⟩ := p1 w
    obtain ⟨xs, e1, e⟩ := bind2 e
    obtain ⟨ns, e2, e⟩ := Option.map_eq_some_iff.mp e
    subst e
    obtain ⟨a, vs, rfl, ha, ra⟩ := w1.seq e1
    rw [ref1 r]
    have hv := ra.bools e2
    subst hv
    refine call_any_walk (sq_iter (show X.A.in1.handled = none from I.ok.hd hc) I ha fun its J fp wr St h₂ rv W st hfp kp => ?_)
    have hl := rv.length
    rw [List.length_map] at hl
    refine ⟨_, _, _, _, _, _, _, rfl, W, st, truths rv.bls, fun h' tk hk => ?_⟩
    rw [← hl, L2.any_range]
    exact ⟨.bl _, H, I.kept (kp h' hk), rfl, q _ H (Same.refl H) Res.bl⟩
  · cases e
theorem cb_tuple : CallR X (.type "tuple") (rC X.K .f bTuple) := by
  intro pins s σ H vs us Q I r ⟨A, ds, d, tr, w, e, q⟩
  unfold bTuple at e
  split at e
  · obtain ⟨v, rfl, w1⟩ := p1 w
    obtain ⟨xs, e1, e⟩ := Option.map_eq_some_iff.mp e
    subst e
    unfold seqD at e1
    split at e1
    · cases e1
      obtain ⟨a, ys, rfl, ha, ra⟩ := w1.lst
      exact call_tuple_of pins s σ H _ us Q I r ⟨a, ys, rfl, .inl ⟨.of ha, fun l hl => q _ _ (same_upd hl) (Res.flat (Rp.newT tr hl ra) rfl)⟩⟩
    · cases e1
      obtain ⟨a, ys, rfl, ha, na, ra⟩ := w1.tup
      exact call_tuple_of pins s σ H _ us Q I r ⟨a, ys, rfl, .inr ⟨.of ha, q _ H (Same.refl H) (Res.flat (.tup ha na ra) rfl)⟩⟩
    · cases e1
  · cases e
theorem cb_list : CallR X (.type "list") (rC X.K .f bList) := by
  intro pins s σ H vs us Q I r ⟨A, ds, d, tr, w, e, q⟩
  unfold bList at e
  split at e
  · obtain ⟨v, rfl, w1⟩ := p1 w
    obtain ⟨xs, e1, e⟩ := Option.map_eq_some_iff.mp e
    subst e
    obtain ⟨a, ys, rfl, ha, ra⟩ := w1.seq e1
    refine call_list_of pins s σ H _ us Q I r ⟨a, ys, rfl, ha.elim (fun h => .inl (.of h)) (fun h => .inr (.of h)), fun l hl => q _ _ (same_upd hl) (Res.newL tr hl ra (Same.refl H))⟩
  · cases e

/-! ### isinstance of a written built-in type -/
def tyName : D → String
  | .none => "NoneType"
  | .bool _ => "bool"
  | .int _ => "int"
  | .str _ => "str"
  | .list _ => "list"
  | .tuple _ => "tuple"
  | .dict _ => "dict"
def oIsi (T : String) (d : D) : Option D := match d with
  | .dict _ => none
  | _ => (kitB (tyName d) T).map .bool
theorem WRp.ty {K : PySem.W.Frag} {A : Addr → Prop} {H : Hp} {v : V} {d : D} (w : WRp K A H v d) (h : ∀ kvs, d ≠ .dict kvs) : TyX K H v (.type (tyName d)) := by
  rcases w with w | ⟨a, e, w⟩
  · cases w with
    | non => exact .base .non
    | bl b => exact .base (.bl b)
    | int i => exact .base (.int i)
    | str x => exact .base (.str x)
    | lst e n r => exact .base (.lst e)
    | tup e n r => exact .base (.tup e)
    | scr e n r => exact absurd rfl (h _)
    | kl e r => exact absurd rfl (h _)
    | dic e n r q => exact absurd rfl (h _)
  · subst e
    cases w with
    | lst e r => exact .base (.lst e)
    | dic e r q => exact absurd rfl (h _)
section
variable {O : List Nat} {m : Md} {a : Expr} {fa : Xp} {p pos pt : Pos} {x T' : Str} {T : String}
theorem se_isi (T : String) (ha : SE X O m a fa) (hm : X.mg "isinstance" = none) (hmT : X.mg T' = none) (hg : Gl X "isinstance" := by rfl) (hgT : Gl X T' := by rfl) (hvT : bootBuiltins T' = some (.type T) := by rfl) (hnT : T' ≠ "__name__" := by decide) (hdT : (T' == ("__debug__" : Str)) = false := by decide)
    (hs : starEach (a :: [Expr.Name T' pt]) X.env = (false, eval a X.env) :: starEach [Expr.Name T' pt] X.env := by rfl) (hs2 : starEach [Expr.Name T' pt] X.env = (false, eval (.Name T' pt) X.env) :: starEach [] X.env := by rfl)
    (hpl : (backTo pos (starEach [Expr.Name T' pt] X.env)).any (·.1) = false := by rfl) : SE X O .f (.Call (.Name "isinstance" p) [a, .Name T' pt] [] pos) (xUn (oIsi T) fa) := by
  have hT : PE X (.Name T' pt) (tC (.ty T)) := pe_bltn hgT hmT hvT rfl hnT hdT
  refine ⟨pe_imp (pe_callB call_isi hg hm (by decide +kernel) (pa_cons ha.pe (pa_cons hT pa_nil hs2) hs) (by decide) (by decide) hs hpl) fun σ H Q q => ?_⟩
  obtain ⟨H0, A0, G, ρ, B, d, S, e, k⟩ := q
  obtain ⟨y, ey, e⟩ := bind2 e
  unfold oIsi at e
  split at e
  · cases e
  · rename_i hnd
    obtain ⟨b, eb, e⟩ := Option.map_eq_some_iff.mp e
    subst e
    refine ⟨H0, A0, G, ρ, B, y, S, ey, fun v H1 s1 r1 => ?_⟩
    exact ⟨v, .ty T, .type (tyName y), .type T, b, rfl, .ty T, r1.toW.ty hnd, kit_ty eb, k _ H1 s1 Res.bl⟩
end
end
end Pm

namespace Pm
open PySem PySem.Spec PyProof.Rows L2

/-! ### what is walked -/
structure Yl (K : PySem.W.Frag) (J : It) (gs : List (V × D)) (ds : List D) : Prop where
  go : ∀ A H i d, Tr A H → (∀ p ∈ gs, WRp K A H p.1 p.2) → ds[i]? = some d → J.go i H ∧ ∀ x H', J.yld i H x H' → Same H H' ∧ Rp K A H' x d
  stop : ∀ A H, Tr A H → (∀ p ∈ gs, WRp K A H p.1 p.2) → J.stop ds.length H
def strongR (K : PySem.W.Frag) (A : Addr → Prop) (H : Hp) (st : Bool) (v : V) (d : D) : Prop := if st then Rp K A H v d else WRp K A H v d
def simI (K : PySem.W.Frag) (O : List Nat) (st : Bool) (f : XL) : TI := fun σ H R => ∃ H0 A0 G ρ B ds, Sim K H0 A0 G O σ H ρ B ∧ f ρ = some ds ∧
  ∀ J H' gs, Same H H' → Yl K J gs ds → (∀ p ∈ gs, strongR K (Av A0 B) H' st p.1 p.2) → ds.length ≤ 16777216 → R J H'
structure SI (X : Cx) (O : List Nat) (st : Bool) (tg iter : Expr) (f : XL) : Prop where
  pi : PI X tg iter (simI X.K O st f)
theorem pi_imp {X : Cx} {tg e : Expr} {t t' : TI} (h : PI X tg e t) (hi : ∀ σ H Q, t' σ H Q → t σ H Q) : PI X tg e t' := ⟨fun pins s σ H Q I q => h.run pins s σ H Q I (hi _ _ _ q)⟩
theorem pi_or {X : Cx} {tg e : Expr} {t t' : TI} (h : PI X tg e t) (h' : PI X tg e t') : PI X tg e (fun σ H R => t σ H R ∨ t' σ H R) :=
  ⟨fun pins s σ H Q I q => q.elim (h.run pins s σ H Q I) (h'.run pins s σ H Q I)⟩
/-- lists and tuples are no longer than the line -/
def HpOk (H : Hp) : Prop := ∀ a xs, (H a = some (.lst xs) ∨ H a = some (.tup xs)) → xs.length ≤ 16777216
theorem hpok {X : Cx} {pins : List (Addr × Obj)} {σ : L2.St} {H : Hp} {s : Shared} (I : Inv X pins σ H s) : HpOk H := fun a xs h => by
  rcases h with h | h
  · have z : xs.length ≤ sizeLine := (I.hok a _ h).1
    exact z
  · have z : xs.length ≤ sizeLine := (I.hok a _ h).1
    exact z
theorem pe_ok {X : Cx} {e : Expr} {t : TE} (h : PE X e t) : PE X e (fun σ H Q => t σ H fun v H' => HpOk H' → Q v H') :=
  ⟨fun pins s σ H Q I q => thn (h.run pins s σ H _ I q) fun u s' ⟨v, H', I', r, q'⟩ => ⟨v, H', I', r, q' (hpok I')⟩⟩
theorem pa_ok {X : Cx} {e : List Expr} {t : TA} (h : PA X e t) : PA X e (fun σ H Q => t σ H fun v H' => HpOk H' → Q v H') :=
  ⟨fun pos pins s σ H Q I q => thn (h.run pos pins s σ H _ I q) fun u s' ⟨v, H', I', r, q'⟩ => ⟨v, H', I', r, q' (hpok I')⟩⟩
section
variable {X : Cx} {O : List Nat} {m ma mb mc : Md} {st : Bool} {a b c e tg : Expr} {es : List Expr} {fa fb fc f : Xp} {fs : XL} {pos p : Pos}
def xSeq (f : Xp) : XL := fun ρ => (f ρ).bind seqD
def mdS : Md → Bool
  | .w => false
  | _ => true
theorem Res.sR {K : PySem.W.Frag} {A : Addr → Prop} {He H' : Hp} {v : V} {d : D} (t : Tr A He) (h : Res K A He H' m v d) : strongR K A H' (mdS m) v d := by
  cases m with
  | w => exact h
  | s => exact h
  | f => exact h.toS t (by decide)
theorem strongR.w {K : PySem.W.Frag} {A : Addr → Prop} {H' : Hp} {v : V} {d : D} (h : strongR K A H' st v d) : WRp K A H' v d := by
  cases st with
  | true => exact .inl h
  | false => exact h
/-- a tracked list has one content -/
theorem sql_one {K : PySem.W.Frag} {H : Hp} {a : Addr} {xs ys : List V} (h : H a = some (.lst xs)) (h' : Rd H a (.lst ys)) : ys = xs := by
  rcases h' with h' | ⟨o, h'⟩
  · rw [h] at h'; cases h'; rfl
  · rw [h] at h'; cases h'
theorem si_seq (h : SE X O m e f) : SI X O (mdS m) tg e (xSeq f) := by
  refine ⟨pi_imp (pi_or (pi_list (pe_ok h.pe)) (pi_tup (pe_ok h.pe))) fun σ H R q => ?_⟩
  obtain ⟨H0, A0, G, ρ, B, ds, S, e, k⟩ := q
  obtain ⟨d, ed, e⟩ := bind2 e
  unfold seqD at e
  split at e
  · cases e
    refine .inl ⟨H0, A0, G, ρ, B, _, S, ed, fun v H1 s1 r1 ok => ?_⟩
    obtain ⟨a, xs, rfl, ha, ra⟩ := r1.toW.lst
    refine ⟨a, rfl, ⟨xs, .of ha⟩, k _ H1 [(.ref a, .list ds)] s1 ⟨fun A H i d t g e => ?_, fun A H t g => ?_⟩ (fun p hp => ?_) (by rw [← ra.length]; exact ok a xs (.inl ha))⟩
    · obtain ⟨b, ys, eb, hb, rb⟩ := (g _ (List.mem_singleton.mpr rfl)).lst
      cases eb
      obtain ⟨y, ey, ry⟩ := rb.get e
      refine ⟨⟨ys, y, .of hb, ey⟩, fun x H' hy => ?_⟩
      obtain ⟨rfl, hy⟩ := hy
      have := hy ys (.of hb)
      rw [ey] at this
      cases this
      exact ⟨Same.refl _, ry⟩
    · obtain ⟨b, ys, eb, hb, rb⟩ := (g _ (List.mem_singleton.mpr rfl)).lst
      cases eb
      exact ⟨ys, .of hb, by rw [rb.length]; exact Nat.le_refl _⟩
    · rw [List.mem_singleton.mp hp]
      exact r1.sR S.tr
  · cases e
    refine .inr ⟨H0, A0, G, ρ, B, _, S, ed, fun v H1 s1 r1 ok => ?_⟩
    obtain ⟨a, xs, rfl, ha, na, ra⟩ := r1.toW.tup
    refine ⟨a, rfl, ⟨xs, .of ha⟩, k _ H1 [(.ref a, .tuple ds)] s1 ⟨fun A H i d t g e => ?_, fun A H t g => ?_⟩ (fun p hp => ?_) (by rw [← ra.length]; exact ok a xs (.inr ha))⟩
    · obtain ⟨b, ys, eb, hb, nb, rb⟩ := (g _ (List.mem_singleton.mpr rfl)).tup
      cases eb
      obtain ⟨y, ey, ry⟩ := rb.get e
      refine ⟨⟨ys, y, .of hb, ey⟩, fun x H' hy => ?_⟩
      obtain ⟨rfl, hy⟩ := hy
      have := hy ys (.of hb)
      rw [ey] at this
      cases this
      exact ⟨Same.refl _, ry⟩
    · obtain ⟨b, ys, eb, hb, nb, rb⟩ := (g _ (List.mem_singleton.mpr rfl)).tup
      cases eb
      exact ⟨ys, .of hb, by rw [rb.length]; exact Nat.le_refl _⟩
    · rw [List.mem_singleton.mp hp]
      exact r1.sR S.tr
  · cases e
/-- lo, lo + c, .. -/
def rangeD (lo c : Int) (n : Nat) : List D := (List.range n).map fun i => .int (lo + (i : Nat) * c)
theorem rangeD_len (lo c : Int) (n : Nat) : (rangeD lo c n).length = n := by simp [rangeD]
theorem rangeD_get {lo c : Int} {n i : Nat} {d : D} (h : (rangeD lo c n)[i]? = some d) : i < n ∧ d = .int (lo + (i : Nat) * c) := by
  have hl : i < n := by
    have := (List.getElem?_eq_some_iff.mp h).1
    rwa [rangeD_len] at this
  refine ⟨hl, ?_⟩
  unfold rangeD at h
  rw [List.getElem?_map, List.getElem?_range hl] at h
  cases h
  rfl
def oR1 : List D → Option (List D)
  | [.int j] => if j ≤ 16777216 ∧ -(2 ^ 62) ≤ j then some (rangeD 0 1 j.toNat) else none
  | _ => none
def oR2 : List D → Option (List D)
  | [.int i, .int j] => if -(2 ^ 60) ≤ i ∧ i < 2 ^ 60 ∧ -(2 ^ 60) ≤ j ∧ j < 2 ^ 60 ∧ j - i ≤ 16777216 then some (rangeD i 1 (j - i).toNat) else none
  | _ => none
def oR3 : List D → Option (List D)
  | [.int i, .int j, .int (-1)] => if -(2 ^ 60) ≤ i ∧ i < 2 ^ 60 ∧ -(2 ^ 60) ≤ j ∧ j < 2 ^ 60 ∧ i - j ≤ 16777216 then some (rangeD i (-1) (i - j).toNat) else none
  | [.int i, .int j, .int c] => if RgOk i j c then some (rangeD i c (rgN i j c)) else none
  | _ => none
where
  rgN (i j c : Int) : Nat := (Builtin.Range.rangeSize i j c).toNat
  RgOk (i j c : Int) : Bool := decide (c ≠ 0) && decide (c.natAbs < 1073741824) && Builtin.Range.small i j c && decide (0 ≤ Builtin.Range.rangeSize i j c) && decide (Builtin.Range.rangeSize i j c ≤ 16777216)
def xIt (g : List D → Option (List D)) (fs : XL) : XL := fun ρ => (fs ρ).bind g
theorem yl_r {K : PySem.W.Frag} (lo : Int) (n : Nat) : Yl K (Itr lo n) [] (rangeD lo 1 n) where
  go := fun A H i d t g e => by
    obtain ⟨h1, h2⟩ := rangeD_get e
    subst h2
    refine ⟨h1, fun x H' hy => ?_⟩
    obtain ⟨rfl, rfl⟩ := hy
    refine ⟨Same.refl _, ?_⟩
    rw [Int.mul_one]
    exact .int _
  stop := fun A H t g => by
    rw [rangeD_len]
    exact Nat.le_refl _
theorem yl_c {K : PySem.W.Frag} (lo c : Int) (n : Nat) : Yl K (Itc lo c n) [] (rangeD lo c n) where
  go := fun A H i d t g e => by
    obtain ⟨h1, h2⟩ := rangeD_get e
    subst h2
    refine ⟨h1, fun x H' hy => ?_⟩
    obtain ⟨rfl, rfl⟩ := hy
    exact ⟨Same.refl _, .int _⟩
  stop := fun A H t g => by
    rw [rangeD_len]
    exact Nat.le_refl _
theorem p3 {F : V → D → Prop} {vs : List V} {x y z : D} (h : Paired F vs [x, y, z]) : ∃ v u w, vs = [v, u, w] ∧ F v x ∧ F u y ∧ F w z := by
  cases h with
  | cons a r =>
    obtain ⟨u, w, rfl, h1, h2⟩ := p2 r
    exact ⟨_, _, _, rfl, a, h1, h2⟩
theorem si_r1 (hm : X.mg "range" = none) (ha : SA X O st [a] fs) (hg : Gl X "range" := by rfl) (hs : starEach [a] X.env = [(false, eval a X.env)] := by rfl) : SI X O true tg (.Call (.Name "range" p) [a] [] pos) (xIt oR1 fs) := by
  refine ⟨pi_imp (pi_range1 hg hm ha.pa hs) fun σ H R q => ?_⟩
  obtain ⟨H0, A0, G, ρ, B, ds, S, e, k⟩ := q
  obtain ⟨d, ed, e⟩ := bind2 e
  unfold oR1 at e
  split at e
  · split at e
    · rename_i hz
      cases e
      refine ⟨H0, A0, G, ρ, B, _, S, ed, fun vs H1 s1 r1 => ?_⟩
      obtain ⟨v, rfl, w⟩ := p1 r1.weak
      exact ⟨_, by rw [w.int], hz.2, by omega, k _ H1 [] s1 (yl_r _ _) (fun p hp => nomatch hp) (by rw [rangeD_len]; omega)⟩
    · cases e
  · cases e
theorem si_r2 (hm : X.mg "range" = none) (ha : SA X O st [a, b] fs) (hg : Gl X "range" := by rfl) (hs : starEach [a, b] X.env = [(false, eval a X.env), (false, eval b X.env)] := by rfl) (hs2 : starEach [b] X.env = [(false, eval b X.env)] := by rfl) : SI X O true tg (.Call (.Name "range" p) [a, b] [] pos) (xIt oR2 fs) := by
  refine ⟨pi_imp (pi_range2 hg hm ha.pa hs hs2) fun σ H R q => ?_⟩
  obtain ⟨H0, A0, G, ρ, B, ds, S, e, k⟩ := q
  obtain ⟨d, ed, e⟩ := bind2 e
  unfold oR2 at e
  split at e
  · split at e
    · rename_i hz
      cases e
      refine ⟨H0, A0, G, ρ, B, _, S, ed, fun vs H1 s1 r1 => ?_⟩
      obtain ⟨v, u, rfl, w, w'⟩ := p2 r1.weak
      exact ⟨_, _, by rw [w.int, w'.int], ⟨by omega, by omega, by omega, by omega⟩, k _ H1 [] s1 (yl_r _ _) (fun p hp => nomatch hp) (by rw [rangeD_len]; omega)⟩
    · cases e
  · cases e
theorem si_r3 (hm : X.mg "range" = none) (ha : SA X O st [a, b, c] fs) (hg : Gl X "range" := by rfl) (hs : starEach [a, b, c] X.env = (false, eval a X.env) :: starEach [b, c] X.env := by rfl) (hpl : (backTo pos (starEach [b, c] X.env)).any (·.1) = false := by rfl) : SI X O true tg (.Call (.Name "range" p) [a, b, c] [] pos) (xIt oR3 fs) := by
  refine ⟨pi_imp (pi_range3 hg hm ha.pa hs hpl) fun σ H R q => ?_⟩
  obtain ⟨H0, A0, G, ρ, B, ds, S, e, k⟩ := q
  obtain ⟨d, ed, e⟩ := bind2 e
  unfold oR3 at e
  split at e
  · split at e
    · rename_i hz
      cases e
      refine ⟨H0, A0, G, ρ, B, _, S, ed, fun vs H1 s1 r1 => ?_⟩
      obtain ⟨v, u, w, rfl, w1, w2, w3⟩ := p3 r1.weak
      exact ⟨_, _, _, _, by rw [w1.int, w2.int, w3.int], RgC.neg (by omega) (by omega) (by omega) (by omega), k _ H1 [] s1 (yl_c _ _ _) (fun p hp => nomatch hp) (by rw [rangeD_len]; omega)⟩
    · cases e
  · split at e
    · rename_i hz
      cases e
      refine ⟨H0, A0, G, ρ, B, _, S, ed, fun vs H1 s1 r1 => ?_⟩
      obtain ⟨v, u, w, rfl, w1, w2, w3⟩ := p3 r1.weak
      unfold oR3.RgOk at hz
      simp only [Bool.and_eq_true, decide_eq_true_eq] at hz
      obtain ⟨⟨⟨⟨z1, z2⟩, z3⟩, z4⟩, z5⟩ := hz
      refine ⟨_, _, _, oR3.rgN _ _ _, by rw [w1.int, w2.int, w3.int], ⟨z1, z2, z3, ?_⟩, k _ H1 [] s1 (yl_c _ _ _) (fun p hp => nomatch hp) ?_⟩
      · unfold oR3.rgN
        omega
      · rw [rangeD_len]
        unfold oR3.rgN
        omega
    · cases e
  · cases e
/-- enumerate of a list -/
def enumD (xs : List D) : List D := (List.range xs.length).zipWith (fun i x => .tuple [.int (i : Nat), x]) xs
theorem enumD_len (xs : List D) : (enumD xs).length = xs.length := by simp [enumD]
theorem enumD_get {xs : List D} {i : Nat} {d : D} (h : (enumD xs)[i]? = some d) : ∃ x, xs[i]? = some x ∧ d = .tuple [.int (i : Nat), x] := by
  have hl : i < xs.length := by
    have := (List.getElem?_eq_some_iff.mp h).1
    rwa [enumD_len] at this
  refine ⟨xs[i], List.getElem?_eq_getElem hl, ?_⟩
  unfold enumD at h
  rw [List.getElem?_zipWith, List.getElem?_range hl, List.getElem?_eq_getElem hl] at h
  cases h
  rfl
theorem sqOne {K : PySem.W.Frag} {H : Hp} {a : Addr} {xs : List V} (h : H a = some (.lst xs)) {P : List V → Prop} (p : ∀ ys, SqL K H a ys → P ys) : P xs := p xs (.of h)
end
end Pm

/-! enumerate of a tuple, as a Turn -/
namespace Pm
open PySem PySem.Spec PyProof.Rows L2
set_option maxHeartbeats 1000000 in
theorem meets_enum1 {v : Value} {ob : Obj} {Hy : Heap → Prop} (Bg : Begins v ob Hy) :
    Meets (Builtin.«enumerate.__new__» ⟨[.type "enumerate", v], []⟩) (fun _ R s => Hy s.heap ∧
      R (.ok (.ret (.ref (s.heap.push ob).objs.size))) { s with heap := (s.heap.push ob).push { cls := .type "enumerate", data := .fields #[.none, .bool false, .ref s.heap.objs.size, rawInt 0, .none, .none] } }) :=
  .of_wp fun prog w A R s z => by
    obtain ⟨hp, gs, dr, tks, ost⟩ := s; obtain ⟨z1, z⟩ := z
    have hsub := sub_enumerate
    have run : ∀ {A' : Around} {E : Value → Shared → Prop} {Q : Value → Shared → Prop}, Q (.ref hp.objs.size) ⟨hp.push ob, gs, dr, tks, ost⟩ → wpAny (model prog w) A' (pyIter v) Q E ⟨hp, gs, dr, tks, ost⟩ :=
      fun q => Bg.iter prog w _ _ ⟨hp, gs, dr, tks, ost⟩ _ z1 q
    wp_walk using run
    refine wpAny_stack_any fun stk => wpAny_pure ?_
    split
    · rename_i cc _ _ _ _ _
      cases (cc == Value.type "enumerate") <;> (wp_walk using run) <;> exact ⟨_, rfl, z⟩
    · wp_walk using run
      exact ⟨_, rfl, z⟩
section
variable {prog : Program} {w : World} {A : Around} {E : Value → Shared → Prop} {s : Shared}
theorem enum_one {v : Value} {ob : Obj} {Hy : Heap → Prop} {Q : Value → Shared → Prop} (Bg : Begins v ob Hy) (z1 : Hy s.heap)
    (k : ∀ hh, IsEnum hh (s.heap.objs.size + 1) s.heap.objs.size 0 .none → hh.get? s.heap.objs.size = some ob → (∀ b o, s.heap.get? b = some o → hh.get? b = some o) → Q (.ref (s.heap.objs.size + 1)) { s with heap := hh }) :
    wpAny (model prog w) A (call (.type "enumerate") [v]) Q E s := by
  refine callType_new F.called_enumerate (by decide) (F.typeCall_enumerate_1 _) (F.newCall_enumerate_1 _) (fun obj => F.args_object_init_2 obj _) F.entry_enumerate_new (meets_enum1 Bg) ⟨z1, ?_⟩
  have sz : (s.heap.push ob).objs.size = s.heap.objs.size + 1 := Heap.size_push ..
  have ie : IsEnum ((s.heap.push ob).push { cls := .type "enumerate", data := .fields #[.none, .bool false, .ref s.heap.objs.size, rawInt 0, .none, .none] }) (s.heap.objs.size + 1) s.heap.objs.size 0 .none := by
    rw [← sz]
    exact Heap.get?_push_size _ rfl
  show _ ∧ _
  rw [sz]
  exact ⟨⟨_, ie, rfl⟩, k _ ie (Heap.get?_push_of_some _ (Heap.get?_push_size _ Bg.free)) fun b o x => Heap.get?_push_of_some _ (Heap.get?_push_of_some _ x)⟩
end
/-- the tuple at a, each item in a new pair -/
def ItE (K : PySem.W.Frag) (a : Addr) : It where
  go := fun i H => ∃ (xs : List V) (x : V), SqT K H a xs ∧ xs[i]? = some x
  yld := fun i H v H' => ∃ T x, v = .ref T ∧ H T = none ∧ H' = upd H T (.tup [.int (i : Nat), x]) ∧ ∀ xs, SqT K H a xs → xs[i]? = some x
  stop := fun i H => ∃ xs : List V, SqT K H a xs ∧ xs.length ≤ i
theorem turn_enumTup {P : Program} {w : World} {K : PySem.W.Frag} {elts : List Expr} {kk : Nat} {tpos : Pos} (a e it : Addr) :
    Turn P w K (.Tuple elts kk tpos) (ItE K a) [e, it] e (fun i h => (∃ old, IsEnum h e it ((0 : Int) + ((i : Nat) : Int)) old) ∧ h.IsTupleIter it a i ∧ e ≠ it ∧ a ≠ it) where
  mem := List.mem_cons_self
  obj := by
    intro i h ⟨⟨old, he⟩, ⟨o, ho, hc, hd⟩, _⟩ b hb
    have hb' : b = e ∨ b = it := by simpa using hb
    rcases hb' with rfl | rfl
    · exact ⟨_, he, fun v q => nomatch q⟩
    · exact ⟨o, ho, fun v q => by rw [hd] at q; cases q⟩
  keep := by
    intro i h h' ⟨⟨old, he⟩, hi, hne⟩ k
    exact ⟨⟨old, k e (by simp) _ he⟩, hi.at fun o q => k it (by simp) o q, hne⟩
  item := by
    intro X hP hw hK hc i pins s σ H E I hf st hg
    subst hP hw hK
    obtain ⟨⟨old, he⟩, hit, hne, hat⟩ := st
    obtain ⟨xs, x, hq, hx⟩ := hg
    obtain ⟨its, rv, p, hz⟩ := I.tuple hq
    obtain ⟨u, hu, ru⟩ := rv.get hx
    have hi : i < its.length := (List.getElem?_eq_some_iff.mp hu).1
    have el : e < s.heap.objs.size := Heap.lt_size he
    have il : it < s.heap.objs.size := by
      obtain ⟨_, q, _⟩ := hit
      exact Heap.lt_size q
    have nef : e ∉ [it, a] := fun z => by
      have z' : e = it ∨ e = a := by simpa using z
      rcases z' with z' | z'
      · exact hne z'
      · obtain ⟨o, ho, hcl, _⟩ := p
        rw [← z'] at ho
        have := he.symm.trans ho
        cases this
        exact absurd (Value.type.inj hcl) (by decide)
    have Dr := Draws.tuple (prog := X.prog) (w := X.w) (A := X.A.in1) (I.ok.hd hc) it a hat its.toArray
    refine wpAny_pyNext_enum_itemC Dr he ⟨hit, p⟩ (by simpa using hi) hne nef fun y h' tk hy ho st' hT hsz hk => ?_
    have ey : y = u := by
      have hy' : its[i]? = some y := by simpa using hy
      rw [hu] at hy'
      exact (Option.some.inj hy').symm
    subst ey
    refine ⟨_, rfl, wpAny_letOwnedTupleGo_enum (s := { s with heap := h', toks := tk + 1 }) ho fun h'' he' sb => ?_⟩
    have hT2 : h''.get? s.heap.objs.size = some { cls := .type "tuple", data := .seq #[.int ((0 : Int) + ((i : Nat) : Int)) tk, y] } := (sb.2 _ (Nat.ne_of_gt el)).trans hT
    have ob : ObjOk X.prog X.w (upd H s.heap.objs.size (.tup [.int (i : Nat), x])) h'' s.heap.objs.size (.tup [.int (i : Nat), x]) :=
      ⟨by show 2 ≤ sizeLine; decide, [.int ((0 : Int) + ((i : Nat) : Int)) tk, y], .cons ⟨tk, by rw [Int.zero_add]⟩ (.cons ru .nil), ⟨_, hT2, rfl, _, rfl⟩⟩
    have J : Inv X pins σ (upd H s.heap.objs.size (.tup [.int (i : Nat), x])) { s with heap := h'', toks := tk + 1 } :=
      I.turnedNew (ch := [e, it]) (fun b q hb e1 => (sb.2 b (fun z => hb (by simp [z]))).trans (hk b q (fun z => hb (by simp [z])) (fun z => hb (by simp [z])) e1)) hf (Nat.le_refl _) ob
    refine ⟨.ref s.heap.objs.size, _, J, rfl, ⟨_, x, rfl, I.hok.fresh (Nat.le_refl _), rfl, fun ys hy => by rw [I.tuple_inj hy hq]; exact hx⟩, ⟨⟨y, ?_⟩, st'.1.at fun o q => (sb.2 it (Ne.symm hne)).trans q, hne, hat⟩, fun b hb => ?_⟩
    · have e1 : (0 : Int) + ((i + 1 : Nat) : Int) = (0 : Int) + (i : Int) + 1 := by omega
      rw [e1]
      exact he'
    · have lb : b < s.heap.objs.size := by
        have z : b = e ∨ b = it := by simpa using hb
        rcases z with rfl | rfl
        · exact el
        · exact il
      rw [upd_ne (Nat.ne_of_lt lb)]
      exact (hf b hb).1
  done := by
    intro X hP hw hK hc i pins s σ H E I hf st hg
    subst hP hw hK
    obtain ⟨⟨old, he⟩, hit, hne, hat⟩ := st
    obtain ⟨xs, hq, hx⟩ := hg
    obtain ⟨its, rv, p, hz⟩ := I.tuple hq
    obtain ⟨f0, f1, f2, f3, f4, f5⟩ := hf it (by simp)
    have hl := rv.length
    have hh : X.A.in1.in1.handled = none := I.ok.hd hc
    refine wpAny_pyNext_enum_endD (n := i) (St := fun j h => j = i ∧ h.IsTupleIter it a i ∧ h.IsTuple a its.toArray) (P := fun _ _ => True) (fp := [it, a]) ?_ he ⟨rfl, hit, p⟩ fun h' eb => ⟨rfl, I.turned (t' := s.toks) (fun b o hb q => eb b o hb q) f0 f1 f3 f4 f5⟩
    refine ⟨fun _ _ st => let ⟨o, ho, _⟩ := st.2.1; ⟨o, ho⟩, fun _ _ _ st hk => ⟨st.1, st.2.1.at fun o e => hk it (by simp) o e, st.2.2.at fun o e => hk a (by simp) o e⟩, ?_, ?_⟩
    · intro j s' Q E' hj st' hQ
      exact absurd st'.1 (Nat.ne_of_lt hj)
    · intro s' Q E' st' hE
      exact wpAny_nextOf_tuple_end hh st'.2.1 st'.2.2 (by simp; omega) hE
  self := fun A i s Q E st h => let ⟨⟨_, he⟩, _⟩ := st; wpAny_pyIter_enum he h
end Pm

namespace Pm
open PySem PySem.Spec PyProof.Rows L2
section
variable {X : Cx} {O : List Nat} {m ma mb mc : Md} {st : Bool} {a b c e tg : Expr} {es : List Expr} {fa fb fc f : Xp} {fs : XL} {pos p : Pos}
def iEnumT (K : PySem.W.Frag) (ta : TA) : TI := fun σ H R => ta σ H fun vs H1 => ∃ a xs, vs = [.ref a] ∧ SqT K H1 a xs ∧ R (ItE K a) H1
theorem pi_enumT {ta : TA} {tpos : Pos} {elts : List Expr} {kk : Nat} (hg : Gl X "enumerate") (hm : X.mg "enumerate" = none) (ha : PA X [e] ta) (hs : starEach [e] X.env = [(false, eval e X.env)] := by rfl) : PI X (.Tuple elts kk tpos) (.Call (.Name "enumerate" p) [e] [] pos) (iEnumT X.K ta) := by
  refine ⟨fun pins s σ H R I h => ?_⟩
  refine Call_ (ld_blt I hg hm boot_enumerate (callWith_type1 (thn (ha.run pos pins s σ H _ I h) fun us s1 q1 => ?_) hs rfl))
  obtain ⟨vs, H1, I1, r1, t, xs, ex, hq, q⟩ := q1
  subst ex
  rw [Vals.ref1 r1]
  obtain ⟨its, rv, pt, hz⟩ := I1.tuple hq
  refine enum_one (begins_tuple t its.toArray) pt fun h' he hit hk => wpAny_pyIter_enum he ?_
  have I2 : Inv X pins σ H1 { s1 with heap := h' } := I1.kept (t' := s1.toks) hk
  refine ⟨s1.heap.objs.size + 1, [s1.heap.objs.size + 1, s1.heap.objs.size], _, _, H1, rfl, I2, turn_enumTup t (s1.heap.objs.size + 1) s1.heap.objs.size, ⟨⟨.none, ?_⟩, ⟨_, hit, rfl, rfl⟩, Nat.succ_ne_self _, Nat.ne_of_lt pt.lt⟩, fun b hb => ?_, q⟩
  · exact he
  · have le : s1.heap.objs.size ≤ b := by
      have z : b = s1.heap.objs.size + 1 ∨ b = s1.heap.objs.size := by simpa using hb
      rcases z with rfl | rfl
      · exact Nat.le_succ _
      · exact Nat.le_refl _
    exact I1.fpOk le (I1.hok.fresh le)
def oEnum : List D → Option (List D)
  | [x] => (seqD x).map enumD
  | _ => none
theorem rp_pair {K : PySem.W.Frag} {A : Addr → Prop} {H : Hp} {T : Addr} {v u : V} {d d' : D} (t : Tr A H) (hT : H T = none) (r : Rp K A H v d) (r' : Rp K A H u d') : Rp K A (upd H T (.tup [v, u])) (.ref T) (.tuple [d, d']) :=
  Rp.newT t hT (.cons r (.cons r' .nil))
theorem rsL {K : PySem.W.Frag} {A : Addr → Prop} {H : Hp} {vs : List V} {x : D} (h : ResL K A H st vs [x]) : ∃ v, vs = [v] ∧ strongR K A H st v x := by
  cases st with
  | true =>
    cases h with
    | cons a r => cases r; exact ⟨_, rfl, a⟩
  | false =>
    cases h with
    | cons a r => cases r; exact ⟨_, rfl, a⟩
theorem rsL2 {K : PySem.W.Frag} {A : Addr → Prop} {H : Hp} {vs : List V} {x y : D} (h : ResL K A H st vs [x, y]) : ∃ v u, vs = [v, u] ∧ strongR K A H st v x ∧ strongR K A H st u y := by
  cases st with
  | true =>
    cases h with
    | cons a r =>
      cases r with
      | cons b r => cases r; exact ⟨_, _, rfl, a, b⟩
  | false =>
    cases h with
    | cons a r =>
      cases r with
      | cons b r => cases r; exact ⟨_, _, rfl, a, b⟩
theorem si_enum {tpos : Pos} {elts : List Expr} {kk : Nat} (hm : X.mg "enumerate" = none) (ha : SA X O st [a] fs) (hg : Gl X "enumerate" := by rfl) (hs : starEach [a] X.env = [(false, eval a X.env)] := by rfl) : SI X O st (.Tuple elts kk tpos) (.Call (.Name "enumerate" p) [a] [] pos) (xIt oEnum fs) := by
  refine ⟨pi_imp (pi_or (pi_enum hg hm (pa_ok ha.pa) hs) (pi_enumT hg hm (pa_ok ha.pa) hs)) fun σ H R q => ?_⟩
  obtain ⟨H0, A0, G, ρ, B, ds, S, e, k⟩ := q
  obtain ⟨d, ed, e⟩ := bind2 e
  unfold oEnum at e
  split at e
  · rename_i x
    obtain ⟨xs, ex, e⟩ := Option.map_eq_some_iff.mp e
    subst e
    unfold seqD at ex
    split at ex
    · cases ex
      refine .inl ⟨H0, A0, G, ρ, B, _, S, ed, fun vs H1 s1 r1 ok => ?_⟩
      obtain ⟨v, rfl, sr⟩ := rsL r1
      obtain ⟨t, ys, rfl, ht, rt⟩ := sr.w.lst
      refine ⟨t, ys, rfl, .of ht, k _ H1 [(.ref t, .list xs)] s1 ⟨fun A H i d tr g e => ?_, fun A H tr g => ?_⟩ (fun p hp => by rw [List.mem_singleton.mp hp]; exact sr) (by rw [enumD_len, ← rt.length]; exact ok t ys (.inl ht))⟩
      · obtain ⟨z, ez, rfl⟩ := enumD_get e
        obtain ⟨b, ys, eb, hb, rb⟩ := (g _ (List.mem_singleton.mpr rfl)).lst
        cases eb
        obtain ⟨y, ey, ry⟩ := rb.get ez
        refine ⟨⟨ys, y, .of hb, ey⟩, fun x H' hy => ?_⟩
        obtain ⟨T, u, rfl, hT, rfl, hu⟩ := hy
        have := hu ys (.of hb)
        rw [ey] at this
        cases this
        exact ⟨same_upd hT, rp_pair tr hT (.int _) ry⟩
      · obtain ⟨b, ys, eb, hb, rb⟩ := (g _ (List.mem_singleton.mpr rfl)).lst
        cases eb
        exact ⟨ys, .of hb, by rw [enumD_len, rb.length]; exact Nat.le_refl _⟩
    · cases ex
      refine .inr ⟨H0, A0, G, ρ, B, _, S, ed, fun vs H1 s1 r1 ok => ?_⟩
      obtain ⟨v, rfl, sr⟩ := rsL r1
      obtain ⟨t, ys, rfl, ht, nt, rt⟩ := sr.w.tup
      refine ⟨t, ys, rfl, .of ht, k _ H1 [(.ref t, .tuple xs)] s1 ⟨fun A H i d tr g e => ?_, fun A H tr g => ?_⟩ (fun p hp => by rw [List.mem_singleton.mp hp]; exact sr) (by rw [enumD_len, ← rt.length]; exact ok t ys (.inr ht))⟩
      · obtain ⟨z, ez, rfl⟩ := enumD_get e
        obtain ⟨b, ys, eb, hb, nb, rb⟩ := (g _ (List.mem_singleton.mpr rfl)).tup
        cases eb
        obtain ⟨y, ey, ry⟩ := rb.get ez
        refine ⟨⟨ys, y, .of hb, ey⟩, fun x H' hy => ?_⟩
        obtain ⟨T, u, rfl, hT, rfl, hu⟩ := hy
        have := hu ys (.of hb)
        rw [ey] at this
        cases this
        exact ⟨same_upd hT, rp_pair tr hT (.int _) ry⟩
      · obtain ⟨b, ys, eb, hb, nb, rb⟩ := (g _ (List.mem_singleton.mpr rfl)).tup
        cases eb
        exact ⟨ys, .of hb, by rw [enumD_len, rb.length]; exact Nat.le_refl _⟩
    · cases ex
  · cases e
/-- zip of two lists, of two tuples -/
def zipD (xs ys : List D) : List D := xs.zipWith (fun x y => .tuple [x, y]) ys
theorem zipD_get {xs ys : List D} {i : Nat} {d : D} (h : (zipD xs ys)[i]? = some d) : ∃ x y, xs[i]? = some x ∧ ys[i]? = some y ∧ d = .tuple [x, y] := by
  unfold zipD at h
  rw [List.getElem?_zipWith] at h
  cases e : xs[i]? with
  | none => rw [e] at h; cases ys[i]? <;> cases h
  | some x =>
    cases e' : ys[i]? with
    | none => rw [e, e'] at h; cases h
    | some y => rw [e, e'] at h; cases h; exact ⟨x, y, rfl, rfl, rfl⟩
theorem zipD_len (xs ys : List D) : (zipD xs ys).length = min xs.length ys.length := by simp [zipD]
def oZip : List D → Option (List D)
  | [.list xs, .list ys] => some (zipD xs ys)
  | [.tuple xs, .tuple ys] => some (zipD xs ys)
  | _ => none
theorem si_zip {tpos : Pos} {elts : List Expr} {kk : Nat} (hm : X.mg "zip" = none) (ha : SA X O st [a, b] fs) (hg : Gl X "zip" := by rfl)
    (hs : starEach [a, b] X.env = (false, eval a X.env) :: starEach [b] X.env := by rfl) (hpl : (backTo pos (starEach [b] X.env)).any (·.1) = false := by rfl) : SI X O st (.Tuple elts kk tpos) (.Call (.Name "zip" p) [a, b] [] pos) (xIt oZip fs) := by
  refine ⟨pi_imp (RZ.pi_zipA hg hm (pa_ok ha.pa) hs hpl) fun σ H R q => ?_⟩
  obtain ⟨H0, A0, G, ρ, B, ds, S, e, k⟩ := q
  obtain ⟨d, ed, e⟩ := bind2 e
  refine ⟨H0, A0, G, ρ, B, _, S, ed, fun vs H1 s1 r1 ok => ?_⟩
  unfold oZip at e
  split at e
  · cases e
    rename_i xs ys
    obtain ⟨v, u, rfl, sr, sr'⟩ := rsL2 r1
    obtain ⟨t, vs, rfl, ht, rt⟩ := sr.w.lst
    obtain ⟨t', vs', rfl, ht', rt'⟩ := sr'.w.lst
    refine ⟨t, t', vs, vs', rfl, .inl ⟨.of ht, .of ht', k _ H1 [(.ref t, .list xs), (.ref t', .list ys)] s1 ⟨fun A H i d tr g e => ?_, fun A H tr g => ?_⟩ (fun p hp => ?_) ?_⟩⟩
    · obtain ⟨x, y, ex, ey, rfl⟩ := zipD_get e
      obtain ⟨b, zs, eb, hb, rb⟩ := (g _ (List.mem_cons_self)).lst
      obtain ⟨b', zs', eb', hb', rb'⟩ := (g _ (List.mem_cons_of_mem _ List.mem_cons_self)).lst
      cases eb
      cases eb'
      obtain ⟨x1, ex1, rx1⟩ := rb.get ex
      obtain ⟨y1, ey1, ry1⟩ := rb'.get ey
      refine ⟨⟨zs, zs', x1, y1, .of hb, .of hb', ex1, ey1⟩, fun z H' hy => ?_⟩
      obtain ⟨T, u, w, rfl, hT, rfl, hu, hw⟩ := hy
      have e1 := hu zs (.of hb)
      have e2 := hw zs' (.of hb')
      rw [ex1] at e1
      rw [ey1] at e2
      cases e1
      cases e2
      exact ⟨same_upd hT, rp_pair tr hT rx1 ry1⟩
    · obtain ⟨b, zs, eb, hb, rb⟩ := (g _ (List.mem_cons_self)).lst
      obtain ⟨b', zs', eb', hb', rb'⟩ := (g _ (List.mem_cons_of_mem _ List.mem_cons_self)).lst
      cases eb
      cases eb'
      refine ⟨zs, zs', .of hb, .of hb', ?_⟩
      rw [zipD_len, rb.length, rb'.length]
      omega
    · have z : p = (.ref t, .list xs) ∨ p = (.ref t', .list ys) := by simpa using hp
      rcases z with rfl | rfl
      · exact sr
      · exact sr'
    · rw [zipD_len, ← rt.length]
      have := ok t vs (.inl ht)
      omega
  · cases e
    rename_i xs ys
    obtain ⟨v, u, rfl, sr, sr'⟩ := rsL2 r1
    obtain ⟨t, vs, rfl, ht, nt, rt⟩ := sr.w.tup
    obtain ⟨t', vs', rfl, ht', nt', rt'⟩ := sr'.w.tup
    refine ⟨t, t', vs, vs', rfl, .inr ⟨.of ht, .of ht', k _ H1 [(.ref t, .tuple xs), (.ref t', .tuple ys)] s1 ⟨fun A H i d tr g e => ?_, fun A H tr g => ?_⟩ (fun p hp => ?_) ?_⟩⟩
    · obtain ⟨x, y, ex, ey, rfl⟩ := zipD_get e
      obtain ⟨b, zs, eb, hb, nb, rb⟩ := (g _ (List.mem_cons_self)).tup
      obtain ⟨b', zs', eb', hb', nb', rb'⟩ := (g _ (List.mem_cons_of_mem _ List.mem_cons_self)).tup
      cases eb
      cases eb'
      obtain ⟨x1, ex1, rx1⟩ := rb.get ex
      obtain ⟨y1, ey1, ry1⟩ := rb'.get ey
      refine ⟨⟨zs, zs', x1, y1, .of hb, .of hb', ex1, ey1⟩, fun z H' hy => ?_⟩
      obtain ⟨T, u, w, rfl, hT, rfl, hu, hw⟩ := hy
      have e1 := hu zs (.of hb)
      have e2 := hw zs' (.of hb')
      rw [ex1] at e1
      rw [ey1] at e2
      cases e1
      cases e2
      exact ⟨same_upd hT, rp_pair tr hT rx1 ry1⟩
    · obtain ⟨b, zs, eb, hb, nb, rb⟩ := (g _ (List.mem_cons_self)).tup
      obtain ⟨b', zs', eb', hb', nb', rb'⟩ := (g _ (List.mem_cons_of_mem _ List.mem_cons_self)).tup
      cases eb
      cases eb'
      refine ⟨zs, zs', .of hb, .of hb', ?_⟩
      rw [zipD_len, rb.length, rb'.length]
      omega
    · have z : p = (.ref t, .tuple xs) ∨ p = (.ref t', .tuple ys) := by simpa using hp
      rcases z with rfl | rfl
      · exact sr
      · exact sr'
    · rw [zipD_len, ← rt.length]
      have := ok t vs (.inr ht)
      omega
  · cases e
end

end Pm

namespace Pm
open PySem PySem.Spec PyProof.Rows L2

/-! ### targets -/
abbrev XG := D → PEnv → Option PEnv
/-- the slots out of ts stand -/
def Ch (ts : List Nat) (σ σ' : L2.St) : Prop := σ'.length = σ.length ∧ ∀ i, ts.contains i = false → σ'[i]? = σ[i]?
def simG (K : PySem.W.Frag) (O O' ts : List Nat) (g : XG) : TG := fun v σ H Q => ∃ H0 A0 G ρ B d ρ', Sim K H0 A0 G O σ H ρ B ∧ Rp K (Av A0 B) H v d ∧ g d ρ = some ρ' ∧
  ∀ σ', Ch ts σ σ' → Sim K H0 A0 G O' σ' H ρ' (restr ts B) → Q σ' H
structure SG (X : Cx) (O O' ts : List Nat) (tg : Expr) (g : XG) : Prop where
  pg : PG X tg (simG X.K O O' ts g)
def simGs (K : PySem.W.Frag) (O O' ts : List Nat) (g : List D → PEnv → Option PEnv) : TGs := fun vs σ H Q => ∃ H0 A0 G ρ B ds ρ', Sim K H0 A0 G O σ H ρ B ∧ RpL K (Av A0 B) H vs ds ∧ g ds ρ = some ρ' ∧
  ∀ σ', Ch ts σ σ' → Sim K H0 A0 G O' σ' H ρ' (restr ts B) → Q σ' H
structure SGs (X : Cx) (O O' ts : List Nat) (tgs : List Expr) (g : List D → PEnv → Option PEnv) : Prop where
  pgs : PGs X tgs (simGs X.K O O' ts g)
theorem pg_imp {X : Cx} {e : Expr} {t t' : TG} (h : PG X e t) (hi : ∀ v σ H Q, t' v σ H Q → t v σ H Q) : PG X e t' := ⟨fun pins s σ H v u Q I r q => h.run pins s σ H v u Q I r (hi _ _ _ _ q)⟩
theorem pgs_imp {X : Cx} {e : List Expr} {t t' : TGs} (h : PGs X e t) (hi : ∀ v σ H Q, t' v σ H Q → t v σ H Q) : PGs X e t' := ⟨fun pins s σ H v u Q I r q => h.run pins s σ H v u Q I r (hi _ _ _ _ q)⟩
def gSet (i : Nat) : XG := fun d ρ => if i < ρ.length then some (ρ.set i (some d)) else none
def gTupD (n : Nat) (g : List D → PEnv → Option PEnv) : XG := fun d ρ => match d with
  | .tuple ds => if ds.length = n then g ds ρ else none
  | _ => none
def gsNil : List D → PEnv → Option PEnv := fun ds ρ => match ds with
  | [] => some ρ
  | _ => none
def gsCons (g : XG) (gs : List D → PEnv → Option PEnv) : List D → PEnv → Option PEnv := fun ds ρ => match ds with
  | d :: ds => (g d ρ).bind fun ρ' => gs ds ρ'
  | _ => none
theorem Ch.refl (ts : List Nat) (σ : L2.St) : Ch ts σ σ := ⟨rfl, fun _ _ => rfl⟩
theorem Ch.trans {ts us : List Nat} {σ σ' σ'' : L2.St} (h : Ch ts σ σ') (h' : Ch us σ' σ'') : Ch (ts ++ us) σ σ'' := by
  refine ⟨h'.1.trans h.1, fun i z => ?_⟩
  have e : ts.contains i = false ∧ us.contains i = false := by
    simpa [List.contains_eq_mem, not_or] using z
  exact (h'.2 i e.2).trans (h.2 i e.1)
theorem Ch.set (i : Nat) (x : Option V) (σ : L2.St) : Ch [i] σ (σ.set i x) := by
  refine ⟨List.length_set, fun j z => ?_⟩
  have e : j ≠ i := by simpa using z
  exact List.getElem?_set_ne (Ne.symm e)
section
variable {X : Cx} {O O' O'' ts us : List Nat} {tg : Expr} {tgs : List Expr} {g : XG} {gs : List D → PEnv → Option PEnv} {pos : Pos}
theorem sg_name (i : Nat) {x : Str} (hN : X.N.Nodup) (hi : X.N[i]? = some x := by rfl) (hx : Loc X.env.scope x := by first | exact Or.inl rfl | exact Or.inr rfl) (hf : X.fn x = true ∨ X.env.scope.names.lookup x = some .local := by first | exact .inl rfl | exact .inr rfl) (hO : O.filter (· != i) = O' := by rfl) : SG X O O' [i] (.Name x pos) (gSet i) := by
  refine ⟨pg_imp (pg_name hN hi hx hf) fun v σ H Q h => ?_⟩
  obtain ⟨H0, A0, G, ρ, B, d, ρ', S, r, e, k⟩ := h
  unfold gSet at e
  split at e
  · rename_i hl
    cases e
    have S' := S.setS r hl
    rw [hO] at S'
    exact k _ (Ch.set i _ σ) S'
  · cases e
theorem sgs_nil : SGs X O O [] [] gsNil := by
  refine ⟨pgs_imp pgs_nil fun v σ H Q h => ?_⟩
  obtain ⟨H0, A0, G, ρ, B, ds, ρ', S, r, e, k⟩ := h
  unfold gsNil at e
  split at e
  · cases e
    cases r
    exact ⟨rfl, k σ (Ch.refl _ _) (by rw [restr_nil]; exact S)⟩
  · cases e
theorem sgs_cons (h : SG X O O' ts tg g) (h' : SGs X O' O'' us tgs gs) (hs : (assignEach (tg :: tgs) X.env).map (·.2) = assign tg X.env :: (assignEach tgs X.env).map (·.2) := by rfl) : SGs X O O'' (ts ++ us) (tg :: tgs) (gsCons g gs) := by
  refine ⟨pgs_imp (pgs_cons h.pg h'.pgs hs) fun v σ H Q q => ?_⟩
  obtain ⟨H0, A0, G, ρ, B, ds, ρ', S, r, e, k⟩ := q
  unfold gsCons at e
  split at e
  · obtain ⟨ρ1, e1, e⟩ := bind2 e
    cases r with
    | cons r1 r2 =>
      refine ⟨_, _, rfl, H0, A0, G, ρ, B, _, ρ1, S, r1, e1, fun σ1 c1 S1 => ?_⟩
      refine ⟨H0, A0, G, ρ1, _, _, ρ', S1, r2.anti fun a z => restr_av z, e, fun σ2 c2 S2 => k σ2 (c1.trans c2) ?_⟩
      rw [restr_app] at S2
      exact S2
  · cases e
theorem sg_tup {k n : Nat} (hc : X.calm = true) (h : SGs X O O' ts tgs gs) (hn : (assignEach tgs X.env).length = n := by rfl) (hst : (assignEach tgs X.env).findIdx? (·.1) = none := by rfl) : SG X O O' ts (.Tuple tgs k pos) (gTupD n gs) := by
  refine ⟨pg_imp (pg_tup hc h.pgs hn hst) fun v σ H Q q => ?_⟩
  obtain ⟨H0, A0, G, ρ, B, d, ρ', S, r, e, k⟩ := q
  unfold gTupD at e
  split at e
  · split at e
    · rename_i hz
      cases r with
      | tup ht nt rt => exact ⟨_, _, rfl, .of ht, by rw [rt.length, hz], H0, A0, G, ρ, B, _, ρ', S, rt, e, k⟩
    · cases e
  · cases e
end

/-! ### comprehensions -/
def wipeP (ρ : PEnv) : List Nat → PEnv
  | [] => ρ
  | v :: vs => (wipeP ρ vs).set v none
theorem wipe_get (σ : L2.St) (i : Nat) : ∀ vs : List Nat, (wipe σ vs)[i]? = if vs.contains i then (if i < σ.length then some none else none) else σ[i]?
  | [] => by simp [wipe]
  | v :: vs => by
    unfold wipe
    by_cases h : v = i
    · subst h
      have hc : (v :: vs).contains v = true := by simp
      rw [hc, if_pos rfl]
      by_cases hl : v < σ.length
      · rw [List.getElem?_set_self (by rw [wipe_length]; exact hl), if_pos hl]
      · rw [if_neg hl, List.getElem?_eq_none (by rw [List.length_set, wipe_length]; omega)]
    · rw [List.getElem?_set_ne h, wipe_get σ i vs]
      have : (v :: vs).contains i = vs.contains i := by
        have h' : ¬ i = v := fun z => h z.symm
        simp [List.contains_cons, h']
      rw [this]
theorem wipe_eq {ts vs : List Nat} {σ σ2 : L2.St} (c : Ch ts (wipe σ vs) σ2) (h : ∀ i, ts.contains i = true → vs.contains i = true) : wipe σ2 vs = wipe σ vs := by
  apply List.ext_getElem?
  intro i
  have hl : σ2.length = σ.length := by rw [c.1, wipe_length]
  rw [wipe_get, wipe_get, hl]
  by_cases hv : vs.contains i = true
  · rw [if_pos hv, if_pos hv]
  · rw [if_neg hv, if_neg hv]
    have ht : ts.contains i = false := by
      cases e : ts.contains i with
      | false => rfl
      | true => exact absurd (h i e) hv
    rw [c.2 i ht, wipe_get, if_neg hv]
theorem Sim.wipe {K : PySem.W.Frag} {H0 H : Hp} {A0 : Addr → Prop} {G : List (V × D)} {O : List Nat} {σ : L2.St} {ρ : PEnv} {B : Nat → Option Addr} (S : Sim K H0 A0 G O σ H ρ B) : ∀ vs : List Nat, (∀ i ∈ vs, i ∉ O) → Sim K H0 A0 G O (wipe σ vs) H (wipeP ρ vs) B
  | [], _ => S
  | v :: vs, h => (S.wipe vs fun i hi => h i (List.mem_cons_of_mem _ hi)).drop v (h v List.mem_cons_self)
theorem restr_same {K : PySem.W.Frag} {H0 H : Hp} {A0 : Addr → Prop} {G : List (V × D)} {O : List Nat} {σ : L2.St} {ρ : PEnv} {B : Nat → Option Addr} (S : Sim K H0 A0 G O σ H ρ B) {ts : List Nat} (h : ∀ i, ts.contains i = true → i ∉ O) : restr ts B = B := by
  funext j
  unfold restr
  split
  · rename_i hj
    cases e : B j with
    | none => rfl
    | some a => exact absurd (S.bo j a e) (h j hj)
  · rfl
/-- the items made from one source -/
def lcL (g : XG) (t : PEnv → Option Bool) (f : Xp) (ρ : PEnv) : List D → Option (List D)
  | [] => some []
  | d :: ds => (g d ρ).bind fun ρ1 => (t ρ1).bind fun b => if b then (f ρ1).bind fun y => (lcL g t f ρ ds).bind fun ys => some (y :: ys) else lcL g t f ρ ds
def xLc (it : XL) (g : XG) (t : PEnv → Option Bool) (f : Xp) (own : List Nat) : Xp := fun ρ => (it ρ).bind fun ds => (lcL g t f (wipeP ρ own) ds).map .list
structure STs (X : Cx) (O : List Nat) (ifs : List Expr) (f : PEnv → Option Bool) : Prop where
  pts : PTs X ifs (simTT X.K O f)
def tYesP : PEnv → Option Bool := fun _ => some true
theorem pts_imp {X : Cx} {e : List Expr} {t t' : TT} (h : PTs X e t) (hi : ∀ σ H Q, t' σ H Q → t σ H Q) : PTs X e t' := ⟨fun pins s σ H Q I q => h.run pins s σ H Q I (hi _ _ _ q)⟩
theorem sts_nil {X : Cx} {O : List Nat} : STs X O [] tYesP := ⟨pts_imp pts_nil fun σ H Q ⟨H0, A0, G, ρ, B, b, S, e, k⟩ => by cases e; exact k H (Same.refl H)⟩
theorem sts_one {X : Cx} {O : List Nat} {c : Expr} {f : PEnv → Option Bool} (h : ST X O c f) : STs X O [c] f := ⟨pts_one h.pt⟩
theorem WRp.step {K : PySem.W.Frag} {A A' : Addr → Prop} {H H' : Hp} {v : V} {d : D} (h : WRp K A H v d) (s : Same H H') (ha : ∀ a, A' a → A a ∨ H a = none) : WRp K A' H' v d := by
  rcases h with h | ⟨a, e, h⟩
  · exact .inl (h.step (fun a o e _ => s a o e) ha)
  · exact .inr ⟨a, e, h.step (fun a o e _ => s a o e) ha fun o e => s _ o e⟩
abbrev Gd (A0 : Addr → Prop) (a : Addr) : Addr → Prop := fun b => A0 b ∨ b = a
theorem gd_av {A0 : Addr → Prop} {B : Nat → Option Addr} {a b : Addr} (h : Av (Gd A0 a) B b) : Av A0 B b ∨ b = a := by
  rcases h with (h | h) | h
  · exact .inl (.inl h)
  · exact .inr h
  · exact .inl (.inr h)
section
variable {X : Cx} {O ts : List Nat} {st : Bool} {m : Md} {tg iter elt : Expr} {ifs : List Expr} {scope : Scope} {own : List (Str × Nat)} {it : XL} {g : XG} {t : PEnv → Option Bool} {f : Xp} {pos : Pos}
theorem lc_of (hm : m ≠ .w) (hts : ∀ i, ts.contains i = true → (own.map (·.2)).contains i = true) (hO : ∀ i ∈ own.map (·.2), i ∉ O) (σ : L2.St) (H : Hp) (Q : VK) (q : simT X.K O .f (xLc it g t f (own.map (·.2))) σ H Q) :
    tLc (simI X.K O st it) (simG X.K O O ts g) (simTT X.K O t) (simT X.K O m f) (own.map (·.2)) σ H Q := by
  obtain ⟨H0, A0, G, ρ, B, d, S, e, k⟩ := q
  obtain ⟨ds, eds, e⟩ := bind2 e
  obtain ⟨ys, eys, e⟩ := Option.map_eq_some_iff.mp e
  subst e
  refine ⟨H0, A0, G, ρ, B, ds, S, eds, fun J H1 gs s1 yl gr hz Dn hD => ?_⟩
  have hts' : ∀ i, ts.contains i = true → i ∉ O := fun i hi => hO i (by simpa using hts i hi)
  -- what stands between two turns
  refine ⟨fun i n Hc => n = ds.length - i ∧ i ≤ ds.length ∧ Same H1 Hc ∧ ∃ vs pre post, Hc Dn = some (.lst vs) ∧ RpL X.K (Av (Gd A0 Dn) B) Hc vs pre ∧ pre.length ≤ i ∧ lcL g t f (wipeP ρ (own.map (·.2))) (ds.drop i) = some post ∧ ys = pre ++ post,
    ⟨ds.length, rfl, Nat.zero_le _, same_upd hD, [], [], ys, upd_same, .nil, Nat.le_refl _, eys, rfl⟩, ?_⟩
  rintro i n Hc ⟨rfl, hi, sc, vs, pre, post, hDc, rpre, hpl, epost, rfl⟩
  have Sg : Sim X.K H0 (Gd A0 Dn) G O σ Hc ρ B := (S.mono s1).guard hD sc ⟨_, hDc, NT.lst⟩
  have gw : ∀ p ∈ gs, WRp X.K (Av (Gd A0 Dn) B) Hc p.1 p.2 := fun p hp => (gr p hp).w.step sc fun a z => by
    rcases gd_av z with z | z
    · exact .inl z
    · exact .inr (by rw [z]; exact hD)
  by_cases hlt : i < ds.length
  · have ed : ds[i]? = some ds[i] := List.getElem?_eq_getElem hlt
    rw [List.drop_eq_getElem_cons hlt] at epost
    obtain ⟨hgo, hy⟩ := yl.go _ Hc i _ Sg.tr gw ed
    simp only [lcL] at epost
    obtain ⟨ρ1, eρ1, epost⟩ := bind2 epost
    obtain ⟨b, eb, epost⟩ := bind2 epost
    refine .inr ⟨hgo, fun H' => i + 1 ≤ ds.length ∧ Same H1 H' ∧ ∃ vs pre' post', H' Dn = some (.lst vs) ∧ RpL X.K (Av (Gd A0 Dn) B) H' vs pre' ∧ pre'.length ≤ i + 1 ∧ lcL g t f (wipeP ρ (own.map (·.2))) (ds.drop (i + 1)) = some post' ∧ pre ++ post = pre' ++ post', fun H' hN => ?_, fun x H' hx => ?_⟩
    · obtain ⟨h1, h2, h3⟩ := hN
      exact ⟨ds.length - (i + 1), by omega, rfl, h1, h2, h3⟩
    · obtain ⟨s2, rx⟩ := hy x H' hx
      refine ⟨H0, Gd A0 Dn, G, wipeP ρ (own.map (·.2)), B, _, ρ1, (Sg.mono s2).wipe _ hO, rx, eρ1, fun σ2 c2 S2 => ?_⟩
      rw [restr_same Sg hts'] at S2
      refine ⟨wipe_eq c2 hts, H0, Gd A0 Dn, G, ρ1, B, b, S2, eb, fun H3 s3 => ?_⟩
      cases b with
      | true =>
        rw [if_pos rfl]
        rw [if_pos rfl] at epost
        obtain ⟨y, ey, epost⟩ := bind2 epost
        obtain ⟨zs, ezs, epost⟩ := bind2 epost
        cases epost
        refine ⟨H0, Gd A0 Dn, G, ρ1, B, y, S2.mono s3, ey, fun v H4 s4 r4 => ?_⟩
        have r4' := r4.toS (S2.mono s3).tr hm
        have s24 := (s2.trans s3).trans s4
        have avD : Av (Gd A0 Dn) B Dn := .inl (.inr rfl)
        have kp : ∀ a o, H4 a = some o → ¬ Av (Gd A0 Dn) B a → upd H4 Dn (.lst (vs ++ [v])) a = some o := fun a o e n => by
          rw [upd_ne (fun z => n (by rw [z]; exact avD))]
          exact e
        refine ⟨vs, s24 _ _ hDc, ?_, by omega, fun a o e => ?_, vs ++ [v], pre ++ [y], zs, upd_same, ?_, by simp; omega, ezs, by simp⟩
        · rw [rpre.length]
          have : (16777216 : Nat) = sizeLine := rfl
          omega
        · have hne : a ≠ Dn := fun z => by rw [z, hD] at e; cases e
          rw [upd_ne hne]
          exact s24 _ _ (sc _ _ e)
        · exact RpL.app (.one (r4'.step kp fun _ z => .inl z)) ((rpre.mono s24).step kp fun _ z => .inl z)
      | false =>
        rw [if_neg Bool.false_ne_true]
        rw [if_neg Bool.false_ne_true] at epost
        have s23 := s2.trans s3
        exact ⟨by omega, sc.trans s23, vs, pre, post, s23 _ _ hDc, rpre.mono s23, by omega, epost, rfl⟩
  · have e : i = ds.length := by omega
    subst e
    refine .inl ⟨yl.stop _ Hc Sg.tr gw, ?_⟩
    rw [List.drop_length] at epost
    cases epost
    rw [List.append_nil] at k
    have hHD : H Dn = none := s1.free hD
    refine k _ Hc (s1.trans sc) (.inl ⟨Dn, rfl, hHD, .lst hDc (rpre.anti fun a z => ?_)⟩)
    rcases z with z | z
    · rcases z with z | z
      · exact .inl (.inl z)
      · exact .inr z
    · exact .inl (.inr z)
abbrev InBlk (X : Cx) (scope : Scope) (P : Cx → Prop) : Prop := ∀ (s : Shared) (H : Hp) (C : Addr) (cl : List (Str × Addr)) (fp : List Addr), P (X.blk s H scope (compEnvC scope cl C X.env) fp)
theorem se_lc (hN : X.N.Nodup) (hi : SI X O st tg iter it) (ok : BlkOk X.N X.env.scope scope own) (hg : InBlk X scope fun Y => SG Y O O ts tg g) (ht : InBlk X scope fun Y => STs Y O ifs t) (he : InBlk X scope fun Y => SE Y O m elt f)
    (hm : m ≠ .w := by decide) (hts : ts.all (fun i => (own.map (·.2)).contains i) = true := by rfl) (hO : (own.map (·.2)).all (fun i => !O.contains i) = true := by rfl) (hc : X.calm = true := by rfl) (hs : ∀ x, foldedSetIterable iter X.env x = pure x := by intro _; rfl) :
    SE X O .f (.ListComp elt [⟨tg, iter, ifs, 0⟩] scope pos) (xLc it g t f (own.map (·.2))) :=
  ⟨pe_imp (pe_lc hc hN hi.pi ok (fun s H C cl fp => (hg s H C cl fp).pg) (fun s H C cl fp => (ht s H C cl fp).pts) (fun s H C cl fp => (he s H C cl fp).pe) hs)
    (lc_of hm (fun i hi => by simpa using List.all_eq_true.mp hts i (by simpa using hi)) (fun i hi => by simpa using List.all_eq_true.mp hO i hi))⟩
end
end Pm

namespace Pm
open PySem PySem.Spec PyProof.Rows L2

/-! ### statements -/
inductive Out where
  | nx (ρ : PEnv) | rt (d : D) | bk (ρ : PEnv) | ct (ρ : PEnv)
abbrev XS := PEnv → Option Out
def PostS (K : PySem.W.Frag) (H0 : Hp) (A0 : Addr → Prop) (G : List (V × D)) (Ob Oc O' : List Nat) (D : Ends) : Out → Prop
  | .nx ρ => ∀ σ H B, Sim K H0 A0 G O' σ H ρ B → D.nx σ H
  | .rt d => ∀ v H, Same H0 H → Rp K A0 H v d → D.rt v H
  | .bk ρ => ∀ σ H B, Sim K H0 A0 G Ob σ H ρ B → D.bk σ H
  | .ct ρ => ∀ σ H B, Sim K H0 A0 G Oc σ H ρ B → D.ct σ H
def simS (K : PySem.W.Frag) (O Ob Oc O' : List Nat) (g : XS) : TS := fun D σ H => ∃ H0 A0 G ρ B o, Sim K H0 A0 G O σ H ρ B ∧ g ρ = some o ∧ PostS K H0 A0 G Ob Oc O' D o
structure SS (X : Cx) (O Ob Oc O' : List Nat) (st : Stmt) (g : XS) : Prop where
  ps : PS X st (simS X.K O Ob Oc O' g)
structure SSs (X : Cx) (O Ob Oc O' : List Nat) (st : List Stmt) (g : XS) : Prop where
  pss : PSs X st (simS X.K O Ob Oc O' g)
def sNop : XS := fun ρ => some (.nx ρ)
def sSeq (g h : XS) : XS := fun ρ => (g ρ).bind fun o => match o with
  | .nx ρ' => h ρ'
  | o => some o
section
variable {X : Cx} {O O1 O2 Ob Oc O' : List Nat} {m ma mb : Md} {st : Stmt} {sts : List Stmt} {g h : XS} {e a b c : Expr} {f fa fb : Xp} {pos pos' : Pos}
theorem sub_of (h : O1.all (fun i => O.contains i) = true) : ∀ i ∈ O1, i ∈ O := fun i hi => by simpa using List.all_eq_true.mp h i hi
theorem SS.weak (s : SS X O1 Ob Oc O' st g) (h : O1.all (fun i => O.contains i) = true := by rfl) : SS X O Ob Oc O' st g := by
  refine ⟨ps_imp s.ps fun D σ H q => ?_⟩
  obtain ⟨H0, A0, G, ρ, B, o, S, e, k⟩ := q
  obtain ⟨B', S'⟩ := S.weak (sub_of h)
  exact ⟨H0, A0, G, ρ, B', o, S', e, k⟩
theorem SSs.weak (s : SSs X O1 Ob Oc O' sts g) (h : O1.all (fun i => O.contains i) = true := by rfl) : SSs X O Ob Oc O' sts g := by
  refine ⟨pss_imp s.pss fun D σ H q => ?_⟩
  obtain ⟨H0, A0, G, ρ, B, o, S, e, k⟩ := q
  obtain ⟨B', S'⟩ := S.weak (sub_of h)
  exact ⟨H0, A0, G, ρ, B', o, S', e, k⟩
/-- an empty block; the own slots may be fewer behind it -/
theorem ss_nil (h : O'.all (fun i => O.contains i) = true := by rfl) : SSs X O Ob Oc O' [] sNop := by
  refine ⟨pss_imp pss_nil fun D σ H q => ?_⟩
  obtain ⟨H0, A0, G, ρ, B, o, S, e, k⟩ := q
  cases e
  obtain ⟨B', S'⟩ := S.weak (sub_of h)
  exact k σ H B' S'
theorem ss_cons (h1 : SS X O Ob Oc O1 st g) (h2 : SSs X O1 Ob Oc O' sts h) : SSs X O Ob Oc O' (st :: sts) (sSeq g h) := by
  refine ⟨pss_imp (pss_cons h1.ps h2.pss) fun D σ H q => ?_⟩
  obtain ⟨H0, A0, G, ρ, B, o, S, e, k⟩ := q
  obtain ⟨o1, e1, e⟩ := bind2 e
  refine ⟨H0, A0, G, ρ, B, o1, S, e1, ?_⟩
  cases o1 with
  | nx ρ1 => exact fun σ1 H1 B1 S1 => ⟨H0, A0, G, ρ1, B1, o, S1, e, k⟩
  | rt d => cases e; exact k
  | bk ρ1 => cases e; exact k
  | ct ρ1 => cases e; exact k
theorem ss_last (h1 : SS X O Ob Oc O' st g) : SSs X O Ob Oc O' [st] g := ⟨pss_one h1.ps⟩
def sBrk : XS := fun ρ => some (.bk ρ)
def sCnt : XS := fun ρ => some (.ct ρ)
theorem ss_pass (h : O'.all (fun i => O.contains i) = true := by rfl) : SS X O Ob Oc O' (.Pass pos) sNop := by
  refine ⟨ps_imp ps_pass fun D σ H q => ?_⟩
  obtain ⟨H0, A0, G, ρ, B, o, S, e, k⟩ := q
  cases e
  obtain ⟨B', S'⟩ := S.weak (sub_of h)
  exact k σ H B' S'
theorem ss_break (h : Ob.all (fun i => O.contains i) = true := by rfl) : SS X O Ob Oc O' (.Break pos) sBrk := by
  refine ⟨ps_imp ps_break fun D σ H q => ?_⟩
  obtain ⟨H0, A0, G, ρ, B, o, S, e, k⟩ := q
  cases e
  obtain ⟨B', S'⟩ := S.weak (sub_of h)
  exact k σ H B' S'
theorem ss_cont (h : Oc.all (fun i => O.contains i) = true := by rfl) : SS X O Ob Oc O' (.Continue pos) sCnt := by
  refine ⟨ps_imp ps_continue fun D σ H q => ?_⟩
  obtain ⟨H0, A0, G, ρ, B, o, S, e, k⟩ := q
  cases e
  obtain ⟨B', S'⟩ := S.weak (sub_of h)
  exact k σ H B' S'
def sRet (f : Xp) : XS := fun ρ => (f ρ).map .rt
theorem ss_ret (he : SE X O m e f) (hm : m ≠ .w := by decide) : SS X O Ob Oc O' (.Return (some e) pos) (sRet f) := by
  refine ⟨ps_imp (ps_ret he.pe) fun D σ H q => ?_⟩
  obtain ⟨H0, A0, G, ρ, B, o, S, e, k⟩ := q
  obtain ⟨d, ed, e⟩ := Option.map_eq_some_iff.mp e
  subst e
  exact ⟨H0, A0, G, ρ, B, d, S, ed, fun v H' s r => k v H' (S.same.trans s) ((r.toS S.tr hm).anti fun a z => .inl z)⟩
theorem ss_retN : SS X O Ob Oc O' (.Return none pos) (sRet (xC .none)) := by
  refine ⟨ps_imp ps_retN fun D σ H q => ?_⟩
  obtain ⟨H0, A0, G, ρ, B, o, S, e, k⟩ := q
  cases e
  exact k .non H S.same .non
def sIf (c : PEnv → Option Bool) (g h : XS) : XS := fun ρ => (c ρ).bind fun b => if b then g ρ else h ρ
theorem ss_if {c : Expr} {tc : PEnv → Option Bool} {p q : List Stmt} (hc : ST X O c tc) (hp : SSs X O Ob Oc O' p g) (hq : SSs X O Ob Oc O' q h) : SS X O Ob Oc O' (.If c p q pos) (sIf tc g h) := by
  refine ⟨ps_imp (ps_if hc.pt hp.pss hq.pss) fun D σ H q => ?_⟩
  obtain ⟨H0, A0, G, ρ, B, o, S, e, k⟩ := q
  obtain ⟨b, eb, e⟩ := bind2 e
  refine ⟨H0, A0, G, ρ, B, b, S, eb, fun H1 s1 => ?_⟩
  cases b with
  | true => exact ⟨H0, A0, G, ρ, B, o, S.mono s1, e, k⟩
  | false => exact ⟨H0, A0, G, ρ, B, o, S.mono s1, e, k⟩

/-! ### a name takes a value -/
def sSet (i : Nat) (f : Xp) : XS := fun ρ => (f ρ).bind fun d => if i < ρ.length then some (.nx (ρ.set i (some d))) else none
theorem Sim.grow {K : PySem.W.Frag} {H0 H : Hp} {A0 : Addr → Prop} {G : List (V × D)} {σ : L2.St} {ρ : PEnv} {B : Nat → Option Addr} {i : Nat} (S : Sim K H0 A0 G (O.filter (· != i)) σ H ρ B) (h : ∀ d, ρ[i]? = some (some d) → isMut d = false) : Sim K H0 A0 G (i :: O) σ H ρ B := by
  refine ⟨S.same, S.a0, S.len, fun j a e => List.mem_cons_of_mem _ (List.mem_filter.mp (S.bo j a e)).1, S.inj, S.fr, fun j d hj e m => ?_, S.slot, S.gs⟩
  by_cases hji : j = i
  · subst hji
    rw [h d e] at m
    cases m
  · rcases List.mem_cons.mp hj with hj | hj
    · exact absurd hj hji
    · exact S.ob j d (List.mem_filter.mpr ⟨hj, by simpa using hji⟩) e m
theorem setf_of {D : Ends} {i : Nat} (σ : L2.St) (H : Hp) (q : simS X.K O Ob Oc (i :: O) (sSet i f) D σ H) : tAsg (simT X.K O .f f) (gName i) D σ H := by
  obtain ⟨H0, A0, G, ρ, B, o, S, e, k⟩ := q
  obtain ⟨d, ed, e⟩ := bind2 e
  split at e
  · rename_i hl
    cases e
    refine ⟨H0, A0, G, ρ, B, d, S, ed, fun v H1 s1 r1 => ?_⟩
    rcases r1 with ⟨a, rfl, hn, r1⟩ | ⟨r1, nm⟩
    · obtain ⟨B', S'⟩ := S.setF s1 hn r1 hl
      exact k _ H1 B' S'
    · have S' := (S.mono s1).setS r1 hl
      refine k _ H1 _ (S'.grow fun d' e' => ?_)
      rw [List.getElem?_set_self hl] at e'
      cases e'
      exact nm
  · cases e
theorem ss_setF (i : Nat) {x : Str} {O' : List Nat} (hN : X.N.Nodup) (he : SE X O .f e f) (hi : X.N[i]? = some x := by rfl) (hx : Loc X.env.scope x := by first | exact Or.inl rfl | exact Or.inr rfl) (hs : swapsWith e (some (.Name x pos')) pos.line X.env = pure false := by rfl) (hf : X.fn x = true ∨ X.env.scope.names.lookup x = some .local := by first | exact .inl rfl | exact .inr rfl)
    (hO : i :: O = O' := by rfl) : SS X O Ob Oc O' (.Assign [.Name x pos'] e pos) (sSet i f) := by
  subst hO
  exact ⟨ps_imp (ps_set hN hi hx he.pe hs hf) fun D σ H q => setf_of σ H q⟩
theorem ss_setS (i : Nat) {x : Str} (hN : X.N.Nodup) (he : SE X O m e f) (hm : m ≠ .w := by decide) (hi : X.N[i]? = some x := by rfl) (hx : Loc X.env.scope x := by first | exact Or.inl rfl | exact Or.inr rfl) (hs : swapsWith e (some (.Name x pos')) pos.line X.env = pure false := by rfl) (hf : X.fn x = true ∨ X.env.scope.names.lookup x = some .local := by first | exact .inl rfl | exact .inr rfl)
    (hO : O.filter (· != i) = O' := by rfl) : SS X O Ob Oc O' (.Assign [.Name x pos'] e pos) (sSet i f) := by
  refine ⟨ps_imp (ps_set hN hi hx he.pe hs hf) fun D σ H q => ?_⟩
  obtain ⟨H0, A0, G, ρ, B, o, S, e, k⟩ := q
  obtain ⟨d, ed, e⟩ := bind2 e
  split at e
  · rename_i hl
    cases e
    refine ⟨H0, A0, G, ρ, B, d, S, ed, fun v H1 s1 r1 => ?_⟩
    have S' := (S.mono s1).setS ((r1.toS S.tr hm)) hl
    rw [hO] at S'
    exact k _ H1 _ S'
  · cases e
/-- x = [..] -/
theorem ss_setLc (i : Nat) {y : Str} {py : Pos} {ts : List Nat} {sf : Bool} {tg iter elt : Expr} {ifs : List Expr} {scope : Scope} {own : List (Str × Nat)} {it : XL} {gg : D → PEnv → Option PEnv} {t : PEnv → Option Bool} {spos : Pos} {O' : List Nat}
    (hN : X.N.Nodup) (hi : SI X O sf tg iter it) (ok : BlkOk X.N X.env.scope scope own) (hg : InBlk X scope fun Y => SG Y O O ts tg gg) (ht : InBlk X scope fun Y => STs Y O ifs t) (he : InBlk X scope fun Y => SE Y O m elt f)
    (hm : m ≠ .w := by decide) (hy : X.N[i]? = some y := by rfl) (hyl : X.env.scope.names.lookup y = some .local := by rfl) (hsw : swapsWith (.ListComp elt [⟨tg, iter, ifs, 0⟩] scope pos) (some (.Name y py)) spos.line X.env = pure true := by exact sw_true rfl rfl rfl (by decide +kernel))
    (hts : ts.all (fun i => (own.map (·.2)).contains i) = true := by rfl) (hO : (own.map (·.2)).all (fun i => !O.contains i) = true := by rfl) (hc : X.calm = true := by rfl) (hs : ∀ x, foldedSetIterable iter X.env x = pure x := by intro _; rfl) (hO' : i :: O = O' := by rfl) :
    SS X O Ob Oc O' (.Assign [.Name y py] (.ListComp elt [⟨tg, iter, ifs, 0⟩] scope pos) spos) (sSet i (xLc it gg t f (own.map (·.2)))) := by
  subst hO'
  refine ⟨ps_imp (ps_setLc (wi := simI X.K O sf it) (g := simG X.K O O ts gg) (tt := simTT X.K O t) (te := simT X.K O m f) hc hN hy hyl hsw hi.pi ok (fun s H C cl fp => (hg s H C cl fp).pg) (fun s H C cl fp => (ht s H C cl fp).pts) (fun s H C cl fp => (he s H C cl fp).pe) hs) fun D σ H q => ?_⟩
  exact lc_of hm (fun i hi => by simpa using List.all_eq_true.mp hts i (by simpa using hi)) (fun i hi => by simpa using List.all_eq_true.mp hO i hi) σ H _ (setf_of σ H q)
/-- a, b = e -/
def sTgt (g : D → PEnv → Option PEnv) (f : Xp) : XS := fun ρ => (f ρ).bind fun d => (g d ρ).map .nx
theorem ss_tgt {tg : Expr} {ts : List Nat} {gg : D → PEnv → Option PEnv} (he : SE X O m e f) (hg : SG X O O' ts tg gg) (hm : m ≠ .w := by decide) (hs : swapsWithSole [tg] e pos.line X.env = pure false := by rfl) (hw : swappedStores [tg] e X.env = pure none := by rfl)
    (h1 : (assignEach [tg] X.env).map (·.2) = [assign tg X.env] := by rfl) : SS X O Ob Oc O' (.Assign [tg] e pos) (sTgt gg f) := by
  refine ⟨ps_imp (ps_asg he.pe hg.pg hs hw h1) fun D σ H q => ?_⟩
  obtain ⟨H0, A0, G, ρ, B, o, S, e, k⟩ := q
  obtain ⟨d, ed, e⟩ := bind2 e
  obtain ⟨ρ', eρ, e⟩ := Option.map_eq_some_iff.mp e
  subst e
  refine ⟨H0, A0, G, ρ, B, d, S, ed, fun v H1 s1 r1 => ?_⟩
  exact ⟨H0, A0, G, ρ, B, d, ρ', S.mono s1, (r1.toS S.tr hm), eρ, fun σ' _ S' => k σ' H1 _ S'⟩
/-- x op= e -/
def sAug (i : Nat) (g : D → D → Option D) (f : Xp) : XS := fun ρ => (xVar i ρ).bind fun x => (f ρ).bind fun y => (g x y).bind fun z => if i < ρ.length then some (.nx (ρ.set i (some z))) else none
theorem ss_aug (i : Nat) {x : Str} {op : Operator} {g : D → D → Option D} (hN : X.N.Nodup) (ho : OpR X (inplaceOp op) (rD X.K .f g)) (he : SE X O m e f) (hni : O.contains i = false := by rfl) (hi : X.N[i]? = some x := by rfl) (hx : Loc X.env.scope x := by first | exact Or.inl rfl | exact Or.inr rfl) (hf : X.fn x = true ∨ X.env.scope.names.lookup x = some .local := by first | exact .inl rfl | exact .inr rfl) :
    SS X O Ob Oc (O.filter (· != i)) (.AugAssign (.Name x pos') op e pos) (sAug i g f) := by
  refine ⟨ps_imp (ps_aug hN hi hx he.pe (ti := rD X.K .f g) ho hf) fun D σ H q => ?_⟩
  obtain ⟨H0, A0, G, ρ, B, o, S, e, k⟩ := q
  obtain ⟨d, ed, e⟩ := bind2 e
  obtain ⟨y, ey, e⟩ := bind2 e
  obtain ⟨z, ez, e⟩ := bind2 e
  split at e
  · rename_i hl
    cases e
    rcases S.slot i d (getD_some ed) with ⟨a, h1, _, _⟩ | ⟨_, v, h2, h3⟩
    · have := S.bo i a h1
      simp at hni
      exact absurd this hni
    refine ⟨v, h2, H0, A0, G, ρ, B, y, S, ey, fun u H1 s1 r1 => ⟨Av A0 B, d, y, z, (S.mono s1).tr, .inl (h3.mono s1), r1.toW, ez, fun w H2 s2 r2 => ?_⟩⟩
    have S2 := S.mono (s1.trans s2)
    exact k _ H2 _ (S2.setS (r2.toS (S.mono s1).tr (by decide)) hl)
  · cases e

/-! ### an own list changes -/
def sApp (i : Nat) (f : Xp) : XS := fun ρ => (xVar i ρ).bind fun x => (f ρ).bind fun y => match x with
  | .list xs => if xs.length < 16777216 ∧ i < ρ.length then some (.nx (ρ.set i (some (.list (xs ++ [y]))))) else none
  | _ => none
theorem own_of {K : PySem.W.Frag} {H0 H : Hp} {A0 : Addr → Prop} {G : List (V × D)} {σ : L2.St} {ρ : PEnv} {B : Nat → Option Addr} {i : Nat} {xs : List D} (S : Sim K H0 A0 G O σ H ρ B) (hi : O.contains i = true) (e : xVar i ρ = some (.list xs)) : ∃ a vs, B i = some a ∧ σ[i]? = some (some (.ref a)) ∧ H a = some (.lst vs) ∧ RpL K (Av A0 B) H vs xs := by
  obtain ⟨a, h1, h2, h3⟩ := S.ob i _ (by simpa using hi) (getD_some e) rfl
  cases h3 with
  | lst h r => exact ⟨a, _, h1, h2, h, r⟩
theorem upd_lst {K : PySem.W.Frag} {H : Hp} {A : Addr → Prop} {a : Addr} {vs : List V} {ds : List D} (ha : A a) (r : RpL K A H vs ds) : Tp K A (upd H a (.lst vs)) a (.list ds) := by
  refine .lst upd_same (r.step (fun b o e n => ?_) fun _ z => .inl z)
  rw [upd_ne (fun z => n (by rw [z]; exact ha))]
  exact e
theorem ss_app (i : Nat) {x : Str} {apos p1 cpos : Pos} (he : SE X O m e f) (hm : m ≠ .w := by decide) (hO : O.contains i = true := by rfl) (hN : X.N[i]? = some x := by rfl) (hv : Vis X.env.scope x := by first | exact Or.inl rfl | exact Or.inr (Or.inl rfl) | exact Or.inr (Or.inr rfl))
    (hd : (x == ("__debug__" : Str)) = false := by decide) (hcd : (x == ("__classdict__" : Str)) = false := by decide) (hbase : attributeBase (.Name x p1) "append" X.env (eval (.Name x p1) X.env) = eval (.Name x p1) X.env := by rfl)
    (hfew : ((backTo cpos (starEach (e :: []) X.env)).all (fun x => !x.1) && (backToKw cpos (keywordEach [] X.env)).all (fun x => x.1.isSome) && decide ((e :: ([] : List Expr)).length + ([] : List Keyword).length + (if ([] : List Keyword).isEmpty then 0 else 1) < 30)) = true := by rfl)
    (hline : (apos.endLine == cpos.line) = true := by rfl) (hs : starEach (e :: []) X.env = (false, eval e X.env) :: starEach [] X.env := by rfl) (hplain : (backTo cpos (starEach [] X.env)).any (·.1) = false := by rfl)
    (hsw : swapsWith (.Call (.Attribute (.Name x p1) "append" apos) [e] [] cpos) none pos.line X.env = pure false := by rfl) : SS X O Ob Oc O (.Expr (.Call (.Attribute (.Name x p1) "append" apos) [e] [] cpos) pos) (sApp i f) := by
  refine ⟨ps_imp (ps_expr (pe_bm PySem.F.plainAttrs_list PySem.F.slot_list_append PySem.F.type_list_append mt_append (pe_var hN hv hd hcd) (pa_cons he.pe pa_nil hs) hbase hfew hline hs hplain) hsw) fun D σ H q => ?_⟩
  obtain ⟨H0, A0, G, ρ, B, o, S, e, k⟩ := q
  obtain ⟨d, ed, e⟩ := bind2 e
  obtain ⟨y, ey, e⟩ := bind2 e
  split at e
  · split at e
    · rename_i hz
      cases e
      obtain ⟨a, vs, hB, hσ, ha, ra⟩ := own_of S hO ed
      refine ⟨.ref a, hσ, .inl ⟨rfl, _, .of ha⟩, H0, A0, G, ρ, B, y, S, ey, fun v H1 s1 r1 => ?_⟩
      have S1 := S.mono s1
      refine ⟨a, vs, v, rfl, rfl, s1 _ _ ha, by rw [ra.length]; exact hz.1, ?_⟩
      have av : Av A0 B a := .inr ⟨i, hB⟩
      exact k _ _ B (S1.write hB hσ (upd_lst av (RpL.app (.one (r1.toS S.tr hm)) (ra.mono s1))) hz.2)
    · cases e
  · cases e
def sExt (i : Nat) (f : Xp) : XS := fun ρ => (xVar i ρ).bind fun x => (f ρ).bind fun y => match x, y with
  | .list xs, .list ys => if xs.length + ys.length ≤ 16777216 ∧ i < ρ.length then some (.nx (ρ.set i (some (.list (xs ++ ys))))) else none
  | _, _ => none
theorem ss_ext (i : Nat) {x : Str} {apos p1 cpos : Pos} (he : SE X O m e f) (hO : O.contains i = true := by rfl) (hN : X.N[i]? = some x := by rfl) (hv : Vis X.env.scope x := by first | exact Or.inl rfl | exact Or.inr (Or.inl rfl) | exact Or.inr (Or.inr rfl))
    (hd : (x == ("__debug__" : Str)) = false := by decide) (hcd : (x == ("__classdict__" : Str)) = false := by decide) (hbase : attributeBase (.Name x p1) "extend" X.env (eval (.Name x p1) X.env) = eval (.Name x p1) X.env := by rfl)
    (hfew : ((backTo cpos (starEach (e :: []) X.env)).all (fun x => !x.1) && (backToKw cpos (keywordEach [] X.env)).all (fun x => x.1.isSome) && decide ((e :: ([] : List Expr)).length + ([] : List Keyword).length + (if ([] : List Keyword).isEmpty then 0 else 1) < 30)) = true := by rfl)
    (hline : (apos.endLine == cpos.line) = true := by rfl) (hs : starEach (e :: []) X.env = (false, eval e X.env) :: starEach [] X.env := by rfl) (hplain : (backTo cpos (starEach [] X.env)).any (·.1) = false := by rfl)
    (hsw : swapsWith (.Call (.Attribute (.Name x p1) "extend" apos) [e] [] cpos) none pos.line X.env = pure false := by rfl) : SS X O Ob Oc O (.Expr (.Call (.Attribute (.Name x p1) "extend" apos) [e] [] cpos) pos) (sExt i f) := by
  refine ⟨ps_imp (ps_expr (pe_bm PySem.F.plainAttrs_list PySem.F.slot_list_extend PySem.F.type_list_extend mt_extend (pe_var hN hv hd hcd) (pa_cons he.pe pa_nil hs) hbase hfew hline hs hplain) hsw) fun D σ H q => ?_⟩
  obtain ⟨H0, A0, G, ρ, B, o, S, e, k⟩ := q
  obtain ⟨d, ed, e⟩ := bind2 e
  obtain ⟨y, ey, e⟩ := bind2 e
  split at e
  · split at e
    · rename_i hz
      cases e
      obtain ⟨a, vs, hB, hσ, ha, ra⟩ := own_of S hO ed
      refine ⟨.ref a, hσ, .inl ⟨rfl, _, .of ha⟩, H0, A0, G, ρ, B, _, S, ey, fun v H1 s1 r1 => ?_⟩
      have S1 := S.mono s1
      obtain ⟨b, zs, rfl, hb, rb⟩ := r1.toW.lst
      refine ⟨a, b, vs, zs, rfl, rfl, s1 _ _ ha, hb, by rw [ra.length, rb.length]; exact hz.1, ?_⟩
      have av : Av A0 B a := .inr ⟨i, hB⟩
      exact k _ _ B (S1.write hB hσ (upd_lst av (RpL.app rb (ra.mono s1))) hz.2)
    · cases e
  · cases e
/-- x[j] = e -/
def sPut (i : Nat) (fj f : Xp) : XS := fun ρ => (f ρ).bind fun y => (xVar i ρ).bind fun x => (fj ρ).bind fun j => match x, j with
  | .list xs, .int j => (ixN xs.length j).bind fun n => if i < ρ.length then some (.nx (ρ.set i (some (.list (xs.set n y))))) else none
  | _, _ => none
theorem ss_put (i : Nat) {x : Str} {p1 p2 : Pos} {j : Expr} {fj : Xp} (he : SE X O m e f) (hj : SE X O mb j fj) (hm : m ≠ .w := by decide) (hO : O.contains i = true := by rfl) (hN : X.N[i]? = some x := by rfl) (hv : Vis X.env.scope x := by first | exact Or.inl rfl | exact Or.inr (Or.inl rfl) | exact Or.inr (Or.inr rfl))
    (hd : (x == ("__debug__" : Str)) = false := by decide) (hcd : (x == ("__classdict__" : Str)) = false := by decide)
    (ha : ∀ v, assign (.Subscript (.Name x p1) j p2) X.env v = (do
      let ov ← holding [v] (eval (.Name x p1) X.env)
      let iv ← holding [v, ov] (eval j X.env)
      standAt p2
      holding [v, ov, iv] (setItem ov iv v)
      release [v, ov, iv] []) := by intro _; rfl)
    (hs : swapsWithSole [.Subscript (.Name x p1) j p2] e pos.line X.env = pure false := by rfl) (hw : swappedStores [.Subscript (.Name x p1) j p2] e X.env = pure none := by rfl)
    (h1 : (assignEach [.Subscript (.Name x p1) j p2] X.env).map (·.2) = [assign (.Subscript (.Name x p1) j p2) X.env] := by rfl) : SS X O Ob Oc O (.Assign [.Subscript (.Name x p1) j p2] e pos) (sPut i fj f) := by
  refine ⟨ps_imp (ps_asg he.pe (pg_sub (pe_var hN hv hd hcd) hj.pe set_list ha) hs hw h1) fun D σ H q => ?_⟩
  obtain ⟨H0, A0, G, ρ, B, o, S, e, k⟩ := q
  obtain ⟨y, ey, e⟩ := bind2 e
  obtain ⟨d, ed, e⟩ := bind2 e
  obtain ⟨z, ez, e⟩ := bind2 e
  split at e
  · obtain ⟨n, en, e⟩ := bind2 e
    split at e
    · rename_i hz
      cases e
      obtain ⟨a, vs, hB, hσ, ha, ra⟩ := own_of S hO ed
      refine ⟨H0, A0, G, ρ, B, y, S, ey, fun v H1 s1 r1 => ⟨.ref a, hσ, H0, A0, G, ρ, B, _, S.mono s1, ez, fun u H2 s2 r2 => ?_⟩⟩
      have s12 := s1.trans s2
      have S1 := S.mono s12
      refine ⟨a, vs, _, n, rfl, r2.toW.int, s12 _ _ ha, by rw [ra.length]; exact en, ?_⟩
      have av : Av A0 B a := .inr ⟨i, hB⟩
      exact k _ _ B (S1.write hB hσ (upd_lst av (RpL.set ((r1.toS S.tr hm).mono s2) n (ra.mono s12))) hz)
    · cases e
  · cases e

/-! ### loops -/
def forL (g : D → PEnv → Option PEnv) (b : XS) : List D → XS
  | [], ρ => some (.nx ρ)
  | d :: ds, ρ => (g d ρ).bind fun ρ1 => (b ρ1).bind fun o => match o with
    | .nx ρ2 => forL g b ds ρ2
    | .ct ρ2 => forL g b ds ρ2
    | .bk ρ2 => some (.nx ρ2)
    | .rt d => some (.rt d)
def sFor (it : XL) (g : D → PEnv → Option PEnv) (b : XS) : XS := fun ρ => (it ρ).bind fun ds => forL g b ds ρ
theorem ss_for {tg iter : Expr} {body : List Stmt} {ts : List Nat} {it : XL} {gg : D → PEnv → Option PEnv} (hi : SI X O true tg iter it) (hg : SG X O O1 ts tg gg) (hb : SSs X O1 O' O O body g)
    (hsub : O'.all (fun i => O.contains i) = true := by rfl) (hp : PassesOwn (model X.prog X.w) X.A X.env X.xe := by exact PassesOwn.never) (hc : X.calm = true := by rfl) (hs : ∀ x, foldedSetIterable iter X.env x = pure x := by intro _; rfl) : SS X O Ob Oc O' (.For tg iter body [] pos) (sFor it gg g) := by
  refine ⟨ps_imp (ps_for hp hc hi.pi hg.pg hb.pss hs) fun D σ H q => ?_⟩
  obtain ⟨H0, A0, G, ρ, B, o, S, e, k⟩ := q
  obtain ⟨ds, eds, e⟩ := bind2 e
  refine ⟨H0, A0, G, ρ, B, ds, S, eds, fun J H1 gs s1 yl gr hz => ?_⟩
  have Sg := (S.mono s1).ghost (G' := gs) fun p hp => gr p hp
  refine ⟨fun i n σi Hi => n = ds.length - i ∧ i ≤ ds.length ∧ ∃ ρi Bi, Sim X.K H0 A0 (gs ++ G) O σi Hi ρi Bi ∧ forL gg g (ds.drop i) ρi = some o, ⟨ds.length, rfl, Nat.zero_le _, ρ, B, Sg, e⟩, ?_⟩
  rintro i n σi Hi ⟨rfl, hi, ρi, Bi, Si, ei⟩
  have gw : ∀ p ∈ gs, WRp X.K (Av A0 Bi) Hi p.1 p.2 := fun p hp => .inl (Si.gs p (List.mem_append_left _ hp))
  by_cases hlt : i < ds.length
  · have ed : ds[i]? = some ds[i] := List.getElem?_eq_getElem hlt
    rw [List.drop_eq_getElem_cons hlt] at ei
    simp only [forL] at ei
    obtain ⟨ρ1, eρ1, ei⟩ := bind2 ei
    obtain ⟨o1, eo1, ei⟩ := bind2 ei
    obtain ⟨hgo, hy⟩ := yl.go _ Hi i _ Si.tr gw ed
    refine .inr ⟨hgo, fun σ' H' => i + 1 ≤ ds.length ∧ ∃ ρ' B', Sim X.K H0 A0 (gs ++ G) O σ' H' ρ' B' ∧ forL gg g (ds.drop (i + 1)) ρ' = some o, fun σ' H' hN => ⟨ds.length - (i + 1), by omega, rfl, hN.1, hN.2⟩, fun x H' hx => ?_⟩
    obtain ⟨s2, rx⟩ := hy x H' hx
    refine ⟨H0, A0, gs ++ G, ρi, Bi, _, ρ1, Si.mono s2, rx, eρ1, fun σ2 _ S2 => ⟨H0, A0, gs ++ G, ρ1, _, o1, S2, eo1, ?_⟩⟩
    cases o1 with
    | nx ρ2 => exact fun σ3 H3 B3 S3 => ⟨by omega, ρ2, B3, S3, ei⟩
    | ct ρ2 => exact fun σ3 H3 B3 S3 => ⟨by omega, ρ2, B3, S3, ei⟩
    | bk ρ2 => cases ei; exact fun σ3 H3 B3 S3 => k σ3 H3 B3 S3.unghost
    | rt d => cases ei; exact k
  · have e' : i = ds.length := by omega
    subst e'
    rw [List.drop_length] at ei
    cases ei
    obtain ⟨B', S'⟩ := Si.unghost.weak (sub_of hsub)
    exact .inl ⟨yl.stop _ Hi Si.tr gw, k σi Hi B' S'⟩
def whileF (c : PEnv → Option Bool) (b : XS) : Nat → XS
  | 0, _ => none
  | n + 1, ρ => (c ρ).bind fun t => if t then (b ρ).bind fun o => match o with
      | .nx ρ2 => whileF c b n ρ2
      | .ct ρ2 => whileF c b n ρ2
      | .bk ρ2 => some (.nx ρ2)
      | .rt d => some (.rt d)
    else some (.nx ρ)
/-- at most so many turns -/
def fuelN : Nat := 2 ^ 2000
def sWhile (c : PEnv → Option Bool) (b : XS) : XS := whileF c b fuelN
theorem ss_while {c : Expr} {body : List Stmt} {tc : PEnv → Option Bool} (hc : ST X O c tc) (hb : SSs X O O' O O body g) (hsub : O'.all (fun i => O.contains i) = true := by rfl) (hp : PassesOwn (model X.prog X.w) X.A X.env X.xe := by exact PassesOwn.never) : SS X O Ob Oc O' (.While c body [] pos) (sWhile tc g) := by
  refine ⟨ps_imp (ps_while hp hc.pt hb.pss) fun D σ H q => ?_⟩
  obtain ⟨H0, A0, G, ρ, B, o, S, e, k⟩ := q
  refine ⟨fun n σi Hi => ∃ ρi Bi, Sim X.K H0 A0 G O σi Hi ρi Bi ∧ whileF tc g n ρi = some o, ⟨fuelN, ρ, B, S, e⟩, ?_⟩
  rintro n σi Hi ⟨ρi, Bi, Si, ei⟩
  cases n with
  | zero => cases ei
  | succ n =>
    simp only [whileF] at ei
    obtain ⟨t, et, ei⟩ := bind2 ei
    refine ⟨H0, A0, G, ρi, Bi, t, Si, et, fun H1 s1 => ?_⟩
    cases t with
    | true =>
      rw [if_pos rfl] at ei ⊢
      obtain ⟨o1, eo1, ei⟩ := bind2 ei
      refine ⟨fun σ' H' => ∃ ρ' B', Sim X.K H0 A0 G O σ' H' ρ' B' ∧ whileF tc g n ρ' = some o, fun σ' H' hN => ⟨n, Nat.lt_succ_self _, hN⟩, H0, A0, G, ρi, Bi, o1, Si.mono s1, eo1, ?_⟩
      cases o1 with
      | nx ρ2 => exact fun σ3 H3 B3 S3 => ⟨ρ2, B3, S3, ei⟩
      | ct ρ2 => exact fun σ3 H3 B3 S3 => ⟨ρ2, B3, S3, ei⟩
      | bk ρ2 => cases ei; exact k
      | rt d => cases ei; exact k
    | false =>
      rw [if_neg Bool.false_ne_true] at ei ⊢
      cases ei
      obtain ⟨B', S'⟩ := (Si.mono s1).weak (sub_of hsub)
      exact k σi H1 B' S'
end

/-! ### a def's body -/
def runD (n N : Nat) (g : XS) : List D → Option D := fun ds => (g (ds.map some ++ List.replicate (N - n) none)).bind fun o => match o with
  | .nx _ => some .none
  | .rt d => some d
  | _ => none
theorem sim_start {K : PySem.W.Frag} {A : Addr → Prop} {H : Hp} {vs : List V} {ds : List D} {N : List Str} {n : Nat} (t : Tr A H) (r : RpL K A H vs ds) (hn : vs.length = n) : Sim K H A [] [] (start N vs) H (ds.map some ++ List.replicate (N.length - n) none) (fun _ => none) := by
  refine ⟨Same.refl H, t, ?_, fun i a e => (nomatch e), fun i j a e => (nomatch e), fun i a e => (nomatch e), fun i d hi => (nomatch hi), fun i d e => ?_, fun p hp => (nomatch hp)⟩
  · unfold L2.start
    simp [r.length, hn.symm]
  · refine .inr ⟨rfl, ?_⟩
    by_cases hi : i < ds.length
    · rw [List.getElem?_append_left (by simpa using hi), List.getElem?_map] at e
      rw [List.getElem?_eq_getElem hi] at e
      cases e
      obtain ⟨v, ev, rv⟩ := r.get (List.getElem?_eq_getElem hi)
      refine ⟨v, ?_, rv.anti fun a z => ?_⟩
      · unfold L2.start
        rw [List.getElem?_append_left (by rw [List.length_map, r.length]; exact hi), List.getElem?_map, ev]
        rfl
      · rcases z with z | ⟨j, z⟩
        · exact z
        · cases z
    · rw [List.getElem?_append_right (by simpa using hi), List.getElem?_replicate] at e
      split at e <;> cases e
theorem fn_ok {P : Program} {w : World} {K : PySem.W.Frag} {mg : Str → Option Value} {base : Heap} {x qual : Str} {st : Stmt} {f : Addr} {fd : FuncData} {N ps : List Str} {k : Nat} {O' : List Nat} {g : XS} (F : Fun K x qual st f fd) (S : FnScope N ps (defScope st))
    (hb : ∀ (cdv : Value) (A : Around) (outer : List Env) (s : Shared) (H : Hp) (E : XK), Room k (A.deeper (envOfC qual (defScope st) s.heap.objs.size f cdv)) → SSs (cxOf CX0 P w K mg base N qual (defScope st) f cdv A outer s H E).nox [] [] [] O' (defBody st) g) :
    FnOk P w K mg base CX0 (k + 1) f fd ps (spD K ps.length (runD ps.length N.length g)) := by
  refine F.ok S (fun vs H Q E h => ?_) (fun cdv A outer s H vs Q E hr h => ?_)
  · obtain ⟨A, ds, d, t, hn, _⟩ := h
    exact hn
  · obtain ⟨A', ds, d, t, hn, r, e, q⟩ := h
    obtain ⟨o, eo, e⟩ := bind2 e
    refine ⟨_, (hb cdv A outer s H E hr).pss, H, A', [], _, fun _ => none, o, sim_start t r hn, eo, ?_⟩
    cases o with
    | nx ρ => cases e; exact fun σ' H' B' S' => q .non H' S'.same .non
    | rt d' => cases e; exact fun v H' s' r' => q v H' s' r'
    | bk ρ => cases e
    | ct ρ => cases e
theorem def_ok {P : Program} {w : World} {K : PySem.W.Frag} {mg : Str → Option Value} {base : Heap} {x : Str} {f : Addr} {fd : FuncData} {ps : List Str} {k : Nat} {F : List D → Option D} (h : FnOk P w K mg base CX0 k f fd ps (spD K ps.length F)) (hm : mg x = some (.ref f)) (kp : PySem.W.keepIn K (.ref f) = true) (hb : Binds K fd ps []) : Def P w K mg base k x ps F := ⟨⟨f, fd, h, hm, kp, hb⟩⟩
end Pm

namespace Pm
open PySem PySem.Spec PyProof.Rows L2

/-! ### several names at once -/
def oAdd' : D → D → Option D
  | .int a, .int b => some (.int (a + b))
  | _, _ => none
section
variable {K : PySem.W.Frag} {A0 A : Addr → Prop} {H0 H H' : Hp} {G : List (V × D)} {O : List Nat} {σ : L2.St} {ρ : PEnv} {B : Nat → Option Addr} {v : V} {d : D}
/-- a guarded cell becomes a slot's own -/
theorem Sim.adopt (S : Sim K H0 (Gd A0 a) G O σ H ρ B) {i : Nat} (na : ¬ A0 a) (h0 : H0 a = none) (r : Tp K (Av (Gd A0 a) B) H a d) (hi : i < ρ.length) :
    Sim K H0 A0 G (i :: O) (σ.set i (some (.ref a))) H (ρ.set i (some d)) (fun j => if j = i then some a else B j) := by
  have hiσ : i < σ.length := by rw [← S.len]; exact hi
  have nb : ∀ j, B j ≠ some a := fun j z => (S.fr j a z).2.1 (.inr rfl)
  have sub : ∀ j b, (if j = i then some a else B j) = some b → (j = i ∧ b = a) ∨ (j ≠ i ∧ B j = some b) := fun j b e => by
    by_cases hj : j = i
    · simp [hj] at e; exact .inl ⟨hj, e.symm⟩
    · exact .inr ⟨hj, by simpa [hj] using e⟩
  have an : ∀ b, Av A0 (fun j => if j = i then some a else B j) b → Av (Gd A0 a) B b := fun b z => by
    rcases z with z | ⟨j, z⟩
    · exact .inl (.inl z)
    · rcases sub j b z with ⟨_, q⟩ | ⟨_, q⟩
      · exact .inl (.inr q)
      · exact .inr ⟨j, q⟩
  have ans : ∀ b, Av A0 (fun j => if j = i then some a else B j) b → Av (Gd A0 a) B b ∨ H b = none := fun b z => .inl (an b z)
  refine ⟨S.same, fun b z => S.a0 b (.inl z), by simp [S.len], fun j b e => ?_, fun j k b e e' => ?_, fun j b e => ?_, fun j d' hj e m => ?_, fun j d' e => ?_, fun p hp => (S.gs p hp).anti an⟩
  · rcases sub j b e with ⟨q, _⟩ | ⟨_, q⟩
    · rw [q]; exact List.mem_cons_self
    · exact List.mem_cons_of_mem _ (S.bo j b q)
  · rcases sub j b e with ⟨q, q'⟩ | ⟨q, q'⟩
    · rcases sub k b e' with ⟨p, p'⟩ | ⟨p, p'⟩
      · rw [q, p]
      · rw [q'] at p'; exact absurd p' (nb k)
    · rcases sub k b e' with ⟨p, p'⟩ | ⟨p, p'⟩
      · rw [p'] at q'; exact absurd q' (nb j)
      · exact S.inj j k b q' p'
  · rcases sub j b e with ⟨q, q'⟩ | ⟨q, q'⟩
    · rw [q']
      exact ⟨h0, na, r.some⟩
    · obtain ⟨h1, h2, h3⟩ := S.fr j b q'
      exact ⟨h1, fun z => h2 (.inl z), h3⟩
  · by_cases hne : j = i
    · subst hne
      rw [List.getElem?_set_self hi] at e
      cases e
      exact ⟨a, by simp, by rw [List.getElem?_set_self hiσ], r.step (fun _ _ q _ => q) ans fun _ q => q⟩
    · rw [List.getElem?_set_ne (Ne.symm hne)] at e
      rw [List.getElem?_set_ne (Ne.symm hne)]
      rcases List.mem_cons.mp hj with hj | hj
      · exact absurd hj hne
      obtain ⟨b, h1, h2, h3⟩ := S.ob j d' hj e m
      exact ⟨b, by simp [hne, h1], h2, h3.step (fun _ _ q _ => q) ans fun _ q => q⟩
  · by_cases hne : j = i
    · subst hne
      rw [List.getElem?_set_self hi] at e
      cases e
      exact .inl ⟨a, by simp, by rw [List.getElem?_set_self hiσ], r.step (fun _ _ q _ => q) ans fun _ q => q⟩
    · rw [List.getElem?_set_ne (Ne.symm hne)] at e
      rw [List.getElem?_set_ne (Ne.symm hne)]
      rcases S.slot j d' e with ⟨b, h1, h2, h3⟩ | ⟨h1, v, h2, h3⟩
      · exact .inl ⟨b, by simp [hne, h1], h2, h3.step (fun _ _ q _ => q) ans fun _ q => q⟩
      · exact .inr ⟨by simp [hne, h1], v, h2, h3.anti an⟩
theorem Sim.unguard (S : Sim K H0 (Gd A0 a) G O σ H ρ B) : Sim K H0 A0 G O σ H ρ B := by
  have an : ∀ b, Av A0 B b → Av (Gd A0 a) B b := fun b z => by
    rcases z with z | z
    · exact .inl (.inl z)
    · exact .inr z
  have ans : ∀ b, Av A0 B b → Av (Gd A0 a) B b ∨ H b = none := fun b z => .inl (an b z)
  refine ⟨S.same, fun b z => S.a0 b (.inl z), S.len, S.bo, S.inj, fun j b e => let ⟨h1, h2, h3⟩ := S.fr j b e; ⟨h1, fun z => h2 (.inl z), h3⟩, fun j d' hj e m => ?_, fun j d' e => ?_, fun p hp => (S.gs p hp).anti an⟩
  · obtain ⟨b, h1, h2, h3⟩ := S.ob j d' hj e m
    exact ⟨b, h1, h2, h3.step (fun _ _ q _ => q) ans fun _ q => q⟩
  · rcases S.slot j d' e with ⟨b, h1, h2, h3⟩ | ⟨h1, v, h2, h3⟩
    · exact .inl ⟨b, h1, h2, h3.step (fun _ _ q _ => q) ans fun _ q => q⟩
    · exact .inr ⟨h1, v, h2, h3.anti an⟩
end
abbrev Gl (A0 : Addr → Prop) (L : List Addr) : Addr → Prop := fun b => A0 b ∨ b ∈ L
theorem gl_nil (A0 : Addr → Prop) : Gl A0 [] = A0 := by
  funext b
  simp [Gl]
theorem gl_cons (A0 : Addr → Prop) (a : Addr) (L : List Addr) : Gl (Gd A0 a) L = Gl A0 (a :: L) := by
  funext b
  simp [Gl, Gd, or_assoc]
theorem gl_swap (A0 : Addr → Prop) (a : Addr) (L : List Addr) : Gd (Gl A0 L) a = Gl A0 (a :: L) := by
  funext b
  simp only [Gl, Gd, List.mem_cons]
  exact propext ⟨fun h => h.elim (fun h => h.elim .inl fun h => .inr (.inr h)) fun h => .inr (.inl h), fun h => h.elim (fun h => .inl (.inl h)) fun h => h.elim .inr fun h => .inl (.inr h)⟩
/-- values in a row: the new ones stand at L -/
inductive Pn (K : PySem.W.Frag) (A : Addr → Prop) (H : Hp) : List Addr → List Md → List V → List D → Prop where
  | nil : Pn K A H [] [] [] []
  | own {a : Addr} {L : List Addr} {ms : List Md} {vs : List V} {d : D} {ds : List D} : Tp K A H a d → Pn K A H L ms vs ds → Pn K A H (a :: L) (.f :: ms) (.ref a :: vs) (d :: ds)
  | val {m : Md} {v : V} {L : List Addr} {ms : List Md} {vs : List V} {d : D} {ds : List D} : Rp K A H v d → (m = .f → isMut d = false) → Pn K A H L ms vs ds → Pn K A H L (m :: ms) (v :: vs) (d :: ds)
theorem Pn.anti {K : PySem.W.Frag} {A A' : Addr → Prop} {H : Hp} {L : List Addr} {ms : List Md} {vs : List V} {ds : List D} (h : Pn K A H L ms vs ds) (ha : ∀ a, A' a → A a) : Pn K A' H L ms vs ds := by
  induction h with
  | nil => exact .nil
  | own t _ ih => exact .own (t.step (fun _ _ q _ => q) (fun a z => .inl (ha a z)) fun _ q => q) ih
  | val r n _ ih => exact .val (r.anti ha) n ih
theorem Pn.mono {K : PySem.W.Frag} {A : Addr → Prop} {H H' : Hp} {L : List Addr} {ms : List Md} {vs : List V} {ds : List D} (h : Pn K A H L ms vs ds) (s : Same H H') : Pn K A H' L ms vs ds := by
  induction h with
  | nil => exact .nil
  | own t _ ih => exact .own (t.mono s) ih
  | val r n _ ih => exact .val (r.mono s) n ih
theorem Pn.len {K : PySem.W.Frag} {A : Addr → Prop} {H : Hp} {L : List Addr} {ms : List Md} {vs : List V} {ds : List D} (h : Pn K A H L ms vs ds) : vs.length = ms.length ∧ ds.length = ms.length := by
  induction h with
  | nil => exact ⟨rfl, rfl⟩
  | own _ _ ih => simp [ih.1, ih.2]
  | val _ _ _ ih => simp [ih.1, ih.2]
def simAM (K : PySem.W.Frag) (O : List Nat) (ms : List Md) (f : XL) : TA := fun σ H Q => ∃ H0 A0 G ρ B ds, Sim K H0 A0 G O σ H ρ B ∧ f ρ = some ds ∧
  ∀ vs H' L, Same H H' → Sim K H0 (Gl A0 L) G O σ H' ρ B → (∀ a ∈ L, H a = none ∧ ¬ A0 a) → L.Nodup → Pn K (Av (Gl A0 L) B) H' L ms vs ds → Q vs H'
structure SAM (X : Cx) (O : List Nat) (ms : List Md) (es : List Expr) (f : XL) : Prop where
  pa : PA X es (simAM X.K O ms f)
def ownL : List Nat → List Md → List Nat → List Nat
  | i :: is, m :: ms, O => ownL is ms (if m = .f then i :: O else O.filter (· != i))
  | _, _, O => O
def setAll {α : Type} : List Nat → List α → List (Option α) → List (Option α)
  | i :: is, v :: vs, σ => setAll is vs (σ.set i (some v))
  | _, _, σ => σ
theorem assign_all {K : PySem.W.Frag} {H0 H : Hp} {A0 : Addr → Prop} {G : List (V × D)} : ∀ (is : List Nat) {O : List Nat} {σ : L2.St} {ρ : PEnv} {B : Nat → Option Addr} {L : List Addr} {ms : List Md} {vs : List V} {ds : List D},
    Sim K H0 (Gl A0 L) G O σ H ρ B → Pn K (Av (Gl A0 L) B) H L ms vs ds → (∀ a ∈ L, H0 a = none ∧ ¬ A0 a) → L.Nodup → (∀ i ∈ is, i < ρ.length) → is.length = ms.length →
    ∃ B', Sim K H0 A0 G (ownL is ms O) (setAll is vs σ) H (setAll is ds ρ) B'
  | [], O, σ, ρ, B, L, ms, vs, ds, S, p, hL, nd, hi, hl => by
    cases p with
    | nil => rw [gl_nil] at S; exact ⟨B, S⟩
    | own _ _ => simp at hl
    | val _ _ _ => simp at hl
  | i :: is, O, σ, ρ, B, L, ms, vs, ds, S, p, hL, nd, hi, hl => by
    cases p with
    | nil => simp at hl
    | @own a L' ms' vs' d ds' t p' =>
      have hia := hi i List.mem_cons_self
      rw [← gl_swap] at S
      have hn := List.nodup_cons.mp nd
      obtain ⟨h0, n0⟩ := hL a List.mem_cons_self
      have t' : Tp K (Av (Gd (Gl A0 L') a) B) H a d := by rw [gl_swap]; exact t
      have S1 := S.adopt (i := i) (fun z => by
        rcases z with z | z
        · exact n0 z
        · exact hn.1 z) h0 t' hia
      have e : ownL (i :: is) (.f :: ms') O = ownL is ms' (i :: O) := by simp [ownL]
      rw [e]
      refine assign_all is S1 (p'.anti fun c z => ?_) (fun b hb => hL b (List.mem_cons_of_mem _ hb)) hn.2 (fun j hj => by rw [List.length_set]; exact hi j (List.mem_cons_of_mem _ hj)) (by simpa using hl)
      rcases z with (z | z) | ⟨l, z⟩
      · exact .inl (.inl z)
      · exact .inl (.inr (List.mem_cons_of_mem _ z))
      · by_cases hli : l = i
        · simp [hli] at z
          exact .inl (.inr (by rw [z]; exact List.mem_cons_self))
        · simp [hli] at z
          exact .inr ⟨l, z⟩
    | @val m v L' ms' vs' d ds' r n p' =>
      have hia := hi i List.mem_cons_self
      have S1 := S.setS r hia
      have p2 := p'.anti (A' := Av (Gl A0 L) (restr [i] B)) fun c z => restr_av z
      have hi' : ∀ j ∈ is, j < (ρ.set i (some d)).length := fun j hj => by rw [List.length_set]; exact hi j (List.mem_cons_of_mem _ hj)
      by_cases hm : m = .f
      · have S2 := S1.grow fun d' e' => by
          rw [List.getElem?_set_self hia] at e'
          cases e'
          exact n hm
        have e : ownL (i :: is) (m :: ms') O = ownL is ms' (i :: O) := by simp [ownL, hm]
        rw [e]
        exact assign_all is S2 p2 hL nd hi' (by simpa using hl)
      · have e : ownL (i :: is) (m :: ms') O = ownL is ms' (O.filter (· != i)) := by simp [ownL, hm]
        rw [e]
        exact assign_all is S1 p2 hL nd hi' (by simpa using hl)
def sPar (is : List Nat) (fs : XL) : XS := fun ρ => (fs ρ).bind fun ds => if is.all (fun i => decide (i < ρ.length)) && decide (ds.length = is.length) then some (.nx (setAll is ds ρ)) else none
section
variable {X : Cx} {O O1 O2 Ob Oc O' : List Nat} {m ma mb : Md} {ms : List Md} {st : Stmt} {sts : List Stmt} {g h : XS} {e a b c : Expr} {es : List Expr} {f fa fb : Xp} {fs : XL} {pos pos' : Pos}
theorem sam_nil : SAM X O [] [] xNil := by
  refine ⟨pa_imp pa_nil fun σ H Q h => ?_⟩
  obtain ⟨H0, A0, G, ρ, B, ds, S, e, k⟩ := h
  cases e
  exact k [] H [] (Same.refl H) (by rw [gl_nil]; exact S) (fun a h => (nomatch h)) .nil .nil
theorem sam_cons (ha : SE X O m e f) (hr : SAM X O ms es fs) (hm : m ≠ .w := by decide) (hs : starEach (e :: es) X.env = (false, eval e X.env) :: starEach es X.env := by rfl) : SAM X O (m :: ms) (e :: es) (xCons f fs) := by
  refine ⟨pa_imp (pa_cons ha.pe hr.pa hs) fun σ H Q h => ?_⟩
  obtain ⟨H0, A0, G, ρ, B, ds, S, e, k⟩ := h
  obtain ⟨x, ex, e⟩ := bind2 e
  obtain ⟨xs, exs, e⟩ := bind2 e
  cases e
  refine ⟨H0, A0, G, ρ, B, x, S, ex, fun v H1 s1 r1 => ?_⟩
  by_cases hfa : m = .f ∧ ∃ a, v = V.ref a ∧ H a = none ∧ Tp X.K (fun b => Av A0 B b ∨ b = a) H1 a x
  · obtain ⟨rfl, a, rfl, hn, ra⟩ := hfa
    have naA : ¬ Av A0 B a := S.new hn
    have Sg := S.guard hn s1 ra.some
    refine ⟨H0, Gd A0 a, G, ρ, B, xs, Sg, exs, fun vs H2 L s2 S2 hL nd p => k _ H2 (a :: L) (s1.trans s2) (by rw [← gl_cons]; exact S2) (fun b hb => ?_) (List.nodup_cons.mpr ⟨fun z => ?_, nd⟩) (.own ?_ (by rw [← gl_cons]; exact p))⟩
    · rcases List.mem_cons.mp hb with rfl | hb
      · exact ⟨hn, fun z => naA (.inl z)⟩
      · obtain ⟨h1, h2⟩ := hL b hb
        exact ⟨s1.free h1, fun z => h2 (.inl z)⟩
    · exact (hL a z).2 (.inr rfl)
    · refine ra.step (fun c o e _ => s2 c o e) (fun c z => ?_) fun o e => s2 _ o e
      rcases z with (z | z) | z
      · exact .inl (.inl (.inl z))
      · rcases List.mem_cons.mp z with z | z
        · exact .inl (.inr z)
        · exact .inr (hL c z).1
      · exact .inl (.inl (.inr z))
  · have rb : Rp X.K (Av A0 B) H1 v x ∧ (m = .f → isMut x = false) := by
      cases m with
      | w => exact absurd rfl hm
      | s => exact ⟨r1, fun z => nomatch z⟩
      | f =>
        rcases r1 with ⟨b, e1, e2, e3⟩ | ⟨e1, e2⟩
        · exact absurd ⟨rfl, b, e1, e2, e3⟩ hfa
        · exact ⟨e1, fun _ => e2⟩
    refine ⟨H0, A0, G, ρ, B, xs, S.mono s1, exs, fun vs H2 L s2 S2 hL nd p => k _ H2 L (s1.trans s2) S2 (fun b hb => ⟨s1.free (hL b hb).1, (hL b hb).2⟩) nd (.val (rb.1.step (fun c o e _ => s2 c o e) fun c z => ?_) rb.2 p)⟩
    rcases z with (z | z) | z
    · exact .inl (.inl z)
    · exact .inr (hL c z).1
    · exact .inl (.inr z)
/-- behind the values: the names are set -/
theorem par_end {is : List Nat} {o : Out} {D : Ends} {K : PySem.W.Frag} {H0 H H1 : Hp} {A0 : Addr → Prop} {G : List (V × Pm.D)} {σ : L2.St} {ρ : PEnv} {B : Nat → Option Addr} {ds : List Pm.D} {vs : List V} {L : List Addr} (S0 : Same H0 H) (hO : ownL is ms O = O') (hl : is.length = ms.length)
    (e : (if is.all (fun i => decide (i < ρ.length)) && decide (ds.length = is.length) then some (Out.nx (setAll is ds ρ)) else none) = some o) (k : PostS K H0 A0 G Ob Oc O' D o)
    (S : Sim K H0 (Gl A0 L) G O σ H1 ρ B) (hL : ∀ a ∈ L, H a = none ∧ ¬ A0 a) (nd : L.Nodup) (p : Pn K (Av (Gl A0 L) B) H1 L ms vs ds) : D.nx (setAll is vs σ) H1 := by
  split at e
  · rename_i hz
    cases e
    simp only [Bool.and_eq_true, decide_eq_true_eq, List.all_eq_true] at hz
    obtain ⟨B', S'⟩ := assign_all is S p (fun a ha => ⟨S0.free (hL a ha).1, (hL a ha).2⟩) nd (fun i hi => hz.1 i hi) hl
    rw [hO] at S'
    exact k _ H1 B' S'
  · cases e
theorem ss_par (i j : Nat) {x y : Str} {px py pt : Pos} {kt k2 : Nat} {pt2 : Pos} (hN : X.N.Nodup) (ha : SAM X O [ma, mb] [a, b] fs) (hij : i ≠ j := by decide) (hi : X.N[i]? = some x := by rfl) (hj : X.N[j]? = some y := by rfl) (hx : X.env.scope.names.lookup x = some .local := by rfl) (hy : X.env.scope.names.lookup y = some .local := by rfl)
    (hw : swappedStores [.Tuple [.Name x px, .Name y py] kt pt] (.Tuple [a, b] k2 pt2) X.env = pure (some [x, y]) := by rfl) (hs : swapsWithSole [.Tuple [.Name x px, .Name y py] kt pt] (.Tuple [a, b] k2 pt2) pos.line X.env = pure false := by rfl) (hc : X.calm = true := by rfl) (hO : ownL [i, j] [ma, mb] O = O' := by rfl) :
    SS X O Ob Oc O' (.Assign [.Tuple [.Name x px, .Name y py] kt pt] (.Tuple [a, b] k2 pt2) pos) (sPar [i, j] fs) := by
  refine ⟨ps_imp (L2.ps_par hc hN hi hj hij hx hy ha.pa hw hs) fun D σ H q => ?_⟩
  obtain ⟨H0, A0, G, ρ, B, o, S, e, k⟩ := q
  obtain ⟨ds, eds, e⟩ := bind2 e
  refine ⟨H0, A0, G, ρ, B, ds, S, eds, fun vs H1 L s1 S1 hL nd p => ?_⟩
  have hl := p.len.1
  match vs, hl with
  | [v, w], _ => exact ⟨v, w, rfl, par_end (is := [i, j]) S.same hO rfl e k S1 hL nd p⟩
theorem ss_par3 (i j l : Nat) {mc : Md} {x y z : Str} {px py pz pt : Pos} {kt k2 : Nat} {pt2 : Pos} (hN : X.N.Nodup) (ha : SAM X O [ma, mb, mc] [a, b, c] fs) (hij : i ≠ j := by decide) (hil : i ≠ l := by decide) (hjl : j ≠ l := by decide) (hi : X.N[i]? = some x := by rfl) (hj : X.N[j]? = some y := by rfl) (hlz : X.N[l]? = some z := by rfl)
    (hx : X.env.scope.names.lookup x = some .local := by rfl) (hy : X.env.scope.names.lookup y = some .local := by rfl) (hz : X.env.scope.names.lookup z = some .local := by rfl)
    (hw : swappedStores [.Tuple [.Name x px, .Name y py, .Name z pz] kt pt] (.Tuple [a, b, c] k2 pt2) X.env = pure (some [x, y, z]) := by rfl) (hs : swapsWithSole [.Tuple [.Name x px, .Name y py, .Name z pz] kt pt] (.Tuple [a, b, c] k2 pt2) pos.line X.env = pure false := by rfl) (hc : X.calm = true := by rfl) (hO : ownL [i, j, l] [ma, mb, mc] O = O' := by rfl) :
    SS X O Ob Oc O' (.Assign [.Tuple [.Name x px, .Name y py, .Name z pz] kt pt] (.Tuple [a, b, c] k2 pt2) pos) (sPar [i, j, l] fs) := by
  refine ⟨ps_imp (ps_par3 hc hN hi hj hlz hij hil hjl hx hy hz ha.pa hw hs) fun D σ H q => ?_⟩
  obtain ⟨H0, A0, G, ρ, B, o, S, e, k⟩ := q
  obtain ⟨ds, eds, e⟩ := bind2 e
  refine ⟨H0, A0, G, ρ, B, ds, S, eds, fun vs H1 L s1 S1 hL nd p => ?_⟩
  have hl := p.len.1
  match vs, hl with
  | [u, v, w], _ => exact ⟨u, v, w, rfl, par_end (is := [i, j, l]) S.same hO rfl e k S1 hL nd p⟩
/-- any number of names, by a tuple that is taken apart -/
def gNames : List Nat → TGs
  | [] => gNil
  | i :: is => gCons (gName i) (gNames is)
theorem gNames_of {is : List Nat} {vs : List V} {σ : L2.St} {H : Hp} {Q : L2.St → Hp → Prop} (hl : vs.length = is.length) (h : Q (setAll is vs σ) H) : gNames is vs σ H Q := by
  induction is generalizing vs σ with
  | nil =>
    cases vs with
    | nil => exact ⟨rfl, h⟩
    | cons v vs => simp at hl
  | cons i is ih =>
    cases vs with
    | nil => simp at hl
    | cons v vs => exact ⟨v, vs, rfl, ih (by simpa using hl) h⟩
theorem ss_parT (is : List Nat) {tgs : List Expr} {kt k2 : Nat} {pt pt2 : Pos} (ha : SAM X O ms es fs) (hg : PGs X tgs (gNames is)) (hl : is.length = ms.length := by rfl) (hn : (assignEach tgs X.env).length = is.length := by rfl) (hst : (assignEach tgs X.env).findIdx? (·.1) = none := by rfl) (hsz : ms.length ≤ 1000 := by decide)
    (hw : swappedStores [.Tuple tgs kt pt] (.Tuple es k2 pt2) X.env = pure none := by rfl) (hs : swapsWithSole [.Tuple tgs kt pt] (.Tuple es k2 pt2) pos.line X.env = pure false := by rfl) (hc : X.calm = true := by rfl) (hO : ownL is ms O = O' := by rfl)
    (h1 : (assignEach [.Tuple tgs kt pt] X.env).map (·.2) = [assign (.Tuple tgs kt pt) X.env] := by rfl) : SS X O Ob Oc O' (.Assign [.Tuple tgs kt pt] (.Tuple es k2 pt2) pos) (sPar is fs) := by
  refine ⟨ps_imp (ps_asg (pe_tup ha.pa) (pg_tup hc hg hn hst) hs hw h1) fun D σ H q => ?_⟩
  obtain ⟨H0, A0, G, ρ, B, o, S, e, k⟩ := q
  obtain ⟨ds, eds, e⟩ := bind2 e
  refine ⟨H0, A0, G, ρ, B, ds, S, eds, fun vs H1 L s1 S1 hL nd p => ⟨by rw [p.len.1]; exact line1000 hsz, fun t ht => ?_⟩⟩
  have st := same_upd (o := .tup vs) ht
  refine ⟨t, vs, rfl, .of upd_same, by rw [p.len.1, hl], gNames_of (by rw [p.len.1, hl]) (par_end (is := is) S.same hO hl e k (S1.mono st) hL nd (p.mono st))⟩

/-! ### more operators in place -/
theorem iop_addD : OpR X (inplaceOp .Add) (rD X.K .f oAdd') := by
  intro pins s σ H x y v u Q I rx ry ⟨A, dx, dy, d, tr, wx, wy, e, q⟩
  unfold oAdd' at e
  split at e
  · cases e
    exact iop_add pins s σ H x y v u Q I rx ry ⟨_, _, wx.int, wy.int, q _ H (Same.refl H) Res.int⟩
  · cases e
theorem iop_subD : OpR X (inplaceOp .Sub) (rD X.K .f oSub) := by
  intro pins s σ H x y v u Q I rx ry ⟨A, dx, dy, d, tr, wx, wy, e, q⟩
  unfold oSub at e
  split at e
  · cases e
    exact iop_sub pins s σ H x y v u Q I rx ry ⟨_, _, wx.int, wy.int, q _ H (Same.refl H) Res.int⟩
  · cases e
end
end Pm

namespace Pm
open PySem PySem.Spec PyProof.Rows L2

/-! ### a comprehension over two sources -/
def lc2L (g : D → PEnv → Option PEnv) (t : PEnv → Option Bool) (it1 : XL) (g1 : D → PEnv → Option PEnv) (t1 : PEnv → Option Bool) (f : Xp) (vs1 : List Nat) (ρ : PEnv) : List D → Option (List D)
  | [] => some []
  | d :: ds => (g d ρ).bind fun ρ1 => (t ρ1).bind fun b => if b then (it1 ρ1).bind fun es => (lcL g1 t1 f (wipeP ρ1 vs1) es).bind fun ys => (lc2L g t it1 g1 t1 f vs1 ρ ds).bind fun zs => some (ys ++ zs) else lc2L g t it1 g1 t1 f vs1 ρ ds
def xLc2 (it : XL) (g : D → PEnv → Option PEnv) (t : PEnv → Option Bool) (it1 : XL) (g1 : D → PEnv → Option PEnv) (t1 : PEnv → Option Bool) (f : Xp) (own vs1 : List Nat) : Xp := fun ρ => (it ρ).bind fun ds => (lc2L g t it1 g1 t1 f vs1 (wipeP ρ own) ds).bind fun ys => if ys.length ≤ 16777216 then some (.list ys) else none
/-- the guarded cells alone may change -/
theorem Sim.monoG {K : PySem.W.Frag} {H0 H H' : Hp} {A0 : Addr → Prop} {G : List (V × D)} {O : List Nat} {σ : L2.St} {ρ : PEnv} {B : Nat → Option Addr} (S : Sim K H0 A0 G O σ H ρ B) (hk : ∀ a o, H a = some o → ¬ A0 a → H' a = some o) (ht : ∀ a, A0 a → ∃ o, H' a = some o ∧ NT o) (h0 : Same H0 H') : Sim K H0 A0 G O σ H' ρ B := by
  have st : ∀ a o, H a = some o → ¬ Av A0 B a → H' a = some o := fun a o e n => hk a o e fun z => n (.inl z)
  have bA : ∀ i a, B i = some a → ¬ A0 a := fun i a e => (S.fr i a e).2.1
  have kp : ∀ {a : Addr} {d : D} {i : Nat}, B i = some a → Tp K (Av A0 B) H a d → Tp K (Av A0 B) H' a d := fun {a d i} hb h => h.step st (fun _ z => .inl z) fun o e => hk a o e (bA i a hb)
  refine ⟨h0, ht, S.len, S.bo, S.inj, fun i a e => ?_, fun i d hi e mm => ?_, fun i d e => ?_, fun p hp => (S.gs p hp).step st fun _ z => .inl z⟩
  · obtain ⟨h1, h2, o, h3, h4⟩ := S.fr i a e
    exact ⟨h1, h2, o, hk a o h3 h2, h4⟩
  · obtain ⟨a, h1, h2, h3⟩ := S.ob i d hi e mm
    exact ⟨a, h1, h2, kp h1 h3⟩
  · rcases S.slot i d e with ⟨a, h1, h2, h3⟩ | ⟨h1, v, h2, h3⟩
    · exact .inl ⟨a, h1, h2, kp h1 h3⟩
    · exact .inr ⟨h1, v, h2, h3.step st fun _ z => .inl z⟩
section
variable {X : Cx} {O ts us : List Nat} {st : Bool} {m : Md} {tg iter elt tg1 iter1 : Expr} {ifs ifs1 : List Expr} {scope : Scope} {own : List (Str × Nat)} {vs1 : List Nat} {it it1 : XL} {g g1 : D → PEnv → Option PEnv} {t t1 : PEnv → Option Bool} {f : Xp} {pos : Pos}
theorem lc2_of (hm : m ≠ .w) (hts : ∀ i, ts.contains i = true → (own.map (·.2)).contains i = true) (hus : ∀ i, us.contains i = true → vs1.contains i = true) (hO : ∀ i ∈ own.map (·.2), i ∉ O) (hO1 : ∀ i ∈ vs1, i ∉ O) (σ : L2.St) (H : Hp) (Q : VK)
    (q : simT X.K O .f (xLc2 it g t it1 g1 t1 f (own.map (·.2)) vs1) σ H Q) :
    tLc2 (simI X.K O st it) (simG X.K O O ts g) (simTT X.K O t) (simI X.K O true it1) (simG X.K O O us g1) (simTT X.K O t1) (simT X.K O m f) (own.map (·.2)) vs1 σ H Q := by
  obtain ⟨H0, A0, G, ρ, B, d, S, e, k⟩ := q
  obtain ⟨ds, eds, e⟩ := bind2 e
  obtain ⟨ys, eys, e⟩ := bind2 e
  split at e
  rotate_left
  · cases e
  rename_i hys
  cases e
  refine ⟨H0, A0, G, ρ, B, ds, S, eds, fun J H1 gs s1 yl gr hz Dn hD => ?_⟩
  have hts' : ∀ i, ts.contains i = true → i ∉ O := fun i hi => hO i (by simpa using hts i hi)
  have hus' : ∀ i, us.contains i = true → i ∉ O := fun i hi => hO1 i (by simpa using hus i hi)
  have avD : Av (Gd A0 Dn) B Dn := .inl (.inr rfl)
  refine ⟨fun i n Hc => n = ds.length - i ∧ i ≤ ds.length ∧ Same H1 Hc ∧ ∃ vs pre post, Hc Dn = some (.lst vs) ∧ RpL X.K (Av (Gd A0 Dn) B) Hc vs pre ∧ lc2L g t it1 g1 t1 f vs1 (wipeP ρ (own.map (·.2))) (ds.drop i) = some post ∧ ys = pre ++ post,
    ⟨ds.length, rfl, Nat.zero_le _, same_upd hD, [], [], ys, upd_same, .nil, eys, rfl⟩, ?_⟩
  rintro i n Hc ⟨rfl, hi, sc, vs, pre, post, hDc, rpre, epost, eyp⟩
  have Sg : Sim X.K H0 (Gd A0 Dn) G O σ Hc ρ B := (S.mono s1).guard hD sc ⟨_, hDc, NT.lst⟩
  have gw : ∀ p ∈ gs, WRp X.K (Av (Gd A0 Dn) B) Hc p.1 p.2 := fun p hp => (gr p hp).w.step sc fun a z => by
    rcases gd_av z with z | z
    · exact .inl z
    · exact .inr (by rw [z]; exact hD)
  by_cases hlt : i < ds.length
  · have ed : ds[i]? = some ds[i] := List.getElem?_eq_getElem hlt
    rw [List.drop_eq_getElem_cons hlt] at epost
    obtain ⟨hgo, hy⟩ := yl.go _ Hc i _ Sg.tr gw ed
    simp only [lc2L] at epost
    obtain ⟨ρ1, eρ1, epost⟩ := bind2 epost
    obtain ⟨b, eb, epost⟩ := bind2 epost
    refine .inr ⟨hgo, fun H' => i + 1 ≤ ds.length ∧ Same H1 H' ∧ ∃ vs pre' post', H' Dn = some (.lst vs) ∧ RpL X.K (Av (Gd A0 Dn) B) H' vs pre' ∧ lc2L g t it1 g1 t1 f vs1 (wipeP ρ (own.map (·.2))) (ds.drop (i + 1)) = some post' ∧ ys = pre' ++ post', fun H' hN => ?_, fun x H' hx => ?_⟩
    · obtain ⟨h1, h2, h3⟩ := hN
      exact ⟨ds.length - (i + 1), by omega, rfl, h1, h2, h3⟩
    · obtain ⟨s2, rx⟩ := hy x H' hx
      refine ⟨H0, Gd A0 Dn, G, wipeP ρ (own.map (·.2)), B, _, ρ1, (Sg.mono s2).wipe _ hO, rx, eρ1, fun σ2 c2 S2 => ?_⟩
      rw [restr_same Sg hts'] at S2
      refine ⟨wipe_eq c2 hts, H0, Gd A0 Dn, G, ρ1, B, b, S2, eb, fun H3 s3 => ?_⟩
      cases b with
      | true =>
        rw [if_pos rfl]
        rw [if_pos rfl] at epost
        obtain ⟨es, ees, epost⟩ := bind2 epost
        obtain ⟨zs, ezs, epost⟩ := bind2 epost
        obtain ⟨ws, ews, epost⟩ := bind2 epost
        cases epost
        refine ⟨H0, Gd A0 Dn, G, ρ1, B, es, S2.mono s3, ees, fun J1 H4 gs1 s4 yl1 gr1 hz1 => ?_⟩
        have s24 := (s2.trans s3).trans s4
        have hD4 : H4 Dn = some (.lst vs) := s24 _ _ hDc
        have S4 := (S2.mono s3).mono s4
        have hdn : H Dn = none := s1.free hD
        -- the inner loop: the new list is written between its turns
        refine ⟨fun j n Hj => n = es.length - j ∧ j ≤ es.length ∧ (∀ a o, H4 a = some o → ¬ Gd A0 Dn a → Hj a = some o) ∧ Same H1 Hj ∧ ∃ us pre1 post1, Hj Dn = some (.lst us) ∧ RpL X.K (Av (Gd A0 Dn) B) Hj us pre1 ∧ lcL g1 t1 f (wipeP ρ1 vs1) (es.drop j) = some post1 ∧ ys = pre1 ++ (post1 ++ ws) ∧ (∀ a, A0 a → ∃ o, Hj a = some o ∧ NT o),
          ⟨es.length, rfl, Nat.zero_le _, fun a o e _ => e, sc.trans s24, vs, pre, zs, hD4, rpre.mono s24, ezs, eyp, fun a z => S4.a0 a (.inl z)⟩, ?_⟩
        rintro j n Hj ⟨rfl, hj, sj, s1j, us', pre1, post1, hDj, rp1, ep1, ey1, a0j⟩
        have stepj : ∀ a o, H4 a = some o → ¬ Av (Gd A0 Dn) B a → Hj a = some o := fun a o e n => sj a o e fun z => n (.inl z)
        have thr : ∀ a, Gd A0 Dn a → ∃ o, Hj a = some o ∧ NT o := fun a z => by
          rcases z with z | z
          · exact a0j a z
          · rw [z]; exact ⟨_, hDj, NT.lst⟩
        have Sj : Sim X.K H0 (Gd A0 Dn) G O σ2 Hj ρ1 B := S4.monoG sj thr fun a o e => s1j a o (s1 a o (S.same a o e))
        have gw1 : ∀ p ∈ gs1, WRp X.K (Av (Gd A0 Dn) B) Hj p.1 p.2 := fun p hp => .inl ((gr1 p hp : Rp _ _ _ _ _).step stepj fun _ z => .inl z)
        have hysl : ys.length ≤ 16777216 := hys
        by_cases hltj : j < es.length
        · have edj : es[j]? = some es[j] := List.getElem?_eq_getElem hltj
          rw [List.drop_eq_getElem_cons hltj] at ep1
          obtain ⟨hgo1, hy1⟩ := yl1.go _ Hj j _ Sj.tr gw1 edj
          simp only [lcL] at ep1
          obtain ⟨ρ2, eρ2, ep1⟩ := bind2 ep1
          obtain ⟨b1, eb1, ep1⟩ := bind2 ep1
          refine .inr ⟨hgo1, fun H' => j + 1 ≤ es.length ∧ (∀ a o, H4 a = some o → ¬ Gd A0 Dn a → H' a = some o) ∧ Same H1 H' ∧ ∃ us pre1 post1, H' Dn = some (.lst us) ∧ RpL X.K (Av (Gd A0 Dn) B) H' us pre1 ∧ lcL g1 t1 f (wipeP ρ1 vs1) (es.drop (j + 1)) = some post1 ∧ ys = pre1 ++ (post1 ++ ws) ∧ (∀ a, A0 a → ∃ o, H' a = some o ∧ NT o), fun H' hN => ?_, fun x1 H5 hx1 => ?_⟩
          · obtain ⟨h1, h2⟩ := hN
            exact ⟨es.length - (j + 1), by omega, rfl, h1, h2⟩
          · obtain ⟨s5, rx1⟩ := hy1 x1 H5 hx1
            refine ⟨H0, Gd A0 Dn, G, wipeP ρ1 vs1, B, _, ρ2, (Sj.mono s5).wipe _ hO1, rx1, eρ2, fun σ3 c3 S5 => ?_⟩
            rw [restr_same Sj hus'] at S5
            refine ⟨wipe_eq c3 hus, H0, Gd A0 Dn, G, ρ2, B, b1, S5, eb1, fun H6 s6 => ?_⟩
            cases b1 with
            | true =>
              rw [if_pos rfl]
              rw [if_pos rfl] at ep1
              obtain ⟨y, ey, ep1⟩ := bind2 ep1
              obtain ⟨p2, ep2, ep1⟩ := bind2 ep1
              cases ep1
              refine ⟨H0, Gd A0 Dn, G, ρ2, B, y, S5.mono s6, ey, fun v H7 s7 r7 => ?_⟩
              have r7' := r7.toS (S5.mono s6).tr hm
              have s57 := (s5.trans s6).trans s7
              have kp : ∀ a o, H7 a = some o → ¬ Av (Gd A0 Dn) B a → upd H7 Dn (.lst (us' ++ [v])) a = some o := fun a o e n => by
                rw [upd_ne (fun z => n (by rw [z]; exact avD))]
                exact e
              have hne : ∀ a, ¬ Gd A0 Dn a → a ≠ Dn := fun a n z => n (.inr z)
              have hpl : pre1.length < ys.length := by
                rw [ey1]
                simp only [List.length_append, List.length_cons]
                omega
              refine ⟨us', s57 _ _ hDj, ?_, by omega, fun a o e n => ?_, fun a o e => ?_, us' ++ [v], pre1 ++ [y], p2, upd_same, ?_, ep2, by simp [ey1], fun a z => ?_⟩
              · rw [rp1.length]
                have : (16777216 : Nat) = sizeLine := rfl
                omega
              · rw [upd_ne (hne a n)]
                exact s57 _ _ (sj a o e n)
              · have hne : a ≠ Dn := fun z => by rw [z, hD] at e; cases e
                rw [upd_ne hne]
                exact s57 _ _ (s1j _ _ e)
              · exact RpL.app (.one (r7'.step kp fun _ z => .inl z)) ((rp1.mono s57).step kp fun _ z => .inl z)
              · obtain ⟨o, e, nt⟩ := a0j a z
                by_cases ha : a = Dn
                · rw [ha]; exact ⟨_, upd_same, NT.lst⟩
                · exact ⟨o, by rw [upd_ne ha]; exact s57 _ _ e, nt⟩
            | false =>
              rw [if_neg Bool.false_ne_true]
              rw [if_neg Bool.false_ne_true] at ep1
              have s56 := s5.trans s6
              exact ⟨by omega, fun a o e n => s56 _ _ (sj a o e n), s1j.trans s56, us', pre1, post1, s56 _ _ hDj, rp1.mono s56, ep1, ey1, fun a z => let ⟨o, e, nt⟩ := a0j a z; ⟨o, s56 _ _ e, nt⟩⟩
        · have e : j = es.length := by omega
          subst e
          rw [List.drop_length] at ep1
          cases ep1
          exact .inl ⟨yl1.stop _ Hj Sj.tr gw1, by omega, s1j, us', pre1, ws, hDj, rp1, ews, by simpa using ey1⟩
      | false =>
        rw [if_neg Bool.false_ne_true]
        rw [if_neg Bool.false_ne_true] at epost
        have s23 := s2.trans s3
        exact ⟨by omega, sc.trans s23, vs, pre, post, s23 _ _ hDc, rpre.mono s23, epost, eyp⟩
  · have e : i = ds.length := by omega
    subst e
    refine .inl ⟨yl.stop _ Hc Sg.tr gw, ?_⟩
    rw [List.drop_length] at epost
    cases epost
    rw [List.append_nil] at eyp
    subst eyp
    have hHD : H Dn = none := s1.free hD
    refine k _ Hc (s1.trans sc) (.inl ⟨Dn, rfl, hHD, .lst hDc (rpre.anti fun a z => ?_)⟩)
    rcases z with z | z
    · rcases z with z | z
      · exact .inl (.inl z)
      · exact .inr z
    · exact .inl (.inr z)
theorem se_lc2 (hN : X.N.Nodup) (hi : SI X O st tg iter it) (ok : BlkOk X.N X.env.scope scope own) (hg : InBlk X scope fun Y => SG Y O O ts tg g) (ht : InBlk X scope fun Y => STs Y O ifs t) (hi1 : InBlk X scope fun Y => SI Y O true tg1 iter1 it1) (hg1 : InBlk X scope fun Y => SG Y O O us tg1 g1) (ht1 : InBlk X scope fun Y => STs Y O ifs1 t1) (he : InBlk X scope fun Y => SE Y O m elt f)
    (hm : m ≠ .w := by decide) (hv : vs1.all (fun i => (own.map (·.2)).contains i) = true := by rfl) (hts : ts.all (fun i => (own.map (·.2)).contains i) = true := by rfl) (hus : us.all (fun i => vs1.contains i) = true := by rfl) (hO : (own.map (·.2)).all (fun i => !O.contains i) = true := by rfl) (hc : X.calm = true := by rfl) (hs : ∀ x, foldedSetIterable iter X.env x = pure x := by intro _; rfl) (hs1 : ∀ env x, foldedSetIterable iter1 env x = pure x := by intro _ _; rfl) :
    SE X O .f (.ListComp elt [⟨tg, iter, ifs, 0⟩, ⟨tg1, iter1, ifs1, 0⟩] scope pos) (xLc2 it g t it1 g1 t1 f (own.map (·.2)) vs1) := by
  have hv' : ∀ i ∈ vs1, i ∈ own.map (·.2) := fun i hi => by simpa using List.all_eq_true.mp hv i hi
  have hO' : ∀ i ∈ own.map (·.2), i ∉ O := fun i hi => by simpa using List.all_eq_true.mp hO i hi
  exact ⟨pe_imp (pe_lc2 (wi := simI X.K O st it) (g := simG X.K O O ts g) (tt := simTT X.K O t) (wi1 := simI X.K O true it1) (g1 := simG X.K O O us g1) (tt1 := simTT X.K O t1) (te := simT X.K O m f) hc hN hi.pi ok hv' (fun s H C cl fp => (hg s H C cl fp).pg) (fun s H C cl fp => (ht s H C cl fp).pts) (fun s H C cl fp => (hi1 s H C cl fp).pi) (fun s H C cl fp => (hg1 s H C cl fp).pg) (fun s H C cl fp => (ht1 s H C cl fp).pts) (fun s H C cl fp => (he s H C cl fp).pe) hs hs1)
    (lc2_of hm (fun i hi => by simpa using List.all_eq_true.mp hts i (by simpa using hi)) (fun i hi => by simpa using List.all_eq_true.mp hus i (by simpa using hi)) hO' fun i hi => hO' i (hv' i hi))⟩
theorem ss_setLc2 (i : Nat) {y : Str} {py : Pos} {Ob Oc O' : List Nat} {spos : Pos} (hN : X.N.Nodup) (hi : SI X O st tg iter it) (ok : BlkOk X.N X.env.scope scope own) (hg : InBlk X scope fun Y => SG Y O O ts tg g) (ht : InBlk X scope fun Y => STs Y O ifs t) (hi1 : InBlk X scope fun Y => SI Y O true tg1 iter1 it1) (hg1 : InBlk X scope fun Y => SG Y O O us tg1 g1) (ht1 : InBlk X scope fun Y => STs Y O ifs1 t1) (he : InBlk X scope fun Y => SE Y O m elt f)
    (hm : m ≠ .w := by decide) (hy : X.N[i]? = some y := by rfl) (hyl : X.env.scope.names.lookup y = some .local := by rfl) (hsw : swapsWith (.ListComp elt [⟨tg, iter, ifs, 0⟩, ⟨tg1, iter1, ifs1, 0⟩] scope pos) (some (.Name y py)) spos.line X.env = pure true := by exact sw_true rfl rfl rfl (by decide +kernel))
    (hv : vs1.all (fun i => (own.map (·.2)).contains i) = true := by rfl) (hts : ts.all (fun i => (own.map (·.2)).contains i) = true := by rfl) (hus : us.all (fun i => vs1.contains i) = true := by rfl) (hO : (own.map (·.2)).all (fun i => !O.contains i) = true := by rfl) (hc : X.calm = true := by rfl) (hs : ∀ x, foldedSetIterable iter X.env x = pure x := by intro _; rfl) (hs1 : ∀ env x, foldedSetIterable iter1 env x = pure x := by intro _ _; rfl) (hO2 : i :: O = O' := by rfl) :
    SS X O Ob Oc O' (.Assign [.Name y py] (.ListComp elt [⟨tg, iter, ifs, 0⟩, ⟨tg1, iter1, ifs1, 0⟩] scope pos) spos) (sSet i (xLc2 it g t it1 g1 t1 f (own.map (·.2)) vs1)) := by
  subst hO2
  have hv' : ∀ i ∈ vs1, i ∈ own.map (·.2) := fun i hi => by simpa using List.all_eq_true.mp hv i hi
  have hO' : ∀ i ∈ own.map (·.2), i ∉ O := fun i hi => by simpa using List.all_eq_true.mp hO i hi
  refine ⟨ps_imp (ps_setLc2 (wi := simI X.K O st it) (g := simG X.K O O ts g) (tt := simTT X.K O t) (wi1 := simI X.K O true it1) (g1 := simG X.K O O us g1) (tt1 := simTT X.K O t1) (te := simT X.K O m f) hc hN hy hyl hsw hi.pi ok hv' (fun s H C cl fp => (hg s H C cl fp).pg) (fun s H C cl fp => (ht s H C cl fp).pts) (fun s H C cl fp => (hi1 s H C cl fp).pi) (fun s H C cl fp => (hg1 s H C cl fp).pg) (fun s H C cl fp => (ht1 s H C cl fp).pts) (fun s H C cl fp => (he s H C cl fp).pe) hs hs1) fun D σ H q => ?_⟩
  exact lc2_of hm (fun i hi => by simpa using List.all_eq_true.mp hts i (by simpa using hi)) (fun i hi => by simpa using List.all_eq_true.mp hus i (by simpa using hi)) hO' (fun i hi => hO' i (hv' i hi)) σ H _ (setf_of σ H q)
end
end Pm

namespace Pm
open PySem PySem.Spec PyProof.Rows L2

/-! ### dicts whose keys are ints -/
def isKeyI (i : Int) : D → Bool
  | .int j => j == i
  | _ => false
def dGetD (kd : List (D × D)) (i : Int) : Option D := (kd.find? fun p => isKeyI i p.1).map (·.2)
def dHasD (kd : List (D × D)) (i : Int) : Bool := kd.any fun p => isKeyI i p.1
def dPutD (kd : List (D × D)) (i : Int) (v : D) : List (D × D) := if dHasD kd i then kd.map (fun p => if isKeyI i p.1 then (p.1, v) else p) else kd ++ [(.int i, v)]
theorem keyD_is (k : Key) (i : Int) : isKeyI i (keyD k) = decide (k = Sum.inl i) := by
  cases k with
  | inl j =>
    simp only [keyD, isKeyI]
    by_cases h : j = i <;> simp [h]
  | inr s => simp [keyD, isKeyI]
section
variable {K : PySem.W.Frag} {A : Addr → Prop} {H : Hp}
theorem dget_some {i : Int} {d : D} : ∀ {ks : List (Key × V)} {ds : List D}, RpL K A H (ks.map (·.2)) ds → dGetD ((ks.map fun p => keyD p.1).zip ds) i = some d → ∃ v, valV ks (Sum.inl i) = some v ∧ Rp K A H v d
  | [], ds, r, e => by simp [dGetD] at e
  | (k, v) :: ks, ds, r, e => by
    cases r with
    | cons h r =>
      simp only [dGetD, List.map_cons, List.zip_cons_cons, List.find?_cons, keyD_is] at e
      by_cases hk : k = Sum.inl i
      · rw [decide_eq_true hk] at e
        cases e
        exact ⟨v, valV_pos hk, h⟩
      · rw [decide_eq_false hk] at e
        obtain ⟨w, e1, e2⟩ := dget_some r e
        exact ⟨w, by rw [valV_neg hk]; exact e1, e2⟩
theorem dhas_eq {i : Int} : ∀ {ks : List (Key × V)} {ds : List D}, RpL K A H (ks.map (·.2)) ds → dHasD ((ks.map fun p => keyD p.1).zip ds) i = (valV ks (Sum.inl i)).isSome
  | [], ds, r => by cases r; rfl
  | (k, v) :: ks, ds, r => by
    cases r with
    | cons h r =>
      simp only [dHasD, List.map_cons, List.zip_cons_cons, List.any_cons, keyD_is]
      by_cases hk : k = Sum.inl i
      · rw [decide_eq_true hk, valV_pos hk]
        rfl
      · rw [decide_eq_false hk, valV_neg hk, Bool.false_or]
        exact dhas_eq r
theorem dput_map {i : Int} {v : V} {d : D} (hv : Rp K A H v d) : ∀ {ks : List (Key × V)} {ds : List D}, RpL K A H (ks.map (·.2)) ds → ∃ ds', RpL K A H ((ks.map fun kv => if kv.1 = Sum.inl i then (kv.1, v) else kv).map (·.2)) ds' ∧
    ((ks.map fun p => keyD p.1).zip ds).map (fun p => if isKeyI i p.1 then (p.1, d) else p) = ((ks.map fun kv => if kv.1 = Sum.inl i then (kv.1, v) else kv).map fun p => keyD p.1).zip ds'
  | [], ds, r => by cases r; exact ⟨[], .nil, rfl⟩
  | (k, w) :: ks, ds, r => by
    cases r with
    | @cons _ _ d0 ds0 h r =>
      obtain ⟨ds', r', e⟩ := dput_map hv r
      simp only [List.map_cons, List.zip_cons_cons, keyD_is]
      by_cases hk : k = Sum.inl i
      · refine ⟨d :: ds', ?_, ?_⟩
        · rw [if_pos hk]; exact .cons hv r'
        · rw [if_pos hk, decide_eq_true hk, if_pos rfl, e]; rfl
      · refine ⟨d0 :: ds', ?_, ?_⟩
        · rw [if_neg hk]; exact .cons h r'
        · rw [if_neg hk, decide_eq_false hk, if_neg Bool.false_ne_true, e]; rfl
theorem dput_ok {i : Int} {v : V} {d : D} (hv : Rp K A H v d) {ks : List (Key × V)} {ds : List D} (r : RpL K A H (ks.map (·.2)) ds) : ∃ ds', RpL K A H ((putK ks (Sum.inl i) v).map (·.2)) ds' ∧
    dPutD ((ks.map fun p => keyD p.1).zip ds) i d = ((putK ks (Sum.inl i) v).map fun p => keyD p.1).zip ds' := by
  unfold dPutD putK
  rw [dhas_eq r, valV_any]
  by_cases hh : (valV ks (Sum.inl i)).isSome = true
  · rw [if_pos hh, if_pos hh]
    exact dput_map hv r
  · rw [if_neg hh, if_neg hh]
    refine ⟨ds ++ [d], ?_, ?_⟩
    · rw [List.map_append]
      exact RpL.app (.one hv) r
    · rw [List.map_append]
      have hl : (ks.map fun p => keyD p.1).length = ds.length := by
        have := r.length
        simpa using this
      rw [List.zip_append hl]
      rfl
/-- a value that stands for a dict -/
theorem WRp.dict {v : V} {kd : List (D × D)} (h : WRp K A H v (.dict kd)) (hs : ∀ xs, kd ≠ [(.none, .list xs)]) : ∃ a ks ds, v = .ref a ∧ H a = some (.dK ks) ∧ RpL K A H (ks.map (·.2)) ds ∧ kd = (ks.map fun p => keyD p.1).zip ds := by
  rcases h with h | ⟨a, e, h⟩
  · cases h with
    | scr h n r => exact absurd rfl (hs _)
    | kl h r => exact absurd rfl (hs _)
    | dic h n r e => exact ⟨_, _, _, rfl, h, r, e⟩
  · cases h with
    | dic h r z => exact ⟨_, _, _, e, h, r, z⟩
end
def oIxK : D → D → Option D
  | .dict kd, .int i => if (kd.any fun p => isNone p.1) then none else dGetD kd i
  | _, _ => none
def oInK : D → D → Option D
  | .int i, .dict kd => if (kd.any fun p => isNone p.1) then none else some (.bool (dHasD kd i))
  | _, _ => none
def oNotInK : D → D → Option D
  | .int i, .dict kd => if (kd.any fun p => isNone p.1) then none else some (.bool (!dHasD kd i))
  | _, _ => none
theorem no_scr {kd : List (D × D)} (h : ¬ (kd.any fun p => isNone p.1) = true) : ∀ xs, kd ≠ [(.none, .list xs)] := fun xs e => by
  subst e
  exact h rfl
section
variable {X : Cx} {O Ob Oc : List Nat} {m ma mb : Md} {k : Nat} {a b e : Expr} {fa fb f : Xp} {pos p1 p2 : Pos}
theorem hu1 {A : Around} (hr : Room k A) : A.units + 1 < cLine := by have := hr.un; omega
theorem se_new : SE X O .f (.Dict [] [] pos) (xC (.dict [])) := by
  refine ⟨pe_imp pe_dnewK fun σ H Q q => ?_⟩
  obtain ⟨H0, A0, G, ρ, B, d, S, e, k⟩ := q
  cases e
  exact fun p hp => k _ _ (same_upd hp) (.inl ⟨p, rfl, hp, .dic (ks := []) (ds := []) upd_same .nil rfl⟩)
theorem se_dget (hr : Room k X.A) (ha : SE X O ma a fa) (hb : SE X O mb b fb) (hs : NoSl b := by exact fun _ _ => rfl) : SE X O .s (.Subscript a b pos) (xBin oIxK fa fb) := by
  refine ⟨pe_imp (pe_dget (hu1 hr) ha.pe hb.pe hs) fun σ H Q q => ?_⟩
  obtain ⟨H0, A0, G, ρ, B, d, S, e, k⟩ := q
  obtain ⟨x, ex, e⟩ := bind2 e
  obtain ⟨y, ey, e⟩ := bind2 e
  refine ⟨H0, A0, G, ρ, B, x, S, ex, fun v H1 s1 r1 => ⟨H0, A0, G, ρ, B, y, S.mono s1, ey, fun u H2 s2 r2 => ?_⟩⟩
  unfold oIxK at e
  split at e
  · split at e
    · cases e
    · rename_i hn
      obtain ⟨t, ks, ds, rfl, ht, rt, ek⟩ := (r1.toW.mono s2).dict (no_scr hn)
      rw [ek] at e
      obtain ⟨w, ew, rw'⟩ := dget_some rt e
      exact ⟨t, w, rfl, by rw [← ew, r2.toW.int]; exact DGet.k (k := Sum.inl _) ht, k _ H2 (s1.trans s2) rw'⟩
  · cases e
theorem se_dset_dummy : True := trivial
theorem tIn_of {g : D → D → Option D} (σ : L2.St) (H : Hp) (Q : VK) (hg : ∀ x y z, g x y = some z → ∃ i kd, x = .int i ∧ y = .dict kd ∧ ¬ (kd.any fun p => isNone p.1) = true ∧ z = .bool (dHasD kd i)) (q : simT X.K O .f (xBin g fa fb) σ H Q) : tDIn (simT X.K O ma fa) (simT X.K O mb fb) σ H Q := by
  obtain ⟨H0, A0, G, ρ, B, d, S, e, k⟩ := q
  obtain ⟨x, ex, e⟩ := bind2 e
  obtain ⟨y, ey, e⟩ := bind2 e
  obtain ⟨i, kd, rfl, rfl, hn, rfl⟩ := hg _ _ _ e
  refine ⟨H0, A0, G, ρ, B, _, S, ex, fun v H1 s1 r1 => ⟨H0, A0, G, ρ, B, _, S.mono s1, ey, fun u H2 s2 r2 => ?_⟩⟩
  obtain ⟨t, ks, ds, rfl, ht, rt, ek⟩ := r2.toW.dict (no_scr hn)
  refine ⟨t, valV ks (Sum.inl i), rfl, by rw [r1.toW.int]; exact DGet.k (k := Sum.inl _) ht, k _ H2 (s1.trans s2) ?_⟩
  rw [ek, dhas_eq rt]
  exact Res.bl
theorem tNotIn_of {g : D → D → Option D} (σ : L2.St) (H : Hp) (Q : VK) (hg : ∀ x y z, g x y = some z → ∃ i kd, x = .int i ∧ y = .dict kd ∧ ¬ (kd.any fun p => isNone p.1) = true ∧ z = .bool (!dHasD kd i)) (q : simT X.K O .f (xBin g fa fb) σ H Q) : tDNotIn (simT X.K O ma fa) (simT X.K O mb fb) σ H Q := by
  obtain ⟨H0, A0, G, ρ, B, d, S, e, k⟩ := q
  obtain ⟨x, ex, e⟩ := bind2 e
  obtain ⟨y, ey, e⟩ := bind2 e
  obtain ⟨i, kd, rfl, rfl, hn, rfl⟩ := hg _ _ _ e
  refine ⟨H0, A0, G, ρ, B, _, S, ex, fun v H1 s1 r1 => ⟨H0, A0, G, ρ, B, _, S.mono s1, ey, fun u H2 s2 r2 => ?_⟩⟩
  obtain ⟨t, ks, ds, rfl, ht, rt, ek⟩ := r2.toW.dict (no_scr hn)
  refine ⟨t, valV ks (Sum.inl i), rfl, by rw [r1.toW.int]; exact DGet.k (k := Sum.inl _) ht, k _ H2 (s1.trans s2) ?_⟩
  rw [ek, dhas_eq rt]
  exact Res.bl
theorem inK_shape {x y z : D} (h : oInK x y = some z) : ∃ i kd, x = .int i ∧ y = .dict kd ∧ ¬ (kd.any fun p => isNone p.1) = true ∧ z = .bool (dHasD kd i) := by
  unfold oInK at h
  split at h
  · split at h
    · cases h
    · rename_i hn
      cases h
      exact ⟨_, _, rfl, rfl, hn, rfl⟩
  · cases h
theorem notInK_shape {x y z : D} (h : oNotInK x y = some z) : ∃ i kd, x = .int i ∧ y = .dict kd ∧ ¬ (kd.any fun p => isNone p.1) = true ∧ z = .bool (!dHasD kd i) := by
  unfold oNotInK at h
  split at h
  · split at h
    · cases h
    · rename_i hn
      cases h
      exact ⟨_, _, rfl, rfl, hn, rfl⟩
  · cases h
theorem se_din (hr : Room k X.A) (ha : SE X O ma a fa) (hb : SE X O mb b fb) (hm : behindInMarks .In b = false := by rfl) : SE X O .f (.Compare a [.In] [b] pos) (xBin oInK fa fb) := ⟨pe_imp (pe_cmp (pc_din (hu1 hr) ha.pe hb.pe) hm) fun σ H Q q => tIn_of σ H Q (fun _ _ _ => inK_shape) q⟩
theorem se_dnotin (hr : Room k X.A) (ha : SE X O ma a fa) (hb : SE X O mb b fb) (hm : behindInMarks .NotIn b = false := by rfl) : SE X O .f (.Compare a [.NotIn] [b] pos) (xBin oNotInK fa fb) := ⟨pe_imp (pe_cmp (pc_dnotin (hu1 hr) ha.pe hb.pe) hm) fun σ H Q q => tNotIn_of σ H Q (fun _ _ _ => notInK_shape) q⟩
theorem tB_of {g : D → D → Option D} {t : TE} (σ : L2.St) (H : Hp) (Q : Bool → Hp → Prop) (ht : ∀ Q, simT X.K O .f (xBin g fa fb) σ H Q → t σ H Q) (q : simTT X.K O (tOf (xBin g fa fb)) σ H Q) : tB t σ H Q := by
  obtain ⟨H0, A0, G, ρ, B, b, S, e, k⟩ := q
  obtain ⟨d, ed, e⟩ := bind2 e
  have := dB_some e
  subst this
  exact ht _ ⟨H0, A0, G, ρ, B, _, S, ed, fun v H' s r => ⟨b, r.toW.bl, k H' s⟩⟩
theorem st_din (hr : Room k X.A) (ha : SE X O ma a fa) (hb : SE X O mb b fb) (hm : behindInMarks .In b = false := by rfl) : ST X O (.Compare a [.In] [b] pos) (tOf (xBin oInK fa fb)) := ⟨pt_imp (pt_cmp (pc_din (hu1 hr) ha.pe hb.pe) hm) fun σ H Q q => tB_of σ H Q (fun Q q => tIn_of σ H Q (fun _ _ _ => inK_shape) q) q⟩
theorem st_dnotin (hr : Room k X.A) (ha : SE X O ma a fa) (hb : SE X O mb b fb) (hm : behindInMarks .NotIn b = false := by rfl) : ST X O (.Compare a [.NotIn] [b] pos) (tOf (xBin oNotInK fa fb)) := ⟨pt_imp (pt_cmp (pc_dnotin (hu1 hr) ha.pe hb.pe) hm) fun σ H Q q => tB_of σ H Q (fun Q q => tNotIn_of σ H Q (fun _ _ _ => notInK_shape) q) q⟩
/-- x[j] = e, a dict -/
def sPutK (i : Nat) (fj f : Xp) : XS := fun ρ => (f ρ).bind fun y => (xVar i ρ).bind fun x => (fj ρ).bind fun j => match x, j with
  | .dict kd, .int j => if kd.length < 16777216 ∧ i < ρ.length then some (.nx (ρ.set i (some (.dict (dPutD kd j y))))) else none
  | _, _ => none
theorem ownK_of {K : PySem.W.Frag} {H0 H : Hp} {A0 : Addr → Prop} {G : List (V × D)} {σ : L2.St} {ρ : PEnv} {B : Nat → Option Addr} {i : Nat} {kd : List (D × D)} (S : Sim K H0 A0 G O σ H ρ B) (hi : O.contains i = true) (e : xVar i ρ = some (.dict kd)) : ∃ a ks ds, B i = some a ∧ σ[i]? = some (some (.ref a)) ∧ H a = some (.dK ks) ∧ RpL K (Av A0 B) H (ks.map (·.2)) ds ∧ kd = (ks.map fun p => keyD p.1).zip ds := by
  obtain ⟨a, h1, h2, h3⟩ := S.ob i _ (by simpa using hi) (getD_some e) rfl
  cases h3 with
  | dic h r z => exact ⟨a, _, _, h1, h2, h, r, z⟩
theorem ss_putK (i : Nat) {x : Str} {j : Expr} {fj : Xp} (hr : Room k X.A) (he : SE X O m e f) (hj : SE X O mb j fj) (hm : m ≠ .w := by decide) (hO : O.contains i = true := by rfl) (hN : X.N[i]? = some x := by rfl) (hv : Vis X.env.scope x := by first | exact Or.inl rfl | exact Or.inr (Or.inl rfl) | exact Or.inr (Or.inr rfl))
    (hd : (x == ("__debug__" : Str)) = false := by decide) (hcd : (x == ("__classdict__" : Str)) = false := by decide) (hs : swapsWith e (some (.Subscript (.Name x p1) j p2)) pos.line X.env = pure false := by rfl) : SS X O Ob Oc O (.Assign [.Subscript (.Name x p1) j p2] e pos) (sPutK i fj f) := by
  refine ⟨ps_imp (ps_dput (hu1 hr) (pe_var hN hv hd hcd) hj.pe he.pe hs) fun D σ H q => ?_⟩
  obtain ⟨H0, A0, G, ρ, B, o, S, e, k⟩ := q
  obtain ⟨y, ey, e⟩ := bind2 e
  obtain ⟨d, ed, e⟩ := bind2 e
  obtain ⟨z, ez, e⟩ := bind2 e
  split at e
  · split at e
    · rename_i hz
      cases e
      obtain ⟨a, ks, ds, hB, hσ, ha, ra, ek⟩ := ownK_of S hO ed
      refine ⟨H0, A0, G, ρ, B, y, S, ey, fun v H1 s1 r1 => ⟨.ref a, hσ, H0, A0, G, ρ, B, _, S.mono s1, ez, fun u H2 s2 r2 => ?_⟩⟩
      have s12 := s1.trans s2
      have S1 := S.mono s12
      have av : Av A0 B a := .inr ⟨i, hB⟩
      have hlen : ks.length < sizeLine := by
        have e1 : ks.length = ds.length := by simpa using ra.length
        have e2 := hz.1
        rw [ek, List.length_zip, List.length_map, e1, Nat.min_self] at e2
        rw [e1]
        exact e2
      obtain ⟨ds', r', e'⟩ := dput_ok (i := _) ((r1.toS S.tr hm).mono s2) (ra.mono s12)
      refine ⟨a, _, rfl, by rw [r2.toW.int]; exact DPut.k (k := Sum.inl _) (s12 _ _ ha) hlen, ?_⟩
      rw [ek] at k
      refine k _ _ B (S1.write hB hσ (.dic upd_same (r'.step (fun b o e n => ?_) fun _ z => .inl z) e') hz.2)
      rw [upd_ne (fun z => n (by rw [z]; exact av))]
      exact e
    · cases e
  · cases e

/-! ### the least and the greatest of ints -/
def bMinI : List D → Option D
  | [x] => (seqD x).bind fun xs => (asInts xs).bind fun ns => ns.min?.map .int
  | _ => none
def bMaxI : List D → Option D
  | [x] => (seqD x).bind fun xs => (asInts xs).bind fun ns => ns.max?.map .int
  | _ => none
theorem cb_minI (hc : X.calm = true := by rfl) : CallR X (.builtin "min") (rC X.K .f bMinI) := by
  intro pins s σ H vs us Q I r ⟨A, ds, d, tr, w, e, q⟩
  unfold bMinI at e
  split at e
  · obtain ⟨v, rfl, w1⟩ := p1 w
    obtain ⟨xs, e1, e⟩ := bind2 e
    obtain ⟨ns, e2, e⟩ := bind2 e
    obtain ⟨mn, e3, e⟩ := Option.map_eq_some_iff.mp e
    subst e
    obtain ⟨a, vs, rfl, ha, ra⟩ := w1.seq e1
    rw [ref1 r]
    have hv := ra.ints e2
    subst hv
    refine call_min_walk (sq_iter (show X.A.in1.handled = none from I.ok.hd hc) I ha fun its J fp wr St h₂ rv W st hfp kp => ?_)
    have hl := rv.length
    rw [List.length_map] at hl
    have hne : 0 < ns.length := by
      cases ns with
      | nil => simp at e3
      | cons _ _ => simp
    refine ⟨_, _, _, _, _, _, _, rfl, W, st, hfp, by omega, CmpOf.ints_lt (fun i => ns.getD i 0) (fun i v h => intsAt rv i v h), fun v h' tk hv hk => ?_⟩
    obtain ⟨t, rfl⟩ := intsAt rv _ _ hv
    obtain ⟨b1, b2⟩ := argBest_lt (fun i => ns.getD i 0) (its.length - 1)
    refine ⟨.int mn, H, I.kept (kp h' hk), ⟨t, ?_⟩, q _ H (Same.refl H) Res.int⟩
    congr 1
    rw [List.min?_eq_some_iff] at e3
    refine Int.le_antisymm ?_ ?_
    · obtain ⟨i, hi, e4⟩ := List.mem_iff_getElem.mp e3.1
      have := b2 i (by omega)
      simp only [List.getD_eq_getElem?_getD, List.getElem?_eq_getElem hi, Option.getD_some] at this
      rw [e4] at this
      simpa [List.getD_eq_getElem?_getD] using this
    · have hb : argBest (fun i j => decide (ns.getD i 0 < ns.getD j 0)) (its.length - 1) < ns.length := by
        have h1 : argBest (fun i j => decide (ns.getD i 0 < ns.getD j 0)) (its.length - 1) ≤ its.length - 1 := b1
        omega
      exact e3.2 _ (by rw [List.getD_eq_getElem?_getD, List.getElem?_eq_getElem hb]; exact List.getElem_mem hb)
  · cases e
end
end Pm

namespace Pm
open PySem PySem.Spec PyProof.Rows L2
/-! ### a def behind the top -/
abbrev FnP (K : PySem.W.Frag) (x : Str) (st : Stmt) (f : Addr) (fd : FuncData) : Prop := FunD K x x (defArgs st) (defBody st) (defScope st) [] [] f fd
theorem fnp_ok {P : Program} {w : World} {K : PySem.W.Frag} {mg : Str → Option Value} {base : Heap} {x : Str} {st : Stmt} {f : Addr} {fd : FuncData} {N ps : List Str} {k : Nat} {O' : List Nat} {g : XS} (F : FnP K x st f fd) (S : FnScope N ps (defScope st))
    (hb : ∀ (cdv : Value) (A : Around) (outer : List Env) (s : Shared) (H : Hp) (E : XK), Room k (A.deeper (envOfC x (defScope st) s.heap.objs.size f cdv)) → SSs (cxOf CX0 P w K mg base N x (defScope st) f cdv A outer s H E).nox [] [] [] O' (defBody st) g) :
    FnOk P w K mg base CX0 (k + 1) f fd ps (spD K ps.length (runD ps.length N.length g)) := by
  refine F.ok S (fun vs H Q E h => ?_) (fun cdv A outer s H vs Q E hr h => ?_)
  · obtain ⟨A, ds, d, t, hn, _⟩ := h
    exact hn
  · obtain ⟨A', ds, d, t, hn, r, e, q⟩ := h
    obtain ⟨o, eo, e⟩ := bind2 e
    refine ⟨_, PSs.nox (hb cdv A outer s H E hr).pss, H, A', [], _, fun _ => none, o, sim_start t r hn, eo, ?_⟩
    cases o with
    | nx ρ => cases e; exact fun σ' H' B' S' => q .non H' S'.same .non
    | rt d' => cases e; exact fun v H' s' r' => q v H' s' r'
    | bk ρ => cases e
    | ct ρ => cases e
/-- a def that is never called keeps every promise -/
theorem fn_none {P : Program} {w : World} {K : PySem.W.Frag} {mg : Str → Option Value} {base : Heap} {x : Str} {st : Stmt} {f : Addr} {fd : FuncData} {N ps : List Str} {k : Nat} (F : FnP K x st f fd) (S : FnScope N ps (defScope st)) : FnOk P w K mg base CX0 (k + 1) f fd ps (spD K ps.length fun _ => none) := by
  refine F.ok S (fun vs H Q E h => ?_) (fun cdv A outer s H vs Q E hr h => ?_)
  · obtain ⟨A, ds, d, t, hn, _⟩ := h
    exact hn
  · obtain ⟨A', ds, d, t, hn, r, e, q⟩ := h
    cases e
theorem rpl_ints {K : PySem.W.Frag} {A : Addr → Prop} {H : Hp} : ∀ ns : List Int, RpL K A H (ns.map V.int) (ns.map PyData.int)
  | [] => .nil
  | n :: ns => .cons (.int n) (rpl_ints ns)
/-- what the end asks of the law's def -/
theorem sp_law {K : PySem.W.Frag} {F : List D → Option D} {n : Nat} (hF : ∀ ns : List Int, ns.length ≤ n → F [scr (ns.map PyData.int)] = some (.bool true)) (H : Hp) (a : Addr) (ns : List Int) (hl : ns.length ≤ n) (_ : Only H) (hS : SqL K H a (ns.map V.int)) :
    spD K 1 F [.ref a] H (fun v _ => v = .bl true) fun _ _ _ => False := by
  refine ⟨fun _ => False, [scr (ns.map PyData.int)], .bool true, fun _ z => z.elim, rfl, .cons ?_ .nil, hF ns hl, fun v H' s r => ?_⟩
  · rcases hS with h | h
    · exact .scr h id (rpl_ints ns)
    · exact .kl h (rpl_ints ns)
  · cases r
    rfl
end Pm

/-! Pm: ranges laid out at once. -/
namespace Pm
open PySem PySem.Spec PyProof.Rows L2
def oRgT (lo hi : Int) : Option (List D) := if -(2 ^ 62) ≤ lo ∧ lo < 2 ^ 62 ∧ -(2 ^ 62) ≤ hi ∧ hi < 2 ^ 62 ∧ (hi - lo).toNat ≤ 2 ^ 24 then some (rangeD lo 1 (hi - lo).toNat) else none
def oTupR1 : D → Option D
  | .int n => (oRgT 0 n).map .tuple
  | _ => none
def oLstR1 : D → Option D
  | .int n => (oRgT 0 n).map .list
  | _ => none
def oTupR2 : D → D → Option D
  | .int a, .int n => (oRgT a n).map .tuple
  | _, _ => none
def oLstR2 : D → D → Option D
  | .int a, .int n => (oRgT a n).map .list
  | _, _ => none
theorem rpl_rg {K : PySem.W.Frag} {A : Addr → Prop} {H : Hp} (a b : Int) : RpL K A H (rgV a b) (rangeD a 1 (b - a).toNat) := by
  unfold rgV rangeD
  induction List.range (b - a).toNat with
  | nil => exact .nil
  | cons i r ih =>
    refine .cons ?_ ih
    have e : a + (i : Nat) * 1 = a + (i : Nat) := by rw [Int.mul_one]
    show Rp K A H (V.int (a + (i : Nat))) (PyData.int (a + (i : Nat) * 1))
    rw [e]
    exact .int _
section
variable {X : Cx} {O : List Nat} {m m' : Md} {a b : Expr} {fa fb : Xp} {p p2 pos pos2 : Pos}
theorem se_tupR1 (h1 : X.mg "tuple" = none) (h2 : X.mg "range" = none) (ha : SE X O m a fa) (hc : X.calm = true := by rfl) (hg : L2.Gl X "tuple" := by rfl) (hg2 : L2.Gl X "range" := by rfl) (na : starEach [a] X.env = (false, eval a X.env) :: starEach [] X.env := by rfl)
    (na2 : starEach [Expr.Call (.Name "range" p) [a] [] pos] X.env = (false, eval (Expr.Call (.Name "range" p) [a] [] pos) X.env) :: starEach [] X.env := by rfl) : SE X O .f (.Call (.Name "tuple" p2) [.Call (.Name "range" p) [a] [] pos] [] pos2) (xUn oTupR1 fa) := by
  refine ⟨pe_imp (pe_tupRg hc hg h1 (prg_1 hg2 h2 ha.pe na) na2) fun σ H Q q => ?_⟩
  obtain ⟨H0, A0, G, ρ, B, d, S, e, k⟩ := q
  obtain ⟨y, ey, e⟩ := bind2 e
  refine ⟨H0, A0, G, ρ, B, y, S, ey, fun v H1 s1 r1 => ?_⟩
  unfold oTupR1 at e
  split at e
  · obtain ⟨ds, e1, e⟩ := Option.map_eq_some_iff.mp e
    subst e
    unfold oRgT at e1
    split at e1
    · rename_i hz
      cases e1
      exact ⟨_, r1.toW.int, ⟨hz.1, hz.2.1, hz.2.2.1, hz.2.2.2.1, hz.2.2.2.2⟩, fun q hq => k _ _ (s1.trans (same_upd hq)) (Res.flat (Rp.newT (S.mono s1).tr hq (rpl_rg _ _)) rfl)⟩
    · cases e1
  · cases e
theorem se_lstR1 (h1 : X.mg "list" = none) (h2 : X.mg "range" = none) (ha : SE X O m a fa) (hc : X.calm = true := by rfl) (hg : L2.Gl X "list" := by rfl) (hg2 : L2.Gl X "range" := by rfl) (na : starEach [a] X.env = (false, eval a X.env) :: starEach [] X.env := by rfl)
    (na2 : starEach [Expr.Call (.Name "range" p) [a] [] pos] X.env = (false, eval (Expr.Call (.Name "range" p) [a] [] pos) X.env) :: starEach [] X.env := by rfl) : SE X O .f (.Call (.Name "list" p2) [.Call (.Name "range" p) [a] [] pos] [] pos2) (xUn oLstR1 fa) := by
  refine ⟨pe_imp (pe_listRg hc hg h1 (prg_1 hg2 h2 ha.pe na) na2) fun σ H Q q => ?_⟩
  obtain ⟨H0, A0, G, ρ, B, d, S, e, k⟩ := q
  obtain ⟨y, ey, e⟩ := bind2 e
  refine ⟨H0, A0, G, ρ, B, y, S, ey, fun v H1 s1 r1 => ?_⟩
  unfold oLstR1 at e
  split at e
  · obtain ⟨ds, e1, e⟩ := Option.map_eq_some_iff.mp e
    subst e
    unfold oRgT at e1
    split at e1
    · rename_i hz
      cases e1
      exact ⟨_, r1.toW.int, ⟨hz.1, hz.2.1, hz.2.2.1, hz.2.2.2.1, hz.2.2.2.2⟩, fun q hq => k _ _ (s1.trans (same_upd hq)) (Res.newL (S.mono s1).tr hq (rpl_rg _ _) s1)⟩
    · cases e1
  · cases e
end
section
variable {X : Cx} {O : List Nat} {e : Expr} {es : List Expr} {fs : XL} {pos p : Pos} {k j : Nat} {x : Str} {ps : List Str} {F : List D → Option D} {P : Program} {w : World} {K : PySem.W.Frag} {mg : Str → Option Value} {base : Heap} {A : Around}
/-- a call of a def of the text, the context's parts by name -/
theorem se_callD (hd : Def P w K mg base k x ps F) (hr : Room j A) (ha : SA X O true (e :: es) fs) (hk : k ≤ j := by decide) (hX : X.prog = P ∧ X.w = w ∧ X.K = K ∧ X.mg = mg ∧ X.base = base ∧ X.A = A := by exact ⟨rfl, rfl, rfl, rfl, rfl, rfl⟩) (hl : (e :: es).length = ps.length := by rfl) (hg : L2.Gl X x := by rfl) (hdb : (x == ("__debug__" : Str)) = false := by decide)
    (he : starEach (e :: es) X.env = (false, eval e X.env) :: starEach es X.env := by rfl) (hpl : (backTo pos (starEach es X.env)).any (·.1) = false := by rfl) : SE X O .s (.Call (.Name x p) (e :: es) [] pos) (xCall (fun ds => if ds.length = ps.length then F ds else none) fs) := by
  obtain ⟨rfl, rfl, rfl, rfl, rfl, rfl⟩ := hX
  exact se_call hd hr ha hk hl hg hdb he hpl
theorem se_callWD (hd : Def P w K mg base k x ps F) (hr : Room j A) (ha : SA X O false (e :: es) fs) (hk : k ≤ j := by decide) (hX : X.prog = P ∧ X.w = w ∧ X.K = K ∧ X.mg = mg ∧ X.base = base ∧ X.A = A := by exact ⟨rfl, rfl, rfl, rfl, rfl, rfl⟩) (hg : L2.Gl X x := by rfl) (hdb : (x == ("__debug__" : Str)) = false := by decide)
    (he : starEach (e :: es) X.env = (false, eval e X.env) :: starEach es X.env := by rfl) (hpl : (backTo pos (starEach es X.env)).any (·.1) = false := by rfl) : SE X O .f (.Call (.Name x p) (e :: es) [] pos) (xCall (fun ds => if ds.length = ps.length then (F ds).bind fun d => if flat d then some d else none else none) fs) := by
  obtain ⟨rfl, rfl, rfl, rfl, rfl, rfl⟩ := hX
  exact se_callW hd hr ha hk hg hdb he hpl
end
end Pm

/-! Pm: a tuple taken once. -/
namespace Pm
open PySem PySem.Spec PyProof.Rows L2
theorem tuple_mul1 (l : Addr) (items : Array Value) (n : Nat) (dd : Option Addr) (sl : Array (Option Value)) (x : Int) (u : Tok) (c0 : (decide (x < -(2 ^ 63)) || decide (x ≥ 2 ^ 63)) = false) (c1 : (items.isEmpty || x == 1) = true) :
    Meets (Builtin.«tuple.__mul__» ⟨[.ref l, .int x u], []⟩) (fun _ R s => s.heap.get? l = some { cls := .type "tuple", dict := dd, data := .seq items n, slots := sl } ∧
      R (.ok (.ret (Value.ref l))) s) :=
  .of_wp fun prog w A R s h => by
    obtain ⟨hp, g, d, tk, os⟩ := s
    obtain ⟨hl, h⟩ := h
    have f1 := AutoSeq1.idx_int
    wp_walk using wpAny_loadPart' hl
    repeat (first
      | (refine wpAny_ite_false (decide_eq_false (by rw [c0]; exact Bool.false_ne_true)) ?_; wp_walk using wpAny_loadPart' hl)
      | (refine wpAny_ite_true (decide_eq_true c1) ?_; wp_walk using wpAny_loadPart' hl))
    exact ⟨_, rfl, h⟩
theorem tuple_mul0 (l : Addr) (items : Array Value) (n : Nat) (dd : Option Addr) (sl : Array (Option Value)) (x : Int) (u : Tok) (c0 : (decide (x < -(2 ^ 63)) || decide (x ≥ 2 ^ 63)) = false) (c1 : (items.isEmpty || x == 1) = false) (c2 : (decide (x ≤ 0) || items.isEmpty) = true) :
    Meets (Builtin.«tuple.__mul__» ⟨[.ref l, .int x u], []⟩) (fun _ R s => s.heap.get? l = some { cls := .type "tuple", dict := dd, data := .seq items n, slots := sl } ∧
      R (.ok (.ret (Value.ref s.heap.objs.size))) { s with heap := s.heap.push { cls := Value.type "tuple", data := Data.seq #[] }, toks := s.toks }) :=
  .of_wp fun prog w A R s h => by
    obtain ⟨hp, g, d, tk, os⟩ := s
    obtain ⟨hl, h⟩ := h
    have f1 := AutoSeq1.idx_int
    wp_walk using wpAny_loadPart' hl
    repeat (first
      | (refine wpAny_ite_false (decide_eq_false (by rw [c0]; exact Bool.false_ne_true)) ?_; wp_walk using wpAny_loadPart' hl)
      | (refine wpAny_ite_false (decide_eq_false (by rw [c1]; exact Bool.false_ne_true)) ?_; wp_walk using wpAny_loadPart' hl)
      | (refine wpAny_ite_true (decide_eq_true c2) ?_; wp_walk using wpAny_loadPart' hl))
    exact ⟨_, rfl, h⟩
def rRepS (K : PySem.W.Frag) : R2 := fun x y H Q => ∃ l k xs, x = .ref l ∧ y = .int k ∧ SqT K H l xs ∧ -(2 ^ 62) ≤ k ∧ k ≤ 1000 ∧ (xs = [] ∨ k = 1) ∧ Q (.ref l) H
def rRep0 (K : PySem.W.Frag) : R2 := fun x y H Q => ∃ l k xs, x = .ref l ∧ y = .int k ∧ SqT K H l xs ∧ -(2 ^ 62) ≤ k ∧ k ≤ 0 ∧ xs ≠ [] ∧ ∀ p, H p = none → Q (.ref p) (upd H p (.tup []))
section
variable {X : Cx}
theorem op_repS : OpR X (binaryOp .Mult) (rRepS X.K) := by
  intro pins s σ H x y v u Q I rx ry h
  obtain ⟨l, k, xs, rfl, rfl, hT, h1, h2, hz, q⟩ := h
  cases rx
  obtain ⟨t, rfl⟩ := ry
  obtain ⟨its, r, ⟨⟨cls, dd, data, sl⟩, ho, hc, n, hd⟩, hs⟩ := I.tuple hT
  simp only at hc hd
  subst hc hd
  have c0 : (decide (k < -(2 ^ 63)) || decide (k ≥ 2 ^ 63)) = false := by
    rw [decide_eq_false (by omega), decide_eq_false (by omega)] <;> rfl
  have c1 : (its.toArray.isEmpty || k == 1) = true := by
    rcases hz with hz | hz
    · subst hz
      cases r
      rfl
    · rw [hz, Bool.or_eq_true]
      exact .inr rfl
  exact wpAny_binaryOp_repeat_ref (T := "tuple") (U := "int") (by decide) ⟨_, ho, rfl⟩ (fun s' => typeIs_int s' k t) noFill_tuple_mul F.fills_int_mul F.slot_int_rmul repeat_tuple F.slot_int_index.lookup
    (call_meets F.slot_int_rmul (typeIs_int s k t) F.entry_int_rmul (F.args_int_rmul_2 _ _) (int_rmul_tuple k t l its.toArray n dd sl)
      ⟨ho, rfl, ⟨_, ho, rfl⟩, call_meets F.slot_tuple_mul ⟨_, ho, rfl⟩ F.entry_tuple_mul (F.args_tuple_mul_2 _ _) (tuple_mul1 l its.toArray n dd sl k t c0 c1) ⟨ho, ⟨.ref l, H, I, rfl, q⟩⟩⟩)
theorem op_rep0 : OpR X (binaryOp .Mult) (rRep0 X.K) := by
  intro pins s σ H x y v u Q I rx ry h
  obtain ⟨l, k, xs, rfl, rfl, hT, h1, h2, hz, q⟩ := h
  cases rx
  obtain ⟨t, rfl⟩ := ry
  obtain ⟨its, r, ⟨⟨cls, dd, data, sl⟩, ho, hc, n, hd⟩, hs⟩ := I.tuple hT
  simp only at hc hd
  subst hc hd
  have c0 : (decide (k < -(2 ^ 63)) || decide (k ≥ 2 ^ 63)) = false := by
    rw [decide_eq_false (by omega), decide_eq_false (by omega)] <;> rfl
  have hi : its.toArray.isEmpty = false := by
    cases r with
    | nil => exact absurd rfl hz
    | cons => rfl
  have c1 : (its.toArray.isEmpty || k == 1) = false := by
    rw [hi, Bool.false_or]
    exact beq_eq_false_iff_ne.mpr (by omega)
  have c2 : (decide (k ≤ 0) || its.toArray.isEmpty) = true := by
    rw [decide_eq_true h2, Bool.true_or]
  refine wpAny_binaryOp_repeat_ref (T := "tuple") (U := "int") (by decide) ⟨_, ho, rfl⟩ (fun s' => typeIs_int s' k t) noFill_tuple_mul F.fills_int_mul F.slot_int_rmul repeat_tuple F.slot_int_index.lookup
    (call_meets F.slot_int_rmul (typeIs_int s k t) F.entry_int_rmul (F.args_int_rmul_2 _ _) (int_rmul_tuple k t l its.toArray n dd sl)
      ⟨ho, rfl, ⟨_, ho, rfl⟩, call_meets F.slot_tuple_mul ⟨_, ho, rfl⟩ F.entry_tuple_mul (F.args_tuple_mul_2 _ _) (tuple_mul0 l its.toArray n dd sl k t c0 c1 c2) ⟨ho, ?_⟩⟩)
  refine ⟨.ref s.heap.objs.size, _, I.laid (t' := s.toks) (o := .tup []) (fun b ob q => Heap.get?_push_of_some _ q) (Nat.le_refl _) ?_, rfl, q _ (I.hok.fresh (Nat.le_refl _))⟩
  exact ⟨Nat.zero_le _, [], .nil, IsTup.new _ _⟩
end
/-- the product, tuples any number of times -/
def oMul' : D → D → Option D
  | .tuple a, .int k => if -(2 ^ 62) ≤ k ∧ k ≤ 1000 ∧ a.length ≤ 1000 then some (.tuple (List.replicate k.toNat a).flatten) else none
  | x, y => oMul x y
theorem op_mulD' {X : Cx} : OpR X (binaryOp .Mult) (rD X.K .f oMul') := by
  intro pins s σ H x y v u Q I rx ry h
  obtain ⟨A, dx, dy, d, tr, wx, wy, e, q⟩ := id h
  unfold oMul' at e
  split at e
  · rename_i a k
    split at e
    · rename_i hz
      cases e
      obtain ⟨l, xs, rfl, ha, na, ra⟩ := wx.tup
      by_cases h1 : xs = [] ∨ k = 1
      · refine op_repS pins s σ H _ _ v u Q I rx ry ⟨l, k, xs, rfl, wy.int, .of ha, hz.1, hz.2.1, h1, ?_⟩
        have e : (List.replicate k.toNat a).flatten = a := by
          rcases h1 with h1 | h1
          · subst h1
            cases ra
            simp
          · subst h1
            simp
        rw [e] at q
        exact q _ H (Same.refl H) (Res.flat (.tup ha na ra) rfl)
      · have h2 : xs ≠ [] := fun z => h1 (.inl z)
        by_cases h3 : k ≤ 0
        · refine op_rep0 pins s σ H _ _ v u Q I rx ry ⟨l, k, xs, rfl, wy.int, .of ha, hz.1, h3, h2, fun p hp => ?_⟩
          have e : (List.replicate k.toNat a).flatten = [] := by
            rw [Int.toNat_of_nonpos h3]
            rfl
          rw [e] at q
          exact q _ _ (same_upd hp) (Res.flat (Rp.newT tr hp .nil) rfl)
        · have h4 : k ≠ 1 := fun z => h1 (.inr z)
          exact op_repT pins s σ H _ _ v u Q I rx ry ⟨l, k, xs, rfl, wy.int, .of ha, h2, by omega, hz.2.1, by rw [ra.length]; exact hz.2.2, fun p hp => q _ _ (same_upd hp) (Res.flat (Rp.newT tr hp (ra.rep _)) rfl)⟩
    · cases e
  · exact op_mulD pins s σ H x y v u Q I rx ry ⟨A, dx, dy, d, tr, wx, wy, e, q⟩
end Pm

/-! Pm: plain facts for reading the printed functions. -/
namespace Pm
open PySem PySem.Spec PyProof.Rows L2
/-! ### loops -/
theorem whileF_succ (c : PEnv → Option Bool) (b : XS) (n : Nat) (ρ : PEnv) : whileF c b (n + 1) ρ = (c ρ).bind fun t => if t then (b ρ).bind fun o => match o with
      | .nx ρ2 => whileF c b n ρ2
      | .ct ρ2 => whileF c b n ρ2
      | .bk ρ2 => some (.nx ρ2)
      | .rt d => some (.rt d)
    else some (.nx ρ) := rfl
/-- a loop that goes on n turns and ends -/
theorem whileF_run {c : PEnv → Option Bool} {b : XS} {f : Nat → PEnv} {n N : Nat} (hN : n < N) (ht : ∀ i, i < n → c (f i) = some true) (hb : ∀ i, i < n → b (f i) = some (.nx (f (i + 1)))) (he : c (f n) = some false) : whileF c b N (f 0) = some (.nx (f n)) := by
  suffices h : ∀ k i, i + k = n → ∀ N, k < N → whileF c b N (f i) = some (.nx (f n)) from h n 0 (by omega) N hN
  intro k
  induction k with
  | zero =>
    intro i hi N hN
    obtain ⟨N, rfl⟩ : ∃ M, N = M + 1 := ⟨N - 1, by omega⟩
    have : i = n := by omega
    subst this
    simp [whileF_succ, he]
  | succ k ih =>
    intro i hi N hN
    obtain ⟨N, rfl⟩ : ∃ M, N = M + 1 := ⟨N - 1, by omega⟩
    simp [whileF_succ, ht i (by omega), hb i (by omega)]
    exact ih (i + 1) (by omega) N (by omega)
theorem forL_nil (g : D → PEnv → Option PEnv) (b : XS) (ρ : PEnv) : forL g b [] ρ = some (.nx ρ) := rfl
/-- a loop whose turns fold -/
theorem forL_fold {α : Type} {g : D → PEnv → Option PEnv} {b : XS} (f : α → PEnv) (st : α → D → α) (P : α → List D → Prop) (hb : ∀ a d ds, P a (d :: ds) → (g d (f a)).bind b = some (.nx (f (st a d))) ∧ P (st a d) ds) :
    ∀ (ds : List D) (a : α), P a ds → forL g b ds (f a) = some (.nx (f (ds.foldl st a)))
  | [], a, _ => rfl
  | d :: ds, a, h => by
    obtain ⟨h1, h2⟩ := hb a d ds h
    obtain ⟨ρ1, e1, e2⟩ := bind2 h1
    simp only [forL, e1, e2, Option.bind_some, List.foldl_cons]
    exact forL_fold f st P hb ds _ h2
/-- a loop by an invariant over what is done and what is left -/
theorem forL_inv {β : Type} {g : D → PEnv → Option PEnv} {b : XS} (enc : β → D) (I : List β → List β → PEnv → Prop)
    (hb : ∀ pre x rest ρ, I pre (x :: rest) ρ → ∃ ρ1 ρ2, g (enc x) ρ = some ρ1 ∧ (b ρ1 = some (.nx ρ2) ∨ b ρ1 = some (.ct ρ2)) ∧ I (pre ++ [x]) rest ρ2) :
    ∀ (xs pre : List β) (ρ : PEnv), I pre xs ρ → ∃ ρ', forL g b (xs.map enc) ρ = some (.nx ρ') ∧ I (pre ++ xs) [] ρ'
  | [], pre, ρ, h => ⟨ρ, rfl, by rwa [List.append_nil]⟩
  | x :: xs, pre, ρ, h => by
    obtain ⟨ρ1, ρ2, e1, e2, h2⟩ := hb pre x xs ρ h
    obtain ⟨ρ', e3, h3⟩ := forL_inv enc I hb xs (pre ++ [x]) ρ2 h2
    refine ⟨ρ', ?_, by rwa [List.append_assoc] at h3⟩
    rcases e2 with e2 | e2
    · simp only [List.map_cons, forL, e1, e2, Option.bind_some, e3]
    · simp only [List.map_cons, forL, e1, e2, Option.bind_some, e3]
/-- the same where a turn may end the def -/
theorem forL_inv' {β : Type} {g : D → PEnv → Option PEnv} {b : XS} (enc : β → D) (I : List β → List β → PEnv → Prop) (R : D → Prop)
    (hb : ∀ pre x rest ρ, I pre (x :: rest) ρ → ∃ ρ1, g (enc x) ρ = some ρ1 ∧ ((∃ ρ2, (b ρ1 = some (.nx ρ2) ∨ b ρ1 = some (.ct ρ2)) ∧ I (pre ++ [x]) rest ρ2) ∨ ∃ d, b ρ1 = some (.rt d) ∧ R d)) :
    ∀ (xs pre : List β) (ρ : PEnv), I pre xs ρ → (∃ ρ', forL g b (xs.map enc) ρ = some (.nx ρ') ∧ I (pre ++ xs) [] ρ') ∨ ∃ d, forL g b (xs.map enc) ρ = some (.rt d) ∧ R d
  | [], pre, ρ, h => .inl ⟨ρ, rfl, by rwa [List.append_nil]⟩
  | x :: xs, pre, ρ, h => by
    obtain ⟨ρ1, e1, h | ⟨d, e2, h2⟩⟩ := hb pre x xs ρ h
    · obtain ⟨ρ2, e2, h2⟩ := h
      rcases forL_inv' enc I R hb xs (pre ++ [x]) ρ2 h2 with ⟨ρ', e3, h3⟩ | ⟨d, e3, h3⟩
      · refine .inl ⟨ρ', ?_, by rwa [List.append_assoc] at h3⟩
        rcases e2 with e2 | e2
        · simp only [List.map_cons, forL, e1, e2, Option.bind_some, e3]
        · simp only [List.map_cons, forL, e1, e2, Option.bind_some, e3]
      · refine .inr ⟨d, ?_, h3⟩
        rcases e2 with e2 | e2
        · simp only [List.map_cons, forL, e1, e2, Option.bind_some, e3]
        · simp only [List.map_cons, forL, e1, e2, Option.bind_some, e3]
    · exact .inr ⟨d, by simp only [List.map_cons, forL, e1, e2, Option.bind_some], h2⟩
/-! ### comprehensions -/
theorem lcL_map {α : Type} {g : XG} {f : Xp} {ρ : PEnv} (enc h : α → D) : ∀ (xs : List α), (∀ x ∈ xs, (g (enc x) ρ).bind f = some (h x)) → lcL g tYesP f ρ (xs.map enc) = some (xs.map h)
  | [], _ => rfl
  | x :: xs, hx => by
    obtain ⟨ρ1, e1, e2⟩ := bind2 (hx x (List.mem_cons_self ..))
    have := lcL_map (g := g) (f := f) (ρ := ρ) enc h xs fun y hy => hx y (List.mem_cons_of_mem _ hy)
    simp only [List.map_cons, lcL, e1, e2, tYesP, Option.bind_some, if_true, this]
theorem lcL_filter {α : Type} {g : XG} {t : PEnv → Option Bool} {f : Xp} {ρ : PEnv} (enc h : α → D) (p : α → Bool) : ∀ (xs : List α), (∀ x ∈ xs, ∃ ρ1, g (enc x) ρ = some ρ1 ∧ t ρ1 = some (p x) ∧ (p x = true → f ρ1 = some (h x))) → lcL g t f ρ (xs.map enc) = some ((xs.filter p).map h)
  | [], _ => rfl
  | x :: xs, hx => by
    obtain ⟨ρ1, e1, e2, e3⟩ := hx x (List.mem_cons_self ..)
    have := lcL_filter (g := g) (t := t) (f := f) (ρ := ρ) enc h p xs fun y hy => hx y (List.mem_cons_of_mem _ hy)
    by_cases hp : p x = true
    · simp only [List.map_cons, lcL, e1, e2, hp, e3 hp, Option.bind_some, if_true, this, List.filter_cons_of_pos]
    · simp only [List.map_cons, lcL, e1, e2, hp, Option.bind_some, if_false, this, List.filter_cons_of_neg, Bool.false_eq_true, not_false_eq_true]
/-! ### places, ranges -/
theorem atI_nat {α : Type} (xs : List α) (i : Nat) (h : i < xs.length) : atI xs (i : Int) = some xs[i] := by
  unfold atI ixN
  simp [h]
theorem cut_init (xs : List D) : cutD xs none (some (-1)) = xs.dropLast := by
  unfold cutD
  rw [HT.sIx_none, List.drop_zero, Nat.sub_zero, List.dropLast_eq_take]
  congr 1
  unfold HT.sIx
  simp
  omega
theorem asInts_map (xs : List Int) : asInts (xs.map PyData.int) = some xs := by
  induction xs with
  | nil => rfl
  | cons x xs ih => simp [asInts, ih]
theorem asBools_map (xs : List Bool) : asBools (xs.map PyData.bool) = some xs := by
  induction xs with
  | nil => rfl
  | cons x xs ih => simp [asBools, ih]
theorem oR1_nat (n : Nat) (h : n ≤ 16777216) : oR1 [.int n] = some ((List.range n).map fun i => PyData.int (i : Nat)) := by
  show (if (n : Int) ≤ 16777216 ∧ -(2 ^ 62) ≤ (n : Int) then some (rangeD 0 1 (n : Int).toNat) else none) = _
  rw [if_pos (by constructor <;> omega)]
  unfold rangeD
  simp
/-! ### sizes -/
theorem log2_lt_of {n k : Nat} (hk : 0 < k) (h : n < 2 ^ k) : n.log2 < k := by
  by_cases h0 : n = 0
  · subst h0
    simpa using hk
  · exact (Nat.log2_lt h0).mpr h
/-- small enough for every product and quotient -/
def Sm (k : Nat) (a : Int) : Prop := a.natAbs ≤ 2 ^ k
theorem Sm.mul {j k : Nat} {a b : Int} (h1 : Sm j a) (h2 : Sm k b) : Sm (j + k) (a * b) := by
  unfold Sm at *
  rw [Int.natAbs_mul, Nat.pow_add]
  exact Nat.mul_le_mul h1 h2
theorem Sm.mono {j k : Nat} {a : Int} (h : Sm j a) (hk : j ≤ k) : Sm k a := Nat.le_trans h (Nat.pow_le_pow_right (by decide) hk)
theorem Sm.add {k : Nat} {a b : Int} (h1 : Sm k a) (h2 : Sm k b) : Sm (k + 1) (a + b) := by
  unfold Sm at *
  have := Int.natAbs_add_le a b
  rw [Nat.pow_succ]
  omega
theorem Sm.le {k : Nat} {a b : Int} (h : Sm k a) (hb : b.natAbs ≤ a.natAbs) : Sm k b := Nat.le_trans hb h
theorem Sm.lit {k : Nat} {a : Int} (h : a.natAbs ≤ 1024 := by decide) (hk : 10 ≤ k := by omega) : Sm k a := Nat.le_trans h (Nat.pow_le_pow_right (n := 2) (by decide) hk)
theorem Sm.zero {k : Nat} : Sm k 0 := Nat.zero_le _
theorem Sm.neg {k : Nat} {a : Int} (h : Sm k a) : Sm k (-a) := by
  unfold Sm at *
  rwa [Int.natAbs_neg]
theorem Sm.sub {k : Nat} {a b : Int} (h1 : Sm k a) (h2 : Sm k b) : Sm (k + 1) (a - b) := h1.add h2.neg
theorem Sm.mulOk {j k : Nat} {a b : Int} (h1 : Sm j a) (h2 : Sm k b) (hj : j ≤ 4000) (hk : k ≤ 4000) : mulOk a b = true := by
  have l1 : a.natAbs.log2 < j + 1 := log2_lt_of (by omega) (Nat.lt_of_le_of_lt h1 (Nat.pow_lt_pow_right (by decide) (by omega)))
  have l2 : b.natAbs.log2 < k + 1 := log2_lt_of (by omega) (Nat.lt_of_le_of_lt h2 (Nat.pow_lt_pow_right (by decide) (by omega)))
  unfold Pm.mulOk
  rw [Bool.or_eq_true]
  exact .inr (decide_eq_true (by omega))
theorem Sm.divOk {k : Nat} {a : Int} (h : Sm k a) (h0 : a ≠ 0) (hk : k ≤ 8000) : divOk a = true := by
  have l1 : a.natAbs.log2 < k + 1 := log2_lt_of (by omega) (Nat.lt_of_le_of_lt h (Nat.pow_lt_pow_right (by decide) (by omega)))
  unfold Pm.divOk
  rw [Bool.and_eq_true]
  exact ⟨decide_eq_true h0, decide_eq_true (by omega)⟩
/-! ### fractions in lowest terms -/
/-- p / q in lowest terms, the lower part positive -/
def fr (p q : Int) : D := .tuple [.int (p / (Int.gcd p q : Int)), .int (q / (Int.gcd p q : Int))]
theorem gcd_pos_of {p q : Int} (hq : 0 < q) : 0 < Int.gcd p q := Int.gcd_pos_of_ne_zero_right p (by omega)
theorem fr_scale {p q c : Int} (hq : 0 < q) (hc : 0 < c) : fr (p * c) (q * c) = fr p q := by
  unfold fr
  have g : Int.gcd (p * c) (q * c) = Int.gcd p q * c.natAbs := Int.gcd_mul_right p c q
  have e : ((c.natAbs : Nat) : Int) = c := Int.natAbs_of_nonneg (by omega)
  rw [g, Int.natCast_mul, e, Int.mul_ediv_mul_of_pos_left _ _ hc, Int.mul_ediv_mul_of_pos_left _ _ hc]
/-- its parts: p = p' g, q = q' g -/
theorem fr_parts (p : Int) {q : Int} (hq : 0 < q) : ∃ p' q' g : Int, fr p q = .tuple [.int p', .int q'] ∧ p = p' * g ∧ q = q' * g ∧ 0 < g ∧ 0 < q' ∧ p'.natAbs ≤ p.natAbs ∧ q'.natAbs ≤ q.natAbs := by
  have hg := gcd_pos_of (p := p) hq
  have hg' : 0 < (Int.gcd p q : Int) := by omega
  have d1 : (Int.gcd p q : Int) ∣ p := Int.gcd_dvd_left p q
  have d2 : (Int.gcd p q : Int) ∣ q := Int.gcd_dvd_right p q
  have e1 := Int.ediv_mul_cancel d1
  have e2 := Int.ediv_mul_cancel d2
  have n1 : (p / (Int.gcd p q : Int)).natAbs ≤ p.natAbs := by
    have := congrArg Int.natAbs e1
    rw [Int.natAbs_mul] at this
    rw [← this]
    exact Nat.le_mul_of_pos_right _ (by simpa using hg)
  have n2 : (q / (Int.gcd p q : Int)).natAbs ≤ q.natAbs := by
    have := congrArg Int.natAbs e2
    rw [Int.natAbs_mul] at this
    rw [← this]
    exact Nat.le_mul_of_pos_right _ (by simpa using hg)
  refine ⟨_, _, _, rfl, e1.symm, e2.symm, hg', ?_, n1, n2⟩
  exact Int.ediv_pos_of_pos_of_dvd hq (by omega) d2
theorem fr_eq {p q r s : Int} (hq : 0 < q) (hs : 0 < s) (h : p * s = r * q) : fr p q = fr r s := by
  rw [← fr_scale (p := p) hq hs, ← fr_scale (p := r) hs hq, h, Int.mul_comm q s]
theorem fr_inj {p q r s : Int} (hq : 0 < q) (hs : 0 < s) (h : fr p q = fr r s) : p * s = r * q := by
  obtain ⟨p1, q1, g, e1, rfl, rfl, _⟩ := fr_parts p hq
  obtain ⟨r1, s1, k, e2, rfl, rfl, _⟩ := fr_parts r hs
  rw [e1, e2] at h
  injection h with h
  injection h with h1 h
  injection h with h2 h
  injection h1 with h1
  injection h2 with h2
  subst h1 h2
  grind
end Pm

/-! Pm: the printed functions, read one step at a time. -/
namespace Pm
open PySem PySem.Spec PyProof.Rows L2
section
variable (ρ : PEnv)
def b2 (g : D → D → Option D) : Option D → Option D → Option D
  | some x, some y => g x y
  | _, _ => none
def c2 : Option D → Option (List D) → Option (List D)
  | some x, some xs => some (x :: xs)
  | _, _ => none
def sqO : Option Out → XS → Option Out
  | some (.nx ρ), h => h ρ
  | x, _ => x
def ifO {α : Type} : Option Bool → (PEnv → Option α) → (PEnv → Option α) → PEnv → Option α
  | some true, g, _, ρ => g ρ
  | some false, _, h, ρ => h ρ
  | none, _, _, _ => none
def stO (i : Nat) : Option D → PEnv → Option Out
  | some d, ρ => if i < ρ.length then some (.nx (ρ.set i (some d))) else none
  | none, _ => none
def endO : Option Out → Option D
  | some (.nx _) => some .none
  | some (.rt d) => some d
  | _ => none
def andO : Option D → Xp → PEnv → Option D
  | some (.bool true), f, ρ => f ρ
  | some (.bool false), _, _ => some (.bool false)
  | _, _, _ => none
def orO : Option D → Xp → PEnv → Option D
  | some (.bool true), _, _ => some (.bool true)
  | some (.bool false), f, ρ => f ρ
  | _, _, _ => none
def tyes : PEnv → Option Bool := fun _ => some true
def tno : PEnv → Option Bool := fun _ => some false
def mkT (ds : List D) : Option D := if ds.length ≤ 1000 then some (.tuple ds) else none
def mkL (ds : List D) : Option D := if ds.length ≤ 1000 then some (.list ds) else none
def chP (g' : D → D → Option D) (y : D) (fc : Xp) (ρ : PEnv) : Option D → Option D
  | some (.bool true) => b2 g' (some y) (fc ρ)
  | some (.bool false) => some (.bool false)
  | _ => none
def chO (g g' : D → D → Option D) : Option D → Option D → Xp → PEnv → Option D
  | some x, some y, fc, ρ => chP g' y fc ρ (g x y)
  | _, _, _, _ => none
def slO : Option D → Option (Option Int) → Option (Option Int) → Option D
  | some x, some i, some j => oSl x i j
  | _, _, _ => none
def atO : Option D → Option (Option Int)
  | some (.int i) => some (some i)
  | _ => none
def lcO (g : XG) (t : PEnv → Option Bool) (f : Xp) (ρ : PEnv) : Option (List D) → Option D
  | some ds => (lcL g t f ρ ds).map .list
  | none => none
def forO (g : D → PEnv → Option PEnv) (b : XS) (ρ : PEnv) : Option (List D) → Option Out
  | some ds => forL g b ds ρ
  | none => none
def gsO (gs : List D → PEnv → Option PEnv) (ds : List D) : Option PEnv → Option PEnv
  | some ρ => gs ds ρ
  | none => none
def nxO : Option PEnv → Option Out
  | some ρ => some (.nx ρ)
  | none => none
def tgO (g : D → PEnv → Option PEnv) : Option D → PEnv → Option Out
  | some d, ρ => nxO (g d ρ)
  | none, _ => none
def paO (is : List Nat) : Option (List D) → PEnv → Option Out
  | some ds, ρ => if is.all (fun i => decide (i < ρ.length)) && decide (ds.length = is.length) then some (.nx (setAll is ds ρ)) else none
  | none, _ => none
def apO (i : Nat) : Option D → Option D → PEnv → Option Out
  | some (.list xs), some y, ρ => if xs.length < 16777216 ∧ i < ρ.length then some (.nx (ρ.set i (some (.list (xs ++ [y]))))) else none
  | _, _, _ => none
def exO (i : Nat) : Option D → Option D → PEnv → Option Out
  | some (.list xs), some (.list ys), ρ => if xs.length + ys.length ≤ 16777216 ∧ i < ρ.length then some (.nx (ρ.set i (some (.list (xs ++ ys))))) else none
  | _, _, _ => none
def plO (i : Nat) (xs : List D) (y : D) (ρ : PEnv) : Option Nat → Option Out
  | some n => if i < ρ.length then some (.nx (ρ.set i (some (.list (xs.set n y))))) else none
  | none => none
def ptO (i : Nat) : Option D → Option D → Option D → PEnv → Option Out
  | some y, some (.list xs), some (.int j), ρ => plO i xs y ρ (ixN xs.length j)
  | _, _, _, _ => none
def pkO (i : Nat) : Option D → Option D → Option D → PEnv → Option Out
  | some y, some (.dict kd), some (.int j), ρ => if kd.length < 16777216 ∧ i < ρ.length then some (.nx (ρ.set i (some (.dict (dPutD kd j y))))) else none
  | _, _, _, _ => none
theorem xVar_a (i : Nat) : xVar i ρ = ρ.getD i none := rfl
theorem xC_a (d : D) : xC d ρ = some d := rfl
theorem xBin_a (g : D → D → Option D) (fa fb : Xp) : xBin g fa fb ρ = b2 g (fa ρ) (fb ρ) := by
  unfold xBin
  cases fa ρ <;> cases fb ρ <;> rfl
theorem xUn_a (g : D → Option D) (fa : Xp) : xUn g fa ρ = (fa ρ).bind g := rfl
theorem tOf_a (f : Xp) : tOf f ρ = (f ρ).bind dB := rfl
theorem tTru_a (f : Xp) : tTru f ρ = (f ρ).bind oTru := rfl
theorem tNotP_a (f : PEnv → Option Bool) : tNotP f ρ = (f ρ).map (!·) := rfl
theorem tAndP_a (f g : PEnv → Option Bool) : tAndP f g ρ = ifO (f ρ) g tno ρ := by
  unfold tAndP
  cases f ρ with
  | none => rfl
  | some b => cases b <;> rfl
theorem tOrP_a (f g : PEnv → Option Bool) : tOrP f g ρ = ifO (f ρ) tyes g ρ := by
  unfold tOrP
  cases f ρ with
  | none => rfl
  | some b => cases b <;> rfl
theorem tyes_a : tyes ρ = some true := rfl
theorem tno_a : tno ρ = some false := rfl
theorem tYesP_a : tYesP ρ = some true := rfl
theorem xNil_a : xNil ρ = some [] := rfl
theorem xCons_a (f : Xp) (fs : XL) : xCons f fs ρ = c2 (f ρ) (fs ρ) := by
  unfold xCons
  cases f ρ <;> cases fs ρ <;> rfl
theorem xTup_a (fs : XL) : xTup fs ρ = (fs ρ).bind mkT := rfl
theorem xLst_a (fs : XL) : xLst fs ρ = (fs ρ).bind mkL := rfl
theorem xAnd_a (fa fb : Xp) : xAnd fa fb ρ = andO (fa ρ) fb ρ := by
  unfold xAnd
  cases fa ρ with
  | none => rfl
  | some d => cases d with
    | bool b => cases b <;> rfl
    | _ => rfl
theorem xOr_a (fa fb : Xp) : xOr fa fb ρ = orO (fa ρ) fb ρ := by
  unfold xOr
  cases fa ρ with
  | none => rfl
  | some d => cases d with
    | bool b => cases b <;> rfl
    | _ => rfl
theorem xIf_a (c : PEnv → Option Bool) (fa fb : Xp) : xIf c fa fb ρ = ifO (c ρ) fa fb ρ := by
  unfold xIf
  cases c ρ with
  | none => rfl
  | some b => cases b <;> rfl
theorem xChain_a (g g' : D → D → Option D) (fa fb fc : Xp) : xChain g g' fa fb fc ρ = chO g g' (fa ρ) (fb ρ) fc ρ := by
  unfold xChain
  cases fa ρ with
  | none => rfl
  | some x => cases fb ρ with
    | none => rfl
    | some y =>
      simp only [Option.bind_some, chO]
      cases g x y with
      | none => rfl
      | some z => cases z with
        | bool b => cases b <;> (simp only [Option.bind_some, dB, chP]; cases fc ρ <;> rfl)
        | _ => rfl
theorem oNo_a : oNo ρ = some none := rfl
theorem oAt_a (f : Xp) : oAt f ρ = atO (f ρ) := by
  unfold oAt
  cases f ρ with
  | none => rfl
  | some d => cases d <;> rfl
theorem xSl_a (f : Xp) (lo hi : XO) : xSl f lo hi ρ = slO (f ρ) (lo ρ) (hi ρ) := by
  unfold xSl
  cases f ρ <;> cases lo ρ <;> cases hi ρ <;> rfl
theorem xCall_a (g : List D → Option D) (fs : XL) : xCall g fs ρ = (fs ρ).bind g := rfl
theorem xSeq_a (f : Xp) : xSeq f ρ = (f ρ).bind seqD := rfl
theorem xIt_a (g : List D → Option (List D)) (fs : XL) : xIt g fs ρ = (fs ρ).bind g := rfl
theorem xLc_a (it : XL) (g : XG) (t : PEnv → Option Bool) (f : Xp) (own : List Nat) : xLc it g t f own ρ = lcO g t f (wipeP ρ own) (it ρ) := by
  unfold xLc
  cases it ρ <;> rfl
theorem gSet_a (i : Nat) (d : D) : gSet i d ρ = if i < ρ.length then some (ρ.set i (some d)) else none := rfl
theorem gTupD_a (n : Nat) (g : List D → PEnv → Option PEnv) (ds : List D) : gTupD n g (.tuple ds) ρ = if ds.length = n then g ds ρ else none := rfl
theorem gsNil_a : gsNil [] ρ = some ρ := rfl
theorem gsCons_a (g : XG) (gs : List D → PEnv → Option PEnv) (d : D) (ds : List D) : gsCons g gs (d :: ds) ρ = gsO gs ds (g d ρ) := by
  show (g d ρ).bind (fun ρ' => gs ds ρ') = _
  cases g d ρ <;> rfl
theorem sNop_a : sNop ρ = some (.nx ρ) := rfl
theorem sBrk_a : sBrk ρ = some (.bk ρ) := rfl
theorem sCnt_a : sCnt ρ = some (.ct ρ) := rfl
theorem sSeq_a (g h : XS) : sSeq g h ρ = sqO (g ρ) h := by
  unfold sSeq
  cases g ρ with
  | none => rfl
  | some o => cases o <;> rfl
theorem sRet_a (f : Xp) : sRet f ρ = (f ρ).map .rt := rfl
theorem sIf_a (c : PEnv → Option Bool) (g h : XS) : sIf c g h ρ = ifO (c ρ) g h ρ := by
  unfold sIf
  cases c ρ with
  | none => rfl
  | some b => cases b <;> rfl
theorem sSet_a (i : Nat) (f : Xp) : sSet i f ρ = stO i (f ρ) ρ := by
  unfold sSet
  cases f ρ <;> rfl
theorem sTgt_a (g : D → PEnv → Option PEnv) (f : Xp) : sTgt g f ρ = tgO g (f ρ) ρ := by
  unfold sTgt
  cases f ρ with
  | none => rfl
  | some d =>
    show (g d ρ).map .nx = nxO (g d ρ)
    cases g d ρ <;> rfl
theorem sAug_a (i : Nat) (g : D → D → Option D) (f : Xp) : sAug i g f ρ = stO i (b2 g (ρ.getD i none) (f ρ)) ρ := by
  unfold sAug
  rw [xVar_a]
  cases ρ.getD i none with
  | none => rfl
  | some x => cases f ρ with
    | none => rfl
    | some y =>
      simp only [Option.bind_some, b2]
      cases g x y <;> rfl
theorem sApp_a (i : Nat) (f : Xp) : sApp i f ρ = apO i (ρ.getD i none) (f ρ) ρ := by
  unfold sApp
  rw [xVar_a]
  cases ρ.getD i none with
  | none => rfl
  | some x => cases f ρ with
    | none => cases x <;> rfl
    | some y => cases x <;> rfl
theorem sExt_a (i : Nat) (f : Xp) : sExt i f ρ = exO i (ρ.getD i none) (f ρ) ρ := by
  unfold sExt
  rw [xVar_a]
  cases ρ.getD i none with
  | none => rfl
  | some x => cases f ρ with
    | none => cases x <;> rfl
    | some y => cases x <;> cases y <;> rfl
theorem sPut_a (i : Nat) (fj f : Xp) : sPut i fj f ρ = ptO i (f ρ) (ρ.getD i none) (fj ρ) ρ := by
  unfold sPut
  rw [xVar_a]
  cases f ρ with
  | none => rfl
  | some y => cases ρ.getD i none with
    | none => rfl
    | some x => cases fj ρ with
      | none => cases x <;> rfl
      | some j => cases x with
        | list xs => cases j with
          | int j =>
            show (ixN xs.length j).bind _ = plO i xs y ρ (ixN xs.length j)
            cases ixN xs.length j <;> rfl
          | _ => rfl
        | _ => rfl
theorem sPutK_a (i : Nat) (fj f : Xp) : sPutK i fj f ρ = pkO i (f ρ) (ρ.getD i none) (fj ρ) ρ := by
  unfold sPutK
  rw [xVar_a]
  cases f ρ with
  | none => rfl
  | some y => cases ρ.getD i none with
    | none => rfl
    | some x => cases fj ρ with
      | none => cases x <;> rfl
      | some j => cases x <;> cases j <;> rfl
theorem pkO_s (i : Nat) (kd : List (D × D)) (y : D) (j : Int) : pkO i (some y) (some (.dict kd)) (some (.int j)) ρ = if kd.length < 16777216 ∧ i < ρ.length then some (.nx (ρ.set i (some (.dict (dPutD kd j y))))) else none := rfl
theorem xLc2_a (it : XL) (g : XG) (t : PEnv → Option Bool) (it1 : XL) (g1 : XG) (t1 : PEnv → Option Bool) (f : Xp) (own vs1 : List Nat) (ds : List D) (h : it ρ = some ds) : xLc2 it g t it1 g1 t1 f own vs1 ρ = (lc2L g t it1 g1 t1 f vs1 (wipeP ρ own) ds).bind fun ys => if ys.length ≤ 16777216 then some (.list ys) else none := by
  unfold xLc2
  rw [h]
  rfl
theorem sFor_a (it : XL) (g : D → PEnv → Option PEnv) (b : XS) : sFor it g b ρ = forO g b ρ (it ρ) := by
  unfold sFor
  cases it ρ <;> rfl
theorem sWhile_a (c : PEnv → Option Bool) (b : XS) : sWhile c b ρ = whileF c b fuelN ρ := rfl
theorem sPar_a (is : List Nat) (fs : XL) : sPar is fs ρ = paO is (fs ρ) ρ := by
  unfold sPar
  cases fs ρ <;> rfl
theorem runD_a (n N : Nat) (g : XS) (ds : List D) : runD n N g ds = endO (g (ds.map some ++ List.replicate (N - n) none)) := by
  unfold runD
  cases g (ds.map some ++ List.replicate (N - n) none) with
  | none => rfl
  | some o => cases o <;> rfl
theorem b2_s (g : D → D → Option D) (x y : D) : b2 g (some x) (some y) = g x y := rfl
theorem c2_s (x : D) (xs : List D) : c2 (some x) (some xs) = some (x :: xs) := rfl
theorem sqO_nx (h : XS) : sqO (some (.nx ρ)) h = h ρ := rfl
theorem sqO_rt (d : D) (h : XS) : sqO (some (.rt d)) h = some (.rt d) := rfl
theorem sqO_bk (h : XS) : sqO (some (.bk ρ)) h = some (.bk ρ) := rfl
theorem sqO_ct (h : XS) : sqO (some (.ct ρ)) h = some (.ct ρ) := rfl
section
variable {α : Type}
theorem ifO_t (g h : PEnv → Option α) : ifO (some true) g h ρ = g ρ := rfl
theorem ifO_f (g h : PEnv → Option α) : ifO (some false) g h ρ = h ρ := rfl
end
theorem stO_s (i : Nat) (d : D) : stO i (some d) ρ = if i < ρ.length then some (.nx (ρ.set i (some d))) else none := rfl
theorem endO_nx  : endO (some (.nx ρ)) = some .none := rfl
theorem endO_rt (d : D) : endO (some (.rt d)) = some d := rfl
theorem andO_t (f : Xp) : andO (some (.bool true)) f ρ = f ρ := rfl
theorem andO_f (f : Xp) : andO (some (.bool false)) f ρ = some (.bool false) := rfl
theorem orO_t (f : Xp) : orO (some (.bool true)) f ρ = some (.bool true) := rfl
theorem orO_f (f : Xp) : orO (some (.bool false)) f ρ = f ρ := rfl
theorem chO_s (g g' : D → D → Option D) (x y : D) (f : Xp) : chO g g' (some x) (some y) f ρ = chP g' y f ρ (g x y) := rfl
theorem chP_t (g' : D → D → Option D) (y : D) (f : Xp) : chP g' y f ρ (some (.bool true)) = b2 g' (some y) (f ρ) := rfl
theorem chP_f (g' : D → D → Option D) (y : D) (f : Xp) : chP g' y f ρ (some (.bool false)) = some (.bool false) := rfl
theorem slO_s (x : D) (i j : Option Int) : slO (some x) (some i) (some j) = oSl x i j := rfl
theorem atO_i (i : Int) : atO (some (.int i)) = some (some i) := rfl
theorem lcO_s (g : XG) (t : PEnv → Option Bool) (f : Xp) (ds : List D) : lcO g t f ρ (some ds) = (lcL g t f ρ ds).map .list := rfl
theorem forO_s (g : XG) (b : XS) (ds : List D) : forO g b ρ (some ds) = forL g b ds ρ := rfl
theorem gsO_s (gs : List D → PEnv → Option PEnv) (ds : List D) : gsO gs ds (some ρ) = gs ds ρ := rfl
theorem nxO_s  : nxO (some ρ) = some (.nx ρ) := rfl
theorem tgO_s (g : XG) (d : D) : tgO g (some d) ρ = nxO (g d ρ) := rfl
theorem paO_s (is : List Nat) (ds : List D) : paO is (some ds) ρ = if is.all (fun i => decide (i < ρ.length)) && decide (ds.length = is.length) then some (.nx (setAll is ds ρ)) else none := rfl
theorem apO_s (i : Nat) (xs : List D) (y : D) : apO i (some (.list xs)) (some y) ρ = if xs.length < 16777216 ∧ i < ρ.length then some (.nx (ρ.set i (some (.list (xs ++ [y]))))) else none := rfl
theorem exO_s (i : Nat) (xs ys : List D) : exO i (some (.list xs)) (some (.list ys)) ρ = if xs.length + ys.length ≤ 16777216 ∧ i < ρ.length then some (.nx (ρ.set i (some (.list (xs ++ ys))))) else none := rfl
theorem plO_s (i : Nat) (xs : List D) (y : D) (n : Nat) : plO i xs y ρ (some n) = if i < ρ.length then some (.nx (ρ.set i (some (.list (xs.set n y))))) else none := rfl
theorem ptO_s (i : Nat) (xs : List D) (y : D) (j : Int) : ptO i (some y) (some (.list xs)) (some (.int j)) ρ = plO i xs y ρ (ixN xs.length j) := rfl
section
variable (a b : Int) (t : Bool) (xs ys : List D) (x y z : D)
theorem dB_b  : dB (.bool t) = some t := rfl
theorem tru_b  : oTru (.bool t) = some t := rfl
theorem tru_n  : oTru .none = some false := rfl
theorem tru_i  : oTru (.int a) = some (a != 0) := rfl
theorem tru_l  : oTru (.list xs) = some (!xs.isEmpty) := rfl
theorem tru_t  : oTru (.tuple xs) = some (!xs.isEmpty) := rfl
theorem is_n  : oIs x .none = some (.bool (isNone x)) := rfl
theorem isn_n  : oIsNot x .none = some (.bool (!isNone x)) := rfl
theorem nn_n  : isNone .none = true := rfl
theorem nn_i  : isNone (.int a) = false := rfl
theorem nn_b  : isNone (.bool t) = false := rfl
theorem nn_t  : isNone (.tuple xs) = false := rfl
theorem nn_l  : isNone (.list xs) = false := rfl
theorem add_ii  : oAdd (.int a) (.int b) = some (.int (a + b)) := rfl
theorem add'_ii  : oAdd' (.int a) (.int b) = some (.int (a + b)) := rfl
theorem sub_ii  : oSub (.int a) (.int b) = some (.int (a - b)) := rfl
theorem neg_i  : oNeg (.int a) = some (.int (-a)) := rfl
theorem lt_ii  : oLt (.int a) (.int b) = some (.bool (decide (a < b))) := rfl
theorem le_ii  : oLe (.int a) (.int b) = some (.bool (decide (a ≤ b))) := rfl
theorem gt_ii  : oGt (.int a) (.int b) = some (.bool (decide (b < a))) := rfl
theorem ge_ii  : oGe (.int a) (.int b) = some (.bool (decide (b ≤ a))) := rfl
theorem ix_l  : oIx (.list xs) (.int a) = atI xs a := rfl
theorem ix_t  : oIx (.tuple xs) (.int a) = atI xs a := rfl
theorem ix_s  : oIx (scr xs) (.int a) = atI xs a := rfl
theorem at0 : atI (x :: xs) 0 = some x := by
  unfold atI ixN
  simp
theorem at1 : atI (x :: y :: xs) 1 = some y := by
  unfold atI ixN
  rw [if_pos (by decide), if_pos (by simp only [List.length_cons]; omega)]
  rfl
theorem at2 : atI (x :: y :: z :: xs) 2 = some z := by
  unfold atI ixN
  rw [if_pos (by decide), if_pos (by simp only [List.length_cons]; omega)]
  rfl
theorem sl_l (lo hi : Option Int) : oSl (.list xs) lo hi = some (.list (cutD xs lo hi)) := rfl
theorem sl_t (lo hi : Option Int) : oSl (.tuple xs) lo hi = some (.tuple (cutD xs lo hi)) := rfl
theorem len_l  : bLen [.list xs] = some (.int xs.length) := rfl
theorem len_t  : bLen [.tuple xs] = some (.int xs.length) := rfl
theorem len_s  : bLen [scr xs] = some (.int xs.length) := rfl
theorem abs_i  : bAbs [.int a] = some (.int (if a < 0 then -a else a)) := rfl
theorem int_i  : bInt [.int a] = some (.int a) := rfl
theorem int_b  : bInt [.bool t] = some (.int (if t then 1 else 0)) := rfl
theorem max_ii  : bMax2 [.int a, .int b] = some (.int (if b > a then b else a)) := rfl
theorem min_ii  : bMin2 [.int a, .int b] = some (.int (if b < a then b else a)) := rfl
theorem tup_s  : bTuple [x] = (seqD x).map .tuple := rfl
theorem lst_s  : bList [x] = (seqD x).map .list := rfl
theorem seq_l  : seqD (.list xs) = some xs := rfl
theorem seq_t  : seqD (.tuple xs) = some xs := rfl
theorem sum_s  : bSum [x] = (seqD x).bind fun xs => (asInts xs).map fun ns => .int ns.sum := rfl
theorem wipe_n (ρ : PEnv) : wipeP ρ [] = ρ := rfl
theorem wipe_c (ρ : PEnv) (v : Nat) (vs : List Nat) : wipeP ρ (v :: vs) = (wipeP ρ vs).set v none := rfl
variable {a b : Int} {xs ys : List D}
theorem mul_ii (h : mulOk a b = true) : oMul' (.int a) (.int b) = some (.int (a * b)) := if_pos h
theorem fdiv_ii (h : divOk b = true) : oFdiv (.int a) (.int b) = some (.int (a.fdiv b)) := if_pos h
theorem mod_ii (h : b ≠ 0) : oMod (.int a) (.int b) = some (.int (a.fmod b)) := if_pos h
theorem add_ll (h : xs.length + ys.length ≤ 16777216) : oAdd (.list xs) (.list ys) = some (.list (xs ++ ys)) := if_pos h
theorem add_tt (h : xs.length + ys.length ≤ 16777216) : oAdd (.tuple xs) (.tuple ys) = some (.tuple (xs ++ ys)) := if_pos h
end
end
end Pm

/-! Pm: sorted of data, the greatest of ints, dict comprehensions. -/
namespace Pm
open PySem PySem.Spec PyProof.Rows L2
/-! ### the greatest of ints -/
section
variable {X : Cx}
theorem cb_maxI (hc : X.calm = true := by rfl) : CallR X (.builtin "max") (rC X.K .f bMaxI) := by
  intro pins s σ H vs us Q I r ⟨A, ds, d, tr, w, e, q⟩
  unfold bMaxI at e
  split at e
  · obtain ⟨v, rfl, w1⟩ := p1 w
    obtain ⟨xs, e1, e⟩ := bind2 e
    obtain ⟨ns, e2, e⟩ := bind2 e
    obtain ⟨mn, e3, e⟩ := Option.map_eq_some_iff.mp e
    subst e
    obtain ⟨a, vs, rfl, ha, ra⟩ := w1.seq e1
    rw [ref1 r]
    have hv := ra.ints e2
    subst hv
    refine call_max_walk (sq_iter (show X.A.in1.handled = none from I.ok.hd hc) I ha fun its J fp wr St h₂ rv W st hfp kp => ?_)
    have hl := rv.length
    rw [List.length_map] at hl
    have hne : 0 < ns.length := by
      cases ns with
      | nil => simp at e3
      | cons _ _ => simp
    refine ⟨_, _, _, _, _, _, _, rfl, W, st, hfp, by omega, CmpOf.ints_gt (fun i => ns.getD i 0) (fun i v h => intsAt rv i v h), fun v h' tk hv hk => ?_⟩
    obtain ⟨t, rfl⟩ := intsAt rv _ _ hv
    obtain ⟨b1, b2⟩ := argBest_gt (fun i => ns.getD i 0) (its.length - 1)
    refine ⟨.int mn, H, I.kept (kp h' hk), ⟨t, ?_⟩, q _ H (Same.refl H) Res.int⟩
    congr 1
    rw [List.max?_eq_some_iff] at e3
    refine Int.le_antisymm ?_ ?_
    · have hb : argBest (fun i j => decide (ns.getD i 0 > ns.getD j 0)) (its.length - 1) < ns.length := by
        have h1 : argBest (fun i j => decide (ns.getD i 0 > ns.getD j 0)) (its.length - 1) ≤ its.length - 1 := b1
        omega
      exact e3.2 _ (by rw [List.getD_eq_getElem?_getD, List.getElem?_eq_getElem hb]; exact List.getElem_mem hb)
    · obtain ⟨i, hi, e4⟩ := List.mem_iff_getElem.mp e3.1
      have := b2 i (by omega)
      simp only [List.getD_eq_getElem?_getD, List.getElem?_eq_getElem hi, Option.getD_some] at this
      rw [e4] at this
      simpa [List.getD_eq_getElem?_getD] using this
  · cases e
/-! ### sorted, of data -/
/-- data that sorted takes -/
def okSort (ds : List D) : Bool := (ds.all fun x => ds.all fun y => PySem.W.alike x y) && (ds.all fun x => shp x && decide (x.depth ≤ 20)) && decide (ds.length ≤ 16777216) &&
  ((ds.all fun x => match x with | .tuple (_ :: _) => true | _ => false) || ds.all fun x => match x with | .none => false | .tuple _ => false | _ => true)
def bSorted : List D → Option D
  | [x] => (seqD x).bind fun ds => if okSort ds then some (.list (ds.mergeSort (PySem.W.dataLe false id))) else none
  | _ => none
theorem okSort_facts {ds : List D} (h : okSort ds = true) : PySem.W.AllAlike ds ∧ (∀ x ∈ ds, shp x = true ∧ x.depth ≤ 20) ∧ ds.length ≤ 16777216 ∧ PySem.W.Sortable ds := by
  unfold okSort at h
  rw [Bool.and_eq_true, Bool.and_eq_true, Bool.and_eq_true] at h
  obtain ⟨⟨⟨h1, h2⟩, h3⟩, h4⟩ := h
  refine ⟨fun d hd d' hd' => ?_, fun x hx => ?_, of_decide_eq_true h3, ?_⟩
  · exact List.all_eq_true.mp (List.all_eq_true.mp h1 d hd) d' hd'
  · have := List.all_eq_true.mp h2 x hx
    rw [Bool.and_eq_true, decide_eq_true_eq] at this
    exact this
  · rw [Bool.or_eq_true] at h4
    rcases h4 with h4 | h4
    · refine .inl fun d hd => ?_
      have := List.all_eq_true.mp h4 d hd
      split at this
      · exact ⟨_, _, rfl⟩
      · cases this
    · refine .inr fun d hd => ?_
      have := List.all_eq_true.mp h4 d hd
      split at this
      · cases this
      · cases this
      · next h1 h2 => exact ⟨h1, h2⟩
theorem zip_each {K : PySem.W.Frag} {A : Addr → Prop} {H : Hp} : ∀ {vs : List V} {us : List Value} {ds : List D}, Vals vs us → RpL K A H vs ds → PySem.W.EachIs (fun u (p : V × D) => RelV p.1 u ∧ Rp K A H p.1 p.2) us (vs.zip ds)
  | _, _, _, .nil, .nil => .nil
  | _, _, _, .cons h r, .cons h' r' => .cons ⟨h, h'⟩ (zip_each r r')
theorem each_out {K : PySem.W.Frag} {A : Addr → Prop} {H : Hp} : ∀ {us : List Value} {ps : List (V × D)}, PySem.W.EachIs (fun u (p : V × D) => RelV p.1 u ∧ Rp K A H p.1 p.2) us ps → Vals (ps.map Prod.fst) us ∧ RpL K A H (ps.map Prod.fst) (ps.map Prod.snd)
  | _, _, .nil => ⟨.nil, .nil⟩
  | _, _, .cons h r => ⟨.cons h.1 (each_out r).1, .cons h.2 (each_out r).2⟩
theorem each_mono {α β : Type} {R S : α → β → Prop} (h : ∀ a b, R a b → S a b) : ∀ {as : List α} {bs : List β}, PySem.W.EachIs R as bs → PySem.W.EachIs S as bs
  | _, _, .nil => .nil
  | _, _, .cons a r => .cons (h _ _ a) (each_mono h r)
theorem each_mem {α β : Type} {R S : α → β → Prop} : ∀ {as : List α} {bs : List β}, PySem.W.EachIs R as bs → (∀ a b, b ∈ bs → R a b → S a b) → PySem.W.EachIs S as bs
  | _, _, .nil, _ => .nil
  | _, _, .cons a r, h => .cons (h _ _ (by simp) a) (each_mem r fun a b hb hr => h a b (List.mem_cons_of_mem _ hb) hr)
end
section
open PySem.W PySem.Calls
variable {prog : Program} {w : World} {A : Around} {E : Value → Shared → Prop} {s : Shared} {β : Type} {R : Value → β → Prop} {enc : β → D} {us : List Value} {bs : List β}
/-- the heap in which the items are told off -/
def tookH (h : Heap) (us : List Value) : Heap := (h.push (seqObj "list" #[] 0)).update h.objs.size (Obj.mapSeq fun z => z ++ us.toArray)
theorem tookH_size (h : Heap) (us : List Value) : (tookH h us).objs.size = h.objs.size + 1 := by
  unfold tookH
  rw [Heap.size_update, size_push']
theorem tookH_old {h : Heap} {us : List Value} {b : Addr} {u : Obj} (hb : h.get? b = some u) : (tookH h us).get? b = some u := by
  unfold tookH
  rw [Heap.get?_update_ne _ _ _ _ (Nat.ne_of_lt (Heap.lt_size hb))]
  exact Heap.get?_push_of_some _ hb
theorem took_seq {l : Addr} {T : String} {o : Obj} {n : Nat} {Q : List Value → Shared → Prop} (hT : T = "list" ∨ T = "tuple") (ho : s.heap.get? l = some o) (hc : o.cls = .type T) (hd : o.data = .seq us.toArray n) (hsz : us.length ≤ sizeLine)
    (hQ : Q us { s with heap := tookH s.heap us }) : wpAny (model prog w) A (collect (.ref l)) Q E s := by
  unfold collect
  apply wpAny_bind
  apply wpAny_runValue
  apply codeAny_builtin entry_proto_collect'
  show wpAny _ _ (do again (.builtin "list.__iadd__" ⟨[← newList [], .ref l], []⟩)) _ _ _
  apply wpAny_bind
  apply wpAny_newList
  · apply wpAny_pure
    refine ⟨Code.quiet_builtin _ (by decide +kernel), ?_⟩
    apply codeAny_builtin entry_list_iadd'
    show wpAny _ _ (Builtin.List.listExtendWith (.ref s.heap.objs.size) (.ref l) _) _ _ { s with heap := s.heap.push (seqObj "list" #[] 0) }
    unfold Builtin.List.listExtendWith
    have g1 := Heap.get?_push_of_some (seqObj "list" #[] 0) ho
    have g2 : (s.heap.push (seqObj "list" #[] 0)).get? s.heap.objs.size = some (seqObj "list" #[] 0) := Heap.get?_push_size _ rfl
    refine wpAny_bind (wpAny_typeOf (T := T) ⟨o, g1, hc⟩ ?_)
    have hb : (Builtin.List.listSameRef (.ref s.heap.objs.size) (.ref l) || Value.type T == Value.type "list" || Value.type T == Value.type "tuple") = true := by
      rcases hT with rfl | rfl
      · simp
      · simp
    rw [if_pos hb]
    apply wpAny_bind
    apply listItems_at g1 hd
    apply wpAny_bind
    apply listItems_at g2 rfl
    rw [if_neg (by simp)]
    apply wpAny_bind
    refine listUpdate_at (xs := #[]) (n := 0) g2 rfl ?_ (Nat.zero_le _) (by show ((#[] : Array Value) ++ us.toArray).size ≤ sizeLine + 1; simp only [Array.size_append, List.size_toArray, List.length_nil]; omega)
    apply wpAny_pure
    show wpAny (model prog w) A (do
      let o ← load s.heap.objs.size
      match o.data with
      | .seq zs _ => pure zs.toList
      | _ => unsupported "internal:collect") Q E { s with heap := tookH s.heap us }
    apply wpAny_bind
    refine wpAny_load (get?_update_seq g2 _) ?_
    show wpAny _ _ (pure ((#[] : Array Value) ++ us.toArray).toList) Q E _
    rw [show ((#[] : Array Value) ++ us.toArray).toList = us by simp]
    exact wpAny_pure hQ
  · exact Nat.zero_le _
/-- sorted(xs), xs a list or a tuple that reads as data -/
theorem sorted_seq {l : Addr} {T : String} {o : Obj} {n : Nat} {Q : Value → Shared → Prop} (hT : T = "list" ∨ T = "tuple") (ho : s.heap.get? l = some o) (hc : o.cls = .type T) (hd : o.data = .seq us.toArray n)
    (e : EachIs R us bs) (er : EachIs (fun v b => ∃ as, Reads s.heap v (enc b) as) us bs) (hal : AllAlike (bs.map enc)) (hk : Sortable (bs.map enc)) (hL : bs.length ≤ sizeLine) (hu : ∀ b, b ∈ bs → A.units + 2 + (enc b).depth < cLine)
    (hQ : ∀ (h' : Heap) (d : Addr) (out : List Value) (m : Nat), (∀ b u, s.heap.get? b = some u → h'.get? b = some u) → s.heap.objs.size ≤ d → h'.get? d = some (seqObj "list" out.toArray m) → EachIs R out (bs.mergeSort (dataLe false enc)) → Q (.ref d) { s with heap := h' }) :
    wpAny (model prog w) A (call (.builtin "sorted") [.ref l]) Q E s := by
  have hsz : us.length ≤ sizeLine := by rw [e.length]; exact hL
  refine Calls.call_function_entry kind_sorted plain_sorted entry_sorted (args_sorted1 _) ?_
  unfold Builtin.«sorted»
  apply wpAny_bind (m := checkCount "sorted" 1 1 _)
  apply wpAny_pure
  refine wpAny_bind (took_seq hT ho hc hd hsz ?_)
  refine wpAny_bind (wpAny_newList ?_ hsz)
  generalize hh1 : tookH s.heap us = h1
  have k1 : ∀ b u, s.heap.get? b = some u → h1.get? b = some u := fun b u hb => by rw [← hh1]; exact tookH_old hb
  have hge : s.heap.objs.size ≤ h1.objs.size := by rw [← hh1, tookH_size]; omega
  have hs2 : (h1.push (seqObj "list" us.toArray 0)).get? h1.objs.size = some (seqObj "list" us.toArray 0) := Heap.get?_push_size _ rfl
  have k2 : ∀ b u, s.heap.get? b = some u → (h1.push (seqObj "list" us.toArray 0)).get? b = some u := fun b u hb => Heap.get?_push_of_some _ (k1 b u hb)
  have hlt : ∀ b u, s.heap.get? b = some u → b < h1.objs.size := fun b u hb => Heap.lt_size (k1 b u hb)
  have er2 : EachIs (fun v b => ∃ as, Reads (sortingHeap (h1.push (seqObj "list" us.toArray 0)) h1.objs.size us) v (enc b) as) us bs := each_mono (fun v b ⟨as, r⟩ => ⟨as, PyProof.Rows.Reads.keeps (fun b u hb => sortingHeap_old (Nat.ne_of_lt (hlt b u hb)) (k2 b u hb)) r⟩) er
  have hS := SortsAt.data (prog := prog) (w := w) (A := A.in1.in1) (s := { s with heap := sortingHeap (h1.push (seqObj "list" us.toArray 0)) h1.objs.size us }) (each_map (R := fun v d => ∃ as, Reads (sortingHeap (h1.push (seqObj "list" us.toArray 0)) h1.objs.size us) v d as) enc er2) hal hk (bound_map fun b hb => hu b hb)
  refine wpAny_bind (wpAny_holding ?_)
  refine wpAny_call_entry slot_list_sort ⟨_, hs2, rfl⟩ entry_list_sort ?_ (args_list_sort _)
  refine list_sort_vals (s := { s with heap := h1.push (seqObj "list" us.toArray 0) }) hs2 hS hsz ⟨.none, rfl, ?_⟩
  apply wpAny_pure
  obtain ⟨m, hm⟩ := sortedHeap_at (vs := us) (out := (sortVals (dataKind (sortingHeap (h1.push (seqObj "list" us.toArray 0)) h1.objs.size us) (bs.map enc)) false us us).toArray) hs2
  refine ⟨_, rfl, hQ _ _ _ m (fun b u hb => ?_) hge hm (sortVals_data false e er2 hal)⟩
  have q := k2 b u hb
  rw [← q]
  exact sortedHeap_old (Nat.ne_of_lt (hlt b u hb)) (Heap.lt_size q)
end
section
variable {X : Cx}
theorem cb_sorted (hu : X.A.units + 65 < cLine) : CallR X (.builtin "sorted") (rC X.K .f bSorted) := by
  intro pins s σ H vs us Q I r ⟨A, ds, d, tr, w, e, q⟩
  unfold bSorted at e
  split at e
  · obtain ⟨v, rfl, w1⟩ := p1 w
    obtain ⟨xs, e1, e⟩ := bind2 e
    split at e
    · next hok =>
      cases e
      obtain ⟨hal, hsh, hlen, hsb⟩ := okSort_facts hok
      obtain ⟨a, ys, rfl, ha, ra⟩ := w1.seq e1
      rw [ref1 r]
      obtain ⟨its, T, o, n, rv, hT, ho, hc, hd, hz⟩ : ∃ (its : List Value) (T : String) (o : Obj) (n : Nat), Vals ys its ∧ (T = "list" ∨ T = "tuple") ∧ s.heap.get? a = some o ∧ o.cls = .type T ∧ o.data = .seq its.toArray n ∧ ys.length ≤ sizeLine := by
        rcases ha with ha | ha
        · obtain ⟨its, rv, hl, hz⟩ := I.list (.of ha)
          obtain ⟨o, ho, hc, n, hd⟩ := hl.isList
          exact ⟨its, "list", o, n, rv, .inl rfl, ho, hc, hd, hz⟩
        · obtain ⟨its, rv, hl, hz⟩ := I.tuple (.of ha)
          obtain ⟨o, ho, hc, n, hd⟩ := hl
          exact ⟨its, "tuple", o, n, rv, .inr rfl, ho, hc, hd, hz⟩
      have hyl := ra.length
      have hme : (ys.zip xs).map Prod.snd = xs := List.map_snd_zip (by omega)
      have hE := zip_each rv ra
      refine sorted_seq (β := V × D) (enc := Prod.snd) (bs := ys.zip xs) (R := fun u (p : V × D) => RelV p.1 u ∧ Rp X.K A H p.1 p.2) hT ho hc hd hE (each_mem hE fun u p hp hr => ?_) (by rw [hme]; exact hal) (by rw [hme]; exact hsb) (by rw [List.length_zip]; omega) (fun p hp => ?_) fun h' d out m hk hp he eo => ?_
      · have hm : p.2 ∈ xs := (List.of_mem_zip (a := p.1) (b := p.2) hp).2
        exact Dp.reads I _ p.1 u ((WRp.dp (.inl hr.2) (hsh _ hm).1)) hr.1
      · have hm : p.2 ∈ xs := (List.of_mem_zip (a := p.1) (b := p.2) hp).2
        have := (hsh _ hm).2
        omega
      · obtain ⟨v1, r1⟩ := each_out eo
        have hsm : ((ys.zip xs).mergeSort (PySem.W.dataLe false Prod.snd)).map Prod.snd = xs.mergeSort (PySem.W.dataLe false id) := by
          have := PySem.W.sort_maps (r := PySem.W.dataLe false Prod.snd) (s := PySem.W.dataLe false id) (Prod.snd : V × D → D) (l := ys.zip xs) (fun _ _ _ _ => rfl)
          rw [this, hme]
        rw [hsm] at r1
        have hlo : (((ys.zip xs).mergeSort (PySem.W.dataLe false Prod.snd)).map Prod.fst).length ≤ sizeLine := by
          rw [List.length_map, List.length_mergeSort, List.length_zip]
          omega
        have hp' : H d = none := I.hok.fresh hp
        exact ⟨.ref d, upd H d (.lst (((ys.zip xs).mergeSort (PySem.W.dataLe false Prod.snd)).map Prod.fst)), I.laid (t' := s.toks) hk hp ⟨hlo, out, m, v1, he⟩, rfl, q _ _ (same_upd hp') (Res.newL tr hp' r1 (Same.refl H))⟩
    · cases e
  · cases e
end
end Pm

/-! Pm: {k: v for ..} with ints for keys, d.get(k, x). -/
namespace Pm
open PySem PySem.Spec PyProof.Rows L2
def dcK (kd : List (D × D)) (v : D) : D → Option (List (D × D))
  | .int i => some (dPutD kd i v)
  | _ => none
def dcL (g : XG) (t : PEnv → Option Bool) (fk fv : Xp) (ρ : PEnv) : List D → List (D × D) → Option (List (D × D))
  | [], kd => some kd
  | x :: xs, kd => (g x ρ).bind fun ρ1 => (t ρ1).bind fun b => if b then (fk ρ1).bind fun k => (fv ρ1).bind fun v => (dcK kd v k).bind fun kd2 => dcL g t fk fv ρ xs kd2 else dcL g t fk fv ρ xs kd
def xDc (it : XL) (g : XG) (t : PEnv → Option Bool) (fk fv : Xp) (own : List Nat) : Xp := fun ρ => (it ρ).bind fun ds => (if ds.length ≤ 16777216 then dcL g t fk fv (wipeP ρ own) ds [] else none).map .dict
theorem dcK_some {kd kd2 : List (D × D)} {v k : D} (h : dcK kd v k = some kd2) : ∃ i, k = .int i ∧ kd2 = dPutD kd i v := by
  unfold dcK at h
  split at h
  · next i => cases h; exact ⟨i, rfl, rfl⟩
  · cases h
theorem dputD_len (kd : List (D × D)) (i : Int) (v : D) : (dPutD kd i v).length ≤ kd.length + 1 := by
  unfold dPutD
  split
  · rw [List.length_map]; omega
  · rw [List.length_append, List.length_singleton]; omega
section
variable {X : Cx} {O ts : List Nat} {st : Bool} {m mk : Md} {tg iter kx vx : Expr} {ifs : List Expr} {scope : Scope} {own : List (Str × Nat)} {it : XL} {g : XG} {t : PEnv → Option Bool} {fk fv : Xp} {pos : Pos}
theorem dc_of (hm : m ≠ .w) (hts : ∀ i, ts.contains i = true → (own.map (·.2)).contains i = true) (hO : ∀ i ∈ own.map (·.2), i ∉ O) (σ : L2.St) (H : Hp) (Q : VK) (q : simT X.K O .f (xDc it g t fk fv (own.map (·.2))) σ H Q) :
    tDc (simI X.K O st it) (simG X.K O O ts g) (simTT X.K O t) (simT X.K O mk fk) (simT X.K O m fv) (own.map (·.2)) σ H Q := by
  obtain ⟨H0, A0, G, ρ, B, d, S, e, k⟩ := q
  obtain ⟨ds, eds, e⟩ := bind2 e
  obtain ⟨ys, eys, e⟩ := Option.map_eq_some_iff.mp e
  subst e
  split at eys
  case isFalse => cases eys
  case isTrue hsz =>
  refine ⟨H0, A0, G, ρ, B, ds, S, eds, fun J H1 gs s1 yl gr hz Dn hD => ?_⟩
  have hts' : ∀ i, ts.contains i = true → i ∉ O := fun i hi => hO i (by simpa using hts i hi)
  refine ⟨fun i n Hc => n = ds.length - i ∧ i ≤ ds.length ∧ Same H1 Hc ∧ ∃ ks dv kd, Hc Dn = some (.dK ks) ∧ RpL X.K (Av (Gd A0 Dn) B) Hc (ks.map (·.2)) dv ∧ kd = (ks.map fun p => keyD p.1).zip dv ∧ ks.length ≤ i ∧ dcL g t fk fv (wipeP ρ (own.map (·.2))) (ds.drop i) kd = some ys,
    ⟨ds.length, rfl, Nat.zero_le _, same_upd hD, [], [], [], upd_same, .nil, rfl, Nat.le_refl _, eys⟩, ?_⟩
  rintro i n Hc ⟨rfl, hi, sc, ks, dv, kd, hDc, rdv, ekd, hkl, epost⟩
  have Sg : Sim X.K H0 (Gd A0 Dn) G O σ Hc ρ B := (S.mono s1).guard hD sc ⟨_, hDc, NT.dK⟩
  have gw : ∀ p ∈ gs, WRp X.K (Av (Gd A0 Dn) B) Hc p.1 p.2 := fun p hp => (gr p hp).w.step sc fun a z => by
    rcases gd_av z with z | z
    · exact .inl z
    · exact .inr (by rw [z]; exact hD)
  by_cases hlt : i < ds.length
  · have ed : ds[i]? = some ds[i] := List.getElem?_eq_getElem hlt
    rw [List.drop_eq_getElem_cons hlt] at epost
    obtain ⟨hgo, hy⟩ := yl.go _ Hc i _ Sg.tr gw ed
    simp only [dcL] at epost
    obtain ⟨ρ1, eρ1, epost⟩ := bind2 epost
    obtain ⟨b, eb, epost⟩ := bind2 epost
    refine .inr ⟨hgo, fun H' => i + 1 ≤ ds.length ∧ Same H1 H' ∧ ∃ ks dv kd, H' Dn = some (.dK ks) ∧ RpL X.K (Av (Gd A0 Dn) B) H' (ks.map (·.2)) dv ∧ kd = (ks.map fun p => keyD p.1).zip dv ∧ ks.length ≤ i + 1 ∧ dcL g t fk fv (wipeP ρ (own.map (·.2))) (ds.drop (i + 1)) kd = some ys, fun H' hN => ?_, fun x H' hx => ?_⟩
    · obtain ⟨h1, h2, h3⟩ := hN
      exact ⟨ds.length - (i + 1), by omega, rfl, h1, h2, h3⟩
    · obtain ⟨s2, rx⟩ := hy x H' hx
      refine ⟨H0, Gd A0 Dn, G, wipeP ρ (own.map (·.2)), B, _, ρ1, (Sg.mono s2).wipe _ hO, rx, eρ1, fun σ2 c2 S2 => ?_⟩
      rw [restr_same Sg hts'] at S2
      refine ⟨wipe_eq c2 hts, H0, Gd A0 Dn, G, ρ1, B, b, S2, eb, fun H3 s3 => ?_⟩
      cases b with
      | true =>
        rw [if_pos rfl]
        rw [if_pos rfl] at epost
        obtain ⟨kk, ek, epost⟩ := bind2 epost
        obtain ⟨y, ey, epost⟩ := bind2 epost
        obtain ⟨kd2, ekd2, epost⟩ := bind2 epost
        refine ⟨H0, Gd A0 Dn, G, ρ1, B, kk, S2.mono s3, ek, fun kv H4 s4 r4 => ⟨H0, Gd A0 Dn, G, ρ1, B, y, (S2.mono s3).mono s4, ey, fun v H5 s5 r5 => ?_⟩⟩
        obtain ⟨ki, rfl, rfl⟩ := dcK_some ekd2
        · have r5' := r5.toS ((S2.mono s3).mono s4).tr hm
          have s25 := ((s2.trans s3).trans s4).trans s5
          have avD : Av (Gd A0 Dn) B Dn := .inl (.inr rfl)
          obtain ⟨ds', rr', ee'⟩ := dput_ok (i := ki) r5' (rdv.mono s25)
          have hlen := length_putK ks (Sum.inl ki) v
          refine ⟨ks, Sum.inl ki, r4.toW.int, s25 _ _ hDc, ?_, by omega, fun a o e => ?_, putK ks (Sum.inl ki) v, ds', _, upd_same, rr'.step (fun a o e n => ?_) fun _ z => .inl z, ee', by omega, by rw [← ekd]; exact epost⟩
          · have : (16777216 : Nat) = sizeLine := rfl
            omega
          · have hne : a ≠ Dn := fun z => by rw [z, hD] at e; cases e
            rw [upd_ne hne]
            exact s25 _ _ (sc _ _ e)
          · rw [upd_ne (fun z => n (by rw [z]; exact avD))]
            exact e
      | false =>
        rw [if_neg Bool.false_ne_true]
        rw [if_neg Bool.false_ne_true] at epost
        have s23 := s2.trans s3
        exact ⟨by omega, sc.trans s23, ks, dv, kd, s23 _ _ hDc, rdv.mono s23, ekd, by omega, epost⟩
  · have e : i = ds.length := by omega
    subst e
    refine .inl ⟨yl.stop _ Hc Sg.tr gw, ?_⟩
    rw [List.drop_length] at epost
    cases epost
    have hHD : H Dn = none := s1.free hD
    refine k _ Hc (s1.trans sc) (.inl ⟨Dn, rfl, hHD, .dic hDc (rdv.anti fun a z => ?_) ekd⟩)
    rcases z with z | z
    · rcases z with z | z
      · exact .inl (.inl z)
      · exact .inr z
    · exact .inl (.inr z)
theorem se_dc (hN : X.N.Nodup) (hi : SI X O st tg iter it) (ok : BlkOk X.N X.env.scope scope own) (hg : InBlk X scope fun Y => SG Y O O ts tg g) (ht : InBlk X scope fun Y => STs Y O ifs t) (hk : InBlk X scope fun Y => SE Y O mk kx fk) (he : InBlk X scope fun Y => SE Y O m vx fv)
    (hm : m ≠ .w := by decide) (hts : ts.all (fun i => (own.map (·.2)).contains i) = true := by rfl) (hO : (own.map (·.2)).all (fun i => !O.contains i) = true := by rfl) (hc : X.calm = true := by rfl) (hs : ∀ x, foldedSetIterable iter X.env x = pure x := by intro _; rfl) :
    SE X O .f (.DictComp kx vx [⟨tg, iter, ifs, 0⟩] scope pos) (xDc it g t fk fv (own.map (·.2))) :=
  ⟨pe_imp (pe_dc hc hN hi.pi ok (fun s H C cl fp => (hg s H C cl fp).pg) (fun s H C cl fp => (ht s H C cl fp).pts) (fun s H C cl fp => (hk s H C cl fp).pe) (fun s H C cl fp => (he s H C cl fp).pe) hs)
    (dc_of hm (fun i hi => by simpa using List.all_eq_true.mp hts i (by simpa using hi)) (fun i hi => by simpa using List.all_eq_true.mp hO i hi))⟩
end
/-! ### d.get(k, x) -/
def oGet2 : D → D → D → Option D
  | .dict kd, .int i, d => if (kd.any fun p => isNone p.1) then none else some ((dGetD kd i).getD d)
  | _, _, _ => none
def xGet2 (fo fe ff : Xp) : Xp := fun ρ => (fo ρ).bind fun x => (fe ρ).bind fun y => (ff ρ).bind fun z => oGet2 x y z
theorem dget_none {K : PySem.W.Frag} {A : Addr → Prop} {H : Hp} {i : Int} {ks : List (Key × V)} {ds : List D} (r : RpL K A H (ks.map (·.2)) ds) (h : dGetD ((ks.map fun p => keyD p.1).zip ds) i = none) : valV ks (Sum.inl i) = none := by
  have e := dhas_eq (i := i) r
  unfold dGetD at h
  rw [Option.map_eq_none_iff, List.find?_eq_none] at h
  have : dHasD ((ks.map fun p => keyD p.1).zip ds) i = false := by
    unfold dHasD
    rw [List.any_eq_false]
    exact h
  rw [this] at e
  cases hv : valV ks (Sum.inl i) with
  | none => rfl
  | some w => rw [hv] at e; cases e
section
variable {X : Cx} {O : List Nat} {m ma mb : Md} {k : Nat} {o a b : Expr} {fo fa fb : Xp} {apos cpos : Pos}
theorem se_dget2 (hr : Room k X.A) (ho : SE X O m o fo) (ha : SE X O ma a fa) (hb : SE X O mb b fb) (M : M2 X o "get" apos a b cpos) (hmb : mb ≠ .w := by decide) : SE X O .s (.Call (.Attribute o "get" apos) [a, b] [] cpos) (xGet2 fo fa fb) := by
  refine ⟨pe_imp (pe_dget2 (hu1 hr) ho.pe ha.pe hb.pe M) fun σ H Q q => ?_⟩
  obtain ⟨H0, A0, G, ρ, B, d, S, e, k⟩ := q
  obtain ⟨x, ex, e⟩ := bind2 e
  obtain ⟨y, ey, e⟩ := bind2 e
  obtain ⟨z, ez, e⟩ := bind2 e
  unfold oGet2 at e
  split at e
  · split at e
    · cases e
    · rename_i hn
      cases e
      refine ⟨H0, A0, G, ρ, B, _, S, ex, fun v H1 s1 r1 => ?_⟩
      obtain ⟨t, ks, ds, rfl, ht, rt, ek⟩ := r1.toW.dict (no_scr hn)
      refine ⟨t, rfl, .inl ⟨ks, .inl ht⟩, H0, A0, G, ρ, B, _, S.mono s1, ey, fun u H2 s2 r2 => ⟨H0, A0, G, ρ, B, _, (S.mono s1).mono s2, ez, fun w H3 s3 r3 => ?_⟩⟩
      have ht3 := s3 _ _ (s2 _ _ ht)
      have rt3 := (rt.mono s2).mono s3
      refine ⟨valV ks (Sum.inl _), by rw [r2.toW.int]; exact DGet.k (k := Sum.inl _) ht3, ?_⟩
      rw [ek] at k
      cases hv : dGetD ((ks.map fun p => keyD p.1).zip ds) _ with
      | none =>
        rw [hv] at k
        rw [dget_none rt3 hv]
        exact k _ H3 ((s1.trans s2).trans s3) (r3.toS ((S.mono s1).mono s2).tr hmb)
      | some d' =>
        rw [hv] at k
        obtain ⟨w', ew, rw'⟩ := dget_some rt3 hv
        rw [ew]
        exact k _ H3 ((s1.trans s2).trans s3) rw'
  · cases e
end
end Pm

/-! Pm: zip of a list and a tuple, in any mix. -/
namespace Pm
open PySem PySem.Spec PyProof.Rows L2
/-- a list, or a tuple -/
def SqB (b : Bool) (K : PySem.W.Frag) (H : Hp) (l : Addr) (vs : List V) : Prop := if b = true then SqL K H l vs else SqT K H l vs
def ItB (b : Bool) (h : Heap) (it l : Addr) (n : Nat) : Prop := if b = true then h.IsListIter it l n else h.IsTupleIter it l n
def OfB (b : Bool) (h : Heap) (l : Addr) (us : Array Value) : Prop := if b = true then h.IsList l us else h.IsTuple l us
def itO (b : Bool) (l : Addr) : Obj := if b = true then { cls := .type "list_iterator", data := .fields #[.ref l, .int 0 0] } else { cls := .type "tuple_iterator", data := .fields #[.ref l, .int 0 0] }
theorem ItB.obj {b : Bool} {h : Heap} {it l : Addr} {n : Nat} (st : ItB b h it l n) : ∃ o, h.get? it = some o ∧ ∀ v, o.data ≠ .cell v := by
  cases b with
  | true =>
    obtain ⟨o, e1, _, d1⟩ := (st : h.IsListIter it l n)
    exact ⟨o, e1, fun v q => by rw [d1] at q; cases q⟩
  | false =>
    obtain ⟨o, e1, _, d1⟩ := (st : h.IsTupleIter it l n)
    exact ⟨o, e1, fun v q => by rw [d1] at q; cases q⟩
theorem ItB.keep {b : Bool} {h h' : Heap} {it l : Addr} {n : Nat} (st : ItB b h it l n) (k : ∀ o, h.get? it = some o → h'.get? it = some o) : ItB b h' it l n := by
  cases b with
  | true => exact Heap.IsListIter.at (h := h) st fun o q => k o q
  | false => exact Heap.IsTupleIter.at (h := h) st fun o q => k o q
theorem draws_b {prog : Program} {w : World} {A : Around} (b : Bool) (hh : A.handled = none) (it l : Addr) (hne : l ≠ it) (us : Array Value) : Draws prog w A it [it, l] us.size (fun i v => us[i]? = some v) (fun i h => ItB b h it l i ∧ OfB b h l us) := by
  cases b with
  | true => exact Draws.list hh it l hne us
  | false => exact Draws.tuple hh it l hne us
theorem begins_b (b : Bool) (l : Addr) (us : Array Value) : Begins (.ref l) (itO b l) fun h => OfB b h l us := by
  cases b with
  | true => exact begins_list l us
  | false => exact begins_tuple l us
theorem itO_at {b : Bool} {h : Heap} {it l : Addr} (e : h.get? it = some (itO b l)) : ItB b h it l 0 := by
  cases b with
  | true => exact ⟨_, e, rfl, rfl⟩
  | false => exact ⟨_, e, rfl, rfl⟩
section
variable {X : Cx} {pins : List (Addr × Obj)} {σ : L2.St} {H : Hp} {s : Shared} {l : Addr}
theorem inv_b (I : Inv X pins σ H s) {b : Bool} {vs : List V} (h : SqB b X.K H l vs) : ∃ its : List Value, Vals vs its ∧ OfB b s.heap l its.toArray ∧ l < s.heap.objs.size := by
  cases b with
  | true =>
    obtain ⟨its, rv, p, _⟩ := I.list (show SqL X.K H l vs from h)
    exact ⟨its, rv, p.isList, p.lt⟩
  | false =>
    obtain ⟨its, rv, p, _⟩ := I.tuple (show SqT X.K H l vs from h)
    obtain ⟨o, ho, _⟩ := id p
    exact ⟨its, rv, p, Heap.lt_size ho⟩
theorem inv_binj (I : Inv X pins σ H s) {b : Bool} {vs ws : List V} (h : SqB b X.K H l vs) (h' : SqB b X.K H l ws) : vs = ws := by
  cases b with
  | true => exact I.list_inj h h'
  | false => exact I.tuple_inj h h'
end
def ItzM (b1 b2 : Bool) (K : PySem.W.Frag) (p q : Addr) : It where
  go := fun i H => ∃ (vs ws : List V) (x y : V), SqB b1 K H p vs ∧ SqB b2 K H q ws ∧ vs[i]? = some x ∧ ws[i]? = some y
  yld := fun i H v H' => ∃ T x y, v = .ref T ∧ H T = none ∧ H' = upd H T (.tup [x, y]) ∧ (∀ vs, SqB b1 K H p vs → vs[i]? = some x) ∧ ∀ ws, SqB b2 K H q ws → ws[i]? = some y
  stop := fun i H => ∃ vs ws : List V, SqB b1 K H p vs ∧ SqB b2 K H q ws ∧ i ≤ vs.length ∧ i ≤ ws.length ∧ (i = vs.length ∨ i = ws.length)
theorem turn_zipM {P : Program} {w : World} {K : PySem.W.Frag} {es : List Expr} {kk : Nat} {tpos : Pos} {b1 b2 : Bool} {p q z TI TO j1 j2 : Addr} (S : ZipSep2 z TI TO j1 j2 [j1, p] [j2, q]) (n1 : p ≠ j1) (n2 : q ≠ j2) :
    Turn P w K (.Tuple es kk tpos) (ItzM b1 b2 K p q) [z, TI, TO, j1, j2] z (fun i h => IsZip h z TI TO .none ∧ IsTupOf2 h TI (.ref j1) (.ref j2) ∧ (∃ x y, IsTupOf2 h TO x y) ∧ ItB b1 h j1 p i ∧ ItB b2 h j2 q i) where
  mem := List.mem_cons_self
  obj := fun i h st c hc => by
    obtain ⟨hz, hI, ⟨x, y, hO⟩, st1, st2⟩ := st
    simp only [List.mem_cons, List.not_mem_nil, or_false] at hc
    rcases hc with rfl | rfl | rfl | rfl | rfl
    · exact ⟨_, hz, fun v e => nomatch e⟩
    · exact ⟨_, hI, fun v e => nomatch e⟩
    · exact ⟨_, hO, fun v e => nomatch e⟩
    · exact st1.obj
    · exact st2.obj
  keep := fun i h h' st k => by
    obtain ⟨hz, hI, ⟨x, y, hO⟩, st1, st2⟩ := st
    refine ⟨k z (by simp) _ hz, k TI (by simp) _ hI, ⟨x, y, k TO (by simp) _ hO⟩, ?_, ?_⟩
    · exact st1.keep fun o e => k j1 (by simp) o e
    · exact st2.keep fun o e => k j2 (by simp) o e
  item := by
    intro X hP hw hK hc i pins s σ H E I hf st hg
    subst hP hw hK
    obtain ⟨hz, hI, ⟨x0, y0, hO⟩, st1, st2⟩ := st
    obtain ⟨vs, ws, x, y, g1, g2, e1, e2⟩ := hg
    obtain ⟨us, rv, pl, _⟩ := inv_b I g1
    obtain ⟨us2, rv2, pl2, _⟩ := inv_b I g2
    obtain ⟨u, hu, ru⟩ := rv.get e1
    obtain ⟨u2, hu2, ru2⟩ := rv2.get e2
    have hzl : z < s.heap.objs.size := Heap.lt_size hz
    have hh : X.A.in1.handled = none := I.ok.hd hc
    have D1 := draws_b (prog := X.prog) (w := X.w) (A := X.A.in1) b1 hh j1 p n1 us.toArray
    have D2 := draws_b (prog := X.prog) (w := X.w) (A := X.A.in1) b2 hh j2 q n2 us2.toArray
    have l1 : i < us.toArray.size := by have := (List.getElem?_eq_some_iff.mp hu).1; simpa using this
    have l2 : i < us2.toArray.size := by have := (List.getElem?_eq_some_iff.mp hu2).1; simpa using this
    refine wpAny_pyNext_zipD2_item S D1 D2 hz hI hO ⟨st1, pl⟩ ⟨st2, pl2⟩ l1 l2 fun a1 a2 h' tk q1 q2 z' O' t1 t2 hT hsz hk => ?_
    have ea1 : a1 = u := by
      rw [List.getElem?_toArray, hu] at q1
      exact (Option.some.inj q1).symm
    have ea2 : a2 = u2 := by
      rw [List.getElem?_toArray, hu2] at q2
      exact (Option.some.inj q2).symm
    subst ea1 ea2
    refine ⟨_, rfl, wpAny_letOwnedTupleGo_zip (s := { s with heap := h', toks := tk }) z' fun h2 z2 sb => ?_⟩
    have hT2 : h2.get? s.heap.objs.size = some { cls := .type "tuple", data := .seq #[a1, a2] } := by
      rw [← hT]
      exact sb.2 _ (Nat.ne_of_gt hzl)
    have hnew : ObjOk X.prog X.w (upd H s.heap.objs.size (.tup [x, y])) h2 s.heap.objs.size (.tup [x, y]) := by
      refine ⟨?_, [a1, a2], .cons ru (.cons ru2 .nil), ⟨_, hT2, rfl, _, rfl⟩⟩
      show 2 ≤ sizeLine
      decide
    have I2 : Inv X pins σ (upd H s.heap.objs.size (.tup [x, y])) { s with heap := h2, toks := tk } := by
      refine I.turnedNew (t' := tk) (ch := [z, TI, TO, j1, j2]) (fun c o hb e => ?_) hf (Nat.le_refl _) hnew
      simp only [List.mem_cons, List.not_mem_nil, or_false, not_or] at hb
      rw [← hk c o hb.1 hb.2.2.1 hb.2.2.2.1 hb.2.2.2.2 e]
      exact sb.2 c hb.1
    have up : ∀ c o, c ≠ z → h'.get? c = some o → h2.get? c = some o := fun c o hcz e => by rw [← e]; exact sb.2 c hcz
    refine ⟨.ref s.heap.objs.size, _, I2, rfl, ⟨_, x, y, rfl, I.hok.fresh (Nat.le_refl _), rfl, fun ls hls => ?_, fun ls hls => ?_⟩, ⟨z2, ?_, ⟨a1, a2, up _ _ S.TOz O'⟩, ?_, ?_⟩, fun c hcm => ?_⟩
    · rw [inv_binj I hls g1]
      exact e1
    · rw [inv_binj I hls g2]
      exact e2
    · exact up _ _ S.TIz (hk _ _ S.TIz S.TITO S.TIi1 S.TIi2 hI)
    · exact t1.1.keep fun o e => up _ o S.zi1.symm e
    · exact t2.1.keep fun o e => up _ o S.zi2.symm e
    · have hlt : c < s.heap.objs.size := by
        simp only [List.mem_cons, List.not_mem_nil, or_false] at hcm
        rcases hcm with rfl | rfl | rfl | rfl | rfl
        · exact hzl
        · exact Heap.lt_size hI
        · exact Heap.lt_size hO
        · obtain ⟨o, e, _⟩ := st1.obj
          exact Heap.lt_size e
        · obtain ⟨o, e, _⟩ := st2.obj
          exact Heap.lt_size e
      rw [upd_ne (Nat.ne_of_lt hlt)]
      exact (hf c hcm).1
  done := by
    intro X hP hw hK hc i pins s σ H E I hf st hg
    subst hP hw hK
    obtain ⟨hz, hI, ⟨x0, y0, hO⟩, st1, st2⟩ := st
    obtain ⟨vs, ws, g1, g2, m1, m2, hend⟩ := hg
    obtain ⟨us, rv, pl, _⟩ := inv_b I g1
    obtain ⟨us2, rv2, pl2, _⟩ := inv_b I g2
    have hh : X.A.in1.handled = none := I.ok.hd hc
    have D1 := draws_b (prog := X.prog) (w := X.w) (A := X.A.in1) b1 hh j1 p n1 us.toArray
    have D2 := draws_b (prog := X.prog) (w := X.w) (A := X.A.in1) b2 hh j2 q n2 us2.toArray
    have k1 := rv.length
    have k2 := rv2.length
    refine wpAny_pyNext_zipD2_end S D1 D2 hz hI hO ⟨st1, pl⟩ ⟨st2, pl2⟩ (by simp; omega) (by simp; omega) (by simp; omega) fun h' tk hk => ⟨rfl, ?_⟩
    refine I.turnedL (t' := tk) (ch := [z, TI, TO, j1, j2]) (fun c o hb e => ?_) hf
    simp only [List.mem_cons, List.not_mem_nil, or_false, not_or] at hb
    exact hk c o hb.1 hb.2.2.1 hb.2.2.2.1 hb.2.2.2.2 e
  self := fun A i s Q E st h => wpAny_pyIter_zip st.1 h
def iZipM (K : PySem.W.Frag) (ta : TA) : TI := fun σ H R => ta σ H fun vs H1 => ∃ b1 b2 p q xs ys, vs = [.ref p, .ref q] ∧ SqB b1 K H1 p xs ∧ SqB b2 K H1 q ys ∧ R (ItzM b1 b2 K p q) H1
theorem pi_zipM {X : Cx} {e e2 : Expr} {ta : TA} {p pos tpos : Pos} {es : List Expr} {kk : Nat} (hg : L2.Gl X "zip") (hm : X.mg "zip" = none) (ha : PA X [e, e2] ta)
    (hs : starEach [e, e2] X.env = (false, eval e X.env) :: starEach [e2] X.env := by rfl) (hpl : (backTo pos (starEach [e2] X.env)).any (·.1) = false := by rfl) :
    PI X (.Tuple es kk tpos) (.Call (.Name "zip" p) [e, e2] [] pos) (iZipM X.K ta) := by
  refine ⟨fun pins s σ H R I h => ?_⟩
  refine Call_ (ld_blt I hg hm PyProof.Rows.boot_zip (PyProof.Rows.callWith_type1 (thn (ha.run pos pins s σ H _ I h) fun us s1 ⟨vs, H1, I1, r1, q1⟩ => ?_) hs hpl))
  obtain ⟨b1, b2, l, m, xs, ys, rfl, g1, g2, k⟩ := q1
  obtain ⟨u1, u2, rfl, r, r'⟩ := vals2 r1
  obtain rfl : u1 = Value.ref l := r
  obtain rfl : u2 = Value.ref m := r'
  obtain ⟨ws, rv, pl, lt1⟩ := inv_b I1 g1
  obtain ⟨ws2, rv2, pl2, lt2⟩ := inv_b I1 g2
  refine zip_begins2 (begins_b b1 l ws.toArray) (begins_b b2 m ws2.toArray) pl pl2 fun h' hz hTI hTO o1 o2 hsz hk => wpAny_pyIter_zip hz ?_
  have I2 : Inv X pins σ H1 { s1 with heap := h' } := I1.kept (t' := s1.toks) hk
  have sep := zip_sep2 (N := s1.heap.objs.size) (fp1 := [l]) (fp2 := [m]) (by simpa using lt1) (by simpa using lt2)
  refine ⟨s1.heap.objs.size + 4, [s1.heap.objs.size + 4, s1.heap.objs.size + 2, s1.heap.objs.size + 3, s1.heap.objs.size, s1.heap.objs.size + 1], _, _, H1, rfl, I2, turn_zipM sep (Nat.ne_of_lt lt1) (Nat.ne_of_lt (Nat.lt_succ_of_lt lt2)), ⟨hz, hTI, ⟨_, _, hTO⟩, itO_at o1, itO_at o2⟩, fun c hcm => ?_, k⟩
  have hle : s1.heap.objs.size ≤ c := by
    simp only [List.mem_cons, List.not_mem_nil, or_false] at hcm
    rcases hcm with rfl | rfl | rfl | rfl | rfl <;> first | exact Nat.le_refl _ | exact Nat.le_add_right _ _
  exact I1.fpOk hle (I1.hok.fresh hle)
/-! ### as a rule -/
def isL : D → Bool
  | .list _ => true
  | _ => false
theorem WRp.seqB {K : PySem.W.Frag} {A : Addr → Prop} {H : Hp} {v : V} {d : D} {xs : List D} (h : WRp K A H v d) (e : seqD d = some xs) : ∃ a vs, v = .ref a ∧ SqB (isL d) K H a vs ∧ RpL K A H vs xs ∧ (H a = some (.lst vs) ∨ H a = some (.tup vs)) := by
  unfold seqD at e
  split at e
  · cases e
    obtain ⟨a, ys, rfl, ha, ra⟩ := h.lst
    exact ⟨a, ys, rfl, (.of ha : SqL K H a ys), ra, .inl ha⟩
  · cases e
    obtain ⟨a, ys, rfl, ha, na, ra⟩ := h.tup
    exact ⟨a, ys, rfl, (.of ha : SqT K H a ys), ra, .inr ha⟩
  · cases e
def oZipM : List D → Option (List D)
  | [x, y] => (seqD x).bind fun xs => (seqD y).bind fun ys => some (zipD xs ys)
  | _ => none
section
variable {X : Cx} {O : List Nat} {st : Bool} {a b : Expr} {fs : XL} {p pos : Pos}
theorem si_zipM {tpos : Pos} {elts : List Expr} {kk : Nat} (hm : X.mg "zip" = none) (ha : SA X O st [a, b] fs) (hg : L2.Gl X "zip" := by rfl)
    (hs : starEach [a, b] X.env = (false, eval a X.env) :: starEach [b] X.env := by rfl) (hpl : (backTo pos (starEach [b] X.env)).any (·.1) = false := by rfl) : SI X O st (.Tuple elts kk tpos) (.Call (.Name "zip" p) [a, b] [] pos) (xIt oZipM fs) := by
  refine ⟨pi_imp (pi_zipM hg hm (pa_ok ha.pa) hs hpl) fun σ H R q => ?_⟩
  obtain ⟨H0, A0, G, ρ, B, ds, S, e, k⟩ := q
  obtain ⟨d, ed, e⟩ := bind2 e
  refine ⟨H0, A0, G, ρ, B, _, S, ed, fun vs H1 s1 r1 ok => ?_⟩
  unfold oZipM at e
  split at e
  · rename_i x y
    obtain ⟨xs, ex, e⟩ := bind2 e
    obtain ⟨ys, ey, e⟩ := bind2 e
    cases e
    obtain ⟨v, u, rfl, sr, sr'⟩ := rsL2 r1
    obtain ⟨t, ws, rfl, qt, rt, ht⟩ := sr.w.seqB ex
    obtain ⟨t', ws', rfl, qt', rt', ht'⟩ := sr'.w.seqB ey
    refine ⟨isL x, isL y, t, t', ws, ws', rfl, qt, qt', k _ H1 [(.ref t, x), (.ref t', y)] s1 ⟨fun A H i d tr g e => ?_, fun A H tr g => ?_⟩ (fun p hp => ?_) ?_⟩
    · obtain ⟨x1, y1, ex1, ey1, rfl⟩ := zipD_get e
      obtain ⟨b, zs, eb, hb, rb, _⟩ := (g _ (List.mem_cons_self)).seqB ex
      obtain ⟨b', zs', eb', hb', rb', _⟩ := (g _ (List.mem_cons_of_mem _ List.mem_cons_self)).seqB ey
      cases eb
      cases eb'
      obtain ⟨x2, ex2, rx2⟩ := rb.get ex1
      obtain ⟨y2, ey2, ry2⟩ := rb'.get ey1
      refine ⟨⟨zs, zs', x2, y2, hb, hb', ex2, ey2⟩, fun z H' hy => ?_⟩
      obtain ⟨T, u, w, rfl, hT, rfl, hu, hw⟩ := hy
      have e1 := hu zs hb
      have e2 := hw zs' hb'
      rw [ex2] at e1
      rw [ey2] at e2
      cases e1
      cases e2
      exact ⟨same_upd hT, rp_pair tr hT rx2 ry2⟩
    · obtain ⟨b, zs, eb, hb, rb, _⟩ := (g _ (List.mem_cons_self)).seqB ex
      obtain ⟨b', zs', eb', hb', rb', _⟩ := (g _ (List.mem_cons_of_mem _ List.mem_cons_self)).seqB ey
      cases eb
      cases eb'
      refine ⟨zs, zs', hb, hb', ?_⟩
      rw [zipD_len, rb.length, rb'.length]
      omega
    · have z : p = (.ref t, x) ∨ p = (.ref t', y) := by simpa using hp
      rcases z with rfl | rfl
      · exact sr
      · exact sr'
    · rw [zipD_len, ← rt.length]
      have := ok t ws ht
      omega
  · cases e
end
end Pm


/-! the walk of dockheld_k24_whole_loads_lines, printed by gen.py -/
namespace K24
open PySem PySem.Spec PyProof.Rows L2 Pm
def topS (i : Nat) : Stmt := PySem.Challenge.pw_dockheld_k24_whole_loads_lines.main.body.getD i (.Pass ⟨0, 0, 0, 0⟩)
section
variable {P : Program} {w : World} {K : PySem.W.Frag} {mg : Str → Option Value} {base : Heap}
/-! ### divisor -/
abbrev s_divisor : Stmt := topS 1
theorem sc_divisor : FnScope ["first", "second"] ["first", "second"] (defScope s_divisor) := ⟨rfl, rfl, rfl, by decide +kernel, rfl, by decide +kernel, by decide +kernel⟩
def l1_divisor : XS :=
  (sSeq (sPar [0, 1] (xCons (xVar 1) (xCons (xBin oMod (xVar 0) (xVar 1)) xNil)))
  sNop)
def g_divisor : XS :=
  (sSeq (sPar [0, 1] (xCons (xCall bAbs (xCons (xVar 0) xNil)) (xCons (xCall bAbs (xCons (xVar 1) xNil)) xNil)))
  (sSeq (sWhile (tOf (xBin oGt (xVar 1) (xC (.int 0)))) l1_divisor)
  (sRet (xVar 0))))
def d_divisor : List D → Option D := runD 2 2 g_divisor
theorem ok_divisor {f : Addr} {fd : FuncData} (F : FnP K "divisor" s_divisor f fd) (b_abs : mg "abs" = none) : FnOk P w K mg base CX0 1 f fd ["first", "second"] (spD K 2 d_divisor) := by
  have nd := sc_divisor.nd
  refine fnp_ok (k := 0) (O' := []) F sc_divisor fun cdv A outer s H E hr => ?_
  exact (by exact ss_cons (by exact ss_par 0 1 nd (by exact sam_cons (by exact se_callB (st := false) cb_abs b_abs (by exact sa_cons (by exact se_var 0) sa_nil)) (by exact sam_cons (by exact se_callB (st := false) cb_abs b_abs (by exact sa_cons (by exact se_var 1) sa_nil)) sam_nil))) (by exact ss_cons (by exact SS.weak (O1 := [1]) (by exact ss_while (O' := [1]) (by exact st_cmp op_gtD (by exact se_varW 1) se_int) (by exact ss_cons (by exact SS.weak (O1 := []) (by exact ss_par 0 1 nd (by exact sam_cons (by exact se_var 1) (by exact sam_cons (by exact se_op op_modD (by exact se_var 0) (by exact se_var 1)) sam_nil)))) ss_nil))) (by exact ss_last (by exact ss_ret (by exact se_var 0)))))
/-! ### lowest -/
abbrev s_lowest : Stmt := topS 2
theorem sc_lowest : FnScope ["a", "b", "common"] ["a", "b"] (defScope s_lowest) := ⟨rfl, rfl, rfl, by decide +kernel, rfl, by decide +kernel, by decide +kernel⟩
def g_lowest : XS :=
  (sSeq (sSet 2 (xIf (tOf (xBin oGt (xVar 1) (xC (.int 0)))) (xCall (fun ds => if ds.length = 2 then (d_divisor) ds else none) (xCons (xVar 0) (xCons (xVar 1) xNil))) (xUn oNeg (xCall (fun ds => if ds.length = 2 then (d_divisor) ds else none) (xCons (xVar 0) (xCons (xVar 1) xNil))))))
  (sRet (xTup (xCons (xBin oFdiv (xVar 0) (xVar 2)) (xCons (xBin oFdiv (xVar 1) (xVar 2)) xNil)))))
def d_lowest : List D → Option D := runD 2 3 g_lowest
theorem ok_lowest {f : Addr} {fd : FuncData} (F : FnP K "lowest" s_lowest f fd) (D_divisor : Def P w K mg base 1 "divisor" ["first", "second"] (d_divisor)) : FnOk P w K mg base CX0 2 f fd ["a", "b"] (spD K 2 d_lowest) := by
  have nd := sc_lowest.nd
  refine fnp_ok (k := 1) (O' := []) F sc_lowest fun cdv A outer s H E hr => ?_
  exact (by exact ss_cons (by exact ss_setS 2 nd (by exact se_if (by exact st_cmp op_gtD (by exact se_var 1) se_int) (by exact se_callD D_divisor hr (by exact sa_cons (by exact se_var 0) (by exact sa_cons (by exact se_var 1) sa_nil))) (by exact SE.toS (by exact se_un un_negD (by exact se_callD D_divisor hr (by exact sa_cons (by exact se_var 0) (by exact sa_cons (by exact se_var 1) sa_nil))))))) (by exact ss_last (by exact ss_ret (by exact se_tup (by exact sa_cons (by exact se_op op_fdivD (by exact se_var 0) (by exact se_var 2)) (by exact sa_cons (by exact se_op op_fdivD (by exact se_var 1) (by exact se_var 2)) sa_nil))))))
/-! ### plus -/
abbrev s_plus : Stmt := topS 3
theorem sc_plus : FnScope ["first", "second"] ["first", "second"] (defScope s_plus) := ⟨rfl, rfl, rfl, by decide +kernel, rfl, by decide +kernel, by decide +kernel⟩
def g_plus : XS :=
  (sRet (xCall (fun ds => if ds.length = 2 then (d_lowest) ds else none) (xCons (xBin oAdd (xBin oMul' (xBin oIx (xVar 0) (xC (.int 0))) (xBin oIx (xVar 1) (xC (.int 1)))) (xBin oMul' (xBin oIx (xVar 1) (xC (.int 0))) (xBin oIx (xVar 0) (xC (.int 1))))) (xCons (xBin oMul' (xBin oIx (xVar 0) (xC (.int 1))) (xBin oIx (xVar 1) (xC (.int 1)))) xNil))))
def d_plus : List D → Option D := runD 2 2 g_plus
theorem ok_plus {f : Addr} {fd : FuncData} (F : FnP K "plus" s_plus f fd) (D_lowest : Def P w K mg base 2 "lowest" ["a", "b"] (d_lowest)) : FnOk P w K mg base CX0 3 f fd ["first", "second"] (spD K 2 d_plus) := by
  have nd := sc_plus.nd
  refine fnp_ok (k := 2) (O' := []) F sc_plus fun cdv A outer s H E hr => ?_
  exact (by exact ss_last (by exact ss_ret (by exact se_callD D_lowest hr (by exact sa_cons (by exact se_op op_addD (by exact se_op op_mulD' (by exact se_ix (by exact se_var 0) se_int) (by exact se_ix (by exact se_var 1) se_int)) (by exact se_op op_mulD' (by exact se_ix (by exact se_var 1) se_int) (by exact se_ix (by exact se_var 0) se_int))) (by exact sa_cons (by exact se_op op_mulD' (by exact se_ix (by exact se_var 0) se_int) (by exact se_ix (by exact se_var 1) se_int)) sa_nil)))))
/-! ### minus -/
abbrev s_minus : Stmt := topS 4
theorem sc_minus : FnScope ["first", "second"] ["first", "second"] (defScope s_minus) := ⟨rfl, rfl, rfl, by decide +kernel, rfl, by decide +kernel, by decide +kernel⟩
def g_minus : XS :=
  (sRet (xCall (fun ds => if ds.length = 2 then (d_lowest) ds else none) (xCons (xBin oSub (xBin oMul' (xBin oIx (xVar 0) (xC (.int 0))) (xBin oIx (xVar 1) (xC (.int 1)))) (xBin oMul' (xBin oIx (xVar 1) (xC (.int 0))) (xBin oIx (xVar 0) (xC (.int 1))))) (xCons (xBin oMul' (xBin oIx (xVar 0) (xC (.int 1))) (xBin oIx (xVar 1) (xC (.int 1)))) xNil))))
def d_minus : List D → Option D := runD 2 2 g_minus
theorem ok_minus {f : Addr} {fd : FuncData} (F : FnP K "minus" s_minus f fd) (D_lowest : Def P w K mg base 2 "lowest" ["a", "b"] (d_lowest)) : FnOk P w K mg base CX0 3 f fd ["first", "second"] (spD K 2 d_minus) := by
  have nd := sc_minus.nd
  refine fnp_ok (k := 2) (O' := []) F sc_minus fun cdv A outer s H E hr => ?_
  exact (by exact ss_last (by exact ss_ret (by exact se_callD D_lowest hr (by exact sa_cons (by exact se_op op_subD (by exact se_op op_mulD' (by exact se_ix (by exact se_var 0) se_int) (by exact se_ix (by exact se_var 1) se_int)) (by exact se_op op_mulD' (by exact se_ix (by exact se_var 1) se_int) (by exact se_ix (by exact se_var 0) se_int))) (by exact sa_cons (by exact se_op op_mulD' (by exact se_ix (by exact se_var 0) se_int) (by exact se_ix (by exact se_var 1) se_int)) sa_nil)))))
/-! ### times -/
abbrev s_times : Stmt := topS 5
theorem sc_times : FnScope ["first", "second"] ["first", "second"] (defScope s_times) := ⟨rfl, rfl, rfl, by decide +kernel, rfl, by decide +kernel, by decide +kernel⟩
def g_times : XS :=
  (sRet (xCall (fun ds => if ds.length = 2 then (d_lowest) ds else none) (xCons (xBin oMul' (xBin oIx (xVar 0) (xC (.int 0))) (xBin oIx (xVar 1) (xC (.int 0)))) (xCons (xBin oMul' (xBin oIx (xVar 0) (xC (.int 1))) (xBin oIx (xVar 1) (xC (.int 1)))) xNil))))
def d_times : List D → Option D := runD 2 2 g_times
theorem ok_times {f : Addr} {fd : FuncData} (F : FnP K "times" s_times f fd) (D_lowest : Def P w K mg base 2 "lowest" ["a", "b"] (d_lowest)) : FnOk P w K mg base CX0 3 f fd ["first", "second"] (spD K 2 d_times) := by
  have nd := sc_times.nd
  refine fnp_ok (k := 2) (O' := []) F sc_times fun cdv A outer s H E hr => ?_
  exact (by exact ss_last (by exact ss_ret (by exact se_callD D_lowest hr (by exact sa_cons (by exact se_op op_mulD' (by exact se_ix (by exact se_var 0) se_int) (by exact se_ix (by exact se_var 1) se_int)) (by exact sa_cons (by exact se_op op_mulD' (by exact se_ix (by exact se_var 0) se_int) (by exact se_ix (by exact se_var 1) se_int)) sa_nil)))))
/-! ### parted -/
abbrev s_parted : Stmt := topS 6
theorem sc_parted : FnScope ["first", "second"] ["first", "second"] (defScope s_parted) := ⟨rfl, rfl, rfl, by decide +kernel, rfl, by decide +kernel, by decide +kernel⟩
def g_parted : XS :=
  (sRet (xCall (fun ds => if ds.length = 2 then (d_lowest) ds else none) (xCons (xBin oMul' (xBin oIx (xVar 0) (xC (.int 0))) (xBin oIx (xVar 1) (xC (.int 1)))) (xCons (xBin oMul' (xBin oIx (xVar 0) (xC (.int 1))) (xBin oIx (xVar 1) (xC (.int 0)))) xNil))))
def d_parted : List D → Option D := runD 2 2 g_parted
theorem ok_parted {f : Addr} {fd : FuncData} (F : FnP K "parted" s_parted f fd) (D_lowest : Def P w K mg base 2 "lowest" ["a", "b"] (d_lowest)) : FnOk P w K mg base CX0 3 f fd ["first", "second"] (spD K 2 d_parted) := by
  have nd := sc_parted.nd
  refine fnp_ok (k := 2) (O' := []) F sc_parted fun cdv A outer s H E hr => ?_
  exact (by exact ss_last (by exact ss_ret (by exact se_callD D_lowest hr (by exact sa_cons (by exact se_op op_mulD' (by exact se_ix (by exact se_var 0) se_int) (by exact se_ix (by exact se_var 1) se_int)) (by exact sa_cons (by exact se_op op_mulD' (by exact se_ix (by exact se_var 0) se_int) (by exact se_ix (by exact se_var 1) se_int)) sa_nil)))))
/-! ### is_less -/
abbrev s_is_less : Stmt := topS 7
theorem sc_is_less : FnScope ["first", "second"] ["first", "second"] (defScope s_is_less) := ⟨rfl, rfl, rfl, by decide +kernel, rfl, by decide +kernel, by decide +kernel⟩
def g_is_less : XS :=
  (sRet (xBin oLt (xBin oMul' (xBin oIx (xVar 0) (xC (.int 0))) (xBin oIx (xVar 1) (xC (.int 1)))) (xBin oMul' (xBin oIx (xVar 1) (xC (.int 0))) (xBin oIx (xVar 0) (xC (.int 1))))))
def d_is_less : List D → Option D := runD 2 2 g_is_less
theorem ok_is_less {f : Addr} {fd : FuncData} (F : FnP K "is_less" s_is_less f fd) : FnOk P w K mg base CX0 1 f fd ["first", "second"] (spD K 2 d_is_less) := by
  have nd := sc_is_less.nd
  refine fnp_ok (k := 0) (O' := []) F sc_is_less fun cdv A outer s H E hr => ?_
  exact (by exact ss_last (by exact ss_ret (by exact se_cmp op_ltD (by exact se_op op_mulD' (by exact se_ix (by exact se_var 0) se_int) (by exact se_ix (by exact se_var 1) se_int)) (by exact se_op op_mulD' (by exact se_ix (by exact se_var 1) se_int) (by exact se_ix (by exact se_var 0) se_int)))))
/-! ### over -/
abbrev s_over : Stmt := topS 9
theorem sc_over : FnScope ["first", "second"] ["first", "second"] (defScope s_over) := ⟨rfl, rfl, rfl, by decide +kernel, rfl, by decide +kernel, by decide +kernel⟩
def g_over : XS :=
  (sRet (xCall (fun ds => if ds.length = 2 then (d_parted) ds else none) (xCons (xVar 0) (xCons (xVar 1) xNil))))
def d_over : List D → Option D := runD 2 2 g_over
theorem ok_over {f : Addr} {fd : FuncData} (F : FnP K "over" s_over f fd) (D_parted : Def P w K mg base 3 "parted" ["first", "second"] (d_parted)) : FnOk P w K mg base CX0 4 f fd ["first", "second"] (spD K 2 d_over) := by
  have nd := sc_over.nd
  refine fnp_ok (k := 3) (O' := []) F sc_over fun cdv A outer s H E hr => ?_
  exact (by exact ss_last (by exact ss_ret (by exact se_callD D_parted hr (by exact sa_cons (by exact se_var 0) (by exact sa_cons (by exact se_var 1) sa_nil)))))
/-! ### whole -/
abbrev s_whole : Stmt := topS 10
theorem sc_whole : FnScope ["number"] ["number"] (defScope s_whole) := ⟨rfl, rfl, rfl, by decide +kernel, rfl, by decide +kernel, by decide +kernel⟩
def g_whole : XS :=
  (sRet (xTup (xCons (xVar 0) (xCons (xC (.int 1)) xNil))))
def d_whole : List D → Option D := runD 1 1 g_whole
theorem ok_whole {f : Addr} {fd : FuncData} (F : FnP K "whole" s_whole f fd) : FnOk P w K mg base CX0 1 f fd ["number"] (spD K 1 d_whole) := by
  have nd := sc_whole.nd
  refine fnp_ok (k := 0) (O' := []) F sc_whole fun cdv A outer s H E hr => ?_
  exact (by exact ss_last (by exact ss_ret (by exact se_tup (by exact sa_cons (by exact se_var 0) (by exact sa_cons se_int sa_nil)))))
/-! ### summed -/
abbrev s_summed : Stmt := topS 11
theorem sc_summed : FnScope ["ratios", "found", "ratio"] ["ratios"] (defScope s_summed) := ⟨rfl, rfl, rfl, by decide +kernel, rfl, by decide +kernel, by decide +kernel⟩
def l1_summed : XS :=
  (sSeq (sSet 1 (xCall (fun ds => if ds.length = 2 then ((d_plus) ds).bind fun d => if flat d then some d else none else none) (xCons (xVar 1) (xCons (xVar 2) xNil))))
  sNop)
def g_summed : XS :=
  (sSeq (sSet 1 (xTup (xCons (xC (.int 0)) (xCons (xC (.int 1)) xNil))))
  (sSeq (sFor (xSeq (xVar 0)) (gSet 2) l1_summed)
  (sRet (xVar 1))))
def d_summed : List D → Option D := runD 1 3 g_summed
theorem ok_summed {f : Addr} {fd : FuncData} (F : FnP K "summed" s_summed f fd) (D_plus : Def P w K mg base 3 "plus" ["first", "second"] (d_plus)) : FnOk P w K mg base CX0 4 f fd ["ratios"] (spD K 1 d_summed) := by
  have nd := sc_summed.nd
  refine fnp_ok (k := 3) (O' := []) F sc_summed fun cdv A outer s H E hr => ?_
  exact (by exact ss_cons (by exact ss_setF 1 nd (by exact se_tup (by exact sa_cons se_int (by exact sa_cons se_int sa_nil)))) (by exact ss_cons (by exact ss_for (O' := [1]) (by exact si_seq (m := .s) (by exact se_var 0)) (by exact sg_name 2 nd) (by exact ss_cons (by exact ss_setF 1 nd (by exact se_callWD D_plus hr (by exact sa_cons (by exact se_varW 1) (by exact sa_cons (by exact se_var 2) sa_nil)))) ss_nil)) (by exact ss_last (by exact SS.weak (O1 := []) (by exact ss_ret (by exact se_var 1))))))
/-! ### weight_sum -/
abbrev s_weight_sum : Stmt := topS 13
theorem sc_weight_sum : FnScope ["weights", "place", "weight"] ["weights"] (defScope s_weight_sum) := ⟨rfl, rfl, rfl, by decide +kernel, rfl, by decide +kernel, by decide +kernel⟩
def g_weight_sum : XS :=
  (sRet (xCall bSum (xCons (xLc (xSeq (xVar 0)) (gTupD 2 (gsCons (gSet 1) (gsCons (gSet 2) gsNil))) tYesP (xVar 2) [1, 2]) xNil)))
def d_weight_sum : List D → Option D := runD 1 3 g_weight_sum
theorem ok_weight_sum {f : Addr} {fd : FuncData} (F : FnP K "weight_sum" s_weight_sum f fd) (b_sum : mg "sum" = none) : FnOk P w K mg base CX0 1 f fd ["weights"] (spD K 1 d_weight_sum) := by
  have nd := sc_weight_sum.nd
  refine fnp_ok (k := 0) (O' := []) F sc_weight_sum fun cdv A outer s H E hr => ?_
  exact (by exact ss_last (by exact ss_ret (by exact se_callB (st := false) cb_sum b_sum (by exact sa_cons (by exact se_lc nd (by exact si_seq (m := .s) (by exact se_var 0)) (blkOk_by (own := [("place", 1), ("weight", 2)]) rfl) (fun _ _ _ _ _ => (by exact sg_tup rfl (by exact sgs_cons (by exact sg_name 1 nd) (by exact sgs_cons (by exact sg_name 2 nd) sgs_nil)))) (fun _ _ _ _ _ => sts_nil) (fun _ _ _ _ _ => (by exact se_var 2))) sa_nil))))
/-! ### turn_sum -/
abbrev s_turn_sum : Stmt := topS 14
theorem sc_turn_sum : FnScope ["weights", "place", "weight"] ["weights"] (defScope s_turn_sum) := ⟨rfl, rfl, rfl, by decide +kernel, rfl, by decide +kernel, by decide +kernel⟩
def g_turn_sum : XS :=
  (sRet (xCall bSum (xCons (xLc (xSeq (xVar 0)) (gTupD 2 (gsCons (gSet 1) (gsCons (gSet 2) gsNil))) tYesP (xBin oMul' (xVar 1) (xVar 2)) [1, 2]) xNil)))
def d_turn_sum : List D → Option D := runD 1 3 g_turn_sum
theorem ok_turn_sum {f : Addr} {fd : FuncData} (F : FnP K "turn_sum" s_turn_sum f fd) (b_sum : mg "sum" = none) : FnOk P w K mg base CX0 1 f fd ["weights"] (spD K 1 d_turn_sum) := by
  have nd := sc_turn_sum.nd
  refine fnp_ok (k := 0) (O' := []) F sc_turn_sum fun cdv A outer s H E hr => ?_
  exact (by exact ss_last (by exact ss_ret (by exact se_callB (st := false) cb_sum b_sum (by exact sa_cons (by exact se_lc nd (by exact si_seq (m := .s) (by exact se_var 0)) (blkOk_by (own := [("place", 1), ("weight", 2)]) rfl) (fun _ _ _ _ _ => (by exact sg_tup rfl (by exact sgs_cons (by exact sg_name 1 nd) (by exact sgs_cons (by exact sg_name 2 nd) sgs_nil)))) (fun _ _ _ _ _ => sts_nil) (fun _ _ _ _ _ => (by exact se_op op_mulD' (by exact se_var 1) (by exact se_var 2)))) sa_nil))))
/-! ### two_loads -/
abbrev s_two_loads : Stmt := topS 15
theorem sc_two_loads : FnScope ["a", "b", "weights", "second"] ["a", "b", "weights"] (defScope s_two_loads) := ⟨rfl, rfl, rfl, by decide +kernel, rfl, by decide +kernel, by decide +kernel⟩
def g_two_loads : XS :=
  (sSeq (sSet 3 (xCall (fun ds => if ds.length = 2 then (d_lowest) ds else none) (xCons (xBin oSub (xCall (fun ds => if ds.length = 1 then (d_turn_sum) ds else none) (xCons (xVar 2) xNil)) (xBin oMul' (xVar 0) (xCall (fun ds => if ds.length = 1 then (d_weight_sum) ds else none) (xCons (xVar 2) xNil)))) (xCons (xBin oSub (xVar 1) (xVar 0)) xNil))))
  (sRet (xTup (xCons (xCall (fun ds => if ds.length = 2 then (d_minus) ds else none) (xCons (xCall (fun ds => if ds.length = 1 then (d_whole) ds else none) (xCons (xCall (fun ds => if ds.length = 1 then (d_weight_sum) ds else none) (xCons (xVar 2) xNil)) xNil)) (xCons (xVar 3) xNil))) (xCons (xVar 3) xNil)))))
def d_two_loads : List D → Option D := runD 3 4 g_two_loads
theorem ok_two_loads {f : Addr} {fd : FuncData} (F : FnP K "two_loads" s_two_loads f fd) (D_lowest : Def P w K mg base 2 "lowest" ["a", "b"] (d_lowest)) (D_minus : Def P w K mg base 3 "minus" ["first", "second"] (d_minus)) (D_whole : Def P w K mg base 1 "whole" ["number"] (d_whole)) (D_weight_sum : Def P w K mg base 1 "weight_sum" ["weights"] (d_weight_sum)) (D_turn_sum : Def P w K mg base 1 "turn_sum" ["weights"] (d_turn_sum)) : FnOk P w K mg base CX0 4 f fd ["a", "b", "weights"] (spD K 3 d_two_loads) := by
  have nd := sc_two_loads.nd
  refine fnp_ok (k := 3) (O' := []) F sc_two_loads fun cdv A outer s H E hr => ?_
  exact (by exact ss_cons (by exact ss_setS 3 nd (by exact se_callD D_lowest hr (by exact sa_cons (by exact se_op op_subD (by exact se_callD D_turn_sum hr (by exact sa_cons (by exact se_var 2) sa_nil)) (by exact se_op op_mulD' (by exact se_var 0) (by exact se_callD D_weight_sum hr (by exact sa_cons (by exact se_var 2) sa_nil)))) (by exact sa_cons (by exact se_op op_subD (by exact se_var 1) (by exact se_var 0)) sa_nil)))) (by exact ss_last (by exact ss_ret (by exact se_tup (by exact sa_cons (by exact se_callD D_minus hr (by exact sa_cons (by exact se_callD D_whole hr (by exact sa_cons (by exact se_callD D_weight_sum hr (by exact sa_cons (by exact se_var 2) sa_nil)) sa_nil)) (by exact sa_cons (by exact se_var 3) sa_nil))) (by exact sa_cons (by exact se_var 3) sa_nil))))))
/-! ### weight_middle -/
abbrev s_weight_middle : Stmt := topS 16
theorem sc_weight_middle : FnScope ["weights", "total"] ["weights"] (defScope s_weight_middle) := ⟨rfl, rfl, rfl, by decide +kernel, rfl, by decide +kernel, by decide +kernel⟩
def g_weight_middle : XS :=
  (sSeq (sSet 1 (xCall (fun ds => if ds.length = 1 then (d_weight_sum) ds else none) (xCons (xVar 0) xNil)))
  (sRet (xIf (tOf (xBin oEq (xVar 1) (xC (.int 0)))) (xC .none) (xCall (fun ds => if ds.length = 2 then (d_lowest) ds else none) (xCons (xCall (fun ds => if ds.length = 1 then (d_turn_sum) ds else none) (xCons (xVar 0) xNil)) (xCons (xVar 1) xNil))))))
def d_weight_middle : List D → Option D := runD 1 2 g_weight_middle
theorem ok_weight_middle {f : Addr} {fd : FuncData} (F : FnP K "weight_middle" s_weight_middle f fd) (D_lowest : Def P w K mg base 2 "lowest" ["a", "b"] (d_lowest)) (D_weight_sum : Def P w K mg base 1 "weight_sum" ["weights"] (d_weight_sum)) (D_turn_sum : Def P w K mg base 1 "turn_sum" ["weights"] (d_turn_sum)) : FnOk P w K mg base CX0 3 f fd ["weights"] (spD K 1 d_weight_middle) := by
  have nd := sc_weight_middle.nd
  refine fnp_ok (k := 2) (O' := []) F sc_weight_middle fun cdv A outer s H E hr => ?_
  exact (by exact ss_cons (by exact ss_setS 1 nd (by exact se_callD D_weight_sum hr (by exact sa_cons (by exact se_var 0) sa_nil))) (by exact ss_last (by exact ss_ret (by exact se_if (by exact st_cmp (op_eqP hr) (by exact se_var 1) se_int) (by exact SE.toS se_non) (by exact se_callD D_lowest hr (by exact sa_cons (by exact se_callD D_turn_sum hr (by exact sa_cons (by exact se_var 0) sa_nil)) (by exact sa_cons (by exact se_var 1) sa_nil)))))))
/-! ### span_of -/
abbrev s_span_of : Stmt := topS 17
theorem sc_span_of : FnScope ["weights", "way", "low", "high", "place", "weight"] ["weights", "way"] (defScope s_span_of) := ⟨rfl, rfl, rfl, by decide +kernel, rfl, by decide +kernel, by decide +kernel⟩
def g_span_of : XS :=
  (sSeq (sIf (tOf (xBin oEq (xCall (fun ds => if ds.length = 1 then (d_weight_sum) ds else none) (xCons (xVar 0) xNil)) (xC (.int 0)))) (sRet (xC .none)) sNop)
  (sSeq (sSet 2 (xLc (xSeq (xVar 0)) (gTupD 2 (gsCons (gSet 4) (gsCons (gSet 5) gsNil))) tYesP (xTup (xCons (xBin oSub (xVar 4) (xVar 1)) (xCons (xVar 5) xNil))) [4, 5]))
  (sSeq (sSet 3 (xLc (xSeq (xVar 0)) (gTupD 2 (gsCons (gSet 4) (gsCons (gSet 5) gsNil))) tYesP (xTup (xCons (xBin oAdd (xVar 4) (xVar 1)) (xCons (xVar 5) xNil))) [4, 5]))
  (sRet (xTup (xCons (xCall (fun ds => if ds.length = 1 then ((d_weight_middle) ds).bind fun d => if flat d then some d else none else none) (xCons (xVar 2) xNil)) (xCons (xCall (fun ds => if ds.length = 1 then ((d_weight_middle) ds).bind fun d => if flat d then some d else none else none) (xCons (xVar 3) xNil)) xNil)))))))
def d_span_of : List D → Option D := runD 2 6 g_span_of
theorem ok_span_of {f : Addr} {fd : FuncData} (F : FnP K "span_of" s_span_of f fd) (D_weight_sum : Def P w K mg base 1 "weight_sum" ["weights"] (d_weight_sum)) (D_weight_middle : Def P w K mg base 3 "weight_middle" ["weights"] (d_weight_middle)) : FnOk P w K mg base CX0 4 f fd ["weights", "way"] (spD K 2 d_span_of) := by
  have nd := sc_span_of.nd
  refine fnp_ok (k := 3) (O' := []) F sc_span_of fun cdv A outer s H E hr => ?_
  exact (by exact ss_cons (by exact ss_if (O' := []) (by exact st_cmp (op_eqP hr) (by exact se_callD D_weight_sum hr (by exact sa_cons (by exact se_var 0) sa_nil)) se_int) (by exact ss_last (by exact ss_ret se_non)) ss_nil) (by exact ss_cons (by exact ss_setLc 2 nd (by exact si_seq (m := .s) (by exact se_var 0)) (blkOk_by (own := [("place", 4), ("weight", 5)]) rfl) (fun _ _ _ _ _ => (by exact sg_tup rfl (by exact sgs_cons (by exact sg_name 4 nd) (by exact sgs_cons (by exact sg_name 5 nd) sgs_nil)))) (fun _ _ _ _ _ => sts_nil) (fun _ _ _ _ _ => (by exact se_tup (by exact sa_cons (by exact se_op op_subD (by exact se_var 4) (by exact se_var 1)) (by exact sa_cons (by exact se_var 5) sa_nil))))) (by exact ss_cons (by exact ss_setLc 3 nd (by exact si_seq (m := .s) (by exact se_var 0)) (blkOk_by (own := [("place", 4), ("weight", 5)]) rfl) (fun _ _ _ _ _ => (by exact sg_tup rfl (by exact sgs_cons (by exact sg_name 4 nd) (by exact sgs_cons (by exact sg_name 5 nd) sgs_nil)))) (fun _ _ _ _ _ => sts_nil) (fun _ _ _ _ _ => (by exact se_tup (by exact sa_cons (by exact se_op op_addD (by exact se_var 4) (by exact se_var 1)) (by exact sa_cons (by exact se_var 5) sa_nil))))) (by exact ss_last (by exact ss_ret (by exact se_tup (by exact sa_cons (by exact se_callWD D_weight_middle hr (by exact sa_cons (by exact se_varW 2) sa_nil)) (by exact sa_cons (by exact se_callWD D_weight_middle hr (by exact sa_cons (by exact se_varW 3) sa_nil)) sa_nil))))))))
/-! ### loads_of -/
abbrev s_loads_of : Stmt := topS 18
theorem sc_loads_of : FnScope ["places", "weights", "under", "n", "first", "second", "total", "turn", "base", "slope", "place"] ["places", "weights"] (defScope s_loads_of) := ⟨rfl, rfl, rfl, by decide +kernel, rfl, by decide +kernel, by decide +kernel⟩
def g_loads_of : XS :=
  (sSeq (sPar [3, 4, 5] (xCons (xCall bLen (xCons (xVar 0) xNil)) (xCons (xCall bSum (xCons (xVar 0) xNil)) (xCons (xCall bSum (xCons (xLc (xSeq (xVar 0)) (gSet 10) tYesP (xBin oMul' (xVar 10) (xVar 10)) [10]) xNil)) xNil))))
  (sSeq (sSet 2 (xBin oSub (xBin oMul' (xVar 3) (xVar 5)) (xBin oMul' (xVar 4) (xVar 4))))
  (sSeq (sPar [6, 7] (xCons (xCall (fun ds => if ds.length = 1 then (d_weight_sum) ds else none) (xCons (xVar 1) xNil)) (xCons (xCall (fun ds => if ds.length = 1 then (d_turn_sum) ds else none) (xCons (xVar 1) xNil)) xNil)))
  (sSeq (sPar [8, 9] (xCons (xCall (fun ds => if ds.length = 2 then ((d_lowest) ds).bind fun d => if flat d then some d else none else none) (xCons (xBin oSub (xBin oMul' (xVar 6) (xVar 5)) (xBin oMul' (xVar 7) (xVar 4))) (xCons (xVar 2) xNil))) (xCons (xCall (fun ds => if ds.length = 2 then ((d_lowest) ds).bind fun d => if flat d then some d else none else none) (xCons (xBin oSub (xBin oMul' (xVar 3) (xVar 7)) (xBin oMul' (xVar 4) (xVar 6))) (xCons (xVar 2) xNil))) xNil)))
  (sRet (xCall bTuple (xCons (xLc (xSeq (xVar 0)) (gSet 10) tYesP (xCall (fun ds => if ds.length = 2 then ((d_plus) ds).bind fun d => if flat d then some d else none else none) (xCons (xVar 8) (xCons (xCall (fun ds => if ds.length = 2 then ((d_times) ds).bind fun d => if flat d then some d else none else none) (xCons (xVar 9) (xCons (xCall (fun ds => if ds.length = 1 then (d_whole) ds else none) (xCons (xVar 10) xNil)) xNil))) xNil))) [10]) xNil)))))))
def d_loads_of : List D → Option D := runD 2 11 g_loads_of
theorem ok_loads_of {f : Addr} {fd : FuncData} (F : FnP K "loads_of" s_loads_of f fd) (D_lowest : Def P w K mg base 2 "lowest" ["a", "b"] (d_lowest)) (D_plus : Def P w K mg base 3 "plus" ["first", "second"] (d_plus)) (D_times : Def P w K mg base 3 "times" ["first", "second"] (d_times)) (D_whole : Def P w K mg base 1 "whole" ["number"] (d_whole)) (D_weight_sum : Def P w K mg base 1 "weight_sum" ["weights"] (d_weight_sum)) (D_turn_sum : Def P w K mg base 1 "turn_sum" ["weights"] (d_turn_sum)) (b_len : mg "len" = none) (b_sum : mg "sum" = none) (b_tuple : mg "tuple" = none) : FnOk P w K mg base CX0 4 f fd ["places", "weights"] (spD K 2 d_loads_of) := by
  have nd := sc_loads_of.nd
  refine fnp_ok (k := 3) (O' := []) F sc_loads_of fun cdv A outer s H E hr => ?_
  exact (by exact ss_cons (by exact ss_par3 3 4 5 nd (by exact sam_cons (by exact se_callB (st := false) cb_len b_len (by exact sa_cons (by exact se_var 0) sa_nil)) (by exact sam_cons (by exact se_callB (st := false) cb_sum b_sum (by exact sa_cons (by exact se_var 0) sa_nil)) (by exact sam_cons (by exact se_callB (st := false) cb_sum b_sum (by exact sa_cons (by exact se_lc nd (by exact si_seq (m := .s) (by exact se_var 0)) (blkOk_by (own := [("place", 10)]) rfl) (fun _ _ _ _ _ => (by exact sg_name 10 nd)) (fun _ _ _ _ _ => sts_nil) (fun _ _ _ _ _ => (by exact se_op op_mulD' (by exact se_var 10) (by exact se_var 10)))) sa_nil)) sam_nil)))) (by exact ss_cons (by exact ss_setF 2 nd (by exact se_op op_subD (by exact se_op op_mulD' (by exact se_varW 3) (by exact se_varW 5)) (by exact se_op op_mulD' (by exact se_varW 4) (by exact se_varW 4)))) (by exact ss_cons (by exact ss_par 6 7 nd (by exact sam_cons (by exact se_callD D_weight_sum hr (by exact sa_cons (by exact se_var 1) sa_nil)) (by exact sam_cons (by exact se_callD D_turn_sum hr (by exact sa_cons (by exact se_var 1) sa_nil)) sam_nil))) (by exact ss_cons (by exact ss_parT [8, 9] (by exact sam_cons (by exact se_callWD D_lowest hr (by exact sa_cons (by exact se_op op_subD (by exact se_op op_mulD' (by exact se_var 6) (by exact se_varW 5)) (by exact se_op op_mulD' (by exact se_var 7) (by exact se_varW 4))) (by exact sa_cons (by exact se_varW 2) sa_nil))) (by exact sam_cons (by exact se_callWD D_lowest hr (by exact sa_cons (by exact se_op op_subD (by exact se_op op_mulD' (by exact se_varW 3) (by exact se_var 7)) (by exact se_op op_mulD' (by exact se_varW 4) (by exact se_var 6))) (by exact sa_cons (by exact se_varW 2) sa_nil))) sam_nil)) (pgs_cons (pg_name (i := 8) nd rfl (by first | exact .inl rfl | exact .inr rfl)) (pgs_cons (pg_name (i := 9) nd rfl (by first | exact .inl rfl | exact .inr rfl)) pgs_nil))) (by exact ss_last (by exact ss_ret (by exact se_callT (st := false) cb_tuple b_tuple (by exact sa_cons (by exact se_lc nd (by exact si_seq (m := .s) (by exact se_var 0)) (blkOk_by (own := [("place", 10)]) rfl) (fun _ _ _ _ _ => (by exact sg_name 10 nd)) (fun _ _ _ _ _ => sts_nil) (fun _ _ _ _ _ => (by exact se_callWD D_plus hr (by exact sa_cons (by exact se_varW 8) (by exact sa_cons (by exact se_callWD D_times hr (by exact sa_cons (by exact se_varW 9) (by exact sa_cons (by exact se_callD D_whole hr (by exact sa_cons (by exact se_var 10) sa_nil)) sa_nil))) sa_nil))))) sa_nil))))))))
/-! ### loads_sum -/
abbrev s_loads_sum : Stmt := topS 19
theorem sc_loads_sum : FnScope ["loads"] ["loads"] (defScope s_loads_sum) := ⟨rfl, rfl, rfl, by decide +kernel, rfl, by decide +kernel, by decide +kernel⟩
def g_loads_sum : XS :=
  (sRet (xCall (fun ds => if ds.length = 1 then (d_summed) ds else none) (xCons (xVar 0) xNil)))
def d_loads_sum : List D → Option D := runD 1 1 g_loads_sum
theorem ok_loads_sum {f : Addr} {fd : FuncData} (F : FnP K "loads_sum" s_loads_sum f fd) (D_summed : Def P w K mg base 4 "summed" ["ratios"] (d_summed)) : FnOk P w K mg base CX0 5 f fd ["loads"] (spD K 1 d_loads_sum) := by
  have nd := sc_loads_sum.nd
  refine fnp_ok (k := 4) (O' := []) F sc_loads_sum fun cdv A outer s H E hr => ?_
  exact (by exact ss_last (by exact ss_ret (by exact se_callD D_summed hr (by exact sa_cons (by exact se_var 0) sa_nil))))
/-! ### loads_turn -/
abbrev s_loads_turn : Stmt := topS 20
theorem sc_loads_turn : FnScope ["places", "loads", "place", "load"] ["places", "loads"] (defScope s_loads_turn) := ⟨rfl, rfl, rfl, by decide +kernel, rfl, by decide +kernel, by decide +kernel⟩
def g_loads_turn : XS :=
  (sRet (xCall (fun ds => if ds.length = 1 then (d_summed) ds else none) (xCons (xLc (xIt oZipM (xCons (xVar 0) (xCons (xVar 1) xNil))) (gTupD 2 (gsCons (gSet 2) (gsCons (gSet 3) gsNil))) tYesP (xCall (fun ds => if ds.length = 2 then (d_times) ds else none) (xCons (xVar 3) (xCons (xCall (fun ds => if ds.length = 1 then (d_whole) ds else none) (xCons (xVar 2) xNil)) xNil))) [2, 3]) xNil)))
def d_loads_turn : List D → Option D := runD 2 4 g_loads_turn
theorem ok_loads_turn {f : Addr} {fd : FuncData} (F : FnP K "loads_turn" s_loads_turn f fd) (D_times : Def P w K mg base 3 "times" ["first", "second"] (d_times)) (D_whole : Def P w K mg base 1 "whole" ["number"] (d_whole)) (D_summed : Def P w K mg base 4 "summed" ["ratios"] (d_summed)) (b_zip : mg "zip" = none) : FnOk P w K mg base CX0 5 f fd ["places", "loads"] (spD K 2 d_loads_turn) := by
  have nd := sc_loads_turn.nd
  refine fnp_ok (k := 4) (O' := []) F sc_loads_turn fun cdv A outer s H E hr => ?_
  exact (by exact ss_last (by exact ss_ret (by exact se_callD D_summed hr (by exact sa_cons (by exact se_lc nd (by exact si_zipM (st := false) b_zip (by exact sa_cons (by exact se_var 0) (by exact sa_cons (by exact se_var 1) sa_nil))) (blkOk_by (own := [("place", 2), ("load", 3)]) rfl) (fun _ _ _ _ _ => (by exact sg_tup rfl (by exact sgs_cons (by exact sg_name 2 nd) (by exact sgs_cons (by exact sg_name 3 nd) sgs_nil)))) (fun _ _ _ _ _ => sts_nil) (fun _ _ _ _ _ => (by exact se_callD D_times hr (by exact sa_cons (by exact se_var 3) (by exact sa_cons (by exact se_callD D_whole hr (by exact sa_cons (by exact se_var 2) sa_nil)) sa_nil))))) sa_nil))))
/-! ### lifted_first -/
abbrev s_lifted_first : Stmt := topS 21
theorem sc_lifted_first : FnScope ["places", "weights", "left", "gone", "loads", "bad", "told", "place", "load"] ["places", "weights"] (defScope s_lifted_first) := ⟨rfl, rfl, rfl, by decide +kernel, rfl, by decide +kernel, by decide +kernel⟩
def l1_lifted_first : XS :=
  (sSeq (sSet 4 (xCall (fun ds => if ds.length = 2 then ((d_loads_of) ds).bind fun d => if flat d then some d else none else none) (xCons (xVar 2) (xCons (xVar 1) xNil))))
  (sSeq (sSet 5 (xLc (xIt oZipM (xCons (xVar 2) (xCons (xVar 4) xNil))) (gTupD 2 (gsCons (gSet 7) (gsCons (gSet 8) gsNil))) (tOf (xBin oLt (xBin oIx (xVar 8) (xC (.int 0))) (xC (.int 0)))) (xVar 7) [7, 8]))
  (sSeq (sIf (tNotP (tTru (xVar 5))) (sSeq (sSet 6 (xDc (xIt oZipM (xCons (xVar 2) (xCons (xVar 4) xNil))) (gTupD 2 (gsCons (gSet 7) (gsCons (gSet 8) gsNil))) tYesP (xVar 7) (xVar 8) [7, 8]))
  (sRet (xTup (xCons (xCall bTuple (xCons (xLc (xSeq (xVar 0)) (gSet 7) tYesP (xGet2 (xVar 6) (xVar 7) (xCall (fun ds => if ds.length = 1 then (d_whole) ds else none) (xCons (xC (.int 0)) xNil))) [7]) xNil)) (xCons (xCall bTuple (xCons (xCall bSorted (xCons (xVar 3) xNil)) xNil)) xNil))))) sNop)
  (sSeq (sExt 3 (xVar 5))
  (sSeq (sSet 2 (xLc (xSeq (xVar 2)) (gSet 7) (tOf (xBin oNotIn (xVar 7) (xVar 5))) (xVar 7) [7]))
  sNop)))))
def g_lifted_first : XS :=
  (sSeq (sPar [2, 3] (xCons (xCall bList (xCons (xVar 0) xNil)) (xCons (xLst xNil) xNil)))
  (sSeq (sWhile (tOf (xBin oGt (xCall bLen (xCons (xVar 2) xNil)) (xC (.int 1)))) l1_lifted_first)
  (sRet (xC .none))))
def d_lifted_first : List D → Option D := runD 2 9 g_lifted_first
theorem ok_lifted_first {f : Addr} {fd : FuncData} (F : FnP K "lifted_first" s_lifted_first f fd) (D_whole : Def P w K mg base 1 "whole" ["number"] (d_whole)) (D_loads_of : Def P w K mg base 4 "loads_of" ["places", "weights"] (d_loads_of)) (b_len : mg "len" = none) (b_list : mg "list" = none) (b_sorted : mg "sorted" = none) (b_tuple : mg "tuple" = none) (b_zip : mg "zip" = none) : FnOk P w K mg base CX0 5 f fd ["places", "weights"] (spD K 2 d_lifted_first) := by
  have nd := sc_lifted_first.nd
  refine fnp_ok (k := 4) (O' := []) F sc_lifted_first fun cdv A outer s H E hr => ?_
  exact (by exact ss_cons (by exact ss_par 2 3 nd (by exact sam_cons (by exact se_callT (st := false) cb_list b_list (by exact sa_cons (by exact se_var 0) sa_nil)) (by exact sam_cons (by exact se_lst sa_nil) sam_nil))) (by exact ss_cons (by exact ss_while (O' := [3, 2]) (by exact st_cmp op_gtD (by exact se_callB (st := false) cb_len b_len (by exact sa_cons (by exact se_varW 2) sa_nil)) se_int) (by exact ss_cons (by exact ss_setF 4 nd (by exact se_callWD D_loads_of hr (by exact sa_cons (by exact se_varW 2) (by exact sa_cons (by exact se_var 1) sa_nil)))) (by exact ss_cons (by exact ss_setF 5 nd (by exact se_lc nd (by exact si_zipM (st := false) b_zip (by exact sa_cons (by exact se_varW 2) (by exact sa_cons (by exact se_varW 4) sa_nil))) (blkOk_by (own := [("place", 7), ("load", 8)]) rfl) (fun _ _ _ _ _ => (by exact sg_tup rfl (by exact sgs_cons (by exact sg_name 7 nd) (by exact sgs_cons (by exact sg_name 8 nd) sgs_nil)))) (fun _ _ _ _ _ => (by exact sts_one (by exact st_cmp op_ltD (by exact se_ix (by exact se_var 8) se_int) se_int))) (fun _ _ _ _ _ => (by exact se_var 7)))) (by exact ss_cons (by exact ss_if (O' := [5, 4, 3, 2]) (by exact st_not (by exact st_val (by exact se_varW 5))) (by exact ss_cons (by exact ss_setF 6 nd (by exact se_dc nd (by exact si_zipM (st := false) b_zip (by exact sa_cons (by exact se_varW 2) (by exact sa_cons (by exact se_varW 4) sa_nil))) (blkOk_by (own := [("place", 7), ("load", 8)]) rfl) (fun _ _ _ _ _ => (by exact sg_tup rfl (by exact sgs_cons (by exact sg_name 7 nd) (by exact sgs_cons (by exact sg_name 8 nd) sgs_nil)))) (fun _ _ _ _ _ => sts_nil) (fun _ _ _ _ _ => (by exact se_var 7)) (fun _ _ _ _ _ => (by exact se_var 8)))) (by exact ss_last (by exact ss_ret (by exact se_tup (by exact sa_cons (by exact se_callT (st := false) cb_tuple b_tuple (by exact sa_cons (by exact se_lc nd (by exact si_seq (m := .s) (by exact se_var 0)) (blkOk_by (own := [("place", 7)]) rfl) (fun _ _ _ _ _ => (by exact sg_name 7 nd)) (fun _ _ _ _ _ => sts_nil) (fun _ _ _ _ _ => (by exact se_dget2 hr (by exact se_varW 6) (by exact se_var 7) (by exact se_callD D_whole hr (by exact sa_cons se_int sa_nil)) ⟨rfl, rfl, rfl, rfl⟩))) sa_nil)) (by exact sa_cons (by exact se_callT (st := false) cb_tuple b_tuple (by exact sa_cons (by exact se_callB (st := false) (cb_sorted (hu65 hr)) b_sorted (by exact sa_cons (by exact se_varW 3) sa_nil)) sa_nil)) sa_nil)))))) ss_nil) (by exact ss_cons (by exact ss_ext 3 (by exact se_varW 5)) (by exact ss_cons (by exact ss_setLc 2 nd (by exact si_seq (m := .w) (by exact se_varW 2)) (blkOk_by (own := [("place", 7)]) rfl) (fun _ _ _ _ _ => (by exact sg_name 7 nd)) (fun _ _ _ _ _ => (by exact sts_one (by exact st_cmp (op_notInP hr) (by exact se_var 7) (by exact se_varW 5)))) (fun _ _ _ _ _ => (by exact se_var 7))) ss_nil)))))) (by exact ss_last (by exact ss_ret se_non))))
/-! ### worst_load -/
abbrev s_worst_load : Stmt := topS 22
theorem sc_worst_load : FnScope ["loads", "best", "load"] ["loads"] (defScope s_worst_load) := ⟨rfl, rfl, rfl, by decide +kernel, rfl, by decide +kernel, by decide +kernel⟩
def l1_worst_load : XS :=
  (sSeq (sSet 1 (xIf (tTru (xCall (fun ds => if ds.length = 2 then (d_is_less) ds else none) (xCons (xVar 1) (xCons (xVar 2) xNil)))) (xVar 2) (xVar 1)))
  sNop)
def g_worst_load : XS :=
  (sSeq (sSet 1 (xBin oIx (xVar 0) (xC (.int 0))))
  (sSeq (sFor (xSeq (xVar 0)) (gSet 2) l1_worst_load)
  (sRet (xVar 1))))
def d_worst_load : List D → Option D := runD 1 3 g_worst_load
theorem ok_worst_load {f : Addr} {fd : FuncData} (F : FnP K "worst_load" s_worst_load f fd) (D_is_less : Def P w K mg base 1 "is_less" ["first", "second"] (d_is_less)) : FnOk P w K mg base CX0 2 f fd ["loads"] (spD K 1 d_worst_load) := by
  have nd := sc_worst_load.nd
  refine fnp_ok (k := 1) (O' := []) F sc_worst_load fun cdv A outer s H E hr => ?_
  exact (by exact ss_cons (by exact ss_setS 1 nd (by exact se_ix (by exact se_var 0) se_int)) (by exact ss_cons (by exact ss_for (O' := []) (by exact si_seq (m := .s) (by exact se_var 0)) (by exact sg_name 2 nd) (by exact ss_cons (by exact ss_setS 1 nd (by exact se_if (by exact st_val (by exact se_callD D_is_less hr (by exact sa_cons (by exact se_var 1) (by exact sa_cons (by exact se_var 2) sa_nil)))) (by exact se_var 2) (by exact se_var 1))) ss_nil)) (by exact ss_last (by exact ss_ret (by exact se_var 1)))))
/-! ### sum_squares -/
abbrev s_sum_squares : Stmt := topS 23
theorem sc_sum_squares : FnScope ["loads", "load"] ["loads"] (defScope s_sum_squares) := ⟨rfl, rfl, rfl, by decide +kernel, rfl, by decide +kernel, by decide +kernel⟩
def g_sum_squares : XS :=
  (sRet (xCall (fun ds => if ds.length = 1 then (d_summed) ds else none) (xCons (xLc (xSeq (xVar 0)) (gSet 1) tYesP (xCall (fun ds => if ds.length = 2 then (d_times) ds else none) (xCons (xVar 1) (xCons (xVar 1) xNil))) [1]) xNil)))
def d_sum_squares : List D → Option D := runD 1 2 g_sum_squares
theorem ok_sum_squares {f : Addr} {fd : FuncData} (F : FnP K "sum_squares" s_sum_squares f fd) (D_times : Def P w K mg base 3 "times" ["first", "second"] (d_times)) (D_summed : Def P w K mg base 4 "summed" ["ratios"] (d_summed)) : FnOk P w K mg base CX0 5 f fd ["loads"] (spD K 1 d_sum_squares) := by
  have nd := sc_sum_squares.nd
  refine fnp_ok (k := 4) (O' := []) F sc_sum_squares fun cdv A outer s H E hr => ?_
  exact (by exact ss_last (by exact ss_ret (by exact se_callD D_summed hr (by exact sa_cons (by exact se_lc nd (by exact si_seq (m := .s) (by exact se_var 0)) (blkOk_by (own := [("load", 1)]) rfl) (fun _ _ _ _ _ => (by exact sg_name 1 nd)) (fun _ _ _ _ _ => sts_nil) (fun _ _ _ _ _ => (by exact se_callD D_times hr (by exact sa_cons (by exact se_var 1) (by exact sa_cons (by exact se_var 1) sa_nil))))) sa_nil))))
/-! ### trim_of -/
abbrev s_trim_of : Stmt := topS 25
theorem sc_trim_of : FnScope ["areas", "middles", "turning", "whole_area", "middle", "stiff", "area", "place", "way"] ["areas", "middles", "turning"] (defScope s_trim_of) := ⟨rfl, rfl, rfl, by decide +kernel, rfl, by decide +kernel, by decide +kernel⟩
def l1_trim_of : XS :=
  (sSeq (sSet 8 (xCall (fun ds => if ds.length = 2 then ((d_minus) ds).bind fun d => if flat d then some d else none else none) (xCons (xCall (fun ds => if ds.length = 1 then (d_whole) ds else none) (xCons (xVar 7) xNil)) (xCons (xVar 4) xNil))))
  (sSeq (sSet 5 (xCall (fun ds => if ds.length = 2 then (d_plus) ds else none) (xCons (xVar 5) (xCons (xCall (fun ds => if ds.length = 2 then (d_times) ds else none) (xCons (xCall (fun ds => if ds.length = 1 then (d_whole) ds else none) (xCons (xVar 6) xNil)) (xCons (xCall (fun ds => if ds.length = 2 then ((d_times) ds).bind fun d => if flat d then some d else none else none) (xCons (xVar 8) (xCons (xVar 8) xNil))) xNil))) xNil))))
  sNop))
def g_trim_of : XS :=
  (sSeq (sSet 3 (xCall bSum (xCons (xVar 0) xNil)))
  (sSeq (sSet 4 (xCall (fun ds => if ds.length = 2 then ((d_lowest) ds).bind fun d => if flat d then some d else none else none) (xCons (xCall bSum (xCons (xLc (xIt oZipM (xCons (xVar 0) (xCons (xVar 1) xNil))) (gTupD 2 (gsCons (gSet 6) (gsCons (gSet 7) gsNil))) tYesP (xBin oMul' (xVar 6) (xVar 7)) [6, 7]) xNil)) (xCons (xVar 3) xNil))))
  (sSeq (sSet 5 (xCall (fun ds => if ds.length = 1 then (d_whole) ds else none) (xCons (xC (.int 0)) xNil)))
  (sSeq (sFor (xIt oZipM (xCons (xVar 0) (xCons (xVar 1) xNil))) (gTupD 2 (gsCons (gSet 6) (gsCons (gSet 7) gsNil))) l1_trim_of)
  (sRet (xTup (xCons (xVar 4) (xCons (xVar 5) (xCons (xCall (fun ds => if ds.length = 2 then (d_over) ds else none) (xCons (xCall (fun ds => if ds.length = 1 then (d_whole) ds else none) (xCons (xVar 2) xNil)) (xCons (xVar 5) xNil))) xNil)))))))))
def d_trim_of : List D → Option D := runD 3 9 g_trim_of
theorem ok_trim_of {f : Addr} {fd : FuncData} (F : FnP K "trim_of" s_trim_of f fd) (D_lowest : Def P w K mg base 2 "lowest" ["a", "b"] (d_lowest)) (D_plus : Def P w K mg base 3 "plus" ["first", "second"] (d_plus)) (D_minus : Def P w K mg base 3 "minus" ["first", "second"] (d_minus)) (D_times : Def P w K mg base 3 "times" ["first", "second"] (d_times)) (D_over : Def P w K mg base 4 "over" ["first", "second"] (d_over)) (D_whole : Def P w K mg base 1 "whole" ["number"] (d_whole)) (b_sum : mg "sum" = none) (b_zip : mg "zip" = none) : FnOk P w K mg base CX0 5 f fd ["areas", "middles", "turning"] (spD K 3 d_trim_of) := by
  have nd := sc_trim_of.nd
  refine fnp_ok (k := 4) (O' := []) F sc_trim_of fun cdv A outer s H E hr => ?_
  exact (by exact ss_cons (by exact ss_setF 3 nd (by exact se_callB (st := false) cb_sum b_sum (by exact sa_cons (by exact se_var 0) sa_nil))) (by exact ss_cons (by exact ss_setF 4 nd (by exact se_callWD D_lowest hr (by exact sa_cons (by exact se_callB (st := false) cb_sum b_sum (by exact sa_cons (by exact se_lc nd (by exact si_zipM (st := false) b_zip (by exact sa_cons (by exact se_var 0) (by exact sa_cons (by exact se_var 1) sa_nil))) (blkOk_by (own := [("area", 6), ("place", 7)]) rfl) (fun _ _ _ _ _ => (by exact sg_tup rfl (by exact sgs_cons (by exact sg_name 6 nd) (by exact sgs_cons (by exact sg_name 7 nd) sgs_nil)))) (fun _ _ _ _ _ => sts_nil) (fun _ _ _ _ _ => (by exact se_op op_mulD' (by exact se_var 6) (by exact se_var 7)))) sa_nil)) (by exact sa_cons (by exact se_varW 3) sa_nil)))) (by exact ss_cons (by exact ss_setS 5 nd (by exact se_callD D_whole hr (by exact sa_cons se_int sa_nil))) (by exact ss_cons (by exact ss_for (O' := [4, 3]) (by exact si_zipM (st := true) b_zip (by exact sa_cons (by exact se_var 0) (by exact sa_cons (by exact se_var 1) sa_nil))) (by exact sg_tup rfl (by exact sgs_cons (by exact sg_name 6 nd) (by exact sgs_cons (by exact sg_name 7 nd) sgs_nil))) (by exact ss_cons (by exact ss_setF 8 nd (by exact se_callWD D_minus hr (by exact sa_cons (by exact se_callD D_whole hr (by exact sa_cons (by exact se_var 7) sa_nil)) (by exact sa_cons (by exact se_varW 4) sa_nil)))) (by exact ss_cons (by exact ss_setS 5 nd (by exact se_callD D_plus hr (by exact sa_cons (by exact se_var 5) (by exact sa_cons (by exact se_callD D_times hr (by exact sa_cons (by exact se_callD D_whole hr (by exact sa_cons (by exact se_var 6) sa_nil)) (by exact sa_cons (by exact se_callWD D_times hr (by exact sa_cons (by exact se_varW 8) (by exact sa_cons (by exact se_varW 8) sa_nil))) sa_nil))) sa_nil)))) ss_nil))) (by exact ss_last (by exact SS.weak (O1 := [3]) (by exact ss_ret (by exact se_tup (by exact sa_cons (by exact se_var 4) (by exact sa_cons (by exact se_var 5) (by exact sa_cons (by exact se_callD D_over hr (by exact sa_cons (by exact se_callD D_whole hr (by exact sa_cons (by exact se_var 2) sa_nil)) (by exact sa_cons (by exact se_var 5) sa_nil))) sa_nil)))))))))))
/-! ### speed_at -/
abbrev s_speed_at : Stmt := topS 27
theorem sc_speed_at : FnScope ["log", "hour", "first", "low", "last", "high"] ["log", "hour"] (defScope s_speed_at) := ⟨rfl, rfl, rfl, by decide +kernel, rfl, by decide +kernel, by decide +kernel⟩
def l1_speed_at : XS :=
  (sSeq (sIf (tOf (xChain oLe oLe (xVar 2) (xVar 1) (xVar 4))) (sRet (xCall (fun ds => if ds.length = 2 then (d_plus) ds else none) (xCons (xCall (fun ds => if ds.length = 1 then (d_whole) ds else none) (xCons (xVar 3) xNil)) (xCons (xCall (fun ds => if ds.length = 2 then (d_times) ds else none) (xCons (xCall (fun ds => if ds.length = 1 then (d_whole) ds else none) (xCons (xBin oSub (xVar 5) (xVar 3)) xNil)) (xCons (xCall (fun ds => if ds.length = 2 then (d_lowest) ds else none) (xCons (xBin oSub (xVar 1) (xVar 2)) (xCons (xBin oSub (xVar 4) (xVar 2)) xNil))) xNil))) xNil)))) sNop)
  sNop)
def g_speed_at : XS :=
  (sSeq (sFor (xIt oZipM (xCons (xVar 0) (xCons (xSl (xVar 0) (oAt (xC (.int 1))) oNo) xNil))) (gTupD 2 (gsCons (gTupD 2 (gsCons (gSet 2) (gsCons (gSet 3) gsNil))) (gsCons (gTupD 2 (gsCons (gSet 4) (gsCons (gSet 5) gsNil))) gsNil))) l1_speed_at)
  (sRet (xIf (tAndP (tOf (xBin oEq (xCall bLen (xCons (xVar 0) xNil)) (xC (.int 1)))) (tOf (xBin oEq (xBin oIx (xBin oIx (xVar 0) (xC (.int 0))) (xC (.int 0))) (xVar 1)))) (xCall (fun ds => if ds.length = 1 then (d_whole) ds else none) (xCons (xBin oIx (xBin oIx (xVar 0) (xC (.int 0))) (xC (.int 1))) xNil)) (xC .none))))
def d_speed_at : List D → Option D := runD 2 6 g_speed_at
theorem ok_speed_at {f : Addr} {fd : FuncData} (F : FnP K "speed_at" s_speed_at f fd) (D_lowest : Def P w K mg base 2 "lowest" ["a", "b"] (d_lowest)) (D_plus : Def P w K mg base 3 "plus" ["first", "second"] (d_plus)) (D_times : Def P w K mg base 3 "times" ["first", "second"] (d_times)) (D_whole : Def P w K mg base 1 "whole" ["number"] (d_whole)) (b_len : mg "len" = none) (b_zip : mg "zip" = none) : FnOk P w K mg base CX0 4 f fd ["log", "hour"] (spD K 2 d_speed_at) := by
  have nd := sc_speed_at.nd
  refine fnp_ok (k := 3) (O' := []) F sc_speed_at fun cdv A outer s H E hr => ?_
  exact (by exact ss_cons (by exact ss_for (O' := []) (by exact si_zipM (st := true) b_zip (by exact sa_cons (by exact se_var 0) (by exact sa_cons (by exact se_sl (by exact se_var 0) (by exact so_some se_int) so_none) sa_nil))) (by exact sg_tup rfl (by exact sgs_cons (by exact sg_tup rfl (by exact sgs_cons (by exact sg_name 2 nd) (by exact sgs_cons (by exact sg_name 3 nd) sgs_nil))) (by exact sgs_cons (by exact sg_tup rfl (by exact sgs_cons (by exact sg_name 4 nd) (by exact sgs_cons (by exact sg_name 5 nd) sgs_nil))) sgs_nil))) (by exact ss_cons (by exact ss_if (O' := []) (by exact st_chain op_leD op_leD (by exact se_var 2) (by exact se_var 1) (by exact se_var 4)) (by exact ss_last (by exact ss_ret (by exact se_callD D_plus hr (by exact sa_cons (by exact se_callD D_whole hr (by exact sa_cons (by exact se_var 3) sa_nil)) (by exact sa_cons (by exact se_callD D_times hr (by exact sa_cons (by exact se_callD D_whole hr (by exact sa_cons (by exact se_op op_subD (by exact se_var 5) (by exact se_var 3)) sa_nil)) (by exact sa_cons (by exact se_callD D_lowest hr (by exact sa_cons (by exact se_op op_subD (by exact se_var 1) (by exact se_var 2)) (by exact sa_cons (by exact se_op op_subD (by exact se_var 4) (by exact se_var 2)) sa_nil))) sa_nil))) sa_nil))))) ss_nil) ss_nil)) (by exact ss_last (by exact ss_ret (by exact se_if (by exact SW.st (by exact sw_and (by exact st_cmp (op_eqP hr) (by exact se_callB (st := false) cb_len b_len (by exact sa_cons (by exact se_var 0) sa_nil)) se_int) (by exact sw_and1 (by exact st_cmp (op_eqP hr) (by exact se_ix (by exact se_ix (by exact se_var 0) se_int) se_int) (by exact se_var 1))))) (by exact se_callD D_whole hr (by exact sa_cons (by exact se_ix (by exact se_ix (by exact se_var 0) se_int) se_int) sa_nil)) (by exact SE.toS se_non)))))
/-! ### run_between -/
abbrev s_run_between : Stmt := topS 28
theorem sc_run_between : FnScope ["log", "begin", "end", "found", "hour", "both"] ["log", "begin", "end"] (defScope s_run_between) := ⟨rfl, rfl, rfl, by decide +kernel, rfl, by decide +kernel, by decide +kernel⟩
def l1_run_between : XS :=
  (sSeq (sSet 5 (xCall (fun ds => if ds.length = 2 then (d_plus) ds else none) (xCons (xCall (fun ds => if ds.length = 2 then (d_speed_at) ds else none) (xCons (xVar 0) (xCons (xVar 4) xNil))) (xCons (xCall (fun ds => if ds.length = 2 then (d_speed_at) ds else none) (xCons (xVar 0) (xCons (xBin oAdd (xVar 4) (xC (.int 1))) xNil))) xNil))))
  (sSeq (sSet 3 (xCall (fun ds => if ds.length = 2 then (d_plus) ds else none) (xCons (xVar 3) (xCons (xCall (fun ds => if ds.length = 2 then (d_times) ds else none) (xCons (xVar 5) (xCons (xCall (fun ds => if ds.length = 2 then (d_lowest) ds else none) (xCons (xC (.int 1)) (xCons (xC (.int 2)) xNil))) xNil))) xNil))))
  sNop))
def g_run_between : XS :=
  (sSeq (sSet 3 (xCall (fun ds => if ds.length = 1 then (d_whole) ds else none) (xCons (xC (.int 0)) xNil)))
  (sSeq (sFor (xIt oR2 (xCons (xVar 1) (xCons (xVar 2) xNil))) (gSet 4) l1_run_between)
  (sRet (xVar 3))))
def d_run_between : List D → Option D := runD 3 6 g_run_between
theorem ok_run_between {f : Addr} {fd : FuncData} (F : FnP K "run_between" s_run_between f fd) (D_lowest : Def P w K mg base 2 "lowest" ["a", "b"] (d_lowest)) (D_plus : Def P w K mg base 3 "plus" ["first", "second"] (d_plus)) (D_times : Def P w K mg base 3 "times" ["first", "second"] (d_times)) (D_whole : Def P w K mg base 1 "whole" ["number"] (d_whole)) (D_speed_at : Def P w K mg base 4 "speed_at" ["log", "hour"] (d_speed_at)) (b_range : mg "range" = none) : FnOk P w K mg base CX0 5 f fd ["log", "begin", "end"] (spD K 3 d_run_between) := by
  have nd := sc_run_between.nd
  refine fnp_ok (k := 4) (O' := []) F sc_run_between fun cdv A outer s H E hr => ?_
  exact (by exact ss_cons (by exact ss_setS 3 nd (by exact se_callD D_whole hr (by exact sa_cons se_int sa_nil))) (by exact ss_cons (by exact ss_for (O' := []) (by exact si_r2 (st := false) b_range (by exact sa_cons (by exact se_var 1) (by exact sa_cons (by exact se_var 2) sa_nil))) (by exact sg_name 4 nd) (by exact ss_cons (by exact ss_setS 5 nd (by exact se_callD D_plus hr (by exact sa_cons (by exact se_callD D_speed_at hr (by exact sa_cons (by exact se_var 0) (by exact sa_cons (by exact se_var 4) sa_nil))) (by exact sa_cons (by exact se_callD D_speed_at hr (by exact sa_cons (by exact se_var 0) (by exact sa_cons (by exact se_op op_addD (by exact se_var 4) se_int) sa_nil))) sa_nil)))) (by exact ss_cons (by exact ss_setS 3 nd (by exact se_callD D_plus hr (by exact sa_cons (by exact se_var 3) (by exact sa_cons (by exact se_callD D_times hr (by exact sa_cons (by exact se_var 5) (by exact sa_cons (by exact se_callD D_lowest hr (by exact sa_cons se_int (by exact sa_cons se_int sa_nil))) sa_nil))) sa_nil)))) ss_nil))) (by exact ss_last (by exact ss_ret (by exact se_var 3)))))
/-! ### run_all -/
abbrev s_run_all : Stmt := topS 29
theorem sc_run_all : FnScope ["log"] ["log"] (defScope s_run_all) := ⟨rfl, rfl, rfl, by decide +kernel, rfl, by decide +kernel, by decide +kernel⟩
def g_run_all : XS :=
  (sRet (xCall (fun ds => if ds.length = 3 then (d_run_between) ds else none) (xCons (xVar 0) (xCons (xBin oIx (xBin oIx (xVar 0) (xC (.int 0))) (xC (.int 0))) (xCons (xBin oIx (xBin oIx (xVar 0) (xUn oNeg (xC (.int 1)))) (xC (.int 0))) xNil)))))
def d_run_all : List D → Option D := runD 1 1 g_run_all
theorem ok_run_all {f : Addr} {fd : FuncData} (F : FnP K "run_all" s_run_all f fd) (D_run_between : Def P w K mg base 5 "run_between" ["log", "begin", "end"] (d_run_between)) : FnOk P w K mg base CX0 6 f fd ["log"] (spD K 1 d_run_all) := by
  have nd := sc_run_all.nd
  refine fnp_ok (k := 5) (O' := []) F sc_run_all fun cdv A outer s H E hr => ?_
  exact (by exact ss_last (by exact ss_ret (by exact se_callD D_run_between hr (by exact sa_cons (by exact se_var 0) (by exact sa_cons (by exact se_ix (by exact se_ix (by exact se_var 0) se_int) se_int) (by exact sa_cons (by exact se_ix (by exact se_ix (by exact se_var 0) (by exact se_un un_negD se_int)) se_int) sa_nil))))))
/-! ### mean_speed -/
abbrev s_mean_speed : Stmt := topS 30
theorem sc_mean_speed : FnScope ["log", "hours"] ["log"] (defScope s_mean_speed) := ⟨rfl, rfl, rfl, by decide +kernel, rfl, by decide +kernel, by decide +kernel⟩
def g_mean_speed : XS :=
  (sSeq (sSet 1 (xBin oSub (xBin oIx (xBin oIx (xVar 0) (xUn oNeg (xC (.int 1)))) (xC (.int 0))) (xBin oIx (xBin oIx (xVar 0) (xC (.int 0))) (xC (.int 0)))))
  (sRet (xIf (tOf (xBin oEq (xVar 1) (xC (.int 0)))) (xC .none) (xCall (fun ds => if ds.length = 2 then (d_times) ds else none) (xCons (xCall (fun ds => if ds.length = 1 then (d_run_all) ds else none) (xCons (xVar 0) xNil)) (xCons (xCall (fun ds => if ds.length = 2 then ((d_lowest) ds).bind fun d => if flat d then some d else none else none) (xCons (xC (.int 1)) (xCons (xVar 1) xNil))) xNil))))))
def d_mean_speed : List D → Option D := runD 1 2 g_mean_speed
theorem ok_mean_speed {f : Addr} {fd : FuncData} (F : FnP K "mean_speed" s_mean_speed f fd) (D_lowest : Def P w K mg base 2 "lowest" ["a", "b"] (d_lowest)) (D_times : Def P w K mg base 3 "times" ["first", "second"] (d_times)) (D_run_all : Def P w K mg base 6 "run_all" ["log"] (d_run_all)) : FnOk P w K mg base CX0 7 f fd ["log"] (spD K 1 d_mean_speed) := by
  have nd := sc_mean_speed.nd
  refine fnp_ok (k := 6) (O' := []) F sc_mean_speed fun cdv A outer s H E hr => ?_
  exact (by exact ss_cons (by exact ss_setF 1 nd (by exact se_op op_subD (by exact se_ix (by exact se_ix (by exact se_var 0) (by exact se_un un_negD se_int)) se_int) (by exact se_ix (by exact se_ix (by exact se_var 0) se_int) se_int))) (by exact ss_last (by exact ss_ret (by exact se_if (by exact st_cmp (op_eqP hr) (by exact se_varW 1) se_int) (by exact SE.toS se_non) (by exact se_callD D_times hr (by exact sa_cons (by exact se_callD D_run_all hr (by exact sa_cons (by exact se_var 0) sa_nil)) (by exact sa_cons (by exact se_callWD D_lowest hr (by exact sa_cons se_int (by exact sa_cons (by exact se_varW 1) sa_nil))) sa_nil)))))))
/-! ### bends_of -/
abbrev s_bends_of : Stmt := topS 32
theorem sc_bends_of : FnScope ["offsets", "row", "offset", "place"] ["offsets"] (defScope s_bends_of) := ⟨rfl, rfl, rfl, by decide +kernel, rfl, by decide +kernel, by decide +kernel⟩
def g_bends_of : XS :=
  (sSeq (sSet 1 (xLc (xSeq (xVar 0)) (gSet 2) tYesP (xIf (tTru (xUn (oIsi "tuple") (xVar 2))) (xVar 2) (xCall (fun ds => if ds.length = 1 then (d_whole) ds else none) (xCons (xVar 2) xNil))) [2]))
  (sRet (xCall bTuple (xCons (xLc (xIt oR1 (xCons (xBin oSub (xCall bLen (xCons (xVar 1) xNil)) (xC (.int 2))) xNil)) (gSet 3) tYesP (xCall (fun ds => if ds.length = 2 then (d_minus) ds else none) (xCons (xCall (fun ds => if ds.length = 2 then (d_plus) ds else none) (xCons (xBin oIx (xVar 1) (xVar 3)) (xCons (xBin oIx (xVar 1) (xBin oAdd (xVar 3) (xC (.int 2)))) xNil))) (xCons (xCall (fun ds => if ds.length = 2 then (d_times) ds else none) (xCons (xCall (fun ds => if ds.length = 1 then (d_whole) ds else none) (xCons (xC (.int 2)) xNil)) (xCons (xBin oIx (xVar 1) (xBin oAdd (xVar 3) (xC (.int 1)))) xNil))) xNil))) [3]) xNil))))
def d_bends_of : List D → Option D := runD 1 4 g_bends_of
theorem ok_bends_of {f : Addr} {fd : FuncData} (F : FnP K "bends_of" s_bends_of f fd) (D_plus : Def P w K mg base 3 "plus" ["first", "second"] (d_plus)) (D_minus : Def P w K mg base 3 "minus" ["first", "second"] (d_minus)) (D_times : Def P w K mg base 3 "times" ["first", "second"] (d_times)) (D_whole : Def P w K mg base 1 "whole" ["number"] (d_whole)) (b_isinstance : mg "isinstance" = none) (b_len : mg "len" = none) (b_range : mg "range" = none) (b_tuple : mg "tuple" = none) : FnOk P w K mg base CX0 4 f fd ["offsets"] (spD K 1 d_bends_of) := by
  have nd := sc_bends_of.nd
  refine fnp_ok (k := 3) (O' := []) F sc_bends_of fun cdv A outer s H E hr => ?_
  exact (by exact ss_cons (by exact ss_setF 1 nd (by exact se_lc nd (by exact si_seq (m := .s) (by exact se_var 0)) (blkOk_by (own := [("offset", 2)]) rfl) (fun _ _ _ _ _ => (by exact sg_name 2 nd)) (fun _ _ _ _ _ => sts_nil) (fun _ _ _ _ _ => (by exact se_if (by exact st_val (by exact se_isi "tuple" (by exact se_var 2) b_isinstance b_tuple)) (by exact se_var 2) (by exact se_callD D_whole hr (by exact sa_cons (by exact se_var 2) sa_nil)))))) (by exact ss_last (by exact ss_ret (by exact se_callT (st := false) cb_tuple b_tuple (by exact sa_cons (by exact se_lc nd (by exact si_r1 (st := false) b_range (by exact sa_cons (by exact se_op op_subD (by exact se_callB (st := false) cb_len b_len (by exact sa_cons (by exact se_varW 1) sa_nil)) se_int) sa_nil)) (blkOk_by (own := [("place", 3)]) rfl) (fun _ _ _ _ _ => (by exact sg_name 3 nd)) (fun _ _ _ _ _ => sts_nil) (fun _ _ _ _ _ => (by exact se_callD D_minus hr (by exact sa_cons (by exact se_callD D_plus hr (by exact sa_cons (by exact se_ix (by exact se_varW 1) (by exact se_var 3)) (by exact sa_cons (by exact se_ix (by exact se_varW 1) (by exact se_op op_addD (by exact se_var 3) se_int)) sa_nil))) (by exact sa_cons (by exact se_callD D_times hr (by exact sa_cons (by exact se_callD D_whole hr (by exact sa_cons se_int sa_nil)) (by exact sa_cons (by exact se_ix (by exact se_varW 1) (by exact se_op op_addD (by exact se_var 3) se_int)) sa_nil))) sa_nil))))) sa_nil)))))
/-! ### is_fair -/
abbrev s_is_fair : Stmt := topS 33
theorem sc_is_fair : FnScope ["offsets", "bends", "bend"] ["offsets"] (defScope s_is_fair) := ⟨rfl, rfl, rfl, by decide +kernel, rfl, by decide +kernel, by decide +kernel⟩
def g_is_fair : XS :=
  (sSeq (sSet 1 (xCall (fun ds => if ds.length = 1 then (d_bends_of) ds else none) (xCons (xVar 0) xNil)))
  (sRet (xUn oNot (xAnd (xCall bAny (xCons (xLc (xSeq (xVar 1)) (gSet 2) tYesP (xBin oGt (xBin oIx (xVar 2) (xC (.int 0))) (xC (.int 0))) [2]) xNil)) (xCall bAny (xCons (xLc (xSeq (xVar 1)) (gSet 2) tYesP (xBin oLt (xBin oIx (xVar 2) (xC (.int 0))) (xC (.int 0))) [2]) xNil))))))
def d_is_fair : List D → Option D := runD 1 3 g_is_fair
theorem ok_is_fair {f : Addr} {fd : FuncData} (F : FnP K "is_fair" s_is_fair f fd) (D_bends_of : Def P w K mg base 4 "bends_of" ["offsets"] (d_bends_of)) (b_any : mg "any" = none) : FnOk P w K mg base CX0 5 f fd ["offsets"] (spD K 1 d_is_fair) := by
  have nd := sc_is_fair.nd
  refine fnp_ok (k := 4) (O' := []) F sc_is_fair fun cdv A outer s H E hr => ?_
  exact (by exact ss_cons (by exact ss_setS 1 nd (by exact se_callD D_bends_of hr (by exact sa_cons (by exact se_var 0) sa_nil))) (by exact ss_last (by exact ss_ret (by exact se_not (m := .f) (by exact se_and (by exact se_callB (st := false) cb_any b_any (by exact sa_cons (by exact se_lc nd (by exact si_seq (m := .s) (by exact se_var 1)) (blkOk_by (own := [("bend", 2)]) rfl) (fun _ _ _ _ _ => (by exact sg_name 2 nd)) (fun _ _ _ _ _ => sts_nil) (fun _ _ _ _ _ => (by exact se_cmp op_gtD (by exact se_ix (by exact se_var 2) se_int) se_int))) sa_nil)) (by exact se_bone (by exact se_callB (st := false) cb_any b_any (by exact sa_cons (by exact se_lc nd (by exact si_seq (m := .s) (by exact se_var 1)) (blkOk_by (own := [("bend", 2)]) rfl) (fun _ _ _ _ _ => (by exact sg_name 2 nd)) (fun _ _ _ _ _ => sts_nil) (fun _ _ _ _ _ => (by exact se_cmp op_ltD (by exact se_ix (by exact se_var 2) se_int) se_int))) sa_nil))))))))
/-! ### fair_sum -/
abbrev s_fair_sum : Stmt := topS 34
theorem sc_fair_sum : FnScope ["offsets", "bend"] ["offsets"] (defScope s_fair_sum) := ⟨rfl, rfl, rfl, by decide +kernel, rfl, by decide +kernel, by decide +kernel⟩
def g_fair_sum : XS :=
  (sRet (xCall (fun ds => if ds.length = 1 then (d_summed) ds else none) (xCons (xLc (xSeq (xCall (fun ds => if ds.length = 1 then (d_bends_of) ds else none) (xCons (xVar 0) xNil))) (gSet 1) tYesP (xCall (fun ds => if ds.length = 2 then (d_times) ds else none) (xCons (xVar 1) (xCons (xVar 1) xNil))) [1]) xNil)))
def d_fair_sum : List D → Option D := runD 1 2 g_fair_sum
theorem ok_fair_sum {f : Addr} {fd : FuncData} (F : FnP K "fair_sum" s_fair_sum f fd) (D_times : Def P w K mg base 3 "times" ["first", "second"] (d_times)) (D_summed : Def P w K mg base 4 "summed" ["ratios"] (d_summed)) (D_bends_of : Def P w K mg base 4 "bends_of" ["offsets"] (d_bends_of)) : FnOk P w K mg base CX0 5 f fd ["offsets"] (spD K 1 d_fair_sum) := by
  have nd := sc_fair_sum.nd
  refine fnp_ok (k := 4) (O' := []) F sc_fair_sum fun cdv A outer s H E hr => ?_
  exact (by exact ss_last (by exact ss_ret (by exact se_callD D_summed hr (by exact sa_cons (by exact se_lc nd (by exact si_seq (m := .s) (by exact se_callD D_bends_of hr (by exact sa_cons (by exact se_var 0) sa_nil))) (blkOk_by (own := [("bend", 1)]) rfl) (fun _ _ _ _ _ => (by exact sg_name 1 nd)) (fun _ _ _ _ _ => sts_nil) (fun _ _ _ _ _ => (by exact se_callD D_times hr (by exact sa_cons (by exact se_var 1) (by exact sa_cons (by exact se_var 1) sa_nil))))) sa_nil))))
/-! ### area_under -/
abbrev s_area_under : Stmt := topS 35
theorem sc_area_under : FnScope ["offsets"] ["offsets"] (defScope s_area_under) := ⟨rfl, rfl, rfl, by decide +kernel, rfl, by decide +kernel, by decide +kernel⟩
def g_area_under : XS :=
  (sRet (xCall (fun ds => if ds.length = 2 then (d_lowest) ds else none) (xCons (xBin oSub (xBin oSub (xBin oMul' (xC (.int 2)) (xCall bSum (xCons (xVar 0) xNil))) (xBin oIx (xVar 0) (xC (.int 0)))) (xBin oIx (xVar 0) (xUn oNeg (xC (.int 1))))) (xCons (xC (.int 2)) xNil))))
def d_area_under : List D → Option D := runD 1 1 g_area_under
theorem ok_area_under {f : Addr} {fd : FuncData} (F : FnP K "area_under" s_area_under f fd) (D_lowest : Def P w K mg base 2 "lowest" ["a", "b"] (d_lowest)) (b_sum : mg "sum" = none) : FnOk P w K mg base CX0 3 f fd ["offsets"] (spD K 1 d_area_under) := by
  have nd := sc_area_under.nd
  refine fnp_ok (k := 2) (O' := []) F sc_area_under fun cdv A outer s H E hr => ?_
  exact (by exact ss_last (by exact ss_ret (by exact se_callD D_lowest hr (by exact sa_cons (by exact se_op op_subD (by exact se_op op_subD (by exact se_op op_mulD' se_int (by exact se_callB (st := false) cb_sum b_sum (by exact sa_cons (by exact se_var 0) sa_nil))) (by exact se_ix (by exact se_var 0) se_int)) (by exact se_ix (by exact se_var 0) (by exact se_un un_negD se_int))) (by exact sa_cons se_int sa_nil)))))
/-! ### best_line -/
abbrev s_best_line : Stmt := topS 37
theorem sc_best_line : FnScope ["soundings", "n", "both", "squares", "rate", "hours", "depths", "hour", "depth"] ["soundings"] (defScope s_best_line) := ⟨rfl, rfl, rfl, by decide +kernel, rfl, by decide +kernel, by decide +kernel⟩
def g_best_line : XS :=
  (sSeq (sSet 1 (xCall bLen (xCons (xVar 0) xNil)))
  (sSeq (sPar [5, 6] (xCons (xCall bSum (xCons (xLc (xSeq (xVar 0)) (gTupD 2 (gsCons (gSet 7) (gsCons (gSet 8) gsNil))) tYesP (xVar 7) [7, 8]) xNil)) (xCons (xCall bSum (xCons (xLc (xSeq (xVar 0)) (gTupD 2 (gsCons (gSet 7) (gsCons (gSet 8) gsNil))) tYesP (xVar 8) [7, 8]) xNil)) xNil)))
  (sSeq (sSet 2 (xCall bSum (xCons (xLc (xSeq (xVar 0)) (gTupD 2 (gsCons (gSet 7) (gsCons (gSet 8) gsNil))) tYesP (xBin oMul' (xVar 7) (xVar 8)) [7, 8]) xNil)))
  (sSeq (sSet 3 (xCall bSum (xCons (xLc (xSeq (xVar 0)) (gTupD 2 (gsCons (gSet 7) (gsCons (gSet 8) gsNil))) tYesP (xBin oMul' (xVar 7) (xVar 7)) [7, 8]) xNil)))
  (sSeq (sSet 4 (xCall (fun ds => if ds.length = 2 then (d_lowest) ds else none) (xCons (xBin oSub (xBin oMul' (xVar 1) (xVar 2)) (xBin oMul' (xVar 5) (xVar 6))) (xCons (xBin oSub (xBin oMul' (xVar 1) (xVar 3)) (xBin oMul' (xVar 5) (xVar 5))) xNil))))
  (sRet (xTup (xCons (xVar 4) (xCons (xCall (fun ds => if ds.length = 2 then (d_over) ds else none) (xCons (xCall (fun ds => if ds.length = 2 then (d_minus) ds else none) (xCons (xCall (fun ds => if ds.length = 1 then ((d_whole) ds).bind fun d => if flat d then some d else none else none) (xCons (xVar 6) xNil)) (xCons (xCall (fun ds => if ds.length = 2 then (d_times) ds else none) (xCons (xVar 4) (xCons (xCall (fun ds => if ds.length = 1 then ((d_whole) ds).bind fun d => if flat d then some d else none else none) (xCons (xVar 5) xNil)) xNil))) xNil))) (xCons (xCall (fun ds => if ds.length = 1 then ((d_whole) ds).bind fun d => if flat d then some d else none else none) (xCons (xVar 1) xNil)) xNil))) xNil)))))))))
def d_best_line : List D → Option D := runD 1 9 g_best_line
theorem ok_best_line {f : Addr} {fd : FuncData} (F : FnP K "best_line" s_best_line f fd) (D_lowest : Def P w K mg base 2 "lowest" ["a", "b"] (d_lowest)) (D_minus : Def P w K mg base 3 "minus" ["first", "second"] (d_minus)) (D_times : Def P w K mg base 3 "times" ["first", "second"] (d_times)) (D_over : Def P w K mg base 4 "over" ["first", "second"] (d_over)) (D_whole : Def P w K mg base 1 "whole" ["number"] (d_whole)) (b_len : mg "len" = none) (b_sum : mg "sum" = none) : FnOk P w K mg base CX0 5 f fd ["soundings"] (spD K 1 d_best_line) := by
  have nd := sc_best_line.nd
  refine fnp_ok (k := 4) (O' := []) F sc_best_line fun cdv A outer s H E hr => ?_
  exact (by exact ss_cons (by exact ss_setF 1 nd (by exact se_callB (st := false) cb_len b_len (by exact sa_cons (by exact se_var 0) sa_nil))) (by exact ss_cons (by exact ss_par 5 6 nd (by exact sam_cons (by exact se_callB (st := false) cb_sum b_sum (by exact sa_cons (by exact se_lc nd (by exact si_seq (m := .s) (by exact se_var 0)) (blkOk_by (own := [("hour", 7), ("depth", 8)]) rfl) (fun _ _ _ _ _ => (by exact sg_tup rfl (by exact sgs_cons (by exact sg_name 7 nd) (by exact sgs_cons (by exact sg_name 8 nd) sgs_nil)))) (fun _ _ _ _ _ => sts_nil) (fun _ _ _ _ _ => (by exact se_var 7))) sa_nil)) (by exact sam_cons (by exact se_callB (st := false) cb_sum b_sum (by exact sa_cons (by exact se_lc nd (by exact si_seq (m := .s) (by exact se_var 0)) (blkOk_by (own := [("hour", 7), ("depth", 8)]) rfl) (fun _ _ _ _ _ => (by exact sg_tup rfl (by exact sgs_cons (by exact sg_name 7 nd) (by exact sgs_cons (by exact sg_name 8 nd) sgs_nil)))) (fun _ _ _ _ _ => sts_nil) (fun _ _ _ _ _ => (by exact se_var 8))) sa_nil)) sam_nil))) (by exact ss_cons (by exact ss_setF 2 nd (by exact se_callB (st := false) cb_sum b_sum (by exact sa_cons (by exact se_lc nd (by exact si_seq (m := .s) (by exact se_var 0)) (blkOk_by (own := [("hour", 7), ("depth", 8)]) rfl) (fun _ _ _ _ _ => (by exact sg_tup rfl (by exact sgs_cons (by exact sg_name 7 nd) (by exact sgs_cons (by exact sg_name 8 nd) sgs_nil)))) (fun _ _ _ _ _ => sts_nil) (fun _ _ _ _ _ => (by exact se_op op_mulD' (by exact se_var 7) (by exact se_var 8)))) sa_nil))) (by exact ss_cons (by exact ss_setF 3 nd (by exact se_callB (st := false) cb_sum b_sum (by exact sa_cons (by exact se_lc nd (by exact si_seq (m := .s) (by exact se_var 0)) (blkOk_by (own := [("hour", 7), ("depth", 8)]) rfl) (fun _ _ _ _ _ => (by exact sg_tup rfl (by exact sgs_cons (by exact sg_name 7 nd) (by exact sgs_cons (by exact sg_name 8 nd) sgs_nil)))) (fun _ _ _ _ _ => sts_nil) (fun _ _ _ _ _ => (by exact se_op op_mulD' (by exact se_var 7) (by exact se_var 7)))) sa_nil))) (by exact ss_cons (by exact ss_setS 4 nd (by exact se_callD D_lowest hr (by exact sa_cons (by exact se_op op_subD (by exact se_op op_mulD' (by exact se_varW 1) (by exact se_varW 2)) (by exact se_op op_mulD' (by exact se_varW 5) (by exact se_varW 6))) (by exact sa_cons (by exact se_op op_subD (by exact se_op op_mulD' (by exact se_varW 1) (by exact se_varW 3)) (by exact se_op op_mulD' (by exact se_varW 5) (by exact se_varW 5))) sa_nil)))) (by exact ss_last (by exact ss_ret (by exact se_tup (by exact sa_cons (by exact se_var 4) (by exact sa_cons (by exact se_callD D_over hr (by exact sa_cons (by exact se_callD D_minus hr (by exact sa_cons (by exact se_callWD D_whole hr (by exact sa_cons (by exact se_varW 6) sa_nil)) (by exact sa_cons (by exact se_callD D_times hr (by exact sa_cons (by exact se_var 4) (by exact sa_cons (by exact se_callWD D_whole hr (by exact sa_cons (by exact se_varW 5) sa_nil)) sa_nil))) sa_nil))) (by exact sa_cons (by exact se_callWD D_whole hr (by exact sa_cons (by exact se_varW 1) sa_nil)) sa_nil))) sa_nil))))))))))
/-! ### _law_mixed -/
abbrev s__law_mixed : Stmt := topS 39
theorem sc__law_mixed : FnScope ["script", "k", "cell", "first", "second", "third"] ["script", "k"] (defScope s__law_mixed) := ⟨rfl, rfl, rfl, by decide +kernel, rfl, by decide +kernel, by decide +kernel⟩
def g__law_mixed : XS :=
  (sSeq (sSet 2 (xC (.int 0)))
  (sSeq (sIf (tOf (xBin oGt (xCall bLen (xCons (xVar 0) xNil)) (xC (.int 0)))) (sSeq (sSet 2 (xBin oIx (xVar 0) (xBin oMod (xVar 1) (xCall bLen (xCons (xVar 0) xNil)))))
  sNop) sNop)
  (sSeq (sSet 3 (xBin oMod (xCall bInt (xCons (xBin oAdd (xBin oAdd (xBin oMul' (xVar 2) (xC (.int 48271))) (xBin oMul' (xVar 1) (xC (.int 69621)))) (xC (.int 8191))) xNil)) (xC (.int 2147483647))))
  (sSeq (sSet 4 (xBin oMod (xCall bInt (xCons (xBin oAdd (xBin oAdd (xBin oMul' (xVar 3) (xVar 3)) (xBin oFdiv (xVar 3) (xC (.int 7)))) (xBin oMul' (xVar 1) (xC (.int 16807)))) xNil)) (xC (.int 2147483629))))
  (sSeq (sSet 5 (xBin oMod (xCall bInt (xCons (xBin oAdd (xBin oAdd (xBin oMul' (xVar 4) (xVar 4)) (xBin oFdiv (xVar 4) (xC (.int 11)))) (xC (.int 40692))) xNil)) (xC (.int 2147483563))))
  (sRet (xBin oMod (xBin oFdiv (xVar 5) (xC (.int 5))) (xC (.int 1000003)))))))))
def d__law_mixed : List D → Option D := runD 2 6 g__law_mixed
theorem ok__law_mixed {f : Addr} {fd : FuncData} (F : FnP K "_law_mixed" s__law_mixed f fd) (b_int : mg "int" = none) (b_len : mg "len" = none) : FnOk P w K mg base CX0 1 f fd ["script", "k"] (spD K 2 d__law_mixed) := by
  have nd := sc__law_mixed.nd
  refine fnp_ok (k := 0) (O' := []) F sc__law_mixed fun cdv A outer s H E hr => ?_
  exact (by exact ss_cons (by exact ss_setF 2 nd se_int) (by exact ss_cons (by exact ss_if (O' := []) (by exact st_cmp op_gtD (by exact se_callB (st := false) cb_len b_len (by exact sa_cons (by exact se_var 0) sa_nil)) se_int) (by exact ss_cons (by exact ss_setS 2 nd (by exact se_ix (by exact se_var 0) (by exact se_op op_modD (by exact se_var 1) (by exact se_callB (st := false) cb_len b_len (by exact sa_cons (by exact se_var 0) sa_nil))))) ss_nil) ss_nil) (by exact ss_cons (by exact ss_setF 3 nd (by exact se_op op_modD (by exact se_callT (st := false) cb_int b_int (by exact sa_cons (by exact se_op op_addD (by exact se_op op_addD (by exact se_op op_mulD' (by exact se_var 2) se_int) (by exact se_op op_mulD' (by exact se_var 1) se_int)) se_int) sa_nil)) se_int)) (by exact ss_cons (by exact ss_setF 4 nd (by exact se_op op_modD (by exact se_callT (st := false) cb_int b_int (by exact sa_cons (by exact se_op op_addD (by exact se_op op_addD (by exact se_op op_mulD' (by exact se_varW 3) (by exact se_varW 3)) (by exact se_op op_fdivD (by exact se_varW 3) se_int)) (by exact se_op op_mulD' (by exact se_var 1) se_int)) sa_nil)) se_int)) (by exact ss_cons (by exact ss_setF 5 nd (by exact se_op op_modD (by exact se_callT (st := false) cb_int b_int (by exact sa_cons (by exact se_op op_addD (by exact se_op op_addD (by exact se_op op_mulD' (by exact se_varW 4) (by exact se_varW 4)) (by exact se_op op_fdivD (by exact se_varW 4) se_int)) se_int) sa_nil)) se_int)) (by exact ss_last (by exact ss_ret (by exact se_op op_modD (by exact se_op op_fdivD (by exact se_varW 5) se_int) se_int))))))))
/-! ### _law_row -/
abbrev s__law_row : Stmt := topS 40
theorem sc__law_row : FnScope ["script", "many", "big", "row", "k"] ["script", "many"] (defScope s__law_row) := ⟨rfl, rfl, rfl, by decide +kernel, rfl, by decide +kernel, by decide +kernel⟩
def l1__law_row : XS :=
  (sSeq (sIf (tOf (xBin oGt (xVar 2) (xC (.int 0)))) (sSeq (sApp 3 (xBin oMod (xCall bInt (xCons (xVar 2) xNil)) (xC (.int 1000))))
  (sSeq (sSet 2 (xBin oFdiv (xVar 2) (xC (.int 1000))))
  sNop)) (sSeq (sApp 3 (xCall (fun ds => if ds.length = 2 then (d__law_mixed) ds else none) (xCons (xVar 0) (xCons (xVar 4) xNil))))
  sNop))
  sNop)
def g__law_row : XS :=
  (sSeq (sSet 2 (xC (.int 0)))
  (sSeq (sIf (tAndP (tOf (xBin oGt (xCall bLen (xCons (xVar 0) xNil)) (xC (.int 0)))) (tOf (xBin oGe (xBin oIx (xVar 0) (xC (.int 0))) (xBin oPow (xC (.int 10)) (xC (.int 18)))))) (sSeq (sSet 2 (xBin oIx (xVar 0) (xC (.int 0))))
  sNop) sNop)
  (sSeq (sSet 3 (xLst xNil))
  (sSeq (sFor (xIt oR1 (xCons (xVar 1) xNil)) (gSet 4) l1__law_row)
  (sRet (xVar 3))))))
def d__law_row : List D → Option D := runD 2 5 g__law_row
theorem ok__law_row {f : Addr} {fd : FuncData} (F : FnP K "_law_row" s__law_row f fd) (D__law_mixed : Def P w K mg base 1 "_law_mixed" ["script", "k"] (d__law_mixed)) (b_int : mg "int" = none) (b_len : mg "len" = none) (b_range : mg "range" = none) : FnOk P w K mg base CX0 2 f fd ["script", "many"] (spD K 2 d__law_row) := by
  have nd := sc__law_row.nd
  refine fnp_ok (k := 1) (O' := []) F sc__law_row fun cdv A outer s H E hr => ?_
  exact (by exact ss_cons (by exact ss_setF 2 nd se_int) (by exact ss_cons (by exact ss_if (O' := []) (by exact SW.st (by exact sw_and (by exact st_cmp op_gtD (by exact se_callB (st := false) cb_len b_len (by exact sa_cons (by exact se_var 0) sa_nil)) se_int) (by exact sw_and1 (by exact st_cmp op_geD (by exact se_ix (by exact se_var 0) se_int) (by exact se_op op_powD se_int se_int))))) (by exact ss_cons (by exact ss_setS 2 nd (by exact se_ix (by exact se_var 0) se_int)) ss_nil) ss_nil) (by exact ss_cons (by exact ss_setF 3 nd (by exact se_lst sa_nil)) (by exact ss_cons (by exact ss_for (O' := [3]) (by exact si_r1 (st := false) b_range (by exact sa_cons (by exact se_var 1) sa_nil)) (by exact sg_name 4 nd) (by exact ss_cons (by exact ss_if (O' := [3]) (by exact st_cmp op_gtD (by exact se_var 2) se_int) (by exact ss_cons (by exact ss_app 3 (by exact se_op op_modD (by exact se_callT (st := false) cb_int b_int (by exact sa_cons (by exact se_var 2) sa_nil)) se_int)) (by exact ss_cons (by exact ss_setF 2 nd (by exact se_op op_fdivD (by exact se_var 2) se_int)) ss_nil)) (by exact ss_cons (by exact ss_app 3 (by exact se_callD D__law_mixed hr (by exact sa_cons (by exact se_var 0) (by exact sa_cons (by exact se_var 4) sa_nil)))) ss_nil)) ss_nil)) (by exact ss_last (by exact SS.weak (O1 := []) (by exact ss_ret (by exact se_var 3))))))))
/-! ### _law_is_int -/
abbrev s__law_is_int : Stmt := topS 41
theorem sc__law_is_int : FnScope ["value"] ["value"] (defScope s__law_is_int) := ⟨rfl, rfl, rfl, by decide +kernel, rfl, by decide +kernel, by decide +kernel⟩
def g__law_is_int : XS :=
  (sRet (xAnd (xUn (oIsi "int") (xVar 0)) (xUn oNot (xUn (oIsi "bool") (xVar 0)))))
def d__law_is_int : List D → Option D := runD 1 1 g__law_is_int
theorem ok__law_is_int {f : Addr} {fd : FuncData} (F : FnP K "_law_is_int" s__law_is_int f fd) (b_bool : mg "bool" = none) (b_int : mg "int" = none) (b_isinstance : mg "isinstance" = none) : FnOk P w K mg base CX0 1 f fd ["value"] (spD K 1 d__law_is_int) := by
  have nd := sc__law_is_int.nd
  refine fnp_ok (k := 0) (O' := []) F sc__law_is_int fun cdv A outer s H E hr => ?_
  exact (by exact ss_last (by exact ss_ret (by exact se_and (by exact se_isi "int" (by exact se_var 0) b_isinstance b_int) (by exact se_bone (by exact se_not (m := .f) (by exact se_isi "bool" (by exact se_var 0) b_isinstance b_bool))))))
/-! ### _law_like -/
abbrev s__law_like : Stmt := topS 42
theorem sc__law_like : FnScope ["value", "due", "k"] ["value", "due"] (defScope s__law_like) := ⟨rfl, rfl, rfl, by decide +kernel, rfl, by decide +kernel, by decide +kernel⟩
def g__law_like (d__law_like : List D → Option D) : XS :=
  (sSeq (sIf (tOf (xBin oIs (xVar 1) (xC .none))) (sRet (xBin oIs (xVar 0) (xC .none))) sNop)
  (sSeq (sIf (tTru (xUn (oIsi "bool") (xVar 1))) (sRet (xAnd (xUn (oIsi "bool") (xVar 0)) (xBin oEq (xVar 0) (xVar 1)))) sNop)
  (sSeq (sIf (tTru (xUn (oIsi "tuple") (xVar 1))) (sSeq (sIf (tOrP (tNotP (tTru (xUn (oIsi "tuple") (xVar 0)))) (tOf (xBin oNe (xCall bLen (xCons (xVar 0) xNil)) (xCall bLen (xCons (xVar 1) xNil))))) (sRet (xC (.bool false))) sNop)
  (sRet (xCall bAll (xCons (xLc (xIt oR1 (xCons (xCall bLen (xCons (xVar 1) xNil)) xNil)) (gSet 2) tYesP (xCall (fun ds => if ds.length = 2 then d__law_like ds else none) (xCons (xBin oIx (xVar 0) (xVar 2)) (xCons (xBin oIx (xVar 1) (xVar 2)) xNil))) [2]) xNil)))) sNop)
  (sSeq (sIf (tTru (xUn (oIsi "str") (xVar 1))) (sRet (xAnd (xUn (oIsi "str") (xVar 0)) (xBin oEq (xVar 0) (xVar 1)))) sNop)
  (sRet (xAnd (xCall (fun ds => if ds.length = 1 then (d__law_is_int) ds else none) (xCons (xVar 0) xNil)) (xBin oEq (xVar 0) (xVar 1))))))))
def d__law_like : Nat → List D → Option D
  | 0 => fun _ => none
  | n + 1 => runD 2 3 (g__law_like (d__law_like n))
theorem ok__law_like {f : Addr} {fd : FuncData} (F : FnP K "_law_like" s__law_like f fd) (hm : mg "_law_like" = some (.ref f)) (kp : PySem.W.keepIn K (.ref f) = true) (hb : Binds K fd ["value", "due"] []) (D__law_is_int : Def P w K mg base 1 "_law_is_int" ["value"] (d__law_is_int)) (b_all : mg "all" = none) (b_bool : mg "bool" = none) (b_isinstance : mg "isinstance" = none) (b_len : mg "len" = none) (b_range : mg "range" = none) (b_str : mg "str" = none) (b_tuple : mg "tuple" = none) : ∀ n, FnOk P w K mg base CX0 (2 + n) f fd ["value", "due"] (spD K 2 (d__law_like n)) := by
  intro n
  induction n with
  | zero => exact fn_none F sc__law_like
  | succ n ih =>
    have nd := sc__law_like.nd
    have D__law_like : Def P w K mg base (2 + n) "_law_like" ["value", "due"] (d__law_like n) := def_ok ih hm kp hb
    refine fnp_ok (k := 2 + n) (O' := []) F sc__law_like fun cdv A outer s H E hr => ?_
    exact (by exact ss_cons (by exact ss_if (O' := []) (by exact st_cmp op_isD (by exact se_var 1) se_non) (by exact ss_last (by exact ss_ret (by exact se_cmp op_isD (by exact se_var 0) se_non))) ss_nil) (by exact ss_cons (by exact ss_if (O' := []) (by exact st_val (by exact se_isi "bool" (by exact se_var 1) b_isinstance b_bool)) (by exact ss_last (by exact ss_ret (by exact se_and (by exact se_isi "bool" (by exact se_var 0) b_isinstance b_bool) (by exact se_bone (by exact se_cmp (op_eqP hr) (by exact se_var 0) (by exact se_var 1)))))) ss_nil) (by exact ss_cons (by exact ss_if (O' := []) (by exact st_val (by exact se_isi "tuple" (by exact se_var 1) b_isinstance b_tuple)) (by exact ss_cons (by exact ss_if (O' := []) (by exact SW.st (by exact sw_or (by exact st_not (by exact st_val (by exact se_isi "tuple" (by exact se_var 0) b_isinstance b_tuple))) (by exact sw_or1 (by exact st_cmp (op_neP hr) (by exact se_callB (st := false) cb_len b_len (by exact sa_cons (by exact se_var 0) sa_nil)) (by exact se_callB (st := false) cb_len b_len (by exact sa_cons (by exact se_var 1) sa_nil)))))) (by exact ss_last (by exact ss_ret se_bl)) ss_nil) (by exact ss_last (by exact ss_ret (by exact se_callB (st := false) cb_all b_all (by exact sa_cons (by exact se_lc nd (by exact si_r1 (st := false) b_range (by exact sa_cons (by exact se_callB (st := false) cb_len b_len (by exact sa_cons (by exact se_var 1) sa_nil)) sa_nil)) (blkOk_by (own := [("k", 2)]) rfl) (fun _ _ _ _ _ => (by exact sg_name 2 nd)) (fun _ _ _ _ _ => sts_nil) (fun _ _ _ _ _ => (by exact se_callD (hk := by omega) D__law_like hr (by exact sa_cons (by exact se_ix (by exact se_var 0) (by exact se_var 2)) (by exact sa_cons (by exact se_ix (by exact se_var 1) (by exact se_var 2)) sa_nil))))) sa_nil))))) ss_nil) (by exact ss_cons (by exact ss_if (O' := []) (by exact st_val (by exact se_isi "str" (by exact se_var 1) b_isinstance b_str)) (by exact ss_last (by exact ss_ret (by exact se_and (by exact se_isi "str" (by exact se_var 0) b_isinstance b_str) (by exact se_bone (by exact se_cmp (op_eqP hr) (by exact se_var 0) (by exact se_var 1)))))) ss_nil) (by exact ss_last (by exact ss_ret (by exact se_and (by exact se_callD (hk := by omega) D__law_is_int hr (by exact sa_cons (by exact se_var 0) sa_nil)) (by exact se_bone (by exact se_cmp (op_eqP hr) (by exact se_var 0) (by exact se_var 1))))))))))
/-! ### _law_common -/
abbrev s__law_common : Stmt := topS 43
theorem sc__law_common : FnScope ["first", "second"] ["first", "second"] (defScope s__law_common) := ⟨rfl, rfl, rfl, by decide +kernel, rfl, by decide +kernel, by decide +kernel⟩
def l1__law_common : XS :=
  (sSeq (sPar [0, 1] (xCons (xVar 1) (xCons (xBin oMod (xCall bInt (xCons (xVar 0) xNil)) (xVar 1)) xNil)))
  sNop)
def g__law_common : XS :=
  (sSeq (sPar [0, 1] (xCons (xCall bAbs (xCons (xVar 0) xNil)) (xCons (xCall bAbs (xCons (xVar 1) xNil)) xNil)))
  (sSeq (sWhile (tOf (xBin oGt (xVar 1) (xC (.int 0)))) l1__law_common)
  (sRet (xVar 0))))
def d__law_common : List D → Option D := runD 2 2 g__law_common
theorem ok__law_common {f : Addr} {fd : FuncData} (F : FnP K "_law_common" s__law_common f fd) (b_abs : mg "abs" = none) (b_int : mg "int" = none) : FnOk P w K mg base CX0 1 f fd ["first", "second"] (spD K 2 d__law_common) := by
  have nd := sc__law_common.nd
  refine fnp_ok (k := 0) (O' := []) F sc__law_common fun cdv A outer s H E hr => ?_
  exact (by exact ss_cons (by exact ss_par 0 1 nd (by exact sam_cons (by exact se_callB (st := false) cb_abs b_abs (by exact sa_cons (by exact se_var 0) sa_nil)) (by exact sam_cons (by exact se_callB (st := false) cb_abs b_abs (by exact sa_cons (by exact se_var 1) sa_nil)) sam_nil))) (by exact ss_cons (by exact SS.weak (O1 := [1]) (by exact ss_while (O' := [1]) (by exact st_cmp op_gtD (by exact se_varW 1) se_int) (by exact ss_cons (by exact SS.weak (O1 := []) (by exact ss_par 0 1 nd (by exact sam_cons (by exact se_var 1) (by exact sam_cons (by exact se_op op_modD (by exact se_callT (st := false) cb_int b_int (by exact sa_cons (by exact se_var 0) sa_nil)) (by exact se_var 1)) sam_nil)))) ss_nil))) (by exact ss_last (by exact ss_ret (by exact se_var 0)))))
/-! ### _law_ratio -/
abbrev s__law_ratio : Stmt := topS 44
theorem sc__law_ratio : FnScope ["a", "b", "shared"] ["a", "b"] (defScope s__law_ratio) := ⟨rfl, rfl, rfl, by decide +kernel, rfl, by decide +kernel, by decide +kernel⟩
def g__law_ratio : XS :=
  (sSeq (sSet 2 (xCall (fun ds => if ds.length = 2 then (d__law_common) ds else none) (xCons (xVar 0) (xCons (xVar 1) xNil))))
  (sSeq (sIf (tOf (xBin oLt (xVar 1) (xC (.int 0)))) (sSeq (sSet 2 (xUn oNeg (xVar 2)))
  sNop) sNop)
  (sRet (xTup (xCons (xBin oFdiv (xVar 0) (xVar 2)) (xCons (xBin oFdiv (xVar 1) (xVar 2)) xNil))))))
def d__law_ratio : List D → Option D := runD 2 3 g__law_ratio
theorem ok__law_ratio {f : Addr} {fd : FuncData} (F : FnP K "_law_ratio" s__law_ratio f fd) (D__law_common : Def P w K mg base 1 "_law_common" ["first", "second"] (d__law_common)) : FnOk P w K mg base CX0 2 f fd ["a", "b"] (spD K 2 d__law_ratio) := by
  have nd := sc__law_ratio.nd
  refine fnp_ok (k := 1) (O' := []) F sc__law_ratio fun cdv A outer s H E hr => ?_
  exact (by exact ss_cons (by exact ss_setS 2 nd (by exact se_callD D__law_common hr (by exact sa_cons (by exact se_var 0) (by exact sa_cons (by exact se_var 1) sa_nil)))) (by exact ss_cons (by exact ss_if (O' := []) (by exact st_cmp op_ltD (by exact se_var 1) se_int) (by exact ss_cons (by exact ss_setF 2 nd (by exact se_un un_negD (by exact se_var 2))) ss_nil) ss_nil) (by exact ss_last (by exact ss_ret (by exact se_tup (by exact sa_cons (by exact se_op op_fdivD (by exact se_var 0) (by exact se_var 2)) (by exact sa_cons (by exact se_op op_fdivD (by exact se_var 1) (by exact se_var 2)) sa_nil)))))))
/-! ### _law_sum -/
abbrev s__law_sum : Stmt := topS 45
theorem sc__law_sum : FnScope ["ratios", "top", "under", "a", "b"] ["ratios"] (defScope s__law_sum) := ⟨rfl, rfl, rfl, by decide +kernel, rfl, by decide +kernel, by decide +kernel⟩
def l1__law_sum : XS :=
  (sSeq (sPar [1, 2] (xCons (xBin oAdd (xBin oMul' (xVar 1) (xVar 4)) (xBin oMul' (xVar 3) (xVar 2))) (xCons (xBin oMul' (xVar 2) (xVar 4)) xNil)))
  sNop)
def g__law_sum : XS :=
  (sSeq (sTgt (gTupD 2 (gsCons (gSet 1) (gsCons (gSet 2) gsNil))) (xTup (xCons (xC (.int 0)) (xCons (xC (.int 1)) xNil))))
  (sSeq (sFor (xSeq (xVar 0)) (gTupD 2 (gsCons (gSet 3) (gsCons (gSet 4) gsNil))) l1__law_sum)
  (sRet (xCall (fun ds => if ds.length = 2 then (d__law_ratio) ds else none) (xCons (xVar 1) (xCons (xVar 2) xNil))))))
def d__law_sum : List D → Option D := runD 1 5 g__law_sum
theorem ok__law_sum {f : Addr} {fd : FuncData} (F : FnP K "_law_sum" s__law_sum f fd) (D__law_ratio : Def P w K mg base 2 "_law_ratio" ["a", "b"] (d__law_ratio)) : FnOk P w K mg base CX0 3 f fd ["ratios"] (spD K 1 d__law_sum) := by
  have nd := sc__law_sum.nd
  refine fnp_ok (k := 2) (O' := []) F sc__law_sum fun cdv A outer s H E hr => ?_
  exact (by exact ss_cons (by exact ss_tgt (by exact se_tup (by exact sa_cons se_int (by exact sa_cons se_int sa_nil))) (by exact sg_tup rfl (by exact sgs_cons (by exact sg_name 1 nd) (by exact sgs_cons (by exact sg_name 2 nd) sgs_nil)))) (by exact ss_cons (by exact ss_for (O' := []) (by exact si_seq (m := .s) (by exact se_var 0)) (by exact sg_tup rfl (by exact sgs_cons (by exact sg_name 3 nd) (by exact sgs_cons (by exact sg_name 4 nd) sgs_nil))) (by exact ss_cons (by exact ss_par 1 2 nd (by exact sam_cons (by exact se_op op_addD (by exact se_op op_mulD' (by exact se_var 1) (by exact se_var 4)) (by exact se_op op_mulD' (by exact se_var 3) (by exact se_var 2))) (by exact sam_cons (by exact se_op op_mulD' (by exact se_var 2) (by exact se_var 4)) sam_nil))) ss_nil)) (by exact ss_last (by exact ss_ret (by exact se_callD D__law_ratio hr (by exact sa_cons (by exact se_var 1) (by exact sa_cons (by exact se_var 2) sa_nil)))))))
/-! ### _law_times -/
abbrev s__law_times : Stmt := topS 46
theorem sc__law_times : FnScope ["one", "other"] ["one", "other"] (defScope s__law_times) := ⟨rfl, rfl, rfl, by decide +kernel, rfl, by decide +kernel, by decide +kernel⟩
def g__law_times : XS :=
  (sRet (xCall (fun ds => if ds.length = 2 then (d__law_ratio) ds else none) (xCons (xBin oMul' (xBin oIx (xVar 0) (xC (.int 0))) (xBin oIx (xVar 1) (xC (.int 0)))) (xCons (xBin oMul' (xBin oIx (xVar 0) (xC (.int 1))) (xBin oIx (xVar 1) (xC (.int 1)))) xNil))))
def d__law_times : List D → Option D := runD 2 2 g__law_times
theorem ok__law_times {f : Addr} {fd : FuncData} (F : FnP K "_law_times" s__law_times f fd) (D__law_ratio : Def P w K mg base 2 "_law_ratio" ["a", "b"] (d__law_ratio)) : FnOk P w K mg base CX0 3 f fd ["one", "other"] (spD K 2 d__law_times) := by
  have nd := sc__law_times.nd
  refine fnp_ok (k := 2) (O' := []) F sc__law_times fun cdv A outer s H E hr => ?_
  exact (by exact ss_last (by exact ss_ret (by exact se_callD D__law_ratio hr (by exact sa_cons (by exact se_op op_mulD' (by exact se_ix (by exact se_var 0) se_int) (by exact se_ix (by exact se_var 1) se_int)) (by exact sa_cons (by exact se_op op_mulD' (by exact se_ix (by exact se_var 0) se_int) (by exact se_ix (by exact se_var 1) se_int)) sa_nil)))))
/-! ### _law_line -/
abbrev s__law_line : Stmt := topS 47
theorem sc__law_line : FnScope ["places", "weights", "under", "n", "first", "second", "total", "turn", "rate", "base", "place", "weight"] ["places", "weights"] (defScope s__law_line) := ⟨rfl, rfl, rfl, by decide +kernel, rfl, by decide +kernel, by decide +kernel⟩
def g__law_line : XS :=
  (sSeq (sPar [3, 4, 5] (xCons (xCall bLen (xCons (xVar 0) xNil)) (xCons (xCall bSum (xCons (xVar 0) xNil)) (xCons (xCall bSum (xCons (xLc (xSeq (xVar 0)) (gSet 10) tYesP (xBin oMul' (xVar 10) (xVar 10)) [10]) xNil)) xNil))))
  (sSeq (sPar [6, 7] (xCons (xCall bSum (xCons (xLc (xSeq (xVar 1)) (gTupD 2 (gsCons (gSet 10) (gsCons (gSet 11) gsNil))) tYesP (xVar 11) [10, 11]) xNil)) (xCons (xCall bSum (xCons (xLc (xSeq (xVar 1)) (gTupD 2 (gsCons (gSet 10) (gsCons (gSet 11) gsNil))) tYesP (xBin oMul' (xVar 10) (xVar 11)) [10, 11]) xNil)) xNil)))
  (sSeq (sSet 2 (xBin oSub (xBin oMul' (xVar 3) (xVar 5)) (xBin oMul' (xVar 4) (xVar 4))))
  (sSeq (sPar [8, 9] (xCons (xCall (fun ds => if ds.length = 2 then ((d__law_ratio) ds).bind fun d => if flat d then some d else none else none) (xCons (xBin oSub (xBin oMul' (xVar 3) (xVar 7)) (xBin oMul' (xVar 4) (xVar 6))) (xCons (xVar 2) xNil))) (xCons (xCall (fun ds => if ds.length = 2 then ((d__law_ratio) ds).bind fun d => if flat d then some d else none else none) (xCons (xBin oSub (xBin oMul' (xVar 6) (xVar 5)) (xBin oMul' (xVar 7) (xVar 4))) (xCons (xVar 2) xNil))) xNil)))
  (sRet (xTup (xCons (xVar 8) (xCons (xVar 9) xNil))))))))
def d__law_line : List D → Option D := runD 2 12 g__law_line
theorem ok__law_line {f : Addr} {fd : FuncData} (F : FnP K "_law_line" s__law_line f fd) (D__law_ratio : Def P w K mg base 2 "_law_ratio" ["a", "b"] (d__law_ratio)) (b_len : mg "len" = none) (b_sum : mg "sum" = none) : FnOk P w K mg base CX0 3 f fd ["places", "weights"] (spD K 2 d__law_line) := by
  have nd := sc__law_line.nd
  refine fnp_ok (k := 2) (O' := []) F sc__law_line fun cdv A outer s H E hr => ?_
  exact (by exact ss_cons (by exact ss_par3 3 4 5 nd (by exact sam_cons (by exact se_callB (st := false) cb_len b_len (by exact sa_cons (by exact se_var 0) sa_nil)) (by exact sam_cons (by exact se_callB (st := false) cb_sum b_sum (by exact sa_cons (by exact se_var 0) sa_nil)) (by exact sam_cons (by exact se_callB (st := false) cb_sum b_sum (by exact sa_cons (by exact se_lc nd (by exact si_seq (m := .s) (by exact se_var 0)) (blkOk_by (own := [("place", 10)]) rfl) (fun _ _ _ _ _ => (by exact sg_name 10 nd)) (fun _ _ _ _ _ => sts_nil) (fun _ _ _ _ _ => (by exact se_op op_mulD' (by exact se_var 10) (by exact se_var 10)))) sa_nil)) sam_nil)))) (by exact ss_cons (by exact ss_par 6 7 nd (by exact sam_cons (by exact se_callB (st := false) cb_sum b_sum (by exact sa_cons (by exact se_lc nd (by exact si_seq (m := .s) (by exact se_var 1)) (blkOk_by (own := [("place", 10), ("weight", 11)]) rfl) (fun _ _ _ _ _ => (by exact sg_tup rfl (by exact sgs_cons (by exact sg_name 10 nd) (by exact sgs_cons (by exact sg_name 11 nd) sgs_nil)))) (fun _ _ _ _ _ => sts_nil) (fun _ _ _ _ _ => (by exact se_var 11))) sa_nil)) (by exact sam_cons (by exact se_callB (st := false) cb_sum b_sum (by exact sa_cons (by exact se_lc nd (by exact si_seq (m := .s) (by exact se_var 1)) (blkOk_by (own := [("place", 10), ("weight", 11)]) rfl) (fun _ _ _ _ _ => (by exact sg_tup rfl (by exact sgs_cons (by exact sg_name 10 nd) (by exact sgs_cons (by exact sg_name 11 nd) sgs_nil)))) (fun _ _ _ _ _ => sts_nil) (fun _ _ _ _ _ => (by exact se_op op_mulD' (by exact se_var 10) (by exact se_var 11)))) sa_nil)) sam_nil))) (by exact ss_cons (by exact ss_setF 2 nd (by exact se_op op_subD (by exact se_op op_mulD' (by exact se_varW 3) (by exact se_varW 5)) (by exact se_op op_mulD' (by exact se_varW 4) (by exact se_varW 4)))) (by exact ss_cons (by exact ss_par 8 9 nd (by exact sam_cons (by exact se_callWD D__law_ratio hr (by exact sa_cons (by exact se_op op_subD (by exact se_op op_mulD' (by exact se_varW 3) (by exact se_varW 7)) (by exact se_op op_mulD' (by exact se_varW 4) (by exact se_varW 6))) (by exact sa_cons (by exact se_varW 2) sa_nil))) (by exact sam_cons (by exact se_callWD D__law_ratio hr (by exact sa_cons (by exact se_op op_subD (by exact se_op op_mulD' (by exact se_varW 6) (by exact se_varW 5)) (by exact se_op op_mulD' (by exact se_varW 7) (by exact se_varW 4))) (by exact sa_cons (by exact se_varW 2) sa_nil))) sam_nil))) (by exact ss_last (by exact SS.weak (O1 := [2, 7, 6, 5, 4, 3]) (by exact ss_ret (by exact se_tup (by exact sa_cons (by exact se_var 8) (by exact sa_cons (by exact se_var 9) sa_nil))))))))))
/-! ### _law_at -/
abbrev s__law_at : Stmt := topS 48
theorem sc__law_at : FnScope ["line", "place"] ["line", "place"] (defScope s__law_at) := ⟨rfl, rfl, rfl, by decide +kernel, rfl, by decide +kernel, by decide +kernel⟩
def g__law_at : XS :=
  (sRet (xCall (fun ds => if ds.length = 1 then (d__law_sum) ds else none) (xCons (xTup (xCons (xBin oIx (xVar 0) (xC (.int 1))) (xCons (xCall (fun ds => if ds.length = 2 then (d__law_times) ds else none) (xCons (xBin oIx (xVar 0) (xC (.int 0))) (xCons (xTup (xCons (xVar 1) (xCons (xC (.int 1)) xNil))) xNil))) xNil))) xNil)))
def d__law_at : List D → Option D := runD 2 2 g__law_at
theorem ok__law_at {f : Addr} {fd : FuncData} (F : FnP K "_law_at" s__law_at f fd) (D__law_sum : Def P w K mg base 3 "_law_sum" ["ratios"] (d__law_sum)) (D__law_times : Def P w K mg base 3 "_law_times" ["one", "other"] (d__law_times)) : FnOk P w K mg base CX0 4 f fd ["line", "place"] (spD K 2 d__law_at) := by
  have nd := sc__law_at.nd
  refine fnp_ok (k := 3) (O' := []) F sc__law_at fun cdv A outer s H E hr => ?_
  exact (by exact ss_last (by exact ss_ret (by exact se_callD D__law_sum hr (by exact sa_cons (by exact se_tup (by exact sa_cons (by exact se_ix (by exact se_var 0) se_int) (by exact sa_cons (by exact se_callD D__law_times hr (by exact sa_cons (by exact se_ix (by exact se_var 0) se_int) (by exact sa_cons (by exact se_tup (by exact sa_cons (by exact se_var 1) (by exact sa_cons se_int sa_nil))) sa_nil))) sa_nil))) sa_nil))))
/-! ### _law_lifted -/
abbrev s__law_lifted : Stmt := topS 49
theorem sc__law_lifted : FnScope ["places", "weights", "turn", "place", "left", "gone", "line", "bad", "loads"] ["places", "weights"] (defScope s__law_lifted) := ⟨rfl, rfl, rfl, by decide +kernel, rfl, by decide +kernel, by decide +kernel⟩
def l1__law_lifted : XS :=
  (sSeq (sIf (tOf (xBin oLt (xCall bLen (xCons (xVar 4) xNil)) (xC (.int 2)))) (sRet (xC .none)) sNop)
  (sSeq (sSet 6 (xCall (fun ds => if ds.length = 2 then ((d__law_line) ds).bind fun d => if flat d then some d else none else none) (xCons (xVar 4) (xCons (xVar 1) xNil))))
  (sSeq (sSet 7 (xLc (xSeq (xVar 4)) (gSet 3) (tOf (xBin oLt (xBin oIx (xCall (fun ds => if ds.length = 2 then ((d__law_at) ds).bind fun d => if flat d then some d else none else none) (xCons (xVar 6) (xCons (xVar 3) xNil))) (xC (.int 0))) (xC (.int 0)))) (xVar 3) [3]))
  (sSeq (sIf (tOf (xBin oEq (xCall bLen (xCons (xVar 7) xNil)) (xC (.int 0)))) sBrk sNop)
  (sSeq (sExt 5 (xVar 7))
  (sSeq (sSet 4 (xLc (xSeq (xVar 4)) (gSet 3) (tOf (xBin oNotIn (xVar 3) (xVar 7))) (xVar 3) [3]))
  sNop))))))
def l2__law_lifted : XS :=
  (sSeq (sApp 8 (xBin oIx (xTup (xCons (xCall (fun ds => if ds.length = 2 then ((d__law_at) ds).bind fun d => if flat d then some d else none else none) (xCons (xVar 6) (xCons (xVar 3) xNil))) (xCons (xTup (xCons (xC (.int 0)) (xCons (xC (.int 1)) xNil))) xNil))) (xCall bInt (xCons (xBin oIn (xVar 3) (xVar 5)) xNil))))
  sNop)
def g__law_lifted : XS :=
  (sSeq (sPar [4, 5] (xCons (xCall bList (xCons (xVar 0) xNil)) (xCons (xLst xNil) xNil)))
  (sSeq (sFor (xIt oR1 (xCons (xCall bLen (xCons (xVar 0) xNil)) xNil)) (gSet 2) l1__law_lifted)
  (sSeq (sIf (tOf (xBin oLt (xCall bLen (xCons (xVar 4) xNil)) (xC (.int 2)))) (sRet (xC .none)) sNop)
  (sSeq (sPar [6, 8] (xCons (xCall (fun ds => if ds.length = 2 then ((d__law_line) ds).bind fun d => if flat d then some d else none else none) (xCons (xVar 4) (xCons (xVar 1) xNil))) (xCons (xLst xNil) xNil)))
  (sSeq (sFor (xSeq (xVar 0)) (gSet 3) l2__law_lifted)
  (sRet (xTup (xCons (xCall bTuple (xCons (xVar 8) xNil)) (xCons (xCall bTuple (xCons (xCall bSorted (xCons (xVar 5) xNil)) xNil)) xNil)))))))))
def d__law_lifted : List D → Option D := runD 2 9 g__law_lifted
theorem ok__law_lifted {f : Addr} {fd : FuncData} (F : FnP K "_law_lifted" s__law_lifted f fd) (D__law_line : Def P w K mg base 3 "_law_line" ["places", "weights"] (d__law_line)) (D__law_at : Def P w K mg base 4 "_law_at" ["line", "place"] (d__law_at)) (b_int : mg "int" = none) (b_len : mg "len" = none) (b_list : mg "list" = none) (b_range : mg "range" = none) (b_sorted : mg "sorted" = none) (b_tuple : mg "tuple" = none) : FnOk P w K mg base CX0 5 f fd ["places", "weights"] (spD K 2 d__law_lifted) := by
  have nd := sc__law_lifted.nd
  refine fnp_ok (k := 4) (O' := []) F sc__law_lifted fun cdv A outer s H E hr => ?_
  exact (by exact ss_cons (by exact ss_par 4 5 nd (by exact sam_cons (by exact se_callT (st := false) cb_list b_list (by exact sa_cons (by exact se_var 0) sa_nil)) (by exact sam_cons (by exact se_lst sa_nil) sam_nil))) (by exact ss_cons (by exact ss_for (O' := [5, 4]) (by exact si_r1 (st := false) b_range (by exact sa_cons (by exact se_callB (st := false) cb_len b_len (by exact sa_cons (by exact se_var 0) sa_nil)) sa_nil)) (by exact sg_name 2 nd) (by exact ss_cons (by exact ss_if (O' := [5, 4]) (by exact st_cmp op_ltD (by exact se_callB (st := false) cb_len b_len (by exact sa_cons (by exact se_varW 4) sa_nil)) se_int) (by exact ss_last (by exact ss_ret se_non)) ss_nil) (by exact ss_cons (by exact ss_setF 6 nd (by exact se_callWD D__law_line hr (by exact sa_cons (by exact se_varW 4) (by exact sa_cons (by exact se_var 1) sa_nil)))) (by exact ss_cons (by exact ss_setF 7 nd (by exact se_lc nd (by exact si_seq (m := .w) (by exact se_varW 4)) (blkOk_by (own := [("place", 3)]) rfl) (fun _ _ _ _ _ => (by exact sg_name 3 nd)) (fun _ _ _ _ _ => (by exact sts_one (by exact st_cmp op_ltD (by exact se_ix (by exact se_callWD D__law_at hr (by exact sa_cons (by exact se_varW 6) (by exact sa_cons (by exact se_var 3) sa_nil))) se_int) se_int))) (fun _ _ _ _ _ => (by exact se_var 3)))) (by exact ss_cons (by exact ss_if (O' := [7, 6, 5, 4]) (by exact st_cmp (op_eqP hr) (by exact se_callB (st := false) cb_len b_len (by exact sa_cons (by exact se_varW 7) sa_nil)) se_int) (by exact ss_last ss_break) ss_nil) (by exact ss_cons (by exact ss_ext 5 (by exact se_varW 7)) (by exact ss_cons (by exact ss_setLc 4 nd (by exact si_seq (m := .w) (by exact se_varW 4)) (blkOk_by (own := [("place", 3)]) rfl) (fun _ _ _ _ _ => (by exact sg_name 3 nd)) (fun _ _ _ _ _ => (by exact sts_one (by exact st_cmp (op_notInP hr) (by exact se_var 3) (by exact se_varW 7)))) (fun _ _ _ _ _ => (by exact se_var 3))) ss_nil))))))) (by exact ss_cons (by exact ss_if (O' := [5, 4]) (by exact st_cmp op_ltD (by exact se_callB (st := false) cb_len b_len (by exact sa_cons (by exact se_varW 4) sa_nil)) se_int) (by exact ss_last (by exact ss_ret se_non)) ss_nil) (by exact ss_cons (by exact ss_parT [6, 8] (by exact sam_cons (by exact se_callWD D__law_line hr (by exact sa_cons (by exact se_varW 4) (by exact sa_cons (by exact se_var 1) sa_nil))) (by exact sam_cons (by exact se_lst sa_nil) sam_nil)) (pgs_cons (pg_name (i := 6) nd rfl (by first | exact .inl rfl | exact .inr rfl)) (pgs_cons (pg_name (i := 8) nd rfl (by first | exact .inl rfl | exact .inr rfl)) pgs_nil))) (by exact ss_cons (by exact ss_for (O' := [8, 6, 5, 4]) (by exact si_seq (m := .s) (by exact se_var 0)) (by exact sg_name 3 nd) (by exact ss_cons (by exact ss_app 8 (by exact se_ix (by exact se_tup (by exact sa_cons (by exact se_callWD D__law_at hr (by exact sa_cons (by exact se_varW 6) (by exact sa_cons (by exact se_var 3) sa_nil))) (by exact sa_cons (by exact se_tup (by exact sa_cons se_int (by exact sa_cons se_int sa_nil))) sa_nil))) (by exact se_callT (st := false) cb_int b_int (by exact sa_cons (by exact se_cmp (op_inP hr) (by exact se_var 3) (by exact se_varW 5)) sa_nil)))) ss_nil)) (by exact ss_last (by exact ss_ret (by exact se_tup (by exact sa_cons (by exact se_callT (st := false) cb_tuple b_tuple (by exact sa_cons (by exact se_varW 8) sa_nil)) (by exact sa_cons (by exact se_callT (st := false) cb_tuple b_tuple (by exact sa_cons (by exact se_callB (st := false) (cb_sorted (hu65 hr)) b_sorted (by exact sa_cons (by exact se_varW 5) sa_nil)) sa_nil)) sa_nil))))))))))
/-! ### _law_borne -/
abbrev s__law_borne : Stmt := topS 50
theorem sc__law_borne : FnScope ["places", "weights", "line", "due", "load", "squares", "row", "changed", "more", "total", "turn", "told", "worst", "n", "first", "second", "middle", "stiff", "slope", "both", "a", "b", "c", "place", "k", "one", "weight"] ["places", "weights"] (defScope s__law_borne) := ⟨rfl, rfl, rfl, by decide +kernel, rfl, by decide +kernel, by decide +kernel⟩
def l1__law_borne : XS :=
  (sSeq (sIf (tOf (xBin oGt (xBin oMul' (xBin oIx (xVar 4) (xC (.int 0))) (xBin oIx (xVar 12) (xC (.int 1)))) (xBin oMul' (xBin oIx (xVar 12) (xC (.int 0))) (xBin oIx (xVar 4) (xC (.int 1)))))) (sSeq (sSet 12 (xVar 4))
  sNop) sNop)
  sNop)
def g__law_borne : XS :=
  (sSeq (sSet 2 (xCall (fun ds => if ds.length = 2 then (d__law_line) ds else none) (xCons (xVar 0) (xCons (xVar 1) xNil))))
  (sSeq (sSet 3 (xCall bTuple (xCons (xLc (xSeq (xVar 0)) (gSet 23) tYesP (xCall (fun ds => if ds.length = 2 then (d__law_at) ds else none) (xCons (xVar 2) (xCons (xVar 23) xNil))) [23]) xNil)))
  (sSeq (sPar [9, 10] (xCons (xCall bSum (xCons (xLc (xSeq (xVar 1)) (gTupD 2 (gsCons (gSet 23) (gsCons (gSet 26) gsNil))) tYesP (xVar 26) [23, 26]) xNil)) (xCons (xCall bSum (xCons (xLc (xSeq (xVar 1)) (gTupD 2 (gsCons (gSet 23) (gsCons (gSet 26) gsNil))) tYesP (xBin oMul' (xVar 23) (xVar 26)) [23, 26]) xNil)) xNil)))
  (sSeq (sPar [11, 12] (xCons (xCall (fun ds => if ds.length = 2 then (d_loads_of) ds else none) (xCons (xVar 0) (xCons (xVar 1) xNil))) (xCons (xBin oIx (xVar 3) (xC (.int 0))) xNil)))
  (sSeq (sFor (xSeq (xVar 3)) (gSet 4) l1__law_borne)
  (sSeq (sIf (tOrP (tNotP (tTru (xCall (fun ds => if ds.length = 2 then (d__law_like 8) ds else none) (xCons (xVar 11) (xCons (xVar 3) xNil))))) (tNotP (tTru (xCall (fun ds => if ds.length = 2 then (d__law_like 8) ds else none) (xCons (xCall (fun ds => if ds.length = 1 then (d_worst_load) ds else none) (xCons (xVar 3) xNil)) (xCons (xVar 12) xNil)))))) (sRet (xC (.bool false))) sNop)
  (sSeq (sIf (tNotP (tTru (xCall (fun ds => if ds.length = 2 then (d__law_like 8) ds else none) (xCons (xCall (fun ds => if ds.length = 1 then (d_best_line) ds else none) (xCons (xCall bTuple (xCons (xCall bSorted (xCons (xVar 1) xNil)) xNil)) xNil)) (xCons (xVar 2) xNil))))) (sRet (xC (.bool false))) sNop)
  (sSeq (sIf (tOrP (tNotP (tTru (xCall (fun ds => if ds.length = 2 then (d__law_like 8) ds else none) (xCons (xCall (fun ds => if ds.length = 1 then (d_loads_sum) ds else none) (xCons (xVar 3) xNil)) (xCons (xTup (xCons (xVar 9) (xCons (xC (.int 1)) xNil))) xNil))))) (tNotP (tTru (xCall (fun ds => if ds.length = 2 then (d__law_like 8) ds else none) (xCons (xCall (fun ds => if ds.length = 2 then (d_loads_turn) ds else none) (xCons (xVar 0) (xCons (xVar 3) xNil))) (xCons (xTup (xCons (xVar 10) (xCons (xC (.int 1)) xNil))) xNil)))))) (sRet (xC (.bool false))) sNop)
  (sSeq (sPar [13, 14, 15] (xCons (xCall bLen (xCons (xVar 0) xNil)) (xCons (xCall bSum (xCons (xVar 0) xNil)) (xCons (xCall bSum (xCons (xLc (xSeq (xVar 0)) (gSet 23) tYesP (xBin oMul' (xVar 23) (xVar 23)) [23]) xNil)) xNil))))
  (sSeq (sTgt (gTupD 3 (gsCons (gSet 16) (gsCons (gSet 17) (gsCons (gSet 18) gsNil)))) (xCall (fun ds => if ds.length = 3 then (d_trim_of) ds else none) (xCons (xBin oMul' (xTup (xCons (xC (.int 1)) xNil)) (xVar 13)) (xCons (xVar 0) (xCons (xBin oSub (xBin oMul' (xVar 13) (xVar 10)) (xBin oMul' (xVar 14) (xVar 9))) xNil)))))
  (sSeq (sIf (tOrP (tNotP (tTru (xCall (fun ds => if ds.length = 2 then (d__law_like 8) ds else none) (xCons (xVar 16) (xCons (xCall (fun ds => if ds.length = 2 then ((d__law_ratio) ds).bind fun d => if flat d then some d else none else none) (xCons (xVar 14) (xCons (xVar 13) xNil))) xNil))))) (tNotP (tTru (xCall (fun ds => if ds.length = 2 then (d__law_like 8) ds else none) (xCons (xVar 17) (xCons (xCall (fun ds => if ds.length = 2 then ((d__law_ratio) ds).bind fun d => if flat d then some d else none else none) (xCons (xBin oSub (xBin oMul' (xVar 13) (xVar 15)) (xBin oMul' (xVar 14) (xVar 14))) (xCons (xVar 13) xNil))) xNil)))))) (sRet (xC (.bool false))) sNop)
  (sSeq (sIf (tNotP (tTru (xCall (fun ds => if ds.length = 2 then (d__law_like 8) ds else none) (xCons (xVar 18) (xCons (xCall (fun ds => if ds.length = 2 then (d__law_times) ds else none) (xCons (xBin oIx (xVar 2) (xC (.int 0))) (xCons (xTup (xCons (xVar 13) (xCons (xC (.int 1)) xNil))) xNil))) xNil))))) (sRet (xC (.bool false))) sNop)
  (sSeq (sSet 5 (xCall (fun ds => if ds.length = 1 then (d__law_sum) ds else none) (xCons (xLc (xSeq (xVar 3)) (gSet 4) tYesP (xCall (fun ds => if ds.length = 2 then (d__law_times) ds else none) (xCons (xVar 4) (xCons (xVar 4) xNil))) [4]) xNil)))
  (sSeq (sIf (tNotP (tTru (xCall (fun ds => if ds.length = 2 then (d__law_like 8) ds else none) (xCons (xCall (fun ds => if ds.length = 1 then (d_sum_squares) ds else none) (xCons (xVar 3) xNil)) (xCons (xVar 5) xNil))))) (sRet (xC (.bool false))) sNop)
  (sSeq (sIf (tNotP (tTru (xCall (fun ds => if ds.length = 2 then (d__law_like 8) ds else none) (xCons (xCall (fun ds => if ds.length = 2 then (d_lifted_first) ds else none) (xCons (xVar 0) (xCons (xVar 1) xNil))) (xCons (xCall (fun ds => if ds.length = 2 then (d__law_lifted) ds else none) (xCons (xVar 0) (xCons (xVar 1) xNil))) xNil))))) (sRet (xC (.bool false))) sNop)
  (sSeq (sIf (tOf (xBin oEq (xVar 13) (xC (.int 2)))) (sSeq (sSet 19 (xCall bTuple (xCons (xLc (xSeq (xCall bSorted (xCons (xVar 0) xNil))) (gSet 23) tYesP (xCall (fun ds => if ds.length = 2 then (d__law_at) ds else none) (xCons (xVar 2) (xCons (xVar 23) xNil))) [23]) xNil)))
  (sRet (xCall (fun ds => if ds.length = 2 then ((d__law_like 8) ds).bind fun d => if flat d then some d else none else none) (xCons (xCall (fun ds => if ds.length = 3 then (d_two_loads) ds else none) (xCons (xCall bMinI (xCons (xVar 0) xNil)) (xCons (xCall bMaxI (xCons (xVar 0) xNil)) (xCons (xVar 1) xNil)))) (xCons (xVar 19) xNil))))) sNop)
  (sSeq (sTgt (gTupD 3 (gsCons (gSet 20) (gsCons (gSet 21) (gsCons (gSet 22) gsNil)))) (xSl (xVar 0) oNo (oAt (xC (.int 3)))))
  (sSeq (sSet 6 (xBin oAdd (xLst (xCons (xBin oSub (xVar 21) (xVar 22)) (xCons (xBin oSub (xVar 22) (xVar 20)) (xCons (xBin oSub (xVar 20) (xVar 21)) xNil)))) (xBin oMul' (xLst (xCons (xC (.int 0)) xNil)) (xBin oSub (xVar 13) (xC (.int 3))))))
  (sSeq (sSet 7 (xCall bTuple (xCons (xLc (xIt oR1 (xCons (xVar 13) xNil)) (gSet 24) tYesP (xCall (fun ds => if ds.length = 1 then (d__law_sum) ds else none) (xCons (xTup (xCons (xBin oIx (xVar 3) (xVar 24)) (xCons (xTup (xCons (xBin oIx (xVar 6) (xVar 24)) (xCons (xC (.int 1)) xNil))) xNil))) xNil)) [24]) xNil)))
  (sSeq (sSet 8 (xCall bSum (xCons (xLc (xSeq (xVar 6)) (gSet 25) tYesP (xBin oMul' (xVar 25) (xVar 25)) [25]) xNil)))
  (sSeq (sIf (tOrP (tNotP (tTru (xCall (fun ds => if ds.length = 2 then (d__law_like 8) ds else none) (xCons (xCall (fun ds => if ds.length = 1 then ((d_loads_sum) ds).bind fun d => if flat d then some d else none else none) (xCons (xVar 7) xNil)) (xCons (xTup (xCons (xVar 9) (xCons (xC (.int 1)) xNil))) xNil))))) (tNotP (tTru (xCall (fun ds => if ds.length = 2 then (d__law_like 8) ds else none) (xCons (xCall (fun ds => if ds.length = 2 then ((d_loads_turn) ds).bind fun d => if flat d then some d else none else none) (xCons (xVar 0) (xCons (xVar 7) xNil))) (xCons (xTup (xCons (xVar 10) (xCons (xC (.int 1)) xNil))) xNil)))))) (sRet (xC (.bool false))) sNop)
  (sRet (xCall (fun ds => if ds.length = 2 then (d__law_like 8) ds else none) (xCons (xCall (fun ds => if ds.length = 1 then ((d_sum_squares) ds).bind fun d => if flat d then some d else none else none) (xCons (xVar 7) xNil)) (xCons (xCall (fun ds => if ds.length = 1 then (d__law_sum) ds else none) (xCons (xTup (xCons (xVar 5) (xCons (xTup (xCons (xVar 8) (xCons (xC (.int 1)) xNil))) xNil))) xNil)) xNil)))))))))))))))))))))))))
def d__law_borne : List D → Option D := runD 2 27 g__law_borne
theorem ok__law_borne {f : Addr} {fd : FuncData} (F : FnP K "_law_borne" s__law_borne f fd) (D_two_loads : Def P w K mg base 4 "two_loads" ["a", "b", "weights"] (d_two_loads)) (D_loads_of : Def P w K mg base 4 "loads_of" ["places", "weights"] (d_loads_of)) (D_loads_sum : Def P w K mg base 5 "loads_sum" ["loads"] (d_loads_sum)) (D_loads_turn : Def P w K mg base 5 "loads_turn" ["places", "loads"] (d_loads_turn)) (D_lifted_first : Def P w K mg base 5 "lifted_first" ["places", "weights"] (d_lifted_first)) (D_worst_load : Def P w K mg base 2 "worst_load" ["loads"] (d_worst_load)) (D_sum_squares : Def P w K mg base 5 "sum_squares" ["loads"] (d_sum_squares)) (D_trim_of : Def P w K mg base 5 "trim_of" ["areas", "middles", "turning"] (d_trim_of)) (D_best_line : Def P w K mg base 5 "best_line" ["soundings"] (d_best_line)) (D__law_like : Def P w K mg base 10 "_law_like" ["value", "due"] (d__law_like 8)) (D__law_ratio : Def P w K mg base 2 "_law_ratio" ["a", "b"] (d__law_ratio)) (D__law_sum : Def P w K mg base 3 "_law_sum" ["ratios"] (d__law_sum)) (D__law_times : Def P w K mg base 3 "_law_times" ["one", "other"] (d__law_times)) (D__law_line : Def P w K mg base 3 "_law_line" ["places", "weights"] (d__law_line)) (D__law_at : Def P w K mg base 4 "_law_at" ["line", "place"] (d__law_at)) (D__law_lifted : Def P w K mg base 5 "_law_lifted" ["places", "weights"] (d__law_lifted)) (b_len : mg "len" = none) (b_max : mg "max" = none) (b_min : mg "min" = none) (b_range : mg "range" = none) (b_sorted : mg "sorted" = none) (b_sum : mg "sum" = none) (b_tuple : mg "tuple" = none) : FnOk P w K mg base CX0 11 f fd ["places", "weights"] (spD K 2 d__law_borne) := by
  have nd := sc__law_borne.nd
  refine fnp_ok (k := 10) (O' := []) F sc__law_borne fun cdv A outer s H E hr => ?_
  exact (by exact ss_cons (by exact ss_setS 2 nd (by exact se_callD D__law_line hr (by exact sa_cons (by exact se_var 0) (by exact sa_cons (by exact se_var 1) sa_nil)))) (by exact ss_cons (by exact ss_setF 3 nd (by exact se_callT (st := false) cb_tuple b_tuple (by exact sa_cons (by exact se_lc nd (by exact si_seq (m := .s) (by exact se_var 0)) (blkOk_by (own := [("place", 23)]) rfl) (fun _ _ _ _ _ => (by exact sg_name 23 nd)) (fun _ _ _ _ _ => sts_nil) (fun _ _ _ _ _ => (by exact se_callD D__law_at hr (by exact sa_cons (by exact se_var 2) (by exact sa_cons (by exact se_var 23) sa_nil))))) sa_nil))) (by exact ss_cons (by exact ss_par 9 10 nd (by exact sam_cons (by exact se_callB (st := false) cb_sum b_sum (by exact sa_cons (by exact se_lc nd (by exact si_seq (m := .s) (by exact se_var 1)) (blkOk_by (own := [("place", 23), ("weight", 26)]) rfl) (fun _ _ _ _ _ => (by exact sg_tup rfl (by exact sgs_cons (by exact sg_name 23 nd) (by exact sgs_cons (by exact sg_name 26 nd) sgs_nil)))) (fun _ _ _ _ _ => sts_nil) (fun _ _ _ _ _ => (by exact se_var 26))) sa_nil)) (by exact sam_cons (by exact se_callB (st := false) cb_sum b_sum (by exact sa_cons (by exact se_lc nd (by exact si_seq (m := .s) (by exact se_var 1)) (blkOk_by (own := [("place", 23), ("weight", 26)]) rfl) (fun _ _ _ _ _ => (by exact sg_tup rfl (by exact sgs_cons (by exact sg_name 23 nd) (by exact sgs_cons (by exact sg_name 26 nd) sgs_nil)))) (fun _ _ _ _ _ => sts_nil) (fun _ _ _ _ _ => (by exact se_op op_mulD' (by exact se_var 23) (by exact se_var 26)))) sa_nil)) sam_nil))) (by exact ss_cons (by exact ss_par 11 12 nd (by exact sam_cons (by exact se_callD D_loads_of hr (by exact sa_cons (by exact se_var 0) (by exact sa_cons (by exact se_var 1) sa_nil))) (by exact sam_cons (by exact se_ix (by exact se_varW 3) se_int) sam_nil))) (by exact ss_cons (by exact SS.weak (O1 := [10, 9]) (by exact ss_for (O' := [10, 9]) (by exact si_seq (m := .s) (by exact se_var 3)) (by exact sg_name 4 nd) (by exact ss_cons (by exact ss_if (O' := [10, 9]) (by exact st_cmp op_gtD (by exact se_op op_mulD' (by exact se_ix (by exact se_var 4) se_int) (by exact se_ix (by exact se_var 12) se_int)) (by exact se_op op_mulD' (by exact se_ix (by exact se_var 12) se_int) (by exact se_ix (by exact se_var 4) se_int))) (by exact ss_cons (by exact ss_setS 12 nd (by exact se_var 4)) ss_nil) ss_nil) ss_nil))) (by exact ss_cons (by exact ss_if (O' := [10, 9]) (by exact SW.st (by exact sw_or (by exact st_not (by exact st_val (by exact se_callD D__law_like hr (by exact sa_cons (by exact se_var 11) (by exact sa_cons (by exact se_var 3) sa_nil))))) (by exact sw_or1 (by exact st_not (by exact st_val (by exact se_callD D__law_like hr (by exact sa_cons (by exact se_callD D_worst_load hr (by exact sa_cons (by exact se_var 3) sa_nil)) (by exact sa_cons (by exact se_var 12) sa_nil)))))))) (by exact ss_last (by exact ss_ret se_bl)) ss_nil) (by exact ss_cons (by exact ss_if (O' := [10, 9]) (by exact st_not (by exact st_val (by exact se_callD D__law_like hr (by exact sa_cons (by exact se_callD D_best_line hr (by exact sa_cons (by exact se_callT (st := false) cb_tuple b_tuple (by exact sa_cons (by exact se_callB (st := false) (cb_sorted (hu65 hr)) b_sorted (by exact sa_cons (by exact se_var 1) sa_nil)) sa_nil)) sa_nil)) (by exact sa_cons (by exact se_var 2) sa_nil))))) (by exact ss_last (by exact ss_ret se_bl)) ss_nil) (by exact ss_cons (by exact SS.weak (O1 := []) (by exact ss_if (O' := []) (by exact SW.st (by exact sw_or (by exact st_not (by exact st_val (by exact se_callD D__law_like hr (by exact sa_cons (by exact se_callD D_loads_sum hr (by exact sa_cons (by exact se_var 3) sa_nil)) (by exact sa_cons (by exact se_tup (by exact sa_cons (by exact se_var 9) (by exact sa_cons se_int sa_nil))) sa_nil))))) (by exact sw_or1 (by exact st_not (by exact st_val (by exact se_callD D__law_like hr (by exact sa_cons (by exact se_callD D_loads_turn hr (by exact sa_cons (by exact se_var 0) (by exact sa_cons (by exact se_var 3) sa_nil))) (by exact sa_cons (by exact se_tup (by exact sa_cons (by exact se_var 10) (by exact sa_cons se_int sa_nil))) sa_nil)))))))) (by exact ss_last (by exact ss_ret se_bl)) ss_nil)) (by exact ss_cons (by exact ss_par3 13 14 15 nd (by exact sam_cons (by exact se_callB (st := false) cb_len b_len (by exact sa_cons (by exact se_var 0) sa_nil)) (by exact sam_cons (by exact se_callB (st := false) cb_sum b_sum (by exact sa_cons (by exact se_var 0) sa_nil)) (by exact sam_cons (by exact se_callB (st := false) cb_sum b_sum (by exact sa_cons (by exact se_lc nd (by exact si_seq (m := .s) (by exact se_var 0)) (blkOk_by (own := [("place", 23)]) rfl) (fun _ _ _ _ _ => (by exact sg_name 23 nd)) (fun _ _ _ _ _ => sts_nil) (fun _ _ _ _ _ => (by exact se_op op_mulD' (by exact se_var 23) (by exact se_var 23)))) sa_nil)) sam_nil)))) (by exact ss_cons (by exact ss_tgt (by exact se_callD D_trim_of hr (by exact sa_cons (by exact se_op op_mulD' (by exact se_tup (by exact sa_cons se_int sa_nil)) (by exact se_varW 13)) (by exact sa_cons (by exact se_var 0) (by exact sa_cons (by exact se_op op_subD (by exact se_op op_mulD' (by exact se_varW 13) (by exact se_var 10)) (by exact se_op op_mulD' (by exact se_varW 14) (by exact se_var 9))) sa_nil)))) (by exact sg_tup rfl (by exact sgs_cons (by exact sg_name 16 nd) (by exact sgs_cons (by exact sg_name 17 nd) (by exact sgs_cons (by exact sg_name 18 nd) sgs_nil))))) (by exact ss_cons (by exact ss_if (O' := [15, 14, 13]) (by exact SW.st (by exact sw_or (by exact st_not (by exact st_val (by exact se_callD D__law_like hr (by exact sa_cons (by exact se_var 16) (by exact sa_cons (by exact se_callWD D__law_ratio hr (by exact sa_cons (by exact se_varW 14) (by exact sa_cons (by exact se_varW 13) sa_nil))) sa_nil))))) (by exact sw_or1 (by exact st_not (by exact st_val (by exact se_callD D__law_like hr (by exact sa_cons (by exact se_var 17) (by exact sa_cons (by exact se_callWD D__law_ratio hr (by exact sa_cons (by exact se_op op_subD (by exact se_op op_mulD' (by exact se_varW 13) (by exact se_varW 15)) (by exact se_op op_mulD' (by exact se_varW 14) (by exact se_varW 14))) (by exact sa_cons (by exact se_varW 13) sa_nil))) sa_nil)))))))) (by exact ss_last (by exact ss_ret se_bl)) ss_nil) (by exact ss_cons (by exact SS.weak (O1 := [15, 14]) (by exact ss_if (O' := [15, 14]) (by exact st_not (by exact st_val (by exact se_callD D__law_like hr (by exact sa_cons (by exact se_var 18) (by exact sa_cons (by exact se_callD D__law_times hr (by exact sa_cons (by exact se_ix (by exact se_var 2) se_int) (by exact sa_cons (by exact se_tup (by exact sa_cons (by exact se_var 13) (by exact sa_cons se_int sa_nil))) sa_nil))) sa_nil))))) (by exact ss_last (by exact ss_ret se_bl)) ss_nil)) (by exact ss_cons (by exact ss_setS 5 nd (by exact se_callD D__law_sum hr (by exact sa_cons (by exact se_lc nd (by exact si_seq (m := .s) (by exact se_var 3)) (blkOk_by (own := [("load", 4)]) rfl) (fun _ _ _ _ _ => (by exact sg_name 4 nd)) (fun _ _ _ _ _ => sts_nil) (fun _ _ _ _ _ => (by exact se_callD D__law_times hr (by exact sa_cons (by exact se_var 4) (by exact sa_cons (by exact se_var 4) sa_nil))))) sa_nil))) (by exact ss_cons (by exact ss_if (O' := [15, 14]) (by exact st_not (by exact st_val (by exact se_callD D__law_like hr (by exact sa_cons (by exact se_callD D_sum_squares hr (by exact sa_cons (by exact se_var 3) sa_nil)) (by exact sa_cons (by exact se_var 5) sa_nil))))) (by exact ss_last (by exact ss_ret se_bl)) ss_nil) (by exact ss_cons (by exact ss_if (O' := [15, 14]) (by exact st_not (by exact st_val (by exact se_callD D__law_like hr (by exact sa_cons (by exact se_callD D_lifted_first hr (by exact sa_cons (by exact se_var 0) (by exact sa_cons (by exact se_var 1) sa_nil))) (by exact sa_cons (by exact se_callD D__law_lifted hr (by exact sa_cons (by exact se_var 0) (by exact sa_cons (by exact se_var 1) sa_nil))) sa_nil))))) (by exact ss_last (by exact ss_ret se_bl)) ss_nil) (by exact ss_cons (by exact ss_if (O' := [15, 14]) (by exact st_cmp (op_eqP hr) (by exact se_var 13) se_int) (by exact ss_cons (by exact ss_setF 19 nd (by exact se_callT (st := false) cb_tuple b_tuple (by exact sa_cons (by exact se_lc nd (by exact si_seq (m := .f) (by exact se_callB (st := false) (cb_sorted (hu65 hr)) b_sorted (by exact sa_cons (by exact se_var 0) sa_nil))) (blkOk_by (own := [("place", 23)]) rfl) (fun _ _ _ _ _ => (by exact sg_name 23 nd)) (fun _ _ _ _ _ => sts_nil) (fun _ _ _ _ _ => (by exact se_callD D__law_at hr (by exact sa_cons (by exact se_var 2) (by exact sa_cons (by exact se_var 23) sa_nil))))) sa_nil))) (by exact ss_last (by exact ss_ret (by exact se_callWD D__law_like hr (by exact sa_cons (by exact se_callD D_two_loads hr (by exact sa_cons (by exact se_callB (st := false) cb_minI b_min (by exact sa_cons (by exact se_var 0) sa_nil)) (by exact sa_cons (by exact se_callB (st := false) cb_maxI b_max (by exact sa_cons (by exact se_var 0) sa_nil)) (by exact sa_cons (by exact se_var 1) sa_nil)))) (by exact sa_cons (by exact se_varW 19) sa_nil)))))) ss_nil) (by exact ss_cons (by exact ss_tgt (by exact se_sl (by exact se_var 0) so_none (by exact so_some se_int)) (by exact sg_tup rfl (by exact sgs_cons (by exact sg_name 20 nd) (by exact sgs_cons (by exact sg_name 21 nd) (by exact sgs_cons (by exact sg_name 22 nd) sgs_nil))))) (by exact ss_cons (by exact ss_setF 6 nd (by exact se_op op_addD (by exact se_lst (by exact sa_cons (by exact se_op op_subD (by exact se_var 21) (by exact se_var 22)) (by exact sa_cons (by exact se_op op_subD (by exact se_var 22) (by exact se_var 20)) (by exact sa_cons (by exact se_op op_subD (by exact se_var 20) (by exact se_var 21)) sa_nil)))) (by exact se_op op_mulD' (by exact se_lst (by exact sa_cons se_int sa_nil)) (by exact se_op op_subD (by exact se_var 13) se_int)))) (by exact ss_cons (by exact ss_setF 7 nd (by exact se_callT (st := false) cb_tuple b_tuple (by exact sa_cons (by exact se_lc nd (by exact si_r1 (st := false) b_range (by exact sa_cons (by exact se_var 13) sa_nil)) (blkOk_by (own := [("k", 24)]) rfl) (fun _ _ _ _ _ => (by exact sg_name 24 nd)) (fun _ _ _ _ _ => sts_nil) (fun _ _ _ _ _ => (by exact se_callD D__law_sum hr (by exact sa_cons (by exact se_tup (by exact sa_cons (by exact se_ix (by exact se_var 3) (by exact se_var 24)) (by exact sa_cons (by exact se_tup (by exact sa_cons (by exact se_ix (by exact se_varW 6) (by exact se_var 24)) (by exact sa_cons se_int sa_nil))) sa_nil))) sa_nil)))) sa_nil))) (by exact ss_cons (by exact ss_setF 8 nd (by exact se_callB (st := false) cb_sum b_sum (by exact sa_cons (by exact se_lc nd (by exact si_seq (m := .w) (by exact se_varW 6)) (blkOk_by (own := [("one", 25)]) rfl) (fun _ _ _ _ _ => (by exact sg_name 25 nd)) (fun _ _ _ _ _ => sts_nil) (fun _ _ _ _ _ => (by exact se_op op_mulD' (by exact se_var 25) (by exact se_var 25)))) sa_nil))) (by exact ss_cons (by exact ss_if (O' := [8, 7, 6, 15, 14]) (by exact SW.st (by exact sw_or (by exact st_not (by exact st_val (by exact se_callD D__law_like hr (by exact sa_cons (by exact se_callWD D_loads_sum hr (by exact sa_cons (by exact se_varW 7) sa_nil)) (by exact sa_cons (by exact se_tup (by exact sa_cons (by exact se_var 9) (by exact sa_cons se_int sa_nil))) sa_nil))))) (by exact sw_or1 (by exact st_not (by exact st_val (by exact se_callD D__law_like hr (by exact sa_cons (by exact se_callWD D_loads_turn hr (by exact sa_cons (by exact se_var 0) (by exact sa_cons (by exact se_varW 7) sa_nil))) (by exact sa_cons (by exact se_tup (by exact sa_cons (by exact se_var 10) (by exact sa_cons se_int sa_nil))) sa_nil)))))))) (by exact ss_last (by exact ss_ret se_bl)) ss_nil) (by exact ss_last (by exact SS.weak (O1 := [7, 6, 15, 14]) (by exact ss_ret (by exact se_callD D__law_like hr (by exact sa_cons (by exact se_callWD D_sum_squares hr (by exact sa_cons (by exact se_varW 7) sa_nil)) (by exact sa_cons (by exact se_callD D__law_sum hr (by exact sa_cons (by exact se_tup (by exact sa_cons (by exact se_var 5) (by exact sa_cons (by exact se_tup (by exact sa_cons (by exact se_var 8) (by exact sa_cons se_int sa_nil))) sa_nil))) sa_nil)) sa_nil)))))))))))))))))))))))))))
/-! ### _law_weighed -/
abbrev s__law_weighed : Stmt := topS 51
theorem sc__law_weighed : FnScope ["weights", "way", "middle", "total", "turn", "place", "weight"] ["weights", "way"] (defScope s__law_weighed) := ⟨rfl, rfl, rfl, by decide +kernel, rfl, by decide +kernel, by decide +kernel⟩
def g__law_weighed : XS :=
  (sSeq (sPar [3, 4] (xCons (xCall bSum (xCons (xLc (xSeq (xVar 0)) (gTupD 2 (gsCons (gSet 5) (gsCons (gSet 6) gsNil))) tYesP (xVar 6) [5, 6]) xNil)) (xCons (xCall bSum (xCons (xLc (xSeq (xVar 0)) (gTupD 2 (gsCons (gSet 5) (gsCons (gSet 6) gsNil))) tYesP (xBin oMul' (xVar 5) (xVar 6)) [5, 6]) xNil)) xNil)))
  (sSeq (sIf (tOf (xBin oEq (xVar 3) (xC (.int 0)))) (sRet (xBin oIs (xCall (fun ds => if ds.length = 2 then (d_span_of) ds else none) (xCons (xVar 0) (xCons (xVar 1) xNil))) (xC .none))) sNop)
  (sSeq (sSet 2 (xCall (fun ds => if ds.length = 2 then ((d__law_ratio) ds).bind fun d => if flat d then some d else none else none) (xCons (xVar 4) (xCons (xVar 3) xNil))))
  (sSeq (sIf (tNotP (tTru (xCall (fun ds => if ds.length = 2 then ((d__law_like 8) ds).bind fun d => if flat d then some d else none else none) (xCons (xCall (fun ds => if ds.length = 1 then (d_weight_middle) ds else none) (xCons (xVar 0) xNil)) (xCons (xVar 2) xNil))))) (sRet (xC (.bool false))) sNop)
  (sRet (xCall (fun ds => if ds.length = 2 then (d__law_like 8) ds else none) (xCons (xCall (fun ds => if ds.length = 2 then (d_span_of) ds else none) (xCons (xVar 0) (xCons (xVar 1) xNil))) (xCons (xTup (xCons (xCall (fun ds => if ds.length = 1 then (d__law_sum) ds else none) (xCons (xTup (xCons (xVar 2) (xCons (xTup (xCons (xUn oNeg (xVar 1)) (xCons (xC (.int 1)) xNil))) xNil))) xNil)) (xCons (xCall (fun ds => if ds.length = 1 then (d__law_sum) ds else none) (xCons (xTup (xCons (xVar 2) (xCons (xTup (xCons (xVar 1) (xCons (xC (.int 1)) xNil))) xNil))) xNil)) xNil))) xNil))))))))
def d__law_weighed : List D → Option D := runD 2 7 g__law_weighed
theorem ok__law_weighed {f : Addr} {fd : FuncData} (F : FnP K "_law_weighed" s__law_weighed f fd) (D_weight_middle : Def P w K mg base 3 "weight_middle" ["weights"] (d_weight_middle)) (D_span_of : Def P w K mg base 4 "span_of" ["weights", "way"] (d_span_of)) (D__law_like : Def P w K mg base 10 "_law_like" ["value", "due"] (d__law_like 8)) (D__law_ratio : Def P w K mg base 2 "_law_ratio" ["a", "b"] (d__law_ratio)) (D__law_sum : Def P w K mg base 3 "_law_sum" ["ratios"] (d__law_sum)) (b_sum : mg "sum" = none) : FnOk P w K mg base CX0 11 f fd ["weights", "way"] (spD K 2 d__law_weighed) := by
  have nd := sc__law_weighed.nd
  refine fnp_ok (k := 10) (O' := []) F sc__law_weighed fun cdv A outer s H E hr => ?_
  exact (by exact ss_cons (by exact ss_par 3 4 nd (by exact sam_cons (by exact se_callB (st := false) cb_sum b_sum (by exact sa_cons (by exact se_lc nd (by exact si_seq (m := .s) (by exact se_var 0)) (blkOk_by (own := [("place", 5), ("weight", 6)]) rfl) (fun _ _ _ _ _ => (by exact sg_tup rfl (by exact sgs_cons (by exact sg_name 5 nd) (by exact sgs_cons (by exact sg_name 6 nd) sgs_nil)))) (fun _ _ _ _ _ => sts_nil) (fun _ _ _ _ _ => (by exact se_var 6))) sa_nil)) (by exact sam_cons (by exact se_callB (st := false) cb_sum b_sum (by exact sa_cons (by exact se_lc nd (by exact si_seq (m := .s) (by exact se_var 0)) (blkOk_by (own := [("place", 5), ("weight", 6)]) rfl) (fun _ _ _ _ _ => (by exact sg_tup rfl (by exact sgs_cons (by exact sg_name 5 nd) (by exact sgs_cons (by exact sg_name 6 nd) sgs_nil)))) (fun _ _ _ _ _ => sts_nil) (fun _ _ _ _ _ => (by exact se_op op_mulD' (by exact se_var 5) (by exact se_var 6)))) sa_nil)) sam_nil))) (by exact ss_cons (by exact ss_if (O' := [4, 3]) (by exact st_cmp (op_eqP hr) (by exact se_varW 3) se_int) (by exact ss_last (by exact ss_ret (by exact se_cmp op_isD (by exact se_callD D_span_of hr (by exact sa_cons (by exact se_var 0) (by exact sa_cons (by exact se_var 1) sa_nil))) se_non))) ss_nil) (by exact ss_cons (by exact ss_setF 2 nd (by exact se_callWD D__law_ratio hr (by exact sa_cons (by exact se_varW 4) (by exact sa_cons (by exact se_varW 3) sa_nil)))) (by exact ss_cons (by exact ss_if (O' := [2, 4, 3]) (by exact st_not (by exact st_val (by exact se_callWD D__law_like hr (by exact sa_cons (by exact se_callD D_weight_middle hr (by exact sa_cons (by exact se_var 0) sa_nil)) (by exact sa_cons (by exact se_varW 2) sa_nil))))) (by exact ss_last (by exact ss_ret se_bl)) ss_nil) (by exact ss_last (by exact SS.weak (O1 := [4, 3]) (by exact ss_ret (by exact se_callD D__law_like hr (by exact sa_cons (by exact se_callD D_span_of hr (by exact sa_cons (by exact se_var 0) (by exact sa_cons (by exact se_var 1) sa_nil))) (by exact sa_cons (by exact se_tup (by exact sa_cons (by exact se_callD D__law_sum hr (by exact sa_cons (by exact se_tup (by exact sa_cons (by exact se_var 2) (by exact sa_cons (by exact se_tup (by exact sa_cons (by exact se_un un_negD (by exact se_var 1)) (by exact sa_cons se_int sa_nil))) sa_nil))) sa_nil)) (by exact sa_cons (by exact se_callD D__law_sum hr (by exact sa_cons (by exact se_tup (by exact sa_cons (by exact se_var 2) (by exact sa_cons (by exact se_tup (by exact sa_cons (by exact se_var 1) (by exact sa_cons se_int sa_nil))) sa_nil))) sa_nil)) sa_nil))) sa_nil))))))))))
/-! ### _law_stations -/
abbrev s__law_stations : Stmt := topS 52
theorem sc__law_stations : FnScope ["weights", "row", "n", "loads", "offsets", "bends", "fair", "begin", "log", "way", "spot", "part", "k", "bend"] ["weights", "row"] (defScope s__law_stations) := ⟨rfl, rfl, rfl, by decide +kernel, rfl, by decide +kernel, by decide +kernel⟩
def g__law_stations : XS :=
  (sSeq (sSet 2 (xBin oAdd (xC (.int 3)) (xBin oMod (xCall bInt (xCons (xBin oIx (xVar 1) (xC (.int 20))) xNil)) (xC (.int 3)))))
  (sSeq (sSet 3 (xCall (fun ds => if ds.length = 2 then (d_loads_of) ds else none) (xCons (xUn oTupR1 (xVar 2)) (xCons (xVar 0) xNil))))
  (sSeq (sIf (tOrP (tNotP (tTru (xCall (fun ds => if ds.length = 2 then (d__law_like 8) ds else none) (xCons (xCall (fun ds => if ds.length = 1 then (d_bends_of) ds else none) (xCons (xVar 3) xNil)) (xCons (xBin oMul' (xTup (xCons (xTup (xCons (xC (.int 0)) (xCons (xC (.int 1)) xNil))) xNil)) (xBin oSub (xVar 2) (xC (.int 2)))) xNil))))) (tNotP (tTru (xCall (fun ds => if ds.length = 2 then (d__law_like 8) ds else none) (xCons (xCall (fun ds => if ds.length = 1 then (d_fair_sum) ds else none) (xCons (xVar 3) xNil)) (xCons (xTup (xCons (xC (.int 0)) (xCons (xC (.int 1)) xNil))) xNil)))))) (sRet (xC (.bool false))) sNop)
  (sSeq (sIf (tNotP (tTru (xCall (fun ds => if ds.length = 2 then (d__law_like 8) ds else none) (xCons (xCall (fun ds => if ds.length = 1 then (d_is_fair) ds else none) (xCons (xVar 3) xNil)) (xCons (xC (.bool true)) xNil))))) (sRet (xC (.bool false))) sNop)
  (sSeq (sSet 4 (xCall bTuple (xCons (xLc (xIt oR1 (xCons (xVar 2) xNil)) (gSet 12) tYesP (xBin oMod (xCall bInt (xCons (xBin oIx (xVar 1) (xBin oAdd (xC (.int 21)) (xVar 12))) xNil)) (xC (.int 9))) [12]) xNil)))
  (sSeq (sSet 5 (xLc (xIt oR1 (xCons (xBin oSub (xVar 2) (xC (.int 2))) xNil)) (gSet 12) tYesP (xBin oSub (xBin oAdd (xBin oIx (xVar 4) (xVar 12)) (xBin oIx (xVar 4) (xBin oAdd (xVar 12) (xC (.int 2))))) (xBin oMul' (xC (.int 2)) (xBin oIx (xVar 4) (xBin oAdd (xVar 12) (xC (.int 1)))))) [12]))
  (sSeq (sSet 6 (xUn oNot (xAnd (xBin oGt (xCall bMaxI (xCons (xVar 5) xNil)) (xC (.int 0))) (xBin oLt (xCall bMinI (xCons (xVar 5) xNil)) (xC (.int 0))))))
  (sSeq (sIf (tOrP (tNotP (tTru (xCall (fun ds => if ds.length = 2 then (d__law_like 8) ds else none) (xCons (xCall (fun ds => if ds.length = 1 then ((d_bends_of) ds).bind fun d => if flat d then some d else none else none) (xCons (xVar 4) xNil)) (xCons (xCall bTuple (xCons (xLc (xSeq (xVar 5)) (gSet 13) tYesP (xTup (xCons (xVar 13) (xCons (xC (.int 1)) xNil))) [13]) xNil)) xNil))))) (tNotP (tTru (xCall (fun ds => if ds.length = 2 then ((d__law_like 8) ds).bind fun d => if flat d then some d else none else none) (xCons (xCall (fun ds => if ds.length = 1 then ((d_is_fair) ds).bind fun d => if flat d then some d else none else none) (xCons (xVar 4) xNil)) (xCons (xVar 6) xNil)))))) (sRet (xC (.bool false))) sNop)
  (sSeq (sIf (tNotP (tTru (xCall (fun ds => if ds.length = 2 then (d__law_like 8) ds else none) (xCons (xCall (fun ds => if ds.length = 1 then ((d_fair_sum) ds).bind fun d => if flat d then some d else none else none) (xCons (xVar 4) xNil)) (xCons (xTup (xCons (xCall bSum (xCons (xLc (xSeq (xVar 5)) (gSet 13) tYesP (xBin oMul' (xVar 13) (xVar 13)) [13]) xNil)) (xCons (xC (.int 1)) xNil))) xNil))))) (sRet (xC (.bool false))) sNop)
  (sSeq (sSet 7 (xBin oMod (xCall bInt (xCons (xBin oIx (xVar 1) (xC (.int 26))) xNil)) (xC (.int 5))))
  (sSeq (sSet 8 (xCall bTuple (xCons (xLc (xIt oR1 (xCons (xVar 2) xNil)) (gSet 12) tYesP (xTup (xCons (xBin oAdd (xVar 7) (xVar 12)) (xCons (xBin oIx (xVar 4) (xVar 12)) xNil))) [12]) xNil)))
  (sSeq (sSet 9 (xCall (fun ds => if ds.length = 2 then (d__law_ratio) ds else none) (xCons (xBin oSub (xBin oSub (xBin oMul' (xC (.int 2)) (xCall bSum (xCons (xVar 4) xNil))) (xBin oIx (xVar 4) (xC (.int 0)))) (xBin oIx (xVar 4) (xBin oSub (xVar 2) (xC (.int 1))))) (xCons (xC (.int 2)) xNil))))
  (sSeq (sIf (tOrP (tNotP (tTru (xCall (fun ds => if ds.length = 2 then (d__law_like 8) ds else none) (xCons (xCall (fun ds => if ds.length = 1 then ((d_area_under) ds).bind fun d => if flat d then some d else none else none) (xCons (xVar 4) xNil)) (xCons (xVar 9) xNil))))) (tNotP (tTru (xCall (fun ds => if ds.length = 2 then (d__law_like 8) ds else none) (xCons (xCall (fun ds => if ds.length = 1 then ((d_run_all) ds).bind fun d => if flat d then some d else none else none) (xCons (xVar 8) xNil)) (xCons (xVar 9) xNil)))))) (sRet (xC (.bool false))) sNop)
  (sSeq (sIf (tNotP (tTru (xCall (fun ds => if ds.length = 2 then (d__law_like 8) ds else none) (xCons (xCall (fun ds => if ds.length = 1 then ((d_mean_speed) ds).bind fun d => if flat d then some d else none else none) (xCons (xVar 8) xNil)) (xCons (xCall (fun ds => if ds.length = 2 then (d__law_ratio) ds else none) (xCons (xBin oIx (xVar 9) (xC (.int 0))) (xCons (xBin oMul' (xBin oIx (xVar 9) (xC (.int 1))) (xBin oSub (xVar 2) (xC (.int 1)))) xNil))) xNil))))) (sRet (xC (.bool false))) sNop)
  (sSeq (sSet 10 (xBin oMod (xCall bInt (xCons (xBin oIx (xVar 1) (xC (.int 27))) xNil)) (xBin oSub (xVar 2) (xC (.int 1)))))
  (sSeq (sSet 11 (xCall (fun ds => if ds.length = 2 then (d__law_ratio) ds else none) (xCons (xBin oAdd (xBin oIx (xVar 4) (xVar 10)) (xBin oIx (xVar 4) (xBin oAdd (xVar 10) (xC (.int 1))))) (xCons (xC (.int 2)) xNil))))
  (sSeq (sIf (tNotP (tTru (xCall (fun ds => if ds.length = 2 then (d__law_like 8) ds else none) (xCons (xCall (fun ds => if ds.length = 3 then ((d_run_between) ds).bind fun d => if flat d then some d else none else none) (xCons (xVar 8) (xCons (xBin oAdd (xVar 7) (xVar 10)) (xCons (xBin oAdd (xBin oAdd (xVar 7) (xVar 10)) (xC (.int 1))) xNil)))) (xCons (xVar 11) xNil))))) (sRet (xC (.bool false))) sNop)
  (sRet (xAnd (xCall (fun ds => if ds.length = 2 then (d__law_like 8) ds else none) (xCons (xCall (fun ds => if ds.length = 2 then ((d_speed_at) ds).bind fun d => if flat d then some d else none else none) (xCons (xVar 8) (xCons (xBin oAdd (xVar 7) (xVar 10)) xNil))) (xCons (xTup (xCons (xBin oIx (xVar 4) (xVar 10)) (xCons (xC (.int 1)) xNil))) xNil))) (xBin oIs (xCall (fun ds => if ds.length = 2 then ((d_speed_at) ds).bind fun d => if flat d then some d else none else none) (xCons (xVar 8) (xCons (xBin oAdd (xVar 7) (xVar 2)) xNil))) (xC .none)))))))))))))))))))))
def d__law_stations : List D → Option D := runD 2 14 g__law_stations
theorem ok__law_stations {f : Addr} {fd : FuncData} (F : FnP K "_law_stations" s__law_stations f fd) (D_loads_of : Def P w K mg base 4 "loads_of" ["places", "weights"] (d_loads_of)) (D_speed_at : Def P w K mg base 4 "speed_at" ["log", "hour"] (d_speed_at)) (D_run_between : Def P w K mg base 5 "run_between" ["log", "begin", "end"] (d_run_between)) (D_run_all : Def P w K mg base 6 "run_all" ["log"] (d_run_all)) (D_mean_speed : Def P w K mg base 7 "mean_speed" ["log"] (d_mean_speed)) (D_bends_of : Def P w K mg base 4 "bends_of" ["offsets"] (d_bends_of)) (D_is_fair : Def P w K mg base 5 "is_fair" ["offsets"] (d_is_fair)) (D_fair_sum : Def P w K mg base 5 "fair_sum" ["offsets"] (d_fair_sum)) (D_area_under : Def P w K mg base 3 "area_under" ["offsets"] (d_area_under)) (D__law_like : Def P w K mg base 10 "_law_like" ["value", "due"] (d__law_like 8)) (D__law_ratio : Def P w K mg base 2 "_law_ratio" ["a", "b"] (d__law_ratio)) (b_int : mg "int" = none) (b_max : mg "max" = none) (b_min : mg "min" = none) (b_range : mg "range" = none) (b_sum : mg "sum" = none) (b_tuple : mg "tuple" = none) : FnOk P w K mg base CX0 11 f fd ["weights", "row"] (spD K 2 d__law_stations) := by
  have nd := sc__law_stations.nd
  refine fnp_ok (k := 10) (O' := []) F sc__law_stations fun cdv A outer s H E hr => ?_
  exact (by exact ss_cons (by exact ss_setF 2 nd (by exact se_op op_addD se_int (by exact se_op op_modD (by exact se_callT (st := false) cb_int b_int (by exact sa_cons (by exact se_ix (by exact se_var 1) se_int) sa_nil)) se_int))) (by exact ss_cons (by exact ss_setS 3 nd (by exact se_callD D_loads_of hr (by exact sa_cons (by exact se_tupR1 b_tuple b_range (by exact se_varW 2)) (by exact sa_cons (by exact se_var 0) sa_nil)))) (by exact ss_cons (by exact ss_if (O' := [2]) (by exact SW.st (by exact sw_or (by exact st_not (by exact st_val (by exact se_callD D__law_like hr (by exact sa_cons (by exact se_callD D_bends_of hr (by exact sa_cons (by exact se_var 3) sa_nil)) (by exact sa_cons (by exact se_op op_mulD' (by exact se_tup (by exact sa_cons (by exact se_tup (by exact sa_cons se_int (by exact sa_cons se_int sa_nil))) sa_nil)) (by exact se_op op_subD (by exact se_varW 2) se_int)) sa_nil))))) (by exact sw_or1 (by exact st_not (by exact st_val (by exact se_callD D__law_like hr (by exact sa_cons (by exact se_callD D_fair_sum hr (by exact sa_cons (by exact se_var 3) sa_nil)) (by exact sa_cons (by exact se_tup (by exact sa_cons se_int (by exact sa_cons se_int sa_nil))) sa_nil)))))))) (by exact ss_last (by exact ss_ret se_bl)) ss_nil) (by exact ss_cons (by exact ss_if (O' := [2]) (by exact st_not (by exact st_val (by exact se_callD D__law_like hr (by exact sa_cons (by exact se_callD D_is_fair hr (by exact sa_cons (by exact se_var 3) sa_nil)) (by exact sa_cons se_bl sa_nil))))) (by exact ss_last (by exact ss_ret se_bl)) ss_nil) (by exact ss_cons (by exact ss_setF 4 nd (by exact se_callT (st := false) cb_tuple b_tuple (by exact sa_cons (by exact se_lc nd (by exact si_r1 (st := false) b_range (by exact sa_cons (by exact se_varW 2) sa_nil)) (blkOk_by (own := [("k", 12)]) rfl) (fun _ _ _ _ _ => (by exact sg_name 12 nd)) (fun _ _ _ _ _ => sts_nil) (fun _ _ _ _ _ => (by exact se_op op_modD (by exact se_callT (st := false) cb_int b_int (by exact sa_cons (by exact se_ix (by exact se_var 1) (by exact se_op op_addD se_int (by exact se_var 12))) sa_nil)) se_int))) sa_nil))) (by exact ss_cons (by exact ss_setLc 5 nd (by exact si_r1 (st := false) b_range (by exact sa_cons (by exact se_op op_subD (by exact se_varW 2) se_int) sa_nil)) (blkOk_by (own := [("k", 12)]) rfl) (fun _ _ _ _ _ => (by exact sg_name 12 nd)) (fun _ _ _ _ _ => sts_nil) (fun _ _ _ _ _ => (by exact se_op op_subD (by exact se_op op_addD (by exact se_ix (by exact se_varW 4) (by exact se_var 12)) (by exact se_ix (by exact se_varW 4) (by exact se_op op_addD (by exact se_var 12) se_int))) (by exact se_op op_mulD' se_int (by exact se_ix (by exact se_varW 4) (by exact se_op op_addD (by exact se_var 12) se_int)))))) (by exact ss_cons (by exact ss_setF 6 nd (by exact se_not (m := .f) (by exact se_and (by exact se_cmp op_gtD (by exact se_callB (st := false) cb_maxI b_max (by exact sa_cons (by exact se_varW 5) sa_nil)) se_int) (by exact se_bone (by exact se_cmp op_ltD (by exact se_callB (st := false) cb_minI b_min (by exact sa_cons (by exact se_varW 5) sa_nil)) se_int))))) (by exact ss_cons (by exact ss_if (O' := [6, 5, 4, 2]) (by exact SW.st (by exact sw_or (by exact st_not (by exact st_val (by exact se_callD D__law_like hr (by exact sa_cons (by exact se_callWD D_bends_of hr (by exact sa_cons (by exact se_varW 4) sa_nil)) (by exact sa_cons (by exact se_callT (st := false) cb_tuple b_tuple (by exact sa_cons (by exact se_lc nd (by exact si_seq (m := .w) (by exact se_varW 5)) (blkOk_by (own := [("bend", 13)]) rfl) (fun _ _ _ _ _ => (by exact sg_name 13 nd)) (fun _ _ _ _ _ => sts_nil) (fun _ _ _ _ _ => (by exact se_tup (by exact sa_cons (by exact se_var 13) (by exact sa_cons se_int sa_nil))))) sa_nil)) sa_nil))))) (by exact sw_or1 (by exact st_not (by exact st_val (by exact se_callWD D__law_like hr (by exact sa_cons (by exact se_callWD D_is_fair hr (by exact sa_cons (by exact se_varW 4) sa_nil)) (by exact sa_cons (by exact se_varW 6) sa_nil)))))))) (by exact ss_last (by exact ss_ret se_bl)) ss_nil) (by exact ss_cons (by exact ss_if (O' := [6, 5, 4, 2]) (by exact st_not (by exact st_val (by exact se_callD D__law_like hr (by exact sa_cons (by exact se_callWD D_fair_sum hr (by exact sa_cons (by exact se_varW 4) sa_nil)) (by exact sa_cons (by exact se_tup (by exact sa_cons (by exact se_callB (st := false) cb_sum b_sum (by exact sa_cons (by exact se_lc nd (by exact si_seq (m := .w) (by exact se_varW 5)) (blkOk_by (own := [("bend", 13)]) rfl) (fun _ _ _ _ _ => (by exact sg_name 13 nd)) (fun _ _ _ _ _ => sts_nil) (fun _ _ _ _ _ => (by exact se_op op_mulD' (by exact se_var 13) (by exact se_var 13)))) sa_nil)) (by exact sa_cons se_int sa_nil))) sa_nil))))) (by exact ss_last (by exact ss_ret se_bl)) ss_nil) (by exact ss_cons (by exact ss_setF 7 nd (by exact se_op op_modD (by exact se_callT (st := false) cb_int b_int (by exact sa_cons (by exact se_ix (by exact se_var 1) se_int) sa_nil)) se_int)) (by exact ss_cons (by exact ss_setF 8 nd (by exact se_callT (st := false) cb_tuple b_tuple (by exact sa_cons (by exact se_lc nd (by exact si_r1 (st := false) b_range (by exact sa_cons (by exact se_varW 2) sa_nil)) (blkOk_by (own := [("k", 12)]) rfl) (fun _ _ _ _ _ => (by exact sg_name 12 nd)) (fun _ _ _ _ _ => sts_nil) (fun _ _ _ _ _ => (by exact se_tup (by exact sa_cons (by exact se_op op_addD (by exact se_varW 7) (by exact se_var 12)) (by exact sa_cons (by exact se_ix (by exact se_varW 4) (by exact se_var 12)) sa_nil))))) sa_nil))) (by exact ss_cons (by exact ss_setS 9 nd (by exact se_callD D__law_ratio hr (by exact sa_cons (by exact se_op op_subD (by exact se_op op_subD (by exact se_op op_mulD' se_int (by exact se_callB (st := false) cb_sum b_sum (by exact sa_cons (by exact se_varW 4) sa_nil))) (by exact se_ix (by exact se_varW 4) se_int)) (by exact se_ix (by exact se_varW 4) (by exact se_op op_subD (by exact se_varW 2) se_int))) (by exact sa_cons se_int sa_nil)))) (by exact ss_cons (by exact ss_if (O' := [8, 7, 6, 5, 4, 2]) (by exact SW.st (by exact sw_or (by exact st_not (by exact st_val (by exact se_callD D__law_like hr (by exact sa_cons (by exact se_callWD D_area_under hr (by exact sa_cons (by exact se_varW 4) sa_nil)) (by exact sa_cons (by exact se_var 9) sa_nil))))) (by exact sw_or1 (by exact st_not (by exact st_val (by exact se_callD D__law_like hr (by exact sa_cons (by exact se_callWD D_run_all hr (by exact sa_cons (by exact se_varW 8) sa_nil)) (by exact sa_cons (by exact se_var 9) sa_nil)))))))) (by exact ss_last (by exact ss_ret se_bl)) ss_nil) (by exact ss_cons (by exact ss_if (O' := [8, 7, 6, 5, 4, 2]) (by exact st_not (by exact st_val (by exact se_callD D__law_like hr (by exact sa_cons (by exact se_callWD D_mean_speed hr (by exact sa_cons (by exact se_varW 8) sa_nil)) (by exact sa_cons (by exact se_callD D__law_ratio hr (by exact sa_cons (by exact se_ix (by exact se_var 9) se_int) (by exact sa_cons (by exact se_op op_mulD' (by exact se_ix (by exact se_var 9) se_int) (by exact se_op op_subD (by exact se_varW 2) se_int)) sa_nil))) sa_nil))))) (by exact ss_last (by exact ss_ret se_bl)) ss_nil) (by exact ss_cons (by exact ss_setF 10 nd (by exact se_op op_modD (by exact se_callT (st := false) cb_int b_int (by exact sa_cons (by exact se_ix (by exact se_var 1) se_int) sa_nil)) (by exact se_op op_subD (by exact se_varW 2) se_int))) (by exact ss_cons (by exact ss_setS 11 nd (by exact se_callD D__law_ratio hr (by exact sa_cons (by exact se_op op_addD (by exact se_ix (by exact se_varW 4) (by exact se_varW 10)) (by exact se_ix (by exact se_varW 4) (by exact se_op op_addD (by exact se_varW 10) se_int))) (by exact sa_cons se_int sa_nil)))) (by exact ss_cons (by exact ss_if (O' := [10, 8, 7, 6, 5, 4, 2]) (by exact st_not (by exact st_val (by exact se_callD D__law_like hr (by exact sa_cons (by exact se_callWD D_run_between hr (by exact sa_cons (by exact se_varW 8) (by exact sa_cons (by exact se_op op_addD (by exact se_varW 7) (by exact se_varW 10)) (by exact sa_cons (by exact se_op op_addD (by exact se_op op_addD (by exact se_varW 7) (by exact se_varW 10)) se_int) sa_nil)))) (by exact sa_cons (by exact se_var 11) sa_nil))))) (by exact ss_last (by exact ss_ret se_bl)) ss_nil) (by exact ss_last (by exact ss_ret (by exact se_and (by exact se_callD D__law_like hr (by exact sa_cons (by exact se_callWD D_speed_at hr (by exact sa_cons (by exact se_varW 8) (by exact sa_cons (by exact se_op op_addD (by exact se_varW 7) (by exact se_varW 10)) sa_nil))) (by exact sa_cons (by exact se_tup (by exact sa_cons (by exact se_ix (by exact se_varW 4) (by exact se_varW 10)) (by exact sa_cons se_int sa_nil))) sa_nil))) (by exact se_bone (by exact se_cmp op_isD (by exact se_callWD D_speed_at hr (by exact sa_cons (by exact se_varW 8) (by exact sa_cons (by exact se_op op_addD (by exact se_varW 7) (by exact se_varW 2)) sa_nil))) se_non))))))))))))))))))))))
/-! ### law -/
abbrev s_law : Stmt := topS 53
theorem sc_law : FnScope ["script", "row", "k", "places", "weights", "place", "weight"] ["script"] (defScope s_law) := ⟨rfl, rfl, rfl, by decide +kernel, rfl, by decide +kernel, by decide +kernel⟩
def l1_law : XS :=
  (sSeq (sSet 5 (xBin oMod (xCall bInt (xCons (xBin oIx (xVar 1) (xBin oAdd (xC (.int 1)) (xVar 2))) xNil)) (xC (.int 10))))
  (sSeq (sIf (tOf (xBin oNotIn (xVar 5) (xVar 3))) (sSeq (sApp 3 (xVar 5))
  sNop) sNop)
  sNop))
def l2_law : XS :=
  (sSeq (sSet 6 (xBin oMod (xCall bInt (xCons (xBin oIx (xVar 1) (xBin oAdd (xC (.int 7)) (xVar 2))) xNil)) (xC (.int 13))))
  (sSeq (sIf (tAndP (tOf (xBin oEq (xBin oMod (xCall bInt (xCons (xBin oIx (xVar 1) (xC (.int 12))) xNil)) (xC (.int 3))) (xC (.int 0)))) (tOf (xBin oNe (xBin oMod (xCall bInt (xCons (xBin oIx (xVar 1) (xC (.int 14))) xNil)) (xCall bLen (xCons (xVar 3) xNil))) (xVar 2)))) (sSeq (sSet 6 (xC (.int 0)))
  sNop) sNop)
  (sSeq (sApp 4 (xTup (xCons (xBin oIx (xVar 3) (xVar 2)) (xCons (xVar 6) xNil))))
  sNop)))
def g_law : XS :=
  (sSeq (sSet 1 (xCall (fun ds => if ds.length = 2 then (d__law_row) ds else none) (xCons (xVar 0) (xCons (xC (.int 30)) xNil))))
  (sSeq (sPar [3, 4] (xCons (xLst xNil) (xCons (xLst xNil) xNil)))
  (sSeq (sFor (xIt oR1 (xCons (xBin oAdd (xC (.int 2)) (xBin oMod (xCall bInt (xCons (xBin oIx (xVar 1) (xC (.int 0))) xNil)) (xC (.int 4)))) xNil)) (gSet 2) l1_law)
  (sSeq (sIf (tOf (xBin oLt (xCall bLen (xCons (xVar 3) xNil)) (xC (.int 2)))) (sSeq (sApp 3 (xBin oAdd (xBin oAdd (xBin oIx (xVar 3) (xC (.int 0))) (xC (.int 1))) (xBin oMod (xCall bInt (xCons (xBin oIx (xVar 1) (xC (.int 6))) xNil)) (xC (.int 5)))))
  sNop) sNop)
  (sSeq (sFor (xIt oR1 (xCons (xCall bLen (xCons (xVar 3) xNil)) xNil)) (gSet 2) l2_law)
  (sSeq (sPar [3, 4] (xCons (xCall bTuple (xCons (xVar 3) xNil)) (xCons (xCall bTuple (xCons (xVar 4) xNil)) xNil)))
  (sSeq (sIf (tOrP (tNotP (tTru (xCall (fun ds => if ds.length = 2 then ((d__law_borne) ds).bind fun d => if flat d then some d else none else none) (xCons (xVar 3) (xCons (xVar 4) xNil))))) (tNotP (tTru (xCall (fun ds => if ds.length = 2 then ((d__law_weighed) ds).bind fun d => if flat d then some d else none else none) (xCons (xVar 4) (xCons (xBin oMod (xCall bInt (xCons (xBin oIx (xVar 1) (xC (.int 13))) xNil)) (xC (.int 4))) xNil)))))) (sRet (xC (.bool false))) sNop)
  (sRet (xCall (fun ds => if ds.length = 2 then ((d__law_stations) ds).bind fun d => if flat d then some d else none else none) (xCons (xVar 4) (xCons (xVar 1) xNil)))))))))))
def d_law : List D → Option D := runD 1 7 g_law
theorem ok_law {f : Addr} {fd : FuncData} (F : FnP K "law" s_law f fd) (D__law_row : Def P w K mg base 2 "_law_row" ["script", "many"] (d__law_row)) (D__law_borne : Def P w K mg base 11 "_law_borne" ["places", "weights"] (d__law_borne)) (D__law_weighed : Def P w K mg base 11 "_law_weighed" ["weights", "way"] (d__law_weighed)) (D__law_stations : Def P w K mg base 11 "_law_stations" ["weights", "row"] (d__law_stations)) (b_int : mg "int" = none) (b_len : mg "len" = none) (b_range : mg "range" = none) (b_tuple : mg "tuple" = none) : FnOk P w K mg base CX0 12 f fd ["script"] (spD K 1 d_law) := by
  have nd := sc_law.nd
  refine fnp_ok (k := 11) (O' := []) F sc_law fun cdv A outer s H E hr => ?_
  exact (by exact ss_cons (by exact ss_setS 1 nd (by exact se_callD D__law_row hr (by exact sa_cons (by exact se_var 0) (by exact sa_cons se_int sa_nil)))) (by exact ss_cons (by exact ss_par 3 4 nd (by exact sam_cons (by exact se_lst sa_nil) (by exact sam_cons (by exact se_lst sa_nil) sam_nil))) (by exact ss_cons (by exact ss_for (O' := [4, 3]) (by exact si_r1 (st := false) b_range (by exact sa_cons (by exact se_op op_addD se_int (by exact se_op op_modD (by exact se_callT (st := false) cb_int b_int (by exact sa_cons (by exact se_ix (by exact se_var 1) se_int) sa_nil)) se_int)) sa_nil)) (by exact sg_name 2 nd) (by exact ss_cons (by exact ss_setF 5 nd (by exact se_op op_modD (by exact se_callT (st := false) cb_int b_int (by exact sa_cons (by exact se_ix (by exact se_var 1) (by exact se_op op_addD se_int (by exact se_var 2))) sa_nil)) se_int)) (by exact ss_cons (by exact ss_if (O' := [4, 3]) (by exact st_cmp (op_notInP hr) (by exact se_varW 5) (by exact se_varW 3)) (by exact ss_cons (by exact SS.weak (O1 := [4, 3]) (by exact ss_app 3 (by exact se_var 5))) ss_nil) ss_nil) ss_nil))) (by exact ss_cons (by exact ss_if (O' := [4, 3]) (by exact st_cmp op_ltD (by exact se_callB (st := false) cb_len b_len (by exact sa_cons (by exact se_varW 3) sa_nil)) se_int) (by exact ss_cons (by exact ss_app 3 (by exact se_op op_addD (by exact se_op op_addD (by exact se_ix (by exact se_varW 3) se_int) se_int) (by exact se_op op_modD (by exact se_callT (st := false) cb_int b_int (by exact sa_cons (by exact se_ix (by exact se_var 1) se_int) sa_nil)) se_int))) ss_nil) ss_nil) (by exact ss_cons (by exact ss_for (O' := [4, 3]) (by exact si_r1 (st := false) b_range (by exact sa_cons (by exact se_callB (st := false) cb_len b_len (by exact sa_cons (by exact se_varW 3) sa_nil)) sa_nil)) (by exact sg_name 2 nd) (by exact ss_cons (by exact ss_setF 6 nd (by exact se_op op_modD (by exact se_callT (st := false) cb_int b_int (by exact sa_cons (by exact se_ix (by exact se_var 1) (by exact se_op op_addD se_int (by exact se_var 2))) sa_nil)) se_int)) (by exact ss_cons (by exact ss_if (O' := [6, 6, 4, 3]) (by exact SW.st (by exact sw_and (by exact st_cmp (op_eqP hr) (by exact se_op op_modD (by exact se_callT (st := false) cb_int b_int (by exact sa_cons (by exact se_ix (by exact se_var 1) se_int) sa_nil)) se_int) se_int) (by exact sw_and1 (by exact st_cmp (op_neP hr) (by exact se_op op_modD (by exact se_callT (st := false) cb_int b_int (by exact sa_cons (by exact se_ix (by exact se_var 1) se_int) sa_nil)) (by exact se_callB (st := false) cb_len b_len (by exact sa_cons (by exact se_varW 3) sa_nil))) (by exact se_var 2))))) (by exact ss_cons (by exact ss_setF 6 nd se_int) ss_nil) ss_nil) (by exact ss_cons (by exact SS.weak (O1 := [4, 3]) (by exact ss_app 4 (by exact se_tup (by exact sa_cons (by exact se_ix (by exact se_varW 3) (by exact se_var 2)) (by exact sa_cons (by exact se_var 6) sa_nil))))) ss_nil)))) (by exact ss_cons (by exact ss_par 3 4 nd (by exact sam_cons (by exact se_callT (st := false) cb_tuple b_tuple (by exact sa_cons (by exact se_varW 3) sa_nil)) (by exact sam_cons (by exact se_callT (st := false) cb_tuple b_tuple (by exact sa_cons (by exact se_varW 4) sa_nil)) sam_nil))) (by exact ss_cons (by exact ss_if (O' := [4, 3, 4, 3]) (by exact SW.st (by exact sw_or (by exact st_not (by exact st_val (by exact se_callWD D__law_borne hr (by exact sa_cons (by exact se_varW 3) (by exact sa_cons (by exact se_varW 4) sa_nil))))) (by exact sw_or1 (by exact st_not (by exact st_val (by exact se_callWD D__law_weighed hr (by exact sa_cons (by exact se_varW 4) (by exact sa_cons (by exact se_op op_modD (by exact se_callT (st := false) cb_int b_int (by exact sa_cons (by exact se_ix (by exact se_var 1) se_int) sa_nil)) se_int) sa_nil)))))))) (by exact ss_last (by exact ss_ret se_bl)) ss_nil) (by exact ss_last (by exact ss_ret (by exact se_callWD D__law_stations hr (by exact sa_cons (by exact se_varW 4) (by exact sa_cons (by exact se_var 1) sa_nil))))))))))))
end
/-! ### the head -/
def h_divisor : He.DefD := ⟨("divisor", none), "divisor", "divisor", defArgs s_divisor, defBody s_divisor, defScope s_divisor, [], []⟩
def h_lowest : He.DefD := ⟨("lowest", none), "lowest", "lowest", defArgs s_lowest, defBody s_lowest, defScope s_lowest, [], []⟩
def h_plus : He.DefD := ⟨("plus", none), "plus", "plus", defArgs s_plus, defBody s_plus, defScope s_plus, [], []⟩
def h_minus : He.DefD := ⟨("minus", none), "minus", "minus", defArgs s_minus, defBody s_minus, defScope s_minus, [], []⟩
def h_times : He.DefD := ⟨("times", none), "times", "times", defArgs s_times, defBody s_times, defScope s_times, [], []⟩
def h_parted : He.DefD := ⟨("parted", none), "parted", "parted", defArgs s_parted, defBody s_parted, defScope s_parted, [], []⟩
def h_is_less : He.DefD := ⟨("is_less", none), "is_less", "is_less", defArgs s_is_less, defBody s_is_less, defScope s_is_less, [], []⟩
def h_over : He.DefD := ⟨("over", none), "over", "over", defArgs s_over, defBody s_over, defScope s_over, [], []⟩
def h_whole : He.DefD := ⟨("whole", none), "whole", "whole", defArgs s_whole, defBody s_whole, defScope s_whole, [], []⟩
def h_summed : He.DefD := ⟨("summed", none), "summed", "summed", defArgs s_summed, defBody s_summed, defScope s_summed, [], []⟩
def h_weight_sum : He.DefD := ⟨("weight_sum", none), "weight_sum", "weight_sum", defArgs s_weight_sum, defBody s_weight_sum, defScope s_weight_sum, [], []⟩
def h_turn_sum : He.DefD := ⟨("turn_sum", none), "turn_sum", "turn_sum", defArgs s_turn_sum, defBody s_turn_sum, defScope s_turn_sum, [], []⟩
def h_two_loads : He.DefD := ⟨("two_loads", none), "two_loads", "two_loads", defArgs s_two_loads, defBody s_two_loads, defScope s_two_loads, [], []⟩
def h_weight_middle : He.DefD := ⟨("weight_middle", none), "weight_middle", "weight_middle", defArgs s_weight_middle, defBody s_weight_middle, defScope s_weight_middle, [], []⟩
def h_span_of : He.DefD := ⟨("span_of", none), "span_of", "span_of", defArgs s_span_of, defBody s_span_of, defScope s_span_of, [], []⟩
def h_loads_of : He.DefD := ⟨("loads_of", none), "loads_of", "loads_of", defArgs s_loads_of, defBody s_loads_of, defScope s_loads_of, [], []⟩
def h_loads_sum : He.DefD := ⟨("loads_sum", none), "loads_sum", "loads_sum", defArgs s_loads_sum, defBody s_loads_sum, defScope s_loads_sum, [], []⟩
def h_loads_turn : He.DefD := ⟨("loads_turn", none), "loads_turn", "loads_turn", defArgs s_loads_turn, defBody s_loads_turn, defScope s_loads_turn, [], []⟩
def h_lifted_first : He.DefD := ⟨("lifted_first", none), "lifted_first", "lifted_first", defArgs s_lifted_first, defBody s_lifted_first, defScope s_lifted_first, [], []⟩
def h_worst_load : He.DefD := ⟨("worst_load", none), "worst_load", "worst_load", defArgs s_worst_load, defBody s_worst_load, defScope s_worst_load, [], []⟩
def h_sum_squares : He.DefD := ⟨("sum_squares", none), "sum_squares", "sum_squares", defArgs s_sum_squares, defBody s_sum_squares, defScope s_sum_squares, [], []⟩
def h_trim_of : He.DefD := ⟨("trim_of", none), "trim_of", "trim_of", defArgs s_trim_of, defBody s_trim_of, defScope s_trim_of, [], []⟩
def h_speed_at : He.DefD := ⟨("speed_at", none), "speed_at", "speed_at", defArgs s_speed_at, defBody s_speed_at, defScope s_speed_at, [], []⟩
def h_run_between : He.DefD := ⟨("run_between", none), "run_between", "run_between", defArgs s_run_between, defBody s_run_between, defScope s_run_between, [], []⟩
def h_run_all : He.DefD := ⟨("run_all", none), "run_all", "run_all", defArgs s_run_all, defBody s_run_all, defScope s_run_all, [], []⟩
def h_mean_speed : He.DefD := ⟨("mean_speed", none), "mean_speed", "mean_speed", defArgs s_mean_speed, defBody s_mean_speed, defScope s_mean_speed, [], []⟩
def h_bends_of : He.DefD := ⟨("bends_of", none), "bends_of", "bends_of", defArgs s_bends_of, defBody s_bends_of, defScope s_bends_of, [], []⟩
def h_is_fair : He.DefD := ⟨("is_fair", none), "is_fair", "is_fair", defArgs s_is_fair, defBody s_is_fair, defScope s_is_fair, [], []⟩
def h_fair_sum : He.DefD := ⟨("fair_sum", none), "fair_sum", "fair_sum", defArgs s_fair_sum, defBody s_fair_sum, defScope s_fair_sum, [], []⟩
def h_area_under : He.DefD := ⟨("area_under", none), "area_under", "area_under", defArgs s_area_under, defBody s_area_under, defScope s_area_under, [], []⟩
def h_best_line : He.DefD := ⟨("best_line", none), "best_line", "best_line", defArgs s_best_line, defBody s_best_line, defScope s_best_line, [], []⟩
def h__law_mixed : He.DefD := ⟨("_law_mixed", none), "_law_mixed", "_law_mixed", defArgs s__law_mixed, defBody s__law_mixed, defScope s__law_mixed, [], []⟩
def h__law_row : He.DefD := ⟨("_law_row", none), "_law_row", "_law_row", defArgs s__law_row, defBody s__law_row, defScope s__law_row, [], []⟩
def h__law_is_int : He.DefD := ⟨("_law_is_int", none), "_law_is_int", "_law_is_int", defArgs s__law_is_int, defBody s__law_is_int, defScope s__law_is_int, [], []⟩
def h__law_like : He.DefD := ⟨("_law_like", none), "_law_like", "_law_like", defArgs s__law_like, defBody s__law_like, defScope s__law_like, [], []⟩
def h__law_common : He.DefD := ⟨("_law_common", none), "_law_common", "_law_common", defArgs s__law_common, defBody s__law_common, defScope s__law_common, [], []⟩
def h__law_ratio : He.DefD := ⟨("_law_ratio", none), "_law_ratio", "_law_ratio", defArgs s__law_ratio, defBody s__law_ratio, defScope s__law_ratio, [], []⟩
def h__law_sum : He.DefD := ⟨("_law_sum", none), "_law_sum", "_law_sum", defArgs s__law_sum, defBody s__law_sum, defScope s__law_sum, [], []⟩
def h__law_times : He.DefD := ⟨("_law_times", none), "_law_times", "_law_times", defArgs s__law_times, defBody s__law_times, defScope s__law_times, [], []⟩
def h__law_line : He.DefD := ⟨("_law_line", none), "_law_line", "_law_line", defArgs s__law_line, defBody s__law_line, defScope s__law_line, [], []⟩
def h__law_at : He.DefD := ⟨("_law_at", none), "_law_at", "_law_at", defArgs s__law_at, defBody s__law_at, defScope s__law_at, [], []⟩
def h__law_lifted : He.DefD := ⟨("_law_lifted", none), "_law_lifted", "_law_lifted", defArgs s__law_lifted, defBody s__law_lifted, defScope s__law_lifted, [], []⟩
def h__law_borne : He.DefD := ⟨("_law_borne", none), "_law_borne", "_law_borne", defArgs s__law_borne, defBody s__law_borne, defScope s__law_borne, [], []⟩
def h__law_weighed : He.DefD := ⟨("_law_weighed", none), "_law_weighed", "_law_weighed", defArgs s__law_weighed, defBody s__law_weighed, defScope s__law_weighed, [], []⟩
def h__law_stations : He.DefD := ⟨("_law_stations", none), "_law_stations", "_law_stations", defArgs s__law_stations, defBody s__law_stations, defScope s__law_stations, [], []⟩
def h_law : He.DefD := ⟨("law", none), "law", "law", defArgs s_law, defBody s_law, defScope s_law, [], []⟩
def fn0 : List He.DefD := [h_divisor, h_lowest, h_plus, h_minus, h_times, h_parted, h_is_less, h_over, h_whole, h_summed, h_weight_sum, h_turn_sum, h_two_loads, h_weight_middle, h_span_of, h_loads_of, h_loads_sum, h_loads_turn, h_lifted_first, h_worst_load, h_sum_squares, h_trim_of, h_speed_at, h_run_between, h_run_all, h_mean_speed, h_bends_of, h_is_fair, h_fair_sum, h_area_under]
def fn1 : List He.DefD := [h_best_line, h__law_mixed, h__law_row, h__law_is_int, h__law_like, h__law_common, h__law_ratio, h__law_sum, h__law_times, h__law_line, h__law_at, h__law_lifted, h__law_borne, h__law_weighed, h__law_stations, h_law]
def fn : List He.DefD := fn0 ++ fn1
def fa0 : List He.Fa := [.glo "divisor", .glo "lowest", .glo "plus", .glo "minus", .glo "times", .glo "parted", .glo "is_less", .glo "over", .glo "whole", .glo "summed", .glo "weight_sum", .glo "turn_sum", .glo "two_loads", .glo "weight_middle", .glo "span_of", .glo "loads_of", .glo "loads_sum", .glo "loads_turn", .glo "lifted_first", .glo "worst_load", .glo "sum_squares", .glo "trim_of", .glo "speed_at", .glo "run_between", .glo "run_all", .glo "mean_speed", .glo "bends_of", .glo "is_fair", .glo "fair_sum", .glo "area_under"]
def fa1 : List He.Fa := [.glo "best_line", .glo "_law_mixed", .glo "_law_row", .glo "_law_is_int", .glo "_law_like", .glo "_law_common", .glo "_law_ratio", .glo "_law_sum", .glo "_law_times", .glo "_law_line", .glo "_law_at", .glo "_law_lifted", .glo "_law_borne", .glo "_law_weighed", .glo "_law_stations", .glo "law", .free "abs", .free "all", .free "any", .free "bool", .free "int", .free "isinstance", .free "len", .free "list", .free "max", .free "min", .free "range", .free "sorted", .free "str", .free "sum"]
def fa2 : List He.Fa := [.free "tuple", .free "zip"]
def fa : List He.Fa := fa0 ++ fa1 ++ fa2
def loo0 : List PySem.Str := ["divisor", "lowest", "plus", "minus", "times", "parted", "is_less", "over", "whole", "summed", "weight_sum", "turn_sum", "two_loads", "weight_middle", "span_of", "loads_of", "loads_sum", "loads_turn", "lifted_first", "worst_load", "sum_squares", "trim_of", "speed_at", "run_between", "run_all", "mean_speed", "bends_of", "is_fair", "fair_sum", "area_under"]
def loo1 : List PySem.Str := ["best_line", "_law_mixed", "_law_row", "_law_is_int", "_law_like", "_law_common", "_law_ratio", "_law_sum", "_law_times", "_law_line", "_law_at", "_law_lifted", "_law_borne", "_law_weighed", "_law_stations"]
def loo : List PySem.Str := loo0 ++ loo1
abbrev R : PySem.W.OpenRow := PySem.W.OpenLaw.row PySem.Challenge.rw_dockheld_k24_whole_loads_lines
abbrev hk : PySem.W.Hook := He.hookD 4 fa fn
def ob (s : PySem.W.SharedT) : He.AlD := He.obsDG 4 fa fn (HandSHeadRun.getT s)
theorem ob_eq (s : PySem.W.SharedT) : ob s = hk.obs s.abs := He.obsDG_eq (HandSHeadRun.getT_eq s)
theorem run (w : World) : HandSHeadRun.RunEq R (PySem.W.view R.prog [53]) hk ob 20000 loo w := by
  intro os
  kernel_rfl
theorem facts {P : Program} {w : World} {K : PySem.W.Frag} {h : Heap} {mg : Str → Option Value} {f : Addr} (X : K.In h) (G : h.Ns mainGlobals mg) (hfa : mg ("law" : Str) = some (.ref f)) (c : He.SaysD fa fn K) :
    ∃ fd : FuncData, (∀ (s : Shared) (v : Value), BindsTo s fd ⟨[v], []⟩ [("script", v)]) ∧ ∀ base : Heap, K.In base → base.Ns mainGlobals mg → FnOk P w K mg base CX0 12 f fd ["script"] (spD K 1 d_law) := by
  obtain ⟨fd_divisor, F_divisor⟩ := c.def_ 0 (d := h_divisor) rfl
  obtain ⟨fd_lowest, F_lowest⟩ := c.def_ 1 (d := h_lowest) rfl
  obtain ⟨fd_plus, F_plus⟩ := c.def_ 2 (d := h_plus) rfl
  obtain ⟨fd_minus, F_minus⟩ := c.def_ 3 (d := h_minus) rfl
  obtain ⟨fd_times, F_times⟩ := c.def_ 4 (d := h_times) rfl
  obtain ⟨fd_parted, F_parted⟩ := c.def_ 5 (d := h_parted) rfl
  obtain ⟨fd_is_less, F_is_less⟩ := c.def_ 6 (d := h_is_less) rfl
  obtain ⟨fd_over, F_over⟩ := c.def_ 7 (d := h_over) rfl
  obtain ⟨fd_whole, F_whole⟩ := c.def_ 8 (d := h_whole) rfl
  obtain ⟨fd_summed, F_summed⟩ := c.def_ 9 (d := h_summed) rfl
  obtain ⟨fd_weight_sum, F_weight_sum⟩ := c.def_ 10 (d := h_weight_sum) rfl
  obtain ⟨fd_turn_sum, F_turn_sum⟩ := c.def_ 11 (d := h_turn_sum) rfl
  obtain ⟨fd_two_loads, F_two_loads⟩ := c.def_ 12 (d := h_two_loads) rfl
  obtain ⟨fd_weight_middle, F_weight_middle⟩ := c.def_ 13 (d := h_weight_middle) rfl
  obtain ⟨fd_span_of, F_span_of⟩ := c.def_ 14 (d := h_span_of) rfl
  obtain ⟨fd_loads_of, F_loads_of⟩ := c.def_ 15 (d := h_loads_of) rfl
  obtain ⟨fd_loads_sum, F_loads_sum⟩ := c.def_ 16 (d := h_loads_sum) rfl
  obtain ⟨fd_loads_turn, F_loads_turn⟩ := c.def_ 17 (d := h_loads_turn) rfl
  obtain ⟨fd_lifted_first, F_lifted_first⟩ := c.def_ 18 (d := h_lifted_first) rfl
  obtain ⟨fd_worst_load, F_worst_load⟩ := c.def_ 19 (d := h_worst_load) rfl
  obtain ⟨fd_sum_squares, F_sum_squares⟩ := c.def_ 20 (d := h_sum_squares) rfl
  obtain ⟨fd_trim_of, F_trim_of⟩ := c.def_ 21 (d := h_trim_of) rfl
  obtain ⟨fd_speed_at, F_speed_at⟩ := c.def_ 22 (d := h_speed_at) rfl
  obtain ⟨fd_run_between, F_run_between⟩ := c.def_ 23 (d := h_run_between) rfl
  obtain ⟨fd_run_all, F_run_all⟩ := c.def_ 24 (d := h_run_all) rfl
  obtain ⟨fd_mean_speed, F_mean_speed⟩ := c.def_ 25 (d := h_mean_speed) rfl
  obtain ⟨fd_bends_of, F_bends_of⟩ := c.def_ 26 (d := h_bends_of) rfl
  obtain ⟨fd_is_fair, F_is_fair⟩ := c.def_ 27 (d := h_is_fair) rfl
  obtain ⟨fd_fair_sum, F_fair_sum⟩ := c.def_ 28 (d := h_fair_sum) rfl
  obtain ⟨fd_area_under, F_area_under⟩ := c.def_ 29 (d := h_area_under) rfl
  obtain ⟨fd_best_line, F_best_line⟩ := c.def_ 30 (d := h_best_line) rfl
  obtain ⟨fd__law_mixed, F__law_mixed⟩ := c.def_ 31 (d := h__law_mixed) rfl
  obtain ⟨fd__law_row, F__law_row⟩ := c.def_ 32 (d := h__law_row) rfl
  obtain ⟨fd__law_is_int, F__law_is_int⟩ := c.def_ 33 (d := h__law_is_int) rfl
  obtain ⟨fd__law_like, F__law_like⟩ := c.def_ 34 (d := h__law_like) rfl
  obtain ⟨fd__law_common, F__law_common⟩ := c.def_ 35 (d := h__law_common) rfl
  obtain ⟨fd__law_ratio, F__law_ratio⟩ := c.def_ 36 (d := h__law_ratio) rfl
  obtain ⟨fd__law_sum, F__law_sum⟩ := c.def_ 37 (d := h__law_sum) rfl
  obtain ⟨fd__law_times, F__law_times⟩ := c.def_ 38 (d := h__law_times) rfl
  obtain ⟨fd__law_line, F__law_line⟩ := c.def_ 39 (d := h__law_line) rfl
  obtain ⟨fd__law_at, F__law_at⟩ := c.def_ 40 (d := h__law_at) rfl
  obtain ⟨fd__law_lifted, F__law_lifted⟩ := c.def_ 41 (d := h__law_lifted) rfl
  obtain ⟨fd__law_borne, F__law_borne⟩ := c.def_ 42 (d := h__law_borne) rfl
  obtain ⟨fd__law_weighed, F__law_weighed⟩ := c.def_ 43 (d := h__law_weighed) rfl
  obtain ⟨fd__law_stations, F__law_stations⟩ := c.def_ 44 (d := h__law_stations) rfl
  obtain ⟨fd_law, F_law⟩ := c.def_ 45 (d := h_law) rfl
  have e := hfa.symm.trans (He.glo_ok X G (c.fact 45 (f := .glo "law") rfl))
  cases e
  refine ⟨fd_law, fun s v => FunD.bindsA (ps := ["script"]) F_law (fun _ _ _ _ _ _ us hl => match us, hl with | [_], _ => rfl) s [v] rfl, fun base _ _ => ?_⟩
  have b_abs : mg "abs" = none := He.free_ok X G (c.fact 46 (f := .free "abs") rfl)
  have b_all : mg "all" = none := He.free_ok X G (c.fact 47 (f := .free "all") rfl)
  have b_any : mg "any" = none := He.free_ok X G (c.fact 48 (f := .free "any") rfl)
  have b_bool : mg "bool" = none := He.free_ok X G (c.fact 49 (f := .free "bool") rfl)
  have b_int : mg "int" = none := He.free_ok X G (c.fact 50 (f := .free "int") rfl)
  have b_isinstance : mg "isinstance" = none := He.free_ok X G (c.fact 51 (f := .free "isinstance") rfl)
  have b_len : mg "len" = none := He.free_ok X G (c.fact 52 (f := .free "len") rfl)
  have b_list : mg "list" = none := He.free_ok X G (c.fact 53 (f := .free "list") rfl)
  have b_max : mg "max" = none := He.free_ok X G (c.fact 54 (f := .free "max") rfl)
  have b_min : mg "min" = none := He.free_ok X G (c.fact 55 (f := .free "min") rfl)
  have b_range : mg "range" = none := He.free_ok X G (c.fact 56 (f := .free "range") rfl)
  have b_sorted : mg "sorted" = none := He.free_ok X G (c.fact 57 (f := .free "sorted") rfl)
  have b_str : mg "str" = none := He.free_ok X G (c.fact 58 (f := .free "str") rfl)
  have b_sum : mg "sum" = none := He.free_ok X G (c.fact 59 (f := .free "sum") rfl)
  have b_tuple : mg "tuple" = none := He.free_ok X G (c.fact 60 (f := .free "tuple") rfl)
  have b_zip : mg "zip" = none := He.free_ok X G (c.fact 61 (f := .free "zip") rfl)
  have D_divisor : Def P w K mg base 1 "divisor" ["first", "second"] d_divisor := def_ok (ok_divisor F_divisor b_abs) (He.glo_ok X G (c.fact 0 (f := .glo "divisor") rfl)) F_divisor.kp (F_divisor.bindsN (ps := ["first", "second"]) fun _ _ _ _ _ _ us hl => match us, hl with | [_, _], _ => rfl)
  have D_lowest : Def P w K mg base 2 "lowest" ["a", "b"] d_lowest := def_ok (ok_lowest F_lowest D_divisor) (He.glo_ok X G (c.fact 1 (f := .glo "lowest") rfl)) F_lowest.kp (F_lowest.bindsN (ps := ["a", "b"]) fun _ _ _ _ _ _ us hl => match us, hl with | [_, _], _ => rfl)
  have D_plus : Def P w K mg base 3 "plus" ["first", "second"] d_plus := def_ok (ok_plus F_plus D_lowest) (He.glo_ok X G (c.fact 2 (f := .glo "plus") rfl)) F_plus.kp (F_plus.bindsN (ps := ["first", "second"]) fun _ _ _ _ _ _ us hl => match us, hl with | [_, _], _ => rfl)
  have D_minus : Def P w K mg base 3 "minus" ["first", "second"] d_minus := def_ok (ok_minus F_minus D_lowest) (He.glo_ok X G (c.fact 3 (f := .glo "minus") rfl)) F_minus.kp (F_minus.bindsN (ps := ["first", "second"]) fun _ _ _ _ _ _ us hl => match us, hl with | [_, _], _ => rfl)
  have D_times : Def P w K mg base 3 "times" ["first", "second"] d_times := def_ok (ok_times F_times D_lowest) (He.glo_ok X G (c.fact 4 (f := .glo "times") rfl)) F_times.kp (F_times.bindsN (ps := ["first", "second"]) fun _ _ _ _ _ _ us hl => match us, hl with | [_, _], _ => rfl)
  have D_parted : Def P w K mg base 3 "parted" ["first", "second"] d_parted := def_ok (ok_parted F_parted D_lowest) (He.glo_ok X G (c.fact 5 (f := .glo "parted") rfl)) F_parted.kp (F_parted.bindsN (ps := ["first", "second"]) fun _ _ _ _ _ _ us hl => match us, hl with | [_, _], _ => rfl)
  have D_is_less : Def P w K mg base 1 "is_less" ["first", "second"] d_is_less := def_ok (ok_is_less F_is_less) (He.glo_ok X G (c.fact 6 (f := .glo "is_less") rfl)) F_is_less.kp (F_is_less.bindsN (ps := ["first", "second"]) fun _ _ _ _ _ _ us hl => match us, hl with | [_, _], _ => rfl)
  have D_over : Def P w K mg base 4 "over" ["first", "second"] d_over := def_ok (ok_over F_over D_parted) (He.glo_ok X G (c.fact 7 (f := .glo "over") rfl)) F_over.kp (F_over.bindsN (ps := ["first", "second"]) fun _ _ _ _ _ _ us hl => match us, hl with | [_, _], _ => rfl)
  have D_whole : Def P w K mg base 1 "whole" ["number"] d_whole := def_ok (ok_whole F_whole) (He.glo_ok X G (c.fact 8 (f := .glo "whole") rfl)) F_whole.kp (F_whole.bindsN (ps := ["number"]) fun _ _ _ _ _ _ us hl => match us, hl with | [_], _ => rfl)
  have D_summed : Def P w K mg base 4 "summed" ["ratios"] d_summed := def_ok (ok_summed F_summed D_plus) (He.glo_ok X G (c.fact 9 (f := .glo "summed") rfl)) F_summed.kp (F_summed.bindsN (ps := ["ratios"]) fun _ _ _ _ _ _ us hl => match us, hl with | [_], _ => rfl)
  have D_weight_sum : Def P w K mg base 1 "weight_sum" ["weights"] d_weight_sum := def_ok (ok_weight_sum F_weight_sum b_sum) (He.glo_ok X G (c.fact 10 (f := .glo "weight_sum") rfl)) F_weight_sum.kp (F_weight_sum.bindsN (ps := ["weights"]) fun _ _ _ _ _ _ us hl => match us, hl with | [_], _ => rfl)
  have D_turn_sum : Def P w K mg base 1 "turn_sum" ["weights"] d_turn_sum := def_ok (ok_turn_sum F_turn_sum b_sum) (He.glo_ok X G (c.fact 11 (f := .glo "turn_sum") rfl)) F_turn_sum.kp (F_turn_sum.bindsN (ps := ["weights"]) fun _ _ _ _ _ _ us hl => match us, hl with | [_], _ => rfl)
  have D_two_loads : Def P w K mg base 4 "two_loads" ["a", "b", "weights"] d_two_loads := def_ok (ok_two_loads F_two_loads D_lowest D_minus D_whole D_weight_sum D_turn_sum) (He.glo_ok X G (c.fact 12 (f := .glo "two_loads") rfl)) F_two_loads.kp (F_two_loads.bindsN (ps := ["a", "b", "weights"]) fun _ _ _ _ _ _ us hl => match us, hl with | [_, _, _], _ => rfl)
  have D_weight_middle : Def P w K mg base 3 "weight_middle" ["weights"] d_weight_middle := def_ok (ok_weight_middle F_weight_middle D_lowest D_weight_sum D_turn_sum) (He.glo_ok X G (c.fact 13 (f := .glo "weight_middle") rfl)) F_weight_middle.kp (F_weight_middle.bindsN (ps := ["weights"]) fun _ _ _ _ _ _ us hl => match us, hl with | [_], _ => rfl)
  have D_span_of : Def P w K mg base 4 "span_of" ["weights", "way"] d_span_of := def_ok (ok_span_of F_span_of D_weight_sum D_weight_middle) (He.glo_ok X G (c.fact 14 (f := .glo "span_of") rfl)) F_span_of.kp (F_span_of.bindsN (ps := ["weights", "way"]) fun _ _ _ _ _ _ us hl => match us, hl with | [_, _], _ => rfl)
  have D_loads_of : Def P w K mg base 4 "loads_of" ["places", "weights"] d_loads_of := def_ok (ok_loads_of F_loads_of D_lowest D_plus D_times D_whole D_weight_sum D_turn_sum b_len b_sum b_tuple) (He.glo_ok X G (c.fact 15 (f := .glo "loads_of") rfl)) F_loads_of.kp (F_loads_of.bindsN (ps := ["places", "weights"]) fun _ _ _ _ _ _ us hl => match us, hl with | [_, _], _ => rfl)
  have D_loads_sum : Def P w K mg base 5 "loads_sum" ["loads"] d_loads_sum := def_ok (ok_loads_sum F_loads_sum D_summed) (He.glo_ok X G (c.fact 16 (f := .glo "loads_sum") rfl)) F_loads_sum.kp (F_loads_sum.bindsN (ps := ["loads"]) fun _ _ _ _ _ _ us hl => match us, hl with | [_], _ => rfl)
  have D_loads_turn : Def P w K mg base 5 "loads_turn" ["places", "loads"] d_loads_turn := def_ok (ok_loads_turn F_loads_turn D_times D_whole D_summed b_zip) (He.glo_ok X G (c.fact 17 (f := .glo "loads_turn") rfl)) F_loads_turn.kp (F_loads_turn.bindsN (ps := ["places", "loads"]) fun _ _ _ _ _ _ us hl => match us, hl with | [_, _], _ => rfl)
  have D_lifted_first : Def P w K mg base 5 "lifted_first" ["places", "weights"] d_lifted_first := def_ok (ok_lifted_first F_lifted_first D_whole D_loads_of b_len b_list b_sorted b_tuple b_zip) (He.glo_ok X G (c.fact 18 (f := .glo "lifted_first") rfl)) F_lifted_first.kp (F_lifted_first.bindsN (ps := ["places", "weights"]) fun _ _ _ _ _ _ us hl => match us, hl with | [_, _], _ => rfl)
  have D_worst_load : Def P w K mg base 2 "worst_load" ["loads"] d_worst_load := def_ok (ok_worst_load F_worst_load D_is_less) (He.glo_ok X G (c.fact 19 (f := .glo "worst_load") rfl)) F_worst_load.kp (F_worst_load.bindsN (ps := ["loads"]) fun _ _ _ _ _ _ us hl => match us, hl with | [_], _ => rfl)
  have D_sum_squares : Def P w K mg base 5 "sum_squares" ["loads"] d_sum_squares := def_ok (ok_sum_squares F_sum_squares D_times D_summed) (He.glo_ok X G (c.fact 20 (f := .glo "sum_squares") rfl)) F_sum_squares.kp (F_sum_squares.bindsN (ps := ["loads"]) fun _ _ _ _ _ _ us hl => match us, hl with | [_], _ => rfl)
  have D_trim_of : Def P w K mg base 5 "trim_of" ["areas", "middles", "turning"] d_trim_of := def_ok (ok_trim_of F_trim_of D_lowest D_plus D_minus D_times D_over D_whole b_sum b_zip) (He.glo_ok X G (c.fact 21 (f := .glo "trim_of") rfl)) F_trim_of.kp (F_trim_of.bindsN (ps := ["areas", "middles", "turning"]) fun _ _ _ _ _ _ us hl => match us, hl with | [_, _, _], _ => rfl)
  have D_speed_at : Def P w K mg base 4 "speed_at" ["log", "hour"] d_speed_at := def_ok (ok_speed_at F_speed_at D_lowest D_plus D_times D_whole b_len b_zip) (He.glo_ok X G (c.fact 22 (f := .glo "speed_at") rfl)) F_speed_at.kp (F_speed_at.bindsN (ps := ["log", "hour"]) fun _ _ _ _ _ _ us hl => match us, hl with | [_, _], _ => rfl)
  have D_run_between : Def P w K mg base 5 "run_between" ["log", "begin", "end"] d_run_between := def_ok (ok_run_between F_run_between D_lowest D_plus D_times D_whole D_speed_at b_range) (He.glo_ok X G (c.fact 23 (f := .glo "run_between") rfl)) F_run_between.kp (F_run_between.bindsN (ps := ["log", "begin", "end"]) fun _ _ _ _ _ _ us hl => match us, hl with | [_, _, _], _ => rfl)
  have D_run_all : Def P w K mg base 6 "run_all" ["log"] d_run_all := def_ok (ok_run_all F_run_all D_run_between) (He.glo_ok X G (c.fact 24 (f := .glo "run_all") rfl)) F_run_all.kp (F_run_all.bindsN (ps := ["log"]) fun _ _ _ _ _ _ us hl => match us, hl with | [_], _ => rfl)
  have D_mean_speed : Def P w K mg base 7 "mean_speed" ["log"] d_mean_speed := def_ok (ok_mean_speed F_mean_speed D_lowest D_times D_run_all) (He.glo_ok X G (c.fact 25 (f := .glo "mean_speed") rfl)) F_mean_speed.kp (F_mean_speed.bindsN (ps := ["log"]) fun _ _ _ _ _ _ us hl => match us, hl with | [_], _ => rfl)
  have D_bends_of : Def P w K mg base 4 "bends_of" ["offsets"] d_bends_of := def_ok (ok_bends_of F_bends_of D_plus D_minus D_times D_whole b_isinstance b_len b_range b_tuple) (He.glo_ok X G (c.fact 26 (f := .glo "bends_of") rfl)) F_bends_of.kp (F_bends_of.bindsN (ps := ["offsets"]) fun _ _ _ _ _ _ us hl => match us, hl with | [_], _ => rfl)
  have D_is_fair : Def P w K mg base 5 "is_fair" ["offsets"] d_is_fair := def_ok (ok_is_fair F_is_fair D_bends_of b_any) (He.glo_ok X G (c.fact 27 (f := .glo "is_fair") rfl)) F_is_fair.kp (F_is_fair.bindsN (ps := ["offsets"]) fun _ _ _ _ _ _ us hl => match us, hl with | [_], _ => rfl)
  have D_fair_sum : Def P w K mg base 5 "fair_sum" ["offsets"] d_fair_sum := def_ok (ok_fair_sum F_fair_sum D_times D_summed D_bends_of) (He.glo_ok X G (c.fact 28 (f := .glo "fair_sum") rfl)) F_fair_sum.kp (F_fair_sum.bindsN (ps := ["offsets"]) fun _ _ _ _ _ _ us hl => match us, hl with | [_], _ => rfl)
  have D_area_under : Def P w K mg base 3 "area_under" ["offsets"] d_area_under := def_ok (ok_area_under F_area_under D_lowest b_sum) (He.glo_ok X G (c.fact 29 (f := .glo "area_under") rfl)) F_area_under.kp (F_area_under.bindsN (ps := ["offsets"]) fun _ _ _ _ _ _ us hl => match us, hl with | [_], _ => rfl)
  have D_best_line : Def P w K mg base 5 "best_line" ["soundings"] d_best_line := def_ok (ok_best_line F_best_line D_lowest D_minus D_times D_over D_whole b_len b_sum) (He.glo_ok X G (c.fact 30 (f := .glo "best_line") rfl)) F_best_line.kp (F_best_line.bindsN (ps := ["soundings"]) fun _ _ _ _ _ _ us hl => match us, hl with | [_], _ => rfl)
  have D__law_mixed : Def P w K mg base 1 "_law_mixed" ["script", "k"] d__law_mixed := def_ok (ok__law_mixed F__law_mixed b_int b_len) (He.glo_ok X G (c.fact 31 (f := .glo "_law_mixed") rfl)) F__law_mixed.kp (F__law_mixed.bindsN (ps := ["script", "k"]) fun _ _ _ _ _ _ us hl => match us, hl with | [_, _], _ => rfl)
  have D__law_row : Def P w K mg base 2 "_law_row" ["script", "many"] d__law_row := def_ok (ok__law_row F__law_row D__law_mixed b_int b_len b_range) (He.glo_ok X G (c.fact 32 (f := .glo "_law_row") rfl)) F__law_row.kp (F__law_row.bindsN (ps := ["script", "many"]) fun _ _ _ _ _ _ us hl => match us, hl with | [_, _], _ => rfl)
  have D__law_is_int : Def P w K mg base 1 "_law_is_int" ["value"] d__law_is_int := def_ok (ok__law_is_int F__law_is_int b_bool b_int b_isinstance) (He.glo_ok X G (c.fact 33 (f := .glo "_law_is_int") rfl)) F__law_is_int.kp (F__law_is_int.bindsN (ps := ["value"]) fun _ _ _ _ _ _ us hl => match us, hl with | [_], _ => rfl)
  have D__law_like : Def P w K mg base 10 "_law_like" ["value", "due"] (d__law_like 8) := def_ok (ok__law_like F__law_like (He.glo_ok X G (c.fact 34 (f := .glo "_law_like") rfl)) F__law_like.kp (F__law_like.bindsN (ps := ["value", "due"]) fun _ _ _ _ _ _ us hl => match us, hl with | [_, _], _ => rfl) D__law_is_int b_all b_bool b_isinstance b_len b_range b_str b_tuple 8) (He.glo_ok X G (c.fact 34 (f := .glo "_law_like") rfl)) F__law_like.kp (F__law_like.bindsN (ps := ["value", "due"]) fun _ _ _ _ _ _ us hl => match us, hl with | [_, _], _ => rfl)
  have D__law_common : Def P w K mg base 1 "_law_common" ["first", "second"] d__law_common := def_ok (ok__law_common F__law_common b_abs b_int) (He.glo_ok X G (c.fact 35 (f := .glo "_law_common") rfl)) F__law_common.kp (F__law_common.bindsN (ps := ["first", "second"]) fun _ _ _ _ _ _ us hl => match us, hl with | [_, _], _ => rfl)
  have D__law_ratio : Def P w K mg base 2 "_law_ratio" ["a", "b"] d__law_ratio := def_ok (ok__law_ratio F__law_ratio D__law_common) (He.glo_ok X G (c.fact 36 (f := .glo "_law_ratio") rfl)) F__law_ratio.kp (F__law_ratio.bindsN (ps := ["a", "b"]) fun _ _ _ _ _ _ us hl => match us, hl with | [_, _], _ => rfl)
  have D__law_sum : Def P w K mg base 3 "_law_sum" ["ratios"] d__law_sum := def_ok (ok__law_sum F__law_sum D__law_ratio) (He.glo_ok X G (c.fact 37 (f := .glo "_law_sum") rfl)) F__law_sum.kp (F__law_sum.bindsN (ps := ["ratios"]) fun _ _ _ _ _ _ us hl => match us, hl with | [_], _ => rfl)
  have D__law_times : Def P w K mg base 3 "_law_times" ["one", "other"] d__law_times := def_ok (ok__law_times F__law_times D__law_ratio) (He.glo_ok X G (c.fact 38 (f := .glo "_law_times") rfl)) F__law_times.kp (F__law_times.bindsN (ps := ["one", "other"]) fun _ _ _ _ _ _ us hl => match us, hl with | [_, _], _ => rfl)
  have D__law_line : Def P w K mg base 3 "_law_line" ["places", "weights"] d__law_line := def_ok (ok__law_line F__law_line D__law_ratio b_len b_sum) (He.glo_ok X G (c.fact 39 (f := .glo "_law_line") rfl)) F__law_line.kp (F__law_line.bindsN (ps := ["places", "weights"]) fun _ _ _ _ _ _ us hl => match us, hl with | [_, _], _ => rfl)
  have D__law_at : Def P w K mg base 4 "_law_at" ["line", "place"] d__law_at := def_ok (ok__law_at F__law_at D__law_sum D__law_times) (He.glo_ok X G (c.fact 40 (f := .glo "_law_at") rfl)) F__law_at.kp (F__law_at.bindsN (ps := ["line", "place"]) fun _ _ _ _ _ _ us hl => match us, hl with | [_, _], _ => rfl)
  have D__law_lifted : Def P w K mg base 5 "_law_lifted" ["places", "weights"] d__law_lifted := def_ok (ok__law_lifted F__law_lifted D__law_line D__law_at b_int b_len b_list b_range b_sorted b_tuple) (He.glo_ok X G (c.fact 41 (f := .glo "_law_lifted") rfl)) F__law_lifted.kp (F__law_lifted.bindsN (ps := ["places", "weights"]) fun _ _ _ _ _ _ us hl => match us, hl with | [_, _], _ => rfl)
  have D__law_borne : Def P w K mg base 11 "_law_borne" ["places", "weights"] d__law_borne := def_ok (ok__law_borne F__law_borne D_two_loads D_loads_of D_loads_sum D_loads_turn D_lifted_first D_worst_load D_sum_squares D_trim_of D_best_line D__law_like D__law_ratio D__law_sum D__law_times D__law_line D__law_at D__law_lifted b_len b_max b_min b_range b_sorted b_sum b_tuple) (He.glo_ok X G (c.fact 42 (f := .glo "_law_borne") rfl)) F__law_borne.kp (F__law_borne.bindsN (ps := ["places", "weights"]) fun _ _ _ _ _ _ us hl => match us, hl with | [_, _], _ => rfl)
  have D__law_weighed : Def P w K mg base 11 "_law_weighed" ["weights", "way"] d__law_weighed := def_ok (ok__law_weighed F__law_weighed D_weight_middle D_span_of D__law_like D__law_ratio D__law_sum b_sum) (He.glo_ok X G (c.fact 43 (f := .glo "_law_weighed") rfl)) F__law_weighed.kp (F__law_weighed.bindsN (ps := ["weights", "way"]) fun _ _ _ _ _ _ us hl => match us, hl with | [_, _], _ => rfl)
  have D__law_stations : Def P w K mg base 11 "_law_stations" ["weights", "row"] d__law_stations := def_ok (ok__law_stations F__law_stations D_loads_of D_speed_at D_run_between D_run_all D_mean_speed D_bends_of D_is_fair D_fair_sum D_area_under D__law_like D__law_ratio b_int b_max b_min b_range b_sum b_tuple) (He.glo_ok X G (c.fact 44 (f := .glo "_law_stations") rfl)) F__law_stations.kp (F__law_stations.bindsN (ps := ["weights", "row"]) fun _ _ _ _ _ _ us hl => match us, hl with | [_, _], _ => rfl)
  exact ok_law F_law D__law_row D__law_borne D__law_weighed D__law_stations b_int b_len b_range b_tuple
/-- THE LAW from its plain function -/
theorem holds_of (hF : ∀ ns : List Int, ns.length ≤ 63 → d_law [scr (ns.map PyData.int)] = some (.bool true)) : PySem.Challenge.rw_dockheld_k24_whole_loads_lines.Holds := by
  w_on; o_law
  refine HandSHeadRun.head_any (r := PySem.W.OpenLaw.row PySem.Challenge.rw_dockheld_k24_whole_loads_lines) (q := PySem.W.view (PySem.W.OpenLaw.row PySem.Challenge.rw_dockheld_k24_whole_loads_lines).prog [53]) (H := hk) (ob := ob) (M := 20000) (loose := loo) (d := HandSHeadRun.topDef (PySem.W.OpenLaw.row PySem.Challenge.rw_dockheld_k24_whole_loads_lines).prog 53) (kwd := []) ob_eq
    (by kernel_rfl) (fun s => by kernel_rfl) run (by kernel_rfl) (by kernel_rfl) (by kernel_rfl) (by rfl) (by first | assumption | decide +kernel) (by decide +kernel) ⟨rfl, rfl, rfl, rfl, rfl, by decide +kernel⟩ ?hw ?hc
  case hw => w_witness2
  case hc =>
    refine L2.walk_ofE (l := PySem.Challenge.rw_dockheld_k24_whole_loads_lines) (n := 63) (k := 12) (x := "script") (CX := L2.CX0) rfl (by decide) (by kernel_rfl) ⟨rfl, by decide, by decide⟩ ?F (fun _ _ _ _ z => z)
    intro w mg fa h Y G hmg0
    obtain ⟨K, KX, c⟩ := Y
    have hmg : mg ("law" : PySem.Str) = some (.ref fa) := by
      have e : (HandSHeadRun.topDef (PySem.W.OpenLaw.row PySem.Challenge.rw_dockheld_k24_whole_loads_lines).prog 53).name = ("law" : PySem.Str) := by kernel_rfl
      rw [← e]
      exact hmg0
    obtain ⟨fd, hb, hF2⟩ := facts (P := (PySem.Challenge.rw_dockheld_k24_whole_loads_lines).prog) (w := w) KX G hmg c
    exact ⟨K, fd, spD K 1 d_law, KX, hb, sp_law hF, hF2⟩
end K24

namespace K24
open PySem PySem.Spec PyProof.Rows L2 Pm
theorem divisor_loop : ∀ (N y : Nat), y < N → ∀ x : Nat, whileF (tOf (xBin oGt (xVar 1) (xC (.int 0)))) (sSeq (sPar [0, 1] (xCons (xVar 1) (xCons (xBin oMod (xVar 0) (xVar 1)) xNil))) sNop) N [some (.int x), some (.int y)] = some (.nx [some (.int (Nat.gcd x y : Nat)), some (.int 0)]) := by
  intro N
  induction N with
  | zero => intro y h; omega
  | succ N ih =>
    intro y hy x
    rw [whileF_succ]
    by_cases h0 : y = 0
    · subst h0
      simp [tOf, xBin, xVar, xC, oGt, dB]
    · have hp : 0 < y := by omega
      have e : ((x : Int).fmod (y : Int)) = ((x % y : Nat) : Int) := by
        rw [Int.fmod_eq_emod_of_nonneg _ (by omega)]
        rfl
      have hlt : x % y < y := Nat.mod_lt _ hp
      simp [tOf, xBin, xVar, xC, oGt, dB, hp, sSeq, sPar, xCons, xNil, oMod, h0, setAll, sNop, e]
      rw [← Int.natCast_emod, ih (x % y) (by omega) y, Nat.gcd_comm y, ← Nat.gcd_rec, Nat.gcd_comm]
theorem abs_eq (a : Int) : (if a < 0 then -a else a) = (a.natAbs : Int) := by split <;> omega
theorem Sm.fuel {b : Int} (hb : Sm 1999 b) : b.natAbs < fuelN := Nat.lt_of_le_of_lt hb (Nat.pow_lt_pow_right (by decide) (by decide))
theorem divisor_eq (a b : Int) (hb : Sm 1999 b) : d_divisor [.int a, .int b] = some (.int (Int.gcd a b : Nat)) := by
  have := divisor_loop fuelN b.natAbs (Sm.fuel hb) a.natAbs
  simp -implicitDefEqProofs only [d_divisor, g_divisor, xVar_a, xC_a, xBin_a, xUn_a, tOf_a, tTru_a, tNotP_a, tAndP_a, tOrP_a, tyes_a, tno_a, tYesP_a, xNil_a, xCons_a, xTup_a, xLst_a, xAnd_a, xOr_a, xIf_a, xChain_a, oNo_a, oAt_a, xSl_a, xCall_a, xSeq_a, xIt_a, xLc_a, gSet_a, gTupD_a, gsNil_a, gsCons_a, sNop_a, sBrk_a, sCnt_a, sSeq_a, sRet_a, sIf_a, sSet_a, sTgt_a, sAug_a, sApp_a, sExt_a, sPut_a, sPutK_a, pkO_s, sFor_a, sWhile_a, sPar_a, runD_a, b2_s, c2_s, sqO_nx, sqO_rt, sqO_bk, sqO_ct, ifO_t, ifO_f, stO_s, endO_nx, endO_rt, andO_t, andO_f, orO_t, orO_f, chO_s, chP_t, chP_f, slO_s, atO_i, lcO_s, forO_s, gsO_s, nxO_s, tgO_s, paO_s, apO_s, exO_s, plO_s, ptO_s, dB_b, tru_b, tru_n, tru_i, tru_l, tru_t, is_n, isn_n, nn_n, nn_i, nn_b, nn_t, nn_l, add_ii, add'_ii, sub_ii, neg_i, lt_ii, le_ii, gt_ii, ge_ii, ix_l, ix_t, ix_s, at0, at1, at2, sl_l, sl_t, len_l, len_t, len_s, abs_i, int_i, int_b, max_ii, min_ii, tup_s, lst_s, seq_l, seq_t, sum_s, wipe_n, wipe_c, mul_ii, fdiv_ii, mod_ii, add_ll, add_tt, setAll, mkT, mkL, oNot, List.getD_cons_zero, List.getD_cons_succ, List.length_cons, List.length_nil, List.set_cons_zero, List.set_cons_succ, List.map_cons, List.map_nil, List.replicate, List.cons_append, List.nil_append, List.append_nil, Option.bind_some, Option.map_some, List.all_cons, List.all_nil, if_true, if_false, reduceIte, Nat.reduceAdd, Nat.reduceSub, Nat.reduceLT, Nat.reduceLeDiff, Nat.reduceEqDiff, decide_true, decide_false, Bool.and_true, Bool.and_self, Bool.true_and, Bool.not_true, Bool.not_false, ne_eq, not_true_eq_false, not_false_eq_true, Nat.zero_add, Bool.false_eq_true, and_self, true_and, and_true, abs_eq, l1_divisor, this, Int.gcd]
theorem lowest_eq (a b : Int) (h0 : 0 < b) (hb : Sm 1999 b) : d_lowest [.int a, .int b] = some (fr a b) := by
  have hg := gcd_pos_of (p := a) h0
  have hs : Sm 1999 (Int.gcd a b : Int) := by
    show (Int.gcd a b : Int).natAbs ≤ 2 ^ 1999
    have : Int.gcd a b ≤ b.natAbs := Int.gcd_le_natAbs_right a (by omega)
    simpa using Nat.le_trans this hb
  have hd := hs.divOk (by omega) (by omega)
  have f1 : a.fdiv (Int.gcd a b : Int) = a / (Int.gcd a b : Int) := Int.fdiv_eq_ediv_of_nonneg _ (by omega)
  have f2 : b.fdiv (Int.gcd a b : Int) = b / (Int.gcd a b : Int) := Int.fdiv_eq_ediv_of_nonneg _ (by omega)
  simp [d_lowest, runD, g_lowest, sSeq, sSet, xIf, tOf, xBin, xVar, xC, oGt, dB, h0, xCall, xCons, xNil, divisor_eq a b hb, sRet, xTup, oFdiv, hd, f1, f2, fr]
theorem ix0 (a b : D) : oIx (.tuple [a, b]) (.int 0) = some a := rfl
theorem ix1 (a b : D) : oIx (.tuple [a, b]) (.int 1) = some b := rfl
theorem plus_eq {p q r s : Int} (hq : 0 < q) (hs : 0 < s) (b1 : Sm 900 p) (b2 : Sm 900 q) (b3 : Sm 900 r) (b4 : Sm 900 s) : d_plus [fr p q, fr r s] = some (fr (p * s + r * q) (q * s)) := by
  obtain ⟨p', q', g, e1, rfl, rfl, hg, hq', n1, n2⟩ := fr_parts p hq
  obtain ⟨r', s', k, e2, rfl, rfl, hk, hs', n3, n4⟩ := fr_parts r hs
  have m1 := (b1.le n1).mulOk (b4.le n4) (by omega) (by omega)
  have m2 := (b3.le n3).mulOk (b2.le n2) (by omega) (by omega)
  have m3 := (b2.le n2).mulOk (b4.le n4) (by omega) (by omega)
  have hp : 0 < q' * s' := Int.mul_pos hq' hs'
  have hl := lowest_eq (p' * s' + r' * q') (q' * s') hp (((b2.le n2).mul (b4.le n4)).mono (by omega))
  have hf : fr (p' * g * (s' * k) + r' * k * (q' * g)) (q' * g * (s' * k)) = fr (p' * s' + r' * q') (q' * s') := by
    have a1 : p' * g * (s' * k) + r' * k * (q' * g) = (p' * s' + r' * q') * (g * k) := by grind
    have a2 : q' * g * (s' * k) = (q' * s') * (g * k) := by grind
    rw [a1, a2, fr_scale hp (Int.mul_pos hg hk)]
  rw [hf, e1, e2]
  simp [d_plus, runD, g_plus, sRet, xCall, xCons, xNil, xBin, xVar, xC, ix0, ix1, oMul', oMul, m1, m2, m3, oAdd, hl]
theorem minus_eq {p q r s : Int} (hq : 0 < q) (hs : 0 < s) (b1 : Sm 900 p) (b2 : Sm 900 q) (b3 : Sm 900 r) (b4 : Sm 900 s) : d_minus [fr p q, fr r s] = some (fr (p * s - r * q) (q * s)) := by
  obtain ⟨p', q', g, e1, rfl, rfl, hg, hq', n1, n2⟩ := fr_parts p hq
  obtain ⟨r', s', k, e2, rfl, rfl, hk, hs', n3, n4⟩ := fr_parts r hs
  have m1 := (b1.le n1).mulOk (b4.le n4) (by omega) (by omega)
  have m2 := (b3.le n3).mulOk (b2.le n2) (by omega) (by omega)
  have m3 := (b2.le n2).mulOk (b4.le n4) (by omega) (by omega)
  have hp : 0 < q' * s' := Int.mul_pos hq' hs'
  have hl := lowest_eq (p' * s' - r' * q') (q' * s') hp (((b2.le n2).mul (b4.le n4)).mono (by omega))
  have hf : fr (p' * g * (s' * k) - r' * k * (q' * g)) (q' * g * (s' * k)) = fr (p' * s' - r' * q') (q' * s') := by
    have a1 : p' * g * (s' * k) - r' * k * (q' * g) = (p' * s' - r' * q') * (g * k) := by grind
    have a2 : q' * g * (s' * k) = (q' * s') * (g * k) := by grind
    rw [a1, a2, fr_scale hp (Int.mul_pos hg hk)]
  rw [hf, e1, e2]
  simp [d_minus, runD, g_minus, sRet, xCall, xCons, xNil, xBin, xVar, xC, ix0, ix1, oMul', oMul, m1, m2, m3, oSub, hl]
theorem times_eq {p q r s : Int} (hq : 0 < q) (hs : 0 < s) (b1 : Sm 900 p) (b2 : Sm 900 q) (b3 : Sm 900 r) (b4 : Sm 900 s) : d_times [fr p q, fr r s] = some (fr (p * r) (q * s)) := by
  obtain ⟨p', q', g, e1, rfl, rfl, hg, hq', n1, n2⟩ := fr_parts p hq
  obtain ⟨r', s', k, e2, rfl, rfl, hk, hs', n3, n4⟩ := fr_parts r hs
  have m1 := (b1.le n1).mulOk (b3.le n3) (by omega) (by omega)
  have m3 := (b2.le n2).mulOk (b4.le n4) (by omega) (by omega)
  have hp : 0 < q' * s' := Int.mul_pos hq' hs'
  have hl := lowest_eq (p' * r') (q' * s') hp (((b2.le n2).mul (b4.le n4)).mono (by omega))
  have hf : fr (p' * g * (r' * k)) (q' * g * (s' * k)) = fr (p' * r') (q' * s') := by
    have a1 : p' * g * (r' * k) = (p' * r') * (g * k) := by grind
    have a2 : q' * g * (s' * k) = (q' * s') * (g * k) := by grind
    rw [a1, a2, fr_scale hp (Int.mul_pos hg hk)]
  rw [hf, e1, e2]
  simp [d_times, runD, g_times, sRet, xCall, xCons, xNil, xBin, xVar, xC, ix0, ix1, oMul', oMul, m1, m3, hl]
theorem is_less_eq {p q r s : Int} (hq : 0 < q) (hs : 0 < s) (b1 : Sm 900 p) (b2 : Sm 900 q) (b3 : Sm 900 r) (b4 : Sm 900 s) : d_is_less [fr p q, fr r s] = some (.bool (decide (p * s < r * q))) := by
  obtain ⟨p', q', g, e1, rfl, rfl, hg, hq', n1, n2⟩ := fr_parts p hq
  obtain ⟨r', s', k, e2, rfl, rfl, hk, hs', n3, n4⟩ := fr_parts r hs
  have m1 := (b1.le n1).mulOk (b4.le n4) (by omega) (by omega)
  have m2 := (b3.le n3).mulOk (b2.le n2) (by omega) (by omega)
  have hgk := Int.mul_pos hg hk
  have hf : decide (p' * g * (s' * k) < r' * k * (q' * g)) = decide (p' * s' < r' * q') := by
    have a1 : p' * g * (s' * k) = (p' * s') * (g * k) := by grind
    have a2 : r' * k * (q' * g) = (r' * q') * (g * k) := by grind
    rw [a1, a2]
    by_cases h : p' * s' < r' * q'
    · rw [decide_eq_true h, decide_eq_true (Int.mul_lt_mul_of_pos_right h hgk)]
    · rw [decide_eq_false h, decide_eq_false (Int.not_lt.mpr (Int.mul_le_mul_of_nonneg_right (Int.not_lt.mp h) (by omega)))]
  rw [hf, e1, e2]
  simp [d_is_less, runD, g_is_less, sRet, xCall, xCons, xNil, xBin, xVar, xC, ix0, ix1, oMul', oMul, m1, m2, oLt]
theorem fr_one (n : Int) : fr n 1 = .tuple [.int n, .int 1] := by simp [fr]
theorem whole_eq (n : Int) : d_whole [.int n] = some (fr n 1) := by
  rw [fr_one]
  rfl
end K24

namespace K24
open PySem PySem.Spec PyProof.Rows L2 Pm
theorem eq_int (i j : Int) : oEq (.int i) (.int j) = some (.bool (decide (i = j))) := by
  simp [oEq, shp, SeqAt.shaped, PyData.eqv, PyData.canLay0, PyData.depth]
  rfl
theorem ne_int (i j : Int) : oNe (.int i) (.int j) = some (.bool (!decide (i = j))) := by
  simp [oNe, shp, SeqAt.shaped, PyData.eqv, PyData.canLay0, PyData.depth]
  rfl
theorem k_isi1 : kitB "int" "bool" = some false := by kernel_rfl
theorem isi1 (i : Int) : oIsi "bool" (.int i) = some (.bool false) := by
  show (kitB "int" "bool").map PyData.bool = _
  rw [k_isi1]
  rfl
theorem k_isi2 : kitB "int" "tuple" = some false := by kernel_rfl
theorem isi2 (i : Int) : oIsi "tuple" (.int i) = some (.bool false) := by
  show (kitB "int" "tuple").map PyData.bool = _
  rw [k_isi2]
  rfl
theorem k_isi3 : kitB "int" "str" = some false := by kernel_rfl
theorem isi3 (i : Int) : oIsi "str" (.int i) = some (.bool false) := by
  show (kitB "int" "str").map PyData.bool = _
  rw [k_isi3]
  rfl
theorem k_isi0 : kitB "int" "int" = some true := by kernel_rfl
theorem isi0 (i : Int) : oIsi "int" (.int i) = some (.bool true) := by
  show (kitB "int" "int").map PyData.bool = _
  rw [k_isi0]
  rfl
theorem k_isb1 : kitB "bool" "bool" = some true := by kernel_rfl
theorem isb1 (i : Bool) : oIsi "bool" (.bool i) = some (.bool true) := by
  show (kitB "bool" "bool").map PyData.bool = _
  rw [k_isb1]
  rfl
theorem k_ist1 : kitB "tuple" "bool" = some false := by kernel_rfl
theorem ist1 (i : List D) : oIsi "bool" (.tuple i) = some (.bool false) := by
  show (kitB "tuple" "bool").map PyData.bool = _
  rw [k_ist1]
  rfl
theorem k_ist2 : kitB "tuple" "tuple" = some true := by kernel_rfl
theorem ist2 (i : List D) : oIsi "tuple" (.tuple i) = some (.bool true) := by
  show (kitB "tuple" "tuple").map PyData.bool = _
  rw [k_ist2]
  rfl
theorem asBools_rep (n : Nat) : asBools (List.replicate n (PyData.bool true)) = some (List.replicate n true) := by
  have := asBools_map (List.replicate n true)
  rwa [List.map_replicate] at this
theorem asBools_rng (n : Nat) : asBools ((List.range n).map fun _ => PyData.bool true) = some (List.replicate n true) := by
  rw [List.map_const', List.length_range, asBools_rep]
theorem is_int_int (i : Int) : d__law_is_int [.int i] = some (.bool true) := by
  simp [d__law_is_int, runD, g__law_is_int, sRet, xAnd, xUn, xVar, isi0, isi1, dB, oNot, oTru]
theorem like_none (n : Nat) : d__law_like (n + 1) [.none, .none] = some (.bool true) := by
  simp [d__law_like, runD, g__law_like, sSeq, sIf, tOf, xBin, xVar, xC, oIs, isNone, dB, sRet]
theorem like_bool (n : Nat) (b : Bool) : d__law_like (n + 1) [.bool b, .bool b] = some (.bool true) := by
  have e : oEq (.bool b) (.bool b) = some (.bool true) := by
    simp [oEq, shp, SeqAt.shaped, PyData.eqv, PyData.canLay0, PyData.depth]
  simp [d__law_like, runD, g__law_like, sSeq, sIf, tOf, xBin, xVar, xC, oIs, isNone, dB, tTru, xUn, isb1, oTru, sNop, sRet, xAnd, e]
theorem like_int (n : Nat) (i : Int) : d__law_like (n + 1) [.int i, .int i] = some (.bool true) := by
  simp [d__law_like, runD, g__law_like, sSeq, sIf, tOf, xBin, xVar, xC, oIs, isNone, dB, tTru, xUn, isi1, isi2, isi3, oTru, sNop, sRet, xAnd, xCall, xCons, xNil, is_int_int, eq_int]
theorem like_tup (n : Nat) (xs : List D) (hl : xs.length ≤ 16777216) (h : ∀ x ∈ xs, d__law_like n [x, x] = some (.bool true)) : d__law_like (n + 1) [.tuple xs, .tuple xs] = some (.bool true) := by
  have hr := oR1_nat xs.length hl
  have hm : lcL (gSet 2) tYesP (xCall (fun ds => if ds.length = 2 then d__law_like n ds else none) (xCons (xBin oIx (xVar 0) (xVar 2)) (xCons (xBin oIx (xVar 1) (xVar 2)) xNil))) [some (.tuple xs), some (.tuple xs), none] ((List.range xs.length).map fun i => PyData.int (i : Nat)) = some ((List.range xs.length).map fun _ => PyData.bool true) := by
    refine lcL_map _ _ _ fun i hi => ?_
    have hi' : i < xs.length := by simpa using hi
    simp [gSet, xCall, xCons, xNil, xBin, xVar, oIx, atI_nat xs i hi', h]
  simp [d__law_like, runD, g__law_like, sSeq, sIf, tOf, xBin, xVar, xC, oIs, isNone, dB, tTru, xUn, ist1, ist2, oTru, sNop, sRet, xCall, xCons, xNil, tOrP, tNotP, bLen, ne_int, xLc, xIt, hr, wipeP, hm, bAll, seqD, asBools_rng]
theorem like_fr (n : Nat) (p q : Int) : d__law_like (n + 2) [fr p q, fr p q] = some (.bool true) := by
  refine like_tup _ _ (by simp) fun x hx => ?_
  simp at hx
  rcases hx with rfl | rfl <;> exact like_int _ _
end K24

namespace K24
open PySem PySem.Spec PyProof.Rows L2 Pm
theorem common_loop : ∀ (N y : Nat), y < N → ∀ x : Nat, whileF (tOf (xBin oGt (xVar 1) (xC (.int 0)))) (sSeq (sPar [0, 1] (xCons (xVar 1) (xCons (xBin oMod (xCall bInt (xCons (xVar 0) xNil)) (xVar 1)) xNil))) sNop) N [some (.int x), some (.int y)] = some (.nx [some (.int (Nat.gcd x y : Nat)), some (.int 0)]) := by
  intro N
  induction N with
  | zero => intro y h; omega
  | succ N ih =>
    intro y hy x
    rw [whileF_succ]
    by_cases h0 : y = 0
    · subst h0
      simp [tOf, xBin, xVar, xC, oGt, dB]
    · have hp : 0 < y := by omega
      have e : ((x : Int).fmod (y : Int)) = ((x % y : Nat) : Int) := by
        rw [Int.fmod_eq_emod_of_nonneg _ (by omega)]
        rfl
      have hlt : x % y < y := Nat.mod_lt _ hp
      simp [tOf, xBin, xVar, xC, oGt, dB, hp, sSeq, sPar, xCons, xNil, xCall, bInt, oMod, h0, setAll, sNop, e]
      rw [← Int.natCast_emod, ih (x % y) (by omega) y, Nat.gcd_comm y, ← Nat.gcd_rec, Nat.gcd_comm]
theorem common_eq (a b : Int) (hb : Sm 1999 b) : d__law_common [.int a, .int b] = some (.int (Int.gcd a b : Nat)) := by
  have := common_loop fuelN b.natAbs (Sm.fuel hb) a.natAbs
  simp -implicitDefEqProofs only [d__law_common, g__law_common, xVar_a, xC_a, xBin_a, xUn_a, tOf_a, tTru_a, tNotP_a, tAndP_a, tOrP_a, tyes_a, tno_a, tYesP_a, xNil_a, xCons_a, xTup_a, xLst_a, xAnd_a, xOr_a, xIf_a, xChain_a, oNo_a, oAt_a, xSl_a, xCall_a, xSeq_a, xIt_a, xLc_a, gSet_a, gTupD_a, gsNil_a, gsCons_a, sNop_a, sBrk_a, sCnt_a, sSeq_a, sRet_a, sIf_a, sSet_a, sTgt_a, sAug_a, sApp_a, sExt_a, sPut_a, sPutK_a, pkO_s, sFor_a, sWhile_a, sPar_a, runD_a, b2_s, c2_s, sqO_nx, sqO_rt, sqO_bk, sqO_ct, ifO_t, ifO_f, stO_s, endO_nx, endO_rt, andO_t, andO_f, orO_t, orO_f, chO_s, chP_t, chP_f, slO_s, atO_i, lcO_s, forO_s, gsO_s, nxO_s, tgO_s, paO_s, apO_s, exO_s, plO_s, ptO_s, dB_b, tru_b, tru_n, tru_i, tru_l, tru_t, is_n, isn_n, nn_n, nn_i, nn_b, nn_t, nn_l, add_ii, add'_ii, sub_ii, neg_i, lt_ii, le_ii, gt_ii, ge_ii, ix_l, ix_t, ix_s, at0, at1, at2, sl_l, sl_t, len_l, len_t, len_s, abs_i, int_i, int_b, max_ii, min_ii, tup_s, lst_s, seq_l, seq_t, sum_s, wipe_n, wipe_c, mul_ii, fdiv_ii, mod_ii, add_ll, add_tt, setAll, mkT, mkL, oNot, List.getD_cons_zero, List.getD_cons_succ, List.length_cons, List.length_nil, List.set_cons_zero, List.set_cons_succ, List.map_cons, List.map_nil, List.replicate, List.cons_append, List.nil_append, List.append_nil, Option.bind_some, Option.map_some, List.all_cons, List.all_nil, if_true, if_false, reduceIte, Nat.reduceAdd, Nat.reduceSub, Nat.reduceLT, Nat.reduceLeDiff, Nat.reduceEqDiff, decide_true, decide_false, Bool.and_true, Bool.and_self, Bool.true_and, Bool.not_true, Bool.not_false, ne_eq, not_true_eq_false, not_false_eq_true, Nat.zero_add, Bool.false_eq_true, and_self, true_and, and_true, abs_eq, l1__law_common, this, Int.gcd]
theorem ratio_eq (a b : Int) (h0 : 0 < b) (hb : Sm 1999 b) : d__law_ratio [.int a, .int b] = some (fr a b) := by
  have hg := gcd_pos_of (p := a) h0
  have hs : Sm 1999 (Int.gcd a b : Int) := by
    show (Int.gcd a b : Int).natAbs ≤ 2 ^ 1999
    have : Int.gcd a b ≤ b.natAbs := Int.gcd_le_natAbs_right a (by omega)
    simpa using Nat.le_trans this hb
  have hd := hs.divOk (by omega) (by omega)
  have f1 : a.fdiv (Int.gcd a b : Int) = a / (Int.gcd a b : Int) := Int.fdiv_eq_ediv_of_nonneg _ (by omega)
  have f2 : b.fdiv (Int.gcd a b : Int) = b / (Int.gcd a b : Int) := Int.fdiv_eq_ediv_of_nonneg _ (by omega)
  have hn : ¬ b < 0 := by omega
  simp [d__law_ratio, runD, g__law_ratio, sSeq, sSet, sIf, tOf, xBin, xVar, xC, oLt, dB, hn, xCall, xCons, xNil, common_eq a b hb, sRet, xTup, oFdiv, hd, f1, f2, fr, sNop]
end K24

namespace K24
open PySem PySem.Spec PyProof.Rows L2 Pm
/-! ratios as rational numbers -/
def rd (x : Rat) : D := .tuple [.int x.num, .int x.den]
theorem fr_rd (p : Int) {q : Int} (hq : 0 < q) : fr p q = rd ((p : Rat) / (q : Rat)) := by
  unfold fr rd
  rw [← Rat.divInt_eq_div, Rat.num_divInt, Rat.den_divInt, if_neg (by omega), Int.sign_eq_one_of_pos hq, Int.one_mul, Int.gcd_comm q p]
  have : (((q.natAbs / Int.gcd p q : Nat)) : Int) = q / (Int.gcd p q : Int) := by
    rw [Int.natCast_ediv, Int.natAbs_of_nonneg (by omega)]
  rw [this]
theorem rat_eq (x : Rat) : x = (x.num : Rat) / ((x.den : Int) : Rat) := by
  have := Rat.num_divInt_den x
  rw [Rat.divInt_eq_div] at this
  exact this.symm
theorem den_pos (x : Rat) : (0 : Int) < (x.den : Int) := by
  have := x.den_pos
  omega
theorem rd_fr (x : Rat) : rd x = fr x.num x.den := by
  rw [fr_rd _ (den_pos x), ← rat_eq]
theorem rd_int (n : Int) : rd (n : Rat) = .tuple [.int n, .int 1] := rfl
/-- small ratios -/
def SR (k : Nat) (x : Rat) : Prop := Sm k x.num ∧ Sm k (x.den : Int)
theorem SR.mono {j k : Nat} {x : Rat} (h : SR j x) (hk : j ≤ k) : SR k x := ⟨h.1.mono hk, h.2.mono hk⟩
theorem SR.div {k : Nat} {p q : Int} (hp : Sm k p) (hq : Sm k q) (h0 : 0 < q) : SR k ((p : Rat) / (q : Rat)) := by
  obtain ⟨p', q', g, e, rfl, rfl, hg, hq', n1, n2⟩ := fr_parts p h0
  rw [fr_rd _ h0] at e
  unfold rd at e
  injection e with e
  injection e with e1 e2
  injection e2 with e2 e3
  injection e1 with e1
  injection e2 with e2
  refine ⟨?_, ?_⟩
  · rw [e1]
    exact hp.le n1
  · rw [e2]
    exact hq.le n2
theorem SR.int {k : Nat} {p : Int} (hp : Sm k p) : SR k (p : Rat) := by
  refine ⟨hp, ?_⟩
  show (1 : Int).natAbs ≤ 2 ^ k
  exact Nat.one_le_two_pow
theorem cast_pos {n : Int} (h : 0 < n) : (0 : Rat) < (n : Rat) := Rat.intCast_pos.mpr h
theorem rdiv_lt {a b c d : Rat} (hb : 0 < b) (hd : 0 < d) : a / b < c / d ↔ a * d < c * b := by
  rw [Rat.div_lt_iff hb]
  have : c / d * b = (c * b) / d := by grind
  rw [this, Rat.lt_div_iff hd]
theorem rdiv_add {a b c d : Rat} (hb : 0 < b) (hd : 0 < d) : a / b + c / d = (a * d + c * b) / (b * d) := by
  have h1: b ≠ 0 := by grind
  have h2 : d ≠ 0 := by grind
  grind
theorem rdiv_sub {a b c d : Rat} (hb : 0 < b) (hd : 0 < d) : a / b - c / d = (a * d - c * b) / (b * d) := by
  have h1: b ≠ 0 := by grind
  have h2 : d ≠ 0 := by grind
  grind
theorem rdiv_mul {a b c d : Rat} (hb : 0 < b) (hd : 0 < d) : a / b * (c / d) = (a * c) / (b * d) := by
  have h1: b ≠ 0 := by grind
  have h2 : d ≠ 0 := by grind
  grind
theorem rdiv_eq {a b c d : Rat} (hb : 0 < b) (hd : 0 < d) : a / b = c / d ↔ a * d = c * b := by
  have h1: b ≠ 0 := by grind
  have h2 : d ≠ 0 := by grind
  constructor
  · intro h
    have : a = c / d * b := by rw [← h]; grind
    grind
  · intro h
    grind
section
variable {p q r s : Int}
theorem qadd (hq : 0 < q) (hs : 0 < s) : (p : Rat) / q + (r : Rat) / s = ((p * s + r * q : Int) : Rat) / ((q * s : Int) : Rat) := by
  rw [rdiv_add (cast_pos hq) (cast_pos hs)]
  simp
theorem qsub (hq : 0 < q) (hs : 0 < s) : (p : Rat) / q - (r : Rat) / s = ((p * s - r * q : Int) : Rat) / ((q * s : Int) : Rat) := by
  rw [rdiv_sub (cast_pos hq) (cast_pos hs)]
  simp
theorem qmul (hq : 0 < q) (hs : 0 < s) : (p : Rat) / q * ((r : Rat) / s) = ((p * r : Int) : Rat) / ((q * s : Int) : Rat) := by
  rw [rdiv_mul (cast_pos hq) (cast_pos hs)]
  simp
theorem qlt (hq : 0 < q) (hs : 0 < s) : (p : Rat) / q < (r : Rat) / s ↔ p * s < r * q := by
  rw [rdiv_lt (cast_pos hq) (cast_pos hs)]
  exact_mod_cast Iff.rfl
theorem qeq (hq : 0 < q) (hs : 0 < s) : (p : Rat) / q = (r : Rat) / s ↔ p * s = r * q := by
  rw [rdiv_eq (cast_pos hq) (cast_pos hs)]
  exact_mod_cast Iff.rfl
end
theorem SR.add {i j : Nat} {x y : Rat} (hx : SR i x) (hy : SR j y) : SR (i + j + 1) (x + y) := by
  rw [rat_eq x, rat_eq y, qadd (den_pos x) (den_pos y)]
  exact SR.div (((hx.1.mul hy.2).mono (k := i + j) (by omega)).add ((hy.1.mul hx.2).mono (k := i + j) (by omega))) ((hx.2.mul hy.2).mono (by omega)) (Int.mul_pos (den_pos x) (den_pos y))
theorem SR.sub {i j : Nat} {x y : Rat} (hx : SR i x) (hy : SR j y) : SR (i + j + 1) (x - y) := by
  rw [rat_eq x, rat_eq y, qsub (den_pos x) (den_pos y)]
  exact SR.div (((hx.1.mul hy.2).mono (k := i + j) (by omega)).sub ((hy.1.mul hx.2).mono (k := i + j) (by omega))) ((hx.2.mul hy.2).mono (by omega)) (Int.mul_pos (den_pos x) (den_pos y))
theorem SR.mul {i j : Nat} {x y : Rat} (hx : SR i x) (hy : SR j y) : SR (i + j) (x * y) := by
  rw [rat_eq x, rat_eq y, qmul (den_pos x) (den_pos y)]
  exact SR.div ((hx.1.mul hy.1).mono (by omega)) ((hx.2.mul hy.2).mono (by omega)) (Int.mul_pos (den_pos x) (den_pos y))
theorem lowest_rd (a b : Int) (h0 : 0 < b) (hb : Sm 1999 b) : d_lowest [.int a, .int b] = some (rd ((a : Rat) / (b : Rat))) := by
  rw [lowest_eq a b h0 hb, fr_rd a h0]
theorem ratio_rd (a b : Int) (h0 : 0 < b) (hb : Sm 1999 b) : d__law_ratio [.int a, .int b] = some (rd ((a : Rat) / (b : Rat))) := by
  rw [ratio_eq a b h0 hb, fr_rd a h0]
theorem plus_rd {x y : Rat} (hx : SR 900 x) (hy : SR 900 y) : d_plus [rd x, rd y] = some (rd (x + y)) := by
  rw [rd_fr x, rd_fr y, plus_eq (den_pos x) (den_pos y) hx.1 hx.2 hy.1 hy.2, fr_rd _ (Int.mul_pos (den_pos x) (den_pos y)), ← qadd (den_pos x) (den_pos y), ← rat_eq, ← rat_eq]
theorem minus_rd {x y : Rat} (hx : SR 900 x) (hy : SR 900 y) : d_minus [rd x, rd y] = some (rd (x - y)) := by
  rw [rd_fr x, rd_fr y, minus_eq (den_pos x) (den_pos y) hx.1 hx.2 hy.1 hy.2, fr_rd _ (Int.mul_pos (den_pos x) (den_pos y)), ← qsub (den_pos x) (den_pos y), ← rat_eq, ← rat_eq]
theorem times_rd {x y : Rat} (hx : SR 900 x) (hy : SR 900 y) : d_times [rd x, rd y] = some (rd (x * y)) := by
  rw [rd_fr x, rd_fr y, times_eq (den_pos x) (den_pos y) hx.1 hx.2 hy.1 hy.2, fr_rd _ (Int.mul_pos (den_pos x) (den_pos y)), ← qmul (den_pos x) (den_pos y), ← rat_eq, ← rat_eq]
theorem is_less_rd {x y : Rat} (hx : SR 900 x) (hy : SR 900 y) : d_is_less [rd x, rd y] = some (.bool (decide (x < y))) := by
  rw [rd_fr x, rd_fr y, is_less_eq (den_pos x) (den_pos y) hx.1 hx.2 hy.1 hy.2]
  have := Rat.lt_iff x y
  rw [decide_eq_decide.mpr this]
theorem whole_rd (n : Int) : d_whole [.int n] = some (rd (n : Rat)) := rfl
theorem like_rd (n : Nat) (x : Rat) : d__law_like (n + 2) [rd x, rd x] = some (.bool true) := by
  rw [rd_fr]
  exact like_fr _ _ _
theorem flat_rd (x : Rat) : flat (rd x) = true := rfl
theorem rd_0 (x : Rat) : oIx (rd x) (.int 0) = some (.int x.num) := rfl
theorem rd_1 (x : Rat) : oIx (rd x) (.int 1) = some (.int x.den) := rfl
/-- a ratio or none -/
def od : Option Rat → D
  | none => .none
  | some x => rd x
def omax : Option Rat → Rat → Option Rat
  | none, y => some y
  | some x, y => some (if x < y then y else x)
def omin : Option Rat → Rat → Option Rat
  | none, y => some y
  | some x, y => some (if y < x then y else x)
theorem nn_rd (x : Rat) : isNone (rd x) = false := rfl
end K24

namespace K24
open PySem PySem.Spec PyProof.Rows L2 Pm
theorem cut_from (xs : List D) (n : Nat) (h : n ≤ xs.length) : Pm.cutD xs (some (n : Int)) none = xs.drop n := by
  unfold Pm.cutD
  rw [HT.sIx_none, HT.sIx_nat, Nat.min_eq_left h, ← List.length_drop, List.take_length]
theorem cut_upto (xs : List D) (n : Nat) : Pm.cutD xs none (some (n : Int)) = xs.take n := by
  unfold Pm.cutD
  rw [HT.sIx_none, List.drop_zero, Nat.sub_zero, HT.sIx_nat]
  rw [← List.take_take, List.take_length]
theorem oR2_ij {i j : Int} (h : -(2 ^ 60) ≤ i ∧ i < 2 ^ 60 ∧ -(2 ^ 60) ≤ j ∧ j < 2 ^ 60 ∧ j - i ≤ 16777216) : oR2 [.int i, .int j] = some (rangeD i 1 (j - i).toNat) := if_pos h
theorem oR2_list {i j : Int} (h : -1000 ≤ i ∧ i < 1000000 ∧ -1000 ≤ j ∧ j < 1000000) : oR2 [.int i, .int j] = some ((List.range (j - i).toNat).map fun k => PyData.int (i + (k : Nat))) := by
  rw [oR2_ij (by omega)]
  unfold rangeD
  simp
theorem enum_zip {α : Type} (enc : α → D) (S : List α) : enumD (S.map enc) = S.zipIdx.map fun p => .tuple [.int (p.2 : Nat), enc p.1] := by
  unfold enumD
  apply List.ext_getElem?
  intro i
  by_cases h : i < S.length
  · simp [h]
  · simp [h]
theorem zipIdx_ints {α : Type} (S : List α) (a : Nat) : (S.zipIdx a).map (fun p => PyData.int (p.2 : Nat)) = (List.range S.length).map fun (i : Nat) => PyData.int ((a : Int) + (i : Nat)) := by
  apply List.ext_getElem?
  intro i
  by_cases h : i < S.length
  · simp [h]
  · simp [h]
theorem zipIdx_ints0 {α : Type} (S : List α) : S.zipIdx.map (fun p => PyData.int (p.2 : Nat)) = (List.range S.length).map fun (i : Nat) => PyData.int (i : Nat) := by
  have := zipIdx_ints S 0
  simpa using this
/-! extremes -/
def mx (l : List Rat) : Option Rat := l.foldl omax none
def mn (l : List Rat) : Option Rat := l.foldl omin none
theorem mx_app (l : List Rat) (x : Rat) : mx (l ++ [x]) = omax (mx l) x := by simp [mx]
theorem mn_app (l : List Rat) (x : Rat) : mn (l ++ [x]) = omin (mn l) x := by simp [mn]
theorem mx_spec0 (l : List Rat) : ∀ (l' : List Rat) (o : Option Rat), l'.foldl omax o = o ∧ l' = [] ∨ ∃ m, l'.foldl omax o = some m ∧ (m ∈ l' ∨ o = some m) ∧ (∀ y ∈ l', y ≤ m) ∧ ∀ z, o = some z → z ≤ m := by
  intro l'
  induction l' with
  | nil => intro o; exact .inl ⟨rfl, rfl⟩
  | cons a l' ih =>
    intro o
    refine .inr ?_
    rw [List.foldl_cons]
    cases o with
    | none =>
      rcases ih (omax none a) with ⟨h, h2⟩ | ⟨m, h1, h2, h3, h4⟩
      · subst h2
        exact ⟨a, rfl, by simp, by intro y hy; simp at hy; subst hy; exact Rat.le_refl, by simp⟩
      · refine ⟨m, h1, ?_, ?_, by simp⟩
        · rcases h2 with h2 | h2
          · exact .inl (List.mem_cons_of_mem _ h2)
          · cases h2
            exact .inl (by simp)
        · intro y hy
          rcases List.mem_cons.mp hy with rfl | hy
          · exact h4 _ rfl
          · exact h3 y hy
    | some z =>
      rcases ih (omax (some z) a) with ⟨h, h2⟩ | ⟨m, h1, h2, h3, h4⟩
      · subst h2
        refine ⟨if z < a then a else z, rfl, ?_, ?_, ?_⟩
        · split
          · exact .inl (by simp)
          · exact .inr rfl
        · intro y hy
          simp at hy
          subst hy
          grind
        · intro z' hz'
          cases hz'
          grind
      · have h4' := h4 _ rfl
        refine ⟨m, h1, ?_, ?_, ?_⟩
        · rcases h2 with h2 | h2
          · exact .inl (List.mem_cons_of_mem _ h2)
          · injection h2 with h2
            by_cases hz : z < a
            · rw [if_pos hz] at h2
              subst h2
              exact .inl (by simp)
            · rw [if_neg hz] at h2
              subst h2
              exact .inr rfl
        · intro y hy
          rcases List.mem_cons.mp hy with rfl | hy
          · grind
          · exact h3 y hy
        · intro z' hz'
          cases hz'
          grind
theorem mx_spec {l : List Rat} (h : l ≠ []) : ∃ m, mx l = some m ∧ m ∈ l ∧ ∀ y ∈ l, y ≤ m := by
  rcases mx_spec0 l l none with ⟨_, h2⟩ | ⟨m, h1, h2, h3, _⟩
  · exact absurd h2 h
  · rcases h2 with h2 | h2
    · exact ⟨m, h1, h2, h3⟩
    · cases h2
theorem omin_neg (o : Option Rat) (x : Rat) : (omin o x).map (-·) = omax (o.map (-·)) (-x) := by
  cases o with
  | none => rfl
  | some z =>
    show some (-(if x < z then x else z)) = some (if -z < -x then -x else -z)
    congr 1
    grind
theorem mn_neg (l : List Rat) : (mn l).map (-·) = mx (l.map (-·)) := by
  have : ∀ (l : List Rat) o, (l.foldl omin o).map (-·) = (l.map (-·)).foldl omax (o.map (-·)) := by
    intro l
    induction l with
    | nil => intro o; rfl
    | cons a l ih => intro o; rw [List.foldl_cons, ih, omin_neg, List.map_cons, List.foldl_cons]
  exact this l none
theorem mn_spec {l : List Rat} (h : l ≠ []) : ∃ m, mn l = some m ∧ m ∈ l ∧ ∀ y ∈ l, m ≤ y := by
  obtain ⟨m, h1, h2, h3⟩ := mx_spec (l := l.map (-·)) (by simpa using h)
  rw [← mn_neg] at h1
  cases hm : mn l with
  | none => rw [hm] at h1; cases h1
  | some z =>
    rw [hm] at h1
    injection h1 with h1
    obtain ⟨w, hw, hw2⟩ := List.mem_map.mp h2
    have : w = z := by grind
    subst this
    refine ⟨w, rfl, hw, fun y hy => ?_⟩
    have := h3 (-y) (List.mem_map_of_mem hy)
    grind
theorem mx_eq {l : List Rat} {m : Rat} (h1 : m ∈ l) (h2 : ∀ y ∈ l, y ≤ m) : mx l = some m := by
  obtain ⟨m', e, h3, h4⟩ := mx_spec (l := l) (by intro h; rw [h] at h1; cases h1)
  have := h4 m h1
  have := h2 m' h3
  rw [e]
  congr 1
  grind
theorem mn_eq {l : List Rat} {m : Rat} (h1 : m ∈ l) (h2 : ∀ y ∈ l, m ≤ y) : mn l = some m := by
  obtain ⟨m', e, h3, h4⟩ := mn_spec (l := l) (by intro h; rw [h] at h1; cases h1)
  have := h4 m h1
  have := h2 m' h3
  rw [e]
  congr 1
  grind
theorem mx_mem {l : List Rat} {m : Rat} (h : mx l = some m) : m ∈ l := by
  by_cases h0 : l = []
  · subst h0
    cases h
  · obtain ⟨m', e, h3, h4⟩ := mx_spec h0
    rw [e] at h
    cases h
    exact h3
theorem mn_mem {l : List Rat} {m : Rat} (h : mn l = some m) : m ∈ l := by
  by_cases h0 : l = []
  · subst h0
    cases h
  · obtain ⟨m', e, h3, h4⟩ := mn_spec h0
    rw [e] at h
    cases h
    exact h3
theorem mx_all {k : Nat} {l : List Rat} (h : ∀ x ∈ l, SR k x) : ∀ m, mx l = some m → SR k m := fun m hm => h m (mx_mem hm)
theorem mn_all {k : Nat} {l : List Rat} (h : ∀ x ∈ l, SR k x) : ∀ m, mn l = some m → SR k m := fun m hm => h m (mn_mem hm)
/-! the running extremes in the program's words -/
theorem omaxO {o : Option Rat} {y : Rat} (ho : ∀ x, o = some x → SR 900 x) (hy : SR 900 y) (i j : Nat) (ρ : PEnv) (h1 : ρ.getD i none = some (od o)) (h2 : ρ.getD j none = some (rd y)) : xIf (tOrP (tOf (xBin oIs (xVar i) (xC .none))) (tTru (xCall (fun ds => if ds.length = 2 then (d_is_less) ds else none) (xCons (xVar i) (xCons (xVar j) xNil))))) (xVar j) (xVar i) ρ = some (od (omax o y)) := by
  cases o with
  | none => simp -implicitDefEqProofs only [xVar_a, xC_a, xBin_a, xUn_a, tOf_a, tTru_a, tNotP_a, tAndP_a, tOrP_a, tyes_a, tno_a, tYesP_a, xNil_a, xCons_a, xTup_a, xLst_a, xAnd_a, xOr_a, xIf_a, xChain_a, oNo_a, oAt_a, xSl_a, xCall_a, xSeq_a, xIt_a, xLc_a, gSet_a, gTupD_a, gsNil_a, gsCons_a, sNop_a, sBrk_a, sCnt_a, sSeq_a, sRet_a, sIf_a, sSet_a, sTgt_a, sAug_a, sApp_a, sExt_a, sPut_a, sPutK_a, pkO_s, sFor_a, sWhile_a, sPar_a, runD_a, b2_s, c2_s, sqO_nx, sqO_rt, sqO_bk, sqO_ct, ifO_t, ifO_f, stO_s, endO_nx, endO_rt, andO_t, andO_f, orO_t, orO_f, chO_s, chP_t, chP_f, slO_s, atO_i, lcO_s, forO_s, gsO_s, nxO_s, tgO_s, paO_s, apO_s, exO_s, plO_s, ptO_s, dB_b, tru_b, tru_n, tru_i, tru_l, tru_t, is_n, isn_n, nn_n, nn_i, nn_b, nn_t, nn_l, add_ii, add'_ii, sub_ii, neg_i, lt_ii, le_ii, gt_ii, ge_ii, ix_l, ix_t, ix_s, at0, at1, at2, sl_l, sl_t, len_l, len_t, len_s, abs_i, int_i, int_b, max_ii, min_ii, tup_s, lst_s, seq_l, seq_t, sum_s, wipe_n, wipe_c, mul_ii, fdiv_ii, mod_ii, add_ll, add_tt, setAll, mkT, mkL, oNot, List.getD_cons_zero, List.getD_cons_succ, List.length_cons, List.length_nil, List.set_cons_zero, List.set_cons_succ, List.map_cons, List.map_nil, List.replicate, List.cons_append, List.nil_append, List.append_nil, Option.bind_some, Option.map_some, List.all_cons, List.all_nil, if_true, if_false, reduceIte, Nat.reduceAdd, Nat.reduceSub, Nat.reduceLT, Nat.reduceLeDiff, Nat.reduceEqDiff, decide_true, decide_false, Bool.and_true, Bool.and_self, Bool.true_and, Bool.not_true, Bool.not_false, ne_eq, not_true_eq_false, not_false_eq_true, Nat.zero_add, Bool.false_eq_true, and_self, true_and, and_true, h1, h2, od, omax]
  | some x =>
    have hx := ho x rfl
    by_cases h : x < y
    · simp -implicitDefEqProofs only [xVar_a, xC_a, xBin_a, xUn_a, tOf_a, tTru_a, tNotP_a, tAndP_a, tOrP_a, tyes_a, tno_a, tYesP_a, xNil_a, xCons_a, xTup_a, xLst_a, xAnd_a, xOr_a, xIf_a, xChain_a, oNo_a, oAt_a, xSl_a, xCall_a, xSeq_a, xIt_a, xLc_a, gSet_a, gTupD_a, gsNil_a, gsCons_a, sNop_a, sBrk_a, sCnt_a, sSeq_a, sRet_a, sIf_a, sSet_a, sTgt_a, sAug_a, sApp_a, sExt_a, sPut_a, sPutK_a, pkO_s, sFor_a, sWhile_a, sPar_a, runD_a, b2_s, c2_s, sqO_nx, sqO_rt, sqO_bk, sqO_ct, ifO_t, ifO_f, stO_s, endO_nx, endO_rt, andO_t, andO_f, orO_t, orO_f, chO_s, chP_t, chP_f, slO_s, atO_i, lcO_s, forO_s, gsO_s, nxO_s, tgO_s, paO_s, apO_s, exO_s, plO_s, ptO_s, dB_b, tru_b, tru_n, tru_i, tru_l, tru_t, is_n, isn_n, nn_n, nn_i, nn_b, nn_t, nn_l, add_ii, add'_ii, sub_ii, neg_i, lt_ii, le_ii, gt_ii, ge_ii, ix_l, ix_t, ix_s, at0, at1, at2, sl_l, sl_t, len_l, len_t, len_s, abs_i, int_i, int_b, max_ii, min_ii, tup_s, lst_s, seq_l, seq_t, sum_s, wipe_n, wipe_c, mul_ii, fdiv_ii, mod_ii, add_ll, add_tt, setAll, mkT, mkL, oNot, List.getD_cons_zero, List.getD_cons_succ, List.length_cons, List.length_nil, List.set_cons_zero, List.set_cons_succ, List.map_cons, List.map_nil, List.replicate, List.cons_append, List.nil_append, List.append_nil, Option.bind_some, Option.map_some, List.all_cons, List.all_nil, if_true, if_false, reduceIte, Nat.reduceAdd, Nat.reduceSub, Nat.reduceLT, Nat.reduceLeDiff, Nat.reduceEqDiff, decide_true, decide_false, Bool.and_true, Bool.and_self, Bool.true_and, Bool.not_true, Bool.not_false, ne_eq, not_true_eq_false, not_false_eq_true, Nat.zero_add, Bool.false_eq_true, and_self, true_and, and_true, h1, h2, od, omax, nn_rd, is_less_rd hx hy, h]
    · simp -implicitDefEqProofs only [xVar_a, xC_a, xBin_a, xUn_a, tOf_a, tTru_a, tNotP_a, tAndP_a, tOrP_a, tyes_a, tno_a, tYesP_a, xNil_a, xCons_a, xTup_a, xLst_a, xAnd_a, xOr_a, xIf_a, xChain_a, oNo_a, oAt_a, xSl_a, xCall_a, xSeq_a, xIt_a, xLc_a, gSet_a, gTupD_a, gsNil_a, gsCons_a, sNop_a, sBrk_a, sCnt_a, sSeq_a, sRet_a, sIf_a, sSet_a, sTgt_a, sAug_a, sApp_a, sExt_a, sPut_a, sPutK_a, pkO_s, sFor_a, sWhile_a, sPar_a, runD_a, b2_s, c2_s, sqO_nx, sqO_rt, sqO_bk, sqO_ct, ifO_t, ifO_f, stO_s, endO_nx, endO_rt, andO_t, andO_f, orO_t, orO_f, chO_s, chP_t, chP_f, slO_s, atO_i, lcO_s, forO_s, gsO_s, nxO_s, tgO_s, paO_s, apO_s, exO_s, plO_s, ptO_s, dB_b, tru_b, tru_n, tru_i, tru_l, tru_t, is_n, isn_n, nn_n, nn_i, nn_b, nn_t, nn_l, add_ii, add'_ii, sub_ii, neg_i, lt_ii, le_ii, gt_ii, ge_ii, ix_l, ix_t, ix_s, at0, at1, at2, sl_l, sl_t, len_l, len_t, len_s, abs_i, int_i, int_b, max_ii, min_ii, tup_s, lst_s, seq_l, seq_t, sum_s, wipe_n, wipe_c, mul_ii, fdiv_ii, mod_ii, add_ll, add_tt, setAll, mkT, mkL, oNot, List.getD_cons_zero, List.getD_cons_succ, List.length_cons, List.length_nil, List.set_cons_zero, List.set_cons_succ, List.map_cons, List.map_nil, List.replicate, List.cons_append, List.nil_append, List.append_nil, Option.bind_some, Option.map_some, List.all_cons, List.all_nil, if_true, if_false, reduceIte, Nat.reduceAdd, Nat.reduceSub, Nat.reduceLT, Nat.reduceLeDiff, Nat.reduceEqDiff, decide_true, decide_false, Bool.and_true, Bool.and_self, Bool.true_and, Bool.not_true, Bool.not_false, ne_eq, not_true_eq_false, not_false_eq_true, Nat.zero_add, Bool.false_eq_true, and_self, true_and, and_true, h1, h2, od, omax, nn_rd, is_less_rd hx hy, h]
theorem ominO {o : Option Rat} {y : Rat} (ho : ∀ x, o = some x → SR 900 x) (hy : SR 900 y) (i j : Nat) (ρ : PEnv) (h1 : ρ.getD i none = some (od o)) (h2 : ρ.getD j none = some (rd y)) : xIf (tOrP (tOf (xBin oIs (xVar i) (xC .none))) (tTru (xCall (fun ds => if ds.length = 2 then (d_is_less) ds else none) (xCons (xVar j) (xCons (xVar i) xNil))))) (xVar j) (xVar i) ρ = some (od (omin o y)) := by
  cases o with
  | none => simp -implicitDefEqProofs only [xVar_a, xC_a, xBin_a, xUn_a, tOf_a, tTru_a, tNotP_a, tAndP_a, tOrP_a, tyes_a, tno_a, tYesP_a, xNil_a, xCons_a, xTup_a, xLst_a, xAnd_a, xOr_a, xIf_a, xChain_a, oNo_a, oAt_a, xSl_a, xCall_a, xSeq_a, xIt_a, xLc_a, gSet_a, gTupD_a, gsNil_a, gsCons_a, sNop_a, sBrk_a, sCnt_a, sSeq_a, sRet_a, sIf_a, sSet_a, sTgt_a, sAug_a, sApp_a, sExt_a, sPut_a, sPutK_a, pkO_s, sFor_a, sWhile_a, sPar_a, runD_a, b2_s, c2_s, sqO_nx, sqO_rt, sqO_bk, sqO_ct, ifO_t, ifO_f, stO_s, endO_nx, endO_rt, andO_t, andO_f, orO_t, orO_f, chO_s, chP_t, chP_f, slO_s, atO_i, lcO_s, forO_s, gsO_s, nxO_s, tgO_s, paO_s, apO_s, exO_s, plO_s, ptO_s, dB_b, tru_b, tru_n, tru_i, tru_l, tru_t, is_n, isn_n, nn_n, nn_i, nn_b, nn_t, nn_l, add_ii, add'_ii, sub_ii, neg_i, lt_ii, le_ii, gt_ii, ge_ii, ix_l, ix_t, ix_s, at0, at1, at2, sl_l, sl_t, len_l, len_t, len_s, abs_i, int_i, int_b, max_ii, min_ii, tup_s, lst_s, seq_l, seq_t, sum_s, wipe_n, wipe_c, mul_ii, fdiv_ii, mod_ii, add_ll, add_tt, setAll, mkT, mkL, oNot, List.getD_cons_zero, List.getD_cons_succ, List.length_cons, List.length_nil, List.set_cons_zero, List.set_cons_succ, List.map_cons, List.map_nil, List.replicate, List.cons_append, List.nil_append, List.append_nil, Option.bind_some, Option.map_some, List.all_cons, List.all_nil, if_true, if_false, reduceIte, Nat.reduceAdd, Nat.reduceSub, Nat.reduceLT, Nat.reduceLeDiff, Nat.reduceEqDiff, decide_true, decide_false, Bool.and_true, Bool.and_self, Bool.true_and, Bool.not_true, Bool.not_false, ne_eq, not_true_eq_false, not_false_eq_true, Nat.zero_add, Bool.false_eq_true, and_self, true_and, and_true, h1, h2, od, omin]
  | some x =>
    have hx := ho x rfl
    by_cases h : y < x
    · simp -implicitDefEqProofs only [xVar_a, xC_a, xBin_a, xUn_a, tOf_a, tTru_a, tNotP_a, tAndP_a, tOrP_a, tyes_a, tno_a, tYesP_a, xNil_a, xCons_a, xTup_a, xLst_a, xAnd_a, xOr_a, xIf_a, xChain_a, oNo_a, oAt_a, xSl_a, xCall_a, xSeq_a, xIt_a, xLc_a, gSet_a, gTupD_a, gsNil_a, gsCons_a, sNop_a, sBrk_a, sCnt_a, sSeq_a, sRet_a, sIf_a, sSet_a, sTgt_a, sAug_a, sApp_a, sExt_a, sPut_a, sPutK_a, pkO_s, sFor_a, sWhile_a, sPar_a, runD_a, b2_s, c2_s, sqO_nx, sqO_rt, sqO_bk, sqO_ct, ifO_t, ifO_f, stO_s, endO_nx, endO_rt, andO_t, andO_f, orO_t, orO_f, chO_s, chP_t, chP_f, slO_s, atO_i, lcO_s, forO_s, gsO_s, nxO_s, tgO_s, paO_s, apO_s, exO_s, plO_s, ptO_s, dB_b, tru_b, tru_n, tru_i, tru_l, tru_t, is_n, isn_n, nn_n, nn_i, nn_b, nn_t, nn_l, add_ii, add'_ii, sub_ii, neg_i, lt_ii, le_ii, gt_ii, ge_ii, ix_l, ix_t, ix_s, at0, at1, at2, sl_l, sl_t, len_l, len_t, len_s, abs_i, int_i, int_b, max_ii, min_ii, tup_s, lst_s, seq_l, seq_t, sum_s, wipe_n, wipe_c, mul_ii, fdiv_ii, mod_ii, add_ll, add_tt, setAll, mkT, mkL, oNot, List.getD_cons_zero, List.getD_cons_succ, List.length_cons, List.length_nil, List.set_cons_zero, List.set_cons_succ, List.map_cons, List.map_nil, List.replicate, List.cons_append, List.nil_append, List.append_nil, Option.bind_some, Option.map_some, List.all_cons, List.all_nil, if_true, if_false, reduceIte, Nat.reduceAdd, Nat.reduceSub, Nat.reduceLT, Nat.reduceLeDiff, Nat.reduceEqDiff, decide_true, decide_false, Bool.and_true, Bool.and_self, Bool.true_and, Bool.not_true, Bool.not_false, ne_eq, not_true_eq_false, not_false_eq_true, Nat.zero_add, Bool.false_eq_true, and_self, true_and, and_true, h1, h2, od, omin, nn_rd, is_less_rd hy hx, h]
    · simp -implicitDefEqProofs only [xVar_a, xC_a, xBin_a, xUn_a, tOf_a, tTru_a, tNotP_a, tAndP_a, tOrP_a, tyes_a, tno_a, tYesP_a, xNil_a, xCons_a, xTup_a, xLst_a, xAnd_a, xOr_a, xIf_a, xChain_a, oNo_a, oAt_a, xSl_a, xCall_a, xSeq_a, xIt_a, xLc_a, gSet_a, gTupD_a, gsNil_a, gsCons_a, sNop_a, sBrk_a, sCnt_a, sSeq_a, sRet_a, sIf_a, sSet_a, sTgt_a, sAug_a, sApp_a, sExt_a, sPut_a, sPutK_a, pkO_s, sFor_a, sWhile_a, sPar_a, runD_a, b2_s, c2_s, sqO_nx, sqO_rt, sqO_bk, sqO_ct, ifO_t, ifO_f, stO_s, endO_nx, endO_rt, andO_t, andO_f, orO_t, orO_f, chO_s, chP_t, chP_f, slO_s, atO_i, lcO_s, forO_s, gsO_s, nxO_s, tgO_s, paO_s, apO_s, exO_s, plO_s, ptO_s, dB_b, tru_b, tru_n, tru_i, tru_l, tru_t, is_n, isn_n, nn_n, nn_i, nn_b, nn_t, nn_l, add_ii, add'_ii, sub_ii, neg_i, lt_ii, le_ii, gt_ii, ge_ii, ix_l, ix_t, ix_s, at0, at1, at2, sl_l, sl_t, len_l, len_t, len_s, abs_i, int_i, int_b, max_ii, min_ii, tup_s, lst_s, seq_l, seq_t, sum_s, wipe_n, wipe_c, mul_ii, fdiv_ii, mod_ii, add_ll, add_tt, setAll, mkT, mkL, oNot, List.getD_cons_zero, List.getD_cons_succ, List.length_cons, List.length_nil, List.set_cons_zero, List.set_cons_succ, List.map_cons, List.map_nil, List.replicate, List.cons_append, List.nil_append, List.append_nil, Option.bind_some, Option.map_some, List.all_cons, List.all_nil, if_true, if_false, reduceIte, Nat.reduceAdd, Nat.reduceSub, Nat.reduceLT, Nat.reduceLeDiff, Nat.reduceEqDiff, decide_true, decide_false, Bool.and_true, Bool.and_self, Bool.true_and, Bool.not_true, Bool.not_false, ne_eq, not_true_eq_false, not_false_eq_true, Nat.zero_add, Bool.false_eq_true, and_self, true_and, and_true, h1, h2, od, omin, nn_rd, is_less_rd hy hx, h]
/-! soundings -/
abbrev Sd := Int × Int
def enc (s : Sd) : D := .tuple [.int s.1, .int s.2]
def OkS (S : List Sd) : Prop := ∀ s ∈ S, Sm 10 s.1 ∧ Sm 10 s.2
end K24

namespace K24
open PySem PySem.Spec PyProof.Rows L2 Pm
def Inc (S : List Sd) : Prop := S.Pairwise fun s t => s.1 < t.1
def OkP (p : Sd × Sd) : Prop := p.1.1 < p.2.1 ∧ Sm 10 p.1.1 ∧ Sm 10 p.1.2 ∧ Sm 10 p.2.1 ∧ Sm 10 p.2.2
theorem okp_way {p : Sd × Sd} (h : OkP p) : Sm 11 (p.2.1 - p.1.1) := (h.2.2.2.1.sub h.2.1).mono (by omega)
theorem okp_rise {p : Sd × Sd} (h : OkP p) : Sm 11 (p.2.2 - p.1.2) := (h.2.2.2.2.sub h.2.2.1).mono (by omega)
theorem sm_2e {e : Int} (he : Sm 10 e) : Sm 12 (2 * e) := ((Sm.lit (k := 10) (a := 2)).mul he |>.le (b := 2 * e) (Nat.le_refl _)) |> fun _ => by
  unfold Sm at *
  omega
theorem zipIdx_split {α : Type} {S : List α} {pre rest : List (α × Nat)} {x : α × Nat} (h : pre ++ x :: rest = S.zipIdx) : x.2 = pre.length ∧ S.drop (x.2 + 1) = rest.map Prod.fst ∧ x.2 < S.length ∧ S[x.2]? = some x.1 ∧ S = pre.map Prod.fst ++ x.1 :: rest.map Prod.fst := by
  have h1 : S.zipIdx[pre.length]? = some x := by rw [← h]; simp
  have h2 : S = (pre ++ x :: rest).map Prod.fst := by rw [h]; simp
  rw [List.map_append, List.map_cons] at h2
  have h3 : x.2 = pre.length := by
    rw [List.getElem?_zipIdx] at h1
    cases hq : S[pre.length]? with
    | none => rw [hq] at h1; cases h1
    | some z => rw [hq] at h1; simp at h1; rw [← h1]
  refine ⟨h3, ?_, ?_, ?_, h2⟩
  · rw [h3]
    conv => lhs; rw [h2]
    rw [show pre.map Prod.fst ++ x.1 :: rest.map Prod.fst = (pre.map Prod.fst ++ [x.1]) ++ rest.map Prod.fst by simp]
    exact List.drop_left' (by simp)
  · rw [h3, h2]
    simp
  · rw [h3]
    conv => lhs; rw [h2]
    simp
end K24

namespace K24
open PySem PySem.Spec PyProof.Rows L2 Pm
def sq (S : List Sd) (f : Sd → Int) : Int := (S.map f).sum
theorem sq_cons (s : Sd) (S : List Sd) (f : Sd → Int) : sq (s :: S) f = f s + sq S f := by simp [sq]
theorem sum_f (S : List Sd) (f : Sd → Int) : bSum [.list (S.map fun s => PyData.int (f s))] = some (.int (sq S f)) := by
  rw [sum_s, seq_l, Option.bind_some, show (S.map fun s => PyData.int (f s)) = (S.map f).map PyData.int by rw [List.map_map]; rfl, asInts_map]
  rfl
theorem sq_sm {k : Nat} {f : Sd → Int} : ∀ {S : List Sd}, (∀ s ∈ S, Sm k (f s)) → S.length ≤ 1000 → Sm (k + 10) (sq S f) := by
  suffices h : ∀ {S : List Sd}, (∀ s ∈ S, Sm k (f s)) → (sq S f).natAbs ≤ S.length * 2 ^ k by
    intro S h1 h2
    have := h h1
    unfold Sm
    rw [Nat.pow_add]
    have h3 : S.length * 2 ^ k ≤ 1024 * 2 ^ k := Nat.mul_le_mul_right _ (by omega)
    omega
  intro S
  induction S with
  | nil => intro _; simp [sq]
  | cons s S ih =>
    intro h1
    have h2 := ih fun t ht => h1 t (by simp [ht])
    have h3 := h1 s (by simp)
    unfold Sm at h3
    rw [sq_cons, List.length_cons, Nat.succ_mul]
    have := Int.natAbs_add_le (f s) (sq S f)
    omega
def hB (S : List Sd) : Int := sq S fun s => s.1
def dB2 (S : List Sd) : Int := sq S fun s => s.2
def bB (S : List Sd) : Int := sq S fun s => s.1 * s.2
def qB (S : List Sd) : Int := sq S fun s => s.1 * s.1
def under (S : List Sd) : Int := (S.length : Int) * qB S - hB S * hB S
theorem sqd_nonneg (x : Int) : 0 ≤ x * x := by
  rcases Int.le_total 0 x with h | h
  · exact Int.mul_nonneg h h
  · exact Int.mul_nonneg_of_nonpos_of_nonpos h h
theorem under_cons (a : Sd) (S : List Sd) : under (a :: S) = under S + sq S fun s => (s.1 - a.1) * (s.1 - a.1) := by
  have h : (sq S fun s => (s.1 - a.1) * (s.1 - a.1)) = qB S - 2 * a.1 * hB S + (S.length : Int) * (a.1 * a.1) := by
    unfold qB hB
    induction S with
    | nil => simp [sq]
    | cons s S ih =>
      rw [sq_cons, sq_cons, sq_cons, ih, List.length_cons]
      push_cast
      grind
  rw [h]
  unfold under qB hB
  rw [sq_cons, sq_cons, List.length_cons]
  push_cast
  grind
theorem sq_nonneg {S : List Sd} {f : Sd → Int} (h : ∀ s, 0 ≤ f s) : 0 ≤ sq S f := by
  induction S with
  | nil => simp [sq]
  | cons s S ih => rw [sq_cons]; have := h s; omega
theorem under_nonneg : ∀ S : List Sd, 0 ≤ under S
  | [] => by simp [under, qB, hB, sq]
  | a :: S => by
    rw [under_cons]
    have := under_nonneg S
    have := sq_nonneg (S := S) (f := fun s => (s.1 - a.1) * (s.1 - a.1)) fun s => sqd_nonneg _
    omega
theorem over_rd {x : Rat} {n : Int} (hx : SR 900 x) (hn : 0 < n) (sn : Sm 900 n) : d_over [rd x, rd (n : Rat)] = some (rd (x / (n : Rat))) := by
  have hd := den_pos x
  have m1 : mulOk x.num 1 = true := hx.1.mulOk (Sm.lit (k := 10)) (by omega) (by omega)
  have m2 := hx.2.mulOk sn (by omega) (by omega)
  have hl := lowest_rd (x.num * 1) ((x.den : Int) * n) (Int.mul_pos hd hn) ((hx.2.mul sn).mono (by omega))
  have e : ((x.num * 1 : Int) : Rat) / (((x.den : Int) * n : Int) : Rat) = x / (n : Rat) := by
    conv => rhs; rw [rat_eq x]
    have h1 : ((x.den : Int) : Rat) ≠ 0 := by have := cast_pos hd; grind
    have h2 : (n : Rat) ≠ 0 := by have := cast_pos hn; grind
    push_cast
    grind
  rw [e] at hl
  simp -implicitDefEqProofs only [d_over, g_over, d_parted, g_parted, xVar_a, xC_a, xBin_a, xUn_a, tOf_a, tTru_a, tNotP_a, tAndP_a, tOrP_a, tyes_a, tno_a, tYesP_a, xNil_a, xCons_a, xTup_a, xLst_a, xAnd_a, xOr_a, xIf_a, xChain_a, oNo_a, oAt_a, xSl_a, xCall_a, xSeq_a, xIt_a, xLc_a, gSet_a, gTupD_a, gsNil_a, gsCons_a, sNop_a, sBrk_a, sCnt_a, sSeq_a, sRet_a, sIf_a, sSet_a, sTgt_a, sAug_a, sApp_a, sExt_a, sPut_a, sPutK_a, pkO_s, sFor_a, sWhile_a, sPar_a, runD_a, b2_s, c2_s, sqO_nx, sqO_rt, sqO_bk, sqO_ct, ifO_t, ifO_f, stO_s, endO_nx, endO_rt, andO_t, andO_f, orO_t, orO_f, chO_s, chP_t, chP_f, slO_s, atO_i, lcO_s, forO_s, gsO_s, nxO_s, tgO_s, paO_s, apO_s, exO_s, plO_s, ptO_s, dB_b, tru_b, tru_n, tru_i, tru_l, tru_t, is_n, isn_n, nn_n, nn_i, nn_b, nn_t, nn_l, add_ii, add'_ii, sub_ii, neg_i, lt_ii, le_ii, gt_ii, ge_ii, ix_l, ix_t, ix_s, at0, at1, at2, sl_l, sl_t, len_l, len_t, len_s, abs_i, int_i, int_b, max_ii, min_ii, tup_s, lst_s, seq_l, seq_t, sum_s, wipe_n, wipe_c, mul_ii, fdiv_ii, mod_ii, add_ll, add_tt, setAll, mkT, mkL, oNot, List.getD_cons_zero, List.getD_cons_succ, List.length_cons, List.length_nil, List.set_cons_zero, List.set_cons_succ, List.map_cons, List.map_nil, List.replicate, List.cons_append, List.nil_append, List.append_nil, Option.bind_some, Option.map_some, List.all_cons, List.all_nil, if_true, if_false, reduceIte, Nat.reduceAdd, Nat.reduceSub, Nat.reduceLT, Nat.reduceLeDiff, Nat.reduceEqDiff, decide_true, decide_false, Bool.and_true, Bool.and_self, Bool.true_and, Bool.not_true, Bool.not_false, ne_eq, not_true_eq_false, not_false_eq_true, Nat.zero_add, Bool.false_eq_true, and_self, true_and, and_true, rd_0, rd_1, rd_int, m1, m2, hl]
theorem flat_int (x : Int) : flat (rd (x : Rat)) = true := rfl
theorem best_line_eq {S : List Sd} (hS : OkS S) (hu : 0 < under S) (hl : S.length ≤ 1000) (h2 : 2 ≤ S.length) :
    d_best_line [.tuple (S.map enc)] = some (.tuple [rd (((S.length : Int) * bB S - hB S * dB2 S : Int) / (under S : Rat)), rd (((dB2 S * qB S - hB S * bB S : Int) : Rat) / (under S : Rat))]) := by
  have sh : Sm 20 (hB S) := sq_sm (fun s hs => (hS s hs).1) hl
  have sd : Sm 20 (dB2 S) := sq_sm (fun s hs => (hS s hs).2) hl
  have sb : Sm 30 (bB S) := sq_sm (fun s hs => (hS s hs).1.mul (hS s hs).2) hl
  have sqq : Sm 30 (qB S) := sq_sm (fun s hs => (hS s hs).1.mul (hS s hs).1) hl
  have sn : Sm 10 (S.length : Int) := by unfold Sm; omega
  have k1 := sn.mulOk sb (by omega) (by omega)
  have k2 := sh.mulOk sd (by omega) (by omega)
  have k3 := sn.mulOk sqq (by omega) (by omega)
  have k4 := sh.mulOk sh (by omega) (by omega)
  have su : Sm 41 (under S) := (((sn.mul sqq).mono (k := 40) (by omega)).sub ((sh.mul sh).mono (k := 40) (by omega)))
  have st : Sm 41 ((S.length : Int) * bB S - hB S * dB2 S) := (((sn.mul sb).mono (k := 40) (by omega)).sub ((sh.mul sd).mono (k := 40) (by omega)))
  have hw := lowest_rd ((S.length : Int) * bB S - hB S * dB2 S) (under S) hu (su.mono (by omega))
  have sr : SR 41 ((((S.length : Int) * bB S - hB S * dB2 S : Int) : Rat) / (under S : Rat)) := SR.div st su hu
  generalize hr : ((((S.length : Int) * bB S - hB S * dB2 S : Int) : Rat) / (under S : Rat)) = r at *
  have t1 := times_rd (sr.mono (by omega)) (SR.int (k := 900) (sh.mono (by omega)))
  have t2 := minus_rd (SR.int (k := 900) (sd.mono (by omega))) ((sr.mul (SR.int sh)).mono (by omega))
  have t3 := over_rd (n := (S.length : Int)) (((SR.int sd).sub (sr.mul (SR.int sh))).mono (k := 900) (by omega)) (by omega) (sn.mono (by omega))
  have e : ((dB2 S : Rat) - r * (hB S : Rat)) / ((S.length : Int) : Rat) = ((dB2 S * qB S - hB S * bB S : Int) : Rat) / (under S : Rat) := by
    have h1 : (0 : Rat) < (under S : Rat) := cast_pos hu
    have h3 : (0 : Rat) < ((S.length : Int) : Rat) := cast_pos (by omega)
    have h4 : r * (under S : Rat) = (((S.length : Int) * bB S - hB S * dB2 S : Int) : Rat) := by rw [← hr]; exact Rat.div_mul_cancel (by grind)
    rw [rdiv_eq h3 h1]
    have : ((dB2 S : Rat) - r * (hB S : Rat)) * (under S : Rat) = (dB2 S : Rat) * (under S : Rat) - (r * (under S : Rat)) * (hB S : Rat) := by grind
    rw [this, h4]
    unfold under
    push_cast
    grind
  rw [e] at t3
  have f1 := sum_f S fun s => s.1
  have f2 := sum_f S fun s => s.2
  have f3 := sum_f S fun s => s.1 * s.2
  have f4 := sum_f S fun s => s.1 * s.1
  have L : ∀ (ρ : PEnv), ρ.length = 9 → lcL (gTupD 2 (gsCons (gSet 7) (gsCons (gSet 8) gsNil))) tYesP (xVar 7) ρ (S.map enc) = some (S.map fun s => PyData.int s.1) ∧ lcL (gTupD 2 (gsCons (gSet 7) (gsCons (gSet 8) gsNil))) tYesP (xVar 8) ρ (S.map enc) = some (S.map fun s => PyData.int s.2) ∧ lcL (gTupD 2 (gsCons (gSet 7) (gsCons (gSet 8) gsNil))) tYesP (xBin oMul' (xVar 7) (xVar 8)) ρ (S.map enc) = some (S.map fun s => PyData.int (s.1 * s.2)) ∧ lcL (gTupD 2 (gsCons (gSet 7) (gsCons (gSet 8) gsNil))) tYesP (xBin oMul' (xVar 7) (xVar 7)) ρ (S.map enc) = some (S.map fun s => PyData.int (s.1 * s.1)) := by
    intro ρ hρ
    match ρ, hρ with
    | [a, b, c, d, f, g, h, i, j], _ =>
      refine ⟨lcL_map _ _ _ fun s hs => ?_, lcL_map _ _ _ fun s hs => ?_, lcL_map _ _ _ fun s hs => ?_, lcL_map _ _ _ fun s hs => ?_⟩
      · simp -implicitDefEqProofs only [enc, xVar_a, xC_a, xBin_a, xUn_a, tOf_a, tTru_a, tNotP_a, tAndP_a, tOrP_a, tyes_a, tno_a, tYesP_a, xNil_a, xCons_a, xTup_a, xLst_a, xAnd_a, xOr_a, xIf_a, xChain_a, oNo_a, oAt_a, xSl_a, xCall_a, xSeq_a, xIt_a, xLc_a, gSet_a, gTupD_a, gsNil_a, gsCons_a, sNop_a, sBrk_a, sCnt_a, sSeq_a, sRet_a, sIf_a, sSet_a, sTgt_a, sAug_a, sApp_a, sExt_a, sPut_a, sPutK_a, pkO_s, sFor_a, sWhile_a, sPar_a, runD_a, b2_s, c2_s, sqO_nx, sqO_rt, sqO_bk, sqO_ct, ifO_t, ifO_f, stO_s, endO_nx, endO_rt, andO_t, andO_f, orO_t, orO_f, chO_s, chP_t, chP_f, slO_s, atO_i, lcO_s, forO_s, gsO_s, nxO_s, tgO_s, paO_s, apO_s, exO_s, plO_s, ptO_s, dB_b, tru_b, tru_n, tru_i, tru_l, tru_t, is_n, isn_n, nn_n, nn_i, nn_b, nn_t, nn_l, add_ii, add'_ii, sub_ii, neg_i, lt_ii, le_ii, gt_ii, ge_ii, ix_l, ix_t, ix_s, at0, at1, at2, sl_l, sl_t, len_l, len_t, len_s, abs_i, int_i, int_b, max_ii, min_ii, tup_s, lst_s, seq_l, seq_t, sum_s, wipe_n, wipe_c, mul_ii, fdiv_ii, mod_ii, add_ll, add_tt, setAll, mkT, mkL, oNot, List.getD_cons_zero, List.getD_cons_succ, List.length_cons, List.length_nil, List.set_cons_zero, List.set_cons_succ, List.map_cons, List.map_nil, List.replicate, List.cons_append, List.nil_append, List.append_nil, Option.bind_some, Option.map_some, List.all_cons, List.all_nil, if_true, if_false, reduceIte, Nat.reduceAdd, Nat.reduceSub, Nat.reduceLT, Nat.reduceLeDiff, Nat.reduceEqDiff, decide_true, decide_false, Bool.and_true, Bool.and_self, Bool.true_and, Bool.not_true, Bool.not_false, ne_eq, not_true_eq_false, not_false_eq_true, Nat.zero_add, Bool.false_eq_true, and_self, true_and, and_true]
      · simp -implicitDefEqProofs only [enc, xVar_a, xC_a, xBin_a, xUn_a, tOf_a, tTru_a, tNotP_a, tAndP_a, tOrP_a, tyes_a, tno_a, tYesP_a, xNil_a, xCons_a, xTup_a, xLst_a, xAnd_a, xOr_a, xIf_a, xChain_a, oNo_a, oAt_a, xSl_a, xCall_a, xSeq_a, xIt_a, xLc_a, gSet_a, gTupD_a, gsNil_a, gsCons_a, sNop_a, sBrk_a, sCnt_a, sSeq_a, sRet_a, sIf_a, sSet_a, sTgt_a, sAug_a, sApp_a, sExt_a, sPut_a, sPutK_a, pkO_s, sFor_a, sWhile_a, sPar_a, runD_a, b2_s, c2_s, sqO_nx, sqO_rt, sqO_bk, sqO_ct, ifO_t, ifO_f, stO_s, endO_nx, endO_rt, andO_t, andO_f, orO_t, orO_f, chO_s, chP_t, chP_f, slO_s, atO_i, lcO_s, forO_s, gsO_s, nxO_s, tgO_s, paO_s, apO_s, exO_s, plO_s, ptO_s, dB_b, tru_b, tru_n, tru_i, tru_l, tru_t, is_n, isn_n, nn_n, nn_i, nn_b, nn_t, nn_l, add_ii, add'_ii, sub_ii, neg_i, lt_ii, le_ii, gt_ii, ge_ii, ix_l, ix_t, ix_s, at0, at1, at2, sl_l, sl_t, len_l, len_t, len_s, abs_i, int_i, int_b, max_ii, min_ii, tup_s, lst_s, seq_l, seq_t, sum_s, wipe_n, wipe_c, mul_ii, fdiv_ii, mod_ii, add_ll, add_tt, setAll, mkT, mkL, oNot, List.getD_cons_zero, List.getD_cons_succ, List.length_cons, List.length_nil, List.set_cons_zero, List.set_cons_succ, List.map_cons, List.map_nil, List.replicate, List.cons_append, List.nil_append, List.append_nil, Option.bind_some, Option.map_some, List.all_cons, List.all_nil, if_true, if_false, reduceIte, Nat.reduceAdd, Nat.reduceSub, Nat.reduceLT, Nat.reduceLeDiff, Nat.reduceEqDiff, decide_true, decide_false, Bool.and_true, Bool.and_self, Bool.true_and, Bool.not_true, Bool.not_false, ne_eq, not_true_eq_false, not_false_eq_true, Nat.zero_add, Bool.false_eq_true, and_self, true_and, and_true]
      · have m := (hS s hs).1.mulOk (hS s hs).2 (by omega) (by omega)
        simp -implicitDefEqProofs only [enc, xVar_a, xC_a, xBin_a, xUn_a, tOf_a, tTru_a, tNotP_a, tAndP_a, tOrP_a, tyes_a, tno_a, tYesP_a, xNil_a, xCons_a, xTup_a, xLst_a, xAnd_a, xOr_a, xIf_a, xChain_a, oNo_a, oAt_a, xSl_a, xCall_a, xSeq_a, xIt_a, xLc_a, gSet_a, gTupD_a, gsNil_a, gsCons_a, sNop_a, sBrk_a, sCnt_a, sSeq_a, sRet_a, sIf_a, sSet_a, sTgt_a, sAug_a, sApp_a, sExt_a, sPut_a, sPutK_a, pkO_s, sFor_a, sWhile_a, sPar_a, runD_a, b2_s, c2_s, sqO_nx, sqO_rt, sqO_bk, sqO_ct, ifO_t, ifO_f, stO_s, endO_nx, endO_rt, andO_t, andO_f, orO_t, orO_f, chO_s, chP_t, chP_f, slO_s, atO_i, lcO_s, forO_s, gsO_s, nxO_s, tgO_s, paO_s, apO_s, exO_s, plO_s, ptO_s, dB_b, tru_b, tru_n, tru_i, tru_l, tru_t, is_n, isn_n, nn_n, nn_i, nn_b, nn_t, nn_l, add_ii, add'_ii, sub_ii, neg_i, lt_ii, le_ii, gt_ii, ge_ii, ix_l, ix_t, ix_s, at0, at1, at2, sl_l, sl_t, len_l, len_t, len_s, abs_i, int_i, int_b, max_ii, min_ii, tup_s, lst_s, seq_l, seq_t, sum_s, wipe_n, wipe_c, mul_ii, fdiv_ii, mod_ii, add_ll, add_tt, setAll, mkT, mkL, oNot, List.getD_cons_zero, List.getD_cons_succ, List.length_cons, List.length_nil, List.set_cons_zero, List.set_cons_succ, List.map_cons, List.map_nil, List.replicate, List.cons_append, List.nil_append, List.append_nil, Option.bind_some, Option.map_some, List.all_cons, List.all_nil, if_true, if_false, reduceIte, Nat.reduceAdd, Nat.reduceSub, Nat.reduceLT, Nat.reduceLeDiff, Nat.reduceEqDiff, decide_true, decide_false, Bool.and_true, Bool.and_self, Bool.true_and, Bool.not_true, Bool.not_false, ne_eq, not_true_eq_false, not_false_eq_true, Nat.zero_add, Bool.false_eq_true, and_self, true_and, and_true, m]
      · have m := (hS s hs).1.mulOk (hS s hs).1 (by omega) (by omega)
        simp -implicitDefEqProofs only [enc, xVar_a, xC_a, xBin_a, xUn_a, tOf_a, tTru_a, tNotP_a, tAndP_a, tOrP_a, tyes_a, tno_a, tYesP_a, xNil_a, xCons_a, xTup_a, xLst_a, xAnd_a, xOr_a, xIf_a, xChain_a, oNo_a, oAt_a, xSl_a, xCall_a, xSeq_a, xIt_a, xLc_a, gSet_a, gTupD_a, gsNil_a, gsCons_a, sNop_a, sBrk_a, sCnt_a, sSeq_a, sRet_a, sIf_a, sSet_a, sTgt_a, sAug_a, sApp_a, sExt_a, sPut_a, sPutK_a, pkO_s, sFor_a, sWhile_a, sPar_a, runD_a, b2_s, c2_s, sqO_nx, sqO_rt, sqO_bk, sqO_ct, ifO_t, ifO_f, stO_s, endO_nx, endO_rt, andO_t, andO_f, orO_t, orO_f, chO_s, chP_t, chP_f, slO_s, atO_i, lcO_s, forO_s, gsO_s, nxO_s, tgO_s, paO_s, apO_s, exO_s, plO_s, ptO_s, dB_b, tru_b, tru_n, tru_i, tru_l, tru_t, is_n, isn_n, nn_n, nn_i, nn_b, nn_t, nn_l, add_ii, add'_ii, sub_ii, neg_i, lt_ii, le_ii, gt_ii, ge_ii, ix_l, ix_t, ix_s, at0, at1, at2, sl_l, sl_t, len_l, len_t, len_s, abs_i, int_i, int_b, max_ii, min_ii, tup_s, lst_s, seq_l, seq_t, sum_s, wipe_n, wipe_c, mul_ii, fdiv_ii, mod_ii, add_ll, add_tt, setAll, mkT, mkL, oNot, List.getD_cons_zero, List.getD_cons_succ, List.length_cons, List.length_nil, List.set_cons_zero, List.set_cons_succ, List.map_cons, List.map_nil, List.replicate, List.cons_append, List.nil_append, List.append_nil, Option.bind_some, Option.map_some, List.all_cons, List.all_nil, if_true, if_false, reduceIte, Nat.reduceAdd, Nat.reduceSub, Nat.reduceLT, Nat.reduceLeDiff, Nat.reduceEqDiff, decide_true, decide_false, Bool.and_true, Bool.and_self, Bool.true_and, Bool.not_true, Bool.not_false, ne_eq, not_true_eq_false, not_false_eq_true, Nat.zero_add, Bool.false_eq_true, and_self, true_and, and_true, m]
  have hlen : (S.map enc).length = S.length := List.length_map ..
  generalize (S.map enc) = M at *
  have eh : (sq S fun s => s.1) = hB S := rfl
  have ed : (sq S fun s => s.2) = dB2 S := rfl
  have eb : (sq S fun s => s.1 * s.2) = bB S := rfl
  have eq : (sq S fun s => s.1 * s.1) = qB S := rfl
  have eu : (S.length : Int) * qB S - hB S * hB S = under S := rfl
  rw [eh] at f1
  rw [ed] at f2
  rw [eb] at f3
  rw [eq] at f4
  have L1 := fun ρ h => (L ρ h).1
  have L2' := fun ρ h => (L ρ h).2.1
  have L3 := fun ρ h => (L ρ h).2.2.1
  have L4 := fun ρ h => (L ρ h).2.2.2
  generalize (S.map fun s => PyData.int s.1) = N1 at *
  generalize (S.map fun s => PyData.int s.2) = N2 at *
  generalize (S.map fun s => PyData.int (s.1 * s.2)) = N3 at *
  generalize (S.map fun s => PyData.int (s.1 * s.1)) = N4 at *
  simp -implicitDefEqProofs only [d_best_line, g_best_line, xVar_a, xC_a, xBin_a, xUn_a, tOf_a, tTru_a, tNotP_a, tAndP_a, tOrP_a, tyes_a, tno_a, tYesP_a, xNil_a, xCons_a, xTup_a, xLst_a, xAnd_a, xOr_a, xIf_a, xChain_a, oNo_a, oAt_a, xSl_a, xCall_a, xSeq_a, xIt_a, xLc_a, gSet_a, gTupD_a, gsNil_a, gsCons_a, sNop_a, sBrk_a, sCnt_a, sSeq_a, sRet_a, sIf_a, sSet_a, sTgt_a, sAug_a, sApp_a, sExt_a, sPut_a, sPutK_a, pkO_s, sFor_a, sWhile_a, sPar_a, runD_a, b2_s, c2_s, sqO_nx, sqO_rt, sqO_bk, sqO_ct, ifO_t, ifO_f, stO_s, endO_nx, endO_rt, andO_t, andO_f, orO_t, orO_f, chO_s, chP_t, chP_f, slO_s, atO_i, lcO_s, forO_s, gsO_s, nxO_s, tgO_s, paO_s, apO_s, exO_s, plO_s, ptO_s, dB_b, tru_b, tru_n, tru_i, tru_l, tru_t, is_n, isn_n, nn_n, nn_i, nn_b, nn_t, nn_l, add_ii, add'_ii, sub_ii, neg_i, lt_ii, le_ii, gt_ii, ge_ii, ix_l, ix_t, ix_s, at0, at1, at2, sl_l, sl_t, len_l, len_t, len_s, abs_i, int_i, int_b, max_ii, min_ii, tup_s, lst_s, seq_l, seq_t, sum_s, wipe_n, wipe_c, mul_ii, fdiv_ii, mod_ii, add_ll, add_tt, setAll, mkT, mkL, oNot, List.getD_cons_zero, List.getD_cons_succ, List.length_cons, List.length_nil, List.set_cons_zero, List.set_cons_succ, List.map_cons, List.map_nil, List.replicate, List.cons_append, List.nil_append, List.append_nil, Option.bind_some, Option.map_some, List.all_cons, List.all_nil, if_true, if_false, reduceIte, Nat.reduceAdd, Nat.reduceSub, Nat.reduceLT, Nat.reduceLeDiff, Nat.reduceEqDiff, decide_true, decide_false, Bool.and_true, Bool.and_self, Bool.true_and, Bool.not_true, Bool.not_false, ne_eq, not_true_eq_false, not_false_eq_true, Nat.zero_add, Bool.false_eq_true, and_self, true_and, and_true, hlen, L1, L2', L3, L4, f1, f2, f3, f4, k1, k2, k3, k4, eu, hw, whole_rd, flat_int, t1, t2, t3]
end K24

namespace K24
open PySem PySem.Spec PyProof.Rows L2 Pm
theorem like_rr (n : Nat) (x y : Rat) : d__law_like (n + 3) [.tuple [rd x, rd y], .tuple [rd x, rd y]] = some (.bool true) := by
  refine like_tup _ _ (by simp) fun z hz => ?_
  simp at hz
  rcases hz with rfl | rfl <;> exact like_rd _ _
theorem forL_find {β : Type} {g : D → PEnv → Option PEnv} {b : XS} (en : β → D) (P : β → Bool) (I : PEnv → Prop) (ret : β → D) : ∀ (xs : List β), (∀ x ∈ xs, ∀ ρ, I ρ → ∃ ρ1, g (en x) ρ = some ρ1 ∧ (P x = true → b ρ1 = some (.rt (ret x))) ∧ (P x = false → ∃ ρ2, b ρ1 = some (.nx ρ2) ∧ I ρ2)) →
    ∀ ρ, I ρ → (∃ x, xs.find? P = some x ∧ forL g b (xs.map en) ρ = some (.rt (ret x))) ∨ (xs.find? P = none ∧ ∃ ρ', forL g b (xs.map en) ρ = some (.nx ρ') ∧ I ρ')
  | [], _, ρ, h => .inr ⟨rfl, ρ, rfl, h⟩
  | x :: xs, hb, ρ, h => by
    obtain ⟨ρ1, e1, h1, h2⟩ := hb x (List.mem_cons_self ..) ρ h
    cases hp : P x with
    | true =>
      exact .inl ⟨x, by rw [List.find?_cons_of_pos hp], by simp only [List.map_cons, forL, e1, h1 hp, Option.bind_some]⟩
    | false =>
      obtain ⟨ρ2, e2, h3⟩ := h2 hp
      have hn : xs.find? P = (x :: xs).find? P := by rw [List.find?_cons_of_neg (by rw [hp]; decide)]
      rcases forL_find en P I ret xs (fun y hy => hb y (List.mem_cons_of_mem _ hy)) ρ2 h3 with ⟨z, z1, z2⟩ | ⟨z1, ρ', z2, z3⟩
      · exact .inl ⟨z, by rw [← hn, z1], by simp only [List.map_cons, forL, e1, e2, Option.bind_some, z2]⟩
      · exact .inr ⟨by rw [← hn, z1], ρ', by simp only [List.map_cons, forL, e1, e2, Option.bind_some, z2], z3⟩
def foundD {β : Type} (en : β → D) : Option β → D
  | some x => en x
  | none => .none
theorem atI_enc {S : List Sd} {i : Nat} {x : Sd} (h : S[i]? = some x) : atI (S.map enc) (i : Int) = some (enc x) := by
  have hl := (List.getElem?_eq_some_iff.mp h).1
  rw [atI_nat _ i (by rw [List.length_map]; exact hl), List.getElem_map]
  rw [List.getElem?_eq_getElem hl] at h
  injection h with h
  rw [h]
theorem enc_0 (x : Sd) : oIx (enc x) (.int 0) = some (.int x.1) := rfl
theorem enc_1 (x : Sd) : oIx (enc x) (.int 1) = some (.int x.2) := rfl
theorem same_hour {S : List Sd} (hi : Inc S) {s t : Sd} (hs : s ∈ S) (ht : t ∈ S) (e1 : s.1 = t.1) : s = t := by
  induction S with
  | nil => cases hs
  | cons a S ih =>
    have hi' := List.pairwise_cons.mp hi
    rcases List.mem_cons.mp hs with h1 | h1 <;> rcases List.mem_cons.mp ht with h2 | h2
    · rw [h1, h2]
    · have := hi'.1 t h2
      rw [h1] at e1
      omega
    · have := hi'.1 s h1
      rw [h2] at e1
      omega
    · exact ih hi'.2 h1 h2
def sqD (b : Bool) (xs : List D) : D := if b then .list xs else .tuple xs
def rs : List Rat → Rat
  | [] => 0
  | x :: l => x + rs l
theorem rs_app (l m : List Rat) : rs (l ++ m) = rs l + rs m := by
  induction l with
  | nil => show rs m = 0 + rs m; grind
  | cons x l ih => show x + rs (l ++ m) = x + rs l + rs m; grind
theorem law_sum_eq (bq : Bool) (xs : List Rat) (hx : ∀ x ∈ xs, SR 110 x) (hl : xs.length ≤ 15) : d__law_sum [sqD bq (xs.map rd)] = some (rd (rs xs)) := by
  have hq : seqD (sqD bq (xs.map rd)) = some (xs.map rd) := by cases bq <;> rfl
  obtain ⟨ρ', e1, h⟩ := forL_inv (g := gTupD 2 (gsCons (gSet 3) (gsCons (gSet 4) gsNil))) (b := l1__law_sum) rd
    (fun pre rest ρ => pre ++ rest = xs ∧ ∃ t u j k, 0 < u ∧ Sm (111 * pre.length + 10) t ∧ Sm (111 * pre.length + 10) u ∧ (t : Rat) / (u : Rat) = rs pre ∧ ρ = [some (sqD bq (xs.map rd)), some (.int t), some (.int u), j, k]) (fun pre x rest ρ ⟨hp, t, u, j, k, hu, st, su, ev, e'⟩ => by
      subst e'
      have hxx := hx x (by rw [← hp]; simp)
      have hlen : pre.length + (rest.length + 1) ≤ 15 := by
        have : pre.length + (rest.length + 1) = xs.length := by rw [← hp]; simp
        omega
      have hd := den_pos x
      have m1 := st.mulOk hxx.2 (by omega) (by omega)
      have m2 := hxx.1.mulOk su (by omega) (by omega)
      have m3 := su.mulOk hxx.2 (by omega) (by omega)
      refine ⟨[some (sqD bq (xs.map rd)), some (.int t), some (.int u), some (.int x.num), some (.int x.den)], [some (sqD bq (xs.map rd)), some (.int (t * x.den + x.num * u)), some (.int (u * x.den)), some (.int x.num), some (.int x.den)], rfl, .inl ?_, by rw [List.append_assoc]; exact hp, t * x.den + x.num * u, u * x.den, _, _, Int.mul_pos hu hd, ?_, ?_, ?_, rfl⟩
      · generalize xs.map rd = M at *
        simp -implicitDefEqProofs only [l1__law_sum, xVar_a, xC_a, xBin_a, xUn_a, tOf_a, tTru_a, tNotP_a, tAndP_a, tOrP_a, tyes_a, tno_a, tYesP_a, xNil_a, xCons_a, xTup_a, xLst_a, xAnd_a, xOr_a, xIf_a, xChain_a, oNo_a, oAt_a, xSl_a, xCall_a, xSeq_a, xIt_a, xLc_a, gSet_a, gTupD_a, gsNil_a, gsCons_a, sNop_a, sBrk_a, sCnt_a, sSeq_a, sRet_a, sIf_a, sSet_a, sTgt_a, sAug_a, sApp_a, sExt_a, sPut_a, sPutK_a, pkO_s, sFor_a, sWhile_a, sPar_a, runD_a, b2_s, c2_s, sqO_nx, sqO_rt, sqO_bk, sqO_ct, ifO_t, ifO_f, stO_s, endO_nx, endO_rt, andO_t, andO_f, orO_t, orO_f, chO_s, chP_t, chP_f, slO_s, atO_i, lcO_s, forO_s, gsO_s, nxO_s, tgO_s, paO_s, apO_s, exO_s, plO_s, ptO_s, dB_b, tru_b, tru_n, tru_i, tru_l, tru_t, is_n, isn_n, nn_n, nn_i, nn_b, nn_t, nn_l, add_ii, add'_ii, sub_ii, neg_i, lt_ii, le_ii, gt_ii, ge_ii, ix_l, ix_t, ix_s, at0, at1, at2, sl_l, sl_t, len_l, len_t, len_s, abs_i, int_i, int_b, max_ii, min_ii, tup_s, lst_s, seq_l, seq_t, sum_s, wipe_n, wipe_c, mul_ii, fdiv_ii, mod_ii, add_ll, add_tt, setAll, mkT, mkL, oNot, List.getD_cons_zero, List.getD_cons_succ, List.length_cons, List.length_nil, List.set_cons_zero, List.set_cons_succ, List.map_cons, List.map_nil, List.replicate, List.cons_append, List.nil_append, List.append_nil, Option.bind_some, Option.map_some, List.all_cons, List.all_nil, if_true, if_false, reduceIte, Nat.reduceAdd, Nat.reduceSub, Nat.reduceLT, Nat.reduceLeDiff, Nat.reduceEqDiff, decide_true, decide_false, Bool.and_true, Bool.and_self, Bool.true_and, Bool.not_true, Bool.not_false, ne_eq, not_true_eq_false, not_false_eq_true, Nat.zero_add, Bool.false_eq_true, and_self, true_and, and_true, m1, m2, m3]
      · rw [List.length_append, List.length_singleton]
        exact (((st.mul hxx.2).mono (k := 111 * pre.length + 120) (by omega)).add ((hxx.1.mul su).mono (by omega))).mono (by omega)
      · rw [List.length_append, List.length_singleton]
        exact (su.mul hxx.2).mono (by omega)
      · rw [rs_app, ← ev]
        show _ = (t : Rat) / u + (x + 0)
        conv => rhs; rw [rat_eq x]
        rw [← qadd hu hd]
        grind) xs [] [some (sqD bq (xs.map rd)), some (.int 0), some (.int 1), none, none] ⟨rfl, 0, 1, none, none, by decide, Sm.zero, Sm.lit, by decide +kernel, rfl⟩
  obtain ⟨_, t, u, j, k, hu, st, su, ev, e'⟩ := h
  subst e'
  have w := ratio_rd t u hu (su.mono (by simp; omega))
  rw [ev] at w
  simp only [List.nil_append] at w e1
  generalize xs.map rd = M at *
  simp -implicitDefEqProofs only [d__law_sum, g__law_sum, xVar_a, xC_a, xBin_a, xUn_a, tOf_a, tTru_a, tNotP_a, tAndP_a, tOrP_a, tyes_a, tno_a, tYesP_a, xNil_a, xCons_a, xTup_a, xLst_a, xAnd_a, xOr_a, xIf_a, xChain_a, oNo_a, oAt_a, xSl_a, xCall_a, xSeq_a, xIt_a, xLc_a, gSet_a, gTupD_a, gsNil_a, gsCons_a, sNop_a, sBrk_a, sCnt_a, sSeq_a, sRet_a, sIf_a, sSet_a, sTgt_a, sAug_a, sApp_a, sExt_a, sPut_a, sPutK_a, pkO_s, sFor_a, sWhile_a, sPar_a, runD_a, b2_s, c2_s, sqO_nx, sqO_rt, sqO_bk, sqO_ct, ifO_t, ifO_f, stO_s, endO_nx, endO_rt, andO_t, andO_f, orO_t, orO_f, chO_s, chP_t, chP_f, slO_s, atO_i, lcO_s, forO_s, gsO_s, nxO_s, tgO_s, paO_s, apO_s, exO_s, plO_s, ptO_s, dB_b, tru_b, tru_n, tru_i, tru_l, tru_t, is_n, isn_n, nn_n, nn_i, nn_b, nn_t, nn_l, add_ii, add'_ii, sub_ii, neg_i, lt_ii, le_ii, gt_ii, ge_ii, ix_l, ix_t, ix_s, at0, at1, at2, sl_l, sl_t, len_l, len_t, len_s, abs_i, int_i, int_b, max_ii, min_ii, tup_s, lst_s, seq_l, seq_t, sum_s, wipe_n, wipe_c, mul_ii, fdiv_ii, mod_ii, add_ll, add_tt, setAll, mkT, mkL, oNot, List.getD_cons_zero, List.getD_cons_succ, List.length_cons, List.length_nil, List.set_cons_zero, List.set_cons_succ, List.map_cons, List.map_nil, List.replicate, List.cons_append, List.nil_append, List.append_nil, Option.bind_some, Option.map_some, List.all_cons, List.all_nil, if_true, if_false, reduceIte, Nat.reduceAdd, Nat.reduceSub, Nat.reduceLT, Nat.reduceLeDiff, Nat.reduceEqDiff, decide_true, decide_false, Bool.and_true, Bool.and_self, Bool.true_and, Bool.not_true, Bool.not_false, ne_eq, not_true_eq_false, not_false_eq_true, Nat.zero_add, Bool.false_eq_true, and_self, true_and, and_true, hq, e1, w]
end K24

namespace K24
open PySem PySem.Spec PyProof.Rows L2 Pm
theorem ix_q (b : Bool) (xs : List D) (i : Int) : oIx (sqD b xs) (.int i) = atI xs i := by cases b <;> rfl
theorem sl_q (b : Bool) (xs : List D) (lo hi : Option Int) : oSl (sqD b xs) lo hi = some (sqD b (Pm.cutD xs lo hi)) := by cases b <;> rfl
theorem len_q (b : Bool) (xs : List D) : bLen [sqD b xs] = some (.int xs.length) := by cases b <;> rfl
theorem zip_q (b : Bool) (xs ys : List D) : oZipM [sqD b xs, sqD b ys] = some (zipD xs ys) := by cases b <;> rfl
theorem zip_enc (L T : List Sd) : zipD (L.map enc) (T.map enc) = (L.zip T).map fun p => .tuple [enc p.1, enc p.2] := by
  unfold zipD
  induction L generalizing T with
  | nil => simp
  | cons s L ih => cases T with
    | nil => simp
    | cons t T => simp [ih]
def seg (p : Sd × Sd) (h : Int) : Rat := (p.1.2 : Rat) + ((p.2.2 - p.1.2 : Int) : Rat) * (((h - p.1.1 : Int) : Rat) / ((p.2.1 - p.1.1 : Int) : Rat))
def spd : List Sd → Int → Rat
  | a :: b :: L, h => if h ≤ b.1 then seg (a, b) h else spd (b :: L) h
  | [a], _ => (a.2 : Rat)
  | [], _ => 0
def segs (L : List Sd) : List (Sd × Sd) := L.zip (L.drop 1)
theorem segs_cons (a b : Sd) (L : List Sd) : segs (a :: b :: L) = (a, b) :: segs (b :: L) := rfl
theorem seg_left {p : Sd × Sd} : seg p p.1.1 = (p.1.2 : Rat) := by
  unfold seg
  rw [Int.sub_self]
  grind
theorem seg_right {p : Sd × Sd} (h : p.1.1 < p.2.1) : seg p p.2.1 = (p.2.2 : Rat) := by
  unfold seg
  have : ((p.2.1 - p.1.1 : Int) : Rat) ≠ 0 := by have := cast_pos (show 0 < p.2.1 - p.1.1 by omega); grind
  push_cast at *
  grind
theorem segs_mem {L : List Sd} : ∀ {p : Sd × Sd}, p ∈ segs L → p.1 ∈ L ∧ p.2 ∈ L := by
  intro p h
  unfold segs at h
  have h1 := List.of_mem_zip (a := p.1) (b := p.2) h
  exact ⟨h1.1, List.mem_of_mem_drop h1.2⟩
theorem segs_lt {L : List Sd} (hi : Inc L) : ∀ {p : Sd × Sd}, p ∈ segs L → p.1.1 < p.2.1 := by
  induction L with
  | nil => intro p h; cases h
  | cons a L ih =>
    intro p h
    have hi' := List.pairwise_cons.mp hi
    cases L with
    | nil => cases h
    | cons b L =>
      rw [segs_cons] at h
      rcases List.mem_cons.mp h with rfl | h
      · exact hi'.1 b (by simp)
      · exact ih hi'.2 h
theorem seg_spd {L : List Sd} (hi : Inc L) {h : Int} : ∀ {p : Sd × Sd}, p ∈ segs L → p.1.1 ≤ h → h ≤ p.2.1 → seg p h = spd L h := by
  induction L with
  | nil => intro p h; cases h
  | cons a L ih =>
    intro p hp h1 h2
    have hi' := List.pairwise_cons.mp hi
    cases L with
    | nil => cases hp
    | cons b L =>
      rw [segs_cons] at hp
      unfold spd
      rcases List.mem_cons.mp hp with rfl | hp
      · rw [if_pos h2]
      · by_cases hb : h ≤ b.1
        · rw [if_pos hb]
          have hm := (segs_mem hp).1
          have hbp : b.1 ≤ p.1.1 := by
            rcases List.mem_cons.mp hm with e | hm
            · rw [e]; omega
            · have := (List.pairwise_cons.mp hi'.2).1 _ hm
              omega
          have e1 : p.1 = b := same_hour hi'.2 hm (by simp) (by omega)
          have e2 : h = b.1 := by omega
          subst e2
          have hlt : a.1 < b.1 := hi'.1 b (by simp)
          rw [seg_right (p := (a, b)) hlt]
          have := seg_left (p := p)
          rw [e1] at this
          exact this
        · rw [if_neg hb]
          exact ih hi'.2 hp h1 h2
theorem segs_some {L : List Sd} {a z : Sd} {h : Int} (ha : L.head? = some a) (hz : L.getLast? = some z) (h1 : a.1 ≤ h) (h2 : h ≤ z.1) (hl : 2 ≤ L.length) : ∃ p ∈ segs L, p.1.1 ≤ h ∧ h ≤ p.2.1 := by
  induction L generalizing a with
  | nil => simp at hl
  | cons b L ih =>
    cases L with
    | nil => simp at hl
    | cons c L =>
      simp at ha
      subst ha
      rw [segs_cons]
      by_cases hc : h ≤ c.1
      · exact ⟨(b, c), by simp, h1, hc⟩
      · cases L with
        | nil =>
          simp at hz
          subst hz
          omega
        | cons d L =>
          obtain ⟨p, hp, k⟩ := ih (a := c) rfl (by simpa [List.getLast?_cons_cons] using hz) (by omega) (by simp)
          exact ⟨p, List.mem_cons_of_mem _ hp, k⟩
theorem segs_out {L : List Sd} (hi : Inc L) {a z : Sd} (ha : L.head? = some a) (hz : L.getLast? = some z) : ∀ s ∈ L, a.1 ≤ s.1 ∧ s.1 ≤ z.1 := by
  induction L generalizing a with
  | nil => cases ha
  | cons b L ih =>
    intro s hs
    simp at ha
    subst ha
    have hi' := List.pairwise_cons.mp hi
    cases L with
    | nil =>
      simp at hz hs
      subst hz
      subst hs
      omega
    | cons c L =>
      have k := ih hi'.2 (a := c) rfl (by simpa [List.getLast?_cons_cons] using hz)
      rcases List.mem_cons.mp hs with rfl | hs
      · have := hi'.1 c (by simp)
        have := k c (by simp)
        omega
      · have := hi'.1 s hs
        have := k s hs
        omega
structure LogOk (L : List Sd) (a z : Sd) (Q : Int) : Prop where
  inc : Inc L
  hd : L.head? = some a
  lst : L.getLast? = some z
  ok : OkS L
  pos : 0 ≤ a.1
  q0 : 0 < Q
  qs : Sm 10 Q
  gap : ∀ p ∈ segs L, (p.2.1 - p.1.1) ∣ Q
  len : L.length ≤ 1000
def Fm (Q : Int) (B : Nat) (x : Rat) : Prop := ∃ n : Int, x = (n : Rat) / (Q : Rat) ∧ n.natAbs ≤ B
theorem Fm.add {Q : Int} (hQ : 0 < Q) {B C : Nat} {x y : Rat} (h1 : Fm Q B x) (h2 : Fm Q C y) : Fm Q (B + C) (x + y) := by
  obtain ⟨n, rfl, hn⟩ := h1
  obtain ⟨m, rfl, hm⟩ := h2
  refine ⟨n + m, ?_, by have := Int.natAbs_add_le n m; omega⟩
  push_cast
  grind
theorem Fm.half {Q : Int} (hQ : 0 < Q) {B : Nat} {x : Rat} (h1 : Fm Q B x) : Fm (2 * Q) B (x / 2) := by
  obtain ⟨n, rfl, hn⟩ := h1
  refine ⟨n, ?_, hn⟩
  have := cast_pos hQ
  push_cast
  grind
theorem Fm.sr {Q : Int} (hQ : 0 < Q) {k : Nat} (sQ : Sm k Q) {x : Rat} (h : Fm Q (2 ^ k) x) : SR k x := by
  obtain ⟨n, rfl, hn⟩ := h
  exact SR.div hn sQ hQ
theorem Fm.mono {Q : Int} {B C : Nat} {x : Rat} (h : Fm Q B x) (hB : B ≤ C) : Fm Q C x := by
  obtain ⟨n, e, hn⟩ := h
  exact ⟨n, e, by omega⟩
theorem seg_fm {Q : Int} (hQ : 0 < Q) (sQ : Sm 10 Q) {p : Sd × Sd} (hp : OkP p) (hg : (p.2.1 - p.1.1) ∣ Q) {h : Int} (h1 : p.1.1 ≤ h) (h2 : h ≤ p.2.1) : Fm Q (2 ^ 34) (seg p h) := by
  obtain ⟨c, hc⟩ := hg
  have hw : 0 < p.2.1 - p.1.1 := by have := hp.1; omega
  have hc0 : 0 < c := by
    rcases Int.lt_trichotomy c 0 with h | h | h
    · have := Int.mul_neg_of_pos_of_neg hw h
      omega
    · rw [h] at hc
      omega
    · exact h
  have sc : Sm 10 c := sQ.le (by
    have : c ≤ Q := by
      rw [hc]
      have := Int.mul_le_mul_of_nonneg_right (show 1 ≤ p.2.1 - p.1.1 by omega) (show 0 ≤ c by omega)
      omega
    omega)
  refine ⟨p.1.2 * Q + (p.2.2 - p.1.2) * ((h - p.1.1) * c), ?_, ?_⟩
  · have e1 : (0 : Rat) < ((p.2.1 - p.1.1 : Int) : Rat) := cast_pos hw
    have e2 : (Q : Rat) = ((p.2.1 - p.1.1 : Int) : Rat) * (c : Rat) := by rw [hc]; push_cast; rfl
    have e3 : (0 : Rat) < (c : Rat) := cast_pos hc0
    have e4 : (0 : Rat) < (Q : Rat) := cast_pos hQ
    unfold seg
    have k : ∀ x y : Rat, x * (Q : Rat) = y → x = y / (Q : Rat) := fun x y h => by
      rw [← h, Rat.mul_div_cancel (by grind)]
    apply k
    have e5 : ((h - p.1.1 : Int) : Rat) / ((p.2.1 - p.1.1 : Int) : Rat) * ((p.2.1 - p.1.1 : Int) : Rat) = ((h - p.1.1 : Int) : Rat) := Rat.div_mul_cancel (by grind)
    generalize ((h - p.1.1 : Int) : Rat) / ((p.2.1 - p.1.1 : Int) : Rat) = t at *
    rw [e2]
    have : ((p.1.2 : Rat) + ((p.2.2 - p.1.2 : Int) : Rat) * t) * (((p.2.1 - p.1.1 : Int) : Rat) * (c : Rat)) = (p.1.2 : Rat) * (((p.2.1 - p.1.1 : Int) : Rat) * (c : Rat)) + ((p.2.2 - p.1.2 : Int) : Rat) * ((t * ((p.2.1 - p.1.1 : Int) : Rat)) * (c : Rat)) := by grind
    rw [this, e5, ← e2]
    push_cast
    grind
  · have s1 : Sm 20 (p.1.2 * Q) := hp.2.2.1.mul sQ
    have s2 : Sm 11 (p.2.2 - p.1.2) := okp_rise hp
    have s3 : Sm 11 (h - p.1.1) := (okp_way hp).le (by omega)
    exact ((s1.mono (k := 33) (by omega)).add ((s2.mul (s3.mul sc)).mono (k := 33) (by omega)))
theorem okp_seg {L : List Sd} (hi : Inc L) (hS : OkS L) {p : Sd × Sd} (h : p ∈ segs L) : OkP p := by
  have h1 := segs_mem h
  have h2 := hS _ h1.1
  have h3 := hS _ h1.2
  exact ⟨segs_lt hi h, h2.1, h2.2, h3.1, h3.2⟩
theorem head_get {L : List Sd} {a : Sd} (ha : L.head? = some a) : ∃ T, L = a :: T := by
  cases L with
  | nil => cases ha
  | cons b T =>
    simp at ha
    subst ha
    exact ⟨T, rfl⟩
theorem LogOk.at0 {L : List Sd} {a z : Sd} {Q : Int} (h : LogOk L a z Q) : atI (L.map enc) 0 = some (.tuple [.int a.1, .int a.2]) := by
  obtain ⟨T, rfl⟩ := head_get h.hd
  rw [List.map_cons, Pm.at0]
  rfl
theorem LogOk.atL {L : List Sd} {a z : Sd} {Q : Int} (h : LogOk L a z Q) : atI (L.map enc) (-1) = some (.tuple [.int z.1, .int z.2]) := by
  have hz := h.lst
  have hn : L ≠ [] := by intro h; rw [h] at hz; cases hz
  have hl : 0 < L.length := List.length_pos_iff.mpr hn
  rw [List.getLast?_eq_getElem?] at hz
  unfold atI
  have e : ixN (L.map enc).length (-1) = some (L.length - 1) := by
    unfold ixN
    rw [if_neg (by decide), List.length_map, if_pos (by omega)]
    congr 1
    omega
  rw [e]
  show (L.map enc)[L.length - 1]? = _
  rw [List.getElem?_map, hz]
  rfl
theorem LogOk.spd_fm {L : List Sd} {a z : Sd} {Q : Int} (hL : LogOk L a z Q) {h : Int} (h1 : a.1 ≤ h) (h2 : h ≤ z.1) : Fm Q (2 ^ 34) (spd L h) := by
  by_cases hl : 2 ≤ L.length
  · obtain ⟨p, hp, k1, k2⟩ := segs_some hL.hd hL.lst h1 h2 hl
    rw [← seg_spd hL.inc hp k1 k2]
    exact seg_fm hL.q0 hL.qs (okp_seg hL.inc hL.ok hp) (hL.gap p hp) k1 k2
  · obtain ⟨T, e⟩ := head_get hL.hd
    subst e
    cases T with
    | nil =>
      refine ⟨a.2 * Q, ?_, ?_⟩
      · have := cast_pos hL.q0
        show (a.2 : Rat) = _
        push_cast
        rw [Rat.mul_div_cancel (by grind)]
      · exact ((hL.ok a (by simp)).2.mul hL.qs).mono (k := 34) (by omega)
    | cons b T => simp at hl
theorem speed_at_eq (bq : Bool) {L : List Sd} {a z : Sd} {Q : Int} (hL : LogOk L a z Q) {h : Int} : d_speed_at [sqD bq (L.map enc), .int h] = some (if a.1 ≤ h ∧ h ≤ z.1 then rd (spd L h) else .none) := by
  have hcut : Pm.cutD (L.map enc) (some (1 : Int)) none = (L.drop 1).map enc := by
    obtain ⟨T, e⟩ := head_get hL.hd
    rw [List.map_drop]
    exact cut_from (L.map enc) 1 (by rw [e]; simp)
  have hz : zipD (L.map enc) ((L.drop 1).map enc) = (segs L).map fun p => .tuple [enc p.1, enc p.2] := zip_enc _ _
  have key := forL_find (g := gTupD 2 (gsCons (gTupD 2 (gsCons (gSet 2) (gsCons (gSet 3) gsNil))) (gsCons (gTupD 2 (gsCons (gSet 4) (gsCons (gSet 5) gsNil))) gsNil))) (b := l1_speed_at) (fun p : Sd × Sd => .tuple [enc p.1, enc p.2]) (fun p => decide (p.1.1 ≤ h) && decide (h ≤ p.2.1)) (fun ρ => ∃ x2 x3 x4 x5, ρ = [some (sqD bq (L.map enc)), some (.int h), x2, x3, x4, x5]) (fun p => rd (seg p h)) (segs L) (fun p hp ρ ⟨x2, x3, x4, x5, e'⟩ => by
    subst e'
    have ok := okp_seg hL.inc hL.ok hp
    refine ⟨[some (sqD bq (L.map enc)), some (.int h), some (.int p.1.1), some (.int p.1.2), some (.int p.2.1), some (.int p.2.2)], rfl, fun hq => ?_, fun hq => ⟨[some (sqD bq (L.map enc)), some (.int h), some (.int p.1.1), some (.int p.1.2), some (.int p.2.1), some (.int p.2.2)], ?_, _, _, _, _, rfl⟩⟩
    · rw [Bool.and_eq_true, decide_eq_true_eq, decide_eq_true_eq] at hq
      have hw : 0 < p.2.1 - p.1.1 := by have := ok.1; omega
      have sw := okp_way ok
      have s3 : Sm 11 (h - p.1.1) := sw.le (by omega)
      have q1 := lowest_rd (h - p.1.1) (p.2.1 - p.1.1) hw (sw.mono (by omega))
      have sr1 : SR 11 (((h - p.1.1 : Int) : Rat) / ((p.2.1 - p.1.1 : Int) : Rat)) := SR.div s3 sw hw
      have sr2 : SR 11 (((p.2.2 - p.1.2 : Int) : Rat)) := SR.int (okp_rise ok)
      have q2 := times_rd (sr2.mono (k := 900) (by omega)) (sr1.mono (by omega))
      have q3 := plus_rd (SR.int (k := 900) (ok.2.2.1.mono (by omega))) ((sr2.mul sr1).mono (by omega))
      rw [show (p.1.2 : Rat) + ((p.2.2 - p.1.2 : Int) : Rat) * (((h - p.1.1 : Int) : Rat) / ((p.2.1 - p.1.1 : Int) : Rat)) = seg p h from rfl] at q3
      simp -implicitDefEqProofs only [l1_speed_at, xVar_a, xC_a, xBin_a, xUn_a, tOf_a, tTru_a, tNotP_a, tAndP_a, tOrP_a, tyes_a, tno_a, tYesP_a, xNil_a, xCons_a, xTup_a, xLst_a, xAnd_a, xOr_a, xIf_a, xChain_a, oNo_a, oAt_a, xSl_a, xCall_a, xSeq_a, xIt_a, xLc_a, gSet_a, gTupD_a, gsNil_a, gsCons_a, sNop_a, sBrk_a, sCnt_a, sSeq_a, sRet_a, sIf_a, sSet_a, sTgt_a, sAug_a, sApp_a, sExt_a, sPut_a, sPutK_a, pkO_s, sFor_a, sWhile_a, sPar_a, runD_a, b2_s, c2_s, sqO_nx, sqO_rt, sqO_bk, sqO_ct, ifO_t, ifO_f, stO_s, endO_nx, endO_rt, andO_t, andO_f, orO_t, orO_f, chO_s, chP_t, chP_f, slO_s, atO_i, lcO_s, forO_s, gsO_s, nxO_s, tgO_s, paO_s, apO_s, exO_s, plO_s, ptO_s, dB_b, tru_b, tru_n, tru_i, tru_l, tru_t, is_n, isn_n, nn_n, nn_i, nn_b, nn_t, nn_l, add_ii, add'_ii, sub_ii, neg_i, lt_ii, le_ii, gt_ii, ge_ii, ix_l, ix_t, ix_s, at0, at1, at2, sl_l, sl_t, len_l, len_t, len_s, abs_i, int_i, int_b, max_ii, min_ii, tup_s, lst_s, seq_l, seq_t, sum_s, wipe_n, wipe_c, mul_ii, fdiv_ii, mod_ii, add_ll, add_tt, setAll, mkT, mkL, oNot, List.getD_cons_zero, List.getD_cons_succ, List.length_cons, List.length_nil, List.set_cons_zero, List.set_cons_succ, List.map_cons, List.map_nil, List.replicate, List.cons_append, List.nil_append, List.append_nil, Option.bind_some, Option.map_some, List.all_cons, List.all_nil, if_true, if_false, reduceIte, Nat.reduceAdd, Nat.reduceSub, Nat.reduceLT, Nat.reduceLeDiff, Nat.reduceEqDiff, decide_true, decide_false, Bool.and_true, Bool.and_self, Bool.true_and, Bool.not_true, Bool.not_false, ne_eq, not_true_eq_false, not_false_eq_true, Nat.zero_add, Bool.false_eq_true, and_self, true_and, and_true, hq.1, hq.2, whole_rd, q1, q2, q3]
    · by_cases h1 : p.1.1 ≤ h
      · have h2 : ¬ h ≤ p.2.1 := by intro h2; simp [h1, h2] at hq
        simp -implicitDefEqProofs only [l1_speed_at, xVar_a, xC_a, xBin_a, xUn_a, tOf_a, tTru_a, tNotP_a, tAndP_a, tOrP_a, tyes_a, tno_a, tYesP_a, xNil_a, xCons_a, xTup_a, xLst_a, xAnd_a, xOr_a, xIf_a, xChain_a, oNo_a, oAt_a, xSl_a, xCall_a, xSeq_a, xIt_a, xLc_a, gSet_a, gTupD_a, gsNil_a, gsCons_a, sNop_a, sBrk_a, sCnt_a, sSeq_a, sRet_a, sIf_a, sSet_a, sTgt_a, sAug_a, sApp_a, sExt_a, sPut_a, sPutK_a, pkO_s, sFor_a, sWhile_a, sPar_a, runD_a, b2_s, c2_s, sqO_nx, sqO_rt, sqO_bk, sqO_ct, ifO_t, ifO_f, stO_s, endO_nx, endO_rt, andO_t, andO_f, orO_t, orO_f, chO_s, chP_t, chP_f, slO_s, atO_i, lcO_s, forO_s, gsO_s, nxO_s, tgO_s, paO_s, apO_s, exO_s, plO_s, ptO_s, dB_b, tru_b, tru_n, tru_i, tru_l, tru_t, is_n, isn_n, nn_n, nn_i, nn_b, nn_t, nn_l, add_ii, add'_ii, sub_ii, neg_i, lt_ii, le_ii, gt_ii, ge_ii, ix_l, ix_t, ix_s, at0, at1, at2, sl_l, sl_t, len_l, len_t, len_s, abs_i, int_i, int_b, max_ii, min_ii, tup_s, lst_s, seq_l, seq_t, sum_s, wipe_n, wipe_c, mul_ii, fdiv_ii, mod_ii, add_ll, add_tt, setAll, mkT, mkL, oNot, List.getD_cons_zero, List.getD_cons_succ, List.length_cons, List.length_nil, List.set_cons_zero, List.set_cons_succ, List.map_cons, List.map_nil, List.replicate, List.cons_append, List.nil_append, List.append_nil, Option.bind_some, Option.map_some, List.all_cons, List.all_nil, if_true, if_false, reduceIte, Nat.reduceAdd, Nat.reduceSub, Nat.reduceLT, Nat.reduceLeDiff, Nat.reduceEqDiff, decide_true, decide_false, Bool.and_true, Bool.and_self, Bool.true_and, Bool.not_true, Bool.not_false, ne_eq, not_true_eq_false, not_false_eq_true, Nat.zero_add, Bool.false_eq_true, and_self, true_and, and_true, h1, h2]
      · simp -implicitDefEqProofs only [l1_speed_at, xVar_a, xC_a, xBin_a, xUn_a, tOf_a, tTru_a, tNotP_a, tAndP_a, tOrP_a, tyes_a, tno_a, tYesP_a, xNil_a, xCons_a, xTup_a, xLst_a, xAnd_a, xOr_a, xIf_a, xChain_a, oNo_a, oAt_a, xSl_a, xCall_a, xSeq_a, xIt_a, xLc_a, gSet_a, gTupD_a, gsNil_a, gsCons_a, sNop_a, sBrk_a, sCnt_a, sSeq_a, sRet_a, sIf_a, sSet_a, sTgt_a, sAug_a, sApp_a, sExt_a, sPut_a, sPutK_a, pkO_s, sFor_a, sWhile_a, sPar_a, runD_a, b2_s, c2_s, sqO_nx, sqO_rt, sqO_bk, sqO_ct, ifO_t, ifO_f, stO_s, endO_nx, endO_rt, andO_t, andO_f, orO_t, orO_f, chO_s, chP_t, chP_f, slO_s, atO_i, lcO_s, forO_s, gsO_s, nxO_s, tgO_s, paO_s, apO_s, exO_s, plO_s, ptO_s, dB_b, tru_b, tru_n, tru_i, tru_l, tru_t, is_n, isn_n, nn_n, nn_i, nn_b, nn_t, nn_l, add_ii, add'_ii, sub_ii, neg_i, lt_ii, le_ii, gt_ii, ge_ii, ix_l, ix_t, ix_s, at0, at1, at2, sl_l, sl_t, len_l, len_t, len_s, abs_i, int_i, int_b, max_ii, min_ii, tup_s, lst_s, seq_l, seq_t, sum_s, wipe_n, wipe_c, mul_ii, fdiv_ii, mod_ii, add_ll, add_tt, setAll, mkT, mkL, oNot, List.getD_cons_zero, List.getD_cons_succ, List.length_cons, List.length_nil, List.set_cons_zero, List.set_cons_succ, List.map_cons, List.map_nil, List.replicate, List.cons_append, List.nil_append, List.append_nil, Option.bind_some, Option.map_some, List.all_cons, List.all_nil, if_true, if_false, reduceIte, Nat.reduceAdd, Nat.reduceSub, Nat.reduceLT, Nat.reduceLeDiff, Nat.reduceEqDiff, decide_true, decide_false, Bool.and_true, Bool.and_self, Bool.true_and, Bool.not_true, Bool.not_false, ne_eq, not_true_eq_false, not_false_eq_true, Nat.zero_add, Bool.false_eq_true, and_self, true_and, and_true, h1]) [some (sqD bq (L.map enc)), some (.int h), none, none, none, none] ⟨none, none, none, none, rfl⟩
  have hA := hL.at0
  have hout := segs_out hL.inc hL.hd hL.lst
  have hlen : (L.map enc).length = L.length := List.length_map ..
  rcases key with ⟨p, f1, f2⟩ | ⟨f1, ρ', f2, x2, x3, x4, x5, e'⟩
  · have hp := List.mem_of_find?_eq_some f1
    have hq := List.find?_some f1
    rw [Bool.and_eq_true, decide_eq_true_eq, decide_eq_true_eq] at hq
    have hm := segs_mem hp
    have b1 := hout _ hm.1
    have b2 := hout _ hm.2
    rw [if_pos (by omega), ← seg_spd hL.inc hp hq.1 hq.2]
    generalize L.map enc = M at *
    simp -implicitDefEqProofs only [d_speed_at, g_speed_at, xVar_a, xC_a, xBin_a, xUn_a, tOf_a, tTru_a, tNotP_a, tAndP_a, tOrP_a, tyes_a, tno_a, tYesP_a, xNil_a, xCons_a, xTup_a, xLst_a, xAnd_a, xOr_a, xIf_a, xChain_a, oNo_a, oAt_a, xSl_a, xCall_a, xSeq_a, xIt_a, xLc_a, gSet_a, gTupD_a, gsNil_a, gsCons_a, sNop_a, sBrk_a, sCnt_a, sSeq_a, sRet_a, sIf_a, sSet_a, sTgt_a, sAug_a, sApp_a, sExt_a, sPut_a, sPutK_a, pkO_s, sFor_a, sWhile_a, sPar_a, runD_a, b2_s, c2_s, sqO_nx, sqO_rt, sqO_bk, sqO_ct, ifO_t, ifO_f, stO_s, endO_nx, endO_rt, andO_t, andO_f, orO_t, orO_f, chO_s, chP_t, chP_f, slO_s, atO_i, lcO_s, forO_s, gsO_s, nxO_s, tgO_s, paO_s, apO_s, exO_s, plO_s, ptO_s, dB_b, tru_b, tru_n, tru_i, tru_l, tru_t, is_n, isn_n, nn_n, nn_i, nn_b, nn_t, nn_l, add_ii, add'_ii, sub_ii, neg_i, lt_ii, le_ii, gt_ii, ge_ii, ix_l, ix_t, ix_s, at0, at1, at2, sl_l, sl_t, len_l, len_t, len_s, abs_i, int_i, int_b, max_ii, min_ii, tup_s, lst_s, seq_l, seq_t, sum_s, wipe_n, wipe_c, mul_ii, fdiv_ii, mod_ii, add_ll, add_tt, setAll, mkT, mkL, oNot, List.getD_cons_zero, List.getD_cons_succ, List.length_cons, List.length_nil, List.set_cons_zero, List.set_cons_succ, List.map_cons, List.map_nil, List.replicate, List.cons_append, List.nil_append, List.append_nil, Option.bind_some, Option.map_some, List.all_cons, List.all_nil, if_true, if_false, reduceIte, Nat.reduceAdd, Nat.reduceSub, Nat.reduceLT, Nat.reduceLeDiff, Nat.reduceEqDiff, decide_true, decide_false, Bool.and_true, Bool.and_self, Bool.true_and, Bool.not_true, Bool.not_false, ne_eq, not_true_eq_false, not_false_eq_true, Nat.zero_add, Bool.false_eq_true, and_self, true_and, and_true, sl_q, hcut, zip_q, hz, f2]
  · subst e'
    by_cases hl : 2 ≤ L.length
    · have hno : ¬ (a.1 ≤ h ∧ h ≤ z.1) := by
        rintro ⟨h1, h2⟩
        obtain ⟨p, hp, k1, k2⟩ := segs_some hL.hd hL.lst h1 h2 hl
        have := List.find?_eq_none.mp f1 p hp
        simp [k1, k2] at this
      rw [if_neg hno]
      have e1 : decide ((L.length : Int) = 1) = false := decide_eq_false (by omega)
      generalize L.map enc = M at *
      simp -implicitDefEqProofs only [d_speed_at, g_speed_at, xVar_a, xC_a, xBin_a, xUn_a, tOf_a, tTru_a, tNotP_a, tAndP_a, tOrP_a, tyes_a, tno_a, tYesP_a, xNil_a, xCons_a, xTup_a, xLst_a, xAnd_a, xOr_a, xIf_a, xChain_a, oNo_a, oAt_a, xSl_a, xCall_a, xSeq_a, xIt_a, xLc_a, gSet_a, gTupD_a, gsNil_a, gsCons_a, sNop_a, sBrk_a, sCnt_a, sSeq_a, sRet_a, sIf_a, sSet_a, sTgt_a, sAug_a, sApp_a, sExt_a, sPut_a, sPutK_a, pkO_s, sFor_a, sWhile_a, sPar_a, runD_a, b2_s, c2_s, sqO_nx, sqO_rt, sqO_bk, sqO_ct, ifO_t, ifO_f, stO_s, endO_nx, endO_rt, andO_t, andO_f, orO_t, orO_f, chO_s, chP_t, chP_f, slO_s, atO_i, lcO_s, forO_s, gsO_s, nxO_s, tgO_s, paO_s, apO_s, exO_s, plO_s, ptO_s, dB_b, tru_b, tru_n, tru_i, tru_l, tru_t, is_n, isn_n, nn_n, nn_i, nn_b, nn_t, nn_l, add_ii, add'_ii, sub_ii, neg_i, lt_ii, le_ii, gt_ii, ge_ii, ix_l, ix_t, ix_s, at0, at1, at2, sl_l, sl_t, len_l, len_t, len_s, abs_i, int_i, int_b, max_ii, min_ii, tup_s, lst_s, seq_l, seq_t, sum_s, wipe_n, wipe_c, mul_ii, fdiv_ii, mod_ii, add_ll, add_tt, setAll, mkT, mkL, oNot, List.getD_cons_zero, List.getD_cons_succ, List.length_cons, List.length_nil, List.set_cons_zero, List.set_cons_succ, List.map_cons, List.map_nil, List.replicate, List.cons_append, List.nil_append, List.append_nil, Option.bind_some, Option.map_some, List.all_cons, List.all_nil, if_true, if_false, reduceIte, Nat.reduceAdd, Nat.reduceSub, Nat.reduceLT, Nat.reduceLeDiff, Nat.reduceEqDiff, decide_true, decide_false, Bool.and_true, Bool.and_self, Bool.true_and, Bool.not_true, Bool.not_false, ne_eq, not_true_eq_false, not_false_eq_true, Nat.zero_add, Bool.false_eq_true, and_self, true_and, and_true, sl_q, hcut, zip_q, hz, f2, len_q, hlen, eq_int, e1]
    · have hz1 : L = [a] ∧ z = a := by
        obtain ⟨T, e⟩ := head_get hL.hd
        cases T with
        | nil =>
          refine ⟨e, ?_⟩
          have := hL.lst
          rw [e] at this
          simp at this
          exact this.symm
        | cons b T => rw [e] at hl; simp at hl
      have e1 : decide ((L.length : Int) = 1) = true := decide_eq_true (by rw [hz1.1]; rfl)
      by_cases h3 : a.1 = h
      · rw [if_pos (by rw [hz1.2]; omega)]
        have e4 : spd L h = (a.2 : Rat) := by rw [hz1.1]; rfl
        rw [e4]
        generalize L.map enc = M at *
        simp -implicitDefEqProofs only [d_speed_at, g_speed_at, xVar_a, xC_a, xBin_a, xUn_a, tOf_a, tTru_a, tNotP_a, tAndP_a, tOrP_a, tyes_a, tno_a, tYesP_a, xNil_a, xCons_a, xTup_a, xLst_a, xAnd_a, xOr_a, xIf_a, xChain_a, oNo_a, oAt_a, xSl_a, xCall_a, xSeq_a, xIt_a, xLc_a, gSet_a, gTupD_a, gsNil_a, gsCons_a, sNop_a, sBrk_a, sCnt_a, sSeq_a, sRet_a, sIf_a, sSet_a, sTgt_a, sAug_a, sApp_a, sExt_a, sPut_a, sPutK_a, pkO_s, sFor_a, sWhile_a, sPar_a, runD_a, b2_s, c2_s, sqO_nx, sqO_rt, sqO_bk, sqO_ct, ifO_t, ifO_f, stO_s, endO_nx, endO_rt, andO_t, andO_f, orO_t, orO_f, chO_s, chP_t, chP_f, slO_s, atO_i, lcO_s, forO_s, gsO_s, nxO_s, tgO_s, paO_s, apO_s, exO_s, plO_s, ptO_s, dB_b, tru_b, tru_n, tru_i, tru_l, tru_t, is_n, isn_n, nn_n, nn_i, nn_b, nn_t, nn_l, add_ii, add'_ii, sub_ii, neg_i, lt_ii, le_ii, gt_ii, ge_ii, ix_l, ix_t, ix_s, at0, at1, at2, sl_l, sl_t, len_l, len_t, len_s, abs_i, int_i, int_b, max_ii, min_ii, tup_s, lst_s, seq_l, seq_t, sum_s, wipe_n, wipe_c, mul_ii, fdiv_ii, mod_ii, add_ll, add_tt, setAll, mkT, mkL, oNot, List.getD_cons_zero, List.getD_cons_succ, List.length_cons, List.length_nil, List.set_cons_zero, List.set_cons_succ, List.map_cons, List.map_nil, List.replicate, List.cons_append, List.nil_append, List.append_nil, Option.bind_some, Option.map_some, List.all_cons, List.all_nil, if_true, if_false, reduceIte, Nat.reduceAdd, Nat.reduceSub, Nat.reduceLT, Nat.reduceLeDiff, Nat.reduceEqDiff, decide_true, decide_false, Bool.and_true, Bool.and_self, Bool.true_and, Bool.not_true, Bool.not_false, ne_eq, not_true_eq_false, not_false_eq_true, Nat.zero_add, Bool.false_eq_true, and_self, true_and, and_true, sl_q, hcut, zip_q, hz, f2, len_q, hlen, eq_int, e1, ix_q, hA, h3, whole_rd]
      · rw [if_neg (by rw [hz1.2]; omega)]
        generalize L.map enc = M at *
        simp -implicitDefEqProofs only [d_speed_at, g_speed_at, xVar_a, xC_a, xBin_a, xUn_a, tOf_a, tTru_a, tNotP_a, tAndP_a, tOrP_a, tyes_a, tno_a, tYesP_a, xNil_a, xCons_a, xTup_a, xLst_a, xAnd_a, xOr_a, xIf_a, xChain_a, oNo_a, oAt_a, xSl_a, xCall_a, xSeq_a, xIt_a, xLc_a, gSet_a, gTupD_a, gsNil_a, gsCons_a, sNop_a, sBrk_a, sCnt_a, sSeq_a, sRet_a, sIf_a, sSet_a, sTgt_a, sAug_a, sApp_a, sExt_a, sPut_a, sPutK_a, pkO_s, sFor_a, sWhile_a, sPar_a, runD_a, b2_s, c2_s, sqO_nx, sqO_rt, sqO_bk, sqO_ct, ifO_t, ifO_f, stO_s, endO_nx, endO_rt, andO_t, andO_f, orO_t, orO_f, chO_s, chP_t, chP_f, slO_s, atO_i, lcO_s, forO_s, gsO_s, nxO_s, tgO_s, paO_s, apO_s, exO_s, plO_s, ptO_s, dB_b, tru_b, tru_n, tru_i, tru_l, tru_t, is_n, isn_n, nn_n, nn_i, nn_b, nn_t, nn_l, add_ii, add'_ii, sub_ii, neg_i, lt_ii, le_ii, gt_ii, ge_ii, ix_l, ix_t, ix_s, at0, at1, at2, sl_l, sl_t, len_l, len_t, len_s, abs_i, int_i, int_b, max_ii, min_ii, tup_s, lst_s, seq_l, seq_t, sum_s, wipe_n, wipe_c, mul_ii, fdiv_ii, mod_ii, add_ll, add_tt, setAll, mkT, mkL, oNot, List.getD_cons_zero, List.getD_cons_succ, List.length_cons, List.length_nil, List.set_cons_zero, List.set_cons_succ, List.map_cons, List.map_nil, List.replicate, List.cons_append, List.nil_append, List.append_nil, Option.bind_some, Option.map_some, List.all_cons, List.all_nil, if_true, if_false, reduceIte, Nat.reduceAdd, Nat.reduceSub, Nat.reduceLT, Nat.reduceLeDiff, Nat.reduceEqDiff, decide_true, decide_false, Bool.and_true, Bool.and_self, Bool.true_and, Bool.not_true, Bool.not_false, ne_eq, not_true_eq_false, not_false_eq_true, Nat.zero_add, Bool.false_eq_true, and_self, true_and, and_true, sl_q, hcut, zip_q, hz, f2, len_q, hlen, eq_int, e1, ix_q, hA, h3]
end K24

namespace K24
open PySem PySem.Spec PyProof.Rows L2 Pm
def hv (L : List Sd) (h : Int) : Rat := (spd L h + spd L (h + 1)) / 2
def rb (L : List Sd) (b : Int) (n : Nat) : Rat := rs ((List.range n).map fun k => hv L (b + (k : Nat)))
theorem rb_succ (L : List Sd) (b : Int) (n : Nat) : rb L b (n + 1) = rb L b n + hv L (b + (n : Nat)) := by
  unfold rb
  rw [List.range_succ, List.map_append, rs_app]
  show _ + (hv L (b + (n : Nat)) + 0) = _
  grind
theorem LogOk.hv_fm {L : List Sd} {a z : Sd} {Q : Int} (hL : LogOk L a z Q) {h : Int} (h1 : a.1 ≤ h) (h2 : h + 1 ≤ z.1) : Fm (2 * Q) (2 ^ 35) (hv L h) :=
  (((hL.spd_fm h1 (by omega)).add hL.q0 (hL.spd_fm (h := h + 1) (by omega) h2)).half hL.q0).mono (by decide)
theorem LogOk.rb_fm {L : List Sd} {a z : Sd} {Q : Int} (hL : LogOk L a z Q) {b : Int} (h1 : a.1 ≤ b) : ∀ n : Nat, b + (n : Nat) ≤ z.1 → Fm (2 * Q) (n * 2 ^ 35) (rb L b n)
  | 0, _ => ⟨0, by show (0 : Rat) = ((0 : Int) : Rat) / _; rw [Rat.div_def]; show (0 : Rat) = 0 * _; rw [Rat.zero_mul], by simp⟩
  | n + 1, h => by
    rw [rb_succ, Nat.succ_mul]
    have hq := hL.q0
    exact (hL.rb_fm h1 n (by omega)).add (by omega) (hL.hv_fm (by omega) (by omega))
theorem LogOk.zle {L : List Sd} {a z : Sd} {Q : Int} (hL : LogOk L a z Q) : z ∈ L ∧ Sm 10 z.1 ∧ a.1 ≤ z.1 := by
  have hm : z ∈ L := List.mem_of_getLast? hL.lst
  exact ⟨hm, (hL.ok z hm).1, (segs_out hL.inc hL.hd hL.lst z hm).1⟩
theorem LogOk.rb_sr {L : List Sd} {a z : Sd} {Q : Int} (hL : LogOk L a z Q) {b : Int} (h1 : a.1 ≤ b) {n : Nat} (h : b + (n : Nat) ≤ z.1) : SR 50 (rb L b n) := by
  have hz := hL.zle.2.1
  have hp := hL.pos
  have hq := hL.q0
  unfold Sm at hz
  refine Fm.sr (Q := 2 * Q) (by omega) ((Sm.lit (k := 10) (a := 2)).mul hL.qs |>.mono (by omega)) ((hL.rb_fm h1 n h).mono ?_)
  have : n ≤ 1024 := by omega
  have := Nat.mul_le_mul_right (2 ^ 35) this
  exact Nat.le_trans this (by decide)
theorem LogOk.hv_sr {L : List Sd} {a z : Sd} {Q : Int} (hL : LogOk L a z Q) {h : Int} (h1 : a.1 ≤ h) (h2 : h + 1 ≤ z.1) : SR 50 (hv L h) := by
  have hq := hL.q0
  exact Fm.sr (Q := 2 * Q) (by omega) ((Sm.lit (k := 10) (a := 2)).mul hL.qs |>.mono (by omega)) ((hL.hv_fm h1 h2).mono (by decide))
theorem LogOk.spd_sr {L : List Sd} {a z : Sd} {Q : Int} (hL : LogOk L a z Q) {h : Int} (h1 : a.1 ≤ h) (h2 : h ≤ z.1) : SR 50 (spd L h) :=
  Fm.sr hL.q0 (hL.qs.mono (by omega)) ((hL.spd_fm h1 h2).mono (by decide))
theorem rng_pre {n : Nat} {pre rest : List Nat} {x : Nat} (hp : pre ++ x :: rest = List.range n) : x = pre.length ∧ x < n := by
  have hlen : pre.length + (rest.length + 1) = n := by
    have := congrArg List.length hp
    simpa using this
  have h1 : (pre ++ x :: rest)[pre.length]? = some x := by simp
  rw [hp, List.getElem?_range (by omega)] at h1
  have := (Option.some.inj h1).symm
  exact ⟨this, by omega⟩
theorem half_lit : d_lowest [.int 1, .int 2] = some (rd (1 / 2)) := by
  have := lowest_rd 1 2 (by decide) Sm.lit
  rwa [show ((1 : Int) : Rat) / ((2 : Int) : Rat) = 1 / 2 by decide +kernel] at this
theorem half_sr : SR 10 (1 / 2 : Rat) := by
  have := SR.div (k := 10) (p := 1) (q := 2) Sm.lit Sm.lit (by decide)
  rwa [show ((1 : Int) : Rat) / ((2 : Int) : Rat) = 1 / 2 by decide +kernel] at this
theorem run_between_eq (bq : Bool) {L : List Sd} {a z : Sd} {Q : Int} (hL : LogOk L a z Q) {b e : Int} (h1 : a.1 ≤ b) (h2 : b ≤ e) (h3 : e ≤ z.1) : d_run_between [sqD bq (L.map enc), .int b, .int e] = some (rd (rb L b (e - b).toNat)) := by
  have hz := hL.zle.2.1
  have hp0 := hL.pos
  unfold Sm at hz
  have hr := oR2_list (i := b) (j := e) (by omega)
  obtain ⟨ρ', e1, h⟩ := forL_inv (g := gSet 4) (b := l1_run_between) (fun k : Nat => PyData.int (b + (k : Nat)))
    (fun pre rest ρ => pre ++ rest = List.range (e - b).toNat ∧ ∃ j u, ρ = [some (sqD bq (L.map enc)), some (.int b), some (.int e), some (rd (rb L b pre.length)), j, u]) (fun pre x rest ρ ⟨hp, j, u, e'⟩ => by
      subst e'
      obtain ⟨hx, hxn⟩ := rng_pre hp
      subst hx
      have s1 := speed_at_eq bq hL (h := b + (pre.length : Nat))
      rw [if_pos (by omega)] at s1
      have s2 := speed_at_eq bq hL (h := b + (pre.length : Nat) + 1)
      rw [if_pos (by omega)] at s2
      have r1 := hL.spd_sr (h := b + (pre.length : Nat)) (by omega) (by omega)
      have r2 := hL.spd_sr (h := b + (pre.length : Nat) + 1) (by omega) (by omega)
      have q1 := plus_rd (r1.mono (by omega)) (r2.mono (by omega))
      have q2 := times_rd ((r1.add r2).mono (k := 900) (by omega)) (half_sr.mono (by omega))
      have q3 := plus_rd ((hL.rb_sr h1 (n := pre.length) (by omega)).mono (k := 900) (by omega)) (((r1.add r2).mul half_sr).mono (k := 900) (by omega))
      have ev : (spd L (b + (pre.length : Nat)) + spd L (b + (pre.length : Nat) + 1)) * (1 / 2) = hv L (b + (pre.length : Nat)) := by unfold hv; grind
      rw [ev] at q2 q3
      rw [← rb_succ] at q3
      refine ⟨[some (sqD bq (L.map enc)), some (.int b), some (.int e), some (rd (rb L b pre.length)), some (.int (b + (pre.length : Nat))), u], [some (sqD bq (L.map enc)), some (.int b), some (.int e), some (rd (rb L b (pre ++ [pre.length]).length)), some (.int (b + (pre.length : Nat))), some (rd (spd L (b + (pre.length : Nat)) + spd L (b + (pre.length : Nat) + 1)))], rfl, .inl ?_, by rw [List.append_assoc]; exact hp, _, _, rfl⟩
      rw [List.length_append, List.length_singleton]
      generalize pre.length = n at *
      generalize L.map enc = M at *
      simp -implicitDefEqProofs only [l1_run_between, xVar_a, xC_a, xBin_a, xUn_a, tOf_a, tTru_a, tNotP_a, tAndP_a, tOrP_a, tyes_a, tno_a, tYesP_a, xNil_a, xCons_a, xTup_a, xLst_a, xAnd_a, xOr_a, xIf_a, xChain_a, oNo_a, oAt_a, xSl_a, xCall_a, xSeq_a, xIt_a, xLc_a, gSet_a, gTupD_a, gsNil_a, gsCons_a, sNop_a, sBrk_a, sCnt_a, sSeq_a, sRet_a, sIf_a, sSet_a, sTgt_a, sAug_a, sApp_a, sExt_a, sPut_a, sPutK_a, pkO_s, sFor_a, sWhile_a, sPar_a, runD_a, b2_s, c2_s, sqO_nx, sqO_rt, sqO_bk, sqO_ct, ifO_t, ifO_f, stO_s, endO_nx, endO_rt, andO_t, andO_f, orO_t, orO_f, chO_s, chP_t, chP_f, slO_s, atO_i, lcO_s, forO_s, gsO_s, nxO_s, tgO_s, paO_s, apO_s, exO_s, plO_s, ptO_s, dB_b, tru_b, tru_n, tru_i, tru_l, tru_t, is_n, isn_n, nn_n, nn_i, nn_b, nn_t, nn_l, add_ii, add'_ii, sub_ii, neg_i, lt_ii, le_ii, gt_ii, ge_ii, ix_l, ix_t, ix_s, at0, at1, at2, sl_l, sl_t, len_l, len_t, len_s, abs_i, int_i, int_b, max_ii, min_ii, tup_s, lst_s, seq_l, seq_t, sum_s, wipe_n, wipe_c, mul_ii, fdiv_ii, mod_ii, add_ll, add_tt, setAll, mkT, mkL, oNot, List.getD_cons_zero, List.getD_cons_succ, List.length_cons, List.length_nil, List.set_cons_zero, List.set_cons_succ, List.map_cons, List.map_nil, List.replicate, List.cons_append, List.nil_append, List.append_nil, Option.bind_some, Option.map_some, List.all_cons, List.all_nil, if_true, if_false, reduceIte, Nat.reduceAdd, Nat.reduceSub, Nat.reduceLT, Nat.reduceLeDiff, Nat.reduceEqDiff, decide_true, decide_false, Bool.and_true, Bool.and_self, Bool.true_and, Bool.not_true, Bool.not_false, ne_eq, not_true_eq_false, not_false_eq_true, Nat.zero_add, Bool.false_eq_true, and_self, true_and, and_true, s1, s2, q1, half_lit, q2, q3]) (List.range (e - b).toNat) [] [some (sqD bq (L.map enc)), some (.int b), some (.int e), some (rd 0), none, none] ⟨rfl, none, none, rfl⟩
  obtain ⟨_, j, u, e'⟩ := h
  subst e'
  have e0 : d_whole [.int 0] = some (rd 0) := rfl
  simp only [List.nil_append, List.length_range] at e1
  generalize L.map enc = M at *
  simp -implicitDefEqProofs only [d_run_between, g_run_between, xVar_a, xC_a, xBin_a, xUn_a, tOf_a, tTru_a, tNotP_a, tAndP_a, tOrP_a, tyes_a, tno_a, tYesP_a, xNil_a, xCons_a, xTup_a, xLst_a, xAnd_a, xOr_a, xIf_a, xChain_a, oNo_a, oAt_a, xSl_a, xCall_a, xSeq_a, xIt_a, xLc_a, gSet_a, gTupD_a, gsNil_a, gsCons_a, sNop_a, sBrk_a, sCnt_a, sSeq_a, sRet_a, sIf_a, sSet_a, sTgt_a, sAug_a, sApp_a, sExt_a, sPut_a, sPutK_a, pkO_s, sFor_a, sWhile_a, sPar_a, runD_a, b2_s, c2_s, sqO_nx, sqO_rt, sqO_bk, sqO_ct, ifO_t, ifO_f, stO_s, endO_nx, endO_rt, andO_t, andO_f, orO_t, orO_f, chO_s, chP_t, chP_f, slO_s, atO_i, lcO_s, forO_s, gsO_s, nxO_s, tgO_s, paO_s, apO_s, exO_s, plO_s, ptO_s, dB_b, tru_b, tru_n, tru_i, tru_l, tru_t, is_n, isn_n, nn_n, nn_i, nn_b, nn_t, nn_l, add_ii, add'_ii, sub_ii, neg_i, lt_ii, le_ii, gt_ii, ge_ii, ix_l, ix_t, ix_s, at0, at1, at2, sl_l, sl_t, len_l, len_t, len_s, abs_i, int_i, int_b, max_ii, min_ii, tup_s, lst_s, seq_l, seq_t, sum_s, wipe_n, wipe_c, mul_ii, fdiv_ii, mod_ii, add_ll, add_tt, setAll, mkT, mkL, oNot, List.getD_cons_zero, List.getD_cons_succ, List.length_cons, List.length_nil, List.set_cons_zero, List.set_cons_succ, List.map_cons, List.map_nil, List.replicate, List.cons_append, List.nil_append, List.append_nil, Option.bind_some, Option.map_some, List.all_cons, List.all_nil, if_true, if_false, reduceIte, Nat.reduceAdd, Nat.reduceSub, Nat.reduceLT, Nat.reduceLeDiff, Nat.reduceEqDiff, decide_true, decide_false, Bool.and_true, Bool.and_self, Bool.true_and, Bool.not_true, Bool.not_false, ne_eq, not_true_eq_false, not_false_eq_true, Nat.zero_add, Bool.false_eq_true, and_self, true_and, and_true, e0, hr, e1]
theorem run_all_eq (bq : Bool) {L : List Sd} {a z : Sd} {Q : Int} (hL : LogOk L a z Q) : d_run_all [sqD bq (L.map enc)] = some (rd (rb L a.1 (z.1 - a.1).toNat)) := by
  have h := run_between_eq bq hL (b := a.1) (e := z.1) (by omega) hL.zle.2.2 (by omega)
  have hA := hL.at0
  have hZ := hL.atL
  generalize L.map enc = M at *
  simp -implicitDefEqProofs only [d_run_all, g_run_all, xVar_a, xC_a, xBin_a, xUn_a, tOf_a, tTru_a, tNotP_a, tAndP_a, tOrP_a, tyes_a, tno_a, tYesP_a, xNil_a, xCons_a, xTup_a, xLst_a, xAnd_a, xOr_a, xIf_a, xChain_a, oNo_a, oAt_a, xSl_a, xCall_a, xSeq_a, xIt_a, xLc_a, gSet_a, gTupD_a, gsNil_a, gsCons_a, sNop_a, sBrk_a, sCnt_a, sSeq_a, sRet_a, sIf_a, sSet_a, sTgt_a, sAug_a, sApp_a, sExt_a, sPut_a, sPutK_a, pkO_s, sFor_a, sWhile_a, sPar_a, runD_a, b2_s, c2_s, sqO_nx, sqO_rt, sqO_bk, sqO_ct, ifO_t, ifO_f, stO_s, endO_nx, endO_rt, andO_t, andO_f, orO_t, orO_f, chO_s, chP_t, chP_f, slO_s, atO_i, lcO_s, forO_s, gsO_s, nxO_s, tgO_s, paO_s, apO_s, exO_s, plO_s, ptO_s, dB_b, tru_b, tru_n, tru_i, tru_l, tru_t, is_n, isn_n, nn_n, nn_i, nn_b, nn_t, nn_l, add_ii, add'_ii, sub_ii, neg_i, lt_ii, le_ii, gt_ii, ge_ii, ix_l, ix_t, ix_s, at0, at1, at2, sl_l, sl_t, len_l, len_t, len_s, abs_i, int_i, int_b, max_ii, min_ii, tup_s, lst_s, seq_l, seq_t, sum_s, wipe_n, wipe_c, mul_ii, fdiv_ii, mod_ii, add_ll, add_tt, setAll, mkT, mkL, oNot, List.getD_cons_zero, List.getD_cons_succ, List.length_cons, List.length_nil, List.set_cons_zero, List.set_cons_succ, List.map_cons, List.map_nil, List.replicate, List.cons_append, List.nil_append, List.append_nil, Option.bind_some, Option.map_some, List.all_cons, List.all_nil, if_true, if_false, reduceIte, Nat.reduceAdd, Nat.reduceSub, Nat.reduceLT, Nat.reduceLeDiff, Nat.reduceEqDiff, decide_true, decide_false, Bool.and_true, Bool.and_self, Bool.true_and, Bool.not_true, Bool.not_false, ne_eq, not_true_eq_false, not_false_eq_true, Nat.zero_add, Bool.false_eq_true, and_self, true_and, and_true, ix_q, hA, hZ, h]
theorem mean_speed_eq (bq : Bool) {L : List Sd} {a z : Sd} {Q : Int} (hL : LogOk L a z Q) : d_mean_speed [sqD bq (L.map enc)] = some (if z.1 - a.1 = 0 then .none else rd (rb L a.1 (z.1 - a.1).toNat * ((1 : Rat) / ((z.1 - a.1 : Int) : Rat)))) := by
  have h := run_all_eq bq hL
  have hA := hL.at0
  have hZ := hL.atL
  have hz := hL.zle
  have hp0 := hL.pos
  by_cases h0 : z.1 - a.1 = 0
  · rw [if_pos h0]
    generalize L.map enc = M at *
    simp -implicitDefEqProofs only [d_mean_speed, g_mean_speed, xVar_a, xC_a, xBin_a, xUn_a, tOf_a, tTru_a, tNotP_a, tAndP_a, tOrP_a, tyes_a, tno_a, tYesP_a, xNil_a, xCons_a, xTup_a, xLst_a, xAnd_a, xOr_a, xIf_a, xChain_a, oNo_a, oAt_a, xSl_a, xCall_a, xSeq_a, xIt_a, xLc_a, gSet_a, gTupD_a, gsNil_a, gsCons_a, sNop_a, sBrk_a, sCnt_a, sSeq_a, sRet_a, sIf_a, sSet_a, sTgt_a, sAug_a, sApp_a, sExt_a, sPut_a, sPutK_a, pkO_s, sFor_a, sWhile_a, sPar_a, runD_a, b2_s, c2_s, sqO_nx, sqO_rt, sqO_bk, sqO_ct, ifO_t, ifO_f, stO_s, endO_nx, endO_rt, andO_t, andO_f, orO_t, orO_f, chO_s, chP_t, chP_f, slO_s, atO_i, lcO_s, forO_s, gsO_s, nxO_s, tgO_s, paO_s, apO_s, exO_s, plO_s, ptO_s, dB_b, tru_b, tru_n, tru_i, tru_l, tru_t, is_n, isn_n, nn_n, nn_i, nn_b, nn_t, nn_l, add_ii, add'_ii, sub_ii, neg_i, lt_ii, le_ii, gt_ii, ge_ii, ix_l, ix_t, ix_s, at0, at1, at2, sl_l, sl_t, len_l, len_t, len_s, abs_i, int_i, int_b, max_ii, min_ii, tup_s, lst_s, seq_l, seq_t, sum_s, wipe_n, wipe_c, mul_ii, fdiv_ii, mod_ii, add_ll, add_tt, setAll, mkT, mkL, oNot, List.getD_cons_zero, List.getD_cons_succ, List.length_cons, List.length_nil, List.set_cons_zero, List.set_cons_succ, List.map_cons, List.map_nil, List.replicate, List.cons_append, List.nil_append, List.append_nil, Option.bind_some, Option.map_some, List.all_cons, List.all_nil, if_true, if_false, reduceIte, Nat.reduceAdd, Nat.reduceSub, Nat.reduceLT, Nat.reduceLeDiff, Nat.reduceEqDiff, decide_true, decide_false, Bool.and_true, Bool.and_self, Bool.true_and, Bool.not_true, Bool.not_false, ne_eq, not_true_eq_false, not_false_eq_true, Nat.zero_add, Bool.false_eq_true, and_self, true_and, and_true, ix_q, hA, hZ, eq_int, h0]
  · rw [if_neg h0]
    have hw : 0 < z.1 - a.1 := by omega
    have sw : Sm 10 (z.1 - a.1) := hz.2.1.le (by omega)
    have q := lowest_rd 1 (z.1 - a.1) hw (sw.mono (by omega))
    have s1 : SR 10 (((1 : Int) : Rat) / ((z.1 - a.1 : Int) : Rat)) := SR.div Sm.lit sw hw
    rw [show ((1 : Int) : Rat) = 1 from rfl] at q s1
    have t := times_rd ((hL.rb_sr (b := a.1) (by omega) (n := (z.1 - a.1).toNat) (by omega)).mono (k := 900) (by omega)) (s1.mono (by omega))
    have e0 : decide (z.1 - a.1 = 0) = false := decide_eq_false h0
    generalize L.map enc = M at *
    simp -implicitDefEqProofs only [d_mean_speed, g_mean_speed, xVar_a, xC_a, xBin_a, xUn_a, tOf_a, tTru_a, tNotP_a, tAndP_a, tOrP_a, tyes_a, tno_a, tYesP_a, xNil_a, xCons_a, xTup_a, xLst_a, xAnd_a, xOr_a, xIf_a, xChain_a, oNo_a, oAt_a, xSl_a, xCall_a, xSeq_a, xIt_a, xLc_a, gSet_a, gTupD_a, gsNil_a, gsCons_a, sNop_a, sBrk_a, sCnt_a, sSeq_a, sRet_a, sIf_a, sSet_a, sTgt_a, sAug_a, sApp_a, sExt_a, sPut_a, sPutK_a, pkO_s, sFor_a, sWhile_a, sPar_a, runD_a, b2_s, c2_s, sqO_nx, sqO_rt, sqO_bk, sqO_ct, ifO_t, ifO_f, stO_s, endO_nx, endO_rt, andO_t, andO_f, orO_t, orO_f, chO_s, chP_t, chP_f, slO_s, atO_i, lcO_s, forO_s, gsO_s, nxO_s, tgO_s, paO_s, apO_s, exO_s, plO_s, ptO_s, dB_b, tru_b, tru_n, tru_i, tru_l, tru_t, is_n, isn_n, nn_n, nn_i, nn_b, nn_t, nn_l, add_ii, add'_ii, sub_ii, neg_i, lt_ii, le_ii, gt_ii, ge_ii, ix_l, ix_t, ix_s, at0, at1, at2, sl_l, sl_t, len_l, len_t, len_s, abs_i, int_i, int_b, max_ii, min_ii, tup_s, lst_s, seq_l, seq_t, sum_s, wipe_n, wipe_c, mul_ii, fdiv_ii, mod_ii, add_ll, add_tt, setAll, mkT, mkL, oNot, List.getD_cons_zero, List.getD_cons_succ, List.length_cons, List.length_nil, List.set_cons_zero, List.set_cons_succ, List.map_cons, List.map_nil, List.replicate, List.cons_append, List.nil_append, List.append_nil, Option.bind_some, Option.map_some, List.all_cons, List.all_nil, if_true, if_false, reduceIte, Nat.reduceAdd, Nat.reduceSub, Nat.reduceLT, Nat.reduceLeDiff, Nat.reduceEqDiff, decide_true, decide_false, Bool.and_true, Bool.and_self, Bool.true_and, Bool.not_true, Bool.not_false, ne_eq, not_true_eq_false, not_false_eq_true, Nat.zero_add, Bool.false_eq_true, and_self, true_and, and_true, ix_q, hA, hZ, eq_int, e0, h, q, flat_rd, t]
end K24

namespace K24
open PySem PySem.Spec PyProof.Rows L2 Pm
theorem seq_q (b : Bool) (xs : List D) : seqD (sqD b xs) = some xs := by cases b <;> rfl
/-! places and weights -/
def toS (P : List Int) : List Sd := P.map fun p => (p, 0)
def pf (P : List Int) : Int := hB (toS P)
def pq (P : List Int) : Int := qB (toS P)
def un (P : List Int) : Int := under (toS P)
def wT (W : List Sd) : Int := dB2 W
def wU (W : List Sd) : Int := bB W
def lA (P : List Int) (W : List Sd) : Int := (P.length : Int) * wU W - pf P * wT W
def lB (P : List Int) (W : List Sd) : Int := wT W * pq P - wU W * pf P
def ld (P : List Int) (W : List Sd) (p : Int) : Rat := ((lB P W + lA P W * p : Int) : Rat) / (un P : Rat)
theorem un_def (P : List Int) : (P.length : Int) * pq P - pf P * pf P = un P := by
  unfold un under pf pq toS
  rw [List.length_map]
theorem pf_sum (P : List Int) : pf P = P.sum := by
  unfold pf hB sq toS
  rw [List.map_map]
  congr 1
  conv => rhs; rw [← List.map_id P]
  rfl
theorem pq_sum (P : List Int) : pq P = (P.map fun p => p * p).sum := by
  unfold pq qB sq toS
  rw [List.map_map]
  rfl
theorem un_pos {P : List Int} (hn : P.Nodup) (h2 : 2 ≤ P.length) : 0 < un P := by
  match P, h2 with
  | p :: q :: P, _ =>
    have hne : q ≠ p := by
      have := List.nodup_cons.mp hn
      intro h
      exact this.1 (by simp [h])
    show 0 < under ((p, 0) :: (q, 0) :: toS P)
    rw [under_cons, sq_cons]
    have := under_nonneg ((q, 0) :: toS P)
    have := sq_nonneg (S := toS P) (f := fun z => (z.1 - p) * (z.1 - p)) fun z => sqd_nonneg _
    have : 0 < (q - p) * (q - p) := by
      rcases Int.lt_or_gt_of_ne hne with h | h
      · exact Int.mul_pos_of_neg_of_neg (by omega) (by omega)
      · exact Int.mul_pos (by omega) (by omega)
    simp only
    omega
def OkI (P : List Int) : Prop := (∀ p ∈ P, Sm 10 p) ∧ P.length ≤ 10
theorem OkI.toS {P : List Int} (h : OkI P) : OkS (toS P) := by
  intro s hs
  obtain ⟨p, hp, rfl⟩ := List.mem_map.mp hs
  exact ⟨h.1 p hp, Sm.zero⟩
theorem pf_sm {P : List Int} (h : OkI P) : Sm 20 (pf P) := sq_sm (fun s hs => (h.toS s hs).1) (by unfold K24.toS; rw [List.length_map]; have := h.2; omega)
theorem pq_sm {P : List Int} (h : OkI P) : Sm 30 (pq P) := sq_sm (fun s hs => (h.toS s hs).1.mul (h.toS s hs).1) (by unfold K24.toS; rw [List.length_map]; have := h.2; omega)
theorem wT_sm {W : List Sd} (h : OkS W) (hl : W.length ≤ 10) : Sm 20 (wT W) := sq_sm (fun s hs => (h s hs).2) (by omega)
theorem wU_sm {W : List Sd} (h : OkS W) (hl : W.length ≤ 10) : Sm 30 (wU W) := sq_sm (fun s hs => (h s hs).1.mul (h s hs).2) (by omega)
theorem pn_sm {P : List Int} (h : OkI P) : Sm 10 (P.length : Int) := by have := h.2; unfold Sm; omega
theorem un_sm {P : List Int} (h : OkI P) : Sm 41 (un P) := by
  rw [← un_def]
  exact (((pn_sm h).mul (pq_sm h)).mono (k := 40) (by omega)).sub (((pf_sm h).mul (pf_sm h)).mono (k := 40) (by omega))
theorem lA_sm {P : List Int} {W : List Sd} (h : OkI P) (hW : OkS W) (hl : W.length ≤ 10) : Sm 41 (lA P W) :=
  (((pn_sm h).mul (wU_sm hW hl)).mono (k := 40) (by omega)).sub (((pf_sm h).mul (wT_sm hW hl)).mono (k := 40) (by omega))
theorem lB_sm {P : List Int} {W : List Sd} (h : OkI P) (hW : OkS W) (hl : W.length ≤ 10) : Sm 51 (lB P W) :=
  (((wT_sm hW hl).mul (pq_sm h)).mono (k := 50) (by omega)).sub (((wU_sm hW hl).mul (pf_sm h)).mono (k := 50) (by omega))
theorem ld_sr {P : List Int} {W : List Sd} (h : OkI P) (hW : OkS W) (hl : W.length ≤ 10) (hu : 0 < un P) {p : Int} (hp : Sm 10 p) : SR 53 (ld P W p) :=
  SR.div ((((lB_sm h hW hl).mono (k := 52) (by omega)).add (((lA_sm h hW hl).mul hp).mono (by omega)))) ((un_sm h).mono (by omega)) hu
theorem ld_eq {P : List Int} {W : List Sd} (hu : 0 < un P) (p : Int) : (lB P W : Rat) / (un P : Rat) + (lA P W : Rat) / (un P : Rat) * (p : Rat) = ld P W p := by
  unfold ld
  have : (un P : Rat) ≠ 0 := by have := cast_pos hu; grind
  push_cast
  grind
theorem int_f (P : List Int) (f : Int → Int) : bSum [.list (P.map fun p => PyData.int (f p))] = some (.int (P.map f).sum) := by
  rw [sum_s, seq_l, Option.bind_some, show (P.map fun p => PyData.int (f p)) = (P.map f).map PyData.int by rw [List.map_map]; rfl, asInts_map]
  rfl
theorem int_s (b : Bool) (P : List Int) : bSum [sqD b (P.map PyData.int)] = some (.int P.sum) := by
  rw [sum_s, seq_q, Option.bind_some, asInts_map]
  rfl
theorem len_i (b : Bool) (P : List Int) : bLen [sqD b (P.map PyData.int)] = some (.int P.length) := by
  rw [len_q, List.length_map]
/-! the words of the law -/
theorem law_times_rd {x y : Rat} (hx : SR 900 x) (hy : SR 900 y) : d__law_times [rd x, rd y] = some (rd (x * y)) := by
  have m1 := hx.1.mulOk hy.1 (by omega) (by omega)
  have m2 := hx.2.mulOk hy.2 (by omega) (by omega)
  have w := ratio_rd (x.num * y.num) ((x.den : Int) * (y.den : Int)) (Int.mul_pos (den_pos x) (den_pos y)) ((hx.2.mul hy.2).mono (by omega))
  rw [← qmul (den_pos x) (den_pos y), ← rat_eq, ← rat_eq] at w
  simp -implicitDefEqProofs only [d__law_times, g__law_times, xVar_a, xC_a, xBin_a, xUn_a, tOf_a, tTru_a, tNotP_a, tAndP_a, tOrP_a, tyes_a, tno_a, tYesP_a, xNil_a, xCons_a, xTup_a, xLst_a, xAnd_a, xOr_a, xIf_a, xChain_a, oNo_a, oAt_a, xSl_a, xCall_a, xSeq_a, xIt_a, xLc_a, gSet_a, gTupD_a, gsNil_a, gsCons_a, sNop_a, sBrk_a, sCnt_a, sSeq_a, sRet_a, sIf_a, sSet_a, sTgt_a, sAug_a, sApp_a, sExt_a, sPut_a, sPutK_a, pkO_s, sFor_a, sWhile_a, sPar_a, runD_a, b2_s, c2_s, sqO_nx, sqO_rt, sqO_bk, sqO_ct, ifO_t, ifO_f, stO_s, endO_nx, endO_rt, andO_t, andO_f, orO_t, orO_f, chO_s, chP_t, chP_f, slO_s, atO_i, lcO_s, forO_s, gsO_s, nxO_s, tgO_s, paO_s, apO_s, exO_s, plO_s, ptO_s, dB_b, tru_b, tru_n, tru_i, tru_l, tru_t, is_n, isn_n, nn_n, nn_i, nn_b, nn_t, nn_l, add_ii, add'_ii, sub_ii, neg_i, lt_ii, le_ii, gt_ii, ge_ii, ix_l, ix_t, ix_s, at0, at1, at2, sl_l, sl_t, len_l, len_t, len_s, abs_i, int_i, int_b, max_ii, min_ii, tup_s, lst_s, seq_l, seq_t, sum_s, wipe_n, wipe_c, mul_ii, fdiv_ii, mod_ii, add_ll, add_tt, setAll, mkT, mkL, oNot, List.getD_cons_zero, List.getD_cons_succ, List.length_cons, List.length_nil, List.set_cons_zero, List.set_cons_succ, List.map_cons, List.map_nil, List.replicate, List.cons_append, List.nil_append, List.append_nil, Option.bind_some, Option.map_some, List.all_cons, List.all_nil, if_true, if_false, reduceIte, Nat.reduceAdd, Nat.reduceSub, Nat.reduceLT, Nat.reduceLeDiff, Nat.reduceEqDiff, decide_true, decide_false, Bool.and_true, Bool.and_self, Bool.true_and, Bool.not_true, Bool.not_false, ne_eq, not_true_eq_false, not_false_eq_true, Nat.zero_add, Bool.false_eq_true, and_self, true_and, and_true, rd_0, rd_1, m1, m2, w]
theorem law_sum2 {x y : Rat} (hx : SR 600 x) (hy : SR 600 y) : d__law_sum [.tuple [rd x, rd y]] = some (rd (x + y)) := by
  have hd := den_pos x
  have hdy := den_pos y
  have z0 : Sm 10 0 := Sm.zero
  have z1 : Sm 10 1 := Sm.lit
  have m1 := z0.mulOk hx.2 (by omega) (by omega)
  have m2 := hx.1.mulOk z1 (by omega) (by omega)
  have m3 := z1.mulOk hx.2 (by omega) (by omega)
  have m4 := hx.1.mulOk hy.2 (by omega) (by omega)
  have m5 := hy.1.mulOk hx.2 (by omega) (by omega)
  have m6 := hx.2.mulOk hy.2 (by omega) (by omega)
  have w := ratio_rd (x.num * (y.den : Int) + y.num * (x.den : Int)) ((x.den : Int) * (y.den : Int)) (Int.mul_pos hd hdy) ((hx.2.mul hy.2).mono (by omega))
  rw [← qadd hd hdy, ← rat_eq, ← rat_eq] at w
  have g : ∀ (z : Rat) (ρ : PEnv), gTupD 2 (gsCons (gSet 3) (gsCons (gSet 4) gsNil)) (rd z) ρ = gTupD 2 (gsCons (gSet 3) (gsCons (gSet 4) gsNil)) (.tuple [.int z.num, .int z.den]) ρ := fun _ _ => rfl
  simp -implicitDefEqProofs only [d__law_sum, g__law_sum, l1__law_sum, forL, g, xVar_a, xC_a, xBin_a, xUn_a, tOf_a, tTru_a, tNotP_a, tAndP_a, tOrP_a, tyes_a, tno_a, tYesP_a, xNil_a, xCons_a, xTup_a, xLst_a, xAnd_a, xOr_a, xIf_a, xChain_a, oNo_a, oAt_a, xSl_a, xCall_a, xSeq_a, xIt_a, xLc_a, gSet_a, gTupD_a, gsNil_a, gsCons_a, sNop_a, sBrk_a, sCnt_a, sSeq_a, sRet_a, sIf_a, sSet_a, sTgt_a, sAug_a, sApp_a, sExt_a, sPut_a, sPutK_a, pkO_s, sFor_a, sWhile_a, sPar_a, runD_a, b2_s, c2_s, sqO_nx, sqO_rt, sqO_bk, sqO_ct, ifO_t, ifO_f, stO_s, endO_nx, endO_rt, andO_t, andO_f, orO_t, orO_f, chO_s, chP_t, chP_f, slO_s, atO_i, lcO_s, forO_s, gsO_s, nxO_s, tgO_s, paO_s, apO_s, exO_s, plO_s, ptO_s, dB_b, tru_b, tru_n, tru_i, tru_l, tru_t, is_n, isn_n, nn_n, nn_i, nn_b, nn_t, nn_l, add_ii, add'_ii, sub_ii, neg_i, lt_ii, le_ii, gt_ii, ge_ii, ix_l, ix_t, ix_s, at0, at1, at2, sl_l, sl_t, len_l, len_t, len_s, abs_i, int_i, int_b, max_ii, min_ii, tup_s, lst_s, seq_l, seq_t, sum_s, wipe_n, wipe_c, mul_ii, fdiv_ii, mod_ii, add_ll, add_tt, setAll, mkT, mkL, oNot, List.getD_cons_zero, List.getD_cons_succ, List.length_cons, List.length_nil, List.set_cons_zero, List.set_cons_succ, List.map_cons, List.map_nil, List.replicate, List.cons_append, List.nil_append, List.append_nil, Option.bind_some, Option.map_some, List.all_cons, List.all_nil, if_true, if_false, reduceIte, Nat.reduceAdd, Nat.reduceSub, Nat.reduceLT, Nat.reduceLeDiff, Nat.reduceEqDiff, decide_true, decide_false, Bool.and_true, Bool.and_self, Bool.true_and, Bool.not_true, Bool.not_false, ne_eq, not_true_eq_false, not_false_eq_true, Nat.zero_add, Bool.false_eq_true, and_self, true_and, and_true, m1, m2, m3, m4, m5, m6, Int.zero_mul, Int.mul_one, Int.one_mul, Int.zero_add, w]
theorem law_at_eq {r β : Rat} {p : Int} (hr : SR 60 r) (hβ : SR 60 β) (hp : Sm 10 p) : d__law_at [.tuple [rd r, rd β], .int p] = some (rd (β + r * (p : Rat))) := by
  have t : d__law_times [rd r, .tuple [.int p, .int 1]] = some (rd (r * (p : Rat))) := law_times_rd (y := (p : Rat)) (hr.mono (by omega)) (SR.int (hp.mono (by omega)))
  have s := law_sum2 (hβ.mono (k := 600) (by omega)) ((hr.mul (SR.int hp)).mono (k := 600) (by omega))
  simp -implicitDefEqProofs only [d__law_at, g__law_at, xVar_a, xC_a, xBin_a, xUn_a, tOf_a, tTru_a, tNotP_a, tAndP_a, tOrP_a, tyes_a, tno_a, tYesP_a, xNil_a, xCons_a, xTup_a, xLst_a, xAnd_a, xOr_a, xIf_a, xChain_a, oNo_a, oAt_a, xSl_a, xCall_a, xSeq_a, xIt_a, xLc_a, gSet_a, gTupD_a, gsNil_a, gsCons_a, sNop_a, sBrk_a, sCnt_a, sSeq_a, sRet_a, sIf_a, sSet_a, sTgt_a, sAug_a, sApp_a, sExt_a, sPut_a, sPutK_a, pkO_s, sFor_a, sWhile_a, sPar_a, runD_a, b2_s, c2_s, sqO_nx, sqO_rt, sqO_bk, sqO_ct, ifO_t, ifO_f, stO_s, endO_nx, endO_rt, andO_t, andO_f, orO_t, orO_f, chO_s, chP_t, chP_f, slO_s, atO_i, lcO_s, forO_s, gsO_s, nxO_s, tgO_s, paO_s, apO_s, exO_s, plO_s, ptO_s, dB_b, tru_b, tru_n, tru_i, tru_l, tru_t, is_n, isn_n, nn_n, nn_i, nn_b, nn_t, nn_l, add_ii, add'_ii, sub_ii, neg_i, lt_ii, le_ii, gt_ii, ge_ii, ix_l, ix_t, ix_s, at0, at1, at2, sl_l, sl_t, len_l, len_t, len_s, abs_i, int_i, int_b, max_ii, min_ii, tup_s, lst_s, seq_l, seq_t, sum_s, wipe_n, wipe_c, mul_ii, fdiv_ii, mod_ii, add_ll, add_tt, setAll, mkT, mkL, oNot, List.getD_cons_zero, List.getD_cons_succ, List.length_cons, List.length_nil, List.set_cons_zero, List.set_cons_succ, List.map_cons, List.map_nil, List.replicate, List.cons_append, List.nil_append, List.append_nil, Option.bind_some, Option.map_some, List.all_cons, List.all_nil, if_true, if_false, reduceIte, Nat.reduceAdd, Nat.reduceSub, Nat.reduceLT, Nat.reduceLeDiff, Nat.reduceEqDiff, decide_true, decide_false, Bool.and_true, Bool.and_self, Bool.true_and, Bool.not_true, Bool.not_false, ne_eq, not_true_eq_false, not_false_eq_true, Nat.zero_add, Bool.false_eq_true, and_self, true_and, and_true, t, s]
theorem sums_w {W : List Sd} (hW : OkS W) (N i j : Nat) (hi : i ≠ j) (hiN : i < N) (hjN : j < N) : ∀ ρ : PEnv, ρ.length = N → lcL (gTupD 2 (gsCons (gSet i) (gsCons (gSet j) gsNil))) tYesP (xVar j) ρ (W.map enc) = some (W.map fun s => PyData.int s.2) ∧ lcL (gTupD 2 (gsCons (gSet i) (gsCons (gSet j) gsNil))) tYesP (xBin oMul' (xVar i) (xVar j)) ρ (W.map enc) = some (W.map fun s => PyData.int (s.1 * s.2)) := by
  intro ρ hρ
  have e1 : ∀ x y : D, ((ρ.set i (some x)).set j (some y)).getD j none = some y := fun x y => by
    rw [List.getD_eq_getElem?_getD, List.getElem?_set_self (by rw [List.length_set]; omega)]
    rfl
  have e2 : ∀ x y : D, ((ρ.set i (some x)).set j (some y)).getD i none = some x := fun x y => by
    rw [List.getD_eq_getElem?_getD, List.getElem?_set_ne (Ne.symm hi), List.getElem?_set_self (by omega)]
    rfl
  refine ⟨lcL_map _ _ _ fun s hs => ?_, lcL_map _ _ _ fun s hs => ?_⟩
  · simp -implicitDefEqProofs only [enc, xVar_a, xC_a, xBin_a, xUn_a, tOf_a, tTru_a, tNotP_a, tAndP_a, tOrP_a, tyes_a, tno_a, tYesP_a, xNil_a, xCons_a, xTup_a, xLst_a, xAnd_a, xOr_a, xIf_a, xChain_a, oNo_a, oAt_a, xSl_a, xCall_a, xSeq_a, xIt_a, xLc_a, gSet_a, gTupD_a, gsNil_a, gsCons_a, sNop_a, sBrk_a, sCnt_a, sSeq_a, sRet_a, sIf_a, sSet_a, sTgt_a, sAug_a, sApp_a, sExt_a, sPut_a, sPutK_a, pkO_s, sFor_a, sWhile_a, sPar_a, runD_a, b2_s, c2_s, sqO_nx, sqO_rt, sqO_bk, sqO_ct, ifO_t, ifO_f, stO_s, endO_nx, endO_rt, andO_t, andO_f, orO_t, orO_f, chO_s, chP_t, chP_f, slO_s, atO_i, lcO_s, forO_s, gsO_s, nxO_s, tgO_s, paO_s, apO_s, exO_s, plO_s, ptO_s, dB_b, tru_b, tru_n, tru_i, tru_l, tru_t, is_n, isn_n, nn_n, nn_i, nn_b, nn_t, nn_l, add_ii, add'_ii, sub_ii, neg_i, lt_ii, le_ii, gt_ii, ge_ii, ix_l, ix_t, ix_s, at0, at1, at2, sl_l, sl_t, len_l, len_t, len_s, abs_i, int_i, int_b, max_ii, min_ii, tup_s, lst_s, seq_l, seq_t, sum_s, wipe_n, wipe_c, mul_ii, fdiv_ii, mod_ii, add_ll, add_tt, setAll, mkT, mkL, oNot, List.getD_cons_zero, List.getD_cons_succ, List.length_cons, List.length_nil, List.set_cons_zero, List.set_cons_succ, List.map_cons, List.map_nil, List.replicate, List.cons_append, List.nil_append, List.append_nil, Option.bind_some, Option.map_some, List.all_cons, List.all_nil, if_true, if_false, reduceIte, Nat.reduceAdd, Nat.reduceSub, Nat.reduceLT, Nat.reduceLeDiff, Nat.reduceEqDiff, decide_true, decide_false, Bool.and_true, Bool.and_self, Bool.true_and, Bool.not_true, Bool.not_false, ne_eq, not_true_eq_false, not_false_eq_true, Nat.zero_add, Bool.false_eq_true, and_self, true_and, and_true, hρ, hiN, hjN, List.length_set, e1]
  · have m := (hW s hs).1.mulOk (hW s hs).2 (by omega) (by omega)
    simp -implicitDefEqProofs only [enc, xVar_a, xC_a, xBin_a, xUn_a, tOf_a, tTru_a, tNotP_a, tAndP_a, tOrP_a, tyes_a, tno_a, tYesP_a, xNil_a, xCons_a, xTup_a, xLst_a, xAnd_a, xOr_a, xIf_a, xChain_a, oNo_a, oAt_a, xSl_a, xCall_a, xSeq_a, xIt_a, xLc_a, gSet_a, gTupD_a, gsNil_a, gsCons_a, sNop_a, sBrk_a, sCnt_a, sSeq_a, sRet_a, sIf_a, sSet_a, sTgt_a, sAug_a, sApp_a, sExt_a, sPut_a, sPutK_a, pkO_s, sFor_a, sWhile_a, sPar_a, runD_a, b2_s, c2_s, sqO_nx, sqO_rt, sqO_bk, sqO_ct, ifO_t, ifO_f, stO_s, endO_nx, endO_rt, andO_t, andO_f, orO_t, orO_f, chO_s, chP_t, chP_f, slO_s, atO_i, lcO_s, forO_s, gsO_s, nxO_s, tgO_s, paO_s, apO_s, exO_s, plO_s, ptO_s, dB_b, tru_b, tru_n, tru_i, tru_l, tru_t, is_n, isn_n, nn_n, nn_i, nn_b, nn_t, nn_l, add_ii, add'_ii, sub_ii, neg_i, lt_ii, le_ii, gt_ii, ge_ii, ix_l, ix_t, ix_s, at0, at1, at2, sl_l, sl_t, len_l, len_t, len_s, abs_i, int_i, int_b, max_ii, min_ii, tup_s, lst_s, seq_l, seq_t, sum_s, wipe_n, wipe_c, mul_ii, fdiv_ii, mod_ii, add_ll, add_tt, setAll, mkT, mkL, oNot, List.getD_cons_zero, List.getD_cons_succ, List.length_cons, List.length_nil, List.set_cons_zero, List.set_cons_succ, List.map_cons, List.map_nil, List.replicate, List.cons_append, List.nil_append, List.append_nil, Option.bind_some, Option.map_some, List.all_cons, List.all_nil, if_true, if_false, reduceIte, Nat.reduceAdd, Nat.reduceSub, Nat.reduceLT, Nat.reduceLeDiff, Nat.reduceEqDiff, decide_true, decide_false, Bool.and_true, Bool.and_self, Bool.true_and, Bool.not_true, Bool.not_false, ne_eq, not_true_eq_false, not_false_eq_true, Nat.zero_add, Bool.false_eq_true, and_self, true_and, and_true, hρ, hiN, hjN, List.length_set, e1, e2, m]
theorem sqs_i {P : List Int} (h : OkI P) (N i : Nat) (hiN : i < N) : ∀ ρ : PEnv, ρ.length = N → lcL (gSet i) tYesP (xBin oMul' (xVar i) (xVar i)) ρ (P.map PyData.int) = some (P.map fun p => PyData.int (p * p)) := by
  intro ρ hρ
  have e1 : ∀ x : D, (ρ.set i (some x)).getD i none = some x := fun x => by
    rw [List.getD_eq_getElem?_getD, List.getElem?_set_self (by omega)]
    rfl
  refine lcL_map _ _ _ fun p hp => ?_
  have m := (h.1 p hp).mulOk (h.1 p hp) (by omega) (by omega)
  simp -implicitDefEqProofs only [xVar_a, xC_a, xBin_a, xUn_a, tOf_a, tTru_a, tNotP_a, tAndP_a, tOrP_a, tyes_a, tno_a, tYesP_a, xNil_a, xCons_a, xTup_a, xLst_a, xAnd_a, xOr_a, xIf_a, xChain_a, oNo_a, oAt_a, xSl_a, xCall_a, xSeq_a, xIt_a, xLc_a, gSet_a, gTupD_a, gsNil_a, gsCons_a, sNop_a, sBrk_a, sCnt_a, sSeq_a, sRet_a, sIf_a, sSet_a, sTgt_a, sAug_a, sApp_a, sExt_a, sPut_a, sPutK_a, pkO_s, sFor_a, sWhile_a, sPar_a, runD_a, b2_s, c2_s, sqO_nx, sqO_rt, sqO_bk, sqO_ct, ifO_t, ifO_f, stO_s, endO_nx, endO_rt, andO_t, andO_f, orO_t, orO_f, chO_s, chP_t, chP_f, slO_s, atO_i, lcO_s, forO_s, gsO_s, nxO_s, tgO_s, paO_s, apO_s, exO_s, plO_s, ptO_s, dB_b, tru_b, tru_n, tru_i, tru_l, tru_t, is_n, isn_n, nn_n, nn_i, nn_b, nn_t, nn_l, add_ii, add'_ii, sub_ii, neg_i, lt_ii, le_ii, gt_ii, ge_ii, ix_l, ix_t, ix_s, at0, at1, at2, sl_l, sl_t, len_l, len_t, len_s, abs_i, int_i, int_b, max_ii, min_ii, tup_s, lst_s, seq_l, seq_t, sum_s, wipe_n, wipe_c, mul_ii, fdiv_ii, mod_ii, add_ll, add_tt, setAll, mkT, mkL, oNot, List.getD_cons_zero, List.getD_cons_succ, List.length_cons, List.length_nil, List.set_cons_zero, List.set_cons_succ, List.map_cons, List.map_nil, List.replicate, List.cons_append, List.nil_append, List.append_nil, Option.bind_some, Option.map_some, List.all_cons, List.all_nil, if_true, if_false, reduceIte, Nat.reduceAdd, Nat.reduceSub, Nat.reduceLT, Nat.reduceLeDiff, Nat.reduceEqDiff, decide_true, decide_false, Bool.and_true, Bool.and_self, Bool.true_and, Bool.not_true, Bool.not_false, ne_eq, not_true_eq_false, not_false_eq_true, Nat.zero_add, Bool.false_eq_true, and_self, true_and, and_true, hρ, hiN, e1, m]
theorem law_line_eq (b : Bool) {P : List Int} {W : List Sd} (h : OkI P) (hW : OkS W) (hl : W.length ≤ 10) (hu : 0 < un P) : d__law_line [sqD b (P.map PyData.int), .tuple (W.map enc)] = some (.tuple [rd ((lA P W : Rat) / (un P : Rat)), rd ((lB P W : Rat) / (un P : Rat))]) := by
  have k1 := (pn_sm h).mulOk (pq_sm h) (by omega) (by omega)
  have k2 := (pf_sm h).mulOk (pf_sm h) (by omega) (by omega)
  have k3 := (pn_sm h).mulOk (wU_sm hW hl) (by omega) (by omega)
  have k4 := (pf_sm h).mulOk (wT_sm hW hl) (by omega) (by omega)
  have k5 := (wT_sm hW hl).mulOk (pq_sm h) (by omega) (by omega)
  have k6 := (wU_sm hW hl).mulOk (pf_sm h) (by omega) (by omega)
  have w1 := ratio_rd (lA P W) (un P) hu ((un_sm h).mono (by omega))
  have w2 := ratio_rd (lB P W) (un P) hu ((un_sm h).mono (by omega))
  have f1 := int_s b P
  rw [← pf_sum] at f1
  have f2 := int_f P fun p => p * p
  rw [← pq_sum] at f2
  have f3 : bSum [.list (W.map fun s => PyData.int s.2)] = some (.int (wT W)) := sum_f W fun s => s.2
  have f4 : bSum [.list (W.map fun s => PyData.int (s.1 * s.2))] = some (.int (wU W)) := sum_f W fun s => s.1 * s.2
  have e1 : (P.length : Int) * pq P - pf P * pf P = un P := un_def P
  have e2 : (P.length : Int) * wU W - pf P * wT W = lA P W := rfl
  have e3 : wT W * pq P - wU W * pf P = lB P W := rfl
  have L1 := fun ρ hρ => (sums_w hW 12 10 11 (by decide) (by decide) (by decide) ρ hρ).1
  have L2' := fun ρ hρ => (sums_w hW 12 10 11 (by decide) (by decide) (by decide) ρ hρ).2
  have L3 := sqs_i h 12 10 (by decide)
  have hlen := len_i b P
  have hq := seq_q b (P.map PyData.int)
  generalize sqD b (P.map PyData.int) = M at *
  generalize P.map PyData.int = MI at *
  generalize W.map enc = MW at *
  generalize (W.map fun s => PyData.int s.2) = N2 at *
  generalize (W.map fun s => PyData.int (s.1 * s.2)) = N3 at *
  generalize (P.map fun p => PyData.int (p * p)) = N4 at *
  simp -implicitDefEqProofs only [d__law_line, g__law_line, xVar_a, xC_a, xBin_a, xUn_a, tOf_a, tTru_a, tNotP_a, tAndP_a, tOrP_a, tyes_a, tno_a, tYesP_a, xNil_a, xCons_a, xTup_a, xLst_a, xAnd_a, xOr_a, xIf_a, xChain_a, oNo_a, oAt_a, xSl_a, xCall_a, xSeq_a, xIt_a, xLc_a, gSet_a, gTupD_a, gsNil_a, gsCons_a, sNop_a, sBrk_a, sCnt_a, sSeq_a, sRet_a, sIf_a, sSet_a, sTgt_a, sAug_a, sApp_a, sExt_a, sPut_a, sPutK_a, pkO_s, sFor_a, sWhile_a, sPar_a, runD_a, b2_s, c2_s, sqO_nx, sqO_rt, sqO_bk, sqO_ct, ifO_t, ifO_f, stO_s, endO_nx, endO_rt, andO_t, andO_f, orO_t, orO_f, chO_s, chP_t, chP_f, slO_s, atO_i, lcO_s, forO_s, gsO_s, nxO_s, tgO_s, paO_s, apO_s, exO_s, plO_s, ptO_s, dB_b, tru_b, tru_n, tru_i, tru_l, tru_t, is_n, isn_n, nn_n, nn_i, nn_b, nn_t, nn_l, add_ii, add'_ii, sub_ii, neg_i, lt_ii, le_ii, gt_ii, ge_ii, ix_l, ix_t, ix_s, at0, at1, at2, sl_l, sl_t, len_l, len_t, len_s, abs_i, int_i, int_b, max_ii, min_ii, tup_s, lst_s, seq_l, seq_t, sum_s, wipe_n, wipe_c, mul_ii, fdiv_ii, mod_ii, add_ll, add_tt, setAll, mkT, mkL, oNot, List.getD_cons_zero, List.getD_cons_succ, List.length_cons, List.length_nil, List.set_cons_zero, List.set_cons_succ, List.map_cons, List.map_nil, List.replicate, List.cons_append, List.nil_append, List.append_nil, Option.bind_some, Option.map_some, List.all_cons, List.all_nil, if_true, if_false, reduceIte, Nat.reduceAdd, Nat.reduceSub, Nat.reduceLT, Nat.reduceLeDiff, Nat.reduceEqDiff, decide_true, decide_false, Bool.and_true, Bool.and_self, Bool.true_and, Bool.not_true, Bool.not_false, ne_eq, not_true_eq_false, not_false_eq_true, Nat.zero_add, Bool.false_eq_true, and_self, true_and, and_true, hlen, f1, hq, L3, f2, L1, f3, L2', f4, k1, k2, k3, k4, k5, k6, e1, e2, e3, w1, w2, flat_rd]
theorem weight_sum_eq (b : Bool) {W : List Sd} (hW : OkS W) : d_weight_sum [sqD b (W.map enc)] = some (.int (wT W)) := by
  have f3 : bSum [.list (W.map fun s => PyData.int s.2)] = some (.int (wT W)) := sum_f W fun s => s.2
  have L1 := fun ρ hρ => (sums_w hW 3 1 2 (by decide) (by decide) (by decide) ρ hρ).1
  have hq := seq_q b (W.map enc)
  generalize sqD b (W.map enc) = M at *
  generalize W.map enc = MW at *
  generalize (W.map fun s => PyData.int s.2) = N2 at *
  simp -implicitDefEqProofs only [d_weight_sum, g_weight_sum, xVar_a, xC_a, xBin_a, xUn_a, tOf_a, tTru_a, tNotP_a, tAndP_a, tOrP_a, tyes_a, tno_a, tYesP_a, xNil_a, xCons_a, xTup_a, xLst_a, xAnd_a, xOr_a, xIf_a, xChain_a, oNo_a, oAt_a, xSl_a, xCall_a, xSeq_a, xIt_a, xLc_a, gSet_a, gTupD_a, gsNil_a, gsCons_a, sNop_a, sBrk_a, sCnt_a, sSeq_a, sRet_a, sIf_a, sSet_a, sTgt_a, sAug_a, sApp_a, sExt_a, sPut_a, sPutK_a, pkO_s, sFor_a, sWhile_a, sPar_a, runD_a, b2_s, c2_s, sqO_nx, sqO_rt, sqO_bk, sqO_ct, ifO_t, ifO_f, stO_s, endO_nx, endO_rt, andO_t, andO_f, orO_t, orO_f, chO_s, chP_t, chP_f, slO_s, atO_i, lcO_s, forO_s, gsO_s, nxO_s, tgO_s, paO_s, apO_s, exO_s, plO_s, ptO_s, dB_b, tru_b, tru_n, tru_i, tru_l, tru_t, is_n, isn_n, nn_n, nn_i, nn_b, nn_t, nn_l, add_ii, add'_ii, sub_ii, neg_i, lt_ii, le_ii, gt_ii, ge_ii, ix_l, ix_t, ix_s, at0, at1, at2, sl_l, sl_t, len_l, len_t, len_s, abs_i, int_i, int_b, max_ii, min_ii, tup_s, lst_s, seq_l, seq_t, sum_s, wipe_n, wipe_c, mul_ii, fdiv_ii, mod_ii, add_ll, add_tt, setAll, mkT, mkL, oNot, List.getD_cons_zero, List.getD_cons_succ, List.length_cons, List.length_nil, List.set_cons_zero, List.set_cons_succ, List.map_cons, List.map_nil, List.replicate, List.cons_append, List.nil_append, List.append_nil, Option.bind_some, Option.map_some, List.all_cons, List.all_nil, if_true, if_false, reduceIte, Nat.reduceAdd, Nat.reduceSub, Nat.reduceLT, Nat.reduceLeDiff, Nat.reduceEqDiff, decide_true, decide_false, Bool.and_true, Bool.and_self, Bool.true_and, Bool.not_true, Bool.not_false, ne_eq, not_true_eq_false, not_false_eq_true, Nat.zero_add, Bool.false_eq_true, and_self, true_and, and_true, hq, L1, f3]
theorem turn_sum_eq (b : Bool) {W : List Sd} (hW : OkS W) : d_turn_sum [sqD b (W.map enc)] = some (.int (wU W)) := by
  have f3 : bSum [.list (W.map fun s => PyData.int (s.1 * s.2))] = some (.int (wU W)) := sum_f W fun s => s.1 * s.2
  have L1 := fun ρ hρ => (sums_w hW 3 1 2 (by decide) (by decide) (by decide) ρ hρ).2
  have hq := seq_q b (W.map enc)
  generalize sqD b (W.map enc) = M at *
  generalize W.map enc = MW at *
  generalize (W.map fun s => PyData.int (s.1 * s.2)) = N2 at *
  simp -implicitDefEqProofs only [d_turn_sum, g_turn_sum, xVar_a, xC_a, xBin_a, xUn_a, tOf_a, tTru_a, tNotP_a, tAndP_a, tOrP_a, tyes_a, tno_a, tYesP_a, xNil_a, xCons_a, xTup_a, xLst_a, xAnd_a, xOr_a, xIf_a, xChain_a, oNo_a, oAt_a, xSl_a, xCall_a, xSeq_a, xIt_a, xLc_a, gSet_a, gTupD_a, gsNil_a, gsCons_a, sNop_a, sBrk_a, sCnt_a, sSeq_a, sRet_a, sIf_a, sSet_a, sTgt_a, sAug_a, sApp_a, sExt_a, sPut_a, sPutK_a, pkO_s, sFor_a, sWhile_a, sPar_a, runD_a, b2_s, c2_s, sqO_nx, sqO_rt, sqO_bk, sqO_ct, ifO_t, ifO_f, stO_s, endO_nx, endO_rt, andO_t, andO_f, orO_t, orO_f, chO_s, chP_t, chP_f, slO_s, atO_i, lcO_s, forO_s, gsO_s, nxO_s, tgO_s, paO_s, apO_s, exO_s, plO_s, ptO_s, dB_b, tru_b, tru_n, tru_i, tru_l, tru_t, is_n, isn_n, nn_n, nn_i, nn_b, nn_t, nn_l, add_ii, add'_ii, sub_ii, neg_i, lt_ii, le_ii, gt_ii, ge_ii, ix_l, ix_t, ix_s, at0, at1, at2, sl_l, sl_t, len_l, len_t, len_s, abs_i, int_i, int_b, max_ii, min_ii, tup_s, lst_s, seq_l, seq_t, sum_s, wipe_n, wipe_c, mul_ii, fdiv_ii, mod_ii, add_ll, add_tt, setAll, mkT, mkL, oNot, List.getD_cons_zero, List.getD_cons_succ, List.length_cons, List.length_nil, List.set_cons_zero, List.set_cons_succ, List.map_cons, List.map_nil, List.replicate, List.cons_append, List.nil_append, List.append_nil, Option.bind_some, Option.map_some, List.all_cons, List.all_nil, if_true, if_false, reduceIte, Nat.reduceAdd, Nat.reduceSub, Nat.reduceLT, Nat.reduceLeDiff, Nat.reduceEqDiff, decide_true, decide_false, Bool.and_true, Bool.and_self, Bool.true_and, Bool.not_true, Bool.not_false, ne_eq, not_true_eq_false, not_false_eq_true, Nat.zero_add, Bool.false_eq_true, and_self, true_and, and_true, hq, L1, f3]
theorem loads_of_eq (b : Bool) {P : List Int} {W : List Sd} (h : OkI P) (hW : OkS W) (hl : W.length ≤ 10) (hu : 0 < un P) : d_loads_of [sqD b (P.map PyData.int), .tuple (W.map enc)] = some (.tuple (P.map fun p => rd (ld P W p))) := by
  have k1 := (pn_sm h).mulOk (pq_sm h) (by omega) (by omega)
  have k2 := (pf_sm h).mulOk (pf_sm h) (by omega) (by omega)
  have k3 := (pn_sm h).mulOk (wU_sm hW hl) (by omega) (by omega)
  have k4 := (pf_sm h).mulOk (wT_sm hW hl) (by omega) (by omega)
  have k5 := (wT_sm hW hl).mulOk (pq_sm h) (by omega) (by omega)
  have k6 := (wU_sm hW hl).mulOk (pf_sm h) (by omega) (by omega)
  have w1 := lowest_rd (lA P W) (un P) hu ((un_sm h).mono (by omega))
  have w2 := lowest_rd (lB P W) (un P) hu ((un_sm h).mono (by omega))
  have f1 := int_s b P
  rw [← pf_sum] at f1
  have f2 := int_f P fun p => p * p
  rw [← pq_sum] at f2
  have f3 : d_weight_sum [.tuple (W.map enc)] = some (.int (wT W)) := weight_sum_eq false hW
  have f4 : d_turn_sum [.tuple (W.map enc)] = some (.int (wU W)) := turn_sum_eq false hW
  have e1 : (P.length : Int) * pq P - pf P * pf P = un P := un_def P
  have e2 : (P.length : Int) * wU W - pf P * wT W = lA P W := rfl
  have e3 : wT W * pq P - wU W * pf P = lB P W := rfl
  have L3 := sqs_i h 11 10 (by decide)
  have sA : SR 60 ((lA P W : Rat) / (un P : Rat)) := SR.div ((lA_sm h hW hl).mono (by omega)) ((un_sm h).mono (by omega)) hu
  have sB : SR 60 ((lB P W : Rat) / (un P : Rat)) := SR.div ((lB_sm h hW hl).mono (by omega)) ((un_sm h).mono (by omega)) hu
  have L5 : ∀ ρ : PEnv, ρ.length = 11 → ρ.getD 8 none = some (rd ((lB P W : Rat) / (un P : Rat))) → ρ.getD 9 none = some (rd ((lA P W : Rat) / (un P : Rat))) →
      lcL (gSet 10) tYesP (xCall (fun ds => if ds.length = 2 then ((d_plus) ds).bind fun d => if flat d then some d else none else none) (xCons (xVar 8) (xCons (xCall (fun ds => if ds.length = 2 then ((d_times) ds).bind fun d => if flat d then some d else none else none) (xCons (xVar 9) (xCons (xCall (fun ds => if ds.length = 1 then (d_whole) ds else none) (xCons (xVar 10) xNil)) xNil))) xNil))) ρ (P.map PyData.int) = some (P.map fun p => rd (ld P W p)) := fun ρ hρ h8 h9 => by
    match ρ, hρ with
    | [r0, r1, r2, r3, r4, r5, r6, r7, r8, r9, r10], _ =>
      simp only [List.getD_cons_succ, List.getD_cons_zero] at h8 h9
      subst h8
      subst h9
      refine lcL_map _ _ _ fun p hp => ?_
      have hpp := h.1 p hp
      have t1 := times_rd (sA.mono (k := 900) (by omega)) (SR.int (k := 900) (hpp.mono (by omega)))
      have t2 := plus_rd (sB.mono (k := 900) (by omega)) ((sA.mul (SR.int hpp)).mono (k := 900) (by omega))
      rw [ld_eq hu p] at t2
      generalize (lB P W : Rat) / (un P : Rat) = bb at *
      generalize (lA P W : Rat) / (un P : Rat) = aa at *
      simp -implicitDefEqProofs only [xVar_a, xC_a, xBin_a, xUn_a, tOf_a, tTru_a, tNotP_a, tAndP_a, tOrP_a, tyes_a, tno_a, tYesP_a, xNil_a, xCons_a, xTup_a, xLst_a, xAnd_a, xOr_a, xIf_a, xChain_a, oNo_a, oAt_a, xSl_a, xCall_a, xSeq_a, xIt_a, xLc_a, gSet_a, gTupD_a, gsNil_a, gsCons_a, sNop_a, sBrk_a, sCnt_a, sSeq_a, sRet_a, sIf_a, sSet_a, sTgt_a, sAug_a, sApp_a, sExt_a, sPut_a, sPutK_a, pkO_s, sFor_a, sWhile_a, sPar_a, runD_a, b2_s, c2_s, sqO_nx, sqO_rt, sqO_bk, sqO_ct, ifO_t, ifO_f, stO_s, endO_nx, endO_rt, andO_t, andO_f, orO_t, orO_f, chO_s, chP_t, chP_f, slO_s, atO_i, lcO_s, forO_s, gsO_s, nxO_s, tgO_s, paO_s, apO_s, exO_s, plO_s, ptO_s, dB_b, tru_b, tru_n, tru_i, tru_l, tru_t, is_n, isn_n, nn_n, nn_i, nn_b, nn_t, nn_l, add_ii, add'_ii, sub_ii, neg_i, lt_ii, le_ii, gt_ii, ge_ii, ix_l, ix_t, ix_s, at0, at1, at2, sl_l, sl_t, len_l, len_t, len_s, abs_i, int_i, int_b, max_ii, min_ii, tup_s, lst_s, seq_l, seq_t, sum_s, wipe_n, wipe_c, mul_ii, fdiv_ii, mod_ii, add_ll, add_tt, setAll, mkT, mkL, oNot, List.getD_cons_zero, List.getD_cons_succ, List.length_cons, List.length_nil, List.set_cons_zero, List.set_cons_succ, List.map_cons, List.map_nil, List.replicate, List.cons_append, List.nil_append, List.append_nil, Option.bind_some, Option.map_some, List.all_cons, List.all_nil, if_true, if_false, reduceIte, Nat.reduceAdd, Nat.reduceSub, Nat.reduceLT, Nat.reduceLeDiff, Nat.reduceEqDiff, decide_true, decide_false, Bool.and_true, Bool.and_self, Bool.true_and, Bool.not_true, Bool.not_false, ne_eq, not_true_eq_false, not_false_eq_true, Nat.zero_add, Bool.false_eq_true, and_self, true_and, and_true, whole_rd, t1, flat_rd, t2]
  have hlen := len_i b P
  have hq := seq_q b (P.map PyData.int)
  generalize sqD b (P.map PyData.int) = M at *
  generalize P.map PyData.int = MI at *
  generalize W.map enc = MW at *
  generalize (P.map fun p => PyData.int (p * p)) = N4 at *
  generalize (P.map fun p => rd (ld P W p)) = N5 at *
  simp -implicitDefEqProofs only [d_loads_of, g_loads_of, xVar_a, xC_a, xBin_a, xUn_a, tOf_a, tTru_a, tNotP_a, tAndP_a, tOrP_a, tyes_a, tno_a, tYesP_a, xNil_a, xCons_a, xTup_a, xLst_a, xAnd_a, xOr_a, xIf_a, xChain_a, oNo_a, oAt_a, xSl_a, xCall_a, xSeq_a, xIt_a, xLc_a, gSet_a, gTupD_a, gsNil_a, gsCons_a, sNop_a, sBrk_a, sCnt_a, sSeq_a, sRet_a, sIf_a, sSet_a, sTgt_a, sAug_a, sApp_a, sExt_a, sPut_a, sPutK_a, pkO_s, sFor_a, sWhile_a, sPar_a, runD_a, b2_s, c2_s, sqO_nx, sqO_rt, sqO_bk, sqO_ct, ifO_t, ifO_f, stO_s, endO_nx, endO_rt, andO_t, andO_f, orO_t, orO_f, chO_s, chP_t, chP_f, slO_s, atO_i, lcO_s, forO_s, gsO_s, nxO_s, tgO_s, paO_s, apO_s, exO_s, plO_s, ptO_s, dB_b, tru_b, tru_n, tru_i, tru_l, tru_t, is_n, isn_n, nn_n, nn_i, nn_b, nn_t, nn_l, add_ii, add'_ii, sub_ii, neg_i, lt_ii, le_ii, gt_ii, ge_ii, ix_l, ix_t, ix_s, at0, at1, at2, sl_l, sl_t, len_l, len_t, len_s, abs_i, int_i, int_b, max_ii, min_ii, tup_s, lst_s, seq_l, seq_t, sum_s, wipe_n, wipe_c, mul_ii, fdiv_ii, mod_ii, add_ll, add_tt, setAll, mkT, mkL, oNot, List.getD_cons_zero, List.getD_cons_succ, List.length_cons, List.length_nil, List.set_cons_zero, List.set_cons_succ, List.map_cons, List.map_nil, List.replicate, List.cons_append, List.nil_append, List.append_nil, Option.bind_some, Option.map_some, List.all_cons, List.all_nil, if_true, if_false, reduceIte, Nat.reduceAdd, Nat.reduceSub, Nat.reduceLT, Nat.reduceLeDiff, Nat.reduceEqDiff, decide_true, decide_false, Bool.and_true, Bool.and_self, Bool.true_and, Bool.not_true, Bool.not_false, ne_eq, not_true_eq_false, not_false_eq_true, Nat.zero_add, Bool.false_eq_true, and_self, true_and, and_true, hlen, f1, hq, L3, f2, f3, f4, k1, k2, k3, k4, k5, k6, e1, e2, e3, w1, w2, flat_rd, L5]
end K24

namespace K24
open PySem PySem.Spec PyProof.Rows L2 Pm
theorem rs_sr {xs : List Rat} (hx : ∀ x ∈ xs, SR 110 x) : SR (111 * xs.length + 10) (rs xs) := by
  induction xs with
  | nil => exact SR.int (p := 0) Sm.zero
  | cons x xs ih =>
    show SR _ (x + rs xs)
    exact ((hx x (by simp)).add (ih fun y hy => hx y (by simp [hy]))).mono (by simp; omega)
theorem summed_rd (b : Bool) {xs : List Rat} (hx : ∀ x ∈ xs, SR 110 x) (hl : xs.length ≤ 7) : d_summed [sqD b (xs.map rd)] = some (rd (rs xs)) := by
  obtain ⟨ρ', e1, h⟩ := forL_inv (g := gSet 2) (b := l1_summed) rd
    (fun pre rest ρ => pre ++ rest = xs ∧ ∃ j, ρ = [some (sqD b (xs.map rd)), some (rd (rs pre)), j]) (fun pre x rest ρ ⟨hp, j, e'⟩ => by
      subst e'
      have h1 := rs_sr (xs := pre) fun y hy => hx y (by rw [← hp]; simp [hy])
      have hlen : pre.length + (rest.length + 1) ≤ 7 := by
        have : pre.length + (rest.length + 1) = xs.length := by rw [← hp]; simp
        omega
      have q := plus_rd (h1.mono (k := 900) (by omega)) ((hx x (by rw [← hp]; simp)).mono (k := 900) (by omega))
      refine ⟨[some (sqD b (xs.map rd)), some (rd (rs pre)), some (rd x)], [some (sqD b (xs.map rd)), some (rd (rs (pre ++ [x]))), some (rd x)], rfl, .inl ?_, by rw [List.append_assoc]; exact hp, _, rfl⟩
      rw [rs_app, show rs [x] = x + 0 from rfl, Rat.add_zero]
      generalize xs.map rd = M at *
      simp -implicitDefEqProofs only [l1_summed, xVar_a, xC_a, xBin_a, xUn_a, tOf_a, tTru_a, tNotP_a, tAndP_a, tOrP_a, tyes_a, tno_a, tYesP_a, xNil_a, xCons_a, xTup_a, xLst_a, xAnd_a, xOr_a, xIf_a, xChain_a, oNo_a, oAt_a, xSl_a, xCall_a, xSeq_a, xIt_a, xLc_a, gSet_a, gTupD_a, gsNil_a, gsCons_a, sNop_a, sBrk_a, sCnt_a, sSeq_a, sRet_a, sIf_a, sSet_a, sTgt_a, sAug_a, sApp_a, sExt_a, sPut_a, sPutK_a, pkO_s, sFor_a, sWhile_a, sPar_a, runD_a, b2_s, c2_s, sqO_nx, sqO_rt, sqO_bk, sqO_ct, ifO_t, ifO_f, stO_s, endO_nx, endO_rt, andO_t, andO_f, orO_t, orO_f, chO_s, chP_t, chP_f, slO_s, atO_i, lcO_s, forO_s, gsO_s, nxO_s, tgO_s, paO_s, apO_s, exO_s, plO_s, ptO_s, dB_b, tru_b, tru_n, tru_i, tru_l, tru_t, is_n, isn_n, nn_n, nn_i, nn_b, nn_t, nn_l, add_ii, add'_ii, sub_ii, neg_i, lt_ii, le_ii, gt_ii, ge_ii, ix_l, ix_t, ix_s, at0, at1, at2, sl_l, sl_t, len_l, len_t, len_s, abs_i, int_i, int_b, max_ii, min_ii, tup_s, lst_s, seq_l, seq_t, sum_s, wipe_n, wipe_c, mul_ii, fdiv_ii, mod_ii, add_ll, add_tt, setAll, mkT, mkL, oNot, List.getD_cons_zero, List.getD_cons_succ, List.length_cons, List.length_nil, List.set_cons_zero, List.set_cons_succ, List.map_cons, List.map_nil, List.replicate, List.cons_append, List.nil_append, List.append_nil, Option.bind_some, Option.map_some, List.all_cons, List.all_nil, if_true, if_false, reduceIte, Nat.reduceAdd, Nat.reduceSub, Nat.reduceLT, Nat.reduceLeDiff, Nat.reduceEqDiff, decide_true, decide_false, Bool.and_true, Bool.and_self, Bool.true_and, Bool.not_true, Bool.not_false, ne_eq, not_true_eq_false, not_false_eq_true, Nat.zero_add, Bool.false_eq_true, and_self, true_and, and_true, q, flat_rd]) xs [] [some (sqD b (xs.map rd)), some (rd 0), none] ⟨rfl, none, rfl⟩
  obtain ⟨_, j, e'⟩ := h
  subst e'
  have e0 : PyData.tuple [.int 0, .int 1] = rd 0 := rfl
  have hq := seq_q b (xs.map rd)
  simp only [List.nil_append] at e1
  generalize xs.map rd = M at *
  simp -implicitDefEqProofs only [d_summed, g_summed, xVar_a, xC_a, xBin_a, xUn_a, tOf_a, tTru_a, tNotP_a, tAndP_a, tOrP_a, tyes_a, tno_a, tYesP_a, xNil_a, xCons_a, xTup_a, xLst_a, xAnd_a, xOr_a, xIf_a, xChain_a, oNo_a, oAt_a, xSl_a, xCall_a, xSeq_a, xIt_a, xLc_a, gSet_a, gTupD_a, gsNil_a, gsCons_a, sNop_a, sBrk_a, sCnt_a, sSeq_a, sRet_a, sIf_a, sSet_a, sTgt_a, sAug_a, sApp_a, sExt_a, sPut_a, sPutK_a, pkO_s, sFor_a, sWhile_a, sPar_a, runD_a, b2_s, c2_s, sqO_nx, sqO_rt, sqO_bk, sqO_ct, ifO_t, ifO_f, stO_s, endO_nx, endO_rt, andO_t, andO_f, orO_t, orO_f, chO_s, chP_t, chP_f, slO_s, atO_i, lcO_s, forO_s, gsO_s, nxO_s, tgO_s, paO_s, apO_s, exO_s, plO_s, ptO_s, dB_b, tru_b, tru_n, tru_i, tru_l, tru_t, is_n, isn_n, nn_n, nn_i, nn_b, nn_t, nn_l, add_ii, add'_ii, sub_ii, neg_i, lt_ii, le_ii, gt_ii, ge_ii, ix_l, ix_t, ix_s, at0, at1, at2, sl_l, sl_t, len_l, len_t, len_s, abs_i, int_i, int_b, max_ii, min_ii, tup_s, lst_s, seq_l, seq_t, sum_s, wipe_n, wipe_c, mul_ii, fdiv_ii, mod_ii, add_ll, add_tt, setAll, mkT, mkL, oNot, List.getD_cons_zero, List.getD_cons_succ, List.length_cons, List.length_nil, List.set_cons_zero, List.set_cons_succ, List.map_cons, List.map_nil, List.replicate, List.cons_append, List.nil_append, List.append_nil, Option.bind_some, Option.map_some, List.all_cons, List.all_nil, if_true, if_false, reduceIte, Nat.reduceAdd, Nat.reduceSub, Nat.reduceLT, Nat.reduceLeDiff, Nat.reduceEqDiff, decide_true, decide_false, Bool.and_true, Bool.and_self, Bool.true_and, Bool.not_true, Bool.not_false, ne_eq, not_true_eq_false, not_false_eq_true, Nat.zero_add, Bool.false_eq_true, and_self, true_and, and_true, e0, hq, e1]
def wl (x0 : Rat) (xs : List Rat) : Rat := xs.foldl (fun b x => if b < x then x else b) x0
theorem wl_app (x0 : Rat) (xs : List Rat) (x : Rat) : wl x0 (xs ++ [x]) = if wl x0 xs < x then x else wl x0 xs := by
  unfold wl
  rw [List.foldl_append]
  rfl
theorem wl_mem (x0 : Rat) : ∀ xs : List Rat, wl x0 xs = x0 ∨ wl x0 xs ∈ xs := by
  intro xs
  suffices h : ∀ (xs : List Rat) (b : Rat), xs.foldl (fun b x => if b < x then x else b) b = b ∨ xs.foldl (fun b x => if b < x then x else b) b ∈ xs from h xs x0
  intro xs
  induction xs with
  | nil => intro b; exact .inl rfl
  | cons a xs ih =>
    intro b
    rw [List.foldl_cons]
    rcases ih (if b < a then a else b) with h | h
    · rw [h]
      split
      · exact .inr (by simp)
      · exact .inl rfl
    · exact .inr (by simp [h])
theorem wl_sr {x0 : Rat} {xs : List Rat} {k : Nat} (h0 : SR k x0) (hx : ∀ x ∈ xs, SR k x) : SR k (wl x0 xs) := by
  rcases wl_mem x0 xs with h | h
  · rw [h]; exact h0
  · exact hx _ h
theorem worst_load_eq {x0 : Rat} {xs : List Rat} (h0 : SR 900 x0) (hx : ∀ x ∈ x0 :: xs, SR 900 x) : d_worst_load [.tuple ((x0 :: xs).map rd)] = some (rd (wl x0 (x0 :: xs))) := by
  obtain ⟨ρ', e1, h⟩ := forL_inv (g := gSet 2) (b := l1_worst_load) rd
    (fun pre rest ρ => pre ++ rest = x0 :: xs ∧ ∃ j, ρ = [some (.tuple ((x0 :: xs).map rd)), some (rd (wl x0 pre)), j]) (fun pre x rest ρ ⟨hp, j, e'⟩ => by
      subst e'
      have h1 := wl_sr (xs := pre) h0 fun y hy => hx y (by rw [← hp]; simp [hy])
      have q := is_less_rd h1 (hx x (by rw [← hp]; simp))
      refine ⟨[some (.tuple ((x0 :: xs).map rd)), some (rd (wl x0 pre)), some (rd x)], [some (.tuple ((x0 :: xs).map rd)), some (rd (wl x0 (pre ++ [x]))), some (rd x)], rfl, .inl ?_, by rw [List.append_assoc]; exact hp, _, rfl⟩
      rw [wl_app]
      generalize (x0 :: xs).map rd = M at *
      by_cases h : wl x0 pre < x
      · rw [if_pos h]
        simp -implicitDefEqProofs only [l1_worst_load, xVar_a, xC_a, xBin_a, xUn_a, tOf_a, tTru_a, tNotP_a, tAndP_a, tOrP_a, tyes_a, tno_a, tYesP_a, xNil_a, xCons_a, xTup_a, xLst_a, xAnd_a, xOr_a, xIf_a, xChain_a, oNo_a, oAt_a, xSl_a, xCall_a, xSeq_a, xIt_a, xLc_a, gSet_a, gTupD_a, gsNil_a, gsCons_a, sNop_a, sBrk_a, sCnt_a, sSeq_a, sRet_a, sIf_a, sSet_a, sTgt_a, sAug_a, sApp_a, sExt_a, sPut_a, sPutK_a, pkO_s, sFor_a, sWhile_a, sPar_a, runD_a, b2_s, c2_s, sqO_nx, sqO_rt, sqO_bk, sqO_ct, ifO_t, ifO_f, stO_s, endO_nx, endO_rt, andO_t, andO_f, orO_t, orO_f, chO_s, chP_t, chP_f, slO_s, atO_i, lcO_s, forO_s, gsO_s, nxO_s, tgO_s, paO_s, apO_s, exO_s, plO_s, ptO_s, dB_b, tru_b, tru_n, tru_i, tru_l, tru_t, is_n, isn_n, nn_n, nn_i, nn_b, nn_t, nn_l, add_ii, add'_ii, sub_ii, neg_i, lt_ii, le_ii, gt_ii, ge_ii, ix_l, ix_t, ix_s, at0, at1, at2, sl_l, sl_t, len_l, len_t, len_s, abs_i, int_i, int_b, max_ii, min_ii, tup_s, lst_s, seq_l, seq_t, sum_s, wipe_n, wipe_c, mul_ii, fdiv_ii, mod_ii, add_ll, add_tt, setAll, mkT, mkL, oNot, List.getD_cons_zero, List.getD_cons_succ, List.length_cons, List.length_nil, List.set_cons_zero, List.set_cons_succ, List.map_cons, List.map_nil, List.replicate, List.cons_append, List.nil_append, List.append_nil, Option.bind_some, Option.map_some, List.all_cons, List.all_nil, if_true, if_false, reduceIte, Nat.reduceAdd, Nat.reduceSub, Nat.reduceLT, Nat.reduceLeDiff, Nat.reduceEqDiff, decide_true, decide_false, Bool.and_true, Bool.and_self, Bool.true_and, Bool.not_true, Bool.not_false, ne_eq, not_true_eq_false, not_false_eq_true, Nat.zero_add, Bool.false_eq_true, and_self, true_and, and_true, q, h]
      · rw [if_neg h]
        simp -implicitDefEqProofs only [l1_worst_load, xVar_a, xC_a, xBin_a, xUn_a, tOf_a, tTru_a, tNotP_a, tAndP_a, tOrP_a, tyes_a, tno_a, tYesP_a, xNil_a, xCons_a, xTup_a, xLst_a, xAnd_a, xOr_a, xIf_a, xChain_a, oNo_a, oAt_a, xSl_a, xCall_a, xSeq_a, xIt_a, xLc_a, gSet_a, gTupD_a, gsNil_a, gsCons_a, sNop_a, sBrk_a, sCnt_a, sSeq_a, sRet_a, sIf_a, sSet_a, sTgt_a, sAug_a, sApp_a, sExt_a, sPut_a, sPutK_a, pkO_s, sFor_a, sWhile_a, sPar_a, runD_a, b2_s, c2_s, sqO_nx, sqO_rt, sqO_bk, sqO_ct, ifO_t, ifO_f, stO_s, endO_nx, endO_rt, andO_t, andO_f, orO_t, orO_f, chO_s, chP_t, chP_f, slO_s, atO_i, lcO_s, forO_s, gsO_s, nxO_s, tgO_s, paO_s, apO_s, exO_s, plO_s, ptO_s, dB_b, tru_b, tru_n, tru_i, tru_l, tru_t, is_n, isn_n, nn_n, nn_i, nn_b, nn_t, nn_l, add_ii, add'_ii, sub_ii, neg_i, lt_ii, le_ii, gt_ii, ge_ii, ix_l, ix_t, ix_s, at0, at1, at2, sl_l, sl_t, len_l, len_t, len_s, abs_i, int_i, int_b, max_ii, min_ii, tup_s, lst_s, seq_l, seq_t, sum_s, wipe_n, wipe_c, mul_ii, fdiv_ii, mod_ii, add_ll, add_tt, setAll, mkT, mkL, oNot, List.getD_cons_zero, List.getD_cons_succ, List.length_cons, List.length_nil, List.set_cons_zero, List.set_cons_succ, List.map_cons, List.map_nil, List.replicate, List.cons_append, List.nil_append, List.append_nil, Option.bind_some, Option.map_some, List.all_cons, List.all_nil, if_true, if_false, reduceIte, Nat.reduceAdd, Nat.reduceSub, Nat.reduceLT, Nat.reduceLeDiff, Nat.reduceEqDiff, decide_true, decide_false, Bool.and_true, Bool.and_self, Bool.true_and, Bool.not_true, Bool.not_false, ne_eq, not_true_eq_false, not_false_eq_true, Nat.zero_add, Bool.false_eq_true, and_self, true_and, and_true, q, h]) (x0 :: xs) [] [some (.tuple ((x0 :: xs).map rd)), some (rd x0), none] ⟨rfl, none, rfl⟩
  obtain ⟨_, j, e'⟩ := h
  subst e'
  have hA : atI ((x0 :: xs).map rd) 0 = some (rd x0) := by
    rw [List.map_cons, at0]
  simp only [List.nil_append] at e1
  generalize (x0 :: xs).map rd = M at *
  simp -implicitDefEqProofs only [d_worst_load, g_worst_load, xVar_a, xC_a, xBin_a, xUn_a, tOf_a, tTru_a, tNotP_a, tAndP_a, tOrP_a, tyes_a, tno_a, tYesP_a, xNil_a, xCons_a, xTup_a, xLst_a, xAnd_a, xOr_a, xIf_a, xChain_a, oNo_a, oAt_a, xSl_a, xCall_a, xSeq_a, xIt_a, xLc_a, gSet_a, gTupD_a, gsNil_a, gsCons_a, sNop_a, sBrk_a, sCnt_a, sSeq_a, sRet_a, sIf_a, sSet_a, sTgt_a, sAug_a, sApp_a, sExt_a, sPut_a, sPutK_a, pkO_s, sFor_a, sWhile_a, sPar_a, runD_a, b2_s, c2_s, sqO_nx, sqO_rt, sqO_bk, sqO_ct, ifO_t, ifO_f, stO_s, endO_nx, endO_rt, andO_t, andO_f, orO_t, orO_f, chO_s, chP_t, chP_f, slO_s, atO_i, lcO_s, forO_s, gsO_s, nxO_s, tgO_s, paO_s, apO_s, exO_s, plO_s, ptO_s, dB_b, tru_b, tru_n, tru_i, tru_l, tru_t, is_n, isn_n, nn_n, nn_i, nn_b, nn_t, nn_l, add_ii, add'_ii, sub_ii, neg_i, lt_ii, le_ii, gt_ii, ge_ii, ix_l, ix_t, ix_s, at0, at1, at2, sl_l, sl_t, len_l, len_t, len_s, abs_i, int_i, int_b, max_ii, min_ii, tup_s, lst_s, seq_l, seq_t, sum_s, wipe_n, wipe_c, mul_ii, fdiv_ii, mod_ii, add_ll, add_tt, setAll, mkT, mkL, oNot, List.getD_cons_zero, List.getD_cons_succ, List.length_cons, List.length_nil, List.set_cons_zero, List.set_cons_succ, List.map_cons, List.map_nil, List.replicate, List.cons_append, List.nil_append, List.append_nil, Option.bind_some, Option.map_some, List.all_cons, List.all_nil, if_true, if_false, reduceIte, Nat.reduceAdd, Nat.reduceSub, Nat.reduceLT, Nat.reduceLeDiff, Nat.reduceEqDiff, decide_true, decide_false, Bool.and_true, Bool.and_self, Bool.true_and, Bool.not_true, Bool.not_false, ne_eq, not_true_eq_false, not_false_eq_true, Nat.zero_add, Bool.false_eq_true, and_self, true_and, and_true, hA, e1]
theorem loads_sum_eq {xs : List Rat} (hx : ∀ x ∈ xs, SR 110 x) (hl : xs.length ≤ 7) : d_loads_sum [.tuple (xs.map rd)] = some (rd (rs xs)) := by
  have h : d_summed [.tuple (xs.map rd)] = some (rd (rs xs)) := summed_rd false hx hl
  generalize xs.map rd = M at *
  simp -implicitDefEqProofs only [d_loads_sum, g_loads_sum, xVar_a, xC_a, xBin_a, xUn_a, tOf_a, tTru_a, tNotP_a, tAndP_a, tOrP_a, tyes_a, tno_a, tYesP_a, xNil_a, xCons_a, xTup_a, xLst_a, xAnd_a, xOr_a, xIf_a, xChain_a, oNo_a, oAt_a, xSl_a, xCall_a, xSeq_a, xIt_a, xLc_a, gSet_a, gTupD_a, gsNil_a, gsCons_a, sNop_a, sBrk_a, sCnt_a, sSeq_a, sRet_a, sIf_a, sSet_a, sTgt_a, sAug_a, sApp_a, sExt_a, sPut_a, sPutK_a, pkO_s, sFor_a, sWhile_a, sPar_a, runD_a, b2_s, c2_s, sqO_nx, sqO_rt, sqO_bk, sqO_ct, ifO_t, ifO_f, stO_s, endO_nx, endO_rt, andO_t, andO_f, orO_t, orO_f, chO_s, chP_t, chP_f, slO_s, atO_i, lcO_s, forO_s, gsO_s, nxO_s, tgO_s, paO_s, apO_s, exO_s, plO_s, ptO_s, dB_b, tru_b, tru_n, tru_i, tru_l, tru_t, is_n, isn_n, nn_n, nn_i, nn_b, nn_t, nn_l, add_ii, add'_ii, sub_ii, neg_i, lt_ii, le_ii, gt_ii, ge_ii, ix_l, ix_t, ix_s, at0, at1, at2, sl_l, sl_t, len_l, len_t, len_s, abs_i, int_i, int_b, max_ii, min_ii, tup_s, lst_s, seq_l, seq_t, sum_s, wipe_n, wipe_c, mul_ii, fdiv_ii, mod_ii, add_ll, add_tt, setAll, mkT, mkL, oNot, List.getD_cons_zero, List.getD_cons_succ, List.length_cons, List.length_nil, List.set_cons_zero, List.set_cons_succ, List.map_cons, List.map_nil, List.replicate, List.cons_append, List.nil_append, List.append_nil, Option.bind_some, Option.map_some, List.all_cons, List.all_nil, if_true, if_false, reduceIte, Nat.reduceAdd, Nat.reduceSub, Nat.reduceLT, Nat.reduceLeDiff, Nat.reduceEqDiff, decide_true, decide_false, Bool.and_true, Bool.and_self, Bool.true_and, Bool.not_true, Bool.not_false, ne_eq, not_true_eq_false, not_false_eq_true, Nat.zero_add, Bool.false_eq_true, and_self, true_and, and_true, h]
theorem zipD_map {α β : Type} (f : α → D) (g : β → D) (A : List α) (B : List β) : zipD (A.map f) (B.map g) = (A.zip B).map fun p => .tuple [f p.1, g p.2] := by
  unfold zipD
  induction A generalizing B with
  | nil => simp
  | cons s A ih => cases B with
    | nil => simp
    | cons t B => simp [ih]
theorem loads_turn_eq {P : List Int} {xs : List Rat} (hP : ∀ p ∈ P, Sm 10 p) (hx : ∀ x ∈ xs, SR 80 x) (hl : xs.length ≤ 7) : d_loads_turn [.tuple (P.map PyData.int), .tuple (xs.map rd)] = some (rd (rs ((P.zip xs).map fun q => q.2 * (q.1 : Rat)))) := by
  have hz : oZipM [.tuple (P.map PyData.int), .tuple (xs.map rd)] = some ((P.zip xs).map fun p => .tuple [.int p.1, rd p.2]) := by
    show some (zipD _ _) = _
    rw [zipD_map]
  have hlc : ∀ ρ : PEnv, ρ.length = 4 → lcL (gTupD 2 (gsCons (gSet 2) (gsCons (gSet 3) gsNil))) tYesP (xCall (fun ds => if ds.length = 2 then (d_times) ds else none) (xCons (xVar 3) (xCons (xCall (fun ds => if ds.length = 1 then (d_whole) ds else none) (xCons (xVar 2) xNil)) xNil))) ρ ((P.zip xs).map fun p => .tuple [.int p.1, rd p.2]) = some (((P.zip xs).map fun q => q.2 * (q.1 : Rat)).map rd) := fun ρ hρ => by
    match ρ, hρ with
    | [a, b, c, d], _ =>
      rw [List.map_map]
      refine lcL_map _ _ _ fun q hq => ?_
      have hm := List.of_mem_zip (a := q.1) (b := q.2) hq
      have t := times_rd ((hx _ hm.2).mono (k := 900) (by omega)) (SR.int (k := 900) ((hP _ hm.1).mono (by omega)))
      simp -implicitDefEqProofs only [Function.comp, xVar_a, xC_a, xBin_a, xUn_a, tOf_a, tTru_a, tNotP_a, tAndP_a, tOrP_a, tyes_a, tno_a, tYesP_a, xNil_a, xCons_a, xTup_a, xLst_a, xAnd_a, xOr_a, xIf_a, xChain_a, oNo_a, oAt_a, xSl_a, xCall_a, xSeq_a, xIt_a, xLc_a, gSet_a, gTupD_a, gsNil_a, gsCons_a, sNop_a, sBrk_a, sCnt_a, sSeq_a, sRet_a, sIf_a, sSet_a, sTgt_a, sAug_a, sApp_a, sExt_a, sPut_a, sPutK_a, pkO_s, sFor_a, sWhile_a, sPar_a, runD_a, b2_s, c2_s, sqO_nx, sqO_rt, sqO_bk, sqO_ct, ifO_t, ifO_f, stO_s, endO_nx, endO_rt, andO_t, andO_f, orO_t, orO_f, chO_s, chP_t, chP_f, slO_s, atO_i, lcO_s, forO_s, gsO_s, nxO_s, tgO_s, paO_s, apO_s, exO_s, plO_s, ptO_s, dB_b, tru_b, tru_n, tru_i, tru_l, tru_t, is_n, isn_n, nn_n, nn_i, nn_b, nn_t, nn_l, add_ii, add'_ii, sub_ii, neg_i, lt_ii, le_ii, gt_ii, ge_ii, ix_l, ix_t, ix_s, at0, at1, at2, sl_l, sl_t, len_l, len_t, len_s, abs_i, int_i, int_b, max_ii, min_ii, tup_s, lst_s, seq_l, seq_t, sum_s, wipe_n, wipe_c, mul_ii, fdiv_ii, mod_ii, add_ll, add_tt, setAll, mkT, mkL, oNot, List.getD_cons_zero, List.getD_cons_succ, List.length_cons, List.length_nil, List.set_cons_zero, List.set_cons_succ, List.map_cons, List.map_nil, List.replicate, List.cons_append, List.nil_append, List.append_nil, Option.bind_some, Option.map_some, List.all_cons, List.all_nil, if_true, if_false, reduceIte, Nat.reduceAdd, Nat.reduceSub, Nat.reduceLT, Nat.reduceLeDiff, Nat.reduceEqDiff, decide_true, decide_false, Bool.and_true, Bool.and_self, Bool.true_and, Bool.not_true, Bool.not_false, ne_eq, not_true_eq_false, not_false_eq_true, Nat.zero_add, Bool.false_eq_true, and_self, true_and, and_true, whole_rd, t]
  have hs : d_summed [.list (((P.zip xs).map fun q => q.2 * (q.1 : Rat)).map rd)] = some (rd (rs ((P.zip xs).map fun q => q.2 * (q.1 : Rat)))) := summed_rd true (xs := (P.zip xs).map fun q : Int × Rat => q.2 * (q.1 : Rat)) (fun x hx' => by
    obtain ⟨q, hq, rfl⟩ := List.mem_map.mp hx'
    have hm := List.of_mem_zip (a := q.1) (b := q.2) hq
    exact ((hx _ hm.2).mul (SR.int (hP _ hm.1))).mono (by omega)) (by simp; omega)
  generalize P.map PyData.int = MP at *
  generalize xs.map rd = MX at *
  generalize ((P.zip xs).map fun q => q.2 * (q.1 : Rat)).map rd = MZ at *
  simp -implicitDefEqProofs only [d_loads_turn, g_loads_turn, xVar_a, xC_a, xBin_a, xUn_a, tOf_a, tTru_a, tNotP_a, tAndP_a, tOrP_a, tyes_a, tno_a, tYesP_a, xNil_a, xCons_a, xTup_a, xLst_a, xAnd_a, xOr_a, xIf_a, xChain_a, oNo_a, oAt_a, xSl_a, xCall_a, xSeq_a, xIt_a, xLc_a, gSet_a, gTupD_a, gsNil_a, gsCons_a, sNop_a, sBrk_a, sCnt_a, sSeq_a, sRet_a, sIf_a, sSet_a, sTgt_a, sAug_a, sApp_a, sExt_a, sPut_a, sPutK_a, pkO_s, sFor_a, sWhile_a, sPar_a, runD_a, b2_s, c2_s, sqO_nx, sqO_rt, sqO_bk, sqO_ct, ifO_t, ifO_f, stO_s, endO_nx, endO_rt, andO_t, andO_f, orO_t, orO_f, chO_s, chP_t, chP_f, slO_s, atO_i, lcO_s, forO_s, gsO_s, nxO_s, tgO_s, paO_s, apO_s, exO_s, plO_s, ptO_s, dB_b, tru_b, tru_n, tru_i, tru_l, tru_t, is_n, isn_n, nn_n, nn_i, nn_b, nn_t, nn_l, add_ii, add'_ii, sub_ii, neg_i, lt_ii, le_ii, gt_ii, ge_ii, ix_l, ix_t, ix_s, at0, at1, at2, sl_l, sl_t, len_l, len_t, len_s, abs_i, int_i, int_b, max_ii, min_ii, tup_s, lst_s, seq_l, seq_t, sum_s, wipe_n, wipe_c, mul_ii, fdiv_ii, mod_ii, add_ll, add_tt, setAll, mkT, mkL, oNot, List.getD_cons_zero, List.getD_cons_succ, List.length_cons, List.length_nil, List.set_cons_zero, List.set_cons_succ, List.map_cons, List.map_nil, List.replicate, List.cons_append, List.nil_append, List.append_nil, Option.bind_some, Option.map_some, List.all_cons, List.all_nil, if_true, if_false, reduceIte, Nat.reduceAdd, Nat.reduceSub, Nat.reduceLT, Nat.reduceLeDiff, Nat.reduceEqDiff, decide_true, decide_false, Bool.and_true, Bool.and_self, Bool.true_and, Bool.not_true, Bool.not_false, ne_eq, not_true_eq_false, not_false_eq_true, Nat.zero_add, Bool.false_eq_true, and_self, true_and, and_true, hz, hlc, hs]
theorem sum_squares_eq {xs : List Rat} (hx : ∀ x ∈ xs, SR 55 x) (hl : xs.length ≤ 7) : d_sum_squares [.tuple (xs.map rd)] = some (rd (rs (xs.map fun x => x * x))) := by
  have hlc : ∀ ρ : PEnv, ρ.length = 2 → lcL (gSet 1) tYesP (xCall (fun ds => if ds.length = 2 then (d_times) ds else none) (xCons (xVar 1) (xCons (xVar 1) xNil))) ρ (xs.map rd) = some ((xs.map fun x => x * x).map rd) := fun ρ hρ => by
    match ρ, hρ with
    | [a, b], _ =>
      rw [List.map_map]
      refine lcL_map _ _ _ fun q hq => ?_
      have t := times_rd ((hx _ hq).mono (k := 900) (by omega)) ((hx _ hq).mono (k := 900) (by omega))
      simp -implicitDefEqProofs only [Function.comp, xVar_a, xC_a, xBin_a, xUn_a, tOf_a, tTru_a, tNotP_a, tAndP_a, tOrP_a, tyes_a, tno_a, tYesP_a, xNil_a, xCons_a, xTup_a, xLst_a, xAnd_a, xOr_a, xIf_a, xChain_a, oNo_a, oAt_a, xSl_a, xCall_a, xSeq_a, xIt_a, xLc_a, gSet_a, gTupD_a, gsNil_a, gsCons_a, sNop_a, sBrk_a, sCnt_a, sSeq_a, sRet_a, sIf_a, sSet_a, sTgt_a, sAug_a, sApp_a, sExt_a, sPut_a, sPutK_a, pkO_s, sFor_a, sWhile_a, sPar_a, runD_a, b2_s, c2_s, sqO_nx, sqO_rt, sqO_bk, sqO_ct, ifO_t, ifO_f, stO_s, endO_nx, endO_rt, andO_t, andO_f, orO_t, orO_f, chO_s, chP_t, chP_f, slO_s, atO_i, lcO_s, forO_s, gsO_s, nxO_s, tgO_s, paO_s, apO_s, exO_s, plO_s, ptO_s, dB_b, tru_b, tru_n, tru_i, tru_l, tru_t, is_n, isn_n, nn_n, nn_i, nn_b, nn_t, nn_l, add_ii, add'_ii, sub_ii, neg_i, lt_ii, le_ii, gt_ii, ge_ii, ix_l, ix_t, ix_s, at0, at1, at2, sl_l, sl_t, len_l, len_t, len_s, abs_i, int_i, int_b, max_ii, min_ii, tup_s, lst_s, seq_l, seq_t, sum_s, wipe_n, wipe_c, mul_ii, fdiv_ii, mod_ii, add_ll, add_tt, setAll, mkT, mkL, oNot, List.getD_cons_zero, List.getD_cons_succ, List.length_cons, List.length_nil, List.set_cons_zero, List.set_cons_succ, List.map_cons, List.map_nil, List.replicate, List.cons_append, List.nil_append, List.append_nil, Option.bind_some, Option.map_some, List.all_cons, List.all_nil, if_true, if_false, reduceIte, Nat.reduceAdd, Nat.reduceSub, Nat.reduceLT, Nat.reduceLeDiff, Nat.reduceEqDiff, decide_true, decide_false, Bool.and_true, Bool.and_self, Bool.true_and, Bool.not_true, Bool.not_false, ne_eq, not_true_eq_false, not_false_eq_true, Nat.zero_add, Bool.false_eq_true, and_self, true_and, and_true, t]
  have hs : d_summed [.list ((xs.map fun x => x * x).map rd)] = some (rd (rs (xs.map fun x => x * x))) := summed_rd true (xs := xs.map fun x => x * x) (fun x hx' => by
    obtain ⟨q, hq, rfl⟩ := List.mem_map.mp hx'
    exact (hx _ hq).mul (hx _ hq)) (by simpa using hl)
  generalize xs.map rd = MX at *
  generalize (xs.map fun x => x * x).map rd = MZ at *
  simp -implicitDefEqProofs only [d_sum_squares, g_sum_squares, xVar_a, xC_a, xBin_a, xUn_a, tOf_a, tTru_a, tNotP_a, tAndP_a, tOrP_a, tyes_a, tno_a, tYesP_a, xNil_a, xCons_a, xTup_a, xLst_a, xAnd_a, xOr_a, xIf_a, xChain_a, oNo_a, oAt_a, xSl_a, xCall_a, xSeq_a, xIt_a, xLc_a, gSet_a, gTupD_a, gsNil_a, gsCons_a, sNop_a, sBrk_a, sCnt_a, sSeq_a, sRet_a, sIf_a, sSet_a, sTgt_a, sAug_a, sApp_a, sExt_a, sPut_a, sPutK_a, pkO_s, sFor_a, sWhile_a, sPar_a, runD_a, b2_s, c2_s, sqO_nx, sqO_rt, sqO_bk, sqO_ct, ifO_t, ifO_f, stO_s, endO_nx, endO_rt, andO_t, andO_f, orO_t, orO_f, chO_s, chP_t, chP_f, slO_s, atO_i, lcO_s, forO_s, gsO_s, nxO_s, tgO_s, paO_s, apO_s, exO_s, plO_s, ptO_s, dB_b, tru_b, tru_n, tru_i, tru_l, tru_t, is_n, isn_n, nn_n, nn_i, nn_b, nn_t, nn_l, add_ii, add'_ii, sub_ii, neg_i, lt_ii, le_ii, gt_ii, ge_ii, ix_l, ix_t, ix_s, at0, at1, at2, sl_l, sl_t, len_l, len_t, len_s, abs_i, int_i, int_b, max_ii, min_ii, tup_s, lst_s, seq_l, seq_t, sum_s, wipe_n, wipe_c, mul_ii, fdiv_ii, mod_ii, add_ll, add_tt, setAll, mkT, mkL, oNot, List.getD_cons_zero, List.getD_cons_succ, List.length_cons, List.length_nil, List.set_cons_zero, List.set_cons_succ, List.map_cons, List.map_nil, List.replicate, List.cons_append, List.nil_append, List.append_nil, Option.bind_some, Option.map_some, List.all_cons, List.all_nil, if_true, if_false, reduceIte, Nat.reduceAdd, Nat.reduceSub, Nat.reduceLT, Nat.reduceLeDiff, Nat.reduceEqDiff, decide_true, decide_false, Bool.and_true, Bool.and_self, Bool.true_and, Bool.not_true, Bool.not_false, ne_eq, not_true_eq_false, not_false_eq_true, Nat.zero_add, Bool.false_eq_true, and_self, true_and, and_true, hlc, hs]
theorem over_rd2 {x y : Rat} (hx : SR 400 x) (hy : SR 400 y) (h0 : 0 < y) : d_over [rd x, rd y] = some (rd (x / y)) := by
  have hd := den_pos x
  have hdy := den_pos y
  have hn : 0 < y.num := by
    have := (Rat.lt_iff 0 y).mp h0
    have h1 : (0 : Int) * (y.den : Int) < y.num * 1 := this
    omega
  have m1 := hx.1.mulOk hy.2 (by omega) (by omega)
  have m2 := hx.2.mulOk hy.1 (by omega) (by omega)
  have hl := lowest_rd (x.num * (y.den : Int)) ((x.den : Int) * y.num) (Int.mul_pos hd hn) ((hx.2.mul hy.1).mono (by omega))
  have e : ((x.num * (y.den : Int) : Int) : Rat) / (((x.den : Int) * y.num : Int) : Rat) = x / y := by
    conv => rhs; rw [rat_eq x, rat_eq y]
    have h1 : ((x.den : Int) : Rat) ≠ 0 := by have := cast_pos hd; grind
    have h2 : ((y.den : Int) : Rat) ≠ 0 := by have := cast_pos hdy; grind
    have h3 : (y.num : Rat) ≠ 0 := by have := cast_pos hn; grind
    push_cast at *
    grind
  rw [e] at hl
  simp -implicitDefEqProofs only [d_over, g_over, d_parted, g_parted, xVar_a, xC_a, xBin_a, xUn_a, tOf_a, tTru_a, tNotP_a, tAndP_a, tOrP_a, tyes_a, tno_a, tYesP_a, xNil_a, xCons_a, xTup_a, xLst_a, xAnd_a, xOr_a, xIf_a, xChain_a, oNo_a, oAt_a, xSl_a, xCall_a, xSeq_a, xIt_a, xLc_a, gSet_a, gTupD_a, gsNil_a, gsCons_a, sNop_a, sBrk_a, sCnt_a, sSeq_a, sRet_a, sIf_a, sSet_a, sTgt_a, sAug_a, sApp_a, sExt_a, sPut_a, sPutK_a, pkO_s, sFor_a, sWhile_a, sPar_a, runD_a, b2_s, c2_s, sqO_nx, sqO_rt, sqO_bk, sqO_ct, ifO_t, ifO_f, stO_s, endO_nx, endO_rt, andO_t, andO_f, orO_t, orO_f, chO_s, chP_t, chP_f, slO_s, atO_i, lcO_s, forO_s, gsO_s, nxO_s, tgO_s, paO_s, apO_s, exO_s, plO_s, ptO_s, dB_b, tru_b, tru_n, tru_i, tru_l, tru_t, is_n, isn_n, nn_n, nn_i, nn_b, nn_t, nn_l, add_ii, add'_ii, sub_ii, neg_i, lt_ii, le_ii, gt_ii, ge_ii, ix_l, ix_t, ix_s, at0, at1, at2, sl_l, sl_t, len_l, len_t, len_s, abs_i, int_i, int_b, max_ii, min_ii, tup_s, lst_s, seq_l, seq_t, sum_s, wipe_n, wipe_c, mul_ii, fdiv_ii, mod_ii, add_ll, add_tt, setAll, mkT, mkL, oNot, List.getD_cons_zero, List.getD_cons_succ, List.length_cons, List.length_nil, List.set_cons_zero, List.set_cons_succ, List.map_cons, List.map_nil, List.replicate, List.cons_append, List.nil_append, List.append_nil, Option.bind_some, Option.map_some, List.all_cons, List.all_nil, if_true, if_false, reduceIte, Nat.reduceAdd, Nat.reduceSub, Nat.reduceLT, Nat.reduceLeDiff, Nat.reduceEqDiff, decide_true, decide_false, Bool.and_true, Bool.and_self, Bool.true_and, Bool.not_true, Bool.not_false, ne_eq, not_true_eq_false, not_false_eq_true, Nat.zero_add, Bool.false_eq_true, and_self, true_and, and_true, rd_0, rd_1, m1, m2, hl]
/-! sums of lines -/
theorem rs_map_add {α : Type} (f g : α → Rat) (l : List α) : rs (l.map fun a => f a + g a) = rs (l.map f) + rs (l.map g) := by
  induction l with
  | nil => show (0 : Rat) = 0 + 0; grind
  | cons a l ih =>
    simp only [List.map_cons, rs, ih]
    grind
theorem rs_map_mul {α : Type} (c : Rat) (f : α → Rat) (l : List α) : rs (l.map fun a => c * f a) = c * rs (l.map f) := by
  induction l with
  | nil => show (0 : Rat) = c * 0; grind
  | cons a l ih =>
    simp only [List.map_cons, rs, ih]
    grind
theorem rs_const {α : Type} (c : Rat) (l : List α) : rs (l.map fun _ => c) = c * ((l.length : Int) : Rat) := by
  induction l with
  | nil => show (0 : Rat) = c * 0; grind
  | cons a l ih =>
    simp only [List.map_cons, rs, ih, List.length_cons]
    push_cast
    grind
theorem rs_int (l : List Int) : rs (l.map fun a : Int => (a : Rat)) = ((l.sum : Int) : Rat) := by
  induction l with
  | nil => rfl
  | cons a l ih =>
    simp only [List.map_cons, rs, ih, List.sum_cons]
    push_cast
    rfl
theorem rs_sq (l : List Int) : rs (l.map fun a : Int => (a : Rat) * (a : Rat)) = (((l.map fun p => p * p).sum : Int) : Rat) := by
  rw [← rs_int, List.map_map]
  congr 1
  refine List.map_congr_left fun a _ => ?_
  simp only [Function.comp]
  push_cast
  rfl
theorem sum_ld {P : List Int} {W : List Sd} (hu : 0 < un P) : rs (P.map (ld P W)) = (wT W : Rat) ∧ rs (P.map fun p => ld P W p * (p : Rat)) = (wU W : Rat) := by
  have hu' := cast_pos hu
  have e : ∀ p, ld P W p = (lB P W : Rat) / (un P : Rat) + (lA P W : Rat) / (un P : Rat) * (p : Rat) := fun p => (ld_eq hu p).symm
  have eB : (lB P W : Rat) / (un P : Rat) * (un P : Rat) = (lB P W : Rat) := Rat.div_mul_cancel (by grind)
  have eA : (lA P W : Rat) / (un P : Rat) * (un P : Rat) = (lA P W : Rat) := Rat.div_mul_cancel (by grind)
  generalize (lB P W : Rat) / (un P : Rat) = β at *
  generalize (lA P W : Rat) / (un P : Rat) = α at *
  have ed : (un P : Rat) = ((P.length : Int) : Rat) * (pq P : Rat) - (pf P : Rat) * (pf P : Rat) := by
    rw [← un_def]
    push_cast
    rfl
  have eqA : (lA P W : Rat) = ((P.length : Int) : Rat) * (wU W : Rat) - (pf P : Rat) * (wT W : Rat) := by
    unfold lA
    push_cast
    rfl
  have eqB : (lB P W : Rat) = (wT W : Rat) * (pq P : Rat) - (wU W : Rat) * (pf P : Rat) := by
    unfold lB
    push_cast
    rfl
  have k : ∀ x y : Rat, x * (un P : Rat) = y * (un P : Rat) → x = y := fun x y h => by
    have h1 : x * (un P : Rat) / (un P : Rat) = y * (un P : Rat) / (un P : Rat) := by rw [h]
    rw [Rat.mul_div_cancel (by grind), Rat.mul_div_cancel (by grind)] at h1
    exact h1
  constructor
  · have s1 : rs (P.map (ld P W)) = β * ((P.length : Int) : Rat) + α * (pf P : Rat) := by
      rw [show P.map (ld P W) = P.map (fun p => (fun _ => β) p + (fun p : Int => α * (p : Rat)) p) from List.map_congr_left fun p _ => e p, rs_map_add, rs_const, rs_map_mul, rs_int, pf_sum]
    rw [s1]
    apply k
    have : (β * ((P.length : Int) : Rat) + α * (pf P : Rat)) * (un P : Rat) = (β * (un P : Rat)) * ((P.length : Int) : Rat) + (α * (un P : Rat)) * (pf P : Rat) := by grind
    rw [this, eB, eA, eqA, eqB, ed]
    grind
  · have s1 : rs (P.map fun p => ld P W p * (p : Rat)) = β * (pf P : Rat) + α * (pq P : Rat) := by
      rw [show P.map (fun p => ld P W p * (p : Rat)) = P.map (fun p => (fun p : Int => β * (p : Rat)) p + (fun p : Int => α * ((p : Rat) * (p : Rat))) p) from List.map_congr_left fun p _ => by simp only [e p]; grind, rs_map_add, rs_map_mul, rs_map_mul, rs_int, rs_sq, pf_sum, pq_sum]
    rw [s1]
    apply k
    have : (β * (pf P : Rat) + α * (pq P : Rat)) * (un P : Rat) = (β * (un P : Rat)) * (pf P : Rat) + (α * (un P : Rat)) * (pq P : Rat) := by grind
    rw [this, eB, eA, eqA, eqB, ed]
    grind
end K24

namespace K24
open PySem PySem.Spec PyProof.Rows L2 Pm
theorem zipD_self {α : Type} (f g : α → D) (A : List α) : zipD (A.map f) (A.map g) = A.map fun p => .tuple [f p, g p] := by
  unfold zipD
  induction A with
  | nil => rfl
  | cons s A ih => simp [ih]
theorem sum_one (P : List Int) : (P.map fun _ => (1 : Int)).sum = (P.length : Int) := by
  induction P with
  | nil => rfl
  | cons a P ih => rw [List.map_cons, List.sum_cons, ih, List.length_cons]; push_cast; omega
theorem trim_of_eq {P : List Int} {t : Int} (h : OkI P) (h2 : 2 ≤ P.length) (hl : P.length ≤ 7) (hu : 0 < un P) (st : Sm 60 t) : d_trim_of [.tuple (P.map fun _ => PyData.int 1), .tuple (P.map PyData.int), .int t] =
    some (.tuple [rd ((pf P : Rat) / ((P.length : Int) : Rat)), rd ((un P : Rat) / ((P.length : Int) : Rat)), rd ((t : Rat) / ((un P : Rat) / ((P.length : Int) : Rat)))]) := by
  have hn : 0 < (P.length : Int) := by omega
  have hz : oZipM [.tuple (P.map fun _ => PyData.int 1), .tuple (P.map PyData.int)] = some (P.map fun p => .tuple [.int 1, .int p]) := by
    show some (zipD _ _) = _
    rw [zipD_self]
  have f1 : bSum [.tuple (P.map fun _ => PyData.int 1)] = some (.int (P.length : Int)) := by
    rw [sum_s, seq_t, Option.bind_some, show (P.map fun _ => PyData.int 1) = (P.map fun _ => (1 : Int)).map PyData.int by rw [List.map_map]; rfl, asInts_map, Option.map_some, sum_one]
  have f2 : bSum [.list (P.map fun p => PyData.int (1 * p))] = some (.int (pf P)) := by
    rw [int_f P fun p => 1 * p, pf_sum]
    congr 3
    conv => rhs; rw [← List.map_id P]
    exact List.map_congr_left fun p _ => Int.one_mul p
  have L1 : ∀ ρ : PEnv, ρ.length = 9 → lcL (gTupD 2 (gsCons (gSet 6) (gsCons (gSet 7) gsNil))) tYesP (xBin oMul' (xVar 6) (xVar 7)) ρ (P.map fun p => .tuple [.int 1, .int p]) = some (P.map fun p => PyData.int (1 * p)) := fun ρ hρ => by
    match ρ, hρ with
    | [a, b, c, d, e, f, g, i, j], _ =>
      refine lcL_map _ _ _ fun p hp => ?_
      have m : mulOk 1 p = true := (Sm.lit (k := 10) (a := 1)).mulOk (h.1 p hp) (by omega) (by omega)
      simp -implicitDefEqProofs only [xVar_a, xC_a, xBin_a, xUn_a, tOf_a, tTru_a, tNotP_a, tAndP_a, tOrP_a, tyes_a, tno_a, tYesP_a, xNil_a, xCons_a, xTup_a, xLst_a, xAnd_a, xOr_a, xIf_a, xChain_a, oNo_a, oAt_a, xSl_a, xCall_a, xSeq_a, xIt_a, xLc_a, gSet_a, gTupD_a, gsNil_a, gsCons_a, sNop_a, sBrk_a, sCnt_a, sSeq_a, sRet_a, sIf_a, sSet_a, sTgt_a, sAug_a, sApp_a, sExt_a, sPut_a, sPutK_a, pkO_s, sFor_a, sWhile_a, sPar_a, runD_a, b2_s, c2_s, sqO_nx, sqO_rt, sqO_bk, sqO_ct, ifO_t, ifO_f, stO_s, endO_nx, endO_rt, andO_t, andO_f, orO_t, orO_f, chO_s, chP_t, chP_f, slO_s, atO_i, lcO_s, forO_s, gsO_s, nxO_s, tgO_s, paO_s, apO_s, exO_s, plO_s, ptO_s, dB_b, tru_b, tru_n, tru_i, tru_l, tru_t, is_n, isn_n, nn_n, nn_i, nn_b, nn_t, nn_l, add_ii, add'_ii, sub_ii, neg_i, lt_ii, le_ii, gt_ii, ge_ii, ix_l, ix_t, ix_s, at0, at1, at2, sl_l, sl_t, len_l, len_t, len_s, abs_i, int_i, int_b, max_ii, min_ii, tup_s, lst_s, seq_l, seq_t, sum_s, wipe_n, wipe_c, mul_ii, fdiv_ii, mod_ii, add_ll, add_tt, setAll, mkT, mkL, oNot, List.getD_cons_zero, List.getD_cons_succ, List.length_cons, List.length_nil, List.set_cons_zero, List.set_cons_succ, List.map_cons, List.map_nil, List.replicate, List.cons_append, List.nil_append, List.append_nil, Option.bind_some, Option.map_some, List.all_cons, List.all_nil, if_true, if_false, reduceIte, Nat.reduceAdd, Nat.reduceSub, Nat.reduceLT, Nat.reduceLeDiff, Nat.reduceEqDiff, decide_true, decide_false, Bool.and_true, Bool.and_self, Bool.true_and, Bool.not_true, Bool.not_false, ne_eq, not_true_eq_false, not_false_eq_true, Nat.zero_add, Bool.false_eq_true, and_self, true_and, and_true, m]
  have w1 := lowest_rd (pf P) (P.length : Int) hn ((pn_sm h).mono (by omega))
  have sm : SR 20 ((pf P : Rat) / ((P.length : Int) : Rat)) := SR.div (pf_sm h) ((pn_sm h).mono (by omega)) hn
  obtain ⟨m, hm⟩ : ∃ m, m = (pf P : Rat) / ((P.length : Int) : Rat) := ⟨_, rfl⟩
  rw [← hm] at w1 sm ⊢
  have sw : ∀ p ∈ P, SR 31 ((p : Rat) - m) := fun p hp => ((SR.int (h.1 p hp)).sub sm).mono (by omega)
  have sq2 : ∀ x ∈ P.map (fun p : Int => (1 : Rat) * (((p : Rat) - m) * ((p : Rat) - m))), SR 110 x := fun x hx => by
    obtain ⟨p, hp, rfl⟩ := List.mem_map.mp hx
    exact ((SR.int (p := 1) (k := 10) Sm.lit).mul ((sw p hp).mul (sw p hp))).mono (by omega)
  have total : rs (P.map fun p : Int => (1 : Rat) * (((p : Rat) - m) * ((p : Rat) - m))) = (un P : Rat) / ((P.length : Int) : Rat) := by
    have e1 : rs (P.map fun p : Int => (1 : Rat) * (((p : Rat) - m) * ((p : Rat) - m))) = (pq P : Rat) + ((-2 * m) * (pf P : Rat) + m * m * ((P.length : Int) : Rat)) := by
      rw [pq_sum, ← rs_sq, pf_sum, ← rs_int, ← rs_map_mul, ← rs_const (m * m) P, ← rs_map_add, ← rs_map_add]
      congr 1
      refine List.map_congr_left fun p _ => ?_
      grind
    have hn' := cast_pos hn
    have e2 : m * ((P.length : Int) : Rat) = (pf P : Rat) := by rw [hm]; exact Rat.div_mul_cancel (by grind)
    have ed : (un P : Rat) = ((P.length : Int) : Rat) * (pq P : Rat) - (pf P : Rat) * (pf P : Rat) := by
      rw [← un_def]
      push_cast
      rfl
    rw [e1, ed]
    have : ((P.length : Int) : Rat) ≠ 0 := by grind
    grind
  have spos : 0 < (un P : Rat) / ((P.length : Int) : Rat) := by
    rw [Rat.lt_div_iff (cast_pos hn), Rat.zero_mul]
    exact cast_pos hu
  have ss : SR 41 ((un P : Rat) / ((P.length : Int) : Rat)) := SR.div (un_sm h) ((pn_sm h).mono (by omega)) hn
  have ov := over_rd2 (x := (t : Rat)) ((SR.int st).mono (by omega)) (ss.mono (by omega)) spos
  obtain ⟨ρ', e1, hρ⟩ := forL_inv (g := gTupD 2 (gsCons (gSet 6) (gsCons (gSet 7) gsNil))) (b := l1_trim_of) (fun p : Int => .tuple [.int 1, .int p])
    (fun pre rest ρ => pre ++ rest = P ∧ ∃ j k l, ρ = [some (.tuple (P.map fun _ => PyData.int 1)), some (.tuple (P.map PyData.int)), some (.int t), some (.int (P.length : Int)), some (rd m), some (rd (rs (pre.map fun p : Int => (1 : Rat) * (((p : Rat) - m) * ((p : Rat) - m))))), j, k, l]) (fun pre p rest ρ ⟨hp, j, k, l, e'⟩ => by
      subst e'
      have hpP : p ∈ P := by rw [← hp]; simp
      have hlen : pre.length + (rest.length + 1) ≤ 7 := by
        have : pre.length + (rest.length + 1) = P.length := by rw [← hp]; simp
        omega
      have s1 := rs_sr (xs := pre.map fun p : Int => (1 : Rat) * (((p : Rat) - m) * ((p : Rat) - m))) fun x hx => by
        obtain ⟨q, hq, rfl⟩ := List.mem_map.mp hx
        exact sq2 _ (List.mem_map_of_mem (f := fun p : Int => (1 : Rat) * (((p : Rat) - m) * ((p : Rat) - m))) (show q ∈ P by rw [← hp]; simp [hq]))
      rw [List.length_map] at s1
      have q1 := minus_rd (SR.int (k := 900) ((h.1 p hpP).mono (by omega))) (sm.mono (by omega))
      have q2 := times_rd ((sw p hpP).mono (k := 900) (by omega)) ((sw p hpP).mono (by omega))
      have q3 : d_times [.tuple [.int 1, .int 1], rd (((p : Rat) - m) * ((p : Rat) - m))] = _ := times_rd (x := 1) (SR.int (p := 1) (k := 900) Sm.lit) (((sw p hpP).mul (sw p hpP)).mono (by omega))
      have q4 := plus_rd (s1.mono (k := 900) (by omega)) ((sq2 _ (List.mem_map_of_mem (f := fun p : Int => (1 : Rat) * (((p : Rat) - m) * ((p : Rat) - m))) hpP)).mono (k := 900) (by omega))
      have w2 : d_whole [.int p] = some (rd (p : Rat)) := rfl
      have w3 : d_whole [.int 1] = some (.tuple [.int 1, .int 1]) := rfl
      refine ⟨[some (.tuple (P.map fun _ => PyData.int 1)), some (.tuple (P.map PyData.int)), some (.int t), some (.int (P.length : Int)), some (rd m), some (rd (rs (pre.map fun p : Int => (1 : Rat) * (((p : Rat) - m) * ((p : Rat) - m))))), some (.int 1), some (.int p), l], [some (.tuple (P.map fun _ => PyData.int 1)), some (.tuple (P.map PyData.int)), some (.int t), some (.int (P.length : Int)), some (rd m), some (rd (rs ((pre ++ [p]).map fun p : Int => (1 : Rat) * (((p : Rat) - m) * ((p : Rat) - m))))), some (.int 1), some (.int p), some (rd ((p : Rat) - m))], rfl, .inl ?_, by rw [List.append_assoc]; exact hp, _, _, _, rfl⟩
      rw [List.map_append, rs_app, List.map_singleton, show ∀ x, rs [x] = x + 0 from fun x => rfl, Rat.add_zero]
      generalize rs (pre.map fun p : Int => (1 : Rat) * (((p : Rat) - m) * ((p : Rat) - m))) = T at *
      generalize (P.map fun _ => PyData.int 1) = M1 at *
      generalize P.map PyData.int = M2 at *
      simp -implicitDefEqProofs only [l1_trim_of, xVar_a, xC_a, xBin_a, xUn_a, tOf_a, tTru_a, tNotP_a, tAndP_a, tOrP_a, tyes_a, tno_a, tYesP_a, xNil_a, xCons_a, xTup_a, xLst_a, xAnd_a, xOr_a, xIf_a, xChain_a, oNo_a, oAt_a, xSl_a, xCall_a, xSeq_a, xIt_a, xLc_a, gSet_a, gTupD_a, gsNil_a, gsCons_a, sNop_a, sBrk_a, sCnt_a, sSeq_a, sRet_a, sIf_a, sSet_a, sTgt_a, sAug_a, sApp_a, sExt_a, sPut_a, sPutK_a, pkO_s, sFor_a, sWhile_a, sPar_a, runD_a, b2_s, c2_s, sqO_nx, sqO_rt, sqO_bk, sqO_ct, ifO_t, ifO_f, stO_s, endO_nx, endO_rt, andO_t, andO_f, orO_t, orO_f, chO_s, chP_t, chP_f, slO_s, atO_i, lcO_s, forO_s, gsO_s, nxO_s, tgO_s, paO_s, apO_s, exO_s, plO_s, ptO_s, dB_b, tru_b, tru_n, tru_i, tru_l, tru_t, is_n, isn_n, nn_n, nn_i, nn_b, nn_t, nn_l, add_ii, add'_ii, sub_ii, neg_i, lt_ii, le_ii, gt_ii, ge_ii, ix_l, ix_t, ix_s, at0, at1, at2, sl_l, sl_t, len_l, len_t, len_s, abs_i, int_i, int_b, max_ii, min_ii, tup_s, lst_s, seq_l, seq_t, sum_s, wipe_n, wipe_c, mul_ii, fdiv_ii, mod_ii, add_ll, add_tt, setAll, mkT, mkL, oNot, List.getD_cons_zero, List.getD_cons_succ, List.length_cons, List.length_nil, List.set_cons_zero, List.set_cons_succ, List.map_cons, List.map_nil, List.replicate, List.cons_append, List.nil_append, List.append_nil, Option.bind_some, Option.map_some, List.all_cons, List.all_nil, if_true, if_false, reduceIte, Nat.reduceAdd, Nat.reduceSub, Nat.reduceLT, Nat.reduceLeDiff, Nat.reduceEqDiff, decide_true, decide_false, Bool.and_true, Bool.and_self, Bool.true_and, Bool.not_true, Bool.not_false, ne_eq, not_true_eq_false, not_false_eq_true, Nat.zero_add, Bool.false_eq_true, and_self, true_and, and_true, w2, w3, q1, flat_rd, q2, q3, q4]) P [] [some (.tuple (P.map fun _ => PyData.int 1)), some (.tuple (P.map PyData.int)), some (.int t), some (.int (P.length : Int)), some (rd m), some (rd 0), none, none, none] ⟨rfl, none, none, none, rfl⟩
  obtain ⟨_, j, k, l, e'⟩ := hρ
  subst e'
  simp only [List.nil_append] at e1
  rw [total] at e1
  have w0 : d_whole [.int 0] = some (rd 0) := rfl
  have wt : d_whole [.int t] = some (rd (t : Rat)) := rfl
  generalize (P.map fun p => PyData.tuple [.int 1, .int p]) = MZ at *
  generalize (P.map fun p => PyData.int (1 * p)) = M4 at *
  generalize (P.map fun _ => PyData.int 1) = M1 at *
  generalize P.map PyData.int = M2 at *
  simp -implicitDefEqProofs only [d_trim_of, g_trim_of, xVar_a, xC_a, xBin_a, xUn_a, tOf_a, tTru_a, tNotP_a, tAndP_a, tOrP_a, tyes_a, tno_a, tYesP_a, xNil_a, xCons_a, xTup_a, xLst_a, xAnd_a, xOr_a, xIf_a, xChain_a, oNo_a, oAt_a, xSl_a, xCall_a, xSeq_a, xIt_a, xLc_a, gSet_a, gTupD_a, gsNil_a, gsCons_a, sNop_a, sBrk_a, sCnt_a, sSeq_a, sRet_a, sIf_a, sSet_a, sTgt_a, sAug_a, sApp_a, sExt_a, sPut_a, sPutK_a, pkO_s, sFor_a, sWhile_a, sPar_a, runD_a, b2_s, c2_s, sqO_nx, sqO_rt, sqO_bk, sqO_ct, ifO_t, ifO_f, stO_s, endO_nx, endO_rt, andO_t, andO_f, orO_t, orO_f, chO_s, chP_t, chP_f, slO_s, atO_i, lcO_s, forO_s, gsO_s, nxO_s, tgO_s, paO_s, apO_s, exO_s, plO_s, ptO_s, dB_b, tru_b, tru_n, tru_i, tru_l, tru_t, is_n, isn_n, nn_n, nn_i, nn_b, nn_t, nn_l, add_ii, add'_ii, sub_ii, neg_i, lt_ii, le_ii, gt_ii, ge_ii, ix_l, ix_t, ix_s, at0, at1, at2, sl_l, sl_t, len_l, len_t, len_s, abs_i, int_i, int_b, max_ii, min_ii, tup_s, lst_s, seq_l, seq_t, sum_s, wipe_n, wipe_c, mul_ii, fdiv_ii, mod_ii, add_ll, add_tt, setAll, mkT, mkL, oNot, List.getD_cons_zero, List.getD_cons_succ, List.length_cons, List.length_nil, List.set_cons_zero, List.set_cons_succ, List.map_cons, List.map_nil, List.replicate, List.cons_append, List.nil_append, List.append_nil, Option.bind_some, Option.map_some, List.all_cons, List.all_nil, if_true, if_false, reduceIte, Nat.reduceAdd, Nat.reduceSub, Nat.reduceLT, Nat.reduceLeDiff, Nat.reduceEqDiff, decide_true, decide_false, Bool.and_true, Bool.and_self, Bool.true_and, Bool.not_true, Bool.not_false, ne_eq, not_true_eq_false, not_false_eq_true, Nat.zero_add, Bool.false_eq_true, and_self, true_and, and_true, f1, hz, L1, f2, w1, flat_rd, w0, e1, wt, ov]
/-! sorted -/
theorem alike_enc (a b : Sd) : PySem.W.alike (enc a) (enc b) = true := by simp [enc, PySem.W.alike, PySem.W.alikeAll]
theorem shp_enc (a : Sd) : shp (enc a) = true := by simp [enc, shp, SeqAt.shaped, PyData.canLay0, PyData.canLayAll0, PyData.depth, PyData.depthAll]
theorem depth_enc (a : Sd) : (enc a).depth ≤ 20 := by simp [enc, PyData.depth, PyData.depthAll]
theorem okSort_enc (W : List Sd) (hl : W.length ≤ 1000) : okSort (W.map enc) = true := by
  unfold okSort
  rw [Bool.and_eq_true, Bool.and_eq_true, Bool.and_eq_true]
  refine ⟨⟨⟨?_, ?_⟩, ?_⟩, ?_⟩
  · simp only [List.all_map, List.all_eq_true, Function.comp]
    exact fun x _ y _ => alike_enc x y
  · simp only [List.all_map, List.all_eq_true, Function.comp, Bool.and_eq_true, decide_eq_true_eq]
    exact fun x _ => ⟨shp_enc x, depth_enc x⟩
  · rw [List.length_map]
    exact decide_eq_true (by omega)
  · rw [Bool.or_eq_true]
    refine .inl ?_
    rw [List.all_map, List.all_eq_true]
    exact fun x _ => rfl
theorem okSort_int (P : List Int) (hl : P.length ≤ 1000) : okSort (P.map PyData.int) = true := by
  unfold okSort
  rw [Bool.and_eq_true, Bool.and_eq_true, Bool.and_eq_true]
  refine ⟨⟨⟨?_, ?_⟩, ?_⟩, ?_⟩
  · simp only [List.all_map, List.all_eq_true, Function.comp]
    exact fun x _ y _ => by simp [PySem.W.alike]
  · simp only [List.all_map, List.all_eq_true, Function.comp, Bool.and_eq_true, decide_eq_true_eq]
    exact fun x _ => ⟨by simp [shp, SeqAt.shaped, PyData.canLay0, PyData.depth], by simp [PyData.depth]⟩
  · rw [List.length_map]
    exact decide_eq_true (by omega)
  · rw [Bool.or_eq_true]
    refine .inr ?_
    rw [List.all_map, List.all_eq_true]
    exact fun x _ => rfl
theorem sort_map {α : Type} (f : α → D) (l : List α) : (l.map f).mergeSort (PySem.W.dataLe false id) = (l.mergeSort (PySem.W.dataLe false f)).map f := by
  rw [PySem.W.sort_maps (r := PySem.W.dataLe false f) (s := PySem.W.dataLe false id) f (fun _ _ _ _ => rfl)]
theorem sorted_w {W : List Sd} (hl : W.length ≤ 1000) : ∃ W' : List Sd, W'.Perm W ∧ bSorted [.tuple (W.map enc)] = some (.list (W'.map enc)) := by
  refine ⟨W.mergeSort (PySem.W.dataLe false enc), List.mergeSort_perm _ _, ?_⟩
  show (if okSort (W.map enc) = true then some (PyData.list ((W.map enc).mergeSort (PySem.W.dataLe false id))) else none) = _
  rw [if_pos (okSort_enc W hl), sort_map]
theorem sorted_i (b : Bool) {P : List Int} (hl : P.length ≤ 1000) : bSorted [sqD b (P.map PyData.int)] = some (.list ((P.mergeSort fun x y => decide (x ≤ y)).map PyData.int)) := by
  show ((seqD (sqD b (P.map PyData.int))).bind fun ds => if okSort ds = true then some (PyData.list (ds.mergeSort (PySem.W.dataLe false id))) else none) = _
  rw [seq_q, Option.bind_some, if_pos (okSort_int P hl), sort_map]
  have : (PySem.W.dataLe false PyData.int) = fun x y : Int => decide (x ≤ y) := PySem.W.dataLe_int id
  rw [this]
theorem sq_perm {W W' : List Sd} (h : W'.Perm W) (f : Sd → Int) : sq W' f = sq W f := by
  induction h with
  | nil => rfl
  | cons a _ ih => rw [sq_cons, sq_cons, ih]
  | swap a b l => rw [sq_cons, sq_cons, sq_cons, sq_cons]; omega
  | trans _ _ ih1 ih2 => rw [ih1, ih2]
theorem best_sorted {P : List Int} {W W' : List Sd} (hW : OkS W) (hl : W.length ≤ 10) (hp : W'.Perm W) (hP : W.map Prod.fst = P) (h2 : 2 ≤ P.length) (hu : 0 < un P) : d_best_line [.tuple (W'.map enc)] = some (.tuple [rd ((lA P W : Rat) / (un P : Rat)), rd ((lB P W : Rat) / (un P : Rat))]) := by
  have hlen : W.length = P.length := by rw [← hP, List.length_map]
  have e1 : hB W' = pf P := by
    unfold hB pf hB toS sq
    rw [show (W'.map fun s => s.1).sum = (W.map fun s => s.1).sum from sq_perm hp fun s => s.1, ← hP, List.map_map, List.map_map]
    rfl
  have e2 : qB W' = pq P := by
    unfold qB pq qB toS sq
    rw [show (W'.map fun s => s.1 * s.1).sum = (W.map fun s => s.1 * s.1).sum from sq_perm hp fun s => s.1 * s.1, ← hP, List.map_map, List.map_map]
    rfl
  have e3 : dB2 W' = wT W := sq_perm hp _
  have e4 : bB W' = wU W := sq_perm hp _
  have e5 : (W'.length : Int) = (P.length : Int) := by rw [hp.length_eq, hlen]
  have e6 : under W' = un P := by
    unfold under
    rw [e1, e2, e5]
    exact un_def P
  have h := best_line_eq (S := W') (fun s hs => hW s (hp.mem_iff.mp hs)) (by rw [e6]; exact hu) (by rw [hp.length_eq]; omega) (by rw [hp.length_eq]; omega)
  rw [e1, e2, e3, e4, e5, e6, show wT W * pq P - pf P * wU W = lB P W by unfold lB; rw [Int.mul_comm (pf P)]] at h
  exact h
/-! in -/
theorem lay_ints : ∀ l : List Int, PyData.canLayAll0 (l.map PyData.int) = true
  | [] => rfl
  | a :: l => by
    simp only [List.map_cons, PyData.canLayAll0, PyData.canLay0, Bool.true_and]
    exact lay_ints l
theorem any_ints (p : Int) : ∀ l : List Int, ((l.map PyData.int).any fun z => PyData.eqv z (.int p)) = l.contains p
  | [] => rfl
  | a :: l => by
    rw [List.map_cons, List.any_cons, any_ints p l, List.contains_cons]
    have e : PyData.eqv (.int a) (.int p) = (p == a) := by
      have e1 : PyData.eqv (.int a) (.int p) = (a == p) := by rw [PyData.eqv]
      rw [e1]
      exact BEq.comm
    rw [e]
theorem shp_int (p : Int) : shp (.int p) = true := by simp [shp, SeqAt.shaped, PyData.canLay0, PyData.depth]
theorem notin_ints (p : Int) (l : List Int) : oNotIn (.int p) (.list (l.map PyData.int)) = some (.bool (!l.contains p)) := by
  show (if (shp (.int p) && PyData.canLayAll0 (l.map PyData.int)) = true then some (PyData.bool (!(l.map PyData.int).any fun z => PyData.eqv z (.int p))) else none) = _
  rw [shp_int, lay_ints, any_ints]
  rfl
theorem in_ints (p : Int) (l : List Int) : oIn (.int p) (.list (l.map PyData.int)) = some (.bool (l.contains p)) := by
  show (if (shp (.int p) && PyData.canLayAll0 (l.map PyData.int)) = true then some (PyData.bool ((l.map PyData.int).any fun z => PyData.eqv z (.int p))) else none) = _
  rw [shp_int, lay_ints, any_ints]
  rfl
end K24

namespace K24
open PySem PySem.Spec PyProof.Rows L2 Pm
theorem num_neg (x : Rat) : decide (x.num < 0) = decide (x < 0) := by
  refine decide_eq_decide.mpr ?_
  rw [Rat.lt_iff x 0]
  show _ ↔ x.num * 1 < (0 : Int) * (x.den : Int)
  rw [Int.zero_mul, Int.mul_one]
def badL (W : List Sd) (left : List Int) : List Int := left.filter fun p => decide (ld left W p < 0)
def keptL (W : List Sd) (left : List Int) : List Int := left.filter fun p => !(badL W left).contains p
def lift (W : List Sd) : Nat → List Int → List Int → Option (List Int × List Int)
  | 0, _, _ => none
  | n + 1, left, gone => if left.length < 2 then none else if badL W left = [] then some (left, gone) else lift W n (keptL W left) (gone ++ badL W left)
theorem kept_lt {W : List Sd} {left : List Int} (h : badL W left ≠ []) : (keptL W left).length < left.length := by
  unfold keptL
  obtain ⟨p, hp⟩ := List.exists_mem_of_ne_nil _ h
  rw [List.length_filter_lt_length_iff_exists]
  refine ⟨p, (List.mem_filter.mp hp).1, ?_⟩
  simp [hp]
theorem filter_len {α : Type} (f : α → Bool) : ∀ l : List α, (l.filter f).length + (l.filter fun x => !f x).length = l.length
  | [] => rfl
  | a :: l => by
    have ih := filter_len f l
    cases hc : f a with
    | true =>
      rw [List.filter_cons_of_pos hc, List.filter_cons_of_neg (by rw [hc]; decide), List.length_cons, List.length_cons]
      omega
    | false =>
      rw [List.filter_cons_of_neg (by rw [hc]; decide), List.filter_cons_of_pos (by rw [hc]; rfl), List.length_cons, List.length_cons]
      omega
/-- what stands between two turns -/
structure LInv (P left gone : List Int) : Prop where
  nd : left.Nodup
  sub : ∀ p ∈ left, p ∈ P
  ok : OkI left
  gl : gone.length + left.length ≤ P.length
  part : ∀ p ∈ P, gone.contains p = !left.contains p
theorem LInv.step {P left gone : List Int} {W : List Sd} (h : LInv P left gone) : LInv P (keptL W left) (gone ++ badL W left) where
  nd := h.nd.sublist List.filter_sublist
  sub := fun p hp => h.sub p (List.mem_filter.mp hp).1
  ok := ⟨fun p hp => h.ok.1 p (List.mem_filter.mp hp).1, Nat.le_trans (List.length_filter_le _ _) h.ok.2⟩
  gl := by
    have h1 := h.gl
    have h2 : (badL W left).length + (keptL W left).length = left.length := by
      have e : keptL W left = left.filter fun p => !decide (ld left W p < 0) := by
        unfold keptL
        refine List.filter_congr fun p hp => ?_
        congr 1
        cases hc : decide (ld left W p < 0) with
        | true => simp [badL, hp, of_decide_eq_true hc]
        | false => simp [badL, of_decide_eq_false hc]
      rw [e]
      exact filter_len (fun p => decide (ld left W p < 0)) left
    rw [List.length_append]
    omega
  part := fun p hp => by
    have h1 := h.part p hp
    have h2 : (gone ++ badL W left).contains p = (gone.contains p || (badL W left).contains p) := by simp
    have h3 : (keptL W left).contains p = (left.contains p && !(badL W left).contains p) := by
      unfold keptL
      by_cases hl : p ∈ left
      · by_cases hb : p ∈ badL W left <;> simp [hl, hb]
      · simp [hl]
    rw [h2, h3, h1]
    by_cases hb : (badL W left).contains p = true
    · rw [hb]
      simp
    · have hb' : (badL W left).contains p = false := by simpa using hb
      rw [hb']
      simp
def liftT (P : List Int) (W : List Sd) (left gone : List Int) : D := .tuple [.tuple (P.map fun p => rd (if left.contains p then ld left W p else 0)), .tuple ((gone.mergeSort fun x y => decide (x ≤ y)).map PyData.int)]
/-! the dict told -/
theorem dcL_new {g : XG} {t : PEnv → Option Bool} {fk fv : Xp} {ρ : PEnv} (en val : Int → D) : ∀ (xs : List Int) (kd : List (D × D)), (∀ p ∈ xs, ∃ ρ1, g (en p) ρ = some ρ1 ∧ t ρ1 = some true ∧ fk ρ1 = some (.int p) ∧ fv ρ1 = some (val p)) → xs.Nodup → (∀ p ∈ xs, dHasD kd p = false) →
    dcL g t fk fv ρ (xs.map en) kd = some (kd ++ xs.map fun p => (PyData.int p, val p))
  | [], kd, _, _, _ => by simp [dcL]
  | p :: xs, kd, h, hn, hk => by
    obtain ⟨ρ1, e1, e2, e3, e4⟩ := h p (by simp)
    have hn' := List.nodup_cons.mp hn
    have hput : dPutD kd p (val p) = kd ++ [(.int p, val p)] := by
      unfold dPutD
      rw [hk p (by simp)]
      rfl
    have ih := dcL_new en val xs (kd ++ [(.int p, val p)]) (fun q hq => h q (by simp [hq])) hn'.2 (fun q hq => by
      have h1 := hk q (by simp [hq])
      unfold dHasD at *
      rw [List.any_append, h1, Bool.false_or]
      have : ¬ p = q := fun e => hn'.1 (e ▸ hq)
      simp [isKeyI, this])
    simp only [List.map_cons, dcL, e1, e2, e3, e4, Option.bind_some, if_true, dcK, hput, ih, List.append_assoc, List.cons_append, List.nil_append]
theorem dget_map (val : Int → D) (p : Int) : ∀ xs : List Int, dGetD (xs.map fun q => (PyData.int q, val q)) p = if xs.contains p then some (val p) else none
  | [] => rfl
  | q :: xs => by
    have ih := dget_map val p xs
    unfold dGetD at *
    rw [List.map_cons]
    by_cases h : q = p
    · subst h
      rw [List.find?_cons_of_pos (by simp [isKeyI])]
      simp
    · rw [List.find?_cons_of_neg (by simp [isKeyI, h]), ih]
      have : ¬ p = q := fun e => h e.symm
      simp [this]
theorem get2_told (val : Int → D) (p : Int) (d : D) (xs : List Int) : oGet2 (.dict (xs.map fun q => (PyData.int q, val q))) (.int p) d = some (if xs.contains p then val p else d) := by
  have h : ((xs.map fun q => (PyData.int q, val q)).any fun p => isNone p.1) = false := by
    rw [List.any_map, List.any_eq_false]
    intro x _
    simp [isNone]
  show (if ((xs.map fun q => (PyData.int q, val q)).any fun p => isNone p.1) = true then none else some ((dGetD (xs.map fun q => (PyData.int q, val q)) p).getD d)) = _
  rw [h, dget_map]
  simp only [Bool.false_eq_true, if_false]
  split <;> rfl
section
variable {P : List Int} {W : List Sd}
abbrev lifC : PEnv → Option Bool := tOf (xBin oGt (xCall bLen (xCons (xVar 2) xNil)) (xC (.int 1)))
/-- a turn of the program's loop -/
theorem lift_turn (hW : OkS W) (hl : W.length ≤ 10) {left gone : List Int} (hI : LInv P left gone) (hPl : P.length ≤ 10) (h2 : 2 ≤ left.length) (a b c d e : Option D) :
    lifC [some (.tuple (P.map PyData.int)), some (.tuple (W.map enc)), some (.list (left.map PyData.int)), some (.list (gone.map PyData.int)), a, b, c, d, e] = some true ∧
    (badL W left = [] → l1_lifted_first [some (.tuple (P.map PyData.int)), some (.tuple (W.map enc)), some (.list (left.map PyData.int)), some (.list (gone.map PyData.int)), a, b, c, d, e] = some (.rt (liftT P W left gone))) ∧
    (badL W left ≠ [] → l1_lifted_first [some (.tuple (P.map PyData.int)), some (.tuple (W.map enc)), some (.list (left.map PyData.int)), some (.list (gone.map PyData.int)), a, b, c, d, e] = some (.nx [some (.tuple (P.map PyData.int)), some (.tuple (W.map enc)), some (.list ((keptL W left).map PyData.int)), some (.list ((gone ++ badL W left).map PyData.int)), some (.tuple (left.map fun p => rd (ld left W p))), some (.list ((badL W left).map PyData.int)), c, d, e])) := by
  have hu := un_pos hI.nd h2
  have hlo : d_loads_of [.list (left.map PyData.int), .tuple (W.map enc)] = some (.tuple (left.map fun p => rd (ld left W p))) := loads_of_eq true hI.ok hW hl hu
  have hfl : flat (.tuple (left.map fun p => rd (ld left W p))) = true := by
    show flatL (left.map fun p => rd (ld left W p)) = true
    have : ∀ l : List Int, flatL (l.map fun p => rd (ld left W p)) = true := by
      intro l
      induction l with
      | nil => rfl
      | cons x l ih =>
        rw [List.map_cons]
        unfold flatL
        rw [flat_rd, Bool.true_and]
        exact ih
    exact this left
  have hz : oZipM [.list (left.map PyData.int), .tuple (left.map fun p => rd (ld left W p))] = some (left.map fun p => .tuple [.int p, rd (ld left W p)]) := by
    show some (zipD _ _) = _
    rw [zipD_self]
  have hbad : ∀ ρ : PEnv, ρ.length = 9 → lcL (gTupD 2 (gsCons (gSet 7) (gsCons (gSet 8) gsNil))) (tOf (xBin oLt (xBin oIx (xVar 8) (xC (.int 0))) (xC (.int 0)))) (xVar 7) ρ (left.map fun p => .tuple [.int p, rd (ld left W p)]) = some ((badL W left).map PyData.int) := fun ρ hρ => by
    match ρ, hρ with
    | [r0, r1, r2, r3, r4, r5, r6, r7, r8], _ =>
      refine lcL_filter _ PyData.int (fun p => decide (ld left W p < 0)) _ fun p hp => ⟨[r0, r1, r2, r3, r4, r5, r6, some (.int p), some (rd (ld left W p))], rfl, ?_, fun _ => rfl⟩
      have hn := num_neg (ld left W p)
      generalize ld left W p = x at *
      simp -implicitDefEqProofs only [xVar_a, xC_a, xBin_a, xUn_a, tOf_a, tTru_a, tNotP_a, tAndP_a, tOrP_a, tyes_a, tno_a, tYesP_a, xNil_a, xCons_a, xTup_a, xLst_a, xAnd_a, xOr_a, xIf_a, xChain_a, oNo_a, oAt_a, xSl_a, xCall_a, xSeq_a, xIt_a, xLc_a, gSet_a, gTupD_a, gsNil_a, gsCons_a, sNop_a, sBrk_a, sCnt_a, sSeq_a, sRet_a, sIf_a, sSet_a, sTgt_a, sAug_a, sApp_a, sExt_a, sPut_a, sPutK_a, pkO_s, sFor_a, sWhile_a, sPar_a, runD_a, b2_s, c2_s, sqO_nx, sqO_rt, sqO_bk, sqO_ct, ifO_t, ifO_f, stO_s, endO_nx, endO_rt, andO_t, andO_f, orO_t, orO_f, chO_s, chP_t, chP_f, slO_s, atO_i, lcO_s, forO_s, gsO_s, nxO_s, tgO_s, paO_s, apO_s, exO_s, plO_s, ptO_s, dB_b, tru_b, tru_n, tru_i, tru_l, tru_t, is_n, isn_n, nn_n, nn_i, nn_b, nn_t, nn_l, add_ii, add'_ii, sub_ii, neg_i, lt_ii, le_ii, gt_ii, ge_ii, ix_l, ix_t, ix_s, at0, at1, at2, sl_l, sl_t, len_l, len_t, len_s, abs_i, int_i, int_b, max_ii, min_ii, tup_s, lst_s, seq_l, seq_t, sum_s, wipe_n, wipe_c, mul_ii, fdiv_ii, mod_ii, add_ll, add_tt, setAll, mkT, mkL, oNot, List.getD_cons_zero, List.getD_cons_succ, List.length_cons, List.length_nil, List.set_cons_zero, List.set_cons_succ, List.map_cons, List.map_nil, List.replicate, List.cons_append, List.nil_append, List.append_nil, Option.bind_some, Option.map_some, List.all_cons, List.all_nil, if_true, if_false, reduceIte, Nat.reduceAdd, Nat.reduceSub, Nat.reduceLT, Nat.reduceLeDiff, Nat.reduceEqDiff, decide_true, decide_false, Bool.and_true, Bool.and_self, Bool.true_and, Bool.not_true, Bool.not_false, ne_eq, not_true_eq_false, not_false_eq_true, Nat.zero_add, Bool.false_eq_true, and_self, true_and, and_true, rd_0, hn]
  have hlen : 1 < ((left.map PyData.int).length : Int) := by rw [List.length_map]; omega
  refine ⟨?_, fun hb => ?_, fun hb => ?_⟩
  · simp -implicitDefEqProofs only [xVar_a, xC_a, xBin_a, xUn_a, tOf_a, tTru_a, tNotP_a, tAndP_a, tOrP_a, tyes_a, tno_a, tYesP_a, xNil_a, xCons_a, xTup_a, xLst_a, xAnd_a, xOr_a, xIf_a, xChain_a, oNo_a, oAt_a, xSl_a, xCall_a, xSeq_a, xIt_a, xLc_a, gSet_a, gTupD_a, gsNil_a, gsCons_a, sNop_a, sBrk_a, sCnt_a, sSeq_a, sRet_a, sIf_a, sSet_a, sTgt_a, sAug_a, sApp_a, sExt_a, sPut_a, sPutK_a, pkO_s, sFor_a, sWhile_a, sPar_a, runD_a, b2_s, c2_s, sqO_nx, sqO_rt, sqO_bk, sqO_ct, ifO_t, ifO_f, stO_s, endO_nx, endO_rt, andO_t, andO_f, orO_t, orO_f, chO_s, chP_t, chP_f, slO_s, atO_i, lcO_s, forO_s, gsO_s, nxO_s, tgO_s, paO_s, apO_s, exO_s, plO_s, ptO_s, dB_b, tru_b, tru_n, tru_i, tru_l, tru_t, is_n, isn_n, nn_n, nn_i, nn_b, nn_t, nn_l, add_ii, add'_ii, sub_ii, neg_i, lt_ii, le_ii, gt_ii, ge_ii, ix_l, ix_t, ix_s, at0, at1, at2, sl_l, sl_t, len_l, len_t, len_s, abs_i, int_i, int_b, max_ii, min_ii, tup_s, lst_s, seq_l, seq_t, sum_s, wipe_n, wipe_c, mul_ii, fdiv_ii, mod_ii, add_ll, add_tt, setAll, mkT, mkL, oNot, List.getD_cons_zero, List.getD_cons_succ, List.length_cons, List.length_nil, List.set_cons_zero, List.set_cons_succ, List.map_cons, List.map_nil, List.replicate, List.cons_append, List.nil_append, List.append_nil, Option.bind_some, Option.map_some, List.all_cons, List.all_nil, if_true, if_false, reduceIte, Nat.reduceAdd, Nat.reduceSub, Nat.reduceLT, Nat.reduceLeDiff, Nat.reduceEqDiff, decide_true, decide_false, Bool.and_true, Bool.and_self, Bool.true_and, Bool.not_true, Bool.not_false, ne_eq, not_true_eq_false, not_false_eq_true, Nat.zero_add, Bool.false_eq_true, and_self, true_and, and_true, hlen]
  · rw [hb] at hbad
    have hdc : ∀ (r6 r7 r8 : Option D), xDc (xIt oZipM (xCons (xVar 2) (xCons (xVar 4) xNil))) (gTupD 2 (gsCons (gSet 7) (gsCons (gSet 8) gsNil))) tYesP (xVar 7) (xVar 8) [7, 8] [some (.tuple (P.map PyData.int)), some (.tuple (W.map enc)), some (.list (left.map PyData.int)), some (.list (gone.map PyData.int)), some (.tuple (left.map fun p => rd (ld left W p))), some (.list []), r6, r7, r8] = some (.dict (left.map fun p => (PyData.int p, rd (ld left W p)))) := fun r6 r7 r8 => by
      have h := dcL_new (g := gTupD 2 (gsCons (gSet 7) (gsCons (gSet 8) gsNil))) (t := tYesP) (fk := xVar 7) (fv := xVar 8) (ρ := [some (.tuple (P.map PyData.int)), some (.tuple (W.map enc)), some (.list (left.map PyData.int)), some (.list (gone.map PyData.int)), some (.tuple (left.map fun p => rd (ld left W p))), some (.list []), r6, none, none]) (fun p => .tuple [.int p, rd (ld left W p)]) (fun p => rd (ld left W p)) left [] (fun p hp => ⟨_, rfl, rfl, rfl, rfl⟩) hI.nd (fun p hp => rfl)
      have hle : (left.map fun p => PyData.tuple [.int p, rd (ld left W p)]).length ≤ 16777216 := by rw [List.length_map]; have := hI.ok.2; omega
      unfold xDc
      simp -implicitDefEqProofs only [xVar_a, xC_a, xBin_a, xUn_a, tOf_a, tTru_a, tNotP_a, tAndP_a, tOrP_a, tyes_a, tno_a, tYesP_a, xNil_a, xCons_a, xTup_a, xLst_a, xAnd_a, xOr_a, xIf_a, xChain_a, oNo_a, oAt_a, xSl_a, xCall_a, xSeq_a, xIt_a, xLc_a, gSet_a, gTupD_a, gsNil_a, gsCons_a, sNop_a, sBrk_a, sCnt_a, sSeq_a, sRet_a, sIf_a, sSet_a, sTgt_a, sAug_a, sApp_a, sExt_a, sPut_a, sPutK_a, pkO_s, sFor_a, sWhile_a, sPar_a, runD_a, b2_s, c2_s, sqO_nx, sqO_rt, sqO_bk, sqO_ct, ifO_t, ifO_f, stO_s, endO_nx, endO_rt, andO_t, andO_f, orO_t, orO_f, chO_s, chP_t, chP_f, slO_s, atO_i, lcO_s, forO_s, gsO_s, nxO_s, tgO_s, paO_s, apO_s, exO_s, plO_s, ptO_s, dB_b, tru_b, tru_n, tru_i, tru_l, tru_t, is_n, isn_n, nn_n, nn_i, nn_b, nn_t, nn_l, add_ii, add'_ii, sub_ii, neg_i, lt_ii, le_ii, gt_ii, ge_ii, ix_l, ix_t, ix_s, at0, at1, at2, sl_l, sl_t, len_l, len_t, len_s, abs_i, int_i, int_b, max_ii, min_ii, tup_s, lst_s, seq_l, seq_t, sum_s, wipe_n, wipe_c, mul_ii, fdiv_ii, mod_ii, add_ll, add_tt, setAll, mkT, mkL, oNot, List.getD_cons_zero, List.getD_cons_succ, List.length_cons, List.length_nil, List.set_cons_zero, List.set_cons_succ, List.map_cons, List.map_nil, List.replicate, List.cons_append, List.nil_append, List.append_nil, Option.bind_some, Option.map_some, List.all_cons, List.all_nil, if_true, if_false, reduceIte, Nat.reduceAdd, Nat.reduceSub, Nat.reduceLT, Nat.reduceLeDiff, Nat.reduceEqDiff, decide_true, decide_false, Bool.and_true, Bool.and_self, Bool.true_and, Bool.not_true, Bool.not_false, ne_eq, not_true_eq_false, not_false_eq_true, Nat.zero_add, Bool.false_eq_true, and_self, true_and, and_true, hz, hle, h]
    have hget : ∀ ρ : PEnv, ρ.length = 9 → ρ.getD 6 none = some (.dict (left.map fun p => (PyData.int p, rd (ld left W p)))) → lcL (gSet 7) tYesP (xGet2 (xVar 6) (xVar 7) (xCall (fun ds => if ds.length = 1 then (d_whole) ds else none) (xCons (xC (.int 0)) xNil))) ρ (P.map PyData.int) = some (P.map fun p => rd (if left.contains p then ld left W p else 0)) := fun ρ hρ h6 => by
      match ρ, hρ with
      | [r0, r1, r2, r3, r4, r5, r6, r7, r8], _ =>
        simp only [List.getD_cons_succ, List.getD_cons_zero] at h6
        subst h6
        refine lcL_map _ _ _ fun p hp => ?_
        have hg := get2_told (fun q => rd (ld left W q)) p (rd 0) left
        have e : (if left.contains p then rd (ld left W p) else rd 0) = rd (if left.contains p then ld left W p else 0) := by split <;> rfl
        rw [e] at hg
        have w0 : d_whole [.int 0] = some (rd 0) := rfl
        generalize (left.map fun q => (PyData.int q, rd (ld left W q))) = KD at *
        simp -implicitDefEqProofs only [xVar_a, xC_a, xBin_a, xUn_a, tOf_a, tTru_a, tNotP_a, tAndP_a, tOrP_a, tyes_a, tno_a, tYesP_a, xNil_a, xCons_a, xTup_a, xLst_a, xAnd_a, xOr_a, xIf_a, xChain_a, oNo_a, oAt_a, xSl_a, xCall_a, xSeq_a, xIt_a, xLc_a, gSet_a, gTupD_a, gsNil_a, gsCons_a, sNop_a, sBrk_a, sCnt_a, sSeq_a, sRet_a, sIf_a, sSet_a, sTgt_a, sAug_a, sApp_a, sExt_a, sPut_a, sPutK_a, pkO_s, sFor_a, sWhile_a, sPar_a, runD_a, b2_s, c2_s, sqO_nx, sqO_rt, sqO_bk, sqO_ct, ifO_t, ifO_f, stO_s, endO_nx, endO_rt, andO_t, andO_f, orO_t, orO_f, chO_s, chP_t, chP_f, slO_s, atO_i, lcO_s, forO_s, gsO_s, nxO_s, tgO_s, paO_s, apO_s, exO_s, plO_s, ptO_s, dB_b, tru_b, tru_n, tru_i, tru_l, tru_t, is_n, isn_n, nn_n, nn_i, nn_b, nn_t, nn_l, add_ii, add'_ii, sub_ii, neg_i, lt_ii, le_ii, gt_ii, ge_ii, ix_l, ix_t, ix_s, at0, at1, at2, sl_l, sl_t, len_l, len_t, len_s, abs_i, int_i, int_b, max_ii, min_ii, tup_s, lst_s, seq_l, seq_t, sum_s, wipe_n, wipe_c, mul_ii, fdiv_ii, mod_ii, add_ll, add_tt, setAll, mkT, mkL, oNot, List.getD_cons_zero, List.getD_cons_succ, List.length_cons, List.length_nil, List.set_cons_zero, List.set_cons_succ, List.map_cons, List.map_nil, List.replicate, List.cons_append, List.nil_append, List.append_nil, Option.bind_some, Option.map_some, List.all_cons, List.all_nil, if_true, if_false, reduceIte, Nat.reduceAdd, Nat.reduceSub, Nat.reduceLT, Nat.reduceLeDiff, Nat.reduceEqDiff, decide_true, decide_false, Bool.and_true, Bool.and_self, Bool.true_and, Bool.not_true, Bool.not_false, ne_eq, not_true_eq_false, not_false_eq_true, Nat.zero_add, Bool.false_eq_true, and_self, true_and, and_true, xGet2, w0, hg]
    have hso : bSorted [.list (gone.map PyData.int)] = some (.list ((gone.mergeSort fun x y => decide (x ≤ y)).map PyData.int)) := sorted_i true (P := gone) (by have := hI.gl; omega)
    unfold liftT
    generalize (gone.mergeSort fun x y => decide (x ≤ y)).map PyData.int = GS at *
    generalize (P.map fun p => rd (if left.contains p then ld left W p else 0)) = LD at *
    generalize (left.map fun p => (PyData.int p, rd (ld left W p))) = KD at *
    generalize (left.map fun p => PyData.tuple [.int p, rd (ld left W p)]) = ZZ at *
    generalize (left.map fun p => rd (ld left W p)) = LL at *
    generalize P.map PyData.int = MP at *
    generalize W.map enc = MW at *
    generalize left.map PyData.int = ML at *
    generalize gone.map PyData.int = MG at *
    simp only [List.map_nil] at hbad
    simp -implicitDefEqProofs only [l1_lifted_first, ↓ hdc, xVar_a, xC_a, xBin_a, xUn_a, tOf_a, tTru_a, tNotP_a, tAndP_a, tOrP_a, tyes_a, tno_a, tYesP_a, xNil_a, xCons_a, xTup_a, xLst_a, xAnd_a, xOr_a, xIf_a, xChain_a, oNo_a, oAt_a, xSl_a, xCall_a, xSeq_a, xIt_a, xLc_a, gSet_a, gTupD_a, gsNil_a, gsCons_a, sNop_a, sBrk_a, sCnt_a, sSeq_a, sRet_a, sIf_a, sSet_a, sTgt_a, sAug_a, sApp_a, sExt_a, sPut_a, sPutK_a, pkO_s, sFor_a, sWhile_a, sPar_a, runD_a, b2_s, c2_s, sqO_nx, sqO_rt, sqO_bk, sqO_ct, ifO_t, ifO_f, stO_s, endO_nx, endO_rt, andO_t, andO_f, orO_t, orO_f, chO_s, chP_t, chP_f, slO_s, atO_i, lcO_s, forO_s, gsO_s, nxO_s, tgO_s, paO_s, apO_s, exO_s, plO_s, ptO_s, dB_b, tru_b, tru_n, tru_i, tru_l, tru_t, is_n, isn_n, nn_n, nn_i, nn_b, nn_t, nn_l, add_ii, add'_ii, sub_ii, neg_i, lt_ii, le_ii, gt_ii, ge_ii, ix_l, ix_t, ix_s, at0, at1, at2, sl_l, sl_t, len_l, len_t, len_s, abs_i, int_i, int_b, max_ii, min_ii, tup_s, lst_s, seq_l, seq_t, sum_s, wipe_n, wipe_c, mul_ii, fdiv_ii, mod_ii, add_ll, add_tt, setAll, mkT, mkL, oNot, List.getD_cons_zero, List.getD_cons_succ, List.length_cons, List.length_nil, List.set_cons_zero, List.set_cons_succ, List.map_cons, List.map_nil, List.replicate, List.cons_append, List.nil_append, List.append_nil, Option.bind_some, Option.map_some, List.all_cons, List.all_nil, if_true, if_false, reduceIte, Nat.reduceAdd, Nat.reduceSub, Nat.reduceLT, Nat.reduceLeDiff, Nat.reduceEqDiff, decide_true, decide_false, Bool.and_true, Bool.and_self, Bool.true_and, Bool.not_true, Bool.not_false, ne_eq, not_true_eq_false, not_false_eq_true, Nat.zero_add, Bool.false_eq_true, and_self, true_and, and_true, hlo, hfl, hz, hbad, List.isEmpty_nil, hget, hso]
  · have hne : ((badL W left).map PyData.int).isEmpty = false := by
      cases h : badL W left with
      | nil => exact absurd h hb
      | cons x l => rfl
    have hkept : ∀ ρ : PEnv, ρ.length = 9 → ρ.getD 5 none = some (.list ((badL W left).map PyData.int)) → lcL (gSet 7) (tOf (xBin oNotIn (xVar 7) (xVar 5))) (xVar 7) ρ (left.map PyData.int) = some ((keptL W left).map PyData.int) := fun ρ hρ h5 => by
      match ρ, hρ with
      | [r0, r1, r2, r3, r4, r5, r6, r7, r8], _ =>
        simp only [List.getD_cons_succ, List.getD_cons_zero] at h5
        subst h5
        refine lcL_filter _ PyData.int (fun p => !(badL W left).contains p) _ fun p hp => ⟨[r0, r1, r2, r3, r4, some (.list ((badL W left).map PyData.int)), r6, some (.int p), r8], rfl, ?_, fun _ => rfl⟩
        have hn := notin_ints p (badL W left)
        generalize (badL W left).map PyData.int = BB at *
        simp -implicitDefEqProofs only [xVar_a, xC_a, xBin_a, xUn_a, tOf_a, tTru_a, tNotP_a, tAndP_a, tOrP_a, tyes_a, tno_a, tYesP_a, xNil_a, xCons_a, xTup_a, xLst_a, xAnd_a, xOr_a, xIf_a, xChain_a, oNo_a, oAt_a, xSl_a, xCall_a, xSeq_a, xIt_a, xLc_a, gSet_a, gTupD_a, gsNil_a, gsCons_a, sNop_a, sBrk_a, sCnt_a, sSeq_a, sRet_a, sIf_a, sSet_a, sTgt_a, sAug_a, sApp_a, sExt_a, sPut_a, sPutK_a, pkO_s, sFor_a, sWhile_a, sPar_a, runD_a, b2_s, c2_s, sqO_nx, sqO_rt, sqO_bk, sqO_ct, ifO_t, ifO_f, stO_s, endO_nx, endO_rt, andO_t, andO_f, orO_t, orO_f, chO_s, chP_t, chP_f, slO_s, atO_i, lcO_s, forO_s, gsO_s, nxO_s, tgO_s, paO_s, apO_s, exO_s, plO_s, ptO_s, dB_b, tru_b, tru_n, tru_i, tru_l, tru_t, is_n, isn_n, nn_n, nn_i, nn_b, nn_t, nn_l, add_ii, add'_ii, sub_ii, neg_i, lt_ii, le_ii, gt_ii, ge_ii, ix_l, ix_t, ix_s, at0, at1, at2, sl_l, sl_t, len_l, len_t, len_s, abs_i, int_i, int_b, max_ii, min_ii, tup_s, lst_s, seq_l, seq_t, sum_s, wipe_n, wipe_c, mul_ii, fdiv_ii, mod_ii, add_ll, add_tt, setAll, mkT, mkL, oNot, List.getD_cons_zero, List.getD_cons_succ, List.length_cons, List.length_nil, List.set_cons_zero, List.set_cons_succ, List.map_cons, List.map_nil, List.replicate, List.cons_append, List.nil_append, List.append_nil, Option.bind_some, Option.map_some, List.all_cons, List.all_nil, if_true, if_false, reduceIte, Nat.reduceAdd, Nat.reduceSub, Nat.reduceLT, Nat.reduceLeDiff, Nat.reduceEqDiff, decide_true, decide_false, Bool.and_true, Bool.and_self, Bool.true_and, Bool.not_true, Bool.not_false, ne_eq, not_true_eq_false, not_false_eq_true, Nat.zero_add, Bool.false_eq_true, and_self, true_and, and_true, hn]
    have hex : (gone.map PyData.int).length + ((badL W left).map PyData.int).length ≤ 16777216 := by
      rw [List.length_map, List.length_map]
      have h1 := hI.gl
      have h2 : (badL W left).length ≤ left.length := List.length_filter_le _ _
      omega
    rw [List.map_append]
    generalize (left.map fun p => PyData.tuple [.int p, rd (ld left W p)]) = ZZ at *
    generalize (left.map fun p => rd (ld left W p)) = LL at *
    generalize P.map PyData.int = MP at *
    generalize W.map enc = MW at *
    generalize left.map PyData.int = ML at *
    generalize gone.map PyData.int = MG at *
    generalize (badL W left).map PyData.int = MB at *
    generalize (keptL W left).map PyData.int = MK at *
    simp -implicitDefEqProofs only [l1_lifted_first, xVar_a, xC_a, xBin_a, xUn_a, tOf_a, tTru_a, tNotP_a, tAndP_a, tOrP_a, tyes_a, tno_a, tYesP_a, xNil_a, xCons_a, xTup_a, xLst_a, xAnd_a, xOr_a, xIf_a, xChain_a, oNo_a, oAt_a, xSl_a, xCall_a, xSeq_a, xIt_a, xLc_a, gSet_a, gTupD_a, gsNil_a, gsCons_a, sNop_a, sBrk_a, sCnt_a, sSeq_a, sRet_a, sIf_a, sSet_a, sTgt_a, sAug_a, sApp_a, sExt_a, sPut_a, sPutK_a, pkO_s, sFor_a, sWhile_a, sPar_a, runD_a, b2_s, c2_s, sqO_nx, sqO_rt, sqO_bk, sqO_ct, ifO_t, ifO_f, stO_s, endO_nx, endO_rt, andO_t, andO_f, orO_t, orO_f, chO_s, chP_t, chP_f, slO_s, atO_i, lcO_s, forO_s, gsO_s, nxO_s, tgO_s, paO_s, apO_s, exO_s, plO_s, ptO_s, dB_b, tru_b, tru_n, tru_i, tru_l, tru_t, is_n, isn_n, nn_n, nn_i, nn_b, nn_t, nn_l, add_ii, add'_ii, sub_ii, neg_i, lt_ii, le_ii, gt_ii, ge_ii, ix_l, ix_t, ix_s, at0, at1, at2, sl_l, sl_t, len_l, len_t, len_s, abs_i, int_i, int_b, max_ii, min_ii, tup_s, lst_s, seq_l, seq_t, sum_s, wipe_n, wipe_c, mul_ii, fdiv_ii, mod_ii, add_ll, add_tt, setAll, mkT, mkL, oNot, List.getD_cons_zero, List.getD_cons_succ, List.length_cons, List.length_nil, List.set_cons_zero, List.set_cons_succ, List.map_cons, List.map_nil, List.replicate, List.cons_append, List.nil_append, List.append_nil, Option.bind_some, Option.map_some, List.all_cons, List.all_nil, if_true, if_false, reduceIte, Nat.reduceAdd, Nat.reduceSub, Nat.reduceLT, Nat.reduceLeDiff, Nat.reduceEqDiff, decide_true, decide_false, Bool.and_true, Bool.and_self, Bool.true_and, Bool.not_true, Bool.not_false, ne_eq, not_true_eq_false, not_false_eq_true, Nat.zero_add, Bool.false_eq_true, and_self, true_and, and_true, hlo, hfl, hz, hbad, hne, hkept, hex]
theorem lift_while (hW : OkS W) (hl : W.length ≤ 10) (hPl : P.length ≤ 10) : ∀ (n : Nat) (left gone : List Int) (a b c d e : Option D) (N : Nat), n < N → left.length ≤ n → LInv P left gone →
    (lift W n left gone = none ∧ ∃ ρ', whileF lifC l1_lifted_first N [some (.tuple (P.map PyData.int)), some (.tuple (W.map enc)), some (.list (left.map PyData.int)), some (.list (gone.map PyData.int)), a, b, c, d, e] = some (.nx ρ')) ∨
    ∃ l' g', lift W n left gone = some (l', g') ∧ whileF lifC l1_lifted_first N [some (.tuple (P.map PyData.int)), some (.tuple (W.map enc)), some (.list (left.map PyData.int)), some (.list (gone.map PyData.int)), a, b, c, d, e] = some (.rt (liftT P W l' g')) := by
  intro n
  induction n with
  | zero =>
    intro left gone a b c d e N hN hn hI
    obtain ⟨N, rfl⟩ : ∃ M, N = M + 1 := ⟨N - 1, by omega⟩
    have hlen : ¬ 1 < ((left.map PyData.int).length : Int) := by rw [List.length_map]; omega
    refine .inl ⟨rfl, [some (.tuple (P.map PyData.int)), some (.tuple (W.map enc)), some (.list (left.map PyData.int)), some (.list (gone.map PyData.int)), a, b, c, d, e], ?_⟩
    have hc : lifC [some (.tuple (P.map PyData.int)), some (.tuple (W.map enc)), some (.list (left.map PyData.int)), some (.list (gone.map PyData.int)), a, b, c, d, e] = some false := by simp -implicitDefEqProofs only [xVar_a, xC_a, xBin_a, xUn_a, tOf_a, tTru_a, tNotP_a, tAndP_a, tOrP_a, tyes_a, tno_a, tYesP_a, xNil_a, xCons_a, xTup_a, xLst_a, xAnd_a, xOr_a, xIf_a, xChain_a, oNo_a, oAt_a, xSl_a, xCall_a, xSeq_a, xIt_a, xLc_a, gSet_a, gTupD_a, gsNil_a, gsCons_a, sNop_a, sBrk_a, sCnt_a, sSeq_a, sRet_a, sIf_a, sSet_a, sTgt_a, sAug_a, sApp_a, sExt_a, sPut_a, sPutK_a, pkO_s, sFor_a, sWhile_a, sPar_a, runD_a, b2_s, c2_s, sqO_nx, sqO_rt, sqO_bk, sqO_ct, ifO_t, ifO_f, stO_s, endO_nx, endO_rt, andO_t, andO_f, orO_t, orO_f, chO_s, chP_t, chP_f, slO_s, atO_i, lcO_s, forO_s, gsO_s, nxO_s, tgO_s, paO_s, apO_s, exO_s, plO_s, ptO_s, dB_b, tru_b, tru_n, tru_i, tru_l, tru_t, is_n, isn_n, nn_n, nn_i, nn_b, nn_t, nn_l, add_ii, add'_ii, sub_ii, neg_i, lt_ii, le_ii, gt_ii, ge_ii, ix_l, ix_t, ix_s, at0, at1, at2, sl_l, sl_t, len_l, len_t, len_s, abs_i, int_i, int_b, max_ii, min_ii, tup_s, lst_s, seq_l, seq_t, sum_s, wipe_n, wipe_c, mul_ii, fdiv_ii, mod_ii, add_ll, add_tt, setAll, mkT, mkL, oNot, List.getD_cons_zero, List.getD_cons_succ, List.length_cons, List.length_nil, List.set_cons_zero, List.set_cons_succ, List.map_cons, List.map_nil, List.replicate, List.cons_append, List.nil_append, List.append_nil, Option.bind_some, Option.map_some, List.all_cons, List.all_nil, if_true, if_false, reduceIte, Nat.reduceAdd, Nat.reduceSub, Nat.reduceLT, Nat.reduceLeDiff, Nat.reduceEqDiff, decide_true, decide_false, Bool.and_true, Bool.and_self, Bool.true_and, Bool.not_true, Bool.not_false, ne_eq, not_true_eq_false, not_false_eq_true, Nat.zero_add, Bool.false_eq_true, and_self, true_and, and_true, hlen]
    rw [whileF_succ, hc]
    rfl
  | succ n ih =>
    intro left gone a b c d e N hN hn hI
    obtain ⟨N, rfl⟩ : ∃ M, N = M + 1 := ⟨N - 1, by omega⟩
    by_cases h2 : left.length < 2
    · have hlen : ¬ 1 < ((left.map PyData.int).length : Int) := by rw [List.length_map]; omega
      refine .inl ⟨by rw [lift, if_pos h2], [some (.tuple (P.map PyData.int)), some (.tuple (W.map enc)), some (.list (left.map PyData.int)), some (.list (gone.map PyData.int)), a, b, c, d, e], ?_⟩
      have hc : lifC [some (.tuple (P.map PyData.int)), some (.tuple (W.map enc)), some (.list (left.map PyData.int)), some (.list (gone.map PyData.int)), a, b, c, d, e] = some false := by simp -implicitDefEqProofs only [xVar_a, xC_a, xBin_a, xUn_a, tOf_a, tTru_a, tNotP_a, tAndP_a, tOrP_a, tyes_a, tno_a, tYesP_a, xNil_a, xCons_a, xTup_a, xLst_a, xAnd_a, xOr_a, xIf_a, xChain_a, oNo_a, oAt_a, xSl_a, xCall_a, xSeq_a, xIt_a, xLc_a, gSet_a, gTupD_a, gsNil_a, gsCons_a, sNop_a, sBrk_a, sCnt_a, sSeq_a, sRet_a, sIf_a, sSet_a, sTgt_a, sAug_a, sApp_a, sExt_a, sPut_a, sPutK_a, pkO_s, sFor_a, sWhile_a, sPar_a, runD_a, b2_s, c2_s, sqO_nx, sqO_rt, sqO_bk, sqO_ct, ifO_t, ifO_f, stO_s, endO_nx, endO_rt, andO_t, andO_f, orO_t, orO_f, chO_s, chP_t, chP_f, slO_s, atO_i, lcO_s, forO_s, gsO_s, nxO_s, tgO_s, paO_s, apO_s, exO_s, plO_s, ptO_s, dB_b, tru_b, tru_n, tru_i, tru_l, tru_t, is_n, isn_n, nn_n, nn_i, nn_b, nn_t, nn_l, add_ii, add'_ii, sub_ii, neg_i, lt_ii, le_ii, gt_ii, ge_ii, ix_l, ix_t, ix_s, at0, at1, at2, sl_l, sl_t, len_l, len_t, len_s, abs_i, int_i, int_b, max_ii, min_ii, tup_s, lst_s, seq_l, seq_t, sum_s, wipe_n, wipe_c, mul_ii, fdiv_ii, mod_ii, add_ll, add_tt, setAll, mkT, mkL, oNot, List.getD_cons_zero, List.getD_cons_succ, List.length_cons, List.length_nil, List.set_cons_zero, List.set_cons_succ, List.map_cons, List.map_nil, List.replicate, List.cons_append, List.nil_append, List.append_nil, Option.bind_some, Option.map_some, List.all_cons, List.all_nil, if_true, if_false, reduceIte, Nat.reduceAdd, Nat.reduceSub, Nat.reduceLT, Nat.reduceLeDiff, Nat.reduceEqDiff, decide_true, decide_false, Bool.and_true, Bool.and_self, Bool.true_and, Bool.not_true, Bool.not_false, ne_eq, not_true_eq_false, not_false_eq_true, Nat.zero_add, Bool.false_eq_true, and_self, true_and, and_true, hlen]
      rw [whileF_succ, hc]
      rfl
    · obtain ⟨hc, t1, t2⟩ := lift_turn hW hl hI hPl (by omega) a b c d e
      rw [lift, if_neg h2, whileF_succ, hc]
      by_cases hb : badL W left = []
      · rw [if_pos hb]
        refine .inr ⟨left, gone, rfl, ?_⟩
        simp only [Option.bind_some, if_true, t1 hb]
      · rw [if_neg hb]
        have hk := kept_lt hb
        have := ih (keptL W left) (gone ++ badL W left) (some (.tuple (left.map fun p => rd (ld left W p)))) (some (.list ((badL W left).map PyData.int))) c d e N (by omega) (by omega) hI.step
        simp only [Option.bind_some, if_true, t2 hb]
        exact this
def liftD (P : List Int) (W : List Sd) (o : Option (List Int × List Int)) : D := match o with
  | none => .none
  | some x => liftT P W x.1 x.2
theorem linv_start (hP : OkI P) (hn : P.Nodup) : LInv P P [] where
  nd := hn
  sub := fun p hp => hp
  ok := hP
  gl := by simp
  part := fun p hp => by simp [hp]
theorem lifted_first_eq (hP : OkI P) (hn : P.Nodup) (hW : OkS W) (hl : W.length ≤ 10) : d_lifted_first [.tuple (P.map PyData.int), .tuple (W.map enc)] = some (liftD P W (lift W P.length P [])) := by
  have hf : P.length < fuelN := Nat.lt_of_le_of_lt hP.2 (Nat.lt_of_lt_of_le (by decide : 10 < 2 ^ 10) (Nat.pow_le_pow_right (by decide) (by decide)))
  have h := lift_while (P := P) hW hl hP.2 P.length P [] none none none none none fuelN hf (Nat.le_refl _) (linv_start hP hn)
  simp only [List.map_nil] at h
  unfold liftD
  rcases h with ⟨h1, ρ', h2⟩ | ⟨l', g', h1, h2⟩
  · rw [h1]
    generalize P.map PyData.int = MP at *
    generalize W.map enc = MW at *
    simp -implicitDefEqProofs only [d_lifted_first, g_lifted_first, xVar_a, xC_a, xBin_a, xUn_a, tOf_a, tTru_a, tNotP_a, tAndP_a, tOrP_a, tyes_a, tno_a, tYesP_a, xNil_a, xCons_a, xTup_a, xLst_a, xAnd_a, xOr_a, xIf_a, xChain_a, oNo_a, oAt_a, xSl_a, xCall_a, xSeq_a, xIt_a, xLc_a, gSet_a, gTupD_a, gsNil_a, gsCons_a, sNop_a, sBrk_a, sCnt_a, sSeq_a, sRet_a, sIf_a, sSet_a, sTgt_a, sAug_a, sApp_a, sExt_a, sPut_a, sPutK_a, pkO_s, sFor_a, sWhile_a, sPar_a, runD_a, b2_s, c2_s, sqO_nx, sqO_rt, sqO_bk, sqO_ct, ifO_t, ifO_f, stO_s, endO_nx, endO_rt, andO_t, andO_f, orO_t, orO_f, chO_s, chP_t, chP_f, slO_s, atO_i, lcO_s, forO_s, gsO_s, nxO_s, tgO_s, paO_s, apO_s, exO_s, plO_s, ptO_s, dB_b, tru_b, tru_n, tru_i, tru_l, tru_t, is_n, isn_n, nn_n, nn_i, nn_b, nn_t, nn_l, add_ii, add'_ii, sub_ii, neg_i, lt_ii, le_ii, gt_ii, ge_ii, ix_l, ix_t, ix_s, at0, at1, at2, sl_l, sl_t, len_l, len_t, len_s, abs_i, int_i, int_b, max_ii, min_ii, tup_s, lst_s, seq_l, seq_t, sum_s, wipe_n, wipe_c, mul_ii, fdiv_ii, mod_ii, add_ll, add_tt, setAll, mkT, mkL, oNot, List.getD_cons_zero, List.getD_cons_succ, List.length_cons, List.length_nil, List.set_cons_zero, List.set_cons_succ, List.map_cons, List.map_nil, List.replicate, List.cons_append, List.nil_append, List.append_nil, Option.bind_some, Option.map_some, List.all_cons, List.all_nil, if_true, if_false, reduceIte, Nat.reduceAdd, Nat.reduceSub, Nat.reduceLT, Nat.reduceLeDiff, Nat.reduceEqDiff, decide_true, decide_false, Bool.and_true, Bool.and_self, Bool.true_and, Bool.not_true, Bool.not_false, ne_eq, not_true_eq_false, not_false_eq_true, Nat.zero_add, Bool.false_eq_true, and_self, true_and, and_true, h2]
  · rw [h1]
    generalize P.map PyData.int = MP at *
    generalize W.map enc = MW at *
    simp -implicitDefEqProofs only [d_lifted_first, g_lifted_first, xVar_a, xC_a, xBin_a, xUn_a, tOf_a, tTru_a, tNotP_a, tAndP_a, tOrP_a, tyes_a, tno_a, tYesP_a, xNil_a, xCons_a, xTup_a, xLst_a, xAnd_a, xOr_a, xIf_a, xChain_a, oNo_a, oAt_a, xSl_a, xCall_a, xSeq_a, xIt_a, xLc_a, gSet_a, gTupD_a, gsNil_a, gsCons_a, sNop_a, sBrk_a, sCnt_a, sSeq_a, sRet_a, sIf_a, sSet_a, sTgt_a, sAug_a, sApp_a, sExt_a, sPut_a, sPutK_a, pkO_s, sFor_a, sWhile_a, sPar_a, runD_a, b2_s, c2_s, sqO_nx, sqO_rt, sqO_bk, sqO_ct, ifO_t, ifO_f, stO_s, endO_nx, endO_rt, andO_t, andO_f, orO_t, orO_f, chO_s, chP_t, chP_f, slO_s, atO_i, lcO_s, forO_s, gsO_s, nxO_s, tgO_s, paO_s, apO_s, exO_s, plO_s, ptO_s, dB_b, tru_b, tru_n, tru_i, tru_l, tru_t, is_n, isn_n, nn_n, nn_i, nn_b, nn_t, nn_l, add_ii, add'_ii, sub_ii, neg_i, lt_ii, le_ii, gt_ii, ge_ii, ix_l, ix_t, ix_s, at0, at1, at2, sl_l, sl_t, len_l, len_t, len_s, abs_i, int_i, int_b, max_ii, min_ii, tup_s, lst_s, seq_l, seq_t, sum_s, wipe_n, wipe_c, mul_ii, fdiv_ii, mod_ii, add_ll, add_tt, setAll, mkT, mkL, oNot, List.getD_cons_zero, List.getD_cons_succ, List.length_cons, List.length_nil, List.set_cons_zero, List.set_cons_succ, List.map_cons, List.map_nil, List.replicate, List.cons_append, List.nil_append, List.append_nil, Option.bind_some, Option.map_some, List.all_cons, List.all_nil, if_true, if_false, reduceIte, Nat.reduceAdd, Nat.reduceSub, Nat.reduceLT, Nat.reduceLeDiff, Nat.reduceEqDiff, decide_true, decide_false, Bool.and_true, Bool.and_self, Bool.true_and, Bool.not_true, Bool.not_false, ne_eq, not_true_eq_false, not_false_eq_true, Nat.zero_add, Bool.false_eq_true, and_self, true_and, and_true, h2]
end
end K24

namespace K24
open PySem PySem.Spec PyProof.Rows L2 Pm
section
variable {P : List Int} {W : List Sd}
theorem law_at_ld (hW : OkS W) (hl : W.length ≤ 10) {left : List Int} (hI : OkI left) (hu : 0 < un left) {p : Int} (hp : Sm 10 p) : d__law_at [.tuple [rd ((lA left W : Rat) / (un left : Rat)), rd ((lB left W : Rat) / (un left : Rat))], .int p] = some (rd (ld left W p)) := by
  rw [law_at_eq (SR.div ((lA_sm hI hW hl).mono (by omega)) ((un_sm hI).mono (by omega)) hu) (SR.div ((lB_sm hI hW hl).mono (by omega)) ((un_sm hI).mono (by omega)) hu) hp, ld_eq hu]
def lnD (left : List Int) (W : List Sd) : D := .tuple [rd ((lA left W : Rat) / (un left : Rat)), rd ((lB left W : Rat) / (un left : Rat))]
theorem flat_ln (left : List Int) (W : List Sd) : flat (lnD left W) = true := rfl
/-- a turn of the law's loop -/
theorem llift_turn (hW : OkS W) (hl : W.length ≤ 10) {left gone : List Int} (hI : LInv P left gone) (hPl : P.length ≤ 10) (a b c d e : Option D) :
    (left.length < 2 → l1__law_lifted [some (.tuple (P.map PyData.int)), some (.tuple (W.map enc)), a, b, some (.list (left.map PyData.int)), some (.list (gone.map PyData.int)), c, d, e] = some (.rt .none)) ∧
    (2 ≤ left.length → badL W left = [] → l1__law_lifted [some (.tuple (P.map PyData.int)), some (.tuple (W.map enc)), a, b, some (.list (left.map PyData.int)), some (.list (gone.map PyData.int)), c, d, e] = some (.bk [some (.tuple (P.map PyData.int)), some (.tuple (W.map enc)), a, b, some (.list (left.map PyData.int)), some (.list (gone.map PyData.int)), some (lnD left W), some (.list []), e])) ∧
    (2 ≤ left.length → badL W left ≠ [] → l1__law_lifted [some (.tuple (P.map PyData.int)), some (.tuple (W.map enc)), a, b, some (.list (left.map PyData.int)), some (.list (gone.map PyData.int)), c, d, e] = some (.nx [some (.tuple (P.map PyData.int)), some (.tuple (W.map enc)), a, b, some (.list ((keptL W left).map PyData.int)), some (.list ((gone ++ badL W left).map PyData.int)), some (lnD left W), some (.list ((badL W left).map PyData.int)), e])) := by
  have main : 2 ≤ left.length → d__law_line [.list (left.map PyData.int), .tuple (W.map enc)] = some (lnD left W) ∧ (∀ ρ : PEnv, ρ.length = 9 → ρ.getD 6 none = some (lnD left W) → lcL (gSet 3) (tOf (xBin oLt (xBin oIx (xCall (fun ds => if ds.length = 2 then ((d__law_at) ds).bind fun d => if flat d then some d else none else none) (xCons (xVar 6) (xCons (xVar 3) xNil))) (xC (.int 0))) (xC (.int 0)))) (xVar 3) ρ (left.map PyData.int) = some ((badL W left).map PyData.int)) := fun h => by
    have hu := un_pos hI.nd h
    refine ⟨law_line_eq true hI.ok hW hl hu, fun ρ hρ h6 => ?_⟩
    match ρ, hρ with
    | [r0, r1, r2, r3, r4, r5, r6, r7, r8], _ =>
      simp only [List.getD_cons_succ, List.getD_cons_zero] at h6
      subst h6
      refine lcL_filter _ PyData.int (fun p => decide (ld left W p < 0)) _ fun p hp => ⟨[r0, r1, r2, some (.int p), r4, r5, some (lnD left W), r7, r8], rfl, ?_, fun _ => rfl⟩
      have ha : d__law_at [lnD left W, .int p] = some (rd (ld left W p)) := law_at_ld hW hl hI.ok hu (hI.ok.1 p hp)
      have hn := num_neg (ld left W p)
      generalize lnD left W = LN at *
      generalize ld left W p = x at *
      simp -implicitDefEqProofs only [xVar_a, xC_a, xBin_a, xUn_a, tOf_a, tTru_a, tNotP_a, tAndP_a, tOrP_a, tyes_a, tno_a, tYesP_a, xNil_a, xCons_a, xTup_a, xLst_a, xAnd_a, xOr_a, xIf_a, xChain_a, oNo_a, oAt_a, xSl_a, xCall_a, xSeq_a, xIt_a, xLc_a, gSet_a, gTupD_a, gsNil_a, gsCons_a, sNop_a, sBrk_a, sCnt_a, sSeq_a, sRet_a, sIf_a, sSet_a, sTgt_a, sAug_a, sApp_a, sExt_a, sPut_a, sPutK_a, pkO_s, sFor_a, sWhile_a, sPar_a, runD_a, b2_s, c2_s, sqO_nx, sqO_rt, sqO_bk, sqO_ct, ifO_t, ifO_f, stO_s, endO_nx, endO_rt, andO_t, andO_f, orO_t, orO_f, chO_s, chP_t, chP_f, slO_s, atO_i, lcO_s, forO_s, gsO_s, nxO_s, tgO_s, paO_s, apO_s, exO_s, plO_s, ptO_s, dB_b, tru_b, tru_n, tru_i, tru_l, tru_t, is_n, isn_n, nn_n, nn_i, nn_b, nn_t, nn_l, add_ii, add'_ii, sub_ii, neg_i, lt_ii, le_ii, gt_ii, ge_ii, ix_l, ix_t, ix_s, at0, at1, at2, sl_l, sl_t, len_l, len_t, len_s, abs_i, int_i, int_b, max_ii, min_ii, tup_s, lst_s, seq_l, seq_t, sum_s, wipe_n, wipe_c, mul_ii, fdiv_ii, mod_ii, add_ll, add_tt, setAll, mkT, mkL, oNot, List.getD_cons_zero, List.getD_cons_succ, List.length_cons, List.length_nil, List.set_cons_zero, List.set_cons_succ, List.map_cons, List.map_nil, List.replicate, List.cons_append, List.nil_append, List.append_nil, Option.bind_some, Option.map_some, List.all_cons, List.all_nil, if_true, if_false, reduceIte, Nat.reduceAdd, Nat.reduceSub, Nat.reduceLT, Nat.reduceLeDiff, Nat.reduceEqDiff, decide_true, decide_false, Bool.and_true, Bool.and_self, Bool.true_and, Bool.not_true, Bool.not_false, ne_eq, not_true_eq_false, not_false_eq_true, Nat.zero_add, Bool.false_eq_true, and_self, true_and, and_true, ha, flat_rd, rd_0, hn]
  refine ⟨fun h => ?_, fun h hb => ?_, fun h hb => ?_⟩
  · have hlen : ((left.map PyData.int).length : Int) < 2 := by rw [List.length_map]; omega
    simp -implicitDefEqProofs only [l1__law_lifted, xVar_a, xC_a, xBin_a, xUn_a, tOf_a, tTru_a, tNotP_a, tAndP_a, tOrP_a, tyes_a, tno_a, tYesP_a, xNil_a, xCons_a, xTup_a, xLst_a, xAnd_a, xOr_a, xIf_a, xChain_a, oNo_a, oAt_a, xSl_a, xCall_a, xSeq_a, xIt_a, xLc_a, gSet_a, gTupD_a, gsNil_a, gsCons_a, sNop_a, sBrk_a, sCnt_a, sSeq_a, sRet_a, sIf_a, sSet_a, sTgt_a, sAug_a, sApp_a, sExt_a, sPut_a, sPutK_a, pkO_s, sFor_a, sWhile_a, sPar_a, runD_a, b2_s, c2_s, sqO_nx, sqO_rt, sqO_bk, sqO_ct, ifO_t, ifO_f, stO_s, endO_nx, endO_rt, andO_t, andO_f, orO_t, orO_f, chO_s, chP_t, chP_f, slO_s, atO_i, lcO_s, forO_s, gsO_s, nxO_s, tgO_s, paO_s, apO_s, exO_s, plO_s, ptO_s, dB_b, tru_b, tru_n, tru_i, tru_l, tru_t, is_n, isn_n, nn_n, nn_i, nn_b, nn_t, nn_l, add_ii, add'_ii, sub_ii, neg_i, lt_ii, le_ii, gt_ii, ge_ii, ix_l, ix_t, ix_s, at0, at1, at2, sl_l, sl_t, len_l, len_t, len_s, abs_i, int_i, int_b, max_ii, min_ii, tup_s, lst_s, seq_l, seq_t, sum_s, wipe_n, wipe_c, mul_ii, fdiv_ii, mod_ii, add_ll, add_tt, setAll, mkT, mkL, oNot, List.getD_cons_zero, List.getD_cons_succ, List.length_cons, List.length_nil, List.set_cons_zero, List.set_cons_succ, List.map_cons, List.map_nil, List.replicate, List.cons_append, List.nil_append, List.append_nil, Option.bind_some, Option.map_some, List.all_cons, List.all_nil, if_true, if_false, reduceIte, Nat.reduceAdd, Nat.reduceSub, Nat.reduceLT, Nat.reduceLeDiff, Nat.reduceEqDiff, decide_true, decide_false, Bool.and_true, Bool.and_self, Bool.true_and, Bool.not_true, Bool.not_false, ne_eq, not_true_eq_false, not_false_eq_true, Nat.zero_add, Bool.false_eq_true, and_self, true_and, and_true, hlen]
  · obtain ⟨m1, m2⟩ := main h
    have hlen : ¬ ((left.map PyData.int).length : Int) < 2 := by rw [List.length_map]; omega
    rw [hb] at m2
    have hfl := flat_ln left W
    have e0 : decide (((0 : Nat) : Int) = 0) = true := rfl
    generalize lnD left W = LN at *
    generalize P.map PyData.int = MP at *
    generalize W.map enc = MW at *
    generalize left.map PyData.int = ML at *
    generalize gone.map PyData.int = MG at *
    simp only [List.map_nil] at m2
    simp -implicitDefEqProofs only [l1__law_lifted, xVar_a, xC_a, xBin_a, xUn_a, tOf_a, tTru_a, tNotP_a, tAndP_a, tOrP_a, tyes_a, tno_a, tYesP_a, xNil_a, xCons_a, xTup_a, xLst_a, xAnd_a, xOr_a, xIf_a, xChain_a, oNo_a, oAt_a, xSl_a, xCall_a, xSeq_a, xIt_a, xLc_a, gSet_a, gTupD_a, gsNil_a, gsCons_a, sNop_a, sBrk_a, sCnt_a, sSeq_a, sRet_a, sIf_a, sSet_a, sTgt_a, sAug_a, sApp_a, sExt_a, sPut_a, sPutK_a, pkO_s, sFor_a, sWhile_a, sPar_a, runD_a, b2_s, c2_s, sqO_nx, sqO_rt, sqO_bk, sqO_ct, ifO_t, ifO_f, stO_s, endO_nx, endO_rt, andO_t, andO_f, orO_t, orO_f, chO_s, chP_t, chP_f, slO_s, atO_i, lcO_s, forO_s, gsO_s, nxO_s, tgO_s, paO_s, apO_s, exO_s, plO_s, ptO_s, dB_b, tru_b, tru_n, tru_i, tru_l, tru_t, is_n, isn_n, nn_n, nn_i, nn_b, nn_t, nn_l, add_ii, add'_ii, sub_ii, neg_i, lt_ii, le_ii, gt_ii, ge_ii, ix_l, ix_t, ix_s, at0, at1, at2, sl_l, sl_t, len_l, len_t, len_s, abs_i, int_i, int_b, max_ii, min_ii, tup_s, lst_s, seq_l, seq_t, sum_s, wipe_n, wipe_c, mul_ii, fdiv_ii, mod_ii, add_ll, add_tt, setAll, mkT, mkL, oNot, List.getD_cons_zero, List.getD_cons_succ, List.length_cons, List.length_nil, List.set_cons_zero, List.set_cons_succ, List.map_cons, List.map_nil, List.replicate, List.cons_append, List.nil_append, List.append_nil, Option.bind_some, Option.map_some, List.all_cons, List.all_nil, if_true, if_false, reduceIte, Nat.reduceAdd, Nat.reduceSub, Nat.reduceLT, Nat.reduceLeDiff, Nat.reduceEqDiff, decide_true, decide_false, Bool.and_true, Bool.and_self, Bool.true_and, Bool.not_true, Bool.not_false, ne_eq, not_true_eq_false, not_false_eq_true, Nat.zero_add, Bool.false_eq_true, and_self, true_and, and_true, hlen, m1, hfl, m2, eq_int, Int.ofNat_zero, e0]
  · obtain ⟨m1, m2⟩ := main h
    have hlen : ¬ ((left.map PyData.int).length : Int) < 2 := by rw [List.length_map]; omega
    have hfl := flat_ln left W
    have hne : decide ((((badL W left).map PyData.int).length : Int) = 0) = false := by
      refine decide_eq_false fun h => hb ?_
      rw [List.length_map] at h
      exact List.length_eq_zero_iff.mp (by omega)
    have hkept : ∀ ρ : PEnv, ρ.length = 9 → ρ.getD 7 none = some (.list ((badL W left).map PyData.int)) → lcL (gSet 3) (tOf (xBin oNotIn (xVar 3) (xVar 7))) (xVar 3) ρ (left.map PyData.int) = some ((keptL W left).map PyData.int) := fun ρ hρ h5 => by
      match ρ, hρ with
      | [r0, r1, r2, r3, r4, r5, r6, r7, r8], _ =>
        simp only [List.getD_cons_succ, List.getD_cons_zero] at h5
        subst h5
        refine lcL_filter _ PyData.int (fun p => !(badL W left).contains p) _ fun p hp => ⟨[r0, r1, r2, some (.int p), r4, r5, r6, some (.list ((badL W left).map PyData.int)), r8], rfl, ?_, fun _ => rfl⟩
        have hn := notin_ints p (badL W left)
        generalize (badL W left).map PyData.int = BB at *
        simp -implicitDefEqProofs only [xVar_a, xC_a, xBin_a, xUn_a, tOf_a, tTru_a, tNotP_a, tAndP_a, tOrP_a, tyes_a, tno_a, tYesP_a, xNil_a, xCons_a, xTup_a, xLst_a, xAnd_a, xOr_a, xIf_a, xChain_a, oNo_a, oAt_a, xSl_a, xCall_a, xSeq_a, xIt_a, xLc_a, gSet_a, gTupD_a, gsNil_a, gsCons_a, sNop_a, sBrk_a, sCnt_a, sSeq_a, sRet_a, sIf_a, sSet_a, sTgt_a, sAug_a, sApp_a, sExt_a, sPut_a, sPutK_a, pkO_s, sFor_a, sWhile_a, sPar_a, runD_a, b2_s, c2_s, sqO_nx, sqO_rt, sqO_bk, sqO_ct, ifO_t, ifO_f, stO_s, endO_nx, endO_rt, andO_t, andO_f, orO_t, orO_f, chO_s, chP_t, chP_f, slO_s, atO_i, lcO_s, forO_s, gsO_s, nxO_s, tgO_s, paO_s, apO_s, exO_s, plO_s, ptO_s, dB_b, tru_b, tru_n, tru_i, tru_l, tru_t, is_n, isn_n, nn_n, nn_i, nn_b, nn_t, nn_l, add_ii, add'_ii, sub_ii, neg_i, lt_ii, le_ii, gt_ii, ge_ii, ix_l, ix_t, ix_s, at0, at1, at2, sl_l, sl_t, len_l, len_t, len_s, abs_i, int_i, int_b, max_ii, min_ii, tup_s, lst_s, seq_l, seq_t, sum_s, wipe_n, wipe_c, mul_ii, fdiv_ii, mod_ii, add_ll, add_tt, setAll, mkT, mkL, oNot, List.getD_cons_zero, List.getD_cons_succ, List.length_cons, List.length_nil, List.set_cons_zero, List.set_cons_succ, List.map_cons, List.map_nil, List.replicate, List.cons_append, List.nil_append, List.append_nil, Option.bind_some, Option.map_some, List.all_cons, List.all_nil, if_true, if_false, reduceIte, Nat.reduceAdd, Nat.reduceSub, Nat.reduceLT, Nat.reduceLeDiff, Nat.reduceEqDiff, decide_true, decide_false, Bool.and_true, Bool.and_self, Bool.true_and, Bool.not_true, Bool.not_false, ne_eq, not_true_eq_false, not_false_eq_true, Nat.zero_add, Bool.false_eq_true, and_self, true_and, and_true, hn]
    have hex : (gone.map PyData.int).length + ((badL W left).map PyData.int).length ≤ 16777216 := by
      rw [List.length_map, List.length_map]
      have h1 := hI.gl
      have h2 : (badL W left).length ≤ left.length := List.length_filter_le _ _
      omega
    rw [List.map_append]
    generalize lnD left W = LN at *
    generalize P.map PyData.int = MP at *
    generalize W.map enc = MW at *
    generalize left.map PyData.int = ML at *
    generalize gone.map PyData.int = MG at *
    generalize (badL W left).map PyData.int = MB at *
    generalize (keptL W left).map PyData.int = MK at *
    simp -implicitDefEqProofs only [l1__law_lifted, xVar_a, xC_a, xBin_a, xUn_a, tOf_a, tTru_a, tNotP_a, tAndP_a, tOrP_a, tyes_a, tno_a, tYesP_a, xNil_a, xCons_a, xTup_a, xLst_a, xAnd_a, xOr_a, xIf_a, xChain_a, oNo_a, oAt_a, xSl_a, xCall_a, xSeq_a, xIt_a, xLc_a, gSet_a, gTupD_a, gsNil_a, gsCons_a, sNop_a, sBrk_a, sCnt_a, sSeq_a, sRet_a, sIf_a, sSet_a, sTgt_a, sAug_a, sApp_a, sExt_a, sPut_a, sPutK_a, pkO_s, sFor_a, sWhile_a, sPar_a, runD_a, b2_s, c2_s, sqO_nx, sqO_rt, sqO_bk, sqO_ct, ifO_t, ifO_f, stO_s, endO_nx, endO_rt, andO_t, andO_f, orO_t, orO_f, chO_s, chP_t, chP_f, slO_s, atO_i, lcO_s, forO_s, gsO_s, nxO_s, tgO_s, paO_s, apO_s, exO_s, plO_s, ptO_s, dB_b, tru_b, tru_n, tru_i, tru_l, tru_t, is_n, isn_n, nn_n, nn_i, nn_b, nn_t, nn_l, add_ii, add'_ii, sub_ii, neg_i, lt_ii, le_ii, gt_ii, ge_ii, ix_l, ix_t, ix_s, at0, at1, at2, sl_l, sl_t, len_l, len_t, len_s, abs_i, int_i, int_b, max_ii, min_ii, tup_s, lst_s, seq_l, seq_t, sum_s, wipe_n, wipe_c, mul_ii, fdiv_ii, mod_ii, add_ll, add_tt, setAll, mkT, mkL, oNot, List.getD_cons_zero, List.getD_cons_succ, List.length_cons, List.length_nil, List.set_cons_zero, List.set_cons_succ, List.map_cons, List.map_nil, List.replicate, List.cons_append, List.nil_append, List.append_nil, Option.bind_some, Option.map_some, List.all_cons, List.all_nil, if_true, if_false, reduceIte, Nat.reduceAdd, Nat.reduceSub, Nat.reduceLT, Nat.reduceLeDiff, Nat.reduceEqDiff, decide_true, decide_false, Bool.and_true, Bool.and_self, Bool.true_and, Bool.not_true, Bool.not_false, ne_eq, not_true_eq_false, not_false_eq_true, Nat.zero_add, Bool.false_eq_true, and_self, true_and, and_true, hlen, m1, hfl, m2, eq_int, hne, hkept, hex]
theorem llift_loop (hW : OkS W) (hl : W.length ≤ 10) (hPl : P.length ≤ 10) : ∀ (ds : List D) (left gone : List Int) (a b c d e : Option D), left.length ≤ ds.length → LInv P left gone →
    (lift W ds.length left gone = none ∧ (forL (gSet 2) l1__law_lifted ds [some (.tuple (P.map PyData.int)), some (.tuple (W.map enc)), a, b, some (.list (left.map PyData.int)), some (.list (gone.map PyData.int)), c, d, e] = some (.rt .none) ∨
      ∃ (l' g' : List Int) (a1 b1 c1 d1 e1 : Option D), l'.length < 2 ∧ forL (gSet 2) l1__law_lifted ds [some (.tuple (P.map PyData.int)), some (.tuple (W.map enc)), a, b, some (.list (left.map PyData.int)), some (.list (gone.map PyData.int)), c, d, e] = some (.nx [some (.tuple (P.map PyData.int)), some (.tuple (W.map enc)), a1, b1, some (.list (l'.map PyData.int)), some (.list (g'.map PyData.int)), c1, d1, e1]))) ∨
    ∃ (l' g' : List Int) (a1 c1 d1 : Option D), lift W ds.length left gone = some (l', g') ∧ 2 ≤ l'.length ∧ LInv P l' g' ∧ forL (gSet 2) l1__law_lifted ds [some (.tuple (P.map PyData.int)), some (.tuple (W.map enc)), a, b, some (.list (left.map PyData.int)), some (.list (gone.map PyData.int)), c, d, e] = some (.nx [some (.tuple (P.map PyData.int)), some (.tuple (W.map enc)), a1, b, some (.list (l'.map PyData.int)), some (.list (g'.map PyData.int)), c1, d1, e]) := by
  intro ds
  induction ds with
  | nil =>
    intro left gone a b c d e hn hI
    have : left.length = 0 := by simpa using hn
    exact .inl ⟨rfl, .inr ⟨left, gone, a, b, c, d, e, by omega, rfl⟩⟩
  | cons x ds ih =>
    intro left gone a b c d e hn hI
    obtain ⟨t1, t2, t3⟩ := llift_turn hW hl hI hPl (some x) b c d e
    have hg : gSet 2 x [some (.tuple (P.map PyData.int)), some (.tuple (W.map enc)), a, b, some (.list (left.map PyData.int)), some (.list (gone.map PyData.int)), c, d, e] = some [some (.tuple (P.map PyData.int)), some (.tuple (W.map enc)), some x, b, some (.list (left.map PyData.int)), some (.list (gone.map PyData.int)), c, d, e] := rfl
    rw [List.length_cons, lift]
    by_cases h2 : left.length < 2
    · rw [if_pos h2]
      refine .inl ⟨rfl, .inl ?_⟩
      simp only [forL, hg, Option.bind_some, t1 h2]
    · rw [if_neg h2]
      by_cases hb : badL W left = []
      · rw [if_pos hb]
        refine .inr ⟨left, gone, some x, some (lnD left W), some (.list []), rfl, by omega, hI, ?_⟩
        simp only [forL, hg, Option.bind_some, t2 (by omega) hb]
      · rw [if_neg hb]
        have hk := kept_lt hb
        rw [List.length_cons] at hn
        have := ih (keptL W left) (gone ++ badL W left) (some x) b (some (lnD left W)) (some (.list ((badL W left).map PyData.int))) e (by omega) hI.step
        simp only [forL, hg, Option.bind_some, t3 (by omega) hb]
        exact this
theorem llift_app (hW : OkS W) (hl : W.length ≤ 10) (hP : OkI P) {left gone : List Int} (hI : LInv P left gone) (h2 : 2 ≤ left.length) (a c : Option D) :
    ∃ b, forL (gSet 3) l2__law_lifted (P.map PyData.int) [some (.tuple (P.map PyData.int)), some (.tuple (W.map enc)), a, none, some (.list (left.map PyData.int)), some (.list (gone.map PyData.int)), some (lnD left W), c, some (.list [])] =
      some (.nx [some (.tuple (P.map PyData.int)), some (.tuple (W.map enc)), a, b, some (.list (left.map PyData.int)), some (.list (gone.map PyData.int)), some (lnD left W), c, some (.list (P.map fun p => rd (if left.contains p then ld left W p else 0)))]) := by
  have hu := un_pos hI.nd h2
  obtain ⟨ρ', e1, h⟩ := forL_inv (g := gSet 3) (b := l2__law_lifted) PyData.int
    (fun pre rest ρ => pre ++ rest = P ∧ ∃ b, ρ = [some (.tuple (P.map PyData.int)), some (.tuple (W.map enc)), a, b, some (.list (left.map PyData.int)), some (.list (gone.map PyData.int)), some (lnD left W), c, some (.list (pre.map fun p => rd (if left.contains p then ld left W p else 0)))]) (fun pre p rest ρ ⟨hp, b, e'⟩ => by
      subst e'
      have hpP : p ∈ P := by rw [← hp]; simp
      have ha : d__law_at [lnD left W, .int p] = some (rd (ld left W p)) := law_at_ld hW hl hI.ok hu (hP.1 p hpP)
      have hin := in_ints p gone
      rw [hI.part p hpP] at hin
      have hl16 : (pre.map fun p => rd (if left.contains p then ld left W p else 0)).length < 16777216 := by
        rw [List.length_map]
        have : pre.length + (rest.length + 1) = P.length := by rw [← hp]; simp
        have := hP.2
        omega
      have e0 : PyData.tuple [.int 0, .int 1] = rd 0 := rfl
      refine ⟨[some (.tuple (P.map PyData.int)), some (.tuple (W.map enc)), a, some (.int p), some (.list (left.map PyData.int)), some (.list (gone.map PyData.int)), some (lnD left W), c, some (.list (pre.map fun p => rd (if left.contains p then ld left W p else 0)))], [some (.tuple (P.map PyData.int)), some (.tuple (W.map enc)), a, some (.int p), some (.list (left.map PyData.int)), some (.list (gone.map PyData.int)), some (lnD left W), c, some (.list ((pre ++ [p]).map fun p => rd (if left.contains p then ld left W p else 0)))], rfl, .inl ?_, by rw [List.append_assoc]; exact hp, _, rfl⟩
      rw [List.map_append, List.map_singleton]
      generalize (pre.map fun p => rd (if left.contains p then ld left W p else 0)) = LD at *
      generalize lnD left W = LN at *
      cases hc : left.contains p with
      | true =>
        rw [hc] at hin
        generalize P.map PyData.int = MP at *
        generalize W.map enc = MW at *
        generalize left.map PyData.int = ML at *
        generalize gone.map PyData.int = MG at *
        simp -implicitDefEqProofs only [l2__law_lifted, xVar_a, xC_a, xBin_a, xUn_a, tOf_a, tTru_a, tNotP_a, tAndP_a, tOrP_a, tyes_a, tno_a, tYesP_a, xNil_a, xCons_a, xTup_a, xLst_a, xAnd_a, xOr_a, xIf_a, xChain_a, oNo_a, oAt_a, xSl_a, xCall_a, xSeq_a, xIt_a, xLc_a, gSet_a, gTupD_a, gsNil_a, gsCons_a, sNop_a, sBrk_a, sCnt_a, sSeq_a, sRet_a, sIf_a, sSet_a, sTgt_a, sAug_a, sApp_a, sExt_a, sPut_a, sPutK_a, pkO_s, sFor_a, sWhile_a, sPar_a, runD_a, b2_s, c2_s, sqO_nx, sqO_rt, sqO_bk, sqO_ct, ifO_t, ifO_f, stO_s, endO_nx, endO_rt, andO_t, andO_f, orO_t, orO_f, chO_s, chP_t, chP_f, slO_s, atO_i, lcO_s, forO_s, gsO_s, nxO_s, tgO_s, paO_s, apO_s, exO_s, plO_s, ptO_s, dB_b, tru_b, tru_n, tru_i, tru_l, tru_t, is_n, isn_n, nn_n, nn_i, nn_b, nn_t, nn_l, add_ii, add'_ii, sub_ii, neg_i, lt_ii, le_ii, gt_ii, ge_ii, ix_l, ix_t, ix_s, at0, at1, at2, sl_l, sl_t, len_l, len_t, len_s, abs_i, int_i, int_b, max_ii, min_ii, tup_s, lst_s, seq_l, seq_t, sum_s, wipe_n, wipe_c, mul_ii, fdiv_ii, mod_ii, add_ll, add_tt, setAll, mkT, mkL, oNot, List.getD_cons_zero, List.getD_cons_succ, List.length_cons, List.length_nil, List.set_cons_zero, List.set_cons_succ, List.map_cons, List.map_nil, List.replicate, List.cons_append, List.nil_append, List.append_nil, Option.bind_some, Option.map_some, List.all_cons, List.all_nil, if_true, if_false, reduceIte, Nat.reduceAdd, Nat.reduceSub, Nat.reduceLT, Nat.reduceLeDiff, Nat.reduceEqDiff, decide_true, decide_false, Bool.and_true, Bool.and_self, Bool.true_and, Bool.not_true, Bool.not_false, ne_eq, not_true_eq_false, not_false_eq_true, Nat.zero_add, Bool.false_eq_true, and_self, true_and, and_true, ha, flat_rd, e0, hin, hl16]
      | false =>
        rw [hc] at hin
        generalize P.map PyData.int = MP at *
        generalize W.map enc = MW at *
        generalize left.map PyData.int = ML at *
        generalize gone.map PyData.int = MG at *
        simp -implicitDefEqProofs only [l2__law_lifted, xVar_a, xC_a, xBin_a, xUn_a, tOf_a, tTru_a, tNotP_a, tAndP_a, tOrP_a, tyes_a, tno_a, tYesP_a, xNil_a, xCons_a, xTup_a, xLst_a, xAnd_a, xOr_a, xIf_a, xChain_a, oNo_a, oAt_a, xSl_a, xCall_a, xSeq_a, xIt_a, xLc_a, gSet_a, gTupD_a, gsNil_a, gsCons_a, sNop_a, sBrk_a, sCnt_a, sSeq_a, sRet_a, sIf_a, sSet_a, sTgt_a, sAug_a, sApp_a, sExt_a, sPut_a, sPutK_a, pkO_s, sFor_a, sWhile_a, sPar_a, runD_a, b2_s, c2_s, sqO_nx, sqO_rt, sqO_bk, sqO_ct, ifO_t, ifO_f, stO_s, endO_nx, endO_rt, andO_t, andO_f, orO_t, orO_f, chO_s, chP_t, chP_f, slO_s, atO_i, lcO_s, forO_s, gsO_s, nxO_s, tgO_s, paO_s, apO_s, exO_s, plO_s, ptO_s, dB_b, tru_b, tru_n, tru_i, tru_l, tru_t, is_n, isn_n, nn_n, nn_i, nn_b, nn_t, nn_l, add_ii, add'_ii, sub_ii, neg_i, lt_ii, le_ii, gt_ii, ge_ii, ix_l, ix_t, ix_s, at0, at1, at2, sl_l, sl_t, len_l, len_t, len_s, abs_i, int_i, int_b, max_ii, min_ii, tup_s, lst_s, seq_l, seq_t, sum_s, wipe_n, wipe_c, mul_ii, fdiv_ii, mod_ii, add_ll, add_tt, setAll, mkT, mkL, oNot, List.getD_cons_zero, List.getD_cons_succ, List.length_cons, List.length_nil, List.set_cons_zero, List.set_cons_succ, List.map_cons, List.map_nil, List.replicate, List.cons_append, List.nil_append, List.append_nil, Option.bind_some, Option.map_some, List.all_cons, List.all_nil, if_true, if_false, reduceIte, Nat.reduceAdd, Nat.reduceSub, Nat.reduceLT, Nat.reduceLeDiff, Nat.reduceEqDiff, decide_true, decide_false, Bool.and_true, Bool.and_self, Bool.true_and, Bool.not_true, Bool.not_false, ne_eq, not_true_eq_false, not_false_eq_true, Nat.zero_add, Bool.false_eq_true, and_self, true_and, and_true, ha, flat_rd, e0, hin, hl16]) P [] [some (.tuple (P.map PyData.int)), some (.tuple (W.map enc)), a, none, some (.list (left.map PyData.int)), some (.list (gone.map PyData.int)), some (lnD left W), c, some (.list [])] ⟨rfl, none, rfl⟩
  obtain ⟨_, b, e'⟩ := h
  subst e'
  exact ⟨b, e1⟩
theorem law_lifted_eq (hP : OkI P) (hn : P.Nodup) (hW : OkS W) (hl : W.length ≤ 10) : d__law_lifted [.tuple (P.map PyData.int), .tuple (W.map enc)] = some (liftD P W (lift W P.length P [])) := by
  have hR : oR1 [.int (P.map PyData.int).length] = some ((List.range P.length).map fun i => PyData.int (i : Nat)) := by
    have := oR1_nat (P.map PyData.int).length (by rw [List.length_map]; have := hP.2; omega)
    rwa [List.length_map] at this ⊢
  have h := llift_loop hW hl hP.2 ((List.range P.length).map fun i => PyData.int (i : Nat)) P [] none none none none none (by simp) (linv_start hP hn)
  rw [List.length_map, List.length_range] at h
  simp only [List.map_nil] at h
  unfold liftD
  generalize (List.range P.length).map (fun i => PyData.int (i : Nat)) = RR at *
  rcases h with ⟨h1, h2 | ⟨l', g', a1, b1, c1, d1, e1, h2, h3⟩⟩ | ⟨l', g', a1, c1, d1, h1, h2, h4, h3⟩
  · rw [h1]
    generalize P.map PyData.int = MP at *
    generalize W.map enc = MW at *
    simp -implicitDefEqProofs only [d__law_lifted, g__law_lifted, xVar_a, xC_a, xBin_a, xUn_a, tOf_a, tTru_a, tNotP_a, tAndP_a, tOrP_a, tyes_a, tno_a, tYesP_a, xNil_a, xCons_a, xTup_a, xLst_a, xAnd_a, xOr_a, xIf_a, xChain_a, oNo_a, oAt_a, xSl_a, xCall_a, xSeq_a, xIt_a, xLc_a, gSet_a, gTupD_a, gsNil_a, gsCons_a, sNop_a, sBrk_a, sCnt_a, sSeq_a, sRet_a, sIf_a, sSet_a, sTgt_a, sAug_a, sApp_a, sExt_a, sPut_a, sPutK_a, pkO_s, sFor_a, sWhile_a, sPar_a, runD_a, b2_s, c2_s, sqO_nx, sqO_rt, sqO_bk, sqO_ct, ifO_t, ifO_f, stO_s, endO_nx, endO_rt, andO_t, andO_f, orO_t, orO_f, chO_s, chP_t, chP_f, slO_s, atO_i, lcO_s, forO_s, gsO_s, nxO_s, tgO_s, paO_s, apO_s, exO_s, plO_s, ptO_s, dB_b, tru_b, tru_n, tru_i, tru_l, tru_t, is_n, isn_n, nn_n, nn_i, nn_b, nn_t, nn_l, add_ii, add'_ii, sub_ii, neg_i, lt_ii, le_ii, gt_ii, ge_ii, ix_l, ix_t, ix_s, at0, at1, at2, sl_l, sl_t, len_l, len_t, len_s, abs_i, int_i, int_b, max_ii, min_ii, tup_s, lst_s, seq_l, seq_t, sum_s, wipe_n, wipe_c, mul_ii, fdiv_ii, mod_ii, add_ll, add_tt, setAll, mkT, mkL, oNot, List.getD_cons_zero, List.getD_cons_succ, List.length_cons, List.length_nil, List.set_cons_zero, List.set_cons_succ, List.map_cons, List.map_nil, List.replicate, List.cons_append, List.nil_append, List.append_nil, Option.bind_some, Option.map_some, List.all_cons, List.all_nil, if_true, if_false, reduceIte, Nat.reduceAdd, Nat.reduceSub, Nat.reduceLT, Nat.reduceLeDiff, Nat.reduceEqDiff, decide_true, decide_false, Bool.and_true, Bool.and_self, Bool.true_and, Bool.not_true, Bool.not_false, ne_eq, not_true_eq_false, not_false_eq_true, Nat.zero_add, Bool.false_eq_true, and_self, true_and, and_true, hR, h2]
  · rw [h1]
    have hlen : ((l'.map PyData.int).length : Int) < 2 := by rw [List.length_map]; omega
    generalize P.map PyData.int = MP at *
    generalize W.map enc = MW at *
    generalize l'.map PyData.int = ML at *
    generalize g'.map PyData.int = MG at *
    simp -implicitDefEqProofs only [d__law_lifted, g__law_lifted, xVar_a, xC_a, xBin_a, xUn_a, tOf_a, tTru_a, tNotP_a, tAndP_a, tOrP_a, tyes_a, tno_a, tYesP_a, xNil_a, xCons_a, xTup_a, xLst_a, xAnd_a, xOr_a, xIf_a, xChain_a, oNo_a, oAt_a, xSl_a, xCall_a, xSeq_a, xIt_a, xLc_a, gSet_a, gTupD_a, gsNil_a, gsCons_a, sNop_a, sBrk_a, sCnt_a, sSeq_a, sRet_a, sIf_a, sSet_a, sTgt_a, sAug_a, sApp_a, sExt_a, sPut_a, sPutK_a, pkO_s, sFor_a, sWhile_a, sPar_a, runD_a, b2_s, c2_s, sqO_nx, sqO_rt, sqO_bk, sqO_ct, ifO_t, ifO_f, stO_s, endO_nx, endO_rt, andO_t, andO_f, orO_t, orO_f, chO_s, chP_t, chP_f, slO_s, atO_i, lcO_s, forO_s, gsO_s, nxO_s, tgO_s, paO_s, apO_s, exO_s, plO_s, ptO_s, dB_b, tru_b, tru_n, tru_i, tru_l, tru_t, is_n, isn_n, nn_n, nn_i, nn_b, nn_t, nn_l, add_ii, add'_ii, sub_ii, neg_i, lt_ii, le_ii, gt_ii, ge_ii, ix_l, ix_t, ix_s, at0, at1, at2, sl_l, sl_t, len_l, len_t, len_s, abs_i, int_i, int_b, max_ii, min_ii, tup_s, lst_s, seq_l, seq_t, sum_s, wipe_n, wipe_c, mul_ii, fdiv_ii, mod_ii, add_ll, add_tt, setAll, mkT, mkL, oNot, List.getD_cons_zero, List.getD_cons_succ, List.length_cons, List.length_nil, List.set_cons_zero, List.set_cons_succ, List.map_cons, List.map_nil, List.replicate, List.cons_append, List.nil_append, List.append_nil, Option.bind_some, Option.map_some, List.all_cons, List.all_nil, if_true, if_false, reduceIte, Nat.reduceAdd, Nat.reduceSub, Nat.reduceLT, Nat.reduceLeDiff, Nat.reduceEqDiff, decide_true, decide_false, Bool.and_true, Bool.and_self, Bool.true_and, Bool.not_true, Bool.not_false, ne_eq, not_true_eq_false, not_false_eq_true, Nat.zero_add, Bool.false_eq_true, and_self, true_and, and_true, hR, h3, hlen]
  · rw [h1]
    have hlen : ¬ ((l'.map PyData.int).length : Int) < 2 := by rw [List.length_map]; omega
    have hu := un_pos h4.nd h2
    have m1 : d__law_line [.list (l'.map PyData.int), .tuple (W.map enc)] = some (lnD l' W) := law_line_eq true h4.ok hW hl hu
    have hfl := flat_ln l' W
    obtain ⟨b2, ap⟩ := llift_app hW hl hP h4 h2 a1 d1
    have hso : bSorted [.list (g'.map PyData.int)] = some (.list ((g'.mergeSort fun x y => decide (x ≤ y)).map PyData.int)) := sorted_i true (P := g') (by have := h4.gl; have := hP.2; omega)
    unfold liftT
    simp only
    generalize (g'.mergeSort fun x y => decide (x ≤ y)).map PyData.int = GS at *
    generalize (P.map fun p => rd (if l'.contains p then ld l' W p else 0)) = LD at *
    generalize lnD l' W = LN at *
    generalize P.map PyData.int = MP at *
    generalize W.map enc = MW at *
    generalize l'.map PyData.int = ML at *
    generalize g'.map PyData.int = MG at *
    simp -implicitDefEqProofs only [d__law_lifted, g__law_lifted, xVar_a, xC_a, xBin_a, xUn_a, tOf_a, tTru_a, tNotP_a, tAndP_a, tOrP_a, tyes_a, tno_a, tYesP_a, xNil_a, xCons_a, xTup_a, xLst_a, xAnd_a, xOr_a, xIf_a, xChain_a, oNo_a, oAt_a, xSl_a, xCall_a, xSeq_a, xIt_a, xLc_a, gSet_a, gTupD_a, gsNil_a, gsCons_a, sNop_a, sBrk_a, sCnt_a, sSeq_a, sRet_a, sIf_a, sSet_a, sTgt_a, sAug_a, sApp_a, sExt_a, sPut_a, sPutK_a, pkO_s, sFor_a, sWhile_a, sPar_a, runD_a, b2_s, c2_s, sqO_nx, sqO_rt, sqO_bk, sqO_ct, ifO_t, ifO_f, stO_s, endO_nx, endO_rt, andO_t, andO_f, orO_t, orO_f, chO_s, chP_t, chP_f, slO_s, atO_i, lcO_s, forO_s, gsO_s, nxO_s, tgO_s, paO_s, apO_s, exO_s, plO_s, ptO_s, dB_b, tru_b, tru_n, tru_i, tru_l, tru_t, is_n, isn_n, nn_n, nn_i, nn_b, nn_t, nn_l, add_ii, add'_ii, sub_ii, neg_i, lt_ii, le_ii, gt_ii, ge_ii, ix_l, ix_t, ix_s, at0, at1, at2, sl_l, sl_t, len_l, len_t, len_s, abs_i, int_i, int_b, max_ii, min_ii, tup_s, lst_s, seq_l, seq_t, sum_s, wipe_n, wipe_c, mul_ii, fdiv_ii, mod_ii, add_ll, add_tt, setAll, mkT, mkL, oNot, List.getD_cons_zero, List.getD_cons_succ, List.length_cons, List.length_nil, List.set_cons_zero, List.set_cons_succ, List.map_cons, List.map_nil, List.replicate, List.cons_append, List.nil_append, List.append_nil, Option.bind_some, Option.map_some, List.all_cons, List.all_nil, if_true, if_false, reduceIte, Nat.reduceAdd, Nat.reduceSub, Nat.reduceLT, Nat.reduceLeDiff, Nat.reduceEqDiff, decide_true, decide_false, Bool.and_true, Bool.and_self, Bool.true_and, Bool.not_true, Bool.not_false, ne_eq, not_true_eq_false, not_false_eq_true, Nat.zero_add, Bool.false_eq_true, and_self, true_and, and_true, hR, h3, hlen, m1, hfl, ap, hso]
theorem like_tupI (n : Nat) (P : List Int) (hl : P.length ≤ 1000) : d__law_like (n + 2) [.tuple (P.map PyData.int), .tuple (P.map PyData.int)] = some (.bool true) := by
  refine like_tup (n + 1) _ (by rw [List.length_map]; omega) fun x hx => ?_
  obtain ⟨p, hp, rfl⟩ := List.mem_map.mp hx
  exact like_int n p
theorem like_rds (n : Nat) {α : Type} (f : α → Rat) (P : List α) (hl : P.length ≤ 1000) : d__law_like (n + 3) [.tuple (P.map fun p => rd (f p)), .tuple (P.map fun p => rd (f p))] = some (.bool true) := by
  refine like_tup (n + 2) _ (by rw [List.length_map]; omega) fun x hx => ?_
  obtain ⟨p, hp, rfl⟩ := List.mem_map.mp hx
  exact like_rd n (f p)
theorem like_lift (hP : P.length ≤ 10) (o : Option (List Int × List Int)) (ho : ∀ x, o = some x → x.2.length ≤ 1000) : d__law_like 8 [liftD P W o, liftD P W o] = some (.bool true) := by
  cases o with
  | none => exact like_none 7
  | some x =>
    have hx := ho x rfl
    refine like_tup 7 _ (by simp) fun y hy => ?_
    simp only [List.mem_cons, List.not_mem_nil, or_false] at hy
    rcases hy with rfl | rfl
    · exact like_rds 4 _ P (by omega)
    · exact like_tupI 5 _ (by rw [List.length_mergeSort]; exact hx)
theorem lift_len : ∀ (n : Nat) (left gone : List Int), LInv P left gone → ∀ x, lift W n left gone = some x → x.2.length ≤ P.length
  | 0, _, _, _, _, h => by cases h
  | n + 1, left, gone, hI, x, h => by
    rw [lift] at h
    split at h
    · cases h
    · split at h
      · cases h
        have := hI.gl
        simp only
        omega
      · exact lift_len n _ _ hI.step x h
end
end K24

namespace K24
open PySem PySem.Spec PyProof.Rows L2 Pm
/-! two blocks -/
theorem two_loads_eq {a b : Int} {W : List Sd} (hab : a < b) (sa : Sm 10 a) (sb : Sm 10 b) (hW : OkS W) (hl : W.length ≤ 10) : d_two_loads [.int a, .int b, .tuple (W.map enc)] = some (.tuple [rd ((wT W : Rat) - ((wU W - a * wT W : Int) : Rat) / ((b - a : Int) : Rat)), rd (((wU W - a * wT W : Int) : Rat) / ((b - a : Int) : Rat))]) := by
  have f3 : d_weight_sum [.tuple (W.map enc)] = some (.int (wT W)) := weight_sum_eq false hW
  have f4 : d_turn_sum [.tuple (W.map enc)] = some (.int (wU W)) := turn_sum_eq false hW
  have k1 : mulOk a (wT W) = true := sa.mulOk (wT_sm hW hl) (by omega) (by omega)
  have sw : Sm 11 (b - a) := (sb.sub sa).mono (by omega)
  have st : Sm 31 (wU W - a * wT W) := ((wU_sm hW hl).sub ((sa.mul (wT_sm hW hl)).mono (k := 30) (by omega))).mono (by omega)
  have w := lowest_rd (wU W - a * wT W) (b - a) (by omega) (sw.mono (by omega))
  have sx : SR 31 (((wU W - a * wT W : Int) : Rat) / ((b - a : Int) : Rat)) := SR.div st (sw.mono (by omega)) (by omega)
  have m := minus_rd (SR.int (k := 900) ((wT_sm hW hl).mono (by omega))) (sx.mono (by omega))
  have ww : d_whole [.int (wT W)] = some (rd (wT W : Rat)) := rfl
  generalize ((wU W - a * wT W : Int) : Rat) / ((b - a : Int) : Rat) = x at *
  generalize W.map enc = MW at *
  simp -implicitDefEqProofs only [d_two_loads, g_two_loads, xVar_a, xC_a, xBin_a, xUn_a, tOf_a, tTru_a, tNotP_a, tAndP_a, tOrP_a, tyes_a, tno_a, tYesP_a, xNil_a, xCons_a, xTup_a, xLst_a, xAnd_a, xOr_a, xIf_a, xChain_a, oNo_a, oAt_a, xSl_a, xCall_a, xSeq_a, xIt_a, xLc_a, gSet_a, gTupD_a, gsNil_a, gsCons_a, sNop_a, sBrk_a, sCnt_a, sSeq_a, sRet_a, sIf_a, sSet_a, sTgt_a, sAug_a, sApp_a, sExt_a, sPut_a, sPutK_a, pkO_s, sFor_a, sWhile_a, sPar_a, runD_a, b2_s, c2_s, sqO_nx, sqO_rt, sqO_bk, sqO_ct, ifO_t, ifO_f, stO_s, endO_nx, endO_rt, andO_t, andO_f, orO_t, orO_f, chO_s, chP_t, chP_f, slO_s, atO_i, lcO_s, forO_s, gsO_s, nxO_s, tgO_s, paO_s, apO_s, exO_s, plO_s, ptO_s, dB_b, tru_b, tru_n, tru_i, tru_l, tru_t, is_n, isn_n, nn_n, nn_i, nn_b, nn_t, nn_l, add_ii, add'_ii, sub_ii, neg_i, lt_ii, le_ii, gt_ii, ge_ii, ix_l, ix_t, ix_s, at0, at1, at2, sl_l, sl_t, len_l, len_t, len_s, abs_i, int_i, int_b, max_ii, min_ii, tup_s, lst_s, seq_l, seq_t, sum_s, wipe_n, wipe_c, mul_ii, fdiv_ii, mod_ii, add_ll, add_tt, setAll, mkT, mkL, oNot, List.getD_cons_zero, List.getD_cons_succ, List.length_cons, List.length_nil, List.set_cons_zero, List.set_cons_succ, List.map_cons, List.map_nil, List.replicate, List.cons_append, List.nil_append, List.append_nil, Option.bind_some, Option.map_some, List.all_cons, List.all_nil, if_true, if_false, reduceIte, Nat.reduceAdd, Nat.reduceSub, Nat.reduceLT, Nat.reduceLeDiff, Nat.reduceEqDiff, decide_true, decide_false, Bool.and_true, Bool.and_self, Bool.true_and, Bool.not_true, Bool.not_false, ne_eq, not_true_eq_false, not_false_eq_true, Nat.zero_add, Bool.false_eq_true, and_self, true_and, and_true, f3, f4, k1, w, ww, m]
theorem ld_two {P : List Int} {W : List Sd} {p q : Int} (hP : P = [p, q]) (hne : p ≠ q) : ∀ a b : Int, (a = p ∧ b = q ∨ a = q ∧ b = p) → a < b → ld P W b = ((wU W - a * wT W : Int) : Rat) / ((b - a : Int) : Rat) ∧ ld P W a = (wT W : Rat) - ((wU W - a * wT W : Int) : Rat) / ((b - a : Int) : Rat) := by
  intro a b hab hlt
  have hn : P.Nodup := by rw [hP]; simp [hne]
  have hu := un_pos hn (by rw [hP]; simp)
  obtain ⟨s1, s2⟩ := sum_ld (W := W) hu
  rw [hP] at s1 s2
  have e1 : ld [p, q] W p + ld [p, q] W q = (wT W : Rat) := by
    rw [← s1]
    show _ = ld [p, q] W p + (ld [p, q] W q + 0)
    rw [Rat.add_zero]
  have e2 : ld [p, q] W p * (p : Rat) + ld [p, q] W q * (q : Rat) = (wU W : Rat) := by
    rw [← s2]
    show _ = ld [p, q] W p * (p : Rat) + (ld [p, q] W q * (q : Rat) + 0)
    rw [Rat.add_zero]
  rw [hP]
  have hw : (0 : Rat) < ((b - a : Int) : Rat) := cast_pos (by omega)
  have key : ld [p, q] W b = ((wU W - a * wT W : Int) : Rat) / ((b - a : Int) : Rat) := by
    have h : ld [p, q] W b * ((b - a : Int) : Rat) = ((wU W - a * wT W : Int) : Rat) := by
      push_cast
      rcases hab with ⟨rfl, rfl⟩ | ⟨rfl, rfl⟩ <;> grind
    rw [← h, Rat.mul_div_cancel (by grind)]
  refine ⟨key, ?_⟩
  rw [← key]
  rcases hab with ⟨rfl, rfl⟩ | ⟨rfl, rfl⟩ <;> grind
theorem sort_two {p q : Int} : [p, q].mergeSort (fun x y => decide (x ≤ y)) = if p ≤ q then [p, q] else [q, p] := by
  by_cases h : p ≤ q
  · rw [if_pos h]
    exact List.mergeSort_of_pairwise (by simp [h])
  · rw [if_neg h]
    have hp := List.mergeSort_perm [p, q] (fun x y : Int => decide (x ≤ y))
    have hs := List.pairwise_mergeSort (le := fun x y : Int => decide (x ≤ y)) (fun a b c h1 h2 => by simp at *; omega) (fun a b => by simp; omega) [p, q]
    generalize [p, q].mergeSort (fun x y => decide (x ≤ y)) = l at hp hs
    have hlen := hp.length_eq
    match l, hlen with
    | [x, y], _ =>
      have h1 : x ≤ y := by
        have := (List.pairwise_cons.mp hs).1 y (by simp)
        simpa using this
      have hx : x = p ∨ x = q := by have := hp.mem_iff (a := x); simpa using this
      have hy : y = p ∨ y = q := by have := hp.mem_iff (a := y); simpa using this
      have hq : q = x ∨ q = y := by have := hp.mem_iff (a := q); simpa using this
      have hpp : p = x ∨ p = y := by have := hp.mem_iff (a := p); simpa using this
      have : x = q ∧ y = p := by omega
      rw [this.1, this.2]
theorem min_two (p q : Int) : bMinI [.tuple [.int p, .int q]] = some (.int (if p ≤ q then p else q)) := by
  show some (PyData.int (min p q)) = _
  have e : min p q = if p ≤ q then p else q := by
    by_cases h : p ≤ q
    · rw [if_pos h, Int.min_eq_left h]
    · rw [if_neg h, Int.min_eq_right (by omega)]
  rw [e]
theorem max_two (p q : Int) : bMaxI [.tuple [.int p, .int q]] = some (.int (if p ≤ q then q else p)) := by
  show some (PyData.int (max p q)) = _
  have e : max p q = if p ≤ q then q else p := by
    by_cases h : p ≤ q
    · rw [if_pos h, Int.max_eq_right h]
    · rw [if_neg h, Int.max_eq_left (by omega)]
  rw [e]
/-! loads changed -/
theorem zip_fst_map {α β γ : Type} (f : α → γ) : ∀ (A : List α) (B : List β), A.length = B.length → (A.zip B).map (fun q => f q.1) = A.map f
  | [], _, _ => rfl
  | a :: A, [], h => by simp at h
  | a :: A, b :: B, h => by
    simp only [List.zip_cons_cons, List.map_cons]
    rw [zip_fst_map f A B (by simpa using h)]
theorem zip_snd_map {α β γ : Type} (f : β → γ) : ∀ (A : List α) (B : List β), A.length = B.length → (A.zip B).map (fun q => f q.2) = B.map f
  | [], [], _ => rfl
  | [], b :: B, h => by simp at h
  | a :: A, [], h => by simp at h
  | a :: A, b :: B, h => by
    simp only [List.zip_cons_cons, List.map_cons]
    rw [zip_snd_map f A B (by simpa using h)]
theorem zip_of_zip {α β γ : Type} (f : α × β → γ) : ∀ (A : List α) (B : List β), A.zip ((A.zip B).map f) = (A.zip B).map fun q => (q.1, f q)
  | [], _ => rfl
  | a :: A, [] => rfl
  | a :: A, b :: B => by
    simp only [List.zip_cons_cons, List.map_cons]
    rw [zip_of_zip f A B]
def rowOf (a b c : Int) (m : Nat) : List Int := [b - c, c - a, a - b] ++ List.replicate m 0
theorem rs_zero (f : Int × Int → Rat) (hf : ∀ p, f (p, 0) = 0) : ∀ (rest : List Int) , rs ((rest.zip (List.replicate rest.length 0)).map f) = 0
  | [] => rfl
  | p :: rest => by
    simp only [List.length_cons, List.replicate_succ, List.zip_cons_cons, List.map_cons, rs, hf, rs_zero f hf rest]
    exact Rat.add_zero 0
theorem row_sums (a b c : Int) (rest : List Int) : rs (((a :: b :: c :: rest).zip (rowOf a b c rest.length)).map fun q => (q.2 : Rat)) = 0 ∧ rs (((a :: b :: c :: rest).zip (rowOf a b c rest.length)).map fun q => (q.1 : Rat) * (q.2 : Rat)) = 0 := by
  have z1 := rs_zero (fun q => (q.2 : Rat)) (fun p => rfl) rest
  have z2 := rs_zero (fun q => (q.1 : Rat) * (q.2 : Rat)) (fun p => by show (p : Rat) * ((0 : Int) : Rat) = 0; rw [show ((0 : Int) : Rat) = 0 from rfl, Rat.mul_zero]) rest
  unfold rowOf
  simp only [List.cons_append, List.nil_append, List.zip_cons_cons, List.map_cons, rs, z1, z2]
  constructor
  · push_cast
    grind
  · push_cast
    grind
theorem changed_sums {P : List Int} {W : List Sd} {a b c : Int} {rest : List Int} (hP : P = a :: b :: c :: rest) (hu : 0 < un P) :
    rs ((P.zip (rowOf a b c rest.length)).map fun q => ld P W q.1 + (q.2 : Rat)) = (wT W : Rat) ∧
    rs ((P.zip ((P.zip (rowOf a b c rest.length)).map fun q => ld P W q.1 + (q.2 : Rat))).map fun q => q.2 * (q.1 : Rat)) = (wU W : Rat) ∧
    rs (((P.zip (rowOf a b c rest.length)).map fun q => ld P W q.1 + (q.2 : Rat)).map fun x => x * x) = rs ((P.map (ld P W)).map fun x => x * x) + ((((rowOf a b c rest.length).map fun x => x * x).sum : Int) : Rat) := by
  obtain ⟨s1, s2⟩ := sum_ld (W := W) hu
  have hlen : P.length = (rowOf a b c rest.length).length := by rw [hP]; unfold rowOf; simp
  obtain ⟨r1, r2⟩ := row_sums a b c rest
  rw [← hP] at r1 r2
  generalize rowOf a b c rest.length = R at *
  refine ⟨?_, ?_, ?_⟩
  · rw [rs_map_add, zip_fst_map (ld P W) P R hlen, s1, r1, Rat.add_zero]
  · rw [zip_of_zip, List.map_map]
    have e : (P.zip R).map ((fun q : Int × Rat => q.2 * (q.1 : Rat)) ∘ fun q : Int × Int => (q.1, ld P W q.1 + (q.2 : Rat))) = (P.zip R).map fun q => (fun q : Int × Int => ld P W q.1 * (q.1 : Rat)) q + (fun q : Int × Int => (q.1 : Rat) * (q.2 : Rat)) q := List.map_congr_left fun q _ => by
      simp only [Function.comp]
      grind
    rw [e, rs_map_add, zip_fst_map (fun p => ld P W p * (p : Rat)) P R hlen, s2, r2, Rat.add_zero]
  · rw [List.map_map, List.map_map]
    have hld : ∀ p, ld P W p = (lB P W : Rat) / (un P : Rat) + (lA P W : Rat) / (un P : Rat) * (p : Rat) := fun p => (ld_eq hu p).symm
    have e : (P.zip R).map ((fun x : Rat => x * x) ∘ fun q : Int × Int => ld P W q.1 + (q.2 : Rat)) = (P.zip R).map fun q => (fun q : Int × Int => ld P W q.1 * ld P W q.1) q + ((fun q : Int × Int => 2 * ((lB P W : Rat) / (un P : Rat)) * (q.2 : Rat)) q + ((fun q : Int × Int => 2 * ((lA P W : Rat) / (un P : Rat)) * ((q.1 : Rat) * (q.2 : Rat))) q + (fun q : Int × Int => (q.2 : Rat) * (q.2 : Rat)) q)) := List.map_congr_left fun q _ => by
      simp only [Function.comp, hld]
      generalize (lB P W : Rat) / (un P : Rat) = β
      generalize (lA P W : Rat) / (un P : Rat) = α
      grind
    rw [e, rs_map_add (fun q : Int × Int => ld P W q.1 * ld P W q.1), rs_map_add, rs_map_add, rs_map_mul, rs_map_mul, r1, r2, Rat.mul_zero, Rat.mul_zero, Rat.zero_add, Rat.zero_add, zip_fst_map (fun p => ld P W p * ld P W p) P R hlen, zip_snd_map (fun x : Int => (x : Rat) * (x : Rat)) P R hlen, rs_sq]
    rfl
theorem range_zip {α β : Type} (F : Nat → D) (G : α × β → D) : ∀ (A : List α) (B : List β), A.length = B.length → (∀ k (ha : k < A.length) (hb : k < B.length), F k = G (A[k], B[k])) → (List.range A.length).map F = (A.zip B).map G := by
  intro A B hl h
  apply List.ext_getElem?
  intro k
  by_cases hk : k < A.length
  · rw [List.getElem?_map, List.getElem?_range hk, List.getElem?_map, List.getElem?_eq_getElem (by simp; omega), List.getElem_zip]
    exact congrArg some (h k hk (by omega))
  · rw [List.getElem?_map, List.getElem?_eq_none (by simp; omega), List.getElem?_map, List.getElem?_eq_none (by simp; omega)]
    rfl
end K24

namespace K24
open PySem PySem.Spec PyProof.Rows L2 Pm
theorem worst_loop {x0 : Rat} {xs : List Rat} (h0 : SR 900 x0) (hx : ∀ x ∈ xs, SR 900 x) (y0 y1 y2 y3 y4 y5 y6 y7 y8 y9 y10 y11 : Option D) (ys : List (Option D)) :
    ∃ u, forL (gSet 4) l1__law_borne (xs.map rd) (y0 :: y1 :: y2 :: y3 :: y4 :: y5 :: y6 :: y7 :: y8 :: y9 :: y10 :: y11 :: some (rd x0) :: ys) = some (.nx (y0 :: y1 :: y2 :: y3 :: u :: y5 :: y6 :: y7 :: y8 :: y9 :: y10 :: y11 :: some (rd (wl x0 xs)) :: ys)) := by
  obtain ⟨ρ', e1, _, h⟩ := forL_inv (g := gSet 4) (b := l1__law_borne) rd
    (fun pre rest ρ => pre ++ rest = xs ∧ ∃ u, ρ = (y0 :: y1 :: y2 :: y3 :: u :: y5 :: y6 :: y7 :: y8 :: y9 :: y10 :: y11 :: some (rd (wl x0 pre)) :: ys)) (fun pre x rest ρ ⟨hp, u, e'⟩ => by
      subst e'
      have h1 := wl_sr (xs := pre) h0 fun y hy => hx y (by rw [← hp]; simp [hy])
      have h2 := hx x (by rw [← hp]; simp)
      have m1 := h2.1.mulOk h1.2 (by omega) (by omega)
      have m2 := h1.1.mulOk h2.2 (by omega) (by omega)
      have e : decide ((wl x0 pre).num * (x.den : Int) < x.num * ((wl x0 pre).den : Int)) = decide (wl x0 pre < x) := decide_eq_decide.mpr (Rat.lt_iff _ _).symm
      refine ⟨(y0 :: y1 :: y2 :: y3 :: some (rd x) :: y5 :: y6 :: y7 :: y8 :: y9 :: y10 :: y11 :: some (rd (wl x0 pre)) :: ys), (y0 :: y1 :: y2 :: y3 :: some (rd x) :: y5 :: y6 :: y7 :: y8 :: y9 :: y10 :: y11 :: some (rd (wl x0 (pre ++ [x]))) :: ys), ?_, .inl ?_, by rw [List.append_assoc]; exact hp, _, rfl⟩
      · rw [gSet_a, if_pos (by simp only [List.length_cons]; omega)]
        rfl
      · rw [wl_app]
        have l4 : 12 < ys.length + 1 + 1 + 1 + 1 + 1 + 1 + 1 + 1 + 1 + 1 + 1 + 1 + 1 := by omega
        by_cases h : wl x0 pre < x
        · rw [if_pos h]
          rw [decide_eq_true h] at e
          simp -implicitDefEqProofs only [l1__law_borne, xVar_a, xC_a, xBin_a, xUn_a, tOf_a, tTru_a, tNotP_a, tAndP_a, tOrP_a, tyes_a, tno_a, tYesP_a, xNil_a, xCons_a, xTup_a, xLst_a, xAnd_a, xOr_a, xIf_a, xChain_a, oNo_a, oAt_a, xSl_a, xCall_a, xSeq_a, xIt_a, xLc_a, gSet_a, gTupD_a, gsNil_a, gsCons_a, sNop_a, sBrk_a, sCnt_a, sSeq_a, sRet_a, sIf_a, sSet_a, sTgt_a, sAug_a, sApp_a, sExt_a, sPut_a, sPutK_a, pkO_s, sFor_a, sWhile_a, sPar_a, runD_a, b2_s, c2_s, sqO_nx, sqO_rt, sqO_bk, sqO_ct, ifO_t, ifO_f, stO_s, endO_nx, endO_rt, andO_t, andO_f, orO_t, orO_f, chO_s, chP_t, chP_f, slO_s, atO_i, lcO_s, forO_s, gsO_s, nxO_s, tgO_s, paO_s, apO_s, exO_s, plO_s, ptO_s, dB_b, tru_b, tru_n, tru_i, tru_l, tru_t, is_n, isn_n, nn_n, nn_i, nn_b, nn_t, nn_l, add_ii, add'_ii, sub_ii, neg_i, lt_ii, le_ii, gt_ii, ge_ii, ix_l, ix_t, ix_s, at0, at1, at2, sl_l, sl_t, len_l, len_t, len_s, abs_i, int_i, int_b, max_ii, min_ii, tup_s, lst_s, seq_l, seq_t, sum_s, wipe_n, wipe_c, mul_ii, fdiv_ii, mod_ii, add_ll, add_tt, setAll, mkT, mkL, oNot, List.getD_cons_zero, List.getD_cons_succ, List.length_cons, List.length_nil, List.set_cons_zero, List.set_cons_succ, List.map_cons, List.map_nil, List.replicate, List.cons_append, List.nil_append, List.append_nil, Option.bind_some, Option.map_some, List.all_cons, List.all_nil, if_true, if_false, reduceIte, Nat.reduceAdd, Nat.reduceSub, Nat.reduceLT, Nat.reduceLeDiff, Nat.reduceEqDiff, decide_true, decide_false, Bool.and_true, Bool.and_self, Bool.true_and, Bool.not_true, Bool.not_false, ne_eq, not_true_eq_false, not_false_eq_true, Nat.zero_add, Bool.false_eq_true, and_self, true_and, and_true, rd_0, rd_1, m1, m2, e, l4]
        · rw [if_neg h]
          rw [decide_eq_false h] at e
          simp -implicitDefEqProofs only [l1__law_borne, xVar_a, xC_a, xBin_a, xUn_a, tOf_a, tTru_a, tNotP_a, tAndP_a, tOrP_a, tyes_a, tno_a, tYesP_a, xNil_a, xCons_a, xTup_a, xLst_a, xAnd_a, xOr_a, xIf_a, xChain_a, oNo_a, oAt_a, xSl_a, xCall_a, xSeq_a, xIt_a, xLc_a, gSet_a, gTupD_a, gsNil_a, gsCons_a, sNop_a, sBrk_a, sCnt_a, sSeq_a, sRet_a, sIf_a, sSet_a, sTgt_a, sAug_a, sApp_a, sExt_a, sPut_a, sPutK_a, pkO_s, sFor_a, sWhile_a, sPar_a, runD_a, b2_s, c2_s, sqO_nx, sqO_rt, sqO_bk, sqO_ct, ifO_t, ifO_f, stO_s, endO_nx, endO_rt, andO_t, andO_f, orO_t, orO_f, chO_s, chP_t, chP_f, slO_s, atO_i, lcO_s, forO_s, gsO_s, nxO_s, tgO_s, paO_s, apO_s, exO_s, plO_s, ptO_s, dB_b, tru_b, tru_n, tru_i, tru_l, tru_t, is_n, isn_n, nn_n, nn_i, nn_b, nn_t, nn_l, add_ii, add'_ii, sub_ii, neg_i, lt_ii, le_ii, gt_ii, ge_ii, ix_l, ix_t, ix_s, at0, at1, at2, sl_l, sl_t, len_l, len_t, len_s, abs_i, int_i, int_b, max_ii, min_ii, tup_s, lst_s, seq_l, seq_t, sum_s, wipe_n, wipe_c, mul_ii, fdiv_ii, mod_ii, add_ll, add_tt, setAll, mkT, mkL, oNot, List.getD_cons_zero, List.getD_cons_succ, List.length_cons, List.length_nil, List.set_cons_zero, List.set_cons_succ, List.map_cons, List.map_nil, List.replicate, List.cons_append, List.nil_append, List.append_nil, Option.bind_some, Option.map_some, List.all_cons, List.all_nil, if_true, if_false, reduceIte, Nat.reduceAdd, Nat.reduceSub, Nat.reduceLT, Nat.reduceLeDiff, Nat.reduceEqDiff, decide_true, decide_false, Bool.and_true, Bool.and_self, Bool.true_and, Bool.not_true, Bool.not_false, ne_eq, not_true_eq_false, not_false_eq_true, Nat.zero_add, Bool.false_eq_true, and_self, true_and, and_true, rd_0, rd_1, m1, m2, e]) xs [] (y0 :: y1 :: y2 :: y3 :: y4 :: y5 :: y6 :: y7 :: y8 :: y9 :: y10 :: y11 :: some (rd x0) :: ys) ⟨rfl, y4, rfl⟩
  obtain ⟨u, e'⟩ := h
  subst e'
  exact ⟨u, e1⟩
theorem zip_self_map {α β : Type} (f : α → β) : ∀ l : List α, l.zip (l.map f) = l.map fun p => (p, f p)
  | [] => rfl
  | a :: l => by rw [List.map_cons, List.zip_cons_cons, zip_self_map f l]; rfl
theorem rep_ones (P : List Int) (hl : P.length ≤ 100) : oMul' (.tuple [.int 1]) (.int (P.length : Int)) = some (.tuple (P.map fun _ => PyData.int 1)) := by
  show (if -(2 ^ 62) ≤ (P.length : Int) ∧ (P.length : Int) ≤ 1000 ∧ [PyData.int 1].length ≤ 1000 then some (PyData.tuple (List.replicate (P.length : Int).toNat [PyData.int 1]).flatten) else none) = _
  rw [if_pos (by simp only [List.length_cons, List.length_nil]; omega), Int.toNat_natCast, List.flatten_replicate_singleton, List.map_const']
theorem rep_zero (m : Nat) (hm : m ≤ 100) : oMul' (.list [.int 0]) (.int (m : Int)) = some (.list (List.replicate m (.int 0))) := by
  have h : [PyData.int 0].length * m ≤ 16777216 := by
    simp only [List.length_cons, List.length_nil]
    omega
  have h2 : -(2 ^ 62) ≤ (m : Int) := by omega
  have h3 : (m : Int) < 2 ^ 62 := by omega
  simp only [oMul', oMul, h, h2, h3, true_and, if_true, Int.toNat_natCast, List.flatten_replicate_singleton]
theorem rs_ints (P : List Int) (f : Int → Int) : rs (P.map fun p => (f p : Rat)) = (((P.map f).sum : Int) : Rat) := by
  rw [← rs_int, List.map_map]
  rfl
theorem sum_sm (P : List Int) (f : Int → Int) {k : Nat} (h : ∀ p ∈ P, Sm k (f p)) (hl : P.length ≤ 1000) : Sm (k + 10) (P.map f).sum := by
  have := sq_sm (S := toS P) (f := fun s => f s.1) (k := k) (fun s hs => by
    obtain ⟨p, hp, rfl⟩ := List.mem_map.mp hs
    exact h p hp) (by unfold toS; rw [List.length_map]; exact hl)
  unfold sq toS at this
  rw [List.map_map] at this
  exact this
theorem squares_sr {P : List Int} {W : List Sd} (hP : OkI P) (hW : OkS W) (hl : W.length ≤ 10) (hu : 0 < un P) : SR 120 (rs ((P.map (ld P W)).map fun x => x * x)) := by
  have e : rs ((P.map (ld P W)).map fun x => x * x) = (((P.map fun p => (lB P W + lA P W * p) * (lB P W + lA P W * p)).sum : Int) : Rat) / ((un P * un P : Int) : Rat) := by
    have hu' := cast_pos hu
    have hun : (un P : Rat) ≠ 0 := by grind
    have h2 : (P.map (ld P W)).map (fun x => x * x) = P.map fun p => (1 / ((un P * un P : Int) : Rat)) * (((lB P W + lA P W * p) * (lB P W + lA P W * p) : Int) : Rat) := by
      rw [List.map_map]
      refine List.map_congr_left fun p _ => ?_
      simp only [Function.comp, ld]
      push_cast
      grind
    rw [h2, rs_map_mul, rs_ints P fun p => (lB P W + lA P W * p) * (lB P W + lA P W * p)]
    grind
  rw [e]
  have s1 : ∀ p ∈ P, Sm 53 (lB P W + lA P W * p) := fun p hp => (((lB_sm hP hW hl).mono (k := 52) (by omega)).add (((lA_sm hP hW hl).mul (hP.1 p hp)).mono (by omega)))
  exact SR.div ((sum_sm P _ (fun p hp => (s1 p hp).mul (s1 p hp)) (by have := hP.2; omega)).mono (by omega)) (((un_sm hP).mul (un_sm hP)).mono (by omega)) (Int.mul_pos hu hu)
end K24

namespace K24
open PySem PySem.Spec PyProof.Rows L2 Pm
theorem len_two {P : List Int} (h : P.length = 2) : ∃ p q, P = [p, q] := by
  match P, h with
  | [p, q], _ => exact ⟨p, q, rfl⟩
theorem len_three {P : List Int} (h : 3 ≤ P.length) : ∃ a b c rest, P = a :: b :: c :: rest := by
  match P, h with
  | a :: b :: c :: rest, _ => exact ⟨a, b, c, rest, rfl⟩
theorem ats_eq {P Q : List Int} {W : List Sd} (hQ : ∀ p ∈ Q, Sm 10 p) (hP : OkI P) (hW : OkS W) (hl : W.length ≤ 10) (hu : 0 < un P) : ∀ ρ : PEnv, ρ.length = 27 → ρ.getD 2 none = some (lnD P W) → lcL (gSet 23) tYesP (xCall (fun ds => if ds.length = 2 then (d__law_at) ds else none) (xCons (xVar 2) (xCons (xVar 23) xNil))) ρ (Q.map PyData.int) = some (Q.map fun p => rd (ld P W p)) := by
  intro ρ hρ h2
  match ρ, hρ with
  | [r0, r1, r2, r3, r4, r5, r6, r7, r8, r9, r10, r11, r12, r13, r14, r15, r16, r17, r18, r19, r20, r21, r22, r23, r24, r25, r26], _ =>
    simp only [List.getD_cons_succ, List.getD_cons_zero] at h2
    subst h2
    refine lcL_map _ _ _ fun p hp => ?_
    have ha : d__law_at [lnD P W, .int p] = some (rd (ld P W p)) := law_at_ld hW hl hP hu (hQ p hp)
    generalize lnD P W = LN at *
    simp -implicitDefEqProofs only [xVar_a, xC_a, xBin_a, xUn_a, tOf_a, tTru_a, tNotP_a, tAndP_a, tOrP_a, tyes_a, tno_a, tYesP_a, xNil_a, xCons_a, xTup_a, xLst_a, xAnd_a, xOr_a, xIf_a, xChain_a, oNo_a, oAt_a, xSl_a, xCall_a, xSeq_a, xIt_a, xLc_a, gSet_a, gTupD_a, gsNil_a, gsCons_a, sNop_a, sBrk_a, sCnt_a, sSeq_a, sRet_a, sIf_a, sSet_a, sTgt_a, sAug_a, sApp_a, sExt_a, sPut_a, sPutK_a, pkO_s, sFor_a, sWhile_a, sPar_a, runD_a, b2_s, c2_s, sqO_nx, sqO_rt, sqO_bk, sqO_ct, ifO_t, ifO_f, stO_s, endO_nx, endO_rt, andO_t, andO_f, orO_t, orO_f, chO_s, chP_t, chP_f, slO_s, atO_i, lcO_s, forO_s, gsO_s, nxO_s, tgO_s, paO_s, apO_s, exO_s, plO_s, ptO_s, dB_b, tru_b, tru_n, tru_i, tru_l, tru_t, is_n, isn_n, nn_n, nn_i, nn_b, nn_t, nn_l, add_ii, add'_ii, sub_ii, neg_i, lt_ii, le_ii, gt_ii, ge_ii, ix_l, ix_t, ix_s, at0, at1, at2, sl_l, sl_t, len_l, len_t, len_s, abs_i, int_i, int_b, max_ii, min_ii, tup_s, lst_s, seq_l, seq_t, sum_s, wipe_n, wipe_c, mul_ii, fdiv_ii, mod_ii, add_ll, add_tt, setAll, mkT, mkL, oNot, List.getD_cons_zero, List.getD_cons_succ, List.length_cons, List.length_nil, List.set_cons_zero, List.set_cons_succ, List.map_cons, List.map_nil, List.replicate, List.cons_append, List.nil_append, List.append_nil, Option.bind_some, Option.map_some, List.all_cons, List.all_nil, if_true, if_false, reduceIte, Nat.reduceAdd, Nat.reduceSub, Nat.reduceLT, Nat.reduceLeDiff, Nat.reduceEqDiff, decide_true, decide_false, Bool.and_true, Bool.and_self, Bool.true_and, Bool.not_true, Bool.not_false, ne_eq, not_true_eq_false, not_false_eq_true, Nat.zero_add, Bool.false_eq_true, and_self, true_and, and_true, ha]
theorem sqr_lc {P : List Int} {W : List Sd} (hs : ∀ p ∈ P, SR 53 (ld P W p)) : ∀ ρ : PEnv, ρ.length = 27 → lcL (gSet 4) tYesP (xCall (fun ds => if ds.length = 2 then (d__law_times) ds else none) (xCons (xVar 4) (xCons (xVar 4) xNil))) ρ (P.map fun p => rd (ld P W p)) = some (((P.map (ld P W)).map fun x => x * x).map rd) := by
  intro ρ hρ
  match ρ, hρ with
  | [r0, r1, r2, r3, r4, r5, r6, r7, r8, r9, r10, r11, r12, r13, r14, r15, r16, r17, r18, r19, r20, r21, r22, r23, r24, r25, r26], _ =>
    rw [List.map_map, List.map_map]
    refine lcL_map _ _ _ fun p hp => ?_
    have t := law_times_rd ((hs p hp).mono (k := 900) (by omega)) ((hs p hp).mono (k := 900) (by omega))
    simp -implicitDefEqProofs only [Function.comp, xVar_a, xC_a, xBin_a, xUn_a, tOf_a, tTru_a, tNotP_a, tAndP_a, tOrP_a, tyes_a, tno_a, tYesP_a, xNil_a, xCons_a, xTup_a, xLst_a, xAnd_a, xOr_a, xIf_a, xChain_a, oNo_a, oAt_a, xSl_a, xCall_a, xSeq_a, xIt_a, xLc_a, gSet_a, gTupD_a, gsNil_a, gsCons_a, sNop_a, sBrk_a, sCnt_a, sSeq_a, sRet_a, sIf_a, sSet_a, sTgt_a, sAug_a, sApp_a, sExt_a, sPut_a, sPutK_a, pkO_s, sFor_a, sWhile_a, sPar_a, runD_a, b2_s, c2_s, sqO_nx, sqO_rt, sqO_bk, sqO_ct, ifO_t, ifO_f, stO_s, endO_nx, endO_rt, andO_t, andO_f, orO_t, orO_f, chO_s, chP_t, chP_f, slO_s, atO_i, lcO_s, forO_s, gsO_s, nxO_s, tgO_s, paO_s, apO_s, exO_s, plO_s, ptO_s, dB_b, tru_b, tru_n, tru_i, tru_l, tru_t, is_n, isn_n, nn_n, nn_i, nn_b, nn_t, nn_l, add_ii, add'_ii, sub_ii, neg_i, lt_ii, le_ii, gt_ii, ge_ii, ix_l, ix_t, ix_s, at0, at1, at2, sl_l, sl_t, len_l, len_t, len_s, abs_i, int_i, int_b, max_ii, min_ii, tup_s, lst_s, seq_l, seq_t, sum_s, wipe_n, wipe_c, mul_ii, fdiv_ii, mod_ii, add_ll, add_tt, setAll, mkT, mkL, oNot, List.getD_cons_zero, List.getD_cons_succ, List.length_cons, List.length_nil, List.set_cons_zero, List.set_cons_succ, List.map_cons, List.map_nil, List.replicate, List.cons_append, List.nil_append, List.append_nil, Option.bind_some, Option.map_some, List.all_cons, List.all_nil, if_true, if_false, reduceIte, Nat.reduceAdd, Nat.reduceSub, Nat.reduceLT, Nat.reduceLeDiff, Nat.reduceEqDiff, decide_true, decide_false, Bool.and_true, Bool.and_self, Bool.true_and, Bool.not_true, Bool.not_false, ne_eq, not_true_eq_false, not_false_eq_true, Nat.zero_add, Bool.false_eq_true, and_self, true_and, and_true, t]
theorem borne_ok {P : List Int} {W : List Sd} (hP : OkI P) (hn : P.Nodup) (h2 : 2 ≤ P.length) (h5 : P.length ≤ 6) (hW : OkS W) (hWP : W.map Prod.fst = P) : d__law_borne [.tuple (P.map PyData.int), .tuple (W.map enc)] = some (.bool true) := by
  have hu := un_pos hn h2
  have hlen : W.length = P.length := by rw [← hWP, List.length_map]
  have hl : W.length ≤ 10 := by omega
  obtain ⟨p0, P', eP⟩ : ∃ p0 P', P = p0 :: P' := by
    cases P with
    | nil => simp at h2
    | cons p0 P' => exact ⟨p0, P', rfl⟩
  have hs : ∀ p ∈ P, SR 53 (ld P W p) := fun p hp => ld_sr hP hW hl hu (hP.1 p hp)
  have hsr : ∀ x ∈ P.map (ld P W), SR 53 x := fun x hx => by
    obtain ⟨p, hp, rfl⟩ := List.mem_map.mp hx
    exact hs p hp
  have hll : (P.map (ld P W)).length ≤ 7 := by rw [List.length_map]; omega
  obtain ⟨sm1, sm2⟩ := sum_ld (W := W) hu
  have eDU : P.map (fun p => rd (ld P W p)) = (P.map (ld P W)).map rd := by rw [List.map_map]; rfl
  have a1 : d__law_line [.tuple (P.map PyData.int), .tuple (W.map enc)] = some (lnD P W) := law_line_eq false hP hW hl hu
  have a2 := ats_eq hP.1 hP hW hl hu
  have a3 := fun ρ hρ => (sums_w hW 27 23 26 (by decide) (by decide) (by decide) ρ hρ).1
  have a4 := fun ρ hρ => (sums_w hW 27 23 26 (by decide) (by decide) (by decide) ρ hρ).2
  have a5 : bSum [.list (W.map fun s => PyData.int s.2)] = some (.int (wT W)) := sum_f W fun s => s.2
  have a6 : bSum [.list (W.map fun s => PyData.int (s.1 * s.2))] = some (.int (wU W)) := sum_f W fun s => s.1 * s.2
  have a7 : d_loads_of [.tuple (P.map PyData.int), .tuple (W.map enc)] = some (.tuple (P.map fun p => rd (ld P W p))) := loads_of_eq false hP hW hl hu
  have a8 : atI (P.map fun p => rd (ld P W p)) 0 = some (rd (ld P W p0)) := by
    conv => lhs; rw [eP, List.map_cons, at0]
    rw [← eP]
  obtain ⟨u4, a9⟩ := worst_loop (x0 := ld P W p0) (xs := P.map (ld P W)) ((hs p0 (by rw [eP]; simp)).mono (by omega)) (fun x hx => (hsr x hx).mono (by omega)) (some (.tuple (P.map PyData.int))) (some (.tuple (W.map enc))) (some (lnD P W)) (some (.tuple (P.map fun p => rd (ld P W p)))) none none none none none (some (.int (wT W))) (some (.int (wU W))) (some (.tuple (P.map fun p => rd (ld P W p)))) [none, none, none, none, none, none, none, none, none, none, none, none, none, none]
  rw [← eDU] at a9
  have a10 := like_rds 5 (ld P W) P (by omega)
  have a11 : d_worst_load [.tuple (P.map fun p => rd (ld P W p))] = some (rd (wl (ld P W p0) (P.map (ld P W)))) := by
    have h := worst_load_eq (x0 := ld P W p0) (xs := P'.map (ld P W)) ((hs p0 (by rw [eP]; simp)).mono (by omega)) (fun x hx => by
      have : x ∈ P.map (ld P W) := by rw [eP, List.map_cons, ← eP]; exact hx
      exact (hsr x this).mono (by omega))
    rw [eDU]
    have e : ld P W p0 :: P'.map (ld P W) = P.map (ld P W) := by
      conv => rhs; rw [eP, List.map_cons]
      rw [← eP]
    rw [e] at h
    exact h
  have a12 := like_rd 6 (wl (ld P W p0) (P.map (ld P W)))
  obtain ⟨W', hperm, a13⟩ := sorted_w (W := W) (by omega)
  have a14 : d_best_line [.tuple (W'.map enc)] = some (lnD P W) := best_sorted hW hl hperm hWP h2 hu
  have a15 : d__law_like 8 [lnD P W, lnD P W] = some (.bool true) := like_rr 5 _ _
  have a16 : d_loads_sum [.tuple (P.map fun p => rd (ld P W p))] = some (.tuple [.int (wT W), .int 1]) := by
    have h := loads_sum_eq (xs := P.map (ld P W)) (fun x hx => (hsr x hx).mono (by omega)) hll
    rw [sm1, ← eDU] at h
    exact h
  have a17 : d_loads_turn [.tuple (P.map PyData.int), .tuple (P.map fun p => rd (ld P W p))] = some (.tuple [.int (wU W), .int 1]) := by
    have h := loads_turn_eq (P := P) (xs := P.map (ld P W)) hP.1 (fun x hx => (hsr x hx).mono (by omega)) hll
    have e : rs ((P.zip (P.map (ld P W))).map fun q => q.2 * (q.1 : Rat)) = (wU W : Rat) := by
      rw [zip_self_map, List.map_map]
      exact sm2
    rw [e, ← eDU] at h
    exact h
  have a18 : d__law_like 8 [.tuple [.int (wT W), .int 1], .tuple [.int (wT W), .int 1]] = some (.bool true) := like_rd 6 (wT W : Rat)
  have a19 : d__law_like 8 [.tuple [.int (wU W), .int 1], .tuple [.int (wU W), .int 1]] = some (.bool true) := like_rd 6 (wU W : Rat)
  have b1 : bLen [.tuple (P.map PyData.int)] = some (.int (P.length : Int)) := len_i false P
  have b2 : bSum [.tuple (P.map PyData.int)] = some (.int (pf P)) := by
    have := int_s false P
    rw [← pf_sum] at this
    exact this
  have b3 := sqs_i hP 27 23 (by decide)
  have b4 := int_f P fun p => p * p
  rw [← pq_sum] at b4
  have b5 := rep_ones P (by omega)
  have k1 := (pn_sm hP).mulOk (wU_sm hW hl) (by omega) (by omega)
  have k2 := (pf_sm hP).mulOk (wT_sm hW hl) (by omega) (by omega)
  have k3 := (pn_sm hP).mulOk (pq_sm hP) (by omega) (by omega)
  have k4 := (pf_sm hP).mulOk (pf_sm hP) (by omega) (by omega)
  have e1 : (P.length : Int) * pq P - pf P * pf P = un P := un_def P
  have e2 : (P.length : Int) * wU W - pf P * wT W = lA P W := rfl
  have hnp : 0 < (P.length : Int) := by omega
  have b6 := trim_of_eq hP h2 (by omega) hu ((lA_sm hP hW hl).mono (k := 60) (by omega))
  have b7 := ratio_rd (pf P) (P.length : Int) hnp ((pn_sm hP).mono (by omega))
  have b8 := ratio_rd (un P) (P.length : Int) hnp ((pn_sm hP).mono (by omega))
  have b9 := like_rd 6 ((pf P : Rat) / ((P.length : Int) : Rat))
  have b10 := like_rd 6 ((un P : Rat) / ((P.length : Int) : Rat))
  have b11 : d__law_times [rd ((lA P W : Rat) / (un P : Rat)), .tuple [.int (P.length : Int), .int 1]] = some (rd ((lA P W : Rat) / ((un P : Rat) / ((P.length : Int) : Rat)))) := by
    have h : d__law_times [rd ((lA P W : Rat) / (un P : Rat)), .tuple [.int (P.length : Int), .int 1]] = some (rd ((lA P W : Rat) / (un P : Rat) * ((P.length : Int) : Rat))) := law_times_rd (x := (lA P W : Rat) / (un P : Rat)) (y := ((P.length : Int) : Rat)) ((SR.div (k := 60) ((lA_sm hP hW hl).mono (by omega)) ((un_sm hP).mono (by omega)) hu).mono (by omega)) ((SR.int (pn_sm hP)).mono (by omega))
    have e : (lA P W : Rat) / (un P : Rat) * ((P.length : Int) : Rat) = (lA P W : Rat) / ((un P : Rat) / ((P.length : Int) : Rat)) := by
      have h1 := cast_pos hu
      have h2 := cast_pos hnp
      have h3 : (un P : Rat) ≠ 0 := by grind
      have h4 : ((P.length : Int) : Rat) ≠ 0 := by grind
      grind
    rw [e] at h
    exact h
  have b12 := like_rd 6 ((lA P W : Rat) / ((un P : Rat) / ((P.length : Int) : Rat)))
  have c0 : ∀ i, atI [rd ((lA P W : Rat) / (un P : Rat)), rd ((lB P W : Rat) / (un P : Rat))] i = atI [rd ((lA P W : Rat) / (un P : Rat)), rd ((lB P W : Rat) / (un P : Rat))] i := fun _ => rfl
  have c1 : oIx (lnD P W) (.int 0) = some (rd ((lA P W : Rat) / (un P : Rat))) := rfl
  have c2 := sqr_lc (P := P) (W := W) hs
  have c3 : d__law_sum [.list (((P.map (ld P W)).map fun x => x * x).map rd)] = some (rd (rs ((P.map (ld P W)).map fun x => x * x))) := law_sum_eq true _ (fun x hx => by
    obtain ⟨y, hy, rfl⟩ := List.mem_map.mp hx
    exact ((hsr y hy).mul (hsr y hy)).mono (by omega)) (by rw [List.length_map]; omega)
  have c4 : d_sum_squares [.tuple (P.map fun p => rd (ld P W p))] = some (rd (rs ((P.map (ld P W)).map fun x => x * x))) := by
    rw [eDU]
    exact sum_squares_eq (fun x hx => (hsr x hx).mono (by omega)) hll
  have c5 := like_rd 6 (rs ((P.map (ld P W)).map fun x => x * x))
  have c6 := lifted_first_eq hP hn hW hl
  have c7 := law_lifted_eq hP hn hW hl
  have c8 := like_lift (P := P) (W := W) (by omega) (lift W P.length P []) (fun x hx => by have := lift_len _ _ _ (linv_start hP hn) x hx; omega)
  have hsq := squares_sr hP hW hl hu
  have hfb : flat (.bool true) = true := rfl
  by_cases hn2 : P.length = 2
  · -- two blocks
    obtain ⟨p, q, ePQ⟩ := len_two hn2
    have hne : p ≠ q := by rw [ePQ] at hn; simp at hn; exact hn
    have d1 : bSorted [.tuple (P.map PyData.int)] = some (.list ((if p ≤ q then [p, q] else [q, p]).map PyData.int)) := by
      have := sorted_i false (P := P) (by omega)
      have hs2 : P.mergeSort (fun x y => decide (x ≤ y)) = if p ≤ q then [p, q] else [q, p] := by rw [ePQ]; exact sort_two
      rw [hs2] at this
      exact this
    have d2 := min_two p q
    have d3 := max_two p q
    have eMP : P.map PyData.int = [.int p, .int q] := by rw [ePQ]; rfl
    rw [← eMP] at d2 d3
    have hpq : ∀ r ∈ [p, q], Sm 10 r := by rw [← ePQ]; exact hP.1
    have e3 : decide ((P.length : Int) = 2) = true := decide_eq_true (by omega)
    generalize P.map PyData.int = MP at *
    generalize rs ((P.map (ld P W)).map fun x => x * x) = SQ at *
    generalize ((P.map (ld P W)).map fun x => x * x).map rd = SQL at *
    generalize (P.map fun p => rd (ld P W p)) = DU at *
    generalize (P.map fun p => PyData.int (p * p)) = PP at *
    generalize (P.map fun _ => PyData.int 1) = ON at *
    generalize (pf P : Rat) / ((P.length : Int) : Rat) = v1 at *
    generalize (un P : Rat) / ((P.length : Int) : Rat) = v2 at *
    generalize (lA P W : Rat) / v2 = v3 at *
    generalize wl (ld P W p0) (P.map (ld P W)) = v4 at *
    generalize liftD P W (lift W P.length P []) = LF at *
    generalize (lA P W : Rat) / (un P : Rat) = v5 at *
    generalize W'.map enc = MW' at *
    generalize (W.map fun s => PyData.int s.2) = N2 at *
    generalize (W.map fun s => PyData.int (s.1 * s.2)) = N3 at *
    by_cases hle : p ≤ q
    · have hlt : p < q := by omega
      rw [if_pos hle] at d1 d2 d3
      have d4 := ats_eq (Q := [p, q]) hpq hP hW hl hu
      have d5 := two_loads_eq hlt (hpq p (by simp)) (hpq q (by simp)) hW hl
      have d6 := ld_two (W := W) ePQ hne p q (.inl ⟨rfl, rfl⟩) hlt
      rw [← d6.2, ← d6.1] at d5
      have d7 := like_rr 5 (ld P W p) (ld P W q)
      simp only [List.map_cons, List.map_nil] at d1 d4
      generalize ld P W p = w1 at *
      generalize ld P W q = w2 at *
      generalize lnD P W = LN at *
      generalize W.map enc = MW at *
      simp -implicitDefEqProofs only [d__law_borne, g__law_borne, xVar_a, xC_a, xBin_a, xUn_a, tOf_a, tTru_a, tNotP_a, tAndP_a, tOrP_a, tyes_a, tno_a, tYesP_a, xNil_a, xCons_a, xTup_a, xLst_a, xAnd_a, xOr_a, xIf_a, xChain_a, oNo_a, oAt_a, xSl_a, xCall_a, xSeq_a, xIt_a, xLc_a, gSet_a, gTupD_a, gsNil_a, gsCons_a, sNop_a, sBrk_a, sCnt_a, sSeq_a, sRet_a, sIf_a, sSet_a, sTgt_a, sAug_a, sApp_a, sExt_a, sPut_a, sPutK_a, pkO_s, sFor_a, sWhile_a, sPar_a, runD_a, b2_s, c2_s, sqO_nx, sqO_rt, sqO_bk, sqO_ct, ifO_t, ifO_f, stO_s, endO_nx, endO_rt, andO_t, andO_f, orO_t, orO_f, chO_s, chP_t, chP_f, slO_s, atO_i, lcO_s, forO_s, gsO_s, nxO_s, tgO_s, paO_s, apO_s, exO_s, plO_s, ptO_s, dB_b, tru_b, tru_n, tru_i, tru_l, tru_t, is_n, isn_n, nn_n, nn_i, nn_b, nn_t, nn_l, add_ii, add'_ii, sub_ii, neg_i, lt_ii, le_ii, gt_ii, ge_ii, ix_l, ix_t, ix_s, at0, at1, at2, sl_l, sl_t, len_l, len_t, len_s, abs_i, int_i, int_b, max_ii, min_ii, tup_s, lst_s, seq_l, seq_t, sum_s, wipe_n, wipe_c, mul_ii, fdiv_ii, mod_ii, add_ll, add_tt, setAll, mkT, mkL, oNot, List.getD_cons_zero, List.getD_cons_succ, List.length_cons, List.length_nil, List.set_cons_zero, List.set_cons_succ, List.map_cons, List.map_nil, List.replicate, List.cons_append, List.nil_append, List.append_nil, Option.bind_some, Option.map_some, List.all_cons, List.all_nil, if_true, if_false, reduceIte, Nat.reduceAdd, Nat.reduceSub, Nat.reduceLT, Nat.reduceLeDiff, Nat.reduceEqDiff, decide_true, decide_false, Bool.and_true, Bool.and_self, Bool.true_and, Bool.not_true, Bool.not_false, ne_eq, not_true_eq_false, not_false_eq_true, Nat.zero_add, Bool.false_eq_true, and_self, true_and, and_true, a1, a2, a3, a4, a5, a6, a7, a8, a9, a10, a11, a12, a13, a14, a15, a16, a17, a18, a19, b1, b2, b3, b4, b5, k1, k2, k3, k4, e1, e2, b6, b7, b8, flat_rd, b9, b10, c1, b11, b12, c2, c3, c4, c5, c6, c7, c8, eq_int, e3, d1, d4, d2, d3, d5, d7, hfb]
    · have hlt : q < p := by omega
      rw [if_neg hle] at d1 d2 d3
      have d4 := ats_eq (Q := [q, p]) (fun r hr => hpq r (by simp at hr ⊢; exact hr.symm)) hP hW hl hu
      have d5 := two_loads_eq hlt (hpq q (by simp)) (hpq p (by simp)) hW hl
      have d6 := ld_two (W := W) ePQ hne q p (.inr ⟨rfl, rfl⟩) hlt
      rw [← d6.2, ← d6.1] at d5
      have d7 := like_rr 5 (ld P W q) (ld P W p)
      simp only [List.map_cons, List.map_nil] at d1 d4
      generalize ld P W p = w1 at *
      generalize ld P W q = w2 at *
      generalize lnD P W = LN at *
      generalize W.map enc = MW at *
      simp -implicitDefEqProofs only [d__law_borne, g__law_borne, xVar_a, xC_a, xBin_a, xUn_a, tOf_a, tTru_a, tNotP_a, tAndP_a, tOrP_a, tyes_a, tno_a, tYesP_a, xNil_a, xCons_a, xTup_a, xLst_a, xAnd_a, xOr_a, xIf_a, xChain_a, oNo_a, oAt_a, xSl_a, xCall_a, xSeq_a, xIt_a, xLc_a, gSet_a, gTupD_a, gsNil_a, gsCons_a, sNop_a, sBrk_a, sCnt_a, sSeq_a, sRet_a, sIf_a, sSet_a, sTgt_a, sAug_a, sApp_a, sExt_a, sPut_a, sPutK_a, pkO_s, sFor_a, sWhile_a, sPar_a, runD_a, b2_s, c2_s, sqO_nx, sqO_rt, sqO_bk, sqO_ct, ifO_t, ifO_f, stO_s, endO_nx, endO_rt, andO_t, andO_f, orO_t, orO_f, chO_s, chP_t, chP_f, slO_s, atO_i, lcO_s, forO_s, gsO_s, nxO_s, tgO_s, paO_s, apO_s, exO_s, plO_s, ptO_s, dB_b, tru_b, tru_n, tru_i, tru_l, tru_t, is_n, isn_n, nn_n, nn_i, nn_b, nn_t, nn_l, add_ii, add'_ii, sub_ii, neg_i, lt_ii, le_ii, gt_ii, ge_ii, ix_l, ix_t, ix_s, at0, at1, at2, sl_l, sl_t, len_l, len_t, len_s, abs_i, int_i, int_b, max_ii, min_ii, tup_s, lst_s, seq_l, seq_t, sum_s, wipe_n, wipe_c, mul_ii, fdiv_ii, mod_ii, add_ll, add_tt, setAll, mkT, mkL, oNot, List.getD_cons_zero, List.getD_cons_succ, List.length_cons, List.length_nil, List.set_cons_zero, List.set_cons_succ, List.map_cons, List.map_nil, List.replicate, List.cons_append, List.nil_append, List.append_nil, Option.bind_some, Option.map_some, List.all_cons, List.all_nil, if_true, if_false, reduceIte, Nat.reduceAdd, Nat.reduceSub, Nat.reduceLT, Nat.reduceLeDiff, Nat.reduceEqDiff, decide_true, decide_false, Bool.and_true, Bool.and_self, Bool.true_and, Bool.not_true, Bool.not_false, ne_eq, not_true_eq_false, not_false_eq_true, Nat.zero_add, Bool.false_eq_true, and_self, true_and, and_true, a1, a2, a3, a4, a5, a6, a7, a8, a9, a10, a11, a12, a13, a14, a15, a16, a17, a18, a19, b1, b2, b3, b4, b5, k1, k2, k3, k4, e1, e2, b6, b7, b8, flat_rd, b9, b10, c1, b11, b12, c2, c3, c4, c5, c6, c7, c8, eq_int, e3, d1, d4, d2, d3, d5, d7, hfb]
  · -- three and more
    obtain ⟨a, b, c, rest, ePQ⟩ := len_three (show 3 ≤ P.length by omega)
    have hR : (rowOf a b c rest.length).length = P.length := by rw [ePQ]; unfold rowOf; simp
    have ha : Sm 10 a := hP.1 a (by rw [ePQ]; simp)
    have hb : Sm 10 b := hP.1 b (by rw [ePQ]; simp)
    have hc : Sm 10 c := hP.1 c (by rw [ePQ]; simp)
    have hRs : ∀ x ∈ rowOf a b c rest.length, Sm 11 x := fun x hx => by
      unfold rowOf at hx
      rcases List.mem_append.mp hx with hx | hx
      · simp only [List.mem_cons, List.not_mem_nil, or_false] at hx
        rcases hx with rfl | rfl | rfl
        · exact (hb.sub hc).mono (by omega)
        · exact (hc.sub ha).mono (by omega)
        · exact (ha.sub hb).mono (by omega)
      · rw [(List.mem_replicate.mp hx).2]
        exact Sm.zero
    have d1 : Pm.cutD (P.map PyData.int) none (some (3 : Int)) = [.int a, .int b, .int c] := by
      have := cut_upto (P.map PyData.int) 3
      rw [show ((3 : Nat) : Int) = 3 from rfl] at this
      rw [this, ePQ]
      rfl
    have hm3 : (P.length : Int) - 3 = (rest.length : Int) := by rw [ePQ]; simp only [List.length_cons]; omega
    have d2 := rep_zero rest.length (by have : P.length = rest.length + 3 := by rw [ePQ]; rfl
                                        omega)
    have d3 : oAdd (.list [.int (b - c), .int (c - a), .int (a - b)]) (.list (List.replicate rest.length (.int 0))) = some (.list ((rowOf a b c rest.length).map PyData.int)) := by
      rw [add_ll (by simp only [List.length_cons, List.length_nil, List.length_replicate]; have : P.length = rest.length + 3 := by rw [ePQ]; rfl
                     omega)]
      unfold rowOf
      rw [List.map_append, List.map_replicate]
      rfl
    obtain ⟨t1, t2, t3⟩ := changed_sums (W := W) ePQ hu
    have hCsr : ∀ x ∈ (P.zip (rowOf a b c rest.length)).map (fun q => ld P W q.1 + (q.2 : Rat)), SR 55 x := fun x hx => by
      obtain ⟨q, hq, rfl⟩ := List.mem_map.mp hx
      have hm := List.of_mem_zip (a := q.1) (b := q.2) hq
      have hun : (un P : Rat) ≠ 0 := by have := cast_pos hu; grind
      have e : ld P W q.1 + (q.2 : Rat) = ((lB P W + lA P W * q.1 + q.2 * un P : Int) : Rat) / (un P : Rat) := by
        unfold ld
        push_cast
        grind
      rw [e]
      have s1 : Sm 53 (lB P W + lA P W * q.1) := (((lB_sm hP hW hl).mono (k := 52) (by omega)).add (((lA_sm hP hW hl).mul (hP.1 _ hm.1)).mono (by omega)))
      exact SR.div ((s1.add (((hRs _ hm.2).mul (un_sm hP)).mono (by omega))).mono (by omega)) ((un_sm hP).mono (by omega)) hu
    have hCl : ((P.zip (rowOf a b c rest.length)).map (fun q => ld P W q.1 + (q.2 : Rat))).length ≤ 7 := by rw [List.length_map, List.length_zip]; omega
    have hR1 : oR1 [.int (P.length : Int)] = some ((List.range P.length).map fun i => PyData.int (i : Nat)) := oR1_nat P.length (by omega)
    have d4 : ∀ ρ : PEnv, ρ.length = 27 → ρ.getD 3 none = some (.tuple (P.map fun p => rd (ld P W p))) → ρ.getD 6 none = some (.list ((rowOf a b c rest.length).map PyData.int)) → lcL (gSet 24) tYesP (xCall (fun ds => if ds.length = 1 then (d__law_sum) ds else none) (xCons (xTup (xCons (xBin oIx (xVar 3) (xVar 24)) (xCons (xTup (xCons (xBin oIx (xVar 6) (xVar 24)) (xCons (xC (.int 1)) xNil))) xNil))) xNil)) ρ ((List.range P.length).map fun i => PyData.int (i : Nat)) = some (((P.zip (rowOf a b c rest.length)).map (fun q => ld P W q.1 + (q.2 : Rat))).map rd) := fun ρ hρ h3 h6 => by
      have hz := range_zip (fun k => rd (ld P W (P.getD k 0) + (((rowOf a b c rest.length).getD k 0 : Int) : Rat))) (fun q : Int × Int => rd (ld P W q.1 + (q.2 : Rat))) P (rowOf a b c rest.length) hR.symm (fun k h1 h2 => by simp [h1, h2])
      rw [List.map_map, show (rd ∘ fun q : Int × Int => ld P W q.1 + (q.2 : Rat)) = fun q : Int × Int => rd (ld P W q.1 + (q.2 : Rat)) from rfl, ← hz]
      refine lcL_map _ _ _ fun k hk => ?_
      have hk' : k < P.length := by simpa using hk
      have i1 : atI (P.map fun p => rd (ld P W p)) (k : Int) = some (rd (ld P W (P.getD k 0))) := by
        rw [atI_nat _ k (by rw [List.length_map]; exact hk')]
        simp [hk']
      have i2 : atI ((rowOf a b c rest.length).map PyData.int) (k : Int) = some (.int ((rowOf a b c rest.length).getD k 0)) := by
        rw [atI_nat _ k (by rw [List.length_map]; omega)]
        simp [show k < (rowOf a b c rest.length).length by omega]
      have hpk : P.getD k 0 ∈ P := by rw [List.getD_eq_getElem?_getD, List.getElem?_eq_getElem hk']; exact List.getElem_mem hk'
      have hrk : (rowOf a b c rest.length).getD k 0 ∈ rowOf a b c rest.length := by rw [List.getD_eq_getElem?_getD, List.getElem?_eq_getElem (by omega)]; exact List.getElem_mem (by omega)
      have s := law_sum2 ((hs _ hpk).mono (k := 600) (by omega)) (SR.int (k := 600) ((hRs _ hrk).mono (by omega)))
      have s' : d__law_sum [.tuple [rd (ld P W (P.getD k 0)), .tuple [.int ((rowOf a b c rest.length).getD k 0), .int 1]]] = some (rd (ld P W (P.getD k 0) + (((rowOf a b c rest.length).getD k 0 : Int) : Rat))) := s
      match ρ, hρ with
      | [r0, r1, r2, r3, r4, r5, r6, r7, r8, r9, r10, r11, r12, r13, r14, r15, r16, r17, r18, r19, r20, r21, r22, r23, r24, r25, r26], _ =>
        simp only [List.getD_cons_succ, List.getD_cons_zero] at h3 h6
        subst h3
        subst h6
        generalize (P.map fun p => rd (ld P W p)) = DU at *
        generalize (rowOf a b c rest.length).map PyData.int = RI at *
        generalize ld P W (P.getD k 0) = w1 at *
        generalize (rowOf a b c rest.length).getD k 0 = w2 at *
        simp -implicitDefEqProofs only [xVar_a, xC_a, xBin_a, xUn_a, tOf_a, tTru_a, tNotP_a, tAndP_a, tOrP_a, tyes_a, tno_a, tYesP_a, xNil_a, xCons_a, xTup_a, xLst_a, xAnd_a, xOr_a, xIf_a, xChain_a, oNo_a, oAt_a, xSl_a, xCall_a, xSeq_a, xIt_a, xLc_a, gSet_a, gTupD_a, gsNil_a, gsCons_a, sNop_a, sBrk_a, sCnt_a, sSeq_a, sRet_a, sIf_a, sSet_a, sTgt_a, sAug_a, sApp_a, sExt_a, sPut_a, sPutK_a, pkO_s, sFor_a, sWhile_a, sPar_a, runD_a, b2_s, c2_s, sqO_nx, sqO_rt, sqO_bk, sqO_ct, ifO_t, ifO_f, stO_s, endO_nx, endO_rt, andO_t, andO_f, orO_t, orO_f, chO_s, chP_t, chP_f, slO_s, atO_i, lcO_s, forO_s, gsO_s, nxO_s, tgO_s, paO_s, apO_s, exO_s, plO_s, ptO_s, dB_b, tru_b, tru_n, tru_i, tru_l, tru_t, is_n, isn_n, nn_n, nn_i, nn_b, nn_t, nn_l, add_ii, add'_ii, sub_ii, neg_i, lt_ii, le_ii, gt_ii, ge_ii, ix_l, ix_t, ix_s, at0, at1, at2, sl_l, sl_t, len_l, len_t, len_s, abs_i, int_i, int_b, max_ii, min_ii, tup_s, lst_s, seq_l, seq_t, sum_s, wipe_n, wipe_c, mul_ii, fdiv_ii, mod_ii, add_ll, add_tt, setAll, mkT, mkL, oNot, List.getD_cons_zero, List.getD_cons_succ, List.length_cons, List.length_nil, List.set_cons_zero, List.set_cons_succ, List.map_cons, List.map_nil, List.replicate, List.cons_append, List.nil_append, List.append_nil, Option.bind_some, Option.map_some, List.all_cons, List.all_nil, if_true, if_false, reduceIte, Nat.reduceAdd, Nat.reduceSub, Nat.reduceLT, Nat.reduceLeDiff, Nat.reduceEqDiff, decide_true, decide_false, Bool.and_true, Bool.and_self, Bool.true_and, Bool.not_true, Bool.not_false, ne_eq, not_true_eq_false, not_false_eq_true, Nat.zero_add, Bool.false_eq_true, and_self, true_and, and_true, i1, i2, s']
    have d5 : ∀ ρ : PEnv, ρ.length = 27 → lcL (gSet 25) tYesP (xBin oMul' (xVar 25) (xVar 25)) ρ ((rowOf a b c rest.length).map PyData.int) = some ((rowOf a b c rest.length).map fun x => PyData.int (x * x)) := fun ρ hρ => by
      match ρ, hρ with
      | [r0, r1, r2, r3, r4, r5, r6, r7, r8, r9, r10, r11, r12, r13, r14, r15, r16, r17, r18, r19, r20, r21, r22, r23, r24, r25, r26], _ =>
        refine lcL_map _ _ _ fun x hx => ?_
        have m := (hRs x hx).mulOk (hRs x hx) (by omega) (by omega)
        simp -implicitDefEqProofs only [xVar_a, xC_a, xBin_a, xUn_a, tOf_a, tTru_a, tNotP_a, tAndP_a, tOrP_a, tyes_a, tno_a, tYesP_a, xNil_a, xCons_a, xTup_a, xLst_a, xAnd_a, xOr_a, xIf_a, xChain_a, oNo_a, oAt_a, xSl_a, xCall_a, xSeq_a, xIt_a, xLc_a, gSet_a, gTupD_a, gsNil_a, gsCons_a, sNop_a, sBrk_a, sCnt_a, sSeq_a, sRet_a, sIf_a, sSet_a, sTgt_a, sAug_a, sApp_a, sExt_a, sPut_a, sPutK_a, pkO_s, sFor_a, sWhile_a, sPar_a, runD_a, b2_s, c2_s, sqO_nx, sqO_rt, sqO_bk, sqO_ct, ifO_t, ifO_f, stO_s, endO_nx, endO_rt, andO_t, andO_f, orO_t, orO_f, chO_s, chP_t, chP_f, slO_s, atO_i, lcO_s, forO_s, gsO_s, nxO_s, tgO_s, paO_s, apO_s, exO_s, plO_s, ptO_s, dB_b, tru_b, tru_n, tru_i, tru_l, tru_t, is_n, isn_n, nn_n, nn_i, nn_b, nn_t, nn_l, add_ii, add'_ii, sub_ii, neg_i, lt_ii, le_ii, gt_ii, ge_ii, ix_l, ix_t, ix_s, at0, at1, at2, sl_l, sl_t, len_l, len_t, len_s, abs_i, int_i, int_b, max_ii, min_ii, tup_s, lst_s, seq_l, seq_t, sum_s, wipe_n, wipe_c, mul_ii, fdiv_ii, mod_ii, add_ll, add_tt, setAll, mkT, mkL, oNot, List.getD_cons_zero, List.getD_cons_succ, List.length_cons, List.length_nil, List.set_cons_zero, List.set_cons_succ, List.map_cons, List.map_nil, List.replicate, List.cons_append, List.nil_append, List.append_nil, Option.bind_some, Option.map_some, List.all_cons, List.all_nil, if_true, if_false, reduceIte, Nat.reduceAdd, Nat.reduceSub, Nat.reduceLT, Nat.reduceLeDiff, Nat.reduceEqDiff, decide_true, decide_false, Bool.and_true, Bool.and_self, Bool.true_and, Bool.not_true, Bool.not_false, ne_eq, not_true_eq_false, not_false_eq_true, Nat.zero_add, Bool.false_eq_true, and_self, true_and, and_true, m]
    have d6 := int_f (rowOf a b c rest.length) fun x => x * x
    have d7 : d_loads_sum [.tuple (((P.zip (rowOf a b c rest.length)).map (fun q => ld P W q.1 + (q.2 : Rat))).map rd)] = some (.tuple [.int (wT W), .int 1]) := by
      have h := loads_sum_eq (fun x hx => (hCsr x hx).mono (by omega)) hCl
      rw [t1] at h
      exact h
    have d8 : d_loads_turn [.tuple (P.map PyData.int), .tuple (((P.zip (rowOf a b c rest.length)).map (fun q => ld P W q.1 + (q.2 : Rat))).map rd)] = some (.tuple [.int (wU W), .int 1]) := by
      have h := loads_turn_eq (P := P) hP.1 (fun x hx => (hCsr x hx).mono (by omega)) hCl
      rw [t2] at h
      exact h
    have d9 := sum_squares_eq hCsr hCl
    rw [t3] at d9
    have sMo : Sm 32 ((rowOf a b c rest.length).map fun x => x * x).sum := sum_sm _ _ (fun x hx => (hRs x hx).mul (hRs x hx)) (by omega)
    have d10 := law_sum2 (hsq.mono (k := 600) (by omega)) (SR.int (k := 600) (sMo.mono (by omega)))
    rw [rd_int] at d10
    have d11 := like_rd 6 (rs ((P.map (ld P W)).map fun x => x * x) + ((((rowOf a b c rest.length).map fun x => x * x).sum : Int) : Rat))
    have d12 : flat (.tuple [.int (wT W), .int 1]) = true := rfl
    have d13 : flat (.tuple [.int (wU W), .int 1]) = true := rfl
    have e3 : decide ((P.length : Int) = 2) = false := decide_eq_false (by omega)
    have hfz : ∀ z, flat (rd z) = true := flat_rd
    generalize rs ((P.map (ld P W)).map fun x => x * x) + ((((rowOf a b c rest.length).map fun x => x * x).sum : Int) : Rat) = w9 at *
    generalize ((rowOf a b c rest.length).map fun x => x * x).sum = MO at *
    generalize ((P.zip (rowOf a b c rest.length)).map (fun q => ld P W q.1 + (q.2 : Rat))).map rd = CH at *
    generalize ((rowOf a b c rest.length).map fun x => PyData.int (x * x)) = RQ at *
    generalize (rowOf a b c rest.length).map PyData.int = RI at *
    generalize List.replicate rest.length (PyData.int 0) = RZ at *
    generalize (List.range P.length).map (fun i => PyData.int (i : Nat)) = RN at *
    generalize P.map PyData.int = MP at *
    generalize rs ((P.map (ld P W)).map fun x => x * x) = SQ at *
    generalize ((P.map (ld P W)).map fun x => x * x).map rd = SQL at *
    generalize (P.map fun p => rd (ld P W p)) = DU at *
    generalize (P.map fun p => PyData.int (p * p)) = PP at *
    generalize (P.map fun _ => PyData.int 1) = ON at *
    generalize (pf P : Rat) / ((P.length : Int) : Rat) = v1 at *
    generalize (un P : Rat) / ((P.length : Int) : Rat) = v2 at *
    generalize (lA P W : Rat) / v2 = v3 at *
    generalize wl (ld P W p0) (P.map (ld P W)) = v4 at *
    generalize liftD P W (lift W P.length P []) = LF at *
    generalize (lA P W : Rat) / (un P : Rat) = v5 at *
    generalize W'.map enc = MW' at *
    generalize (W.map fun s => PyData.int s.2) = N2 at *
    generalize (W.map fun s => PyData.int (s.1 * s.2)) = N3 at *
    generalize lnD P W = LN at *
    generalize W.map enc = MW at *
    simp -implicitDefEqProofs only [d__law_borne, g__law_borne, xVar_a, xC_a, xBin_a, xUn_a, tOf_a, tTru_a, tNotP_a, tAndP_a, tOrP_a, tyes_a, tno_a, tYesP_a, xNil_a, xCons_a, xTup_a, xLst_a, xAnd_a, xOr_a, xIf_a, xChain_a, oNo_a, oAt_a, xSl_a, xCall_a, xSeq_a, xIt_a, xLc_a, gSet_a, gTupD_a, gsNil_a, gsCons_a, sNop_a, sBrk_a, sCnt_a, sSeq_a, sRet_a, sIf_a, sSet_a, sTgt_a, sAug_a, sApp_a, sExt_a, sPut_a, sPutK_a, pkO_s, sFor_a, sWhile_a, sPar_a, runD_a, b2_s, c2_s, sqO_nx, sqO_rt, sqO_bk, sqO_ct, ifO_t, ifO_f, stO_s, endO_nx, endO_rt, andO_t, andO_f, orO_t, orO_f, chO_s, chP_t, chP_f, slO_s, atO_i, lcO_s, forO_s, gsO_s, nxO_s, tgO_s, paO_s, apO_s, exO_s, plO_s, ptO_s, dB_b, tru_b, tru_n, tru_i, tru_l, tru_t, is_n, isn_n, nn_n, nn_i, nn_b, nn_t, nn_l, add_ii, add'_ii, sub_ii, neg_i, lt_ii, le_ii, gt_ii, ge_ii, ix_l, ix_t, ix_s, at0, at1, at2, sl_l, sl_t, len_l, len_t, len_s, abs_i, int_i, int_b, max_ii, min_ii, tup_s, lst_s, seq_l, seq_t, sum_s, wipe_n, wipe_c, mul_ii, fdiv_ii, mod_ii, add_ll, add_tt, setAll, mkT, mkL, oNot, List.getD_cons_zero, List.getD_cons_succ, List.length_cons, List.length_nil, List.set_cons_zero, List.set_cons_succ, List.map_cons, List.map_nil, List.replicate, List.cons_append, List.nil_append, List.append_nil, Option.bind_some, Option.map_some, List.all_cons, List.all_nil, if_true, if_false, reduceIte, Nat.reduceAdd, Nat.reduceSub, Nat.reduceLT, Nat.reduceLeDiff, Nat.reduceEqDiff, decide_true, decide_false, Bool.and_true, Bool.and_self, Bool.true_and, Bool.not_true, Bool.not_false, ne_eq, not_true_eq_false, not_false_eq_true, Nat.zero_add, Bool.false_eq_true, and_self, true_and, and_true, a1, a2, a3, a4, a5, a6, a7, a8, a9, a10, a11, a12, a13, a14, a15, a16, a17, a18, a19, b1, b2, b3, b4, b5, k1, k2, k3, k4, e1, e2, b6, b7, b8, flat_rd, b9, b10, c1, b11, b12, c2, c3, c4, c5, c6, c7, c8, eq_int, e3, d1, hm3, d2, d3, hR1, d4, d5, d6, d7, d12, d8, d13, d9, d10, d11]
end K24

namespace K24
open PySem PySem.Spec PyProof.Rows L2 Pm
/-! the middle of weights -/
def wSh (W : List Sd) (c : Int) : List Sd := W.map fun s => (s.1 + c, s.2)
theorem wSh_T (W : List Sd) (c : Int) : wT (wSh W c) = wT W := by
  unfold wT dB2 wSh sq
  rw [List.map_map]
  rfl
theorem wSh_U (W : List Sd) (c : Int) : wU (wSh W c) = wU W + c * wT W := by
  unfold wU wT bB dB2 wSh sq
  induction W with
  | nil => simp
  | cons s W ih =>
    simp only [List.map_cons, List.sum_cons] at ih ⊢
    rw [ih]
    grind
theorem wT_nonneg {W : List Sd} (h : ∀ s ∈ W, 0 ≤ s.2) : 0 ≤ wT W := by
  unfold wT dB2
  induction W with
  | nil => simp [sq]
  | cons s W ih =>
    rw [sq_cons]
    have := h s (by simp)
    have := ih fun t ht => h t (by simp [ht])
    omega
theorem weight_middle_eq (b : Bool) {W : List Sd} (hW : OkS W) (hl : W.length ≤ 10) (h0 : 0 < wT W) : d_weight_middle [sqD b (W.map enc)] = some (rd ((wU W : Rat) / (wT W : Rat))) := by
  have f1 := weight_sum_eq b hW
  have f2 := turn_sum_eq b hW
  have w := lowest_rd (wU W) (wT W) h0 ((wT_sm hW hl).mono (by omega))
  have e : decide (wT W = 0) = false := decide_eq_false (by omega)
  generalize sqD b (W.map enc) = M at *
  simp -implicitDefEqProofs only [d_weight_middle, g_weight_middle, xVar_a, xC_a, xBin_a, xUn_a, tOf_a, tTru_a, tNotP_a, tAndP_a, tOrP_a, tyes_a, tno_a, tYesP_a, xNil_a, xCons_a, xTup_a, xLst_a, xAnd_a, xOr_a, xIf_a, xChain_a, oNo_a, oAt_a, xSl_a, xCall_a, xSeq_a, xIt_a, xLc_a, gSet_a, gTupD_a, gsNil_a, gsCons_a, sNop_a, sBrk_a, sCnt_a, sSeq_a, sRet_a, sIf_a, sSet_a, sTgt_a, sAug_a, sApp_a, sExt_a, sPut_a, sPutK_a, pkO_s, sFor_a, sWhile_a, sPar_a, runD_a, b2_s, c2_s, sqO_nx, sqO_rt, sqO_bk, sqO_ct, ifO_t, ifO_f, stO_s, endO_nx, endO_rt, andO_t, andO_f, orO_t, orO_f, chO_s, chP_t, chP_f, slO_s, atO_i, lcO_s, forO_s, gsO_s, nxO_s, tgO_s, paO_s, apO_s, exO_s, plO_s, ptO_s, dB_b, tru_b, tru_n, tru_i, tru_l, tru_t, is_n, isn_n, nn_n, nn_i, nn_b, nn_t, nn_l, add_ii, add'_ii, sub_ii, neg_i, lt_ii, le_ii, gt_ii, ge_ii, ix_l, ix_t, ix_s, at0, at1, at2, sl_l, sl_t, len_l, len_t, len_s, abs_i, int_i, int_b, max_ii, min_ii, tup_s, lst_s, seq_l, seq_t, sum_s, wipe_n, wipe_c, mul_ii, fdiv_ii, mod_ii, add_ll, add_tt, setAll, mkT, mkL, oNot, List.getD_cons_zero, List.getD_cons_succ, List.length_cons, List.length_nil, List.set_cons_zero, List.set_cons_succ, List.map_cons, List.map_nil, List.replicate, List.cons_append, List.nil_append, List.append_nil, Option.bind_some, Option.map_some, List.all_cons, List.all_nil, if_true, if_false, reduceIte, Nat.reduceAdd, Nat.reduceSub, Nat.reduceLT, Nat.reduceLeDiff, Nat.reduceEqDiff, decide_true, decide_false, Bool.and_true, Bool.and_self, Bool.true_and, Bool.not_true, Bool.not_false, ne_eq, not_true_eq_false, not_false_eq_true, Nat.zero_add, Bool.false_eq_true, and_self, true_and, and_true, f1, f2, eq_int, e, w]
theorem wSh_ok {W : List Sd} (hW : ∀ s ∈ W, Sm 9 s.1 ∧ Sm 9 s.2) {c : Int} (hc : Sm 9 c) : OkS (wSh W c) := fun s hs => by
  obtain ⟨t, ht, rfl⟩ := List.mem_map.mp hs
  exact ⟨(hW t ht).1.add hc, (hW t ht).2.mono (by omega)⟩
theorem span_of_eq {W : List Sd} (hW : ∀ s ∈ W, Sm 9 s.1 ∧ Sm 9 s.2) (hl : W.length ≤ 10) (h0 : 0 ≤ wT W) {way : Int} (hw : Sm 9 way) : d_span_of [.tuple (W.map enc), .int way] = some (if wT W = 0 then .none else .tuple [rd ((wU W : Rat) / (wT W : Rat) + ((-way : Int) : Rat)), rd ((wU W : Rat) / (wT W : Rat) + (way : Rat))]) := by
  have hOk : OkS W := fun s hs => ⟨(hW s hs).1.mono (by omega), (hW s hs).2.mono (by omega)⟩
  have f1 : d_weight_sum [.tuple (W.map enc)] = some (.int (wT W)) := weight_sum_eq false hOk
  by_cases hz : wT W = 0
  · rw [if_pos hz]
    rw [hz] at f1
    have e : decide ((0 : Int) = 0) = true := rfl
    generalize W.map enc = MW at *
    simp -implicitDefEqProofs only [d_span_of, g_span_of, xVar_a, xC_a, xBin_a, xUn_a, tOf_a, tTru_a, tNotP_a, tAndP_a, tOrP_a, tyes_a, tno_a, tYesP_a, xNil_a, xCons_a, xTup_a, xLst_a, xAnd_a, xOr_a, xIf_a, xChain_a, oNo_a, oAt_a, xSl_a, xCall_a, xSeq_a, xIt_a, xLc_a, gSet_a, gTupD_a, gsNil_a, gsCons_a, sNop_a, sBrk_a, sCnt_a, sSeq_a, sRet_a, sIf_a, sSet_a, sTgt_a, sAug_a, sApp_a, sExt_a, sPut_a, sPutK_a, pkO_s, sFor_a, sWhile_a, sPar_a, runD_a, b2_s, c2_s, sqO_nx, sqO_rt, sqO_bk, sqO_ct, ifO_t, ifO_f, stO_s, endO_nx, endO_rt, andO_t, andO_f, orO_t, orO_f, chO_s, chP_t, chP_f, slO_s, atO_i, lcO_s, forO_s, gsO_s, nxO_s, tgO_s, paO_s, apO_s, exO_s, plO_s, ptO_s, dB_b, tru_b, tru_n, tru_i, tru_l, tru_t, is_n, isn_n, nn_n, nn_i, nn_b, nn_t, nn_l, add_ii, add'_ii, sub_ii, neg_i, lt_ii, le_ii, gt_ii, ge_ii, ix_l, ix_t, ix_s, at0, at1, at2, sl_l, sl_t, len_l, len_t, len_s, abs_i, int_i, int_b, max_ii, min_ii, tup_s, lst_s, seq_l, seq_t, sum_s, wipe_n, wipe_c, mul_ii, fdiv_ii, mod_ii, add_ll, add_tt, setAll, mkT, mkL, oNot, List.getD_cons_zero, List.getD_cons_succ, List.length_cons, List.length_nil, List.set_cons_zero, List.set_cons_succ, List.map_cons, List.map_nil, List.replicate, List.cons_append, List.nil_append, List.append_nil, Option.bind_some, Option.map_some, List.all_cons, List.all_nil, if_true, if_false, reduceIte, Nat.reduceAdd, Nat.reduceSub, Nat.reduceLT, Nat.reduceLeDiff, Nat.reduceEqDiff, decide_true, decide_false, Bool.and_true, Bool.and_self, Bool.true_and, Bool.not_true, Bool.not_false, ne_eq, not_true_eq_false, not_false_eq_true, Nat.zero_add, Bool.false_eq_true, and_self, true_and, and_true, f1, eq_int, e]
  · rw [if_neg hz]
    have hp : 0 < wT W := by omega
    have e : decide (wT W = 0) = false := decide_eq_false hz
    have key : ∀ c : Int, Sm 9 c → d_weight_middle [.list ((wSh W c).map enc)] = some (rd ((wU W : Rat) / (wT W : Rat) + (c : Rat))) := fun c hc => by
      have h := weight_middle_eq true (wSh_ok hW hc) (by unfold wSh; rw [List.length_map]; exact hl) (by rw [wSh_T]; exact hp)
      rw [wSh_T, wSh_U] at h
      have hne : (wT W : Rat) ≠ 0 := by have := cast_pos hp; grind
      have e : ((wU W + c * wT W : Int) : Rat) / (wT W : Rat) = (wU W : Rat) / (wT W : Rat) + (c : Rat) := by
        push_cast
        grind
      rw [e] at h
      exact h
    have l1 : ∀ ρ : PEnv, ρ.length = 6 → ρ.getD 1 none = some (.int way) → lcL (gTupD 2 (gsCons (gSet 4) (gsCons (gSet 5) gsNil))) tYesP (xTup (xCons (xBin oSub (xVar 4) (xVar 1)) (xCons (xVar 5) xNil))) ρ (W.map enc) = some ((wSh W (-way)).map enc) ∧ lcL (gTupD 2 (gsCons (gSet 4) (gsCons (gSet 5) gsNil))) tYesP (xTup (xCons (xBin oAdd (xVar 4) (xVar 1)) (xCons (xVar 5) xNil))) ρ (W.map enc) = some ((wSh W way).map enc) := fun ρ hρ h1 => by
      match ρ, hρ with
      | [r0, r1, r2, r3, r4, r5], _ =>
        simp only [List.getD_cons_succ, List.getD_cons_zero] at h1
        subst h1
        unfold wSh
        rw [List.map_map, List.map_map]
        refine ⟨lcL_map _ _ _ fun s hs => ?_, lcL_map _ _ _ fun s hs => ?_⟩
        · have : s.1 + -way = s.1 - way := by omega
          simp -implicitDefEqProofs only [enc, Function.comp, xVar_a, xC_a, xBin_a, xUn_a, tOf_a, tTru_a, tNotP_a, tAndP_a, tOrP_a, tyes_a, tno_a, tYesP_a, xNil_a, xCons_a, xTup_a, xLst_a, xAnd_a, xOr_a, xIf_a, xChain_a, oNo_a, oAt_a, xSl_a, xCall_a, xSeq_a, xIt_a, xLc_a, gSet_a, gTupD_a, gsNil_a, gsCons_a, sNop_a, sBrk_a, sCnt_a, sSeq_a, sRet_a, sIf_a, sSet_a, sTgt_a, sAug_a, sApp_a, sExt_a, sPut_a, sPutK_a, pkO_s, sFor_a, sWhile_a, sPar_a, runD_a, b2_s, c2_s, sqO_nx, sqO_rt, sqO_bk, sqO_ct, ifO_t, ifO_f, stO_s, endO_nx, endO_rt, andO_t, andO_f, orO_t, orO_f, chO_s, chP_t, chP_f, slO_s, atO_i, lcO_s, forO_s, gsO_s, nxO_s, tgO_s, paO_s, apO_s, exO_s, plO_s, ptO_s, dB_b, tru_b, tru_n, tru_i, tru_l, tru_t, is_n, isn_n, nn_n, nn_i, nn_b, nn_t, nn_l, add_ii, add'_ii, sub_ii, neg_i, lt_ii, le_ii, gt_ii, ge_ii, ix_l, ix_t, ix_s, at0, at1, at2, sl_l, sl_t, len_l, len_t, len_s, abs_i, int_i, int_b, max_ii, min_ii, tup_s, lst_s, seq_l, seq_t, sum_s, wipe_n, wipe_c, mul_ii, fdiv_ii, mod_ii, add_ll, add_tt, setAll, mkT, mkL, oNot, List.getD_cons_zero, List.getD_cons_succ, List.length_cons, List.length_nil, List.set_cons_zero, List.set_cons_succ, List.map_cons, List.map_nil, List.replicate, List.cons_append, List.nil_append, List.append_nil, Option.bind_some, Option.map_some, List.all_cons, List.all_nil, if_true, if_false, reduceIte, Nat.reduceAdd, Nat.reduceSub, Nat.reduceLT, Nat.reduceLeDiff, Nat.reduceEqDiff, decide_true, decide_false, Bool.and_true, Bool.and_self, Bool.true_and, Bool.not_true, Bool.not_false, ne_eq, not_true_eq_false, not_false_eq_true, Nat.zero_add, Bool.false_eq_true, and_self, true_and, and_true, this]
        · simp -implicitDefEqProofs only [enc, Function.comp, xVar_a, xC_a, xBin_a, xUn_a, tOf_a, tTru_a, tNotP_a, tAndP_a, tOrP_a, tyes_a, tno_a, tYesP_a, xNil_a, xCons_a, xTup_a, xLst_a, xAnd_a, xOr_a, xIf_a, xChain_a, oNo_a, oAt_a, xSl_a, xCall_a, xSeq_a, xIt_a, xLc_a, gSet_a, gTupD_a, gsNil_a, gsCons_a, sNop_a, sBrk_a, sCnt_a, sSeq_a, sRet_a, sIf_a, sSet_a, sTgt_a, sAug_a, sApp_a, sExt_a, sPut_a, sPutK_a, pkO_s, sFor_a, sWhile_a, sPar_a, runD_a, b2_s, c2_s, sqO_nx, sqO_rt, sqO_bk, sqO_ct, ifO_t, ifO_f, stO_s, endO_nx, endO_rt, andO_t, andO_f, orO_t, orO_f, chO_s, chP_t, chP_f, slO_s, atO_i, lcO_s, forO_s, gsO_s, nxO_s, tgO_s, paO_s, apO_s, exO_s, plO_s, ptO_s, dB_b, tru_b, tru_n, tru_i, tru_l, tru_t, is_n, isn_n, nn_n, nn_i, nn_b, nn_t, nn_l, add_ii, add'_ii, sub_ii, neg_i, lt_ii, le_ii, gt_ii, ge_ii, ix_l, ix_t, ix_s, at0, at1, at2, sl_l, sl_t, len_l, len_t, len_s, abs_i, int_i, int_b, max_ii, min_ii, tup_s, lst_s, seq_l, seq_t, sum_s, wipe_n, wipe_c, mul_ii, fdiv_ii, mod_ii, add_ll, add_tt, setAll, mkT, mkL, oNot, List.getD_cons_zero, List.getD_cons_succ, List.length_cons, List.length_nil, List.set_cons_zero, List.set_cons_succ, List.map_cons, List.map_nil, List.replicate, List.cons_append, List.nil_append, List.append_nil, Option.bind_some, Option.map_some, List.all_cons, List.all_nil, if_true, if_false, reduceIte, Nat.reduceAdd, Nat.reduceSub, Nat.reduceLT, Nat.reduceLeDiff, Nat.reduceEqDiff, decide_true, decide_false, Bool.and_true, Bool.and_self, Bool.true_and, Bool.not_true, Bool.not_false, ne_eq, not_true_eq_false, not_false_eq_true, Nat.zero_add, Bool.false_eq_true, and_self, true_and, and_true]
    have L1 := fun ρ h h' => (l1 ρ h h').1
    have L2' := fun ρ h h' => (l1 ρ h h').2
    have k1 := key (-way) hw.neg
    have k2 := key way hw
    generalize (wU W : Rat) / (wT W : Rat) + ((-way : Int) : Rat) = v1 at *
    generalize (wU W : Rat) / (wT W : Rat) + (way : Rat) = v2 at *
    generalize (wSh W (-way)).map enc = M1 at *
    generalize (wSh W way).map enc = M2 at *
    generalize W.map enc = MW at *
    simp -implicitDefEqProofs only [d_span_of, g_span_of, xVar_a, xC_a, xBin_a, xUn_a, tOf_a, tTru_a, tNotP_a, tAndP_a, tOrP_a, tyes_a, tno_a, tYesP_a, xNil_a, xCons_a, xTup_a, xLst_a, xAnd_a, xOr_a, xIf_a, xChain_a, oNo_a, oAt_a, xSl_a, xCall_a, xSeq_a, xIt_a, xLc_a, gSet_a, gTupD_a, gsNil_a, gsCons_a, sNop_a, sBrk_a, sCnt_a, sSeq_a, sRet_a, sIf_a, sSet_a, sTgt_a, sAug_a, sApp_a, sExt_a, sPut_a, sPutK_a, pkO_s, sFor_a, sWhile_a, sPar_a, runD_a, b2_s, c2_s, sqO_nx, sqO_rt, sqO_bk, sqO_ct, ifO_t, ifO_f, stO_s, endO_nx, endO_rt, andO_t, andO_f, orO_t, orO_f, chO_s, chP_t, chP_f, slO_s, atO_i, lcO_s, forO_s, gsO_s, nxO_s, tgO_s, paO_s, apO_s, exO_s, plO_s, ptO_s, dB_b, tru_b, tru_n, tru_i, tru_l, tru_t, is_n, isn_n, nn_n, nn_i, nn_b, nn_t, nn_l, add_ii, add'_ii, sub_ii, neg_i, lt_ii, le_ii, gt_ii, ge_ii, ix_l, ix_t, ix_s, at0, at1, at2, sl_l, sl_t, len_l, len_t, len_s, abs_i, int_i, int_b, max_ii, min_ii, tup_s, lst_s, seq_l, seq_t, sum_s, wipe_n, wipe_c, mul_ii, fdiv_ii, mod_ii, add_ll, add_tt, setAll, mkT, mkL, oNot, List.getD_cons_zero, List.getD_cons_succ, List.length_cons, List.length_nil, List.set_cons_zero, List.set_cons_succ, List.map_cons, List.map_nil, List.replicate, List.cons_append, List.nil_append, List.append_nil, Option.bind_some, Option.map_some, List.all_cons, List.all_nil, if_true, if_false, reduceIte, Nat.reduceAdd, Nat.reduceSub, Nat.reduceLT, Nat.reduceLeDiff, Nat.reduceEqDiff, decide_true, decide_false, Bool.and_true, Bool.and_self, Bool.true_and, Bool.not_true, Bool.not_false, ne_eq, not_true_eq_false, not_false_eq_true, Nat.zero_add, Bool.false_eq_true, and_self, true_and, and_true, f1, eq_int, e, L1, L2', k1, k2, flat_rd]
theorem weighed_ok {W : List Sd} (hW : ∀ s ∈ W, Sm 9 s.1 ∧ Sm 9 s.2 ∧ 0 ≤ s.2) (hl : W.length ≤ 10) {way : Int} (hw : Sm 9 way) : d__law_weighed [.tuple (W.map enc), .int way] = some (.bool true) := by
  have hOk : OkS W := fun s hs => ⟨(hW s hs).1.mono (by omega), (hW s hs).2.1.mono (by omega)⟩
  have h0 := wT_nonneg (W := W) fun s hs => (hW s hs).2.2
  have a3 := fun ρ hρ => (sums_w hOk 7 5 6 (by decide) (by decide) (by decide) ρ hρ).1
  have a4 := fun ρ hρ => (sums_w hOk 7 5 6 (by decide) (by decide) (by decide) ρ hρ).2
  have a5 : bSum [.list (W.map fun s => PyData.int s.2)] = some (.int (wT W)) := sum_f W fun s => s.2
  have a6 : bSum [.list (W.map fun s => PyData.int (s.1 * s.2))] = some (.int (wU W)) := sum_f W fun s => s.1 * s.2
  have sp := span_of_eq (fun s hs => ⟨(hW s hs).1, (hW s hs).2.1⟩) hl h0 hw
  by_cases hz : wT W = 0
  · rw [if_pos hz] at sp
    rw [hz] at a5
    have e : decide ((0 : Int) = 0) = true := rfl
    generalize (W.map fun s => PyData.int s.2) = N2 at *
    generalize (W.map fun s => PyData.int (s.1 * s.2)) = N3 at *
    generalize W.map enc = MW at *
    simp -implicitDefEqProofs only [d__law_weighed, g__law_weighed, xVar_a, xC_a, xBin_a, xUn_a, tOf_a, tTru_a, tNotP_a, tAndP_a, tOrP_a, tyes_a, tno_a, tYesP_a, xNil_a, xCons_a, xTup_a, xLst_a, xAnd_a, xOr_a, xIf_a, xChain_a, oNo_a, oAt_a, xSl_a, xCall_a, xSeq_a, xIt_a, xLc_a, gSet_a, gTupD_a, gsNil_a, gsCons_a, sNop_a, sBrk_a, sCnt_a, sSeq_a, sRet_a, sIf_a, sSet_a, sTgt_a, sAug_a, sApp_a, sExt_a, sPut_a, sPutK_a, pkO_s, sFor_a, sWhile_a, sPar_a, runD_a, b2_s, c2_s, sqO_nx, sqO_rt, sqO_bk, sqO_ct, ifO_t, ifO_f, stO_s, endO_nx, endO_rt, andO_t, andO_f, orO_t, orO_f, chO_s, chP_t, chP_f, slO_s, atO_i, lcO_s, forO_s, gsO_s, nxO_s, tgO_s, paO_s, apO_s, exO_s, plO_s, ptO_s, dB_b, tru_b, tru_n, tru_i, tru_l, tru_t, is_n, isn_n, nn_n, nn_i, nn_b, nn_t, nn_l, add_ii, add'_ii, sub_ii, neg_i, lt_ii, le_ii, gt_ii, ge_ii, ix_l, ix_t, ix_s, at0, at1, at2, sl_l, sl_t, len_l, len_t, len_s, abs_i, int_i, int_b, max_ii, min_ii, tup_s, lst_s, seq_l, seq_t, sum_s, wipe_n, wipe_c, mul_ii, fdiv_ii, mod_ii, add_ll, add_tt, setAll, mkT, mkL, oNot, List.getD_cons_zero, List.getD_cons_succ, List.length_cons, List.length_nil, List.set_cons_zero, List.set_cons_succ, List.map_cons, List.map_nil, List.replicate, List.cons_append, List.nil_append, List.append_nil, Option.bind_some, Option.map_some, List.all_cons, List.all_nil, if_true, if_false, reduceIte, Nat.reduceAdd, Nat.reduceSub, Nat.reduceLT, Nat.reduceLeDiff, Nat.reduceEqDiff, decide_true, decide_false, Bool.and_true, Bool.and_self, Bool.true_and, Bool.not_true, Bool.not_false, ne_eq, not_true_eq_false, not_false_eq_true, Nat.zero_add, Bool.false_eq_true, and_self, true_and, and_true, a3, a4, a5, a6, eq_int, e, sp]
  · rw [if_neg hz] at sp
    have hp : 0 < wT W := by omega
    have e : decide (wT W = 0) = false := decide_eq_false hz
    have w := ratio_rd (wU W) (wT W) hp ((wT_sm hOk hl).mono (by omega))
    have wm : d_weight_middle [.tuple (W.map enc)] = some (rd ((wU W : Rat) / (wT W : Rat))) := weight_middle_eq false hOk hl hp
    have lk := like_rd 6 ((wU W : Rat) / (wT W : Rat))
    have sv : SR 30 ((wU W : Rat) / (wT W : Rat)) := SR.div (wU_sm hOk hl) ((wT_sm hOk hl).mono (by omega)) hp
    have s1 := law_sum2 (sv.mono (k := 600) (by omega)) (SR.int (k := 600) (hw.neg.mono (by omega)))
    have s2 := law_sum2 (sv.mono (k := 600) (by omega)) (SR.int (k := 600) (hw.mono (by omega)))
    rw [rd_int] at s1 s2
    have lk2 := like_rr 5 ((wU W : Rat) / (wT W : Rat) + ((-way : Int) : Rat)) ((wU W : Rat) / (wT W : Rat) + (way : Rat))
    have hfb : flat (.bool true) = true := rfl
    generalize (wU W : Rat) / (wT W : Rat) + ((-way : Int) : Rat) = v1 at *
    generalize (wU W : Rat) / (wT W : Rat) + (way : Rat) = v2 at *
    generalize (wU W : Rat) / (wT W : Rat) = v3 at *
    generalize (W.map fun s => PyData.int s.2) = N2 at *
    generalize (W.map fun s => PyData.int (s.1 * s.2)) = N3 at *
    generalize W.map enc = MW at *
    simp -implicitDefEqProofs only [d__law_weighed, g__law_weighed, xVar_a, xC_a, xBin_a, xUn_a, tOf_a, tTru_a, tNotP_a, tAndP_a, tOrP_a, tyes_a, tno_a, tYesP_a, xNil_a, xCons_a, xTup_a, xLst_a, xAnd_a, xOr_a, xIf_a, xChain_a, oNo_a, oAt_a, xSl_a, xCall_a, xSeq_a, xIt_a, xLc_a, gSet_a, gTupD_a, gsNil_a, gsCons_a, sNop_a, sBrk_a, sCnt_a, sSeq_a, sRet_a, sIf_a, sSet_a, sTgt_a, sAug_a, sApp_a, sExt_a, sPut_a, sPutK_a, pkO_s, sFor_a, sWhile_a, sPar_a, runD_a, b2_s, c2_s, sqO_nx, sqO_rt, sqO_bk, sqO_ct, ifO_t, ifO_f, stO_s, endO_nx, endO_rt, andO_t, andO_f, orO_t, orO_f, chO_s, chP_t, chP_f, slO_s, atO_i, lcO_s, forO_s, gsO_s, nxO_s, tgO_s, paO_s, apO_s, exO_s, plO_s, ptO_s, dB_b, tru_b, tru_n, tru_i, tru_l, tru_t, is_n, isn_n, nn_n, nn_i, nn_b, nn_t, nn_l, add_ii, add'_ii, sub_ii, neg_i, lt_ii, le_ii, gt_ii, ge_ii, ix_l, ix_t, ix_s, at0, at1, at2, sl_l, sl_t, len_l, len_t, len_s, abs_i, int_i, int_b, max_ii, min_ii, tup_s, lst_s, seq_l, seq_t, sum_s, wipe_n, wipe_c, mul_ii, fdiv_ii, mod_ii, add_ll, add_tt, setAll, mkT, mkL, oNot, List.getD_cons_zero, List.getD_cons_succ, List.length_cons, List.length_nil, List.set_cons_zero, List.set_cons_succ, List.map_cons, List.map_nil, List.replicate, List.cons_append, List.nil_append, List.append_nil, Option.bind_some, Option.map_some, List.all_cons, List.all_nil, if_true, if_false, reduceIte, Nat.reduceAdd, Nat.reduceSub, Nat.reduceLT, Nat.reduceLeDiff, Nat.reduceEqDiff, decide_true, decide_false, Bool.and_true, Bool.and_self, Bool.true_and, Bool.not_true, Bool.not_false, ne_eq, not_true_eq_false, not_false_eq_true, Nat.zero_add, Bool.false_eq_true, and_self, true_and, and_true, a3, a4, a5, a6, eq_int, e, w, flat_rd, wm, lk, hfb, sp, s1, s2, lk2]
end K24

namespace K24
open PySem PySem.Spec PyProof.Rows L2 Pm
/-! bends -/
def bnd (xs : List Rat) : List Rat := (List.range (xs.length - 2)).map fun k => xs.getD k 0 + xs.getD (k + 2) 0 - 2 * xs.getD (k + 1) 0
theorem isi_rd (x : Rat) : oIsi "tuple" (rd x) = some (.bool true) := ist2 _
theorem rds_at (xs : List Rat) {k : Nat} (h : k < xs.length) : atI (xs.map rd) (k : Int) = some (rd (xs.getD k 0)) := by
  rw [atI_nat _ k (by rw [List.length_map]; exact h)]
  simp [h]
theorem getD_mem' {α : Type} {xs : List α} {k : Nat} {d : α} (h : k < xs.length) : xs.getD k d ∈ xs := by
  rw [List.getD_eq_getElem?_getD, List.getElem?_eq_getElem h]
  exact List.getElem_mem h
theorem bends_of_gen {ds : List D} {xs : List Rat} (hx : ∀ x ∈ xs, SR 60 x) (h2 : 2 ≤ xs.length) (hl : xs.length ≤ 100)
    (hc : ∀ ρ : PEnv, ρ.length = 4 → lcL (gSet 2) tYesP (xIf (tTru (xUn (oIsi "tuple") (xVar 2))) (xVar 2) (xCall (fun ds => if ds.length = 1 then (d_whole) ds else none) (xCons (xVar 2) xNil))) ρ ds = some (xs.map rd)) : d_bends_of [.tuple ds] = some (.tuple ((bnd xs).map rd)) := by
  have hR : oR1 [.int (((xs.map rd).length : Int) - 2)] = some ((List.range (xs.length - 2)).map fun i => PyData.int (i : Nat)) := by
    have := oR1_nat (xs.length - 2) (by omega)
    rwa [show (((xs.length - 2 : Nat)) : Int) = ((xs.map rd).length : Int) - 2 by rw [List.length_map]; omega] at this
  have hl2 : ∀ ρ : PEnv, ρ.length = 4 → ρ.getD 1 none = some (.list (xs.map rd)) → lcL (gSet 3) tYesP (xCall (fun ds => if ds.length = 2 then (d_minus) ds else none) (xCons (xCall (fun ds => if ds.length = 2 then (d_plus) ds else none) (xCons (xBin oIx (xVar 1) (xVar 3)) (xCons (xBin oIx (xVar 1) (xBin oAdd (xVar 3) (xC (.int 2)))) xNil))) (xCons (xCall (fun ds => if ds.length = 2 then (d_times) ds else none) (xCons (xCall (fun ds => if ds.length = 1 then (d_whole) ds else none) (xCons (xC (.int 2)) xNil)) (xCons (xBin oIx (xVar 1) (xBin oAdd (xVar 3) (xC (.int 1)))) xNil))) xNil))) ρ ((List.range (xs.length - 2)).map fun i => PyData.int (i : Nat)) = some ((bnd xs).map rd) := fun ρ hρ h1 => by
    match ρ, hρ with
    | [r0, r1, r2, r3], _ =>
      simp only [List.getD_cons_succ, List.getD_cons_zero] at h1
      subst h1
      unfold bnd
      rw [List.map_map]
      refine lcL_map _ _ _ fun k hk => ?_
      have hk' : k < xs.length - 2 := by simpa using hk
      have i0 := rds_at xs (k := k) (by omega)
      have i1 : atI (xs.map rd) ((k : Int) + 1) = some (rd (xs.getD (k + 1) 0)) := rds_at xs (k := k + 1) (by omega)
      have i2 : atI (xs.map rd) ((k : Int) + 2) = some (rd (xs.getD (k + 2) 0)) := rds_at xs (k := k + 2) (by omega)
      have s0 := hx _ (getD_mem' (d := 0) (show k < xs.length by omega))
      have s1 := hx _ (getD_mem' (d := 0) (show k + 1 < xs.length by omega))
      have s2 := hx _ (getD_mem' (d := 0) (show k + 2 < xs.length by omega))
      have q1 := plus_rd (s0.mono (k := 900) (by omega)) (s2.mono (by omega))
      have q2 : d_times [.tuple [.int 2, .int 1], rd (xs.getD (k + 1) 0)] = some (rd (2 * xs.getD (k + 1) 0)) := times_rd (x := 2) (SR.int (p := 2) (k := 900) Sm.lit) (s1.mono (by omega))
      have q3 := minus_rd ((s0.add s2).mono (k := 900) (by omega)) (((SR.int (p := 2) (k := 10) Sm.lit).mul s1).mono (k := 900) (by omega))
      have q3' : d_minus [rd (xs.getD k 0 + xs.getD (k + 2) 0), rd (2 * xs.getD (k + 1) 0)] = some (rd (xs.getD k 0 + xs.getD (k + 2) 0 - 2 * xs.getD (k + 1) 0)) := q3
      have w2 : d_whole [.int 2] = some (.tuple [.int 2, .int 1]) := rfl
      simp only [Function.comp]
      generalize xs.map rd = M at *
      generalize xs.getD k 0 = x0 at *
      generalize xs.getD (k + 1) 0 = x1 at *
      generalize xs.getD (k + 2) 0 = x2 at *
      simp -implicitDefEqProofs only [xVar_a, xC_a, xBin_a, xUn_a, tOf_a, tTru_a, tNotP_a, tAndP_a, tOrP_a, tyes_a, tno_a, tYesP_a, xNil_a, xCons_a, xTup_a, xLst_a, xAnd_a, xOr_a, xIf_a, xChain_a, oNo_a, oAt_a, xSl_a, xCall_a, xSeq_a, xIt_a, xLc_a, gSet_a, gTupD_a, gsNil_a, gsCons_a, sNop_a, sBrk_a, sCnt_a, sSeq_a, sRet_a, sIf_a, sSet_a, sTgt_a, sAug_a, sApp_a, sExt_a, sPut_a, sPutK_a, pkO_s, sFor_a, sWhile_a, sPar_a, runD_a, b2_s, c2_s, sqO_nx, sqO_rt, sqO_bk, sqO_ct, ifO_t, ifO_f, stO_s, endO_nx, endO_rt, andO_t, andO_f, orO_t, orO_f, chO_s, chP_t, chP_f, slO_s, atO_i, lcO_s, forO_s, gsO_s, nxO_s, tgO_s, paO_s, apO_s, exO_s, plO_s, ptO_s, dB_b, tru_b, tru_n, tru_i, tru_l, tru_t, is_n, isn_n, nn_n, nn_i, nn_b, nn_t, nn_l, add_ii, add'_ii, sub_ii, neg_i, lt_ii, le_ii, gt_ii, ge_ii, ix_l, ix_t, ix_s, at0, at1, at2, sl_l, sl_t, len_l, len_t, len_s, abs_i, int_i, int_b, max_ii, min_ii, tup_s, lst_s, seq_l, seq_t, sum_s, wipe_n, wipe_c, mul_ii, fdiv_ii, mod_ii, add_ll, add_tt, setAll, mkT, mkL, oNot, List.getD_cons_zero, List.getD_cons_succ, List.length_cons, List.length_nil, List.set_cons_zero, List.set_cons_succ, List.map_cons, List.map_nil, List.replicate, List.cons_append, List.nil_append, List.append_nil, Option.bind_some, Option.map_some, List.all_cons, List.all_nil, if_true, if_false, reduceIte, Nat.reduceAdd, Nat.reduceSub, Nat.reduceLT, Nat.reduceLeDiff, Nat.reduceEqDiff, decide_true, decide_false, Bool.and_true, Bool.and_self, Bool.true_and, Bool.not_true, Bool.not_false, ne_eq, not_true_eq_false, not_false_eq_true, Nat.zero_add, Bool.false_eq_true, and_self, true_and, and_true, i0, i1, i2, q1, w2, q2, q3']
  generalize (List.range (xs.length - 2)).map (fun i => PyData.int (i : Nat)) = RR at *
  generalize (bnd xs).map rd = BB at *
  generalize xs.map rd = M at *
  simp -implicitDefEqProofs only [d_bends_of, g_bends_of, xVar_a, xC_a, xBin_a, xUn_a, tOf_a, tTru_a, tNotP_a, tAndP_a, tOrP_a, tyes_a, tno_a, tYesP_a, xNil_a, xCons_a, xTup_a, xLst_a, xAnd_a, xOr_a, xIf_a, xChain_a, oNo_a, oAt_a, xSl_a, xCall_a, xSeq_a, xIt_a, xLc_a, gSet_a, gTupD_a, gsNil_a, gsCons_a, sNop_a, sBrk_a, sCnt_a, sSeq_a, sRet_a, sIf_a, sSet_a, sTgt_a, sAug_a, sApp_a, sExt_a, sPut_a, sPutK_a, pkO_s, sFor_a, sWhile_a, sPar_a, runD_a, b2_s, c2_s, sqO_nx, sqO_rt, sqO_bk, sqO_ct, ifO_t, ifO_f, stO_s, endO_nx, endO_rt, andO_t, andO_f, orO_t, orO_f, chO_s, chP_t, chP_f, slO_s, atO_i, lcO_s, forO_s, gsO_s, nxO_s, tgO_s, paO_s, apO_s, exO_s, plO_s, ptO_s, dB_b, tru_b, tru_n, tru_i, tru_l, tru_t, is_n, isn_n, nn_n, nn_i, nn_b, nn_t, nn_l, add_ii, add'_ii, sub_ii, neg_i, lt_ii, le_ii, gt_ii, ge_ii, ix_l, ix_t, ix_s, at0, at1, at2, sl_l, sl_t, len_l, len_t, len_s, abs_i, int_i, int_b, max_ii, min_ii, tup_s, lst_s, seq_l, seq_t, sum_s, wipe_n, wipe_c, mul_ii, fdiv_ii, mod_ii, add_ll, add_tt, setAll, mkT, mkL, oNot, List.getD_cons_zero, List.getD_cons_succ, List.length_cons, List.length_nil, List.set_cons_zero, List.set_cons_succ, List.map_cons, List.map_nil, List.replicate, List.cons_append, List.nil_append, List.append_nil, Option.bind_some, Option.map_some, List.all_cons, List.all_nil, if_true, if_false, reduceIte, Nat.reduceAdd, Nat.reduceSub, Nat.reduceLT, Nat.reduceLeDiff, Nat.reduceEqDiff, decide_true, decide_false, Bool.and_true, Bool.and_self, Bool.true_and, Bool.not_true, Bool.not_false, ne_eq, not_true_eq_false, not_false_eq_true, Nat.zero_add, Bool.false_eq_true, and_self, true_and, and_true, hc, hR, hl2]
theorem bends_of_rd {xs : List Rat} (hx : ∀ x ∈ xs, SR 60 x) (h2 : 2 ≤ xs.length) (hl : xs.length ≤ 100) : d_bends_of [.tuple (xs.map rd)] = some (.tuple ((bnd xs).map rd)) := by
  refine bends_of_gen hx h2 hl fun ρ hρ => ?_
  match ρ, hρ with
  | [r0, r1, r2, r3], _ =>
    refine lcL_map _ _ _ fun x hx => ?_
    have hi := isi_rd x
    simp -implicitDefEqProofs only [xVar_a, xC_a, xBin_a, xUn_a, tOf_a, tTru_a, tNotP_a, tAndP_a, tOrP_a, tyes_a, tno_a, tYesP_a, xNil_a, xCons_a, xTup_a, xLst_a, xAnd_a, xOr_a, xIf_a, xChain_a, oNo_a, oAt_a, xSl_a, xCall_a, xSeq_a, xIt_a, xLc_a, gSet_a, gTupD_a, gsNil_a, gsCons_a, sNop_a, sBrk_a, sCnt_a, sSeq_a, sRet_a, sIf_a, sSet_a, sTgt_a, sAug_a, sApp_a, sExt_a, sPut_a, sPutK_a, pkO_s, sFor_a, sWhile_a, sPar_a, runD_a, b2_s, c2_s, sqO_nx, sqO_rt, sqO_bk, sqO_ct, ifO_t, ifO_f, stO_s, endO_nx, endO_rt, andO_t, andO_f, orO_t, orO_f, chO_s, chP_t, chP_f, slO_s, atO_i, lcO_s, forO_s, gsO_s, nxO_s, tgO_s, paO_s, apO_s, exO_s, plO_s, ptO_s, dB_b, tru_b, tru_n, tru_i, tru_l, tru_t, is_n, isn_n, nn_n, nn_i, nn_b, nn_t, nn_l, add_ii, add'_ii, sub_ii, neg_i, lt_ii, le_ii, gt_ii, ge_ii, ix_l, ix_t, ix_s, at0, at1, at2, sl_l, sl_t, len_l, len_t, len_s, abs_i, int_i, int_b, max_ii, min_ii, tup_s, lst_s, seq_l, seq_t, sum_s, wipe_n, wipe_c, mul_ii, fdiv_ii, mod_ii, add_ll, add_tt, setAll, mkT, mkL, oNot, List.getD_cons_zero, List.getD_cons_succ, List.length_cons, List.length_nil, List.set_cons_zero, List.set_cons_succ, List.map_cons, List.map_nil, List.replicate, List.cons_append, List.nil_append, List.append_nil, Option.bind_some, Option.map_some, List.all_cons, List.all_nil, if_true, if_false, reduceIte, Nat.reduceAdd, Nat.reduceSub, Nat.reduceLT, Nat.reduceLeDiff, Nat.reduceEqDiff, decide_true, decide_false, Bool.and_true, Bool.and_self, Bool.true_and, Bool.not_true, Bool.not_false, ne_eq, not_true_eq_false, not_false_eq_true, Nat.zero_add, Bool.false_eq_true, and_self, true_and, and_true, hi]
theorem bends_of_int {P : List Int} (hP : ∀ p ∈ P, Sm 10 p) (h2 : 2 ≤ P.length) (hl : P.length ≤ 100) : d_bends_of [.tuple (P.map PyData.int)] = some (.tuple ((bnd (P.map fun p : Int => (p : Rat))).map rd)) := by
  refine bends_of_gen (fun x hx => ?_) (by rw [List.length_map]; exact h2) (by rw [List.length_map]; exact hl) fun ρ hρ => ?_
  · obtain ⟨p, hp, rfl⟩ := List.mem_map.mp hx
    exact SR.int ((hP p hp).mono (by omega))
  · match ρ, hρ with
    | [r0, r1, r2, r3], _ =>
      rw [List.map_map]
      refine lcL_map _ _ _ fun p hp => ?_
      have hi := isi2 p
      have w := whole_rd p
      simp -implicitDefEqProofs only [Function.comp, xVar_a, xC_a, xBin_a, xUn_a, tOf_a, tTru_a, tNotP_a, tAndP_a, tOrP_a, tyes_a, tno_a, tYesP_a, xNil_a, xCons_a, xTup_a, xLst_a, xAnd_a, xOr_a, xIf_a, xChain_a, oNo_a, oAt_a, xSl_a, xCall_a, xSeq_a, xIt_a, xLc_a, gSet_a, gTupD_a, gsNil_a, gsCons_a, sNop_a, sBrk_a, sCnt_a, sSeq_a, sRet_a, sIf_a, sSet_a, sTgt_a, sAug_a, sApp_a, sExt_a, sPut_a, sPutK_a, pkO_s, sFor_a, sWhile_a, sPar_a, runD_a, b2_s, c2_s, sqO_nx, sqO_rt, sqO_bk, sqO_ct, ifO_t, ifO_f, stO_s, endO_nx, endO_rt, andO_t, andO_f, orO_t, orO_f, chO_s, chP_t, chP_f, slO_s, atO_i, lcO_s, forO_s, gsO_s, nxO_s, tgO_s, paO_s, apO_s, exO_s, plO_s, ptO_s, dB_b, tru_b, tru_n, tru_i, tru_l, tru_t, is_n, isn_n, nn_n, nn_i, nn_b, nn_t, nn_l, add_ii, add'_ii, sub_ii, neg_i, lt_ii, le_ii, gt_ii, ge_ii, ix_l, ix_t, ix_s, at0, at1, at2, sl_l, sl_t, len_l, len_t, len_s, abs_i, int_i, int_b, max_ii, min_ii, tup_s, lst_s, seq_l, seq_t, sum_s, wipe_n, wipe_c, mul_ii, fdiv_ii, mod_ii, add_ll, add_tt, setAll, mkT, mkL, oNot, List.getD_cons_zero, List.getD_cons_succ, List.length_cons, List.length_nil, List.set_cons_zero, List.set_cons_succ, List.map_cons, List.map_nil, List.replicate, List.cons_append, List.nil_append, List.append_nil, Option.bind_some, Option.map_some, List.all_cons, List.all_nil, if_true, if_false, reduceIte, Nat.reduceAdd, Nat.reduceSub, Nat.reduceLT, Nat.reduceLeDiff, Nat.reduceEqDiff, decide_true, decide_false, Bool.and_true, Bool.and_self, Bool.true_and, Bool.not_true, Bool.not_false, ne_eq, not_true_eq_false, not_false_eq_true, Nat.zero_add, Bool.false_eq_true, and_self, true_and, and_true, hi, w]
theorem bnd_sr {xs : List Rat} (hx : ∀ x ∈ xs, SR 20 x) (h2 : 2 ≤ xs.length) : ∀ x ∈ bnd xs, SR 75 x := fun x hx' => by
  obtain ⟨k, hk, rfl⟩ := List.mem_map.mp hx'
  have hk' : k < xs.length - 2 := by simpa using hk
  have s0 := hx _ (getD_mem' (d := 0) (show k < xs.length by omega))
  have s1 := hx _ (getD_mem' (d := 0) (show k + 1 < xs.length by omega))
  have s2 := hx _ (getD_mem' (d := 0) (show k + 2 < xs.length by omega))
  exact ((s0.add s2).sub ((SR.int (p := 2) (k := 10) Sm.lit).mul s1)).mono (by omega)
theorem fair_sum_gen {ds : D} {ys : List Rat} (hb : d_bends_of [ds] = some (.tuple (ys.map rd))) (hy : ∀ y ∈ ys, SR 55 y) (hl : ys.length ≤ 7) : d_fair_sum [ds] = some (rd (rs (ys.map fun y => y * y))) := by
  have hlc : ∀ ρ : PEnv, ρ.length = 2 → lcL (gSet 1) tYesP (xCall (fun ds => if ds.length = 2 then (d_times) ds else none) (xCons (xVar 1) (xCons (xVar 1) xNil))) ρ (ys.map rd) = some ((ys.map fun x => x * x).map rd) := fun ρ hρ => by
    match ρ, hρ with
    | [a, b], _ =>
      rw [List.map_map]
      refine lcL_map _ _ _ fun q hq => ?_
      have t := times_rd ((hy _ hq).mono (k := 900) (by omega)) ((hy _ hq).mono (k := 900) (by omega))
      simp -implicitDefEqProofs only [Function.comp, xVar_a, xC_a, xBin_a, xUn_a, tOf_a, tTru_a, tNotP_a, tAndP_a, tOrP_a, tyes_a, tno_a, tYesP_a, xNil_a, xCons_a, xTup_a, xLst_a, xAnd_a, xOr_a, xIf_a, xChain_a, oNo_a, oAt_a, xSl_a, xCall_a, xSeq_a, xIt_a, xLc_a, gSet_a, gTupD_a, gsNil_a, gsCons_a, sNop_a, sBrk_a, sCnt_a, sSeq_a, sRet_a, sIf_a, sSet_a, sTgt_a, sAug_a, sApp_a, sExt_a, sPut_a, sPutK_a, pkO_s, sFor_a, sWhile_a, sPar_a, runD_a, b2_s, c2_s, sqO_nx, sqO_rt, sqO_bk, sqO_ct, ifO_t, ifO_f, stO_s, endO_nx, endO_rt, andO_t, andO_f, orO_t, orO_f, chO_s, chP_t, chP_f, slO_s, atO_i, lcO_s, forO_s, gsO_s, nxO_s, tgO_s, paO_s, apO_s, exO_s, plO_s, ptO_s, dB_b, tru_b, tru_n, tru_i, tru_l, tru_t, is_n, isn_n, nn_n, nn_i, nn_b, nn_t, nn_l, add_ii, add'_ii, sub_ii, neg_i, lt_ii, le_ii, gt_ii, ge_ii, ix_l, ix_t, ix_s, at0, at1, at2, sl_l, sl_t, len_l, len_t, len_s, abs_i, int_i, int_b, max_ii, min_ii, tup_s, lst_s, seq_l, seq_t, sum_s, wipe_n, wipe_c, mul_ii, fdiv_ii, mod_ii, add_ll, add_tt, setAll, mkT, mkL, oNot, List.getD_cons_zero, List.getD_cons_succ, List.length_cons, List.length_nil, List.set_cons_zero, List.set_cons_succ, List.map_cons, List.map_nil, List.replicate, List.cons_append, List.nil_append, List.append_nil, Option.bind_some, Option.map_some, List.all_cons, List.all_nil, if_true, if_false, reduceIte, Nat.reduceAdd, Nat.reduceSub, Nat.reduceLT, Nat.reduceLeDiff, Nat.reduceEqDiff, decide_true, decide_false, Bool.and_true, Bool.and_self, Bool.true_and, Bool.not_true, Bool.not_false, ne_eq, not_true_eq_false, not_false_eq_true, Nat.zero_add, Bool.false_eq_true, and_self, true_and, and_true, t]
  have hs : d_summed [.list ((ys.map fun x => x * x).map rd)] = some (rd (rs (ys.map fun x => x * x))) := summed_rd true (xs := ys.map fun x => x * x) (fun x hx' => by
    obtain ⟨q, hq, rfl⟩ := List.mem_map.mp hx'
    exact (hy _ hq).mul (hy _ hq)) (by simpa using hl)
  generalize ys.map rd = MX at *
  generalize (ys.map fun x => x * x).map rd = MZ at *
  simp -implicitDefEqProofs only [d_fair_sum, g_fair_sum, xVar_a, xC_a, xBin_a, xUn_a, tOf_a, tTru_a, tNotP_a, tAndP_a, tOrP_a, tyes_a, tno_a, tYesP_a, xNil_a, xCons_a, xTup_a, xLst_a, xAnd_a, xOr_a, xIf_a, xChain_a, oNo_a, oAt_a, xSl_a, xCall_a, xSeq_a, xIt_a, xLc_a, gSet_a, gTupD_a, gsNil_a, gsCons_a, sNop_a, sBrk_a, sCnt_a, sSeq_a, sRet_a, sIf_a, sSet_a, sTgt_a, sAug_a, sApp_a, sExt_a, sPut_a, sPutK_a, pkO_s, sFor_a, sWhile_a, sPar_a, runD_a, b2_s, c2_s, sqO_nx, sqO_rt, sqO_bk, sqO_ct, ifO_t, ifO_f, stO_s, endO_nx, endO_rt, andO_t, andO_f, orO_t, orO_f, chO_s, chP_t, chP_f, slO_s, atO_i, lcO_s, forO_s, gsO_s, nxO_s, tgO_s, paO_s, apO_s, exO_s, plO_s, ptO_s, dB_b, tru_b, tru_n, tru_i, tru_l, tru_t, is_n, isn_n, nn_n, nn_i, nn_b, nn_t, nn_l, add_ii, add'_ii, sub_ii, neg_i, lt_ii, le_ii, gt_ii, ge_ii, ix_l, ix_t, ix_s, at0, at1, at2, sl_l, sl_t, len_l, len_t, len_s, abs_i, int_i, int_b, max_ii, min_ii, tup_s, lst_s, seq_l, seq_t, sum_s, wipe_n, wipe_c, mul_ii, fdiv_ii, mod_ii, add_ll, add_tt, setAll, mkT, mkL, oNot, List.getD_cons_zero, List.getD_cons_succ, List.length_cons, List.length_nil, List.set_cons_zero, List.set_cons_succ, List.map_cons, List.map_nil, List.replicate, List.cons_append, List.nil_append, List.append_nil, Option.bind_some, Option.map_some, List.all_cons, List.all_nil, if_true, if_false, reduceIte, Nat.reduceAdd, Nat.reduceSub, Nat.reduceLT, Nat.reduceLeDiff, Nat.reduceEqDiff, decide_true, decide_false, Bool.and_true, Bool.and_self, Bool.true_and, Bool.not_true, Bool.not_false, ne_eq, not_true_eq_false, not_false_eq_true, Nat.zero_add, Bool.false_eq_true, and_self, true_and, and_true, hb, hlc, hs]
theorem num_pos (x : Rat) : decide (0 < x.num) = decide (0 < x) := by
  refine decide_eq_decide.mpr ?_
  rw [Rat.lt_iff 0 x]
  show _ ↔ (0 : Int) * (x.den : Int) < x.num * 1
  rw [Int.zero_mul, Int.mul_one]
def fairB (ys : List Rat) : Bool := !(ys.any (fun y => decide (0 < y)) && ys.any fun y => decide (y < 0))
theorem bAny_b (l : List Bool) : bAny [.list (l.map PyData.bool)] = some (.bool (l.any id)) := by
  unfold bAny
  simp only [seq_l, Option.bind_some, asBools_map, Option.map_some]
theorem is_fair_gen {ds : D} {ys : List Rat} (hb : d_bends_of [ds] = some (.tuple (ys.map rd))) : d_is_fair [ds] = some (.bool (fairB ys)) := by
  have l1 : ∀ ρ : PEnv, ρ.length = 3 → lcL (gSet 2) tYesP (xBin oGt (xBin oIx (xVar 2) (xC (.int 0))) (xC (.int 0))) ρ (ys.map rd) = some ((ys.map fun y => decide (0 < y)).map PyData.bool) := fun ρ hρ => by
    match ρ, hρ with
    | [a, b, c], _ =>
      rw [List.map_map]
      refine lcL_map _ _ _ fun y hy => ?_
      have := num_pos y
      simp -implicitDefEqProofs only [Function.comp, xVar_a, xC_a, xBin_a, xUn_a, tOf_a, tTru_a, tNotP_a, tAndP_a, tOrP_a, tyes_a, tno_a, tYesP_a, xNil_a, xCons_a, xTup_a, xLst_a, xAnd_a, xOr_a, xIf_a, xChain_a, oNo_a, oAt_a, xSl_a, xCall_a, xSeq_a, xIt_a, xLc_a, gSet_a, gTupD_a, gsNil_a, gsCons_a, sNop_a, sBrk_a, sCnt_a, sSeq_a, sRet_a, sIf_a, sSet_a, sTgt_a, sAug_a, sApp_a, sExt_a, sPut_a, sPutK_a, pkO_s, sFor_a, sWhile_a, sPar_a, runD_a, b2_s, c2_s, sqO_nx, sqO_rt, sqO_bk, sqO_ct, ifO_t, ifO_f, stO_s, endO_nx, endO_rt, andO_t, andO_f, orO_t, orO_f, chO_s, chP_t, chP_f, slO_s, atO_i, lcO_s, forO_s, gsO_s, nxO_s, tgO_s, paO_s, apO_s, exO_s, plO_s, ptO_s, dB_b, tru_b, tru_n, tru_i, tru_l, tru_t, is_n, isn_n, nn_n, nn_i, nn_b, nn_t, nn_l, add_ii, add'_ii, sub_ii, neg_i, lt_ii, le_ii, gt_ii, ge_ii, ix_l, ix_t, ix_s, at0, at1, at2, sl_l, sl_t, len_l, len_t, len_s, abs_i, int_i, int_b, max_ii, min_ii, tup_s, lst_s, seq_l, seq_t, sum_s, wipe_n, wipe_c, mul_ii, fdiv_ii, mod_ii, add_ll, add_tt, setAll, mkT, mkL, oNot, List.getD_cons_zero, List.getD_cons_succ, List.length_cons, List.length_nil, List.set_cons_zero, List.set_cons_succ, List.map_cons, List.map_nil, List.replicate, List.cons_append, List.nil_append, List.append_nil, Option.bind_some, Option.map_some, List.all_cons, List.all_nil, if_true, if_false, reduceIte, Nat.reduceAdd, Nat.reduceSub, Nat.reduceLT, Nat.reduceLeDiff, Nat.reduceEqDiff, decide_true, decide_false, Bool.and_true, Bool.and_self, Bool.true_and, Bool.not_true, Bool.not_false, ne_eq, not_true_eq_false, not_false_eq_true, Nat.zero_add, Bool.false_eq_true, and_self, true_and, and_true, rd_0, this]
  have l2 : ∀ ρ : PEnv, ρ.length = 3 → lcL (gSet 2) tYesP (xBin oLt (xBin oIx (xVar 2) (xC (.int 0))) (xC (.int 0))) ρ (ys.map rd) = some ((ys.map fun y => decide (y < 0)).map PyData.bool) := fun ρ hρ => by
    match ρ, hρ with
    | [a, b, c], _ =>
      rw [List.map_map]
      refine lcL_map _ _ _ fun y hy => ?_
      have := num_neg y
      simp -implicitDefEqProofs only [Function.comp, xVar_a, xC_a, xBin_a, xUn_a, tOf_a, tTru_a, tNotP_a, tAndP_a, tOrP_a, tyes_a, tno_a, tYesP_a, xNil_a, xCons_a, xTup_a, xLst_a, xAnd_a, xOr_a, xIf_a, xChain_a, oNo_a, oAt_a, xSl_a, xCall_a, xSeq_a, xIt_a, xLc_a, gSet_a, gTupD_a, gsNil_a, gsCons_a, sNop_a, sBrk_a, sCnt_a, sSeq_a, sRet_a, sIf_a, sSet_a, sTgt_a, sAug_a, sApp_a, sExt_a, sPut_a, sPutK_a, pkO_s, sFor_a, sWhile_a, sPar_a, runD_a, b2_s, c2_s, sqO_nx, sqO_rt, sqO_bk, sqO_ct, ifO_t, ifO_f, stO_s, endO_nx, endO_rt, andO_t, andO_f, orO_t, orO_f, chO_s, chP_t, chP_f, slO_s, atO_i, lcO_s, forO_s, gsO_s, nxO_s, tgO_s, paO_s, apO_s, exO_s, plO_s, ptO_s, dB_b, tru_b, tru_n, tru_i, tru_l, tru_t, is_n, isn_n, nn_n, nn_i, nn_b, nn_t, nn_l, add_ii, add'_ii, sub_ii, neg_i, lt_ii, le_ii, gt_ii, ge_ii, ix_l, ix_t, ix_s, at0, at1, at2, sl_l, sl_t, len_l, len_t, len_s, abs_i, int_i, int_b, max_ii, min_ii, tup_s, lst_s, seq_l, seq_t, sum_s, wipe_n, wipe_c, mul_ii, fdiv_ii, mod_ii, add_ll, add_tt, setAll, mkT, mkL, oNot, List.getD_cons_zero, List.getD_cons_succ, List.length_cons, List.length_nil, List.set_cons_zero, List.set_cons_succ, List.map_cons, List.map_nil, List.replicate, List.cons_append, List.nil_append, List.append_nil, Option.bind_some, Option.map_some, List.all_cons, List.all_nil, if_true, if_false, reduceIte, Nat.reduceAdd, Nat.reduceSub, Nat.reduceLT, Nat.reduceLeDiff, Nat.reduceEqDiff, decide_true, decide_false, Bool.and_true, Bool.and_self, Bool.true_and, Bool.not_true, Bool.not_false, ne_eq, not_true_eq_false, not_false_eq_true, Nat.zero_add, Bool.false_eq_true, and_self, true_and, and_true, rd_0, this]
  have b1 := bAny_b (ys.map fun y => decide (0 < y))
  have b2 := bAny_b (ys.map fun y => decide (y < 0))
  have e1 : (ys.map fun y => decide (0 < y)).any id = ys.any fun y => decide (0 < y) := by rw [List.any_map]; rfl
  have e2 : (ys.map fun y => decide (y < 0)).any id = ys.any fun y => decide (y < 0) := by rw [List.any_map]; rfl
  rw [e1] at b1
  rw [e2] at b2
  unfold fairB
  generalize (ys.map fun y => decide (0 < y)).map PyData.bool = B1 at *
  generalize (ys.map fun y => decide (y < 0)).map PyData.bool = B2 at *
  generalize ys.map rd = MX at *
  generalize (ys.any fun y => decide (0 < y)) = t1 at *
  generalize (ys.any fun y => decide (y < 0)) = t2 at *
  cases t1 with
  | true => simp -implicitDefEqProofs only [d_is_fair, g_is_fair, xVar_a, xC_a, xBin_a, xUn_a, tOf_a, tTru_a, tNotP_a, tAndP_a, tOrP_a, tyes_a, tno_a, tYesP_a, xNil_a, xCons_a, xTup_a, xLst_a, xAnd_a, xOr_a, xIf_a, xChain_a, oNo_a, oAt_a, xSl_a, xCall_a, xSeq_a, xIt_a, xLc_a, gSet_a, gTupD_a, gsNil_a, gsCons_a, sNop_a, sBrk_a, sCnt_a, sSeq_a, sRet_a, sIf_a, sSet_a, sTgt_a, sAug_a, sApp_a, sExt_a, sPut_a, sPutK_a, pkO_s, sFor_a, sWhile_a, sPar_a, runD_a, b2_s, c2_s, sqO_nx, sqO_rt, sqO_bk, sqO_ct, ifO_t, ifO_f, stO_s, endO_nx, endO_rt, andO_t, andO_f, orO_t, orO_f, chO_s, chP_t, chP_f, slO_s, atO_i, lcO_s, forO_s, gsO_s, nxO_s, tgO_s, paO_s, apO_s, exO_s, plO_s, ptO_s, dB_b, tru_b, tru_n, tru_i, tru_l, tru_t, is_n, isn_n, nn_n, nn_i, nn_b, nn_t, nn_l, add_ii, add'_ii, sub_ii, neg_i, lt_ii, le_ii, gt_ii, ge_ii, ix_l, ix_t, ix_s, at0, at1, at2, sl_l, sl_t, len_l, len_t, len_s, abs_i, int_i, int_b, max_ii, min_ii, tup_s, lst_s, seq_l, seq_t, sum_s, wipe_n, wipe_c, mul_ii, fdiv_ii, mod_ii, add_ll, add_tt, setAll, mkT, mkL, oNot, List.getD_cons_zero, List.getD_cons_succ, List.length_cons, List.length_nil, List.set_cons_zero, List.set_cons_succ, List.map_cons, List.map_nil, List.replicate, List.cons_append, List.nil_append, List.append_nil, Option.bind_some, Option.map_some, List.all_cons, List.all_nil, if_true, if_false, reduceIte, Nat.reduceAdd, Nat.reduceSub, Nat.reduceLT, Nat.reduceLeDiff, Nat.reduceEqDiff, decide_true, decide_false, Bool.and_true, Bool.and_self, Bool.true_and, Bool.not_true, Bool.not_false, ne_eq, not_true_eq_false, not_false_eq_true, Nat.zero_add, Bool.false_eq_true, and_self, true_and, and_true, hb, l1, l2, b1, b2]
  | false => simp -implicitDefEqProofs only [d_is_fair, g_is_fair, xVar_a, xC_a, xBin_a, xUn_a, tOf_a, tTru_a, tNotP_a, tAndP_a, tOrP_a, tyes_a, tno_a, tYesP_a, xNil_a, xCons_a, xTup_a, xLst_a, xAnd_a, xOr_a, xIf_a, xChain_a, oNo_a, oAt_a, xSl_a, xCall_a, xSeq_a, xIt_a, xLc_a, gSet_a, gTupD_a, gsNil_a, gsCons_a, sNop_a, sBrk_a, sCnt_a, sSeq_a, sRet_a, sIf_a, sSet_a, sTgt_a, sAug_a, sApp_a, sExt_a, sPut_a, sPutK_a, pkO_s, sFor_a, sWhile_a, sPar_a, runD_a, b2_s, c2_s, sqO_nx, sqO_rt, sqO_bk, sqO_ct, ifO_t, ifO_f, stO_s, endO_nx, endO_rt, andO_t, andO_f, orO_t, orO_f, chO_s, chP_t, chP_f, slO_s, atO_i, lcO_s, forO_s, gsO_s, nxO_s, tgO_s, paO_s, apO_s, exO_s, plO_s, ptO_s, dB_b, tru_b, tru_n, tru_i, tru_l, tru_t, is_n, isn_n, nn_n, nn_i, nn_b, nn_t, nn_l, add_ii, add'_ii, sub_ii, neg_i, lt_ii, le_ii, gt_ii, ge_ii, ix_l, ix_t, ix_s, at0, at1, at2, sl_l, sl_t, len_l, len_t, len_s, abs_i, int_i, int_b, max_ii, min_ii, tup_s, lst_s, seq_l, seq_t, sum_s, wipe_n, wipe_c, mul_ii, fdiv_ii, mod_ii, add_ll, add_tt, setAll, mkT, mkL, oNot, List.getD_cons_zero, List.getD_cons_succ, List.length_cons, List.length_nil, List.set_cons_zero, List.set_cons_succ, List.map_cons, List.map_nil, List.replicate, List.cons_append, List.nil_append, List.append_nil, Option.bind_some, Option.map_some, List.all_cons, List.all_nil, if_true, if_false, reduceIte, Nat.reduceAdd, Nat.reduceSub, Nat.reduceLT, Nat.reduceLeDiff, Nat.reduceEqDiff, decide_true, decide_false, Bool.and_true, Bool.and_self, Bool.true_and, Bool.not_true, Bool.not_false, ne_eq, not_true_eq_false, not_false_eq_true, Nat.zero_add, Bool.false_eq_true, and_self, true_and, and_true, hb, l1, l2, b1, b2, Bool.false_and]
end K24

namespace K24
open PySem PySem.Spec PyProof.Rows L2 Pm
/-! stations -/
def P0 (n : Nat) : List Int := (List.range n).map fun i : Nat => (i : Int)
theorem P0_len (n : Nat) : (P0 n).length = n := by simp [P0]
theorem P0_nodup (n : Nat) : (P0 n).Nodup := by
  unfold P0 List.Nodup
  rw [List.pairwise_map]
  exact List.nodup_range.imp fun h h2 => h (by exact_mod_cast h2)
theorem P0_ok {n : Nat} (h : n ≤ 10) : OkI (P0 n) := by
  refine ⟨fun p hp => ?_, by rw [P0_len]; exact h⟩
  obtain ⟨i, hi, rfl⟩ := List.mem_map.mp hp
  have : i < n := by simpa using hi
  unfold Sm
  omega
theorem tupR1 {n : Nat} (h : n ≤ 10) : oTupR1 (.int (n : Int)) = some (.tuple ((P0 n).map PyData.int)) := by
  have e : rangeD 0 1 ((n : Int) - 0).toNat = (P0 n).map PyData.int := by
    unfold rangeD P0
    rw [List.map_map, show ((n : Int) - 0).toNat = n by omega]
    refine List.map_congr_left fun i _ => ?_
    simp
  have hc : (-(2 ^ 62) : Int) ≤ 0 ∧ (0 : Int) < 2 ^ 62 ∧ (-(2 ^ 62) : Int) ≤ (n : Int) ∧ (n : Int) < 2 ^ 62 ∧ ((n : Int) - 0).toNat ≤ 2 ^ 24 := by
    refine ⟨by decide, by decide, ?_, ?_, ?_⟩ <;> omega
  have h2 : oRgT 0 (n : Int) = some (rangeD 0 1 ((n : Int) - 0).toNat) := if_pos hc
  have h3 : oTupR1 (.int (n : Int)) = (oRgT 0 (n : Int)).map .tuple := rfl
  rw [h3, h2, e]
  rfl
theorem bnd_map (f : Nat → Rat) (n : Nat) : bnd ((List.range n).map f) = (List.range (n - 2)).map fun k => f k + f (k + 2) - 2 * f (k + 1) := by
  unfold bnd
  rw [List.length_map, List.length_range]
  refine List.map_congr_left fun k hk => ?_
  have hk' : k < n - 2 := by simpa using hk
  have g : ∀ j, j < n → ((List.range n).map f).getD j 0 = f j := fun j hj => by simp [hj]
  rw [g k (by omega), g (k + 2) (by omega), g (k + 1) (by omega)]
theorem bnd_ld {n : Nat} {W : List Sd} (hu : 0 < un (P0 n)) : bnd ((P0 n).map (ld (P0 n) W)) = (List.range (n - 2)).map fun _ => (0 : Rat) := by
  have e : (P0 n).map (ld (P0 n) W) = (List.range n).map fun i : Nat => ld (P0 n) W (i : Int) := by
    conv => lhs; rw [P0, List.map_map]
    rfl
  rw [e, bnd_map]
  refine List.map_congr_left fun k _ => ?_
  rw [← ld_eq hu, ← ld_eq hu, ← ld_eq hu]
  push_cast
  grind
theorem zero_sq (m : Nat) : rs (((List.range m).map fun _ => (0 : Rat)).map fun y => y * y) = 0 := by
  rw [List.map_map, show ((fun y : Rat => y * y) ∘ fun _ : Nat => (0 : Rat)) = fun _ => (0 : Rat) by funext x; simp only [Function.comp]; exact Rat.zero_mul 0, rs_const, Rat.zero_mul]
theorem zero_fair (m : Nat) : fairB ((List.range m).map fun _ => (0 : Rat)) = true := by
  unfold fairB
  have : ((List.range m).map fun _ => (0 : Rat)).any (fun y => decide (0 < y)) = false := by
    rw [List.any_map, List.any_eq_false]
    intro x _
    have h0 : ¬ (0 : Rat) < 0 := by decide +kernel
    simp [Function.comp, h0]
  rw [this]
  rfl
theorem rep_tup (d : D) (m : Nat) (hm : m ≤ 100) : oMul' (.tuple [d]) (.int (m : Int)) = some (.tuple (List.replicate m d)) := by
  have h1 : -(2 ^ 62) ≤ (m : Int) := by omega
  have h2 : (m : Int) ≤ 1000 := by omega
  have h3 : [d].length ≤ 1000 := by simp only [List.length_cons, List.length_nil]; omega
  simp only [oMul', h1, h2, h3, true_and, if_true, Int.toNat_natCast, List.flatten_replicate_singleton]
/-! a log of stations -/
def lgL : Int → List Int → List Sd
  | _, [] => []
  | b, o :: os => (b, o) :: lgL (b + 1) os
theorem lgL_len : ∀ (b : Int) (os : List Int), (lgL b os).length = os.length
  | _, [] => rfl
  | b, o :: os => by rw [lgL, List.length_cons, List.length_cons, lgL_len]
theorem lgL_mem : ∀ {b : Int} {os : List Int} {s : Sd}, s ∈ lgL b os → b ≤ s.1 ∧ s.1 < b + os.length ∧ s.2 ∈ os
  | _, [], s, h => by cases h
  | b, o :: os, s, h => by
    rw [lgL] at h
    rw [List.length_cons]
    rcases List.mem_cons.mp h with rfl | h
    · exact ⟨by simp, by simp only; omega, by simp⟩
    · have := lgL_mem h
      exact ⟨by omega, by omega, by simp [this.2.2]⟩
theorem lgL_inc : ∀ (b : Int) (os : List Int), Inc (lgL b os)
  | _, [] => List.Pairwise.nil
  | b, o :: os => by
    rw [lgL]
    refine List.pairwise_cons.mpr ⟨fun t ht => ?_, lgL_inc (b + 1) os⟩
    have := lgL_mem ht
    simp only
    omega
theorem lgL_last : ∀ (b : Int) (os : List Int), os ≠ [] → ∃ z, (lgL b os).getLast? = some z ∧ z.1 = b + os.length - 1
  | _, [], h => absurd rfl h
  | b, [o], _ => ⟨(b, o), rfl, by simp only [List.length_cons, List.length_nil]; omega⟩
  | b, o :: o2 :: os, _ => by
    obtain ⟨z, h1, h2⟩ := lgL_last (b + 1) (o2 :: os) (by simp)
    refine ⟨z, ?_, ?_⟩
    · rw [lgL, lgL, List.getLast?_cons_cons]
      exact h1
    · rw [h2]
      simp only [List.length_cons]
      omega
theorem lgL_gap : ∀ (b : Int) (os : List Int), ∀ p ∈ segs (lgL b os), p.2.1 - p.1.1 = 1
  | _, [], p, h => by cases h
  | b, [o], p, h => by cases h
  | b, o :: o2 :: os, p, h => by
    rw [lgL, lgL, segs_cons] at h
    rcases List.mem_cons.mp h with rfl | h
    · simp only
      omega
    · exact lgL_gap (b + 1) (o2 :: os) p h
theorem lgL_ok {b : Int} {os : List Int} (hb : 0 ≤ b) (hb2 : b ≤ 100) (hne : os ≠ []) (hl : os.length ≤ 10) (ho : ∀ o ∈ os, Sm 10 o) : ∃ a z, LogOk (lgL b os) a z 1 ∧ a.1 = b ∧ z.1 = b + os.length - 1 := by
  obtain ⟨z, h1, h2⟩ := lgL_last b os hne
  obtain ⟨o, os', e⟩ : ∃ o os', os = o :: os' := by
    cases os with
    | nil => exact absurd rfl hne
    | cons o os' => exact ⟨o, os', rfl⟩
  refine ⟨(b, o), z, ⟨lgL_inc b os, by rw [e]; rfl, h1, fun s hs => ?_, hb, by decide, Sm.lit, fun p hp => by rw [lgL_gap b os p hp]; exact ⟨1, rfl⟩, by rw [lgL_len]; omega⟩, rfl, h2⟩
  have := lgL_mem hs
  refine ⟨?_, ho _ this.2.2⟩
  unfold Sm
  omega
theorem lgL_spd : ∀ (b : Int) (os : List Int) (k : Nat), k < os.length → spd (lgL b os) (b + (k : Nat)) = ((os.getD k 0 : Int) : Rat)
  | _, [], k, h => by simp at h
  | b, [o], k, h => by
    have : k = 0 := by simpa using h
    subst this
    rfl
  | b, o :: o2 :: os, k, h => by
    rw [lgL, lgL]
    show (if b + (k : Int) ≤ b + 1 then seg ((b, o), (b + 1, o2)) (b + (k : Int)) else spd ((b + 1, o2) :: lgL (b + 1 + 1) os) (b + (k : Int))) = _
    match k, h with
    | 0, _ =>
      rw [if_pos (by simp only [Int.natCast_zero]; omega)]
      have := seg_left (p := ((b, o), (b + 1, o2)))
      rw [show b + ((0 : Nat) : Int) = b by simp]
      exact this
    | 1, _ =>
      rw [if_pos (by simp)]
      have := seg_right (p := ((b, o), (b + 1, o2))) (by simp only; omega)
      exact this
    | k + 2, h =>
      rw [if_neg (by omega)]
      have := lgL_spd (b + 1) (o2 :: os) (k + 1) (by simp at h ⊢; omega)
      rw [show b + ((k + 2 : Nat) : Int) = b + 1 + ((k + 1 : Nat) : Int) by omega]
      exact this
theorem lgL_hv {b : Int} {os : List Int} {k : Nat} (h : k + 1 < os.length) : hv (lgL b os) (b + (k : Nat)) = ((os.getD k 0 + os.getD (k + 1) 0 : Int) : Rat) / 2 := by
  unfold hv
  have e : b + (k : Int) + 1 = b + ((k + 1 : Nat) : Int) := by omega
  rw [e, lgL_spd b os k (by omega), lgL_spd b os (k + 1) h]
  push_cast
  rfl
theorem lgL_total {b : Int} {os : List Int} (h3 : 3 ≤ os.length) (h5 : os.length ≤ 5) : rb (lgL b os) b (os.length - 1) = ((2 * os.sum - os.getD 0 0 - os.getD (os.length - 1) 0 : Int) : Rat) / 2 := by
  have r0 : rb (lgL b os) b 0 = 0 := rfl
  have h0 := lgL_hv (b := b) (os := os) (k := 0) (by omega)
  have h1 := lgL_hv (b := b) (os := os) (k := 1) (by omega)
  match os, h3, h5 with
  | [x0, x1, x2], _, _ =>
    show rb _ b (0 + 1 + 1) = _
    rw [rb_succ, rb_succ, r0, h0, h1]
    simp only [List.getD_cons_zero, List.getD_cons_succ, List.sum_cons, List.sum_nil, List.length_cons, List.length_nil]
    push_cast
    grind
  | [x0, x1, x2, x3], _, _ =>
    have h2 := lgL_hv (b := b) (os := [x0, x1, x2, x3]) (k := 2) (by simp)
    show rb _ b (0 + 1 + 1 + 1) = _
    rw [rb_succ, rb_succ, rb_succ, r0, h0, h1, h2]
    simp only [List.getD_cons_zero, List.getD_cons_succ, List.sum_cons, List.sum_nil, List.length_cons, List.length_nil]
    push_cast
    grind
  | [x0, x1, x2, x3, x4], _, _ =>
    have h2 := lgL_hv (b := b) (os := [x0, x1, x2, x3, x4]) (k := 2) (by simp)
    have h4 := lgL_hv (b := b) (os := [x0, x1, x2, x3, x4]) (k := 3) (by simp)
    show rb _ b (0 + 1 + 1 + 1 + 1) = _
    rw [rb_succ, rb_succ, rb_succ, rb_succ, r0, h0, h1, h2, h4]
    simp only [List.getD_cons_zero, List.getD_cons_succ, List.sum_cons, List.sum_nil, List.length_cons, List.length_nil]
    push_cast
    grind
theorem lgL_enc : ∀ (b : Int) (os : List Int), (List.range os.length).map (fun k : Nat => enc (b + (k : Nat), os.getD k 0)) = (lgL b os).map enc
  | _, [] => rfl
  | b, o :: os => by
    rw [List.length_cons, List.range_succ_eq_map, List.map_cons, List.map_map, lgL, List.map_cons, ← lgL_enc (b + 1) os]
    congr 1
    · simp
    · refine List.map_congr_left fun k _ => ?_
      simp only [Function.comp, List.getD_cons_succ]
      rw [show b + ((k.succ : Nat) : Int) = b + 1 + (k : Int) by omega]
end K24

namespace K24
open PySem PySem.Spec PyProof.Rows L2 Pm
theorem row_at (r : List Int) (i : Nat) (h : i < r.length) : atI (r.map PyData.int) (i : Int) = some (.int (r.getD i 0)) := by
  rw [atI_nat _ i (by simpa using h)]
  simp [h]
theorem fmod_rng (x : Int) {m : Int} (hm : 0 < m) : 0 ≤ x.fmod m ∧ x.fmod m < m := ⟨Int.fmod_nonneg_of_pos _ hm, Int.fmod_lt_of_pos _ hm⟩
theorem fmod_nat (x : Int) {m : Int} (hm : 0 < m) : ∃ k : Nat, x.fmod m = (k : Int) ∧ (k : Int) < m := by
  obtain ⟨h1, h2⟩ := fmod_rng x hm
  obtain ⟨k, hk⟩ := Int.eq_ofNat_of_zero_le h1
  exact ⟨k, hk, by omega⟩
theorem rg0 (n : Nat) (h : n ≤ 1000) : oR1 [.int (n : Int)] = some ((List.range n).map fun k : Nat => PyData.int (k : Nat)) := oR1_nat n (by omega)
def biL (O : List Int) : List Int := (List.range (O.length - 2)).map fun k => O.getD k 0 + O.getD (k + 2) 0 - 2 * O.getD (k + 1) 0
theorem bnd_int (O : List Int) : bnd (O.map fun p : Int => (p : Rat)) = (biL O).map fun p : Int => (p : Rat) := by
  unfold bnd biL
  rw [List.map_map, List.length_map]
  refine List.map_congr_left fun k hk => ?_
  have hk' : k < O.length - 2 := by simpa using hk
  have g : ∀ j, j < O.length → (O.map fun p : Int => (p : Rat)).getD j 0 = ((O.getD j 0 : Int) : Rat) := fun j hj => by simp [hj]
  rw [g k (by omega), g (k + 2) (by omega), g (k + 1) (by omega)]
  simp only [Function.comp]
  push_cast
  rfl
theorem biL_sm {O : List Int} (h : ∀ o ∈ O, Sm 10 o) : ∀ b ∈ biL O, Sm 13 b := fun b hb => by
  obtain ⟨k, hk, rfl⟩ := List.mem_map.mp hb
  have hk' : k < O.length - 2 := by simpa using hk
  have s0 := h _ (getD_mem' (d := 0) (show k < O.length by omega))
  have s1 := h _ (getD_mem' (d := 0) (show k + 1 < O.length by omega))
  have s2 := h _ (getD_mem' (d := 0) (show k + 2 < O.length by omega))
  unfold Sm at *
  omega
theorem max_pos {B : List Int} {m : Int} (h : B.max? = some m) : decide (0 < m) = B.any fun b => decide (0 < b) := by
  obtain ⟨h1, h2⟩ := List.max?_eq_some_iff.mp h
  by_cases hp : 0 < m
  · rw [decide_eq_true hp]
    exact (List.any_eq_true.mpr ⟨m, h1, decide_eq_true hp⟩).symm
  · rw [decide_eq_false hp]
    refine (List.any_eq_false.mpr fun b hb => ?_).symm
    have := h2 b hb
    simp only [decide_eq_true_eq]
    omega
theorem min_neg {B : List Int} {m : Int} (h : B.min? = some m) : decide (m < 0) = B.any fun b => decide (b < 0) := by
  obtain ⟨h1, h2⟩ := List.min?_eq_some_iff.mp h
  by_cases hp : m < 0
  · rw [decide_eq_true hp]
    exact (List.any_eq_true.mpr ⟨m, h1, decide_eq_true hp⟩).symm
  · rw [decide_eq_false hp]
    refine (List.any_eq_false.mpr fun b hb => ?_).symm
    have := h2 b hb
    simp only [decide_eq_true_eq]
    omega
theorem fair_int (B : List Int) : fairB (B.map fun p : Int => (p : Rat)) = !(B.any (fun b => decide (0 < b)) && B.any fun b => decide (b < 0)) := by
  unfold fairB
  rw [List.any_map, List.any_map]
  congr 2
  · congr 1
    funext b
    exact decide_eq_decide.mpr Rat.intCast_pos
  · congr 1
    funext b
    refine decide_eq_decide.mpr ?_
    have := Rat.intCast_lt_intCast (a := b) (b := 0)
    exact this
theorem max_some {B : List Int} (h : B ≠ []) : ∃ m n, B.max? = some m ∧ B.min? = some n := by
  cases hm : B.max? with
  | none => exact absurd (List.max?_eq_none_iff.mp hm) h
  | some m =>
    cases hn : B.min? with
    | none => exact absurd (List.min?_eq_none_iff.mp hn) h
    | some n => exact ⟨m, n, rfl, rfl⟩
theorem bMaxI_l {B : List Int} {m : Int} (h : B.max? = some m) : bMaxI [.list (B.map PyData.int)] = some (.int m) := by
  unfold bMaxI
  simp only [seq_l, Option.bind_some, asInts_map, h, Option.map_some]
theorem bMinI_l {B : List Int} {m : Int} (h : B.min? = some m) : bMinI [.list (B.map PyData.int)] = some (.int m) := by
  unfold bMinI
  simp only [seq_l, Option.bind_some, asInts_map, h, Option.map_some]
theorem loads_part {W : List Sd} (hW : OkS W) (hl : W.length ≤ 10) {n : Nat} (h3 : 3 ≤ n) (h5 : n ≤ 5) :
    ∃ LD, d_loads_of [.tuple ((P0 n).map PyData.int), .tuple (W.map enc)] = some LD ∧ d_bends_of [LD] = some (.tuple (List.replicate (n - 2) (.tuple [.int 0, .int 1]))) ∧ d_fair_sum [LD] = some (.tuple [.int 0, .int 1]) ∧ d_is_fair [LD] = some (.bool true) := by
  have hu := un_pos (P0_nodup n) (by rw [P0_len]; omega)
  have hP := P0_ok (n := n) (by omega)
  have h1 : d_loads_of [.tuple ((P0 n).map PyData.int), .tuple (W.map enc)] = some (.tuple ((P0 n).map fun p => rd (ld (P0 n) W p))) := loads_of_eq false hP hW hl hu
  have e : (P0 n).map (fun p => rd (ld (P0 n) W p)) = ((P0 n).map (ld (P0 n) W)).map rd := by rw [List.map_map]; rfl
  rw [e] at h1
  have hb := bends_of_rd (xs := (P0 n).map (ld (P0 n) W)) (fun x hx => by
    obtain ⟨p, hp, rfl⟩ := List.mem_map.mp hx
    exact (ld_sr hP hW hl hu (hP.1 p hp)).mono (by omega)) (by rw [List.length_map, P0_len]; omega) (by rw [List.length_map, P0_len]; omega)
  rw [bnd_ld hu] at hb
  have hz : ∀ y ∈ (List.range (n - 2)).map fun _ => (0 : Rat), SR 55 y := fun y hy => by
    obtain ⟨_, _, rfl⟩ := List.mem_map.mp hy
    exact SR.int (p := 0) Sm.zero
  have f1 := fair_sum_gen hb hz (by simp; omega)
  rw [zero_sq] at f1
  have f2 := is_fair_gen hb
  rw [zero_fair] at f2
  refine ⟨_, h1, ?_, f1, f2⟩
  rw [hb, List.map_map, show (rd ∘ fun _ : Nat => (0 : Rat)) = fun _ => rd 0 from rfl, List.map_const', List.length_range]
  rfl
theorem half_rd {x : Int} (hx : Sm 100 x) : d_lowest [.int x, .int 2] = some (rd ((x : Rat) / 2)) ∧ d__law_ratio [.int x, .int 2] = some (rd ((x : Rat) / 2)) := by
  have h1 := lowest_rd x 2 (by decide) Sm.lit
  have h2 := ratio_rd x 2 (by decide) Sm.lit
  exact ⟨h1, h2⟩
theorem like_rep (m : Nat) (hm : m ≤ 100) : d__law_like 8 [.tuple (List.replicate m (.tuple [.int 0, .int 1])), .tuple (List.replicate m (.tuple [.int 0, .int 1]))] = some (.bool true) := by
  refine like_tup 7 _ (by rw [List.length_replicate]; omega) fun x hx => ?_
  rw [(List.mem_replicate.mp hx).2]
  exact like_rd 5 0
theorem stations_ok {W : List Sd} (hW : OkS W) (hl : W.length ≤ 10) {r : List Int} (hr : r.length = 30) : d__law_stations [.tuple (W.map enc), .list (r.map PyData.int)] = some (.bool true) := by
  have i20 : atI (r.map PyData.int) 20 = some (.int (r.getD 20 0)) := row_at r 20 (by omega)
  have i26 : atI (r.map PyData.int) 26 = some (.int (r.getD 26 0)) := row_at r 26 (by omega)
  have i27 : atI (r.map PyData.int) 27 = some (.int (r.getD 27 0)) := row_at r 27 (by omega)
  obtain ⟨n', hn', hn3⟩ := fmod_nat (r.getD 20 0) (m := 3) (by decide)
  obtain ⟨b, hb, hb5⟩ := fmod_nat (r.getD 26 0) (m := 5) (by decide)
  have en : (3 : Int) + (n' : Int) = ((3 + n' : Nat) : Int) := by omega
  generalize hn : 3 + n' = n at *
  obtain ⟨sp, hsp, hsp2⟩ := fmod_nat (r.getD 27 0) (m := (n : Int) - 1) (by omega)
  have z3 : (3 : Int) ≠ 0 := by decide
  have z5 : (5 : Int) ≠ 0 := by decide
  have z9 : (9 : Int) ≠ 0 := by decide
  have zn : (n : Int) - 1 ≠ 0 := by omega
  obtain ⟨LD, l1, l2, l3, l4⟩ := loads_part hW hl (n := n) (by omega) (by omega)
  have tR := tupR1 (n := n) (by omega)
  have en2 : (n : Int) - 2 = ((n - 2 : Nat) : Int) := by omega
  have l5 := rep_tup (.tuple [.int 0, .int 1]) (n - 2) (by omega)
  have k1 := like_rep (n - 2) (by omega)
  have k2 : d__law_like 8 [.tuple [.int 0, .int 1], .tuple [.int 0, .int 1]] = some (.bool true) := like_rd 6 0
  have k3 := like_bool 7 true
  -- offsets
  obtain ⟨O, hO⟩ : ∃ O : List Int, O = (List.range n).map fun k => (r.getD (21 + k) 0).fmod 9 := ⟨_, rfl⟩
  have hOl : O.length = n := by rw [hO]; simp
  have hOs : ∀ o ∈ O, Sm 10 o := fun o ho => by
    rw [hO] at ho
    obtain ⟨k, hk, rfl⟩ := List.mem_map.mp ho
    obtain ⟨h1, h2⟩ := fmod_rng (r.getD (21 + k) 0) (m := 9) (by decide)
    unfold Sm
    omega
  have gn := rg0 n (by omega)
  have gn2 := rg0 (n - 2) (by omega)
  have o1 : ∀ ρ : PEnv, ρ.length = 14 → ρ.getD 1 none = some (.list (r.map PyData.int)) → lcL (gSet 12) tYesP (xBin oMod (xCall bInt (xCons (xBin oIx (xVar 1) (xBin oAdd (xC (.int 21)) (xVar 12))) xNil)) (xC (.int 9))) ρ ((List.range n).map fun k : Nat => PyData.int (k : Nat)) = some (O.map PyData.int) := fun ρ hρ h1 => by
    match ρ, hρ with
    | [r0, r1, r2, r3, r4, r5, r6, r7, r8, r9, r10, r11, r12, r13], _ =>
      simp only [List.getD_cons_succ, List.getD_cons_zero] at h1
      subst h1
      rw [hO, List.map_map]
      refine lcL_map _ _ _ fun k hk => ?_
      have hk' : k < n := by simpa using hk
      have i : atI (r.map PyData.int) (21 + (k : Int)) = some (.int (r.getD (21 + k) 0)) := by
        have := row_at r (21 + k) (by omega)
        rwa [Int.natCast_add] at this
      generalize r.map PyData.int = RR at *
      simp -implicitDefEqProofs only [Function.comp, xVar_a, xC_a, xBin_a, xUn_a, tOf_a, tTru_a, tNotP_a, tAndP_a, tOrP_a, tyes_a, tno_a, tYesP_a, xNil_a, xCons_a, xTup_a, xLst_a, xAnd_a, xOr_a, xIf_a, xChain_a, oNo_a, oAt_a, xSl_a, xCall_a, xSeq_a, xIt_a, xLc_a, gSet_a, gTupD_a, gsNil_a, gsCons_a, sNop_a, sBrk_a, sCnt_a, sSeq_a, sRet_a, sIf_a, sSet_a, sTgt_a, sAug_a, sApp_a, sExt_a, sPut_a, sPutK_a, pkO_s, sFor_a, sWhile_a, sPar_a, runD_a, b2_s, c2_s, sqO_nx, sqO_rt, sqO_bk, sqO_ct, ifO_t, ifO_f, stO_s, endO_nx, endO_rt, andO_t, andO_f, orO_t, orO_f, chO_s, chP_t, chP_f, slO_s, atO_i, lcO_s, forO_s, gsO_s, nxO_s, tgO_s, paO_s, apO_s, exO_s, plO_s, ptO_s, dB_b, tru_b, tru_n, tru_i, tru_l, tru_t, is_n, isn_n, nn_n, nn_i, nn_b, nn_t, nn_l, add_ii, add'_ii, sub_ii, neg_i, lt_ii, le_ii, gt_ii, ge_ii, ix_l, ix_t, ix_s, at0, at1, at2, sl_l, sl_t, len_l, len_t, len_s, abs_i, int_i, int_b, max_ii, min_ii, tup_s, lst_s, seq_l, seq_t, sum_s, wipe_n, wipe_c, mul_ii, fdiv_ii, mod_ii, add_ll, add_tt, setAll, mkT, mkL, oNot, List.getD_cons_zero, List.getD_cons_succ, List.length_cons, List.length_nil, List.set_cons_zero, List.set_cons_succ, List.map_cons, List.map_nil, List.replicate, List.cons_append, List.nil_append, List.append_nil, Option.bind_some, Option.map_some, List.all_cons, List.all_nil, if_true, if_false, reduceIte, Nat.reduceAdd, Nat.reduceSub, Nat.reduceLT, Nat.reduceLeDiff, Nat.reduceEqDiff, decide_true, decide_false, Bool.and_true, Bool.and_self, Bool.true_and, Bool.not_true, Bool.not_false, ne_eq, not_true_eq_false, not_false_eq_true, Nat.zero_add, Bool.false_eq_true, and_self, true_and, and_true, i, mod_ii z9]
  have at1 : ∀ k : Nat, k < n → atI (O.map PyData.int) (k : Int) = some (.int (O.getD k 0)) := fun k hk => row_at O k (by omega)
  have o2 : ∀ ρ : PEnv, ρ.length = 14 → ρ.getD 4 none = some (.tuple (O.map PyData.int)) → lcL (gSet 12) tYesP (xBin oSub (xBin oAdd (xBin oIx (xVar 4) (xVar 12)) (xBin oIx (xVar 4) (xBin oAdd (xVar 12) (xC (.int 2))))) (xBin oMul' (xC (.int 2)) (xBin oIx (xVar 4) (xBin oAdd (xVar 12) (xC (.int 1)))))) ρ ((List.range (n - 2)).map fun k : Nat => PyData.int (k : Nat)) = some ((biL O).map PyData.int) := fun ρ hρ h4 => by
    match ρ, hρ with
    | [r0, r1, r2, r3, r4, r5, r6, r7, r8, r9, r10, r11, r12, r13], _ =>
      simp only [List.getD_cons_succ, List.getD_cons_zero] at h4
      subst h4
      unfold biL
      rw [List.map_map, hOl]
      refine lcL_map _ _ _ fun k hk => ?_
      have hk' : k < n - 2 := by simpa using hk
      have a0 := at1 k (by omega)
      have a1 : atI (O.map PyData.int) ((k : Int) + 1) = some (.int (O.getD (k + 1) 0)) := at1 (k + 1) (by omega)
      have a2 : atI (O.map PyData.int) ((k : Int) + 2) = some (.int (O.getD (k + 2) 0)) := at1 (k + 2) (by omega)
      have m : mulOk 2 (O.getD (k + 1) 0) = true := (Sm.lit (k := 10) (a := 2)).mulOk (hOs _ (getD_mem' (d := 0) (by omega))) (by omega) (by omega)
      simp only [Function.comp]
      generalize O.map PyData.int = MO at *
      generalize O.getD (k + 1) 0 = x1 at *
      generalize O.getD (k + 2) 0 = x2 at *
      generalize O.getD k 0 = x0 at *
      simp -implicitDefEqProofs only [xVar_a, xC_a, xBin_a, xUn_a, tOf_a, tTru_a, tNotP_a, tAndP_a, tOrP_a, tyes_a, tno_a, tYesP_a, xNil_a, xCons_a, xTup_a, xLst_a, xAnd_a, xOr_a, xIf_a, xChain_a, oNo_a, oAt_a, xSl_a, xCall_a, xSeq_a, xIt_a, xLc_a, gSet_a, gTupD_a, gsNil_a, gsCons_a, sNop_a, sBrk_a, sCnt_a, sSeq_a, sRet_a, sIf_a, sSet_a, sTgt_a, sAug_a, sApp_a, sExt_a, sPut_a, sPutK_a, pkO_s, sFor_a, sWhile_a, sPar_a, runD_a, b2_s, c2_s, sqO_nx, sqO_rt, sqO_bk, sqO_ct, ifO_t, ifO_f, stO_s, endO_nx, endO_rt, andO_t, andO_f, orO_t, orO_f, chO_s, chP_t, chP_f, slO_s, atO_i, lcO_s, forO_s, gsO_s, nxO_s, tgO_s, paO_s, apO_s, exO_s, plO_s, ptO_s, dB_b, tru_b, tru_n, tru_i, tru_l, tru_t, is_n, isn_n, nn_n, nn_i, nn_b, nn_t, nn_l, add_ii, add'_ii, sub_ii, neg_i, lt_ii, le_ii, gt_ii, ge_ii, ix_l, ix_t, ix_s, at0, at1, at2, sl_l, sl_t, len_l, len_t, len_s, abs_i, int_i, int_b, max_ii, min_ii, tup_s, lst_s, seq_l, seq_t, sum_s, wipe_n, wipe_c, mul_ii, fdiv_ii, mod_ii, add_ll, add_tt, setAll, mkT, mkL, oNot, List.getD_cons_zero, List.getD_cons_succ, List.length_cons, List.length_nil, List.set_cons_zero, List.set_cons_succ, List.map_cons, List.map_nil, List.replicate, List.cons_append, List.nil_append, List.append_nil, Option.bind_some, Option.map_some, List.all_cons, List.all_nil, if_true, if_false, reduceIte, Nat.reduceAdd, Nat.reduceSub, Nat.reduceLT, Nat.reduceLeDiff, Nat.reduceEqDiff, decide_true, decide_false, Bool.and_true, Bool.and_self, Bool.true_and, Bool.not_true, Bool.not_false, ne_eq, not_true_eq_false, not_false_eq_true, Nat.zero_add, Bool.false_eq_true, and_self, true_and, and_true, a0, a1, a2, m]
  have hBne : biL O ≠ [] := by
    intro h
    have := congrArg List.length h
    unfold biL at this
    simp at this
    omega
  obtain ⟨M, m, hM, hm⟩ := max_some hBne
  have mx1 := bMaxI_l hM
  have mn1 := bMinI_l hm
  have fr1 := fair_int (biL O)
  rw [← max_pos hM, ← min_neg hm] at fr1
  have bo := bends_of_int (P := O) hOs (by omega) (by omega)
  rw [bnd_int] at bo
  have fs := fair_sum_gen bo (fun y hy => by
    obtain ⟨p, hp, rfl⟩ := List.mem_map.mp hy
    exact SR.int ((biL_sm hOs p hp).mono (by omega))) (by rw [List.length_map]; unfold biL; simp; omega)
  rw [List.map_map, show ((fun y : Rat => y * y) ∘ fun p : Int => (p : Rat)) = fun p : Int => (p : Rat) * (p : Rat) from rfl, rs_sq, rd_int] at fs
  have fi := is_fair_gen bo
  rw [fr1] at fi
  have o3 : ∀ ρ : PEnv, ρ.length = 14 → lcL (gSet 13) tYesP (xTup (xCons (xVar 13) (xCons (xC (.int 1)) xNil))) ρ ((biL O).map PyData.int) = some (((biL O).map fun p : Int => (p : Rat)).map rd) ∧ lcL (gSet 13) tYesP (xBin oMul' (xVar 13) (xVar 13)) ρ ((biL O).map PyData.int) = some ((biL O).map fun p => PyData.int (p * p)) := fun ρ hρ => by
    match ρ, hρ with
    | [r0, r1, r2, r3, r4, r5, r6, r7, r8, r9, r10, r11, r12, r13], _ =>
      rw [List.map_map]
      refine ⟨lcL_map _ _ _ fun p hp => ?_, lcL_map _ _ _ fun p hp => ?_⟩
      · have e : rd (p : Rat) = .tuple [.int p, .int 1] := rfl
        simp -implicitDefEqProofs only [Function.comp, e, xVar_a, xC_a, xBin_a, xUn_a, tOf_a, tTru_a, tNotP_a, tAndP_a, tOrP_a, tyes_a, tno_a, tYesP_a, xNil_a, xCons_a, xTup_a, xLst_a, xAnd_a, xOr_a, xIf_a, xChain_a, oNo_a, oAt_a, xSl_a, xCall_a, xSeq_a, xIt_a, xLc_a, gSet_a, gTupD_a, gsNil_a, gsCons_a, sNop_a, sBrk_a, sCnt_a, sSeq_a, sRet_a, sIf_a, sSet_a, sTgt_a, sAug_a, sApp_a, sExt_a, sPut_a, sPutK_a, pkO_s, sFor_a, sWhile_a, sPar_a, runD_a, b2_s, c2_s, sqO_nx, sqO_rt, sqO_bk, sqO_ct, ifO_t, ifO_f, stO_s, endO_nx, endO_rt, andO_t, andO_f, orO_t, orO_f, chO_s, chP_t, chP_f, slO_s, atO_i, lcO_s, forO_s, gsO_s, nxO_s, tgO_s, paO_s, apO_s, exO_s, plO_s, ptO_s, dB_b, tru_b, tru_n, tru_i, tru_l, tru_t, is_n, isn_n, nn_n, nn_i, nn_b, nn_t, nn_l, add_ii, add'_ii, sub_ii, neg_i, lt_ii, le_ii, gt_ii, ge_ii, ix_l, ix_t, ix_s, at0, at1, at2, sl_l, sl_t, len_l, len_t, len_s, abs_i, int_i, int_b, max_ii, min_ii, tup_s, lst_s, seq_l, seq_t, sum_s, wipe_n, wipe_c, mul_ii, fdiv_ii, mod_ii, add_ll, add_tt, setAll, mkT, mkL, oNot, List.getD_cons_zero, List.getD_cons_succ, List.length_cons, List.length_nil, List.set_cons_zero, List.set_cons_succ, List.map_cons, List.map_nil, List.replicate, List.cons_append, List.nil_append, List.append_nil, Option.bind_some, Option.map_some, List.all_cons, List.all_nil, if_true, if_false, reduceIte, Nat.reduceAdd, Nat.reduceSub, Nat.reduceLT, Nat.reduceLeDiff, Nat.reduceEqDiff, decide_true, decide_false, Bool.and_true, Bool.and_self, Bool.true_and, Bool.not_true, Bool.not_false, ne_eq, not_true_eq_false, not_false_eq_true, Nat.zero_add, Bool.false_eq_true, and_self, true_and, and_true]
      · have m := (biL_sm hOs p hp).mulOk (biL_sm hOs p hp) (by omega) (by omega)
        simp -implicitDefEqProofs only [xVar_a, xC_a, xBin_a, xUn_a, tOf_a, tTru_a, tNotP_a, tAndP_a, tOrP_a, tyes_a, tno_a, tYesP_a, xNil_a, xCons_a, xTup_a, xLst_a, xAnd_a, xOr_a, xIf_a, xChain_a, oNo_a, oAt_a, xSl_a, xCall_a, xSeq_a, xIt_a, xLc_a, gSet_a, gTupD_a, gsNil_a, gsCons_a, sNop_a, sBrk_a, sCnt_a, sSeq_a, sRet_a, sIf_a, sSet_a, sTgt_a, sAug_a, sApp_a, sExt_a, sPut_a, sPutK_a, pkO_s, sFor_a, sWhile_a, sPar_a, runD_a, b2_s, c2_s, sqO_nx, sqO_rt, sqO_bk, sqO_ct, ifO_t, ifO_f, stO_s, endO_nx, endO_rt, andO_t, andO_f, orO_t, orO_f, chO_s, chP_t, chP_f, slO_s, atO_i, lcO_s, forO_s, gsO_s, nxO_s, tgO_s, paO_s, apO_s, exO_s, plO_s, ptO_s, dB_b, tru_b, tru_n, tru_i, tru_l, tru_t, is_n, isn_n, nn_n, nn_i, nn_b, nn_t, nn_l, add_ii, add'_ii, sub_ii, neg_i, lt_ii, le_ii, gt_ii, ge_ii, ix_l, ix_t, ix_s, at0, at1, at2, sl_l, sl_t, len_l, len_t, len_s, abs_i, int_i, int_b, max_ii, min_ii, tup_s, lst_s, seq_l, seq_t, sum_s, wipe_n, wipe_c, mul_ii, fdiv_ii, mod_ii, add_ll, add_tt, setAll, mkT, mkL, oNot, List.getD_cons_zero, List.getD_cons_succ, List.length_cons, List.length_nil, List.set_cons_zero, List.set_cons_succ, List.map_cons, List.map_nil, List.replicate, List.cons_append, List.nil_append, List.append_nil, Option.bind_some, Option.map_some, List.all_cons, List.all_nil, if_true, if_false, reduceIte, Nat.reduceAdd, Nat.reduceSub, Nat.reduceLT, Nat.reduceLeDiff, Nat.reduceEqDiff, decide_true, decide_false, Bool.and_true, Bool.and_self, Bool.true_and, Bool.not_true, Bool.not_false, ne_eq, not_true_eq_false, not_false_eq_true, Nat.zero_add, Bool.false_eq_true, and_self, true_and, and_true, m]
  have o3a := fun ρ h => (o3 ρ h).1
  have o3b := fun ρ h => (o3 ρ h).2
  have f6 := int_f (biL O) fun p => p * p
  have k4 : d__law_like 8 [.tuple (((biL O).map fun p : Int => (p : Rat)).map rd), .tuple (((biL O).map fun p : Int => (p : Rat)).map rd)] = some (.bool true) := by
    have := like_rds 5 (fun p : Int => (p : Rat)) (biL O) (by unfold biL; simp; omega)
    rw [List.map_map]
    exact this
  have flB : flat (.tuple (((biL O).map fun p : Int => (p : Rat)).map rd)) = true := by
    show flatL (((biL O).map fun p : Int => (p : Rat)).map rd) = true
    have : ∀ l : List Rat, flatL (l.map rd) = true := by
      intro l
      induction l with
      | nil => rfl
      | cons x l ih =>
        rw [List.map_cons]
        unfold flatL
        rw [flat_rd, Bool.true_and]
        exact ih
    exact this _
  have k5 := fun t => like_bool 7 t
  have k6 : d__law_like 8 [.tuple [.int ((biL O).map fun p => p * p).sum, .int 1], .tuple [.int ((biL O).map fun p => p * p).sum, .int 1]] = some (.bool true) := like_rd 6 ((((biL O).map fun p => p * p).sum : Int) : Rat)
  -- the log
  have hOne : O ≠ [] := by intro h; rw [h] at hOl; simp at hOl; omega
  obtain ⟨a, z, hL, ea, ez⟩ := lgL_ok (b := (b : Int)) (os := O) (by omega) (by omega) hOne (by omega) hOs
  have hzn : z.1 = (b : Int) + (n : Int) - 1 := by rw [ez, hOl]
  have o4 : ∀ ρ : PEnv, ρ.length = 14 → ρ.getD 4 none = some (.tuple (O.map PyData.int)) → ρ.getD 7 none = some (.int (b : Int)) → lcL (gSet 12) tYesP (xTup (xCons (xBin oAdd (xVar 7) (xVar 12)) (xCons (xBin oIx (xVar 4) (xVar 12)) xNil))) ρ ((List.range n).map fun k : Nat => PyData.int (k : Nat)) = some ((lgL (b : Int) O).map enc) := fun ρ hρ h4 h7 => by
    match ρ, hρ with
    | [r0, r1, r2, r3, r4, r5, r6, r7, r8, r9, r10, r11, r12, r13], _ =>
      simp only [List.getD_cons_succ, List.getD_cons_zero] at h4 h7
      subst h4
      subst h7
      rw [← lgL_enc, hOl]
      refine lcL_map _ _ _ fun k hk => ?_
      have a0 := at1 k (by simpa using hk)
      generalize O.map PyData.int = MO at *
      generalize O.getD k 0 = x0 at *
      simp -implicitDefEqProofs only [enc, xVar_a, xC_a, xBin_a, xUn_a, tOf_a, tTru_a, tNotP_a, tAndP_a, tOrP_a, tyes_a, tno_a, tYesP_a, xNil_a, xCons_a, xTup_a, xLst_a, xAnd_a, xOr_a, xIf_a, xChain_a, oNo_a, oAt_a, xSl_a, xCall_a, xSeq_a, xIt_a, xLc_a, gSet_a, gTupD_a, gsNil_a, gsCons_a, sNop_a, sBrk_a, sCnt_a, sSeq_a, sRet_a, sIf_a, sSet_a, sTgt_a, sAug_a, sApp_a, sExt_a, sPut_a, sPutK_a, pkO_s, sFor_a, sWhile_a, sPar_a, runD_a, b2_s, c2_s, sqO_nx, sqO_rt, sqO_bk, sqO_ct, ifO_t, ifO_f, stO_s, endO_nx, endO_rt, andO_t, andO_f, orO_t, orO_f, chO_s, chP_t, chP_f, slO_s, atO_i, lcO_s, forO_s, gsO_s, nxO_s, tgO_s, paO_s, apO_s, exO_s, plO_s, ptO_s, dB_b, tru_b, tru_n, tru_i, tru_l, tru_t, is_n, isn_n, nn_n, nn_i, nn_b, nn_t, nn_l, add_ii, add'_ii, sub_ii, neg_i, lt_ii, le_ii, gt_ii, ge_ii, ix_l, ix_t, ix_s, at0, at1, at2, sl_l, sl_t, len_l, len_t, len_s, abs_i, int_i, int_b, max_ii, min_ii, tup_s, lst_s, seq_l, seq_t, sum_s, wipe_n, wipe_c, mul_ii, fdiv_ii, mod_ii, add_ll, add_tt, setAll, mkT, mkL, oNot, List.getD_cons_zero, List.getD_cons_succ, List.length_cons, List.length_nil, List.set_cons_zero, List.set_cons_succ, List.map_cons, List.map_nil, List.replicate, List.cons_append, List.nil_append, List.append_nil, Option.bind_some, Option.map_some, List.all_cons, List.all_nil, if_true, if_false, reduceIte, Nat.reduceAdd, Nat.reduceSub, Nat.reduceLT, Nat.reduceLeDiff, Nat.reduceEqDiff, decide_true, decide_false, Bool.and_true, Bool.and_self, Bool.true_and, Bool.not_true, Bool.not_false, ne_eq, not_true_eq_false, not_false_eq_true, Nat.zero_add, Bool.false_eq_true, and_self, true_and, and_true, a0]
  have su : bSum [.tuple (O.map PyData.int)] = some (.int O.sum) := int_s false O
  have sO : Sm 20 O.sum := by
    have := sum_sm O (fun p => p) (k := 10) hOs (by omega)
    rwa [List.map_id'] at this
  have m2 : mulOk 2 O.sum = true := (Sm.lit (k := 10) (a := 2)).mulOk sO (by omega) (by omega)
  have at0 : atI (O.map PyData.int) 0 = some (.int (O.getD 0 0)) := at1 0 (by omega)
  have atE : atI (O.map PyData.int) ((n : Int) - 1) = some (.int (O.getD (n - 1) 0)) := by
    have := at1 (n - 1) (by omega)
    rwa [show ((n - 1 : Nat) : Int) = (n : Int) - 1 by omega] at this
  have atL : atI (O.map PyData.int) (-1) = some (.int (O.getD (n - 1) 0)) := by
    unfold atI
    have e : ixN (O.map PyData.int).length (-1) = some (n - 1) := by
      unfold ixN
      rw [if_neg (by decide), List.length_map, if_pos (by omega)]
      exact congrArg some (by omega)
    have hz : O[n - 1]? = some (O.getD (n - 1) 0) := by
      rw [List.getD_eq_getElem?_getD, List.getElem?_eq_getElem (by omega), Option.getD_some]
    have hz2 : (O.map PyData.int)[n - 1]? = some (PyData.int (O.getD (n - 1) 0)) := by
      rw [List.getElem?_map, hz, Option.map_some]
    rw [e, Option.bind_some]
    exact hz2
  have s0 := hOs _ (getD_mem' (d := 0) (show 0 < O.length by omega))
  have sE := hOs _ (getD_mem' (d := 0) (show n - 1 < O.length by omega))
  have sway : Sm 100 (2 * O.sum - O.getD 0 0 - O.getD (n - 1) 0) := by
    have : Sm 40 (2 * O.sum) := ((Sm.lit (k := 10) (a := 2)).mul sO).mono (by omega)
    exact ((this.sub (s0.mono (by omega))).sub (sE.mono (by omega))).mono (by omega)
  obtain ⟨w1, w2⟩ := half_rd sway
  have tot := lgL_total (b := (b : Int)) (os := O) (by omega) (by omega)
  rw [hOl] at tot
  have au : d_area_under [.tuple (O.map PyData.int)] = some (rd (((2 * O.sum - O.getD 0 0 - O.getD (n - 1) 0 : Int) : Rat) / 2)) := by
    generalize O.map PyData.int = MO at *
    simp -implicitDefEqProofs only [d_area_under, g_area_under, xVar_a, xC_a, xBin_a, xUn_a, tOf_a, tTru_a, tNotP_a, tAndP_a, tOrP_a, tyes_a, tno_a, tYesP_a, xNil_a, xCons_a, xTup_a, xLst_a, xAnd_a, xOr_a, xIf_a, xChain_a, oNo_a, oAt_a, xSl_a, xCall_a, xSeq_a, xIt_a, xLc_a, gSet_a, gTupD_a, gsNil_a, gsCons_a, sNop_a, sBrk_a, sCnt_a, sSeq_a, sRet_a, sIf_a, sSet_a, sTgt_a, sAug_a, sApp_a, sExt_a, sPut_a, sPutK_a, pkO_s, sFor_a, sWhile_a, sPar_a, runD_a, b2_s, c2_s, sqO_nx, sqO_rt, sqO_bk, sqO_ct, ifO_t, ifO_f, stO_s, endO_nx, endO_rt, andO_t, andO_f, orO_t, orO_f, chO_s, chP_t, chP_f, slO_s, atO_i, lcO_s, forO_s, gsO_s, nxO_s, tgO_s, paO_s, apO_s, exO_s, plO_s, ptO_s, dB_b, tru_b, tru_n, tru_i, tru_l, tru_t, is_n, isn_n, nn_n, nn_i, nn_b, nn_t, nn_l, add_ii, add'_ii, sub_ii, neg_i, lt_ii, le_ii, gt_ii, ge_ii, ix_l, ix_t, ix_s, at0, at1, at2, sl_l, sl_t, len_l, len_t, len_s, abs_i, int_i, int_b, max_ii, min_ii, tup_s, lst_s, seq_l, seq_t, sum_s, wipe_n, wipe_c, mul_ii, fdiv_ii, mod_ii, add_ll, add_tt, setAll, mkT, mkL, oNot, List.getD_cons_zero, List.getD_cons_succ, List.length_cons, List.length_nil, List.set_cons_zero, List.set_cons_succ, List.map_cons, List.map_nil, List.replicate, List.cons_append, List.nil_append, List.append_nil, Option.bind_some, Option.map_some, List.all_cons, List.all_nil, if_true, if_false, reduceIte, Nat.reduceAdd, Nat.reduceSub, Nat.reduceLT, Nat.reduceLeDiff, Nat.reduceEqDiff, decide_true, decide_false, Bool.and_true, Bool.and_self, Bool.true_and, Bool.not_true, Bool.not_false, ne_eq, not_true_eq_false, not_false_eq_true, Nat.zero_add, Bool.false_eq_true, and_self, true_and, and_true, su, m2, at0, atL, w1]
  have ra : d_run_all [.tuple ((lgL (b : Int) O).map enc)] = some (rd (((2 * O.sum - O.getD 0 0 - O.getD (n - 1) 0 : Int) : Rat) / 2)) := by
    have := run_all_eq false hL
    rw [ea, hzn, show ((b : Int) + (n : Int) - 1 - (b : Int)).toNat = n - 1 by omega, tot] at this
    exact this
  have k7 := like_rd 6 (((2 * O.sum - O.getD 0 0 - O.getD (n - 1) 0 : Int) : Rat) / 2)
  have ms : d_mean_speed [.tuple ((lgL (b : Int) O).map enc)] = some (rd (((2 * O.sum - O.getD 0 0 - O.getD (n - 1) 0 : Int) : Rat) / 2 * ((1 : Rat) / (((n : Int) - 1 : Int) : Rat)))) := by
    have := mean_speed_eq false hL
    rw [ea, hzn, show (b : Int) + (n : Int) - 1 - (b : Int) = (n : Int) - 1 by omega, if_neg zn, show ((n : Int) - 1).toNat = n - 1 by omega, tot] at this
    exact this
  have sv : SR 100 (((2 * O.sum - O.getD 0 0 - O.getD (n - 1) 0 : Int) : Rat) / 2) := SR.div (q := 2) sway Sm.lit (by decide)
  have sn : Sm 10 ((n : Int) - 1) := by unfold Sm; omega
  generalize hV : ((2 * O.sum - O.getD 0 0 - O.getD (n - 1) 0 : Int) : Rat) / 2 = V at *
  have m3 : mulOk (V.den : Int) ((n : Int) - 1) = true := sv.2.mulOk sn (by omega) (by omega)
  have mr : d__law_ratio [.int V.num, .int ((V.den : Int) * ((n : Int) - 1))] = some (rd (V * ((1 : Rat) / (((n : Int) - 1 : Int) : Rat)))) := by
    have hd := den_pos V
    have hn0 : (0 : Int) < (n : Int) - 1 := by omega
    have h1 : ((V.den : Int) : Rat) ≠ 0 := by have := cast_pos hd; grind
    have h2 : (((n : Int) - 1 : Int) : Rat) ≠ 0 := by have := cast_pos hn0; grind
    have key : (V.num : Rat) / (((V.den : Int) * ((n : Int) - 1) : Int) : Rat) = V * ((1 : Rat) / (((n : Int) - 1 : Int) : Rat)) := by
      have e := rat_eq V
      generalize V.num = u at *
      generalize (V.den : Int) = v at *
      generalize (n : Int) - 1 = k at *
      rw [Rat.intCast_mul, e]
      grind
    rw [← key]
    exact ratio_rd _ _ (Int.mul_pos hd hn0) ((sv.2.mul sn).mono (by omega))
  have k8 := like_rd 6 (V * ((1 : Rat) / (((n : Int) - 1 : Int) : Rat)))
  -- one hour
  have atS := at1 sp (by omega)
  have atS1 : atI (O.map PyData.int) ((sp : Int) + 1) = some (.int (O.getD (sp + 1) 0)) := at1 (sp + 1) (by omega)
  have sS := hOs _ (getD_mem' (d := 0) (show sp < O.length by omega))
  have sS1 := hOs _ (getD_mem' (d := 0) (show sp + 1 < O.length by omega))
  have pt := (half_rd (x := O.getD sp 0 + O.getD (sp + 1) 0) ((sS.add sS1).mono (by omega))).2
  have rbt : d_run_between [.tuple ((lgL (b : Int) O).map enc), .int ((b : Int) + (sp : Int)), .int ((b : Int) + (sp : Int) + 1)] = some (rd (((O.getD sp 0 + O.getD (sp + 1) 0 : Int) : Rat) / 2)) := by
    have := run_between_eq false hL (b := (b : Int) + (sp : Int)) (e := (b : Int) + (sp : Int) + 1) (by omega) (by omega) (by omega)
    rw [show ((b : Int) + (sp : Int) + 1 - ((b : Int) + (sp : Int))).toNat = 0 + 1 by omega, rb_succ, show rb (lgL (b : Int) O) ((b : Int) + (sp : Int)) 0 = 0 from rfl, show (b : Int) + (sp : Int) + ((0 : Nat) : Int) = (b : Int) + (sp : Int) by omega, lgL_hv (by omega), Rat.zero_add] at this
    exact this
  have k9 := like_rd 6 (((O.getD sp 0 + O.getD (sp + 1) 0 : Int) : Rat) / 2)
  have sa1 : d_speed_at [.tuple ((lgL (b : Int) O).map enc), .int ((b : Int) + (sp : Int))] = some (.tuple [.int (O.getD sp 0), .int 1]) := by
    have := speed_at_eq false hL (h := (b : Int) + (sp : Int))
    rw [if_pos (by omega), lgL_spd _ _ _ (by omega)] at this
    exact this
  have sa2 : d_speed_at [.tuple ((lgL (b : Int) O).map enc), .int ((b : Int) + (n : Int))] = some .none := by
    have := speed_at_eq false hL (h := (b : Int) + (n : Int))
    rw [if_neg (by omega)] at this
    exact this
  have k10 : d__law_like 8 [.tuple [.int (O.getD sp 0), .int 1], .tuple [.int (O.getD sp 0), .int 1]] = some (.bool true) := like_rd 6 ((O.getD sp 0 : Int) : Rat)
  have fl2 : flat (.tuple [.int (O.getD sp 0), .int 1]) = true := rfl
  have fl3 : flat PyData.none = true := rfl
  have fl4 : flat (.tuple [.int ((biL O).map fun p => p * p).sum, .int 1]) = true := rfl
  have flb : ∀ t, flat (.bool t) = true := fun t => rfl
  generalize V * ((1 : Rat) / (((n : Int) - 1 : Int) : Rat)) = V2 at *
  generalize ((O.getD sp 0 + O.getD (sp + 1) 0 : Int) : Rat) / 2 = V3 at *
  generalize ((biL O).map fun p => p * p).sum = SQ at *
  generalize ((biL O).map fun p => PyData.int (p * p)) = BQ at *
  generalize ((biL O).map fun p : Int => (p : Rat)).map rd = BT at *
  generalize (biL O).map PyData.int = BI at *
  generalize (lgL (b : Int) O).map enc = LG at *
  generalize (P0 n).map PyData.int = P0D at *
  generalize List.replicate (n - 2) (PyData.tuple [.int 0, .int 1]) = ZR at *
  generalize (List.range n).map (fun k : Nat => PyData.int (k : Nat)) = RN at *
  generalize (List.range (n - 2)).map (fun k : Nat => PyData.int (k : Nat)) = RN2 at *
  generalize O.map PyData.int = MO at *
  generalize W.map enc = MW at *
  generalize r.map PyData.int = RR at *
  generalize hT1 : decide (0 < M) = T1 at *
  generalize hT2 : decide (m < 0) = T2 at *
  cases T1 with
  | true =>
    simp -implicitDefEqProofs only [d__law_stations, g__law_stations, xVar_a, xC_a, xBin_a, xUn_a, tOf_a, tTru_a, tNotP_a, tAndP_a, tOrP_a, tyes_a, tno_a, tYesP_a, xNil_a, xCons_a, xTup_a, xLst_a, xAnd_a, xOr_a, xIf_a, xChain_a, oNo_a, oAt_a, xSl_a, xCall_a, xSeq_a, xIt_a, xLc_a, gSet_a, gTupD_a, gsNil_a, gsCons_a, sNop_a, sBrk_a, sCnt_a, sSeq_a, sRet_a, sIf_a, sSet_a, sTgt_a, sAug_a, sApp_a, sExt_a, sPut_a, sPutK_a, pkO_s, sFor_a, sWhile_a, sPar_a, runD_a, b2_s, c2_s, sqO_nx, sqO_rt, sqO_bk, sqO_ct, ifO_t, ifO_f, stO_s, endO_nx, endO_rt, andO_t, andO_f, orO_t, orO_f, chO_s, chP_t, chP_f, slO_s, atO_i, lcO_s, forO_s, gsO_s, nxO_s, tgO_s, paO_s, apO_s, exO_s, plO_s, ptO_s, dB_b, tru_b, tru_n, tru_i, tru_l, tru_t, is_n, isn_n, nn_n, nn_i, nn_b, nn_t, nn_l, add_ii, add'_ii, sub_ii, neg_i, lt_ii, le_ii, gt_ii, ge_ii, ix_l, ix_t, ix_s, at0, at1, at2, sl_l, sl_t, len_l, len_t, len_s, abs_i, int_i, int_b, max_ii, min_ii, tup_s, lst_s, seq_l, seq_t, sum_s, wipe_n, wipe_c, mul_ii, fdiv_ii, mod_ii, add_ll, add_tt, setAll, mkT, mkL, oNot, List.getD_cons_zero, List.getD_cons_succ, List.length_cons, List.length_nil, List.set_cons_zero, List.set_cons_succ, List.map_cons, List.map_nil, List.replicate, List.cons_append, List.nil_append, List.append_nil, Option.bind_some, Option.map_some, List.all_cons, List.all_nil, if_true, if_false, reduceIte, Nat.reduceAdd, Nat.reduceSub, Nat.reduceLT, Nat.reduceLeDiff, Nat.reduceEqDiff, decide_true, decide_false, Bool.and_true, Bool.and_self, Bool.true_and, Bool.not_true, Bool.not_false, ne_eq, not_true_eq_false, not_false_eq_true, Nat.zero_add, Bool.false_eq_true, and_self, true_and, and_true, i20, i26, i27, mod_ii z3, mod_ii z5, mod_ii zn, hn', en, tR, l1, l2, en2, l5, k1, l3, k2, l4, k3, gn, o1, gn2, o2, mx1, mn1, hT1, hT2, bo, flB, o3a, k4, fi, flb, k5, fs, o3b, f6, k6, hb, o4, su, m2, at0, atE, w2, au, flat_rd, k7, ra, ms, rd_0, rd_1, m3, mr, k8, hsp, atS, atS1, pt, rbt, k9, sa1, fl2, k10, sa2, fl3, fl4, is_n, nn_n]
  | false =>
    simp -implicitDefEqProofs only [d__law_stations, g__law_stations, xVar_a, xC_a, xBin_a, xUn_a, tOf_a, tTru_a, tNotP_a, tAndP_a, tOrP_a, tyes_a, tno_a, tYesP_a, xNil_a, xCons_a, xTup_a, xLst_a, xAnd_a, xOr_a, xIf_a, xChain_a, oNo_a, oAt_a, xSl_a, xCall_a, xSeq_a, xIt_a, xLc_a, gSet_a, gTupD_a, gsNil_a, gsCons_a, sNop_a, sBrk_a, sCnt_a, sSeq_a, sRet_a, sIf_a, sSet_a, sTgt_a, sAug_a, sApp_a, sExt_a, sPut_a, sPutK_a, pkO_s, sFor_a, sWhile_a, sPar_a, runD_a, b2_s, c2_s, sqO_nx, sqO_rt, sqO_bk, sqO_ct, ifO_t, ifO_f, stO_s, endO_nx, endO_rt, andO_t, andO_f, orO_t, orO_f, chO_s, chP_t, chP_f, slO_s, atO_i, lcO_s, forO_s, gsO_s, nxO_s, tgO_s, paO_s, apO_s, exO_s, plO_s, ptO_s, dB_b, tru_b, tru_n, tru_i, tru_l, tru_t, is_n, isn_n, nn_n, nn_i, nn_b, nn_t, nn_l, add_ii, add'_ii, sub_ii, neg_i, lt_ii, le_ii, gt_ii, ge_ii, ix_l, ix_t, ix_s, at0, at1, at2, sl_l, sl_t, len_l, len_t, len_s, abs_i, int_i, int_b, max_ii, min_ii, tup_s, lst_s, seq_l, seq_t, sum_s, wipe_n, wipe_c, mul_ii, fdiv_ii, mod_ii, add_ll, add_tt, setAll, mkT, mkL, oNot, List.getD_cons_zero, List.getD_cons_succ, List.length_cons, List.length_nil, List.set_cons_zero, List.set_cons_succ, List.map_cons, List.map_nil, List.replicate, List.cons_append, List.nil_append, List.append_nil, Option.bind_some, Option.map_some, List.all_cons, List.all_nil, if_true, if_false, reduceIte, Nat.reduceAdd, Nat.reduceSub, Nat.reduceLT, Nat.reduceLeDiff, Nat.reduceEqDiff, decide_true, decide_false, Bool.and_true, Bool.and_self, Bool.true_and, Bool.not_true, Bool.not_false, ne_eq, not_true_eq_false, not_false_eq_true, Nat.zero_add, Bool.false_eq_true, and_self, true_and, and_true, i20, i26, i27, mod_ii z3, mod_ii z5, mod_ii zn, hn', en, tR, l1, l2, en2, l5, k1, l3, k2, l4, k3, gn, o1, gn2, o2, mx1, mn1, hT1, hT2, bo, flB, o3a, k4, fi, flb, Bool.false_and, k5, fs, o3b, f6, k6, hb, o4, su, m2, at0, atE, w2, au, flat_rd, k7, ra, ms, rd_0, rd_1, m3, mr, k8, hsp, atS, atS1, pt, rbt, k9, sa1, fl2, k10, sa2, fl3, fl4, is_n, nn_n]
end K24

namespace K24
open PySem PySem.Spec PyProof.Rows L2 Pm
theorem mulOk_r (a : Int) {b : Int} (h : b.natAbs < 2 ^ 63) : mulOk a b = true := by
  unfold mulOk
  rw [decide_eq_true h]
  simp
theorem mulOk_lt {a b m : Int} (h0 : 0 ≤ a) (h : a < m) (hm : m ≤ 2147483647) : mulOk a b = true := by
  unfold mulOk
  rw [decide_eq_true (show a.natAbs < 2 ^ 63 by omega)]
  simp
theorem divOk_lit {b : Int} (h : b ≠ 0) (h2 : Sm 20 b) : divOk b = true := h2.divOk h (by omega)
def mix1 (c k : Int) : Int := (c * 48271 + k * 69621 + 8191).fmod 2147483647
def mix2 (c k : Int) : Int := (mix1 c k * mix1 c k + (mix1 c k).fdiv 7 + k * 16807).fmod 2147483629
def mix3 (c k : Int) : Int := (mix2 c k * mix2 c k + (mix2 c k).fdiv 11 + 40692).fmod 2147483563
theorem mixed_int (ns : List Int) (k : Nat) : ∃ v : Int, d__law_mixed [scr (ns.map PyData.int), .int k] = some (.int v) := by
  obtain ⟨c, hc⟩ : ∃ c : Int, (if 0 < ns.length then oIx (scr (ns.map PyData.int)) (.int ((k : Int).fmod ns.length)) else some (.int 0)) = some (.int c) := by
    by_cases h : 0 < ns.length
    · have h1 := fmod_rng (k : Int) (m := (ns.length : Int)) (by omega)
      obtain ⟨j, hj⟩ := Int.eq_ofNat_of_zero_le h1.1
      rw [if_pos h, hj]
      have h2 := h1.2
      rw [hj] at h2
      exact ⟨_, row_at ns j (by omega)⟩
    · exact ⟨0, if_neg h⟩
  have m1 := mulOk_r c (b := 48271) (by decide)
  have m2 := mulOk_r (k : Int) (b := 69621) (by decide)
  have m3 := mulOk_r (k : Int) (b := 16807) (by decide)
  have n1 : (2147483647 : Int) ≠ 0 := by decide
  have n2 : (2147483629 : Int) ≠ 0 := by decide
  have n3 : (2147483563 : Int) ≠ 0 := by decide
  have n4 : (1000003 : Int) ≠ 0 := by decide
  have d1 := divOk_lit (b := 7) (by decide) Sm.lit
  have d2 := divOk_lit (b := 11) (by decide) Sm.lit
  have d3 := divOk_lit (b := 5) (by decide) Sm.lit
  have r1 := fmod_rng (c * 48271 + (k : Int) * 69621 + 8191) (m := 2147483647) (by decide)
  have m4 : ∀ x, mulOk ((c * 48271 + (k : Int) * 69621 + 8191).fmod 2147483647) x = true := fun x => mulOk_lt r1.1 r1.2 (by decide)
  have r2 := fun x : Int => fmod_rng x (m := 2147483629) (by decide)
  have m5 : ∀ x y : Int, mulOk (x.fmod 2147483629) y = true := fun x y => mulOk_lt (r2 x).1 (r2 x).2 (by decide)
  by_cases h : 0 < ns.length
  · have h' : (0 : Int) < (ns.length : Int) := by omega
    have hn : (ns.length : Int) ≠ 0 := by omega
    rw [if_pos h, ix_s] at hc
    refine ⟨((mix3 c k).fdiv 5).fmod 1000003, ?_⟩
    simp only [mix3, mix2, mix1]
    simp -implicitDefEqProofs only [d__law_mixed, g__law_mixed, xVar_a, xC_a, xBin_a, xUn_a, tOf_a, tTru_a, tNotP_a, tAndP_a, tOrP_a, tyes_a, tno_a, tYesP_a, xNil_a, xCons_a, xTup_a, xLst_a, xAnd_a, xOr_a, xIf_a, xChain_a, oNo_a, oAt_a, xSl_a, xCall_a, xSeq_a, xIt_a, xLc_a, gSet_a, gTupD_a, gsNil_a, gsCons_a, sNop_a, sBrk_a, sCnt_a, sSeq_a, sRet_a, sIf_a, sSet_a, sTgt_a, sAug_a, sApp_a, sExt_a, sPut_a, sPutK_a, pkO_s, sFor_a, sWhile_a, sPar_a, runD_a, b2_s, c2_s, sqO_nx, sqO_rt, sqO_bk, sqO_ct, ifO_t, ifO_f, stO_s, endO_nx, endO_rt, andO_t, andO_f, orO_t, orO_f, chO_s, chP_t, chP_f, slO_s, atO_i, lcO_s, forO_s, gsO_s, nxO_s, tgO_s, paO_s, apO_s, exO_s, plO_s, ptO_s, dB_b, tru_b, tru_n, tru_i, tru_l, tru_t, is_n, isn_n, nn_n, nn_i, nn_b, nn_t, nn_l, add_ii, add'_ii, sub_ii, neg_i, lt_ii, le_ii, gt_ii, ge_ii, ix_l, ix_t, ix_s, at0, at1, at2, sl_l, sl_t, len_l, len_t, len_s, abs_i, int_i, int_b, max_ii, min_ii, tup_s, lst_s, seq_l, seq_t, sum_s, wipe_n, wipe_c, mul_ii, fdiv_ii, mod_ii, add_ll, add_tt, setAll, mkT, mkL, oNot, List.getD_cons_zero, List.getD_cons_succ, List.length_cons, List.length_nil, List.set_cons_zero, List.set_cons_succ, List.map_cons, List.map_nil, List.replicate, List.cons_append, List.nil_append, List.append_nil, Option.bind_some, Option.map_some, List.all_cons, List.all_nil, if_true, if_false, reduceIte, Nat.reduceAdd, Nat.reduceSub, Nat.reduceLT, Nat.reduceLeDiff, Nat.reduceEqDiff, decide_true, decide_false, Bool.and_true, Bool.and_self, Bool.true_and, Bool.not_true, Bool.not_false, ne_eq, not_true_eq_false, not_false_eq_true, Nat.zero_add, Bool.false_eq_true, and_self, true_and, and_true, List.length_map, h', mod_ii hn, hc, m1, m2, m3, m4, m5, mod_ii n1, mod_ii n2, mod_ii n3, mod_ii n4, fdiv_ii d1, fdiv_ii d2, fdiv_ii d3]
  · have h' : ¬ (0 : Int) < (ns.length : Int) := by omega
    rw [if_neg h] at hc
    cases hc
    refine ⟨((mix3 0 k).fdiv 5).fmod 1000003, ?_⟩
    simp only [mix3, mix2, mix1]
    simp -implicitDefEqProofs only [d__law_mixed, g__law_mixed, xVar_a, xC_a, xBin_a, xUn_a, tOf_a, tTru_a, tNotP_a, tAndP_a, tOrP_a, tyes_a, tno_a, tYesP_a, xNil_a, xCons_a, xTup_a, xLst_a, xAnd_a, xOr_a, xIf_a, xChain_a, oNo_a, oAt_a, xSl_a, xCall_a, xSeq_a, xIt_a, xLc_a, gSet_a, gTupD_a, gsNil_a, gsCons_a, sNop_a, sBrk_a, sCnt_a, sSeq_a, sRet_a, sIf_a, sSet_a, sTgt_a, sAug_a, sApp_a, sExt_a, sPut_a, sPutK_a, pkO_s, sFor_a, sWhile_a, sPar_a, runD_a, b2_s, c2_s, sqO_nx, sqO_rt, sqO_bk, sqO_ct, ifO_t, ifO_f, stO_s, endO_nx, endO_rt, andO_t, andO_f, orO_t, orO_f, chO_s, chP_t, chP_f, slO_s, atO_i, lcO_s, forO_s, gsO_s, nxO_s, tgO_s, paO_s, apO_s, exO_s, plO_s, ptO_s, dB_b, tru_b, tru_n, tru_i, tru_l, tru_t, is_n, isn_n, nn_n, nn_i, nn_b, nn_t, nn_l, add_ii, add'_ii, sub_ii, neg_i, lt_ii, le_ii, gt_ii, ge_ii, ix_l, ix_t, ix_s, at0, at1, at2, sl_l, sl_t, len_l, len_t, len_s, abs_i, int_i, int_b, max_ii, min_ii, tup_s, lst_s, seq_l, seq_t, sum_s, wipe_n, wipe_c, mul_ii, fdiv_ii, mod_ii, add_ll, add_tt, setAll, mkT, mkL, oNot, List.getD_cons_zero, List.getD_cons_succ, List.length_cons, List.length_nil, List.set_cons_zero, List.set_cons_succ, List.map_cons, List.map_nil, List.replicate, List.cons_append, List.nil_append, List.append_nil, Option.bind_some, Option.map_some, List.all_cons, List.all_nil, if_true, if_false, reduceIte, Nat.reduceAdd, Nat.reduceSub, Nat.reduceLT, Nat.reduceLeDiff, Nat.reduceEqDiff, decide_true, decide_false, Bool.and_true, Bool.and_self, Bool.true_and, Bool.not_true, Bool.not_false, ne_eq, not_true_eq_false, not_false_eq_true, Nat.zero_add, Bool.false_eq_true, and_self, true_and, and_true, List.length_map, h', m1, m2, m3, m4, m5, mod_ii n1, mod_ii n2, mod_ii n3, mod_ii n4, fdiv_ii d1, fdiv_ii d2, fdiv_ii d3]
theorem row_int (ns : List Int) : ∃ r : List Int, r.length = 30 ∧ d__law_row [scr (ns.map PyData.int), .int 30] = some (.list (r.map PyData.int)) := by
  have hr : oR1 [.int 30] = some (List.map (fun i => PyData.int (i : Nat)) (List.range 30)) := oR1_nat 30 (by omega)
  have n1 : (1000 : Int) ≠ 0 := by decide
  have d1 := divOk_lit (b := 1000) (by decide) Sm.lit
  have key : ∀ big : Int, ∃ r : List Int, r.length = 30 ∧ ∃ x y, forL (gSet 4) l1__law_row (List.map (fun i => PyData.int (i : Nat)) (List.range 30)) [some (scr (ns.map PyData.int)), some (.int 30), some (.int big), some (.list []), none] = some (.nx [some (scr (ns.map PyData.int)), some (.int 30), x, some (.list (r.map PyData.int)), y]) := fun big => by
    obtain ⟨ρ', e, h⟩ := forL_inv (g := gSet 4) (b := l1__law_row) (fun i : Nat => PyData.int (i : Nat))
      (fun pre rest ρ => pre.length + rest.length = 30 ∧ ∃ (r : List Int) (big : Int) (j : Option D), r.length = pre.length ∧ ρ = [some (scr (ns.map PyData.int)), some (.int 30), some (.int big), some (.list (r.map PyData.int)), j]) (fun pre x rest ρ ⟨hl, r, big, j, hrl, e⟩ => by
        subst e
        have hx : (r.map PyData.int).length < 16777216 := by rw [List.length_map]; simp at hl; omega
        obtain ⟨v, hv⟩ := mixed_int ns x
        by_cases hb : 0 < big
        · refine ⟨_, [some (scr (ns.map PyData.int)), some (.int 30), some (.int (big.fdiv 1000)), some (.list ((r ++ [big.fmod 1000]).map PyData.int)), some (.int x)], rfl, .inl ?_, by simp at hl ⊢; omega, r ++ [big.fmod 1000], big.fdiv 1000, some (.int x), by simp; omega, rfl⟩
          simp -implicitDefEqProofs only [l1__law_row, xVar_a, xC_a, xBin_a, xUn_a, tOf_a, tTru_a, tNotP_a, tAndP_a, tOrP_a, tyes_a, tno_a, tYesP_a, xNil_a, xCons_a, xTup_a, xLst_a, xAnd_a, xOr_a, xIf_a, xChain_a, oNo_a, oAt_a, xSl_a, xCall_a, xSeq_a, xIt_a, xLc_a, gSet_a, gTupD_a, gsNil_a, gsCons_a, sNop_a, sBrk_a, sCnt_a, sSeq_a, sRet_a, sIf_a, sSet_a, sTgt_a, sAug_a, sApp_a, sExt_a, sPut_a, sPutK_a, pkO_s, sFor_a, sWhile_a, sPar_a, runD_a, b2_s, c2_s, sqO_nx, sqO_rt, sqO_bk, sqO_ct, ifO_t, ifO_f, stO_s, endO_nx, endO_rt, andO_t, andO_f, orO_t, orO_f, chO_s, chP_t, chP_f, slO_s, atO_i, lcO_s, forO_s, gsO_s, nxO_s, tgO_s, paO_s, apO_s, exO_s, plO_s, ptO_s, dB_b, tru_b, tru_n, tru_i, tru_l, tru_t, is_n, isn_n, nn_n, nn_i, nn_b, nn_t, nn_l, add_ii, add'_ii, sub_ii, neg_i, lt_ii, le_ii, gt_ii, ge_ii, ix_l, ix_t, ix_s, at0, at1, at2, sl_l, sl_t, len_l, len_t, len_s, abs_i, int_i, int_b, max_ii, min_ii, tup_s, lst_s, seq_l, seq_t, sum_s, wipe_n, wipe_c, mul_ii, fdiv_ii, mod_ii, add_ll, add_tt, setAll, mkT, mkL, oNot, List.getD_cons_zero, List.getD_cons_succ, List.length_cons, List.length_nil, List.set_cons_zero, List.set_cons_succ, List.map_cons, List.map_nil, List.replicate, List.cons_append, List.nil_append, List.append_nil, Option.bind_some, Option.map_some, List.all_cons, List.all_nil, if_true, if_false, reduceIte, Nat.reduceAdd, Nat.reduceSub, Nat.reduceLT, Nat.reduceLeDiff, Nat.reduceEqDiff, decide_true, decide_false, Bool.and_true, Bool.and_self, Bool.true_and, Bool.not_true, Bool.not_false, ne_eq, not_true_eq_false, not_false_eq_true, Nat.zero_add, Bool.false_eq_true, and_self, true_and, and_true, hb, mod_ii n1, fdiv_ii d1, hx, List.map_append]
        · refine ⟨_, [some (scr (ns.map PyData.int)), some (.int 30), some (.int big), some (.list ((r ++ [v]).map PyData.int)), some (.int x)], rfl, .inl ?_, by simp at hl ⊢; omega, r ++ [v], big, some (.int x), by simp; omega, rfl⟩
          simp -implicitDefEqProofs only [l1__law_row, xVar_a, xC_a, xBin_a, xUn_a, tOf_a, tTru_a, tNotP_a, tAndP_a, tOrP_a, tyes_a, tno_a, tYesP_a, xNil_a, xCons_a, xTup_a, xLst_a, xAnd_a, xOr_a, xIf_a, xChain_a, oNo_a, oAt_a, xSl_a, xCall_a, xSeq_a, xIt_a, xLc_a, gSet_a, gTupD_a, gsNil_a, gsCons_a, sNop_a, sBrk_a, sCnt_a, sSeq_a, sRet_a, sIf_a, sSet_a, sTgt_a, sAug_a, sApp_a, sExt_a, sPut_a, sPutK_a, pkO_s, sFor_a, sWhile_a, sPar_a, runD_a, b2_s, c2_s, sqO_nx, sqO_rt, sqO_bk, sqO_ct, ifO_t, ifO_f, stO_s, endO_nx, endO_rt, andO_t, andO_f, orO_t, orO_f, chO_s, chP_t, chP_f, slO_s, atO_i, lcO_s, forO_s, gsO_s, nxO_s, tgO_s, paO_s, apO_s, exO_s, plO_s, ptO_s, dB_b, tru_b, tru_n, tru_i, tru_l, tru_t, is_n, isn_n, nn_n, nn_i, nn_b, nn_t, nn_l, add_ii, add'_ii, sub_ii, neg_i, lt_ii, le_ii, gt_ii, ge_ii, ix_l, ix_t, ix_s, at0, at1, at2, sl_l, sl_t, len_l, len_t, len_s, abs_i, int_i, int_b, max_ii, min_ii, tup_s, lst_s, seq_l, seq_t, sum_s, wipe_n, wipe_c, mul_ii, fdiv_ii, mod_ii, add_ll, add_tt, setAll, mkT, mkL, oNot, List.getD_cons_zero, List.getD_cons_succ, List.length_cons, List.length_nil, List.set_cons_zero, List.set_cons_succ, List.map_cons, List.map_nil, List.replicate, List.cons_append, List.nil_append, List.append_nil, Option.bind_some, Option.map_some, List.all_cons, List.all_nil, if_true, if_false, reduceIte, Nat.reduceAdd, Nat.reduceSub, Nat.reduceLT, Nat.reduceLeDiff, Nat.reduceEqDiff, decide_true, decide_false, Bool.and_true, Bool.and_self, Bool.true_and, Bool.not_true, Bool.not_false, ne_eq, not_true_eq_false, not_false_eq_true, Nat.zero_add, Bool.false_eq_true, and_self, true_and, and_true, hb, hv, hx, List.map_append]) (List.range 30) [] [some (scr (ns.map PyData.int)), some (.int 30), some (.int big), some (.list []), none] ⟨by simp, [], big, none, rfl, rfl⟩
    obtain ⟨_, r, big', j, hrl, e'⟩ := h
    subst e'
    exact ⟨r, by simpa using hrl, _, _, e⟩
  have pw : oPow (.int 10) (.int 18) = some (.int 1000000000000000000) := by
    show (if (0 : Int) ≤ 18 ∧ (18 : Int) ≤ 1000000 ∧ (10 : Int).natAbs < 2 ^ 64 then some (PyData.int (10 ^ (18 : Int).toNat)) else none) = _
    rw [if_pos (by decide)]
    rfl
  cases ns with
  | nil =>
    obtain ⟨r, h1, x, y, h2⟩ := key 0
    refine ⟨r, h1, ?_⟩
    have e0 : ¬ (0 : Int) < ((0 : Nat) : Int) := by decide
    simp only [List.map_nil] at h2
    simp -implicitDefEqProofs only [d__law_row, g__law_row, xVar_a, xC_a, xBin_a, xUn_a, tOf_a, tTru_a, tNotP_a, tAndP_a, tOrP_a, tyes_a, tno_a, tYesP_a, xNil_a, xCons_a, xTup_a, xLst_a, xAnd_a, xOr_a, xIf_a, xChain_a, oNo_a, oAt_a, xSl_a, xCall_a, xSeq_a, xIt_a, xLc_a, gSet_a, gTupD_a, gsNil_a, gsCons_a, sNop_a, sBrk_a, sCnt_a, sSeq_a, sRet_a, sIf_a, sSet_a, sTgt_a, sAug_a, sApp_a, sExt_a, sPut_a, sPutK_a, pkO_s, sFor_a, sWhile_a, sPar_a, runD_a, b2_s, c2_s, sqO_nx, sqO_rt, sqO_bk, sqO_ct, ifO_t, ifO_f, stO_s, endO_nx, endO_rt, andO_t, andO_f, orO_t, orO_f, chO_s, chP_t, chP_f, slO_s, atO_i, lcO_s, forO_s, gsO_s, nxO_s, tgO_s, paO_s, apO_s, exO_s, plO_s, ptO_s, dB_b, tru_b, tru_n, tru_i, tru_l, tru_t, is_n, isn_n, nn_n, nn_i, nn_b, nn_t, nn_l, add_ii, add'_ii, sub_ii, neg_i, lt_ii, le_ii, gt_ii, ge_ii, ix_l, ix_t, ix_s, at0, at1, at2, sl_l, sl_t, len_l, len_t, len_s, abs_i, int_i, int_b, max_ii, min_ii, tup_s, lst_s, seq_l, seq_t, sum_s, wipe_n, wipe_c, mul_ii, fdiv_ii, mod_ii, add_ll, add_tt, setAll, mkT, mkL, oNot, List.getD_cons_zero, List.getD_cons_succ, List.length_cons, List.length_nil, List.set_cons_zero, List.set_cons_succ, List.map_cons, List.map_nil, List.replicate, List.cons_append, List.nil_append, List.append_nil, Option.bind_some, Option.map_some, List.all_cons, List.all_nil, if_true, if_false, reduceIte, Nat.reduceAdd, Nat.reduceSub, Nat.reduceLT, Nat.reduceLeDiff, Nat.reduceEqDiff, decide_true, decide_false, Bool.and_true, Bool.and_self, Bool.true_and, Bool.not_true, Bool.not_false, ne_eq, not_true_eq_false, not_false_eq_true, Nat.zero_add, Bool.false_eq_true, and_self, true_and, and_true, e0, hr, h2]
  | cons c cs =>
    have e0 : (0 : Int) < ((cs.length + 1 : Nat) : Int) := by omega
    have hc : atI (PyData.int c :: cs.map PyData.int) 0 = some (.int c) := at0 _ _
    by_cases hb : (1000000000000000000 : Int) ≤ c
    · obtain ⟨r, h1, x, y, h2⟩ := key c
      refine ⟨r, h1, ?_⟩
      simp only [List.map_cons] at h2
      simp -implicitDefEqProofs only [d__law_row, g__law_row, xVar_a, xC_a, xBin_a, xUn_a, tOf_a, tTru_a, tNotP_a, tAndP_a, tOrP_a, tyes_a, tno_a, tYesP_a, xNil_a, xCons_a, xTup_a, xLst_a, xAnd_a, xOr_a, xIf_a, xChain_a, oNo_a, oAt_a, xSl_a, xCall_a, xSeq_a, xIt_a, xLc_a, gSet_a, gTupD_a, gsNil_a, gsCons_a, sNop_a, sBrk_a, sCnt_a, sSeq_a, sRet_a, sIf_a, sSet_a, sTgt_a, sAug_a, sApp_a, sExt_a, sPut_a, sPutK_a, pkO_s, sFor_a, sWhile_a, sPar_a, runD_a, b2_s, c2_s, sqO_nx, sqO_rt, sqO_bk, sqO_ct, ifO_t, ifO_f, stO_s, endO_nx, endO_rt, andO_t, andO_f, orO_t, orO_f, chO_s, chP_t, chP_f, slO_s, atO_i, lcO_s, forO_s, gsO_s, nxO_s, tgO_s, paO_s, apO_s, exO_s, plO_s, ptO_s, dB_b, tru_b, tru_n, tru_i, tru_l, tru_t, is_n, isn_n, nn_n, nn_i, nn_b, nn_t, nn_l, add_ii, add'_ii, sub_ii, neg_i, lt_ii, le_ii, gt_ii, ge_ii, ix_l, ix_t, ix_s, at0, at1, at2, sl_l, sl_t, len_l, len_t, len_s, abs_i, int_i, int_b, max_ii, min_ii, tup_s, lst_s, seq_l, seq_t, sum_s, wipe_n, wipe_c, mul_ii, fdiv_ii, mod_ii, add_ll, add_tt, setAll, mkT, mkL, oNot, List.getD_cons_zero, List.getD_cons_succ, List.length_cons, List.length_nil, List.set_cons_zero, List.set_cons_succ, List.map_cons, List.map_nil, List.replicate, List.cons_append, List.nil_append, List.append_nil, Option.bind_some, Option.map_some, List.all_cons, List.all_nil, if_true, if_false, reduceIte, Nat.reduceAdd, Nat.reduceSub, Nat.reduceLT, Nat.reduceLeDiff, Nat.reduceEqDiff, decide_true, decide_false, Bool.and_true, Bool.and_self, Bool.true_and, Bool.not_true, Bool.not_false, ne_eq, not_true_eq_false, not_false_eq_true, Nat.zero_add, Bool.false_eq_true, and_self, true_and, and_true, List.length_map, e0, hc, pw, hb, hr, h2]
    · obtain ⟨r, h1, x, y, h2⟩ := key 0
      refine ⟨r, h1, ?_⟩
      simp only [List.map_cons] at h2
      simp -implicitDefEqProofs only [d__law_row, g__law_row, xVar_a, xC_a, xBin_a, xUn_a, tOf_a, tTru_a, tNotP_a, tAndP_a, tOrP_a, tyes_a, tno_a, tYesP_a, xNil_a, xCons_a, xTup_a, xLst_a, xAnd_a, xOr_a, xIf_a, xChain_a, oNo_a, oAt_a, xSl_a, xCall_a, xSeq_a, xIt_a, xLc_a, gSet_a, gTupD_a, gsNil_a, gsCons_a, sNop_a, sBrk_a, sCnt_a, sSeq_a, sRet_a, sIf_a, sSet_a, sTgt_a, sAug_a, sApp_a, sExt_a, sPut_a, sPutK_a, pkO_s, sFor_a, sWhile_a, sPar_a, runD_a, b2_s, c2_s, sqO_nx, sqO_rt, sqO_bk, sqO_ct, ifO_t, ifO_f, stO_s, endO_nx, endO_rt, andO_t, andO_f, orO_t, orO_f, chO_s, chP_t, chP_f, slO_s, atO_i, lcO_s, forO_s, gsO_s, nxO_s, tgO_s, paO_s, apO_s, exO_s, plO_s, ptO_s, dB_b, tru_b, tru_n, tru_i, tru_l, tru_t, is_n, isn_n, nn_n, nn_i, nn_b, nn_t, nn_l, add_ii, add'_ii, sub_ii, neg_i, lt_ii, le_ii, gt_ii, ge_ii, ix_l, ix_t, ix_s, at0, at1, at2, sl_l, sl_t, len_l, len_t, len_s, abs_i, int_i, int_b, max_ii, min_ii, tup_s, lst_s, seq_l, seq_t, sum_s, wipe_n, wipe_c, mul_ii, fdiv_ii, mod_ii, add_ll, add_tt, setAll, mkT, mkL, oNot, List.getD_cons_zero, List.getD_cons_succ, List.length_cons, List.length_nil, List.set_cons_zero, List.set_cons_succ, List.map_cons, List.map_nil, List.replicate, List.cons_append, List.nil_append, List.append_nil, Option.bind_some, Option.map_some, List.all_cons, List.all_nil, if_true, if_false, reduceIte, Nat.reduceAdd, Nat.reduceSub, Nat.reduceLT, Nat.reduceLeDiff, Nat.reduceEqDiff, decide_true, decide_false, Bool.and_true, Bool.and_self, Bool.true_and, Bool.not_true, Bool.not_false, ne_eq, not_true_eq_false, not_false_eq_true, Nat.zero_add, Bool.false_eq_true, and_self, true_and, and_true, List.length_map, e0, hc, pw, hb, hr, h2]

theorem eq_ii (a b : Int) : oEq (.int a) (.int b) = some (.bool (decide (a = b))) := by
  have e1 : PyData.eqv (.int a) (.int b) = (a == b) := by rw [PyData.eqv]
  unfold oEq
  rw [shp_int, shp_int, e1]
  rfl
theorem ne_ii (a b : Int) : oNe (.int a) (.int b) = some (.bool (!decide (a = b))) := by
  have e1 : PyData.eqv (.int a) (.int b) = (a == b) := by rw [PyData.eqv]
  unfold oNe
  rw [shp_int, shp_int, e1]
  rfl
theorem places_loop {r : List Int} (hr : r.length = 30) {m : Nat} (hm : m ≤ 5) (h1 : 1 ≤ m) (a0 a4 a5 a6 : Option D) : ∃ (P : List Int) (k d : Option D),
    P.Nodup ∧ 1 ≤ P.length ∧ P.length ≤ m ∧ (∀ p ∈ P, 0 ≤ p ∧ p < 10) ∧
    forL (gSet 2) l1_law ((List.range m).map fun k : Nat => PyData.int (k : Nat)) [a0, some (.list (r.map PyData.int)), none, some (.list []), a4, a5, a6] =
      some (.nx [a0, some (.list (r.map PyData.int)), k, some (.list (P.map PyData.int)), a4, d, a6]) := by
  obtain ⟨ρ', e, h⟩ := forL_inv (g := gSet 2) (b := l1_law) (fun i : Nat => PyData.int (i : Nat))
    (fun pre rest ρ => (pre ++ rest = List.range m) ∧ ∃ (P : List Int) (k d : Option D), P.Nodup ∧ (1 ≤ pre.length → 1 ≤ P.length) ∧ P.length ≤ pre.length ∧ (∀ p ∈ P, 0 ≤ p ∧ p < 10) ∧
      ρ = [a0, some (.list (r.map PyData.int)), k, some (.list (P.map PyData.int)), a4, d, a6])
    (fun pre x rest ρ ⟨hl, P, k, d, hn, h1, hp, hb, e⟩ => by
      subst e
      have hlen := congrArg List.length hl
      simp at hlen
      have hx : x < m := by
        have : x ∈ List.range m := by rw [← hl]; simp
        simpa using this
      have i1 : atI (r.map PyData.int) (1 + (x : Int)) = some (.int (r.getD (1 + x) 0)) := by
        have := row_at r (1 + x) (by omega)
        rwa [Int.natCast_add] at this
      have z10 : (10 : Int) ≠ 0 := by decide
      have rg := fmod_rng (r.getD (1 + x) 0) (m := 10) (by decide)
      have hx2 : (P.map PyData.int).length < 16777216 := by rw [List.length_map]; omega
      have ni := notin_ints ((r.getD (1 + x) 0).fmod 10) P
      by_cases hc : P.contains ((r.getD (1 + x) 0).fmod 10) = true
      · have ni : oNotIn (.int ((r.getD (1 + x) 0).fmod 10)) (.list (P.map PyData.int)) = some (.bool false) := by rw [ni, hc]; rfl
        refine ⟨_, [a0, some (.list (r.map PyData.int)), some (.int x), some (.list (P.map PyData.int)), a4, some (.int ((r.getD (1 + x) 0).fmod 10)), a6], rfl, .inl ?_, by rw [List.append_assoc]; exact hl, P, some (.int x), some (.int ((r.getD (1 + x) 0).fmod 10)), hn, ?_, by simp; omega, hb, rfl⟩
        · generalize r.map PyData.int = RR at *
          generalize P.map PyData.int = MP at *
          simp -implicitDefEqProofs only [l1_law, xVar_a, xC_a, xBin_a, xUn_a, tOf_a, tTru_a, tNotP_a, tAndP_a, tOrP_a, tyes_a, tno_a, tYesP_a, xNil_a, xCons_a, xTup_a, xLst_a, xAnd_a, xOr_a, xIf_a, xChain_a, oNo_a, oAt_a, xSl_a, xCall_a, xSeq_a, xIt_a, xLc_a, gSet_a, gTupD_a, gsNil_a, gsCons_a, sNop_a, sBrk_a, sCnt_a, sSeq_a, sRet_a, sIf_a, sSet_a, sTgt_a, sAug_a, sApp_a, sExt_a, sPut_a, sPutK_a, pkO_s, sFor_a, sWhile_a, sPar_a, runD_a, b2_s, c2_s, sqO_nx, sqO_rt, sqO_bk, sqO_ct, ifO_t, ifO_f, stO_s, endO_nx, endO_rt, andO_t, andO_f, orO_t, orO_f, chO_s, chP_t, chP_f, slO_s, atO_i, lcO_s, forO_s, gsO_s, nxO_s, tgO_s, paO_s, apO_s, exO_s, plO_s, ptO_s, dB_b, tru_b, tru_n, tru_i, tru_l, tru_t, is_n, isn_n, nn_n, nn_i, nn_b, nn_t, nn_l, add_ii, add'_ii, sub_ii, neg_i, lt_ii, le_ii, gt_ii, ge_ii, ix_l, ix_t, ix_s, at0, at1, at2, sl_l, sl_t, len_l, len_t, len_s, abs_i, int_i, int_b, max_ii, min_ii, tup_s, lst_s, seq_l, seq_t, sum_s, wipe_n, wipe_c, mul_ii, fdiv_ii, mod_ii, add_ll, add_tt, setAll, mkT, mkL, oNot, List.getD_cons_zero, List.getD_cons_succ, List.length_cons, List.length_nil, List.set_cons_zero, List.set_cons_succ, List.map_cons, List.map_nil, List.replicate, List.cons_append, List.nil_append, List.append_nil, Option.bind_some, Option.map_some, List.all_cons, List.all_nil, if_true, if_false, reduceIte, Nat.reduceAdd, Nat.reduceSub, Nat.reduceLT, Nat.reduceLeDiff, Nat.reduceEqDiff, decide_true, decide_false, Bool.and_true, Bool.and_self, Bool.true_and, Bool.not_true, Bool.not_false, ne_eq, not_true_eq_false, not_false_eq_true, Nat.zero_add, Bool.false_eq_true, and_self, true_and, and_true, i1, mod_ii z10, ni]
        · intro _
          have : (r.getD (1 + x) 0).fmod 10 ∈ P := by simpa using hc
          exact List.length_pos_of_mem this
      · have hc' : (P.contains ((r.getD (1 + x) 0).fmod 10)) = false := by simpa using hc
        have ni : oNotIn (.int ((r.getD (1 + x) 0).fmod 10)) (.list (P.map PyData.int)) = some (.bool true) := by rw [ni, hc']; rfl
        refine ⟨_, [a0, some (.list (r.map PyData.int)), some (.int x), some (.list ((P ++ [(r.getD (1 + x) 0).fmod 10]).map PyData.int)), a4, some (.int ((r.getD (1 + x) 0).fmod 10)), a6], rfl, .inl ?_, by rw [List.append_assoc]; exact hl, P ++ [(r.getD (1 + x) 0).fmod 10], some (.int x), some (.int ((r.getD (1 + x) 0).fmod 10)), ?_, by simp, by simp; omega, ?_, rfl⟩
        · rw [List.map_append]
          generalize r.map PyData.int = RR at *
          generalize P.map PyData.int = MP at *
          simp -implicitDefEqProofs only [l1_law, xVar_a, xC_a, xBin_a, xUn_a, tOf_a, tTru_a, tNotP_a, tAndP_a, tOrP_a, tyes_a, tno_a, tYesP_a, xNil_a, xCons_a, xTup_a, xLst_a, xAnd_a, xOr_a, xIf_a, xChain_a, oNo_a, oAt_a, xSl_a, xCall_a, xSeq_a, xIt_a, xLc_a, gSet_a, gTupD_a, gsNil_a, gsCons_a, sNop_a, sBrk_a, sCnt_a, sSeq_a, sRet_a, sIf_a, sSet_a, sTgt_a, sAug_a, sApp_a, sExt_a, sPut_a, sPutK_a, pkO_s, sFor_a, sWhile_a, sPar_a, runD_a, b2_s, c2_s, sqO_nx, sqO_rt, sqO_bk, sqO_ct, ifO_t, ifO_f, stO_s, endO_nx, endO_rt, andO_t, andO_f, orO_t, orO_f, chO_s, chP_t, chP_f, slO_s, atO_i, lcO_s, forO_s, gsO_s, nxO_s, tgO_s, paO_s, apO_s, exO_s, plO_s, ptO_s, dB_b, tru_b, tru_n, tru_i, tru_l, tru_t, is_n, isn_n, nn_n, nn_i, nn_b, nn_t, nn_l, add_ii, add'_ii, sub_ii, neg_i, lt_ii, le_ii, gt_ii, ge_ii, ix_l, ix_t, ix_s, at0, at1, at2, sl_l, sl_t, len_l, len_t, len_s, abs_i, int_i, int_b, max_ii, min_ii, tup_s, lst_s, seq_l, seq_t, sum_s, wipe_n, wipe_c, mul_ii, fdiv_ii, mod_ii, add_ll, add_tt, setAll, mkT, mkL, oNot, List.getD_cons_zero, List.getD_cons_succ, List.length_cons, List.length_nil, List.set_cons_zero, List.set_cons_succ, List.map_cons, List.map_nil, List.replicate, List.cons_append, List.nil_append, List.append_nil, Option.bind_some, Option.map_some, List.all_cons, List.all_nil, if_true, if_false, reduceIte, Nat.reduceAdd, Nat.reduceSub, Nat.reduceLT, Nat.reduceLeDiff, Nat.reduceEqDiff, decide_true, decide_false, Bool.and_true, Bool.and_self, Bool.true_and, Bool.not_true, Bool.not_false, ne_eq, not_true_eq_false, not_false_eq_true, Nat.zero_add, Bool.false_eq_true, and_self, true_and, and_true, i1, mod_ii z10, ni, hx2]
        · rw [List.nodup_append]
          refine ⟨hn, by simp, ?_⟩
          intro a ha b hb' hab
          simp at hb'
          subst hab
          subst hb'
          simp at hc'
          exact hc' ha
        · intro p hp
          rw [List.mem_append] at hp
          rcases hp with hp | hp
          · exact hb p hp
          · simp at hp
            subst hp
            exact rg) (List.range m) [] [a0, some (.list (r.map PyData.int)), none, some (.list []), a4, a5, a6] ⟨rfl, [], none, a5, by simp, by simp, by simp, by simp, rfl⟩
  obtain ⟨hpre, P, k, d, h1', h2, h3, h4, e'⟩ := h
  subst e'
  simp at h2 h3
  exact ⟨P, k, d, h1', h2 h1, by simpa using h3, h4, e⟩
theorem weights_loop {r : List Int} (hr : r.length = 30) {P : List Int} (hP : P.length ≤ 5) (h1 : 1 ≤ P.length) (a0 a2 a5 a6 : Option D) : ∃ (W : List Sd) (k d : Option D),
    W.map Prod.fst = P ∧ (∀ s ∈ W, 0 ≤ s.2 ∧ s.2 < 13) ∧
    forL (gSet 2) l2_law ((List.range P.length).map fun k : Nat => PyData.int (k : Nat)) [a0, some (.list (r.map PyData.int)), a2, some (.list (P.map PyData.int)), some (.list []), a5, a6] =
      some (.nx [a0, some (.list (r.map PyData.int)), k, some (.list (P.map PyData.int)), some (.list (W.map enc)), a5, d]) := by
  obtain ⟨ρ', e, h⟩ := forL_inv (g := gSet 2) (b := l2_law) (fun i : Nat => PyData.int (i : Nat))
    (fun pre rest ρ => (pre ++ rest = List.range P.length) ∧ ∃ (W : List Sd) (k d : Option D), W.map Prod.fst = P.take pre.length ∧ W.length = pre.length ∧ (∀ s ∈ W, 0 ≤ s.2 ∧ s.2 < 13) ∧
      ρ = [a0, some (.list (r.map PyData.int)), k, some (.list (P.map PyData.int)), some (.list (W.map enc)), a5, d])
    (fun pre x rest ρ ⟨hl, W, k, d, hw, hwl, hb, e⟩ => by
      subst e
      have hx : x = pre.length := by
        have h := congrArg (fun l => l[pre.length]?) hl
        simp only [List.getElem?_append_right (Nat.le_refl _), Nat.sub_self, List.getElem?_cons_zero] at h
        have hlen := congrArg List.length hl
        simp at hlen
        rw [List.getElem?_range (by omega)] at h
        exact Option.some.inj h
      have hlen := congrArg List.length hl
      simp at hlen
      have hxP : x < P.length := by omega
      have i1 : atI (r.map PyData.int) (7 + (x : Int)) = some (.int (r.getD (7 + x) 0)) := by
        have := row_at r (7 + x) (by omega)
        rwa [Int.natCast_add] at this
      have i12 : atI (r.map PyData.int) 12 = some (.int (r.getD 12 0)) := row_at r 12 (by omega)
      have i14 : atI (r.map PyData.int) 14 = some (.int (r.getD 14 0)) := row_at r 14 (by omega)
      have iP : atI (P.map PyData.int) (x : Int) = some (.int (P.getD x 0)) := row_at P x hxP
      have z13 : (13 : Int) ≠ 0 := by decide
      have z3 : (3 : Int) ≠ 0 := by decide
      have zP : (P.length : Int) ≠ 0 := by omega
      have rg := fmod_rng (r.getD (7 + x) 0) (m := 13) (by decide)
      have hx2 : (W.map enc).length < 16777216 := by rw [List.length_map]; omega
      have key : ∀ w : Int, (W ++ [((P.getD x 0), w)]).map Prod.fst = P.take (pre ++ [x]).length := by
        intro w
        rw [List.map_append, hw]
        simp only [List.length_append, List.length_cons, List.length_nil, List.map_cons, List.map_nil]
        rw [List.take_succ, ← hx, List.getD_eq_getElem?_getD, List.getElem?_eq_getElem hxP]
        rfl
      have key2 : ∀ w : Int, 0 ≤ w ∧ w < 13 → ∀ s ∈ W ++ [((P.getD x 0), w)], 0 ≤ s.2 ∧ s.2 < 13 := by
        intro w h s hs
        rw [List.mem_append] at hs
        rcases hs with hs | hs
        · exact hb s hs
        · simp at hs
          subst hs
          exact h
      have em : ∀ w : Int, (W ++ [((P.getD x 0), w)]).map enc = W.map enc ++ [.tuple [.int (P.getD x 0), .int w]] := fun w => by rw [List.map_append]; rfl
      by_cases hc : (r.getD 12 0).fmod 3 = 0
      · by_cases hc2 : (r.getD 14 0).fmod (P.length : Int) = (x : Int)
        · refine ⟨_, [a0, some (.list (r.map PyData.int)), some (.int x), some (.list (P.map PyData.int)), some (.list ((W ++ [((P.getD x 0), (r.getD (7 + x) 0).fmod 13)]).map enc)), a5, some (.int ((r.getD (7 + x) 0).fmod 13))], rfl, .inl ?_, by rw [List.append_assoc]; exact hl, _, _, _, key _, by simp; omega, key2 _ rg, rfl⟩
          rw [em]
          have hpl : (P.map PyData.int).length = P.length := List.length_map _
          generalize r.map PyData.int = RR at *
          generalize P.map PyData.int = MP at *
          generalize W.map enc = MW at *
          simp -implicitDefEqProofs only [l2_law, xVar_a, xC_a, xBin_a, xUn_a, tOf_a, tTru_a, tNotP_a, tAndP_a, tOrP_a, tyes_a, tno_a, tYesP_a, xNil_a, xCons_a, xTup_a, xLst_a, xAnd_a, xOr_a, xIf_a, xChain_a, oNo_a, oAt_a, xSl_a, xCall_a, xSeq_a, xIt_a, xLc_a, gSet_a, gTupD_a, gsNil_a, gsCons_a, sNop_a, sBrk_a, sCnt_a, sSeq_a, sRet_a, sIf_a, sSet_a, sTgt_a, sAug_a, sApp_a, sExt_a, sPut_a, sPutK_a, pkO_s, sFor_a, sWhile_a, sPar_a, runD_a, b2_s, c2_s, sqO_nx, sqO_rt, sqO_bk, sqO_ct, ifO_t, ifO_f, stO_s, endO_nx, endO_rt, andO_t, andO_f, orO_t, orO_f, chO_s, chP_t, chP_f, slO_s, atO_i, lcO_s, forO_s, gsO_s, nxO_s, tgO_s, paO_s, apO_s, exO_s, plO_s, ptO_s, dB_b, tru_b, tru_n, tru_i, tru_l, tru_t, is_n, isn_n, nn_n, nn_i, nn_b, nn_t, nn_l, add_ii, add'_ii, sub_ii, neg_i, lt_ii, le_ii, gt_ii, ge_ii, ix_l, ix_t, ix_s, at0, at1, at2, sl_l, sl_t, len_l, len_t, len_s, abs_i, int_i, int_b, max_ii, min_ii, tup_s, lst_s, seq_l, seq_t, sum_s, wipe_n, wipe_c, mul_ii, fdiv_ii, mod_ii, add_ll, add_tt, setAll, mkT, mkL, oNot, List.getD_cons_zero, List.getD_cons_succ, List.length_cons, List.length_nil, List.set_cons_zero, List.set_cons_succ, List.map_cons, List.map_nil, List.replicate, List.cons_append, List.nil_append, List.append_nil, Option.bind_some, Option.map_some, List.all_cons, List.all_nil, if_true, if_false, reduceIte, Nat.reduceAdd, Nat.reduceSub, Nat.reduceLT, Nat.reduceLeDiff, Nat.reduceEqDiff, decide_true, decide_false, Bool.and_true, Bool.and_self, Bool.true_and, Bool.not_true, Bool.not_false, ne_eq, not_true_eq_false, not_false_eq_true, Nat.zero_add, Bool.false_eq_true, and_self, true_and, and_true, eq_ii, ne_ii, eq_self, i1, mod_ii z13, i12, mod_ii z3, hc, i14, hpl, mod_ii zP, hc2, iP, hx2]
        · refine ⟨_, [a0, some (.list (r.map PyData.int)), some (.int x), some (.list (P.map PyData.int)), some (.list ((W ++ [((P.getD x 0), 0)]).map enc)), a5, some (.int 0)], rfl, .inl ?_, by rw [List.append_assoc]; exact hl, _, _, _, key _, by simp; omega, key2 0 (by omega), rfl⟩
          rw [em]
          have hpl : (P.map PyData.int).length = P.length := List.length_map _
          generalize r.map PyData.int = RR at *
          generalize P.map PyData.int = MP at *
          generalize W.map enc = MW at *
          simp -implicitDefEqProofs only [l2_law, xVar_a, xC_a, xBin_a, xUn_a, tOf_a, tTru_a, tNotP_a, tAndP_a, tOrP_a, tyes_a, tno_a, tYesP_a, xNil_a, xCons_a, xTup_a, xLst_a, xAnd_a, xOr_a, xIf_a, xChain_a, oNo_a, oAt_a, xSl_a, xCall_a, xSeq_a, xIt_a, xLc_a, gSet_a, gTupD_a, gsNil_a, gsCons_a, sNop_a, sBrk_a, sCnt_a, sSeq_a, sRet_a, sIf_a, sSet_a, sTgt_a, sAug_a, sApp_a, sExt_a, sPut_a, sPutK_a, pkO_s, sFor_a, sWhile_a, sPar_a, runD_a, b2_s, c2_s, sqO_nx, sqO_rt, sqO_bk, sqO_ct, ifO_t, ifO_f, stO_s, endO_nx, endO_rt, andO_t, andO_f, orO_t, orO_f, chO_s, chP_t, chP_f, slO_s, atO_i, lcO_s, forO_s, gsO_s, nxO_s, tgO_s, paO_s, apO_s, exO_s, plO_s, ptO_s, dB_b, tru_b, tru_n, tru_i, tru_l, tru_t, is_n, isn_n, nn_n, nn_i, nn_b, nn_t, nn_l, add_ii, add'_ii, sub_ii, neg_i, lt_ii, le_ii, gt_ii, ge_ii, ix_l, ix_t, ix_s, at0, at1, at2, sl_l, sl_t, len_l, len_t, len_s, abs_i, int_i, int_b, max_ii, min_ii, tup_s, lst_s, seq_l, seq_t, sum_s, wipe_n, wipe_c, mul_ii, fdiv_ii, mod_ii, add_ll, add_tt, setAll, mkT, mkL, oNot, List.getD_cons_zero, List.getD_cons_succ, List.length_cons, List.length_nil, List.set_cons_zero, List.set_cons_succ, List.map_cons, List.map_nil, List.replicate, List.cons_append, List.nil_append, List.append_nil, Option.bind_some, Option.map_some, List.all_cons, List.all_nil, if_true, if_false, reduceIte, Nat.reduceAdd, Nat.reduceSub, Nat.reduceLT, Nat.reduceLeDiff, Nat.reduceEqDiff, decide_true, decide_false, Bool.and_true, Bool.and_self, Bool.true_and, Bool.not_true, Bool.not_false, ne_eq, not_true_eq_false, not_false_eq_true, Nat.zero_add, Bool.false_eq_true, and_self, true_and, and_true, eq_ii, ne_ii, eq_self, i1, mod_ii z13, i12, mod_ii z3, hc, i14, hpl, mod_ii zP, hc2, iP, hx2]
      · refine ⟨_, [a0, some (.list (r.map PyData.int)), some (.int x), some (.list (P.map PyData.int)), some (.list ((W ++ [((P.getD x 0), (r.getD (7 + x) 0).fmod 13)]).map enc)), a5, some (.int ((r.getD (7 + x) 0).fmod 13))], rfl, .inl ?_, by rw [List.append_assoc]; exact hl, _, _, _, key _, by simp; omega, key2 _ rg, rfl⟩
        rw [em]
        have hpl : (P.map PyData.int).length = P.length := List.length_map _
        generalize r.map PyData.int = RR at *
        generalize P.map PyData.int = MP at *
        generalize W.map enc = MW at *
        simp -implicitDefEqProofs only [l2_law, xVar_a, xC_a, xBin_a, xUn_a, tOf_a, tTru_a, tNotP_a, tAndP_a, tOrP_a, tyes_a, tno_a, tYesP_a, xNil_a, xCons_a, xTup_a, xLst_a, xAnd_a, xOr_a, xIf_a, xChain_a, oNo_a, oAt_a, xSl_a, xCall_a, xSeq_a, xIt_a, xLc_a, gSet_a, gTupD_a, gsNil_a, gsCons_a, sNop_a, sBrk_a, sCnt_a, sSeq_a, sRet_a, sIf_a, sSet_a, sTgt_a, sAug_a, sApp_a, sExt_a, sPut_a, sPutK_a, pkO_s, sFor_a, sWhile_a, sPar_a, runD_a, b2_s, c2_s, sqO_nx, sqO_rt, sqO_bk, sqO_ct, ifO_t, ifO_f, stO_s, endO_nx, endO_rt, andO_t, andO_f, orO_t, orO_f, chO_s, chP_t, chP_f, slO_s, atO_i, lcO_s, forO_s, gsO_s, nxO_s, tgO_s, paO_s, apO_s, exO_s, plO_s, ptO_s, dB_b, tru_b, tru_n, tru_i, tru_l, tru_t, is_n, isn_n, nn_n, nn_i, nn_b, nn_t, nn_l, add_ii, add'_ii, sub_ii, neg_i, lt_ii, le_ii, gt_ii, ge_ii, ix_l, ix_t, ix_s, at0, at1, at2, sl_l, sl_t, len_l, len_t, len_s, abs_i, int_i, int_b, max_ii, min_ii, tup_s, lst_s, seq_l, seq_t, sum_s, wipe_n, wipe_c, mul_ii, fdiv_ii, mod_ii, add_ll, add_tt, setAll, mkT, mkL, oNot, List.getD_cons_zero, List.getD_cons_succ, List.length_cons, List.length_nil, List.set_cons_zero, List.set_cons_succ, List.map_cons, List.map_nil, List.replicate, List.cons_append, List.nil_append, List.append_nil, Option.bind_some, Option.map_some, List.all_cons, List.all_nil, if_true, if_false, reduceIte, Nat.reduceAdd, Nat.reduceSub, Nat.reduceLT, Nat.reduceLeDiff, Nat.reduceEqDiff, decide_true, decide_false, Bool.and_true, Bool.and_self, Bool.true_and, Bool.not_true, Bool.not_false, ne_eq, not_true_eq_false, not_false_eq_true, Nat.zero_add, Bool.false_eq_true, and_self, true_and, and_true, eq_ii, ne_ii, eq_self, i1, mod_ii z13, i12, mod_ii z3, hc, i14, hpl, mod_ii zP, iP, hx2]) (List.range P.length) [] [a0, some (.list (r.map PyData.int)), a2, some (.list (P.map PyData.int)), some (.list []), a5, a6] ⟨rfl, [], a2, a6, by simp, by simp, by simp, rfl⟩
  obtain ⟨hpre, W, k, d, h2, h3, h4, e'⟩ := h
  subst e'
  refine ⟨W, k, d, ?_, h4, e⟩
  rw [h2]
  simp
theorem law_tail {r : List Int} (hr : r.length = 30) {P : List Int} (hn : P.Nodup) (h2 : 2 ≤ P.length) (h5 : P.length ≤ 5) (hb : ∀ p ∈ P, 0 ≤ p ∧ p < 20) (a0 a2 a5 a6 : Option D) :
    ∃ (W : List Sd) (k d : Option D), forL (gSet 2) l2_law ((List.range P.length).map fun k : Nat => PyData.int (k : Nat)) [a0, some (.list (r.map PyData.int)), a2, some (.list (P.map PyData.int)), some (.list []), a5, a6] =
      some (.nx [a0, some (.list (r.map PyData.int)), k, some (.list (P.map PyData.int)), some (.list (W.map enc)), a5, d]) ∧
    d__law_borne [.tuple (P.map PyData.int), .tuple (W.map enc)] = some (.bool true) ∧ d__law_weighed [.tuple (W.map enc), .int ((r.getD 13 0).fmod 4)] = some (.bool true) ∧
    d__law_stations [.tuple (W.map enc), .list (r.map PyData.int)] = some (.bool true) := by
  obtain ⟨W, k, d, hW, hw, e⟩ := weights_loop hr h5 (by omega) a0 a2 a5 a6
  have hWl : W.length = P.length := by rw [← hW, List.length_map]
  have hs : ∀ s ∈ W, 0 ≤ s.1 ∧ s.1 < 20 := fun s hs => hb _ (by rw [← hW]; exact List.mem_map_of_mem hs)
  have hOk : OkS W := fun s h => by
    have := hs s h
    have := hw s h
    unfold Sm
    constructor <;> omega
  have rg := fmod_rng (r.getD 13 0) (m := 4) (by decide)
  refine ⟨W, k, d, e, borne_ok ⟨fun p hp => ?_, by omega⟩ hn h2 (by omega) hOk hW, weighed_ok (fun s h => ?_) (by omega) (by unfold Sm; omega), stations_ok hOk (by omega) hr⟩
  · have := hb p hp
    unfold Sm
    omega
  · have := hs s h
    have := hw s h
    unfold Sm
    refine ⟨by omega, by omega, by omega⟩
theorem law_ok (ns : List Int) : d_law [scr (ns.map PyData.int)] = some (.bool true) := by
  obtain ⟨r, hr, hrow⟩ := row_int ns
  have i0 : atI (r.map PyData.int) 0 = some (.int (r.getD 0 0)) := row_at r 0 (by omega)
  have i6 : atI (r.map PyData.int) 6 = some (.int (r.getD 6 0)) := row_at r 6 (by omega)
  have i13 : atI (r.map PyData.int) 13 = some (.int (r.getD 13 0)) := row_at r 13 (by omega)
  obtain ⟨m', hm', hm4⟩ := fmod_nat (r.getD 0 0) (m := 4) (by decide)
  have c1 : (2 : Int) + (m' : Int) = ((2 + m' : Nat) : Int) := by omega
  generalize hm : 2 + m' = m at *
  have n4 : (4 : Int) ≠ 0 := by decide
  have n5 : (5 : Int) ≠ 0 := by decide
  have g1 := rg0 m (by omega)
  obtain ⟨P, k, d, hn, h1, h5, hb, lp1⟩ := places_loop hr (m := m) (by omega) (by omega) (some (scr (ns.map PyData.int))) (some (.list [])) none none
  have hfb : flat (.bool true) = true := rfl
  by_cases h2 : P.length < 2
  · have hP1 : P.length = 1 := by omega
    obtain ⟨p, rfl⟩ : ∃ p, P = [p] := List.length_eq_one_iff.mp hP1
    have rg := fmod_rng (r.getD 6 0) (m := 5) (by decide)
    have hp := hb p (by simp)
    have hc2 : ((List.map PyData.int [p]).length : Int) < 2 := by simp
    have at0 : atI (List.map PyData.int [p]) 0 = some (.int p) := rfl
    have hlt : (List.map PyData.int [p]).length < 16777216 := by simp
    have eL : List.map PyData.int [p] ++ [PyData.int (p + 1 + (r.getD 6 0).fmod 5)] = List.map PyData.int [p, p + 1 + (r.getD 6 0).fmod 5] := rfl
    obtain ⟨W, k2, d2, lp2, b1, b2, b3⟩ := law_tail hr (P := [p, p + 1 + (r.getD 6 0).fmod 5]) (by rw [List.nodup_cons, List.mem_singleton]; exact ⟨by omega, by simp⟩) (by simp) (by simp) (by intro q hq; rw [List.mem_cons, List.mem_singleton] at hq; rcases hq with rfl | rfl <;> omega) (some (scr (ns.map PyData.int))) k d none
    have g2 : oR1 [.int (([p, p + 1 + (r.getD 6 0).fmod 5].map PyData.int).length : Nat)] = some ((List.range [p, p + 1 + (r.getD 6 0).fmod 5].length).map fun k : Nat => PyData.int (k : Nat)) := rg0 2 (by omega)
    generalize (List.range m).map (fun k : Nat => PyData.int (k : Nat)) = R1 at *
    generalize (List.range [p, p + 1 + (r.getD 6 0).fmod 5].length).map (fun k : Nat => PyData.int (k : Nat)) = R2 at *
    generalize hMP : List.map PyData.int [p] = MP at *
    generalize hMP2 : List.map PyData.int [p, p + 1 + (r.getD 6 0).fmod 5] = MP2 at *
    generalize W.map enc = MW at *
    generalize r.map PyData.int = RR at *
    simp -implicitDefEqProofs only [d_law, g_law, xVar_a, xC_a, xBin_a, xUn_a, tOf_a, tTru_a, tNotP_a, tAndP_a, tOrP_a, tyes_a, tno_a, tYesP_a, xNil_a, xCons_a, xTup_a, xLst_a, xAnd_a, xOr_a, xIf_a, xChain_a, oNo_a, oAt_a, xSl_a, xCall_a, xSeq_a, xIt_a, xLc_a, gSet_a, gTupD_a, gsNil_a, gsCons_a, sNop_a, sBrk_a, sCnt_a, sSeq_a, sRet_a, sIf_a, sSet_a, sTgt_a, sAug_a, sApp_a, sExt_a, sPut_a, sPutK_a, pkO_s, sFor_a, sWhile_a, sPar_a, runD_a, b2_s, c2_s, sqO_nx, sqO_rt, sqO_bk, sqO_ct, ifO_t, ifO_f, stO_s, endO_nx, endO_rt, andO_t, andO_f, orO_t, orO_f, chO_s, chP_t, chP_f, slO_s, atO_i, lcO_s, forO_s, gsO_s, nxO_s, tgO_s, paO_s, apO_s, exO_s, plO_s, ptO_s, dB_b, tru_b, tru_n, tru_i, tru_l, tru_t, is_n, isn_n, nn_n, nn_i, nn_b, nn_t, nn_l, add_ii, add'_ii, sub_ii, neg_i, lt_ii, le_ii, gt_ii, ge_ii, ix_l, ix_t, ix_s, at0, at1, at2, sl_l, sl_t, len_l, len_t, len_s, abs_i, int_i, int_b, max_ii, min_ii, tup_s, lst_s, seq_l, seq_t, sum_s, wipe_n, wipe_c, mul_ii, fdiv_ii, mod_ii, add_ll, add_tt, setAll, mkT, mkL, oNot, List.getD_cons_zero, List.getD_cons_succ, List.length_cons, List.length_nil, List.set_cons_zero, List.set_cons_succ, List.map_cons, List.map_nil, List.replicate, List.cons_append, List.nil_append, List.append_nil, Option.bind_some, Option.map_some, List.all_cons, List.all_nil, if_true, if_false, reduceIte, Nat.reduceAdd, Nat.reduceSub, Nat.reduceLT, Nat.reduceLeDiff, Nat.reduceEqDiff, decide_true, decide_false, Bool.and_true, Bool.and_self, Bool.true_and, Bool.not_true, Bool.not_false, ne_eq, not_true_eq_false, not_false_eq_true, Nat.zero_add, Bool.false_eq_true, and_self, true_and, and_true, hrow, i0, i6, i13, mod_ii n4, mod_ii n5, hm', c1, g1, lp1, hc2, at0, hlt, eL, g2, lp2, b1, b2, b3, hfb]
  · have hc2 : ¬ ((P.map PyData.int).length : Int) < 2 := by rw [List.length_map]; omega
    obtain ⟨W, k2, d2, lp2, b1, b2, b3⟩ := law_tail hr (P := P) hn (by omega) (by omega) (fun p hp => by have := hb p hp; omega) (some (scr (ns.map PyData.int))) k d none
    have g2 : oR1 [.int ((P.map PyData.int).length : Nat)] = some ((List.range P.length).map fun k : Nat => PyData.int (k : Nat)) := by
      rw [List.length_map]
      exact rg0 _ (by omega)
    generalize (List.range m).map (fun k : Nat => PyData.int (k : Nat)) = R1 at *
    generalize (List.range P.length).map (fun k : Nat => PyData.int (k : Nat)) = R2 at *
    generalize P.map PyData.int = MP at *
    generalize W.map enc = MW at *
    generalize r.map PyData.int = RR at *
    simp -implicitDefEqProofs only [d_law, g_law, xVar_a, xC_a, xBin_a, xUn_a, tOf_a, tTru_a, tNotP_a, tAndP_a, tOrP_a, tyes_a, tno_a, tYesP_a, xNil_a, xCons_a, xTup_a, xLst_a, xAnd_a, xOr_a, xIf_a, xChain_a, oNo_a, oAt_a, xSl_a, xCall_a, xSeq_a, xIt_a, xLc_a, gSet_a, gTupD_a, gsNil_a, gsCons_a, sNop_a, sBrk_a, sCnt_a, sSeq_a, sRet_a, sIf_a, sSet_a, sTgt_a, sAug_a, sApp_a, sExt_a, sPut_a, sPutK_a, pkO_s, sFor_a, sWhile_a, sPar_a, runD_a, b2_s, c2_s, sqO_nx, sqO_rt, sqO_bk, sqO_ct, ifO_t, ifO_f, stO_s, endO_nx, endO_rt, andO_t, andO_f, orO_t, orO_f, chO_s, chP_t, chP_f, slO_s, atO_i, lcO_s, forO_s, gsO_s, nxO_s, tgO_s, paO_s, apO_s, exO_s, plO_s, ptO_s, dB_b, tru_b, tru_n, tru_i, tru_l, tru_t, is_n, isn_n, nn_n, nn_i, nn_b, nn_t, nn_l, add_ii, add'_ii, sub_ii, neg_i, lt_ii, le_ii, gt_ii, ge_ii, ix_l, ix_t, ix_s, at0, at1, at2, sl_l, sl_t, len_l, len_t, len_s, abs_i, int_i, int_b, max_ii, min_ii, tup_s, lst_s, seq_l, seq_t, sum_s, wipe_n, wipe_c, mul_ii, fdiv_ii, mod_ii, add_ll, add_tt, setAll, mkT, mkL, oNot, List.getD_cons_zero, List.getD_cons_succ, List.length_cons, List.length_nil, List.set_cons_zero, List.set_cons_succ, List.map_cons, List.map_nil, List.replicate, List.cons_append, List.nil_append, List.append_nil, Option.bind_some, Option.map_some, List.all_cons, List.all_nil, if_true, if_false, reduceIte, Nat.reduceAdd, Nat.reduceSub, Nat.reduceLT, Nat.reduceLeDiff, Nat.reduceEqDiff, decide_true, decide_false, Bool.and_true, Bool.and_self, Bool.true_and, Bool.not_true, Bool.not_false, ne_eq, not_true_eq_false, not_false_eq_true, Nat.zero_add, Bool.false_eq_true, and_self, true_and, and_true, hrow, i0, i6, i13, mod_ii n4, mod_ii n5, hm', c1, g1, lp1, hc2, g2, lp2, b1, b2, b3, hfb]
end K24


theorem PySem.Challenge.cw_dockheld_k24_whole_loads_lines_holds : PySem.Challenge.rw_dockheld_k24_whole_loads_lines.Holds := by
  exact K24.holds_of fun ns _ => K24.law_ok ns

