import PyProof.Rows.All
import HandS.ForMost
import HandS.Deep
import HandS.TupAny
import HandS.Defaults
import HandS.Wide
import HandS.WideBits
import HandS.TupMul
import HandS.IsInst
import HandS.Flow
import PyProof.Rows.InDataRows
import HandS.Zip
import HandS.Rev
import HandS.RevRange
import KE.GoesEnum
import HandS.Style
import HandS.HeadEnd
import HandS.HeadHook1
import HandS.HeadHook2
import HandS.Conv
import KE.SortData
import HandS.DictComp
import KE.DataMinMax
import HandS.SortKw
import KE.DatumOrd
import HandS.Head0
import HandS.Head1
import HandS.Head2
import PySem.Challenge.RW_dockheld_k08_whole_tide_sets
set_option Elab.async false
set_option linter.all false
set_option maxRecDepth 100000
set_option maxHeartbeats 0
set_option exponentiation.threshold 3000
/-! Pm: plain data for the values, a simulation of the layer's readings by plain functions over slots. -/
namespace Pm
open PySem PySem.Spec PyProof.Rows L2

abbrev D := PyData
abbrev PEnv := List (Option D)
abbrev Xp := PEnv → Option D

/-- a list of the written part -/
def KL (K : PySem.W.Frag) (a : Addr) (xs : List V) : Prop :=
  ∃ (o : Obj) (its : Array Value) (n : Nat), K.lookup a = some o ∧ o.cls = .type "list" ∧ o.dict = none ∧ o.data = .seq its n ∧ its.size ≤ sizeLine ∧ Vals xs its.toList

def keyD : Key → D
  | .inl i => .int i
  | .inr s => .str s

/-- the script itself -/
def scr (ds : List D) : D := .dict [(.none, .list ds)]

mutual
/-- v stands for d in H; the cells on the way keep off A -/
inductive Rp (K : PySem.W.Frag) (A : Addr → Prop) (H : Hp) : V → D → Prop
  | non : Rp K A H .non .none
  | bl (b : Bool) : Rp K A H (.bl b) (.bool b)
  | int (i : Int) : Rp K A H (.int i) (.int i)
  | str (x : Str) : Rp K A H (.str x) (.str x)
  | lst {a : Addr} {xs : List V} {ds : List D} : H a = some (.lst xs) → ¬ A a → RpL K A H xs ds → Rp K A H (.ref a) (.list ds)
  | scr {a : Addr} {xs : List V} {ds : List D} : Rd H a (.lst xs) → ¬ A a → RpL K A H xs ds → Rp K A H (.ref a) (.dict [(.none, .list ds)])
  | kl {a : Addr} {xs : List V} {ds : List D} : KL K a xs → RpL K A H xs ds → Rp K A H (.ref a) (.dict [(.none, .list ds)])
  | tup {a : Addr} {xs : List V} {ds : List D} : H a = some (.tup xs) → ¬ A a → RpL K A H xs ds → Rp K A H (.ref a) (.tuple ds)
  | dic {a : Addr} {ks : List (Key × V)} {ds : List D} {kd : List (D × D)} : H a = some (.dK ks) → ¬ A a → RpL K A H (ks.map (·.2)) ds → kd = (ks.map fun p => keyD p.1).zip ds → Rp K A H (.ref a) (.dict kd)
inductive RpL (K : PySem.W.Frag) (A : Addr → Prop) (H : Hp) : List V → List D → Prop
  | nil : RpL K A H [] []
  | cons {v : V} {vs : List V} {d : D} {ds : List D} : Rp K A H v d → RpL K A H vs ds → RpL K A H (v :: vs) (d :: ds)
end

/-- the cell at a is d, whatever is said of a itself -/
inductive Tp (K : PySem.W.Frag) (A : Addr → Prop) (H : Hp) : Addr → D → Prop
  | lst {a : Addr} {xs : List V} {ds : List D} : H a = some (.lst xs) → RpL K A H xs ds → Tp K A H a (.list ds)
  | dic {a : Addr} {ks : List (Key × V)} {ds : List D} {kd : List (D × D)} : H a = some (.dK ks) → RpL K A H (ks.map (·.2)) ds → kd = (ks.map fun p => keyD p.1).zip ds → Tp K A H a (.dict kd)

def isMut : D → Bool
  | .list _ => true
  | .dict _ => true
  | _ => false

section
variable {K : PySem.W.Frag} {A A' : Addr → Prop} {H H' : Hp} {v : V} {d : D} {vs : List V} {ds : List D} {a : Addr}

theorem rd_some {xs : HO} (h : Rd H a xs) : ∃ o, H a = some o := by
  rcases h with h | ⟨o, h⟩
  · exact ⟨_, h⟩
  · exact ⟨_, h⟩

mutual
theorem Rp.step (hk : ∀ a o, H a = some o → ¬ A a → H' a = some o) (ha : ∀ a, A' a → A a ∨ H a = none) : ∀ {v : V} {d : D}, Rp K A H v d → Rp K A' H' v d
  | _, _, .non => .non
  | _, _, .bl b => .bl b
  | _, _, .int i => .int i
  | _, _, .str x => .str x
  | _, _, .lst h n r => by
    refine .lst (hk _ _ h n) (fun z => ?_) (RpL.step hk ha r)
    rcases ha _ z with q | q
    · exact n q
    · rw [q] at h; cases h
  | _, _, .scr h n r => by
    refine .scr ?_ (fun z => ?_) (RpL.step hk ha r)
    · rcases h with h | ⟨o, h⟩
      · exact .inl (hk _ _ h n)
      · exact .inr ⟨o, hk _ _ h n⟩
    · obtain ⟨o, e⟩ := rd_some h
      rcases ha _ z with q | q
      · exact n q
      · rw [q] at e; cases e
  | _, _, .kl h r => .kl h (RpL.step hk ha r)
  | _, _, .tup h n r => by
    refine .tup (hk _ _ h n) (fun z => ?_) (RpL.step hk ha r)
    rcases ha _ z with q | q
    · exact n q
    · rw [q] at h; cases h
  | _, _, .dic h n r e => by
    refine .dic (hk _ _ h n) (fun z => ?_) (RpL.step hk ha r) e
    rcases ha _ z with q | q
    · exact n q
    · rw [q] at h; cases h
theorem RpL.step (hk : ∀ a o, H a = some o → ¬ A a → H' a = some o) (ha : ∀ a, A' a → A a ∨ H a = none) : ∀ {vs : List V} {ds : List D}, RpL K A H vs ds → RpL K A' H' vs ds
  | _, _, .nil => .nil
  | _, _, .cons h r => .cons (Rp.step hk ha h) (RpL.step hk ha r)
end
theorem Rp.mono (s : Same H H') (h : Rp K A H v d) : Rp K A H' v d := h.step (fun a o e _ => s a o e) fun _ z => .inl z
theorem RpL.mono (s : Same H H') (h : RpL K A H vs ds) : RpL K A H' vs ds := h.step (fun a o e _ => s a o e) fun _ z => .inl z
theorem Rp.anti (h : Rp K A H v d) (ha : ∀ a, A' a → A a) : Rp K A' H v d := h.step (fun _ _ e _ => e) fun a z => .inl (ha a z)
theorem RpL.anti (h : RpL K A H vs ds) (ha : ∀ a, A' a → A a) : RpL K A' H vs ds := h.step (fun _ _ e _ => e) fun a z => .inl (ha a z)
theorem Tp.step (h : Tp K A H a d) (hk : ∀ a o, H a = some o → ¬ A a → H' a = some o) (ha : ∀ a, A' a → A a ∨ H a = none) (h0 : ∀ o, H a = some o → H' a = some o) : Tp K A' H' a d := by
  cases h with
  | lst e r => exact .lst (h0 _ e) (r.step hk ha)
  | dic e r z => exact .dic (h0 _ e) (r.step hk ha) z
theorem Tp.mono (s : Same H H') (h : Tp K A H a d) : Tp K A H' a d := h.step (fun a o e _ => s a o e) (fun _ z => .inl z) fun o e => s _ o e
theorem Tp.rp (h : Tp K A H a d) (n : ¬ A a) : Rp K A H (.ref a) d := by
  cases h with
  | lst e r => exact .lst e n r
  | dic e r z => exact .dic e n r z
theorem Tp.some (h : Tp K A H a d) : ∃ o, H a = Option.some o ∧ ∀ xs, o ≠ .tup xs := by
  cases h with
  | lst e r => exact ⟨_, e, fun _ h => nomatch h⟩
  | dic e r z => exact ⟨_, e, fun _ h => nomatch h⟩
theorem RpL.length (h : RpL K A H vs ds) : vs.length = ds.length := by
  induction ds generalizing vs with
  | nil => cases h; rfl
  | cons d ds ih => cases h with | cons _ r => simp [ih r]
theorem RpL.app {vs' : List V} {ds' : List D} (h' : RpL K A H vs' ds') : ∀ {vs : List V} {ds : List D}, RpL K A H vs ds → RpL K A H (vs ++ vs') (ds ++ ds')
  | _, _, .nil => h'
  | _, _, .cons h r => .cons h (RpL.app h' r)
theorem RpL.one (h : Rp K A H v d) : RpL K A H [v] [d] := .cons h .nil
theorem RpL.get : ∀ {vs : List V} {ds : List D} {i : Nat} {d : D}, RpL K A H vs ds → ds[i]? = some d → ∃ v, vs[i]? = some v ∧ Rp K A H v d
  | _, _, _, _, .nil, e => by simp at e
  | _, _, 0, _, .cons h r, e => by simp at e; subst e; exact ⟨_, rfl, h⟩
  | _, _, i + 1, _, .cons h r, e => by
    obtain ⟨v, e', q⟩ := RpL.get (i := i) r (by simpa using e)
    exact ⟨v, by simpa using e', q⟩
theorem RpL.getV : ∀ {vs : List V} {ds : List D} {i : Nat} {v : V}, RpL K A H vs ds → vs[i]? = some v → ∃ d, ds[i]? = some d ∧ Rp K A H v d
  | _, _, _, _, .nil, e => by simp at e
  | _, _, 0, _, .cons h r, e => by simp at e; subst e; exact ⟨_, rfl, h⟩
  | _, _, i + 1, _, .cons h r, e => by
    obtain ⟨v, e', q⟩ := RpL.getV (i := i) r (by simpa using e)
    exact ⟨v, by simpa using e', q⟩
theorem RpL.set {v : V} {d : D} (h : Rp K A H v d) : ∀ {vs : List V} {ds : List D} (i : Nat), RpL K A H vs ds → RpL K A H (vs.set i v) (ds.set i d)
  | _, _, _, .nil => .nil
  | _, _, 0, .cons _ r => .cons h r
  | _, _, i + 1, .cons q r => .cons q (RpL.set h i r)
theorem RpL.take : ∀ {vs : List V} {ds : List D} (n : Nat), RpL K A H vs ds → RpL K A H (vs.take n) (ds.take n)
  | _, _, 0, _ => by simpa using RpL.nil
  | _, _, _ + 1, .nil => .nil
  | _, _, n + 1, .cons h r => .cons h (RpL.take n r)
theorem RpL.drop : ∀ {vs : List V} {ds : List D} (n : Nat), RpL K A H vs ds → RpL K A H (vs.drop n) (ds.drop n)
  | _, _, 0, r => r
  | _, _, _ + 1, .nil => .nil
  | _, _, n + 1, .cons _ r => RpL.drop n r
theorem RpL.eraseIdx : ∀ {vs : List V} {ds : List D} (n : Nat), RpL K A H vs ds → RpL K A H (vs.eraseIdx n) (ds.eraseIdx n)
  | _, _, _, .nil => .nil
  | _, _, 0, .cons _ r => r
  | _, _, n + 1, .cons h r => .cons h (RpL.eraseIdx n r)
theorem RpL.reverse : ∀ {vs : List V} {ds : List D}, RpL K A H vs ds → RpL K A H vs.reverse ds.reverse
  | _, _, .nil => .nil
  | _, _, .cons h r => by rw [List.reverse_cons, List.reverse_cons]; exact RpL.app (.one h) (RpL.reverse r)
theorem RpL.rep (h : RpL K A H vs ds) : ∀ n : Nat, RpL K A H (List.replicate n vs).flatten (List.replicate n ds).flatten
  | 0 => .nil
  | n + 1 => by rw [List.replicate_succ, List.replicate_succ]; exact RpL.app (RpL.rep h n) h
end

/-- no tuple -/
def NT (o : HO) : Prop := ∀ xs, o ≠ .tup xs
theorem NT.lst {xs : List V} : NT (.lst xs) := fun _ h => nomatch h
theorem NT.dK {xs : List (Key × V)} : NT (.dK xs) := fun _ h => nomatch h
/-! ### slots -/
def Av (A0 : Addr → Prop) (B : Nat → Option Addr) (a : Addr) : Prop := A0 a ∨ ∃ i, B i = some a

structure Sim (K : PySem.W.Frag) (H0 : Hp) (A0 : Addr → Prop) (G : List (V × D)) (O : List Nat) (σ : L2.St) (H : Hp) (ρ : PEnv) (B : Nat → Option Addr) : Prop where
  same : Same H0 H
  a0 : ∀ a, A0 a → ∃ o, H a = some o ∧ NT o
  len : ρ.length = σ.length
  bo : ∀ i a, B i = some a → i ∈ O
  inj : ∀ i j a, B i = some a → B j = some a → i = j
  fr : ∀ i a, B i = some a → H0 a = none ∧ ¬ A0 a ∧ ∃ o, H a = some o ∧ NT o
  ob : ∀ i d, i ∈ O → ρ[i]? = some (some d) → isMut d = true → ∃ a, B i = some a ∧ σ[i]? = some (some (.ref a)) ∧ Tp K (Av A0 B) H a d
  slot : ∀ i d, ρ[i]? = some (some d) → (∃ a, B i = some a ∧ σ[i]? = some (some (.ref a)) ∧ Tp K (Av A0 B) H a d) ∨ (B i = none ∧ ∃ v, σ[i]? = some (some v) ∧ Rp K (Av A0 B) H v d)
  gs : ∀ p ∈ G, Rp K (Av A0 B) H p.1 p.2

section
variable {K : PySem.W.Frag} {A0 A : Addr → Prop} {H0 H H' : Hp} {G : List (V × D)} {O O' : List Nat} {σ : L2.St} {ρ : PEnv} {B : Nat → Option Addr} {v : V} {d : D}
theorem Sim.tr (S : Sim K H0 A0 G O σ H ρ B) : ∀ a, Av A0 B a → ∃ o, H a = some o ∧ NT o := fun a h => by
  rcases h with h | ⟨i, h⟩
  · exact S.a0 a h
  · exact (S.fr i a h).2.2
theorem Sim.mono (S : Sim K H0 A0 G O σ H ρ B) (s : Same H H') : Sim K H0 A0 G O σ H' ρ B where
  same := S.same.trans s
  a0 := fun a h => let ⟨o, e, n⟩ := S.a0 a h; ⟨o, s _ _ e, n⟩
  len := S.len
  bo := S.bo
  inj := S.inj
  fr := fun i a h => let ⟨h1, h2, o, e, n⟩ := S.fr i a h; ⟨h1, h2, o, s _ _ e, n⟩
  ob := fun i d hi h m => let ⟨a, h1, h2, h3⟩ := S.ob i d hi h m; ⟨a, h1, h2, h3.mono s⟩
  slot := fun i d h => by
    rcases S.slot i d h with ⟨a, h1, h2, h3⟩ | ⟨h1, v, h2, h3⟩
    · exact .inl ⟨a, h1, h2, h3.mono s⟩
    · exact .inr ⟨h1, v, h2, h3.mono s⟩
  gs := fun p hp => (S.gs p hp).mono s
/-- a is not one of the tracked cells of A -/
theorem Sim.new (S : Sim K H0 A0 G O σ H ρ B) {a : Addr} (h : H a = none) : ¬ Av A0 B a := fun z => by
  obtain ⟨o, e, _⟩ := S.tr a z
  rw [h] at e; cases e
/-- fewer own slots -/
theorem Sim.weak (S : Sim K H0 A0 G O σ H ρ B) (h : ∀ i ∈ O', i ∈ O) : ∃ B', Sim K H0 A0 G O' σ H ρ B' := by
  let B' : Nat → Option Addr := fun i => if i ∈ O' then B i else none
  have sub : ∀ i a, B' i = some a → B i = some a ∧ i ∈ O' := fun i a e => by
    by_cases hi : i ∈ O'
    · exact ⟨by simpa [B', hi] using e, hi⟩
    · simp [B', hi] at e
  have an : ∀ a, Av A0 B' a → Av A0 B a := fun a z => by
    rcases z with z | ⟨i, z⟩
    · exact .inl z
    · exact .inr ⟨i, (sub i a z).1⟩
  have ans : ∀ a, Av A0 B' a → Av A0 B a ∨ H a = none := fun a z => .inl (an a z)
  refine ⟨B', ⟨S.same, S.a0, S.len, fun i a e => (sub i a e).2, fun i j a e e' => S.inj i j a (sub i a e).1 (sub j a e').1, fun i a e => S.fr i a (sub i a e).1, fun i d hi e m => ?_, fun i d e => ?_, fun p hp => (S.gs p hp).anti an⟩⟩
  · obtain ⟨a, h1, h2, h3⟩ := S.ob i d (h i hi) e m
    exact ⟨a, by simp [B', hi, h1], h2, h3.step (fun _ _ q _ => q) ans fun _ q => q⟩
  · rcases S.slot i d e with ⟨a, h1, h2, h3⟩ | ⟨h1, v, h2, h3⟩
    · by_cases hi : i ∈ O'
      · exact .inl ⟨a, by simp [B', hi, h1], h2, h3.step (fun _ _ q _ => q) ans fun _ q => q⟩
      · refine .inr ⟨by simp [B', hi], _, h2, (h3.step (fun _ _ q _ => q) ans fun _ q => q).rp fun z => ?_⟩
        rcases z with z | ⟨j, z⟩
        · exact (S.fr i a h1).2.1 z
        · obtain ⟨z1, z2⟩ := sub j a z
          have := S.inj i j a h1 z1
          subst this
          exact hi z2
    · refine .inr ⟨?_, v, h2, h3.anti an⟩
      by_cases hi : i ∈ O' <;> simp [B', hi, h1]
/-- the slots ts are nobody's own -/
def restr (ts : List Nat) (B : Nat → Option Addr) : Nat → Option Addr := fun j => if ts.contains j then none else B j
theorem restr_one (i j : Nat) (B : Nat → Option Addr) : restr [i] B j = if j = i then none else B j := by
  by_cases h : j = i
  · simp [restr, h]
  · have : ([i].contains j) = false := by simp [h]
    simp [restr, this, h]
theorem restr_sub {ts : List Nat} {B : Nat → Option Addr} {j : Nat} {a : Addr} (h : restr ts B j = some a) : B j = some a := by
  unfold restr at h
  split at h
  · cases h
  · exact h
theorem restr_av {ts : List Nat} {B : Nat → Option Addr} {A0 : Addr → Prop} {a : Addr} (h : Av A0 (restr ts B) a) : Av A0 B a := by
  rcases h with h | ⟨i, h⟩
  · exact .inl h
  · exact .inr ⟨i, restr_sub h⟩
theorem restr_app (ts us : List Nat) (B : Nat → Option Addr) : restr us (restr ts B) = restr (ts ++ us) B := by
  funext j
  unfold restr
  by_cases h1 : us.contains j <;> by_cases h2 : ts.contains j <;> simp_all
theorem restr_nil (B : Nat → Option Addr) : restr [] B = B := by
  funext j
  simp [restr]
/-- a slot takes a value that is not one's own -/
theorem Sim.setS (S : Sim K H0 A0 G O σ H ρ B) {i : Nat} (r : Rp K (Av A0 B) H v d) (hi : i < ρ.length) : Sim K H0 A0 G (O.filter (· != i)) (σ.set i (some v)) H (ρ.set i (some d)) (restr [i] B) := by
  have sub : ∀ j a, restr [i] B j = some a → B j = some a ∧ j ≠ i := fun j a e => by
    rw [restr_one] at e
    by_cases hj : j = i
    · simp [hj] at e
    · exact ⟨by simpa [hj] using e, hj⟩
  have an : ∀ a, Av A0 (restr [i] B) a → Av A0 B a := fun a z => restr_av z
  have ans : ∀ a, Av A0 (restr [i] B) a → Av A0 B a ∨ H a = none := fun a z => .inl (an a z)
  have hiσ : i < σ.length := by rw [← S.len]; exact hi
  refine ⟨S.same, S.a0, by simp [S.len], fun j a e => ?_, fun j k a e e' => S.inj j k a (sub j a e).1 (sub k a e').1, fun j a e => S.fr j a (sub j a e).1, fun j d' hj e m => ?_, fun j d' e => ?_, fun p hp => (S.gs p hp).anti an⟩
  · exact List.mem_filter.mpr ⟨S.bo j a (sub j a e).1, by simp [(sub j a e).2]⟩
  · obtain ⟨hj1, hj2⟩ := List.mem_filter.mp hj
    have hne : j ≠ i := by simpa using hj2
    rw [List.getElem?_set_ne (Ne.symm hne)] at e
    obtain ⟨a, h1, h2, h3⟩ := S.ob j d' hj1 e m
    exact ⟨a, by rw [restr_one, if_neg hne, h1], by rw [List.getElem?_set_ne (Ne.symm hne)]; exact h2, h3.step (fun _ _ q _ => q) ans fun _ q => q⟩
  · by_cases hne : j = i
    · subst hne
      rw [List.getElem?_set_self hi] at e
      cases e
      exact .inr ⟨by rw [restr_one, if_pos rfl], v, by rw [List.getElem?_set_self hiσ], r.anti an⟩
    · rw [List.getElem?_set_ne (Ne.symm hne)] at e
      rw [List.getElem?_set_ne (Ne.symm hne)]
      rcases S.slot j d' e with ⟨a, h1, h2, h3⟩ | ⟨h1, v, h2, h3⟩
      · exact .inl ⟨a, by rw [restr_one, if_neg hne, h1], h2, h3.step (fun _ _ q _ => q) ans fun _ q => q⟩
      · exact .inr ⟨by rw [restr_one, if_neg hne, h1], v, h2, h3.anti an⟩
/-- a slot takes a new cell as its own -/
theorem Sim.setF (S : Sim K H0 A0 G O σ H ρ B) (s : Same H H') {i : Nat} {a : Addr} (hn : H a = none) (r : Tp K (fun b => Av A0 B b ∨ b = a) H' a d) (hi : i < ρ.length) : ∃ B', Sim K H0 A0 G (i :: O) (σ.set i (some (.ref a))) H' (ρ.set i (some d)) B' := by
  let B' : Nat → Option Addr := fun j => if j = i then some a else B j
  have sub : ∀ j b, B' j = some b → (j = i ∧ b = a) ∨ (j ≠ i ∧ B j = some b) := fun j b e => by
    by_cases hj : j = i
    · simp [B', hj] at e; exact .inl ⟨hj, e.symm⟩
    · exact .inr ⟨hj, by simpa [B', hj] using e⟩
  have an : ∀ b, Av A0 B' b → Av A0 B b ∨ b = a := fun b z => by
    rcases z with z | ⟨j, z⟩
    · exact .inl (.inl z)
    · rcases sub j b z with ⟨_, q⟩ | ⟨_, q⟩
      · exact .inr q
      · exact .inl (.inr ⟨j, q⟩)
  have ans : ∀ b, Av A0 B' b → Av A0 B b ∨ H b = none := fun b z => by
    rcases an b z with z | z
    · exact .inl z
    · exact .inr (by rw [z]; exact hn)
  have kp : ∀ b o, H b = some o → ¬ Av A0 B b → H' b = some o := fun b o e _ => s b o e
  have hiσ : i < σ.length := by rw [← S.len]; exact hi
  have na : ¬ A0 a := fun z => by
    obtain ⟨o, e, _⟩ := S.a0 a z
    rw [hn] at e; cases e
  have nb : ∀ j, B j ≠ some a := fun j z => by
    obtain ⟨_, _, o, e, _⟩ := S.fr j a z
    rw [hn] at e; cases e
  refine ⟨B', ⟨S.same.trans s, fun b z => let ⟨o, e, n⟩ := S.a0 b z; ⟨o, s _ _ e, n⟩, by simp [S.len], fun j b e => ?_, fun j k b e e' => ?_, fun j b e => ?_, fun j d' hj e m => ?_, fun j d' e => ?_, fun p hp => (S.gs p hp).step kp ans⟩⟩
  · rcases sub j b e with ⟨q, _⟩ | ⟨_, q⟩
    · rw [q]; exact List.mem_cons_self
    · exact List.mem_cons_of_mem _ (S.bo j b q)
  · rcases sub j b e with ⟨q, q'⟩ | ⟨q, q'⟩
    · rcases sub k b e' with ⟨p, p'⟩ | ⟨p, p'⟩
      · rw [q, p]
      · rw [q'] at p'; exact absurd p' (nb k)
    · rcases sub k b e' with ⟨p, p'⟩ | ⟨p, p'⟩
      · rw [p'] at q'; exact absurd q' (nb j)
      · exact S.inj j k b q' p'
  · rcases sub j b e with ⟨q, q'⟩ | ⟨q, q'⟩
    · rw [q']
      refine ⟨?_, na, r.some⟩
      exact S.same.free hn
    · obtain ⟨h1, h2, o, h3, h4⟩ := S.fr j b q'
      exact ⟨h1, h2, o, s _ _ h3, h4⟩
  · by_cases hne : j = i
    · subst hne
      rw [List.getElem?_set_self hi] at e
      cases e
      exact ⟨a, by simp [B'], by rw [List.getElem?_set_self hiσ], r.step (fun _ _ q _ => q) (fun b z => .inl (an b z)) fun _ q => q⟩
    · rw [List.getElem?_set_ne (Ne.symm hne)] at e
      rw [List.getElem?_set_ne (Ne.symm hne)]
      rcases List.mem_cons.mp hj with hj | hj
      · exact absurd hj hne
      obtain ⟨b, h1, h2, h3⟩ := S.ob j d' hj e m
      exact ⟨b, by simp [B', hne, h1], h2, h3.step kp ans fun o q => s _ _ q⟩
  · by_cases hne : j = i
    · subst hne
      rw [List.getElem?_set_self hi] at e
      cases e
      exact .inl ⟨a, by simp [B'], by rw [List.getElem?_set_self hiσ], r.step (fun _ _ q _ => q) (fun b z => .inl (an b z)) fun _ q => q⟩
    · rw [List.getElem?_set_ne (Ne.symm hne)] at e
      rw [List.getElem?_set_ne (Ne.symm hne)]
      rcases S.slot j d' e with ⟨b, h1, h2, h3⟩ | ⟨h1, v, h2, h3⟩
      · exact .inl ⟨b, by simp [B', hne, h1], h2, h3.step kp ans fun o q => s _ _ q⟩
      · exact .inr ⟨by simp [B', hne, h1], v, h2, h3.step kp ans⟩
/-- an own cell is written -/
theorem Sim.write (S : Sim K H0 A0 G O σ H ρ B) {i : Nat} {a : Addr} {o : HO} (hb : B i = some a) (hs : σ[i]? = some (some (.ref a))) (r : Tp K (Av A0 B) (upd H a o) a d) (hi : i < ρ.length) : Sim K H0 A0 G O σ (upd H a o) (ρ.set i (some d)) B := by
  obtain ⟨f0, f1, o1, f2, f3⟩ := S.fr i a hb
  have nt : NT o := by
    obtain ⟨o', e, n⟩ := r.some
    rw [upd_same] at e
    cases e
    exact n
  have av : Av A0 B a := .inr ⟨i, hb⟩
  have kp : ∀ b q, H b = some q → ¬ Av A0 B b → upd H a o b = some q := fun b q e n => by
    rw [upd_ne (fun z => n (by rw [z]; exact av))]; exact e
  have kn : ∀ b q, H b = some q → b ≠ a → upd H a o b = some q := fun b q e n => by
    rw [upd_ne n]; exact e
  have ans : ∀ b, Av A0 B b → Av A0 B b ∨ H b = none := fun b z => .inl z
  have there : ∀ b, (∃ q, H b = some q ∧ NT q) → ∃ q, upd H a o b = some q ∧ NT q := fun b ⟨q, e, n⟩ => by
    by_cases hb : b = a
    · subst hb; exact ⟨o, upd_same, nt⟩
    · exact ⟨q, kn b q e hb, n⟩
  refine ⟨fun b q e => ?_, fun b z => there b (S.a0 b z), by simp [S.len], S.bo, S.inj, fun j b e => ?_, fun j d' hj e m => ?_, fun j d' e => ?_, fun p hp => (S.gs p hp).step kp ans⟩
  · exact kn b q (S.same b q e) (fun z => by rw [z, f0] at e; cases e)
  · obtain ⟨h1, h2, h3⟩ := S.fr j b e
    exact ⟨h1, h2, there b h3⟩
  · by_cases hne : j = i
    · subst hne
      rw [List.getElem?_set_self hi] at e
      cases e
      exact ⟨a, hb, hs, r⟩
    · rw [List.getElem?_set_ne (Ne.symm hne)] at e
      obtain ⟨b, h1, h2, h3⟩ := S.ob j d' hj e m
      refine ⟨b, h1, h2, h3.step kp ans fun q z => kn b q z fun w => hne ?_⟩
      rw [w] at h1
      exact S.inj j i a h1 hb
  · by_cases hne : j = i
    · subst hne
      rw [List.getElem?_set_self hi] at e
      cases e
      exact .inl ⟨a, hb, hs, r⟩
    · rw [List.getElem?_set_ne (Ne.symm hne)] at e
      rcases S.slot j d' e with ⟨b, h1, h2, h3⟩ | ⟨h1, v, h2, h3⟩
      · refine .inl ⟨b, h1, h2, h3.step kp ans fun q z => kn b q z fun w => hne ?_⟩
        rw [w] at h1
        exact S.inj j i a h1 hb
      · exact .inr ⟨h1, v, h2, h3.step kp ans⟩
/-- one more cell that is kept off (a comprehension's list) -/
theorem Sim.guard (S : Sim K H0 A0 G O σ H ρ B) {a : Addr} (hn : H a = none) (s : Same H H') (ht : ∃ o, H' a = some o ∧ NT o) : Sim K H0 (fun b => A0 b ∨ b = a) G O σ H' ρ B := by
  have kp : ∀ b o, H b = some o → ¬ Av A0 B b → H' b = some o := fun b o e _ => s b o e
  have ans : ∀ b, Av (fun b => A0 b ∨ b = a) B b → Av A0 B b ∨ H b = none := fun b z => by
    rcases z with (z | z) | z
    · exact .inl (.inl z)
    · exact .inr (by rw [z]; exact hn)
    · exact .inl (.inr z)
  refine ⟨S.same.trans s, fun b z => ?_, S.len, S.bo, S.inj, fun i b e => ?_, fun i d hi e m => ?_, fun i d e => ?_, fun p hp => (S.gs p hp).step kp ans⟩
  · rcases z with z | z
    · obtain ⟨o, e, n⟩ := S.a0 b z
      exact ⟨o, s _ _ e, n⟩
    · rw [z]; exact ht
  · obtain ⟨h1, h2, o, h3, h4⟩ := S.fr i b e
    refine ⟨h1, fun z => ?_, o, s _ _ h3, h4⟩
    rcases z with z | z
    · exact h2 z
    · rw [z, hn] at h3; cases h3
  · obtain ⟨b, h1, h2, h3⟩ := S.ob i d hi e m
    exact ⟨b, h1, h2, h3.step kp ans fun o q => s _ _ q⟩
  · rcases S.slot i d e with ⟨b, h1, h2, h3⟩ | ⟨h1, v, h2, h3⟩
    · exact .inl ⟨b, h1, h2, h3.step kp ans fun o q => s _ _ q⟩
    · exact .inr ⟨h1, v, h2, h3.step kp ans⟩
/-- one more ghost -/
theorem Sim.ghost (S : Sim K H0 A0 G O σ H ρ B) {G' : List (V × D)} (h : ∀ p ∈ G', Rp K (Av A0 B) H p.1 p.2) : Sim K H0 A0 (G' ++ G) O σ H ρ B :=
  ⟨S.same, S.a0, S.len, S.bo, S.inj, S.fr, S.ob, S.slot, fun p hp => (List.mem_append.mp hp).elim (h p) (S.gs p)⟩
theorem Sim.unghost {G' : List (V × D)} (S : Sim K H0 A0 (G' ++ G) O σ H ρ B) : Sim K H0 A0 G O σ H ρ B :=
  ⟨S.same, S.a0, S.len, S.bo, S.inj, S.fr, S.ob, S.slot, fun p hp => S.gs p (List.mem_append_right _ hp)⟩
/-- a slot is forgotten -/
theorem Sim.drop (S : Sim K H0 A0 G O σ H ρ B) (i : Nat) (hO : i ∉ O) : Sim K H0 A0 G O (σ.set i none) H (ρ.set i none) B := by
  have nb : ∀ j a, B j = some a → j ≠ i := fun j a e z => hO (z ▸ S.bo j a e)
  have ne : ∀ j d, (ρ.set i none)[j]? = some (some d) → j ≠ i ∧ ρ[j]? = some (some d) := fun j d e => by
    by_cases hj : j = i
    · subst hj
      by_cases hl : j < ρ.length
      · rw [List.getElem?_set_self hl] at e; cases e
      · rw [List.getElem?_eq_none (by simpa using hl)] at e; cases e
    · rw [List.getElem?_set_ne (Ne.symm hj)] at e
      exact ⟨hj, e⟩
  refine ⟨S.same, S.a0, by simp [S.len], S.bo, S.inj, S.fr, fun j d hj e m => ?_, fun j d e => ?_, S.gs⟩
  · obtain ⟨h, e⟩ := ne j d e
    rw [List.getElem?_set_ne (Ne.symm h)]
    exact S.ob j d hj e m
  · obtain ⟨h, e⟩ := ne j d e
    rw [List.getElem?_set_ne (Ne.symm h)]
    exact S.slot j d e
end
end Pm

namespace Pm
open PySem PySem.Spec PyProof.Rows L2

/-- weak, strong, fresh -/
inductive Md where | w | s | f
  deriving DecidableEq

def WRp (K : PySem.W.Frag) (A : Addr → Prop) (H : Hp) (v : V) (d : D) : Prop := Rp K A H v d ∨ ∃ a, v = V.ref a ∧ Tp K A H a d
def Res (K : PySem.W.Frag) (A : Addr → Prop) (He H' : Hp) : Md → V → D → Prop
  | .w, v, d => WRp K A H' v d
  | .s, v, d => Rp K A H' v d
  | .f, v, d => (∃ a, v = V.ref a ∧ He a = none ∧ Tp K (fun b => A b ∨ b = a) H' a d) ∨ (Rp K A H' v d ∧ isMut d = false)
/-- all that is kept off is tracked -/
def Tr (A : Addr → Prop) (H : Hp) : Prop := ∀ a, A a → ∃ o, H a = some o ∧ NT o

section
variable {K : PySem.W.Frag} {A A' : Addr → Prop} {H He H' H'' : Hp} {v : V} {d : D} {m : Md}
theorem Tr.mono (t : Tr A H) (s : Same H H') : Tr A H' := fun a h => let ⟨o, e, n⟩ := t a h; ⟨o, s _ _ e, n⟩
theorem Tr.no (t : Tr A H) {a : Addr} (h : H a = none) : ¬ A a := fun z => by
  obtain ⟨o, e, _⟩ := t a z
  rw [h] at e; cases e
theorem WRp.mono (s : Same H H') (h : WRp K A H v d) : WRp K A H' v d := by
  rcases h with h | ⟨a, e, h⟩
  · exact .inl (h.mono s)
  · exact .inr ⟨a, e, h.mono s⟩
theorem Res.mono (s : Same H' H'') (h : Res K A He H' m v d) : Res K A He H'' m v d := by
  cases m with
  | w => exact WRp.mono s h
  | s => exact Rp.mono s h
  | f =>
    rcases h with ⟨a, e, n, h⟩ | ⟨h, n⟩
    · exact .inl ⟨a, e, n, h.mono s⟩
    · exact .inr ⟨h.mono s, n⟩
theorem Res.back (s : Same He H) (h : Res K A H H' m v d) : Res K A He H' m v d := by
  cases m with
  | w => exact h
  | s => exact h
  | f =>
    rcases h with ⟨a, e, n, h⟩ | h
    · exact .inl ⟨a, e, s.free n, h⟩
    · exact .inr h
theorem Res.toW (h : Res K A He H' m v d) : WRp K A H' v d := by
  cases m with
  | w => exact h
  | s => exact .inl h
  | f =>
    rcases h with ⟨a, e, n, h⟩ | h
    · exact .inr ⟨a, e, h.step (fun _ _ q _ => q) (fun _ z => .inl (.inl z)) fun _ q => q⟩
    · exact .inl h.1
theorem Res.toS (t : Tr A He) (hm : m ≠ .w) (h : Res K A He H' m v d) : Rp K A H' v d := by
  cases m with
  | w => exact absurd rfl hm
  | s => exact h
  | f =>
    rcases h with ⟨a, e, n, h⟩ | h
    · subst e
      exact (h.step (fun _ _ q _ => q) (fun _ z => .inl (.inl z)) fun _ q => q : Tp K A H' a d).rp (t.no n)
    · exact h.1
/-- a value without a cell of its own to be written -/
theorem Res.flat (h : Rp K A H' v d) (n : isMut d = false) : Res K A He H' m v d := by
  cases m with
  | w => exact .inl h
  | s => exact h
  | f => exact .inr ⟨h, n⟩
theorem Res.int {i : Int} : Res K A He H' m (.int i) (.int i) := Res.flat (.int i) rfl
theorem Res.bl {b : Bool} : Res K A He H' m (.bl b) (.bool b) := Res.flat (.bl b) rfl
theorem Res.non : Res K A He H' m .non .none := Res.flat .non rfl
theorem Res.str {b : Str} : Res K A He H' m (.str b) (.str b) := Res.flat (.str b) rfl
/-- a new list, a new tuple -/
theorem Res.newL {p : Addr} {vs : List V} {ds : List D} (t : Tr A H) (hn : H p = none) (r : RpL K A H vs ds) (s : Same He H) : Res K A He (upd H p (.lst vs)) .f (.ref p) (.list ds) := by
  refine .inl ⟨p, rfl, s.free hn, .lst upd_same ?_⟩
  refine r.step (fun a o e _ => ?_) fun a z => ?_
  · rw [upd_ne (ne_of_none e hn)]; exact e
  · rcases z with z | z
    · exact .inl z
    · exact .inr (by rw [z]; exact hn)
theorem same_upd {p : Addr} {o : HO} (h : H p = none) : Same H (upd H p o) := fun b x e => by
  rw [upd_ne (ne_of_none e h)]; exact e
theorem Rp.newT {p : Addr} {vs : List V} {ds : List D} (t : Tr A H) (hn : H p = none) (r : RpL K A H vs ds) : Rp K A (upd H p (.tup vs)) (.ref p) (.tuple ds) :=
  .tup upd_same (t.no hn) (r.mono (same_upd hn))
theorem WRp.int {i : Int} (h : WRp K A H v (.int i)) : v = .int i := by
  rcases h with h | ⟨a, e, h⟩
  · cases h; rfl
  · cases h
theorem WRp.bl {i : Bool} (h : WRp K A H v (.bool i)) : v = .bl i := by
  rcases h with h | ⟨a, e, h⟩
  · cases h; rfl
  · cases h
theorem WRp.non (h : WRp K A H v .none) : v = .non := by
  rcases h with h | ⟨a, e, h⟩
  · cases h; rfl
  · cases h
theorem WRp.str {i : Str} (h : WRp K A H v (.str i)) : v = .str i := by
  rcases h with h | ⟨a, e, h⟩
  · cases h; rfl
  · cases h
theorem WRp.lst {ds : List D} (h : WRp K A H v (.list ds)) : ∃ a xs, v = .ref a ∧ H a = some (.lst xs) ∧ RpL K A H xs ds := by
  rcases h with h | ⟨a, e, h⟩
  · cases h with
    | lst h n r => exact ⟨_, _, rfl, h, r⟩
  · cases h with
    | lst h r => exact ⟨_, _, e, h, r⟩
theorem WRp.tup {ds : List D} (h : WRp K A H v (.tuple ds)) : ∃ a xs, v = .ref a ∧ H a = some (.tup xs) ∧ ¬ A a ∧ RpL K A H xs ds := by
  rcases h with h | ⟨a, e, h⟩
  · cases h with
    | tup h n r => exact ⟨_, _, rfl, h, n, r⟩
  · cases h
theorem WRp.scr {ds : List D} (h : WRp K A H v (.dict [(.none, .list ds)])) : ∃ a xs, v = .ref a ∧ SqL K H a xs ∧ RpL K A H xs ds := by
  rcases h with h | ⟨a, e, h⟩
  · cases h with
    | scr h n r => exact ⟨_, _, rfl, .inl h, r⟩
    | kl h r => exact ⟨_, _, rfl, .inr h, r⟩
    | dic h n r e =>
      rename_i ks ds'
      cases ks with
      | nil => simp at e
      | cons p ks =>
        cases ds' with
        | nil => simp at e
        | cons d' ds' =>
          simp only [List.map_cons, List.zip_cons_cons, List.cons.injEq, Prod.mk.injEq] at e
          obtain ⟨⟨e, _⟩, _⟩ := e
          obtain ⟨k, _⟩ := p
          cases k <;> cases e
  · cases h with
    | dic h r e =>
      rename_i ks ds'
      cases ks with
      | nil => simp at e
      | cons p ks =>
        cases ds' with
        | nil => simp at e
        | cons d' ds' =>
          simp only [List.map_cons, List.zip_cons_cons, List.cons.injEq, Prod.mk.injEq] at e
          obtain ⟨⟨e, _⟩, _⟩ := e
          obtain ⟨k, _⟩ := p
          cases k <;> cases e
end

/-! ### judgements -/
def simT (K : PySem.W.Frag) (O : List Nat) (m : Md) (f : Xp) : TE := fun σ H Q => ∃ H0 A0 G ρ B d, Sim K H0 A0 G O σ H ρ B ∧ f ρ = some d ∧ ∀ v H', Same H H' → Res K (Av A0 B) H H' m v d → Q v H'
structure SE (X : Cx) (O : List Nat) (m : Md) (e : Expr) (f : Xp) : Prop where
  pe : PE X e (simT X.K O m f)
def simTT (K : PySem.W.Frag) (O : List Nat) (f : PEnv → Option Bool) : TT := fun σ H Q => ∃ H0 A0 G ρ B b, Sim K H0 A0 G O σ H ρ B ∧ f ρ = some b ∧ ∀ H', Same H H' → Q b H'
structure ST (X : Cx) (O : List Nat) (e : Expr) (f : PEnv → Option Bool) : Prop where
  pt : PT X e (simTT X.K O f)
def ResL (K : PySem.W.Frag) (A : Addr → Prop) (H : Hp) (strong : Bool) (vs : List V) (ds : List D) : Prop := if strong then RpL K A H vs ds else Paired (WRp K A H) vs ds
def simA (K : PySem.W.Frag) (O : List Nat) (strong : Bool) (f : PEnv → Option (List D)) : TA := fun σ H Q => ∃ H0 A0 G ρ B ds, Sim K H0 A0 G O σ H ρ B ∧ f ρ = some ds ∧ ∀ vs H', Same H H' → ResL K (Av A0 B) H' strong vs ds → Q vs H'
structure SA (X : Cx) (O : List Nat) (strong : Bool) (es : List Expr) (f : PEnv → Option (List D)) : Prop where
  pa : PA X es (simA X.K O strong f)

theorem pe_imp {X : Cx} {e : Expr} {t t' : TE} (h : PE X e t) (hi : ∀ σ H Q, t' σ H Q → t σ H Q) : PE X e t' := ⟨fun pins s σ H Q I q => h.run pins s σ H Q I (hi _ _ _ q)⟩
theorem pt_imp {X : Cx} {e : Expr} {t t' : TT} (h : PT X e t) (hi : ∀ σ H Q, t' σ H Q → t σ H Q) : PT X e t' := ⟨fun pins s σ H Q I q => h.run pins s σ H Q I (hi _ _ _ q)⟩
theorem pa_imp {X : Cx} {e : List Expr} {t t' : TA} (h : PA X e t) (hi : ∀ σ H Q, t' σ H Q → t σ H Q) : PA X e t' := ⟨fun pos pins s σ H Q I q => h.run pos pins s σ H Q I (hi _ _ _ q)⟩
theorem ps_imp {X : Cx} {e : Stmt} {t t' : TS} (h : PS X e t) (hi : ∀ D σ H, t' D σ H → t D σ H) : PS X e t' := ⟨fun pins s σ H Q I q => h.run pins s σ H Q I (hi _ _ _ q)⟩
theorem pss_imp {X : Cx} {e : List Stmt} {t t' : TS} (h : PSs X e t) (hi : ∀ D σ H, t' D σ H → t D σ H) : PSs X e t' := ⟨fun pins s σ H Q I q => h.run pins s σ H Q I (hi _ _ _ q)⟩

/-! ### names, constants -/
def xVar (i : Nat) : Xp := fun ρ => ρ.getD i none
def xC (d : D) : Xp := fun _ => some d
theorem getD_some {ρ : PEnv} {i : Nat} {d : D} (h : ρ.getD i none = some d) : ρ[i]? = some (some d) := by
  rw [List.getD_eq_getElem?_getD] at h
  cases e : ρ[i]? with
  | none => rw [e] at h; cases h
  | some x => rw [e] at h; exact congrArg some h
section
variable {X : Cx} {O : List Nat} {m ma mb : Md} {a b c e : Expr} {es : List Expr} {fa fb fc f : Xp} {pos : Pos}
theorem se_var (i : Nat) {x : Str} (hN : X.N[i]? = some x := by rfl) (hv : Vis X.env.scope x := by first | exact Or.inl rfl | exact Or.inr (Or.inl rfl) | exact Or.inr (Or.inr rfl)) (ho : O.contains i = false := by rfl)
    (hd : (x == ("__debug__" : Str)) = false := by decide) (hcd : (x == ("__classdict__" : Str)) = false := by decide) : SE X O .s (.Name x pos) (xVar i) := by
  refine ⟨pe_imp (pe_var hN hv hd hcd) fun σ H Q h => ?_⟩
  obtain ⟨H0, A0, G, ρ, B, d, S, e, k⟩ := h
  rcases S.slot i d (getD_some e) with ⟨a, h1, _, _⟩ | ⟨_, v, h2, h3⟩
  · have := S.bo i a h1
    simp at ho
    exact absurd this ho
  · exact ⟨v, h2, k v H (Same.refl H) h3⟩
theorem se_varW (i : Nat) {x : Str} (hN : X.N[i]? = some x := by rfl) (hv : Vis X.env.scope x := by first | exact Or.inl rfl | exact Or.inr (Or.inl rfl) | exact Or.inr (Or.inr rfl))
    (hd : (x == ("__debug__" : Str)) = false := by decide) (hcd : (x == ("__classdict__" : Str)) = false := by decide) : SE X O .w (.Name x pos) (xVar i) := by
  refine ⟨pe_imp (pe_var hN hv hd hcd) fun σ H Q h => ?_⟩
  obtain ⟨H0, A0, G, ρ, B, d, S, e, k⟩ := h
  rcases S.slot i d (getD_some e) with ⟨a, h1, h2, h3⟩ | ⟨_, v, h2, h3⟩
  · exact ⟨_, h2, k _ H (Same.refl H) (.inr ⟨a, rfl, h3⟩)⟩
  · exact ⟨v, h2, k v H (Same.refl H) (.inl h3)⟩
theorem se_int {i j} : SE X O .f (.Constant (.int i) j pos) (xC (.int i)) :=
  ⟨pe_imp pe_int fun σ H Q ⟨H0, A0, G, ρ, B, d, S, e, k⟩ => by cases e; exact k _ H (Same.refl H) Res.int⟩
theorem se_bl {i j} : SE X O .f (.Constant (.bool i) j pos) (xC (.bool i)) :=
  ⟨pe_imp pe_bl fun σ H Q ⟨H0, A0, G, ρ, B, d, S, e, k⟩ => by cases e; exact k _ H (Same.refl H) Res.bl⟩
theorem se_non {j} : SE X O .f (.Constant .none j pos) (xC .none) :=
  ⟨pe_imp pe_non fun σ H Q ⟨H0, A0, G, ρ, B, d, S, e, k⟩ => by cases e; exact k _ H (Same.refl H) Res.non⟩
theorem se_str {i j} : SE X O .f (.Constant (.str i) j pos) (xC (.str i)) :=
  ⟨pe_imp pe_str fun σ H Q ⟨H0, A0, G, ρ, B, d, S, e, k⟩ => by cases e; exact k _ H (Same.refl H) Res.str⟩

/-! ### operators by values -/
def xBin (g : D → D → Option D) (fa fb : Xp) : Xp := fun ρ => (fa ρ).bind fun x => (fb ρ).bind fun y => g x y
def xUn (g : D → Option D) (fa : Xp) : Xp := fun ρ => (fa ρ).bind g
def rD (K : PySem.W.Frag) (m : Md) (g : D → D → Option D) : R2 := fun x y H Q => ∃ A dx dy d, Tr A H ∧ WRp K A H x dx ∧ WRp K A H y dy ∧ g dx dy = some d ∧ ∀ v H', Same H H' → Res K A H H' m v d → Q v H'
def rD1 (K : PySem.W.Frag) (m : Md) (g : D → Option D) : V → Hp → VK → Prop := fun x H Q => ∃ A dx d, Tr A H ∧ WRp K A H x dx ∧ g dx = some d ∧ ∀ v H', Same H H' → Res K A H H' m v d → Q v H'
theorem bind2 {α β : Type} {a : Option α} {b : α → Option β} {c : β} (h : a.bind b = some c) : ∃ x, a = some x ∧ b x = some c := Option.bind_eq_some_iff.mp h
theorem tOp_of {g : D → D → Option D} (σ : L2.St) (H : Hp) (Q : VK) (h : simT X.K O m (xBin g fa fb) σ H Q) : tOp (rD X.K m g) (simT X.K O ma fa) (simT X.K O mb fb) σ H Q := by
  obtain ⟨H0, A0, G, ρ, B, d, S, e, k⟩ := h
  obtain ⟨x, ex, e⟩ := bind2 e
  obtain ⟨y, ey, e⟩ := bind2 e
  refine ⟨H0, A0, G, ρ, B, x, S, ex, fun v H1 s1 r1 => ⟨H0, A0, G, ρ, B, y, S.mono s1, ey, fun u H2 s2 r2 => ?_⟩⟩
  exact ⟨Av A0 B, x, y, d, (S.mono (s1.trans s2)).tr, r1.toW.mono s2, r2.toW, e, fun z H3 s3 r3 => k z H3 ((s1.trans s2).trans s3) (r3.back (s1.trans s2))⟩
theorem se_op {op : Operator} {g : D → D → Option D} (ho : OpR X (binaryOp op) (rD X.K m g)) (ha : SE X O ma a fa) (hb : SE X O mb b fb) : SE X O m (.BinOp a op b pos) (xBin g fa fb) :=
  ⟨pe_imp (pe_op ho ha.pe hb.pe) tOp_of⟩
theorem se_cmp {op : CmpOp} {g : D → D → Option D} (ho : OpR X (compareOp op) (rD X.K m g)) (ha : SE X O ma a fa) (hb : SE X O mb b fb) (hm : behindInMarks op b = false := by first | exact nomark _ | rfl) : SE X O m (.Compare a [op] [b] pos) (xBin g fa fb) :=
  ⟨pe_imp (pe_cmpR ho ha.pe hb.pe hm) tOp_of⟩
/-- a comparison's answer as a test -/
def tB2 (g : D → D → Option D) (fa fb : Xp) : PEnv → Option Bool := fun ρ => (fa ρ).bind fun x => (fb ρ).bind fun y => (g x y).bind fun z => match z with | .bool b => some b | _ => none
def dB (d : D) : Option Bool := match d with | .bool b => some b | _ => none
theorem dB_some {d : D} {b : Bool} (h : dB d = some b) : d = .bool b := by
  cases d <;> simp_all [dB]
def tOf (f : Xp) : PEnv → Option Bool := fun ρ => (f ρ).bind dB
theorem st_cmp {op : CmpOp} {g : D → D → Option D} (ho : OpR X (compareOp op) (rD X.K .f g)) (ha : SE X O ma a fa) (hb : SE X O mb b fb) (hm : behindInMarks op b = false := by first | exact nomark _ | rfl) : ST X O (.Compare a [op] [b] pos) (tOf (xBin g fa fb)) := by
  refine ⟨pt_imp (pt_cmpR ho ha.pe hb.pe hm) fun σ H Q h => ?_⟩
  obtain ⟨H0, A0, G, ρ, B, b, S, e, k⟩ := h
  obtain ⟨d, ed, e⟩ := bind2 e
  have := dB_some e
  subst this
  refine tOp_of (m := .f) σ H _ ⟨H0, A0, G, ρ, B, _, S, ed, fun v H' s r => ?_⟩
  exact ⟨b, r.toW.bl, k H' s⟩
theorem se_un {op : UnaryOp} {g : D → Option D} (ho : UnR X (unaryOp op) (rD1 X.K m g)) (ha : SE X O ma a fa) : SE X O m (.UnaryOp op a pos) (xUn g fa) := by
  refine ⟨pe_imp (pe_un ho ha.pe) fun σ H Q h => ?_⟩
  obtain ⟨H0, A0, G, ρ, B, d, S, e, k⟩ := h
  obtain ⟨x, ex, e⟩ := bind2 e
  exact ⟨H0, A0, G, ρ, B, x, S, ex, fun v H1 s1 r1 => ⟨Av A0 B, x, d, (S.mono s1).tr, r1.toW, e, fun z H3 s3 r3 => k z H3 (s1.trans s3) (r3.back s1)⟩⟩

/-! ### tests -/
def tNotP (f : PEnv → Option Bool) : PEnv → Option Bool := fun ρ => (f ρ).map (!·)
def tAndP (f g : PEnv → Option Bool) : PEnv → Option Bool := fun ρ => (f ρ).bind fun b => if b then g ρ else some false
def tOrP (f g : PEnv → Option Bool) : PEnv → Option Bool := fun ρ => (f ρ).bind fun b => if b then some true else g ρ
theorem st_not {f : PEnv → Option Bool} (h : ST X O a f) : ST X O (.UnaryOp .Not a pos) (tNotP f) := by
  refine ⟨pt_imp (pt_not h.pt) fun σ H Q q => ?_⟩
  obtain ⟨H0, A0, G, ρ, B, b, S, e, k⟩ := q
  obtain ⟨x, ex, e⟩ := Option.map_eq_some_iff.mp e
  subst e
  exact ⟨H0, A0, G, ρ, B, x, S, ex, fun H' s => k H' s⟩
/-- and, or of tests -/
structure SW (X : Cx) (O : List Nat) (e : Expr) (f : PEnv → Option Bool) : Prop where
  pw : PW X e (simTT X.K O f)
theorem SW.st {f : PEnv → Option Bool} (h : SW X O a f) : ST X O a f := ⟨h.pw.pt⟩
theorem sw_and1 {f : PEnv → Option Bool} (h : ST X O a f) : SW X O (.BoolOp .And [a] pos) f := ⟨pw_and1 h.pt⟩
theorem sw_or1 {f : PEnv → Option Bool} (h : ST X O a f) : SW X O (.BoolOp .Or [a] pos) f := ⟨pw_or1 h.pt⟩
theorem pw_imp {e : Expr} {t t' : TT} (h : PW X e t) (hi : ∀ σ H Q, t' σ H Q → t σ H Q) : PW X e t' := ⟨fun w pins s σ H Q I q => h.run w pins s σ H Q I (hi _ _ _ q)⟩
theorem sw_and {f g : PEnv → Option Bool} (h : ST X O a f) (h' : SW X O (.BoolOp .And (b :: es) pos) g) : SW X O (.BoolOp .And (a :: b :: es) pos) (tAndP f g) := by
  refine ⟨pw_imp (pw_and h.pt h'.pw) fun σ H Q q => ?_⟩
  obtain ⟨H0, A0, G, ρ, B, b, S, e, k⟩ := q
  obtain ⟨x, ex, e⟩ := bind2 e
  refine ⟨H0, A0, G, ρ, B, x, S, ex, fun H1 s1 => ?_⟩
  cases x with
  | true => exact ⟨H0, A0, G, ρ, B, b, S.mono s1, e, fun H' s => k H' (s1.trans s)⟩
  | false => cases e; exact k H1 s1
theorem sw_or {f g : PEnv → Option Bool} (h : ST X O a f) (h' : SW X O (.BoolOp .Or (b :: es) pos) g) : SW X O (.BoolOp .Or (a :: b :: es) pos) (tOrP f g) := by
  refine ⟨pw_imp (pw_or h.pt h'.pw) fun σ H Q q => ?_⟩
  obtain ⟨H0, A0, G, ρ, B, b, S, e, k⟩ := q
  obtain ⟨x, ex, e⟩ := bind2 e
  refine ⟨H0, A0, G, ρ, B, x, S, ex, fun H1 s1 => ?_⟩
  cases x with
  | true => cases e; exact k H1 s1
  | false => exact ⟨H0, A0, G, ρ, B, b, S.mono s1, e, fun H' s => k H' (s1.trans s)⟩
/-- a value's truth -/
def oTru : D → Option Bool
  | .none => some false
  | .bool b => some b
  | .int i => some (i != 0)
  | .list xs => some (!xs.isEmpty)
  | .tuple xs => some (!xs.isEmpty)
  | .dict [] => some false
  | .dict ((.int _, _) :: _) => some true
  | .dict ((.str _, _) :: _) => some true
  | _ => none
theorem empty_of {K : PySem.W.Frag} {A : Addr → Prop} {H : Hp} {vs : List V} {ds : List D} (r : RpL K A H vs ds) : (!vs.isEmpty) = !ds.isEmpty := by
  cases r <;> rfl
theorem tru_of {K : PySem.W.Frag} {A : Addr → Prop} {H : Hp} {v : V} {d : D} {b : Bool} (h : WRp K A H v d) (e : oTru d = some b) : TruV K v H b := by
  have dict : ∀ {a : Addr} {ks : List (Key × V)} {ds : List D} {kd : List (D × D)}, H a = some (.dK ks) → RpL K A H (ks.map (·.2)) ds → kd = (ks.map fun p => keyD p.1).zip ds → oTru (.dict kd) = some b → TruV K (.ref a) H b := fun {a ks ds kd} h1 h2 h3 h4 => by
    refine .inr (.inr ⟨ks, h1, ?_⟩)
    subst h3
    cases ks with
    | nil => simp [oTru] at h4; simp [← h4]
    | cons p ks =>
      cases h2 with
      | cons h2 h2' =>
        obtain ⟨k, v⟩ := p
        cases k <;> simp [oTru, keyD] at h4 <;> simp [← h4]
  rcases h with h | ⟨a, z, h⟩
  · cases h with
    | non => cases e; exact rfl
    | bl c => cases e; exact rfl
    | int i => cases e; exact rfl
    | str x => cases e
    | lst h n r => cases e; exact .inl ⟨_, .inl (.inl h), (empty_of r).symm⟩
    | tup h n r => cases e; exact .inr (.inl ⟨_, .inl (.inl h), (empty_of r).symm⟩)
    | scr h n r => simp [oTru] at e
    | kl h r => simp [oTru] at e
    | dic h n r q => exact dict h r q e
  · subst z
    cases h with
    | lst h r => cases e; exact .inl ⟨_, .inl (.inl h), (empty_of r).symm⟩
    | dic h r q => exact dict h r q e
def tTru (f : Xp) : PEnv → Option Bool := fun ρ => (f ρ).bind oTru
theorem st_val (h : SE X O m a fa) (he : ∀ whole, isTrue a X.env whole = (do let v ← whole; standAt a.pos; holding [v] (truthy v)) := by intro _; rfl) : ST X O a (tTru fa) := by
  refine ⟨pt_imp (pt_truth h.pe he) fun σ H Q q => ?_⟩
  obtain ⟨H0, A0, G, ρ, B, b, S, e, k⟩ := q
  obtain ⟨x, ex, e⟩ := bind2 e
  exact ⟨H0, A0, G, ρ, B, x, S, ex, fun v H1 s1 r1 => ⟨b, tru_of r1.toW e, k H1 s1⟩⟩
/-- not as a value -/
def oNot (d : D) : Option D := (oTru d).map fun b => .bool (!b)
end
end Pm

namespace Pm
open PySem PySem.Spec PyProof.Rows L2

def shp (d : D) : Bool := SeqAt.shaped d
/-! ### what the operators do -/
def oAdd : D → D → Option D
  | .int a, .int b => some (.int (a + b))
  | .list a, .list b => if a.length + b.length ≤ 16777216 then some (.list (a ++ b)) else none
  | .tuple a, .tuple b => if a.length + b.length ≤ 16777216 then some (.tuple (a ++ b)) else none
  | .int a, .bool b => some (.int (a + (if b then 1 else 0)))
  | _, _ => none
def oSub : D → D → Option D
  | .int a, .int b => some (.int (a - b))
  | _, _ => none
def mulOk (a b : Int) : Bool := decide (a.natAbs < 2 ^ 63) || decide (b.natAbs < 2 ^ 63) || decide (a.natAbs.log2 + b.natAbs.log2 < 1000000)
def oMul : D → D → Option D
  | .int a, .int b => if mulOk a b then some (.int (a * b)) else none
  | .list a, .int k => if -(2 ^ 62) ≤ k ∧ k < 2 ^ 62 ∧ a.length * k.toNat ≤ 16777216 then some (.list (List.replicate k.toNat a).flatten) else none
  | .tuple a, .int k => if a ≠ [] ∧ 2 ≤ k ∧ k ≤ 1000 ∧ a.length ≤ 1000 then some (.tuple (List.replicate k.toNat a).flatten) else none
  | _, _ => none
def divOk (b : Int) : Bool := decide (b ≠ 0) && decide (b.natAbs.log2 < 9000)
def oFdiv : D → D → Option D
  | .int a, .int b => if divOk b then some (.int (a.fdiv b)) else none
  | _, _ => none
def oMod : D → D → Option D
  | .int a, .int b => if b ≠ 0 then some (.int (a.fmod b)) else none
  | _, _ => none
def oPow : D → D → Option D
  | .int a, .int b => if 0 ≤ b ∧ b ≤ 1000000 ∧ a.natAbs < 2 ^ 64 then some (.int (a ^ b.toNat)) else none
  | _, _ => none
def oShl : D → D → Option D
  | .int a, .int b => if 0 ≤ b ∧ b ≤ 1000000 ∧ a.natAbs < 2 ^ 64 then some (.int (a * 2 ^ b.toNat)) else none
  | _, _ => none
def oEq (x y : D) : Option D := if shp x && shp y then some (.bool (PyData.eqv x y)) else none
def oNe (x y : D) : Option D := if shp x && shp y then some (.bool (!PyData.eqv x y)) else none
def oLt : D → D → Option D
  | .int a, .int b => some (.bool (decide (a < b)))
  | _, _ => none
def oLe : D → D → Option D
  | .int a, .int b => some (.bool (decide (a ≤ b)))
  | _, _ => none
def oGt : D → D → Option D
  | .int a, .int b => some (.bool (decide (b < a)))
  | _, _ => none
def oGe : D → D → Option D
  | .int a, .int b => some (.bool (decide (b ≤ a)))
  | _, _ => none
def isNone : D → Bool
  | .none => true
  | _ => false
def oIs : D → D → Option D
  | x, .none => some (.bool (isNone x))
  | _, _ => none
def oIsNot : D → D → Option D
  | x, .none => some (.bool (!isNone x))
  | _, _ => none
def oIn : D → D → Option D
  | x, .list ys => if shp x && PyData.canLayAll0 ys then some (.bool (ys.any fun z => PyData.eqv z x)) else none
  | x, .tuple ys => if shp x && PyData.canLayAll0 ys then some (.bool (ys.any fun z => PyData.eqv z x)) else none
  | _, _ => none
def oNotIn : D → D → Option D
  | x, .list ys => if shp x && PyData.canLayAll0 ys then some (.bool (!ys.any fun z => PyData.eqv z x)) else none
  | x, .tuple ys => if shp x && PyData.canLayAll0 ys then some (.bool (!ys.any fun z => PyData.eqv z x)) else none
  | _, _ => none
def ixD (xs : List D) (i : Int) : Option D := atI xs i
def oIx : D → D → Option D
  | .list xs, .int i => atI xs i
  | .tuple xs, .int i => atI xs i
  | .dict [(.none, .list xs)], .int i => atI xs i
  | _, _ => none
def oNeg : D → Option D
  | .int i => some (.int (-i))
  | _ => none

section
variable {K : PySem.W.Frag} {A : Addr → Prop} {H H' : Hp} {v : V} {d : D} {vs : List V} {ds : List D}
mutual
theorem Rp.dp : ∀ {v : V} {d : D}, Rp K A H v d → d.canLay0 = true → Dp K H v d
  | _, _, .non, _ => .non
  | _, _, .bl b, _ => .bl b
  | _, _, .int i, _ => .int i
  | _, _, .str x, _ => .str x
  | _, _, .lst h n r, c => .lst (.inl (.inl h)) (RpL.dp r (by simpa [PyData.canLay0] using c))
  | _, _, .tup h n r, c => .tup (.inl (.inl h)) (RpL.dp r (by simpa [PyData.canLay0] using c))
  | _, _, .scr h n r, c => by simp [PyData.canLay0] at c
  | _, _, .kl h r, c => by simp [PyData.canLay0] at c
  | _, _, .dic h n r e, c => by simp [PyData.canLay0] at c
theorem RpL.dp : ∀ {vs : List V} {ds : List D}, RpL K A H vs ds → PyData.canLayAll0 ds = true → DpAll K H vs ds
  | _, _, .nil, _ => .nil
  | _, _, .cons h r, c => by
    simp only [PyData.canLayAll0, Bool.and_eq_true] at c
    exact .cons (Rp.dp h c.1) (RpL.dp r c.2)
end
theorem WRp.dpc (h : WRp K A H v d) (c : d.canLay0 = true) : Dp K H v d := by
  rcases h with h | ⟨a, e, h⟩
  · exact h.dp c
  · subst e
    cases h with
    | lst h r => exact .lst (.inl (.inl h)) (r.dp (by simpa [PyData.canLay0] using c))
    | dic h r e => simp [PyData.canLay0] at c
theorem WRp.dp (h : WRp K A H v d) (c : shp d = true) : Dp K H v d := h.dpc (SeqAt.canLay_of_shaped c)
theorem RpL.atI {i : Int} (r : RpL K A H vs ds) (h : L2.atI ds i = some d) : ∃ v, L2.atI vs i = some v ∧ Rp K A H v d := by
  unfold L2.atI at h ⊢
  rw [r.length]
  obtain ⟨j, e1, e2⟩ := Option.bind_eq_some_iff.mp h
  obtain ⟨v, e3, e4⟩ := r.get e2
  exact ⟨v, by rw [e1]; exact e3, e4⟩
theorem non_dec : Rp K A H v d → decide (v = V.non) = isNone d := by
  intro h
  cases h <;> rfl
theorem WRp.none_dec (h : WRp K A H v d) : decide (v = V.non) = isNone d := by
  rcases h with h | ⟨a, e, h⟩
  · exact non_dec h
  · subst e
    cases h <;> rfl
end
section
variable {X : Cx} {k : Nat}
theorem op_addD : OpR X (binaryOp .Add) (rD X.K .f oAdd) := by
  intro pins s σ H x y v u Q I rx ry ⟨A, dx, dy, d, tr, wx, wy, e, q⟩
  unfold oAdd at e
  split at e
  · cases e
    exact op_add pins s σ H x y v u Q I rx ry ⟨_, _, wx.int, wy.int, q _ H (Same.refl H) Res.int⟩
  · split at e
    · rename_i hz
      cases e
      obtain ⟨a, xs, rfl, ha, ra⟩ := wx.lst
      obtain ⟨b, ys, rfl, hb, rb⟩ := wy.lst
      refine op_cat pins s σ H _ _ v u Q I rx ry ⟨a, b, xs, ys, rfl, rfl, ha, hb, by rw [ra.length, rb.length]; exact hz, fun p hp => q _ _ (same_upd hp) (Res.newL tr hp (rb.app ra) (Same.refl H))⟩
    · cases e
  · split at e
    · rename_i hz
      cases e
      obtain ⟨a, xs, rfl, ha, na, ra⟩ := wx.tup
      obtain ⟨b, ys, rfl, hb, nb, rb⟩ := wy.tup
      refine op_catA pins s σ H _ _ v u Q I rx ry ⟨a, b, xs, ys, rfl, rfl, .of ha, .of hb, by rw [ra.length, rb.length]; exact hz, fun z => ?_, fun _ z => ?_, fun _ _ p hp => q _ _ (same_upd hp) (Res.flat (Rp.newT tr hp (rb.app ra)) rfl)⟩
      · subst z
        cases ra
        exact q _ H (Same.refl H) (Res.flat (.tup hb nb rb) rfl)
      · subst z
        cases rb
        exact q _ H (Same.refl H) (Res.flat (.tup ha na (by simpa using ra)) rfl)
    · cases e
  · cases e
    exact op_add_ib pins s σ H x y v u Q I rx ry ⟨_, _, wx.int, wy.bl, q _ H (Same.refl H) (by
      rename_i b
      cases b <;> exact Res.int)⟩
  · cases e
theorem op_subD : OpR X (binaryOp .Sub) (rD X.K .f oSub) := by
  intro pins s σ H x y v u Q I rx ry ⟨A, dx, dy, d, tr, wx, wy, e, q⟩
  unfold oSub at e
  split at e
  · cases e
    exact op_sub pins s σ H x y v u Q I rx ry ⟨_, _, wx.int, wy.int, q _ H (Same.refl H) Res.int⟩
  · cases e
theorem mul_case {a b : Int} (h : mulOk a b = true) : CMul a b ∨ CMulW a b := by
  unfold mulOk at h
  rw [Bool.or_eq_true, Bool.or_eq_true] at h
  rcases h with (h | h) | h
  · exact .inl (.inl (by have := of_decide_eq_true h; omega))
  · exact .inl (.inr (by have := of_decide_eq_true h; omega))
  · exact .inr (show a.natAbs.log2 + b.natAbs.log2 < 1000000 from of_decide_eq_true h)
theorem op_mulD : OpR X (binaryOp .Mult) (rD X.K .f oMul) := by
  intro pins s σ H x y v u Q I rx ry ⟨A, dx, dy, d, tr, wx, wy, e, q⟩
  unfold oMul at e
  split at e
  · split at e
    · rename_i hm
      cases e
      rcases mul_case hm with h | h
      · exact op_mul pins s σ H x y v u Q I rx ry ⟨_, _, wx.int, wy.int, h, q _ H (Same.refl H) Res.int⟩
      · exact op_mulW pins s σ H x y v u Q I rx ry ⟨_, _, wx.int, wy.int, h, q _ H (Same.refl H) Res.int⟩
    · cases e
  · split at e
    · rename_i hz
      cases e
      obtain ⟨a, xs, rfl, ha, ra⟩ := wx.lst
      refine op_rep pins s σ H _ _ v u Q I rx ry ⟨a, _, xs, rfl, wy.int, ha, by omega, by omega, by rw [ra.length]; exact hz.2.2, fun p hp => q _ _ (same_upd hp) (Res.newL tr hp (ra.rep _) (Same.refl H))⟩
    · cases e
  · split at e
    · rename_i hz
      cases e
      obtain ⟨a, xs, rfl, ha, na, ra⟩ := wx.tup
      refine op_repT pins s σ H _ _ v u Q I rx ry ⟨a, _, xs, rfl, wy.int, .of ha, fun z => ?_, hz.2.1, hz.2.2.1, by rw [ra.length]; exact hz.2.2.2, fun p hp => q _ _ (same_upd hp) (Res.flat (Rp.newT tr hp (ra.rep _)) rfl)⟩
      subst z
      cases ra
      exact hz.1 rfl
    · cases e
  · cases e
theorem op_fdivD : OpR X (binaryOp .FloorDiv) (rD X.K .f oFdiv) := by
  intro pins s σ H x y v u Q I rx ry ⟨A, dx, dy, d, tr, wx, wy, e, q⟩
  unfold oFdiv at e
  split at e
  · split at e
    · rename_i hz
      cases e
      unfold divOk at hz
      rw [Bool.and_eq_true] at hz
      have h1 := of_decide_eq_true hz.1
      have h2 := of_decide_eq_true hz.2
      exact (opI (C := fun i j => j ≠ 0 ∧ j.natAbs.log2 < 9000) fun i j _ _ _ _ _ hc q => floordiv_int hc.1 q (.inl (PyProof.noPylong_of_log2 hc.2))) pins s σ H x y v u Q I rx ry ⟨_, _, wx.int, wy.int, ⟨h1, h2⟩, q _ H (Same.refl H) Res.int⟩
    · cases e
  · cases e
theorem op_modD : OpR X (binaryOp .Mod) (rD X.K .f oMod) := by
  intro pins s σ H x y v u Q I rx ry ⟨A, dx, dy, d, tr, wx, wy, e, q⟩
  unfold oMod at e
  split at e
  · split at e
    · rename_i hz
      cases e
      exact op_modN pins s σ H x y v u Q I rx ry ⟨_, _, wx.int, wy.int, hz, q _ H (Same.refl H) Res.int⟩
    · cases e
  · cases e
theorem op_powD : OpR X (binaryOp .Pow) (rD X.K .f oPow) := by
  intro pins s σ H x y v u Q I rx ry ⟨A, dx, dy, d, tr, wx, wy, e, q⟩
  unfold oPow at e
  split at e
  · split at e
    · rename_i hz
      cases e
      exact op_pow pins s σ H x y v u Q I rx ry ⟨_, _, wx.int, wy.int, hz, q _ H (Same.refl H) Res.int⟩
    · cases e
  · cases e
theorem op_shlD : OpR X (binaryOp .LShift) (rD X.K .f oShl) := by
  intro pins s σ H x y v u Q I rx ry ⟨A, dx, dy, d, tr, wx, wy, e, q⟩
  unfold oShl at e
  split at e
  · split at e
    · rename_i hz
      cases e
      exact op_shl pins s σ H x y v u Q I rx ry ⟨_, _, wx.int, wy.int, hz, q _ H (Same.refl H) Res.int⟩
    · cases e
  · cases e
theorem op_eqP (hr : Room k X.A) : OpR X (compareOp .Eq) (rD X.K .f oEq) := by
  intro pins s σ H x y v u Q I rx ry ⟨A, dx, dy, d, tr, wx, wy, e, q⟩
  unfold oEq at e
  split at e
  · rename_i hz
    cases e
    rw [Bool.and_eq_true] at hz
    exact op_eqD hr.units pins s σ H x y v u Q I rx ry ⟨dx, dy, wx.dp hz.1, wy.dp hz.2, hz.1, hz.2, q _ H (Same.refl H) Res.bl⟩
  · cases e
theorem op_neP (hr : Room k X.A) : OpR X (compareOp .NotEq) (rD X.K .f oNe) := by
  intro pins s σ H x y v u Q I rx ry ⟨A, dx, dy, d, tr, wx, wy, e, q⟩
  unfold oNe at e
  split at e
  · rename_i hz
    cases e
    rw [Bool.and_eq_true] at hz
    exact op_neD hr.units pins s σ H x y v u Q I rx ry ⟨dx, dy, wx.dp hz.1, wy.dp hz.2, hz.1, hz.2, q _ H (Same.refl H) Res.bl⟩
  · cases e
theorem op_ltD : OpR X (compareOp .Lt) (rD X.K .f oLt) := by
  intro pins s σ H x y v u Q I rx ry ⟨A, dx, dy, d, tr, wx, wy, e, q⟩
  unfold oLt at e
  split at e
  · cases e
    exact op_lt pins s σ H x y v u Q I rx ry ⟨_, _, wx.int, wy.int, q _ H (Same.refl H) Res.bl⟩
  · cases e
theorem op_leD : OpR X (compareOp .LtE) (rD X.K .f oLe) := by
  intro pins s σ H x y v u Q I rx ry ⟨A, dx, dy, d, tr, wx, wy, e, q⟩
  unfold oLe at e
  split at e
  · cases e
    exact op_le pins s σ H x y v u Q I rx ry ⟨_, _, wx.int, wy.int, q _ H (Same.refl H) Res.bl⟩
  · cases e
theorem op_gtD : OpR X (compareOp .Gt) (rD X.K .f oGt) := by
  intro pins s σ H x y v u Q I rx ry ⟨A, dx, dy, d, tr, wx, wy, e, q⟩
  unfold oGt at e
  split at e
  · cases e
    exact op_gt pins s σ H x y v u Q I rx ry ⟨_, _, wx.int, wy.int, q _ H (Same.refl H) Res.bl⟩
  · cases e
theorem op_geD : OpR X (compareOp .GtE) (rD X.K .f oGe) := by
  intro pins s σ H x y v u Q I rx ry ⟨A, dx, dy, d, tr, wx, wy, e, q⟩
  unfold oGe at e
  split at e
  · cases e
    exact op_ge pins s σ H x y v u Q I rx ry ⟨_, _, wx.int, wy.int, q _ H (Same.refl H) Res.bl⟩
  · cases e
theorem op_isD : OpR X (compareOp .Is) (rD X.K .f oIs) := by
  intro pins s σ H x y v u Q I rx ry ⟨A, dx, dy, d, tr, wx, wy, e, q⟩
  unfold oIs at e
  split at e
  · cases e
    exact op_isN pins s σ H x y v u Q I rx ry ⟨wy.non, by rw [wx.none_dec]; exact q _ H (Same.refl H) Res.bl⟩
  · cases e
theorem op_isNotD : OpR X (compareOp .IsNot) (rD X.K .f oIsNot) := by
  intro pins s σ H x y v u Q I rx ry ⟨A, dx, dy, d, tr, wx, wy, e, q⟩
  unfold oIsNot at e
  split at e
  · cases e
    exact op_notN pins s σ H x y v u Q I rx ry ⟨wy.non, by rw [wx.none_dec]; exact q _ H (Same.refl H) Res.bl⟩
  · cases e
theorem hu65 {A : Around} (hr : Room k A) : A.units + 65 < cLine := by have := hr.un; omega
theorem op_inP (hr : Room k X.A) : OpR X (compareOp .In) (rD X.K .f oIn) := by
  intro pins s σ H x y v u Q I rx ry ⟨A, dx, dy, d, tr, wx, wy, e, q⟩
  unfold oIn at e
  split at e
  · split at e
    · rename_i hz
      cases e
      rw [Bool.and_eq_true] at hz
      obtain ⟨as, r1⟩ := Dp.reads I _ x v (wx.dp hz.1) rx
      obtain ⟨bs, r2⟩ := Dp.reads I _ y u (wy.dpc (by simpa [PyData.canLay0] using hz.2)) ry
      exact SeqAt.in_list_reads r2 r1 hz.2 (SeqAt.canLay_of_shaped hz.1) (room_in_shaped hz.1 (hu65 hr)) ⟨.bl _, H, I, rfl, q _ H (Same.refl H) Res.bl⟩
    · cases e
  · split at e
    · rename_i hz
      cases e
      rw [Bool.and_eq_true] at hz
      obtain ⟨as, r1⟩ := Dp.reads I _ x v (wx.dp hz.1) rx
      obtain ⟨bs, r2⟩ := Dp.reads I _ y u (wy.dpc (by simpa [PyData.canLay0] using hz.2)) ry
      exact SeqAt.in_tuple_reads r2 r1 hz.2 (SeqAt.canLay_of_shaped hz.1) (room_in_shaped hz.1 (hu65 hr)) ⟨.bl _, H, I, rfl, q _ H (Same.refl H) Res.bl⟩
    · cases e
  · cases e
theorem op_notInP (hr : Room k X.A) : OpR X (compareOp .NotIn) (rD X.K .f oNotIn) := by
  intro pins s σ H x y v u Q I rx ry ⟨A, dx, dy, d, tr, wx, wy, e, q⟩
  unfold oNotIn at e
  split at e
  · split at e
    · rename_i hz
      cases e
      rw [Bool.and_eq_true] at hz
      obtain ⟨as, r1⟩ := Dp.reads I _ x v (wx.dp hz.1) rx
      obtain ⟨bs, r2⟩ := Dp.reads I _ y u (wy.dpc (by simpa [PyData.canLay0] using hz.2)) ry
      exact SeqAt.notIn_list_reads r2 r1 hz.2 (SeqAt.canLay_of_shaped hz.1) (room_in_shaped hz.1 (hu65 hr)) ⟨.bl _, H, I, rfl, q _ H (Same.refl H) Res.bl⟩
    · cases e
  · split at e
    · rename_i hz
      cases e
      rw [Bool.and_eq_true] at hz
      obtain ⟨as, r1⟩ := Dp.reads I _ x v (wx.dp hz.1) rx
      obtain ⟨bs, r2⟩ := Dp.reads I _ y u (wy.dpc (by simpa [PyData.canLay0] using hz.2)) ry
      exact SeqAt.notIn_tuple_reads r2 r1 hz.2 (SeqAt.canLay_of_shaped hz.1) (room_in_shaped hz.1 (hu65 hr)) ⟨.bl _, H, I, rfl, q _ H (Same.refl H) Res.bl⟩
    · cases e
  · cases e
theorem un_negD : UnR X (unaryOp .USub) (rD1 X.K .f oNeg) := by
  intro pins s σ H x v Q I rx ⟨A, dx, d, tr, wx, e, q⟩
  unfold oNeg at e
  split at e
  · cases e
    exact un_neg pins s σ H x v Q I rx ⟨_, wx.int, q _ H (Same.refl H) Res.int⟩
  · cases e
end
end Pm

namespace Pm
open PySem PySem.Spec PyProof.Rows L2

/-! ### argument lists -/
abbrev XL := PEnv → Option (List D)
def xNil : XL := fun _ => some []
def xCons (f : Xp) (fs : XL) : XL := fun ρ => (f ρ).bind fun x => (fs ρ).bind fun xs => some (x :: xs)
section
variable {X : Cx} {O : List Nat} {m ma mb : Md} {st : Bool} {a b c e : Expr} {es : List Expr} {fa fb fc f : Xp} {fs : XL} {pos : Pos}
theorem sa_nil : SA X O st [] xNil := by
  refine ⟨pa_imp pa_nil fun σ H Q h => ?_⟩
  obtain ⟨H0, A0, G, ρ, B, ds, S, e, k⟩ := h
  cases e
  refine k [] H (Same.refl H) ?_
  cases st <;> exact .nil
theorem ResL.monoR {K : PySem.W.Frag} {A : Addr → Prop} {H H' : Hp} {vs : List V} {ds : List D} (s : Same H H') (h : ResL K A H st vs ds) : ResL K A H' st vs ds := by
  cases st with
  | true => exact RpL.mono s h
  | false => exact Paired.mapP h fun _ _ r => WRp.mono s r
theorem sa_cons (ha : SE X O m e f) (hr : SA X O st es fs) (hm : (st = true → m ≠ .w) := by first | exact fun _ => Md.noConfusion | exact fun h => Bool.noConfusion h) (hs : starEach (e :: es) X.env = (false, eval e X.env) :: starEach es X.env := by rfl) : SA X O st (e :: es) (xCons f fs) := by
  refine ⟨pa_imp (pa_cons ha.pe hr.pa hs) fun σ H Q h => ?_⟩
  obtain ⟨H0, A0, G, ρ, B, ds, S, e, k⟩ := h
  obtain ⟨x, ex, e⟩ := bind2 e
  obtain ⟨xs, exs, e⟩ := bind2 e
  cases e
  refine ⟨H0, A0, G, ρ, B, x, S, ex, fun v H1 s1 r1 => ⟨H0, A0, G, ρ, B, xs, S.mono s1, exs, fun vs H2 s2 r2 => k _ H2 (s1.trans s2) ?_⟩⟩
  cases st with
  | true => exact .cons ((r1.toS S.tr (hm rfl)).mono s2) r2
  | false => exact .cons (r1.toW.mono s2) r2
/-- their number is the written one -/
theorem SE.toS (h : SE X O .f e f) : SE X O .s e f := ⟨pe_imp h.pe fun σ H Q ⟨H0, A0, G, ρ, B, d, S, e, k⟩ => ⟨H0, A0, G, ρ, B, d, S, e, fun v H' s r => k v H' s (r.toS S.tr (by decide))⟩⟩
theorem SE.toW (h : SE X O m e f) : SE X O .w e f := ⟨pe_imp h.pe fun σ H Q ⟨H0, A0, G, ρ, B, d, S, e, k⟩ => ⟨H0, A0, G, ρ, B, d, S, e, fun v H' s r => k v H' s r.toW⟩⟩

/-! ### displays -/
def xTup (fs : XL) : Xp := fun ρ => (fs ρ).bind fun ds => if ds.length ≤ 1000 then some (.tuple ds) else none
def xLst (fs : XL) : Xp := fun ρ => (fs ρ).bind fun ds => if ds.length ≤ 1000 then some (.list ds) else none
theorem line1000 {n : Nat} (h : n ≤ 1000) : n ≤ sizeLine := Nat.le_of_lt (small1000 h)
theorem se_tup {x1} (h : SA X O true es fs) : SE X O .f (.Tuple es x1 pos) (xTup fs) := by
  refine ⟨pe_imp (pe_tup h.pa) fun σ H Q q => ?_⟩
  obtain ⟨H0, A0, G, ρ, B, d, S, e, k⟩ := q
  obtain ⟨x, ex, e⟩ := bind2 e
  split at e
  · rename_i hz
    cases e
    refine ⟨H0, A0, G, ρ, B, x, S, ex, fun vs H1 s1 (r1 : RpL _ _ _ _ _) => ⟨by rw [r1.length]; exact line1000 hz, fun p hp => ?_⟩⟩
    exact k _ _ (s1.trans (same_upd hp)) (Res.flat (Rp.newT (S.mono s1).tr hp r1) rfl)
  · cases e
theorem se_lst (h : SA X O true es fs) : SE X O .f (.List es pos) (xLst fs) := by
  refine ⟨pe_imp (pe_lst h.pa) fun σ H Q q => ?_⟩
  obtain ⟨H0, A0, G, ρ, B, d, S, e, k⟩ := q
  obtain ⟨x, ex, e⟩ := bind2 e
  split at e
  · rename_i hz
    cases e
    refine ⟨H0, A0, G, ρ, B, x, S, ex, fun vs H1 s1 (r1 : RpL _ _ _ _ _) => ⟨by rw [r1.length]; exact line1000 hz, fun p hp => ?_⟩⟩
    exact k _ _ (s1.trans (same_upd hp)) (Res.newL (S.mono s1).tr hp r1 s1)
  · cases e

/-! ### and, or, if, not as values -/
def xAnd (fa fb : Xp) : Xp := fun ρ => (fa ρ).bind fun x => (dB x).bind fun b => if b then fb ρ else some (.bool false)
def xOr (fa fb : Xp) : Xp := fun ρ => (fa ρ).bind fun x => (dB x).bind fun b => if b then some (.bool true) else fb ρ
def xIf (c : PEnv → Option Bool) (fa fb : Xp) : Xp := fun ρ => (c ρ).bind fun b => if b then fa ρ else fb ρ
theorem se_bone {op} (h : SE X O m a f) : SE X O m (.BoolOp op [a] pos) f := ⟨pe_one h.pe⟩
theorem se_and (ha : SE X O ma a fa) (hb : SE X O m (.BoolOp .And (b :: es) pos) fb) : SE X O m (.BoolOp .And (a :: b :: es) pos) (xAnd fa fb) := by
  refine ⟨pe_imp (pe_and ha.pe hb.pe) fun σ H Q q => ?_⟩
  obtain ⟨H0, A0, G, ρ, B, d, S, e, k⟩ := q
  obtain ⟨x, ex, e⟩ := bind2 e
  obtain ⟨c, ec, e⟩ := bind2 e
  have := dB_some ec
  subst this
  refine ⟨H0, A0, G, ρ, B, _, S, ex, fun v H1 s1 r1 => ⟨c, r1.toW.bl, ?_⟩⟩
  cases c with
  | true => exact ⟨H0, A0, G, ρ, B, d, S.mono s1, e, fun v H' s r => k v H' (s1.trans s) (r.back s1)⟩
  | false => cases e; exact k _ H1 s1 Res.bl
theorem se_or (ha : SE X O ma a fa) (hb : SE X O m (.BoolOp .Or (b :: es) pos) fb) : SE X O m (.BoolOp .Or (a :: b :: es) pos) (xOr fa fb) := by
  refine ⟨pe_imp (pe_or ha.pe hb.pe) fun σ H Q q => ?_⟩
  obtain ⟨H0, A0, G, ρ, B, d, S, e, k⟩ := q
  obtain ⟨x, ex, e⟩ := bind2 e
  obtain ⟨c, ec, e⟩ := bind2 e
  have := dB_some ec
  subst this
  refine ⟨H0, A0, G, ρ, B, _, S, ex, fun v H1 s1 r1 => ⟨c, r1.toW.bl, ?_⟩⟩
  cases c with
  | false => exact ⟨H0, A0, G, ρ, B, d, S.mono s1, e, fun v H' s r => k v H' (s1.trans s) (r.back s1)⟩
  | true => cases e; exact k _ H1 s1 Res.bl
theorem se_if {tc : PEnv → Option Bool} (hc : ST X O c tc) (ha : SE X O m a fa) (hb : SE X O m b fb) : SE X O m (.IfExp c a b pos) (xIf tc fa fb) := by
  refine ⟨pe_imp (pe_ifExp hc.pt ha.pe hb.pe) fun σ H Q q => ?_⟩
  obtain ⟨H0, A0, G, ρ, B, d, S, e, k⟩ := q
  obtain ⟨x, ex, e⟩ := bind2 e
  refine ⟨H0, A0, G, ρ, B, x, S, ex, fun H1 s1 => ?_⟩
  cases x with
  | true => exact ⟨H0, A0, G, ρ, B, d, S.mono s1, e, fun v H' s r => k v H' (s1.trans s) (r.back s1)⟩
  | false => exact ⟨H0, A0, G, ρ, B, d, S.mono s1, e, fun v H' s r => k v H' (s1.trans s) (r.back s1)⟩
theorem se_not (h : SE X O ma a fa) : SE X O m (.UnaryOp .Not a pos) (xUn oNot fa) := by
  refine ⟨pe_imp (pe_notT h.pe) fun σ H Q q => ?_⟩
  obtain ⟨H0, A0, G, ρ, B, d, S, e, k⟩ := q
  obtain ⟨x, ex, e⟩ := bind2 e
  obtain ⟨c, ec, e⟩ := Option.map_eq_some_iff.mp e
  subst e
  exact ⟨H0, A0, G, ρ, B, x, S, ex, fun v H1 s1 r1 => ⟨c, tru_of r1.toW ec, k _ H1 s1 Res.bl⟩⟩
/-- a op b op c -/
def xChain (g g' : D → D → Option D) (fa fb fc : Xp) : Xp := fun ρ => (fa ρ).bind fun x => (fb ρ).bind fun y => (g x y).bind fun z => (dB z).bind fun k => if k then (fc ρ).bind fun w => g' y w else some (.bool false)
variable {mc : Md}
theorem tChain_of {op op' : CmpOp} {g g' : D → D → Option D} (σ : L2.St) (H : Hp) (Q : VK) (h : simT X.K O .f (xChain g g' fa fb fc) σ H Q) :
    tChain (rD X.K .f g) (rD X.K .f g') (simT X.K O ma fa) (simT X.K O mb fb) (simT X.K O mc fc) σ H Q := by
  obtain ⟨H0, A0, G, ρ, B, d, S, e, k⟩ := h
  obtain ⟨x, ex, e⟩ := bind2 e
  obtain ⟨y, ey, e⟩ := bind2 e
  obtain ⟨z, ez, e⟩ := bind2 e
  obtain ⟨c, ec, e⟩ := bind2 e
  have := dB_some ec
  subst this
  refine ⟨H0, A0, G, ρ, B, x, S, ex, fun v H1 s1 r1 => ⟨H0, A0, G, ρ, B, y, S.mono s1, ey, fun u H2 s2 r2 => ⟨Av A0 B, x, y, _, (S.mono (s1.trans s2)).tr, r1.toW.mono s2, r2.toW, ez, fun z H3 s3 r3 => ⟨c, r3.toW.bl, ?_⟩⟩⟩⟩
  have s13 := (s1.trans s2).trans s3
  cases c with
  | false => cases e; exact k _ H3 s13 Res.bl
  | true =>
    replace e : ((fc ρ).bind fun w => g' y w) = some d := e
    obtain ⟨w, ew, e⟩ := bind2 e
    exact ⟨H0, A0, G, ρ, B, w, S.mono s13, ew, fun v' H4 s4 r4 => ⟨Av A0 B, y, w, d, (S.mono (s13.trans s4)).tr, r2.toW.mono (s3.trans s4), r4.toW, e, fun z H5 s5 r5 => k z H5 ((s13.trans s4).trans s5) (r5.back (s13.trans s4))⟩⟩
theorem se_chain {op op' : CmpOp} {g g' : D → D → Option D} (ho : OpR X (compareOp op) (rD X.K .f g)) (ho' : OpR X (compareOp op') (rD X.K .f g')) (ha : SE X O ma a fa) (hb : SE X O mb b fb) (hc : SE X O mc c fc)
    (hm : lastMarks [op, op'] [b, c] = false := by with_unfolding_all rfl) : SE X O .f (.Compare a [op, op'] [b, c] pos) (xChain g g' fa fb fc) :=
  ⟨pe_imp (pe_chain ho ho' ha.pe hb.pe hc.pe hm) (tChain_of (op := op) (op' := op'))⟩
theorem st_chain {op op' : CmpOp} {g g' : D → D → Option D} (ho : OpR X (compareOp op) (rD X.K .f g)) (ho' : OpR X (compareOp op') (rD X.K .f g')) (ha : SE X O ma a fa) (hb : SE X O mb b fb) (hc : SE X O mc c fc)
    (hm : lastMarks [op, op'] [b, c] = false := by with_unfolding_all rfl) : ST X O (.Compare a [op, op'] [b, c] pos) (tOf (xChain g g' fa fb fc)) := by
  refine ⟨pt_imp (pt_chain ho ho' ha.pe hb.pe hc.pe hm) fun σ H Q h => ?_⟩
  obtain ⟨H0, A0, G, ρ, B, b, S, e, k⟩ := h
  obtain ⟨d, ed, e⟩ := bind2 e
  have := dB_some e
  subst this
  exact tChain_of (op := op) (op' := op') σ H _ ⟨H0, A0, G, ρ, B, _, S, ed, fun v H' s r => ⟨b, r.toW.bl, k H' s⟩⟩

/-! ### subscripts -/
theorem ix_D : IxR X (rD X.K .s oIx) := by
  intro value slice pins s σ H x y v u Q I rx ry ⟨A, dx, dy, d, tr, wx, wy, e, q⟩ hs
  unfold oIx at e
  split at e
  · obtain ⟨p, xs, rfl, hp, r⟩ := wx.lst
    obtain ⟨z, ez, rz⟩ := r.atI e
    exact ix_list value slice pins s σ H _ y v u Q I rx ry ⟨p, xs, _, z, rfl, wy.int, .of hp, ez, q z H (Same.refl H) rz⟩ hs
  · obtain ⟨p, xs, rfl, hp, n, r⟩ := wx.tup
    obtain ⟨z, ez, rz⟩ := r.atI e
    exact ix_tup value slice pins s σ H _ y v u Q I rx ry ⟨p, xs, _, z, rfl, wy.int, .of hp, ez, q z H (Same.refl H) rz⟩ hs
  · obtain ⟨p, xs, rfl, hp, r⟩ := wx.scr
    obtain ⟨z, ez, rz⟩ := r.atI e
    exact ix_list value slice pins s σ H _ y v u Q I rx ry ⟨p, xs, _, z, rfl, wy.int, hp, ez, q z H (Same.refl H) rz⟩ hs
  · cases e
theorem se_ix (ha : SE X O ma a fa) (hb : SE X O mb b fb) (hs : PlainIx b := by exact fun _ _ => rfl) : SE X O .s (.Subscript a b pos) (xBin oIx fa fb) := ⟨pe_imp (pe_ix ix_D ha.pe hb.pe hs) tOp_of⟩
/-- slices -/
def cutD (xs : List D) (lo hi : Option Int) : List D := (xs.drop (HT.sIx xs.length 0 lo)).take (HT.sIx xs.length xs.length hi - HT.sIx xs.length 0 lo)
theorem RpL.cut {K : PySem.W.Frag} {A : Addr → Prop} {H : Hp} {vs : List V} {ds : List D} (r : RpL K A H vs ds) (lo hi : Option Int) : RpL K A H (cutV vs lo hi) (cutD ds lo hi) := by
  unfold cutV cutD
  rw [r.length]
  exact (r.drop _).take _
abbrev XO := PEnv → Option (Option Int)
def simO (K : PySem.W.Frag) (O : List Nat) (f : XO) : TO := fun σ H Q => ∃ H0 A0 G ρ B i, Sim K H0 A0 G O σ H ρ B ∧ f ρ = some i ∧ ∀ H', Same H H' → Q i H'
structure SO (X : Cx) (O : List Nat) (e : Option Expr) (f : XO) : Prop where
  po : PO X e (simO X.K O f)
def oNo : XO := fun _ => some none
def oAt (f : Xp) : XO := fun ρ => (f ρ).bind fun d => match d with | .int i => some (some i) | _ => none
theorem po_imp {e : Option Expr} {t t' : TO} (h : PO X e t) (hi : ∀ σ H Q, t' σ H Q → t σ H Q) : PO X e t' := ⟨fun pins s σ H Q I q => h.run pins s σ H Q I (hi _ _ _ q)⟩
theorem so_none : SO X O none oNo := ⟨po_imp po_none fun σ H Q ⟨H0, A0, G, ρ, B, i, S, e, k⟩ => by cases e; exact k H (Same.refl H)⟩
theorem so_some (h : SE X O m e f) : SO X O (some e) (oAt f) := by
  refine ⟨po_imp (po_some h.pe) fun σ H Q ⟨H0, A0, G, ρ, B, i, S, e, k⟩ => ?_⟩
  obtain ⟨x, ex, e⟩ := bind2 e
  split at e
  · cases e
    exact ⟨H0, A0, G, ρ, B, _, S, ex, fun v H1 s1 r1 => ⟨_, r1.toW.int, k H1 s1⟩⟩
  · cases e
def oSl : D → Option Int → Option Int → Option D
  | .list xs, lo, hi => some (.list (cutD xs lo hi))
  | .tuple xs, lo, hi => some (.tuple (cutD xs lo hi))
  | _, _, _ => none
def xSl (f : Xp) (lo hi : XO) : Xp := fun ρ => (f ρ).bind fun x => (lo ρ).bind fun i => (hi ρ).bind fun j => oSl x i j
theorem se_sl {lo hi : Option Expr} {flo fhi : XO} {p2 : Pos} (he : SE X O m e f) (hl : SO X O lo flo) (hh : SO X O hi fhi) : SE X O .f (.Subscript e (.Slice lo hi none p2) pos) (xSl f flo fhi) := by
  refine ⟨pe_imp (pe_slice (SlR.or sl_list sl_tupA) he.pe hl.po hh.po) fun σ H Q q => ?_⟩
  obtain ⟨H0, A0, G, ρ, B, d, S, e, k⟩ := q
  obtain ⟨x, ex, e⟩ := bind2 e
  obtain ⟨i, ei, e⟩ := bind2 e
  obtain ⟨j, ej, e⟩ := bind2 e
  refine ⟨H0, A0, G, ρ, B, x, S, ex, fun v H1 s1 r1 => ⟨H0, A0, G, ρ, B, i, S.mono s1, ei, fun H2 s2 => ⟨H0, A0, G, ρ, B, j, S.mono (s1.trans s2), ej, fun H3 s3 => ?_⟩⟩⟩
  have s13 := (s1.trans s2).trans s3
  have w := r1.toW.mono (s2.trans s3)
  unfold oSl at e
  split at e
  · cases e
    obtain ⟨p, xs, rfl, hp, r⟩ := w.lst
    exact .inl ⟨p, xs, rfl, .of hp, fun p hp => k _ _ (s13.trans (same_upd hp)) (Res.newL (S.mono s13).tr hp (r.cut _ _) s13)⟩
  · cases e
    obtain ⟨p, xs, rfl, hp, n, r⟩ := w.tup
    refine .inr ⟨p, xs, rfl, .of hp, fun z => ?_, fun z p hp => k _ _ (s13.trans (same_upd hp)) (Res.flat (Rp.newT (S.mono s13).tr hp (r.cut _ _)) rfl)⟩
    refine k _ _ s13 (Res.flat (.tup hp n ?_) rfl)
    have c := r.cut i j
    have hx : cutV xs i j = xs := by
      unfold cutV
      rw [z.1, z.2]
      simp
    rw [hx] at c
    exact c
  · cases e

/-! ### calls of built-ins by values -/
def rC (K : PySem.W.Frag) (m : Md) (g : List D → Option D) : List V → Hp → VK → Prop := fun vs H Q => ∃ A ds d, Tr A H ∧ Paired (WRp K A H) vs ds ∧ g ds = some d ∧ ∀ v H', Same H H' → Res K A H H' m v d → Q v H'
def xCall (g : List D → Option D) (fs : XL) : Xp := fun ρ => (fs ρ).bind g
theorem RpL.weak {K : PySem.W.Frag} {A : Addr → Prop} {H : Hp} {vs : List V} {ds : List D} (r : RpL K A H vs ds) : Paired (WRp K A H) vs ds := by
  induction ds generalizing vs with
  | nil => cases r; exact .nil
  | cons d ds ih => cases r with | cons h r => exact .cons (.inl h) (ih r)
theorem ResL.weak {K : PySem.W.Frag} {A : Addr → Prop} {H : Hp} {vs : List V} {ds : List D} (r : ResL K A H st vs ds) : Paired (WRp K A H) vs ds := by
  cases st with
  | true => exact RpL.weak r
  | false => exact r
theorem tCB_of {g : List D → Option D} (σ : L2.St) (H : Hp) (Q : VK) (q : simT X.K O m (xCall g fs) σ H Q) : tCB (rC X.K m g) (simA X.K O st fs) σ H Q := by
  obtain ⟨H0, A0, G, ρ, B, d, S, e, k⟩ := q
  obtain ⟨x, ex, e⟩ := bind2 e
  exact ⟨H0, A0, G, ρ, B, x, S, ex, fun vs H1 s1 r1 => ⟨Av A0 B, x, d, (S.mono s1).tr, r1.weak, e, fun v H' s r => k v H' (s1.trans s) (r.back s1)⟩⟩
theorem se_callB {x : Str} {p : Pos} {id : String} {g : List D → Option D} (hc : CallR X (.builtin id) (rC X.K m g)) (hm : X.mg x = none) (ha : SA X O st (e :: es) fs) (hg : Gl X x := by rfl) (hv : bootBuiltins x = some (.builtin id) := by rfl) (hn : x ≠ "__name__" := by decide) (hdb : (x == ("__debug__" : Str)) = false := by decide)
    (he : starEach (e :: es) X.env = (false, eval e X.env) :: starEach es X.env := by rfl) (hpl : (backTo pos (starEach es X.env)).any (·.1) = false := by rfl) : SE X O m (.Call (.Name x p) (e :: es) [] pos) (xCall g fs) :=
  ⟨pe_imp (pe_callB hc hg hm hv ha.pa hn hdb he hpl) tCB_of⟩
theorem se_callT {x : Str} {p : Pos} {id : String} {g : List D → Option D} (hc : CallR X (.type id) (rC X.K m g)) (hm : X.mg x = none) (ha : SA X O st (e :: es) fs) (hg : Gl X x := by rfl) (hv : bootBuiltins x = some (.type id) := by rfl) (hn : x ≠ "__name__" := by decide) (hdb : (x == ("__debug__" : Str)) = false := by decide)
    (he : starEach (e :: es) X.env = (false, eval e X.env) :: starEach es X.env := by rfl) (hpl : (backTo pos (starEach es X.env)).any (·.1) = false := by rfl) : SE X O m (.Call (.Name x p) (e :: es) [] pos) (xCall g fs) :=
  ⟨pe_imp (pe_callTy hc hg hm hv ha.pa hn hdb he hpl) tCB_of⟩

/-! ### calls of defs -/
mutual
def flat : D → Bool
  | .list _ => false
  | .dict _ => false
  | .tuple xs => flatL xs
  | .none => true
  | .bool _ => true
  | .int _ => true
  | .str _ => true
def flatL : List D → Bool
  | [] => true
  | x :: xs => flat x && flatL xs
end
mutual
theorem Rp.flatA {K : PySem.W.Frag} {A A' : Addr → Prop} {H : Hp} (t : Tr A' H) : ∀ {v : V} {d : D}, Rp K A H v d → flat d = true → Rp K A' H v d
  | _, _, .non, _ => .non
  | _, _, .bl b, _ => .bl b
  | _, _, .int i, _ => .int i
  | _, _, .str x, _ => .str x
  | _, _, .lst h n r, c => by simp [flat] at c
  | _, _, .tup h n r, c => .tup h (fun z => by
      obtain ⟨o, e, nt⟩ := t _ z
      rw [h] at e
      cases e
      exact nt _ rfl) (RpL.flatA t r (by simpa [flat] using c))
  | _, _, .scr h n r, c => by simp [flat] at c
  | _, _, .kl h r, c => by simp [flat] at c
  | _, _, .dic h n r e, c => by simp [flat] at c
theorem RpL.flatA {K : PySem.W.Frag} {A A' : Addr → Prop} {H : Hp} (t : Tr A' H) : ∀ {vs : List V} {ds : List D}, RpL K A H vs ds → flatL ds = true → RpL K A' H vs ds
  | _, _, .nil, _ => .nil
  | _, _, .cons h r, c => by
    simp only [flatL, Bool.and_eq_true] at c
    exact .cons (Rp.flatA t h c.1) (RpL.flatA t r c.2)
end
theorem flat_mut {d : D} (h : flat d = true) : isMut d = false := by
  cases d <;> simp_all [flat, isMut]
def spD (K : PySem.W.Frag) (n : Nat) (F : List D → Option D) : Sp := fun vs H Q _ => ∃ A ds d, Tr A H ∧ vs.length = n ∧ RpL K A H vs ds ∧ F ds = some d ∧ ∀ v H', Same H H' → Rp K A H' v d → Q v H'
/-- a def of the text, with its function -/
structure Def (P : Program) (w : World) (K : PySem.W.Frag) (mg : Str → Option Value) (base : Heap) (k : Nat) (x : Str) (ps : List Str) (F : List D → Option D) : Prop where
  ex : ∃ f fd, FnOk P w K mg base CX0 k f fd ps (spD K ps.length F) ∧ mg x = some (.ref f) ∧ PySem.W.keepIn K (.ref f) = true ∧ Binds K fd ps []
theorem Def.mono {P : Program} {w : World} {K : PySem.W.Frag} {mg : Str → Option Value} {base : Heap} {k k' : Nat} {x : Str} {ps : List Str} {F : List D → Option D} (h : Def P w K mg base k x ps F) (hk : k ≤ k') : Def P w K mg base k' x ps F :=
  let ⟨f, fd, h1, h2⟩ := h.ex; ⟨f, fd, h1.mono hk, h2⟩
variable {k j : Nat} {x : Str} {ps : List Str} {F : List D → Option D} {p : Pos}
theorem se_call (hd : Def X.prog X.w X.K X.mg X.base k x ps F) (hr : Room j X.A) (ha : SA X O true (e :: es) fs) (hk : k ≤ j := by decide) (hl : (e :: es).length = ps.length := by rfl) (hg : Gl X x := by rfl) (hdb : (x == ("__debug__" : Str)) = false := by decide)
    (he : starEach (e :: es) X.env = (false, eval e X.env) :: starEach es X.env := by rfl) (hpl : (backTo pos (starEach es X.env)).any (·.1) = false := by rfl) : SE X O .s (.Call (.Name x p) (e :: es) [] pos) (xCall (fun ds => if ds.length = ps.length then F ds else none) fs) := by
  obtain ⟨f, fd, hF, hm, kp, hb⟩ := hd.ex
  refine ⟨pe_imp (pe_call hF (hr.mono hk) hg hm kp hb .nil pass0 ha.pa hdb he hpl) fun σ H Q q => ?_⟩
  obtain ⟨H0, A0, G, ρ, B, d, S, e, k⟩ := q
  obtain ⟨ds, ex, e⟩ := bind2 e
  split at e
  · rename_i hz
    refine ⟨H0, A0, G, ρ, B, ds, S, ex, fun vs H1 s1 (r1 : RpL _ _ _ _ _) => ⟨Av A0 B, ds, d, (S.mono s1).tr, ?_, ?_, e, fun v H' s r => k v H' (s1.trans s) r⟩⟩
    · rw [List.append_nil, r1.length, hz]
    · rw [List.append_nil]; exact r1
  · cases e
theorem WRp.rp0 {K : PySem.W.Frag} {A : Addr → Prop} {H : Hp} {v : V} {d : D} (h : WRp K A H v d) : Rp K (fun _ => False) H v d := by
  rcases h with h | ⟨a, e, h⟩
  · exact h.anti fun _ z => z.elim
  · subst e
    exact (h.step (fun _ _ q _ => q) (fun _ z => z.elim) fun _ q => q : Tp K (fun _ => False) H a d).rp fun z => z
theorem weak_rp0 {K : PySem.W.Frag} {A : Addr → Prop} {H : Hp} : ∀ {vs : List V} {ds : List D}, Paired (WRp K A H) vs ds → RpL K (fun _ => False) H vs ds
  | _, _, .nil => .nil
  | _, _, .cons h r => .cons h.rp0 (weak_rp0 r)
/-- a call to which one's own lists go: what comes back holds no list -/
theorem se_callW (hd : Def X.prog X.w X.K X.mg X.base k x ps F) (hr : Room j X.A) (ha : SA X O false (e :: es) fs) (hk : k ≤ j := by decide) (hg : Gl X x := by rfl) (hdb : (x == ("__debug__" : Str)) = false := by decide)
    (he : starEach (e :: es) X.env = (false, eval e X.env) :: starEach es X.env := by rfl) (hpl : (backTo pos (starEach es X.env)).any (·.1) = false := by rfl) : SE X O .f (.Call (.Name x p) (e :: es) [] pos) (xCall (fun ds => if ds.length = ps.length then (F ds).bind fun d => if flat d then some d else none else none) fs) := by
  obtain ⟨f, fd, hF, hm, kp, hb⟩ := hd.ex
  refine ⟨pe_imp (pe_call hF (hr.mono hk) hg hm kp hb .nil pass0 ha.pa hdb he hpl) fun σ H Q q => ?_⟩
  obtain ⟨H0, A0, G, ρ, B, d, S, e, k⟩ := q
  obtain ⟨ds, ex, e⟩ := bind2 e
  split at e
  · rename_i hz
    obtain ⟨d', e', e⟩ := bind2 e
    split at e
    · rename_i hf
      cases e
      refine ⟨H0, A0, G, ρ, B, ds, S, ex, fun vs H1 s1 r1 => ⟨fun _ => False, ds, d, fun _ z => z.elim, ?_, ?_, e', fun v H' s r => k v H' (s1.trans s) (Res.flat (r.flatA (S.mono (s1.trans s)).tr hf) (flat_mut hf))⟩⟩
      · rw [List.append_nil, (weak_rp0 r1).length, hz]
      · rw [List.append_nil]; exact weak_rp0 r1
    · cases e
  · cases e
end
end Pm

namespace Pm
open PySem PySem.Spec PyProof.Rows L2

/-! ### what the built-ins do -/
def seqD : D → Option (List D)
  | .list xs => some xs
  | .tuple xs => some xs
  | _ => none
def asInts : List D → Option (List Int)
  | [] => some []
  | .int i :: r => (asInts r).map (i :: ·)
  | _ => none
def asBools : List D → Option (List Bool)
  | [] => some []
  | .bool i :: r => (asBools r).map (i :: ·)
  | _ => none
def bLen : List D → Option D
  | [.list xs] => some (.int xs.length)
  | [.tuple xs] => some (.int xs.length)
  | [.dict [(.none, .list xs)]] => some (.int xs.length)
  | _ => none
def bAbs : List D → Option D
  | [.int i] => some (.int (if i < 0 then -i else i))
  | _ => none
def bInt : List D → Option D
  | [.int i] => some (.int i)
  | [.bool b] => some (.int (if b then 1 else 0))
  | _ => none
def bMax2 : List D → Option D
  | [.int i, .int j] => some (.int (if j > i then j else i))
  | _ => none
def bMin2 : List D → Option D
  | [.int i, .int j] => some (.int (if j < i then j else i))
  | _ => none
def bSum : List D → Option D
  | [x] => (seqD x).bind fun xs => (asInts xs).map fun ns => .int ns.sum
  | _ => none
def bAll : List D → Option D
  | [x] => (seqD x).bind fun xs => (asBools xs).map fun ns => .bool (ns.all id)
  | _ => none
def bAny : List D → Option D
  | [x] => (seqD x).bind fun xs => (asBools xs).map fun ns => .bool (ns.any id)
  | _ => none
def bTuple : List D → Option D
  | [x] => (seqD x).map .tuple
  | _ => none
def bList : List D → Option D
  | [x] => (seqD x).map .list
  | _ => none

section
variable {K : PySem.W.Frag} {A : Addr → Prop} {H H' : Hp} {v : V} {d : D} {vs : List V} {ds : List D}
theorem p1 {F : V → D → Prop} {x : D} (h : Paired F vs [x]) : ∃ v, vs = [v] ∧ F v x := by
  cases h with
  | cons a r => cases r; exact ⟨_, rfl, a⟩
theorem p2 {F : V → D → Prop} {x y : D} (h : Paired F vs [x, y]) : ∃ v u, vs = [v, u] ∧ F v x ∧ F u y := by
  cases h with
  | cons a r =>
    cases r with
    | cons b r => cases r; exact ⟨_, _, rfl, a, b⟩
theorem WRp.seq {xs : List D} (h : WRp K A H v d) (e : seqD d = some xs) : ∃ a vs, v = .ref a ∧ (H a = some (.lst vs) ∨ H a = some (.tup vs)) ∧ RpL K A H vs xs := by
  unfold seqD at e
  split at e
  · cases e
    obtain ⟨a, vs, e1, e2, e3⟩ := h.lst
    exact ⟨a, vs, e1, .inl e2, e3⟩
  · cases e
    obtain ⟨a, vs, e1, e2, _, e3⟩ := h.tup
    exact ⟨a, vs, e1, .inr e2, e3⟩
  · cases e
theorem RpL.ints : ∀ {vs : List V} {ds : List D} {ns : List Int}, RpL K A H vs ds → asInts ds = some ns → vs = ns.map V.int
  | _, _, _, .nil, e => by cases e; rfl
  | _, _, ns, .cons h r, e => by
    cases h with
    | int i =>
      simp only [asInts] at e
      obtain ⟨ms, e1, e2⟩ := Option.map_eq_some_iff.mp e
      subst e2
      rw [RpL.ints r e1]
      rfl
    | _ => simp [asInts] at e
theorem RpL.bools : ∀ {vs : List V} {ds : List D} {ns : List Bool}, RpL K A H vs ds → asBools ds = some ns → vs = ns.map V.bl
  | _, _, _, .nil, e => by cases e; rfl
  | _, _, ns, .cons h r, e => by
    cases h with
    | bl i =>
      simp only [asBools] at e
      obtain ⟨ms, e1, e2⟩ := Option.map_eq_some_iff.mp e
      subst e2
      rw [RpL.bools r e1]
      rfl
    | _ => simp [asBools] at e
end

/-! ### a list or a tuple, walked -/
section
variable {X : Cx} {pins : List (Addr × Obj)} {σ : L2.St} {H : Hp} {s : Shared}
/-- the iterator of a list or a tuple -/
theorem sq_iter {A : Around} {E : Value → Shared → Prop} {a : Addr} {xs : List V} {Q : Value → Shared → Prop} (hh : A.handled = none) (I : Inv X pins σ H s) (h : H a = some (.lst xs) ∨ H a = some (.tup xs))
    (k : ∀ (its : List Value) (J : Addr) (fp wr : List Addr) (St : Nat → Heap → Prop) (h₂ : Heap), Vals xs its → Walks X.prog X.w A J fp wr its.length (fun i v => its[i]? = some v) St → St 0 h₂ → (∀ b ∈ fp, b < h₂.objs.size) →
      (∀ h' : Heap, (∀ b o, b ∉ wr → h₂.get? b = some o → h'.get? b = some o) → ∀ b o, s.heap.get? b = some o → h'.get? b = some o) → Q (.ref J) { s with heap := h₂ }) :
    wpAny (model X.prog X.w) A (pyIter (.ref a)) Q E s := by
  have fin : ∀ (o : Obj) (h' : Heap), (∀ b q, b ∉ [s.heap.objs.size] → (s.heap.push o).get? b = some q → h'.get? b = some q) → ∀ b q, s.heap.get? b = some q → h'.get? b = some q := fun o h' hk b q e =>
    hk b q (fun z => by
      have z' : b = s.heap.objs.size := by simpa using z
      exact absurd (z' ▸ Heap.lt_size e) (Nat.lt_irrefl _)) (Heap.get?_push_of_some _ e)
  have small : ∀ (o : Obj) (l : Addr), l < s.heap.objs.size → ∀ b ∈ [s.heap.objs.size, l], b < (s.heap.push o).objs.size := fun o l hl b hb => by
    rw [Heap.size_push]
    have z : b = s.heap.objs.size ∨ b = l := by simpa using hb
    rcases z with z | z
    · rw [z]; exact Nat.lt_succ_self _
    · rw [z]; exact Nat.lt_succ_of_lt hl
  rcases h with h | h
  · obtain ⟨its, rv, p, hz⟩ := I.list (.of h)
    have hlt : a < s.heap.objs.size := p.lt
    refine wpAny_pyIter_list p.isList ?_
    have W := Walks.list (prog := X.prog) (w := X.w) hh s.heap.objs.size a (Nat.ne_of_lt hlt) its.toArray
    refine k its _ [s.heap.objs.size, a] [s.heap.objs.size] (fun i h => h.IsListIter s.heap.objs.size a i ∧ h.IsList a its.toArray) _ rv (by simpa using W) ⟨⟨_, Heap.get?_push_size _ rfl, rfl, rfl⟩, p.isList.push _⟩ (small _ _ hlt) (fin _)
  · obtain ⟨its, rv, p, hz⟩ := I.tuple (.of h)
    have hlt : a < s.heap.objs.size := p.lt
    refine wpAny_pyIter_tuple (show s.heap.IsTuple a its.toArray from p) ?_
    have W := Walks.tuple (prog := X.prog) (w := X.w) hh s.heap.objs.size a (Nat.ne_of_lt hlt) its.toArray
    obtain ⟨o, ho, r⟩ := id p
    refine k its _ [s.heap.objs.size, a] [s.heap.objs.size] (fun i h => h.IsTupleIter s.heap.objs.size a i ∧ h.IsTuple a its.toArray) _ rv (by simpa using W) ⟨⟨_, Heap.get?_push_size _ rfl, rfl, rfl⟩, ⟨o, Heap.get?_push_of_some _ ho, r⟩⟩ (small _ _ hlt) (fin _)
end

section
variable {X : Cx} {k : Nat}
theorem ref1 {a : Addr} {us : List Value} (r : Vals [V.ref a] us) : us = [Value.ref a] := Vals.ref1 r
theorem cb_len : CallR X (.builtin "len") (rC X.K .f bLen) := by
  intro pins s σ H vs us Q I r ⟨A, ds, d, tr, w, e, q⟩
  unfold bLen at e
  split at e
  · cases e
    obtain ⟨v, rfl, w1⟩ := p1 w
    obtain ⟨a, xs, rfl, ha, ra⟩ := w1.lst
    exact call_len_seq pins s σ H _ us Q I r ⟨a, xs, rfl, .inl (.of ha), by rw [ra.length]; exact q _ H (Same.refl H) Res.int⟩
  · cases e
    obtain ⟨v, rfl, w1⟩ := p1 w
    obtain ⟨a, xs, rfl, ha, _, ra⟩ := w1.tup
    exact call_len_seq pins s σ H _ us Q I r ⟨a, xs, rfl, .inr (.of ha), by rw [ra.length]; exact q _ H (Same.refl H) Res.int⟩
  · cases e
    obtain ⟨v, rfl, w1⟩ := p1 w
    obtain ⟨a, xs, rfl, ha, ra⟩ := w1.scr
    exact call_len_seq pins s σ H _ us Q I r ⟨a, xs, rfl, .inl ha, by rw [ra.length]; exact q _ H (Same.refl H) Res.int⟩
  · cases e
theorem cb_abs : CallR X (.builtin "abs") (rC X.K .f bAbs) := by
  intro pins s σ H vs us Q I r ⟨A, ds, d, tr, w, e, q⟩
  unfold bAbs at e
  split at e
  · cases e
    obtain ⟨v, rfl, w1⟩ := p1 w
    exact call_abs pins s σ H _ us Q I r ⟨_, by rw [w1.int], q _ H (Same.refl H) Res.int⟩
  · cases e
theorem cb_int : CallR X (.type "int") (rC X.K .f bInt) := by
  intro pins s σ H vs us Q I r ⟨A, ds, d, tr, w, e, q⟩
  unfold bInt at e
  split at e
  · cases e
    obtain ⟨v, rfl, w1⟩ := p1 w
    exact call_int1 pins s σ H _ us Q I r (.inl ⟨_, by rw [w1.int], q _ H (Same.refl H) Res.int⟩)
  · cases e
    obtain ⟨v, rfl, w1⟩ := p1 w
    exact call_int1 pins s σ H _ us Q I r (.inr ⟨_, by rw [w1.bl], q _ H (Same.refl H) Res.int⟩)
  · cases e
theorem cb_max2 (hc : X.calm = true := by rfl) : CallR X (.builtin "max") (rC X.K .f bMax2) := by
  intro pins s σ H vs us Q I r ⟨A, ds, d, tr, w, e, q⟩
  unfold bMax2 at e
  split at e
  · cases e
    obtain ⟨v, u, rfl, w1, w2⟩ := p2 w
    exact call_max2 hc pins s σ H _ us Q I r ⟨_, _, by rw [w1.int, w2.int], q _ H (Same.refl H) Res.int⟩
  · cases e
theorem cb_min2 (hc : X.calm = true := by rfl) : CallR X (.builtin "min") (rC X.K .f bMin2) := by
  intro pins s σ H vs us Q I r ⟨A, ds, d, tr, w, e, q⟩
  unfold bMin2 at e
  split at e
  · cases e
    obtain ⟨v, u, rfl, w1, w2⟩ := p2 w
    exact call_min2 hc pins s σ H _ us Q I r ⟨_, _, by rw [w1.int, w2.int], q _ H (Same.refl H) Res.int⟩
  · cases e
theorem intsAt {its : List Value} {ns : List Int} (r : Vals (ns.map V.int) its) (i : Nat) (v : Value) (h : its[i]? = some v) : ∃ t, v = .int (ns.getD i 0) t := by
  have hi := r.length
  rw [List.length_map] at hi
  have hlt : i < ns.length := by rw [hi]; exact (List.getElem?_eq_some_iff.mp h).1
  obtain ⟨u, e, q⟩ := r.get (i := i) (x := .int ns[i]) (by simp [hlt])
  rw [h] at e
  cases e
  obtain ⟨t, rfl⟩ := q
  exact ⟨t, by simp [hlt]⟩
theorem preSum_all (ns : List Int) : preSum (fun i => ns.getD i 0) ns.length = ns.sum := by
  have h : ∀ k, k ≤ ns.length → preSum (fun i => ns.getD i 0) k = (ns.take k).sum := by
    intro k
    induction k with
    | zero => intro _; rfl
    | succ k ih =>
      intro hk
      show preSum (fun i => ns.getD i 0) k + ns.getD k 0 = _
      rw [ih (by omega), List.take_succ, List.sum_append, List.getElem?_eq_getElem (by omega)]
      simp [List.getD_eq_getElem?_getD, List.getElem?_eq_getElem (show k < ns.length by omega)]
  rw [h _ (Nat.le_refl _), List.take_length]
theorem cb_sum (hc : X.calm = true := by rfl) : CallR X (.builtin "sum") (rC X.K .f bSum) := by
  intro pins s σ H vs us Q I r ⟨A, ds, d, tr, w, e, q⟩
  unfold bSum at e
  split at e
  · obtain ⟨v, rfl, w1⟩ := p1 w
    obtain ⟨xs, e1, e⟩ := bind2 e
    obtain ⟨ns, e2, e⟩ := Option.map_eq_some_iff.mp e
    subst e
    obtain ⟨a, vs, rfl, ha, ra⟩ := w1.seq e1
    rw [ref1 r]
    have hv := ra.ints e2
    subst hv
    refine call_sum_walkG (sq_iter (show X.A.in1.handled = none from I.ok.hd hc) I ha fun its J fp wr St h₂ rv W st hfp kp => ?_)
    have hl := rv.length
    rw [List.length_map] at hl
    refine ⟨_, _, _, _, _, _, fun i => ns.getD i 0, rfl, W, st, hfp, fun i v h => intsAt rv i v h, fun h' tk t' hk => ?_⟩
    rw [← hl, preSum_all]
    exact ⟨.int _, H, I.kept (kp h' hk), ⟨_, rfl⟩, q _ H (Same.refl H) Res.int⟩
  · cases e
theorem truths {prog : Program} {w : World} {A : Around} {bs : List Bool} {its : List Value} (e : its = bs.map Value.bool) : TruthOf prog w A (fun i v => its[i]? = some v) (fun i => bs.getD i false) := by
  have := truth_bools (prog := prog) (w := w) (A := A) e
  simpa using this
theorem cb_all (hc : X.calm = true := by rfl) : CallR X (.builtin "all") (rC X.K .f bAll) := by
  intro pins s σ H vs us Q I r ⟨A, ds, d, tr, w, e, q⟩
  unfold bAll at e
  split at e
  · obtain ⟨v, rfl, w1⟩ := p1 w
    obtain ⟨xs, e1, e⟩ := bind2 e
    obtain ⟨ns, e2, e⟩ := Option.map_eq_some_iff.mp e
    subst e
    obtain ⟨a, vs, rfl, ha, ra⟩ := w1.seq e1
    rw [ref1 r]
    have hv := ra.bools e2
    subst hv
    refine call_all_walk (sq_iter (show X.A.in1.handled = none from I.ok.hd hc) I ha fun its J fp wr St h₂ rv W st hfp kp => ?_)
    have hl := rv.length
    rw [List.length_map] at hl
    refine ⟨_, _, _, _, _, _, _, rfl, W, st, truths rv.bls, fun h' tk hk => ?_⟩
    rw [← hl, L2.all_range]
    exact ⟨.bl _, H, I.kept (kp h' hk), rfl, q _ H (Same.refl H) Res.bl⟩
  · cases e
theorem cb_any (hc : X.calm = true := by rfl) : CallR X (.builtin "any") (rC X.K .f bAny) := by
  intro pins s σ H vs us Q I r ⟨A, ds, d, tr, w, e, q⟩
  unfold bAny at e
  split at e
  · obtain ⟨v, rfl, w1⟩ := p1 w
    obtain ⟨xs, e1, e⟩ := bind2 e
    obtain ⟨ns, e2, e⟩ := Option.map_eq_some_iff.mp e
    subst e
    obtain ⟨a, vs, rfl, ha, ra⟩ := w1.seq e1
    rw [ref1 r]
    have hv := ra.bools e2
    subst hv
    refine call_any_walk (sq_iter (show X.A.in1.handled = none from I.ok.hd hc) I ha fun its J fp wr St h₂ rv W st hfp kp => ?_)
    have hl := rv.length
    rw [List.length_map] at hl
    refine ⟨_, _, _, _, _, _, _, rfl, W, st, truths rv.bls, fun h' tk hk => ?_⟩
    rw [← hl, L2.any_range]
    exact ⟨.bl _, H, I.kept (kp h' hk), rfl, q _ H (Same.refl H) Res.bl⟩
  · cases e
theorem cb_tuple : CallR X (.type "tuple") (rC X.K .f bTuple) := by
  intro pins s σ H vs us Q I r ⟨A, ds, d, tr, w, e, q⟩
  unfold bTuple at e
  split at e
  · obtain ⟨v, rfl, w1⟩ := p1 w
    obtain ⟨xs, e1, e⟩ := Option.map_eq_some_iff.mp e
    subst e
    unfold seqD at e1
    split at e1
    · cases e1
      obtain ⟨a, ys, rfl, ha, ra⟩ := w1.lst
      exact call_tuple_of pins s σ H _ us Q I r ⟨a, ys, rfl, .inl ⟨.of ha, fun l hl => q _ _ (same_upd hl) (Res.flat (Rp.newT tr hl ra) rfl)⟩⟩
    · cases e1
      obtain ⟨a, ys, rfl, ha, na, ra⟩ := w1.tup
      exact call_tuple_of pins s σ H _ us Q I r ⟨a, ys, rfl, .inr ⟨.of ha, q _ H (Same.refl H) (Res.flat (.tup ha na ra) rfl)⟩⟩
    · cases e1
  · cases e
theorem cb_list : CallR X (.type "list") (rC X.K .f bList) := by
  intro pins s σ H vs us Q I r ⟨A, ds, d, tr, w, e, q⟩
  unfold bList at e
  split at e
  · obtain ⟨v, rfl, w1⟩ := p1 w
    obtain ⟨xs, e1, e⟩ := Option.map_eq_some_iff.mp e
    subst e
    obtain ⟨a, ys, rfl, ha, ra⟩ := w1.seq e1
    refine call_list_of pins s σ H _ us Q I r ⟨a, ys, rfl, ha.elim (fun h => .inl (.of h)) (fun h => .inr (.of h)), fun l hl => q _ _ (same_upd hl) (Res.newL tr hl ra (Same.refl H))⟩
  · cases e

/-! ### isinstance of a written built-in type -/
def tyName : D → String
  | .none => "NoneType"
  | .bool _ => "bool"
  | .int _ => "int"
  | .str _ => "str"
  | .list _ => "list"
  | .tuple _ => "tuple"
  | .dict _ => "dict"
def oIsi (T : String) (d : D) : Option D := match d with
  | .dict _ => none
  | _ => (kitB (tyName d) T).map .bool
theorem WRp.ty {K : PySem.W.Frag} {A : Addr → Prop} {H : Hp} {v : V} {d : D} (w : WRp K A H v d) (h : ∀ kvs, d ≠ .dict kvs) : TyX K H v (.type (tyName d)) := by
  rcases w with w | ⟨a, e, w⟩
  · cases w with
    | non => exact .base .non
    | bl b => exact .base (.bl b)
    | int i => exact .base (.int i)
    | str x => exact .base (.str x)
    | lst e n r => exact .base (.lst e)
    | tup e n r => exact .base (.tup e)
    | scr e n r => exact absurd rfl (h _)
    | kl e r => exact absurd rfl (h _)
    | dic e n r q => exact absurd rfl (h _)
  · subst e
    cases w with
    | lst e r => exact .base (.lst e)
    | dic e r q => exact absurd rfl (h _)
section
variable {O : List Nat} {m : Md} {a : Expr} {fa : Xp} {p pos pt : Pos} {x T' : Str} {T : String}
theorem se_isi (T : String) (ha : SE X O m a fa) (hm : X.mg "isinstance" = none) (hmT : X.mg T' = none) (hg : Gl X "isinstance" := by rfl) (hgT : Gl X T' := by rfl) (hvT : bootBuiltins T' = some (.type T) := by rfl) (hnT : T' ≠ "__name__" := by decide) (hdT : (T' == ("__debug__" : Str)) = false := by decide)
    (hs : starEach (a :: [Expr.Name T' pt]) X.env = (false, eval a X.env) :: starEach [Expr.Name T' pt] X.env := by rfl) (hs2 : starEach [Expr.Name T' pt] X.env = (false, eval (.Name T' pt) X.env) :: starEach [] X.env := by rfl)
    (hpl : (backTo pos (starEach [Expr.Name T' pt] X.env)).any (·.1) = false := by rfl) : SE X O .f (.Call (.Name "isinstance" p) [a, .Name T' pt] [] pos) (xUn (oIsi T) fa) := by
  have hT : PE X (.Name T' pt) (tC (.ty T)) := pe_bltn hgT hmT hvT rfl hnT hdT
  refine ⟨pe_imp (pe_callB call_isi hg hm (by decide +kernel) (pa_cons ha.pe (pa_cons hT pa_nil hs2) hs) (by decide) (by decide) hs hpl) fun σ H Q q => ?_⟩
  obtain ⟨H0, A0, G, ρ, B, d, S, e, k⟩ := q
  obtain ⟨y, ey, e⟩ := bind2 e
  unfold oIsi at e
  split at e
  · cases e
  · rename_i hnd
    obtain ⟨b, eb, e⟩ := Option.map_eq_some_iff.mp e
    subst e
    refine ⟨H0, A0, G, ρ, B, y, S, ey, fun v H1 s1 r1 => ?_⟩
    exact ⟨v, .ty T, .type (tyName y), .type T, b, rfl, .ty T, r1.toW.ty hnd, kit_ty eb, k _ H1 s1 Res.bl⟩
end
end
end Pm

namespace Pm
open PySem PySem.Spec PyProof.Rows L2

/-! ### what is walked -/
structure Yl (K : PySem.W.Frag) (J : It) (gs : List (V × D)) (ds : List D) : Prop where
  go : ∀ A H i d, Tr A H → (∀ p ∈ gs, WRp K A H p.1 p.2) → ds[i]? = some d → J.go i H ∧ ∀ x H', J.yld i H x H' → Same H H' ∧ Rp K A H' x d
  stop : ∀ A H, Tr A H → (∀ p ∈ gs, WRp K A H p.1 p.2) → J.stop ds.length H
def strongR (K : PySem.W.Frag) (A : Addr → Prop) (H : Hp) (st : Bool) (v : V) (d : D) : Prop := if st then Rp K A H v d else WRp K A H v d
def simI (K : PySem.W.Frag) (O : List Nat) (st : Bool) (f : XL) : TI := fun σ H R => ∃ H0 A0 G ρ B ds, Sim K H0 A0 G O σ H ρ B ∧ f ρ = some ds ∧
  ∀ J H' gs, Same H H' → Yl K J gs ds → (∀ p ∈ gs, strongR K (Av A0 B) H' st p.1 p.2) → ds.length ≤ 16777216 → R J H'
structure SI (X : Cx) (O : List Nat) (st : Bool) (tg iter : Expr) (f : XL) : Prop where
  pi : PI X tg iter (simI X.K O st f)
theorem pi_imp {X : Cx} {tg e : Expr} {t t' : TI} (h : PI X tg e t) (hi : ∀ σ H Q, t' σ H Q → t σ H Q) : PI X tg e t' := ⟨fun pins s σ H Q I q => h.run pins s σ H Q I (hi _ _ _ q)⟩
theorem pi_or {X : Cx} {tg e : Expr} {t t' : TI} (h : PI X tg e t) (h' : PI X tg e t') : PI X tg e (fun σ H R => t σ H R ∨ t' σ H R) :=
  ⟨fun pins s σ H Q I q => q.elim (h.run pins s σ H Q I) (h'.run pins s σ H Q I)⟩
/-- lists and tuples are no longer than the line -/
def HpOk (H : Hp) : Prop := ∀ a xs, (H a = some (.lst xs) ∨ H a = some (.tup xs)) → xs.length ≤ 16777216
theorem hpok {X : Cx} {pins : List (Addr × Obj)} {σ : L2.St} {H : Hp} {s : Shared} (I : Inv X pins σ H s) : HpOk H := fun a xs h => by
  rcases h with h | h
  · have z : xs.length ≤ sizeLine := (I.hok a _ h).1
    exact z
  · have z : xs.length ≤ sizeLine := (I.hok a _ h).1
    exact z
theorem pe_ok {X : Cx} {e : Expr} {t : TE} (h : PE X e t) : PE X e (fun σ H Q => t σ H fun v H' => HpOk H' → Q v H') :=
  ⟨fun pins s σ H Q I q => thn (h.run pins s σ H _ I q) fun u s' ⟨v, H', I', r, q'⟩ => ⟨v, H', I', r, q' (hpok I')⟩⟩
theorem pa_ok {X : Cx} {e : List Expr} {t : TA} (h : PA X e t) : PA X e (fun σ H Q => t σ H fun v H' => HpOk H' → Q v H') :=
  ⟨fun pos pins s σ H Q I q => thn (h.run pos pins s σ H _ I q) fun u s' ⟨v, H', I', r, q'⟩ => ⟨v, H', I', r, q' (hpok I')⟩⟩
section
variable {X : Cx} {O : List Nat} {m ma mb mc : Md} {st : Bool} {a b c e tg : Expr} {es : List Expr} {fa fb fc f : Xp} {fs : XL} {pos p : Pos}
def xSeq (f : Xp) : XL := fun ρ => (f ρ).bind seqD
def mdS : Md → Bool
  | .w => false
  | _ => true
theorem Res.sR {K : PySem.W.Frag} {A : Addr → Prop} {He H' : Hp} {v : V} {d : D} (t : Tr A He) (h : Res K A He H' m v d) : strongR K A H' (mdS m) v d := by
  cases m with
  | w => exact h
  | s => exact h
  | f => exact h.toS t (by decide)
theorem strongR.w {K : PySem.W.Frag} {A : Addr → Prop} {H' : Hp} {v : V} {d : D} (h : strongR K A H' st v d) : WRp K A H' v d := by
  cases st with
  | true => exact .inl h
  | false => exact h
/-- a tracked list has one content -/
theorem sql_one {K : PySem.W.Frag} {H : Hp} {a : Addr} {xs ys : List V} (h : H a = some (.lst xs)) (h' : Rd H a (.lst ys)) : ys = xs := by
  rcases h' with h' | ⟨o, h'⟩
  · rw [h] at h'; cases h'; rfl
  · rw [h] at h'; cases h'
theorem si_seq (h : SE X O m e f) : SI X O (mdS m) tg e (xSeq f) := by
  refine ⟨pi_imp (pi_or (pi_list (pe_ok h.pe)) (pi_tup (pe_ok h.pe))) fun σ H R q => ?_⟩
  obtain ⟨H0, A0, G, ρ, B, ds, S, e, k⟩ := q
  obtain ⟨d, ed, e⟩ := bind2 e
  unfold seqD at e
  split at e
  · cases e
    refine .inl ⟨H0, A0, G, ρ, B, _, S, ed, fun v H1 s1 r1 ok => ?_⟩
    obtain ⟨a, xs, rfl, ha, ra⟩ := r1.toW.lst
    refine ⟨a, rfl, ⟨xs, .of ha⟩, k _ H1 [(.ref a, .list ds)] s1 ⟨fun A H i d t g e => ?_, fun A H t g => ?_⟩ (fun p hp => ?_) (by rw [← ra.length]; exact ok a xs (.inl ha))⟩
    · obtain ⟨b, ys, eb, hb, rb⟩ := (g _ (List.mem_singleton.mpr rfl)).lst
      cases eb
      obtain ⟨y, ey, ry⟩ := rb.get e
      refine ⟨⟨ys, y, .of hb, ey⟩, fun x H' hy => ?_⟩
      obtain ⟨rfl, hy⟩ := hy
      have := hy ys (.of hb)
      rw [ey] at this
      cases this
      exact ⟨Same.refl _, ry⟩
    · obtain ⟨b, ys, eb, hb, rb⟩ := (g _ (List.mem_singleton.mpr rfl)).lst
      cases eb
      exact ⟨ys, .of hb, by rw [rb.length]; exact Nat.le_refl _⟩
    · rw [List.mem_singleton.mp hp]
      exact r1.sR S.tr
  · cases e
    refine .inr ⟨H0, A0, G, ρ, B, _, S, ed, fun v H1 s1 r1 ok => ?_⟩
    obtain ⟨a, xs, rfl, ha, na, ra⟩ := r1.toW.tup
    refine ⟨a, rfl, ⟨xs, .of ha⟩, k _ H1 [(.ref a, .tuple ds)] s1 ⟨fun A H i d t g e => ?_, fun A H t g => ?_⟩ (fun p hp => ?_) (by rw [← ra.length]; exact ok a xs (.inr ha))⟩
    · obtain ⟨b, ys, eb, hb, nb, rb⟩ := (g _ (List.mem_singleton.mpr rfl)).tup
      cases eb
      obtain ⟨y, ey, ry⟩ := rb.get e
      refine ⟨⟨ys, y, .of hb, ey⟩, fun x H' hy => ?_⟩
      obtain ⟨rfl, hy⟩ := hy
      have := hy ys (.of hb)
      rw [ey] at this
      cases this
      exact ⟨Same.refl _, ry⟩
    · obtain ⟨b, ys, eb, hb, nb, rb⟩ := (g _ (List.mem_singleton.mpr rfl)).tup
      cases eb
      exact ⟨ys, .of hb, by rw [rb.length]; exact Nat.le_refl _⟩
    · rw [List.mem_singleton.mp hp]
      exact r1.sR S.tr
  · cases e
/-- lo, lo + c, .. -/
def rangeD (lo c : Int) (n : Nat) : List D := (List.range n).map fun i => .int (lo + (i : Nat) * c)
theorem rangeD_len (lo c : Int) (n : Nat) : (rangeD lo c n).length = n := by simp [rangeD]
theorem rangeD_get {lo c : Int} {n i : Nat} {d : D} (h : (rangeD lo c n)[i]? = some d) : i < n ∧ d = .int (lo + (i : Nat) * c) := by
  have hl : i < n := by
    have := (List.getElem?_eq_some_iff.mp h).1
    rwa [rangeD_len] at this
  refine ⟨hl, ?_⟩
  unfold rangeD at h
  rw [List.getElem?_map, List.getElem?_range hl] at h
  cases h
  rfl
def oR1 : List D → Option (List D)
  | [.int j] => if j ≤ 16777216 ∧ -(2 ^ 62) ≤ j then some (rangeD 0 1 j.toNat) else none
  | _ => none
def oR2 : List D → Option (List D)
  | [.int i, .int j] => if -(2 ^ 60) ≤ i ∧ i < 2 ^ 60 ∧ -(2 ^ 60) ≤ j ∧ j < 2 ^ 60 ∧ j - i ≤ 16777216 then some (rangeD i 1 (j - i).toNat) else none
  | _ => none
def oR3 : List D → Option (List D)
  | [.int i, .int j, .int (-1)] => if -(2 ^ 60) ≤ i ∧ i < 2 ^ 60 ∧ -(2 ^ 60) ≤ j ∧ j < 2 ^ 60 ∧ i - j ≤ 16777216 then some (rangeD i (-1) (i - j).toNat) else none
  | [.int i, .int j, .int c] => if RgOk i j c then some (rangeD i c (rgN i j c)) else none
  | _ => none
where
  rgN (i j c : Int) : Nat := (Builtin.Range.rangeSize i j c).toNat
  RgOk (i j c : Int) : Bool := decide (c ≠ 0) && decide (c.natAbs < 1073741824) && Builtin.Range.small i j c && decide (0 ≤ Builtin.Range.rangeSize i j c) && decide (Builtin.Range.rangeSize i j c ≤ 16777216)
def xIt (g : List D → Option (List D)) (fs : XL) : XL := fun ρ => (fs ρ).bind g
theorem yl_r {K : PySem.W.Frag} (lo : Int) (n : Nat) : Yl K (Itr lo n) [] (rangeD lo 1 n) where
  go := fun A H i d t g e => by
    obtain ⟨h1, h2⟩ := rangeD_get e
    subst h2
    refine ⟨h1, fun x H' hy => ?_⟩
    obtain ⟨rfl, rfl⟩ := hy
    refine ⟨Same.refl _, ?_⟩
    rw [Int.mul_one]
    exact .int _
  stop := fun A H t g => by
    rw [rangeD_len]
    exact Nat.le_refl _
theorem yl_c {K : PySem.W.Frag} (lo c : Int) (n : Nat) : Yl K (Itc lo c n) [] (rangeD lo c n) where
  go := fun A H i d t g e => by
    obtain ⟨h1, h2⟩ := rangeD_get e
    subst h2
    refine ⟨h1, fun x H' hy => ?_⟩
    obtain ⟨rfl, rfl⟩ := hy
    exact ⟨Same.refl _, .int _⟩
  stop := fun A H t g => by
    rw [rangeD_len]
    exact Nat.le_refl _
theorem p3 {F : V → D → Prop} {vs : List V} {x y z : D} (h : Paired F vs [x, y, z]) : ∃ v u w, vs = [v, u, w] ∧ F v x ∧ F u y ∧ F w z := by
  cases h with
  | cons a r =>
    obtain ⟨u, w, rfl, h1, h2⟩ := p2 r
    exact ⟨_, _, _, rfl, a, h1, h2⟩
theorem si_r1 (hm : X.mg "range" = none) (ha : SA X O st [a] fs) (hg : Gl X "range" := by rfl) (hs : starEach [a] X.env = [(false, eval a X.env)] := by rfl) : SI X O true tg (.Call (.Name "range" p) [a] [] pos) (xIt oR1 fs) := by
  refine ⟨pi_imp (pi_range1 hg hm ha.pa hs) fun σ H R q => ?_⟩
  obtain ⟨H0, A0, G, ρ, B, ds, S, e, k⟩ := q
  obtain ⟨d, ed, e⟩ := bind2 e
  unfold oR1 at e
  split at e
  · split at e
    · rename_i hz
      cases e
      refine ⟨H0, A0, G, ρ, B, _, S, ed, fun vs H1 s1 r1 => ?_⟩
      obtain ⟨v, rfl, w⟩ := p1 r1.weak
      exact ⟨_, by rw [w.int], hz.2, by omega, k _ H1 [] s1 (yl_r _ _) (fun p hp => nomatch hp) (by rw [rangeD_len]; omega)⟩
    · cases e
  · cases e
theorem si_r2 (hm : X.mg "range" = none) (ha : SA X O st [a, b] fs) (hg : Gl X "range" := by rfl) (hs : starEach [a, b] X.env = [(false, eval a X.env), (false, eval b X.env)] := by rfl) (hs2 : starEach [b] X.env = [(false, eval b X.env)] := by rfl) : SI X O true tg (.Call (.Name "range" p) [a, b] [] pos) (xIt oR2 fs) := by
  refine ⟨pi_imp (pi_range2 hg hm ha.pa hs hs2) fun σ H R q => ?_⟩
  obtain ⟨H0, A0, G, ρ, B, ds, S, e, k⟩ := q
  obtain ⟨d, ed, e⟩ := bind2 e
  unfold oR2 at e
  split at e
  · split at e
    · rename_i hz
      cases e
      refine ⟨H0, A0, G, ρ, B, _, S, ed, fun vs H1 s1 r1 => ?_⟩
      obtain ⟨v, u, rfl, w, w'⟩ := p2 r1.weak
      exact ⟨_, _, by rw [w.int, w'.int], ⟨by omega, by omega, by omega, by omega⟩, k _ H1 [] s1 (yl_r _ _) (fun p hp => nomatch hp) (by rw [rangeD_len]; omega)⟩
    · cases e
  · cases e
theorem si_r3 (hm : X.mg "range" = none) (ha : SA X O st [a, b, c] fs) (hg : Gl X "range" := by rfl) (hs : starEach [a, b, c] X.env = (false, eval a X.env) :: starEach [b, c] X.env := by rfl) (hpl : (backTo pos (starEach [b, c] X.env)).any (·.1) = false := by rfl) : SI X O true tg (.Call (.Name "range" p) [a, b, c] [] pos) (xIt oR3 fs) := by
  refine ⟨pi_imp (pi_range3 hg hm ha.pa hs hpl) fun σ H R q => ?_⟩
  obtain ⟨H0, A0, G, ρ, B, ds, S, e, k⟩ := q
  obtain ⟨d, ed, e⟩ := bind2 e
  unfold oR3 at e
  split at e
  · split at e
    · rename_i hz
      cases e
      refine ⟨H0, A0, G, ρ, B, _, S, ed, fun vs H1 s1 r1 => ?_⟩
      obtain ⟨v, u, w, rfl, w1, w2, w3⟩ := p3 r1.weak
      exact ⟨_, _, _, _, by rw [w1.int, w2.int, w3.int], RgC.neg (by omega) (by omega) (by omega) (by omega), k _ H1 [] s1 (yl_c _ _ _) (fun p hp => nomatch hp) (by rw [rangeD_len]; omega)⟩
    · cases e
  · split at e
    · rename_i hz
      cases e
      refine ⟨H0, A0, G, ρ, B, _, S, ed, fun vs H1 s1 r1 => ?_⟩
      obtain ⟨v, u, w, rfl, w1, w2, w3⟩ := p3 r1.weak
      unfold oR3.RgOk at hz
      simp only [Bool.and_eq_true, decide_eq_true_eq] at hz
      obtain ⟨⟨⟨⟨z1, z2⟩, z3⟩, z4⟩, z5⟩ := hz
      refine ⟨_, _, _, oR3.rgN _ _ _, by rw [w1.int, w2.int, w3.int], ⟨z1, z2, z3, ?_⟩, k _ H1 [] s1 (yl_c _ _ _) (fun p hp => nomatch hp) ?_⟩
      · unfold oR3.rgN
        omega
      · rw [rangeD_len]
        unfold oR3.rgN
        omega
    · cases e
  · cases e
/-- enumerate of a list -/
def enumD (xs : List D) : List D := (List.range xs.length).zipWith (fun i x => .tuple [.int (i : Nat), x]) xs
theorem enumD_len (xs : List D) : (enumD xs).length = xs.length := by simp [enumD]
theorem enumD_get {xs : List D} {i : Nat} {d : D} (h : (enumD xs)[i]? = some d) : ∃ x, xs[i]? = some x ∧ d = .tuple [.int (i : Nat), x] := by
  have hl : i < xs.length := by
    have := (List.getElem?_eq_some_iff.mp h).1
    rwa [enumD_len] at this
  refine ⟨xs[i], List.getElem?_eq_getElem hl, ?_⟩
  unfold enumD at h
  rw [List.getElem?_zipWith, List.getElem?_range hl, List.getElem?_eq_getElem hl] at h
  cases h
  rfl
theorem sqOne {K : PySem.W.Frag} {H : Hp} {a : Addr} {xs : List V} (h : H a = some (.lst xs)) {P : List V → Prop} (p : ∀ ys, SqL K H a ys → P ys) : P xs := p xs (.of h)
end
end Pm

/-! enumerate of a tuple, as a Turn -/
namespace Pm
open PySem PySem.Spec PyProof.Rows L2
set_option maxHeartbeats 1000000 in
theorem meets_enum1 {v : Value} {ob : Obj} {Hy : Heap → Prop} (Bg : Begins v ob Hy) :
    Meets (Builtin.«enumerate.__new__» ⟨[.type "enumerate", v], []⟩) (fun _ R s => Hy s.heap ∧
      R (.ok (.ret (.ref (s.heap.push ob).objs.size))) { s with heap := (s.heap.push ob).push { cls := .type "enumerate", data := .fields #[.none, .bool false, .ref s.heap.objs.size, rawInt 0, .none, .none] } }) :=
  .of_wp fun prog w A R s z => by
    obtain ⟨hp, gs, dr, tks, ost⟩ := s; obtain ⟨z1, z⟩ := z
    have hsub := sub_enumerate
    have run : ∀ {A' : Around} {E : Value → Shared → Prop} {Q : Value → Shared → Prop}, Q (.ref hp.objs.size) ⟨hp.push ob, gs, dr, tks, ost⟩ → wpAny (model prog w) A' (pyIter v) Q E ⟨hp, gs, dr, tks, ost⟩ :=
      fun q => Bg.iter prog w _ _ ⟨hp, gs, dr, tks, ost⟩ _ z1 q
    wp_walk using run
    refine wpAny_stack_any fun stk => wpAny_pure ?_
    split
    · rename_i cc _ _ _ _ _
      cases (cc == Value.type "enumerate") <;> (wp_walk using run) <;> exact ⟨_, rfl, z⟩
    · wp_walk using run
      exact ⟨_, rfl, z⟩
section
variable {prog : Program} {w : World} {A : Around} {E : Value → Shared → Prop} {s : Shared}
theorem enum_one {v : Value} {ob : Obj} {Hy : Heap → Prop} {Q : Value → Shared → Prop} (Bg : Begins v ob Hy) (z1 : Hy s.heap)
    (k : ∀ hh, IsEnum hh (s.heap.objs.size + 1) s.heap.objs.size 0 .none → hh.get? s.heap.objs.size = some ob → (∀ b o, s.heap.get? b = some o → hh.get? b = some o) → Q (.ref (s.heap.objs.size + 1)) { s with heap := hh }) :
    wpAny (model prog w) A (call (.type "enumerate") [v]) Q E s := by
  refine callType_new F.called_enumerate (by decide) (F.typeCall_enumerate_1 _) (F.newCall_enumerate_1 _) (fun obj => F.args_object_init_2 obj _) F.entry_enumerate_new (meets_enum1 Bg) ⟨z1, ?_⟩
  have sz : (s.heap.push ob).objs.size = s.heap.objs.size + 1 := Heap.size_push ..
  have ie : IsEnum ((s.heap.push ob).push { cls := .type "enumerate", data := .fields #[.none, .bool false, .ref s.heap.objs.size, rawInt 0, .none, .none] }) (s.heap.objs.size + 1) s.heap.objs.size 0 .none := by
    rw [← sz]
    exact Heap.get?_push_size _ rfl
  show _ ∧ _
  rw [sz]
  exact ⟨⟨_, ie, rfl⟩, k _ ie (Heap.get?_push_of_some _ (Heap.get?_push_size _ Bg.free)) fun b o x => Heap.get?_push_of_some _ (Heap.get?_push_of_some _ x)⟩
end
/-- the tuple at a, each item in a new pair -/
def ItE (K : PySem.W.Frag) (a : Addr) : It where
  go := fun i H => ∃ (xs : List V) (x : V), SqT K H a xs ∧ xs[i]? = some x
  yld := fun i H v H' => ∃ T x, v = .ref T ∧ H T = none ∧ H' = upd H T (.tup [.int (i : Nat), x]) ∧ ∀ xs, SqT K H a xs → xs[i]? = some x
  stop := fun i H => ∃ xs : List V, SqT K H a xs ∧ xs.length ≤ i
theorem turn_enumTup {P : Program} {w : World} {K : PySem.W.Frag} {elts : List Expr} {kk : Nat} {tpos : Pos} (a e it : Addr) :
    Turn P w K (.Tuple elts kk tpos) (ItE K a) [e, it] e (fun i h => (∃ old, IsEnum h e it ((0 : Int) + ((i : Nat) : Int)) old) ∧ h.IsTupleIter it a i ∧ e ≠ it ∧ a ≠ it) where
  mem := List.mem_cons_self
  obj := by
    intro i h ⟨⟨old, he⟩, ⟨o, ho, hc, hd⟩, _⟩ b hb
    have hb' : b = e ∨ b = it := by simpa using hb
    rcases hb' with rfl | rfl
    · exact ⟨_, he, fun v q => nomatch q⟩
    · exact ⟨o, ho, fun v q => by rw [hd] at q; cases q⟩
  keep := by
    intro i h h' ⟨⟨old, he⟩, hi, hne⟩ k
    exact ⟨⟨old, k e (by simp) _ he⟩, hi.at fun o q => k it (by simp) o q, hne⟩
  item := by
    intro X hP hw hK hc i pins s σ H E I hf st hg
    subst hP hw hK
    obtain ⟨⟨old, he⟩, hit, hne, hat⟩ := st
    obtain ⟨xs, x, hq, hx⟩ := hg
    obtain ⟨its, rv, p, hz⟩ := I.tuple hq
    obtain ⟨u, hu, ru⟩ := rv.get hx
    have hi : i < its.length := (List.getElem?_eq_some_iff.mp hu).1
    have el : e < s.heap.objs.size := Heap.lt_size he
    have il : it < s.heap.objs.size := by
      obtain ⟨_, q, _⟩ := hit
      exact Heap.lt_size q
    have nef : e ∉ [it, a] := fun z => by
      have z' : e = it ∨ e = a := by simpa using z
      rcases z' with z' | z'
      · exact hne z'
      · obtain ⟨o, ho, hcl, _⟩ := p
        rw [← z'] at ho
        have := he.symm.trans ho
        cases this
        exact absurd (Value.type.inj hcl) (by decide)
    have Dr := Draws.tuple (prog := X.prog) (w := X.w) (A := X.A.in1) (I.ok.hd hc) it a hat its.toArray
    refine wpAny_pyNext_enum_itemC Dr he ⟨hit, p⟩ (by simpa using hi) hne nef fun y h' tk hy ho st' hT hsz hk => ?_
    have ey : y = u := by
      have hy' : its[i]? = some y := by simpa using hy
      rw [hu] at hy'
      exact (Option.some.inj hy').symm
    subst ey
    refine ⟨_, rfl, wpAny_letOwnedTupleGo_enum (s := { s with heap := h', toks := tk + 1 }) ho fun h'' he' sb => ?_⟩
    have hT2 : h''.get? s.heap.objs.size = some { cls := .type "tuple", data := .seq #[.int ((0 : Int) + ((i : Nat) : Int)) tk, y] } := (sb.2 _ (Nat.ne_of_gt el)).trans hT
    have ob : ObjOk X.prog X.w (upd H s.heap.objs.size (.tup [.int (i : Nat), x])) h'' s.heap.objs.size (.tup [.int (i : Nat), x]) :=
      ⟨by show 2 ≤ sizeLine; decide, [.int ((0 : Int) + ((i : Nat) : Int)) tk, y], .cons ⟨tk, by rw [Int.zero_add]⟩ (.cons ru .nil), ⟨_, hT2, rfl, _, rfl⟩⟩
    have J : Inv X pins σ (upd H s.heap.objs.size (.tup [.int (i : Nat), x])) { s with heap := h'', toks := tk + 1 } :=
      I.turnedNew (ch := [e, it]) (fun b q hb e1 => (sb.2 b (fun z => hb (by simp [z]))).trans (hk b q (fun z => hb (by simp [z])) (fun z => hb (by simp [z])) e1)) hf (Nat.le_refl _) ob
    refine ⟨.ref s.heap.objs.size, _, J, rfl, ⟨_, x, rfl, I.hok.fresh (Nat.le_refl _), rfl, fun ys hy => by rw [I.tuple_inj hy hq]; exact hx⟩, ⟨⟨y, ?_⟩, st'.1.at fun o q => (sb.2 it (Ne.symm hne)).trans q, hne, hat⟩, fun b hb => ?_⟩
    · have e1 : (0 : Int) + ((i + 1 : Nat) : Int) = (0 : Int) + (i : Int) + 1 := by omega
      rw [e1]
      exact he'
    · have lb : b < s.heap.objs.size := by
        have z : b = e ∨ b = it := by simpa using hb
        rcases z with rfl | rfl
        · exact el
        · exact il
      rw [upd_ne (Nat.ne_of_lt lb)]
      exact (hf b hb).1
  done := by
    intro X hP hw hK hc i pins s σ H E I hf st hg
    subst hP hw hK
    obtain ⟨⟨old, he⟩, hit, hne, hat⟩ := st
    obtain ⟨xs, hq, hx⟩ := hg
    obtain ⟨its, rv, p, hz⟩ := I.tuple hq
    obtain ⟨f0, f1, f2, f3, f4, f5⟩ := hf it (by simp)
    have hl := rv.length
    have hh : X.A.in1.in1.handled = none := I.ok.hd hc
    refine wpAny_pyNext_enum_endD (n := i) (St := fun j h => j = i ∧ h.IsTupleIter it a i ∧ h.IsTuple a its.toArray) (P := fun _ _ => True) (fp := [it, a]) ?_ he ⟨rfl, hit, p⟩ fun h' eb => ⟨rfl, I.turned (t' := s.toks) (fun b o hb q => eb b o hb q) f0 f1 f3 f4 f5⟩
    refine ⟨fun _ _ st => let ⟨o, ho, _⟩ := st.2.1; ⟨o, ho⟩, fun _ _ _ st hk => ⟨st.1, st.2.1.at fun o e => hk it (by simp) o e, st.2.2.at fun o e => hk a (by simp) o e⟩, ?_, ?_⟩
    · intro j s' Q E' hj st' hQ
      exact absurd st'.1 (Nat.ne_of_lt hj)
    · intro s' Q E' st' hE
      exact wpAny_nextOf_tuple_end hh st'.2.1 st'.2.2 (by simp; omega) hE
  self := fun A i s Q E st h => let ⟨⟨_, he⟩, _⟩ := st; wpAny_pyIter_enum he h
end Pm

namespace Pm
open PySem PySem.Spec PyProof.Rows L2
section
variable {X : Cx} {O : List Nat} {m ma mb mc : Md} {st : Bool} {a b c e tg : Expr} {es : List Expr} {fa fb fc f : Xp} {fs : XL} {pos p : Pos}
def iEnumT (K : PySem.W.Frag) (ta : TA) : TI := fun σ H R => ta σ H fun vs H1 => ∃ a xs, vs = [.ref a] ∧ SqT K H1 a xs ∧ R (ItE K a) H1
theorem pi_enumT {ta : TA} {tpos : Pos} {elts : List Expr} {kk : Nat} (hg : Gl X "enumerate") (hm : X.mg "enumerate" = none) (ha : PA X [e] ta) (hs : starEach [e] X.env = [(false, eval e X.env)] := by rfl) : PI X (.Tuple elts kk tpos) (.Call (.Name "enumerate" p) [e] [] pos) (iEnumT X.K ta) := by
  refine ⟨fun pins s σ H R I h => ?_⟩
  refine Call_ (ld_blt I hg hm boot_enumerate (callWith_type1 (thn (ha.run pos pins s σ H _ I h) fun us s1 q1 => ?_) hs rfl))
  obtain ⟨vs, H1, I1, r1, t, xs, ex, hq, q⟩ := q1
  subst ex
  rw [Vals.ref1 r1]
  obtain ⟨its, rv, pt, hz⟩ := I1.tuple hq
  refine enum_one (begins_tuple t its.toArray) pt fun h' he hit hk => wpAny_pyIter_enum he ?_
  have I2 : Inv X pins σ H1 { s1 with heap := h' } := I1.kept (t' := s1.toks) hk
  refine ⟨s1.heap.objs.size + 1, [s1.heap.objs.size + 1, s1.heap.objs.size], _, _, H1, rfl, I2, turn_enumTup t (s1.heap.objs.size + 1) s1.heap.objs.size, ⟨⟨.none, ?_⟩, ⟨_, hit, rfl, rfl⟩, Nat.succ_ne_self _, Nat.ne_of_lt pt.lt⟩, fun b hb => ?_, q⟩
  · exact he
  · have le : s1.heap.objs.size ≤ b := by
      have z : b = s1.heap.objs.size + 1 ∨ b = s1.heap.objs.size := by simpa using hb
      rcases z with rfl | rfl
      · exact Nat.le_succ _
      · exact Nat.le_refl _
    exact I1.fpOk le (I1.hok.fresh le)
def oEnum : List D → Option (List D)
  | [x] => (seqD x).map enumD
  | _ => none
theorem rp_pair {K : PySem.W.Frag} {A : Addr → Prop} {H : Hp} {T : Addr} {v u : V} {d d' : D} (t : Tr A H) (hT : H T = none) (r : Rp K A H v d) (r' : Rp K A H u d') : Rp K A (upd H T (.tup [v, u])) (.ref T) (.tuple [d, d']) :=
  Rp.newT t hT (.cons r (.cons r' .nil))
theorem rsL {K : PySem.W.Frag} {A : Addr → Prop} {H : Hp} {vs : List V} {x : D} (h : ResL K A H st vs [x]) : ∃ v, vs = [v] ∧ strongR K A H st v x := by
  cases st with
  | true =>
    cases h with
    | cons a r => cases r; exact ⟨_, rfl, a⟩
  | false =>
    cases h with
    | cons a r => cases r; exact ⟨_, rfl, a⟩
theorem rsL2 {K : PySem.W.Frag} {A : Addr → Prop} {H : Hp} {vs : List V} {x y : D} (h : ResL K A H st vs [x, y]) : ∃ v u, vs = [v, u] ∧ strongR K A H st v x ∧ strongR K A H st u y := by
  cases st with
  | true =>
    cases h with
    | cons a r =>
      cases r with
      | cons b r => cases r; exact ⟨_, _, rfl, a, b⟩
  | false =>
    cases h with
    | cons a r =>
      cases r with
      | cons b r => cases r; exact ⟨_, _, rfl, a, b⟩
theorem si_enum {tpos : Pos} {elts : List Expr} {kk : Nat} (hm : X.mg "enumerate" = none) (ha : SA X O st [a] fs) (hg : Gl X "enumerate" := by rfl) (hs : starEach [a] X.env = [(false, eval a X.env)] := by rfl) : SI X O st (.Tuple elts kk tpos) (.Call (.Name "enumerate" p) [a] [] pos) (xIt oEnum fs) := by
  refine ⟨pi_imp (pi_or (pi_enum hg hm (pa_ok ha.pa) hs) (pi_enumT hg hm (pa_ok ha.pa) hs)) fun σ H R q => ?_⟩
  obtain ⟨H0, A0, G, ρ, B, ds, S, e, k⟩ := q
  obtain ⟨d, ed, e⟩ := bind2 e
  unfold oEnum at e
  split at e
  · rename_i x
    obtain ⟨xs, ex, e⟩ := Option.map_eq_some_iff.mp e
    subst e
    unfold seqD at ex
    split at ex
    · cases ex
      refine .inl ⟨H0, A0, G, ρ, B, _, S, ed, fun vs H1 s1 r1 ok => ?_⟩
      obtain ⟨v, rfl, sr⟩ := rsL r1
      obtain ⟨t, ys, rfl, ht, rt⟩ := sr.w.lst
      refine ⟨t, ys, rfl, .of ht, k _ H1 [(.ref t, .list xs)] s1 ⟨fun A H i d tr g e => ?_, fun A H tr g => ?_⟩ (fun p hp => by rw [List.mem_singleton.mp hp]; exact sr) (by rw [enumD_len, ← rt.length]; exact ok t ys (.inl ht))⟩
      · obtain ⟨z, ez, rfl⟩ := enumD_get e
        obtain ⟨b, ys, eb, hb, rb⟩ := (g _ (List.mem_singleton.mpr rfl)).lst
        cases eb
        obtain ⟨y, ey, ry⟩ := rb.get ez
        refine ⟨⟨ys, y, .of hb, ey⟩, fun x H' hy => ?_⟩
        obtain ⟨T, u, rfl, hT, rfl, hu⟩ := hy
        have := hu ys (.of hb)
        rw [ey] at this
        cases this
        exact ⟨same_upd hT, rp_pair tr hT (.int _) ry⟩
      · obtain ⟨b, ys, eb, hb, rb⟩ := (g _ (List.mem_singleton.mpr rfl)).lst
        cases eb
        exact ⟨ys, .of hb, by rw [enumD_len, rb.length]; exact Nat.le_refl _⟩
    · cases ex
      refine .inr ⟨H0, A0, G, ρ, B, _, S, ed, fun vs H1 s1 r1 ok => ?_⟩
      obtain ⟨v, rfl, sr⟩ := rsL r1
      obtain ⟨t, ys, rfl, ht, nt, rt⟩ := sr.w.tup
      refine ⟨t, ys, rfl, .of ht, k _ H1 [(.ref t, .tuple xs)] s1 ⟨fun A H i d tr g e => ?_, fun A H tr g => ?_⟩ (fun p hp => by rw [List.mem_singleton.mp hp]; exact sr) (by rw [enumD_len, ← rt.length]; exact ok t ys (.inr ht))⟩
      · obtain ⟨z, ez, rfl⟩ := enumD_get e
        obtain ⟨b, ys, eb, hb, nb, rb⟩ := (g _ (List.mem_singleton.mpr rfl)).tup
        cases eb
        obtain ⟨y, ey, ry⟩ := rb.get ez
        refine ⟨⟨ys, y, .of hb, ey⟩, fun x H' hy => ?_⟩
        obtain ⟨T, u, rfl, hT, rfl, hu⟩ := hy
        have := hu ys (.of hb)
        rw [ey] at this
        cases this
        exact ⟨same_upd hT, rp_pair tr hT (.int _) ry⟩
      · obtain ⟨b, ys, eb, hb, nb, rb⟩ := (g _ (List.mem_singleton.mpr rfl)).tup
        cases eb
        exact ⟨ys, .of hb, by rw [enumD_len, rb.length]; exact Nat.le_refl _⟩
    · cases ex
  · cases e
/-- zip of two lists, of two tuples -/
def zipD (xs ys : List D) : List D := xs.zipWith (fun x y => .tuple [x, y]) ys
theorem zipD_get {xs ys : List D} {i : Nat} {d : D} (h : (zipD xs ys)[i]? = some d) : ∃ x y, xs[i]? = some x ∧ ys[i]? = some y ∧ d = .tuple [x, y] := by
  unfold zipD at h
  rw [List.getElem?_zipWith] at h
  cases e : xs[i]? with
  | none => rw [e] at h; cases ys[i]? <;> cases h
  | some x =>
    cases e' : ys[i]? with
    | none => rw [e, e'] at h; cases h
    | some y => rw [e, e'] at h; cases h; exact ⟨x, y, rfl, rfl, rfl⟩
theorem zipD_len (xs ys : List D) : (zipD xs ys).length = min xs.length ys.length := by simp [zipD]
def oZip : List D → Option (List D)
  | [.list xs, .list ys] => some (zipD xs ys)
  | [.tuple xs, .tuple ys] => some (zipD xs ys)
  | _ => none
theorem si_zip {tpos : Pos} {elts : List Expr} {kk : Nat} (hm : X.mg "zip" = none) (ha : SA X O st [a, b] fs) (hg : Gl X "zip" := by rfl)
    (hs : starEach [a, b] X.env = (false, eval a X.env) :: starEach [b] X.env := by rfl) (hpl : (backTo pos (starEach [b] X.env)).any (·.1) = false := by rfl) : SI X O st (.Tuple elts kk tpos) (.Call (.Name "zip" p) [a, b] [] pos) (xIt oZip fs) := by
  refine ⟨pi_imp (RZ.pi_zipA hg hm (pa_ok ha.pa) hs hpl) fun σ H R q => ?_⟩
  obtain ⟨H0, A0, G, ρ, B, ds, S, e, k⟩ := q
  obtain ⟨d, ed, e⟩ := bind2 e
  refine ⟨H0, A0, G, ρ, B, _, S, ed, fun vs H1 s1 r1 ok => ?_⟩
  unfold oZip at e
  split at e
  · cases e
    rename_i xs ys
    obtain ⟨v, u, rfl, sr, sr'⟩ := rsL2 r1
    obtain ⟨t, vs, rfl, ht, rt⟩ := sr.w.lst
    obtain ⟨t', vs', rfl, ht', rt'⟩ := sr'.w.lst
    refine ⟨t, t', vs, vs', rfl, .inl ⟨.of ht, .of ht', k _ H1 [(.ref t, .list xs), (.ref t', .list ys)] s1 ⟨fun A H i d tr g e => ?_, fun A H tr g => ?_⟩ (fun p hp => ?_) ?_⟩⟩
    · obtain ⟨x, y, ex, ey, rfl⟩ := zipD_get e
      obtain ⟨b, zs, eb, hb, rb⟩ := (g _ (List.mem_cons_self)).lst
      obtain ⟨b', zs', eb', hb', rb'⟩ := (g _ (List.mem_cons_of_mem _ List.mem_cons_self)).lst
      cases eb
      cases eb'
      obtain ⟨x1, ex1, rx1⟩ := rb.get ex
      obtain ⟨y1, ey1, ry1⟩ := rb'.get ey
      refine ⟨⟨zs, zs', x1, y1, .of hb, .of hb', ex1, ey1⟩, fun z H' hy => ?_⟩
      obtain ⟨T, u, w, rfl, hT, rfl, hu, hw⟩ := hy
      have e1 := hu zs (.of hb)
      have e2 := hw zs' (.of hb')
      rw [ex1] at e1
      rw [ey1] at e2
      cases e1
      cases e2
      exact ⟨same_upd hT, rp_pair tr hT rx1 ry1⟩
    · obtain ⟨b, zs, eb, hb, rb⟩ := (g _ (List.mem_cons_self)).lst
      obtain ⟨b', zs', eb', hb', rb'⟩ := (g _ (List.mem_cons_of_mem _ List.mem_cons_self)).lst
      cases eb
      cases eb'
      refine ⟨zs, zs', .of hb, .of hb', ?_⟩
      rw [zipD_len, rb.length, rb'.length]
      omega
    · have z : p = (.ref t, .list xs) ∨ p = (.ref t', .list ys) := by simpa using hp
      rcases z with rfl | rfl
      · exact sr
      · exact sr'
    · rw [zipD_len, ← rt.length]
      have := ok t vs (.inl ht)
      omega
  · cases e
    rename_i xs ys
    obtain ⟨v, u, rfl, sr, sr'⟩ := rsL2 r1
    obtain ⟨t, vs, rfl, ht, nt, rt⟩ := sr.w.tup
    obtain ⟨t', vs', rfl, ht', nt', rt'⟩ := sr'.w.tup
    refine ⟨t, t', vs, vs', rfl, .inr ⟨.of ht, .of ht', k _ H1 [(.ref t, .tuple xs), (.ref t', .tuple ys)] s1 ⟨fun A H i d tr g e => ?_, fun A H tr g => ?_⟩ (fun p hp => ?_) ?_⟩⟩
    · obtain ⟨x, y, ex, ey, rfl⟩ := zipD_get e
      obtain ⟨b, zs, eb, hb, nb, rb⟩ := (g _ (List.mem_cons_self)).tup
      obtain ⟨b', zs', eb', hb', nb', rb'⟩ := (g _ (List.mem_cons_of_mem _ List.mem_cons_self)).tup
      cases eb
      cases eb'
      obtain ⟨x1, ex1, rx1⟩ := rb.get ex
      obtain ⟨y1, ey1, ry1⟩ := rb'.get ey
      refine ⟨⟨zs, zs', x1, y1, .of hb, .of hb', ex1, ey1⟩, fun z H' hy => ?_⟩
      obtain ⟨T, u, w, rfl, hT, rfl, hu, hw⟩ := hy
      have e1 := hu zs (.of hb)
      have e2 := hw zs' (.of hb')
      rw [ex1] at e1
      rw [ey1] at e2
      cases e1
      cases e2
      exact ⟨same_upd hT, rp_pair tr hT rx1 ry1⟩
    · obtain ⟨b, zs, eb, hb, nb, rb⟩ := (g _ (List.mem_cons_self)).tup
      obtain ⟨b', zs', eb', hb', nb', rb'⟩ := (g _ (List.mem_cons_of_mem _ List.mem_cons_self)).tup
      cases eb
      cases eb'
      refine ⟨zs, zs', .of hb, .of hb', ?_⟩
      rw [zipD_len, rb.length, rb'.length]
      omega
    · have z : p = (.ref t, .tuple xs) ∨ p = (.ref t', .tuple ys) := by simpa using hp
      rcases z with rfl | rfl
      · exact sr
      · exact sr'
    · rw [zipD_len, ← rt.length]
      have := ok t vs (.inr ht)
      omega
  · cases e
end

end Pm

namespace Pm
open PySem PySem.Spec PyProof.Rows L2

/-! ### targets -/
abbrev XG := D → PEnv → Option PEnv
/-- the slots out of ts stand -/
def Ch (ts : List Nat) (σ σ' : L2.St) : Prop := σ'.length = σ.length ∧ ∀ i, ts.contains i = false → σ'[i]? = σ[i]?
def simG (K : PySem.W.Frag) (O O' ts : List Nat) (g : XG) : TG := fun v σ H Q => ∃ H0 A0 G ρ B d ρ', Sim K H0 A0 G O σ H ρ B ∧ Rp K (Av A0 B) H v d ∧ g d ρ = some ρ' ∧
  ∀ σ', Ch ts σ σ' → Sim K H0 A0 G O' σ' H ρ' (restr ts B) → Q σ' H
structure SG (X : Cx) (O O' ts : List Nat) (tg : Expr) (g : XG) : Prop where
  pg : PG X tg (simG X.K O O' ts g)
def simGs (K : PySem.W.Frag) (O O' ts : List Nat) (g : List D → PEnv → Option PEnv) : TGs := fun vs σ H Q => ∃ H0 A0 G ρ B ds ρ', Sim K H0 A0 G O σ H ρ B ∧ RpL K (Av A0 B) H vs ds ∧ g ds ρ = some ρ' ∧
  ∀ σ', Ch ts σ σ' → Sim K H0 A0 G O' σ' H ρ' (restr ts B) → Q σ' H
structure SGs (X : Cx) (O O' ts : List Nat) (tgs : List Expr) (g : List D → PEnv → Option PEnv) : Prop where
  pgs : PGs X tgs (simGs X.K O O' ts g)
theorem pg_imp {X : Cx} {e : Expr} {t t' : TG} (h : PG X e t) (hi : ∀ v σ H Q, t' v σ H Q → t v σ H Q) : PG X e t' := ⟨fun pins s σ H v u Q I r q => h.run pins s σ H v u Q I r (hi _ _ _ _ q)⟩
theorem pgs_imp {X : Cx} {e : List Expr} {t t' : TGs} (h : PGs X e t) (hi : ∀ v σ H Q, t' v σ H Q → t v σ H Q) : PGs X e t' := ⟨fun pins s σ H v u Q I r q => h.run pins s σ H v u Q I r (hi _ _ _ _ q)⟩
def gSet (i : Nat) : XG := fun d ρ => if i < ρ.length then some (ρ.set i (some d)) else none
def gTupD (n : Nat) (g : List D → PEnv → Option PEnv) : XG := fun d ρ => match d with
  | .tuple ds => if ds.length = n then g ds ρ else none
  | _ => none
def gsNil : List D → PEnv → Option PEnv := fun ds ρ => match ds with
  | [] => some ρ
  | _ => none
def gsCons (g : XG) (gs : List D → PEnv → Option PEnv) : List D → PEnv → Option PEnv := fun ds ρ => match ds with
  | d :: ds => (g d ρ).bind fun ρ' => gs ds ρ'
  | _ => none
theorem Ch.refl (ts : List Nat) (σ : L2.St) : Ch ts σ σ := ⟨rfl, fun _ _ => rfl⟩
theorem Ch.trans {ts us : List Nat} {σ σ' σ'' : L2.St} (h : Ch ts σ σ') (h' : Ch us σ' σ'') : Ch (ts ++ us) σ σ'' := by
  refine ⟨h'.1.trans h.1, fun i z => ?_⟩
  have e : ts.contains i = false ∧ us.contains i = false := by
    simpa [List.contains_eq_mem, not_or] using z
  exact (h'.2 i e.2).trans (h.2 i e.1)
theorem Ch.set (i : Nat) (x : Option V) (σ : L2.St) : Ch [i] σ (σ.set i x) := by
  refine ⟨List.length_set, fun j z => ?_⟩
  have e : j ≠ i := by simpa using z
  exact List.getElem?_set_ne (Ne.symm e)
section
variable {X : Cx} {O O' O'' ts us : List Nat} {tg : Expr} {tgs : List Expr} {g : XG} {gs : List D → PEnv → Option PEnv} {pos : Pos}
theorem sg_name (i : Nat) {x : Str} (hN : X.N.Nodup) (hi : X.N[i]? = some x := by rfl) (hx : Loc X.env.scope x := by first | exact Or.inl rfl | exact Or.inr rfl) (hf : X.fn x = true ∨ X.env.scope.names.lookup x = some .local := by first | exact .inl rfl | exact .inr rfl) (hO : O.filter (· != i) = O' := by rfl) : SG X O O' [i] (.Name x pos) (gSet i) := by
  refine ⟨pg_imp (pg_name hN hi hx hf) fun v σ H Q h => ?_⟩
  obtain ⟨H0, A0, G, ρ, B, d, ρ', S, r, e, k⟩ := h
  unfold gSet at e
  split at e
  · rename_i hl
    cases e
    have S' := S.setS r hl
    rw [hO] at S'
    exact k _ (Ch.set i _ σ) S'
  · cases e
theorem sgs_nil : SGs X O O [] [] gsNil := by
  refine ⟨pgs_imp pgs_nil fun v σ H Q h => ?_⟩
  obtain ⟨H0, A0, G, ρ, B, ds, ρ', S, r, e, k⟩ := h
  unfold gsNil at e
  split at e
  · cases e
    cases r
    exact ⟨rfl, k σ (Ch.refl _ _) (by rw [restr_nil]; exact S)⟩
  · cases e
theorem sgs_cons (h : SG X O O' ts tg g) (h' : SGs X O' O'' us tgs gs) (hs : (assignEach (tg :: tgs) X.env).map (·.2) = assign tg X.env :: (assignEach tgs X.env).map (·.2) := by rfl) : SGs X O O'' (ts ++ us) (tg :: tgs) (gsCons g gs) := by
  refine ⟨pgs_imp (pgs_cons h.pg h'.pgs hs) fun v σ H Q q => ?_⟩
  obtain ⟨H0, A0, G, ρ, B, ds, ρ', S, r, e, k⟩ := q
  unfold gsCons at e
  split at e
  · obtain ⟨ρ1, e1, e⟩ := bind2 e
    cases r with
    | cons r1 r2 =>
      refine ⟨_, _, rfl, H0, A0, G, ρ, B, _, ρ1, S, r1, e1, fun σ1 c1 S1 => ?_⟩
      refine ⟨H0, A0, G, ρ1, _, _, ρ', S1, r2.anti fun a z => restr_av z, e, fun σ2 c2 S2 => k σ2 (c1.trans c2) ?_⟩
      rw [restr_app] at S2
      exact S2
  · cases e
theorem sg_tup {k n : Nat} (hc : X.calm = true) (h : SGs X O O' ts tgs gs) (hn : (assignEach tgs X.env).length = n := by rfl) (hst : (assignEach tgs X.env).findIdx? (·.1) = none := by rfl) : SG X O O' ts (.Tuple tgs k pos) (gTupD n gs) := by
  refine ⟨pg_imp (pg_tup hc h.pgs hn hst) fun v σ H Q q => ?_⟩
  obtain ⟨H0, A0, G, ρ, B, d, ρ', S, r, e, k⟩ := q
  unfold gTupD at e
  split at e
  · split at e
    · rename_i hz
      cases r with
      | tup ht nt rt => exact ⟨_, _, rfl, .of ht, by rw [rt.length, hz], H0, A0, G, ρ, B, _, ρ', S, rt, e, k⟩
    · cases e
  · cases e
end

/-! ### comprehensions -/
def wipeP (ρ : PEnv) : List Nat → PEnv
  | [] => ρ
  | v :: vs => (wipeP ρ vs).set v none
theorem wipe_get (σ : L2.St) (i : Nat) : ∀ vs : List Nat, (wipe σ vs)[i]? = if vs.contains i then (if i < σ.length then some none else none) else σ[i]?
  | [] => by simp [wipe]
  | v :: vs => by
    unfold wipe
    by_cases h : v = i
    · subst h
      have hc : (v :: vs).contains v = true := by simp
      rw [hc, if_pos rfl]
      by_cases hl : v < σ.length
      · rw [List.getElem?_set_self (by rw [wipe_length]; exact hl), if_pos hl]
      · rw [if_neg hl, List.getElem?_eq_none (by rw [List.length_set, wipe_length]; omega)]
    · rw [List.getElem?_set_ne h, wipe_get σ i vs]
      have : (v :: vs).contains i = vs.contains i := by
        have h' : ¬ i = v := fun z => h z.symm
        simp [List.contains_cons, h']
      rw [this]
theorem wipe_eq {ts vs : List Nat} {σ σ2 : L2.St} (c : Ch ts (wipe σ vs) σ2) (h : ∀ i, ts.contains i = true → vs.contains i = true) : wipe σ2 vs = wipe σ vs := by
  apply List.ext_getElem?
  intro i
  have hl : σ2.length = σ.length := by rw [c.1, wipe_length]
  rw [wipe_get, wipe_get, hl]
  by_cases hv : vs.contains i = true
  · rw [if_pos hv, if_pos hv]
  · rw [if_neg hv, if_neg hv]
    have ht : ts.contains i = false := by
      cases e : ts.contains i with
      | false => rfl
      | true => exact absurd (h i e) hv
    rw [c.2 i ht, wipe_get, if_neg hv]
theorem Sim.wipe {K : PySem.W.Frag} {H0 H : Hp} {A0 : Addr → Prop} {G : List (V × D)} {O : List Nat} {σ : L2.St} {ρ : PEnv} {B : Nat → Option Addr} (S : Sim K H0 A0 G O σ H ρ B) : ∀ vs : List Nat, (∀ i ∈ vs, i ∉ O) → Sim K H0 A0 G O (wipe σ vs) H (wipeP ρ vs) B
  | [], _ => S
  | v :: vs, h => (S.wipe vs fun i hi => h i (List.mem_cons_of_mem _ hi)).drop v (h v List.mem_cons_self)
theorem restr_same {K : PySem.W.Frag} {H0 H : Hp} {A0 : Addr → Prop} {G : List (V × D)} {O : List Nat} {σ : L2.St} {ρ : PEnv} {B : Nat → Option Addr} (S : Sim K H0 A0 G O σ H ρ B) {ts : List Nat} (h : ∀ i, ts.contains i = true → i ∉ O) : restr ts B = B := by
  funext j
  unfold restr
  split
  · rename_i hj
    cases e : B j with
    | none => rfl
    | some a => exact absurd (S.bo j a e) (h j hj)
  · rfl
/-- the items made from one source -/
def lcL (g : XG) (t : PEnv → Option Bool) (f : Xp) (ρ : PEnv) : List D → Option (List D)
  | [] => some []
  | d :: ds => (g d ρ).bind fun ρ1 => (t ρ1).bind fun b => if b then (f ρ1).bind fun y => (lcL g t f ρ ds).bind fun ys => some (y :: ys) else lcL g t f ρ ds
def xLc (it : XL) (g : XG) (t : PEnv → Option Bool) (f : Xp) (own : List Nat) : Xp := fun ρ => (it ρ).bind fun ds => (lcL g t f (wipeP ρ own) ds).map .list
structure STs (X : Cx) (O : List Nat) (ifs : List Expr) (f : PEnv → Option Bool) : Prop where
  pts : PTs X ifs (simTT X.K O f)
def tYesP : PEnv → Option Bool := fun _ => some true
theorem pts_imp {X : Cx} {e : List Expr} {t t' : TT} (h : PTs X e t) (hi : ∀ σ H Q, t' σ H Q → t σ H Q) : PTs X e t' := ⟨fun pins s σ H Q I q => h.run pins s σ H Q I (hi _ _ _ q)⟩
theorem sts_nil {X : Cx} {O : List Nat} : STs X O [] tYesP := ⟨pts_imp pts_nil fun σ H Q ⟨H0, A0, G, ρ, B, b, S, e, k⟩ => by cases e; exact k H (Same.refl H)⟩
theorem sts_one {X : Cx} {O : List Nat} {c : Expr} {f : PEnv → Option Bool} (h : ST X O c f) : STs X O [c] f := ⟨pts_one h.pt⟩
theorem WRp.step {K : PySem.W.Frag} {A A' : Addr → Prop} {H H' : Hp} {v : V} {d : D} (h : WRp K A H v d) (s : Same H H') (ha : ∀ a, A' a → A a ∨ H a = none) : WRp K A' H' v d := by
  rcases h with h | ⟨a, e, h⟩
  · exact .inl (h.step (fun a o e _ => s a o e) ha)
  · exact .inr ⟨a, e, h.step (fun a o e _ => s a o e) ha fun o e => s _ o e⟩
abbrev Gd (A0 : Addr → Prop) (a : Addr) : Addr → Prop := fun b => A0 b ∨ b = a
theorem gd_av {A0 : Addr → Prop} {B : Nat → Option Addr} {a b : Addr} (h : Av (Gd A0 a) B b) : Av A0 B b ∨ b = a := by
  rcases h with (h | h) | h
  · exact .inl (.inl h)
  · exact .inr h
  · exact .inl (.inr h)
section
variable {X : Cx} {O ts : List Nat} {st : Bool} {m : Md} {tg iter elt : Expr} {ifs : List Expr} {scope : Scope} {own : List (Str × Nat)} {it : XL} {g : XG} {t : PEnv → Option Bool} {f : Xp} {pos : Pos}
theorem lc_of (hm : m ≠ .w) (hts : ∀ i, ts.contains i = true → (own.map (·.2)).contains i = true) (hO : ∀ i ∈ own.map (·.2), i ∉ O) (σ : L2.St) (H : Hp) (Q : VK) (q : simT X.K O .f (xLc it g t f (own.map (·.2))) σ H Q) :
    tLc (simI X.K O st it) (simG X.K O O ts g) (simTT X.K O t) (simT X.K O m f) (own.map (·.2)) σ H Q := by
  obtain ⟨H0, A0, G, ρ, B, d, S, e, k⟩ := q
  obtain ⟨ds, eds, e⟩ := bind2 e
  obtain ⟨ys, eys, e⟩ := Option.map_eq_some_iff.mp e
  subst e
  refine ⟨H0, A0, G, ρ, B, ds, S, eds, fun J H1 gs s1 yl gr hz Dn hD => ?_⟩
  have hts' : ∀ i, ts.contains i = true → i ∉ O := fun i hi => hO i (by simpa using hts i hi)
  -- what stands between two turns
  refine ⟨fun i n Hc => n = ds.length - i ∧ i ≤ ds.length ∧ Same H1 Hc ∧ ∃ vs pre post, Hc Dn = some (.lst vs) ∧ RpL X.K (Av (Gd A0 Dn) B) Hc vs pre ∧ pre.length ≤ i ∧ lcL g t f (wipeP ρ (own.map (·.2))) (ds.drop i) = some post ∧ ys = pre ++ post,
    ⟨ds.length, rfl, Nat.zero_le _, same_upd hD, [], [], ys, upd_same, .nil, Nat.le_refl _, eys, rfl⟩, ?_⟩
  rintro i n Hc ⟨rfl, hi, sc, vs, pre, post, hDc, rpre, hpl, epost, rfl⟩
  have Sg : Sim X.K H0 (Gd A0 Dn) G O σ Hc ρ B := (S.mono s1).guard hD sc ⟨_, hDc, NT.lst⟩
  have gw : ∀ p ∈ gs, WRp X.K (Av (Gd A0 Dn) B) Hc p.1 p.2 := fun p hp => (gr p hp).w.step sc fun a z => by
    rcases gd_av z with z | z
    · exact .inl z
    · exact .inr (by rw [z]; exact hD)
  by_cases hlt : i < ds.length
  · have ed : ds[i]? = some ds[i] := List.getElem?_eq_getElem hlt
    rw [List.drop_eq_getElem_cons hlt] at epost
    obtain ⟨hgo, hy⟩ := yl.go _ Hc i _ Sg.tr gw ed
    simp only [lcL] at epost
    obtain ⟨ρ1, eρ1, epost⟩ := bind2 epost
    obtain ⟨b, eb, epost⟩ := bind2 epost
    refine .inr ⟨hgo, fun H' => i + 1 ≤ ds.length ∧ Same H1 H' ∧ ∃ vs pre' post', H' Dn = some (.lst vs) ∧ RpL X.K (Av (Gd A0 Dn) B) H' vs pre' ∧ pre'.length ≤ i + 1 ∧ lcL g t f (wipeP ρ (own.map (·.2))) (ds.drop (i + 1)) = some post' ∧ pre ++ post = pre' ++ post', fun H' hN => ?_, fun x H' hx => ?_⟩
    · obtain ⟨h1, h2, h3⟩ := hN
      exact ⟨ds.length - (i + 1), by omega, rfl, h1, h2, h3⟩
    · obtain ⟨s2, rx⟩ := hy x H' hx
      refine ⟨H0, Gd A0 Dn, G, wipeP ρ (own.map (·.2)), B, _, ρ1, (Sg.mono s2).wipe _ hO, rx, eρ1, fun σ2 c2 S2 => ?_⟩
      rw [restr_same Sg hts'] at S2
      refine ⟨wipe_eq c2 hts, H0, Gd A0 Dn, G, ρ1, B, b, S2, eb, fun H3 s3 => ?_⟩
      cases b with
      | true =>
        rw [if_pos rfl]
        rw [if_pos rfl] at epost
        obtain ⟨y, ey, epost⟩ := bind2 epost
        obtain ⟨zs, ezs, epost⟩ := bind2 epost
        cases epost
        refine ⟨H0, Gd A0 Dn, G, ρ1, B, y, S2.mono s3, ey, fun v H4 s4 r4 => ?_⟩
        have r4' := r4.toS (S2.mono s3).tr hm
        have s24 := (s2.trans s3).trans s4
        have avD : Av (Gd A0 Dn) B Dn := .inl (.inr rfl)
        have kp : ∀ a o, H4 a = some o → ¬ Av (Gd A0 Dn) B a → upd H4 Dn (.lst (vs ++ [v])) a = some o := fun a o e n => by
          rw [upd_ne (fun z => n (by rw [z]; exact avD))]
          exact e
        refine ⟨vs, s24 _ _ hDc, ?_, by omega, fun a o e => ?_, vs ++ [v], pre ++ [y], zs, upd_same, ?_, by simp; omega, ezs, by simp⟩
        · rw [rpre.length]
          have : (16777216 : Nat) = sizeLine := rfl
          omega
        · have hne : a ≠ Dn := fun z => by rw [z, hD] at e; cases e
          rw [upd_ne hne]
          exact s24 _ _ (sc _ _ e)
        · exact RpL.app (.one (r4'.step kp fun _ z => .inl z)) ((rpre.mono s24).step kp fun _ z => .inl z)
      | false =>
        rw [if_neg Bool.false_ne_true]
        rw [if_neg Bool.false_ne_true] at epost
        have s23 := s2.trans s3
        exact ⟨by omega, sc.trans s23, vs, pre, post, s23 _ _ hDc, rpre.mono s23, by omega, epost, rfl⟩
  · have e : i = ds.length := by omega
    subst e
    refine .inl ⟨yl.stop _ Hc Sg.tr gw, ?_⟩
    rw [List.drop_length] at epost
    cases epost
    rw [List.append_nil] at k
    have hHD : H Dn = none := s1.free hD
    refine k _ Hc (s1.trans sc) (.inl ⟨Dn, rfl, hHD, .lst hDc (rpre.anti fun a z => ?_)⟩)
    rcases z with z | z
    · rcases z with z | z
      · exact .inl (.inl z)
      · exact .inr z
    · exact .inl (.inr z)
abbrev InBlk (X : Cx) (scope : Scope) (P : Cx → Prop) : Prop := ∀ (s : Shared) (H : Hp) (C : Addr) (cl : List (Str × Addr)) (fp : List Addr), P (X.blk s H scope (compEnvC scope cl C X.env) fp)
theorem se_lc (hN : X.N.Nodup) (hi : SI X O st tg iter it) (ok : BlkOk X.N X.env.scope scope own) (hg : InBlk X scope fun Y => SG Y O O ts tg g) (ht : InBlk X scope fun Y => STs Y O ifs t) (he : InBlk X scope fun Y => SE Y O m elt f)
    (hm : m ≠ .w := by decide) (hts : ts.all (fun i => (own.map (·.2)).contains i) = true := by rfl) (hO : (own.map (·.2)).all (fun i => !O.contains i) = true := by rfl) (hc : X.calm = true := by rfl) (hs : ∀ x, foldedSetIterable iter X.env x = pure x := by intro _; rfl) :
    SE X O .f (.ListComp elt [⟨tg, iter, ifs, 0⟩] scope pos) (xLc it g t f (own.map (·.2))) :=
  ⟨pe_imp (pe_lc hc hN hi.pi ok (fun s H C cl fp => (hg s H C cl fp).pg) (fun s H C cl fp => (ht s H C cl fp).pts) (fun s H C cl fp => (he s H C cl fp).pe) hs)
    (lc_of hm (fun i hi => by simpa using List.all_eq_true.mp hts i (by simpa using hi)) (fun i hi => by simpa using List.all_eq_true.mp hO i hi))⟩
end
end Pm

namespace Pm
open PySem PySem.Spec PyProof.Rows L2

/-! ### statements -/
inductive Out where
  | nx (ρ : PEnv) | rt (d : D) | bk (ρ : PEnv) | ct (ρ : PEnv)
abbrev XS := PEnv → Option Out
def PostS (K : PySem.W.Frag) (H0 : Hp) (A0 : Addr → Prop) (G : List (V × D)) (Ob Oc O' : List Nat) (D : Ends) : Out → Prop
  | .nx ρ => ∀ σ H B, Sim K H0 A0 G O' σ H ρ B → D.nx σ H
  | .rt d => ∀ v H, Same H0 H → Rp K A0 H v d → D.rt v H
  | .bk ρ => ∀ σ H B, Sim K H0 A0 G Ob σ H ρ B → D.bk σ H
  | .ct ρ => ∀ σ H B, Sim K H0 A0 G Oc σ H ρ B → D.ct σ H
def simS (K : PySem.W.Frag) (O Ob Oc O' : List Nat) (g : XS) : TS := fun D σ H => ∃ H0 A0 G ρ B o, Sim K H0 A0 G O σ H ρ B ∧ g ρ = some o ∧ PostS K H0 A0 G Ob Oc O' D o
structure SS (X : Cx) (O Ob Oc O' : List Nat) (st : Stmt) (g : XS) : Prop where
  ps : PS X st (simS X.K O Ob Oc O' g)
structure SSs (X : Cx) (O Ob Oc O' : List Nat) (st : List Stmt) (g : XS) : Prop where
  pss : PSs X st (simS X.K O Ob Oc O' g)
def sNop : XS := fun ρ => some (.nx ρ)
def sSeq (g h : XS) : XS := fun ρ => (g ρ).bind fun o => match o with
  | .nx ρ' => h ρ'
  | o => some o
section
variable {X : Cx} {O O1 O2 Ob Oc O' : List Nat} {m ma mb : Md} {st : Stmt} {sts : List Stmt} {g h : XS} {e a b c : Expr} {f fa fb : Xp} {pos pos' : Pos}
theorem sub_of (h : O1.all (fun i => O.contains i) = true) : ∀ i ∈ O1, i ∈ O := fun i hi => by simpa using List.all_eq_true.mp h i hi
theorem SS.weak (s : SS X O1 Ob Oc O' st g) (h : O1.all (fun i => O.contains i) = true := by rfl) : SS X O Ob Oc O' st g := by
  refine ⟨ps_imp s.ps fun D σ H q => ?_⟩
  obtain ⟨H0, A0, G, ρ, B, o, S, e, k⟩ := q
  obtain ⟨B', S'⟩ := S.weak (sub_of h)
  exact ⟨H0, A0, G, ρ, B', o, S', e, k⟩
theorem SSs.weak (s : SSs X O1 Ob Oc O' sts g) (h : O1.all (fun i => O.contains i) = true := by rfl) : SSs X O Ob Oc O' sts g := by
  refine ⟨pss_imp s.pss fun D σ H q => ?_⟩
  obtain ⟨H0, A0, G, ρ, B, o, S, e, k⟩ := q
  obtain ⟨B', S'⟩ := S.weak (sub_of h)
  exact ⟨H0, A0, G, ρ, B', o, S', e, k⟩
/-- an empty block; the own slots may be fewer behind it -/
theorem ss_nil (h : O'.all (fun i => O.contains i) = true := by rfl) : SSs X O Ob Oc O' [] sNop := by
  refine ⟨pss_imp pss_nil fun D σ H q => ?_⟩
  obtain ⟨H0, A0, G, ρ, B, o, S, e, k⟩ := q
  cases e
  obtain ⟨B', S'⟩ := S.weak (sub_of h)
  exact k σ H B' S'
theorem ss_cons (h1 : SS X O Ob Oc O1 st g) (h2 : SSs X O1 Ob Oc O' sts h) : SSs X O Ob Oc O' (st :: sts) (sSeq g h) := by
  refine ⟨pss_imp (pss_cons h1.ps h2.pss) fun D σ H q => ?_⟩
  obtain ⟨H0, A0, G, ρ, B, o, S, e, k⟩ := q
  obtain ⟨o1, e1, e⟩ := bind2 e
  refine ⟨H0, A0, G, ρ, B, o1, S, e1, ?_⟩
  cases o1 with
  | nx ρ1 => exact fun σ1 H1 B1 S1 => ⟨H0, A0, G, ρ1, B1, o, S1, e, k⟩
  | rt d => cases e; exact k
  | bk ρ1 => cases e; exact k
  | ct ρ1 => cases e; exact k
theorem ss_last (h1 : SS X O Ob Oc O' st g) : SSs X O Ob Oc O' [st] g := ⟨pss_one h1.ps⟩
def sBrk : XS := fun ρ => some (.bk ρ)
def sCnt : XS := fun ρ => some (.ct ρ)
theorem ss_pass (h : O'.all (fun i => O.contains i) = true := by rfl) : SS X O Ob Oc O' (.Pass pos) sNop := by
  refine ⟨ps_imp ps_pass fun D σ H q => ?_⟩
  obtain ⟨H0, A0, G, ρ, B, o, S, e, k⟩ := q
  cases e
  obtain ⟨B', S'⟩ := S.weak (sub_of h)
  exact k σ H B' S'
theorem ss_break (h : Ob.all (fun i => O.contains i) = true := by rfl) : SS X O Ob Oc O' (.Break pos) sBrk := by
  refine ⟨ps_imp ps_break fun D σ H q => ?_⟩
  obtain ⟨H0, A0, G, ρ, B, o, S, e, k⟩ := q
  cases e
  obtain ⟨B', S'⟩ := S.weak (sub_of h)
  exact k σ H B' S'
theorem ss_cont (h : Oc.all (fun i => O.contains i) = true := by rfl) : SS X O Ob Oc O' (.Continue pos) sCnt := by
  refine ⟨ps_imp ps_continue fun D σ H q => ?_⟩
  obtain ⟨H0, A0, G, ρ, B, o, S, e, k⟩ := q
  cases e
  obtain ⟨B', S'⟩ := S.weak (sub_of h)
  exact k σ H B' S'
def sRet (f : Xp) : XS := fun ρ => (f ρ).map .rt
theorem ss_ret (he : SE X O m e f) (hm : m ≠ .w := by decide) : SS X O Ob Oc O' (.Return (some e) pos) (sRet f) := by
  refine ⟨ps_imp (ps_ret he.pe) fun D σ H q => ?_⟩
  obtain ⟨H0, A0, G, ρ, B, o, S, e, k⟩ := q
  obtain ⟨d, ed, e⟩ := Option.map_eq_some_iff.mp e
  subst e
  exact ⟨H0, A0, G, ρ, B, d, S, ed, fun v H' s r => k v H' (S.same.trans s) ((r.toS S.tr hm).anti fun a z => .inl z)⟩
theorem ss_retN : SS X O Ob Oc O' (.Return none pos) (sRet (xC .none)) := by
  refine ⟨ps_imp ps_retN fun D σ H q => ?_⟩
  obtain ⟨H0, A0, G, ρ, B, o, S, e, k⟩ := q
  cases e
  exact k .non H S.same .non
def sIf (c : PEnv → Option Bool) (g h : XS) : XS := fun ρ => (c ρ).bind fun b => if b then g ρ else h ρ
theorem ss_if {c : Expr} {tc : PEnv → Option Bool} {p q : List Stmt} (hc : ST X O c tc) (hp : SSs X O Ob Oc O' p g) (hq : SSs X O Ob Oc O' q h) : SS X O Ob Oc O' (.If c p q pos) (sIf tc g h) := by
  refine ⟨ps_imp (ps_if hc.pt hp.pss hq.pss) fun D σ H q => ?_⟩
  obtain ⟨H0, A0, G, ρ, B, o, S, e, k⟩ := q
  obtain ⟨b, eb, e⟩ := bind2 e
  refine ⟨H0, A0, G, ρ, B, b, S, eb, fun H1 s1 => ?_⟩
  cases b with
  | true => exact ⟨H0, A0, G, ρ, B, o, S.mono s1, e, k⟩
  | false => exact ⟨H0, A0, G, ρ, B, o, S.mono s1, e, k⟩

/-! ### a name takes a value -/
def sSet (i : Nat) (f : Xp) : XS := fun ρ => (f ρ).bind fun d => if i < ρ.length then some (.nx (ρ.set i (some d))) else none
theorem Sim.grow {K : PySem.W.Frag} {H0 H : Hp} {A0 : Addr → Prop} {G : List (V × D)} {σ : L2.St} {ρ : PEnv} {B : Nat → Option Addr} {i : Nat} (S : Sim K H0 A0 G (O.filter (· != i)) σ H ρ B) (h : ∀ d, ρ[i]? = some (some d) → isMut d = false) : Sim K H0 A0 G (i :: O) σ H ρ B := by
  refine ⟨S.same, S.a0, S.len, fun j a e => List.mem_cons_of_mem _ (List.mem_filter.mp (S.bo j a e)).1, S.inj, S.fr, fun j d hj e m => ?_, S.slot, S.gs⟩
  by_cases hji : j = i
  · subst hji
    rw [h d e] at m
    cases m
  · rcases List.mem_cons.mp hj with hj | hj
    · exact absurd hj hji
    · exact S.ob j d (List.mem_filter.mpr ⟨hj, by simpa using hji⟩) e m
theorem setf_of {D : Ends} {i : Nat} (σ : L2.St) (H : Hp) (q : simS X.K O Ob Oc (i :: O) (sSet i f) D σ H) : tAsg (simT X.K O .f f) (gName i) D σ H := by
  obtain ⟨H0, A0, G, ρ, B, o, S, e, k⟩ := q
  obtain ⟨d, ed, e⟩ := bind2 e
  split at e
  · rename_i hl
    cases e
    refine ⟨H0, A0, G, ρ, B, d, S, ed, fun v H1 s1 r1 => ?_⟩
    rcases r1 with ⟨a, rfl, hn, r1⟩ | ⟨r1, nm⟩
    · obtain ⟨B', S'⟩ := S.setF s1 hn r1 hl
      exact k _ H1 B' S'
    · have S' := (S.mono s1).setS r1 hl
      refine k _ H1 _ (S'.grow fun d' e' => ?_)
      rw [List.getElem?_set_self hl] at e'
      cases e'
      exact nm
  · cases e
theorem ss_setF (i : Nat) {x : Str} {O' : List Nat} (hN : X.N.Nodup) (he : SE X O .f e f) (hi : X.N[i]? = some x := by rfl) (hx : Loc X.env.scope x := by first | exact Or.inl rfl | exact Or.inr rfl) (hs : swapsWith e (some (.Name x pos')) pos.line X.env = pure false := by rfl) (hf : X.fn x = true ∨ X.env.scope.names.lookup x = some .local := by first | exact .inl rfl | exact .inr rfl)
    (hO : i :: O = O' := by rfl) : SS X O Ob Oc O' (.Assign [.Name x pos'] e pos) (sSet i f) := by
  subst hO
  exact ⟨ps_imp (ps_set hN hi hx he.pe hs hf) fun D σ H q => setf_of σ H q⟩
theorem ss_setS (i : Nat) {x : Str} (hN : X.N.Nodup) (he : SE X O m e f) (hm : m ≠ .w := by decide) (hi : X.N[i]? = some x := by rfl) (hx : Loc X.env.scope x := by first | exact Or.inl rfl | exact Or.inr rfl) (hs : swapsWith e (some (.Name x pos')) pos.line X.env = pure false := by rfl) (hf : X.fn x = true ∨ X.env.scope.names.lookup x = some .local := by first | exact .inl rfl | exact .inr rfl)
    (hO : O.filter (· != i) = O' := by rfl) : SS X O Ob Oc O' (.Assign [.Name x pos'] e pos) (sSet i f) := by
  refine ⟨ps_imp (ps_set hN hi hx he.pe hs hf) fun D σ H q => ?_⟩
  obtain ⟨H0, A0, G, ρ, B, o, S, e, k⟩ := q
  obtain ⟨d, ed, e⟩ := bind2 e
  split at e
  · rename_i hl
    cases e
    refine ⟨H0, A0, G, ρ, B, d, S, ed, fun v H1 s1 r1 => ?_⟩
    have S' := (S.mono s1).setS ((r1.toS S.tr hm)) hl
    rw [hO] at S'
    exact k _ H1 _ S'
  · cases e
/-- x = [..] -/
theorem ss_setLc (i : Nat) {y : Str} {py : Pos} {ts : List Nat} {sf : Bool} {tg iter elt : Expr} {ifs : List Expr} {scope : Scope} {own : List (Str × Nat)} {it : XL} {gg : D → PEnv → Option PEnv} {t : PEnv → Option Bool} {spos : Pos} {O' : List Nat}
    (hN : X.N.Nodup) (hi : SI X O sf tg iter it) (ok : BlkOk X.N X.env.scope scope own) (hg : InBlk X scope fun Y => SG Y O O ts tg gg) (ht : InBlk X scope fun Y => STs Y O ifs t) (he : InBlk X scope fun Y => SE Y O m elt f)
    (hm : m ≠ .w := by decide) (hy : X.N[i]? = some y := by rfl) (hyl : X.env.scope.names.lookup y = some .local := by rfl) (hsw : swapsWith (.ListComp elt [⟨tg, iter, ifs, 0⟩] scope pos) (some (.Name y py)) spos.line X.env = pure true := by exact sw_true rfl rfl rfl (by decide +kernel))
    (hts : ts.all (fun i => (own.map (·.2)).contains i) = true := by rfl) (hO : (own.map (·.2)).all (fun i => !O.contains i) = true := by rfl) (hc : X.calm = true := by rfl) (hs : ∀ x, foldedSetIterable iter X.env x = pure x := by intro _; rfl) (hO' : i :: O = O' := by rfl) :
    SS X O Ob Oc O' (.Assign [.Name y py] (.ListComp elt [⟨tg, iter, ifs, 0⟩] scope pos) spos) (sSet i (xLc it gg t f (own.map (·.2)))) := by
  subst hO'
  refine ⟨ps_imp (ps_setLc (wi := simI X.K O sf it) (g := simG X.K O O ts gg) (tt := simTT X.K O t) (te := simT X.K O m f) hc hN hy hyl hsw hi.pi ok (fun s H C cl fp => (hg s H C cl fp).pg) (fun s H C cl fp => (ht s H C cl fp).pts) (fun s H C cl fp => (he s H C cl fp).pe) hs) fun D σ H q => ?_⟩
  exact lc_of hm (fun i hi => by simpa using List.all_eq_true.mp hts i (by simpa using hi)) (fun i hi => by simpa using List.all_eq_true.mp hO i hi) σ H _ (setf_of σ H q)
/-- a, b = e -/
def sTgt (g : D → PEnv → Option PEnv) (f : Xp) : XS := fun ρ => (f ρ).bind fun d => (g d ρ).map .nx
theorem ss_tgt {tg : Expr} {ts : List Nat} {gg : D → PEnv → Option PEnv} (he : SE X O m e f) (hg : SG X O O' ts tg gg) (hm : m ≠ .w := by decide) (hs : swapsWithSole [tg] e pos.line X.env = pure false := by rfl) (hw : swappedStores [tg] e X.env = pure none := by rfl)
    (h1 : (assignEach [tg] X.env).map (·.2) = [assign tg X.env] := by rfl) : SS X O Ob Oc O' (.Assign [tg] e pos) (sTgt gg f) := by
  refine ⟨ps_imp (ps_asg he.pe hg.pg hs hw h1) fun D σ H q => ?_⟩
  obtain ⟨H0, A0, G, ρ, B, o, S, e, k⟩ := q
  obtain ⟨d, ed, e⟩ := bind2 e
  obtain ⟨ρ', eρ, e⟩ := Option.map_eq_some_iff.mp e
  subst e
  refine ⟨H0, A0, G, ρ, B, d, S, ed, fun v H1 s1 r1 => ?_⟩
  exact ⟨H0, A0, G, ρ, B, d, ρ', S.mono s1, (r1.toS S.tr hm), eρ, fun σ' _ S' => k σ' H1 _ S'⟩
/-- x op= e -/
def sAug (i : Nat) (g : D → D → Option D) (f : Xp) : XS := fun ρ => (xVar i ρ).bind fun x => (f ρ).bind fun y => (g x y).bind fun z => if i < ρ.length then some (.nx (ρ.set i (some z))) else none
theorem ss_aug (i : Nat) {x : Str} {op : Operator} {g : D → D → Option D} (hN : X.N.Nodup) (ho : OpR X (inplaceOp op) (rD X.K .f g)) (he : SE X O m e f) (hni : O.contains i = false := by rfl) (hi : X.N[i]? = some x := by rfl) (hx : Loc X.env.scope x := by first | exact Or.inl rfl | exact Or.inr rfl) (hf : X.fn x = true ∨ X.env.scope.names.lookup x = some .local := by first | exact .inl rfl | exact .inr rfl) :
    SS X O Ob Oc (O.filter (· != i)) (.AugAssign (.Name x pos') op e pos) (sAug i g f) := by
  refine ⟨ps_imp (ps_aug hN hi hx he.pe (ti := rD X.K .f g) ho hf) fun D σ H q => ?_⟩
  obtain ⟨H0, A0, G, ρ, B, o, S, e, k⟩ := q
  obtain ⟨d, ed, e⟩ := bind2 e
  obtain ⟨y, ey, e⟩ := bind2 e
  obtain ⟨z, ez, e⟩ := bind2 e
  split at e
  · rename_i hl
    cases e
    rcases S.slot i d (getD_some ed) with ⟨a, h1, _, _⟩ | ⟨_, v, h2, h3⟩
    · have := S.bo i a h1
      simp at hni
      exact absurd this hni
    refine ⟨v, h2, H0, A0, G, ρ, B, y, S, ey, fun u H1 s1 r1 => ⟨Av A0 B, d, y, z, (S.mono s1).tr, .inl (h3.mono s1), r1.toW, ez, fun w H2 s2 r2 => ?_⟩⟩
    have S2 := S.mono (s1.trans s2)
    exact k _ H2 _ (S2.setS (r2.toS (S.mono s1).tr (by decide)) hl)
  · cases e

/-! ### an own list changes -/
def sApp (i : Nat) (f : Xp) : XS := fun ρ => (xVar i ρ).bind fun x => (f ρ).bind fun y => match x with
  | .list xs => if xs.length < 16777216 ∧ i < ρ.length then some (.nx (ρ.set i (some (.list (xs ++ [y]))))) else none
  | _ => none
theorem own_of {K : PySem.W.Frag} {H0 H : Hp} {A0 : Addr → Prop} {G : List (V × D)} {σ : L2.St} {ρ : PEnv} {B : Nat → Option Addr} {i : Nat} {xs : List D} (S : Sim K H0 A0 G O σ H ρ B) (hi : O.contains i = true) (e : xVar i ρ = some (.list xs)) : ∃ a vs, B i = some a ∧ σ[i]? = some (some (.ref a)) ∧ H a = some (.lst vs) ∧ RpL K (Av A0 B) H vs xs := by
  obtain ⟨a, h1, h2, h3⟩ := S.ob i _ (by simpa using hi) (getD_some e) rfl
  cases h3 with
  | lst h r => exact ⟨a, _, h1, h2, h, r⟩
theorem upd_lst {K : PySem.W.Frag} {H : Hp} {A : Addr → Prop} {a : Addr} {vs : List V} {ds : List D} (ha : A a) (r : RpL K A H vs ds) : Tp K A (upd H a (.lst vs)) a (.list ds) := by
  refine .lst upd_same (r.step (fun b o e n => ?_) fun _ z => .inl z)
  rw [upd_ne (fun z => n (by rw [z]; exact ha))]
  exact e
theorem ss_app (i : Nat) {x : Str} {apos p1 cpos : Pos} (he : SE X O m e f) (hm : m ≠ .w := by decide) (hO : O.contains i = true := by rfl) (hN : X.N[i]? = some x := by rfl) (hv : Vis X.env.scope x := by first | exact Or.inl rfl | exact Or.inr (Or.inl rfl) | exact Or.inr (Or.inr rfl))
    (hd : (x == ("__debug__" : Str)) = false := by decide) (hcd : (x == ("__classdict__" : Str)) = false := by decide) (hbase : attributeBase (.Name x p1) "append" X.env (eval (.Name x p1) X.env) = eval (.Name x p1) X.env := by rfl)
    (hfew : ((backTo cpos (starEach (e :: []) X.env)).all (fun x => !x.1) && (backToKw cpos (keywordEach [] X.env)).all (fun x => x.1.isSome) && decide ((e :: ([] : List Expr)).length + ([] : List Keyword).length + (if ([] : List Keyword).isEmpty then 0 else 1) < 30)) = true := by rfl)
    (hline : (apos.endLine == cpos.line) = true := by rfl) (hs : starEach (e :: []) X.env = (false, eval e X.env) :: starEach [] X.env := by rfl) (hplain : (backTo cpos (starEach [] X.env)).any (·.1) = false := by rfl)
    (hsw : swapsWith (.Call (.Attribute (.Name x p1) "append" apos) [e] [] cpos) none pos.line X.env = pure false := by rfl) : SS X O Ob Oc O (.Expr (.Call (.Attribute (.Name x p1) "append" apos) [e] [] cpos) pos) (sApp i f) := by
  refine ⟨ps_imp (ps_expr (pe_bm PySem.F.plainAttrs_list PySem.F.slot_list_append PySem.F.type_list_append mt_append (pe_var hN hv hd hcd) (pa_cons he.pe pa_nil hs) hbase hfew hline hs hplain) hsw) fun D σ H q => ?_⟩
  obtain ⟨H0, A0, G, ρ, B, o, S, e, k⟩ := q
  obtain ⟨d, ed, e⟩ := bind2 e
  obtain ⟨y, ey, e⟩ := bind2 e
  split at e
  · split at e
    · rename_i hz
      cases e
      obtain ⟨a, vs, hB, hσ, ha, ra⟩ := own_of S hO ed
      refine ⟨.ref a, hσ, .inl ⟨rfl, _, .of ha⟩, H0, A0, G, ρ, B, y, S, ey, fun v H1 s1 r1 => ?_⟩
      have S1 := S.mono s1
      refine ⟨a, vs, v, rfl, rfl, s1 _ _ ha, by rw [ra.length]; exact hz.1, ?_⟩
      have av : Av A0 B a := .inr ⟨i, hB⟩
      exact k _ _ B (S1.write hB hσ (upd_lst av (RpL.app (.one (r1.toS S.tr hm)) (ra.mono s1))) hz.2)
    · cases e
  · cases e
def sExt (i : Nat) (f : Xp) : XS := fun ρ => (xVar i ρ).bind fun x => (f ρ).bind fun y => match x, y with
  | .list xs, .list ys => if xs.length + ys.length ≤ 16777216 ∧ i < ρ.length then some (.nx (ρ.set i (some (.list (xs ++ ys))))) else none
  | _, _ => none
theorem ss_ext (i : Nat) {x : Str} {apos p1 cpos : Pos} (he : SE X O m e f) (hO : O.contains i = true := by rfl) (hN : X.N[i]? = some x := by rfl) (hv : Vis X.env.scope x := by first | exact Or.inl rfl | exact Or.inr (Or.inl rfl) | exact Or.inr (Or.inr rfl))
    (hd : (x == ("__debug__" : Str)) = false := by decide) (hcd : (x == ("__classdict__" : Str)) = false := by decide) (hbase : attributeBase (.Name x p1) "extend" X.env (eval (.Name x p1) X.env) = eval (.Name x p1) X.env := by rfl)
    (hfew : ((backTo cpos (starEach (e :: []) X.env)).all (fun x => !x.1) && (backToKw cpos (keywordEach [] X.env)).all (fun x => x.1.isSome) && decide ((e :: ([] : List Expr)).length + ([] : List Keyword).length + (if ([] : List Keyword).isEmpty then 0 else 1) < 30)) = true := by rfl)
    (hline : (apos.endLine == cpos.line) = true := by rfl) (hs : starEach (e :: []) X.env = (false, eval e X.env) :: starEach [] X.env := by rfl) (hplain : (backTo cpos (starEach [] X.env)).any (·.1) = false := by rfl)
    (hsw : swapsWith (.Call (.Attribute (.Name x p1) "extend" apos) [e] [] cpos) none pos.line X.env = pure false := by rfl) : SS X O Ob Oc O (.Expr (.Call (.Attribute (.Name x p1) "extend" apos) [e] [] cpos) pos) (sExt i f) := by
  refine ⟨ps_imp (ps_expr (pe_bm PySem.F.plainAttrs_list PySem.F.slot_list_extend PySem.F.type_list_extend mt_extend (pe_var hN hv hd hcd) (pa_cons he.pe pa_nil hs) hbase hfew hline hs hplain) hsw) fun D σ H q => ?_⟩
  obtain ⟨H0, A0, G, ρ, B, o, S, e, k⟩ := q
  obtain ⟨d, ed, e⟩ := bind2 e
  obtain ⟨y, ey, e⟩ := bind2 e
  split at e
  · split at e
    · rename_i hz
      cases e
      obtain ⟨a, vs, hB, hσ, ha, ra⟩ := own_of S hO ed
      refine ⟨.ref a, hσ, .inl ⟨rfl, _, .of ha⟩, H0, A0, G, ρ, B, _, S, ey, fun v H1 s1 r1 => ?_⟩
      have S1 := S.mono s1
      obtain ⟨b, zs, rfl, hb, rb⟩ := r1.toW.lst
      refine ⟨a, b, vs, zs, rfl, rfl, s1 _ _ ha, hb, by rw [ra.length, rb.length]; exact hz.1, ?_⟩
      have av : Av A0 B a := .inr ⟨i, hB⟩
      exact k _ _ B (S1.write hB hσ (upd_lst av (RpL.app rb (ra.mono s1))) hz.2)
    · cases e
  · cases e
/-- x[j] = e -/
def sPut (i : Nat) (fj f : Xp) : XS := fun ρ => (f ρ).bind fun y => (xVar i ρ).bind fun x => (fj ρ).bind fun j => match x, j with
  | .list xs, .int j => (ixN xs.length j).bind fun n => if i < ρ.length then some (.nx (ρ.set i (some (.list (xs.set n y))))) else none
  | _, _ => none
theorem ss_put (i : Nat) {x : Str} {p1 p2 : Pos} {j : Expr} {fj : Xp} (he : SE X O m e f) (hj : SE X O mb j fj) (hm : m ≠ .w := by decide) (hO : O.contains i = true := by rfl) (hN : X.N[i]? = some x := by rfl) (hv : Vis X.env.scope x := by first | exact Or.inl rfl | exact Or.inr (Or.inl rfl) | exact Or.inr (Or.inr rfl))
    (hd : (x == ("__debug__" : Str)) = false := by decide) (hcd : (x == ("__classdict__" : Str)) = false := by decide)
    (ha : ∀ v, assign (.Subscript (.Name x p1) j p2) X.env v = (do
      let ov ← holding [v] (eval (.Name x p1) X.env)
      let iv ← holding [v, ov] (eval j X.env)
      standAt p2
      holding [v, ov, iv] (setItem ov iv v)
      release [v, ov, iv] []) := by intro _; rfl)
    (hs : swapsWithSole [.Subscript (.Name x p1) j p2] e pos.line X.env = pure false := by rfl) (hw : swappedStores [.Subscript (.Name x p1) j p2] e X.env = pure none := by rfl)
    (h1 : (assignEach [.Subscript (.Name x p1) j p2] X.env).map (·.2) = [assign (.Subscript (.Name x p1) j p2) X.env] := by rfl) : SS X O Ob Oc O (.Assign [.Subscript (.Name x p1) j p2] e pos) (sPut i fj f) := by
  refine ⟨ps_imp (ps_asg he.pe (pg_sub (pe_var hN hv hd hcd) hj.pe set_list ha) hs hw h1) fun D σ H q => ?_⟩
  obtain ⟨H0, A0, G, ρ, B, o, S, e, k⟩ := q
  obtain ⟨y, ey, e⟩ := bind2 e
  obtain ⟨d, ed, e⟩ := bind2 e
  obtain ⟨z, ez, e⟩ := bind2 e
  split at e
  · obtain ⟨n, en, e⟩ := bind2 e
    split at e
    · rename_i hz
      cases e
      obtain ⟨a, vs, hB, hσ, ha, ra⟩ := own_of S hO ed
      refine ⟨H0, A0, G, ρ, B, y, S, ey, fun v H1 s1 r1 => ⟨.ref a, hσ, H0, A0, G, ρ, B, _, S.mono s1, ez, fun u H2 s2 r2 => ?_⟩⟩
      have s12 := s1.trans s2
      have S1 := S.mono s12
      refine ⟨a, vs, _, n, rfl, r2.toW.int, s12 _ _ ha, by rw [ra.length]; exact en, ?_⟩
      have av : Av A0 B a := .inr ⟨i, hB⟩
      exact k _ _ B (S1.write hB hσ (upd_lst av (RpL.set ((r1.toS S.tr hm).mono s2) n (ra.mono s12))) hz)
    · cases e
  · cases e

/-! ### loops -/
def forL (g : D → PEnv → Option PEnv) (b : XS) : List D → XS
  | [], ρ => some (.nx ρ)
  | d :: ds, ρ => (g d ρ).bind fun ρ1 => (b ρ1).bind fun o => match o with
    | .nx ρ2 => forL g b ds ρ2
    | .ct ρ2 => forL g b ds ρ2
    | .bk ρ2 => some (.nx ρ2)
    | .rt d => some (.rt d)
def sFor (it : XL) (g : D → PEnv → Option PEnv) (b : XS) : XS := fun ρ => (it ρ).bind fun ds => forL g b ds ρ
theorem ss_for {tg iter : Expr} {body : List Stmt} {ts : List Nat} {it : XL} {gg : D → PEnv → Option PEnv} (hi : SI X O true tg iter it) (hg : SG X O O1 ts tg gg) (hb : SSs X O1 O' O O body g)
    (hsub : O'.all (fun i => O.contains i) = true := by rfl) (hp : PassesOwn (model X.prog X.w) X.A X.env X.xe := by exact PassesOwn.never) (hc : X.calm = true := by rfl) (hs : ∀ x, foldedSetIterable iter X.env x = pure x := by intro _; rfl) : SS X O Ob Oc O' (.For tg iter body [] pos) (sFor it gg g) := by
  refine ⟨ps_imp (ps_for hp hc hi.pi hg.pg hb.pss hs) fun D σ H q => ?_⟩
  obtain ⟨H0, A0, G, ρ, B, o, S, e, k⟩ := q
  obtain ⟨ds, eds, e⟩ := bind2 e
  refine ⟨H0, A0, G, ρ, B, ds, S, eds, fun J H1 gs s1 yl gr hz => ?_⟩
  have Sg := (S.mono s1).ghost (G' := gs) fun p hp => gr p hp
  refine ⟨fun i n σi Hi => n = ds.length - i ∧ i ≤ ds.length ∧ ∃ ρi Bi, Sim X.K H0 A0 (gs ++ G) O σi Hi ρi Bi ∧ forL gg g (ds.drop i) ρi = some o, ⟨ds.length, rfl, Nat.zero_le _, ρ, B, Sg, e⟩, ?_⟩
  rintro i n σi Hi ⟨rfl, hi, ρi, Bi, Si, ei⟩
  have gw : ∀ p ∈ gs, WRp X.K (Av A0 Bi) Hi p.1 p.2 := fun p hp => .inl (Si.gs p (List.mem_append_left _ hp))
  by_cases hlt : i < ds.length
  · have ed : ds[i]? = some ds[i] := List.getElem?_eq_getElem hlt
    rw [List.drop_eq_getElem_cons hlt] at ei
    simp only [forL] at ei
    obtain ⟨ρ1, eρ1, ei⟩ := bind2 ei
    obtain ⟨o1, eo1, ei⟩ := bind2 ei
    obtain ⟨hgo, hy⟩ := yl.go _ Hi i _ Si.tr gw ed
    refine .inr ⟨hgo, fun σ' H' => i + 1 ≤ ds.length ∧ ∃ ρ' B', Sim X.K H0 A0 (gs ++ G) O σ' H' ρ' B' ∧ forL gg g (ds.drop (i + 1)) ρ' = some o, fun σ' H' hN => ⟨ds.length - (i + 1), by omega, rfl, hN.1, hN.2⟩, fun x H' hx => ?_⟩
    obtain ⟨s2, rx⟩ := hy x H' hx
    refine ⟨H0, A0, gs ++ G, ρi, Bi, _, ρ1, Si.mono s2, rx, eρ1, fun σ2 _ S2 => ⟨H0, A0, gs ++ G, ρ1, _, o1, S2, eo1, ?_⟩⟩
    cases o1 with
    | nx ρ2 => exact fun σ3 H3 B3 S3 => ⟨by omega, ρ2, B3, S3, ei⟩
    | ct ρ2 => exact fun σ3 H3 B3 S3 => ⟨by omega, ρ2, B3, S3, ei⟩
    | bk ρ2 => cases ei; exact fun σ3 H3 B3 S3 => k σ3 H3 B3 S3.unghost
    | rt d => cases ei; exact k
  · have e' : i = ds.length := by omega
    subst e'
    rw [List.drop_length] at ei
    cases ei
    obtain ⟨B', S'⟩ := Si.unghost.weak (sub_of hsub)
    exact .inl ⟨yl.stop _ Hi Si.tr gw, k σi Hi B' S'⟩
def whileF (c : PEnv → Option Bool) (b : XS) : Nat → XS
  | 0, _ => none
  | n + 1, ρ => (c ρ).bind fun t => if t then (b ρ).bind fun o => match o with
      | .nx ρ2 => whileF c b n ρ2
      | .ct ρ2 => whileF c b n ρ2
      | .bk ρ2 => some (.nx ρ2)
      | .rt d => some (.rt d)
    else some (.nx ρ)
/-- at most so many turns -/
def fuelN : Nat := 2 ^ 2000
def sWhile (c : PEnv → Option Bool) (b : XS) : XS := whileF c b fuelN
theorem ss_while {c : Expr} {body : List Stmt} {tc : PEnv → Option Bool} (hc : ST X O c tc) (hb : SSs X O O' O O body g) (hsub : O'.all (fun i => O.contains i) = true := by rfl) (hp : PassesOwn (model X.prog X.w) X.A X.env X.xe := by exact PassesOwn.never) : SS X O Ob Oc O' (.While c body [] pos) (sWhile tc g) := by
  refine ⟨ps_imp (ps_while hp hc.pt hb.pss) fun D σ H q => ?_⟩
  obtain ⟨H0, A0, G, ρ, B, o, S, e, k⟩ := q
  refine ⟨fun n σi Hi => ∃ ρi Bi, Sim X.K H0 A0 G O σi Hi ρi Bi ∧ whileF tc g n ρi = some o, ⟨fuelN, ρ, B, S, e⟩, ?_⟩
  rintro n σi Hi ⟨ρi, Bi, Si, ei⟩
  cases n with
  | zero => cases ei
  | succ n =>
    simp only [whileF] at ei
    obtain ⟨t, et, ei⟩ := bind2 ei
    refine ⟨H0, A0, G, ρi, Bi, t, Si, et, fun H1 s1 => ?_⟩
    cases t with
    | true =>
      rw [if_pos rfl] at ei ⊢
      obtain ⟨o1, eo1, ei⟩ := bind2 ei
      refine ⟨fun σ' H' => ∃ ρ' B', Sim X.K H0 A0 G O σ' H' ρ' B' ∧ whileF tc g n ρ' = some o, fun σ' H' hN => ⟨n, Nat.lt_succ_self _, hN⟩, H0, A0, G, ρi, Bi, o1, Si.mono s1, eo1, ?_⟩
      cases o1 with
      | nx ρ2 => exact fun σ3 H3 B3 S3 => ⟨ρ2, B3, S3, ei⟩
      | ct ρ2 => exact fun σ3 H3 B3 S3 => ⟨ρ2, B3, S3, ei⟩
      | bk ρ2 => cases ei; exact k
      | rt d => cases ei; exact k
    | false =>
      rw [if_neg Bool.false_ne_true] at ei ⊢
      cases ei
      obtain ⟨B', S'⟩ := (Si.mono s1).weak (sub_of hsub)
      exact k σi H1 B' S'
end

/-! ### a def's body -/
def runD (n N : Nat) (g : XS) : List D → Option D := fun ds => (g (ds.map some ++ List.replicate (N - n) none)).bind fun o => match o with
  | .nx _ => some .none
  | .rt d => some d
  | _ => none
theorem sim_start {K : PySem.W.Frag} {A : Addr → Prop} {H : Hp} {vs : List V} {ds : List D} {N : List Str} {n : Nat} (t : Tr A H) (r : RpL K A H vs ds) (hn : vs.length = n) : Sim K H A [] [] (start N vs) H (ds.map some ++ List.replicate (N.length - n) none) (fun _ => none) := by
  refine ⟨Same.refl H, t, ?_, fun i a e => (nomatch e), fun i j a e => (nomatch e), fun i a e => (nomatch e), fun i d hi => (nomatch hi), fun i d e => ?_, fun p hp => (nomatch hp)⟩
  · unfold L2.start
    simp [r.length, hn.symm]
  · refine .inr ⟨rfl, ?_⟩
    by_cases hi : i < ds.length
    · rw [List.getElem?_append_left (by simpa using hi), List.getElem?_map] at e
      rw [List.getElem?_eq_getElem hi] at e
      cases e
      obtain ⟨v, ev, rv⟩ := r.get (List.getElem?_eq_getElem hi)
      refine ⟨v, ?_, rv.anti fun a z => ?_⟩
      · unfold L2.start
        rw [List.getElem?_append_left (by rw [List.length_map, r.length]; exact hi), List.getElem?_map, ev]
        rfl
      · rcases z with z | ⟨j, z⟩
        · exact z
        · cases z
    · rw [List.getElem?_append_right (by simpa using hi), List.getElem?_replicate] at e
      split at e <;> cases e
theorem fn_ok {P : Program} {w : World} {K : PySem.W.Frag} {mg : Str → Option Value} {base : Heap} {x qual : Str} {st : Stmt} {f : Addr} {fd : FuncData} {N ps : List Str} {k : Nat} {O' : List Nat} {g : XS} (F : Fun K x qual st f fd) (S : FnScope N ps (defScope st))
    (hb : ∀ (cdv : Value) (A : Around) (outer : List Env) (s : Shared) (H : Hp) (E : XK), Room k (A.deeper (envOfC qual (defScope st) s.heap.objs.size f cdv)) → SSs (cxOf CX0 P w K mg base N qual (defScope st) f cdv A outer s H E).nox [] [] [] O' (defBody st) g) :
    FnOk P w K mg base CX0 (k + 1) f fd ps (spD K ps.length (runD ps.length N.length g)) := by
  refine F.ok S (fun vs H Q E h => ?_) (fun cdv A outer s H vs Q E hr h => ?_)
  · obtain ⟨A, ds, d, t, hn, _⟩ := h
    exact hn
  · obtain ⟨A', ds, d, t, hn, r, e, q⟩ := h
    obtain ⟨o, eo, e⟩ := bind2 e
    refine ⟨_, (hb cdv A outer s H E hr).pss, H, A', [], _, fun _ => none, o, sim_start t r hn, eo, ?_⟩
    cases o with
    | nx ρ => cases e; exact fun σ' H' B' S' => q .non H' S'.same .non
    | rt d' => cases e; exact fun v H' s' r' => q v H' s' r'
    | bk ρ => cases e
    | ct ρ => cases e
theorem def_ok {P : Program} {w : World} {K : PySem.W.Frag} {mg : Str → Option Value} {base : Heap} {x : Str} {f : Addr} {fd : FuncData} {ps : List Str} {k : Nat} {F : List D → Option D} (h : FnOk P w K mg base CX0 k f fd ps (spD K ps.length F)) (hm : mg x = some (.ref f)) (kp : PySem.W.keepIn K (.ref f) = true) (hb : Binds K fd ps []) : Def P w K mg base k x ps F := ⟨⟨f, fd, h, hm, kp, hb⟩⟩
end Pm

namespace Pm
open PySem PySem.Spec PyProof.Rows L2

/-! ### several names at once -/
def oAdd' : D → D → Option D
  | .int a, .int b => some (.int (a + b))
  | _, _ => none
section
variable {K : PySem.W.Frag} {A0 A : Addr → Prop} {H0 H H' : Hp} {G : List (V × D)} {O : List Nat} {σ : L2.St} {ρ : PEnv} {B : Nat → Option Addr} {v : V} {d : D}
/-- a guarded cell becomes a slot's own -/
theorem Sim.adopt (S : Sim K H0 (Gd A0 a) G O σ H ρ B) {i : Nat} (na : ¬ A0 a) (h0 : H0 a = none) (r : Tp K (Av (Gd A0 a) B) H a d) (hi : i < ρ.length) :
    Sim K H0 A0 G (i :: O) (σ.set i (some (.ref a))) H (ρ.set i (some d)) (fun j => if j = i then some a else B j) := by
  have hiσ : i < σ.length := by rw [← S.len]; exact hi
  have nb : ∀ j, B j ≠ some a := fun j z => (S.fr j a z).2.1 (.inr rfl)
  have sub : ∀ j b, (if j = i then some a else B j) = some b → (j = i ∧ b = a) ∨ (j ≠ i ∧ B j = some b) := fun j b e => by
    by_cases hj : j = i
    · simp [hj] at e; exact .inl ⟨hj, e.symm⟩
    · exact .inr ⟨hj, by simpa [hj] using e⟩
  have an : ∀ b, Av A0 (fun j => if j = i then some a else B j) b → Av (Gd A0 a) B b := fun b z => by
    rcases z with z | ⟨j, z⟩
    · exact .inl (.inl z)
    · rcases sub j b z with ⟨_, q⟩ | ⟨_, q⟩
      · exact .inl (.inr q)
      · exact .inr ⟨j, q⟩
  have ans : ∀ b, Av A0 (fun j => if j = i then some a else B j) b → Av (Gd A0 a) B b ∨ H b = none := fun b z => .inl (an b z)
  refine ⟨S.same, fun b z => S.a0 b (.inl z), by simp [S.len], fun j b e => ?_, fun j k b e e' => ?_, fun j b e => ?_, fun j d' hj e m => ?_, fun j d' e => ?_, fun p hp => (S.gs p hp).anti an⟩
  · rcases sub j b e with ⟨q, _⟩ | ⟨_, q⟩
    · rw [q]; exact List.mem_cons_self
    · exact List.mem_cons_of_mem _ (S.bo j b q)
  · rcases sub j b e with ⟨q, q'⟩ | ⟨q, q'⟩
    · rcases sub k b e' with ⟨p, p'⟩ | ⟨p, p'⟩
      · rw [q, p]
      · rw [q'] at p'; exact absurd p' (nb k)
    · rcases sub k b e' with ⟨p, p'⟩ | ⟨p, p'⟩
      · rw [p'] at q'; exact absurd q' (nb j)
      · exact S.inj j k b q' p'
  · rcases sub j b e with ⟨q, q'⟩ | ⟨q, q'⟩
    · rw [q']
      exact ⟨h0, na, r.some⟩
    · obtain ⟨h1, h2, h3⟩ := S.fr j b q'
      exact ⟨h1, fun z => h2 (.inl z), h3⟩
  · by_cases hne : j = i
    · subst hne
      rw [List.getElem?_set_self hi] at e
      cases e
      exact ⟨a, by simp, by rw [List.getElem?_set_self hiσ], r.step (fun _ _ q _ => q) ans fun _ q => q⟩
    · rw [List.getElem?_set_ne (Ne.symm hne)] at e
      rw [List.getElem?_set_ne (Ne.symm hne)]
      rcases List.mem_cons.mp hj with hj | hj
      · exact absurd hj hne
      obtain ⟨b, h1, h2, h3⟩ := S.ob j d' hj e m
      exact ⟨b, by simp [hne, h1], h2, h3.step (fun _ _ q _ => q) ans fun _ q => q⟩
  · by_cases hne : j = i
    · subst hne
      rw [List.getElem?_set_self hi] at e
      cases e
      exact .inl ⟨a, by simp, by rw [List.getElem?_set_self hiσ], r.step (fun _ _ q _ => q) ans fun _ q => q⟩
    · rw [List.getElem?_set_ne (Ne.symm hne)] at e
      rw [List.getElem?_set_ne (Ne.symm hne)]
      rcases S.slot j d' e with ⟨b, h1, h2, h3⟩ | ⟨h1, v, h2, h3⟩
      · exact .inl ⟨b, by simp [hne, h1], h2, h3.step (fun _ _ q _ => q) ans fun _ q => q⟩
      · exact .inr ⟨by simp [hne, h1], v, h2, h3.anti an⟩
theorem Sim.unguard (S : Sim K H0 (Gd A0 a) G O σ H ρ B) : Sim K H0 A0 G O σ H ρ B := by
  have an : ∀ b, Av A0 B b → Av (Gd A0 a) B b := fun b z => by
    rcases z with z | z
    · exact .inl (.inl z)
    · exact .inr z
  have ans : ∀ b, Av A0 B b → Av (Gd A0 a) B b ∨ H b = none := fun b z => .inl (an b z)
  refine ⟨S.same, fun b z => S.a0 b (.inl z), S.len, S.bo, S.inj, fun j b e => let ⟨h1, h2, h3⟩ := S.fr j b e; ⟨h1, fun z => h2 (.inl z), h3⟩, fun j d' hj e m => ?_, fun j d' e => ?_, fun p hp => (S.gs p hp).anti an⟩
  · obtain ⟨b, h1, h2, h3⟩ := S.ob j d' hj e m
    exact ⟨b, h1, h2, h3.step (fun _ _ q _ => q) ans fun _ q => q⟩
  · rcases S.slot j d' e with ⟨b, h1, h2, h3⟩ | ⟨h1, v, h2, h3⟩
    · exact .inl ⟨b, h1, h2, h3.step (fun _ _ q _ => q) ans fun _ q => q⟩
    · exact .inr ⟨h1, v, h2, h3.anti an⟩
end
abbrev Gl (A0 : Addr → Prop) (L : List Addr) : Addr → Prop := fun b => A0 b ∨ b ∈ L
theorem gl_nil (A0 : Addr → Prop) : Gl A0 [] = A0 := by
  funext b
  simp [Gl]
theorem gl_cons (A0 : Addr → Prop) (a : Addr) (L : List Addr) : Gl (Gd A0 a) L = Gl A0 (a :: L) := by
  funext b
  simp [Gl, Gd, or_assoc]
theorem gl_swap (A0 : Addr → Prop) (a : Addr) (L : List Addr) : Gd (Gl A0 L) a = Gl A0 (a :: L) := by
  funext b
  simp only [Gl, Gd, List.mem_cons]
  exact propext ⟨fun h => h.elim (fun h => h.elim .inl fun h => .inr (.inr h)) fun h => .inr (.inl h), fun h => h.elim (fun h => .inl (.inl h)) fun h => h.elim .inr fun h => .inl (.inr h)⟩
/-- values in a row: the new ones stand at L -/
inductive Pn (K : PySem.W.Frag) (A : Addr → Prop) (H : Hp) : List Addr → List Md → List V → List D → Prop where
  | nil : Pn K A H [] [] [] []
  | own {a : Addr} {L : List Addr} {ms : List Md} {vs : List V} {d : D} {ds : List D} : Tp K A H a d → Pn K A H L ms vs ds → Pn K A H (a :: L) (.f :: ms) (.ref a :: vs) (d :: ds)
  | val {m : Md} {v : V} {L : List Addr} {ms : List Md} {vs : List V} {d : D} {ds : List D} : Rp K A H v d → (m = .f → isMut d = false) → Pn K A H L ms vs ds → Pn K A H L (m :: ms) (v :: vs) (d :: ds)
theorem Pn.anti {K : PySem.W.Frag} {A A' : Addr → Prop} {H : Hp} {L : List Addr} {ms : List Md} {vs : List V} {ds : List D} (h : Pn K A H L ms vs ds) (ha : ∀ a, A' a → A a) : Pn K A' H L ms vs ds := by
  induction h with
  | nil => exact .nil
  | own t _ ih => exact .own (t.step (fun _ _ q _ => q) (fun a z => .inl (ha a z)) fun _ q => q) ih
  | val r n _ ih => exact .val (r.anti ha) n ih
theorem Pn.mono {K : PySem.W.Frag} {A : Addr → Prop} {H H' : Hp} {L : List Addr} {ms : List Md} {vs : List V} {ds : List D} (h : Pn K A H L ms vs ds) (s : Same H H') : Pn K A H' L ms vs ds := by
  induction h with
  | nil => exact .nil
  | own t _ ih => exact .own (t.mono s) ih
  | val r n _ ih => exact .val (r.mono s) n ih
theorem Pn.len {K : PySem.W.Frag} {A : Addr → Prop} {H : Hp} {L : List Addr} {ms : List Md} {vs : List V} {ds : List D} (h : Pn K A H L ms vs ds) : vs.length = ms.length ∧ ds.length = ms.length := by
  induction h with
  | nil => exact ⟨rfl, rfl⟩
  | own _ _ ih => simp [ih.1, ih.2]
  | val _ _ _ ih => simp [ih.1, ih.2]
def simAM (K : PySem.W.Frag) (O : List Nat) (ms : List Md) (f : XL) : TA := fun σ H Q => ∃ H0 A0 G ρ B ds, Sim K H0 A0 G O σ H ρ B ∧ f ρ = some ds ∧
  ∀ vs H' L, Same H H' → Sim K H0 (Gl A0 L) G O σ H' ρ B → (∀ a ∈ L, H a = none ∧ ¬ A0 a) → L.Nodup → Pn K (Av (Gl A0 L) B) H' L ms vs ds → Q vs H'
structure SAM (X : Cx) (O : List Nat) (ms : List Md) (es : List Expr) (f : XL) : Prop where
  pa : PA X es (simAM X.K O ms f)
def ownL : List Nat → List Md → List Nat → List Nat
  | i :: is, m :: ms, O => ownL is ms (if m = .f then i :: O else O.filter (· != i))
  | _, _, O => O
def setAll {α : Type} : List Nat → List α → List (Option α) → List (Option α)
  | i :: is, v :: vs, σ => setAll is vs (σ.set i (some v))
  | _, _, σ => σ
theorem assign_all {K : PySem.W.Frag} {H0 H : Hp} {A0 : Addr → Prop} {G : List (V × D)} : ∀ (is : List Nat) {O : List Nat} {σ : L2.St} {ρ : PEnv} {B : Nat → Option Addr} {L : List Addr} {ms : List Md} {vs : List V} {ds : List D},
    Sim K H0 (Gl A0 L) G O σ H ρ B → Pn K (Av (Gl A0 L) B) H L ms vs ds → (∀ a ∈ L, H0 a = none ∧ ¬ A0 a) → L.Nodup → (∀ i ∈ is, i < ρ.length) → is.length = ms.length →
    ∃ B', Sim K H0 A0 G (ownL is ms O) (setAll is vs σ) H (setAll is ds ρ) B'
  | [], O, σ, ρ, B, L, ms, vs, ds, S, p, hL, nd, hi, hl => by
    cases p with
    | nil => rw [gl_nil] at S; exact ⟨B, S⟩
    | own _ _ => simp at hl
    | val _ _ _ => simp at hl
  | i :: is, O, σ, ρ, B, L, ms, vs, ds, S, p, hL, nd, hi, hl => by
    cases p with
    | nil => simp at hl
    | @own a L' ms' vs' d ds' t p' =>
      have hia := hi i List.mem_cons_self
      rw [← gl_swap] at S
      have hn := List.nodup_cons.mp nd
      obtain ⟨h0, n0⟩ := hL a List.mem_cons_self
      have t' : Tp K (Av (Gd (Gl A0 L') a) B) H a d := by rw [gl_swap]; exact t
      have S1 := S.adopt (i := i) (fun z => by
        rcases z with z | z
        · exact n0 z
        · exact hn.1 z) h0 t' hia
      have e : ownL (i :: is) (.f :: ms') O = ownL is ms' (i :: O) := by simp [ownL]
      rw [e]
      refine assign_all is S1 (p'.anti fun c z => ?_) (fun b hb => hL b (List.mem_cons_of_mem _ hb)) hn.2 (fun j hj => by rw [List.length_set]; exact hi j (List.mem_cons_of_mem _ hj)) (by simpa using hl)
      rcases z with (z | z) | ⟨l, z⟩
      · exact .inl (.inl z)
      · exact .inl (.inr (List.mem_cons_of_mem _ z))
      · by_cases hli : l = i
        · simp [hli] at z
          exact .inl (.inr (by rw [z]; exact List.mem_cons_self))
        · simp [hli] at z
          exact .inr ⟨l, z⟩
    | @val m v L' ms' vs' d ds' r n p' =>
      have hia := hi i List.mem_cons_self
      have S1 := S.setS r hia
      have p2 := p'.anti (A' := Av (Gl A0 L) (restr [i] B)) fun c z => restr_av z
      have hi' : ∀ j ∈ is, j < (ρ.set i (some d)).length := fun j hj => by rw [List.length_set]; exact hi j (List.mem_cons_of_mem _ hj)
      by_cases hm : m = .f
      · have S2 := S1.grow fun d' e' => by
          rw [List.getElem?_set_self hia] at e'
          cases e'
          exact n hm
        have e : ownL (i :: is) (m :: ms') O = ownL is ms' (i :: O) := by simp [ownL, hm]
        rw [e]
        exact assign_all is S2 p2 hL nd hi' (by simpa using hl)
      · have e : ownL (i :: is) (m :: ms') O = ownL is ms' (O.filter (· != i)) := by simp [ownL, hm]
        rw [e]
        exact assign_all is S1 p2 hL nd hi' (by simpa using hl)
def sPar (is : List Nat) (fs : XL) : XS := fun ρ => (fs ρ).bind fun ds => if is.all (fun i => decide (i < ρ.length)) && decide (ds.length = is.length) then some (.nx (setAll is ds ρ)) else none
section
variable {X : Cx} {O O1 O2 Ob Oc O' : List Nat} {m ma mb : Md} {ms : List Md} {st : Stmt} {sts : List Stmt} {g h : XS} {e a b c : Expr} {es : List Expr} {f fa fb : Xp} {fs : XL} {pos pos' : Pos}
theorem sam_nil : SAM X O [] [] xNil := by
  refine ⟨pa_imp pa_nil fun σ H Q h => ?_⟩
  obtain ⟨H0, A0, G, ρ, B, ds, S, e, k⟩ := h
  cases e
  exact k [] H [] (Same.refl H) (by rw [gl_nil]; exact S) (fun a h => (nomatch h)) .nil .nil
theorem sam_cons (ha : SE X O m e f) (hr : SAM X O ms es fs) (hm : m ≠ .w := by decide) (hs : starEach (e :: es) X.env = (false, eval e X.env) :: starEach es X.env := by rfl) : SAM X O (m :: ms) (e :: es) (xCons f fs) := by
  refine ⟨pa_imp (pa_cons ha.pe hr.pa hs) fun σ H Q h => ?_⟩
  obtain ⟨H0, A0, G, ρ, B, ds, S, e, k⟩ := h
  obtain ⟨x, ex, e⟩ := bind2 e
  obtain ⟨xs, exs, e⟩ := bind2 e
  cases e
  refine ⟨H0, A0, G, ρ, B, x, S, ex, fun v H1 s1 r1 => ?_⟩
  by_cases hfa : m = .f ∧ ∃ a, v = V.ref a ∧ H a = none ∧ Tp X.K (fun b => Av A0 B b ∨ b = a) H1 a x
  · obtain ⟨rfl, a, rfl, hn, ra⟩ := hfa
    have naA : ¬ Av A0 B a := S.new hn
    have Sg := S.guard hn s1 ra.some
    refine ⟨H0, Gd A0 a, G, ρ, B, xs, Sg, exs, fun vs H2 L s2 S2 hL nd p => k _ H2 (a :: L) (s1.trans s2) (by rw [← gl_cons]; exact S2) (fun b hb => ?_) (List.nodup_cons.mpr ⟨fun z => ?_, nd⟩) (.own ?_ (by rw [← gl_cons]; exact p))⟩
    · rcases List.mem_cons.mp hb with rfl | hb
      · exact ⟨hn, fun z => naA (.inl z)⟩
      · obtain ⟨h1, h2⟩ := hL b hb
        exact ⟨s1.free h1, fun z => h2 (.inl z)⟩
    · exact (hL a z).2 (.inr rfl)
    · refine ra.step (fun c o e _ => s2 c o e) (fun c z => ?_) fun o e => s2 _ o e
      rcases z with (z | z) | z
      · exact .inl (.inl (.inl z))
      · rcases List.mem_cons.mp z with z | z
        · exact .inl (.inr z)
        · exact .inr (hL c z).1
      · exact .inl (.inl (.inr z))
  · have rb : Rp X.K (Av A0 B) H1 v x ∧ (m = .f → isMut x = false) := by
      cases m with
      | w => exact absurd rfl hm
      | s => exact ⟨r1, fun z => nomatch z⟩
      | f =>
        rcases r1 with ⟨b, e1, e2, e3⟩ | ⟨e1, e2⟩
        · exact absurd ⟨rfl, b, e1, e2, e3⟩ hfa
        · exact ⟨e1, fun _ => e2⟩
    refine ⟨H0, A0, G, ρ, B, xs, S.mono s1, exs, fun vs H2 L s2 S2 hL nd p => k _ H2 L (s1.trans s2) S2 (fun b hb => ⟨s1.free (hL b hb).1, (hL b hb).2⟩) nd (.val (rb.1.step (fun c o e _ => s2 c o e) fun c z => ?_) rb.2 p)⟩
    rcases z with (z | z) | z
    · exact .inl (.inl z)
    · exact .inr (hL c z).1
    · exact .inl (.inr z)
/-- behind the values: the names are set -/
theorem par_end {is : List Nat} {o : Out} {D : Ends} {K : PySem.W.Frag} {H0 H H1 : Hp} {A0 : Addr → Prop} {G : List (V × Pm.D)} {σ : L2.St} {ρ : PEnv} {B : Nat → Option Addr} {ds : List Pm.D} {vs : List V} {L : List Addr} (S0 : Same H0 H) (hO : ownL is ms O = O') (hl : is.length = ms.length)
    (e : (if is.all (fun i => decide (i < ρ.length)) && decide (ds.length = is.length) then some (Out.nx (setAll is ds ρ)) else none) = some o) (k : PostS K H0 A0 G Ob Oc O' D o)
    (S : Sim K H0 (Gl A0 L) G O σ H1 ρ B) (hL : ∀ a ∈ L, H a = none ∧ ¬ A0 a) (nd : L.Nodup) (p : Pn K (Av (Gl A0 L) B) H1 L ms vs ds) : D.nx (setAll is vs σ) H1 := by
  split at e
  · rename_i hz
    cases e
    simp only [Bool.and_eq_true, decide_eq_true_eq, List.all_eq_true] at hz
    obtain ⟨B', S'⟩ := assign_all is S p (fun a ha => ⟨S0.free (hL a ha).1, (hL a ha).2⟩) nd (fun i hi => hz.1 i hi) hl
    rw [hO] at S'
    exact k _ H1 B' S'
  · cases e
theorem ss_par (i j : Nat) {x y : Str} {px py pt : Pos} {kt k2 : Nat} {pt2 : Pos} (hN : X.N.Nodup) (ha : SAM X O [ma, mb] [a, b] fs) (hij : i ≠ j := by decide) (hi : X.N[i]? = some x := by rfl) (hj : X.N[j]? = some y := by rfl) (hx : X.env.scope.names.lookup x = some .local := by rfl) (hy : X.env.scope.names.lookup y = some .local := by rfl)
    (hw : swappedStores [.Tuple [.Name x px, .Name y py] kt pt] (.Tuple [a, b] k2 pt2) X.env = pure (some [x, y]) := by rfl) (hs : swapsWithSole [.Tuple [.Name x px, .Name y py] kt pt] (.Tuple [a, b] k2 pt2) pos.line X.env = pure false := by rfl) (hc : X.calm = true := by rfl) (hO : ownL [i, j] [ma, mb] O = O' := by rfl) :
    SS X O Ob Oc O' (.Assign [.Tuple [.Name x px, .Name y py] kt pt] (.Tuple [a, b] k2 pt2) pos) (sPar [i, j] fs) := by
  refine ⟨ps_imp (L2.ps_par hc hN hi hj hij hx hy ha.pa hw hs) fun D σ H q => ?_⟩
  obtain ⟨H0, A0, G, ρ, B, o, S, e, k⟩ := q
  obtain ⟨ds, eds, e⟩ := bind2 e
  refine ⟨H0, A0, G, ρ, B, ds, S, eds, fun vs H1 L s1 S1 hL nd p => ?_⟩
  have hl := p.len.1
  match vs, hl with
  | [v, w], _ => exact ⟨v, w, rfl, par_end (is := [i, j]) S.same hO rfl e k S1 hL nd p⟩
theorem ss_par3 (i j l : Nat) {mc : Md} {x y z : Str} {px py pz pt : Pos} {kt k2 : Nat} {pt2 : Pos} (hN : X.N.Nodup) (ha : SAM X O [ma, mb, mc] [a, b, c] fs) (hij : i ≠ j := by decide) (hil : i ≠ l := by decide) (hjl : j ≠ l := by decide) (hi : X.N[i]? = some x := by rfl) (hj : X.N[j]? = some y := by rfl) (hlz : X.N[l]? = some z := by rfl)
    (hx : X.env.scope.names.lookup x = some .local := by rfl) (hy : X.env.scope.names.lookup y = some .local := by rfl) (hz : X.env.scope.names.lookup z = some .local := by rfl)
    (hw : swappedStores [.Tuple [.Name x px, .Name y py, .Name z pz] kt pt] (.Tuple [a, b, c] k2 pt2) X.env = pure (some [x, y, z]) := by rfl) (hs : swapsWithSole [.Tuple [.Name x px, .Name y py, .Name z pz] kt pt] (.Tuple [a, b, c] k2 pt2) pos.line X.env = pure false := by rfl) (hc : X.calm = true := by rfl) (hO : ownL [i, j, l] [ma, mb, mc] O = O' := by rfl) :
    SS X O Ob Oc O' (.Assign [.Tuple [.Name x px, .Name y py, .Name z pz] kt pt] (.Tuple [a, b, c] k2 pt2) pos) (sPar [i, j, l] fs) := by
  refine ⟨ps_imp (ps_par3 hc hN hi hj hlz hij hil hjl hx hy hz ha.pa hw hs) fun D σ H q => ?_⟩
  obtain ⟨H0, A0, G, ρ, B, o, S, e, k⟩ := q
  obtain ⟨ds, eds, e⟩ := bind2 e
  refine ⟨H0, A0, G, ρ, B, ds, S, eds, fun vs H1 L s1 S1 hL nd p => ?_⟩
  have hl := p.len.1
  match vs, hl with
  | [u, v, w], _ => exact ⟨u, v, w, rfl, par_end (is := [i, j, l]) S.same hO rfl e k S1 hL nd p⟩
/-- any number of names, by a tuple that is taken apart -/
def gNames : List Nat → TGs
  | [] => gNil
  | i :: is => gCons (gName i) (gNames is)
theorem gNames_of {is : List Nat} {vs : List V} {σ : L2.St} {H : Hp} {Q : L2.St → Hp → Prop} (hl : vs.length = is.length) (h : Q (setAll is vs σ) H) : gNames is vs σ H Q := by
  induction is generalizing vs σ with
  | nil =>
    cases vs with
    | nil => exact ⟨rfl, h⟩
    | cons v vs => simp at hl
  | cons i is ih =>
    cases vs with
    | nil => simp at hl
    | cons v vs => exact ⟨v, vs, rfl, ih (by simpa using hl) h⟩
theorem ss_parT (is : List Nat) {tgs : List Expr} {kt k2 : Nat} {pt pt2 : Pos} (ha : SAM X O ms es fs) (hg : PGs X tgs (gNames is)) (hl : is.length = ms.length := by rfl) (hn : (assignEach tgs X.env).length = is.length := by rfl) (hst : (assignEach tgs X.env).findIdx? (·.1) = none := by rfl) (hsz : ms.length ≤ 1000 := by decide)
    (hw : swappedStores [.Tuple tgs kt pt] (.Tuple es k2 pt2) X.env = pure none := by rfl) (hs : swapsWithSole [.Tuple tgs kt pt] (.Tuple es k2 pt2) pos.line X.env = pure false := by rfl) (hc : X.calm = true := by rfl) (hO : ownL is ms O = O' := by rfl)
    (h1 : (assignEach [.Tuple tgs kt pt] X.env).map (·.2) = [assign (.Tuple tgs kt pt) X.env] := by rfl) : SS X O Ob Oc O' (.Assign [.Tuple tgs kt pt] (.Tuple es k2 pt2) pos) (sPar is fs) := by
  refine ⟨ps_imp (ps_asg (pe_tup ha.pa) (pg_tup hc hg hn hst) hs hw h1) fun D σ H q => ?_⟩
  obtain ⟨H0, A0, G, ρ, B, o, S, e, k⟩ := q
  obtain ⟨ds, eds, e⟩ := bind2 e
  refine ⟨H0, A0, G, ρ, B, ds, S, eds, fun vs H1 L s1 S1 hL nd p => ⟨by rw [p.len.1]; exact line1000 hsz, fun t ht => ?_⟩⟩
  have st := same_upd (o := .tup vs) ht
  refine ⟨t, vs, rfl, .of upd_same, by rw [p.len.1, hl], gNames_of (by rw [p.len.1, hl]) (par_end (is := is) S.same hO hl e k (S1.mono st) hL nd (p.mono st))⟩

/-! ### more operators in place -/
theorem iop_addD : OpR X (inplaceOp .Add) (rD X.K .f oAdd') := by
  intro pins s σ H x y v u Q I rx ry ⟨A, dx, dy, d, tr, wx, wy, e, q⟩
  unfold oAdd' at e
  split at e
  · cases e
    exact iop_add pins s σ H x y v u Q I rx ry ⟨_, _, wx.int, wy.int, q _ H (Same.refl H) Res.int⟩
  · cases e
theorem iop_subD : OpR X (inplaceOp .Sub) (rD X.K .f oSub) := by
  intro pins s σ H x y v u Q I rx ry ⟨A, dx, dy, d, tr, wx, wy, e, q⟩
  unfold oSub at e
  split at e
  · cases e
    exact iop_sub pins s σ H x y v u Q I rx ry ⟨_, _, wx.int, wy.int, q _ H (Same.refl H) Res.int⟩
  · cases e
end
end Pm

namespace Pm
open PySem PySem.Spec PyProof.Rows L2

/-! ### a comprehension over two sources -/
def lc2L (g : D → PEnv → Option PEnv) (t : PEnv → Option Bool) (it1 : XL) (g1 : D → PEnv → Option PEnv) (t1 : PEnv → Option Bool) (f : Xp) (vs1 : List Nat) (ρ : PEnv) : List D → Option (List D)
  | [] => some []
  | d :: ds => (g d ρ).bind fun ρ1 => (t ρ1).bind fun b => if b then (it1 ρ1).bind fun es => (lcL g1 t1 f (wipeP ρ1 vs1) es).bind fun ys => (lc2L g t it1 g1 t1 f vs1 ρ ds).bind fun zs => some (ys ++ zs) else lc2L g t it1 g1 t1 f vs1 ρ ds
def xLc2 (it : XL) (g : D → PEnv → Option PEnv) (t : PEnv → Option Bool) (it1 : XL) (g1 : D → PEnv → Option PEnv) (t1 : PEnv → Option Bool) (f : Xp) (own vs1 : List Nat) : Xp := fun ρ => (it ρ).bind fun ds => (lc2L g t it1 g1 t1 f vs1 (wipeP ρ own) ds).bind fun ys => if ys.length ≤ 16777216 then some (.list ys) else none
/-- the guarded cells alone may change -/
theorem Sim.monoG {K : PySem.W.Frag} {H0 H H' : Hp} {A0 : Addr → Prop} {G : List (V × D)} {O : List Nat} {σ : L2.St} {ρ : PEnv} {B : Nat → Option Addr} (S : Sim K H0 A0 G O σ H ρ B) (hk : ∀ a o, H a = some o → ¬ A0 a → H' a = some o) (ht : ∀ a, A0 a → ∃ o, H' a = some o ∧ NT o) (h0 : Same H0 H') : Sim K H0 A0 G O σ H' ρ B := by
  have st : ∀ a o, H a = some o → ¬ Av A0 B a → H' a = some o := fun a o e n => hk a o e fun z => n (.inl z)
  have bA : ∀ i a, B i = some a → ¬ A0 a := fun i a e => (S.fr i a e).2.1
  have kp : ∀ {a : Addr} {d : D} {i : Nat}, B i = some a → Tp K (Av A0 B) H a d → Tp K (Av A0 B) H' a d := fun {a d i} hb h => h.step st (fun _ z => .inl z) fun o e => hk a o e (bA i a hb)
  refine ⟨h0, ht, S.len, S.bo, S.inj, fun i a e => ?_, fun i d hi e mm => ?_, fun i d e => ?_, fun p hp => (S.gs p hp).step st fun _ z => .inl z⟩
  · obtain ⟨h1, h2, o, h3, h4⟩ := S.fr i a e
    exact ⟨h1, h2, o, hk a o h3 h2, h4⟩
  · obtain ⟨a, h1, h2, h3⟩ := S.ob i d hi e mm
    exact ⟨a, h1, h2, kp h1 h3⟩
  · rcases S.slot i d e with ⟨a, h1, h2, h3⟩ | ⟨h1, v, h2, h3⟩
    · exact .inl ⟨a, h1, h2, kp h1 h3⟩
    · exact .inr ⟨h1, v, h2, h3.step st fun _ z => .inl z⟩
section
variable {X : Cx} {O ts us : List Nat} {st : Bool} {m : Md} {tg iter elt tg1 iter1 : Expr} {ifs ifs1 : List Expr} {scope : Scope} {own : List (Str × Nat)} {vs1 : List Nat} {it it1 : XL} {g g1 : D → PEnv → Option PEnv} {t t1 : PEnv → Option Bool} {f : Xp} {pos : Pos}
theorem lc2_of (hm : m ≠ .w) (hts : ∀ i, ts.contains i = true → (own.map (·.2)).contains i = true) (hus : ∀ i, us.contains i = true → vs1.contains i = true) (hO : ∀ i ∈ own.map (·.2), i ∉ O) (hO1 : ∀ i ∈ vs1, i ∉ O) (σ : L2.St) (H : Hp) (Q : VK)
    (q : simT X.K O .f (xLc2 it g t it1 g1 t1 f (own.map (·.2)) vs1) σ H Q) :
    tLc2 (simI X.K O st it) (simG X.K O O ts g) (simTT X.K O t) (simI X.K O true it1) (simG X.K O O us g1) (simTT X.K O t1) (simT X.K O m f) (own.map (·.2)) vs1 σ H Q := by
  obtain ⟨H0, A0, G, ρ, B, d, S, e, k⟩ := q
  obtain ⟨ds, eds, e⟩ := bind2 e
  obtain ⟨ys, eys, e⟩ := bind2 e
  split at e
  rotate_left
  · cases e
  rename_i hys
  cases e
  refine ⟨H0, A0, G, ρ, B, ds, S, eds, fun J H1 gs s1 yl gr hz Dn hD => ?_⟩
  have hts' : ∀ i, ts.contains i = true → i ∉ O := fun i hi => hO i (by simpa using hts i hi)
  have hus' : ∀ i, us.contains i = true → i ∉ O := fun i hi => hO1 i (by simpa using hus i hi)
  have avD : Av (Gd A0 Dn) B Dn := .inl (.inr rfl)
  refine ⟨fun i n Hc => n = ds.length - i ∧ i ≤ ds.length ∧ Same H1 Hc ∧ ∃ vs pre post, Hc Dn = some (.lst vs) ∧ RpL X.K (Av (Gd A0 Dn) B) Hc vs pre ∧ lc2L g t it1 g1 t1 f vs1 (wipeP ρ (own.map (·.2))) (ds.drop i) = some post ∧ ys = pre ++ post,
    ⟨ds.length, rfl, Nat.zero_le _, same_upd hD, [], [], ys, upd_same, .nil, eys, rfl⟩, ?_⟩
  rintro i n Hc ⟨rfl, hi, sc, vs, pre, post, hDc, rpre, epost, eyp⟩
  have Sg : Sim X.K H0 (Gd A0 Dn) G O σ Hc ρ B := (S.mono s1).guard hD sc ⟨_, hDc, NT.lst⟩
  have gw : ∀ p ∈ gs, WRp X.K (Av (Gd A0 Dn) B) Hc p.1 p.2 := fun p hp => (gr p hp).w.step sc fun a z => by
    rcases gd_av z with z | z
    · exact .inl z
    · exact .inr (by rw [z]; exact hD)
  by_cases hlt : i < ds.length
  · have ed : ds[i]? = some ds[i] := List.getElem?_eq_getElem hlt
    rw [List.drop_eq_getElem_cons hlt] at epost
    obtain ⟨hgo, hy⟩ := yl.go _ Hc i _ Sg.tr gw ed
    simp only [lc2L] at epost
    obtain ⟨ρ1, eρ1, epost⟩ := bind2 epost
    obtain ⟨b, eb, epost⟩ := bind2 epost
    refine .inr ⟨hgo, fun H' => i + 1 ≤ ds.length ∧ Same H1 H' ∧ ∃ vs pre' post', H' Dn = some (.lst vs) ∧ RpL X.K (Av (Gd A0 Dn) B) H' vs pre' ∧ lc2L g t it1 g1 t1 f vs1 (wipeP ρ (own.map (·.2))) (ds.drop (i + 1)) = some post' ∧ ys = pre' ++ post', fun H' hN => ?_, fun x H' hx => ?_⟩
    · obtain ⟨h1, h2, h3⟩ := hN
      exact ⟨ds.length - (i + 1), by omega, rfl, h1, h2, h3⟩
    · obtain ⟨s2, rx⟩ := hy x H' hx
      refine ⟨H0, Gd A0 Dn, G, wipeP ρ (own.map (·.2)), B, _, ρ1, (Sg.mono s2).wipe _ hO, rx, eρ1, fun σ2 c2 S2 => ?_⟩
      rw [restr_same Sg hts'] at S2
      refine ⟨wipe_eq c2 hts, H0, Gd A0 Dn, G, ρ1, B, b, S2, eb, fun H3 s3 => ?_⟩
      cases b with
      | true =>
        rw [if_pos rfl]
        rw [if_pos rfl] at epost
        obtain ⟨es, ees, epost⟩ := bind2 epost
        obtain ⟨zs, ezs, epost⟩ := bind2 epost
        obtain ⟨ws, ews, epost⟩ := bind2 epost
        cases epost
        refine ⟨H0, Gd A0 Dn, G, ρ1, B, es, S2.mono s3, ees, fun J1 H4 gs1 s4 yl1 gr1 hz1 => ?_⟩
        have s24 := (s2.trans s3).trans s4
        have hD4 : H4 Dn = some (.lst vs) := s24 _ _ hDc
        have S4 := (S2.mono s3).mono s4
        have hdn : H Dn = none := s1.free hD
        -- the inner loop: the new list is written between its turns
        refine ⟨fun j n Hj => n = es.length - j ∧ j ≤ es.length ∧ (∀ a o, H4 a = some o → ¬ Gd A0 Dn a → Hj a = some o) ∧ Same H1 Hj ∧ ∃ us pre1 post1, Hj Dn = some (.lst us) ∧ RpL X.K (Av (Gd A0 Dn) B) Hj us pre1 ∧ lcL g1 t1 f (wipeP ρ1 vs1) (es.drop j) = some post1 ∧ ys = pre1 ++ (post1 ++ ws) ∧ (∀ a, A0 a → ∃ o, Hj a = some o ∧ NT o),
          ⟨es.length, rfl, Nat.zero_le _, fun a o e _ => e, sc.trans s24, vs, pre, zs, hD4, rpre.mono s24, ezs, eyp, fun a z => S4.a0 a (.inl z)⟩, ?_⟩
        rintro j n Hj ⟨rfl, hj, sj, s1j, us', pre1, post1, hDj, rp1, ep1, ey1, a0j⟩
        have stepj : ∀ a o, H4 a = some o → ¬ Av (Gd A0 Dn) B a → Hj a = some o := fun a o e n => sj a o e fun z => n (.inl z)
        have thr : ∀ a, Gd A0 Dn a → ∃ o, Hj a = some o ∧ NT o := fun a z => by
          rcases z with z | z
          · exact a0j a z
          · rw [z]; exact ⟨_, hDj, NT.lst⟩
        have Sj : Sim X.K H0 (Gd A0 Dn) G O σ2 Hj ρ1 B := S4.monoG sj thr fun a o e => s1j a o (s1 a o (S.same a o e))
        have gw1 : ∀ p ∈ gs1, WRp X.K (Av (Gd A0 Dn) B) Hj p.1 p.2 := fun p hp => .inl ((gr1 p hp : Rp _ _ _ _ _).step stepj fun _ z => .inl z)
        have hysl : ys.length ≤ 16777216 := hys
        by_cases hltj : j < es.length
        · have edj : es[j]? = some es[j] := List.getElem?_eq_getElem hltj
          rw [List.drop_eq_getElem_cons hltj] at ep1
          obtain ⟨hgo1, hy1⟩ := yl1.go _ Hj j _ Sj.tr gw1 edj
          simp only [lcL] at ep1
          obtain ⟨ρ2, eρ2, ep1⟩ := bind2 ep1
          obtain ⟨b1, eb1, ep1⟩ := bind2 ep1
          refine .inr ⟨hgo1, fun H' => j + 1 ≤ es.length ∧ (∀ a o, H4 a = some o → ¬ Gd A0 Dn a → H' a = some o) ∧ Same H1 H' ∧ ∃ us pre1 post1, H' Dn = some (.lst us) ∧ RpL X.K (Av (Gd A0 Dn) B) H' us pre1 ∧ lcL g1 t1 f (wipeP ρ1 vs1) (es.drop (j + 1)) = some post1 ∧ ys = pre1 ++ (post1 ++ ws) ∧ (∀ a, A0 a → ∃ o, H' a = some o ∧ NT o), fun H' hN => ?_, fun x1 H5 hx1 => ?_⟩
          · obtain ⟨h1, h2⟩ := hN
            exact ⟨es.length - (j + 1), by omega, rfl, h1, h2⟩
          · obtain ⟨s5, rx1⟩ := hy1 x1 H5 hx1
            refine ⟨H0, Gd A0 Dn, G, wipeP ρ1 vs1, B, _, ρ2, (Sj.mono s5).wipe _ hO1, rx1, eρ2, fun σ3 c3 S5 => ?_⟩
            rw [restr_same Sj hus'] at S5
            refine ⟨wipe_eq c3 hus, H0, Gd A0 Dn, G, ρ2, B, b1, S5, eb1, fun H6 s6 => ?_⟩
            cases b1 with
            | true =>
              rw [if_pos rfl]
              rw [if_pos rfl] at ep1
              obtain ⟨y, ey, ep1⟩ := bind2 ep1
              obtain ⟨p2, ep2, ep1⟩ := bind2 ep1
              cases ep1
              refine ⟨H0, Gd A0 Dn, G, ρ2, B, y, S5.mono s6, ey, fun v H7 s7 r7 => ?_⟩
              have r7' := r7.toS (S5.mono s6).tr hm
              have s57 := (s5.trans s6).trans s7
              have kp : ∀ a o, H7 a = some o → ¬ Av (Gd A0 Dn) B a → upd H7 Dn (.lst (us' ++ [v])) a = some o := fun a o e n => by
                rw [upd_ne (fun z => n (by rw [z]; exact avD))]
                exact e
              have hne : ∀ a, ¬ Gd A0 Dn a → a ≠ Dn := fun a n z => n (.inr z)
              have hpl : pre1.length < ys.length := by
                rw [ey1]
                simp only [List.length_append, List.length_cons]
                omega
              refine ⟨us', s57 _ _ hDj, ?_, by omega, fun a o e n => ?_, fun a o e => ?_, us' ++ [v], pre1 ++ [y], p2, upd_same, ?_, ep2, by simp [ey1], fun a z => ?_⟩
              · rw [rp1.length]
                have : (16777216 : Nat) = sizeLine := rfl
                omega
              · rw [upd_ne (hne a n)]
                exact s57 _ _ (sj a o e n)
              · have hne : a ≠ Dn := fun z => by rw [z, hD] at e; cases e
                rw [upd_ne hne]
                exact s57 _ _ (s1j _ _ e)
              · exact RpL.app (.one (r7'.step kp fun _ z => .inl z)) ((rp1.mono s57).step kp fun _ z => .inl z)
              · obtain ⟨o, e, nt⟩ := a0j a z
                by_cases ha : a = Dn
                · rw [ha]; exact ⟨_, upd_same, NT.lst⟩
                · exact ⟨o, by rw [upd_ne ha]; exact s57 _ _ e, nt⟩
            | false =>
              rw [if_neg Bool.false_ne_true]
              rw [if_neg Bool.false_ne_true] at ep1
              have s56 := s5.trans s6
              exact ⟨by omega, fun a o e n => s56 _ _ (sj a o e n), s1j.trans s56, us', pre1, post1, s56 _ _ hDj, rp1.mono s56, ep1, ey1, fun a z => let ⟨o, e, nt⟩ := a0j a z; ⟨o, s56 _ _ e, nt⟩⟩
        · have e : j = es.length := by omega
          subst e
          rw [List.drop_length] at ep1
          cases ep1
          exact .inl ⟨yl1.stop _ Hj Sj.tr gw1, by omega, s1j, us', pre1, ws, hDj, rp1, ews, by simpa using ey1⟩
      | false =>
        rw [if_neg Bool.false_ne_true]
        rw [if_neg Bool.false_ne_true] at epost
        have s23 := s2.trans s3
        exact ⟨by omega, sc.trans s23, vs, pre, post, s23 _ _ hDc, rpre.mono s23, epost, eyp⟩
  · have e : i = ds.length := by omega
    subst e
    refine .inl ⟨yl.stop _ Hc Sg.tr gw, ?_⟩
    rw [List.drop_length] at epost
    cases epost
    rw [List.append_nil] at eyp
    subst eyp
    have hHD : H Dn = none := s1.free hD
    refine k _ Hc (s1.trans sc) (.inl ⟨Dn, rfl, hHD, .lst hDc (rpre.anti fun a z => ?_)⟩)
    rcases z with z | z
    · rcases z with z | z
      · exact .inl (.inl z)
      · exact .inr z
    · exact .inl (.inr z)
theorem se_lc2 (hN : X.N.Nodup) (hi : SI X O st tg iter it) (ok : BlkOk X.N X.env.scope scope own) (hg : InBlk X scope fun Y => SG Y O O ts tg g) (ht : InBlk X scope fun Y => STs Y O ifs t) (hi1 : InBlk X scope fun Y => SI Y O true tg1 iter1 it1) (hg1 : InBlk X scope fun Y => SG Y O O us tg1 g1) (ht1 : InBlk X scope fun Y => STs Y O ifs1 t1) (he : InBlk X scope fun Y => SE Y O m elt f)
    (hm : m ≠ .w := by decide) (hv : vs1.all (fun i => (own.map (·.2)).contains i) = true := by rfl) (hts : ts.all (fun i => (own.map (·.2)).contains i) = true := by rfl) (hus : us.all (fun i => vs1.contains i) = true := by rfl) (hO : (own.map (·.2)).all (fun i => !O.contains i) = true := by rfl) (hc : X.calm = true := by rfl) (hs : ∀ x, foldedSetIterable iter X.env x = pure x := by intro _; rfl) (hs1 : ∀ env x, foldedSetIterable iter1 env x = pure x := by intro _ _; rfl) :
    SE X O .f (.ListComp elt [⟨tg, iter, ifs, 0⟩, ⟨tg1, iter1, ifs1, 0⟩] scope pos) (xLc2 it g t it1 g1 t1 f (own.map (·.2)) vs1) := by
  have hv' : ∀ i ∈ vs1, i ∈ own.map (·.2) := fun i hi => by simpa using List.all_eq_true.mp hv i hi
  have hO' : ∀ i ∈ own.map (·.2), i ∉ O := fun i hi => by simpa using List.all_eq_true.mp hO i hi
  exact ⟨pe_imp (pe_lc2 (wi := simI X.K O st it) (g := simG X.K O O ts g) (tt := simTT X.K O t) (wi1 := simI X.K O true it1) (g1 := simG X.K O O us g1) (tt1 := simTT X.K O t1) (te := simT X.K O m f) hc hN hi.pi ok hv' (fun s H C cl fp => (hg s H C cl fp).pg) (fun s H C cl fp => (ht s H C cl fp).pts) (fun s H C cl fp => (hi1 s H C cl fp).pi) (fun s H C cl fp => (hg1 s H C cl fp).pg) (fun s H C cl fp => (ht1 s H C cl fp).pts) (fun s H C cl fp => (he s H C cl fp).pe) hs hs1)
    (lc2_of hm (fun i hi => by simpa using List.all_eq_true.mp hts i (by simpa using hi)) (fun i hi => by simpa using List.all_eq_true.mp hus i (by simpa using hi)) hO' fun i hi => hO' i (hv' i hi))⟩
theorem ss_setLc2 (i : Nat) {y : Str} {py : Pos} {Ob Oc O' : List Nat} {spos : Pos} (hN : X.N.Nodup) (hi : SI X O st tg iter it) (ok : BlkOk X.N X.env.scope scope own) (hg : InBlk X scope fun Y => SG Y O O ts tg g) (ht : InBlk X scope fun Y => STs Y O ifs t) (hi1 : InBlk X scope fun Y => SI Y O true tg1 iter1 it1) (hg1 : InBlk X scope fun Y => SG Y O O us tg1 g1) (ht1 : InBlk X scope fun Y => STs Y O ifs1 t1) (he : InBlk X scope fun Y => SE Y O m elt f)
    (hm : m ≠ .w := by decide) (hy : X.N[i]? = some y := by rfl) (hyl : X.env.scope.names.lookup y = some .local := by rfl) (hsw : swapsWith (.ListComp elt [⟨tg, iter, ifs, 0⟩, ⟨tg1, iter1, ifs1, 0⟩] scope pos) (some (.Name y py)) spos.line X.env = pure true := by exact sw_true rfl rfl rfl (by decide +kernel))
    (hv : vs1.all (fun i => (own.map (·.2)).contains i) = true := by rfl) (hts : ts.all (fun i => (own.map (·.2)).contains i) = true := by rfl) (hus : us.all (fun i => vs1.contains i) = true := by rfl) (hO : (own.map (·.2)).all (fun i => !O.contains i) = true := by rfl) (hc : X.calm = true := by rfl) (hs : ∀ x, foldedSetIterable iter X.env x = pure x := by intro _; rfl) (hs1 : ∀ env x, foldedSetIterable iter1 env x = pure x := by intro _ _; rfl) (hO2 : i :: O = O' := by rfl) :
    SS X O Ob Oc O' (.Assign [.Name y py] (.ListComp elt [⟨tg, iter, ifs, 0⟩, ⟨tg1, iter1, ifs1, 0⟩] scope pos) spos) (sSet i (xLc2 it g t it1 g1 t1 f (own.map (·.2)) vs1)) := by
  subst hO2
  have hv' : ∀ i ∈ vs1, i ∈ own.map (·.2) := fun i hi => by simpa using List.all_eq_true.mp hv i hi
  have hO' : ∀ i ∈ own.map (·.2), i ∉ O := fun i hi => by simpa using List.all_eq_true.mp hO i hi
  refine ⟨ps_imp (ps_setLc2 (wi := simI X.K O st it) (g := simG X.K O O ts g) (tt := simTT X.K O t) (wi1 := simI X.K O true it1) (g1 := simG X.K O O us g1) (tt1 := simTT X.K O t1) (te := simT X.K O m f) hc hN hy hyl hsw hi.pi ok hv' (fun s H C cl fp => (hg s H C cl fp).pg) (fun s H C cl fp => (ht s H C cl fp).pts) (fun s H C cl fp => (hi1 s H C cl fp).pi) (fun s H C cl fp => (hg1 s H C cl fp).pg) (fun s H C cl fp => (ht1 s H C cl fp).pts) (fun s H C cl fp => (he s H C cl fp).pe) hs hs1) fun D σ H q => ?_⟩
  exact lc2_of hm (fun i hi => by simpa using List.all_eq_true.mp hts i (by simpa using hi)) (fun i hi => by simpa using List.all_eq_true.mp hus i (by simpa using hi)) hO' (fun i hi => hO' i (hv' i hi)) σ H _ (setf_of σ H q)
end
end Pm

namespace Pm
open PySem PySem.Spec PyProof.Rows L2

/-! ### dicts whose keys are ints -/
def isKeyI (i : Int) : D → Bool
  | .int j => j == i
  | _ => false
def dGetD (kd : List (D × D)) (i : Int) : Option D := (kd.find? fun p => isKeyI i p.1).map (·.2)
def dHasD (kd : List (D × D)) (i : Int) : Bool := kd.any fun p => isKeyI i p.1
def dPutD (kd : List (D × D)) (i : Int) (v : D) : List (D × D) := if dHasD kd i then kd.map (fun p => if isKeyI i p.1 then (p.1, v) else p) else kd ++ [(.int i, v)]
theorem keyD_is (k : Key) (i : Int) : isKeyI i (keyD k) = decide (k = Sum.inl i) := by
  cases k with
  | inl j =>
    simp only [keyD, isKeyI]
    by_cases h : j = i <;> simp [h]
  | inr s => simp [keyD, isKeyI]
section
variable {K : PySem.W.Frag} {A : Addr → Prop} {H : Hp}
theorem dget_some {i : Int} {d : D} : ∀ {ks : List (Key × V)} {ds : List D}, RpL K A H (ks.map (·.2)) ds → dGetD ((ks.map fun p => keyD p.1).zip ds) i = some d → ∃ v, valV ks (Sum.inl i) = some v ∧ Rp K A H v d
  | [], ds, r, e => by simp [dGetD] at e
  | (k, v) :: ks, ds, r, e => by
    cases r with
    | cons h r =>
      simp only [dGetD, List.map_cons, List.zip_cons_cons, List.find?_cons, keyD_is] at e
      by_cases hk : k = Sum.inl i
      · rw [decide_eq_true hk] at e
        cases e
        exact ⟨v, valV_pos hk, h⟩
      · rw [decide_eq_false hk] at e
        obtain ⟨w, e1, e2⟩ := dget_some r e
        exact ⟨w, by rw [valV_neg hk]; exact e1, e2⟩
theorem dhas_eq {i : Int} : ∀ {ks : List (Key × V)} {ds : List D}, RpL K A H (ks.map (·.2)) ds → dHasD ((ks.map fun p => keyD p.1).zip ds) i = (valV ks (Sum.inl i)).isSome
  | [], ds, r => by cases r; rfl
  | (k, v) :: ks, ds, r => by
    cases r with
    | cons h r =>
      simp only [dHasD, List.map_cons, List.zip_cons_cons, List.any_cons, keyD_is]
      by_cases hk : k = Sum.inl i
      · rw [decide_eq_true hk, valV_pos hk]
        rfl
      · rw [decide_eq_false hk, valV_neg hk, Bool.false_or]
        exact dhas_eq r
theorem dput_map {i : Int} {v : V} {d : D} (hv : Rp K A H v d) : ∀ {ks : List (Key × V)} {ds : List D}, RpL K A H (ks.map (·.2)) ds → ∃ ds', RpL K A H ((ks.map fun kv => if kv.1 = Sum.inl i then (kv.1, v) else kv).map (·.2)) ds' ∧
    ((ks.map fun p => keyD p.1).zip ds).map (fun p => if isKeyI i p.1 then (p.1, d) else p) = ((ks.map fun kv => if kv.1 = Sum.inl i then (kv.1, v) else kv).map fun p => keyD p.1).zip ds'
  | [], ds, r => by cases r; exact ⟨[], .nil, rfl⟩
  | (k, w) :: ks, ds, r => by
    cases r with
    | @cons _ _ d0 ds0 h r =>
      obtain ⟨ds', r', e⟩ := dput_map hv r
      simp only [List.map_cons, List.zip_cons_cons, keyD_is]
      by_cases hk : k = Sum.inl i
      · refine ⟨d :: ds', ?_, ?_⟩
        · rw [if_pos hk]; exact .cons hv r'
        · rw [if_pos hk, decide_eq_true hk, if_pos rfl, e]; rfl
      · refine ⟨d0 :: ds', ?_, ?_⟩
        · rw [if_neg hk]; exact .cons h r'
        · rw [if_neg hk, decide_eq_false hk, if_neg Bool.false_ne_true, e]; rfl
theorem dput_ok {i : Int} {v : V} {d : D} (hv : Rp K A H v d) {ks : List (Key × V)} {ds : List D} (r : RpL K A H (ks.map (·.2)) ds) : ∃ ds', RpL K A H ((putK ks (Sum.inl i) v).map (·.2)) ds' ∧
    dPutD ((ks.map fun p => keyD p.1).zip ds) i d = ((putK ks (Sum.inl i) v).map fun p => keyD p.1).zip ds' := by
  unfold dPutD putK
  rw [dhas_eq r, valV_any]
  by_cases hh : (valV ks (Sum.inl i)).isSome = true
  · rw [if_pos hh, if_pos hh]
    exact dput_map hv r
  · rw [if_neg hh, if_neg hh]
    refine ⟨ds ++ [d], ?_, ?_⟩
    · rw [List.map_append]
      exact RpL.app (.one hv) r
    · rw [List.map_append]
      have hl : (ks.map fun p => keyD p.1).length = ds.length := by
        have := r.length
        simpa using this
      rw [List.zip_append hl]
      rfl
/-- a value that stands for a dict -/
theorem WRp.dict {v : V} {kd : List (D × D)} (h : WRp K A H v (.dict kd)) (hs : ∀ xs, kd ≠ [(.none, .list xs)]) : ∃ a ks ds, v = .ref a ∧ H a = some (.dK ks) ∧ RpL K A H (ks.map (·.2)) ds ∧ kd = (ks.map fun p => keyD p.1).zip ds := by
  rcases h with h | ⟨a, e, h⟩
  · cases h with
    | scr h n r => exact absurd rfl (hs _)
    | kl h r => exact absurd rfl (hs _)
    | dic h n r e => exact ⟨_, _, _, rfl, h, r, e⟩
  · cases h with
    | dic h r z => exact ⟨_, _, _, e, h, r, z⟩
end
def oIxK : D → D → Option D
  | .dict kd, .int i => if (kd.any fun p => isNone p.1) then none else dGetD kd i
  | _, _ => none
def oInK : D → D → Option D
  | .int i, .dict kd => if (kd.any fun p => isNone p.1) then none else some (.bool (dHasD kd i))
  | _, _ => none
def oNotInK : D → D → Option D
  | .int i, .dict kd => if (kd.any fun p => isNone p.1) then none else some (.bool (!dHasD kd i))
  | _, _ => none
theorem no_scr {kd : List (D × D)} (h : ¬ (kd.any fun p => isNone p.1) = true) : ∀ xs, kd ≠ [(.none, .list xs)] := fun xs e => by
  subst e
  exact h rfl
section
variable {X : Cx} {O Ob Oc : List Nat} {m ma mb : Md} {k : Nat} {a b e : Expr} {fa fb f : Xp} {pos p1 p2 : Pos}
theorem hu1 {A : Around} (hr : Room k A) : A.units + 1 < cLine := by have := hr.un; omega
theorem se_new : SE X O .f (.Dict [] [] pos) (xC (.dict [])) := by
  refine ⟨pe_imp pe_dnewK fun σ H Q q => ?_⟩
  obtain ⟨H0, A0, G, ρ, B, d, S, e, k⟩ := q
  cases e
  exact fun p hp => k _ _ (same_upd hp) (.inl ⟨p, rfl, hp, .dic (ks := []) (ds := []) upd_same .nil rfl⟩)
theorem se_dget (hr : Room k X.A) (ha : SE X O ma a fa) (hb : SE X O mb b fb) (hs : NoSl b := by exact fun _ _ => rfl) : SE X O .s (.Subscript a b pos) (xBin oIxK fa fb) := by
  refine ⟨pe_imp (pe_dget (hu1 hr) ha.pe hb.pe hs) fun σ H Q q => ?_⟩
  obtain ⟨H0, A0, G, ρ, B, d, S, e, k⟩ := q
  obtain ⟨x, ex, e⟩ := bind2 e
  obtain ⟨y, ey, e⟩ := bind2 e
  refine ⟨H0, A0, G, ρ, B, x, S, ex, fun v H1 s1 r1 => ⟨H0, A0, G, ρ, B, y, S.mono s1, ey, fun u H2 s2 r2 => ?_⟩⟩
  unfold oIxK at e
  split at e
  · split at e
    · cases e
    · rename_i hn
      obtain ⟨t, ks, ds, rfl, ht, rt, ek⟩ := (r1.toW.mono s2).dict (no_scr hn)
      rw [ek] at e
      obtain ⟨w, ew, rw'⟩ := dget_some rt e
      exact ⟨t, w, rfl, by rw [← ew, r2.toW.int]; exact DGet.k (k := Sum.inl _) ht, k _ H2 (s1.trans s2) rw'⟩
  · cases e
theorem se_dset_dummy : True := trivial
theorem tIn_of {g : D → D → Option D} (σ : L2.St) (H : Hp) (Q : VK) (hg : ∀ x y z, g x y = some z → ∃ i kd, x = .int i ∧ y = .dict kd ∧ ¬ (kd.any fun p => isNone p.1) = true ∧ z = .bool (dHasD kd i)) (q : simT X.K O .f (xBin g fa fb) σ H Q) : tDIn (simT X.K O ma fa) (simT X.K O mb fb) σ H Q := by
  obtain ⟨H0, A0, G, ρ, B, d, S, e, k⟩ := q
  obtain ⟨x, ex, e⟩ := bind2 e
  obtain ⟨y, ey, e⟩ := bind2 e
  obtain ⟨i, kd, rfl, rfl, hn, rfl⟩ := hg _ _ _ e
  refine ⟨H0, A0, G, ρ, B, _, S, ex, fun v H1 s1 r1 => ⟨H0, A0, G, ρ, B, _, S.mono s1, ey, fun u H2 s2 r2 => ?_⟩⟩
  obtain ⟨t, ks, ds, rfl, ht, rt, ek⟩ := r2.toW.dict (no_scr hn)
  refine ⟨t, valV ks (Sum.inl i), rfl, by rw [r1.toW.int]; exact DGet.k (k := Sum.inl _) ht, k _ H2 (s1.trans s2) ?_⟩
  rw [ek, dhas_eq rt]
  exact Res.bl
theorem tNotIn_of {g : D → D → Option D} (σ : L2.St) (H : Hp) (Q : VK) (hg : ∀ x y z, g x y = some z → ∃ i kd, x = .int i ∧ y = .dict kd ∧ ¬ (kd.any fun p => isNone p.1) = true ∧ z = .bool (!dHasD kd i)) (q : simT X.K O .f (xBin g fa fb) σ H Q) : tDNotIn (simT X.K O ma fa) (simT X.K O mb fb) σ H Q := by
  obtain ⟨H0, A0, G, ρ, B, d, S, e, k⟩ := q
  obtain ⟨x, ex, e⟩ := bind2 e
  obtain ⟨y, ey, e⟩ := bind2 e
  obtain ⟨i, kd, rfl, rfl, hn, rfl⟩ := hg _ _ _ e
  refine ⟨H0, A0, G, ρ, B, _, S, ex, fun v H1 s1 r1 => ⟨H0, A0, G, ρ, B, _, S.mono s1, ey, fun u H2 s2 r2 => ?_⟩⟩
  obtain ⟨t, ks, ds, rfl, ht, rt, ek⟩ := r2.toW.dict (no_scr hn)
  refine ⟨t, valV ks (Sum.inl i), rfl, by rw [r1.toW.int]; exact DGet.k (k := Sum.inl _) ht, k _ H2 (s1.trans s2) ?_⟩
  rw [ek, dhas_eq rt]
  exact Res.bl
theorem inK_shape {x y z : D} (h : oInK x y = some z) : ∃ i kd, x = .int i ∧ y = .dict kd ∧ ¬ (kd.any fun p => isNone p.1) = true ∧ z = .bool (dHasD kd i) := by
  unfold oInK at h
  split at h
  · split at h
    · cases h
    · rename_i hn
      cases h
      exact ⟨_, _, rfl, rfl, hn, rfl⟩
  · cases h
theorem notInK_shape {x y z : D} (h : oNotInK x y = some z) : ∃ i kd, x = .int i ∧ y = .dict kd ∧ ¬ (kd.any fun p => isNone p.1) = true ∧ z = .bool (!dHasD kd i) := by
  unfold oNotInK at h
  split at h
  · split at h
    · cases h
    · rename_i hn
      cases h
      exact ⟨_, _, rfl, rfl, hn, rfl⟩
  · cases h
theorem se_din (hr : Room k X.A) (ha : SE X O ma a fa) (hb : SE X O mb b fb) (hm : behindInMarks .In b = false := by rfl) : SE X O .f (.Compare a [.In] [b] pos) (xBin oInK fa fb) := ⟨pe_imp (pe_cmp (pc_din (hu1 hr) ha.pe hb.pe) hm) fun σ H Q q => tIn_of σ H Q (fun _ _ _ => inK_shape) q⟩
theorem se_dnotin (hr : Room k X.A) (ha : SE X O ma a fa) (hb : SE X O mb b fb) (hm : behindInMarks .NotIn b = false := by rfl) : SE X O .f (.Compare a [.NotIn] [b] pos) (xBin oNotInK fa fb) := ⟨pe_imp (pe_cmp (pc_dnotin (hu1 hr) ha.pe hb.pe) hm) fun σ H Q q => tNotIn_of σ H Q (fun _ _ _ => notInK_shape) q⟩
theorem tB_of {g : D → D → Option D} {t : TE} (σ : L2.St) (H : Hp) (Q : Bool → Hp → Prop) (ht : ∀ Q, simT X.K O .f (xBin g fa fb) σ H Q → t σ H Q) (q : simTT X.K O (tOf (xBin g fa fb)) σ H Q) : tB t σ H Q := by
  obtain ⟨H0, A0, G, ρ, B, b, S, e, k⟩ := q
  obtain ⟨d, ed, e⟩ := bind2 e
  have := dB_some e
  subst this
  exact ht _ ⟨H0, A0, G, ρ, B, _, S, ed, fun v H' s r => ⟨b, r.toW.bl, k H' s⟩⟩
theorem st_din (hr : Room k X.A) (ha : SE X O ma a fa) (hb : SE X O mb b fb) (hm : behindInMarks .In b = false := by rfl) : ST X O (.Compare a [.In] [b] pos) (tOf (xBin oInK fa fb)) := ⟨pt_imp (pt_cmp (pc_din (hu1 hr) ha.pe hb.pe) hm) fun σ H Q q => tB_of σ H Q (fun Q q => tIn_of σ H Q (fun _ _ _ => inK_shape) q) q⟩
theorem st_dnotin (hr : Room k X.A) (ha : SE X O ma a fa) (hb : SE X O mb b fb) (hm : behindInMarks .NotIn b = false := by rfl) : ST X O (.Compare a [.NotIn] [b] pos) (tOf (xBin oNotInK fa fb)) := ⟨pt_imp (pt_cmp (pc_dnotin (hu1 hr) ha.pe hb.pe) hm) fun σ H Q q => tB_of σ H Q (fun Q q => tNotIn_of σ H Q (fun _ _ _ => notInK_shape) q) q⟩
/-- x[j] = e, a dict -/
def sPutK (i : Nat) (fj f : Xp) : XS := fun ρ => (f ρ).bind fun y => (xVar i ρ).bind fun x => (fj ρ).bind fun j => match x, j with
  | .dict kd, .int j => if kd.length < 16777216 ∧ i < ρ.length then some (.nx (ρ.set i (some (.dict (dPutD kd j y))))) else none
  | _, _ => none
theorem ownK_of {K : PySem.W.Frag} {H0 H : Hp} {A0 : Addr → Prop} {G : List (V × D)} {σ : L2.St} {ρ : PEnv} {B : Nat → Option Addr} {i : Nat} {kd : List (D × D)} (S : Sim K H0 A0 G O σ H ρ B) (hi : O.contains i = true) (e : xVar i ρ = some (.dict kd)) : ∃ a ks ds, B i = some a ∧ σ[i]? = some (some (.ref a)) ∧ H a = some (.dK ks) ∧ RpL K (Av A0 B) H (ks.map (·.2)) ds ∧ kd = (ks.map fun p => keyD p.1).zip ds := by
  obtain ⟨a, h1, h2, h3⟩ := S.ob i _ (by simpa using hi) (getD_some e) rfl
  cases h3 with
  | dic h r z => exact ⟨a, _, _, h1, h2, h, r, z⟩
theorem ss_putK (i : Nat) {x : Str} {j : Expr} {fj : Xp} (hr : Room k X.A) (he : SE X O m e f) (hj : SE X O mb j fj) (hm : m ≠ .w := by decide) (hO : O.contains i = true := by rfl) (hN : X.N[i]? = some x := by rfl) (hv : Vis X.env.scope x := by first | exact Or.inl rfl | exact Or.inr (Or.inl rfl) | exact Or.inr (Or.inr rfl))
    (hd : (x == ("__debug__" : Str)) = false := by decide) (hcd : (x == ("__classdict__" : Str)) = false := by decide) (hs : swapsWith e (some (.Subscript (.Name x p1) j p2)) pos.line X.env = pure false := by rfl) : SS X O Ob Oc O (.Assign [.Subscript (.Name x p1) j p2] e pos) (sPutK i fj f) := by
  refine ⟨ps_imp (ps_dput (hu1 hr) (pe_var hN hv hd hcd) hj.pe he.pe hs) fun D σ H q => ?_⟩
  obtain ⟨H0, A0, G, ρ, B, o, S, e, k⟩ := q
  obtain ⟨y, ey, e⟩ := bind2 e
  obtain ⟨d, ed, e⟩ := bind2 e
  obtain ⟨z, ez, e⟩ := bind2 e
  split at e
  · split at e
    · rename_i hz
      cases e
      obtain ⟨a, ks, ds, hB, hσ, ha, ra, ek⟩ := ownK_of S hO ed
      refine ⟨H0, A0, G, ρ, B, y, S, ey, fun v H1 s1 r1 => ⟨.ref a, hσ, H0, A0, G, ρ, B, _, S.mono s1, ez, fun u H2 s2 r2 => ?_⟩⟩
      have s12 := s1.trans s2
      have S1 := S.mono s12
      have av : Av A0 B a := .inr ⟨i, hB⟩
      have hlen : ks.length < sizeLine := by
        have e1 : ks.length = ds.length := by simpa using ra.length
        have e2 := hz.1
        rw [ek, List.length_zip, List.length_map, e1, Nat.min_self] at e2
        rw [e1]
        exact e2
      obtain ⟨ds', r', e'⟩ := dput_ok (i := _) ((r1.toS S.tr hm).mono s2) (ra.mono s12)
      refine ⟨a, _, rfl, by rw [r2.toW.int]; exact DPut.k (k := Sum.inl _) (s12 _ _ ha) hlen, ?_⟩
      rw [ek] at k
      refine k _ _ B (S1.write hB hσ (.dic upd_same (r'.step (fun b o e n => ?_) fun _ z => .inl z) e') hz.2)
      rw [upd_ne (fun z => n (by rw [z]; exact av))]
      exact e
    · cases e
  · cases e

/-! ### the least and the greatest of ints -/
def bMinI : List D → Option D
  | [x] => (seqD x).bind fun xs => (asInts xs).bind fun ns => ns.min?.map .int
  | _ => none
def bMaxI : List D → Option D
  | [x] => (seqD x).bind fun xs => (asInts xs).bind fun ns => ns.max?.map .int
  | _ => none
theorem cb_minI (hc : X.calm = true := by rfl) : CallR X (.builtin "min") (rC X.K .f bMinI) := by
  intro pins s σ H vs us Q I r ⟨A, ds, d, tr, w, e, q⟩
  unfold bMinI at e
  split at e
  · obtain ⟨v, rfl, w1⟩ := p1 w
    obtain ⟨xs, e1, e⟩ := bind2 e
    obtain ⟨ns, e2, e⟩ := bind2 e
    obtain ⟨mn, e3, e⟩ := Option.map_eq_some_iff.mp e
    subst e
    obtain ⟨a, vs, rfl, ha, ra⟩ := w1.seq e1
    rw [ref1 r]
    have hv := ra.ints e2
    subst hv
    refine call_min_walk (sq_iter (show X.A.in1.handled = none from I.ok.hd hc) I ha fun its J fp wr St h₂ rv W st hfp kp => ?_)
    have hl := rv.length
    rw [List.length_map] at hl
    have hne : 0 < ns.length := by
      cases ns with
      | nil => simp at e3
      | cons _ _ => simp
    refine ⟨_, _, _, _, _, _, _, rfl, W, st, hfp, by omega, CmpOf.ints_lt (fun i => ns.getD i 0) (fun i v h => intsAt rv i v h), fun v h' tk hv hk => ?_⟩
    obtain ⟨t, rfl⟩ := intsAt rv _ _ hv
    obtain ⟨b1, b2⟩ := argBest_lt (fun i => ns.getD i 0) (its.length - 1)
    refine ⟨.int mn, H, I.kept (kp h' hk), ⟨t, ?_⟩, q _ H (Same.refl H) Res.int⟩
    congr 1
    rw [List.min?_eq_some_iff] at e3
    refine Int.le_antisymm ?_ ?_
    · obtain ⟨i, hi, e4⟩ := List.mem_iff_getElem.mp e3.1
      have := b2 i (by omega)
      simp only [List.getD_eq_getElem?_getD, List.getElem?_eq_getElem hi, Option.getD_some] at this
      rw [e4] at this
      simpa [List.getD_eq_getElem?_getD] using this
    · have hb : argBest (fun i j => decide (ns.getD i 0 < ns.getD j 0)) (its.length - 1) < ns.length := by
        have h1 : argBest (fun i j => decide (ns.getD i 0 < ns.getD j 0)) (its.length - 1) ≤ its.length - 1 := b1
        omega
      exact e3.2 _ (by rw [List.getD_eq_getElem?_getD, List.getElem?_eq_getElem hb]; exact List.getElem_mem hb)
  · cases e
end
end Pm

namespace Pm
open PySem PySem.Spec PyProof.Rows L2
/-! ### a def behind the top -/
abbrev FnP (K : PySem.W.Frag) (x : Str) (st : Stmt) (f : Addr) (fd : FuncData) : Prop := FunD K x x (defArgs st) (defBody st) (defScope st) [] [] f fd
theorem fnp_ok {P : Program} {w : World} {K : PySem.W.Frag} {mg : Str → Option Value} {base : Heap} {x : Str} {st : Stmt} {f : Addr} {fd : FuncData} {N ps : List Str} {k : Nat} {O' : List Nat} {g : XS} (F : FnP K x st f fd) (S : FnScope N ps (defScope st))
    (hb : ∀ (cdv : Value) (A : Around) (outer : List Env) (s : Shared) (H : Hp) (E : XK), Room k (A.deeper (envOfC x (defScope st) s.heap.objs.size f cdv)) → SSs (cxOf CX0 P w K mg base N x (defScope st) f cdv A outer s H E).nox [] [] [] O' (defBody st) g) :
    FnOk P w K mg base CX0 (k + 1) f fd ps (spD K ps.length (runD ps.length N.length g)) := by
  refine F.ok S (fun vs H Q E h => ?_) (fun cdv A outer s H vs Q E hr h => ?_)
  · obtain ⟨A, ds, d, t, hn, _⟩ := h
    exact hn
  · obtain ⟨A', ds, d, t, hn, r, e, q⟩ := h
    obtain ⟨o, eo, e⟩ := bind2 e
    refine ⟨_, PSs.nox (hb cdv A outer s H E hr).pss, H, A', [], _, fun _ => none, o, sim_start t r hn, eo, ?_⟩
    cases o with
    | nx ρ => cases e; exact fun σ' H' B' S' => q .non H' S'.same .non
    | rt d' => cases e; exact fun v H' s' r' => q v H' s' r'
    | bk ρ => cases e
    | ct ρ => cases e
/-- a def that is never called keeps every promise -/
theorem fn_none {P : Program} {w : World} {K : PySem.W.Frag} {mg : Str → Option Value} {base : Heap} {x : Str} {st : Stmt} {f : Addr} {fd : FuncData} {N ps : List Str} {k : Nat} (F : FnP K x st f fd) (S : FnScope N ps (defScope st)) : FnOk P w K mg base CX0 (k + 1) f fd ps (spD K ps.length fun _ => none) := by
  refine F.ok S (fun vs H Q E h => ?_) (fun cdv A outer s H vs Q E hr h => ?_)
  · obtain ⟨A, ds, d, t, hn, _⟩ := h
    exact hn
  · obtain ⟨A', ds, d, t, hn, r, e, q⟩ := h
    cases e
theorem rpl_ints {K : PySem.W.Frag} {A : Addr → Prop} {H : Hp} : ∀ ns : List Int, RpL K A H (ns.map V.int) (ns.map PyData.int)
  | [] => .nil
  | n :: ns => .cons (.int n) (rpl_ints ns)
/-- what the end asks of the law's def -/
theorem sp_law {K : PySem.W.Frag} {F : List D → Option D} {n : Nat} (hF : ∀ ns : List Int, ns.length ≤ n → F [scr (ns.map PyData.int)] = some (.bool true)) (H : Hp) (a : Addr) (ns : List Int) (hl : ns.length ≤ n) (_ : Only H) (hS : SqL K H a (ns.map V.int)) :
    spD K 1 F [.ref a] H (fun v _ => v = .bl true) fun _ _ _ => False := by
  refine ⟨fun _ => False, [scr (ns.map PyData.int)], .bool true, fun _ z => z.elim, rfl, .cons ?_ .nil, hF ns hl, fun v H' s r => ?_⟩
  · rcases hS with h | h
    · exact .scr h id (rpl_ints ns)
    · exact .kl h (rpl_ints ns)
  · cases r
    rfl
end Pm

/-! Pm: ranges laid out at once. -/
namespace Pm
open PySem PySem.Spec PyProof.Rows L2
def oRgT (lo hi : Int) : Option (List D) := if -(2 ^ 62) ≤ lo ∧ lo < 2 ^ 62 ∧ -(2 ^ 62) ≤ hi ∧ hi < 2 ^ 62 ∧ (hi - lo).toNat ≤ 2 ^ 24 then some (rangeD lo 1 (hi - lo).toNat) else none
def oTupR1 : D → Option D
  | .int n => (oRgT 0 n).map .tuple
  | _ => none
def oLstR1 : D → Option D
  | .int n => (oRgT 0 n).map .list
  | _ => none
def oTupR2 : D → D → Option D
  | .int a, .int n => (oRgT a n).map .tuple
  | _, _ => none
def oLstR2 : D → D → Option D
  | .int a, .int n => (oRgT a n).map .list
  | _, _ => none
theorem rpl_rg {K : PySem.W.Frag} {A : Addr → Prop} {H : Hp} (a b : Int) : RpL K A H (rgV a b) (rangeD a 1 (b - a).toNat) := by
  unfold rgV rangeD
  induction List.range (b - a).toNat with
  | nil => exact .nil
  | cons i r ih =>
    refine .cons ?_ ih
    have e : a + (i : Nat) * 1 = a + (i : Nat) := by rw [Int.mul_one]
    show Rp K A H (V.int (a + (i : Nat))) (PyData.int (a + (i : Nat) * 1))
    rw [e]
    exact .int _
section
variable {X : Cx} {O : List Nat} {m m' : Md} {a b : Expr} {fa fb : Xp} {p p2 pos pos2 : Pos}
theorem se_tupR1 (h1 : X.mg "tuple" = none) (h2 : X.mg "range" = none) (ha : SE X O m a fa) (hc : X.calm = true := by rfl) (hg : L2.Gl X "tuple" := by rfl) (hg2 : L2.Gl X "range" := by rfl) (na : starEach [a] X.env = (false, eval a X.env) :: starEach [] X.env := by rfl)
    (na2 : starEach [Expr.Call (.Name "range" p) [a] [] pos] X.env = (false, eval (Expr.Call (.Name "range" p) [a] [] pos) X.env) :: starEach [] X.env := by rfl) : SE X O .f (.Call (.Name "tuple" p2) [.Call (.Name "range" p) [a] [] pos] [] pos2) (xUn oTupR1 fa) := by
  refine ⟨pe_imp (pe_tupRg hc hg h1 (prg_1 hg2 h2 ha.pe na) na2) fun σ H Q q => ?_⟩
  obtain ⟨H0, A0, G, ρ, B, d, S, e, k⟩ := q
  obtain ⟨y, ey, e⟩ := bind2 e
  refine ⟨H0, A0, G, ρ, B, y, S, ey, fun v H1 s1 r1 => ?_⟩
  unfold oTupR1 at e
  split at e
  · obtain ⟨ds, e1, e⟩ := Option.map_eq_some_iff.mp e
    subst e
    unfold oRgT at e1
    split at e1
    · rename_i hz
      cases e1
      exact ⟨_, r1.toW.int, ⟨hz.1, hz.2.1, hz.2.2.1, hz.2.2.2.1, hz.2.2.2.2⟩, fun q hq => k _ _ (s1.trans (same_upd hq)) (Res.flat (Rp.newT (S.mono s1).tr hq (rpl_rg _ _)) rfl)⟩
    · cases e1
  · cases e
theorem se_lstR1 (h1 : X.mg "list" = none) (h2 : X.mg "range" = none) (ha : SE X O m a fa) (hc : X.calm = true := by rfl) (hg : L2.Gl X "list" := by rfl) (hg2 : L2.Gl X "range" := by rfl) (na : starEach [a] X.env = (false, eval a X.env) :: starEach [] X.env := by rfl)
    (na2 : starEach [Expr.Call (.Name "range" p) [a] [] pos] X.env = (false, eval (Expr.Call (.Name "range" p) [a] [] pos) X.env) :: starEach [] X.env := by rfl) : SE X O .f (.Call (.Name "list" p2) [.Call (.Name "range" p) [a] [] pos] [] pos2) (xUn oLstR1 fa) := by
  refine ⟨pe_imp (pe_listRg hc hg h1 (prg_1 hg2 h2 ha.pe na) na2) fun σ H Q q => ?_⟩
  obtain ⟨H0, A0, G, ρ, B, d, S, e, k⟩ := q
  obtain ⟨y, ey, e⟩ := bind2 e
  refine ⟨H0, A0, G, ρ, B, y, S, ey, fun v H1 s1 r1 => ?_⟩
  unfold oLstR1 at e
  split at e
  · obtain ⟨ds, e1, e⟩ := Option.map_eq_some_iff.mp e
    subst e
    unfold oRgT at e1
    split at e1
    · rename_i hz
      cases e1
      exact ⟨_, r1.toW.int, ⟨hz.1, hz.2.1, hz.2.2.1, hz.2.2.2.1, hz.2.2.2.2⟩, fun q hq => k _ _ (s1.trans (same_upd hq)) (Res.newL (S.mono s1).tr hq (rpl_rg _ _) s1)⟩
    · cases e1
  · cases e
end
section
variable {X : Cx} {O : List Nat} {e : Expr} {es : List Expr} {fs : XL} {pos p : Pos} {k j : Nat} {x : Str} {ps : List Str} {F : List D → Option D} {P : Program} {w : World} {K : PySem.W.Frag} {mg : Str → Option Value} {base : Heap} {A : Around}
/-- a call of a def of the text, the context's parts by name -/
theorem se_callD (hd : Def P w K mg base k x ps F) (hr : Room j A) (ha : SA X O true (e :: es) fs) (hk : k ≤ j := by decide) (hX : X.prog = P ∧ X.w = w ∧ X.K = K ∧ X.mg = mg ∧ X.base = base ∧ X.A = A := by exact ⟨rfl, rfl, rfl, rfl, rfl, rfl⟩) (hl : (e :: es).length = ps.length := by rfl) (hg : L2.Gl X x := by rfl) (hdb : (x == ("__debug__" : Str)) = false := by decide)
    (he : starEach (e :: es) X.env = (false, eval e X.env) :: starEach es X.env := by rfl) (hpl : (backTo pos (starEach es X.env)).any (·.1) = false := by rfl) : SE X O .s (.Call (.Name x p) (e :: es) [] pos) (xCall (fun ds => if ds.length = ps.length then F ds else none) fs) := by
  obtain ⟨rfl, rfl, rfl, rfl, rfl, rfl⟩ := hX
  exact se_call hd hr ha hk hl hg hdb he hpl
theorem se_callWD (hd : Def P w K mg base k x ps F) (hr : Room j A) (ha : SA X O false (e :: es) fs) (hk : k ≤ j := by decide) (hX : X.prog = P ∧ X.w = w ∧ X.K = K ∧ X.mg = mg ∧ X.base = base ∧ X.A = A := by exact ⟨rfl, rfl, rfl, rfl, rfl, rfl⟩) (hg : L2.Gl X x := by rfl) (hdb : (x == ("__debug__" : Str)) = false := by decide)
    (he : starEach (e :: es) X.env = (false, eval e X.env) :: starEach es X.env := by rfl) (hpl : (backTo pos (starEach es X.env)).any (·.1) = false := by rfl) : SE X O .f (.Call (.Name x p) (e :: es) [] pos) (xCall (fun ds => if ds.length = ps.length then (F ds).bind fun d => if flat d then some d else none else none) fs) := by
  obtain ⟨rfl, rfl, rfl, rfl, rfl, rfl⟩ := hX
  exact se_callW hd hr ha hk hg hdb he hpl
end
end Pm

/-! Pm: a tuple taken once. -/
namespace Pm
open PySem PySem.Spec PyProof.Rows L2
theorem tuple_mul1 (l : Addr) (items : Array Value) (n : Nat) (dd : Option Addr) (sl : Array (Option Value)) (x : Int) (u : Tok) (c0 : (decide (x < -(2 ^ 63)) || decide (x ≥ 2 ^ 63)) = false) (c1 : (items.isEmpty || x == 1) = true) :
    Meets (Builtin.«tuple.__mul__» ⟨[.ref l, .int x u], []⟩) (fun _ R s => s.heap.get? l = some { cls := .type "tuple", dict := dd, data := .seq items n, slots := sl } ∧
      R (.ok (.ret (Value.ref l))) s) :=
  .of_wp fun prog w A R s h => by
    obtain ⟨hp, g, d, tk, os⟩ := s
    obtain ⟨hl, h⟩ := h
    have f1 := AutoSeq1.idx_int
    wp_walk using wpAny_loadPart' hl
    repeat (first
      | (refine wpAny_ite_false (decide_eq_false (by rw [c0]; exact Bool.false_ne_true)) ?_; wp_walk using wpAny_loadPart' hl)
      | (refine wpAny_ite_true (decide_eq_true c1) ?_; wp_walk using wpAny_loadPart' hl))
    exact ⟨_, rfl, h⟩
theorem tuple_mul0 (l : Addr) (items : Array Value) (n : Nat) (dd : Option Addr) (sl : Array (Option Value)) (x : Int) (u : Tok) (c0 : (decide (x < -(2 ^ 63)) || decide (x ≥ 2 ^ 63)) = false) (c1 : (items.isEmpty || x == 1) = false) (c2 : (decide (x ≤ 0) || items.isEmpty) = true) :
    Meets (Builtin.«tuple.__mul__» ⟨[.ref l, .int x u], []⟩) (fun _ R s => s.heap.get? l = some { cls := .type "tuple", dict := dd, data := .seq items n, slots := sl } ∧
      R (.ok (.ret (Value.ref s.heap.objs.size))) { s with heap := s.heap.push { cls := Value.type "tuple", data := Data.seq #[] }, toks := s.toks }) :=
  .of_wp fun prog w A R s h => by
    obtain ⟨hp, g, d, tk, os⟩ := s
    obtain ⟨hl, h⟩ := h
    have f1 := AutoSeq1.idx_int
    wp_walk using wpAny_loadPart' hl
    repeat (first
      | (refine wpAny_ite_false (decide_eq_false (by rw [c0]; exact Bool.false_ne_true)) ?_; wp_walk using wpAny_loadPart' hl)
      | (refine wpAny_ite_false (decide_eq_false (by rw [c1]; exact Bool.false_ne_true)) ?_; wp_walk using wpAny_loadPart' hl)
      | (refine wpAny_ite_true (decide_eq_true c2) ?_; wp_walk using wpAny_loadPart' hl))
    exact ⟨_, rfl, h⟩
def rRepS (K : PySem.W.Frag) : R2 := fun x y H Q => ∃ l k xs, x = .ref l ∧ y = .int k ∧ SqT K H l xs ∧ -(2 ^ 62) ≤ k ∧ k ≤ 1000 ∧ (xs = [] ∨ k = 1) ∧ Q (.ref l) H
def rRep0 (K : PySem.W.Frag) : R2 := fun x y H Q => ∃ l k xs, x = .ref l ∧ y = .int k ∧ SqT K H l xs ∧ -(2 ^ 62) ≤ k ∧ k ≤ 0 ∧ xs ≠ [] ∧ ∀ p, H p = none → Q (.ref p) (upd H p (.tup []))
section
variable {X : Cx}
theorem op_repS : OpR X (binaryOp .Mult) (rRepS X.K) := by
  intro pins s σ H x y v u Q I rx ry h
  obtain ⟨l, k, xs, rfl, rfl, hT, h1, h2, hz, q⟩ := h
  cases rx
  obtain ⟨t, rfl⟩ := ry
  obtain ⟨its, r, ⟨⟨cls, dd, data, sl⟩, ho, hc, n, hd⟩, hs⟩ := I.tuple hT
  simp only at hc hd
  subst hc hd
  have c0 : (decide (k < -(2 ^ 63)) || decide (k ≥ 2 ^ 63)) = false := by
    rw [decide_eq_false (by omega), decide_eq_false (by omega)] <;> rfl
  have c1 : (its.toArray.isEmpty || k == 1) = true := by
    rcases hz with hz | hz
    · subst hz
      cases r
      rfl
    · rw [hz, Bool.or_eq_true]
      exact .inr rfl
  exact wpAny_binaryOp_repeat_ref (T := "tuple") (U := "int") (by decide) ⟨_, ho, rfl⟩ (fun s' => typeIs_int s' k t) noFill_tuple_mul F.fills_int_mul F.slot_int_rmul repeat_tuple F.slot_int_index.lookup
    (call_meets F.slot_int_rmul (typeIs_int s k t) F.entry_int_rmul (F.args_int_rmul_2 _ _) (int_rmul_tuple k t l its.toArray n dd sl)
      ⟨ho, rfl, ⟨_, ho, rfl⟩, call_meets F.slot_tuple_mul ⟨_, ho, rfl⟩ F.entry_tuple_mul (F.args_tuple_mul_2 _ _) (tuple_mul1 l its.toArray n dd sl k t c0 c1) ⟨ho, ⟨.ref l, H, I, rfl, q⟩⟩⟩)
theorem op_rep0 : OpR X (binaryOp .Mult) (rRep0 X.K) := by
  intro pins s σ H x y v u Q I rx ry h
  obtain ⟨l, k, xs, rfl, rfl, hT, h1, h2, hz, q⟩ := h
  cases rx
  obtain ⟨t, rfl⟩ := ry
  obtain ⟨its, r, ⟨⟨cls, dd, data, sl⟩, ho, hc, n, hd⟩, hs⟩ := I.tuple hT
  simp only at hc hd
  subst hc hd
  have c0 : (decide (k < -(2 ^ 63)) || decide (k ≥ 2 ^ 63)) = false := by
    rw [decide_eq_false (by omega), decide_eq_false (by omega)] <;> rfl
  have hi : its.toArray.isEmpty = false := by
    cases r with
    | nil => exact absurd rfl hz
    | cons => rfl
  have c1 : (its.toArray.isEmpty || k == 1) = false := by
    rw [hi, Bool.false_or]
    exact beq_eq_false_iff_ne.mpr (by omega)
  have c2 : (decide (k ≤ 0) || its.toArray.isEmpty) = true := by
    rw [decide_eq_true h2, Bool.true_or]
  refine wpAny_binaryOp_repeat_ref (T := "tuple") (U := "int") (by decide) ⟨_, ho, rfl⟩ (fun s' => typeIs_int s' k t) noFill_tuple_mul F.fills_int_mul F.slot_int_rmul repeat_tuple F.slot_int_index.lookup
    (call_meets F.slot_int_rmul (typeIs_int s k t) F.entry_int_rmul (F.args_int_rmul_2 _ _) (int_rmul_tuple k t l its.toArray n dd sl)
      ⟨ho, rfl, ⟨_, ho, rfl⟩, call_meets F.slot_tuple_mul ⟨_, ho, rfl⟩ F.entry_tuple_mul (F.args_tuple_mul_2 _ _) (tuple_mul0 l its.toArray n dd sl k t c0 c1 c2) ⟨ho, ?_⟩⟩)
  refine ⟨.ref s.heap.objs.size, _, I.laid (t' := s.toks) (o := .tup []) (fun b ob q => Heap.get?_push_of_some _ q) (Nat.le_refl _) ?_, rfl, q _ (I.hok.fresh (Nat.le_refl _))⟩
  exact ⟨Nat.zero_le _, [], .nil, IsTup.new _ _⟩
end
/-- the product, tuples any number of times -/
def oMul' : D → D → Option D
  | .tuple a, .int k => if -(2 ^ 62) ≤ k ∧ k ≤ 1000 ∧ a.length ≤ 1000 then some (.tuple (List.replicate k.toNat a).flatten) else none
  | x, y => oMul x y
theorem op_mulD' {X : Cx} : OpR X (binaryOp .Mult) (rD X.K .f oMul') := by
  intro pins s σ H x y v u Q I rx ry h
  obtain ⟨A, dx, dy, d, tr, wx, wy, e, q⟩ := id h
  unfold oMul' at e
  split at e
  · rename_i a k
    split at e
    · rename_i hz
      cases e
      obtain ⟨l, xs, rfl, ha, na, ra⟩ := wx.tup
      by_cases h1 : xs = [] ∨ k = 1
      · refine op_repS pins s σ H _ _ v u Q I rx ry ⟨l, k, xs, rfl, wy.int, .of ha, hz.1, hz.2.1, h1, ?_⟩
        have e : (List.replicate k.toNat a).flatten = a := by
          rcases h1 with h1 | h1
          · subst h1
            cases ra
            simp
          · subst h1
            simp
        rw [e] at q
        exact q _ H (Same.refl H) (Res.flat (.tup ha na ra) rfl)
      · have h2 : xs ≠ [] := fun z => h1 (.inl z)
        by_cases h3 : k ≤ 0
        · refine op_rep0 pins s σ H _ _ v u Q I rx ry ⟨l, k, xs, rfl, wy.int, .of ha, hz.1, h3, h2, fun p hp => ?_⟩
          have e : (List.replicate k.toNat a).flatten = [] := by
            rw [Int.toNat_of_nonpos h3]
            rfl
          rw [e] at q
          exact q _ _ (same_upd hp) (Res.flat (Rp.newT tr hp .nil) rfl)
        · have h4 : k ≠ 1 := fun z => h1 (.inr z)
          exact op_repT pins s σ H _ _ v u Q I rx ry ⟨l, k, xs, rfl, wy.int, .of ha, h2, by omega, hz.2.1, by rw [ra.length]; exact hz.2.2, fun p hp => q _ _ (same_upd hp) (Res.flat (Rp.newT tr hp (ra.rep _)) rfl)⟩
    · cases e
  · exact op_mulD pins s σ H x y v u Q I rx ry ⟨A, dx, dy, d, tr, wx, wy, e, q⟩
end Pm

/-! Pm: plain facts for reading the printed functions. -/
namespace Pm
open PySem PySem.Spec PyProof.Rows L2
/-! ### loops -/
theorem whileF_succ (c : PEnv → Option Bool) (b : XS) (n : Nat) (ρ : PEnv) : whileF c b (n + 1) ρ = (c ρ).bind fun t => if t then (b ρ).bind fun o => match o with
      | .nx ρ2 => whileF c b n ρ2
      | .ct ρ2 => whileF c b n ρ2
      | .bk ρ2 => some (.nx ρ2)
      | .rt d => some (.rt d)
    else some (.nx ρ) := rfl
/-- a loop that goes on n turns and ends -/
theorem whileF_run {c : PEnv → Option Bool} {b : XS} {f : Nat → PEnv} {n N : Nat} (hN : n < N) (ht : ∀ i, i < n → c (f i) = some true) (hb : ∀ i, i < n → b (f i) = some (.nx (f (i + 1)))) (he : c (f n) = some false) : whileF c b N (f 0) = some (.nx (f n)) := by
  suffices h : ∀ k i, i + k = n → ∀ N, k < N → whileF c b N (f i) = some (.nx (f n)) from h n 0 (by omega) N hN
  intro k
  induction k with
  | zero =>
    intro i hi N hN
    obtain ⟨N, rfl⟩ : ∃ M, N = M + 1 := ⟨N - 1, by omega⟩
    have : i = n := by omega
    subst this
    simp [whileF_succ, he]
  | succ k ih =>
    intro i hi N hN
    obtain ⟨N, rfl⟩ : ∃ M, N = M + 1 := ⟨N - 1, by omega⟩
    simp [whileF_succ, ht i (by omega), hb i (by omega)]
    exact ih (i + 1) (by omega) N (by omega)
theorem forL_nil (g : D → PEnv → Option PEnv) (b : XS) (ρ : PEnv) : forL g b [] ρ = some (.nx ρ) := rfl
/-- a loop whose turns fold -/
theorem forL_fold {α : Type} {g : D → PEnv → Option PEnv} {b : XS} (f : α → PEnv) (st : α → D → α) (P : α → List D → Prop) (hb : ∀ a d ds, P a (d :: ds) → (g d (f a)).bind b = some (.nx (f (st a d))) ∧ P (st a d) ds) :
    ∀ (ds : List D) (a : α), P a ds → forL g b ds (f a) = some (.nx (f (ds.foldl st a)))
  | [], a, _ => rfl
  | d :: ds, a, h => by
    obtain ⟨h1, h2⟩ := hb a d ds h
    obtain ⟨ρ1, e1, e2⟩ := bind2 h1
    simp only [forL, e1, e2, Option.bind_some, List.foldl_cons]
    exact forL_fold f st P hb ds _ h2
/-- a loop by an invariant over what is done and what is left -/
theorem forL_inv {β : Type} {g : D → PEnv → Option PEnv} {b : XS} (enc : β → D) (I : List β → List β → PEnv → Prop)
    (hb : ∀ pre x rest ρ, I pre (x :: rest) ρ → ∃ ρ1 ρ2, g (enc x) ρ = some ρ1 ∧ (b ρ1 = some (.nx ρ2) ∨ b ρ1 = some (.ct ρ2)) ∧ I (pre ++ [x]) rest ρ2) :
    ∀ (xs pre : List β) (ρ : PEnv), I pre xs ρ → ∃ ρ', forL g b (xs.map enc) ρ = some (.nx ρ') ∧ I (pre ++ xs) [] ρ'
  | [], pre, ρ, h => ⟨ρ, rfl, by rwa [List.append_nil]⟩
  | x :: xs, pre, ρ, h => by
    obtain ⟨ρ1, ρ2, e1, e2, h2⟩ := hb pre x xs ρ h
    obtain ⟨ρ', e3, h3⟩ := forL_inv enc I hb xs (pre ++ [x]) ρ2 h2
    refine ⟨ρ', ?_, by rwa [List.append_assoc] at h3⟩
    rcases e2 with e2 | e2
    · simp only [List.map_cons, forL, e1, e2, Option.bind_some, e3]
    · simp only [List.map_cons, forL, e1, e2, Option.bind_some, e3]
/-- the same where a turn may end the def -/
theorem forL_inv' {β : Type} {g : D → PEnv → Option PEnv} {b : XS} (enc : β → D) (I : List β → List β → PEnv → Prop) (R : D → Prop)
    (hb : ∀ pre x rest ρ, I pre (x :: rest) ρ → ∃ ρ1, g (enc x) ρ = some ρ1 ∧ ((∃ ρ2, (b ρ1 = some (.nx ρ2) ∨ b ρ1 = some (.ct ρ2)) ∧ I (pre ++ [x]) rest ρ2) ∨ ∃ d, b ρ1 = some (.rt d) ∧ R d)) :
    ∀ (xs pre : List β) (ρ : PEnv), I pre xs ρ → (∃ ρ', forL g b (xs.map enc) ρ = some (.nx ρ') ∧ I (pre ++ xs) [] ρ') ∨ ∃ d, forL g b (xs.map enc) ρ = some (.rt d) ∧ R d
  | [], pre, ρ, h => .inl ⟨ρ, rfl, by rwa [List.append_nil]⟩
  | x :: xs, pre, ρ, h => by
    obtain ⟨ρ1, e1, h | ⟨d, e2, h2⟩⟩ := hb pre x xs ρ h
    · obtain ⟨ρ2, e2, h2⟩ := h
      rcases forL_inv' enc I R hb xs (pre ++ [x]) ρ2 h2 with ⟨ρ', e3, h3⟩ | ⟨d, e3, h3⟩
      · refine .inl ⟨ρ', ?_, by rwa [List.append_assoc] at h3⟩
        rcases e2 with e2 | e2
        · simp only [List.map_cons, forL, e1, e2, Option.bind_some, e3]
        · simp only [List.map_cons, forL, e1, e2, Option.bind_some, e3]
      · refine .inr ⟨d, ?_, h3⟩
        rcases e2 with e2 | e2
        · simp only [List.map_cons, forL, e1, e2, Option.bind_some, e3]
        · simp only [List.map_cons, forL, e1, e2, Option.bind_some, e3]
    · exact .inr ⟨d, by simp only [List.map_cons, forL, e1, e2, Option.bind_some], h2⟩
/-! ### comprehensions -/
theorem lcL_map {α : Type} {g : XG} {f : Xp} {ρ : PEnv} (enc h : α → D) : ∀ (xs : List α), (∀ x ∈ xs, (g (enc x) ρ).bind f = some (h x)) → lcL g tYesP f ρ (xs.map enc) = some (xs.map h)
  | [], _ => rfl
  | x :: xs, hx => by
    obtain ⟨ρ1, e1, e2⟩ := bind2 (hx x (List.mem_cons_self ..))
    have := lcL_map (g := g) (f := f) (ρ := ρ) enc h xs fun y hy => hx y (List.mem_cons_of_mem _ hy)
    simp only [List.map_cons, lcL, e1, e2, tYesP, Option.bind_some, if_true, this]
theorem lcL_filter {α : Type} {g : XG} {t : PEnv → Option Bool} {f : Xp} {ρ : PEnv} (enc h : α → D) (p : α → Bool) : ∀ (xs : List α), (∀ x ∈ xs, ∃ ρ1, g (enc x) ρ = some ρ1 ∧ t ρ1 = some (p x) ∧ (p x = true → f ρ1 = some (h x))) → lcL g t f ρ (xs.map enc) = some ((xs.filter p).map h)
  | [], _ => rfl
  | x :: xs, hx => by
    obtain ⟨ρ1, e1, e2, e3⟩ := hx x (List.mem_cons_self ..)
    have := lcL_filter (g := g) (t := t) (f := f) (ρ := ρ) enc h p xs fun y hy => hx y (List.mem_cons_of_mem _ hy)
    by_cases hp : p x = true
    · simp only [List.map_cons, lcL, e1, e2, hp, e3 hp, Option.bind_some, if_true, this, List.filter_cons_of_pos]
    · simp only [List.map_cons, lcL, e1, e2, hp, Option.bind_some, if_false, this, List.filter_cons_of_neg, Bool.false_eq_true, not_false_eq_true]
/-! ### places, ranges -/
theorem atI_nat {α : Type} (xs : List α) (i : Nat) (h : i < xs.length) : atI xs (i : Int) = some xs[i] := by
  unfold atI ixN
  simp [h]
theorem cut_init (xs : List D) : cutD xs none (some (-1)) = xs.dropLast := by
  unfold cutD
  rw [HT.sIx_none, List.drop_zero, Nat.sub_zero, List.dropLast_eq_take]
  congr 1
  unfold HT.sIx
  simp
  omega
theorem asInts_map (xs : List Int) : asInts (xs.map PyData.int) = some xs := by
  induction xs with
  | nil => rfl
  | cons x xs ih => simp [asInts, ih]
theorem asBools_map (xs : List Bool) : asBools (xs.map PyData.bool) = some xs := by
  induction xs with
  | nil => rfl
  | cons x xs ih => simp [asBools, ih]
theorem oR1_nat (n : Nat) (h : n ≤ 16777216) : oR1 [.int n] = some ((List.range n).map fun i => PyData.int (i : Nat)) := by
  show (if (n : Int) ≤ 16777216 ∧ -(2 ^ 62) ≤ (n : Int) then some (rangeD 0 1 (n : Int).toNat) else none) = _
  rw [if_pos (by constructor <;> omega)]
  unfold rangeD
  simp
/-! ### sizes -/
theorem log2_lt_of {n k : Nat} (hk : 0 < k) (h : n < 2 ^ k) : n.log2 < k := by
  by_cases h0 : n = 0
  · subst h0
    simpa using hk
  · exact (Nat.log2_lt h0).mpr h
/-- small enough for every product and quotient -/
def Sm (k : Nat) (a : Int) : Prop := a.natAbs ≤ 2 ^ k
theorem Sm.mul {j k : Nat} {a b : Int} (h1 : Sm j a) (h2 : Sm k b) : Sm (j + k) (a * b) := by
  unfold Sm at *
  rw [Int.natAbs_mul, Nat.pow_add]
  exact Nat.mul_le_mul h1 h2
theorem Sm.mono {j k : Nat} {a : Int} (h : Sm j a) (hk : j ≤ k) : Sm k a := Nat.le_trans h (Nat.pow_le_pow_right (by decide) hk)
theorem Sm.add {k : Nat} {a b : Int} (h1 : Sm k a) (h2 : Sm k b) : Sm (k + 1) (a + b) := by
  unfold Sm at *
  have := Int.natAbs_add_le a b
  rw [Nat.pow_succ]
  omega
theorem Sm.le {k : Nat} {a b : Int} (h : Sm k a) (hb : b.natAbs ≤ a.natAbs) : Sm k b := Nat.le_trans hb h
theorem Sm.lit {k : Nat} {a : Int} (h : a.natAbs ≤ 1024 := by decide) (hk : 10 ≤ k := by omega) : Sm k a := Nat.le_trans h (Nat.pow_le_pow_right (n := 2) (by decide) hk)
theorem Sm.zero {k : Nat} : Sm k 0 := Nat.zero_le _
theorem Sm.neg {k : Nat} {a : Int} (h : Sm k a) : Sm k (-a) := by
  unfold Sm at *
  rwa [Int.natAbs_neg]
theorem Sm.sub {k : Nat} {a b : Int} (h1 : Sm k a) (h2 : Sm k b) : Sm (k + 1) (a - b) := h1.add h2.neg
theorem Sm.mulOk {j k : Nat} {a b : Int} (h1 : Sm j a) (h2 : Sm k b) (hj : j ≤ 4000) (hk : k ≤ 4000) : mulOk a b = true := by
  have l1 : a.natAbs.log2 < j + 1 := log2_lt_of (by omega) (Nat.lt_of_le_of_lt h1 (Nat.pow_lt_pow_right (by decide) (by omega)))
  have l2 : b.natAbs.log2 < k + 1 := log2_lt_of (by omega) (Nat.lt_of_le_of_lt h2 (Nat.pow_lt_pow_right (by decide) (by omega)))
  unfold Pm.mulOk
  rw [Bool.or_eq_true]
  exact .inr (decide_eq_true (by omega))
theorem Sm.divOk {k : Nat} {a : Int} (h : Sm k a) (h0 : a ≠ 0) (hk : k ≤ 8000) : divOk a = true := by
  have l1 : a.natAbs.log2 < k + 1 := log2_lt_of (by omega) (Nat.lt_of_le_of_lt h (Nat.pow_lt_pow_right (by decide) (by omega)))
  unfold Pm.divOk
  rw [Bool.and_eq_true]
  exact ⟨decide_eq_true h0, decide_eq_true (by omega)⟩
/-! ### fractions in lowest terms -/
/-- p / q in lowest terms, the lower part positive -/
def fr (p q : Int) : D := .tuple [.int (p / (Int.gcd p q : Int)), .int (q / (Int.gcd p q : Int))]
theorem gcd_pos_of {p q : Int} (hq : 0 < q) : 0 < Int.gcd p q := Int.gcd_pos_of_ne_zero_right p (by omega)
theorem fr_scale {p q c : Int} (hq : 0 < q) (hc : 0 < c) : fr (p * c) (q * c) = fr p q := by
  unfold fr
  have g : Int.gcd (p * c) (q * c) = Int.gcd p q * c.natAbs := Int.gcd_mul_right p c q
  have e : ((c.natAbs : Nat) : Int) = c := Int.natAbs_of_nonneg (by omega)
  rw [g, Int.natCast_mul, e, Int.mul_ediv_mul_of_pos_left _ _ hc, Int.mul_ediv_mul_of_pos_left _ _ hc]
/-- its parts: p = p' g, q = q' g -/
theorem fr_parts (p : Int) {q : Int} (hq : 0 < q) : ∃ p' q' g : Int, fr p q = .tuple [.int p', .int q'] ∧ p = p' * g ∧ q = q' * g ∧ 0 < g ∧ 0 < q' ∧ p'.natAbs ≤ p.natAbs ∧ q'.natAbs ≤ q.natAbs := by
  have hg := gcd_pos_of (p := p) hq
  have hg' : 0 < (Int.gcd p q : Int) := by omega
  have d1 : (Int.gcd p q : Int) ∣ p := Int.gcd_dvd_left p q
  have d2 : (Int.gcd p q : Int) ∣ q := Int.gcd_dvd_right p q
  have e1 := Int.ediv_mul_cancel d1
  have e2 := Int.ediv_mul_cancel d2
  have n1 : (p / (Int.gcd p q : Int)).natAbs ≤ p.natAbs := by
    have := congrArg Int.natAbs e1
    rw [Int.natAbs_mul] at this
    rw [← this]
    exact Nat.le_mul_of_pos_right _ (by simpa using hg)
  have n2 : (q / (Int.gcd p q : Int)).natAbs ≤ q.natAbs := by
    have := congrArg Int.natAbs e2
    rw [Int.natAbs_mul] at this
    rw [← this]
    exact Nat.le_mul_of_pos_right _ (by simpa using hg)
  refine ⟨_, _, _, rfl, e1.symm, e2.symm, hg', ?_, n1, n2⟩
  exact Int.ediv_pos_of_pos_of_dvd hq (by omega) d2
theorem fr_eq {p q r s : Int} (hq : 0 < q) (hs : 0 < s) (h : p * s = r * q) : fr p q = fr r s := by
  rw [← fr_scale (p := p) hq hs, ← fr_scale (p := r) hs hq, h, Int.mul_comm q s]
theorem fr_inj {p q r s : Int} (hq : 0 < q) (hs : 0 < s) (h : fr p q = fr r s) : p * s = r * q := by
  obtain ⟨p1, q1, g, e1, rfl, rfl, _⟩ := fr_parts p hq
  obtain ⟨r1, s1, k, e2, rfl, rfl, _⟩ := fr_parts r hs
  rw [e1, e2] at h
  injection h with h
  injection h with h1 h
  injection h with h2 h
  injection h1 with h1
  injection h2 with h2
  subst h1 h2
  grind
end Pm

/-! Pm: the printed functions, read one step at a time. -/
namespace Pm
open PySem PySem.Spec PyProof.Rows L2
section
variable (ρ : PEnv)
def b2 (g : D → D → Option D) : Option D → Option D → Option D
  | some x, some y => g x y
  | _, _ => none
def c2 : Option D → Option (List D) → Option (List D)
  | some x, some xs => some (x :: xs)
  | _, _ => none
def sqO : Option Out → XS → Option Out
  | some (.nx ρ), h => h ρ
  | x, _ => x
def ifO {α : Type} : Option Bool → (PEnv → Option α) → (PEnv → Option α) → PEnv → Option α
  | some true, g, _, ρ => g ρ
  | some false, _, h, ρ => h ρ
  | none, _, _, _ => none
def stO (i : Nat) : Option D → PEnv → Option Out
  | some d, ρ => if i < ρ.length then some (.nx (ρ.set i (some d))) else none
  | none, _ => none
def endO : Option Out → Option D
  | some (.nx _) => some .none
  | some (.rt d) => some d
  | _ => none
def andO : Option D → Xp → PEnv → Option D
  | some (.bool true), f, ρ => f ρ
  | some (.bool false), _, _ => some (.bool false)
  | _, _, _ => none
def orO : Option D → Xp → PEnv → Option D
  | some (.bool true), _, _ => some (.bool true)
  | some (.bool false), f, ρ => f ρ
  | _, _, _ => none
def tyes : PEnv → Option Bool := fun _ => some true
def tno : PEnv → Option Bool := fun _ => some false
def mkT (ds : List D) : Option D := if ds.length ≤ 1000 then some (.tuple ds) else none
def mkL (ds : List D) : Option D := if ds.length ≤ 1000 then some (.list ds) else none
def chP (g' : D → D → Option D) (y : D) (fc : Xp) (ρ : PEnv) : Option D → Option D
  | some (.bool true) => b2 g' (some y) (fc ρ)
  | some (.bool false) => some (.bool false)
  | _ => none
def chO (g g' : D → D → Option D) : Option D → Option D → Xp → PEnv → Option D
  | some x, some y, fc, ρ => chP g' y fc ρ (g x y)
  | _, _, _, _ => none
def slO : Option D → Option (Option Int) → Option (Option Int) → Option D
  | some x, some i, some j => oSl x i j
  | _, _, _ => none
def atO : Option D → Option (Option Int)
  | some (.int i) => some (some i)
  | _ => none
def lcO (g : XG) (t : PEnv → Option Bool) (f : Xp) (ρ : PEnv) : Option (List D) → Option D
  | some ds => (lcL g t f ρ ds).map .list
  | none => none
def forO (g : D → PEnv → Option PEnv) (b : XS) (ρ : PEnv) : Option (List D) → Option Out
  | some ds => forL g b ds ρ
  | none => none
def gsO (gs : List D → PEnv → Option PEnv) (ds : List D) : Option PEnv → Option PEnv
  | some ρ => gs ds ρ
  | none => none
def nxO : Option PEnv → Option Out
  | some ρ => some (.nx ρ)
  | none => none
def tgO (g : D → PEnv → Option PEnv) : Option D → PEnv → Option Out
  | some d, ρ => nxO (g d ρ)
  | none, _ => none
def paO (is : List Nat) : Option (List D) → PEnv → Option Out
  | some ds, ρ => if is.all (fun i => decide (i < ρ.length)) && decide (ds.length = is.length) then some (.nx (setAll is ds ρ)) else none
  | none, _ => none
def apO (i : Nat) : Option D → Option D → PEnv → Option Out
  | some (.list xs), some y, ρ => if xs.length < 16777216 ∧ i < ρ.length then some (.nx (ρ.set i (some (.list (xs ++ [y]))))) else none
  | _, _, _ => none
def exO (i : Nat) : Option D → Option D → PEnv → Option Out
  | some (.list xs), some (.list ys), ρ => if xs.length + ys.length ≤ 16777216 ∧ i < ρ.length then some (.nx (ρ.set i (some (.list (xs ++ ys))))) else none
  | _, _, _ => none
def plO (i : Nat) (xs : List D) (y : D) (ρ : PEnv) : Option Nat → Option Out
  | some n => if i < ρ.length then some (.nx (ρ.set i (some (.list (xs.set n y))))) else none
  | none => none
def ptO (i : Nat) : Option D → Option D → Option D → PEnv → Option Out
  | some y, some (.list xs), some (.int j), ρ => plO i xs y ρ (ixN xs.length j)
  | _, _, _, _ => none
def pkO (i : Nat) : Option D → Option D → Option D → PEnv → Option Out
  | some y, some (.dict kd), some (.int j), ρ => if kd.length < 16777216 ∧ i < ρ.length then some (.nx (ρ.set i (some (.dict (dPutD kd j y))))) else none
  | _, _, _, _ => none
theorem xVar_a (i : Nat) : xVar i ρ = ρ.getD i none := rfl
theorem xC_a (d : D) : xC d ρ = some d := rfl
theorem xBin_a (g : D → D → Option D) (fa fb : Xp) : xBin g fa fb ρ = b2 g (fa ρ) (fb ρ) := by
  unfold xBin
  cases fa ρ <;> cases fb ρ <;> rfl
theorem xUn_a (g : D → Option D) (fa : Xp) : xUn g fa ρ = (fa ρ).bind g := rfl
theorem tOf_a (f : Xp) : tOf f ρ = (f ρ).bind dB := rfl
theorem tTru_a (f : Xp) : tTru f ρ = (f ρ).bind oTru := rfl
theorem tNotP_a (f : PEnv → Option Bool) : tNotP f ρ = (f ρ).map (!·) := rfl
theorem tAndP_a (f g : PEnv → Option Bool) : tAndP f g ρ = ifO (f ρ) g tno ρ := by
  unfold tAndP
  cases f ρ with
  | none => rfl
  | some b => cases b <;> rfl
theorem tOrP_a (f g : PEnv → Option Bool) : tOrP f g ρ = ifO (f ρ) tyes g ρ := by
  unfold tOrP
  cases f ρ with
  | none => rfl
  | some b => cases b <;> rfl
theorem tyes_a : tyes ρ = some true := rfl
theorem tno_a : tno ρ = some false := rfl
theorem tYesP_a : tYesP ρ = some true := rfl
theorem xNil_a : xNil ρ = some [] := rfl
theorem xCons_a (f : Xp) (fs : XL) : xCons f fs ρ = c2 (f ρ) (fs ρ) := by
  unfold xCons
  cases f ρ <;> cases fs ρ <;> rfl
theorem xTup_a (fs : XL) : xTup fs ρ = (fs ρ).bind mkT := rfl
theorem xLst_a (fs : XL) : xLst fs ρ = (fs ρ).bind mkL := rfl
theorem xAnd_a (fa fb : Xp) : xAnd fa fb ρ = andO (fa ρ) fb ρ := by
  unfold xAnd
  cases fa ρ with
  | none => rfl
  | some d => cases d with
    | bool b => cases b <;> rfl
    | _ => rfl
theorem xOr_a (fa fb : Xp) : xOr fa fb ρ = orO (fa ρ) fb ρ := by
  unfold xOr
  cases fa ρ with
  | none => rfl
  | some d => cases d with
    | bool b => cases b <;> rfl
    | _ => rfl
theorem xIf_a (c : PEnv → Option Bool) (fa fb : Xp) : xIf c fa fb ρ = ifO (c ρ) fa fb ρ := by
  unfold xIf
  cases c ρ with
  | none => rfl
  | some b => cases b <;> rfl
theorem xChain_a (g g' : D → D → Option D) (fa fb fc : Xp) : xChain g g' fa fb fc ρ = chO g g' (fa ρ) (fb ρ) fc ρ := by
  unfold xChain
  cases fa ρ with
  | none => rfl
  | some x => cases fb ρ with
    | none => rfl
    | some y =>
      simp only [Option.bind_some, chO]
      cases g x y with
      | none => rfl
      | some z => cases z with
        | bool b => cases b <;> (simp only [Option.bind_some, dB, chP]; cases fc ρ <;> rfl)
        | _ => rfl
theorem oNo_a : oNo ρ = some none := rfl
theorem oAt_a (f : Xp) : oAt f ρ = atO (f ρ) := by
  unfold oAt
  cases f ρ with
  | none => rfl
  | some d => cases d <;> rfl
theorem xSl_a (f : Xp) (lo hi : XO) : xSl f lo hi ρ = slO (f ρ) (lo ρ) (hi ρ) := by
  unfold xSl
  cases f ρ <;> cases lo ρ <;> cases hi ρ <;> rfl
theorem xCall_a (g : List D → Option D) (fs : XL) : xCall g fs ρ = (fs ρ).bind g := rfl
theorem xSeq_a (f : Xp) : xSeq f ρ = (f ρ).bind seqD := rfl
theorem xIt_a (g : List D → Option (List D)) (fs : XL) : xIt g fs ρ = (fs ρ).bind g := rfl
theorem xLc_a (it : XL) (g : XG) (t : PEnv → Option Bool) (f : Xp) (own : List Nat) : xLc it g t f own ρ = lcO g t f (wipeP ρ own) (it ρ) := by
  unfold xLc
  cases it ρ <;> rfl
theorem gSet_a (i : Nat) (d : D) : gSet i d ρ = if i < ρ.length then some (ρ.set i (some d)) else none := rfl
theorem gTupD_a (n : Nat) (g : List D → PEnv → Option PEnv) (ds : List D) : gTupD n g (.tuple ds) ρ = if ds.length = n then g ds ρ else none := rfl
theorem gsNil_a : gsNil [] ρ = some ρ := rfl
theorem gsCons_a (g : XG) (gs : List D → PEnv → Option PEnv) (d : D) (ds : List D) : gsCons g gs (d :: ds) ρ = gsO gs ds (g d ρ) := by
  show (g d ρ).bind (fun ρ' => gs ds ρ') = _
  cases g d ρ <;> rfl
theorem sNop_a : sNop ρ = some (.nx ρ) := rfl
theorem sBrk_a : sBrk ρ = some (.bk ρ) := rfl
theorem sCnt_a : sCnt ρ = some (.ct ρ) := rfl
theorem sSeq_a (g h : XS) : sSeq g h ρ = sqO (g ρ) h := by
  unfold sSeq
  cases g ρ with
  | none => rfl
  | some o => cases o <;> rfl
theorem sRet_a (f : Xp) : sRet f ρ = (f ρ).map .rt := rfl
theorem sIf_a (c : PEnv → Option Bool) (g h : XS) : sIf c g h ρ = ifO (c ρ) g h ρ := by
  unfold sIf
  cases c ρ with
  | none => rfl
  | some b => cases b <;> rfl
theorem sSet_a (i : Nat) (f : Xp) : sSet i f ρ = stO i (f ρ) ρ := by
  unfold sSet
  cases f ρ <;> rfl
theorem sTgt_a (g : D → PEnv → Option PEnv) (f : Xp) : sTgt g f ρ = tgO g (f ρ) ρ := by
  unfold sTgt
  cases f ρ with
  | none => rfl
  | some d =>
    show (g d ρ).map .nx = nxO (g d ρ)
    cases g d ρ <;> rfl
theorem sAug_a (i : Nat) (g : D → D → Option D) (f : Xp) : sAug i g f ρ = stO i (b2 g (ρ.getD i none) (f ρ)) ρ := by
  unfold sAug
  rw [xVar_a]
  cases ρ.getD i none with
  | none => rfl
  | some x => cases f ρ with
    | none => rfl
    | some y =>
      simp only [Option.bind_some, b2]
      cases g x y <;> rfl
theorem sApp_a (i : Nat) (f : Xp) : sApp i f ρ = apO i (ρ.getD i none) (f ρ) ρ := by
  unfold sApp
  rw [xVar_a]
  cases ρ.getD i none with
  | none => rfl
  | some x => cases f ρ with
    | none => cases x <;> rfl
    | some y => cases x <;> rfl
theorem sExt_a (i : Nat) (f : Xp) : sExt i f ρ = exO i (ρ.getD i none) (f ρ) ρ := by
  unfold sExt
  rw [xVar_a]
  cases ρ.getD i none with
  | none => rfl
  | some x => cases f ρ with
    | none => cases x <;> rfl
    | some y => cases x <;> cases y <;> rfl
theorem sPut_a (i : Nat) (fj f : Xp) : sPut i fj f ρ = ptO i (f ρ) (ρ.getD i none) (fj ρ) ρ := by
  unfold sPut
  rw [xVar_a]
  cases f ρ with
  | none => rfl
  | some y => cases ρ.getD i none with
    | none => rfl
    | some x => cases fj ρ with
      | none => cases x <;> rfl
      | some j => cases x with
        | list xs => cases j with
          | int j =>
            show (ixN xs.length j).bind _ = plO i xs y ρ (ixN xs.length j)
            cases ixN xs.length j <;> rfl
          | _ => rfl
        | _ => rfl
theorem sPutK_a (i : Nat) (fj f : Xp) : sPutK i fj f ρ = pkO i (f ρ) (ρ.getD i none) (fj ρ) ρ := by
  unfold sPutK
  rw [xVar_a]
  cases f ρ with
  | none => rfl
  | some y => cases ρ.getD i none with
    | none => rfl
    | some x => cases fj ρ with
      | none => cases x <;> rfl
      | some j => cases x <;> cases j <;> rfl
theorem pkO_s (i : Nat) (kd : List (D × D)) (y : D) (j : Int) : pkO i (some y) (some (.dict kd)) (some (.int j)) ρ = if kd.length < 16777216 ∧ i < ρ.length then some (.nx (ρ.set i (some (.dict (dPutD kd j y))))) else none := rfl
theorem xLc2_a (it : XL) (g : XG) (t : PEnv → Option Bool) (it1 : XL) (g1 : XG) (t1 : PEnv → Option Bool) (f : Xp) (own vs1 : List Nat) (ds : List D) (h : it ρ = some ds) : xLc2 it g t it1 g1 t1 f own vs1 ρ = (lc2L g t it1 g1 t1 f vs1 (wipeP ρ own) ds).bind fun ys => if ys.length ≤ 16777216 then some (.list ys) else none := by
  unfold xLc2
  rw [h]
  rfl
theorem sFor_a (it : XL) (g : D → PEnv → Option PEnv) (b : XS) : sFor it g b ρ = forO g b ρ (it ρ) := by
  unfold sFor
  cases it ρ <;> rfl
theorem sWhile_a (c : PEnv → Option Bool) (b : XS) : sWhile c b ρ = whileF c b fuelN ρ := rfl
theorem sPar_a (is : List Nat) (fs : XL) : sPar is fs ρ = paO is (fs ρ) ρ := by
  unfold sPar
  cases fs ρ <;> rfl
theorem runD_a (n N : Nat) (g : XS) (ds : List D) : runD n N g ds = endO (g (ds.map some ++ List.replicate (N - n) none)) := by
  unfold runD
  cases g (ds.map some ++ List.replicate (N - n) none) with
  | none => rfl
  | some o => cases o <;> rfl
theorem b2_s (g : D → D → Option D) (x y : D) : b2 g (some x) (some y) = g x y := rfl
theorem c2_s (x : D) (xs : List D) : c2 (some x) (some xs) = some (x :: xs) := rfl
theorem sqO_nx (h : XS) : sqO (some (.nx ρ)) h = h ρ := rfl
theorem sqO_rt (d : D) (h : XS) : sqO (some (.rt d)) h = some (.rt d) := rfl
theorem sqO_bk (h : XS) : sqO (some (.bk ρ)) h = some (.bk ρ) := rfl
theorem sqO_ct (h : XS) : sqO (some (.ct ρ)) h = some (.ct ρ) := rfl
section
variable {α : Type}
theorem ifO_t (g h : PEnv → Option α) : ifO (some true) g h ρ = g ρ := rfl
theorem ifO_f (g h : PEnv → Option α) : ifO (some false) g h ρ = h ρ := rfl
end
theorem stO_s (i : Nat) (d : D) : stO i (some d) ρ = if i < ρ.length then some (.nx (ρ.set i (some d))) else none := rfl
theorem endO_nx  : endO (some (.nx ρ)) = some .none := rfl
theorem endO_rt (d : D) : endO (some (.rt d)) = some d := rfl
theorem andO_t (f : Xp) : andO (some (.bool true)) f ρ = f ρ := rfl
theorem andO_f (f : Xp) : andO (some (.bool false)) f ρ = some (.bool false) := rfl
theorem orO_t (f : Xp) : orO (some (.bool true)) f ρ = some (.bool true) := rfl
theorem orO_f (f : Xp) : orO (some (.bool false)) f ρ = f ρ := rfl
theorem chO_s (g g' : D → D → Option D) (x y : D) (f : Xp) : chO g g' (some x) (some y) f ρ = chP g' y f ρ (g x y) := rfl
theorem chP_t (g' : D → D → Option D) (y : D) (f : Xp) : chP g' y f ρ (some (.bool true)) = b2 g' (some y) (f ρ) := rfl
theorem chP_f (g' : D → D → Option D) (y : D) (f : Xp) : chP g' y f ρ (some (.bool false)) = some (.bool false) := rfl
theorem slO_s (x : D) (i j : Option Int) : slO (some x) (some i) (some j) = oSl x i j := rfl
theorem atO_i (i : Int) : atO (some (.int i)) = some (some i) := rfl
theorem lcO_s (g : XG) (t : PEnv → Option Bool) (f : Xp) (ds : List D) : lcO g t f ρ (some ds) = (lcL g t f ρ ds).map .list := rfl
theorem forO_s (g : XG) (b : XS) (ds : List D) : forO g b ρ (some ds) = forL g b ds ρ := rfl
theorem gsO_s (gs : List D → PEnv → Option PEnv) (ds : List D) : gsO gs ds (some ρ) = gs ds ρ := rfl
theorem nxO_s  : nxO (some ρ) = some (.nx ρ) := rfl
theorem tgO_s (g : XG) (d : D) : tgO g (some d) ρ = nxO (g d ρ) := rfl
theorem paO_s (is : List Nat) (ds : List D) : paO is (some ds) ρ = if is.all (fun i => decide (i < ρ.length)) && decide (ds.length = is.length) then some (.nx (setAll is ds ρ)) else none := rfl
theorem apO_s (i : Nat) (xs : List D) (y : D) : apO i (some (.list xs)) (some y) ρ = if xs.length < 16777216 ∧ i < ρ.length then some (.nx (ρ.set i (some (.list (xs ++ [y]))))) else none := rfl
theorem exO_s (i : Nat) (xs ys : List D) : exO i (some (.list xs)) (some (.list ys)) ρ = if xs.length + ys.length ≤ 16777216 ∧ i < ρ.length then some (.nx (ρ.set i (some (.list (xs ++ ys))))) else none := rfl
theorem plO_s (i : Nat) (xs : List D) (y : D) (n : Nat) : plO i xs y ρ (some n) = if i < ρ.length then some (.nx (ρ.set i (some (.list (xs.set n y))))) else none := rfl
theorem ptO_s (i : Nat) (xs : List D) (y : D) (j : Int) : ptO i (some y) (some (.list xs)) (some (.int j)) ρ = plO i xs y ρ (ixN xs.length j) := rfl
section
variable (a b : Int) (t : Bool) (xs ys : List D) (x y z : D)
theorem dB_b  : dB (.bool t) = some t := rfl
theorem tru_b  : oTru (.bool t) = some t := rfl
theorem tru_n  : oTru .none = some false := rfl
theorem tru_i  : oTru (.int a) = some (a != 0) := rfl
theorem tru_l  : oTru (.list xs) = some (!xs.isEmpty) := rfl
theorem tru_t  : oTru (.tuple xs) = some (!xs.isEmpty) := rfl
theorem is_n  : oIs x .none = some (.bool (isNone x)) := rfl
theorem isn_n  : oIsNot x .none = some (.bool (!isNone x)) := rfl
theorem nn_n  : isNone .none = true := rfl
theorem nn_i  : isNone (.int a) = false := rfl
theorem nn_b  : isNone (.bool t) = false := rfl
theorem nn_t  : isNone (.tuple xs) = false := rfl
theorem nn_l  : isNone (.list xs) = false := rfl
theorem add_ii  : oAdd (.int a) (.int b) = some (.int (a + b)) := rfl
theorem add'_ii  : oAdd' (.int a) (.int b) = some (.int (a + b)) := rfl
theorem sub_ii  : oSub (.int a) (.int b) = some (.int (a - b)) := rfl
theorem neg_i  : oNeg (.int a) = some (.int (-a)) := rfl
theorem lt_ii  : oLt (.int a) (.int b) = some (.bool (decide (a < b))) := rfl
theorem le_ii  : oLe (.int a) (.int b) = some (.bool (decide (a ≤ b))) := rfl
theorem gt_ii  : oGt (.int a) (.int b) = some (.bool (decide (b < a))) := rfl
theorem ge_ii  : oGe (.int a) (.int b) = some (.bool (decide (b ≤ a))) := rfl
theorem ix_l  : oIx (.list xs) (.int a) = atI xs a := rfl
theorem ix_t  : oIx (.tuple xs) (.int a) = atI xs a := rfl
theorem ix_s  : oIx (scr xs) (.int a) = atI xs a := rfl
theorem at0 : atI (x :: xs) 0 = some x := by
  unfold atI ixN
  simp
theorem at1 : atI (x :: y :: xs) 1 = some y := by
  unfold atI ixN
  rw [if_pos (by decide), if_pos (by simp only [List.length_cons]; omega)]
  rfl
theorem at2 : atI (x :: y :: z :: xs) 2 = some z := by
  unfold atI ixN
  rw [if_pos (by decide), if_pos (by simp only [List.length_cons]; omega)]
  rfl
theorem sl_l (lo hi : Option Int) : oSl (.list xs) lo hi = some (.list (cutD xs lo hi)) := rfl
theorem sl_t (lo hi : Option Int) : oSl (.tuple xs) lo hi = some (.tuple (cutD xs lo hi)) := rfl
theorem len_l  : bLen [.list xs] = some (.int xs.length) := rfl
theorem len_t  : bLen [.tuple xs] = some (.int xs.length) := rfl
theorem len_s  : bLen [scr xs] = some (.int xs.length) := rfl
theorem abs_i  : bAbs [.int a] = some (.int (if a < 0 then -a else a)) := rfl
theorem int_i  : bInt [.int a] = some (.int a) := rfl
theorem int_b  : bInt [.bool t] = some (.int (if t then 1 else 0)) := rfl
theorem max_ii  : bMax2 [.int a, .int b] = some (.int (if b > a then b else a)) := rfl
theorem min_ii  : bMin2 [.int a, .int b] = some (.int (if b < a then b else a)) := rfl
theorem tup_s  : bTuple [x] = (seqD x).map .tuple := rfl
theorem lst_s  : bList [x] = (seqD x).map .list := rfl
theorem seq_l  : seqD (.list xs) = some xs := rfl
theorem seq_t  : seqD (.tuple xs) = some xs := rfl
theorem sum_s  : bSum [x] = (seqD x).bind fun xs => (asInts xs).map fun ns => .int ns.sum := rfl
theorem wipe_n (ρ : PEnv) : wipeP ρ [] = ρ := rfl
theorem wipe_c (ρ : PEnv) (v : Nat) (vs : List Nat) : wipeP ρ (v :: vs) = (wipeP ρ vs).set v none := rfl
variable {a b : Int} {xs ys : List D}
theorem mul_ii (h : mulOk a b = true) : oMul' (.int a) (.int b) = some (.int (a * b)) := if_pos h
theorem fdiv_ii (h : divOk b = true) : oFdiv (.int a) (.int b) = some (.int (a.fdiv b)) := if_pos h
theorem mod_ii (h : b ≠ 0) : oMod (.int a) (.int b) = some (.int (a.fmod b)) := if_pos h
theorem add_ll (h : xs.length + ys.length ≤ 16777216) : oAdd (.list xs) (.list ys) = some (.list (xs ++ ys)) := if_pos h
theorem add_tt (h : xs.length + ys.length ≤ 16777216) : oAdd (.tuple xs) (.tuple ys) = some (.tuple (xs ++ ys)) := if_pos h
end
end
end Pm

/-! Pm: sorted of data, the greatest of ints, dict comprehensions. -/
namespace Pm
open PySem PySem.Spec PyProof.Rows L2
/-! ### the greatest of ints -/
section
variable {X : Cx}
theorem cb_maxI (hc : X.calm = true := by rfl) : CallR X (.builtin "max") (rC X.K .f bMaxI) := by
  intro pins s σ H vs us Q I r ⟨A, ds, d, tr, w, e, q⟩
  unfold bMaxI at e
  split at e
  · obtain ⟨v, rfl, w1⟩ := p1 w
    obtain ⟨xs, e1, e⟩ := bind2 e
    obtain ⟨ns, e2, e⟩ := bind2 e
    obtain ⟨mn, e3, e⟩ := Option.map_eq_some_iff.mp e
    subst e
    obtain ⟨a, vs, rfl, ha, ra⟩ := w1.seq e1
    rw [ref1 r]
    have hv := ra.ints e2
    subst hv
    refine call_max_walk (sq_iter (show X.A.in1.handled = none from I.ok.hd hc) I ha fun its J fp wr St h₂ rv W st hfp kp => ?_)
    have hl := rv.length
    rw [List.length_map] at hl
    have hne : 0 < ns.length := by
      cases ns with
      | nil => simp at e3
      | cons _ _ => simp
    refine ⟨_, _, _, _, _, _, _, rfl, W, st, hfp, by omega, CmpOf.ints_gt (fun i => ns.getD i 0) (fun i v h => intsAt rv i v h), fun v h' tk hv hk => ?_⟩
    obtain ⟨t, rfl⟩ := intsAt rv _ _ hv
    obtain ⟨b1, b2⟩ := argBest_gt (fun i => ns.getD i 0) (its.length - 1)
    refine ⟨.int mn, H, I.kept (kp h' hk), ⟨t, ?_⟩, q _ H (Same.refl H) Res.int⟩
    congr 1
    rw [List.max?_eq_some_iff] at e3
    refine Int.le_antisymm ?_ ?_
    · have hb : argBest (fun i j => decide (ns.getD i 0 > ns.getD j 0)) (its.length - 1) < ns.length := by
        have h1 : argBest (fun i j => decide (ns.getD i 0 > ns.getD j 0)) (its.length - 1) ≤ its.length - 1 := b1
        omega
      exact e3.2 _ (by rw [List.getD_eq_getElem?_getD, List.getElem?_eq_getElem hb]; exact List.getElem_mem hb)
    · obtain ⟨i, hi, e4⟩ := List.mem_iff_getElem.mp e3.1
      have := b2 i (by omega)
      simp only [List.getD_eq_getElem?_getD, List.getElem?_eq_getElem hi, Option.getD_some] at this
      rw [e4] at this
      simpa [List.getD_eq_getElem?_getD] using this
  · cases e
/-! ### sorted, of data -/
/-- data that sorted takes -/
def okSort (ds : List D) : Bool := (ds.all fun x => ds.all fun y => PySem.W.alike x y) && (ds.all fun x => shp x && decide (x.depth ≤ 20)) && decide (ds.length ≤ 16777216) &&
  ((ds.all fun x => match x with | .tuple (_ :: _) => true | _ => false) || ds.all fun x => match x with | .none => false | .tuple _ => false | _ => true)
def bSorted : List D → Option D
  | [x] => (seqD x).bind fun ds => if okSort ds then some (.list (ds.mergeSort (PySem.W.dataLe false id))) else none
  | _ => none
theorem okSort_facts {ds : List D} (h : okSort ds = true) : PySem.W.AllAlike ds ∧ (∀ x ∈ ds, shp x = true ∧ x.depth ≤ 20) ∧ ds.length ≤ 16777216 ∧ PySem.W.Sortable ds := by
  unfold okSort at h
  rw [Bool.and_eq_true, Bool.and_eq_true, Bool.and_eq_true] at h
  obtain ⟨⟨⟨h1, h2⟩, h3⟩, h4⟩ := h
  refine ⟨fun d hd d' hd' => ?_, fun x hx => ?_, of_decide_eq_true h3, ?_⟩
  · exact List.all_eq_true.mp (List.all_eq_true.mp h1 d hd) d' hd'
  · have := List.all_eq_true.mp h2 x hx
    rw [Bool.and_eq_true, decide_eq_true_eq] at this
    exact this
  · rw [Bool.or_eq_true] at h4
    rcases h4 with h4 | h4
    · refine .inl fun d hd => ?_
      have := List.all_eq_true.mp h4 d hd
      split at this
      · exact ⟨_, _, rfl⟩
      · cases this
    · refine .inr fun d hd => ?_
      have := List.all_eq_true.mp h4 d hd
      split at this
      · cases this
      · cases this
      · next h1 h2 => exact ⟨h1, h2⟩
theorem zip_each {K : PySem.W.Frag} {A : Addr → Prop} {H : Hp} : ∀ {vs : List V} {us : List Value} {ds : List D}, Vals vs us → RpL K A H vs ds → PySem.W.EachIs (fun u (p : V × D) => RelV p.1 u ∧ Rp K A H p.1 p.2) us (vs.zip ds)
  | _, _, _, .nil, .nil => .nil
  | _, _, _, .cons h r, .cons h' r' => .cons ⟨h, h'⟩ (zip_each r r')
theorem each_out {K : PySem.W.Frag} {A : Addr → Prop} {H : Hp} : ∀ {us : List Value} {ps : List (V × D)}, PySem.W.EachIs (fun u (p : V × D) => RelV p.1 u ∧ Rp K A H p.1 p.2) us ps → Vals (ps.map Prod.fst) us ∧ RpL K A H (ps.map Prod.fst) (ps.map Prod.snd)
  | _, _, .nil => ⟨.nil, .nil⟩
  | _, _, .cons h r => ⟨.cons h.1 (each_out r).1, .cons h.2 (each_out r).2⟩
theorem each_mono {α β : Type} {R S : α → β → Prop} (h : ∀ a b, R a b → S a b) : ∀ {as : List α} {bs : List β}, PySem.W.EachIs R as bs → PySem.W.EachIs S as bs
  | _, _, .nil => .nil
  | _, _, .cons a r => .cons (h _ _ a) (each_mono h r)
theorem each_mem {α β : Type} {R S : α → β → Prop} : ∀ {as : List α} {bs : List β}, PySem.W.EachIs R as bs → (∀ a b, b ∈ bs → R a b → S a b) → PySem.W.EachIs S as bs
  | _, _, .nil, _ => .nil
  | _, _, .cons a r, h => .cons (h _ _ (by simp) a) (each_mem r fun a b hb hr => h a b (List.mem_cons_of_mem _ hb) hr)
end
section
open PySem.W PySem.Calls
variable {prog : Program} {w : World} {A : Around} {E : Value → Shared → Prop} {s : Shared} {β : Type} {R : Value → β → Prop} {enc : β → D} {us : List Value} {bs : List β}
/-- the heap in which the items are told off -/
def tookH (h : Heap) (us : List Value) : Heap := (h.push (seqObj "list" #[] 0)).update h.objs.size (Obj.mapSeq fun z => z ++ us.toArray)
theorem tookH_size (h : Heap) (us : List Value) : (tookH h us).objs.size = h.objs.size + 1 := by
  unfold tookH
  rw [Heap.size_update, size_push']
theorem tookH_old {h : Heap} {us : List Value} {b : Addr} {u : Obj} (hb : h.get? b = some u) : (tookH h us).get? b = some u := by
  unfold tookH
  rw [Heap.get?_update_ne _ _ _ _ (Nat.ne_of_lt (Heap.lt_size hb))]
  exact Heap.get?_push_of_some _ hb
theorem took_seq {l : Addr} {T : String} {o : Obj} {n : Nat} {Q : List Value → Shared → Prop} (hT : T = "list" ∨ T = "tuple") (ho : s.heap.get? l = some o) (hc : o.cls = .type T) (hd : o.data = .seq us.toArray n) (hsz : us.length ≤ sizeLine)
    (hQ : Q us { s with heap := tookH s.heap us }) : wpAny (model prog w) A (collect (.ref l)) Q E s := by
  unfold collect
  apply wpAny_bind
  apply wpAny_runValue
  apply codeAny_builtin entry_proto_collect'
  show wpAny _ _ (do again (.builtin "list.__iadd__" ⟨[← newList [], .ref l], []⟩)) _ _ _
  apply wpAny_bind
  apply wpAny_newList
  · apply wpAny_pure
    refine ⟨Code.quiet_builtin _ (by decide +kernel), ?_⟩
    apply codeAny_builtin entry_list_iadd'
    show wpAny _ _ (Builtin.List.listExtendWith (.ref s.heap.objs.size) (.ref l) _) _ _ { s with heap := s.heap.push (seqObj "list" #[] 0) }
    unfold Builtin.List.listExtendWith
    have g1 := Heap.get?_push_of_some (seqObj "list" #[] 0) ho
    have g2 : (s.heap.push (seqObj "list" #[] 0)).get? s.heap.objs.size = some (seqObj "list" #[] 0) := Heap.get?_push_size _ rfl
    refine wpAny_bind (wpAny_typeOf (T := T) ⟨o, g1, hc⟩ ?_)
    have hb : (Builtin.List.listSameRef (.ref s.heap.objs.size) (.ref l) || Value.type T == Value.type "list" || Value.type T == Value.type "tuple") = true := by
      rcases hT with rfl | rfl
      · simp
      · simp
    rw [if_pos hb]
    apply wpAny_bind
    apply listItems_at g1 hd
    apply wpAny_bind
    apply listItems_at g2 rfl
    rw [if_neg (by simp)]
    apply wpAny_bind
    refine listUpdate_at (xs := #[]) (n := 0) g2 rfl ?_ (Nat.zero_le _) (by show ((#[] : Array Value) ++ us.toArray).size ≤ sizeLine + 1; simp only [Array.size_append, List.size_toArray, List.length_nil]; omega)
    apply wpAny_pure
    show wpAny (model prog w) A (do
      let o ← load s.heap.objs.size
      match o.data with
      | .seq zs _ => pure zs.toList
      | _ => unsupported "internal:collect") Q E { s with heap := tookH s.heap us }
    apply wpAny_bind
    refine wpAny_load (get?_update_seq g2 _) ?_
    show wpAny _ _ (pure ((#[] : Array Value) ++ us.toArray).toList) Q E _
    rw [show ((#[] : Array Value) ++ us.toArray).toList = us by simp]
    exact wpAny_pure hQ
  · exact Nat.zero_le _
/-- sorted(xs), xs a list or a tuple that reads as data -/
theorem sorted_seq {l : Addr} {T : String} {o : Obj} {n : Nat} {Q : Value → Shared → Prop} (hT : T = "list" ∨ T = "tuple") (ho : s.heap.get? l = some o) (hc : o.cls = .type T) (hd : o.data = .seq us.toArray n)
    (e : EachIs R us bs) (er : EachIs (fun v b => ∃ as, Reads s.heap v (enc b) as) us bs) (hal : AllAlike (bs.map enc)) (hk : Sortable (bs.map enc)) (hL : bs.length ≤ sizeLine) (hu : ∀ b, b ∈ bs → A.units + 2 + (enc b).depth < cLine)
    (hQ : ∀ (h' : Heap) (d : Addr) (out : List Value) (m : Nat), (∀ b u, s.heap.get? b = some u → h'.get? b = some u) → s.heap.objs.size ≤ d → h'.get? d = some (seqObj "list" out.toArray m) → EachIs R out (bs.mergeSort (dataLe false enc)) → Q (.ref d) { s with heap := h' }) :
    wpAny (model prog w) A (call (.builtin "sorted") [.ref l]) Q E s := by
  have hsz : us.length ≤ sizeLine := by rw [e.length]; exact hL
  refine Calls.call_function_entry kind_sorted plain_sorted entry_sorted (args_sorted1 _) ?_
  unfold Builtin.«sorted»
  apply wpAny_bind (m := checkCount "sorted" 1 1 _)
  apply wpAny_pure
  refine wpAny_bind (took_seq hT ho hc hd hsz ?_)
  refine wpAny_bind (wpAny_newList ?_ hsz)
  generalize hh1 : tookH s.heap us = h1
  have k1 : ∀ b u, s.heap.get? b = some u → h1.get? b = some u := fun b u hb => by rw [← hh1]; exact tookH_old hb
  have hge : s.heap.objs.size ≤ h1.objs.size := by rw [← hh1, tookH_size]; omega
  have hs2 : (h1.push (seqObj "list" us.toArray 0)).get? h1.objs.size = some (seqObj "list" us.toArray 0) := Heap.get?_push_size _ rfl
  have k2 : ∀ b u, s.heap.get? b = some u → (h1.push (seqObj "list" us.toArray 0)).get? b = some u := fun b u hb => Heap.get?_push_of_some _ (k1 b u hb)
  have hlt : ∀ b u, s.heap.get? b = some u → b < h1.objs.size := fun b u hb => Heap.lt_size (k1 b u hb)
  have er2 : EachIs (fun v b => ∃ as, Reads (sortingHeap (h1.push (seqObj "list" us.toArray 0)) h1.objs.size us) v (enc b) as) us bs := each_mono (fun v b ⟨as, r⟩ => ⟨as, PyProof.Rows.Reads.keeps (fun b u hb => sortingHeap_old (Nat.ne_of_lt (hlt b u hb)) (k2 b u hb)) r⟩) er
  have hS := SortsAt.data (prog := prog) (w := w) (A := A.in1.in1) (s := { s with heap := sortingHeap (h1.push (seqObj "list" us.toArray 0)) h1.objs.size us }) (each_map (R := fun v d => ∃ as, Reads (sortingHeap (h1.push (seqObj "list" us.toArray 0)) h1.objs.size us) v d as) enc er2) hal hk (bound_map fun b hb => hu b hb)
  refine wpAny_bind (wpAny_holding ?_)
  refine wpAny_call_entry slot_list_sort ⟨_, hs2, rfl⟩ entry_list_sort ?_ (args_list_sort _)
  refine list_sort_vals (s := { s with heap := h1.push (seqObj "list" us.toArray 0) }) hs2 hS hsz ⟨.none, rfl, ?_⟩
  apply wpAny_pure
  obtain ⟨m, hm⟩ := sortedHeap_at (vs := us) (out := (sortVals (dataKind (sortingHeap (h1.push (seqObj "list" us.toArray 0)) h1.objs.size us) (bs.map enc)) false us us).toArray) hs2
  refine ⟨_, rfl, hQ _ _ _ m (fun b u hb => ?_) hge hm (sortVals_data false e er2 hal)⟩
  have q := k2 b u hb
  rw [← q]
  exact sortedHeap_old (Nat.ne_of_lt (hlt b u hb)) (Heap.lt_size q)
end
section
variable {X : Cx}
theorem cb_sorted (hu : X.A.units + 65 < cLine) : CallR X (.builtin "sorted") (rC X.K .f bSorted) := by
  intro pins s σ H vs us Q I r ⟨A, ds, d, tr, w, e, q⟩
  unfold bSorted at e
  split at e
  · obtain ⟨v, rfl, w1⟩ := p1 w
    obtain ⟨xs, e1, e⟩ := bind2 e
    split at e
    · next hok =>
      cases e
      obtain ⟨hal, hsh, hlen, hsb⟩ := okSort_facts hok
      obtain ⟨a, ys, rfl, ha, ra⟩ := w1.seq e1
      rw [ref1 r]
      obtain ⟨its, T, o, n, rv, hT, ho, hc, hd, hz⟩ : ∃ (its : List Value) (T : String) (o : Obj) (n : Nat), Vals ys its ∧ (T = "list" ∨ T = "tuple") ∧ s.heap.get? a = some o ∧ o.cls = .type T ∧ o.data = .seq its.toArray n ∧ ys.length ≤ sizeLine := by
        rcases ha with ha | ha
        · obtain ⟨its, rv, hl, hz⟩ := I.list (.of ha)
          obtain ⟨o, ho, hc, n, hd⟩ := hl.isList
          exact ⟨its, "list", o, n, rv, .inl rfl, ho, hc, hd, hz⟩
        · obtain ⟨its, rv, hl, hz⟩ := I.tuple (.of ha)
          obtain ⟨o, ho, hc, n, hd⟩ := hl
          exact ⟨its, "tuple", o, n, rv, .inr rfl, ho, hc, hd, hz⟩
      have hyl := ra.length
      have hme : (ys.zip xs).map Prod.snd = xs := List.map_snd_zip (by omega)
      have hE := zip_each rv ra
      refine sorted_seq (β := V × D) (enc := Prod.snd) (bs := ys.zip xs) (R := fun u (p : V × D) => RelV p.1 u ∧ Rp X.K A H p.1 p.2) hT ho hc hd hE (each_mem hE fun u p hp hr => ?_) (by rw [hme]; exact hal) (by rw [hme]; exact hsb) (by rw [List.length_zip]; omega) (fun p hp => ?_) fun h' d out m hk hp he eo => ?_
      · have hm : p.2 ∈ xs := (List.of_mem_zip (a := p.1) (b := p.2) hp).2
        exact Dp.reads I _ p.1 u ((WRp.dp (.inl hr.2) (hsh _ hm).1)) hr.1
      · have hm : p.2 ∈ xs := (List.of_mem_zip (a := p.1) (b := p.2) hp).2
        have := (hsh _ hm).2
        omega
      · obtain ⟨v1, r1⟩ := each_out eo
        have hsm : ((ys.zip xs).mergeSort (PySem.W.dataLe false Prod.snd)).map Prod.snd = xs.mergeSort (PySem.W.dataLe false id) := by
          have := PySem.W.sort_maps (r := PySem.W.dataLe false Prod.snd) (s := PySem.W.dataLe false id) (Prod.snd : V × D → D) (l := ys.zip xs) (fun _ _ _ _ => rfl)
          rw [this, hme]
        rw [hsm] at r1
        have hlo : (((ys.zip xs).mergeSort (PySem.W.dataLe false Prod.snd)).map Prod.fst).length ≤ sizeLine := by
          rw [List.length_map, List.length_mergeSort, List.length_zip]
          omega
        have hp' : H d = none := I.hok.fresh hp
        exact ⟨.ref d, upd H d (.lst (((ys.zip xs).mergeSort (PySem.W.dataLe false Prod.snd)).map Prod.fst)), I.laid (t' := s.toks) hk hp ⟨hlo, out, m, v1, he⟩, rfl, q _ _ (same_upd hp') (Res.newL tr hp' r1 (Same.refl H))⟩
    · cases e
  · cases e
end
end Pm

/-! Pm: {k: v for ..} with ints for keys, d.get(k, x). -/
namespace Pm
open PySem PySem.Spec PyProof.Rows L2
def dcK (kd : List (D × D)) (v : D) : D → Option (List (D × D))
  | .int i => some (dPutD kd i v)
  | _ => none
def dcL (g : XG) (t : PEnv → Option Bool) (fk fv : Xp) (ρ : PEnv) : List D → List (D × D) → Option (List (D × D))
  | [], kd => some kd
  | x :: xs, kd => (g x ρ).bind fun ρ1 => (t ρ1).bind fun b => if b then (fk ρ1).bind fun k => (fv ρ1).bind fun v => (dcK kd v k).bind fun kd2 => dcL g t fk fv ρ xs kd2 else dcL g t fk fv ρ xs kd
def xDc (it : XL) (g : XG) (t : PEnv → Option Bool) (fk fv : Xp) (own : List Nat) : Xp := fun ρ => (it ρ).bind fun ds => (if ds.length ≤ 16777216 then dcL g t fk fv (wipeP ρ own) ds [] else none).map .dict
theorem dcK_some {kd kd2 : List (D × D)} {v k : D} (h : dcK kd v k = some kd2) : ∃ i, k = .int i ∧ kd2 = dPutD kd i v := by
  unfold dcK at h
  split at h
  · next i => cases h; exact ⟨i, rfl, rfl⟩
  · cases h
theorem dputD_len (kd : List (D × D)) (i : Int) (v : D) : (dPutD kd i v).length ≤ kd.length + 1 := by
  unfold dPutD
  split
  · rw [List.length_map]; omega
  · rw [List.length_append, List.length_singleton]; omega
section
variable {X : Cx} {O ts : List Nat} {st : Bool} {m mk : Md} {tg iter kx vx : Expr} {ifs : List Expr} {scope : Scope} {own : List (Str × Nat)} {it : XL} {g : XG} {t : PEnv → Option Bool} {fk fv : Xp} {pos : Pos}
theorem dc_of (hm : m ≠ .w) (hts : ∀ i, ts.contains i = true → (own.map (·.2)).contains i = true) (hO : ∀ i ∈ own.map (·.2), i ∉ O) (σ : L2.St) (H : Hp) (Q : VK) (q : simT X.K O .f (xDc it g t fk fv (own.map (·.2))) σ H Q) :
    tDc (simI X.K O st it) (simG X.K O O ts g) (simTT X.K O t) (simT X.K O mk fk) (simT X.K O m fv) (own.map (·.2)) σ H Q := by
  obtain ⟨H0, A0, G, ρ, B, d, S, e, k⟩ := q
  obtain ⟨ds, eds, e⟩ := bind2 e
  obtain ⟨ys, eys, e⟩ := Option.map_eq_some_iff.mp e
  subst e
  split at eys
  case isFalse => cases eys
  case isTrue hsz =>
  refine ⟨H0, A0, G, ρ, B, ds, S, eds, fun J H1 gs s1 yl gr hz Dn hD => ?_⟩
  have hts' : ∀ i, ts.contains i = true → i ∉ O := fun i hi => hO i (by simpa using hts i hi)
  refine ⟨fun i n Hc => n = ds.length - i ∧ i ≤ ds.length ∧ Same H1 Hc ∧ ∃ ks dv kd, Hc Dn = some (.dK ks) ∧ RpL X.K (Av (Gd A0 Dn) B) Hc (ks.map (·.2)) dv ∧ kd = (ks.map fun p => keyD p.1).zip dv ∧ ks.length ≤ i ∧ dcL g t fk fv (wipeP ρ (own.map (·.2))) (ds.drop i) kd = some ys,
    ⟨ds.length, rfl, Nat.zero_le _, same_upd hD, [], [], [], upd_same, .nil, rfl, Nat.le_refl _, eys⟩, ?_⟩
  rintro i n Hc ⟨rfl, hi, sc, ks, dv, kd, hDc, rdv, ekd, hkl, epost⟩
  have Sg : Sim X.K H0 (Gd A0 Dn) G O σ Hc ρ B := (S.mono s1).guard hD sc ⟨_, hDc, NT.dK⟩
  have gw : ∀ p ∈ gs, WRp X.K (Av (Gd A0 Dn) B) Hc p.1 p.2 := fun p hp => (gr p hp).w.step sc fun a z => by
    rcases gd_av z with z | z
    · exact .inl z
    · exact .inr (by rw [z]; exact hD)
  by_cases hlt : i < ds.length
  · have ed : ds[i]? = some ds[i] := List.getElem?_eq_getElem hlt
    rw [List.drop_eq_getElem_cons hlt] at epost
    obtain ⟨hgo, hy⟩ := yl.go _ Hc i _ Sg.tr gw ed
    simp only [dcL] at epost
    obtain ⟨ρ1, eρ1, epost⟩ := bind2 epost
    obtain ⟨b, eb, epost⟩ := bind2 epost
    refine .inr ⟨hgo, fun H' => i + 1 ≤ ds.length ∧ Same H1 H' ∧ ∃ ks dv kd, H' Dn = some (.dK ks) ∧ RpL X.K (Av (Gd A0 Dn) B) H' (ks.map (·.2)) dv ∧ kd = (ks.map fun p => keyD p.1).zip dv ∧ ks.length ≤ i + 1 ∧ dcL g t fk fv (wipeP ρ (own.map (·.2))) (ds.drop (i + 1)) kd = some ys, fun H' hN => ?_, fun x H' hx => ?_⟩
    · obtain ⟨h1, h2, h3⟩ := hN
      exact ⟨ds.length - (i + 1), by omega, rfl, h1, h2, h3⟩
    · obtain ⟨s2, rx⟩ := hy x H' hx
      refine ⟨H0, Gd A0 Dn, G, wipeP ρ (own.map (·.2)), B, _, ρ1, (Sg.mono s2).wipe _ hO, rx, eρ1, fun σ2 c2 S2 => ?_⟩
      rw [restr_same Sg hts'] at S2
      refine ⟨wipe_eq c2 hts, H0, Gd A0 Dn, G, ρ1, B, b, S2, eb, fun H3 s3 => ?_⟩
      cases b with
      | true =>
        rw [if_pos rfl]
        rw [if_pos rfl] at epost
        obtain ⟨kk, ek, epost⟩ := bind2 epost
        obtain ⟨y, ey, epost⟩ := bind2 epost
        obtain ⟨kd2, ekd2, epost⟩ := bind2 epost
        refine ⟨H0, Gd A0 Dn, G, ρ1, B, kk, S2.mono s3, ek, fun kv H4 s4 r4 => ⟨H0, Gd A0 Dn, G, ρ1, B, y, (S2.mono s3).mono s4, ey, fun v H5 s5 r5 => ?_⟩⟩
        obtain ⟨ki, rfl, rfl⟩ := dcK_some ekd2
        · have r5' := r5.toS ((S2.mono s3).mono s4).tr hm
          have s25 := ((s2.trans s3).trans s4).trans s5
          have avD : Av (Gd A0 Dn) B Dn := .inl (.inr rfl)
          obtain ⟨ds', rr', ee'⟩ := dput_ok (i := ki) r5' (rdv.mono s25)
          have hlen := length_putK ks (Sum.inl ki) v
          refine ⟨ks, Sum.inl ki, r4.toW.int, s25 _ _ hDc, ?_, by omega, fun a o e => ?_, putK ks (Sum.inl ki) v, ds', _, upd_same, rr'.step (fun a o e n => ?_) fun _ z => .inl z, ee', by omega, by rw [← ekd]; exact epost⟩
          · have : (16777216 : Nat) = sizeLine := rfl
            omega
          · have hne : a ≠ Dn := fun z => by rw [z, hD] at e; cases e
            rw [upd_ne hne]
            exact s25 _ _ (sc _ _ e)
          · rw [upd_ne (fun z => n (by rw [z]; exact avD))]
            exact e
      | false =>
        rw [if_neg Bool.false_ne_true]
        rw [if_neg Bool.false_ne_true] at epost
        have s23 := s2.trans s3
        exact ⟨by omega, sc.trans s23, ks, dv, kd, s23 _ _ hDc, rdv.mono s23, ekd, by omega, epost⟩
  · have e : i = ds.length := by omega
    subst e
    refine .inl ⟨yl.stop _ Hc Sg.tr gw, ?_⟩
    rw [List.drop_length] at epost
    cases epost
    have hHD : H Dn = none := s1.free hD
    refine k _ Hc (s1.trans sc) (.inl ⟨Dn, rfl, hHD, .dic hDc (rdv.anti fun a z => ?_) ekd⟩)
    rcases z with z | z
    · rcases z with z | z
      · exact .inl (.inl z)
      · exact .inr z
    · exact .inl (.inr z)
theorem se_dc (hN : X.N.Nodup) (hi : SI X O st tg iter it) (ok : BlkOk X.N X.env.scope scope own) (hg : InBlk X scope fun Y => SG Y O O ts tg g) (ht : InBlk X scope fun Y => STs Y O ifs t) (hk : InBlk X scope fun Y => SE Y O mk kx fk) (he : InBlk X scope fun Y => SE Y O m vx fv)
    (hm : m ≠ .w := by decide) (hts : ts.all (fun i => (own.map (·.2)).contains i) = true := by rfl) (hO : (own.map (·.2)).all (fun i => !O.contains i) = true := by rfl) (hc : X.calm = true := by rfl) (hs : ∀ x, foldedSetIterable iter X.env x = pure x := by intro _; rfl) :
    SE X O .f (.DictComp kx vx [⟨tg, iter, ifs, 0⟩] scope pos) (xDc it g t fk fv (own.map (·.2))) :=
  ⟨pe_imp (pe_dc hc hN hi.pi ok (fun s H C cl fp => (hg s H C cl fp).pg) (fun s H C cl fp => (ht s H C cl fp).pts) (fun s H C cl fp => (hk s H C cl fp).pe) (fun s H C cl fp => (he s H C cl fp).pe) hs)
    (dc_of hm (fun i hi => by simpa using List.all_eq_true.mp hts i (by simpa using hi)) (fun i hi => by simpa using List.all_eq_true.mp hO i hi))⟩
end
/-! ### d.get(k, x) -/
def oGet2 : D → D → D → Option D
  | .dict kd, .int i, d => if (kd.any fun p => isNone p.1) then none else some ((dGetD kd i).getD d)
  | _, _, _ => none
def xGet2 (fo fe ff : Xp) : Xp := fun ρ => (fo ρ).bind fun x => (fe ρ).bind fun y => (ff ρ).bind fun z => oGet2 x y z
theorem dget_none {K : PySem.W.Frag} {A : Addr → Prop} {H : Hp} {i : Int} {ks : List (Key × V)} {ds : List D} (r : RpL K A H (ks.map (·.2)) ds) (h : dGetD ((ks.map fun p => keyD p.1).zip ds) i = none) : valV ks (Sum.inl i) = none := by
  have e := dhas_eq (i := i) r
  unfold dGetD at h
  rw [Option.map_eq_none_iff, List.find?_eq_none] at h
  have : dHasD ((ks.map fun p => keyD p.1).zip ds) i = false := by
    unfold dHasD
    rw [List.any_eq_false]
    exact h
  rw [this] at e
  cases hv : valV ks (Sum.inl i) with
  | none => rfl
  | some w => rw [hv] at e; cases e
section
variable {X : Cx} {O : List Nat} {m ma mb : Md} {k : Nat} {o a b : Expr} {fo fa fb : Xp} {apos cpos : Pos}
theorem se_dget2 (hr : Room k X.A) (ho : SE X O m o fo) (ha : SE X O ma a fa) (hb : SE X O mb b fb) (M : M2 X o "get" apos a b cpos) (hmb : mb ≠ .w := by decide) : SE X O .s (.Call (.Attribute o "get" apos) [a, b] [] cpos) (xGet2 fo fa fb) := by
  refine ⟨pe_imp (pe_dget2 (hu1 hr) ho.pe ha.pe hb.pe M) fun σ H Q q => ?_⟩
  obtain ⟨H0, A0, G, ρ, B, d, S, e, k⟩ := q
  obtain ⟨x, ex, e⟩ := bind2 e
  obtain ⟨y, ey, e⟩ := bind2 e
  obtain ⟨z, ez, e⟩ := bind2 e
  unfold oGet2 at e
  split at e
  · split at e
    · cases e
    · rename_i hn
      cases e
      refine ⟨H0, A0, G, ρ, B, _, S, ex, fun v H1 s1 r1 => ?_⟩
      obtain ⟨t, ks, ds, rfl, ht, rt, ek⟩ := r1.toW.dict (no_scr hn)
      refine ⟨t, rfl, .inl ⟨ks, .inl ht⟩, H0, A0, G, ρ, B, _, S.mono s1, ey, fun u H2 s2 r2 => ⟨H0, A0, G, ρ, B, _, (S.mono s1).mono s2, ez, fun w H3 s3 r3 => ?_⟩⟩
      have ht3 := s3 _ _ (s2 _ _ ht)
      have rt3 := (rt.mono s2).mono s3
      refine ⟨valV ks (Sum.inl _), by rw [r2.toW.int]; exact DGet.k (k := Sum.inl _) ht3, ?_⟩
      rw [ek] at k
      cases hv : dGetD ((ks.map fun p => keyD p.1).zip ds) _ with
      | none =>
        rw [hv] at k
        rw [dget_none rt3 hv]
        exact k _ H3 ((s1.trans s2).trans s3) (r3.toS ((S.mono s1).mono s2).tr hmb)
      | some d' =>
        rw [hv] at k
        obtain ⟨w', ew, rw'⟩ := dget_some rt3 hv
        rw [ew]
        exact k _ H3 ((s1.trans s2).trans s3) rw'
  · cases e
end
end Pm

/-! Pm: zip of a list and a tuple, in any mix. -/
namespace Pm
open PySem PySem.Spec PyProof.Rows L2
/-- a list, or a tuple -/
def SqB (b : Bool) (K : PySem.W.Frag) (H : Hp) (l : Addr) (vs : List V) : Prop := if b = true then SqL K H l vs else SqT K H l vs
def ItB (b : Bool) (h : Heap) (it l : Addr) (n : Nat) : Prop := if b = true then h.IsListIter it l n else h.IsTupleIter it l n
def OfB (b : Bool) (h : Heap) (l : Addr) (us : Array Value) : Prop := if b = true then h.IsList l us else h.IsTuple l us
def itO (b : Bool) (l : Addr) : Obj := if b = true then { cls := .type "list_iterator", data := .fields #[.ref l, .int 0 0] } else { cls := .type "tuple_iterator", data := .fields #[.ref l, .int 0 0] }
theorem ItB.obj {b : Bool} {h : Heap} {it l : Addr} {n : Nat} (st : ItB b h it l n) : ∃ o, h.get? it = some o ∧ ∀ v, o.data ≠ .cell v := by
  cases b with
  | true =>
    obtain ⟨o, e1, _, d1⟩ := (st : h.IsListIter it l n)
    exact ⟨o, e1, fun v q => by rw [d1] at q; cases q⟩
  | false =>
    obtain ⟨o, e1, _, d1⟩ := (st : h.IsTupleIter it l n)
    exact ⟨o, e1, fun v q => by rw [d1] at q; cases q⟩
theorem ItB.keep {b : Bool} {h h' : Heap} {it l : Addr} {n : Nat} (st : ItB b h it l n) (k : ∀ o, h.get? it = some o → h'.get? it = some o) : ItB b h' it l n := by
  cases b with
  | true => exact Heap.IsListIter.at (h := h) st fun o q => k o q
  | false => exact Heap.IsTupleIter.at (h := h) st fun o q => k o q
theorem draws_b {prog : Program} {w : World} {A : Around} (b : Bool) (hh : A.handled = none) (it l : Addr) (hne : l ≠ it) (us : Array Value) : Draws prog w A it [it, l] us.size (fun i v => us[i]? = some v) (fun i h => ItB b h it l i ∧ OfB b h l us) := by
  cases b with
  | true => exact Draws.list hh it l hne us
  | false => exact Draws.tuple hh it l hne us
theorem begins_b (b : Bool) (l : Addr) (us : Array Value) : Begins (.ref l) (itO b l) fun h => OfB b h l us := by
  cases b with
  | true => exact begins_list l us
  | false => exact begins_tuple l us
theorem itO_at {b : Bool} {h : Heap} {it l : Addr} (e : h.get? it = some (itO b l)) : ItB b h it l 0 := by
  cases b with
  | true => exact ⟨_, e, rfl, rfl⟩
  | false => exact ⟨_, e, rfl, rfl⟩
section
variable {X : Cx} {pins : List (Addr × Obj)} {σ : L2.St} {H : Hp} {s : Shared} {l : Addr}
theorem inv_b (I : Inv X pins σ H s) {b : Bool} {vs : List V} (h : SqB b X.K H l vs) : ∃ its : List Value, Vals vs its ∧ OfB b s.heap l its.toArray ∧ l < s.heap.objs.size := by
  cases b with
  | true =>
    obtain ⟨its, rv, p, _⟩ := I.list (show SqL X.K H l vs from h)
    exact ⟨its, rv, p.isList, p.lt⟩
  | false =>
    obtain ⟨its, rv, p, _⟩ := I.tuple (show SqT X.K H l vs from h)
    obtain ⟨o, ho, _⟩ := id p
    exact ⟨its, rv, p, Heap.lt_size ho⟩
theorem inv_binj (I : Inv X pins σ H s) {b : Bool} {vs ws : List V} (h : SqB b X.K H l vs) (h' : SqB b X.K H l ws) : vs = ws := by
  cases b with
  | true => exact I.list_inj h h'
  | false => exact I.tuple_inj h h'
end
def ItzM (b1 b2 : Bool) (K : PySem.W.Frag) (p q : Addr) : It where
  go := fun i H => ∃ (vs ws : List V) (x y : V), SqB b1 K H p vs ∧ SqB b2 K H q ws ∧ vs[i]? = some x ∧ ws[i]? = some y
  yld := fun i H v H' => ∃ T x y, v = .ref T ∧ H T = none ∧ H' = upd H T (.tup [x, y]) ∧ (∀ vs, SqB b1 K H p vs → vs[i]? = some x) ∧ ∀ ws, SqB b2 K H q ws → ws[i]? = some y
  stop := fun i H => ∃ vs ws : List V, SqB b1 K H p vs ∧ SqB b2 K H q ws ∧ i ≤ vs.length ∧ i ≤ ws.length ∧ (i = vs.length ∨ i = ws.length)
theorem turn_zipM {P : Program} {w : World} {K : PySem.W.Frag} {es : List Expr} {kk : Nat} {tpos : Pos} {b1 b2 : Bool} {p q z TI TO j1 j2 : Addr} (S : ZipSep2 z TI TO j1 j2 [j1, p] [j2, q]) (n1 : p ≠ j1) (n2 : q ≠ j2) :
    Turn P w K (.Tuple es kk tpos) (ItzM b1 b2 K p q) [z, TI, TO, j1, j2] z (fun i h => IsZip h z TI TO .none ∧ IsTupOf2 h TI (.ref j1) (.ref j2) ∧ (∃ x y, IsTupOf2 h TO x y) ∧ ItB b1 h j1 p i ∧ ItB b2 h j2 q i) where
  mem := List.mem_cons_self
  obj := fun i h st c hc => by
    obtain ⟨hz, hI, ⟨x, y, hO⟩, st1, st2⟩ := st
    simp only [List.mem_cons, List.not_mem_nil, or_false] at hc
    rcases hc with rfl | rfl | rfl | rfl | rfl
    · exact ⟨_, hz, fun v e => nomatch e⟩
    · exact ⟨_, hI, fun v e => nomatch e⟩
    · exact ⟨_, hO, fun v e => nomatch e⟩
    · exact st1.obj
    · exact st2.obj
  keep := fun i h h' st k => by
    obtain ⟨hz, hI, ⟨x, y, hO⟩, st1, st2⟩ := st
    refine ⟨k z (by simp) _ hz, k TI (by simp) _ hI, ⟨x, y, k TO (by simp) _ hO⟩, ?_, ?_⟩
    · exact st1.keep fun o e => k j1 (by simp) o e
    · exact st2.keep fun o e => k j2 (by simp) o e
  item := by
    intro X hP hw hK hc i pins s σ H E I hf st hg
    subst hP hw hK
    obtain ⟨hz, hI, ⟨x0, y0, hO⟩, st1, st2⟩ := st
    obtain ⟨vs, ws, x, y, g1, g2, e1, e2⟩ := hg
    obtain ⟨us, rv, pl, _⟩ := inv_b I g1
    obtain ⟨us2, rv2, pl2, _⟩ := inv_b I g2
    obtain ⟨u, hu, ru⟩ := rv.get e1
    obtain ⟨u2, hu2, ru2⟩ := rv2.get e2
    have hzl : z < s.heap.objs.size := Heap.lt_size hz
    have hh : X.A.in1.handled = none := I.ok.hd hc
    have D1 := draws_b (prog := X.prog) (w := X.w) (A := X.A.in1) b1 hh j1 p n1 us.toArray
    have D2 := draws_b (prog := X.prog) (w := X.w) (A := X.A.in1) b2 hh j2 q n2 us2.toArray
    have l1 : i < us.toArray.size := by have := (List.getElem?_eq_some_iff.mp hu).1; simpa using this
    have l2 : i < us2.toArray.size := by have := (List.getElem?_eq_some_iff.mp hu2).1; simpa using this
    refine wpAny_pyNext_zipD2_item S D1 D2 hz hI hO ⟨st1, pl⟩ ⟨st2, pl2⟩ l1 l2 fun a1 a2 h' tk q1 q2 z' O' t1 t2 hT hsz hk => ?_
    have ea1 : a1 = u := by
      rw [List.getElem?_toArray, hu] at q1
      exact (Option.some.inj q1).symm
    have ea2 : a2 = u2 := by
      rw [List.getElem?_toArray, hu2] at q2
      exact (Option.some.inj q2).symm
    subst ea1 ea2
    refine ⟨_, rfl, wpAny_letOwnedTupleGo_zip (s := { s with heap := h', toks := tk }) z' fun h2 z2 sb => ?_⟩
    have hT2 : h2.get? s.heap.objs.size = some { cls := .type "tuple", data := .seq #[a1, a2] } := by
      rw [← hT]
      exact sb.2 _ (Nat.ne_of_gt hzl)
    have hnew : ObjOk X.prog X.w (upd H s.heap.objs.size (.tup [x, y])) h2 s.heap.objs.size (.tup [x, y]) := by
      refine ⟨?_, [a1, a2], .cons ru (.cons ru2 .nil), ⟨_, hT2, rfl, _, rfl⟩⟩
      show 2 ≤ sizeLine
      decide
    have I2 : Inv X pins σ (upd H s.heap.objs.size (.tup [x, y])) { s with heap := h2, toks := tk } := by
      refine I.turnedNew (t' := tk) (ch := [z, TI, TO, j1, j2]) (fun c o hb e => ?_) hf (Nat.le_refl _) hnew
      simp only [List.mem_cons, List.not_mem_nil, or_false, not_or] at hb
      rw [← hk c o hb.1 hb.2.2.1 hb.2.2.2.1 hb.2.2.2.2 e]
      exact sb.2 c hb.1
    have up : ∀ c o, c ≠ z → h'.get? c = some o → h2.get? c = some o := fun c o hcz e => by rw [← e]; exact sb.2 c hcz
    refine ⟨.ref s.heap.objs.size, _, I2, rfl, ⟨_, x, y, rfl, I.hok.fresh (Nat.le_refl _), rfl, fun ls hls => ?_, fun ls hls => ?_⟩, ⟨z2, ?_, ⟨a1, a2, up _ _ S.TOz O'⟩, ?_, ?_⟩, fun c hcm => ?_⟩
    · rw [inv_binj I hls g1]
      exact e1
    · rw [inv_binj I hls g2]
      exact e2
    · exact up _ _ S.TIz (hk _ _ S.TIz S.TITO S.TIi1 S.TIi2 hI)
    · exact t1.1.keep fun o e => up _ o S.zi1.symm e
    · exact t2.1.keep fun o e => up _ o S.zi2.symm e
    · have hlt : c < s.heap.objs.size := by
        simp only [List.mem_cons, List.not_mem_nil, or_false] at hcm
        rcases hcm with rfl | rfl | rfl | rfl | rfl
        · exact hzl
        · exact Heap.lt_size hI
        · exact Heap.lt_size hO
        · obtain ⟨o, e, _⟩ := st1.obj
          exact Heap.lt_size e
        · obtain ⟨o, e, _⟩ := st2.obj
          exact Heap.lt_size e
      rw [upd_ne (Nat.ne_of_lt hlt)]
      exact (hf c hcm).1
  done := by
    intro X hP hw hK hc i pins s σ H E I hf st hg
    subst hP hw hK
    obtain ⟨hz, hI, ⟨x0, y0, hO⟩, st1, st2⟩ := st
    obtain ⟨vs, ws, g1, g2, m1, m2, hend⟩ := hg
    obtain ⟨us, rv, pl, _⟩ := inv_b I g1
    obtain ⟨us2, rv2, pl2, _⟩ := inv_b I g2
    have hh : X.A.in1.handled = none := I.ok.hd hc
    have D1 := draws_b (prog := X.prog) (w := X.w) (A := X.A.in1) b1 hh j1 p n1 us.toArray
    have D2 := draws_b (prog := X.prog) (w := X.w) (A := X.A.in1) b2 hh j2 q n2 us2.toArray
    have k1 := rv.length
    have k2 := rv2.length
    refine wpAny_pyNext_zipD2_end S D1 D2 hz hI hO ⟨st1, pl⟩ ⟨st2, pl2⟩ (by simp; omega) (by simp; omega) (by simp; omega) fun h' tk hk => ⟨rfl, ?_⟩
    refine I.turnedL (t' := tk) (ch := [z, TI, TO, j1, j2]) (fun c o hb e => ?_) hf
    simp only [List.mem_cons, List.not_mem_nil, or_false, not_or] at hb
    exact hk c o hb.1 hb.2.2.1 hb.2.2.2.1 hb.2.2.2.2 e
  self := fun A i s Q E st h => wpAny_pyIter_zip st.1 h
def iZipM (K : PySem.W.Frag) (ta : TA) : TI := fun σ H R => ta σ H fun vs H1 => ∃ b1 b2 p q xs ys, vs = [.ref p, .ref q] ∧ SqB b1 K H1 p xs ∧ SqB b2 K H1 q ys ∧ R (ItzM b1 b2 K p q) H1
theorem pi_zipM {X : Cx} {e e2 : Expr} {ta : TA} {p pos tpos : Pos} {es : List Expr} {kk : Nat} (hg : L2.Gl X "zip") (hm : X.mg "zip" = none) (ha : PA X [e, e2] ta)
    (hs : starEach [e, e2] X.env = (false, eval e X.env) :: starEach [e2] X.env := by rfl) (hpl : (backTo pos (starEach [e2] X.env)).any (·.1) = false := by rfl) :
    PI X (.Tuple es kk tpos) (.Call (.Name "zip" p) [e, e2] [] pos) (iZipM X.K ta) := by
  refine ⟨fun pins s σ H R I h => ?_⟩
  refine Call_ (ld_blt I hg hm PyProof.Rows.boot_zip (PyProof.Rows.callWith_type1 (thn (ha.run pos pins s σ H _ I h) fun us s1 ⟨vs, H1, I1, r1, q1⟩ => ?_) hs hpl))
  obtain ⟨b1, b2, l, m, xs, ys, rfl, g1, g2, k⟩ := q1
  obtain ⟨u1, u2, rfl, r, r'⟩ := vals2 r1
  obtain rfl : u1 = Value.ref l := r
  obtain rfl : u2 = Value.ref m := r'
  obtain ⟨ws, rv, pl, lt1⟩ := inv_b I1 g1
  obtain ⟨ws2, rv2, pl2, lt2⟩ := inv_b I1 g2
  refine zip_begins2 (begins_b b1 l ws.toArray) (begins_b b2 m ws2.toArray) pl pl2 fun h' hz hTI hTO o1 o2 hsz hk => wpAny_pyIter_zip hz ?_
  have I2 : Inv X pins σ H1 { s1 with heap := h' } := I1.kept (t' := s1.toks) hk
  have sep := zip_sep2 (N := s1.heap.objs.size) (fp1 := [l]) (fp2 := [m]) (by simpa using lt1) (by simpa using lt2)
  refine ⟨s1.heap.objs.size + 4, [s1.heap.objs.size + 4, s1.heap.objs.size + 2, s1.heap.objs.size + 3, s1.heap.objs.size, s1.heap.objs.size + 1], _, _, H1, rfl, I2, turn_zipM sep (Nat.ne_of_lt lt1) (Nat.ne_of_lt (Nat.lt_succ_of_lt lt2)), ⟨hz, hTI, ⟨_, _, hTO⟩, itO_at o1, itO_at o2⟩, fun c hcm => ?_, k⟩
  have hle : s1.heap.objs.size ≤ c := by
    simp only [List.mem_cons, List.not_mem_nil, or_false] at hcm
    rcases hcm with rfl | rfl | rfl | rfl | rfl <;> first | exact Nat.le_refl _ | exact Nat.le_add_right _ _
  exact I1.fpOk hle (I1.hok.fresh hle)
/-! ### as a rule -/
def isL : D → Bool
  | .list _ => true
  | _ => false
theorem WRp.seqB {K : PySem.W.Frag} {A : Addr → Prop} {H : Hp} {v : V} {d : D} {xs : List D} (h : WRp K A H v d) (e : seqD d = some xs) : ∃ a vs, v = .ref a ∧ SqB (isL d) K H a vs ∧ RpL K A H vs xs ∧ (H a = some (.lst vs) ∨ H a = some (.tup vs)) := by
  unfold seqD at e
  split at e
  · cases e
    obtain ⟨a, ys, rfl, ha, ra⟩ := h.lst
    exact ⟨a, ys, rfl, (.of ha : SqL K H a ys), ra, .inl ha⟩
  · cases e
    obtain ⟨a, ys, rfl, ha, na, ra⟩ := h.tup
    exact ⟨a, ys, rfl, (.of ha : SqT K H a ys), ra, .inr ha⟩
  · cases e
def oZipM : List D → Option (List D)
  | [x, y] => (seqD x).bind fun xs => (seqD y).bind fun ys => some (zipD xs ys)
  | _ => none
section
variable {X : Cx} {O : List Nat} {st : Bool} {a b : Expr} {fs : XL} {p pos : Pos}
theorem si_zipM {tpos : Pos} {elts : List Expr} {kk : Nat} (hm : X.mg "zip" = none) (ha : SA X O st [a, b] fs) (hg : L2.Gl X "zip" := by rfl)
    (hs : starEach [a, b] X.env = (false, eval a X.env) :: starEach [b] X.env := by rfl) (hpl : (backTo pos (starEach [b] X.env)).any (·.1) = false := by rfl) : SI X O st (.Tuple elts kk tpos) (.Call (.Name "zip" p) [a, b] [] pos) (xIt oZipM fs) := by
  refine ⟨pi_imp (pi_zipM hg hm (pa_ok ha.pa) hs hpl) fun σ H R q => ?_⟩
  obtain ⟨H0, A0, G, ρ, B, ds, S, e, k⟩ := q
  obtain ⟨d, ed, e⟩ := bind2 e
  refine ⟨H0, A0, G, ρ, B, _, S, ed, fun vs H1 s1 r1 ok => ?_⟩
  unfold oZipM at e
  split at e
  · rename_i x y
    obtain ⟨xs, ex, e⟩ := bind2 e
    obtain ⟨ys, ey, e⟩ := bind2 e
    cases e
    obtain ⟨v, u, rfl, sr, sr'⟩ := rsL2 r1
    obtain ⟨t, ws, rfl, qt, rt, ht⟩ := sr.w.seqB ex
    obtain ⟨t', ws', rfl, qt', rt', ht'⟩ := sr'.w.seqB ey
    refine ⟨isL x, isL y, t, t', ws, ws', rfl, qt, qt', k _ H1 [(.ref t, x), (.ref t', y)] s1 ⟨fun A H i d tr g e => ?_, fun A H tr g => ?_⟩ (fun p hp => ?_) ?_⟩
    · obtain ⟨x1, y1, ex1, ey1, rfl⟩ := zipD_get e
      obtain ⟨b, zs, eb, hb, rb, _⟩ := (g _ (List.mem_cons_self)).seqB ex
      obtain ⟨b', zs', eb', hb', rb', _⟩ := (g _ (List.mem_cons_of_mem _ List.mem_cons_self)).seqB ey
      cases eb
      cases eb'
      obtain ⟨x2, ex2, rx2⟩ := rb.get ex1
      obtain ⟨y2, ey2, ry2⟩ := rb'.get ey1
      refine ⟨⟨zs, zs', x2, y2, hb, hb', ex2, ey2⟩, fun z H' hy => ?_⟩
      obtain ⟨T, u, w, rfl, hT, rfl, hu, hw⟩ := hy
      have e1 := hu zs hb
      have e2 := hw zs' hb'
      rw [ex2] at e1
      rw [ey2] at e2
      cases e1
      cases e2
      exact ⟨same_upd hT, rp_pair tr hT rx2 ry2⟩
    · obtain ⟨b, zs, eb, hb, rb, _⟩ := (g _ (List.mem_cons_self)).seqB ex
      obtain ⟨b', zs', eb', hb', rb', _⟩ := (g _ (List.mem_cons_of_mem _ List.mem_cons_self)).seqB ey
      cases eb
      cases eb'
      refine ⟨zs, zs', hb, hb', ?_⟩
      rw [zipD_len, rb.length, rb'.length]
      omega
    · have z : p = (.ref t, x) ∨ p = (.ref t', y) := by simpa using hp
      rcases z with rfl | rfl
      · exact sr
      · exact sr'
    · rw [zipD_len, ← rt.length]
      have := ok t ws ht
      omega
  · cases e
end
end Pm

/-! Pm: the least and the greatest of data, with default=. -/
namespace Pm
open PySem PySem.Spec PyProof.Rows L2
/-- data that can be compared with one another -/
def okCmp (ds : List D) : Bool := (ds.all fun x => ds.all fun y => PySem.W.alike x y) && ds.all fun x => shp x && decide (x.depth ≤ 20) && (match x with | .none => false | _ => true)
def pickD (f : D → List D → D) (o : Option D) : List D → Option D
  | [] => o
  | y :: ys => some (f y ys)
def bMinD : List D → Option D
  | [x] => (seqD x).bind fun ds => if okCmp ds then pickD PySem.W.minD none ds else none
  | _ => none
def bMaxD : List D → Option D
  | [x] => (seqD x).bind fun ds => if okCmp ds then pickD PySem.W.maxD none ds else none
  | _ => none
def bMinK (xs : List D) (o : D) : Option D :=
  match xs with
  | [x] => (seqD x).bind fun ds => if okCmp ds then pickD PySem.W.minD (some o) ds else none
  | _ => none
def bMaxK (xs : List D) (o : D) : Option D :=
  match xs with
  | [x] => (seqD x).bind fun ds => if okCmp ds then pickD PySem.W.maxD (some o) ds else none
  | _ => none
theorem okCmp_facts {ds : List D} (h : okCmp ds = true) : PySem.W.AlikeAll ds ∧ ∀ x ∈ ds, shp x = true ∧ x.depth ≤ 20 := by
  unfold okCmp at h
  rw [Bool.and_eq_true] at h
  obtain ⟨h1, h2⟩ := h
  have h2 := List.all_eq_true.mp h2
  refine ⟨⟨fun d hd d' hd' => List.all_eq_true.mp (List.all_eq_true.mp h1 d hd) d' hd', fun x hx e => ?_⟩, fun x hx => ?_⟩
  · have := h2 x hx
    subst e
    simp at this
  · have := h2 x hx
    rw [Bool.and_eq_true, Bool.and_eq_true, decide_eq_true_eq] at this
    exact this.1
theorem depth_all : ∀ {ds : List D}, (∀ x ∈ ds, x.depth ≤ 20) → PyData.depthAll ds ≤ 20
  | [], _ => Nat.zero_le _
  | x :: xs, h => by
    unfold PyData.depthAll
    exact Nat.max_le.mpr ⟨h x (by simp), depth_all fun y hy => h y (List.mem_cons_of_mem _ hy)⟩
theorem reads_all {X : Cx} {pins : List (Addr × Obj)} {s : Shared} {σ : L2.St} {A : Addr → Prop} {H : Hp} (I : Inv X pins σ H s) : ∀ {vs : List V} {us : List Value} {ds : List D}, Vals vs us → RpL X.K A H vs ds → (∀ x ∈ ds, shp x = true) → ∃ as, ReadsAll s.heap us ds as
  | _, _, _, .nil, .nil, _ => ⟨_, .nil⟩
  | _, _, _, .cons h r, .cons h' r', hs => by
    obtain ⟨as, e⟩ := reads_all I r r' fun x hx => hs x (List.mem_cons_of_mem _ hx)
    obtain ⟨bs, e'⟩ := Dp.reads I _ _ _ (WRp.dp (.inl h') (hs _ (by simp))) h
    exact ⟨_, .cons e' e⟩
/-- iter(l) of a list or a tuple -/
theorem iter_any {prog : Program} {w : World} {A : Around} {E : Value → Shared → Prop} {s : Shared} {l : Addr} {vs : Array Value} {Q : Value → Shared → Prop} (hh : A.handled = none) (hl : s.heap.IsList l vs ∨ s.heap.IsTuple l vs)
    (h : ∀ (fp : List Addr) (St : Nat → Shared → Prop) (s₂ : Shared) (o : Obj), s₂ = { s with heap := s.heap.push o } → WalksS prog w A s.heap.objs.size fp [s.heap.objs.size] (fun a b => b = a) vs.size (fun i v => vs[i]? = some v) St → St 0 s₂ → (∀ b ∈ fp, b < s₂.heap.objs.size) →
      (∀ b o, s.heap.get? b = some o → b ∉ [s.heap.objs.size]) → (∀ b o, s.heap.get? b = some o → s₂.heap.get? b = some o) → Q (.ref s.heap.objs.size) s₂) :
    wpAny (model prog w) A (pyIter (.ref l)) Q E s := by
  rcases hl with hl | hl
  · exact PySem.W.iter_listW hh hl fun s₂ e W st hfp hw hk => h _ _ s₂ _ e W st hfp hw hk
  · exact PySem.W.iter_tupleW hh hl fun s₂ e W st hfp hw hk => h _ _ s₂ _ e W st hfp hw hk
section
variable {prog : Program} {w : World} {A : Around} {E : Value → Shared → Prop} {s : Shared}
theorem min_pick {l : Addr} {vs : Array Value} {x : D} {xs : List D} {as : List Addr} {Q : Value → Shared → Prop} (hh : A.handled = none) (hl : s.heap.IsList l vs ∨ s.heap.IsTuple l vs) (hr : ReadsAll s.heap vs.toList (x :: xs) as) (ha : PySem.W.AlikeAll (x :: xs)) (hu : A.units + 1 + PyData.depthAll (x :: xs) < cLine)
    (h : ∀ (i : Nat) v h' tk, vs[i]? = some v → (x :: xs).getD i .none = PySem.W.minD x xs → (∀ b o, s.heap.get? b = some o → h'.get? b = some o) → Q v { s with heap := h', toks := tk }) :
    wpAny (model prog w) A (call (.builtin "min") [.ref l]) Q E s := by
  have hn : vs.size = xs.length + 1 := PySem.W.readsAll_len hr
  refine PySem.call_min_walkH (iter_any (A := A.in1) hh hl fun fp St s₂ o e W st hfp hw hk => ?_)
  refine ⟨_, _, _, _, _, _, _, s.heap, _, rfl, W, st, hfp, by omega, hw, hk, PySem.W.cmpIn_lt (A := A.in1) hr ha (by show A.units + 1 + _ < _; exact hu), fun v s' hP m => ?_⟩
  obtain ⟨h', tk, rfl, hk'⟩ := PySem.W.moved_old e rfl m
  have e1 : vs.size - 1 = xs.length := by omega
  have e2 := (PySem.W.argBest_fold PySem.W.dataLt PyData.none x xs xs.length (Nat.le_refl _)).2
  rw [List.take_length, ← e1] at e2
  exact h _ v h' tk hP e2 hk'
theorem max_pick {l : Addr} {vs : Array Value} {x : D} {xs : List D} {as : List Addr} {Q : Value → Shared → Prop} (hh : A.handled = none) (hl : s.heap.IsList l vs ∨ s.heap.IsTuple l vs) (hr : ReadsAll s.heap vs.toList (x :: xs) as) (ha : PySem.W.AlikeAll (x :: xs)) (hu : A.units + 1 + PyData.depthAll (x :: xs) < cLine)
    (h : ∀ (i : Nat) v h' tk, vs[i]? = some v → (x :: xs).getD i .none = PySem.W.maxD x xs → (∀ b o, s.heap.get? b = some o → h'.get? b = some o) → Q v { s with heap := h', toks := tk }) :
    wpAny (model prog w) A (call (.builtin "max") [.ref l]) Q E s := by
  have hn : vs.size = xs.length + 1 := PySem.W.readsAll_len hr
  refine PySem.call_max_walkH (iter_any (A := A.in1) hh hl fun fp St s₂ o e W st hfp hw hk => ?_)
  refine ⟨_, _, _, _, _, _, _, s.heap, _, rfl, W, st, hfp, by omega, hw, hk, PySem.W.cmpIn_gt (A := A.in1) hr ha (by show A.units + 1 + _ < _; exact hu), fun v s' hP m => ?_⟩
  obtain ⟨h', tk, rfl, hk'⟩ := PySem.W.moved_old e rfl m
  have e1 : vs.size - 1 = xs.length := by omega
  have e2 := (PySem.W.argBest_fold (fun a b => PySem.W.dataLt b a) PyData.none x xs xs.length (Nat.le_refl _)).2
  rw [List.take_length, ← e1] at e2
  exact h _ v h' tk hP e2 hk'
theorem min_pickD {l : Addr} {vs : Array Value} {xs : List D} {as : List Addr} {d : Value} {Q : Value → Shared → Prop} (hh : A.handled = none) (hl : s.heap.IsList l vs ∨ s.heap.IsTuple l vs) (hr : ReadsAll s.heap vs.toList xs as) (ha : PySem.W.AlikeAll xs) (hu : A.units + 1 + PyData.depthAll xs < cLine)
    (h0 : xs = [] → ∀ h' tk, (∀ b o, s.heap.get? b = some o → h'.get? b = some o) → Q d { s with heap := h', toks := tk })
    (h : ∀ (y : D) (ys : List D) (i : Nat) v h' tk, xs = y :: ys → vs[i]? = some v → (y :: ys).getD i .none = PySem.W.minD y ys → (∀ b o, s.heap.get? b = some o → h'.get? b = some o) → Q v { s with heap := h', toks := tk }) :
    wpAny (model prog w) A (call (.builtin "min") [.ref l] [(Str.ofString "default", d)]) Q E s := by
  have hn : vs.size = xs.length := PySem.W.readsAll_len hr
  refine PySem.call_min_walkD (iter_any (A := A.in1) hh hl fun fp St s₂ o e W st hfp hw hk => ?_)
  refine ⟨_, _, _, _, _, _, _, s.heap, (fun i j => PySem.W.dataLt (xs.getD i .none) (xs.getD j .none)), rfl, W, st, hfp, hw, hk, fun hz s' m => ?_, fun hp => ⟨PySem.W.cmpIn_lt (A := A.in1) hr ha (by show A.units + 1 + _ < _; exact hu), fun v s' hP m => ?_⟩⟩
  · obtain ⟨h', tk, rfl, hk'⟩ := PySem.W.moved_old e rfl m
    exact h0 (List.eq_nil_of_length_eq_zero (by omega)) h' tk hk'
  · obtain ⟨h', tk, rfl, hk'⟩ := PySem.W.moved_old e rfl m
    cases xs with
    | nil => exact absurd hp (by rw [hn]; exact Nat.lt_irrefl 0)
    | cons y ys =>
      have e1 : vs.size - 1 = ys.length := by rw [hn]; rfl
      have e2 := (PySem.W.argBest_fold PySem.W.dataLt PyData.none y ys ys.length (Nat.le_refl _)).2
      rw [List.take_length, ← e1] at e2
      exact h y ys _ v h' tk rfl hP e2 hk'
theorem max_pickD {l : Addr} {vs : Array Value} {xs : List D} {as : List Addr} {d : Value} {Q : Value → Shared → Prop} (hh : A.handled = none) (hl : s.heap.IsList l vs ∨ s.heap.IsTuple l vs) (hr : ReadsAll s.heap vs.toList xs as) (ha : PySem.W.AlikeAll xs) (hu : A.units + 1 + PyData.depthAll xs < cLine)
    (h0 : xs = [] → ∀ h' tk, (∀ b o, s.heap.get? b = some o → h'.get? b = some o) → Q d { s with heap := h', toks := tk })
    (h : ∀ (y : D) (ys : List D) (i : Nat) v h' tk, xs = y :: ys → vs[i]? = some v → (y :: ys).getD i .none = PySem.W.maxD y ys → (∀ b o, s.heap.get? b = some o → h'.get? b = some o) → Q v { s with heap := h', toks := tk }) :
    wpAny (model prog w) A (call (.builtin "max") [.ref l] [(Str.ofString "default", d)]) Q E s := by
  have hn : vs.size = xs.length := PySem.W.readsAll_len hr
  refine PySem.call_max_walkD (iter_any (A := A.in1) hh hl fun fp St s₂ o e W st hfp hw hk => ?_)
  refine ⟨_, _, _, _, _, _, _, s.heap, (fun i j => PySem.W.dataLt (xs.getD j .none) (xs.getD i .none)), rfl, W, st, hfp, hw, hk, fun hz s' m => ?_, fun hp => ⟨PySem.W.cmpIn_gt (A := A.in1) hr ha (by show A.units + 1 + _ < _; exact hu), fun v s' hP m => ?_⟩⟩
  · obtain ⟨h', tk, rfl, hk'⟩ := PySem.W.moved_old e rfl m
    exact h0 (List.eq_nil_of_length_eq_zero (by omega)) h' tk hk'
  · obtain ⟨h', tk, rfl, hk'⟩ := PySem.W.moved_old e rfl m
    cases xs with
    | nil => exact absurd hp (by rw [hn]; exact Nat.lt_irrefl 0)
    | cons y ys =>
      have e1 : vs.size - 1 = ys.length := by rw [hn]; rfl
      have e2 := (PySem.W.argBest_fold (fun a b => PySem.W.dataLt b a) PyData.none y ys ys.length (Nat.le_refl _)).2
      rw [List.take_length, ← e1] at e2
      exact h y ys _ v h' tk rfl hP e2 hk'
end
section
variable {X : Cx}
/-- the heap's list or tuple behind a walked name -/
theorem seq_its {pins : List (Addr × Obj)} {s : Shared} {σ : L2.St} {H : Hp} {a : Addr} {ys : List V} (I : Inv X pins σ H s) (ha : H a = some (.lst ys) ∨ H a = some (.tup ys)) : ∃ its : List Value, Vals ys its ∧ (s.heap.IsList a its.toArray ∨ s.heap.IsTuple a its.toArray) := by
  rcases ha with ha | ha
  · obtain ⟨its, rv, hl, hz⟩ := I.list (.of ha)
    exact ⟨its, rv, .inl hl.isList⟩
  · obtain ⟨its, rv, hl, hz⟩ := I.tuple (.of ha)
    exact ⟨its, rv, .inr hl⟩
theorem its_pick {A : Addr → Prop} {H : Hp} {ys : List V} {its : List Value} {ds : List D} {i : Nat} {v : Value} {d : D} (rv : Vals ys its) (ra : RpL X.K A H ys ds) (h : its.toArray[i]? = some v) (e : ds.getD i .none = d) : ∃ x, RelV x v ∧ Rp X.K A H x d := by
  have h' : its[i]? = some v := by simpa using h
  have hi : i < its.length := (List.getElem?_eq_some_iff.mp h').1
  have l1 := rv.length
  have l2 := ra.length
  have hd : ds[i]? = some d := by
    rw [List.getD_eq_getElem?_getD] at e
    rw [List.getElem?_eq_getElem (by omega), Option.getD_some] at e
    rw [List.getElem?_eq_getElem (by omega), e]
  obtain ⟨x, e1, e2⟩ := ra.get hd
  obtain ⟨u, e3, e4⟩ := rv.get e1
  rw [h'] at e3
  cases e3
  exact ⟨x, e4, e2⟩
theorem cb_minD (hu : X.A.units + 65 < cLine) (hc : X.calm = true := by rfl) : CallR X (.builtin "min") (rC X.K .s bMinD) := by
  intro pins s σ H vs us Q I r ⟨A, ds, d, tr, w, e, q⟩
  unfold bMinD at e
  split at e
  · obtain ⟨v, rfl, w1⟩ := p1 w
    obtain ⟨xs, e1, e⟩ := bind2 e
    split at e
    · next hok =>
      obtain ⟨hal, hsh⟩ := okCmp_facts hok
      obtain ⟨a, ys, rfl, ha, ra⟩ := w1.seq e1
      rw [ref1 r]
      obtain ⟨its, rv, hl⟩ := seq_its I ha
      obtain ⟨as, rd⟩ := reads_all I rv ra fun x hx => (hsh x hx).1
      cases xs with
      | nil => cases e
      | cons y zs =>
        cases e
        have hdp := depth_all fun x hx => (hsh x hx).2
        refine min_pick (I.ok.hd hc) hl rd hal (by omega) fun i v h' tk hv he hk => ?_
        obtain ⟨x, rx, px⟩ := its_pick rv ra hv he
        exact ⟨x, H, I.kept hk, rx, q _ H (Same.refl H) px⟩
    · cases e
  · cases e
theorem cb_maxD (hu : X.A.units + 65 < cLine) (hc : X.calm = true := by rfl) : CallR X (.builtin "max") (rC X.K .s bMaxD) := by
  intro pins s σ H vs us Q I r ⟨A, ds, d, tr, w, e, q⟩
  unfold bMaxD at e
  split at e
  · obtain ⟨v, rfl, w1⟩ := p1 w
    obtain ⟨xs, e1, e⟩ := bind2 e
    split at e
    · next hok =>
      obtain ⟨hal, hsh⟩ := okCmp_facts hok
      obtain ⟨a, ys, rfl, ha, ra⟩ := w1.seq e1
      rw [ref1 r]
      obtain ⟨its, rv, hl⟩ := seq_its I ha
      obtain ⟨as, rd⟩ := reads_all I rv ra fun x hx => (hsh x hx).1
      cases xs with
      | nil => cases e
      | cons y zs =>
        cases e
        have hdp := depth_all fun x hx => (hsh x hx).2
        refine max_pick (I.ok.hd hc) hl rd hal (by omega) fun i v h' tk hv he hk => ?_
        obtain ⟨x, rx, px⟩ := its_pick rv ra hv he
        exact ⟨x, H, I.kept hk, rx, q _ H (Same.refl H) px⟩
    · cases e
  · cases e
/-! ### default= -/
def rCK (K : PySem.W.Frag) (g : List D → D → Option D) : List V → List V → Hp → VK → Prop := fun vs zs H Q => ∃ A ds z x d, Tr A H ∧ Paired (WRp K A H) vs ds ∧ zs = [z] ∧ Rp K A H z x ∧ g ds x = some d ∧ ∀ v H', Same H H' → Res K A H H' .s v d → Q v H'
def xCallK (g : List D → D → Option D) (fs : XL) (fd : Xp) : Xp := fun ρ => (fs ρ).bind fun ds => (fd ρ).bind fun x => g ds x
theorem weak_mono {K : PySem.W.Frag} {A : Addr → Prop} {H H' : Hp} (s : Same H H') {vs : List V} {ds : List D} (w : Paired (WRp K A H) vs ds) : Paired (WRp K A H') vs ds := by
  induction w with
  | nil => exact .nil
  | cons h r ih => exact .cons (WRp.mono s h) ih
theorem vals_one {z : V} {ws : List Value} (h : Vals [z] ws) : ∃ w, ws = [w] ∧ RelV z w := by
  cases h with
  | cons h r => cases r with | nil => exact ⟨_, rfl, h⟩
theorem cb_minK (hu : X.A.units + 65 < cLine) (hc : X.calm = true := by rfl) : CallRK X (.builtin "min") [Str.ofString "default"] (rCK X.K bMinK) := by
  intro pins s σ H vs zs us ws Q I r rz ⟨A, ds, z, o, d, tr, w, ez, pz, e, q⟩
  subst ez
  obtain ⟨w0, rfl, rw0⟩ := vals_one rz
  unfold bMinK at e
  split at e
  · obtain ⟨v, rfl, w1⟩ := p1 w
    obtain ⟨xs, e1, e⟩ := bind2 e
    split at e
    · next hok =>
      obtain ⟨hal, hsh⟩ := okCmp_facts hok
      obtain ⟨a, ys, rfl, ha, ra⟩ := w1.seq e1
      rw [ref1 r]
      obtain ⟨its, rv, hl⟩ := seq_its I ha
      obtain ⟨as, rd⟩ := reads_all I rv ra fun x hx => (hsh x hx).1
      have hdp := depth_all fun x hx => (hsh x hx).2
      refine min_pickD (I.ok.hd hc) hl rd hal (by omega) (fun hz h' tk hk => ?_) fun y zs i v h' tk hxs hv he hk => ?_
      · subst hz
        cases e
        exact ⟨z, H, I.kept hk, rw0, q _ H (Same.refl H) pz⟩
      · subst hxs
        cases e
        obtain ⟨x, rx, px⟩ := its_pick rv ra hv he
        exact ⟨x, H, I.kept hk, rx, q _ H (Same.refl H) px⟩
    · cases e
  · cases e
theorem cb_maxK (hu : X.A.units + 65 < cLine) (hc : X.calm = true := by rfl) : CallRK X (.builtin "max") [Str.ofString "default"] (rCK X.K bMaxK) := by
  intro pins s σ H vs zs us ws Q I r rz ⟨A, ds, z, o, d, tr, w, ez, pz, e, q⟩
  subst ez
  obtain ⟨w0, rfl, rw0⟩ := vals_one rz
  unfold bMaxK at e
  split at e
  · obtain ⟨v, rfl, w1⟩ := p1 w
    obtain ⟨xs, e1, e⟩ := bind2 e
    split at e
    · next hok =>
      obtain ⟨hal, hsh⟩ := okCmp_facts hok
      obtain ⟨a, ys, rfl, ha, ra⟩ := w1.seq e1
      rw [ref1 r]
      obtain ⟨its, rv, hl⟩ := seq_its I ha
      obtain ⟨as, rd⟩ := reads_all I rv ra fun x hx => (hsh x hx).1
      have hdp := depth_all fun x hx => (hsh x hx).2
      refine max_pickD (I.ok.hd hc) hl rd hal (by omega) (fun hz h' tk hk => ?_) fun y zs i v h' tk hxs hv he hk => ?_
      · subst hz
        cases e
        exact ⟨z, H, I.kept hk, rw0, q _ H (Same.refl H) pz⟩
      · subst hxs
        cases e
        obtain ⟨x, rx, px⟩ := its_pick rv ra hv he
        exact ⟨x, H, I.kept hk, rx, q _ H (Same.refl H) px⟩
    · cases e
  · cases e
variable {O : List Nat} {st : Bool} {e eo : Expr} {es : List Expr} {fs : XL} {fo : Xp} {pos kpos : Pos} {m : Md}
theorem se_callK {x : Str} {p : Pos} {id : String} {ks : Str} {g : List D → D → Option D} (hc : CallRK X (.builtin id) [ks] (rCK X.K g)) (hm : X.mg x = none) (ha : SA X O st (e :: es) fs) (ho : SE X O m eo fo) (hmw : m ≠ .w := by decide) (hg : L2.Gl X x := by rfl) (hv : bootBuiltins x = some (.builtin id) := by rfl) (hn : x ≠ "__name__" := by decide) (hdb : (x == ("__debug__" : Str)) = false := by decide)
    (he : backTo pos (starEach (e :: es) X.env) = (false, eval e X.env) :: backTo pos (starEach es X.env) := by rfl) (hpl : (backTo pos (starEach (e :: es) X.env)).any (·.1) = false := by rfl)
    (hall : (backToKw pos (keywordEach [⟨some ks, eo, kpos⟩] X.env)).all (·.1.isSome) = true := by rfl) (hnone : (backToKw pos (keywordEach [⟨some ks, eo, kpos⟩] X.env)).any (·.1.isNone) = false := by rfl) (hks : (backToKw pos (keywordEach [⟨some ks, eo, kpos⟩] X.env)).filterMap (·.1) = [ks] := by rfl) :
    SE X O .s (.Call (.Name x p) (e :: es) [⟨some ks, eo, kpos⟩] pos) (xCallK g fs fo) := by
  refine ⟨pe_imp (pe_callBK hc hg hm hv ha.pa (pk_cons ho.pe pk_nil) hn hdb he hpl hall hnone hks) fun σ H Q q => ?_⟩
  obtain ⟨H0, A0, G, ρ, B, d, S, e, k⟩ := q
  obtain ⟨ds, ex, e⟩ := bind2 e
  obtain ⟨x, eo, e⟩ := bind2 e
  exact ⟨H0, A0, G, ρ, B, ds, S, ex, fun vs H1 s1 r1 => ⟨H0, A0, G, ρ, B, x, S.mono s1, eo, fun z H2 s2 r2 => ⟨Av A0 B, ds, z, x, d, (S.mono (s1.trans s2)).tr, (weak_mono s2 (ResL.weak r1)), rfl, r2.toS (S.mono s1).tr hmw, e, fun v H' s r => k v H' ((s1.trans s2).trans s) r⟩⟩⟩
end
end Pm

/-! Pm: the least of typed data, for the plain mathematics. -/
namespace Pm
open PySem PySem.Spec PySem.W PyProof.Rows L2
abbrev lt' {α : Type} [DecidableEq α] [DatumOrd α] (a b : α) : Bool := DatumOrd.lt a b
/-- a linear order of data that may be laid and compared -/
class LinD (α : Type) [DecidableEq α] [DatumOrd α] : Prop where
  tri : ∀ a b : α, lt' a b = false → lt' b a = false → a = b
  trans : ∀ a b c : α, lt' a b = false → lt' b c = false → lt' a c = false
  asym : ∀ a b : α, lt' a b = false ∨ lt' b a = false
  lay : ∀ a : α, (Datum.toD a).canLay0 = true
instance : LinD Int where
  tri a b h1 h2 := by
    have h1 := of_decide_eq_false h1
    have h2 := of_decide_eq_false h2
    omega
  trans a b c h1 h2 := by
    have h1 := of_decide_eq_false h1
    have h2 := of_decide_eq_false h2
    exact decide_eq_false (by omega)
  asym a b := by
    by_cases h : a < b
    · exact .inr (decide_eq_false (by omega))
    · exact .inl (decide_eq_false h)
  lay a := by show (PyData.int a).canLay0 = true; simp [PyData.canLay0]
section
variable {α β : Type} [DecidableEq α] [DatumOrd α] [LinD α] [DecidableEq β] [DatumOrd β] [LinD β]
theorem lt_irr (a : α) : lt' a a = false := (DatumOrd.lt_eq a a).symm.trans (dataLt_self _)
theorem lLt_cc (x y : α) (xs ys : List α) : listLt (x :: xs) (y :: ys) = if x = y then listLt xs ys else lt' x y := rfl
theorem lLt_tri : ∀ xs ys : List α, listLt xs ys = false → listLt ys xs = false → xs = ys
  | [], [], _, _ => rfl
  | [], _ :: _, h, _ => by cases h
  | _ :: _, [], _, h => by cases h
  | x :: xs, y :: ys, h1, h2 => by
    rw [lLt_cc] at h1 h2
    by_cases h : x = y
    · subst h
      rw [if_pos rfl] at h1 h2
      rw [lLt_tri xs ys h1 h2]
    · rw [if_neg h] at h1
      rw [if_neg (Ne.symm h)] at h2
      exact absurd (LinD.tri _ _ h1 h2) h
theorem lLt_trans : ∀ xs ys zs : List α, listLt xs ys = false → listLt ys zs = false → listLt xs zs = false
  | [], ys, zs, h1, h2 => by
    have : ys = [] := by
      cases ys with
      | nil => rfl
      | cons _ _ => cases h1
    subst this
    exact h2
  | x :: xs, [], zs, h1, h2 => by
    have : zs = [] := by
      cases zs with
      | nil => rfl
      | cons _ _ => cases h2
    subst this
    rfl
  | x :: xs, y :: ys, [], _, _ => rfl
  | x :: xs, y :: ys, z :: zs, h1, h2 => by
    rw [lLt_cc] at h1 h2 ⊢
    by_cases h : x = y
    · subst h
      rw [if_pos rfl] at h1
      by_cases h' : x = z
      · subst h'
        rw [if_pos rfl] at h2 ⊢
        exact lLt_trans xs ys zs h1 h2
      · rw [if_neg h'] at h2 ⊢
        exact h2
    · rw [if_neg h] at h1
      by_cases h' : y = z
      · subst h'
        rw [if_neg h]
        exact h1
      · rw [if_neg h'] at h2
        by_cases h'' : x = z
        · subst h''
          exact absurd (LinD.tri _ _ h1 h2) h
        · rw [if_neg h'']
          exact LinD.trans _ _ _ h1 h2
theorem lLt_asym : ∀ xs ys : List α, listLt xs ys = false ∨ listLt ys xs = false
  | [], ys => .inr (by cases ys <;> rfl)
  | _ :: _, [] => .inl rfl
  | x :: xs, y :: ys => by
    rw [lLt_cc, lLt_cc]
    by_cases h : x = y
    · subst h
      rw [if_pos rfl, if_pos rfl]
      exact lLt_asym xs ys
    · rw [if_neg h, if_neg (Ne.symm h)]
      exact LinD.asym x y
theorem layAll_map : ∀ xs : List α, PyData.canLayAll0 (xs.map Datum.toD) = true
  | [] => by simp [PyData.canLayAll0]
  | x :: xs => by
    rw [List.map_cons, PyData.canLayAll0, LinD.lay x, layAll_map xs]
    rfl
instance : LinD (Tup α) where
  tri a b h1 h2 := by
    cases a
    cases b
    exact congrArg Tup.mk (lLt_tri _ _ h1 h2)
  trans a b c h1 h2 := lLt_trans _ _ _ h1 h2
  asym a b := lLt_asym _ _
  lay a := by
    show (PyData.tuple (a.items.map Datum.toD)).canLay0 = true
    rw [PyData.canLay0]
    exact layAll_map _
theorem pLt (p q : α × β) : lt' p q = if p.1 = q.1 then lt' p.2 q.2 else lt' p.1 q.1 := rfl
instance : LinD (α × β) where
  tri p q h1 h2 := by
    rw [pLt] at h1 h2
    by_cases h : p.1 = q.1
    · rw [if_pos h] at h1
      rw [if_pos h.symm] at h2
      exact Prod.ext h (LinD.tri _ _ h1 h2)
    · rw [if_neg h] at h1
      rw [if_neg (Ne.symm h)] at h2
      exact absurd (LinD.tri _ _ h1 h2) h
  trans p q r h1 h2 := by
    rw [pLt] at h1 h2 ⊢
    by_cases h : p.1 = q.1
    · rw [if_pos h] at h1
      rw [h]
      by_cases h' : q.1 = r.1
      · rw [if_pos h'] at h2 ⊢
        exact LinD.trans _ _ _ h1 h2
      · rw [if_neg h'] at h2 ⊢
        exact h2
    · rw [if_neg h] at h1
      by_cases h' : q.1 = r.1
      · rw [← h', if_neg h]
        exact h1
      · rw [if_neg h'] at h2
        by_cases h'' : p.1 = r.1
        · rw [← h''] at h2
          exact absurd (LinD.tri _ _ h1 h2) h
        · rw [if_neg h'']
          exact LinD.trans _ _ _ h1 h2
  asym p q := by
    rw [pLt, pLt]
    by_cases h : p.1 = q.1
    · rw [if_pos h, if_pos h.symm]
      exact LinD.asym _ _
    · rw [if_neg h, if_neg (Ne.symm h)]
      exact LinD.asym _ _
  lay p := by
    show (PyData.tuple [Datum.toD p.1, Datum.toD p.2]).canLay0 = true
    rw [PyData.canLay0, PyData.canLayAll0, LinD.lay, PyData.canLayAll0, LinD.lay, PyData.canLayAll0]
    rfl
/-! ### the least -/
theorem minOf_spec : ∀ (xs : List α) (x : α), minOf x xs ∈ x :: xs ∧ ∀ y ∈ x :: xs, lt' y (minOf x xs) = false
  | [], x => ⟨by simp [minOf], fun y hy => by
      have : y = x := by simpa using hy
      subst this
      exact lt_irr _⟩
  | z :: zs, x => by
    have e : minOf x (z :: zs) = minOf (if lt' z x = true then z else x) zs := rfl
    rw [e]
    by_cases h : lt' z x = true
    · rw [if_pos h]
      obtain ⟨h1, h2⟩ := minOf_spec zs z
      refine ⟨List.mem_cons_of_mem _ h1, fun y hy => ?_⟩
      rcases List.mem_cons.mp hy with rfl | hy
      · refine LinD.trans _ z _ ?_ (h2 z (by simp))
        rcases LinD.asym z y with h' | h'
        · rw [h'] at h; cases h
        · exact h'
      · exact h2 y hy
    · rw [if_neg h]
      obtain ⟨h1, h2⟩ := minOf_spec zs x
      have h : lt' z x = false := by simpa using h
      refine ⟨?_, fun y hy => ?_⟩
      · rcases List.mem_cons.mp h1 with h1 | h1
        · rw [h1]; simp
        · exact List.mem_cons_of_mem _ (List.mem_cons_of_mem _ h1)
      · rcases List.mem_cons.mp hy with rfl | hy
        · exact h2 _ (by simp)
        · rcases List.mem_cons.mp hy with rfl | hy
          · exact LinD.trans _ x _ h (h2 x (by simp))
          · exact h2 y (List.mem_cons_of_mem _ hy)
theorem maxOf_spec : ∀ (xs : List α) (x : α), maxOf x xs ∈ x :: xs ∧ ∀ y ∈ x :: xs, lt' (maxOf x xs) y = false
  | [], x => ⟨by simp [maxOf], fun y hy => by
      have : y = x := by simpa using hy
      subst this
      exact lt_irr _⟩
  | z :: zs, x => by
    have e : maxOf x (z :: zs) = maxOf (if lt' x z = true then z else x) zs := rfl
    rw [e]
    by_cases h : lt' x z = true
    · rw [if_pos h]
      obtain ⟨h1, h2⟩ := maxOf_spec zs z
      refine ⟨List.mem_cons_of_mem _ h1, fun y hy => ?_⟩
      rcases List.mem_cons.mp hy with rfl | hy
      · refine LinD.trans _ z _ (h2 z (by simp)) ?_
        rcases LinD.asym y z with h' | h'
        · rw [h'] at h; cases h
        · exact h'
      · exact h2 y hy
    · rw [if_neg h]
      obtain ⟨h1, h2⟩ := maxOf_spec zs x
      have h : lt' x z = false := by simpa using h
      refine ⟨?_, fun y hy => ?_⟩
      · rcases List.mem_cons.mp h1 with h1 | h1
        · rw [h1]; simp
        · exact List.mem_cons_of_mem _ (List.mem_cons_of_mem _ h1)
      · rcases List.mem_cons.mp hy with rfl | hy
        · exact h2 _ (by simp)
        · rcases List.mem_cons.mp hy with rfl | hy
          · exact LinD.trans _ x _ (h2 x (by simp)) h
          · exact h2 y (List.mem_cons_of_mem _ hy)
def least : List α → Option α
  | [] => none
  | x :: xs => some (minOf x xs)
theorem least_iff {l : List α} {m : α} : least l = some m ↔ m ∈ l ∧ ∀ y ∈ l, lt' y m = false := by
  cases l with
  | nil => simp [least]
  | cons x xs =>
    obtain ⟨h1, h2⟩ := minOf_spec xs x
    constructor
    · intro h
      cases h
      exact ⟨h1, h2⟩
    · intro ⟨h3, h4⟩
      exact congrArg some (LinD.tri _ _ (h4 _ h1) (h2 _ h3))
theorem least_none {l : List α} : least l = none ↔ l = [] := by
  cases l <;> simp [least]
theorem least_mem {l l' : List α} (h : ∀ a, a ∈ l ↔ a ∈ l') : least l = least l' := by
  cases e : least l with
  | none =>
    rw [least_none] at e
    subst e
    symm
    rw [least_none]
    cases l' with
    | nil => rfl
    | cons x xs => exact absurd ((h x).mpr (by simp)) (by simp)
  | some m =>
    symm
    rw [least_iff] at e ⊢
    exact ⟨(h m).mp e.1, fun y hy => e.2 y ((h y).mpr hy)⟩
/-- data in a list or a tuple -/
theorem okCmp_map (hd : Datum.depth α ≤ 20) (l : List α) : okCmp (l.map Datum.toD) = true := by
  have hA := alikeAll_datum l
  unfold okCmp
  rw [Bool.and_eq_true, List.all_eq_true, List.all_eq_true]
  refine ⟨fun x hx => List.all_eq_true.mpr fun y hy => hA.1 x hx y hy, fun x hx => ?_⟩
  obtain ⟨a, _, rfl⟩ := List.mem_map.mp hx
  have h1 := Datum.depth_le a
  have h2 := DatumOrd.notNone a
  rw [Bool.and_eq_true, Bool.and_eq_true, decide_eq_true_eq]
  refine ⟨⟨?_, by omega⟩, ?_⟩
  · unfold shp SeqAt.shaped
    rw [LinD.lay a, Bool.true_and]
    exact decide_eq_true (by omega)
  · generalize Datum.toD a = d at h2
    cases d <;> first | rfl | exact absurd rfl h2
theorem minK_map (hd : Datum.depth α ≤ 20) {x : D} (l : List α) (o : D) (hx : seqD x = some (l.map Datum.toD)) : bMinK [x] o = some ((least l).elim o Datum.toD) := by
  show (seqD x).bind _ = _
  rw [hx, Option.bind_some, if_pos (okCmp_map hd l)]
  cases l with
  | nil => rfl
  | cons y ys =>
    show some (minD (Datum.toD y) (ys.map Datum.toD)) = _
    rw [minD_map]
    rfl
theorem minD_l (hd : Datum.depth α ≤ 20) {x : D} (l : List α) (hx : seqD x = some (l.map Datum.toD)) : bMinD [x] = (least l).map Datum.toD := by
  show (seqD x).bind _ = _
  rw [hx, Option.bind_some, if_pos (okCmp_map hd l)]
  cases l with
  | nil => rfl
  | cons y ys =>
    show some (minD (Datum.toD y) (ys.map Datum.toD)) = _
    rw [minD_map]
    rfl
def leB (a b : α) : Bool := !lt' b a
theorem dataLe_lt (a b : α) : dataLe false (Datum.toD : α → D) a b = leB a b := by
  show (!PyProof.Rows.lexLt itemOrd (keyToks (Datum.toD b)) (keyToks (Datum.toD a))) = !lt' b a
  rw [show PyProof.Rows.lexLt itemOrd (keyToks (Datum.toD b)) (keyToks (Datum.toD a)) = dataLt (Datum.toD b) (Datum.toD a) from rfl, DatumOrd.lt_eq]
theorem okSort_map (hd : Datum.depth α ≤ 20) (l : List α) (hl : l.length ≤ 16777216) (ht : (∀ a : α, ∃ y ys, Datum.toD a = PyData.tuple (y :: ys)) ∨ ∀ a : α, ∀ ys, Datum.toD a ≠ PyData.tuple ys) : okSort (l.map Datum.toD) = true := by
  have hA := alikeAll_datum l
  unfold okSort
  rw [Bool.and_eq_true, Bool.and_eq_true, Bool.and_eq_true]
  refine ⟨⟨⟨?_, ?_⟩, ?_⟩, ?_⟩
  · rw [List.all_eq_true]
    exact fun x hx => List.all_eq_true.mpr fun y hy => hA.1 x hx y hy
  · rw [List.all_eq_true]
    intro x hx
    obtain ⟨a, _, rfl⟩ := List.mem_map.mp hx
    have h1 := Datum.depth_le a
    rw [Bool.and_eq_true, decide_eq_true_eq]
    refine ⟨?_, by omega⟩
    unfold shp SeqAt.shaped
    rw [LinD.lay a, Bool.true_and]
    exact decide_eq_true (by omega)
  · rw [List.length_map]
    exact decide_eq_true hl
  · rw [Bool.or_eq_true]
    rcases ht with ht | ht
    · refine .inl ?_
      rw [List.all_map, List.all_eq_true]
      intro a _
      obtain ⟨y, ys, e⟩ := ht a
      rw [Function.comp, e]
    · refine .inr ?_
      rw [List.all_map, List.all_eq_true]
      intro a _
      have h1 := ht a
      have h2 := DatumOrd.notNone a
      rw [Function.comp]
      generalize Datum.toD a = d at h1 h2
      cases d <;> first | rfl | exact absurd rfl h2 | exact absurd rfl (h1 _)
theorem sorted_map (hd : Datum.depth α ≤ 20) {x : D} (l : List α) (hl : l.length ≤ 16777216) (ht : (∀ a : α, ∃ y ys, Datum.toD a = PyData.tuple (y :: ys)) ∨ ∀ a : α, ∀ ys, Datum.toD a ≠ PyData.tuple ys) (hx : seqD x = some (l.map Datum.toD)) :
    ∃ l' : List α, l'.Perm l ∧ l'.Pairwise (fun a b => lt' b a = false) ∧ l'.head? = least l ∧ bSorted [x] = some (.list (l'.map Datum.toD)) := by
  have hp : (l.mergeSort leB).Perm l := List.mergeSort_perm _ _
  have hs : (l.mergeSort leB).Pairwise (fun a b : α => leB a b = true) := List.pairwise_mergeSort (fun a b c h1 h2 => by
    unfold leB at *
    simp only [Bool.not_eq_true'] at *
    exact LinD.trans c b a h2 h1) (fun a b => by
    unfold leB
    rcases LinD.asym a b with h | h
    · rw [h]; simp
    · rw [h]; simp) l
  have hs' : (l.mergeSort leB).Pairwise (fun a b : α => lt' b a = false) := hs.imp fun h => by
    unfold leB at h
    simpa using h
  refine ⟨l.mergeSort leB, hp, hs', ?_, ?_⟩
  · cases e : l.mergeSort leB with
    | nil =>
      rw [e] at hp
      have : l = [] := List.Perm.eq_nil hp.symm
      subst this
      rfl
    | cons y ys =>
      rw [e] at hp hs'
      symm
      show least l = some y
      rw [least_iff]
      refine ⟨hp.mem_iff.mp (by simp), fun z hz => ?_⟩
      have hz := hp.mem_iff.mpr hz
      rcases List.mem_cons.mp hz with rfl | hz
      · exact lt_irr _
      · exact (List.pairwise_cons.mp hs').1 z hz
  · show (seqD x).bind _ = _
    rw [hx, Option.bind_some, if_pos (okSort_map hd l hl ht), PySem.W.sort_maps (r := leB) (s := PySem.W.dataLe false id) (Datum.toD : α → D) (fun a _ b _ => (dataLe_lt a b).symm)]
end
theorem xCallK_a {ρ : PEnv} (g : List D → D → Option D) (fs : XL) (fd : Xp) : xCallK g fs fd ρ = (fs ρ).bind fun ds => (fd ρ).bind fun x => g ds x := rfl
end Pm


/-! the walk of dockheld_k08_whole_tide_sets, printed by gen.py -/
namespace K08
open PySem PySem.Spec PyProof.Rows L2 Pm
def topS (i : Nat) : Stmt := PySem.Challenge.pw_dockheld_k08_whole_tide_sets.main.body.getD i (.Pass ⟨0, 0, 0, 0⟩)
section
variable {P : Program} {w : World} {K : PySem.W.Frag} {mg : Str → Option Value} {base : Heap}
/-! ### all_orders -/
abbrev s_all_orders : Stmt := topS 1
theorem sc_all_orders : FnScope ["n", "rows", "_", "row", "index"] ["n"] (defScope s_all_orders) := ⟨rfl, rfl, rfl, by decide +kernel, rfl, by decide +kernel, by decide +kernel⟩
def l1_all_orders : XS :=
  (sSeq (sSet 1 (xLc2 (xSeq (xVar 1)) (gSet 3) tYesP (xIt oR1 (xCons (xVar 0) xNil)) (gSet 4) (tOf (xBin oNotIn (xVar 4) (xVar 3))) (xBin oAdd (xVar 3) (xTup (xCons (xVar 4) xNil))) [3, 4] [4]))
  sNop)
def g_all_orders : XS :=
  (sSeq (sSet 1 (xLst (xCons (xTup xNil) xNil)))
  (sSeq (sFor (xIt oR1 (xCons (xVar 0) xNil)) (gSet 2) l1_all_orders)
  (sRet (xVar 1))))
def d_all_orders : List D → Option D := runD 1 5 g_all_orders
theorem ok_all_orders {f : Addr} {fd : FuncData} (F : FnP K "all_orders" s_all_orders f fd) (b_range : mg "range" = none) : FnOk P w K mg base CX0 1 f fd ["n"] (spD K 1 d_all_orders) := by
  have nd := sc_all_orders.nd
  refine fnp_ok (k := 0) (O' := []) F sc_all_orders fun cdv A outer s H E hr => ?_
  exact (by exact ss_cons (by exact ss_setF 1 nd (by exact se_lst (by exact sa_cons (by exact se_tup sa_nil) sa_nil))) (by exact ss_cons (by exact ss_for (O' := [1]) (by exact si_r1 (st := false) b_range (by exact sa_cons (by exact se_var 0) sa_nil)) (by exact sg_name 2 nd) (by exact ss_cons (by exact ss_setLc2 1 (vs1 := [4]) nd (by exact si_seq (m := .w) (by exact se_varW 1)) (blkOk_by (own := [("row", 3), ("index", 4)]) rfl) (fun _ _ _ _ _ => (by exact sg_name 3 nd)) (fun _ _ _ _ _ => sts_nil) (fun _ _ _ _ _ => (by exact si_r1 (st := false) b_range (by exact sa_cons (by exact se_var 0) sa_nil))) (fun _ _ _ _ _ => (by exact sg_name 4 nd)) (fun _ _ _ _ _ => (by exact sts_one (by exact st_cmp (op_notInP hr) (by exact se_var 4) (by exact se_var 3)))) (fun _ _ _ _ _ => (by exact se_op op_addD (by exact se_var 3) (by exact se_tup (by exact sa_cons (by exact se_var 4) sa_nil))))) ss_nil)) (by exact ss_last (by exact SS.weak (O1 := []) (by exact ss_ret (by exact se_var 1))))))
/-! ### open_from -/
abbrev s_open_from : Stmt := topS 3
theorem sc_open_from : FnScope ["tide", "need", "hour", "one"] ["tide", "need", "hour"] (defScope s_open_from) := ⟨rfl, rfl, rfl, by decide +kernel, rfl, by decide +kernel, by decide +kernel⟩
def l1_open_from : XS :=
  (sSeq (sIf (tOf (xBin oGe (xBin oIx (xVar 0) (xBin oMod (xVar 3) (xCall bLen (xCons (xVar 0) xNil)))) (xVar 1))) (sRet (xVar 3)) sNop)
  sNop)
def g_open_from : XS :=
  (sSeq (sFor (xIt oR2 (xCons (xVar 2) (xCons (xBin oAdd (xVar 2) (xCall bLen (xCons (xVar 0) xNil))) xNil))) (gSet 3) l1_open_from)
  (sRet (xC .none)))
def d_open_from : List D → Option D := runD 3 4 g_open_from
theorem ok_open_from {f : Addr} {fd : FuncData} (F : FnP K "open_from" s_open_from f fd) (b_len : mg "len" = none) (b_range : mg "range" = none) : FnOk P w K mg base CX0 1 f fd ["tide", "need", "hour"] (spD K 3 d_open_from) := by
  have nd := sc_open_from.nd
  refine fnp_ok (k := 0) (O' := []) F sc_open_from fun cdv A outer s H E hr => ?_
  exact (by exact ss_cons (by exact ss_for (O' := []) (by exact si_r2 (st := false) b_range (by exact sa_cons (by exact se_var 2) (by exact sa_cons (by exact se_op op_addD (by exact se_var 2) (by exact se_callB (st := false) cb_len b_len (by exact sa_cons (by exact se_var 0) sa_nil))) sa_nil))) (by exact sg_name 3 nd) (by exact ss_cons (by exact ss_if (O' := []) (by exact st_cmp op_geD (by exact se_ix (by exact se_var 0) (by exact se_op op_modD (by exact se_var 3) (by exact se_callB (st := false) cb_len b_len (by exact sa_cons (by exact se_var 0) sa_nil)))) (by exact se_var 1)) (by exact ss_last (by exact ss_ret (by exact se_var 3))) ss_nil) ss_nil)) (by exact ss_last (by exact ss_ret se_non)))
/-! ### tide_times -/
abbrev s_tide_times : Stmt := topS 4
theorem sc_tide_times : FnScope ["tide", "ships", "sets", "chosen", "hour", "found", "begin", "end", "need", "work", "index"] ["tide", "ships", "sets"] (defScope s_tide_times) := ⟨rfl, rfl, rfl, by decide +kernel, rfl, by decide +kernel, by decide +kernel⟩
def l1_tide_times : XS :=
  (sSeq (sPar [8, 9] (xCons (xCall bMaxI (xCons (xLc (xSeq (xVar 3)) (gSet 10) tYesP (xBin oIx (xBin oIx (xVar 1) (xVar 10)) (xC (.int 0))) [10]) xNil)) (xCons (xCall bMaxI (xCons (xLc (xSeq (xVar 3)) (gSet 10) tYesP (xBin oIx (xBin oIx (xVar 1) (xVar 10)) (xC (.int 1))) [10]) xNil)) xNil)))
  (sSeq (sSet 6 (xCall (fun ds => if ds.length = 3 then ((d_open_from) ds).bind fun d => if flat d then some d else none else none) (xCons (xVar 0) (xCons (xVar 8) (xCons (xVar 4) xNil)))))
  (sSeq (sIf (tOf (xBin oIs (xVar 6) (xC .none))) (sRet (xC .none)) sNop)
  (sSeq (sSet 7 (xCall (fun ds => if ds.length = 3 then ((d_open_from) ds).bind fun d => if flat d then some d else none else none) (xCons (xVar 0) (xCons (xVar 8) (xCons (xBin oAdd (xVar 6) (xVar 9)) xNil)))))
  (sSeq (sApp 5 (xTup (xCons (xVar 6) (xCons (xVar 7) xNil))))
  (sSeq (sSet 4 (xBin oAdd (xVar 7) (xC (.int 1))))
  sNop))))))
def g_tide_times : XS :=
  (sSeq (sPar [4, 5] (xCons (xC (.int 0)) (xCons (xLst xNil) xNil)))
  (sSeq (sFor (xSeq (xVar 2)) (gSet 3) l1_tide_times)
  (sRet (xCall bTuple (xCons (xVar 5) xNil)))))
def d_tide_times : List D → Option D := runD 3 11 g_tide_times
theorem ok_tide_times {f : Addr} {fd : FuncData} (F : FnP K "tide_times" s_tide_times f fd) (D_open_from : Def P w K mg base 1 "open_from" ["tide", "need", "hour"] (d_open_from)) (b_max : mg "max" = none) (b_tuple : mg "tuple" = none) : FnOk P w K mg base CX0 2 f fd ["tide", "ships", "sets"] (spD K 3 d_tide_times) := by
  have nd := sc_tide_times.nd
  refine fnp_ok (k := 1) (O' := []) F sc_tide_times fun cdv A outer s H E hr => ?_
  exact (by exact ss_cons (by exact ss_par 4 5 nd (by exact sam_cons se_int (by exact sam_cons (by exact se_lst sa_nil) sam_nil))) (by exact ss_cons (by exact ss_for (O' := [5, 4]) (by exact si_seq (m := .s) (by exact se_var 2)) (by exact sg_name 3 nd) (by exact ss_cons (by exact ss_par 8 9 nd (by exact sam_cons (by exact se_callB (st := false) cb_maxI b_max (by exact sa_cons (by exact se_lc nd (by exact si_seq (m := .s) (by exact se_var 3)) (blkOk_by (own := [("index", 10)]) rfl) (fun _ _ _ _ _ => (by exact sg_name 10 nd)) (fun _ _ _ _ _ => sts_nil) (fun _ _ _ _ _ => (by exact se_ix (by exact se_ix (by exact se_var 1) (by exact se_var 10)) se_int))) sa_nil)) (by exact sam_cons (by exact se_callB (st := false) cb_maxI b_max (by exact sa_cons (by exact se_lc nd (by exact si_seq (m := .s) (by exact se_var 3)) (blkOk_by (own := [("index", 10)]) rfl) (fun _ _ _ _ _ => (by exact sg_name 10 nd)) (fun _ _ _ _ _ => sts_nil) (fun _ _ _ _ _ => (by exact se_ix (by exact se_ix (by exact se_var 1) (by exact se_var 10)) se_int))) sa_nil)) sam_nil))) (by exact ss_cons (by exact ss_setF 6 nd (by exact se_callWD D_open_from hr (by exact sa_cons (by exact se_var 0) (by exact sa_cons (by exact se_varW 8) (by exact sa_cons (by exact se_varW 4) sa_nil))))) (by exact ss_cons (by exact ss_if (O' := [6, 9, 8, 5, 4]) (by exact st_cmp op_isD (by exact se_varW 6) se_non) (by exact ss_last (by exact ss_ret se_non)) ss_nil) (by exact ss_cons (by exact ss_setF 7 nd (by exact se_callWD D_open_from hr (by exact sa_cons (by exact se_var 0) (by exact sa_cons (by exact se_varW 8) (by exact sa_cons (by exact se_op op_addD (by exact se_varW 6) (by exact se_varW 9)) sa_nil))))) (by exact ss_cons (by exact SS.weak (O1 := [9, 8, 5, 4]) (by exact ss_app 5 (by exact se_tup (by exact sa_cons (by exact se_var 6) (by exact sa_cons (by exact se_var 7) sa_nil))))) (by exact ss_cons (by exact ss_setF 4 nd (by exact se_op op_addD (by exact se_var 7) se_int)) ss_nil))))))) (by exact ss_last (by exact ss_ret (by exact se_callT (st := false) cb_tuple b_tuple (by exact sa_cons (by exact se_varW 5) sa_nil))))))
/-! ### tide_end -/
abbrev s_tide_end : Stmt := topS 5
theorem sc_tide_end : FnScope ["tide", "ships", "sets", "times"] ["tide", "ships", "sets"] (defScope s_tide_end) := ⟨rfl, rfl, rfl, by decide +kernel, rfl, by decide +kernel, by decide +kernel⟩
def g_tide_end : XS :=
  (sSeq (sSet 3 (xCall (fun ds => if ds.length = 3 then (d_tide_times) ds else none) (xCons (xVar 0) (xCons (xVar 1) (xCons (xVar 2) xNil)))))
  (sRet (xIf (tNotP (tTru (xVar 3))) (xC .none) (xBin oIx (xBin oIx (xVar 3) (xUn oNeg (xC (.int 1)))) (xC (.int 1))))))
def d_tide_end : List D → Option D := runD 3 4 g_tide_end
theorem ok_tide_end {f : Addr} {fd : FuncData} (F : FnP K "tide_end" s_tide_end f fd) (D_tide_times : Def P w K mg base 2 "tide_times" ["tide", "ships", "sets"] (d_tide_times)) : FnOk P w K mg base CX0 3 f fd ["tide", "ships", "sets"] (spD K 3 d_tide_end) := by
  have nd := sc_tide_end.nd
  refine fnp_ok (k := 2) (O' := []) F sc_tide_end fun cdv A outer s H E hr => ?_
  exact (by exact ss_cons (by exact ss_setS 3 nd (by exact se_callD D_tide_times hr (by exact sa_cons (by exact se_var 0) (by exact sa_cons (by exact se_var 1) (by exact sa_cons (by exact se_var 2) sa_nil))))) (by exact ss_last (by exact ss_ret (by exact se_if (by exact st_not (by exact st_val (by exact se_var 3))) (by exact SE.toS se_non) (by exact se_ix (by exact se_ix (by exact se_var 3) (by exact se_un un_negD se_int)) se_int)))))
/-! ### tide_order -/
abbrev s_tide_order : Stmt := topS 6
theorem sc_tide_order : FnScope ["tide", "ships", "sets", "found", "order", "end", "place"] ["tide", "ships", "sets"] (defScope s_tide_order) := ⟨rfl, rfl, rfl, by decide +kernel, rfl, by decide +kernel, by decide +kernel⟩
def l1_tide_order : XS :=
  (sSeq (sSet 5 (xCall (fun ds => if ds.length = 3 then (d_tide_end) ds else none) (xCons (xVar 0) (xCons (xVar 1) (xCons (xLc (xSeq (xVar 4)) (gSet 6) tYesP (xBin oIx (xVar 2) (xVar 6)) [6]) xNil)))))
  (sSeq (sIf (tOf (xBin oIsNot (xVar 5) (xC .none))) (sSeq (sApp 3 (xTup (xCons (xVar 5) (xCons (xVar 4) xNil))))
  sNop) sNop)
  sNop))
def g_tide_order : XS :=
  (sSeq (sSet 3 (xLst xNil))
  (sSeq (sFor (xSeq (xCall (fun ds => if ds.length = 1 then (d_all_orders) ds else none) (xCons (xCall bLen (xCons (xVar 2) xNil)) xNil))) (gSet 4) l1_tide_order)
  (sRet (xCallK bMinK (xCons (xVar 3) xNil) (xC .none)))))
def d_tide_order : List D → Option D := runD 3 7 g_tide_order
theorem ok_tide_order {f : Addr} {fd : FuncData} (F : FnP K "tide_order" s_tide_order f fd) (D_all_orders : Def P w K mg base 1 "all_orders" ["n"] (d_all_orders)) (D_tide_end : Def P w K mg base 3 "tide_end" ["tide", "ships", "sets"] (d_tide_end)) (b_len : mg "len" = none) (b_min : mg "min" = none) : FnOk P w K mg base CX0 4 f fd ["tide", "ships", "sets"] (spD K 3 d_tide_order) := by
  have nd := sc_tide_order.nd
  refine fnp_ok (k := 3) (O' := []) F sc_tide_order fun cdv A outer s H E hr => ?_
  exact (by exact ss_cons (by exact ss_setF 3 nd (by exact se_lst sa_nil)) (by exact ss_cons (by exact ss_for (O' := [3]) (by exact si_seq (m := .s) (by exact se_callD D_all_orders hr (by exact sa_cons (by exact se_callB (st := false) cb_len b_len (by exact sa_cons (by exact se_var 2) sa_nil)) sa_nil))) (by exact sg_name 4 nd) (by exact ss_cons (by exact ss_setS 5 nd (by exact se_callD D_tide_end hr (by exact sa_cons (by exact se_var 0) (by exact sa_cons (by exact se_var 1) (by exact sa_cons (by exact se_lc nd (by exact si_seq (m := .s) (by exact se_var 4)) (blkOk_by (own := [("place", 6)]) rfl) (fun _ _ _ _ _ => (by exact sg_name 6 nd)) (fun _ _ _ _ _ => sts_nil) (fun _ _ _ _ _ => (by exact se_ix (by exact se_var 2) (by exact se_var 6)))) sa_nil))))) (by exact ss_cons (by exact ss_if (O' := [3]) (by exact st_cmp op_isNotD (by exact se_var 5) se_non) (by exact ss_cons (by exact ss_app 3 (by exact se_tup (by exact sa_cons (by exact se_var 5) (by exact sa_cons (by exact se_var 4) sa_nil)))) ss_nil) ss_nil) ss_nil))) (by exact ss_last (by exact ss_ret (by exact se_callK (st := false) (cb_minK (hu65 hr)) b_min (by exact sa_cons (by exact se_varW 3) sa_nil) se_non)))))
/-! ### set_rows -/
abbrev s_set_rows : Stmt := topS 7
theorem sc_set_rows : FnScope ["count", "most", "rows", "index", "grown", "row", "place", "chosen"] ["count", "most"] (defScope s_set_rows) := ⟨rfl, rfl, rfl, by decide +kernel, rfl, by decide +kernel, by decide +kernel⟩
def l1_set_rows : XS :=
  (sSeq (sIf (tOf (xBin oLt (xCall bLen (xCons (xVar 7) xNil)) (xVar 1))) (sSeq (sApp 4 (xBin oAdd (xBin oAdd (xSl (xVar 5) oNo (oAt (xVar 6))) (xTup (xCons (xBin oAdd (xVar 7) (xTup (xCons (xVar 3) xNil))) xNil))) (xSl (xVar 5) (oAt (xBin oAdd (xVar 6) (xC (.int 1)))) oNo)))
  sNop) sNop)
  sNop)
def l2_set_rows : XS :=
  (sSeq (sApp 4 (xBin oAdd (xVar 5) (xTup (xCons (xTup (xCons (xVar 3) xNil)) xNil))))
  (sSeq (sFor (xIt oEnum (xCons (xVar 5) xNil)) (gTupD 2 (gsCons (gSet 6) (gsCons (gSet 7) gsNil))) l1_set_rows)
  sNop))
def l3_set_rows : XS :=
  (sSeq (sSet 4 (xLst xNil))
  (sSeq (sFor (xSeq (xVar 2)) (gSet 5) l2_set_rows)
  (sSeq (sSet 2 (xVar 4))
  sNop)))
def g_set_rows : XS :=
  (sSeq (sSet 2 (xLst (xCons (xTup xNil) xNil)))
  (sSeq (sFor (xIt oR1 (xCons (xVar 0) xNil)) (gSet 3) l3_set_rows)
  (sRet (xVar 2))))
def d_set_rows : List D → Option D := runD 2 8 g_set_rows
theorem ok_set_rows {f : Addr} {fd : FuncData} (F : FnP K "set_rows" s_set_rows f fd) (b_enumerate : mg "enumerate" = none) (b_len : mg "len" = none) (b_range : mg "range" = none) : FnOk P w K mg base CX0 1 f fd ["count", "most"] (spD K 2 d_set_rows) := by
  have nd := sc_set_rows.nd
  refine fnp_ok (k := 0) (O' := []) F sc_set_rows fun cdv A outer s H E hr => ?_
  exact (by exact ss_cons (by exact ss_setF 2 nd (by exact se_lst (by exact sa_cons (by exact se_tup sa_nil) sa_nil))) (by exact ss_cons (by exact SS.weak (O1 := []) (by exact ss_for (O' := []) (by exact si_r1 (st := false) b_range (by exact sa_cons (by exact se_var 0) sa_nil)) (by exact sg_name 3 nd) (by exact ss_cons (by exact ss_setF 4 nd (by exact se_lst sa_nil)) (by exact ss_cons (by exact ss_for (O' := [4]) (by exact si_seq (m := .s) (by exact se_var 2)) (by exact sg_name 5 nd) (by exact ss_cons (by exact ss_app 4 (by exact se_op op_addD (by exact se_var 5) (by exact se_tup (by exact sa_cons (by exact se_tup (by exact sa_cons (by exact se_var 3) sa_nil)) sa_nil)))) (by exact ss_cons (by exact ss_for (O' := [4]) (by exact si_enum (st := true) b_enumerate (by exact sa_cons (by exact se_var 5) sa_nil)) (by exact sg_tup rfl (by exact sgs_cons (by exact sg_name 6 nd) (by exact sgs_cons (by exact sg_name 7 nd) sgs_nil))) (by exact ss_cons (by exact ss_if (O' := [4]) (by exact st_cmp op_ltD (by exact se_callB (st := false) cb_len b_len (by exact sa_cons (by exact se_var 7) sa_nil)) (by exact se_var 1)) (by exact ss_cons (by exact ss_app 4 (by exact se_op op_addD (by exact se_op op_addD (by exact se_sl (by exact se_var 5) so_none (by exact so_some (by exact se_var 6))) (by exact se_tup (by exact sa_cons (by exact se_op op_addD (by exact se_var 7) (by exact se_tup (by exact sa_cons (by exact se_var 3) sa_nil))) sa_nil))) (by exact se_sl (by exact se_var 5) (by exact so_some (by exact se_op op_addD (by exact se_var 6) se_int)) so_none))) ss_nil) ss_nil) ss_nil)) ss_nil))) (by exact ss_cons (by exact SS.weak (O1 := []) (by exact ss_setS 2 nd (by exact se_var 4))) ss_nil))))) (by exact ss_last (by exact ss_ret (by exact se_var 2)))))
/-! ### tide_sets -/
abbrev s_tide_sets : Stmt := topS 8
theorem sc_tide_sets : FnScope ["tide", "ships", "most", "found", "row", "order", "sets", "end", "place"] ["tide", "ships", "most"] (defScope s_tide_sets) := ⟨rfl, rfl, rfl, by decide +kernel, rfl, by decide +kernel, by decide +kernel⟩
def l1_tide_sets : XS :=
  (sSeq (sSet 6 (xCall bTuple (xCons (xLc (xSeq (xVar 5)) (gSet 8) tYesP (xBin oIx (xVar 4) (xVar 8)) [8]) xNil)))
  (sSeq (sSet 7 (xCall (fun ds => if ds.length = 3 then ((d_tide_end) ds).bind fun d => if flat d then some d else none else none) (xCons (xVar 0) (xCons (xVar 1) (xCons (xVar 6) xNil)))))
  (sSeq (sIf (tOf (xBin oIsNot (xVar 7) (xC .none))) (sSeq (sApp 3 (xTup (xCons (xVar 7) (xCons (xVar 6) xNil))))
  sNop) sNop)
  sNop)))
def l2_tide_sets : XS :=
  (sSeq (sFor (xSeq (xCall (fun ds => if ds.length = 1 then (d_all_orders) ds else none) (xCons (xCall bLen (xCons (xVar 4) xNil)) xNil))) (gSet 5) l1_tide_sets)
  sNop)
def g_tide_sets : XS :=
  (sSeq (sSet 3 (xLst xNil))
  (sSeq (sFor (xSeq (xCall (fun ds => if ds.length = 2 then (d_set_rows) ds else none) (xCons (xCall bLen (xCons (xVar 1) xNil)) (xCons (xVar 2) xNil)))) (gSet 4) l2_tide_sets)
  (sRet (xCallK bMinK (xCons (xVar 3) xNil) (xC .none)))))
def d_tide_sets : List D → Option D := runD 3 9 g_tide_sets
theorem ok_tide_sets {f : Addr} {fd : FuncData} (F : FnP K "tide_sets" s_tide_sets f fd) (D_all_orders : Def P w K mg base 1 "all_orders" ["n"] (d_all_orders)) (D_tide_end : Def P w K mg base 3 "tide_end" ["tide", "ships", "sets"] (d_tide_end)) (D_set_rows : Def P w K mg base 1 "set_rows" ["count", "most"] (d_set_rows)) (b_len : mg "len" = none) (b_min : mg "min" = none) (b_tuple : mg "tuple" = none) : FnOk P w K mg base CX0 4 f fd ["tide", "ships", "most"] (spD K 3 d_tide_sets) := by
  have nd := sc_tide_sets.nd
  refine fnp_ok (k := 3) (O' := []) F sc_tide_sets fun cdv A outer s H E hr => ?_
  exact (by exact ss_cons (by exact ss_setF 3 nd (by exact se_lst sa_nil)) (by exact ss_cons (by exact ss_for (O' := [3]) (by exact si_seq (m := .s) (by exact se_callD D_set_rows hr (by exact sa_cons (by exact se_callB (st := false) cb_len b_len (by exact sa_cons (by exact se_var 1) sa_nil)) (by exact sa_cons (by exact se_var 2) sa_nil)))) (by exact sg_name 4 nd) (by exact ss_cons (by exact ss_for (O' := [3]) (by exact si_seq (m := .s) (by exact se_callD D_all_orders hr (by exact sa_cons (by exact se_callB (st := false) cb_len b_len (by exact sa_cons (by exact se_var 4) sa_nil)) sa_nil))) (by exact sg_name 5 nd) (by exact ss_cons (by exact ss_setF 6 nd (by exact se_callT (st := false) cb_tuple b_tuple (by exact sa_cons (by exact se_lc nd (by exact si_seq (m := .s) (by exact se_var 5)) (blkOk_by (own := [("place", 8)]) rfl) (fun _ _ _ _ _ => (by exact sg_name 8 nd)) (fun _ _ _ _ _ => sts_nil) (fun _ _ _ _ _ => (by exact se_ix (by exact se_var 4) (by exact se_var 8)))) sa_nil))) (by exact ss_cons (by exact ss_setF 7 nd (by exact se_callWD D_tide_end hr (by exact sa_cons (by exact se_var 0) (by exact sa_cons (by exact se_var 1) (by exact sa_cons (by exact se_varW 6) sa_nil))))) (by exact ss_cons (by exact ss_if (O' := [3]) (by exact st_cmp op_isNotD (by exact se_varW 7) se_non) (by exact ss_cons (by exact SS.weak (O1 := [3]) (by exact ss_app 3 (by exact se_tup (by exact sa_cons (by exact se_var 7) (by exact sa_cons (by exact se_var 6) sa_nil))))) ss_nil) ss_nil) ss_nil)))) ss_nil)) (by exact ss_last (by exact ss_ret (by exact se_callK (st := false) (cb_minK (hu65 hr)) b_min (by exact sa_cons (by exact se_varW 3) sa_nil) se_non)))))
/-! ### tide_lost -/
abbrev s_tide_lost : Stmt := topS 9
theorem sc_tide_lost : FnScope ["tide", "ships", "sets", "times", "index", "chosen", "begin", "end"] ["tide", "ships", "sets"] (defScope s_tide_lost) := ⟨rfl, rfl, rfl, by decide +kernel, rfl, by decide +kernel, by decide +kernel⟩
def g_tide_lost : XS :=
  (sSeq (sSet 3 (xCall (fun ds => if ds.length = 3 then (d_tide_times) ds else none) (xCons (xVar 0) (xCons (xVar 1) (xCons (xVar 2) xNil)))))
  (sSeq (sIf (tOf (xBin oIs (xVar 3) (xC .none))) (sRet (xC .none)) sNop)
  (sRet (xCall bSum (xCons (xLc2 (xIt oZipM (xCons (xVar 3) (xCons (xVar 2) xNil))) (gTupD 2 (gsCons (gTupD 2 (gsCons (gSet 6) (gsCons (gSet 7) gsNil))) (gsCons (gSet 5) gsNil))) tYesP (xSeq (xVar 5)) (gSet 4) tYesP (xBin oSub (xBin oSub (xVar 7) (xVar 6)) (xBin oIx (xBin oIx (xVar 1) (xVar 4)) (xC (.int 1)))) [5, 6, 7, 4] [4]) xNil)))))
def d_tide_lost : List D → Option D := runD 3 8 g_tide_lost
theorem ok_tide_lost {f : Addr} {fd : FuncData} (F : FnP K "tide_lost" s_tide_lost f fd) (D_tide_times : Def P w K mg base 2 "tide_times" ["tide", "ships", "sets"] (d_tide_times)) (b_sum : mg "sum" = none) (b_zip : mg "zip" = none) : FnOk P w K mg base CX0 3 f fd ["tide", "ships", "sets"] (spD K 3 d_tide_lost) := by
  have nd := sc_tide_lost.nd
  refine fnp_ok (k := 2) (O' := []) F sc_tide_lost fun cdv A outer s H E hr => ?_
  exact (by exact ss_cons (by exact ss_setS 3 nd (by exact se_callD D_tide_times hr (by exact sa_cons (by exact se_var 0) (by exact sa_cons (by exact se_var 1) (by exact sa_cons (by exact se_var 2) sa_nil))))) (by exact ss_cons (by exact ss_if (O' := []) (by exact st_cmp op_isD (by exact se_var 3) se_non) (by exact ss_last (by exact ss_ret se_non)) ss_nil) (by exact ss_last (by exact ss_ret (by exact se_callB (st := false) cb_sum b_sum (by exact sa_cons (by exact se_lc2 (vs1 := [4]) nd (by exact si_zipM (st := false) b_zip (by exact sa_cons (by exact se_var 3) (by exact sa_cons (by exact se_var 2) sa_nil))) (blkOk_by (own := [("chosen", 5), ("begin", 6), ("end", 7), ("index", 4)]) rfl) (fun _ _ _ _ _ => (by exact sg_tup rfl (by exact sgs_cons (by exact sg_tup rfl (by exact sgs_cons (by exact sg_name 6 nd) (by exact sgs_cons (by exact sg_name 7 nd) sgs_nil))) (by exact sgs_cons (by exact sg_name 5 nd) sgs_nil)))) (fun _ _ _ _ _ => sts_nil) (fun _ _ _ _ _ => (by exact si_seq (m := .s) (by exact se_var 5))) (fun _ _ _ _ _ => (by exact sg_name 4 nd)) (fun _ _ _ _ _ => sts_nil) (fun _ _ _ _ _ => (by exact se_op op_subD (by exact se_op op_subD (by exact se_var 7) (by exact se_var 6)) (by exact se_ix (by exact se_ix (by exact se_var 1) (by exact se_var 4)) se_int)))) sa_nil))))))
/-! ### tide_at -/
abbrev s_tide_at : Stmt := topS 11
theorem sc_tide_at : FnScope ["tide", "hour"] ["tide", "hour"] (defScope s_tide_at) := ⟨rfl, rfl, rfl, by decide +kernel, rfl, by decide +kernel, by decide +kernel⟩
def g_tide_at : XS :=
  (sRet (xBin oIx (xVar 0) (xBin oMod (xVar 1) (xCall bLen (xCons (xVar 0) xNil)))))
def d_tide_at : List D → Option D := runD 2 2 g_tide_at
theorem ok_tide_at {f : Addr} {fd : FuncData} (F : FnP K "tide_at" s_tide_at f fd) (b_len : mg "len" = none) : FnOk P w K mg base CX0 1 f fd ["tide", "hour"] (spD K 2 d_tide_at) := by
  have nd := sc_tide_at.nd
  refine fnp_ok (k := 0) (O' := []) F sc_tide_at fun cdv A outer s H E hr => ?_
  exact (by exact ss_last (by exact ss_ret (by exact se_ix (by exact se_var 0) (by exact se_op op_modD (by exact se_var 1) (by exact se_callB (st := false) cb_len b_len (by exact sa_cons (by exact se_var 0) sa_nil))))))
/-! ### next_open -/
abbrev s_next_open : Stmt := topS 12
theorem sc_next_open : FnScope ["tide", "need", "hour", "likely", "one"] ["tide", "need", "hour"] (defScope s_next_open) := ⟨rfl, rfl, rfl, by decide +kernel, rfl, by decide +kernel, by decide +kernel⟩
def g_next_open : XS :=
  (sSeq (sSet 3 (xLc (xIt oR2 (xCons (xVar 2) (xCons (xBin oAdd (xVar 2) (xCall bLen (xCons (xVar 0) xNil))) xNil))) (gSet 4) (tOf (xBin oGe (xCall (fun ds => if ds.length = 2 then (d_tide_at) ds else none) (xCons (xVar 0) (xCons (xVar 4) xNil))) (xVar 1))) (xVar 4) [4]))
  (sRet (xIf (tTru (xVar 3)) (xBin oIx (xVar 3) (xC (.int 0))) (xC .none))))
def d_next_open : List D → Option D := runD 3 5 g_next_open
theorem ok_next_open {f : Addr} {fd : FuncData} (F : FnP K "next_open" s_next_open f fd) (D_tide_at : Def P w K mg base 1 "tide_at" ["tide", "hour"] (d_tide_at)) (b_len : mg "len" = none) (b_range : mg "range" = none) : FnOk P w K mg base CX0 2 f fd ["tide", "need", "hour"] (spD K 3 d_next_open) := by
  have nd := sc_next_open.nd
  refine fnp_ok (k := 1) (O' := []) F sc_next_open fun cdv A outer s H E hr => ?_
  exact (by exact ss_cons (by exact ss_setLc 3 nd (by exact si_r2 (st := false) b_range (by exact sa_cons (by exact se_var 2) (by exact sa_cons (by exact se_op op_addD (by exact se_var 2) (by exact se_callB (st := false) cb_len b_len (by exact sa_cons (by exact se_var 0) sa_nil))) sa_nil))) (blkOk_by (own := [("one", 4)]) rfl) (fun _ _ _ _ _ => (by exact sg_name 4 nd)) (fun _ _ _ _ _ => (by exact sts_one (by exact st_cmp op_geD (by exact se_callD D_tide_at hr (by exact sa_cons (by exact se_var 0) (by exact sa_cons (by exact se_var 4) sa_nil))) (by exact se_var 1)))) (fun _ _ _ _ _ => (by exact se_var 4))) (by exact ss_last (by exact ss_ret (by exact se_if (by exact st_val (by exact se_varW 3)) (by exact se_ix (by exact se_varW 3) se_int) (by exact SE.toS se_non)))))
/-! ### cross_rows -/
abbrev s_cross_rows : Stmt := topS 13
theorem sc_cross_rows : FnScope ["tide", "sills", "steps", "need", "hour", "found", "place", "sill", "now", "told"] ["tide", "sills", "steps", "need", "hour"] (defScope s_cross_rows) := ⟨rfl, rfl, rfl, by decide +kernel, rfl, by decide +kernel, by decide +kernel⟩
def l1_cross_rows : XS :=
  (sSeq (sSet 8 (xIf (tOf (xBin oEq (xVar 6) (xC (.int 0)))) (xVar 4) (xBin oAdd (xBin oIx (xVar 5) (xUn oNeg (xC (.int 1)))) (xBin oIx (xVar 2) (xBin oSub (xVar 6) (xC (.int 1)))))))
  (sSeq (sSet 9 (xCall (fun ds => if ds.length = 3 then (d_next_open) ds else none) (xCons (xVar 0) (xCons (xBin oAdd (xVar 3) (xVar 7)) (xCons (xVar 8) xNil)))))
  (sSeq (sIf (tOf (xBin oIs (xVar 9) (xC .none))) (sRet (xC .none)) sNop)
  (sSeq (sApp 5 (xVar 9))
  sNop))))
def g_cross_rows : XS :=
  (sSeq (sSet 5 (xLst xNil))
  (sSeq (sFor (xIt oEnum (xCons (xVar 1) xNil)) (gTupD 2 (gsCons (gSet 6) (gsCons (gSet 7) gsNil))) l1_cross_rows)
  (sRet (xCall bTuple (xCons (xVar 5) xNil)))))
def d_cross_rows : List D → Option D := runD 5 10 g_cross_rows
theorem ok_cross_rows {f : Addr} {fd : FuncData} (F : FnP K "cross_rows" s_cross_rows f fd) (D_next_open : Def P w K mg base 2 "next_open" ["tide", "need", "hour"] (d_next_open)) (b_enumerate : mg "enumerate" = none) (b_tuple : mg "tuple" = none) : FnOk P w K mg base CX0 3 f fd ["tide", "sills", "steps", "need", "hour"] (spD K 5 d_cross_rows) := by
  have nd := sc_cross_rows.nd
  refine fnp_ok (k := 2) (O' := []) F sc_cross_rows fun cdv A outer s H E hr => ?_
  exact (by exact ss_cons (by exact ss_setF 5 nd (by exact se_lst sa_nil)) (by exact ss_cons (by exact ss_for (O' := [5]) (by exact si_enum (st := true) b_enumerate (by exact sa_cons (by exact se_var 1) sa_nil)) (by exact sg_tup rfl (by exact sgs_cons (by exact sg_name 6 nd) (by exact sgs_cons (by exact sg_name 7 nd) sgs_nil))) (by exact ss_cons (by exact ss_setS 8 nd (by exact se_if (by exact st_cmp (op_eqP hr) (by exact se_var 6) se_int) (by exact se_var 4) (by exact SE.toS (by exact se_op op_addD (by exact se_ix (by exact se_varW 5) (by exact se_un un_negD se_int)) (by exact se_ix (by exact se_var 2) (by exact se_op op_subD (by exact se_var 6) se_int)))))) (by exact ss_cons (by exact ss_setS 9 nd (by exact se_callD D_next_open hr (by exact sa_cons (by exact se_var 0) (by exact sa_cons (by exact se_op op_addD (by exact se_var 3) (by exact se_var 7)) (by exact sa_cons (by exact se_var 8) sa_nil))))) (by exact ss_cons (by exact ss_if (O' := [5]) (by exact st_cmp op_isD (by exact se_var 9) se_non) (by exact ss_last (by exact ss_ret se_non)) ss_nil) (by exact ss_cons (by exact ss_app 5 (by exact se_var 9)) ss_nil))))) (by exact ss_last (by exact ss_ret (by exact se_callT (st := false) cb_tuple b_tuple (by exact sa_cons (by exact se_varW 5) sa_nil))))))
/-! ### over_at -/
abbrev s_over_at : Stmt := topS 14
theorem sc_over_at : FnScope ["tide", "sills", "steps", "need", "hour", "rows"] ["tide", "sills", "steps", "need", "hour"] (defScope s_over_at) := ⟨rfl, rfl, rfl, by decide +kernel, rfl, by decide +kernel, by decide +kernel⟩
def g_over_at : XS :=
  (sSeq (sSet 5 (xCall (fun ds => if ds.length = 5 then (d_cross_rows) ds else none) (xCons (xVar 0) (xCons (xVar 1) (xCons (xVar 2) (xCons (xVar 3) (xCons (xVar 4) xNil)))))))
  (sSeq (sIf (tOf (xBin oIs (xVar 5) (xC .none))) (sRet (xC .none)) sNop)
  (sRet (xIf (tTru (xVar 5)) (xBin oIx (xVar 5) (xUn oNeg (xC (.int 1)))) (xVar 4)))))
def d_over_at : List D → Option D := runD 5 6 g_over_at
theorem ok_over_at {f : Addr} {fd : FuncData} (F : FnP K "over_at" s_over_at f fd) (D_cross_rows : Def P w K mg base 3 "cross_rows" ["tide", "sills", "steps", "need", "hour"] (d_cross_rows)) : FnOk P w K mg base CX0 4 f fd ["tide", "sills", "steps", "need", "hour"] (spD K 5 d_over_at) := by
  have nd := sc_over_at.nd
  refine fnp_ok (k := 3) (O' := []) F sc_over_at fun cdv A outer s H E hr => ?_
  exact (by exact ss_cons (by exact ss_setS 5 nd (by exact se_callD D_cross_rows hr (by exact sa_cons (by exact se_var 0) (by exact sa_cons (by exact se_var 1) (by exact sa_cons (by exact se_var 2) (by exact sa_cons (by exact se_var 3) (by exact sa_cons (by exact se_var 4) sa_nil))))))) (by exact ss_cons (by exact ss_if (O' := []) (by exact st_cmp op_isD (by exact se_var 5) se_non) (by exact ss_last (by exact ss_ret se_non)) ss_nil) (by exact ss_last (by exact ss_ret (by exact se_if (by exact st_val (by exact se_var 5)) (by exact se_ix (by exact se_var 5) (by exact se_un un_negD se_int)) (by exact se_var 4))))))
/-! ### lightest_need -/
abbrev s_lightest_need : Stmt := topS 15
theorem sc_lightest_need : FnScope ["tide", "sills", "steps", "hour", "by", "bound", "found", "need", "told"] ["tide", "sills", "steps", "hour", "by", "bound"] (defScope s_lightest_need) := ⟨rfl, rfl, rfl, by decide +kernel, rfl, by decide +kernel, by decide +kernel⟩
def l1_lightest_need : XS :=
  (sSeq (sSet 8 (xCall (fun ds => if ds.length = 5 then (d_over_at) ds else none) (xCons (xVar 0) (xCons (xVar 1) (xCons (xVar 2) (xCons (xVar 7) (xCons (xVar 3) xNil)))))))
  (sSeq (sIf (tAndP (tOf (xBin oIsNot (xVar 8) (xC .none))) (tOf (xBin oLe (xVar 8) (xVar 4)))) (sSeq (sApp 6 (xVar 7))
  sNop) sNop)
  sNop))
def g_lightest_need : XS :=
  (sSeq (sSet 6 (xLst xNil))
  (sSeq (sFor (xIt oR1 (xCons (xBin oAdd (xVar 5) (xC (.int 1))) xNil)) (gSet 7) l1_lightest_need)
  (sRet (xCallK bMaxK (xCons (xVar 6) xNil) (xC .none)))))
def d_lightest_need : List D → Option D := runD 6 9 g_lightest_need
theorem ok_lightest_need {f : Addr} {fd : FuncData} (F : FnP K "lightest_need" s_lightest_need f fd) (D_over_at : Def P w K mg base 4 "over_at" ["tide", "sills", "steps", "need", "hour"] (d_over_at)) (b_max : mg "max" = none) (b_range : mg "range" = none) : FnOk P w K mg base CX0 5 f fd ["tide", "sills", "steps", "hour", "by", "bound"] (spD K 6 d_lightest_need) := by
  have nd := sc_lightest_need.nd
  refine fnp_ok (k := 4) (O' := []) F sc_lightest_need fun cdv A outer s H E hr => ?_
  exact (by exact ss_cons (by exact ss_setF 6 nd (by exact se_lst sa_nil)) (by exact ss_cons (by exact ss_for (O' := [6]) (by exact si_r1 (st := false) b_range (by exact sa_cons (by exact se_op op_addD (by exact se_var 5) se_int) sa_nil)) (by exact sg_name 7 nd) (by exact ss_cons (by exact ss_setS 8 nd (by exact se_callD D_over_at hr (by exact sa_cons (by exact se_var 0) (by exact sa_cons (by exact se_var 1) (by exact sa_cons (by exact se_var 2) (by exact sa_cons (by exact se_var 7) (by exact sa_cons (by exact se_var 3) sa_nil))))))) (by exact ss_cons (by exact ss_if (O' := [6]) (by exact SW.st (by exact sw_and (by exact st_cmp op_isNotD (by exact se_var 8) se_non) (by exact sw_and1 (by exact st_cmp op_leD (by exact se_var 8) (by exact se_var 4))))) (by exact ss_cons (by exact ss_app 6 (by exact se_var 7)) ss_nil) ss_nil) ss_nil))) (by exact ss_last (by exact ss_ret (by exact se_callK (st := false) (cb_maxK (hu65 hr)) b_max (by exact sa_cons (by exact se_varW 6) sa_nil) se_non)))))
/-! ### out_hours -/
abbrev s_out_hours : Stmt := topS 17
theorem sc_out_hours : FnScope ["tide", "needs", "order", "hour", "found", "ship", "now", "likely", "one"] ["tide", "needs", "order", "hour"] (defScope s_out_hours) := ⟨rfl, rfl, rfl, by decide +kernel, rfl, by decide +kernel, by decide +kernel⟩
def l1_out_hours : XS :=
  (sSeq (sSet 6 (xIf (tNotP (tTru (xVar 4))) (xVar 3) (xBin oAdd (xBin oIx (xVar 4) (xUn oNeg (xC (.int 1)))) (xC (.int 1)))))
  (sSeq (sSet 7 (xLc (xIt oR2 (xCons (xVar 6) (xCons (xBin oAdd (xVar 6) (xCall bLen (xCons (xVar 0) xNil))) xNil))) (gSet 8) (tOf (xBin oGe (xBin oIx (xVar 0) (xBin oMod (xVar 8) (xCall bLen (xCons (xVar 0) xNil)))) (xBin oIx (xVar 1) (xVar 5)))) (xVar 8) [8]))
  (sSeq (sIf (tNotP (tTru (xVar 7))) (sRet (xC .none)) sNop)
  (sSeq (sApp 4 (xBin oIx (xVar 7) (xC (.int 0))))
  sNop))))
def g_out_hours : XS :=
  (sSeq (sSet 4 (xLst xNil))
  (sSeq (sFor (xSeq (xVar 2)) (gSet 5) l1_out_hours)
  (sRet (xCall bTuple (xCons (xVar 4) xNil)))))
def d_out_hours : List D → Option D := runD 4 9 g_out_hours
theorem ok_out_hours {f : Addr} {fd : FuncData} (F : FnP K "out_hours" s_out_hours f fd) (b_len : mg "len" = none) (b_range : mg "range" = none) (b_tuple : mg "tuple" = none) : FnOk P w K mg base CX0 1 f fd ["tide", "needs", "order", "hour"] (spD K 4 d_out_hours) := by
  have nd := sc_out_hours.nd
  refine fnp_ok (k := 0) (O' := []) F sc_out_hours fun cdv A outer s H E hr => ?_
  exact (by exact ss_cons (by exact ss_setF 4 nd (by exact se_lst sa_nil)) (by exact ss_cons (by exact ss_for (O' := [4]) (by exact si_seq (m := .s) (by exact se_var 2)) (by exact sg_name 5 nd) (by exact ss_cons (by exact ss_setS 6 nd (by exact se_if (by exact st_not (by exact st_val (by exact se_varW 4))) (by exact se_var 3) (by exact SE.toS (by exact se_op op_addD (by exact se_ix (by exact se_varW 4) (by exact se_un un_negD se_int)) se_int)))) (by exact ss_cons (by exact ss_setLc 7 nd (by exact si_r2 (st := false) b_range (by exact sa_cons (by exact se_var 6) (by exact sa_cons (by exact se_op op_addD (by exact se_var 6) (by exact se_callB (st := false) cb_len b_len (by exact sa_cons (by exact se_var 0) sa_nil))) sa_nil))) (blkOk_by (own := [("one", 8)]) rfl) (fun _ _ _ _ _ => (by exact sg_name 8 nd)) (fun _ _ _ _ _ => (by exact sts_one (by exact st_cmp op_geD (by exact se_ix (by exact se_var 0) (by exact se_op op_modD (by exact se_var 8) (by exact se_callB (st := false) cb_len b_len (by exact sa_cons (by exact se_var 0) sa_nil)))) (by exact se_ix (by exact se_var 1) (by exact se_var 5))))) (fun _ _ _ _ _ => (by exact se_var 8))) (by exact ss_cons (by exact ss_if (O' := [7, 4]) (by exact st_not (by exact st_val (by exact se_varW 7))) (by exact ss_last (by exact ss_ret se_non)) ss_nil) (by exact ss_cons (by exact ss_app 4 (by exact se_ix (by exact se_varW 7) se_int)) ss_nil))))) (by exact ss_last (by exact ss_ret (by exact se_callT (st := false) cb_tuple b_tuple (by exact sa_cons (by exact se_varW 4) sa_nil))))))
/-! ### _law_mixed -/
abbrev s__law_mixed : Stmt := topS 19
theorem sc__law_mixed : FnScope ["script", "k", "cell", "first", "second", "third"] ["script", "k"] (defScope s__law_mixed) := ⟨rfl, rfl, rfl, by decide +kernel, rfl, by decide +kernel, by decide +kernel⟩
def g__law_mixed : XS :=
  (sSeq (sSet 2 (xC (.int 0)))
  (sSeq (sIf (tOf (xBin oGt (xCall bLen (xCons (xVar 0) xNil)) (xC (.int 0)))) (sSeq (sSet 2 (xBin oIx (xVar 0) (xBin oMod (xVar 1) (xCall bLen (xCons (xVar 0) xNil)))))
  sNop) sNop)
  (sSeq (sSet 3 (xBin oMod (xCall bInt (xCons (xBin oAdd (xBin oAdd (xBin oMul' (xVar 2) (xC (.int 48271))) (xBin oMul' (xVar 1) (xC (.int 69621)))) (xC (.int 8191))) xNil)) (xC (.int 2147483647))))
  (sSeq (sSet 4 (xBin oMod (xCall bInt (xCons (xBin oAdd (xBin oAdd (xBin oMul' (xVar 3) (xVar 3)) (xBin oFdiv (xVar 3) (xC (.int 7)))) (xBin oMul' (xVar 1) (xC (.int 16807)))) xNil)) (xC (.int 2147483629))))
  (sSeq (sSet 5 (xBin oMod (xCall bInt (xCons (xBin oAdd (xBin oAdd (xBin oMul' (xVar 4) (xVar 4)) (xBin oFdiv (xVar 4) (xC (.int 11)))) (xC (.int 40692))) xNil)) (xC (.int 2147483563))))
  (sRet (xBin oMod (xBin oFdiv (xVar 5) (xC (.int 5))) (xC (.int 1000003)))))))))
def d__law_mixed : List D → Option D := runD 2 6 g__law_mixed
theorem ok__law_mixed {f : Addr} {fd : FuncData} (F : FnP K "_law_mixed" s__law_mixed f fd) (b_int : mg "int" = none) (b_len : mg "len" = none) : FnOk P w K mg base CX0 1 f fd ["script", "k"] (spD K 2 d__law_mixed) := by
  have nd := sc__law_mixed.nd
  refine fnp_ok (k := 0) (O' := []) F sc__law_mixed fun cdv A outer s H E hr => ?_
  exact (by exact ss_cons (by exact ss_setF 2 nd se_int) (by exact ss_cons (by exact ss_if (O' := []) (by exact st_cmp op_gtD (by exact se_callB (st := false) cb_len b_len (by exact sa_cons (by exact se_var 0) sa_nil)) se_int) (by exact ss_cons (by exact ss_setS 2 nd (by exact se_ix (by exact se_var 0) (by exact se_op op_modD (by exact se_var 1) (by exact se_callB (st := false) cb_len b_len (by exact sa_cons (by exact se_var 0) sa_nil))))) ss_nil) ss_nil) (by exact ss_cons (by exact ss_setF 3 nd (by exact se_op op_modD (by exact se_callT (st := false) cb_int b_int (by exact sa_cons (by exact se_op op_addD (by exact se_op op_addD (by exact se_op op_mulD' (by exact se_var 2) se_int) (by exact se_op op_mulD' (by exact se_var 1) se_int)) se_int) sa_nil)) se_int)) (by exact ss_cons (by exact ss_setF 4 nd (by exact se_op op_modD (by exact se_callT (st := false) cb_int b_int (by exact sa_cons (by exact se_op op_addD (by exact se_op op_addD (by exact se_op op_mulD' (by exact se_varW 3) (by exact se_varW 3)) (by exact se_op op_fdivD (by exact se_varW 3) se_int)) (by exact se_op op_mulD' (by exact se_var 1) se_int)) sa_nil)) se_int)) (by exact ss_cons (by exact ss_setF 5 nd (by exact se_op op_modD (by exact se_callT (st := false) cb_int b_int (by exact sa_cons (by exact se_op op_addD (by exact se_op op_addD (by exact se_op op_mulD' (by exact se_varW 4) (by exact se_varW 4)) (by exact se_op op_fdivD (by exact se_varW 4) se_int)) se_int) sa_nil)) se_int)) (by exact ss_last (by exact ss_ret (by exact se_op op_modD (by exact se_op op_fdivD (by exact se_varW 5) se_int) se_int))))))))
/-! ### _law_row -/
abbrev s__law_row : Stmt := topS 20
theorem sc__law_row : FnScope ["script", "many", "big", "row", "k"] ["script", "many"] (defScope s__law_row) := ⟨rfl, rfl, rfl, by decide +kernel, rfl, by decide +kernel, by decide +kernel⟩
def l1__law_row : XS :=
  (sSeq (sIf (tOf (xBin oGt (xVar 2) (xC (.int 0)))) (sSeq (sApp 3 (xBin oMod (xCall bInt (xCons (xVar 2) xNil)) (xC (.int 1000))))
  (sSeq (sSet 2 (xBin oFdiv (xVar 2) (xC (.int 1000))))
  sNop)) (sSeq (sApp 3 (xCall (fun ds => if ds.length = 2 then (d__law_mixed) ds else none) (xCons (xVar 0) (xCons (xVar 4) xNil))))
  sNop))
  sNop)
def g__law_row : XS :=
  (sSeq (sSet 2 (xC (.int 0)))
  (sSeq (sIf (tAndP (tOf (xBin oGt (xCall bLen (xCons (xVar 0) xNil)) (xC (.int 0)))) (tOf (xBin oGe (xBin oIx (xVar 0) (xC (.int 0))) (xBin oPow (xC (.int 10)) (xC (.int 18)))))) (sSeq (sSet 2 (xBin oIx (xVar 0) (xC (.int 0))))
  sNop) sNop)
  (sSeq (sSet 3 (xLst xNil))
  (sSeq (sFor (xIt oR1 (xCons (xVar 1) xNil)) (gSet 4) l1__law_row)
  (sRet (xVar 3))))))
def d__law_row : List D → Option D := runD 2 5 g__law_row
theorem ok__law_row {f : Addr} {fd : FuncData} (F : FnP K "_law_row" s__law_row f fd) (D__law_mixed : Def P w K mg base 1 "_law_mixed" ["script", "k"] (d__law_mixed)) (b_int : mg "int" = none) (b_len : mg "len" = none) (b_range : mg "range" = none) : FnOk P w K mg base CX0 2 f fd ["script", "many"] (spD K 2 d__law_row) := by
  have nd := sc__law_row.nd
  refine fnp_ok (k := 1) (O' := []) F sc__law_row fun cdv A outer s H E hr => ?_
  exact (by exact ss_cons (by exact ss_setF 2 nd se_int) (by exact ss_cons (by exact ss_if (O' := []) (by exact SW.st (by exact sw_and (by exact st_cmp op_gtD (by exact se_callB (st := false) cb_len b_len (by exact sa_cons (by exact se_var 0) sa_nil)) se_int) (by exact sw_and1 (by exact st_cmp op_geD (by exact se_ix (by exact se_var 0) se_int) (by exact se_op op_powD se_int se_int))))) (by exact ss_cons (by exact ss_setS 2 nd (by exact se_ix (by exact se_var 0) se_int)) ss_nil) ss_nil) (by exact ss_cons (by exact ss_setF 3 nd (by exact se_lst sa_nil)) (by exact ss_cons (by exact ss_for (O' := [3]) (by exact si_r1 (st := false) b_range (by exact sa_cons (by exact se_var 1) sa_nil)) (by exact sg_name 4 nd) (by exact ss_cons (by exact ss_if (O' := [3]) (by exact st_cmp op_gtD (by exact se_var 2) se_int) (by exact ss_cons (by exact ss_app 3 (by exact se_op op_modD (by exact se_callT (st := false) cb_int b_int (by exact sa_cons (by exact se_var 2) sa_nil)) se_int)) (by exact ss_cons (by exact ss_setF 2 nd (by exact se_op op_fdivD (by exact se_var 2) se_int)) ss_nil)) (by exact ss_cons (by exact ss_app 3 (by exact se_callD D__law_mixed hr (by exact sa_cons (by exact se_var 0) (by exact sa_cons (by exact se_var 4) sa_nil)))) ss_nil)) ss_nil)) (by exact ss_last (by exact SS.weak (O1 := []) (by exact ss_ret (by exact se_var 3))))))))
/-! ### _law_is_int -/
abbrev s__law_is_int : Stmt := topS 21
theorem sc__law_is_int : FnScope ["value"] ["value"] (defScope s__law_is_int) := ⟨rfl, rfl, rfl, by decide +kernel, rfl, by decide +kernel, by decide +kernel⟩
def g__law_is_int : XS :=
  (sRet (xAnd (xUn (oIsi "int") (xVar 0)) (xUn oNot (xUn (oIsi "bool") (xVar 0)))))
def d__law_is_int : List D → Option D := runD 1 1 g__law_is_int
theorem ok__law_is_int {f : Addr} {fd : FuncData} (F : FnP K "_law_is_int" s__law_is_int f fd) (b_bool : mg "bool" = none) (b_int : mg "int" = none) (b_isinstance : mg "isinstance" = none) : FnOk P w K mg base CX0 1 f fd ["value"] (spD K 1 d__law_is_int) := by
  have nd := sc__law_is_int.nd
  refine fnp_ok (k := 0) (O' := []) F sc__law_is_int fun cdv A outer s H E hr => ?_
  exact (by exact ss_last (by exact ss_ret (by exact se_and (by exact se_isi "int" (by exact se_var 0) b_isinstance b_int) (by exact se_bone (by exact se_not (m := .f) (by exact se_isi "bool" (by exact se_var 0) b_isinstance b_bool))))))
/-! ### _law_like -/
abbrev s__law_like : Stmt := topS 22
theorem sc__law_like : FnScope ["value", "due", "k"] ["value", "due"] (defScope s__law_like) := ⟨rfl, rfl, rfl, by decide +kernel, rfl, by decide +kernel, by decide +kernel⟩
def g__law_like (d__law_like : List D → Option D) : XS :=
  (sSeq (sIf (tOf (xBin oIs (xVar 1) (xC .none))) (sRet (xBin oIs (xVar 0) (xC .none))) sNop)
  (sSeq (sIf (tTru (xUn (oIsi "bool") (xVar 1))) (sRet (xAnd (xUn (oIsi "bool") (xVar 0)) (xBin oEq (xVar 0) (xVar 1)))) sNop)
  (sSeq (sIf (tTru (xUn (oIsi "tuple") (xVar 1))) (sSeq (sIf (tOrP (tNotP (tTru (xUn (oIsi "tuple") (xVar 0)))) (tOf (xBin oNe (xCall bLen (xCons (xVar 0) xNil)) (xCall bLen (xCons (xVar 1) xNil))))) (sRet (xC (.bool false))) sNop)
  (sRet (xCall bAll (xCons (xLc (xIt oR1 (xCons (xCall bLen (xCons (xVar 1) xNil)) xNil)) (gSet 2) tYesP (xCall (fun ds => if ds.length = 2 then d__law_like ds else none) (xCons (xBin oIx (xVar 0) (xVar 2)) (xCons (xBin oIx (xVar 1) (xVar 2)) xNil))) [2]) xNil)))) sNop)
  (sSeq (sIf (tTru (xUn (oIsi "str") (xVar 1))) (sRet (xAnd (xUn (oIsi "str") (xVar 0)) (xBin oEq (xVar 0) (xVar 1)))) sNop)
  (sRet (xAnd (xCall (fun ds => if ds.length = 1 then (d__law_is_int) ds else none) (xCons (xVar 0) xNil)) (xBin oEq (xVar 0) (xVar 1))))))))
def d__law_like : Nat → List D → Option D
  | 0 => fun _ => none
  | n + 1 => runD 2 3 (g__law_like (d__law_like n))
theorem ok__law_like {f : Addr} {fd : FuncData} (F : FnP K "_law_like" s__law_like f fd) (hm : mg "_law_like" = some (.ref f)) (kp : PySem.W.keepIn K (.ref f) = true) (hb : Binds K fd ["value", "due"] []) (D__law_is_int : Def P w K mg base 1 "_law_is_int" ["value"] (d__law_is_int)) (b_all : mg "all" = none) (b_bool : mg "bool" = none) (b_isinstance : mg "isinstance" = none) (b_len : mg "len" = none) (b_range : mg "range" = none) (b_str : mg "str" = none) (b_tuple : mg "tuple" = none) : ∀ n, FnOk P w K mg base CX0 (2 + n) f fd ["value", "due"] (spD K 2 (d__law_like n)) := by
  intro n
  induction n with
  | zero => exact fn_none F sc__law_like
  | succ n ih =>
    have nd := sc__law_like.nd
    have D__law_like : Def P w K mg base (2 + n) "_law_like" ["value", "due"] (d__law_like n) := def_ok ih hm kp hb
    refine fnp_ok (k := 2 + n) (O' := []) F sc__law_like fun cdv A outer s H E hr => ?_
    exact (by exact ss_cons (by exact ss_if (O' := []) (by exact st_cmp op_isD (by exact se_var 1) se_non) (by exact ss_last (by exact ss_ret (by exact se_cmp op_isD (by exact se_var 0) se_non))) ss_nil) (by exact ss_cons (by exact ss_if (O' := []) (by exact st_val (by exact se_isi "bool" (by exact se_var 1) b_isinstance b_bool)) (by exact ss_last (by exact ss_ret (by exact se_and (by exact se_isi "bool" (by exact se_var 0) b_isinstance b_bool) (by exact se_bone (by exact se_cmp (op_eqP hr) (by exact se_var 0) (by exact se_var 1)))))) ss_nil) (by exact ss_cons (by exact ss_if (O' := []) (by exact st_val (by exact se_isi "tuple" (by exact se_var 1) b_isinstance b_tuple)) (by exact ss_cons (by exact ss_if (O' := []) (by exact SW.st (by exact sw_or (by exact st_not (by exact st_val (by exact se_isi "tuple" (by exact se_var 0) b_isinstance b_tuple))) (by exact sw_or1 (by exact st_cmp (op_neP hr) (by exact se_callB (st := false) cb_len b_len (by exact sa_cons (by exact se_var 0) sa_nil)) (by exact se_callB (st := false) cb_len b_len (by exact sa_cons (by exact se_var 1) sa_nil)))))) (by exact ss_last (by exact ss_ret se_bl)) ss_nil) (by exact ss_last (by exact ss_ret (by exact se_callB (st := false) cb_all b_all (by exact sa_cons (by exact se_lc nd (by exact si_r1 (st := false) b_range (by exact sa_cons (by exact se_callB (st := false) cb_len b_len (by exact sa_cons (by exact se_var 1) sa_nil)) sa_nil)) (blkOk_by (own := [("k", 2)]) rfl) (fun _ _ _ _ _ => (by exact sg_name 2 nd)) (fun _ _ _ _ _ => sts_nil) (fun _ _ _ _ _ => (by exact se_callD (hk := by omega) D__law_like hr (by exact sa_cons (by exact se_ix (by exact se_var 0) (by exact se_var 2)) (by exact sa_cons (by exact se_ix (by exact se_var 1) (by exact se_var 2)) sa_nil))))) sa_nil))))) ss_nil) (by exact ss_cons (by exact ss_if (O' := []) (by exact st_val (by exact se_isi "str" (by exact se_var 1) b_isinstance b_str)) (by exact ss_last (by exact ss_ret (by exact se_and (by exact se_isi "str" (by exact se_var 0) b_isinstance b_str) (by exact se_bone (by exact se_cmp (op_eqP hr) (by exact se_var 0) (by exact se_var 1)))))) ss_nil) (by exact ss_last (by exact ss_ret (by exact se_and (by exact se_callD (hk := by omega) D__law_is_int hr (by exact sa_cons (by exact se_var 0) sa_nil)) (by exact se_bone (by exact se_cmp (op_eqP hr) (by exact se_var 0) (by exact se_var 1))))))))))
/-! ### _law_orders -/
abbrev s__law_orders : Stmt := topS 23
theorem sc__law_orders : FnScope ["count", "rows", "turn", "grown", "row", "one"] ["count"] (defScope s__law_orders) := ⟨rfl, rfl, rfl, by decide +kernel, rfl, by decide +kernel, by decide +kernel⟩
def l1__law_orders : XS :=
  (sSeq (sExt 3 (xLc (xIt oR1 (xCons (xVar 0) xNil)) (gSet 5) (tOf (xBin oNotIn (xVar 5) (xVar 4))) (xBin oAdd (xVar 4) (xTup (xCons (xVar 5) xNil))) [5]))
  sNop)
def l2__law_orders : XS :=
  (sSeq (sSet 3 (xLst xNil))
  (sSeq (sFor (xSeq (xVar 1)) (gSet 4) l1__law_orders)
  (sSeq (sSet 1 (xVar 3))
  sNop)))
def g__law_orders : XS :=
  (sSeq (sSet 1 (xLst (xCons (xTup xNil) xNil)))
  (sSeq (sFor (xIt oR1 (xCons (xVar 0) xNil)) (gSet 2) l2__law_orders)
  (sRet (xVar 1))))
def d__law_orders : List D → Option D := runD 1 6 g__law_orders
theorem ok__law_orders {f : Addr} {fd : FuncData} (F : FnP K "_law_orders" s__law_orders f fd) (b_range : mg "range" = none) : FnOk P w K mg base CX0 1 f fd ["count"] (spD K 1 d__law_orders) := by
  have nd := sc__law_orders.nd
  refine fnp_ok (k := 0) (O' := []) F sc__law_orders fun cdv A outer s H E hr => ?_
  exact (by exact ss_cons (by exact ss_setF 1 nd (by exact se_lst (by exact sa_cons (by exact se_tup sa_nil) sa_nil))) (by exact ss_cons (by exact SS.weak (O1 := []) (by exact ss_for (O' := []) (by exact si_r1 (st := false) b_range (by exact sa_cons (by exact se_var 0) sa_nil)) (by exact sg_name 2 nd) (by exact ss_cons (by exact ss_setF 3 nd (by exact se_lst sa_nil)) (by exact ss_cons (by exact ss_for (O' := [3]) (by exact si_seq (m := .s) (by exact se_var 1)) (by exact sg_name 4 nd) (by exact ss_cons (by exact ss_ext 3 (by exact se_lc nd (by exact si_r1 (st := false) b_range (by exact sa_cons (by exact se_var 0) sa_nil)) (blkOk_by (own := [("one", 5)]) rfl) (fun _ _ _ _ _ => (by exact sg_name 5 nd)) (fun _ _ _ _ _ => (by exact sts_one (by exact st_cmp (op_notInP hr) (by exact se_var 5) (by exact se_var 4)))) (fun _ _ _ _ _ => (by exact se_op op_addD (by exact se_var 4) (by exact se_tup (by exact sa_cons (by exact se_var 5) sa_nil)))))) ss_nil)) (by exact ss_cons (by exact SS.weak (O1 := []) (by exact ss_setS 1 nd (by exact se_var 3))) ss_nil))))) (by exact ss_last (by exact ss_ret (by exact se_var 1)))))
/-! ### _law_tuples -/
abbrev s__law_tuples : Stmt := topS 24
theorem sc__law_tuples : FnScope ["count", "most", "rows", "turn", "grown", "one", "k"] ["count", "most"] (defScope s__law_tuples) := ⟨rfl, rfl, rfl, by decide +kernel, rfl, by decide +kernel, by decide +kernel⟩
def l1__law_tuples : XS :=
  (sSeq (sExt 4 (xLc (xIt oR1 (xCons (xVar 1) xNil)) (gSet 6) tYesP (xBin oAdd (xVar 5) (xTup (xCons (xVar 6) xNil))) [6]))
  sNop)
def l2__law_tuples : XS :=
  (sSeq (sSet 4 (xLst xNil))
  (sSeq (sFor (xSeq (xVar 2)) (gSet 5) l1__law_tuples)
  (sSeq (sSet 2 (xVar 4))
  sNop)))
def g__law_tuples : XS :=
  (sSeq (sSet 2 (xLst (xCons (xTup xNil) xNil)))
  (sSeq (sFor (xIt oR1 (xCons (xVar 0) xNil)) (gSet 3) l2__law_tuples)
  (sRet (xVar 2))))
def d__law_tuples : List D → Option D := runD 2 7 g__law_tuples
theorem ok__law_tuples {f : Addr} {fd : FuncData} (F : FnP K "_law_tuples" s__law_tuples f fd) (b_range : mg "range" = none) : FnOk P w K mg base CX0 1 f fd ["count", "most"] (spD K 2 d__law_tuples) := by
  have nd := sc__law_tuples.nd
  refine fnp_ok (k := 0) (O' := []) F sc__law_tuples fun cdv A outer s H E hr => ?_
  exact (by exact ss_cons (by exact ss_setF 2 nd (by exact se_lst (by exact sa_cons (by exact se_tup sa_nil) sa_nil))) (by exact ss_cons (by exact SS.weak (O1 := []) (by exact ss_for (O' := []) (by exact si_r1 (st := false) b_range (by exact sa_cons (by exact se_var 0) sa_nil)) (by exact sg_name 3 nd) (by exact ss_cons (by exact ss_setF 4 nd (by exact se_lst sa_nil)) (by exact ss_cons (by exact ss_for (O' := [4]) (by exact si_seq (m := .s) (by exact se_var 2)) (by exact sg_name 5 nd) (by exact ss_cons (by exact ss_ext 4 (by exact se_lc nd (by exact si_r1 (st := false) b_range (by exact sa_cons (by exact se_var 1) sa_nil)) (blkOk_by (own := [("k", 6)]) rfl) (fun _ _ _ _ _ => (by exact sg_name 6 nd)) (fun _ _ _ _ _ => sts_nil) (fun _ _ _ _ _ => (by exact se_op op_addD (by exact se_var 5) (by exact se_tup (by exact sa_cons (by exact se_var 6) sa_nil)))))) ss_nil)) (by exact ss_cons (by exact SS.weak (O1 := []) (by exact ss_setS 2 nd (by exact se_var 4))) ss_nil))))) (by exact ss_last (by exact ss_ret (by exact se_var 2)))))
/-! ### _law_first -/
abbrev s__law_first : Stmt := topS 25
theorem sc__law_first : FnScope ["tide", "need", "hour", "likely", "one"] ["tide", "need", "hour"] (defScope s__law_first) := ⟨rfl, rfl, rfl, by decide +kernel, rfl, by decide +kernel, by decide +kernel⟩
def g__law_first : XS :=
  (sSeq (sSet 3 (xLc (xIt oR2 (xCons (xVar 2) (xCons (xBin oAdd (xVar 2) (xCall bLen (xCons (xVar 0) xNil))) xNil))) (gSet 4) (tOf (xBin oGe (xBin oIx (xVar 0) (xBin oMod (xCall bInt (xCons (xVar 4) xNil)) (xCall bLen (xCons (xVar 0) xNil)))) (xVar 1))) (xVar 4) [4]))
  (sRet (xBin oIx (xBin oAdd (xVar 3) (xLst (xCons (xC .none) xNil))) (xC (.int 0)))))
def d__law_first : List D → Option D := runD 3 5 g__law_first
theorem ok__law_first {f : Addr} {fd : FuncData} (F : FnP K "_law_first" s__law_first f fd) (b_int : mg "int" = none) (b_len : mg "len" = none) (b_range : mg "range" = none) : FnOk P w K mg base CX0 1 f fd ["tide", "need", "hour"] (spD K 3 d__law_first) := by
  have nd := sc__law_first.nd
  refine fnp_ok (k := 0) (O' := []) F sc__law_first fun cdv A outer s H E hr => ?_
  exact (by exact ss_cons (by exact ss_setLc 3 nd (by exact si_r2 (st := false) b_range (by exact sa_cons (by exact se_var 2) (by exact sa_cons (by exact se_op op_addD (by exact se_var 2) (by exact se_callB (st := false) cb_len b_len (by exact sa_cons (by exact se_var 0) sa_nil))) sa_nil))) (blkOk_by (own := [("one", 4)]) rfl) (fun _ _ _ _ _ => (by exact sg_name 4 nd)) (fun _ _ _ _ _ => (by exact sts_one (by exact st_cmp op_geD (by exact se_ix (by exact se_var 0) (by exact se_op op_modD (by exact se_callT (st := false) cb_int b_int (by exact sa_cons (by exact se_var 4) sa_nil)) (by exact se_callB (st := false) cb_len b_len (by exact sa_cons (by exact se_var 0) sa_nil)))) (by exact se_var 1)))) (fun _ _ _ _ _ => (by exact se_var 4))) (by exact ss_last (by exact ss_ret (by exact se_ix (by exact se_op op_addD (by exact se_varW 3) (by exact se_lst (by exact sa_cons se_non sa_nil))) se_int))))
/-! ### _law_times -/
abbrev s__law_times : Stmt := topS 26
theorem sc__law_times : FnScope ["tide", "ships", "sets", "chosen", "hour", "times", "begin", "end", "need", "work", "k"] ["tide", "ships", "sets"] (defScope s__law_times) := ⟨rfl, rfl, rfl, by decide +kernel, rfl, by decide +kernel, by decide +kernel⟩
def l1__law_times : XS :=
  (sSeq (sPar [8, 9] (xCons (xCall bMaxI (xCons (xLc (xSeq (xVar 3)) (gSet 10) tYesP (xBin oIx (xBin oIx (xVar 1) (xVar 10)) (xC (.int 0))) [10]) xNil)) (xCons (xCall bMaxI (xCons (xLc (xSeq (xVar 3)) (gSet 10) tYesP (xBin oIx (xBin oIx (xVar 1) (xVar 10)) (xC (.int 1))) [10]) xNil)) xNil)))
  (sSeq (sSet 6 (xCall (fun ds => if ds.length = 3 then ((d__law_first) ds).bind fun d => if flat d then some d else none else none) (xCons (xVar 0) (xCons (xVar 8) (xCons (xVar 4) xNil)))))
  (sSeq (sIf (tOf (xBin oIs (xVar 6) (xC .none))) (sRet (xC .none)) sNop)
  (sSeq (sSet 7 (xCall (fun ds => if ds.length = 3 then ((d__law_first) ds).bind fun d => if flat d then some d else none else none) (xCons (xVar 0) (xCons (xVar 8) (xCons (xBin oAdd (xVar 6) (xVar 9)) xNil)))))
  (sSeq (sApp 5 (xTup (xCons (xVar 6) (xCons (xVar 7) xNil))))
  (sSeq (sSet 4 (xBin oAdd (xVar 7) (xC (.int 1))))
  sNop))))))
def g__law_times : XS :=
  (sSeq (sPar [4, 5] (xCons (xC (.int 0)) (xCons (xLst xNil) xNil)))
  (sSeq (sFor (xSeq (xVar 2)) (gSet 3) l1__law_times)
  (sRet (xCall bTuple (xCons (xVar 5) xNil)))))
def d__law_times : List D → Option D := runD 3 11 g__law_times
theorem ok__law_times {f : Addr} {fd : FuncData} (F : FnP K "_law_times" s__law_times f fd) (D__law_first : Def P w K mg base 1 "_law_first" ["tide", "need", "hour"] (d__law_first)) (b_max : mg "max" = none) (b_tuple : mg "tuple" = none) : FnOk P w K mg base CX0 2 f fd ["tide", "ships", "sets"] (spD K 3 d__law_times) := by
  have nd := sc__law_times.nd
  refine fnp_ok (k := 1) (O' := []) F sc__law_times fun cdv A outer s H E hr => ?_
  exact (by exact ss_cons (by exact ss_par 4 5 nd (by exact sam_cons se_int (by exact sam_cons (by exact se_lst sa_nil) sam_nil))) (by exact ss_cons (by exact ss_for (O' := [5, 4]) (by exact si_seq (m := .s) (by exact se_var 2)) (by exact sg_name 3 nd) (by exact ss_cons (by exact ss_par 8 9 nd (by exact sam_cons (by exact se_callB (st := false) cb_maxI b_max (by exact sa_cons (by exact se_lc nd (by exact si_seq (m := .s) (by exact se_var 3)) (blkOk_by (own := [("k", 10)]) rfl) (fun _ _ _ _ _ => (by exact sg_name 10 nd)) (fun _ _ _ _ _ => sts_nil) (fun _ _ _ _ _ => (by exact se_ix (by exact se_ix (by exact se_var 1) (by exact se_var 10)) se_int))) sa_nil)) (by exact sam_cons (by exact se_callB (st := false) cb_maxI b_max (by exact sa_cons (by exact se_lc nd (by exact si_seq (m := .s) (by exact se_var 3)) (blkOk_by (own := [("k", 10)]) rfl) (fun _ _ _ _ _ => (by exact sg_name 10 nd)) (fun _ _ _ _ _ => sts_nil) (fun _ _ _ _ _ => (by exact se_ix (by exact se_ix (by exact se_var 1) (by exact se_var 10)) se_int))) sa_nil)) sam_nil))) (by exact ss_cons (by exact ss_setF 6 nd (by exact se_callWD D__law_first hr (by exact sa_cons (by exact se_var 0) (by exact sa_cons (by exact se_varW 8) (by exact sa_cons (by exact se_varW 4) sa_nil))))) (by exact ss_cons (by exact ss_if (O' := [6, 9, 8, 5, 4]) (by exact st_cmp op_isD (by exact se_varW 6) se_non) (by exact ss_last (by exact ss_ret se_non)) ss_nil) (by exact ss_cons (by exact ss_setF 7 nd (by exact se_callWD D__law_first hr (by exact sa_cons (by exact se_var 0) (by exact sa_cons (by exact se_varW 8) (by exact sa_cons (by exact se_op op_addD (by exact se_varW 6) (by exact se_varW 9)) sa_nil))))) (by exact ss_cons (by exact SS.weak (O1 := [9, 8, 5, 4]) (by exact ss_app 5 (by exact se_tup (by exact sa_cons (by exact se_var 6) (by exact sa_cons (by exact se_var 7) sa_nil))))) (by exact ss_cons (by exact ss_setF 4 nd (by exact se_op op_addD (by exact se_var 7) se_int)) ss_nil))))))) (by exact ss_last (by exact ss_ret (by exact se_callT (st := false) cb_tuple b_tuple (by exact sa_cons (by exact se_varW 5) sa_nil))))))
/-! ### _law_over -/
abbrev s__law_over : Stmt := topS 27
theorem sc__law_over : FnScope ["tide", "sills", "steps", "need", "hour", "k", "now", "hours", "told"] ["tide", "sills", "steps", "need", "hour"] (defScope s__law_over) := ⟨rfl, rfl, rfl, by decide +kernel, rfl, by decide +kernel, by decide +kernel⟩
def l1__law_over : XS :=
  (sSeq (sSet 8 (xCall (fun ds => if ds.length = 3 then (d__law_first) ds else none) (xCons (xVar 0) (xCons (xBin oAdd (xVar 3) (xBin oIx (xVar 1) (xVar 5))) (xCons (xVar 6) xNil)))))
  (sSeq (sIf (tOf (xBin oIs (xVar 8) (xC .none))) (sRet (xC .none)) sNop)
  (sSeq (sApp 7 (xVar 8))
  (sSeq (sSet 6 (xBin oAdd (xVar 8) (xBin oIx (xBin oAdd (xVar 2) (xTup (xCons (xC (.int 0)) xNil))) (xVar 5))))
  sNop))))
def g__law_over : XS :=
  (sSeq (sPar [6, 7] (xCons (xVar 4) (xCons (xLst xNil) xNil)))
  (sSeq (sFor (xIt oR1 (xCons (xCall bLen (xCons (xVar 1) xNil)) xNil)) (gSet 5) l1__law_over)
  (sRet (xCall bTuple (xCons (xVar 7) xNil)))))
def d__law_over : List D → Option D := runD 5 9 g__law_over
theorem ok__law_over {f : Addr} {fd : FuncData} (F : FnP K "_law_over" s__law_over f fd) (D__law_first : Def P w K mg base 1 "_law_first" ["tide", "need", "hour"] (d__law_first)) (b_len : mg "len" = none) (b_range : mg "range" = none) (b_tuple : mg "tuple" = none) : FnOk P w K mg base CX0 2 f fd ["tide", "sills", "steps", "need", "hour"] (spD K 5 d__law_over) := by
  have nd := sc__law_over.nd
  refine fnp_ok (k := 1) (O' := []) F sc__law_over fun cdv A outer s H E hr => ?_
  exact (by exact ss_cons (by exact ss_par 6 7 nd (by exact sam_cons (by exact se_var 4) (by exact sam_cons (by exact se_lst sa_nil) sam_nil))) (by exact ss_cons (by exact ss_for (O' := [7]) (by exact si_r1 (st := false) b_range (by exact sa_cons (by exact se_callB (st := false) cb_len b_len (by exact sa_cons (by exact se_var 1) sa_nil)) sa_nil)) (by exact sg_name 5 nd) (by exact ss_cons (by exact ss_setS 8 nd (by exact se_callD D__law_first hr (by exact sa_cons (by exact se_var 0) (by exact sa_cons (by exact se_op op_addD (by exact se_var 3) (by exact se_ix (by exact se_var 1) (by exact se_var 5))) (by exact sa_cons (by exact se_var 6) sa_nil))))) (by exact ss_cons (by exact ss_if (O' := [7]) (by exact st_cmp op_isD (by exact se_var 8) se_non) (by exact ss_last (by exact ss_ret se_non)) ss_nil) (by exact ss_cons (by exact ss_app 7 (by exact se_var 8)) (by exact ss_cons (by exact ss_setF 6 nd (by exact se_op op_addD (by exact se_var 8) (by exact se_ix (by exact se_op op_addD (by exact se_var 2) (by exact se_tup (by exact sa_cons se_int sa_nil))) (by exact se_var 5)))) ss_nil))))) (by exact ss_last (by exact ss_ret (by exact se_callT (st := false) cb_tuple b_tuple (by exact sa_cons (by exact se_varW 7) sa_nil))))))
/-! ### _law_partings -/
abbrev s__law_partings : Stmt := topS 28
theorem sc__law_partings : FnScope ["n", "rows", "spots", "sets", "place", "k"] ["n"] (defScope s__law_partings) := ⟨rfl, rfl, rfl, by decide +kernel, rfl, by decide +kernel, by decide +kernel⟩
def l1__law_partings : XS :=
  (sSeq (sSet 3 (xLc (xIt oR1 (xCons (xBin oAdd (xCall bMaxI (xCons (xVar 2) xNil)) (xC (.int 1))) xNil)) (gSet 4) tYesP (xCall bTuple (xCons (xLc (xIt oR1 (xCons (xVar 0) xNil)) (gSet 5) (tOf (xBin oEq (xBin oIx (xVar 2) (xVar 5)) (xVar 4))) (xVar 5) [5]) xNil)) [4]))
  (sSeq (sIf (tOf (xBin oNotIn (xTup xNil) (xVar 3))) (sSeq (sApp 1 (xCall bTuple (xCons (xVar 3) xNil)))
  sNop) sNop)
  sNop))
def g__law_partings : XS :=
  (sSeq (sSet 1 (xLst xNil))
  (sSeq (sFor (xSeq (xCall (fun ds => if ds.length = 2 then (d__law_tuples) ds else none) (xCons (xVar 0) (xCons (xVar 0) xNil)))) (gSet 2) l1__law_partings)
  (sRet (xVar 1))))
def d__law_partings : List D → Option D := runD 1 6 g__law_partings
theorem ok__law_partings {f : Addr} {fd : FuncData} (F : FnP K "_law_partings" s__law_partings f fd) (D__law_tuples : Def P w K mg base 1 "_law_tuples" ["count", "most"] (d__law_tuples)) (b_max : mg "max" = none) (b_range : mg "range" = none) (b_tuple : mg "tuple" = none) : FnOk P w K mg base CX0 2 f fd ["n"] (spD K 1 d__law_partings) := by
  have nd := sc__law_partings.nd
  refine fnp_ok (k := 1) (O' := []) F sc__law_partings fun cdv A outer s H E hr => ?_
  exact (by exact ss_cons (by exact ss_setF 1 nd (by exact se_lst sa_nil)) (by exact ss_cons (by exact ss_for (O' := [1]) (by exact si_seq (m := .s) (by exact se_callD D__law_tuples hr (by exact sa_cons (by exact se_var 0) (by exact sa_cons (by exact se_var 0) sa_nil)))) (by exact sg_name 2 nd) (by exact ss_cons (by exact ss_setLc 3 nd (by exact si_r1 (st := false) b_range (by exact sa_cons (by exact se_op op_addD (by exact se_callB (st := false) cb_maxI b_max (by exact sa_cons (by exact se_var 2) sa_nil)) se_int) sa_nil)) (blkOk_by (own := [("place", 4)]) rfl) (fun _ _ _ _ _ => (by exact sg_name 4 nd)) (fun _ _ _ _ _ => sts_nil) (fun _ _ _ _ _ => (by exact se_callT (st := false) cb_tuple b_tuple (by exact sa_cons (by exact se_lc nd (by exact si_r1 (st := false) b_range (by exact sa_cons (by exact se_var 0) sa_nil)) (blkOk_by (own := [("k", 5)]) rfl) (fun _ _ _ _ _ => (by exact sg_name 5 nd)) (fun _ _ _ _ _ => (by exact sts_one (by exact st_cmp (op_eqP hr) (by exact se_ix (by exact se_var 2) (by exact se_var 5)) (by exact se_var 4)))) (fun _ _ _ _ _ => (by exact se_var 5))) sa_nil)))) (by exact ss_cons (by exact ss_if (O' := [3, 1]) (by exact st_cmp (op_notInP hr) (by exact se_tup sa_nil) (by exact se_varW 3)) (by exact ss_cons (by exact ss_app 1 (by exact se_callT (st := false) cb_tuple b_tuple (by exact sa_cons (by exact se_varW 3) sa_nil))) ss_nil) ss_nil) ss_nil))) (by exact ss_last (by exact SS.weak (O1 := []) (by exact ss_ret (by exact se_var 1))))))
/-! ### _law_ends -/
abbrev s__law_ends : Stmt := topS 29
theorem sc__law_ends : FnScope ["tide", "ships", "ways", "keys", "sets", "times"] ["tide", "ships", "ways"] (defScope s__law_ends) := ⟨rfl, rfl, rfl, by decide +kernel, rfl, by decide +kernel, by decide +kernel⟩
def l1__law_ends : XS :=
  (sSeq (sSet 5 (xCall (fun ds => if ds.length = 3 then (d__law_times) ds else none) (xCons (xVar 0) (xCons (xVar 1) (xCons (xVar 4) xNil)))))
  (sSeq (sIf (tOf (xBin oIsNot (xVar 5) (xC .none))) (sSeq (sApp 3 (xTup (xCons (xBin oIx (xBin oIx (xVar 5) (xBin oSub (xCall bLen (xCons (xVar 5) xNil)) (xC (.int 1)))) (xC (.int 1))) (xCons (xVar 4) xNil))))
  sNop) sNop)
  sNop))
def g__law_ends : XS :=
  (sSeq (sSet 3 (xLst xNil))
  (sSeq (sFor (xSeq (xVar 2)) (gSet 4) l1__law_ends)
  (sRet (xCall bSorted (xCons (xVar 3) xNil)))))
def d__law_ends : List D → Option D := runD 3 6 g__law_ends
theorem ok__law_ends {f : Addr} {fd : FuncData} (F : FnP K "_law_ends" s__law_ends f fd) (D__law_times : Def P w K mg base 2 "_law_times" ["tide", "ships", "sets"] (d__law_times)) (b_len : mg "len" = none) (b_sorted : mg "sorted" = none) : FnOk P w K mg base CX0 3 f fd ["tide", "ships", "ways"] (spD K 3 d__law_ends) := by
  have nd := sc__law_ends.nd
  refine fnp_ok (k := 2) (O' := []) F sc__law_ends fun cdv A outer s H E hr => ?_
  exact (by exact ss_cons (by exact ss_setF 3 nd (by exact se_lst sa_nil)) (by exact ss_cons (by exact ss_for (O' := [3]) (by exact si_seq (m := .s) (by exact se_var 2)) (by exact sg_name 4 nd) (by exact ss_cons (by exact ss_setS 5 nd (by exact se_callD D__law_times hr (by exact sa_cons (by exact se_var 0) (by exact sa_cons (by exact se_var 1) (by exact sa_cons (by exact se_var 4) sa_nil))))) (by exact ss_cons (by exact ss_if (O' := [3]) (by exact st_cmp op_isNotD (by exact se_var 5) se_non) (by exact ss_cons (by exact ss_app 3 (by exact se_tup (by exact sa_cons (by exact se_ix (by exact se_ix (by exact se_var 5) (by exact se_op op_subD (by exact se_callB (st := false) cb_len b_len (by exact sa_cons (by exact se_var 5) sa_nil)) se_int)) se_int) (by exact sa_cons (by exact se_var 4) sa_nil)))) ss_nil) ss_nil) ss_nil))) (by exact ss_last (by exact ss_ret (by exact se_callB (st := false) (cb_sorted (hu65 hr)) b_sorted (by exact sa_cons (by exact se_varW 3) sa_nil))))))
/-! ### _law_settings -/
abbrev s__law_settings : Stmt := topS 30
theorem sc__law_settings : FnScope ["tide", "ships", "row", "fit", "sets", "keys", "order", "place", "due", "ways", "most", "times", "end", "told", "sills", "steps", "hours", "low", "need", "lost", "begin", "out", "k", "work", "one"] ["tide", "ships", "row"] (defScope s__law_settings) := ⟨rfl, rfl, rfl, by decide +kernel, rfl, by decide +kernel, by decide +kernel⟩
def l1__law_settings : XS :=
  (sSeq (sSet 19 (xBin oAdd (xVar 19) (xCall bSum (xCons (xLc (xSeq (xBin oIx (xVar 4) (xVar 7))) (gSet 22) tYesP (xBin oSub (xBin oSub (xBin oIx (xBin oIx (xVar 11) (xVar 7)) (xC (.int 1))) (xBin oIx (xBin oIx (xVar 11) (xVar 7)) (xC (.int 0)))) (xBin oIx (xBin oIx (xVar 1) (xVar 22)) (xC (.int 1)))) [22]) xNil))))
  sNop)
def l2__law_settings : XS :=
  (sSeq (sSet 13 (xCall (fun ds => if ds.length = 3 then (d__law_times) ds else none) (xCons (xVar 0) (xCons (xVar 1) (xCons (xCall bTuple (xCons (xLc (xSeq (xVar 6)) (gSet 7) tYesP (xBin oIx (xVar 4) (xVar 7)) [7]) xNil)) xNil)))))
  (sSeq (sIf (tOf (xBin oIsNot (xVar 13) (xC .none))) (sSeq (sApp 5 (xTup (xCons (xBin oIx (xBin oIx (xVar 13) (xBin oSub (xCall bLen (xCons (xVar 13) xNil)) (xC (.int 1)))) (xC (.int 1))) (xCons (xVar 6) xNil))))
  sNop) sNop)
  sNop))
def l3__law_settings : XS :=
  (sSeq (sSet 18 (xCall bMaxI (xCons (xLc (xSeq (xBin oIx (xVar 4) (xVar 7))) (gSet 22) tYesP (xBin oIx (xBin oIx (xVar 1) (xVar 22)) (xC (.int 0))) [22]) xNil)))
  (sSeq (sExt 14 (xLst (xCons (xBin oSub (xVar 18) (xVar 17)) (xCons (xBin oSub (xVar 18) (xVar 17)) xNil))))
  (sSeq (sExt 15 (xLst (xCons (xCall bMaxI (xCons (xLc (xSeq (xBin oIx (xVar 4) (xVar 7))) (gSet 22) tYesP (xBin oIx (xBin oIx (xVar 1) (xVar 22)) (xC (.int 1))) [22]) xNil)) (xCons (xC (.int 1)) xNil))))
  sNop)))
def l4__law_settings : XS :=
  (sSeq (sExt 16 (xLst (xCons (xVar 20) (xCons (xVar 21) xNil))))
  sNop)
def g__law_settings : XS :=
  (sSeq (sPar [9, 10] (xCons (xCall (fun ds => if ds.length = 1 then (d__law_partings) ds else none) (xCons (xCall bLen (xCons (xVar 1) xNil)) xNil)) (xCons (xBin oAdd (xC (.int 1)) (xBin oMod (xCall bInt (xCons (xBin oIx (xVar 2) (xC (.int 20))) xNil)) (xCall bLen (xCons (xVar 1) xNil)))) xNil)))
  (sSeq (sSet 3 (xLc (xSeq (xVar 9)) (gSet 4) (tOf (xBin oLe (xCall bMaxI (xCons (xLc (xSeq (xVar 4)) (gSet 24) tYesP (xCall bLen (xCons (xVar 24) xNil)) [24]) xNil)) (xVar 10))) (xVar 4) [4]))
  (sSeq (sIf (tNotP (tTru (xCall (fun ds => if ds.length = 2 then (d__law_like 8) ds else none) (xCons (xCall (fun ds => if ds.length = 3 then ((d_tide_sets) ds).bind fun d => if flat d then some d else none else none) (xCons (xVar 0) (xCons (xVar 1) (xCons (xVar 10) xNil)))) (xCons (xBin oIx (xBin oAdd (xCall (fun ds => if ds.length = 3 then (d__law_ends) ds else none) (xCons (xVar 0) (xCons (xVar 1) (xCons (xVar 3) xNil)))) (xLst (xCons (xC .none) xNil))) (xC (.int 0))) xNil))))) (sRet (xC (.bool false))) sNop)
  (sSeq (sSet 4 (xBin oIx (xVar 9) (xBin oMod (xCall bInt (xCons (xBin oIx (xVar 2) (xC (.int 21))) xNil)) (xCall bLen (xCons (xVar 9) xNil)))))
  (sSeq (sPar [11, 12] (xCons (xCall (fun ds => if ds.length = 3 then (d__law_times) ds else none) (xCons (xVar 0) (xCons (xVar 1) (xCons (xVar 4) xNil)))) (xCons (xC .none) xNil)))
  (sSeq (sIf (tOf (xBin oIsNot (xVar 11) (xC .none))) (sSeq (sPar [12, 19] (xCons (xBin oIx (xBin oIx (xVar 11) (xBin oSub (xCall bLen (xCons (xVar 11) xNil)) (xC (.int 1)))) (xC (.int 1))) (xCons (xC (.int 0)) xNil)))
  (sSeq (sFor (xIt oR1 (xCons (xCall bLen (xCons (xVar 4) xNil)) xNil)) (gSet 7) l1__law_settings)
  (sSeq (sIf (tNotP (tTru (xCall (fun ds => if ds.length = 2 then ((d__law_like 8) ds).bind fun d => if flat d then some d else none else none) (xCons (xCall (fun ds => if ds.length = 3 then (d_tide_lost) ds else none) (xCons (xVar 0) (xCons (xVar 1) (xCons (xVar 4) xNil)))) (xCons (xVar 19) xNil))))) (sRet (xC (.bool false))) sNop)
  sNop))) sNop)
  (sSeq (sIf (tOrP (tNotP (tTru (xCall (fun ds => if ds.length = 2 then (d__law_like 8) ds else none) (xCons (xCall (fun ds => if ds.length = 3 then (d_tide_times) ds else none) (xCons (xVar 0) (xCons (xVar 1) (xCons (xVar 4) xNil)))) (xCons (xVar 11) xNil))))) (tNotP (tTru (xCall (fun ds => if ds.length = 2 then (d__law_like 8) ds else none) (xCons (xCall (fun ds => if ds.length = 3 then (d_tide_end) ds else none) (xCons (xVar 0) (xCons (xVar 1) (xCons (xVar 4) xNil)))) (xCons (xVar 12) xNil)))))) (sRet (xC (.bool false))) sNop)
  (sSeq (sSet 5 (xLst xNil))
  (sSeq (sFor (xSeq (xCall (fun ds => if ds.length = 1 then (d__law_orders) ds else none) (xCons (xCall bLen (xCons (xVar 4) xNil)) xNil))) (gSet 6) l2__law_settings)
  (sSeq (sIf (tNotP (tTru (xCall (fun ds => if ds.length = 2 then (d__law_like 8) ds else none) (xCons (xCall (fun ds => if ds.length = 3 then (d_tide_order) ds else none) (xCons (xVar 0) (xCons (xVar 1) (xCons (xVar 4) xNil)))) (xCons (xBin oIx (xBin oAdd (xCall bSorted (xCons (xVar 5) xNil)) (xLst (xCons (xC .none) xNil))) (xC (.int 0))) xNil))))) (sRet (xC (.bool false))) sNop)
  (sSeq (sPar [14, 15, 16, 17] (xCons (xLst xNil) (xCons (xLst xNil) (xCons (xLst xNil) (xCons (xCall bMinI (xCons (xLc (xSeq (xVar 1)) (gTupD 2 (gsCons (gSet 18) (gsCons (gSet 23) gsNil))) tYesP (xVar 18) [18, 23]) xNil)) xNil)))))
  (sSeq (sFor (xIt oR1 (xCons (xCall bLen (xCons (xVar 4) xNil)) xNil)) (gSet 7) l3__law_settings)
  (sSeq (sSet 8 (xC .none))
  (sSeq (sIf (tOf (xBin oIsNot (xVar 11) (xC .none))) (sSeq (sFor (xSeq (xVar 11)) (gTupD 2 (gsCons (gSet 20) (gsCons (gSet 21) gsNil))) l4__law_settings)
  (sSeq (sSet 8 (xCall bTuple (xCons (xVar 16) xNil)))
  sNop)) sNop)
  (sRet (xCall (fun ds => if ds.length = 2 then ((d__law_like 8) ds).bind fun d => if flat d then some d else none else none) (xCons (xCall (fun ds => if ds.length = 5 then ((d_cross_rows) ds).bind fun d => if flat d then some d else none else none) (xCons (xVar 0) (xCons (xCall bTuple (xCons (xVar 14) xNil)) (xCons (xCall bTuple (xCons (xSl (xVar 15) oNo (oAt (xBin oSub (xCall bLen (xCons (xVar 15) xNil)) (xC (.int 1))))) xNil)) (xCons (xVar 17) (xCons (xC (.int 0)) xNil)))))) (xCons (xVar 8) xNil))))))))))))))))))
def d__law_settings : List D → Option D := runD 3 25 g__law_settings
theorem ok__law_settings {f : Addr} {fd : FuncData} (F : FnP K "_law_settings" s__law_settings f fd) (D_tide_times : Def P w K mg base 2 "tide_times" ["tide", "ships", "sets"] (d_tide_times)) (D_tide_end : Def P w K mg base 3 "tide_end" ["tide", "ships", "sets"] (d_tide_end)) (D_tide_order : Def P w K mg base 4 "tide_order" ["tide", "ships", "sets"] (d_tide_order)) (D_tide_sets : Def P w K mg base 4 "tide_sets" ["tide", "ships", "most"] (d_tide_sets)) (D_tide_lost : Def P w K mg base 3 "tide_lost" ["tide", "ships", "sets"] (d_tide_lost)) (D_cross_rows : Def P w K mg base 3 "cross_rows" ["tide", "sills", "steps", "need", "hour"] (d_cross_rows)) (D__law_like : Def P w K mg base 10 "_law_like" ["value", "due"] (d__law_like 8)) (D__law_orders : Def P w K mg base 1 "_law_orders" ["count"] (d__law_orders)) (D__law_times : Def P w K mg base 2 "_law_times" ["tide", "ships", "sets"] (d__law_times)) (D__law_partings : Def P w K mg base 2 "_law_partings" ["n"] (d__law_partings)) (D__law_ends : Def P w K mg base 3 "_law_ends" ["tide", "ships", "ways"] (d__law_ends)) (b_int : mg "int" = none) (b_len : mg "len" = none) (b_max : mg "max" = none) (b_min : mg "min" = none) (b_range : mg "range" = none) (b_sorted : mg "sorted" = none) (b_sum : mg "sum" = none) (b_tuple : mg "tuple" = none) : FnOk P w K mg base CX0 11 f fd ["tide", "ships", "row"] (spD K 3 d__law_settings) := by
  have nd := sc__law_settings.nd
  refine fnp_ok (k := 10) (O' := []) F sc__law_settings fun cdv A outer s H E hr => ?_
  exact (by exact ss_cons (by exact ss_parT [9, 10] (by exact sam_cons (by exact se_callD D__law_partings hr (by exact sa_cons (by exact se_callB (st := false) cb_len b_len (by exact sa_cons (by exact se_var 1) sa_nil)) sa_nil)) (by exact sam_cons (by exact se_op op_addD se_int (by exact se_op op_modD (by exact se_callT (st := false) cb_int b_int (by exact sa_cons (by exact se_ix (by exact se_var 2) se_int) sa_nil)) (by exact se_callB (st := false) cb_len b_len (by exact sa_cons (by exact se_var 1) sa_nil)))) sam_nil)) (pgs_cons (pg_name (i := 9) nd rfl (by first | exact .inl rfl | exact .inr rfl)) (pgs_cons (pg_name (i := 10) nd rfl (by first | exact .inl rfl | exact .inr rfl)) pgs_nil))) (by exact ss_cons (by exact ss_setLc 3 nd (by exact si_seq (m := .s) (by exact se_var 9)) (blkOk_by (own := [("sets", 4)]) rfl) (fun _ _ _ _ _ => (by exact sg_name 4 nd)) (fun _ _ _ _ _ => (by exact sts_one (by exact st_cmp op_leD (by exact se_callB (st := false) cb_maxI b_max (by exact sa_cons (by exact se_lc nd (by exact si_seq (m := .s) (by exact se_var 4)) (blkOk_by (own := [("one", 24)]) rfl) (fun _ _ _ _ _ => (by exact sg_name 24 nd)) (fun _ _ _ _ _ => sts_nil) (fun _ _ _ _ _ => (by exact se_callB (st := false) cb_len b_len (by exact sa_cons (by exact se_var 24) sa_nil)))) sa_nil)) (by exact se_varW 10)))) (fun _ _ _ _ _ => (by exact se_var 4))) (by exact ss_cons (by exact SS.weak (O1 := [10]) (by exact ss_if (O' := [10]) (by exact st_not (by exact st_val (by exact se_callD D__law_like hr (by exact sa_cons (by exact se_callWD D_tide_sets hr (by exact sa_cons (by exact se_var 0) (by exact sa_cons (by exact se_var 1) (by exact sa_cons (by exact se_varW 10) sa_nil)))) (by exact sa_cons (by exact se_ix (by exact se_op op_addD (by exact se_callD D__law_ends hr (by exact sa_cons (by exact se_var 0) (by exact sa_cons (by exact se_var 1) (by exact sa_cons (by exact se_var 3) sa_nil)))) (by exact se_lst (by exact sa_cons se_non sa_nil))) se_int) sa_nil))))) (by exact ss_last (by exact ss_ret se_bl)) ss_nil)) (by exact ss_cons (by exact ss_setS 4 nd (by exact se_ix (by exact se_var 9) (by exact se_op op_modD (by exact se_callT (st := false) cb_int b_int (by exact sa_cons (by exact se_ix (by exact se_var 2) se_int) sa_nil)) (by exact se_callB (st := false) cb_len b_len (by exact sa_cons (by exact se_var 9) sa_nil))))) (by exact ss_cons (by exact ss_parT [11, 12] (by exact sam_cons (by exact se_callD D__law_times hr (by exact sa_cons (by exact se_var 0) (by exact sa_cons (by exact se_var 1) (by exact sa_cons (by exact se_var 4) sa_nil)))) (by exact sam_cons se_non sam_nil)) (pgs_cons (pg_name (i := 11) nd rfl (by first | exact .inl rfl | exact .inr rfl)) (pgs_cons (pg_name (i := 12) nd rfl (by first | exact .inl rfl | exact .inr rfl)) pgs_nil))) (by exact ss_cons (by exact ss_if (O' := [10]) (by exact st_cmp op_isNotD (by exact se_var 11) se_non) (by exact ss_cons (by exact ss_par 12 19 nd (by exact sam_cons (by exact se_ix (by exact se_ix (by exact se_var 11) (by exact se_op op_subD (by exact se_callB (st := false) cb_len b_len (by exact sa_cons (by exact se_var 11) sa_nil)) se_int)) se_int) (by exact sam_cons se_int sam_nil))) (by exact ss_cons (by exact ss_for (O' := [19, 10]) (by exact si_r1 (st := false) b_range (by exact sa_cons (by exact se_callB (st := false) cb_len b_len (by exact sa_cons (by exact se_var 4) sa_nil)) sa_nil)) (by exact sg_name 7 nd) (by exact ss_cons (by exact ss_setF 19 nd (by exact se_op op_addD (by exact se_varW 19) (by exact se_callB (st := false) cb_sum b_sum (by exact sa_cons (by exact se_lc nd (by exact si_seq (m := .s) (by exact se_ix (by exact se_var 4) (by exact se_var 7))) (blkOk_by (own := [("k", 22)]) rfl) (fun _ _ _ _ _ => (by exact sg_name 22 nd)) (fun _ _ _ _ _ => sts_nil) (fun _ _ _ _ _ => (by exact se_op op_subD (by exact se_op op_subD (by exact se_ix (by exact se_ix (by exact se_var 11) (by exact se_var 7)) se_int) (by exact se_ix (by exact se_ix (by exact se_var 11) (by exact se_var 7)) se_int)) (by exact se_ix (by exact se_ix (by exact se_var 1) (by exact se_var 22)) se_int)))) sa_nil)))) ss_nil)) (by exact ss_cons (by exact ss_if (O' := [19, 10]) (by exact st_not (by exact st_val (by exact se_callWD D__law_like hr (by exact sa_cons (by exact se_callD D_tide_lost hr (by exact sa_cons (by exact se_var 0) (by exact sa_cons (by exact se_var 1) (by exact sa_cons (by exact se_var 4) sa_nil)))) (by exact sa_cons (by exact se_varW 19) sa_nil))))) (by exact ss_last (by exact ss_ret se_bl)) ss_nil) ss_nil))) ss_nil) (by exact ss_cons (by exact ss_if (O' := [10]) (by exact SW.st (by exact sw_or (by exact st_not (by exact st_val (by exact se_callD D__law_like hr (by exact sa_cons (by exact se_callD D_tide_times hr (by exact sa_cons (by exact se_var 0) (by exact sa_cons (by exact se_var 1) (by exact sa_cons (by exact se_var 4) sa_nil)))) (by exact sa_cons (by exact se_var 11) sa_nil))))) (by exact sw_or1 (by exact st_not (by exact st_val (by exact se_callD D__law_like hr (by exact sa_cons (by exact se_callD D_tide_end hr (by exact sa_cons (by exact se_var 0) (by exact sa_cons (by exact se_var 1) (by exact sa_cons (by exact se_var 4) sa_nil)))) (by exact sa_cons (by exact se_var 12) sa_nil)))))))) (by exact ss_last (by exact ss_ret se_bl)) ss_nil) (by exact ss_cons (by exact ss_setF 5 nd (by exact se_lst sa_nil)) (by exact ss_cons (by exact ss_for (O' := [5, 10]) (by exact si_seq (m := .s) (by exact se_callD D__law_orders hr (by exact sa_cons (by exact se_callB (st := false) cb_len b_len (by exact sa_cons (by exact se_var 4) sa_nil)) sa_nil))) (by exact sg_name 6 nd) (by exact ss_cons (by exact ss_setS 13 nd (by exact se_callD D__law_times hr (by exact sa_cons (by exact se_var 0) (by exact sa_cons (by exact se_var 1) (by exact sa_cons (by exact se_callT (st := false) cb_tuple b_tuple (by exact sa_cons (by exact se_lc nd (by exact si_seq (m := .s) (by exact se_var 6)) (blkOk_by (own := [("place", 7)]) rfl) (fun _ _ _ _ _ => (by exact sg_name 7 nd)) (fun _ _ _ _ _ => sts_nil) (fun _ _ _ _ _ => (by exact se_ix (by exact se_var 4) (by exact se_var 7)))) sa_nil)) sa_nil))))) (by exact ss_cons (by exact ss_if (O' := [5, 10]) (by exact st_cmp op_isNotD (by exact se_var 13) se_non) (by exact ss_cons (by exact ss_app 5 (by exact se_tup (by exact sa_cons (by exact se_ix (by exact se_ix (by exact se_var 13) (by exact se_op op_subD (by exact se_callB (st := false) cb_len b_len (by exact sa_cons (by exact se_var 13) sa_nil)) se_int)) se_int) (by exact sa_cons (by exact se_var 6) sa_nil)))) ss_nil) ss_nil) ss_nil))) (by exact ss_cons (by exact ss_if (O' := [5, 10]) (by exact st_not (by exact st_val (by exact se_callD D__law_like hr (by exact sa_cons (by exact se_callD D_tide_order hr (by exact sa_cons (by exact se_var 0) (by exact sa_cons (by exact se_var 1) (by exact sa_cons (by exact se_var 4) sa_nil)))) (by exact sa_cons (by exact se_ix (by exact se_op op_addD (by exact se_callB (st := false) (cb_sorted (hu65 hr)) b_sorted (by exact sa_cons (by exact se_varW 5) sa_nil)) (by exact se_lst (by exact sa_cons se_non sa_nil))) se_int) sa_nil))))) (by exact ss_last (by exact ss_ret se_bl)) ss_nil) (by exact ss_cons (by exact ss_parT [14, 15, 16, 17] (by exact sam_cons (by exact se_lst sa_nil) (by exact sam_cons (by exact se_lst sa_nil) (by exact sam_cons (by exact se_lst sa_nil) (by exact sam_cons (by exact se_callB (st := false) cb_minI b_min (by exact sa_cons (by exact se_lc nd (by exact si_seq (m := .s) (by exact se_var 1)) (blkOk_by (own := [("need", 18), ("work", 23)]) rfl) (fun _ _ _ _ _ => (by exact sg_tup rfl (by exact sgs_cons (by exact sg_name 18 nd) (by exact sgs_cons (by exact sg_name 23 nd) sgs_nil)))) (fun _ _ _ _ _ => sts_nil) (fun _ _ _ _ _ => (by exact se_var 18))) sa_nil)) sam_nil)))) (pgs_cons (pg_name (i := 14) nd rfl (by first | exact .inl rfl | exact .inr rfl)) (pgs_cons (pg_name (i := 15) nd rfl (by first | exact .inl rfl | exact .inr rfl)) (pgs_cons (pg_name (i := 16) nd rfl (by first | exact .inl rfl | exact .inr rfl)) (pgs_cons (pg_name (i := 17) nd rfl (by first | exact .inl rfl | exact .inr rfl)) pgs_nil))))) (by exact ss_cons (by exact ss_for (O' := [17, 16, 15, 14, 5, 10]) (by exact si_r1 (st := false) b_range (by exact sa_cons (by exact se_callB (st := false) cb_len b_len (by exact sa_cons (by exact se_var 4) sa_nil)) sa_nil)) (by exact sg_name 7 nd) (by exact ss_cons (by exact ss_setF 18 nd (by exact se_callB (st := false) cb_maxI b_max (by exact sa_cons (by exact se_lc nd (by exact si_seq (m := .s) (by exact se_ix (by exact se_var 4) (by exact se_var 7))) (blkOk_by (own := [("k", 22)]) rfl) (fun _ _ _ _ _ => (by exact sg_name 22 nd)) (fun _ _ _ _ _ => sts_nil) (fun _ _ _ _ _ => (by exact se_ix (by exact se_ix (by exact se_var 1) (by exact se_var 22)) se_int))) sa_nil))) (by exact ss_cons (by exact ss_ext 14 (by exact se_lst (by exact sa_cons (by exact se_op op_subD (by exact se_varW 18) (by exact se_varW 17)) (by exact sa_cons (by exact se_op op_subD (by exact se_varW 18) (by exact se_varW 17)) sa_nil)))) (by exact ss_cons (by exact ss_ext 15 (by exact se_lst (by exact sa_cons (by exact se_callB (st := false) cb_maxI b_max (by exact sa_cons (by exact se_lc nd (by exact si_seq (m := .s) (by exact se_ix (by exact se_var 4) (by exact se_var 7))) (blkOk_by (own := [("k", 22)]) rfl) (fun _ _ _ _ _ => (by exact sg_name 22 nd)) (fun _ _ _ _ _ => sts_nil) (fun _ _ _ _ _ => (by exact se_ix (by exact se_ix (by exact se_var 1) (by exact se_var 22)) se_int))) sa_nil)) (by exact sa_cons se_int sa_nil)))) ss_nil)))) (by exact ss_cons (by exact ss_setF 8 nd se_non) (by exact ss_cons (by exact ss_if (O' := [8, 8, 17, 16, 15, 14, 5, 10]) (by exact st_cmp op_isNotD (by exact se_var 11) se_non) (by exact ss_cons (by exact ss_for (O' := [8, 17, 16, 15, 14, 5, 10]) (by exact si_seq (m := .s) (by exact se_var 11)) (by exact sg_tup rfl (by exact sgs_cons (by exact sg_name 20 nd) (by exact sgs_cons (by exact sg_name 21 nd) sgs_nil))) (by exact ss_cons (by exact ss_ext 16 (by exact se_lst (by exact sa_cons (by exact se_var 20) (by exact sa_cons (by exact se_var 21) sa_nil)))) ss_nil)) (by exact ss_cons (by exact ss_setF 8 nd (by exact se_callT (st := false) cb_tuple b_tuple (by exact sa_cons (by exact se_varW 16) sa_nil))) ss_nil)) ss_nil) (by exact ss_last (by exact ss_ret (by exact se_callWD D__law_like hr (by exact sa_cons (by exact se_callWD D_cross_rows hr (by exact sa_cons (by exact se_var 0) (by exact sa_cons (by exact se_callT (st := false) cb_tuple b_tuple (by exact sa_cons (by exact se_varW 14) sa_nil)) (by exact sa_cons (by exact se_callT (st := false) cb_tuple b_tuple (by exact sa_cons (by exact se_sl (by exact se_varW 15) so_none (by exact so_some (by exact se_op op_subD (by exact se_callB (st := false) cb_len b_len (by exact sa_cons (by exact se_varW 15) sa_nil)) se_int))) sa_nil)) (by exact sa_cons (by exact se_varW 17) (by exact sa_cons se_int sa_nil)))))) (by exact sa_cons (by exact se_varW 8) sa_nil)))))))))))))))))))
/-! ### _law_sills -/
abbrev s__law_sills : Stmt := topS 31
theorem sc__law_sills : FnScope ["tide", "row", "sills", "steps", "need", "count", "hour", "bound", "by", "good", "hours", "k"] ["tide", "row"] (defScope s__law_sills) := ⟨rfl, rfl, rfl, by decide +kernel, rfl, by decide +kernel, by decide +kernel⟩
def l1__law_sills : XS :=
  (sSeq (sSet 10 (xCall (fun ds => if ds.length = 5 then ((d__law_over) ds).bind fun d => if flat d then some d else none else none) (xCons (xVar 0) (xCons (xVar 2) (xCons (xVar 3) (xCons (xVar 4) (xCons (xVar 6) xNil)))))))
  (sSeq (sIf (tNotP (tTru (xCall (fun ds => if ds.length = 2 then ((d__law_like 8) ds).bind fun d => if flat d then some d else none else none) (xCons (xCall (fun ds => if ds.length = 5 then ((d_cross_rows) ds).bind fun d => if flat d then some d else none else none) (xCons (xVar 0) (xCons (xVar 2) (xCons (xVar 3) (xCons (xVar 4) (xCons (xVar 6) xNil)))))) (xCons (xVar 10) xNil))))) (sRet (xC (.bool false))) sNop)
  (sSeq (sIf (tAndP (tOf (xBin oIsNot (xVar 10) (xC .none))) (tOf (xBin oLe (xBin oIx (xBin oAdd (xTup (xCons (xVar 6) xNil)) (xVar 10)) (xCall bLen (xCons (xVar 10) xNil))) (xVar 8)))) (sSeq (sApp 9 (xVar 4))
  sNop) sNop)
  sNop)))
def g__law_sills : XS :=
  (sSeq (sPar [5, 6, 7] (xCons (xBin oMod (xCall bInt (xCons (xBin oIx (xVar 1) (xC (.int 22))) xNil)) (xC (.int 4))) (xCons (xBin oMod (xCall bInt (xCons (xBin oIx (xVar 1) (xC (.int 23))) xNil)) (xC (.int 12))) (xCons (xBin oMod (xCall bInt (xCons (xBin oIx (xVar 1) (xC (.int 24))) xNil)) (xC (.int 10))) xNil))))
  (sSeq (sSet 2 (xCall bTuple (xCons (xLc (xIt oR1 (xCons (xVar 5) xNil)) (gSet 11) tYesP (xBin oMod (xCall bInt (xCons (xBin oIx (xVar 1) (xBin oAdd (xC (.int 25)) (xVar 11))) xNil)) (xC (.int 4))) [11]) xNil)))
  (sSeq (sSet 3 (xCall bTuple (xCons (xLc (xIt oR1 (xCons (xCall bMax2 (xCons (xC (.int 0)) (xCons (xBin oSub (xVar 5) (xC (.int 1))) xNil))) xNil)) (gSet 11) tYesP (xBin oMod (xCall bInt (xCons (xBin oIx (xVar 1) (xBin oAdd (xC (.int 28)) (xVar 11))) xNil)) (xC (.int 4))) [11]) xNil)))
  (sSeq (sPar [8, 9] (xCons (xBin oSub (xBin oAdd (xVar 6) (xBin oMod (xCall bInt (xCons (xBin oIx (xVar 1) (xC (.int 31))) xNil)) (xC (.int 14)))) (xC (.int 1))) (xCons (xLst xNil) xNil)))
  (sSeq (sFor (xIt oR1 (xCons (xBin oAdd (xVar 7) (xC (.int 1))) xNil)) (gSet 4) l1__law_sills)
  (sRet (xCall (fun ds => if ds.length = 2 then (d__law_like 8) ds else none) (xCons (xCall (fun ds => if ds.length = 6 then ((d_lightest_need) ds).bind fun d => if flat d then some d else none else none) (xCons (xVar 0) (xCons (xVar 2) (xCons (xVar 3) (xCons (xVar 6) (xCons (xVar 8) (xCons (xVar 7) xNil))))))) (xCons (xBin oIx (xBin oAdd (xLst (xCons (xC .none) xNil)) (xVar 9)) (xCall bLen (xCons (xVar 9) xNil))) xNil)))))))))
def d__law_sills : List D → Option D := runD 2 12 g__law_sills
theorem ok__law_sills {f : Addr} {fd : FuncData} (F : FnP K "_law_sills" s__law_sills f fd) (D_cross_rows : Def P w K mg base 3 "cross_rows" ["tide", "sills", "steps", "need", "hour"] (d_cross_rows)) (D_lightest_need : Def P w K mg base 5 "lightest_need" ["tide", "sills", "steps", "hour", "by", "bound"] (d_lightest_need)) (D__law_like : Def P w K mg base 10 "_law_like" ["value", "due"] (d__law_like 8)) (D__law_over : Def P w K mg base 2 "_law_over" ["tide", "sills", "steps", "need", "hour"] (d__law_over)) (b_int : mg "int" = none) (b_len : mg "len" = none) (b_max : mg "max" = none) (b_range : mg "range" = none) (b_tuple : mg "tuple" = none) : FnOk P w K mg base CX0 11 f fd ["tide", "row"] (spD K 2 d__law_sills) := by
  have nd := sc__law_sills.nd
  refine fnp_ok (k := 10) (O' := []) F sc__law_sills fun cdv A outer s H E hr => ?_
  exact (by exact ss_cons (by exact ss_par3 5 6 7 nd (by exact sam_cons (by exact se_op op_modD (by exact se_callT (st := false) cb_int b_int (by exact sa_cons (by exact se_ix (by exact se_var 1) se_int) sa_nil)) se_int) (by exact sam_cons (by exact se_op op_modD (by exact se_callT (st := false) cb_int b_int (by exact sa_cons (by exact se_ix (by exact se_var 1) se_int) sa_nil)) se_int) (by exact sam_cons (by exact se_op op_modD (by exact se_callT (st := false) cb_int b_int (by exact sa_cons (by exact se_ix (by exact se_var 1) se_int) sa_nil)) se_int) sam_nil)))) (by exact ss_cons (by exact ss_setF 2 nd (by exact se_callT (st := false) cb_tuple b_tuple (by exact sa_cons (by exact se_lc nd (by exact si_r1 (st := false) b_range (by exact sa_cons (by exact se_varW 5) sa_nil)) (blkOk_by (own := [("k", 11)]) rfl) (fun _ _ _ _ _ => (by exact sg_name 11 nd)) (fun _ _ _ _ _ => sts_nil) (fun _ _ _ _ _ => (by exact se_op op_modD (by exact se_callT (st := false) cb_int b_int (by exact sa_cons (by exact se_ix (by exact se_var 1) (by exact se_op op_addD se_int (by exact se_var 11))) sa_nil)) se_int))) sa_nil))) (by exact ss_cons (by exact ss_setF 3 nd (by exact se_callT (st := false) cb_tuple b_tuple (by exact sa_cons (by exact se_lc nd (by exact si_r1 (st := false) b_range (by exact sa_cons (by exact se_callB (st := false) cb_max2 b_max (by exact sa_cons se_int (by exact sa_cons (by exact se_op op_subD (by exact se_varW 5) se_int) sa_nil))) sa_nil)) (blkOk_by (own := [("k", 11)]) rfl) (fun _ _ _ _ _ => (by exact sg_name 11 nd)) (fun _ _ _ _ _ => sts_nil) (fun _ _ _ _ _ => (by exact se_op op_modD (by exact se_callT (st := false) cb_int b_int (by exact sa_cons (by exact se_ix (by exact se_var 1) (by exact se_op op_addD se_int (by exact se_var 11))) sa_nil)) se_int))) sa_nil))) (by exact ss_cons (by exact ss_par 8 9 nd (by exact sam_cons (by exact se_op op_subD (by exact se_op op_addD (by exact se_varW 6) (by exact se_op op_modD (by exact se_callT (st := false) cb_int b_int (by exact sa_cons (by exact se_ix (by exact se_var 1) se_int) sa_nil)) se_int)) se_int) (by exact sam_cons (by exact se_lst sa_nil) sam_nil))) (by exact ss_cons (by exact SS.weak (O1 := [9, 8, 3, 2, 7, 5]) (by exact ss_for (O' := [9, 8, 3, 2, 7, 5]) (by exact si_r1 (st := false) b_range (by exact sa_cons (by exact se_op op_addD (by exact se_varW 7) se_int) sa_nil)) (by exact sg_name 4 nd) (by exact ss_cons (by exact ss_setF 10 nd (by exact se_callWD D__law_over hr (by exact sa_cons (by exact se_var 0) (by exact sa_cons (by exact se_varW 2) (by exact sa_cons (by exact se_varW 3) (by exact sa_cons (by exact se_var 4) (by exact sa_cons (by exact se_var 6) sa_nil))))))) (by exact ss_cons (by exact ss_if (O' := [10, 9, 8, 3, 2, 7, 5]) (by exact st_not (by exact st_val (by exact se_callWD D__law_like hr (by exact sa_cons (by exact se_callWD D_cross_rows hr (by exact sa_cons (by exact se_var 0) (by exact sa_cons (by exact se_varW 2) (by exact sa_cons (by exact se_varW 3) (by exact sa_cons (by exact se_var 4) (by exact sa_cons (by exact se_var 6) sa_nil)))))) (by exact sa_cons (by exact se_varW 10) sa_nil))))) (by exact ss_last (by exact ss_ret se_bl)) ss_nil) (by exact ss_cons (by exact ss_if (O' := [10, 9, 8, 3, 2, 7, 5]) (by exact SW.st (by exact sw_and (by exact st_cmp op_isNotD (by exact se_varW 10) se_non) (by exact sw_and1 (by exact st_cmp op_leD (by exact se_ix (by exact se_op op_addD (by exact se_tup (by exact sa_cons (by exact se_var 6) sa_nil)) (by exact se_varW 10)) (by exact se_callB (st := false) cb_len b_len (by exact sa_cons (by exact se_varW 10) sa_nil))) (by exact se_varW 8))))) (by exact ss_cons (by exact ss_app 9 (by exact se_var 4)) ss_nil) ss_nil) ss_nil))))) (by exact ss_last (by exact ss_ret (by exact se_callD D__law_like hr (by exact sa_cons (by exact se_callWD D_lightest_need hr (by exact sa_cons (by exact se_var 0) (by exact sa_cons (by exact se_varW 2) (by exact sa_cons (by exact se_varW 3) (by exact sa_cons (by exact se_var 6) (by exact sa_cons (by exact se_varW 8) (by exact sa_cons (by exact se_varW 7) sa_nil))))))) (by exact sa_cons (by exact se_ix (by exact se_op op_addD (by exact se_lst (by exact sa_cons se_non sa_nil)) (by exact se_varW 9)) (by exact se_callB (st := false) cb_len b_len (by exact sa_cons (by exact se_varW 9) sa_nil))) sa_nil))))))))))
/-! ### law -/
abbrev s_law : Stmt := topS 32
theorem sc_law : FnScope ["script", "row", "tide", "spoilt", "needs", "ships", "order", "sorted_needs", "hours", "n", "high", "hour", "orders", "k"] ["script"] (defScope s_law) := ⟨rfl, rfl, rfl, by decide +kernel, rfl, by decide +kernel, by decide +kernel⟩
def g_law : XS :=
  (sSeq (sSet 1 (xCall (fun ds => if ds.length = 2 then (d__law_row) ds else none) (xCons (xVar 0) (xCons (xC (.int 40)) xNil))))
  (sSeq (sSet 2 (xCall bTuple (xCons (xLc (xIt oR1 (xCons (xBin oAdd (xC (.int 1)) (xBin oMod (xCall bInt (xCons (xBin oIx (xVar 1) (xC (.int 0))) xNil)) (xC (.int 8)))) xNil)) (gSet 13) tYesP (xBin oMod (xCall bInt (xCons (xBin oIx (xVar 1) (xBin oAdd (xC (.int 1)) (xVar 13))) xNil)) (xC (.int 9))) [13]) xNil)))
  (sSeq (sPar [9, 10] (xCons (xBin oAdd (xC (.int 1)) (xBin oMod (xCall bInt (xCons (xBin oIx (xVar 1) (xC (.int 9))) xNil)) (xC (.int 4)))) (xCons (xCall bMaxI (xCons (xVar 2) xNil)) xNil)))
  (sSeq (sSet 3 (xVar 9))
  (sSeq (sIf (tOf (xBin oEq (xBin oMod (xCall bInt (xCons (xBin oIx (xVar 1) (xC (.int 18))) xNil)) (xC (.int 4))) (xC (.int 0)))) (sSeq (sSet 3 (xBin oMod (xCall bInt (xCons (xBin oIx (xVar 1) (xC (.int 19))) xNil)) (xVar 9)))
  sNop) sNop)
  (sSeq (sSet 4 (xLc (xIt oR1 (xCons (xVar 9) xNil)) (gSet 13) tYesP (xBin oIx (xTup (xCons (xBin oMod (xCall bInt (xCons (xBin oIx (xVar 1) (xBin oAdd (xC (.int 10)) (xVar 13))) xNil)) (xBin oAdd (xVar 10) (xC (.int 1)))) (xCons (xBin oAdd (xVar 10) (xC (.int 1))) xNil))) (xCall bInt (xCons (xBin oEq (xVar 13) (xVar 3)) xNil))) [13]))
  (sSeq (sSet 5 (xCall bTuple (xCons (xLc (xIt oR1 (xCons (xVar 9) xNil)) (gSet 13) tYesP (xTup (xCons (xBin oIx (xVar 4) (xVar 13)) (xCons (xBin oAdd (xC (.int 1)) (xBin oMod (xCall bInt (xCons (xBin oIx (xVar 1) (xBin oAdd (xC (.int 14)) (xVar 13))) xNil)) (xC (.int 5)))) xNil))) [13]) xNil)))
  (sSeq (sIf (tOrP (tNotP (tTru (xCall (fun ds => if ds.length = 3 then ((d__law_settings) ds).bind fun d => if flat d then some d else none else none) (xCons (xVar 2) (xCons (xVar 5) (xCons (xVar 1) xNil)))))) (tNotP (tTru (xCall (fun ds => if ds.length = 2 then ((d__law_sills) ds).bind fun d => if flat d then some d else none else none) (xCons (xVar 2) (xCons (xVar 1) xNil)))))) (sRet (xC (.bool false))) sNop)
  (sSeq (sPar [11, 12] (xCons (xBin oMod (xCall bInt (xCons (xBin oIx (xVar 1) (xC (.int 32))) xNil)) (xC (.int 12))) (xCons (xCall (fun ds => if ds.length = 1 then (d__law_orders) ds else none) (xCons (xVar 9) xNil)) xNil)))
  (sSeq (sSet 6 (xBin oIx (xVar 12) (xBin oMod (xCall bInt (xCons (xBin oIx (xVar 1) (xC (.int 33))) xNil)) (xCall bLen (xCons (xVar 12) xNil)))))
  (sSeq (sSet 7 (xCall bTuple (xCons (xLc (xSeq (xVar 6)) (gSet 13) tYesP (xBin oIx (xVar 4) (xVar 13)) [13]) xNil)))
  (sSeq (sSet 8 (xCall (fun ds => if ds.length = 5 then ((d__law_over) ds).bind fun d => if flat d then some d else none else none) (xCons (xVar 2) (xCons (xVar 7) (xCons (xBin oMul' (xTup (xCons (xC (.int 1)) xNil)) (xBin oSub (xVar 9) (xC (.int 1)))) (xCons (xC (.int 0)) (xCons (xVar 11) xNil)))))))
  (sSeq (sIf (tNotP (tTru (xCall (fun ds => if ds.length = 2 then ((d__law_like 8) ds).bind fun d => if flat d then some d else none else none) (xCons (xCall (fun ds => if ds.length = 4 then ((d_out_hours) ds).bind fun d => if flat d then some d else none else none) (xCons (xVar 2) (xCons (xCall bTuple (xCons (xVar 4) xNil)) (xCons (xVar 6) (xCons (xVar 11) xNil))))) (xCons (xVar 8) xNil))))) (sRet (xC (.bool false))) sNop)
  (sSeq (sIf (tNotP (tTru (xCall (fun ds => if ds.length = 2 then ((d__law_like 8) ds).bind fun d => if flat d then some d else none else none) (xCons (xCall (fun ds => if ds.length = 5 then ((d_cross_rows) ds).bind fun d => if flat d then some d else none else none) (xCons (xVar 2) (xCons (xVar 7) (xCons (xBin oMul' (xTup (xCons (xC (.int 1)) xNil)) (xBin oSub (xVar 9) (xC (.int 1)))) (xCons (xC (.int 0)) (xCons (xVar 11) xNil)))))) (xCons (xVar 8) xNil))))) (sRet (xC (.bool false))) sNop)
  (sRet (xCall (fun ds => if ds.length = 2 then (d__law_like 8) ds else none) (xCons (xCall (fun ds => if ds.length = 3 then ((d_next_open) ds).bind fun d => if flat d then some d else none else none) (xCons (xVar 2) (xCons (xBin oIx (xVar 4) (xC (.int 0))) (xCons (xVar 11) xNil)))) (xCons (xCall (fun ds => if ds.length = 3 then ((d__law_first) ds).bind fun d => if flat d then some d else none else none) (xCons (xVar 2) (xCons (xBin oIx (xVar 4) (xC (.int 0))) (xCons (xVar 11) xNil)))) xNil))))))))))))))))))
def d_law : List D → Option D := runD 1 14 g_law
theorem ok_law {f : Addr} {fd : FuncData} (F : FnP K "law" s_law f fd) (D_next_open : Def P w K mg base 2 "next_open" ["tide", "need", "hour"] (d_next_open)) (D_cross_rows : Def P w K mg base 3 "cross_rows" ["tide", "sills", "steps", "need", "hour"] (d_cross_rows)) (D_out_hours : Def P w K mg base 1 "out_hours" ["tide", "needs", "order", "hour"] (d_out_hours)) (D__law_row : Def P w K mg base 2 "_law_row" ["script", "many"] (d__law_row)) (D__law_like : Def P w K mg base 10 "_law_like" ["value", "due"] (d__law_like 8)) (D__law_orders : Def P w K mg base 1 "_law_orders" ["count"] (d__law_orders)) (D__law_first : Def P w K mg base 1 "_law_first" ["tide", "need", "hour"] (d__law_first)) (D__law_over : Def P w K mg base 2 "_law_over" ["tide", "sills", "steps", "need", "hour"] (d__law_over)) (D__law_settings : Def P w K mg base 11 "_law_settings" ["tide", "ships", "row"] (d__law_settings)) (D__law_sills : Def P w K mg base 11 "_law_sills" ["tide", "row"] (d__law_sills)) (b_int : mg "int" = none) (b_len : mg "len" = none) (b_max : mg "max" = none) (b_range : mg "range" = none) (b_tuple : mg "tuple" = none) : FnOk P w K mg base CX0 12 f fd ["script"] (spD K 1 d_law) := by
  have nd := sc_law.nd
  refine fnp_ok (k := 11) (O' := []) F sc_law fun cdv A outer s H E hr => ?_
  exact (by exact ss_cons (by exact ss_setS 1 nd (by exact se_callD D__law_row hr (by exact sa_cons (by exact se_var 0) (by exact sa_cons se_int sa_nil)))) (by exact ss_cons (by exact ss_setF 2 nd (by exact se_callT (st := false) cb_tuple b_tuple (by exact sa_cons (by exact se_lc nd (by exact si_r1 (st := false) b_range (by exact sa_cons (by exact se_op op_addD se_int (by exact se_op op_modD (by exact se_callT (st := false) cb_int b_int (by exact sa_cons (by exact se_ix (by exact se_var 1) se_int) sa_nil)) se_int)) sa_nil)) (blkOk_by (own := [("k", 13)]) rfl) (fun _ _ _ _ _ => (by exact sg_name 13 nd)) (fun _ _ _ _ _ => sts_nil) (fun _ _ _ _ _ => (by exact se_op op_modD (by exact se_callT (st := false) cb_int b_int (by exact sa_cons (by exact se_ix (by exact se_var 1) (by exact se_op op_addD se_int (by exact se_var 13))) sa_nil)) se_int))) sa_nil))) (by exact ss_cons (by exact ss_parT [9, 10] (by exact sam_cons (by exact se_op op_addD se_int (by exact se_op op_modD (by exact se_callT (st := false) cb_int b_int (by exact sa_cons (by exact se_ix (by exact se_var 1) se_int) sa_nil)) se_int)) (by exact sam_cons (by exact se_callB (st := false) cb_maxI b_max (by exact sa_cons (by exact se_varW 2) sa_nil)) sam_nil)) (pgs_cons (pg_name (i := 9) nd rfl (by first | exact .inl rfl | exact .inr rfl)) (pgs_cons (pg_name (i := 10) nd rfl (by first | exact .inl rfl | exact .inr rfl)) pgs_nil))) (by exact ss_cons (by exact SS.weak (O1 := [10, 2]) (by exact ss_setS 3 nd (by exact se_var 9))) (by exact ss_cons (by exact ss_if (O' := [10, 2]) (by exact st_cmp (op_eqP hr) (by exact se_op op_modD (by exact se_callT (st := false) cb_int b_int (by exact sa_cons (by exact se_ix (by exact se_var 1) se_int) sa_nil)) se_int) se_int) (by exact ss_cons (by exact ss_setF 3 nd (by exact se_op op_modD (by exact se_callT (st := false) cb_int b_int (by exact sa_cons (by exact se_ix (by exact se_var 1) se_int) sa_nil)) (by exact se_var 9))) ss_nil) ss_nil) (by exact ss_cons (by exact ss_setF 4 nd (by exact se_lc nd (by exact si_r1 (st := false) b_range (by exact sa_cons (by exact se_var 9) sa_nil)) (blkOk_by (own := [("k", 13)]) rfl) (fun _ _ _ _ _ => (by exact sg_name 13 nd)) (fun _ _ _ _ _ => sts_nil) (fun _ _ _ _ _ => (by exact se_ix (by exact se_tup (by exact sa_cons (by exact se_op op_modD (by exact se_callT (st := false) cb_int b_int (by exact sa_cons (by exact se_ix (by exact se_var 1) (by exact se_op op_addD se_int (by exact se_var 13))) sa_nil)) (by exact se_op op_addD (by exact se_varW 10) se_int)) (by exact sa_cons (by exact se_op op_addD (by exact se_varW 10) se_int) sa_nil))) (by exact se_callT (st := false) cb_int b_int (by exact sa_cons (by exact se_cmp (op_eqP hr) (by exact se_var 13) (by exact se_var 3)) sa_nil)))))) (by exact ss_cons (by exact ss_setF 5 nd (by exact se_callT (st := false) cb_tuple b_tuple (by exact sa_cons (by exact se_lc nd (by exact si_r1 (st := false) b_range (by exact sa_cons (by exact se_var 9) sa_nil)) (blkOk_by (own := [("k", 13)]) rfl) (fun _ _ _ _ _ => (by exact sg_name 13 nd)) (fun _ _ _ _ _ => sts_nil) (fun _ _ _ _ _ => (by exact se_tup (by exact sa_cons (by exact se_ix (by exact se_varW 4) (by exact se_var 13)) (by exact sa_cons (by exact se_op op_addD se_int (by exact se_op op_modD (by exact se_callT (st := false) cb_int b_int (by exact sa_cons (by exact se_ix (by exact se_var 1) (by exact se_op op_addD se_int (by exact se_var 13))) sa_nil)) se_int)) sa_nil))))) sa_nil))) (by exact ss_cons (by exact ss_if (O' := [5, 4, 10, 2]) (by exact SW.st (by exact sw_or (by exact st_not (by exact st_val (by exact se_callWD D__law_settings hr (by exact sa_cons (by exact se_varW 2) (by exact sa_cons (by exact se_varW 5) (by exact sa_cons (by exact se_var 1) sa_nil)))))) (by exact sw_or1 (by exact st_not (by exact st_val (by exact se_callWD D__law_sills hr (by exact sa_cons (by exact se_varW 2) (by exact sa_cons (by exact se_var 1) sa_nil)))))))) (by exact ss_last (by exact ss_ret se_bl)) ss_nil) (by exact ss_cons (by exact ss_par 11 12 nd (by exact sam_cons (by exact se_op op_modD (by exact se_callT (st := false) cb_int b_int (by exact sa_cons (by exact se_ix (by exact se_var 1) se_int) sa_nil)) se_int) (by exact sam_cons (by exact se_callD D__law_orders hr (by exact sa_cons (by exact se_var 9) sa_nil)) sam_nil))) (by exact ss_cons (by exact ss_setS 6 nd (by exact se_ix (by exact se_var 12) (by exact se_op op_modD (by exact se_callT (st := false) cb_int b_int (by exact sa_cons (by exact se_ix (by exact se_var 1) se_int) sa_nil)) (by exact se_callB (st := false) cb_len b_len (by exact sa_cons (by exact se_var 12) sa_nil))))) (by exact ss_cons (by exact ss_setF 7 nd (by exact se_callT (st := false) cb_tuple b_tuple (by exact sa_cons (by exact se_lc nd (by exact si_seq (m := .s) (by exact se_var 6)) (blkOk_by (own := [("k", 13)]) rfl) (fun _ _ _ _ _ => (by exact sg_name 13 nd)) (fun _ _ _ _ _ => sts_nil) (fun _ _ _ _ _ => (by exact se_ix (by exact se_varW 4) (by exact se_var 13)))) sa_nil))) (by exact ss_cons (by exact ss_setF 8 nd (by exact se_callWD D__law_over hr (by exact sa_cons (by exact se_varW 2) (by exact sa_cons (by exact se_varW 7) (by exact sa_cons (by exact se_op op_mulD' (by exact se_tup (by exact sa_cons se_int sa_nil)) (by exact se_op op_subD (by exact se_var 9) se_int)) (by exact sa_cons se_int (by exact sa_cons (by exact se_varW 11) sa_nil))))))) (by exact ss_cons (by exact ss_if (O' := [8, 7, 11, 5, 4, 10, 2]) (by exact st_not (by exact st_val (by exact se_callWD D__law_like hr (by exact sa_cons (by exact se_callWD D_out_hours hr (by exact sa_cons (by exact se_varW 2) (by exact sa_cons (by exact se_callT (st := false) cb_tuple b_tuple (by exact sa_cons (by exact se_varW 4) sa_nil)) (by exact sa_cons (by exact se_var 6) (by exact sa_cons (by exact se_varW 11) sa_nil))))) (by exact sa_cons (by exact se_varW 8) sa_nil))))) (by exact ss_last (by exact ss_ret se_bl)) ss_nil) (by exact ss_cons (by exact ss_if (O' := [8, 7, 11, 5, 4, 10, 2]) (by exact st_not (by exact st_val (by exact se_callWD D__law_like hr (by exact sa_cons (by exact se_callWD D_cross_rows hr (by exact sa_cons (by exact se_varW 2) (by exact sa_cons (by exact se_varW 7) (by exact sa_cons (by exact se_op op_mulD' (by exact se_tup (by exact sa_cons se_int sa_nil)) (by exact se_op op_subD (by exact se_var 9) se_int)) (by exact sa_cons se_int (by exact sa_cons (by exact se_varW 11) sa_nil)))))) (by exact sa_cons (by exact se_varW 8) sa_nil))))) (by exact ss_last (by exact ss_ret se_bl)) ss_nil) (by exact ss_last (by exact ss_ret (by exact se_callD D__law_like hr (by exact sa_cons (by exact se_callWD D_next_open hr (by exact sa_cons (by exact se_varW 2) (by exact sa_cons (by exact se_ix (by exact se_varW 4) se_int) (by exact sa_cons (by exact se_varW 11) sa_nil)))) (by exact sa_cons (by exact se_callWD D__law_first hr (by exact sa_cons (by exact se_varW 2) (by exact sa_cons (by exact se_ix (by exact se_varW 4) se_int) (by exact sa_cons (by exact se_varW 11) sa_nil)))) sa_nil)))))))))))))))))))
end
/-! ### the head -/
def h_all_orders : He.DefD := ⟨("all_orders", none), "all_orders", "all_orders", defArgs s_all_orders, defBody s_all_orders, defScope s_all_orders, [], []⟩
def h_open_from : He.DefD := ⟨("open_from", none), "open_from", "open_from", defArgs s_open_from, defBody s_open_from, defScope s_open_from, [], []⟩
def h_tide_times : He.DefD := ⟨("tide_times", none), "tide_times", "tide_times", defArgs s_tide_times, defBody s_tide_times, defScope s_tide_times, [], []⟩
def h_tide_end : He.DefD := ⟨("tide_end", none), "tide_end", "tide_end", defArgs s_tide_end, defBody s_tide_end, defScope s_tide_end, [], []⟩
def h_tide_order : He.DefD := ⟨("tide_order", none), "tide_order", "tide_order", defArgs s_tide_order, defBody s_tide_order, defScope s_tide_order, [], []⟩
def h_set_rows : He.DefD := ⟨("set_rows", none), "set_rows", "set_rows", defArgs s_set_rows, defBody s_set_rows, defScope s_set_rows, [], []⟩
def h_tide_sets : He.DefD := ⟨("tide_sets", none), "tide_sets", "tide_sets", defArgs s_tide_sets, defBody s_tide_sets, defScope s_tide_sets, [], []⟩
def h_tide_lost : He.DefD := ⟨("tide_lost", none), "tide_lost", "tide_lost", defArgs s_tide_lost, defBody s_tide_lost, defScope s_tide_lost, [], []⟩
def h_tide_at : He.DefD := ⟨("tide_at", none), "tide_at", "tide_at", defArgs s_tide_at, defBody s_tide_at, defScope s_tide_at, [], []⟩
def h_next_open : He.DefD := ⟨("next_open", none), "next_open", "next_open", defArgs s_next_open, defBody s_next_open, defScope s_next_open, [], []⟩
def h_cross_rows : He.DefD := ⟨("cross_rows", none), "cross_rows", "cross_rows", defArgs s_cross_rows, defBody s_cross_rows, defScope s_cross_rows, [], []⟩
def h_over_at : He.DefD := ⟨("over_at", none), "over_at", "over_at", defArgs s_over_at, defBody s_over_at, defScope s_over_at, [], []⟩
def h_lightest_need : He.DefD := ⟨("lightest_need", none), "lightest_need", "lightest_need", defArgs s_lightest_need, defBody s_lightest_need, defScope s_lightest_need, [], []⟩
def h_out_hours : He.DefD := ⟨("out_hours", none), "out_hours", "out_hours", defArgs s_out_hours, defBody s_out_hours, defScope s_out_hours, [], []⟩
def h__law_mixed : He.DefD := ⟨("_law_mixed", none), "_law_mixed", "_law_mixed", defArgs s__law_mixed, defBody s__law_mixed, defScope s__law_mixed, [], []⟩
def h__law_row : He.DefD := ⟨("_law_row", none), "_law_row", "_law_row", defArgs s__law_row, defBody s__law_row, defScope s__law_row, [], []⟩
def h__law_is_int : He.DefD := ⟨("_law_is_int", none), "_law_is_int", "_law_is_int", defArgs s__law_is_int, defBody s__law_is_int, defScope s__law_is_int, [], []⟩
def h__law_like : He.DefD := ⟨("_law_like", none), "_law_like", "_law_like", defArgs s__law_like, defBody s__law_like, defScope s__law_like, [], []⟩
def h__law_orders : He.DefD := ⟨("_law_orders", none), "_law_orders", "_law_orders", defArgs s__law_orders, defBody s__law_orders, defScope s__law_orders, [], []⟩
def h__law_tuples : He.DefD := ⟨("_law_tuples", none), "_law_tuples", "_law_tuples", defArgs s__law_tuples, defBody s__law_tuples, defScope s__law_tuples, [], []⟩
def h__law_first : He.DefD := ⟨("_law_first", none), "_law_first", "_law_first", defArgs s__law_first, defBody s__law_first, defScope s__law_first, [], []⟩
def h__law_times : He.DefD := ⟨("_law_times", none), "_law_times", "_law_times", defArgs s__law_times, defBody s__law_times, defScope s__law_times, [], []⟩
def h__law_over : He.DefD := ⟨("_law_over", none), "_law_over", "_law_over", defArgs s__law_over, defBody s__law_over, defScope s__law_over, [], []⟩
def h__law_partings : He.DefD := ⟨("_law_partings", none), "_law_partings", "_law_partings", defArgs s__law_partings, defBody s__law_partings, defScope s__law_partings, [], []⟩
def h__law_ends : He.DefD := ⟨("_law_ends", none), "_law_ends", "_law_ends", defArgs s__law_ends, defBody s__law_ends, defScope s__law_ends, [], []⟩
def h__law_settings : He.DefD := ⟨("_law_settings", none), "_law_settings", "_law_settings", defArgs s__law_settings, defBody s__law_settings, defScope s__law_settings, [], []⟩
def h__law_sills : He.DefD := ⟨("_law_sills", none), "_law_sills", "_law_sills", defArgs s__law_sills, defBody s__law_sills, defScope s__law_sills, [], []⟩
def h_law : He.DefD := ⟨("law", none), "law", "law", defArgs s_law, defBody s_law, defScope s_law, [], []⟩
def fn0 : List He.DefD := [h_all_orders, h_open_from, h_tide_times, h_tide_end, h_tide_order, h_set_rows, h_tide_sets, h_tide_lost, h_tide_at, h_next_open, h_cross_rows, h_over_at, h_lightest_need, h_out_hours, h__law_mixed, h__law_row, h__law_is_int, h__law_like, h__law_orders, h__law_tuples, h__law_first, h__law_times, h__law_over, h__law_partings, h__law_ends, h__law_settings, h__law_sills, h_law]
def fn : List He.DefD := fn0
def fa0 : List He.Fa := [.glo "all_orders", .glo "open_from", .glo "tide_times", .glo "tide_end", .glo "tide_order", .glo "set_rows", .glo "tide_sets", .glo "tide_lost", .glo "tide_at", .glo "next_open", .glo "cross_rows", .glo "over_at", .glo "lightest_need", .glo "out_hours", .glo "_law_mixed", .glo "_law_row", .glo "_law_is_int", .glo "_law_like", .glo "_law_orders", .glo "_law_tuples", .glo "_law_first", .glo "_law_times", .glo "_law_over", .glo "_law_partings", .glo "_law_ends", .glo "_law_settings", .glo "_law_sills", .glo "law", .free "all", .free "bool"]
def fa1 : List He.Fa := [.free "enumerate", .free "int", .free "isinstance", .free "len", .free "max", .free "min", .free "range", .free "sorted", .free "str", .free "sum", .free "tuple", .free "zip"]
def fa : List He.Fa := fa0 ++ fa1
def loo0 : List PySem.Str := ["all_orders", "open_from", "tide_times", "tide_end", "tide_order", "set_rows", "tide_sets", "tide_lost", "tide_at", "next_open", "cross_rows", "over_at", "lightest_need", "out_hours", "_law_mixed", "_law_row", "_law_is_int", "_law_like", "_law_orders", "_law_tuples", "_law_first", "_law_times", "_law_over", "_law_partings", "_law_ends", "_law_settings", "_law_sills"]
def loo : List PySem.Str := loo0
abbrev R : PySem.W.OpenRow := PySem.W.OpenLaw.row PySem.Challenge.rw_dockheld_k08_whole_tide_sets
abbrev hk : PySem.W.Hook := He.hookD 4 fa fn
def ob (s : PySem.W.SharedT) : He.AlD := He.obsDG 4 fa fn (HandSHeadRun.getT s)
theorem ob_eq (s : PySem.W.SharedT) : ob s = hk.obs s.abs := He.obsDG_eq (HandSHeadRun.getT_eq s)
theorem run (w : World) : HandSHeadRun.RunEq R (PySem.W.view R.prog [32]) hk ob 20000 loo w := by
  intro os
  kernel_rfl
theorem facts {P : Program} {w : World} {K : PySem.W.Frag} {h : Heap} {mg : Str → Option Value} {f : Addr} (X : K.In h) (G : h.Ns mainGlobals mg) (hfa : mg ("law" : Str) = some (.ref f)) (c : He.SaysD fa fn K) :
    ∃ fd : FuncData, (∀ (s : Shared) (v : Value), BindsTo s fd ⟨[v], []⟩ [("script", v)]) ∧ ∀ base : Heap, K.In base → base.Ns mainGlobals mg → FnOk P w K mg base CX0 12 f fd ["script"] (spD K 1 d_law) := by
  obtain ⟨fd_all_orders, F_all_orders⟩ := c.def_ 0 (d := h_all_orders) rfl
  obtain ⟨fd_open_from, F_open_from⟩ := c.def_ 1 (d := h_open_from) rfl
  obtain ⟨fd_tide_times, F_tide_times⟩ := c.def_ 2 (d := h_tide_times) rfl
  obtain ⟨fd_tide_end, F_tide_end⟩ := c.def_ 3 (d := h_tide_end) rfl
  obtain ⟨fd_tide_order, F_tide_order⟩ := c.def_ 4 (d := h_tide_order) rfl
  obtain ⟨fd_set_rows, F_set_rows⟩ := c.def_ 5 (d := h_set_rows) rfl
  obtain ⟨fd_tide_sets, F_tide_sets⟩ := c.def_ 6 (d := h_tide_sets) rfl
  obtain ⟨fd_tide_lost, F_tide_lost⟩ := c.def_ 7 (d := h_tide_lost) rfl
  obtain ⟨fd_tide_at, F_tide_at⟩ := c.def_ 8 (d := h_tide_at) rfl
  obtain ⟨fd_next_open, F_next_open⟩ := c.def_ 9 (d := h_next_open) rfl
  obtain ⟨fd_cross_rows, F_cross_rows⟩ := c.def_ 10 (d := h_cross_rows) rfl
  obtain ⟨fd_over_at, F_over_at⟩ := c.def_ 11 (d := h_over_at) rfl
  obtain ⟨fd_lightest_need, F_lightest_need⟩ := c.def_ 12 (d := h_lightest_need) rfl
  obtain ⟨fd_out_hours, F_out_hours⟩ := c.def_ 13 (d := h_out_hours) rfl
  obtain ⟨fd__law_mixed, F__law_mixed⟩ := c.def_ 14 (d := h__law_mixed) rfl
  obtain ⟨fd__law_row, F__law_row⟩ := c.def_ 15 (d := h__law_row) rfl
  obtain ⟨fd__law_is_int, F__law_is_int⟩ := c.def_ 16 (d := h__law_is_int) rfl
  obtain ⟨fd__law_like, F__law_like⟩ := c.def_ 17 (d := h__law_like) rfl
  obtain ⟨fd__law_orders, F__law_orders⟩ := c.def_ 18 (d := h__law_orders) rfl
  obtain ⟨fd__law_tuples, F__law_tuples⟩ := c.def_ 19 (d := h__law_tuples) rfl
  obtain ⟨fd__law_first, F__law_first⟩ := c.def_ 20 (d := h__law_first) rfl
  obtain ⟨fd__law_times, F__law_times⟩ := c.def_ 21 (d := h__law_times) rfl
  obtain ⟨fd__law_over, F__law_over⟩ := c.def_ 22 (d := h__law_over) rfl
  obtain ⟨fd__law_partings, F__law_partings⟩ := c.def_ 23 (d := h__law_partings) rfl
  obtain ⟨fd__law_ends, F__law_ends⟩ := c.def_ 24 (d := h__law_ends) rfl
  obtain ⟨fd__law_settings, F__law_settings⟩ := c.def_ 25 (d := h__law_settings) rfl
  obtain ⟨fd__law_sills, F__law_sills⟩ := c.def_ 26 (d := h__law_sills) rfl
  obtain ⟨fd_law, F_law⟩ := c.def_ 27 (d := h_law) rfl
  have e := hfa.symm.trans (He.glo_ok X G (c.fact 27 (f := .glo "law") rfl))
  cases e
  refine ⟨fd_law, fun s v => FunD.bindsA (ps := ["script"]) F_law (fun _ _ _ _ _ _ us hl => match us, hl with | [_], _ => rfl) s [v] rfl, fun base _ _ => ?_⟩
  have b_all : mg "all" = none := He.free_ok X G (c.fact 28 (f := .free "all") rfl)
  have b_bool : mg "bool" = none := He.free_ok X G (c.fact 29 (f := .free "bool") rfl)
  have b_enumerate : mg "enumerate" = none := He.free_ok X G (c.fact 30 (f := .free "enumerate") rfl)
  have b_int : mg "int" = none := He.free_ok X G (c.fact 31 (f := .free "int") rfl)
  have b_isinstance : mg "isinstance" = none := He.free_ok X G (c.fact 32 (f := .free "isinstance") rfl)
  have b_len : mg "len" = none := He.free_ok X G (c.fact 33 (f := .free "len") rfl)
  have b_max : mg "max" = none := He.free_ok X G (c.fact 34 (f := .free "max") rfl)
  have b_min : mg "min" = none := He.free_ok X G (c.fact 35 (f := .free "min") rfl)
  have b_range : mg "range" = none := He.free_ok X G (c.fact 36 (f := .free "range") rfl)
  have b_sorted : mg "sorted" = none := He.free_ok X G (c.fact 37 (f := .free "sorted") rfl)
  have b_str : mg "str" = none := He.free_ok X G (c.fact 38 (f := .free "str") rfl)
  have b_sum : mg "sum" = none := He.free_ok X G (c.fact 39 (f := .free "sum") rfl)
  have b_tuple : mg "tuple" = none := He.free_ok X G (c.fact 40 (f := .free "tuple") rfl)
  have b_zip : mg "zip" = none := He.free_ok X G (c.fact 41 (f := .free "zip") rfl)
  have D_all_orders : Def P w K mg base 1 "all_orders" ["n"] d_all_orders := def_ok (ok_all_orders F_all_orders b_range) (He.glo_ok X G (c.fact 0 (f := .glo "all_orders") rfl)) F_all_orders.kp (F_all_orders.bindsN (ps := ["n"]) fun _ _ _ _ _ _ us hl => match us, hl with | [_], _ => rfl)
  have D_open_from : Def P w K mg base 1 "open_from" ["tide", "need", "hour"] d_open_from := def_ok (ok_open_from F_open_from b_len b_range) (He.glo_ok X G (c.fact 1 (f := .glo "open_from") rfl)) F_open_from.kp (F_open_from.bindsN (ps := ["tide", "need", "hour"]) fun _ _ _ _ _ _ us hl => match us, hl with | [_, _, _], _ => rfl)
  have D_tide_times : Def P w K mg base 2 "tide_times" ["tide", "ships", "sets"] d_tide_times := def_ok (ok_tide_times F_tide_times D_open_from b_max b_tuple) (He.glo_ok X G (c.fact 2 (f := .glo "tide_times") rfl)) F_tide_times.kp (F_tide_times.bindsN (ps := ["tide", "ships", "sets"]) fun _ _ _ _ _ _ us hl => match us, hl with | [_, _, _], _ => rfl)
  have D_tide_end : Def P w K mg base 3 "tide_end" ["tide", "ships", "sets"] d_tide_end := def_ok (ok_tide_end F_tide_end D_tide_times) (He.glo_ok X G (c.fact 3 (f := .glo "tide_end") rfl)) F_tide_end.kp (F_tide_end.bindsN (ps := ["tide", "ships", "sets"]) fun _ _ _ _ _ _ us hl => match us, hl with | [_, _, _], _ => rfl)
  have D_tide_order : Def P w K mg base 4 "tide_order" ["tide", "ships", "sets"] d_tide_order := def_ok (ok_tide_order F_tide_order D_all_orders D_tide_end b_len b_min) (He.glo_ok X G (c.fact 4 (f := .glo "tide_order") rfl)) F_tide_order.kp (F_tide_order.bindsN (ps := ["tide", "ships", "sets"]) fun _ _ _ _ _ _ us hl => match us, hl with | [_, _, _], _ => rfl)
  have D_set_rows : Def P w K mg base 1 "set_rows" ["count", "most"] d_set_rows := def_ok (ok_set_rows F_set_rows b_enumerate b_len b_range) (He.glo_ok X G (c.fact 5 (f := .glo "set_rows") rfl)) F_set_rows.kp (F_set_rows.bindsN (ps := ["count", "most"]) fun _ _ _ _ _ _ us hl => match us, hl with | [_, _], _ => rfl)
  have D_tide_sets : Def P w K mg base 4 "tide_sets" ["tide", "ships", "most"] d_tide_sets := def_ok (ok_tide_sets F_tide_sets D_all_orders D_tide_end D_set_rows b_len b_min b_tuple) (He.glo_ok X G (c.fact 6 (f := .glo "tide_sets") rfl)) F_tide_sets.kp (F_tide_sets.bindsN (ps := ["tide", "ships", "most"]) fun _ _ _ _ _ _ us hl => match us, hl with | [_, _, _], _ => rfl)
  have D_tide_lost : Def P w K mg base 3 "tide_lost" ["tide", "ships", "sets"] d_tide_lost := def_ok (ok_tide_lost F_tide_lost D_tide_times b_sum b_zip) (He.glo_ok X G (c.fact 7 (f := .glo "tide_lost") rfl)) F_tide_lost.kp (F_tide_lost.bindsN (ps := ["tide", "ships", "sets"]) fun _ _ _ _ _ _ us hl => match us, hl with | [_, _, _], _ => rfl)
  have D_tide_at : Def P w K mg base 1 "tide_at" ["tide", "hour"] d_tide_at := def_ok (ok_tide_at F_tide_at b_len) (He.glo_ok X G (c.fact 8 (f := .glo "tide_at") rfl)) F_tide_at.kp (F_tide_at.bindsN (ps := ["tide", "hour"]) fun _ _ _ _ _ _ us hl => match us, hl with | [_, _], _ => rfl)
  have D_next_open : Def P w K mg base 2 "next_open" ["tide", "need", "hour"] d_next_open := def_ok (ok_next_open F_next_open D_tide_at b_len b_range) (He.glo_ok X G (c.fact 9 (f := .glo "next_open") rfl)) F_next_open.kp (F_next_open.bindsN (ps := ["tide", "need", "hour"]) fun _ _ _ _ _ _ us hl => match us, hl with | [_, _, _], _ => rfl)
  have D_cross_rows : Def P w K mg base 3 "cross_rows" ["tide", "sills", "steps", "need", "hour"] d_cross_rows := def_ok (ok_cross_rows F_cross_rows D_next_open b_enumerate b_tuple) (He.glo_ok X G (c.fact 10 (f := .glo "cross_rows") rfl)) F_cross_rows.kp (F_cross_rows.bindsN (ps := ["tide", "sills", "steps", "need", "hour"]) fun _ _ _ _ _ _ us hl => match us, hl with | [_, _, _, _, _], _ => rfl)
  have D_over_at : Def P w K mg base 4 "over_at" ["tide", "sills", "steps", "need", "hour"] d_over_at := def_ok (ok_over_at F_over_at D_cross_rows) (He.glo_ok X G (c.fact 11 (f := .glo "over_at") rfl)) F_over_at.kp (F_over_at.bindsN (ps := ["tide", "sills", "steps", "need", "hour"]) fun _ _ _ _ _ _ us hl => match us, hl with | [_, _, _, _, _], _ => rfl)
  have D_lightest_need : Def P w K mg base 5 "lightest_need" ["tide", "sills", "steps", "hour", "by", "bound"] d_lightest_need := def_ok (ok_lightest_need F_lightest_need D_over_at b_max b_range) (He.glo_ok X G (c.fact 12 (f := .glo "lightest_need") rfl)) F_lightest_need.kp (F_lightest_need.bindsN (ps := ["tide", "sills", "steps", "hour", "by", "bound"]) fun _ _ _ _ _ _ us hl => match us, hl with | [_, _, _, _, _, _], _ => rfl)
  have D_out_hours : Def P w K mg base 1 "out_hours" ["tide", "needs", "order", "hour"] d_out_hours := def_ok (ok_out_hours F_out_hours b_len b_range b_tuple) (He.glo_ok X G (c.fact 13 (f := .glo "out_hours") rfl)) F_out_hours.kp (F_out_hours.bindsN (ps := ["tide", "needs", "order", "hour"]) fun _ _ _ _ _ _ us hl => match us, hl with | [_, _, _, _], _ => rfl)
  have D__law_mixed : Def P w K mg base 1 "_law_mixed" ["script", "k"] d__law_mixed := def_ok (ok__law_mixed F__law_mixed b_int b_len) (He.glo_ok X G (c.fact 14 (f := .glo "_law_mixed") rfl)) F__law_mixed.kp (F__law_mixed.bindsN (ps := ["script", "k"]) fun _ _ _ _ _ _ us hl => match us, hl with | [_, _], _ => rfl)
  have D__law_row : Def P w K mg base 2 "_law_row" ["script", "many"] d__law_row := def_ok (ok__law_row F__law_row D__law_mixed b_int b_len b_range) (He.glo_ok X G (c.fact 15 (f := .glo "_law_row") rfl)) F__law_row.kp (F__law_row.bindsN (ps := ["script", "many"]) fun _ _ _ _ _ _ us hl => match us, hl with | [_, _], _ => rfl)
  have D__law_is_int : Def P w K mg base 1 "_law_is_int" ["value"] d__law_is_int := def_ok (ok__law_is_int F__law_is_int b_bool b_int b_isinstance) (He.glo_ok X G (c.fact 16 (f := .glo "_law_is_int") rfl)) F__law_is_int.kp (F__law_is_int.bindsN (ps := ["value"]) fun _ _ _ _ _ _ us hl => match us, hl with | [_], _ => rfl)
  have D__law_like : Def P w K mg base 10 "_law_like" ["value", "due"] (d__law_like 8) := def_ok (ok__law_like F__law_like (He.glo_ok X G (c.fact 17 (f := .glo "_law_like") rfl)) F__law_like.kp (F__law_like.bindsN (ps := ["value", "due"]) fun _ _ _ _ _ _ us hl => match us, hl with | [_, _], _ => rfl) D__law_is_int b_all b_bool b_isinstance b_len b_range b_str b_tuple 8) (He.glo_ok X G (c.fact 17 (f := .glo "_law_like") rfl)) F__law_like.kp (F__law_like.bindsN (ps := ["value", "due"]) fun _ _ _ _ _ _ us hl => match us, hl with | [_, _], _ => rfl)
  have D__law_orders : Def P w K mg base 1 "_law_orders" ["count"] d__law_orders := def_ok (ok__law_orders F__law_orders b_range) (He.glo_ok X G (c.fact 18 (f := .glo "_law_orders") rfl)) F__law_orders.kp (F__law_orders.bindsN (ps := ["count"]) fun _ _ _ _ _ _ us hl => match us, hl with | [_], _ => rfl)
  have D__law_tuples : Def P w K mg base 1 "_law_tuples" ["count", "most"] d__law_tuples := def_ok (ok__law_tuples F__law_tuples b_range) (He.glo_ok X G (c.fact 19 (f := .glo "_law_tuples") rfl)) F__law_tuples.kp (F__law_tuples.bindsN (ps := ["count", "most"]) fun _ _ _ _ _ _ us hl => match us, hl with | [_, _], _ => rfl)
  have D__law_first : Def P w K mg base 1 "_law_first" ["tide", "need", "hour"] d__law_first := def_ok (ok__law_first F__law_first b_int b_len b_range) (He.glo_ok X G (c.fact 20 (f := .glo "_law_first") rfl)) F__law_first.kp (F__law_first.bindsN (ps := ["tide", "need", "hour"]) fun _ _ _ _ _ _ us hl => match us, hl with | [_, _, _], _ => rfl)
  have D__law_times : Def P w K mg base 2 "_law_times" ["tide", "ships", "sets"] d__law_times := def_ok (ok__law_times F__law_times D__law_first b_max b_tuple) (He.glo_ok X G (c.fact 21 (f := .glo "_law_times") rfl)) F__law_times.kp (F__law_times.bindsN (ps := ["tide", "ships", "sets"]) fun _ _ _ _ _ _ us hl => match us, hl with | [_, _, _], _ => rfl)
  have D__law_over : Def P w K mg base 2 "_law_over" ["tide", "sills", "steps", "need", "hour"] d__law_over := def_ok (ok__law_over F__law_over D__law_first b_len b_range b_tuple) (He.glo_ok X G (c.fact 22 (f := .glo "_law_over") rfl)) F__law_over.kp (F__law_over.bindsN (ps := ["tide", "sills", "steps", "need", "hour"]) fun _ _ _ _ _ _ us hl => match us, hl with | [_, _, _, _, _], _ => rfl)
  have D__law_partings : Def P w K mg base 2 "_law_partings" ["n"] d__law_partings := def_ok (ok__law_partings F__law_partings D__law_tuples b_max b_range b_tuple) (He.glo_ok X G (c.fact 23 (f := .glo "_law_partings") rfl)) F__law_partings.kp (F__law_partings.bindsN (ps := ["n"]) fun _ _ _ _ _ _ us hl => match us, hl with | [_], _ => rfl)
  have D__law_ends : Def P w K mg base 3 "_law_ends" ["tide", "ships", "ways"] d__law_ends := def_ok (ok__law_ends F__law_ends D__law_times b_len b_sorted) (He.glo_ok X G (c.fact 24 (f := .glo "_law_ends") rfl)) F__law_ends.kp (F__law_ends.bindsN (ps := ["tide", "ships", "ways"]) fun _ _ _ _ _ _ us hl => match us, hl with | [_, _, _], _ => rfl)
  have D__law_settings : Def P w K mg base 11 "_law_settings" ["tide", "ships", "row"] d__law_settings := def_ok (ok__law_settings F__law_settings D_tide_times D_tide_end D_tide_order D_tide_sets D_tide_lost D_cross_rows D__law_like D__law_orders D__law_times D__law_partings D__law_ends b_int b_len b_max b_min b_range b_sorted b_sum b_tuple) (He.glo_ok X G (c.fact 25 (f := .glo "_law_settings") rfl)) F__law_settings.kp (F__law_settings.bindsN (ps := ["tide", "ships", "row"]) fun _ _ _ _ _ _ us hl => match us, hl with | [_, _, _], _ => rfl)
  have D__law_sills : Def P w K mg base 11 "_law_sills" ["tide", "row"] d__law_sills := def_ok (ok__law_sills F__law_sills D_cross_rows D_lightest_need D__law_like D__law_over b_int b_len b_max b_range b_tuple) (He.glo_ok X G (c.fact 26 (f := .glo "_law_sills") rfl)) F__law_sills.kp (F__law_sills.bindsN (ps := ["tide", "row"]) fun _ _ _ _ _ _ us hl => match us, hl with | [_, _], _ => rfl)
  exact ok_law F_law D_next_open D_cross_rows D_out_hours D__law_row D__law_like D__law_orders D__law_first D__law_over D__law_settings D__law_sills b_int b_len b_max b_range b_tuple
/-- THE LAW from its plain function -/
theorem holds_of (hF : ∀ ns : List Int, ns.length ≤ 63 → d_law [scr (ns.map PyData.int)] = some (.bool true)) : PySem.Challenge.rw_dockheld_k08_whole_tide_sets.Holds := by
  w_on; o_law
  refine HandSHeadRun.head_any (r := PySem.W.OpenLaw.row PySem.Challenge.rw_dockheld_k08_whole_tide_sets) (q := PySem.W.view (PySem.W.OpenLaw.row PySem.Challenge.rw_dockheld_k08_whole_tide_sets).prog [32]) (H := hk) (ob := ob) (M := 20000) (loose := loo) (d := HandSHeadRun.topDef (PySem.W.OpenLaw.row PySem.Challenge.rw_dockheld_k08_whole_tide_sets).prog 32) (kwd := []) ob_eq
    (by kernel_rfl) (fun s => by kernel_rfl) run (by kernel_rfl) (by kernel_rfl) (by kernel_rfl) (by rfl) (by first | assumption | decide +kernel) (by decide +kernel) ⟨rfl, rfl, rfl, rfl, rfl, by decide +kernel⟩ ?hw ?hc
  case hw => w_witness2
  case hc =>
    refine L2.walk_ofE (l := PySem.Challenge.rw_dockheld_k08_whole_tide_sets) (n := 63) (k := 12) (x := "script") (CX := L2.CX0) rfl (by decide) (by kernel_rfl) ⟨rfl, by decide, by decide⟩ ?F (fun _ _ _ _ z => z)
    intro w mg fa h Y G hmg0
    obtain ⟨K, KX, c⟩ := Y
    have hmg : mg ("law" : PySem.Str) = some (.ref fa) := by
      have e : (HandSHeadRun.topDef (PySem.W.OpenLaw.row PySem.Challenge.rw_dockheld_k08_whole_tide_sets).prog 32).name = ("law" : PySem.Str) := by kernel_rfl
      rw [← e]
      exact hmg0
    obtain ⟨fd, hb, hF2⟩ := facts (P := (PySem.Challenge.rw_dockheld_k08_whole_tide_sets).prog) (w := w) KX G hmg c
    exact ⟨K, fd, spD K 1 d_law, KX, hb, sp_law hF, hF2⟩
end K08

namespace K08
open PySem PySem.Spec PyProof.Rows L2 Pm
theorem eq_int (i j : Int) : oEq (.int i) (.int j) = some (.bool (decide (i = j))) := by
  simp [oEq, shp, SeqAt.shaped, PyData.eqv, PyData.canLay0, PyData.depth]
  rfl
theorem ne_int (i j : Int) : oNe (.int i) (.int j) = some (.bool (!decide (i = j))) := by
  simp [oNe, shp, SeqAt.shaped, PyData.eqv, PyData.canLay0, PyData.depth]
  rfl
theorem k_isi1 : kitB "int" "bool" = some false := by kernel_rfl
theorem isi1 (i : Int) : oIsi "bool" (.int i) = some (.bool false) := by
  show (kitB "int" "bool").map PyData.bool = _
  rw [k_isi1]
  rfl
theorem k_isi2 : kitB "int" "tuple" = some false := by kernel_rfl
theorem isi2 (i : Int) : oIsi "tuple" (.int i) = some (.bool false) := by
  show (kitB "int" "tuple").map PyData.bool = _
  rw [k_isi2]
  rfl
theorem k_isi3 : kitB "int" "str" = some false := by kernel_rfl
theorem isi3 (i : Int) : oIsi "str" (.int i) = some (.bool false) := by
  show (kitB "int" "str").map PyData.bool = _
  rw [k_isi3]
  rfl
theorem k_isi0 : kitB "int" "int" = some true := by kernel_rfl
theorem isi0 (i : Int) : oIsi "int" (.int i) = some (.bool true) := by
  show (kitB "int" "int").map PyData.bool = _
  rw [k_isi0]
  rfl
theorem k_isb1 : kitB "bool" "bool" = some true := by kernel_rfl
theorem isb1 (i : Bool) : oIsi "bool" (.bool i) = some (.bool true) := by
  show (kitB "bool" "bool").map PyData.bool = _
  rw [k_isb1]
  rfl
theorem k_ist1 : kitB "tuple" "bool" = some false := by kernel_rfl
theorem ist1 (i : List D) : oIsi "bool" (.tuple i) = some (.bool false) := by
  show (kitB "tuple" "bool").map PyData.bool = _
  rw [k_ist1]
  rfl
theorem k_ist2 : kitB "tuple" "tuple" = some true := by kernel_rfl
theorem ist2 (i : List D) : oIsi "tuple" (.tuple i) = some (.bool true) := by
  show (kitB "tuple" "tuple").map PyData.bool = _
  rw [k_ist2]
  rfl
theorem asBools_rep (n : Nat) : asBools (List.replicate n (PyData.bool true)) = some (List.replicate n true) := by
  have := asBools_map (List.replicate n true)
  rwa [List.map_replicate] at this
theorem asBools_rng (n : Nat) : asBools ((List.range n).map fun _ => PyData.bool true) = some (List.replicate n true) := by
  rw [List.map_const', List.length_range, asBools_rep]
theorem is_int_int (i : Int) : d__law_is_int [.int i] = some (.bool true) := by
  simp [d__law_is_int, runD, g__law_is_int, sRet, xAnd, xUn, xVar, isi0, isi1, dB, oNot, oTru]
theorem like_none (n : Nat) : d__law_like (n + 1) [.none, .none] = some (.bool true) := by
  simp [d__law_like, runD, g__law_like, sSeq, sIf, tOf, xBin, xVar, xC, oIs, isNone, dB, sRet]
theorem like_bool (n : Nat) (b : Bool) : d__law_like (n + 1) [.bool b, .bool b] = some (.bool true) := by
  have e : oEq (.bool b) (.bool b) = some (.bool true) := by
    simp [oEq, shp, SeqAt.shaped, PyData.eqv, PyData.canLay0, PyData.depth]
  simp [d__law_like, runD, g__law_like, sSeq, sIf, tOf, xBin, xVar, xC, oIs, isNone, dB, tTru, xUn, isb1, oTru, sNop, sRet, xAnd, e]
theorem like_int (n : Nat) (i : Int) : d__law_like (n + 1) [.int i, .int i] = some (.bool true) := by
  simp [d__law_like, runD, g__law_like, sSeq, sIf, tOf, xBin, xVar, xC, oIs, isNone, dB, tTru, xUn, isi1, isi2, isi3, oTru, sNop, sRet, xAnd, xCall, xCons, xNil, is_int_int, eq_int]
theorem like_tup (n : Nat) (xs : List D) (hl : xs.length ≤ 16777216) (h : ∀ x ∈ xs, d__law_like n [x, x] = some (.bool true)) : d__law_like (n + 1) [.tuple xs, .tuple xs] = some (.bool true) := by
  have hr := oR1_nat xs.length hl
  have hm : lcL (gSet 2) tYesP (xCall (fun ds => if ds.length = 2 then d__law_like n ds else none) (xCons (xBin oIx (xVar 0) (xVar 2)) (xCons (xBin oIx (xVar 1) (xVar 2)) xNil))) [some (.tuple xs), some (.tuple xs), none] ((List.range xs.length).map fun i => PyData.int (i : Nat)) = some ((List.range xs.length).map fun _ => PyData.bool true) := by
    refine lcL_map _ _ _ fun i hi => ?_
    have hi' : i < xs.length := by simpa using hi
    simp [gSet, xCall, xCons, xNil, xBin, xVar, oIx, atI_nat xs i hi', h]
  simp [d__law_like, runD, g__law_like, sSeq, sIf, tOf, xBin, xVar, xC, oIs, isNone, dB, tTru, xUn, ist1, ist2, oTru, sNop, sRet, xCall, xCons, xNil, tOrP, tNotP, bLen, ne_int, xLc, xIt, hr, wipeP, hm, bAll, seqD, asBools_rng]
theorem row_at (r : List Int) (i : Nat) (h : i < r.length) : atI (r.map PyData.int) (i : Int) = some (.int (r.getD i 0)) := by
  rw [atI_nat _ i (by simpa using h)]
  simp [h]
theorem fmod_rng (x : Int) {m : Int} (hm : 0 < m) : 0 ≤ x.fmod m ∧ x.fmod m < m := ⟨Int.fmod_nonneg_of_pos _ hm, Int.fmod_lt_of_pos _ hm⟩
theorem fmod_nat (x : Int) {m : Int} (hm : 0 < m) : ∃ k : Nat, x.fmod m = (k : Int) ∧ (k : Int) < m := by
  obtain ⟨h1, h2⟩ := fmod_rng x hm
  obtain ⟨k, hk⟩ := Int.eq_ofNat_of_zero_le h1
  exact ⟨k, hk, by omega⟩
theorem rg0 (n : Nat) (h : n ≤ 1000) : oR1 [.int (n : Int)] = some ((List.range n).map fun k : Nat => PyData.int (k : Nat)) := oR1_nat n (by omega)
def biL (O : List Int) : List Int := (List.range (O.length - 2)).map fun k => O.getD k 0 + O.getD (k + 2) 0 - 2 * O.getD (k + 1) 0
theorem bMaxI_l {B : List Int} {m : Int} (h : B.max? = some m) : bMaxI [.list (B.map PyData.int)] = some (.int m) := by
  unfold bMaxI
  simp only [seq_l, Option.bind_some, asInts_map, h, Option.map_some]
theorem bMinI_l {B : List Int} {m : Int} (h : B.min? = some m) : bMinI [.list (B.map PyData.int)] = some (.int m) := by
  unfold bMinI
  simp only [seq_l, Option.bind_some, asInts_map, h, Option.map_some]
theorem lay_ints : ∀ l : List Int, PyData.canLayAll0 (l.map PyData.int) = true
  | [] => rfl
  | a :: l => by
    simp only [List.map_cons, PyData.canLayAll0, PyData.canLay0, Bool.true_and]
    exact lay_ints l
theorem any_ints (p : Int) : ∀ l : List Int, ((l.map PyData.int).any fun z => PyData.eqv z (.int p)) = l.contains p
  | [] => rfl
  | a :: l => by
    rw [List.map_cons, List.any_cons, any_ints p l, List.contains_cons]
    have e : PyData.eqv (.int a) (.int p) = (p == a) := by
      have e1 : PyData.eqv (.int a) (.int p) = (a == p) := by rw [PyData.eqv]
      rw [e1]
      exact BEq.comm
    rw [e]
theorem shp_int (p : Int) : shp (.int p) = true := by simp [shp, SeqAt.shaped, PyData.canLay0, PyData.depth]
theorem notin_ints (p : Int) (l : List Int) : oNotIn (.int p) (.list (l.map PyData.int)) = some (.bool (!l.contains p)) := by
  show (if (shp (.int p) && PyData.canLayAll0 (l.map PyData.int)) = true then some (PyData.bool (!(l.map PyData.int).any fun z => PyData.eqv z (.int p))) else none) = _
  rw [shp_int, lay_ints, any_ints]
  rfl
theorem in_ints (p : Int) (l : List Int) : oIn (.int p) (.list (l.map PyData.int)) = some (.bool (l.contains p)) := by
  show (if (shp (.int p) && PyData.canLayAll0 (l.map PyData.int)) = true then some (PyData.bool ((l.map PyData.int).any fun z => PyData.eqv z (.int p))) else none) = _
  rw [shp_int, lay_ints, any_ints]
  rfl
theorem mulOk_r (a : Int) {b : Int} (h : b.natAbs < 2 ^ 63) : mulOk a b = true := by
  unfold mulOk
  rw [decide_eq_true h]
  simp
theorem mulOk_lt {a b m : Int} (h0 : 0 ≤ a) (h : a < m) (hm : m ≤ 2147483647) : mulOk a b = true := by
  unfold mulOk
  rw [decide_eq_true (show a.natAbs < 2 ^ 63 by omega)]
  simp
theorem divOk_lit {b : Int} (h : b ≠ 0) (h2 : Sm 20 b) : divOk b = true := h2.divOk h (by omega)
def mix1 (c k : Int) : Int := (c * 48271 + k * 69621 + 8191).fmod 2147483647
def mix2 (c k : Int) : Int := (mix1 c k * mix1 c k + (mix1 c k).fdiv 7 + k * 16807).fmod 2147483629
def mix3 (c k : Int) : Int := (mix2 c k * mix2 c k + (mix2 c k).fdiv 11 + 40692).fmod 2147483563
theorem mixed_int (ns : List Int) (k : Nat) : ∃ v : Int, d__law_mixed [scr (ns.map PyData.int), .int k] = some (.int v) := by
  obtain ⟨c, hc⟩ : ∃ c : Int, (if 0 < ns.length then oIx (scr (ns.map PyData.int)) (.int ((k : Int).fmod ns.length)) else some (.int 0)) = some (.int c) := by
    by_cases h : 0 < ns.length
    · have h1 := fmod_rng (k : Int) (m := (ns.length : Int)) (by omega)
      obtain ⟨j, hj⟩ := Int.eq_ofNat_of_zero_le h1.1
      rw [if_pos h, hj]
      have h2 := h1.2
      rw [hj] at h2
      exact ⟨_, row_at ns j (by omega)⟩
    · exact ⟨0, if_neg h⟩
  have m1 := mulOk_r c (b := 48271) (by decide)
  have m2 := mulOk_r (k : Int) (b := 69621) (by decide)
  have m3 := mulOk_r (k : Int) (b := 16807) (by decide)
  have n1 : (2147483647 : Int) ≠ 0 := by decide
  have n2 : (2147483629 : Int) ≠ 0 := by decide
  have n3 : (2147483563 : Int) ≠ 0 := by decide
  have n4 : (1000003 : Int) ≠ 0 := by decide
  have d1 := divOk_lit (b := 7) (by decide) Sm.lit
  have d2 := divOk_lit (b := 11) (by decide) Sm.lit
  have d3 := divOk_lit (b := 5) (by decide) Sm.lit
  have r1 := fmod_rng (c * 48271 + (k : Int) * 69621 + 8191) (m := 2147483647) (by decide)
  have m4 : ∀ x, mulOk ((c * 48271 + (k : Int) * 69621 + 8191).fmod 2147483647) x = true := fun x => mulOk_lt r1.1 r1.2 (by decide)
  have r2 := fun x : Int => fmod_rng x (m := 2147483629) (by decide)
  have m5 : ∀ x y : Int, mulOk (x.fmod 2147483629) y = true := fun x y => mulOk_lt (r2 x).1 (r2 x).2 (by decide)
  by_cases h : 0 < ns.length
  · have h' : (0 : Int) < (ns.length : Int) := by omega
    have hn : (ns.length : Int) ≠ 0 := by omega
    rw [if_pos h, ix_s] at hc
    refine ⟨((mix3 c k).fdiv 5).fmod 1000003, ?_⟩
    simp only [mix3, mix2, mix1]
    simp -implicitDefEqProofs only [d__law_mixed, g__law_mixed, xVar_a, xC_a, xBin_a, xUn_a, tOf_a, tTru_a, tNotP_a, tAndP_a, tOrP_a, tyes_a, tno_a, tYesP_a, xNil_a, xCons_a, xTup_a, xLst_a, xAnd_a, xOr_a, xIf_a, xChain_a, oNo_a, oAt_a, xSl_a, xCall_a, xSeq_a, xIt_a, xLc_a, gSet_a, gTupD_a, gsNil_a, gsCons_a, sNop_a, sBrk_a, sCnt_a, sSeq_a, sRet_a, sIf_a, sSet_a, sTgt_a, sAug_a, sApp_a, sExt_a, sPut_a, sPutK_a, pkO_s, sFor_a, sWhile_a, sPar_a, runD_a, b2_s, c2_s, sqO_nx, sqO_rt, sqO_bk, sqO_ct, ifO_t, ifO_f, stO_s, endO_nx, endO_rt, andO_t, andO_f, orO_t, orO_f, chO_s, chP_t, chP_f, slO_s, atO_i, lcO_s, forO_s, gsO_s, nxO_s, tgO_s, paO_s, apO_s, exO_s, plO_s, ptO_s, dB_b, tru_b, tru_n, tru_i, tru_l, tru_t, is_n, isn_n, nn_n, nn_i, nn_b, nn_t, nn_l, add_ii, add'_ii, sub_ii, neg_i, lt_ii, le_ii, gt_ii, ge_ii, ix_l, ix_t, ix_s, at0, at1, at2, sl_l, sl_t, len_l, len_t, len_s, abs_i, int_i, int_b, max_ii, min_ii, tup_s, lst_s, seq_l, seq_t, sum_s, wipe_n, wipe_c, mul_ii, fdiv_ii, mod_ii, add_ll, add_tt, setAll, mkT, mkL, oNot, List.getD_cons_zero, List.getD_cons_succ, List.length_cons, List.length_nil, List.set_cons_zero, List.set_cons_succ, List.map_cons, List.map_nil, List.replicate, List.cons_append, List.nil_append, List.append_nil, Option.bind_some, Option.map_some, List.all_cons, List.all_nil, if_true, if_false, reduceIte, Nat.reduceAdd, Nat.reduceSub, Nat.reduceLT, Nat.reduceLeDiff, Nat.reduceEqDiff, decide_true, decide_false, Bool.and_true, Bool.and_self, Bool.true_and, Bool.not_true, Bool.not_false, ne_eq, not_true_eq_false, not_false_eq_true, Nat.zero_add, Bool.false_eq_true, and_self, true_and, and_true, List.length_map, h', mod_ii hn, hc, m1, m2, m3, m4, m5, mod_ii n1, mod_ii n2, mod_ii n3, mod_ii n4, fdiv_ii d1, fdiv_ii d2, fdiv_ii d3]
  · have h' : ¬ (0 : Int) < (ns.length : Int) := by omega
    rw [if_neg h] at hc
    cases hc
    refine ⟨((mix3 0 k).fdiv 5).fmod 1000003, ?_⟩
    simp only [mix3, mix2, mix1]
    simp -implicitDefEqProofs only [d__law_mixed, g__law_mixed, xVar_a, xC_a, xBin_a, xUn_a, tOf_a, tTru_a, tNotP_a, tAndP_a, tOrP_a, tyes_a, tno_a, tYesP_a, xNil_a, xCons_a, xTup_a, xLst_a, xAnd_a, xOr_a, xIf_a, xChain_a, oNo_a, oAt_a, xSl_a, xCall_a, xSeq_a, xIt_a, xLc_a, gSet_a, gTupD_a, gsNil_a, gsCons_a, sNop_a, sBrk_a, sCnt_a, sSeq_a, sRet_a, sIf_a, sSet_a, sTgt_a, sAug_a, sApp_a, sExt_a, sPut_a, sPutK_a, pkO_s, sFor_a, sWhile_a, sPar_a, runD_a, b2_s, c2_s, sqO_nx, sqO_rt, sqO_bk, sqO_ct, ifO_t, ifO_f, stO_s, endO_nx, endO_rt, andO_t, andO_f, orO_t, orO_f, chO_s, chP_t, chP_f, slO_s, atO_i, lcO_s, forO_s, gsO_s, nxO_s, tgO_s, paO_s, apO_s, exO_s, plO_s, ptO_s, dB_b, tru_b, tru_n, tru_i, tru_l, tru_t, is_n, isn_n, nn_n, nn_i, nn_b, nn_t, nn_l, add_ii, add'_ii, sub_ii, neg_i, lt_ii, le_ii, gt_ii, ge_ii, ix_l, ix_t, ix_s, at0, at1, at2, sl_l, sl_t, len_l, len_t, len_s, abs_i, int_i, int_b, max_ii, min_ii, tup_s, lst_s, seq_l, seq_t, sum_s, wipe_n, wipe_c, mul_ii, fdiv_ii, mod_ii, add_ll, add_tt, setAll, mkT, mkL, oNot, List.getD_cons_zero, List.getD_cons_succ, List.length_cons, List.length_nil, List.set_cons_zero, List.set_cons_succ, List.map_cons, List.map_nil, List.replicate, List.cons_append, List.nil_append, List.append_nil, Option.bind_some, Option.map_some, List.all_cons, List.all_nil, if_true, if_false, reduceIte, Nat.reduceAdd, Nat.reduceSub, Nat.reduceLT, Nat.reduceLeDiff, Nat.reduceEqDiff, decide_true, decide_false, Bool.and_true, Bool.and_self, Bool.true_and, Bool.not_true, Bool.not_false, ne_eq, not_true_eq_false, not_false_eq_true, Nat.zero_add, Bool.false_eq_true, and_self, true_and, and_true, List.length_map, h', m1, m2, m3, m4, m5, mod_ii n1, mod_ii n2, mod_ii n3, mod_ii n4, fdiv_ii d1, fdiv_ii d2, fdiv_ii d3]
theorem row_int (ns : List Int) : ∃ r : List Int, r.length = 40 ∧ d__law_row [scr (ns.map PyData.int), .int 40] = some (.list (r.map PyData.int)) := by
  have hr : oR1 [.int 40] = some (List.map (fun i => PyData.int (i : Nat)) (List.range 40)) := oR1_nat 40 (by omega)
  have n1 : (1000 : Int) ≠ 0 := by decide
  have d1 := divOk_lit (b := 1000) (by decide) Sm.lit
  have key : ∀ big : Int, ∃ r : List Int, r.length = 40 ∧ ∃ x y, forL (gSet 4) l1__law_row (List.map (fun i => PyData.int (i : Nat)) (List.range 40)) [some (scr (ns.map PyData.int)), some (.int 40), some (.int big), some (.list []), none] = some (.nx [some (scr (ns.map PyData.int)), some (.int 40), x, some (.list (r.map PyData.int)), y]) := fun big => by
    obtain ⟨ρ', e, h⟩ := forL_inv (g := gSet 4) (b := l1__law_row) (fun i : Nat => PyData.int (i : Nat))
      (fun pre rest ρ => pre.length + rest.length = 40 ∧ ∃ (r : List Int) (big : Int) (j : Option D), r.length = pre.length ∧ ρ = [some (scr (ns.map PyData.int)), some (.int 40), some (.int big), some (.list (r.map PyData.int)), j]) (fun pre x rest ρ ⟨hl, r, big, j, hrl, e⟩ => by
        subst e
        have hx : (r.map PyData.int).length < 16777216 := by rw [List.length_map]; simp at hl; omega
        obtain ⟨v, hv⟩ := mixed_int ns x
        by_cases hb : 0 < big
        · refine ⟨_, [some (scr (ns.map PyData.int)), some (.int 40), some (.int (big.fdiv 1000)), some (.list ((r ++ [big.fmod 1000]).map PyData.int)), some (.int x)], rfl, .inl ?_, by simp at hl ⊢; omega, r ++ [big.fmod 1000], big.fdiv 1000, some (.int x), by simp; omega, rfl⟩
          simp -implicitDefEqProofs only [l1__law_row, xVar_a, xC_a, xBin_a, xUn_a, tOf_a, tTru_a, tNotP_a, tAndP_a, tOrP_a, tyes_a, tno_a, tYesP_a, xNil_a, xCons_a, xTup_a, xLst_a, xAnd_a, xOr_a, xIf_a, xChain_a, oNo_a, oAt_a, xSl_a, xCall_a, xSeq_a, xIt_a, xLc_a, gSet_a, gTupD_a, gsNil_a, gsCons_a, sNop_a, sBrk_a, sCnt_a, sSeq_a, sRet_a, sIf_a, sSet_a, sTgt_a, sAug_a, sApp_a, sExt_a, sPut_a, sPutK_a, pkO_s, sFor_a, sWhile_a, sPar_a, runD_a, b2_s, c2_s, sqO_nx, sqO_rt, sqO_bk, sqO_ct, ifO_t, ifO_f, stO_s, endO_nx, endO_rt, andO_t, andO_f, orO_t, orO_f, chO_s, chP_t, chP_f, slO_s, atO_i, lcO_s, forO_s, gsO_s, nxO_s, tgO_s, paO_s, apO_s, exO_s, plO_s, ptO_s, dB_b, tru_b, tru_n, tru_i, tru_l, tru_t, is_n, isn_n, nn_n, nn_i, nn_b, nn_t, nn_l, add_ii, add'_ii, sub_ii, neg_i, lt_ii, le_ii, gt_ii, ge_ii, ix_l, ix_t, ix_s, at0, at1, at2, sl_l, sl_t, len_l, len_t, len_s, abs_i, int_i, int_b, max_ii, min_ii, tup_s, lst_s, seq_l, seq_t, sum_s, wipe_n, wipe_c, mul_ii, fdiv_ii, mod_ii, add_ll, add_tt, setAll, mkT, mkL, oNot, List.getD_cons_zero, List.getD_cons_succ, List.length_cons, List.length_nil, List.set_cons_zero, List.set_cons_succ, List.map_cons, List.map_nil, List.replicate, List.cons_append, List.nil_append, List.append_nil, Option.bind_some, Option.map_some, List.all_cons, List.all_nil, if_true, if_false, reduceIte, Nat.reduceAdd, Nat.reduceSub, Nat.reduceLT, Nat.reduceLeDiff, Nat.reduceEqDiff, decide_true, decide_false, Bool.and_true, Bool.and_self, Bool.true_and, Bool.not_true, Bool.not_false, ne_eq, not_true_eq_false, not_false_eq_true, Nat.zero_add, Bool.false_eq_true, and_self, true_and, and_true, hb, mod_ii n1, fdiv_ii d1, hx, List.map_append]
        · refine ⟨_, [some (scr (ns.map PyData.int)), some (.int 40), some (.int big), some (.list ((r ++ [v]).map PyData.int)), some (.int x)], rfl, .inl ?_, by simp at hl ⊢; omega, r ++ [v], big, some (.int x), by simp; omega, rfl⟩
          simp -implicitDefEqProofs only [l1__law_row, xVar_a, xC_a, xBin_a, xUn_a, tOf_a, tTru_a, tNotP_a, tAndP_a, tOrP_a, tyes_a, tno_a, tYesP_a, xNil_a, xCons_a, xTup_a, xLst_a, xAnd_a, xOr_a, xIf_a, xChain_a, oNo_a, oAt_a, xSl_a, xCall_a, xSeq_a, xIt_a, xLc_a, gSet_a, gTupD_a, gsNil_a, gsCons_a, sNop_a, sBrk_a, sCnt_a, sSeq_a, sRet_a, sIf_a, sSet_a, sTgt_a, sAug_a, sApp_a, sExt_a, sPut_a, sPutK_a, pkO_s, sFor_a, sWhile_a, sPar_a, runD_a, b2_s, c2_s, sqO_nx, sqO_rt, sqO_bk, sqO_ct, ifO_t, ifO_f, stO_s, endO_nx, endO_rt, andO_t, andO_f, orO_t, orO_f, chO_s, chP_t, chP_f, slO_s, atO_i, lcO_s, forO_s, gsO_s, nxO_s, tgO_s, paO_s, apO_s, exO_s, plO_s, ptO_s, dB_b, tru_b, tru_n, tru_i, tru_l, tru_t, is_n, isn_n, nn_n, nn_i, nn_b, nn_t, nn_l, add_ii, add'_ii, sub_ii, neg_i, lt_ii, le_ii, gt_ii, ge_ii, ix_l, ix_t, ix_s, at0, at1, at2, sl_l, sl_t, len_l, len_t, len_s, abs_i, int_i, int_b, max_ii, min_ii, tup_s, lst_s, seq_l, seq_t, sum_s, wipe_n, wipe_c, mul_ii, fdiv_ii, mod_ii, add_ll, add_tt, setAll, mkT, mkL, oNot, List.getD_cons_zero, List.getD_cons_succ, List.length_cons, List.length_nil, List.set_cons_zero, List.set_cons_succ, List.map_cons, List.map_nil, List.replicate, List.cons_append, List.nil_append, List.append_nil, Option.bind_some, Option.map_some, List.all_cons, List.all_nil, if_true, if_false, reduceIte, Nat.reduceAdd, Nat.reduceSub, Nat.reduceLT, Nat.reduceLeDiff, Nat.reduceEqDiff, decide_true, decide_false, Bool.and_true, Bool.and_self, Bool.true_and, Bool.not_true, Bool.not_false, ne_eq, not_true_eq_false, not_false_eq_true, Nat.zero_add, Bool.false_eq_true, and_self, true_and, and_true, hb, hv, hx, List.map_append]) (List.range 40) [] [some (scr (ns.map PyData.int)), some (.int 40), some (.int big), some (.list []), none] ⟨by simp, [], big, none, rfl, rfl⟩
    obtain ⟨_, r, big', j, hrl, e'⟩ := h
    subst e'
    exact ⟨r, by simpa using hrl, _, _, e⟩
  have pw : oPow (.int 10) (.int 18) = some (.int 1000000000000000000) := by
    show (if (0 : Int) ≤ 18 ∧ (18 : Int) ≤ 1000000 ∧ (10 : Int).natAbs < 2 ^ 64 then some (PyData.int (10 ^ (18 : Int).toNat)) else none) = _
    rw [if_pos (by decide)]
    rfl
  cases ns with
  | nil =>
    obtain ⟨r, h1, x, y, h2⟩ := key 0
    refine ⟨r, h1, ?_⟩
    have e0 : ¬ (0 : Int) < ((0 : Nat) : Int) := by decide
    simp only [List.map_nil] at h2
    simp -implicitDefEqProofs only [d__law_row, g__law_row, xVar_a, xC_a, xBin_a, xUn_a, tOf_a, tTru_a, tNotP_a, tAndP_a, tOrP_a, tyes_a, tno_a, tYesP_a, xNil_a, xCons_a, xTup_a, xLst_a, xAnd_a, xOr_a, xIf_a, xChain_a, oNo_a, oAt_a, xSl_a, xCall_a, xSeq_a, xIt_a, xLc_a, gSet_a, gTupD_a, gsNil_a, gsCons_a, sNop_a, sBrk_a, sCnt_a, sSeq_a, sRet_a, sIf_a, sSet_a, sTgt_a, sAug_a, sApp_a, sExt_a, sPut_a, sPutK_a, pkO_s, sFor_a, sWhile_a, sPar_a, runD_a, b2_s, c2_s, sqO_nx, sqO_rt, sqO_bk, sqO_ct, ifO_t, ifO_f, stO_s, endO_nx, endO_rt, andO_t, andO_f, orO_t, orO_f, chO_s, chP_t, chP_f, slO_s, atO_i, lcO_s, forO_s, gsO_s, nxO_s, tgO_s, paO_s, apO_s, exO_s, plO_s, ptO_s, dB_b, tru_b, tru_n, tru_i, tru_l, tru_t, is_n, isn_n, nn_n, nn_i, nn_b, nn_t, nn_l, add_ii, add'_ii, sub_ii, neg_i, lt_ii, le_ii, gt_ii, ge_ii, ix_l, ix_t, ix_s, at0, at1, at2, sl_l, sl_t, len_l, len_t, len_s, abs_i, int_i, int_b, max_ii, min_ii, tup_s, lst_s, seq_l, seq_t, sum_s, wipe_n, wipe_c, mul_ii, fdiv_ii, mod_ii, add_ll, add_tt, setAll, mkT, mkL, oNot, List.getD_cons_zero, List.getD_cons_succ, List.length_cons, List.length_nil, List.set_cons_zero, List.set_cons_succ, List.map_cons, List.map_nil, List.replicate, List.cons_append, List.nil_append, List.append_nil, Option.bind_some, Option.map_some, List.all_cons, List.all_nil, if_true, if_false, reduceIte, Nat.reduceAdd, Nat.reduceSub, Nat.reduceLT, Nat.reduceLeDiff, Nat.reduceEqDiff, decide_true, decide_false, Bool.and_true, Bool.and_self, Bool.true_and, Bool.not_true, Bool.not_false, ne_eq, not_true_eq_false, not_false_eq_true, Nat.zero_add, Bool.false_eq_true, and_self, true_and, and_true, e0, hr, h2]
  | cons c cs =>
    have e0 : (0 : Int) < ((cs.length + 1 : Nat) : Int) := by omega
    have hc : atI (PyData.int c :: cs.map PyData.int) 0 = some (.int c) := at0 _ _
    by_cases hb : (1000000000000000000 : Int) ≤ c
    · obtain ⟨r, h1, x, y, h2⟩ := key c
      refine ⟨r, h1, ?_⟩
      simp only [List.map_cons] at h2
      simp -implicitDefEqProofs only [d__law_row, g__law_row, xVar_a, xC_a, xBin_a, xUn_a, tOf_a, tTru_a, tNotP_a, tAndP_a, tOrP_a, tyes_a, tno_a, tYesP_a, xNil_a, xCons_a, xTup_a, xLst_a, xAnd_a, xOr_a, xIf_a, xChain_a, oNo_a, oAt_a, xSl_a, xCall_a, xSeq_a, xIt_a, xLc_a, gSet_a, gTupD_a, gsNil_a, gsCons_a, sNop_a, sBrk_a, sCnt_a, sSeq_a, sRet_a, sIf_a, sSet_a, sTgt_a, sAug_a, sApp_a, sExt_a, sPut_a, sPutK_a, pkO_s, sFor_a, sWhile_a, sPar_a, runD_a, b2_s, c2_s, sqO_nx, sqO_rt, sqO_bk, sqO_ct, ifO_t, ifO_f, stO_s, endO_nx, endO_rt, andO_t, andO_f, orO_t, orO_f, chO_s, chP_t, chP_f, slO_s, atO_i, lcO_s, forO_s, gsO_s, nxO_s, tgO_s, paO_s, apO_s, exO_s, plO_s, ptO_s, dB_b, tru_b, tru_n, tru_i, tru_l, tru_t, is_n, isn_n, nn_n, nn_i, nn_b, nn_t, nn_l, add_ii, add'_ii, sub_ii, neg_i, lt_ii, le_ii, gt_ii, ge_ii, ix_l, ix_t, ix_s, at0, at1, at2, sl_l, sl_t, len_l, len_t, len_s, abs_i, int_i, int_b, max_ii, min_ii, tup_s, lst_s, seq_l, seq_t, sum_s, wipe_n, wipe_c, mul_ii, fdiv_ii, mod_ii, add_ll, add_tt, setAll, mkT, mkL, oNot, List.getD_cons_zero, List.getD_cons_succ, List.length_cons, List.length_nil, List.set_cons_zero, List.set_cons_succ, List.map_cons, List.map_nil, List.replicate, List.cons_append, List.nil_append, List.append_nil, Option.bind_some, Option.map_some, List.all_cons, List.all_nil, if_true, if_false, reduceIte, Nat.reduceAdd, Nat.reduceSub, Nat.reduceLT, Nat.reduceLeDiff, Nat.reduceEqDiff, decide_true, decide_false, Bool.and_true, Bool.and_self, Bool.true_and, Bool.not_true, Bool.not_false, ne_eq, not_true_eq_false, not_false_eq_true, Nat.zero_add, Bool.false_eq_true, and_self, true_and, and_true, List.length_map, e0, hc, pw, hb, hr, h2]
    · obtain ⟨r, h1, x, y, h2⟩ := key 0
      refine ⟨r, h1, ?_⟩
      simp only [List.map_cons] at h2
      simp -implicitDefEqProofs only [d__law_row, g__law_row, xVar_a, xC_a, xBin_a, xUn_a, tOf_a, tTru_a, tNotP_a, tAndP_a, tOrP_a, tyes_a, tno_a, tYesP_a, xNil_a, xCons_a, xTup_a, xLst_a, xAnd_a, xOr_a, xIf_a, xChain_a, oNo_a, oAt_a, xSl_a, xCall_a, xSeq_a, xIt_a, xLc_a, gSet_a, gTupD_a, gsNil_a, gsCons_a, sNop_a, sBrk_a, sCnt_a, sSeq_a, sRet_a, sIf_a, sSet_a, sTgt_a, sAug_a, sApp_a, sExt_a, sPut_a, sPutK_a, pkO_s, sFor_a, sWhile_a, sPar_a, runD_a, b2_s, c2_s, sqO_nx, sqO_rt, sqO_bk, sqO_ct, ifO_t, ifO_f, stO_s, endO_nx, endO_rt, andO_t, andO_f, orO_t, orO_f, chO_s, chP_t, chP_f, slO_s, atO_i, lcO_s, forO_s, gsO_s, nxO_s, tgO_s, paO_s, apO_s, exO_s, plO_s, ptO_s, dB_b, tru_b, tru_n, tru_i, tru_l, tru_t, is_n, isn_n, nn_n, nn_i, nn_b, nn_t, nn_l, add_ii, add'_ii, sub_ii, neg_i, lt_ii, le_ii, gt_ii, ge_ii, ix_l, ix_t, ix_s, at0, at1, at2, sl_l, sl_t, len_l, len_t, len_s, abs_i, int_i, int_b, max_ii, min_ii, tup_s, lst_s, seq_l, seq_t, sum_s, wipe_n, wipe_c, mul_ii, fdiv_ii, mod_ii, add_ll, add_tt, setAll, mkT, mkL, oNot, List.getD_cons_zero, List.getD_cons_succ, List.length_cons, List.length_nil, List.set_cons_zero, List.set_cons_succ, List.map_cons, List.map_nil, List.replicate, List.cons_append, List.nil_append, List.append_nil, Option.bind_some, Option.map_some, List.all_cons, List.all_nil, if_true, if_false, reduceIte, Nat.reduceAdd, Nat.reduceSub, Nat.reduceLT, Nat.reduceLeDiff, Nat.reduceEqDiff, decide_true, decide_false, Bool.and_true, Bool.and_self, Bool.true_and, Bool.not_true, Bool.not_false, ne_eq, not_true_eq_false, not_false_eq_true, Nat.zero_add, Bool.false_eq_true, and_self, true_and, and_true, List.length_map, e0, hc, pw, hb, hr, h2]

end K08

namespace K08
open PySem PySem.Spec PyProof.Rows L2 Pm
theorem forL_find {β : Type} {g : D → PEnv → Option PEnv} {b : XS} (en : β → D) (P : β → Bool) (I : PEnv → Prop) (ret : β → D) : ∀ (xs : List β), (∀ x ∈ xs, ∀ ρ, I ρ → ∃ ρ1, g (en x) ρ = some ρ1 ∧ (P x = true → b ρ1 = some (.rt (ret x))) ∧ (P x = false → ∃ ρ2, b ρ1 = some (.nx ρ2) ∧ I ρ2)) →
    ∀ ρ, I ρ → (∃ x, xs.find? P = some x ∧ forL g b (xs.map en) ρ = some (.rt (ret x))) ∨ (xs.find? P = none ∧ ∃ ρ', forL g b (xs.map en) ρ = some (.nx ρ') ∧ I ρ')
  | [], _, ρ, h => .inr ⟨rfl, ρ, rfl, h⟩
  | x :: xs, hb, ρ, h => by
    obtain ⟨ρ1, e1, h1, h2⟩ := hb x (List.mem_cons_self ..) ρ h
    cases hp : P x with
    | true =>
      exact .inl ⟨x, by rw [List.find?_cons_of_pos hp], by simp only [List.map_cons, forL, e1, h1 hp, Option.bind_some]⟩
    | false =>
      obtain ⟨ρ2, e2, h3⟩ := h2 hp
      have hn : xs.find? P = (x :: xs).find? P := by rw [List.find?_cons_of_neg (by rw [hp]; decide)]
      rcases forL_find en P I ret xs (fun y hy => hb y (List.mem_cons_of_mem _ hy)) ρ2 h3 with ⟨z, z1, z2⟩ | ⟨z1, ρ', z2, z3⟩
      · exact .inl ⟨z, by rw [← hn, z1], by simp only [List.map_cons, forL, e1, e2, Option.bind_some, z2]⟩
      · exact .inr ⟨by rw [← hn, z1], ρ', by simp only [List.map_cons, forL, e1, e2, Option.bind_some, z2], z3⟩
def opn (T : List Int) (need h : Int) : Bool := decide (need ≤ T.getD (h.fmod T.length).toNat 0)
def hrs (h : Int) (n : Nat) : List Int := (List.range n).map fun k : Nat => h + (k : Int)
def fst (T : List Int) (need h : Int) : Option Int := (hrs h T.length).find? (opn T need)
def eO : Option Int → D
  | none => .none
  | some i => .int i
/-- a tide of the law -/
def OkT (T : List Int) : Prop := T ≠ [] ∧ T.length ≤ 8
theorem OkT.pos {T : List Int} (h : OkT T) : 0 < (T.length : Int) := by
  have := List.length_pos_iff.mpr h.1
  omega
theorem at_f {T : List Int} (h : OkT T) (i : Int) : atI (T.map PyData.int) (i.fmod T.length) = some (.int (T.getD (i.fmod T.length).toNat 0)) := by
  have h1 := fmod_rng i h.pos
  have h2 := h1.2
  obtain ⟨j, hj⟩ := Int.eq_ofNat_of_zero_le h1.1
  rw [hj] at h2 ⊢
  exact row_at T j (by omega)
theorem rg2 {h : Int} {n : Nat} (h0 : 0 ≤ h) (h1 : h < 100000) (hn : n ≤ 1000) : oR2 [.int h, .int (h + n)] = some ((hrs h n).map PyData.int) := by
  show (if -(2 ^ 60) ≤ h ∧ h < 2 ^ 60 ∧ -(2 ^ 60) ≤ h + n ∧ h + n < 2 ^ 60 ∧ h + n - h ≤ 16777216 then some (rangeD h 1 (h + n - h).toNat) else none) = _
  rw [if_pos (by omega), show (h + (n : Int) - h).toNat = n by omega]
  unfold rangeD hrs
  simp
theorem hrs_mem {h x : Int} {n : Nat} : x ∈ hrs h n ↔ h ≤ x ∧ x < h + n := by
  unfold hrs
  rw [List.mem_map]
  constructor
  · rintro ⟨k, hk, rfl⟩
    have := List.mem_range.mp hk
    omega
  · intro hx
    exact ⟨(x - h).toNat, List.mem_range.mpr (by omega), by omega⟩
theorem fst_some {T : List Int} {need h r : Int} (e : fst T need h = some r) : h ≤ r ∧ r < h + T.length ∧ opn T need r = true := by
  have h1 := List.mem_of_find?_eq_some e
  have h2 := List.find?_some e
  rw [hrs_mem] at h1
  exact ⟨h1.1, h1.2, h2⟩
theorem fmod_shift {h : Int} {n : Nat} (hn : 0 < n) (k : Nat) (hk : k < n) : ∃ x, h ≤ x ∧ x < h + n ∧ (x.fmod n).toNat = k := by
  have hn' : (0 : Int) < n := by omega
  refine ⟨h + ((k : Int) - h).fmod n, ?_, ?_, ?_⟩
  · have := fmod_rng ((k : Int) - h) hn'
    omega
  · have := fmod_rng ((k : Int) - h) hn'
    omega
  · have e1 : (h + ((k : Int) - h).fmod n).fmod n = ((k : Int)).fmod n := by
      rw [Int.fmod_eq_emod_of_nonneg _ (by omega), Int.fmod_eq_emod_of_nonneg _ (by omega), Int.fmod_eq_emod_of_nonneg _ (by omega)]
      rw [Int.add_emod, Int.emod_emod, ← Int.add_emod]
      congr 1
      omega
    rw [e1, Int.fmod_eq_emod_of_nonneg _ (by omega), Int.emod_eq_of_lt (by omega) (by omega)]
    omega
theorem fst_none {T : List Int} {need h : Int} (hT : OkT T) : fst T need h = none ↔ ∀ t ∈ T, t < need := by
  have hp := hT.pos
  constructor
  · intro e t ht
    obtain ⟨k, hk, rfl⟩ := List.mem_iff_getElem.mp ht
    obtain ⟨x, h1, h2, h3⟩ := fmod_shift (h := h) (n := T.length) (by omega) k hk
    have := List.find?_eq_none.mp e x (hrs_mem.mpr ⟨h1, h2⟩)
    unfold opn at this
    rw [h3, List.getD_eq_getElem?_getD, List.getElem?_eq_getElem hk, Option.getD_some] at this
    simpa using this
  · intro h'
    refine List.find?_eq_none.mpr fun x hx => ?_
    unfold opn
    have h1 := fmod_rng x hp
    have hlt : (x.fmod T.length).toNat < T.length := by omega
    have := h' _ (List.getElem_mem hlt)
    rw [List.getD_eq_getElem?_getD, List.getElem?_eq_getElem hlt, Option.getD_some]
    simp
    omega
theorem fst_ex {T : List Int} {need h h' r : Int} (hT : OkT T) (e : fst T need h = some r) : ∃ r', fst T need h' = some r' := by
  cases e' : fst T need h' with
  | some r' => exact ⟨r', rfl⟩
  | none =>
    rw [fst_none hT, ← fst_none (h := h) hT, e] at e'
    cases e'
theorem open_from_eq {T : List Int} (hT : OkT T) {need h : Int} (h0 : 0 ≤ h) (h1 : h < 100000) : d_open_from [.tuple (T.map PyData.int), .int need, .int h] = some (eO (fst T need h)) := by
  have hl : ((T.map PyData.int).length : Int) = (T.length : Int) := by rw [List.length_map]
  have hz : (T.length : Int) ≠ 0 := by have := hT.pos; omega
  have hr := rg2 h0 h1 (n := T.length) (by have := hT.2; omega)
  have := forL_find (g := gSet 3) (b := l1_open_from) PyData.int (opn T need) (fun ρ => ∃ j, ρ = [some (.tuple (T.map PyData.int)), some (.int need), some (.int h), j]) PyData.int (hrs h T.length) (fun x hx ρ ⟨j, e⟩ => by
    subst e
    have ha := at_f hT x
    refine ⟨_, rfl, fun hp => ?_, fun hp => ⟨[some (.tuple (T.map PyData.int)), some (.int need), some (.int h), some (.int x)], ?_, _, rfl⟩⟩
    · have hp := of_decide_eq_true hp
      generalize T.map PyData.int = MT at *
      simp -implicitDefEqProofs only [l1_open_from, xVar_a, xC_a, xBin_a, xUn_a, tOf_a, tTru_a, tNotP_a, tAndP_a, tOrP_a, tyes_a, tno_a, tYesP_a, xNil_a, xCons_a, xTup_a, xLst_a, xAnd_a, xOr_a, xIf_a, xChain_a, oNo_a, oAt_a, xSl_a, xCall_a, xSeq_a, xIt_a, xLc_a, gSet_a, gTupD_a, gsNil_a, gsCons_a, sNop_a, sBrk_a, sCnt_a, sSeq_a, sRet_a, sIf_a, sSet_a, sTgt_a, sAug_a, sApp_a, sExt_a, sPut_a, sPutK_a, pkO_s, sFor_a, sWhile_a, sPar_a, runD_a, b2_s, c2_s, sqO_nx, sqO_rt, sqO_bk, sqO_ct, ifO_t, ifO_f, stO_s, endO_nx, endO_rt, andO_t, andO_f, orO_t, orO_f, chO_s, chP_t, chP_f, slO_s, atO_i, lcO_s, forO_s, gsO_s, nxO_s, tgO_s, paO_s, apO_s, exO_s, plO_s, ptO_s, dB_b, tru_b, tru_n, tru_i, tru_l, tru_t, is_n, isn_n, nn_n, nn_i, nn_b, nn_t, nn_l, add_ii, add'_ii, sub_ii, neg_i, lt_ii, le_ii, gt_ii, ge_ii, ix_l, ix_t, ix_s, at0, at1, at2, sl_l, sl_t, len_l, len_t, len_s, abs_i, int_i, int_b, max_ii, min_ii, tup_s, lst_s, seq_l, seq_t, sum_s, wipe_n, wipe_c, mul_ii, fdiv_ii, mod_ii, add_ll, add_tt, setAll, mkT, mkL, oNot, List.getD_cons_zero, List.getD_cons_succ, List.length_cons, List.length_nil, List.set_cons_zero, List.set_cons_succ, List.map_cons, List.map_nil, List.replicate, List.cons_append, List.nil_append, List.append_nil, Option.bind_some, Option.map_some, List.all_cons, List.all_nil, if_true, if_false, reduceIte, Nat.reduceAdd, Nat.reduceSub, Nat.reduceLT, Nat.reduceLeDiff, Nat.reduceEqDiff, decide_true, decide_false, Bool.and_true, Bool.and_self, Bool.true_and, Bool.not_true, Bool.not_false, ne_eq, not_true_eq_false, not_false_eq_true, Nat.zero_add, Bool.false_eq_true, and_self, true_and, and_true, hl, mod_ii hz, ha, hp]
    · have hp := of_decide_eq_false hp
      generalize T.map PyData.int = MT at *
      simp -implicitDefEqProofs only [l1_open_from, xVar_a, xC_a, xBin_a, xUn_a, tOf_a, tTru_a, tNotP_a, tAndP_a, tOrP_a, tyes_a, tno_a, tYesP_a, xNil_a, xCons_a, xTup_a, xLst_a, xAnd_a, xOr_a, xIf_a, xChain_a, oNo_a, oAt_a, xSl_a, xCall_a, xSeq_a, xIt_a, xLc_a, gSet_a, gTupD_a, gsNil_a, gsCons_a, sNop_a, sBrk_a, sCnt_a, sSeq_a, sRet_a, sIf_a, sSet_a, sTgt_a, sAug_a, sApp_a, sExt_a, sPut_a, sPutK_a, pkO_s, sFor_a, sWhile_a, sPar_a, runD_a, b2_s, c2_s, sqO_nx, sqO_rt, sqO_bk, sqO_ct, ifO_t, ifO_f, stO_s, endO_nx, endO_rt, andO_t, andO_f, orO_t, orO_f, chO_s, chP_t, chP_f, slO_s, atO_i, lcO_s, forO_s, gsO_s, nxO_s, tgO_s, paO_s, apO_s, exO_s, plO_s, ptO_s, dB_b, tru_b, tru_n, tru_i, tru_l, tru_t, is_n, isn_n, nn_n, nn_i, nn_b, nn_t, nn_l, add_ii, add'_ii, sub_ii, neg_i, lt_ii, le_ii, gt_ii, ge_ii, ix_l, ix_t, ix_s, at0, at1, at2, sl_l, sl_t, len_l, len_t, len_s, abs_i, int_i, int_b, max_ii, min_ii, tup_s, lst_s, seq_l, seq_t, sum_s, wipe_n, wipe_c, mul_ii, fdiv_ii, mod_ii, add_ll, add_tt, setAll, mkT, mkL, oNot, List.getD_cons_zero, List.getD_cons_succ, List.length_cons, List.length_nil, List.set_cons_zero, List.set_cons_succ, List.map_cons, List.map_nil, List.replicate, List.cons_append, List.nil_append, List.append_nil, Option.bind_some, Option.map_some, List.all_cons, List.all_nil, if_true, if_false, reduceIte, Nat.reduceAdd, Nat.reduceSub, Nat.reduceLT, Nat.reduceLeDiff, Nat.reduceEqDiff, decide_true, decide_false, Bool.and_true, Bool.and_self, Bool.true_and, Bool.not_true, Bool.not_false, ne_eq, not_true_eq_false, not_false_eq_true, Nat.zero_add, Bool.false_eq_true, and_self, true_and, and_true, hl, mod_ii hz, ha, hp]) [some (.tuple (T.map PyData.int)), some (.int need), some (.int h), none] ⟨_, rfl⟩
  rcases this with ⟨x, e1, e2⟩ | ⟨e1, ρ', e2, j, e3⟩
  · have e1 : fst T need h = some x := e1
    rw [e1]
    generalize T.map PyData.int = MT at *
    generalize (hrs h T.length).map PyData.int = HR at *
    simp -implicitDefEqProofs only [d_open_from, g_open_from, xVar_a, xC_a, xBin_a, xUn_a, tOf_a, tTru_a, tNotP_a, tAndP_a, tOrP_a, tyes_a, tno_a, tYesP_a, xNil_a, xCons_a, xTup_a, xLst_a, xAnd_a, xOr_a, xIf_a, xChain_a, oNo_a, oAt_a, xSl_a, xCall_a, xSeq_a, xIt_a, xLc_a, gSet_a, gTupD_a, gsNil_a, gsCons_a, sNop_a, sBrk_a, sCnt_a, sSeq_a, sRet_a, sIf_a, sSet_a, sTgt_a, sAug_a, sApp_a, sExt_a, sPut_a, sPutK_a, pkO_s, sFor_a, sWhile_a, sPar_a, runD_a, b2_s, c2_s, sqO_nx, sqO_rt, sqO_bk, sqO_ct, ifO_t, ifO_f, stO_s, endO_nx, endO_rt, andO_t, andO_f, orO_t, orO_f, chO_s, chP_t, chP_f, slO_s, atO_i, lcO_s, forO_s, gsO_s, nxO_s, tgO_s, paO_s, apO_s, exO_s, plO_s, ptO_s, dB_b, tru_b, tru_n, tru_i, tru_l, tru_t, is_n, isn_n, nn_n, nn_i, nn_b, nn_t, nn_l, add_ii, add'_ii, sub_ii, neg_i, lt_ii, le_ii, gt_ii, ge_ii, ix_l, ix_t, ix_s, at0, at1, at2, sl_l, sl_t, len_l, len_t, len_s, abs_i, int_i, int_b, max_ii, min_ii, tup_s, lst_s, seq_l, seq_t, sum_s, wipe_n, wipe_c, mul_ii, fdiv_ii, mod_ii, add_ll, add_tt, setAll, mkT, mkL, oNot, List.getD_cons_zero, List.getD_cons_succ, List.length_cons, List.length_nil, List.set_cons_zero, List.set_cons_succ, List.map_cons, List.map_nil, List.replicate, List.cons_append, List.nil_append, List.append_nil, Option.bind_some, Option.map_some, List.all_cons, List.all_nil, if_true, if_false, reduceIte, Nat.reduceAdd, Nat.reduceSub, Nat.reduceLT, Nat.reduceLeDiff, Nat.reduceEqDiff, decide_true, decide_false, Bool.and_true, Bool.and_self, Bool.true_and, Bool.not_true, Bool.not_false, ne_eq, not_true_eq_false, not_false_eq_true, Nat.zero_add, Bool.false_eq_true, and_self, true_and, and_true, hl, hr, e2, eO]
  · have e1 : fst T need h = none := e1
    subst e3
    rw [e1]
    generalize T.map PyData.int = MT at *
    generalize (hrs h T.length).map PyData.int = HR at *
    simp -implicitDefEqProofs only [d_open_from, g_open_from, xVar_a, xC_a, xBin_a, xUn_a, tOf_a, tTru_a, tNotP_a, tAndP_a, tOrP_a, tyes_a, tno_a, tYesP_a, xNil_a, xCons_a, xTup_a, xLst_a, xAnd_a, xOr_a, xIf_a, xChain_a, oNo_a, oAt_a, xSl_a, xCall_a, xSeq_a, xIt_a, xLc_a, gSet_a, gTupD_a, gsNil_a, gsCons_a, sNop_a, sBrk_a, sCnt_a, sSeq_a, sRet_a, sIf_a, sSet_a, sTgt_a, sAug_a, sApp_a, sExt_a, sPut_a, sPutK_a, pkO_s, sFor_a, sWhile_a, sPar_a, runD_a, b2_s, c2_s, sqO_nx, sqO_rt, sqO_bk, sqO_ct, ifO_t, ifO_f, stO_s, endO_nx, endO_rt, andO_t, andO_f, orO_t, orO_f, chO_s, chP_t, chP_f, slO_s, atO_i, lcO_s, forO_s, gsO_s, nxO_s, tgO_s, paO_s, apO_s, exO_s, plO_s, ptO_s, dB_b, tru_b, tru_n, tru_i, tru_l, tru_t, is_n, isn_n, nn_n, nn_i, nn_b, nn_t, nn_l, add_ii, add'_ii, sub_ii, neg_i, lt_ii, le_ii, gt_ii, ge_ii, ix_l, ix_t, ix_s, at0, at1, at2, sl_l, sl_t, len_l, len_t, len_s, abs_i, int_i, int_b, max_ii, min_ii, tup_s, lst_s, seq_l, seq_t, sum_s, wipe_n, wipe_c, mul_ii, fdiv_ii, mod_ii, add_ll, add_tt, setAll, mkT, mkL, oNot, List.getD_cons_zero, List.getD_cons_succ, List.length_cons, List.length_nil, List.set_cons_zero, List.set_cons_succ, List.map_cons, List.map_nil, List.replicate, List.cons_append, List.nil_append, List.append_nil, Option.bind_some, Option.map_some, List.all_cons, List.all_nil, if_true, if_false, reduceIte, Nat.reduceAdd, Nat.reduceSub, Nat.reduceLT, Nat.reduceLeDiff, Nat.reduceEqDiff, decide_true, decide_false, Bool.and_true, Bool.and_self, Bool.true_and, Bool.not_true, Bool.not_false, ne_eq, not_true_eq_false, not_false_eq_true, Nat.zero_add, Bool.false_eq_true, and_self, true_and, and_true, hl, hr, e2, eO]
theorem find_filter {α : Type} (p : α → Bool) : ∀ l : List α, (l.filter p).head? = l.find? p
  | [] => rfl
  | x :: xs => by
    by_cases h : p x = true
    · rw [List.filter_cons_of_pos h, List.find?_cons_of_pos h]; rfl
    · rw [List.filter_cons_of_neg h, List.find?_cons_of_neg h]; exact find_filter p xs
theorem tide_at_eq {T : List Int} (hT : OkT T) (x : Int) : d_tide_at [.tuple (T.map PyData.int), .int x] = some (.int (T.getD (x.fmod T.length).toNat 0)) := by
  have hl : ((T.map PyData.int).length : Int) = (T.length : Int) := by rw [List.length_map]
  have hz : (T.length : Int) ≠ 0 := by have := hT.pos; omega
  have ha := at_f hT x
  generalize T.map PyData.int = MT at *
  simp -implicitDefEqProofs only [d_tide_at, g_tide_at, xVar_a, xC_a, xBin_a, xUn_a, tOf_a, tTru_a, tNotP_a, tAndP_a, tOrP_a, tyes_a, tno_a, tYesP_a, xNil_a, xCons_a, xTup_a, xLst_a, xAnd_a, xOr_a, xIf_a, xChain_a, oNo_a, oAt_a, xSl_a, xCall_a, xSeq_a, xIt_a, xLc_a, gSet_a, gTupD_a, gsNil_a, gsCons_a, sNop_a, sBrk_a, sCnt_a, sSeq_a, sRet_a, sIf_a, sSet_a, sTgt_a, sAug_a, sApp_a, sExt_a, sPut_a, sPutK_a, pkO_s, sFor_a, sWhile_a, sPar_a, runD_a, b2_s, c2_s, sqO_nx, sqO_rt, sqO_bk, sqO_ct, ifO_t, ifO_f, stO_s, endO_nx, endO_rt, andO_t, andO_f, orO_t, orO_f, chO_s, chP_t, chP_f, slO_s, atO_i, lcO_s, forO_s, gsO_s, nxO_s, tgO_s, paO_s, apO_s, exO_s, plO_s, ptO_s, dB_b, tru_b, tru_n, tru_i, tru_l, tru_t, is_n, isn_n, nn_n, nn_i, nn_b, nn_t, nn_l, add_ii, add'_ii, sub_ii, neg_i, lt_ii, le_ii, gt_ii, ge_ii, ix_l, ix_t, ix_s, at0, at1, at2, sl_l, sl_t, len_l, len_t, len_s, abs_i, int_i, int_b, max_ii, min_ii, tup_s, lst_s, seq_l, seq_t, sum_s, wipe_n, wipe_c, mul_ii, fdiv_ii, mod_ii, add_ll, add_tt, setAll, mkT, mkL, oNot, List.getD_cons_zero, List.getD_cons_succ, List.length_cons, List.length_nil, List.set_cons_zero, List.set_cons_succ, List.map_cons, List.map_nil, List.replicate, List.cons_append, List.nil_append, List.append_nil, Option.bind_some, Option.map_some, List.all_cons, List.all_nil, if_true, if_false, reduceIte, Nat.reduceAdd, Nat.reduceSub, Nat.reduceLT, Nat.reduceLeDiff, Nat.reduceEqDiff, decide_true, decide_false, Bool.and_true, Bool.and_self, Bool.true_and, Bool.not_true, Bool.not_false, ne_eq, not_true_eq_false, not_false_eq_true, Nat.zero_add, Bool.false_eq_true, and_self, true_and, and_true, hl, mod_ii hz, ha]
theorem next_open_eq {T : List Int} (hT : OkT T) {need h : Int} (h0 : 0 ≤ h) (h1 : h < 100000) : d_next_open [.tuple (T.map PyData.int), .int need, .int h] = some (eO (fst T need h)) := by
  have hl : ((T.map PyData.int).length : Int) = (T.length : Int) := by rw [List.length_map]
  have hr := rg2 h0 h1 (n := T.length) (by have := hT.2; omega)
  have hL : lcL (gSet 4) (tOf (xBin oGe (xCall (fun ds => if ds.length = 2 then (d_tide_at) ds else none) (xCons (xVar 0) (xCons (xVar 4) xNil))) (xVar 1))) (xVar 4) [some (.tuple (T.map PyData.int)), some (.int need), some (.int h), none, none] ((hrs h T.length).map PyData.int) = some (((hrs h T.length).filter (opn T need)).map PyData.int) := by
    refine lcL_filter PyData.int PyData.int (opn T need) _ fun x hx => ⟨_, rfl, ?_, fun _ => rfl⟩
    have ha := tide_at_eq hT x
    unfold opn
    generalize T.map PyData.int = MT at *
    simp -implicitDefEqProofs only [xVar_a, xC_a, xBin_a, xUn_a, tOf_a, tTru_a, tNotP_a, tAndP_a, tOrP_a, tyes_a, tno_a, tYesP_a, xNil_a, xCons_a, xTup_a, xLst_a, xAnd_a, xOr_a, xIf_a, xChain_a, oNo_a, oAt_a, xSl_a, xCall_a, xSeq_a, xIt_a, xLc_a, gSet_a, gTupD_a, gsNil_a, gsCons_a, sNop_a, sBrk_a, sCnt_a, sSeq_a, sRet_a, sIf_a, sSet_a, sTgt_a, sAug_a, sApp_a, sExt_a, sPut_a, sPutK_a, pkO_s, sFor_a, sWhile_a, sPar_a, runD_a, b2_s, c2_s, sqO_nx, sqO_rt, sqO_bk, sqO_ct, ifO_t, ifO_f, stO_s, endO_nx, endO_rt, andO_t, andO_f, orO_t, orO_f, chO_s, chP_t, chP_f, slO_s, atO_i, lcO_s, forO_s, gsO_s, nxO_s, tgO_s, paO_s, apO_s, exO_s, plO_s, ptO_s, dB_b, tru_b, tru_n, tru_i, tru_l, tru_t, is_n, isn_n, nn_n, nn_i, nn_b, nn_t, nn_l, add_ii, add'_ii, sub_ii, neg_i, lt_ii, le_ii, gt_ii, ge_ii, ix_l, ix_t, ix_s, at0, at1, at2, sl_l, sl_t, len_l, len_t, len_s, abs_i, int_i, int_b, max_ii, min_ii, tup_s, lst_s, seq_l, seq_t, sum_s, wipe_n, wipe_c, mul_ii, fdiv_ii, mod_ii, add_ll, add_tt, setAll, mkT, mkL, oNot, List.getD_cons_zero, List.getD_cons_succ, List.length_cons, List.length_nil, List.set_cons_zero, List.set_cons_succ, List.map_cons, List.map_nil, List.replicate, List.cons_append, List.nil_append, List.append_nil, Option.bind_some, Option.map_some, List.all_cons, List.all_nil, if_true, if_false, reduceIte, Nat.reduceAdd, Nat.reduceSub, Nat.reduceLT, Nat.reduceLeDiff, Nat.reduceEqDiff, decide_true, decide_false, Bool.and_true, Bool.and_self, Bool.true_and, Bool.not_true, Bool.not_false, ne_eq, not_true_eq_false, not_false_eq_true, Nat.zero_add, Bool.false_eq_true, and_self, true_and, and_true, ha]
  have hf := find_filter (opn T need) (hrs h T.length)
  unfold fst
  rw [← hf]
  cases e : (hrs h T.length).filter (opn T need) with
  | nil =>
    rw [e] at hL
    generalize T.map PyData.int = MT at *
    generalize (hrs h T.length).map PyData.int = HR at *
    simp only [List.map_nil] at hL
    simp -implicitDefEqProofs only [d_next_open, g_next_open, xVar_a, xC_a, xBin_a, xUn_a, tOf_a, tTru_a, tNotP_a, tAndP_a, tOrP_a, tyes_a, tno_a, tYesP_a, xNil_a, xCons_a, xTup_a, xLst_a, xAnd_a, xOr_a, xIf_a, xChain_a, oNo_a, oAt_a, xSl_a, xCall_a, xSeq_a, xIt_a, xLc_a, gSet_a, gTupD_a, gsNil_a, gsCons_a, sNop_a, sBrk_a, sCnt_a, sSeq_a, sRet_a, sIf_a, sSet_a, sTgt_a, sAug_a, sApp_a, sExt_a, sPut_a, sPutK_a, pkO_s, sFor_a, sWhile_a, sPar_a, runD_a, b2_s, c2_s, sqO_nx, sqO_rt, sqO_bk, sqO_ct, ifO_t, ifO_f, stO_s, endO_nx, endO_rt, andO_t, andO_f, orO_t, orO_f, chO_s, chP_t, chP_f, slO_s, atO_i, lcO_s, forO_s, gsO_s, nxO_s, tgO_s, paO_s, apO_s, exO_s, plO_s, ptO_s, dB_b, tru_b, tru_n, tru_i, tru_l, tru_t, is_n, isn_n, nn_n, nn_i, nn_b, nn_t, nn_l, add_ii, add'_ii, sub_ii, neg_i, lt_ii, le_ii, gt_ii, ge_ii, ix_l, ix_t, ix_s, at0, at1, at2, sl_l, sl_t, len_l, len_t, len_s, abs_i, int_i, int_b, max_ii, min_ii, tup_s, lst_s, seq_l, seq_t, sum_s, wipe_n, wipe_c, mul_ii, fdiv_ii, mod_ii, add_ll, add_tt, setAll, mkT, mkL, oNot, List.getD_cons_zero, List.getD_cons_succ, List.length_cons, List.length_nil, List.set_cons_zero, List.set_cons_succ, List.map_cons, List.map_nil, List.replicate, List.cons_append, List.nil_append, List.append_nil, Option.bind_some, Option.map_some, List.all_cons, List.all_nil, if_true, if_false, reduceIte, Nat.reduceAdd, Nat.reduceSub, Nat.reduceLT, Nat.reduceLeDiff, Nat.reduceEqDiff, decide_true, decide_false, Bool.and_true, Bool.and_self, Bool.true_and, Bool.not_true, Bool.not_false, ne_eq, not_true_eq_false, not_false_eq_true, Nat.zero_add, Bool.false_eq_true, and_self, true_and, and_true, hl, hr, hL, List.isEmpty_nil, List.head?_nil, eO]
  | cons y ys =>
    rw [e] at hL
    generalize T.map PyData.int = MT at *
    generalize (hrs h T.length).map PyData.int = HR at *
    simp only [List.map_cons] at hL
    simp -implicitDefEqProofs only [d_next_open, g_next_open, xVar_a, xC_a, xBin_a, xUn_a, tOf_a, tTru_a, tNotP_a, tAndP_a, tOrP_a, tyes_a, tno_a, tYesP_a, xNil_a, xCons_a, xTup_a, xLst_a, xAnd_a, xOr_a, xIf_a, xChain_a, oNo_a, oAt_a, xSl_a, xCall_a, xSeq_a, xIt_a, xLc_a, gSet_a, gTupD_a, gsNil_a, gsCons_a, sNop_a, sBrk_a, sCnt_a, sSeq_a, sRet_a, sIf_a, sSet_a, sTgt_a, sAug_a, sApp_a, sExt_a, sPut_a, sPutK_a, pkO_s, sFor_a, sWhile_a, sPar_a, runD_a, b2_s, c2_s, sqO_nx, sqO_rt, sqO_bk, sqO_ct, ifO_t, ifO_f, stO_s, endO_nx, endO_rt, andO_t, andO_f, orO_t, orO_f, chO_s, chP_t, chP_f, slO_s, atO_i, lcO_s, forO_s, gsO_s, nxO_s, tgO_s, paO_s, apO_s, exO_s, plO_s, ptO_s, dB_b, tru_b, tru_n, tru_i, tru_l, tru_t, is_n, isn_n, nn_n, nn_i, nn_b, nn_t, nn_l, add_ii, add'_ii, sub_ii, neg_i, lt_ii, le_ii, gt_ii, ge_ii, ix_l, ix_t, ix_s, at0, at1, at2, sl_l, sl_t, len_l, len_t, len_s, abs_i, int_i, int_b, max_ii, min_ii, tup_s, lst_s, seq_l, seq_t, sum_s, wipe_n, wipe_c, mul_ii, fdiv_ii, mod_ii, add_ll, add_tt, setAll, mkT, mkL, oNot, List.getD_cons_zero, List.getD_cons_succ, List.length_cons, List.length_nil, List.set_cons_zero, List.set_cons_succ, List.map_cons, List.map_nil, List.replicate, List.cons_append, List.nil_append, List.append_nil, Option.bind_some, Option.map_some, List.all_cons, List.all_nil, if_true, if_false, reduceIte, Nat.reduceAdd, Nat.reduceSub, Nat.reduceLT, Nat.reduceLeDiff, Nat.reduceEqDiff, decide_true, decide_false, Bool.and_true, Bool.and_self, Bool.true_and, Bool.not_true, Bool.not_false, ne_eq, not_true_eq_false, not_false_eq_true, Nat.zero_add, Bool.false_eq_true, and_self, true_and, and_true, hl, hr, hL, List.isEmpty_cons, List.head?_cons, eO]
theorem law_first_eq {T : List Int} (hT : OkT T) {need h : Int} (h0 : 0 ≤ h) (h1 : h < 100000) : d__law_first [.tuple (T.map PyData.int), .int need, .int h] = some (eO (fst T need h)) := by
  have hl : ((T.map PyData.int).length : Int) = (T.length : Int) := by rw [List.length_map]
  have hz : (T.length : Int) ≠ 0 := by have := hT.pos; omega
  have hr := rg2 h0 h1 (n := T.length) (by have := hT.2; omega)
  have hL : lcL (gSet 4) (tOf (xBin oGe (xBin oIx (xVar 0) (xBin oMod (xCall bInt (xCons (xVar 4) xNil)) (xCall bLen (xCons (xVar 0) xNil)))) (xVar 1))) (xVar 4) [some (.tuple (T.map PyData.int)), some (.int need), some (.int h), none, none] ((hrs h T.length).map PyData.int) = some (((hrs h T.length).filter (opn T need)).map PyData.int) := by
    refine lcL_filter PyData.int PyData.int (opn T need) _ fun x hx => ⟨_, rfl, ?_, fun _ => rfl⟩
    have ha := at_f hT x
    unfold opn
    generalize T.map PyData.int = MT at *
    simp -implicitDefEqProofs only [xVar_a, xC_a, xBin_a, xUn_a, tOf_a, tTru_a, tNotP_a, tAndP_a, tOrP_a, tyes_a, tno_a, tYesP_a, xNil_a, xCons_a, xTup_a, xLst_a, xAnd_a, xOr_a, xIf_a, xChain_a, oNo_a, oAt_a, xSl_a, xCall_a, xSeq_a, xIt_a, xLc_a, gSet_a, gTupD_a, gsNil_a, gsCons_a, sNop_a, sBrk_a, sCnt_a, sSeq_a, sRet_a, sIf_a, sSet_a, sTgt_a, sAug_a, sApp_a, sExt_a, sPut_a, sPutK_a, pkO_s, sFor_a, sWhile_a, sPar_a, runD_a, b2_s, c2_s, sqO_nx, sqO_rt, sqO_bk, sqO_ct, ifO_t, ifO_f, stO_s, endO_nx, endO_rt, andO_t, andO_f, orO_t, orO_f, chO_s, chP_t, chP_f, slO_s, atO_i, lcO_s, forO_s, gsO_s, nxO_s, tgO_s, paO_s, apO_s, exO_s, plO_s, ptO_s, dB_b, tru_b, tru_n, tru_i, tru_l, tru_t, is_n, isn_n, nn_n, nn_i, nn_b, nn_t, nn_l, add_ii, add'_ii, sub_ii, neg_i, lt_ii, le_ii, gt_ii, ge_ii, ix_l, ix_t, ix_s, at0, at1, at2, sl_l, sl_t, len_l, len_t, len_s, abs_i, int_i, int_b, max_ii, min_ii, tup_s, lst_s, seq_l, seq_t, sum_s, wipe_n, wipe_c, mul_ii, fdiv_ii, mod_ii, add_ll, add_tt, setAll, mkT, mkL, oNot, List.getD_cons_zero, List.getD_cons_succ, List.length_cons, List.length_nil, List.set_cons_zero, List.set_cons_succ, List.map_cons, List.map_nil, List.replicate, List.cons_append, List.nil_append, List.append_nil, Option.bind_some, Option.map_some, List.all_cons, List.all_nil, if_true, if_false, reduceIte, Nat.reduceAdd, Nat.reduceSub, Nat.reduceLT, Nat.reduceLeDiff, Nat.reduceEqDiff, decide_true, decide_false, Bool.and_true, Bool.and_self, Bool.true_and, Bool.not_true, Bool.not_false, ne_eq, not_true_eq_false, not_false_eq_true, Nat.zero_add, Bool.false_eq_true, and_self, true_and, and_true, hl, mod_ii hz, ha]
  have hf := find_filter (opn T need) (hrs h T.length)
  have hlen : ((hrs h T.length).filter (opn T need)).length ≤ 8 := by
    have h1 := List.length_filter_le (opn T need) (hrs h T.length)
    have h2 : (hrs h T.length).length = T.length := by unfold hrs; simp
    have := hT.2
    omega
  unfold fst
  rw [← hf]
  cases e : (hrs h T.length).filter (opn T need) with
  | nil =>
    rw [e] at hL
    have ad : oAdd (.list []) (.list [.none]) = some (.list [.none]) := add_ll (by simp)
    generalize T.map PyData.int = MT at *
    generalize (hrs h T.length).map PyData.int = HR at *
    simp only [List.map_nil] at hL
    simp -implicitDefEqProofs only [d__law_first, g__law_first, xVar_a, xC_a, xBin_a, xUn_a, tOf_a, tTru_a, tNotP_a, tAndP_a, tOrP_a, tyes_a, tno_a, tYesP_a, xNil_a, xCons_a, xTup_a, xLst_a, xAnd_a, xOr_a, xIf_a, xChain_a, oNo_a, oAt_a, xSl_a, xCall_a, xSeq_a, xIt_a, xLc_a, gSet_a, gTupD_a, gsNil_a, gsCons_a, sNop_a, sBrk_a, sCnt_a, sSeq_a, sRet_a, sIf_a, sSet_a, sTgt_a, sAug_a, sApp_a, sExt_a, sPut_a, sPutK_a, pkO_s, sFor_a, sWhile_a, sPar_a, runD_a, b2_s, c2_s, sqO_nx, sqO_rt, sqO_bk, sqO_ct, ifO_t, ifO_f, stO_s, endO_nx, endO_rt, andO_t, andO_f, orO_t, orO_f, chO_s, chP_t, chP_f, slO_s, atO_i, lcO_s, forO_s, gsO_s, nxO_s, tgO_s, paO_s, apO_s, exO_s, plO_s, ptO_s, dB_b, tru_b, tru_n, tru_i, tru_l, tru_t, is_n, isn_n, nn_n, nn_i, nn_b, nn_t, nn_l, add_ii, add'_ii, sub_ii, neg_i, lt_ii, le_ii, gt_ii, ge_ii, ix_l, ix_t, ix_s, at0, at1, at2, sl_l, sl_t, len_l, len_t, len_s, abs_i, int_i, int_b, max_ii, min_ii, tup_s, lst_s, seq_l, seq_t, sum_s, wipe_n, wipe_c, mul_ii, fdiv_ii, mod_ii, add_ll, add_tt, setAll, mkT, mkL, oNot, List.getD_cons_zero, List.getD_cons_succ, List.length_cons, List.length_nil, List.set_cons_zero, List.set_cons_succ, List.map_cons, List.map_nil, List.replicate, List.cons_append, List.nil_append, List.append_nil, Option.bind_some, Option.map_some, List.all_cons, List.all_nil, if_true, if_false, reduceIte, Nat.reduceAdd, Nat.reduceSub, Nat.reduceLT, Nat.reduceLeDiff, Nat.reduceEqDiff, decide_true, decide_false, Bool.and_true, Bool.and_self, Bool.true_and, Bool.not_true, Bool.not_false, ne_eq, not_true_eq_false, not_false_eq_true, Nat.zero_add, Bool.false_eq_true, and_self, true_and, and_true, hl, hr, hL, ad, List.head?_nil, eO]
  | cons y ys =>
    rw [e] at hL hlen
    have ad : oAdd (.list (.int y :: ys.map PyData.int)) (.list [.none]) = some (.list (.int y :: (ys.map PyData.int ++ [.none]))) := by
      rw [add_ll (by simp at hlen ⊢; omega)]
      rfl
    generalize T.map PyData.int = MT at *
    generalize (hrs h T.length).map PyData.int = HR at *
    simp only [List.map_cons] at hL
    simp -implicitDefEqProofs only [d__law_first, g__law_first, xVar_a, xC_a, xBin_a, xUn_a, tOf_a, tTru_a, tNotP_a, tAndP_a, tOrP_a, tyes_a, tno_a, tYesP_a, xNil_a, xCons_a, xTup_a, xLst_a, xAnd_a, xOr_a, xIf_a, xChain_a, oNo_a, oAt_a, xSl_a, xCall_a, xSeq_a, xIt_a, xLc_a, gSet_a, gTupD_a, gsNil_a, gsCons_a, sNop_a, sBrk_a, sCnt_a, sSeq_a, sRet_a, sIf_a, sSet_a, sTgt_a, sAug_a, sApp_a, sExt_a, sPut_a, sPutK_a, pkO_s, sFor_a, sWhile_a, sPar_a, runD_a, b2_s, c2_s, sqO_nx, sqO_rt, sqO_bk, sqO_ct, ifO_t, ifO_f, stO_s, endO_nx, endO_rt, andO_t, andO_f, orO_t, orO_f, chO_s, chP_t, chP_f, slO_s, atO_i, lcO_s, forO_s, gsO_s, nxO_s, tgO_s, paO_s, apO_s, exO_s, plO_s, ptO_s, dB_b, tru_b, tru_n, tru_i, tru_l, tru_t, is_n, isn_n, nn_n, nn_i, nn_b, nn_t, nn_l, add_ii, add'_ii, sub_ii, neg_i, lt_ii, le_ii, gt_ii, ge_ii, ix_l, ix_t, ix_s, at0, at1, at2, sl_l, sl_t, len_l, len_t, len_s, abs_i, int_i, int_b, max_ii, min_ii, tup_s, lst_s, seq_l, seq_t, sum_s, wipe_n, wipe_c, mul_ii, fdiv_ii, mod_ii, add_ll, add_tt, setAll, mkT, mkL, oNot, List.getD_cons_zero, List.getD_cons_succ, List.length_cons, List.length_nil, List.set_cons_zero, List.set_cons_succ, List.map_cons, List.map_nil, List.replicate, List.cons_append, List.nil_append, List.append_nil, Option.bind_some, Option.map_some, List.all_cons, List.all_nil, if_true, if_false, reduceIte, Nat.reduceAdd, Nat.reduceSub, Nat.reduceLT, Nat.reduceLeDiff, Nat.reduceEqDiff, decide_true, decide_false, Bool.and_true, Bool.and_self, Bool.true_and, Bool.not_true, Bool.not_false, ne_eq, not_true_eq_false, not_false_eq_true, Nat.zero_add, Bool.false_eq_true, and_self, true_and, and_true, hl, hr, hL, ad, List.head?_cons, eO]
end K08

namespace K08
open PySem PySem.Spec PyProof.Rows L2 Pm
abbrev Sh := Int × Int
def enc (p : Sh) : D := .tuple [.int p.1, .int p.2]
def encC (c : List Int) : D := .tuple (c.map PyData.int)
def sqD (b : Bool) (xs : List D) : D := if b then .list xs else .tuple xs
theorem seq_q (b : Bool) (xs : List D) : seqD (sqD b xs) = some xs := by cases b <;> rfl
theorem len_q (b : Bool) (xs : List D) : bLen [sqD b xs] = some (.int xs.length) := by cases b <;> rfl
theorem ix_q (b : Bool) (xs : List D) (i : Int) : oIx (sqD b xs) (.int i) = atI xs i := by cases b <;> rfl
def nd (S : List Sh) (k : Int) : Int := (S.getD k.toNat (0, 0)).1
def wk (S : List Sh) (k : Int) : Int := (S.getD k.toNat (0, 0)).2
def mxN (S : List Sh) (c : List Int) : Int := (c.map (nd S)).max?.getD 0
def mxW (S : List Sh) (c : List Int) : Int := (c.map (wk S)).max?.getD 0
def OkS (S : List Sh) : Prop := ∀ s ∈ S, 0 ≤ s.2 ∧ s.2 ≤ 10
def OkC (S : List Sh) (c : List Int) : Prop := c ≠ [] ∧ ∀ k ∈ c, 0 ≤ k ∧ k < S.length
theorem atS {S : List Sh} {k : Int} (h : 0 ≤ k ∧ k < S.length) : atI (S.map enc) k = some (enc (S.getD k.toNat (0, 0))) := by
  obtain ⟨j, rfl⟩ := Int.eq_ofNat_of_zero_le h.1
  have hj : j < S.length := by omega
  rw [atI_nat _ _ (by rw [List.length_map]; exact hj), List.getElem_map, show (j : Int).toNat = j by omega, List.getD_eq_getElem?_getD, List.getElem?_eq_getElem hj, Option.getD_some]
theorem max_l {l : List Int} (h : l ≠ []) : ∃ m, l.max? = some m := by
  cases l with
  | nil => exact absurd rfl h
  | cons x xs => exact ⟨_, List.max?_cons'⟩
theorem mx_eq {l : List Int} (h : l ≠ []) : bMaxI [.list (l.map PyData.int)] = some (.int (l.max?.getD 0)) := by
  obtain ⟨m, hm⟩ := max_l h
  rw [hm]
  exact bMaxI_l hm
theorem mxW_rng {S : List Sh} (hS : OkS S) {c : List Int} (hc : OkC S c) : 0 ≤ mxW S c ∧ mxW S c ≤ 10 := by
  obtain ⟨m, hm⟩ := max_l (l := c.map (wk S)) (by simpa using hc.1)
  unfold mxW
  rw [hm, Option.getD_some]
  obtain ⟨k, hk, rfl⟩ := List.mem_map.mp ((List.max?_eq_some_iff.mp hm).1)
  have hk := hc.2 k hk
  have hlt : k.toNat < S.length := by omega
  have := hS _ (List.getElem_mem hlt)
  unfold wk
  rw [List.getD_eq_getElem?_getD, List.getElem?_eq_getElem hlt, Option.getD_some]
  exact this
theorem pick_l {S : List Sh} {c : List Int} (hc : OkC S c) (n i j : Nat) (hi : i < n) (hj : j < n) (hij : i ≠ j) (ρ : PEnv) (hρ : ρ.length = n) (h1 : ρ.getD i none = some (.tuple (S.map enc))) :
    lcL (gSet j) tYesP (xBin oIx (xBin oIx (xVar i) (xVar j)) (xC (.int 0))) ρ (c.map PyData.int) = some ((c.map (nd S)).map PyData.int) ∧
    lcL (gSet j) tYesP (xBin oIx (xBin oIx (xVar i) (xVar j)) (xC (.int 1))) ρ (c.map PyData.int) = some ((c.map (wk S)).map PyData.int) := by
  rw [List.map_map, List.map_map]
  refine ⟨lcL_map _ _ _ fun k hk => ?_, lcL_map _ _ _ fun k hk => ?_⟩
  all_goals
    have a := atS (hc.2 k hk)
    have hg : gSet j (.int k) ρ = some (ρ.set j (some (.int k))) := by
      show (if j < ρ.length then _ else _) = _
      rw [if_pos (by omega)]
    have e1 : (ρ.set j (some (.int k))).getD i none = some (.tuple (S.map enc)) := by
      rw [List.getD_eq_getElem?_getD, List.getElem?_set_ne (by omega), ← List.getD_eq_getElem?_getD]
      exact h1
    have e2 : (ρ.set j (some (.int k))).getD j none = some (.int k) := by
      rw [List.getD_eq_getElem?_getD, List.getElem?_set_self (by omega)]
      rfl
    rw [hg, Option.bind_some]
    generalize S.map enc = MS at *
    simp -implicitDefEqProofs only [xVar_a, xC_a, xBin_a, xUn_a, tOf_a, tTru_a, tNotP_a, tAndP_a, tOrP_a, tyes_a, tno_a, tYesP_a, xNil_a, xCons_a, xTup_a, xLst_a, xAnd_a, xOr_a, xIf_a, xChain_a, oNo_a, oAt_a, xSl_a, xCall_a, xSeq_a, xIt_a, xLc_a, gSet_a, gTupD_a, gsNil_a, gsCons_a, sNop_a, sBrk_a, sCnt_a, sSeq_a, sRet_a, sIf_a, sSet_a, sTgt_a, sAug_a, sApp_a, sExt_a, sPut_a, sPutK_a, pkO_s, sFor_a, sWhile_a, sPar_a, runD_a, b2_s, c2_s, sqO_nx, sqO_rt, sqO_bk, sqO_ct, ifO_t, ifO_f, stO_s, endO_nx, endO_rt, andO_t, andO_f, orO_t, orO_f, chO_s, chP_t, chP_f, slO_s, atO_i, lcO_s, forO_s, gsO_s, nxO_s, tgO_s, paO_s, apO_s, exO_s, plO_s, ptO_s, dB_b, tru_b, tru_n, tru_i, tru_l, tru_t, is_n, isn_n, nn_n, nn_i, nn_b, nn_t, nn_l, add_ii, add'_ii, sub_ii, neg_i, lt_ii, le_ii, gt_ii, ge_ii, ix_l, ix_t, ix_s, at0, at1, at2, sl_l, sl_t, len_l, len_t, len_s, abs_i, int_i, int_b, max_ii, min_ii, tup_s, lst_s, seq_l, seq_t, sum_s, wipe_n, wipe_c, mul_ii, fdiv_ii, mod_ii, add_ll, add_tt, setAll, mkT, mkL, oNot, List.getD_cons_zero, List.getD_cons_succ, List.length_cons, List.length_nil, List.set_cons_zero, List.set_cons_succ, List.map_cons, List.map_nil, List.replicate, List.cons_append, List.nil_append, List.append_nil, Option.bind_some, Option.map_some, List.all_cons, List.all_nil, if_true, if_false, reduceIte, Nat.reduceAdd, Nat.reduceSub, Nat.reduceLT, Nat.reduceLeDiff, Nat.reduceEqDiff, decide_true, decide_false, Bool.and_true, Bool.and_self, Bool.true_and, Bool.not_true, Bool.not_false, ne_eq, not_true_eq_false, not_false_eq_true, Nat.zero_add, Bool.false_eq_true, and_self, true_and, and_true, e1, e2, a, enc, nd, wk, Function.comp]
def tm (T : List Int) (S : List Sh) : Int → List (List Int) → Option (List Sh)
  | _, [] => some []
  | h, c :: cs => (fst T (mxN S c) h).bind fun b => (fst T (mxN S c) (b + mxW S c)).bind fun e => (tm T S (e + 1) cs).map ((b, e) :: ·)
theorem tm_len {T : List Int} {S : List Sh} : ∀ {h : Int} {cs : List (List Int)} {l : List Sh}, tm T S h cs = some l → l.length = cs.length
  | _, [], l, e => by cases e; rfl
  | h, c :: cs, l, e => by
    unfold tm at e
    obtain ⟨b, _, e⟩ := bind2 e
    obtain ⟨e', _, e⟩ := bind2 e
    obtain ⟨l', e1, rfl⟩ := Option.map_eq_some_iff.mp e
    rw [List.length_cons, List.length_cons, tm_len e1]
def tmD : Option (List Sh) → D
  | none => .none
  | some l => .tuple (l.map enc)

theorem tt_step {T : List Int} {S : List Sh} (hT : OkT T) (hS : OkS S) {c : List Int} (hc : OkC S c) {h : Int} (h0 : 0 ≤ h) (h1 : h < 90000) {acc : List Sh} (ha : acc.length < 1000) (x2 x6 x7 x8 x9 x10 : Option D) :
    (fst T (mxN S c) h = none ∧ l1_tide_times [some (.tuple (T.map PyData.int)), some (.tuple (S.map enc)), x2, some (encC c), some (.int h), some (.list (acc.map enc)), x6, x7, x8, x9, x10] = some (.rt .none)) ∨
    ∃ b e, fst T (mxN S c) h = some b ∧ fst T (mxN S c) (b + mxW S c) = some e ∧ l1_tide_times [some (.tuple (T.map PyData.int)), some (.tuple (S.map enc)), x2, some (encC c), some (.int h), some (.list (acc.map enc)), x6, x7, x8, x9, x10] =
      some (.nx [some (.tuple (T.map PyData.int)), some (.tuple (S.map enc)), x2, some (encC c), some (.int (e + 1)), some (.list ((acc ++ [(b, e)]).map enc)), some (.int b), some (.int e), some (.int (mxN S c)), some (.int (mxW S c)), x10]) := by
  have pk := fun ρ hρ h1 => pick_l hc 11 1 10 (by omega) (by omega) (by omega) ρ hρ h1
  have p1 := fun ρ hρ h1 => (pk ρ hρ h1).1
  have p2 := fun ρ hρ h1 => (pk ρ hρ h1).2
  have m1 := mx_eq (l := c.map (nd S)) (by simpa using hc.1)
  have m2 := mx_eq (l := c.map (wk S)) (by simpa using hc.1)
  rw [show (c.map (nd S)).max?.getD 0 = mxN S c from rfl] at m1
  rw [show (c.map (wk S)).max?.getD 0 = mxW S c from rfl] at m2
  have f1 := open_from_eq hT (need := mxN S c) h0 (by omega)
  have w := mxW_rng hS hc
  have hlt : (acc.map enc).length < 16777216 := by rw [List.length_map]; omega
  have e1 : flat (.int 0) = true := rfl
  have fi : ∀ i, flat (.int i) = true := fun _ => rfl
  have fn : flat .none = true := rfl
  cases hb : fst T (mxN S c) h with
  | none =>
    refine .inl ⟨rfl, ?_⟩
    rw [hb] at f1
    unfold encC
    generalize T.map PyData.int = MT at *
    generalize S.map enc = MS at *
    generalize acc.map enc = MA at *
    generalize (c.map (nd S)).map PyData.int = M1 at *
    generalize (c.map (wk S)).map PyData.int = M2 at *
    generalize c.map PyData.int = MC at *
    simp -implicitDefEqProofs only [l1_tide_times, xVar_a, xC_a, xBin_a, xUn_a, tOf_a, tTru_a, tNotP_a, tAndP_a, tOrP_a, tyes_a, tno_a, tYesP_a, xNil_a, xCons_a, xTup_a, xLst_a, xAnd_a, xOr_a, xIf_a, xChain_a, oNo_a, oAt_a, xSl_a, xCall_a, xSeq_a, xIt_a, xLc_a, gSet_a, gTupD_a, gsNil_a, gsCons_a, sNop_a, sBrk_a, sCnt_a, sSeq_a, sRet_a, sIf_a, sSet_a, sTgt_a, sAug_a, sApp_a, sExt_a, sPut_a, sPutK_a, pkO_s, sFor_a, sWhile_a, sPar_a, runD_a, b2_s, c2_s, sqO_nx, sqO_rt, sqO_bk, sqO_ct, ifO_t, ifO_f, stO_s, endO_nx, endO_rt, andO_t, andO_f, orO_t, orO_f, chO_s, chP_t, chP_f, slO_s, atO_i, lcO_s, forO_s, gsO_s, nxO_s, tgO_s, paO_s, apO_s, exO_s, plO_s, ptO_s, dB_b, tru_b, tru_n, tru_i, tru_l, tru_t, is_n, isn_n, nn_n, nn_i, nn_b, nn_t, nn_l, add_ii, add'_ii, sub_ii, neg_i, lt_ii, le_ii, gt_ii, ge_ii, ix_l, ix_t, ix_s, at0, at1, at2, sl_l, sl_t, len_l, len_t, len_s, abs_i, int_i, int_b, max_ii, min_ii, tup_s, lst_s, seq_l, seq_t, sum_s, wipe_n, wipe_c, mul_ii, fdiv_ii, mod_ii, add_ll, add_tt, setAll, mkT, mkL, oNot, List.getD_cons_zero, List.getD_cons_succ, List.length_cons, List.length_nil, List.set_cons_zero, List.set_cons_succ, List.map_cons, List.map_nil, List.replicate, List.cons_append, List.nil_append, List.append_nil, Option.bind_some, Option.map_some, List.all_cons, List.all_nil, if_true, if_false, reduceIte, Nat.reduceAdd, Nat.reduceSub, Nat.reduceLT, Nat.reduceLeDiff, Nat.reduceEqDiff, decide_true, decide_false, Bool.and_true, Bool.and_self, Bool.true_and, Bool.not_true, Bool.not_false, ne_eq, not_true_eq_false, not_false_eq_true, Nat.zero_add, Bool.false_eq_true, and_self, true_and, and_true, p1, p2, m1, m2, f1, eO, fn]
  | some b =>
    have hb2 := fst_some hb
    have hl8 := hT.2
    obtain ⟨e, he⟩ := fst_ex (h' := b + mxW S c) hT hb
    have f2 := open_from_eq hT (need := mxN S c) (h := b + mxW S c) (by omega) (by omega)
    refine .inr ⟨b, e, rfl, he, ?_⟩
    rw [hb] at f1
    rw [he] at f2
    rw [List.map_append]
    unfold encC
    generalize T.map PyData.int = MT at *
    generalize S.map enc = MS at *
    generalize acc.map enc = MA at *
    generalize (c.map (nd S)).map PyData.int = M1 at *
    generalize (c.map (wk S)).map PyData.int = M2 at *
    generalize c.map PyData.int = MC at *
    simp -implicitDefEqProofs only [l1_tide_times, xVar_a, xC_a, xBin_a, xUn_a, tOf_a, tTru_a, tNotP_a, tAndP_a, tOrP_a, tyes_a, tno_a, tYesP_a, xNil_a, xCons_a, xTup_a, xLst_a, xAnd_a, xOr_a, xIf_a, xChain_a, oNo_a, oAt_a, xSl_a, xCall_a, xSeq_a, xIt_a, xLc_a, gSet_a, gTupD_a, gsNil_a, gsCons_a, sNop_a, sBrk_a, sCnt_a, sSeq_a, sRet_a, sIf_a, sSet_a, sTgt_a, sAug_a, sApp_a, sExt_a, sPut_a, sPutK_a, pkO_s, sFor_a, sWhile_a, sPar_a, runD_a, b2_s, c2_s, sqO_nx, sqO_rt, sqO_bk, sqO_ct, ifO_t, ifO_f, stO_s, endO_nx, endO_rt, andO_t, andO_f, orO_t, orO_f, chO_s, chP_t, chP_f, slO_s, atO_i, lcO_s, forO_s, gsO_s, nxO_s, tgO_s, paO_s, apO_s, exO_s, plO_s, ptO_s, dB_b, tru_b, tru_n, tru_i, tru_l, tru_t, is_n, isn_n, nn_n, nn_i, nn_b, nn_t, nn_l, add_ii, add'_ii, sub_ii, neg_i, lt_ii, le_ii, gt_ii, ge_ii, ix_l, ix_t, ix_s, at0, at1, at2, sl_l, sl_t, len_l, len_t, len_s, abs_i, int_i, int_b, max_ii, min_ii, tup_s, lst_s, seq_l, seq_t, sum_s, wipe_n, wipe_c, mul_ii, fdiv_ii, mod_ii, add_ll, add_tt, setAll, mkT, mkL, oNot, List.getD_cons_zero, List.getD_cons_succ, List.length_cons, List.length_nil, List.set_cons_zero, List.set_cons_succ, List.map_cons, List.map_nil, List.replicate, List.cons_append, List.nil_append, List.append_nil, Option.bind_some, Option.map_some, List.all_cons, List.all_nil, if_true, if_false, reduceIte, Nat.reduceAdd, Nat.reduceSub, Nat.reduceLT, Nat.reduceLeDiff, Nat.reduceEqDiff, decide_true, decide_false, Bool.and_true, Bool.and_self, Bool.true_and, Bool.not_true, Bool.not_false, ne_eq, not_true_eq_false, not_false_eq_true, Nat.zero_add, Bool.false_eq_true, and_self, true_and, and_true, p1, p2, m1, m2, f1, f2, eO, fi, hlt, enc]
theorem tt_loop {T : List Int} {S : List Sh} (hT : OkT T) (hS : OkS S) : ∀ (cs : List (List Int)) (h : Int) (acc : List Sh) (x2 x3 x6 x7 x8 x9 x10 : Option D), (∀ c ∈ cs, OkC S c) → 0 ≤ h → h + 27 * cs.length < 80000 → acc.length + cs.length < 1000 →
    (tm T S h cs = none ∧ forL (gSet 3) l1_tide_times (cs.map encC) [some (.tuple (T.map PyData.int)), some (.tuple (S.map enc)), x2, x3, some (.int h), some (.list (acc.map enc)), x6, x7, x8, x9, x10] = some (.rt .none)) ∨
    ∃ l y3 y4 y6 y7 y8 y9 y10, tm T S h cs = some l ∧ forL (gSet 3) l1_tide_times (cs.map encC) [some (.tuple (T.map PyData.int)), some (.tuple (S.map enc)), x2, x3, some (.int h), some (.list (acc.map enc)), x6, x7, x8, x9, x10] =
      some (.nx [some (.tuple (T.map PyData.int)), some (.tuple (S.map enc)), x2, y3, y4, some (.list ((acc ++ l).map enc)), y6, y7, y8, y9, y10])
  | [], h, acc, x2, x3, x6, x7, x8, x9, x10, _, _, _, _ => .inr ⟨[], x3, _, x6, x7, x8, x9, x10, rfl, by rw [List.append_nil]; rfl⟩
  | c :: cs, h, acc, x2, x3, x6, x7, x8, x9, x10, hc, h0, h1, h2 => by
    rw [List.length_cons] at h1 h2
    have hg : gSet 3 (encC c) [some (.tuple (T.map PyData.int)), some (.tuple (S.map enc)), x2, x3, some (.int h), some (.list (acc.map enc)), x6, x7, x8, x9, x10] = some [some (.tuple (T.map PyData.int)), some (.tuple (S.map enc)), x2, some (encC c), some (.int h), some (.list (acc.map enc)), x6, x7, x8, x9, x10] := rfl
    rcases tt_step hT hS (hc c (by simp)) h0 (by omega) (acc := acc) (by omega) x2 x6 x7 x8 x9 x10 with ⟨e1, e2⟩ | ⟨b, e, e1, e2, e3⟩
    · refine .inl ⟨by unfold tm; rw [e1]; rfl, ?_⟩
      simp only [List.map_cons, forL, hg, Option.bind_some, e2]
    · have hb := fst_some e1
      have he := fst_some e2
      have w := mxW_rng hS (hc c (by simp))
      have hl8 := hT.2
      have := tt_loop hT hS cs (e + 1) (acc ++ [(b, e)]) x2 (some (encC c)) (some (.int b)) (some (.int e)) (some (.int (mxN S c))) (some (.int (mxW S c))) x10 (fun c' h' => hc c' (List.mem_cons_of_mem _ h')) (by omega) (by omega) (by simp; omega)
      have ht : tm T S h (c :: cs) = (tm T S (e + 1) cs).map ((b, e) :: ·) := by
        rw [tm, e1, Option.bind_some, e2, Option.bind_some]
      rcases this with ⟨t1, t2⟩ | ⟨l, y3, y4, y6, y7, y8, y9, y10, t1, t2⟩
      · refine .inl ⟨by rw [ht, t1]; rfl, ?_⟩
        simp only [List.map_cons, forL, hg, Option.bind_some, e3, t2]
      · refine .inr ⟨(b, e) :: l, y3, y4, y6, y7, y8, y9, y10, by rw [ht, t1]; rfl, ?_⟩
        rw [List.append_assoc] at t2
        simp only [List.map_cons, forL, hg, Option.bind_some, e3]
        exact t2
theorem tt_eq (b : Bool) {T : List Int} {S : List Sh} (hT : OkT T) (hS : OkS S) {cs : List (List Int)} (hc : ∀ c ∈ cs, OkC S c) (hl : cs.length ≤ 100) : d_tide_times [.tuple (T.map PyData.int), .tuple (S.map enc), sqD b (cs.map encC)] = some (tmD (tm T S 0 cs)) := by
  have := tt_loop hT hS cs 0 [] (some (sqD b (cs.map encC))) none none none none none none hc (by omega) (by omega) (by simp; omega)
  have sq := seq_q b (cs.map encC)
  rcases this with ⟨t1, t2⟩ | ⟨l, y3, y4, y6, y7, y8, y9, y10, t1, t2⟩
  · rw [t1]
    generalize sqD b (cs.map encC) = MQ at *
    generalize cs.map encC = MC at *
    generalize T.map PyData.int = MT at *
    generalize S.map enc = MS at *
    simp only [List.map_nil] at t2
    simp -implicitDefEqProofs only [d_tide_times, g_tide_times, xVar_a, xC_a, xBin_a, xUn_a, tOf_a, tTru_a, tNotP_a, tAndP_a, tOrP_a, tyes_a, tno_a, tYesP_a, xNil_a, xCons_a, xTup_a, xLst_a, xAnd_a, xOr_a, xIf_a, xChain_a, oNo_a, oAt_a, xSl_a, xCall_a, xSeq_a, xIt_a, xLc_a, gSet_a, gTupD_a, gsNil_a, gsCons_a, sNop_a, sBrk_a, sCnt_a, sSeq_a, sRet_a, sIf_a, sSet_a, sTgt_a, sAug_a, sApp_a, sExt_a, sPut_a, sPutK_a, pkO_s, sFor_a, sWhile_a, sPar_a, runD_a, b2_s, c2_s, sqO_nx, sqO_rt, sqO_bk, sqO_ct, ifO_t, ifO_f, stO_s, endO_nx, endO_rt, andO_t, andO_f, orO_t, orO_f, chO_s, chP_t, chP_f, slO_s, atO_i, lcO_s, forO_s, gsO_s, nxO_s, tgO_s, paO_s, apO_s, exO_s, plO_s, ptO_s, dB_b, tru_b, tru_n, tru_i, tru_l, tru_t, is_n, isn_n, nn_n, nn_i, nn_b, nn_t, nn_l, add_ii, add'_ii, sub_ii, neg_i, lt_ii, le_ii, gt_ii, ge_ii, ix_l, ix_t, ix_s, at0, at1, at2, sl_l, sl_t, len_l, len_t, len_s, abs_i, int_i, int_b, max_ii, min_ii, tup_s, lst_s, seq_l, seq_t, sum_s, wipe_n, wipe_c, mul_ii, fdiv_ii, mod_ii, add_ll, add_tt, setAll, mkT, mkL, oNot, List.getD_cons_zero, List.getD_cons_succ, List.length_cons, List.length_nil, List.set_cons_zero, List.set_cons_succ, List.map_cons, List.map_nil, List.replicate, List.cons_append, List.nil_append, List.append_nil, Option.bind_some, Option.map_some, List.all_cons, List.all_nil, if_true, if_false, reduceIte, Nat.reduceAdd, Nat.reduceSub, Nat.reduceLT, Nat.reduceLeDiff, Nat.reduceEqDiff, decide_true, decide_false, Bool.and_true, Bool.and_self, Bool.true_and, Bool.not_true, Bool.not_false, ne_eq, not_true_eq_false, not_false_eq_true, Nat.zero_add, Bool.false_eq_true, and_self, true_and, and_true, sq, t2, tmD]
  · rw [t1]
    generalize sqD b (cs.map encC) = MQ at *
    generalize cs.map encC = MC at *
    generalize T.map PyData.int = MT at *
    generalize S.map enc = MS at *
    simp only [List.map_nil, List.nil_append] at t2
    simp -implicitDefEqProofs only [d_tide_times, g_tide_times, xVar_a, xC_a, xBin_a, xUn_a, tOf_a, tTru_a, tNotP_a, tAndP_a, tOrP_a, tyes_a, tno_a, tYesP_a, xNil_a, xCons_a, xTup_a, xLst_a, xAnd_a, xOr_a, xIf_a, xChain_a, oNo_a, oAt_a, xSl_a, xCall_a, xSeq_a, xIt_a, xLc_a, gSet_a, gTupD_a, gsNil_a, gsCons_a, sNop_a, sBrk_a, sCnt_a, sSeq_a, sRet_a, sIf_a, sSet_a, sTgt_a, sAug_a, sApp_a, sExt_a, sPut_a, sPutK_a, pkO_s, sFor_a, sWhile_a, sPar_a, runD_a, b2_s, c2_s, sqO_nx, sqO_rt, sqO_bk, sqO_ct, ifO_t, ifO_f, stO_s, endO_nx, endO_rt, andO_t, andO_f, orO_t, orO_f, chO_s, chP_t, chP_f, slO_s, atO_i, lcO_s, forO_s, gsO_s, nxO_s, tgO_s, paO_s, apO_s, exO_s, plO_s, ptO_s, dB_b, tru_b, tru_n, tru_i, tru_l, tru_t, is_n, isn_n, nn_n, nn_i, nn_b, nn_t, nn_l, add_ii, add'_ii, sub_ii, neg_i, lt_ii, le_ii, gt_ii, ge_ii, ix_l, ix_t, ix_s, at0, at1, at2, sl_l, sl_t, len_l, len_t, len_s, abs_i, int_i, int_b, max_ii, min_ii, tup_s, lst_s, seq_l, seq_t, sum_s, wipe_n, wipe_c, mul_ii, fdiv_ii, mod_ii, add_ll, add_tt, setAll, mkT, mkL, oNot, List.getD_cons_zero, List.getD_cons_succ, List.length_cons, List.length_nil, List.set_cons_zero, List.set_cons_succ, List.map_cons, List.map_nil, List.replicate, List.cons_append, List.nil_append, List.append_nil, Option.bind_some, Option.map_some, List.all_cons, List.all_nil, if_true, if_false, reduceIte, Nat.reduceAdd, Nat.reduceSub, Nat.reduceLT, Nat.reduceLeDiff, Nat.reduceEqDiff, decide_true, decide_false, Bool.and_true, Bool.and_self, Bool.true_and, Bool.not_true, Bool.not_false, ne_eq, not_true_eq_false, not_false_eq_true, Nat.zero_add, Bool.false_eq_true, and_self, true_and, and_true, sq, t2, tmD]

theorem lt_step {T : List Int} {S : List Sh} (hT : OkT T) (hS : OkS S) {c : List Int} (hc : OkC S c) {h : Int} (h0 : 0 ≤ h) (h1 : h < 90000) {acc : List Sh} (ha : acc.length < 1000) (x2 x6 x7 x8 x9 x10 : Option D) :
    (fst T (mxN S c) h = none ∧ l1__law_times [some (.tuple (T.map PyData.int)), some (.tuple (S.map enc)), x2, some (encC c), some (.int h), some (.list (acc.map enc)), x6, x7, x8, x9, x10] = some (.rt .none)) ∨
    ∃ b e, fst T (mxN S c) h = some b ∧ fst T (mxN S c) (b + mxW S c) = some e ∧ l1__law_times [some (.tuple (T.map PyData.int)), some (.tuple (S.map enc)), x2, some (encC c), some (.int h), some (.list (acc.map enc)), x6, x7, x8, x9, x10] =
      some (.nx [some (.tuple (T.map PyData.int)), some (.tuple (S.map enc)), x2, some (encC c), some (.int (e + 1)), some (.list ((acc ++ [(b, e)]).map enc)), some (.int b), some (.int e), some (.int (mxN S c)), some (.int (mxW S c)), x10]) := by
  have pk := fun ρ hρ h1 => pick_l hc 11 1 10 (by omega) (by omega) (by omega) ρ hρ h1
  have p1 := fun ρ hρ h1 => (pk ρ hρ h1).1
  have p2 := fun ρ hρ h1 => (pk ρ hρ h1).2
  have m1 := mx_eq (l := c.map (nd S)) (by simpa using hc.1)
  have m2 := mx_eq (l := c.map (wk S)) (by simpa using hc.1)
  rw [show (c.map (nd S)).max?.getD 0 = mxN S c from rfl] at m1
  rw [show (c.map (wk S)).max?.getD 0 = mxW S c from rfl] at m2
  have f1 := law_first_eq hT (need := mxN S c) h0 (by omega)
  have w := mxW_rng hS hc
  have hlt : (acc.map enc).length < 16777216 := by rw [List.length_map]; omega
  have e1 : flat (.int 0) = true := rfl
  have fi : ∀ i, flat (.int i) = true := fun _ => rfl
  have fn : flat .none = true := rfl
  cases hb : fst T (mxN S c) h with
  | none =>
    refine .inl ⟨rfl, ?_⟩
    rw [hb] at f1
    unfold encC
    generalize T.map PyData.int = MT at *
    generalize S.map enc = MS at *
    generalize acc.map enc = MA at *
    generalize (c.map (nd S)).map PyData.int = M1 at *
    generalize (c.map (wk S)).map PyData.int = M2 at *
    generalize c.map PyData.int = MC at *
    simp -implicitDefEqProofs only [l1__law_times, xVar_a, xC_a, xBin_a, xUn_a, tOf_a, tTru_a, tNotP_a, tAndP_a, tOrP_a, tyes_a, tno_a, tYesP_a, xNil_a, xCons_a, xTup_a, xLst_a, xAnd_a, xOr_a, xIf_a, xChain_a, oNo_a, oAt_a, xSl_a, xCall_a, xSeq_a, xIt_a, xLc_a, gSet_a, gTupD_a, gsNil_a, gsCons_a, sNop_a, sBrk_a, sCnt_a, sSeq_a, sRet_a, sIf_a, sSet_a, sTgt_a, sAug_a, sApp_a, sExt_a, sPut_a, sPutK_a, pkO_s, sFor_a, sWhile_a, sPar_a, runD_a, b2_s, c2_s, sqO_nx, sqO_rt, sqO_bk, sqO_ct, ifO_t, ifO_f, stO_s, endO_nx, endO_rt, andO_t, andO_f, orO_t, orO_f, chO_s, chP_t, chP_f, slO_s, atO_i, lcO_s, forO_s, gsO_s, nxO_s, tgO_s, paO_s, apO_s, exO_s, plO_s, ptO_s, dB_b, tru_b, tru_n, tru_i, tru_l, tru_t, is_n, isn_n, nn_n, nn_i, nn_b, nn_t, nn_l, add_ii, add'_ii, sub_ii, neg_i, lt_ii, le_ii, gt_ii, ge_ii, ix_l, ix_t, ix_s, at0, at1, at2, sl_l, sl_t, len_l, len_t, len_s, abs_i, int_i, int_b, max_ii, min_ii, tup_s, lst_s, seq_l, seq_t, sum_s, wipe_n, wipe_c, mul_ii, fdiv_ii, mod_ii, add_ll, add_tt, setAll, mkT, mkL, oNot, List.getD_cons_zero, List.getD_cons_succ, List.length_cons, List.length_nil, List.set_cons_zero, List.set_cons_succ, List.map_cons, List.map_nil, List.replicate, List.cons_append, List.nil_append, List.append_nil, Option.bind_some, Option.map_some, List.all_cons, List.all_nil, if_true, if_false, reduceIte, Nat.reduceAdd, Nat.reduceSub, Nat.reduceLT, Nat.reduceLeDiff, Nat.reduceEqDiff, decide_true, decide_false, Bool.and_true, Bool.and_self, Bool.true_and, Bool.not_true, Bool.not_false, ne_eq, not_true_eq_false, not_false_eq_true, Nat.zero_add, Bool.false_eq_true, and_self, true_and, and_true, p1, p2, m1, m2, f1, eO, fn]
  | some b =>
    have hb2 := fst_some hb
    have hl8 := hT.2
    obtain ⟨e, he⟩ := fst_ex (h' := b + mxW S c) hT hb
    have f2 := law_first_eq hT (need := mxN S c) (h := b + mxW S c) (by omega) (by omega)
    refine .inr ⟨b, e, rfl, he, ?_⟩
    rw [hb] at f1
    rw [he] at f2
    rw [List.map_append]
    unfold encC
    generalize T.map PyData.int = MT at *
    generalize S.map enc = MS at *
    generalize acc.map enc = MA at *
    generalize (c.map (nd S)).map PyData.int = M1 at *
    generalize (c.map (wk S)).map PyData.int = M2 at *
    generalize c.map PyData.int = MC at *
    simp -implicitDefEqProofs only [l1__law_times, xVar_a, xC_a, xBin_a, xUn_a, tOf_a, tTru_a, tNotP_a, tAndP_a, tOrP_a, tyes_a, tno_a, tYesP_a, xNil_a, xCons_a, xTup_a, xLst_a, xAnd_a, xOr_a, xIf_a, xChain_a, oNo_a, oAt_a, xSl_a, xCall_a, xSeq_a, xIt_a, xLc_a, gSet_a, gTupD_a, gsNil_a, gsCons_a, sNop_a, sBrk_a, sCnt_a, sSeq_a, sRet_a, sIf_a, sSet_a, sTgt_a, sAug_a, sApp_a, sExt_a, sPut_a, sPutK_a, pkO_s, sFor_a, sWhile_a, sPar_a, runD_a, b2_s, c2_s, sqO_nx, sqO_rt, sqO_bk, sqO_ct, ifO_t, ifO_f, stO_s, endO_nx, endO_rt, andO_t, andO_f, orO_t, orO_f, chO_s, chP_t, chP_f, slO_s, atO_i, lcO_s, forO_s, gsO_s, nxO_s, tgO_s, paO_s, apO_s, exO_s, plO_s, ptO_s, dB_b, tru_b, tru_n, tru_i, tru_l, tru_t, is_n, isn_n, nn_n, nn_i, nn_b, nn_t, nn_l, add_ii, add'_ii, sub_ii, neg_i, lt_ii, le_ii, gt_ii, ge_ii, ix_l, ix_t, ix_s, at0, at1, at2, sl_l, sl_t, len_l, len_t, len_s, abs_i, int_i, int_b, max_ii, min_ii, tup_s, lst_s, seq_l, seq_t, sum_s, wipe_n, wipe_c, mul_ii, fdiv_ii, mod_ii, add_ll, add_tt, setAll, mkT, mkL, oNot, List.getD_cons_zero, List.getD_cons_succ, List.length_cons, List.length_nil, List.set_cons_zero, List.set_cons_succ, List.map_cons, List.map_nil, List.replicate, List.cons_append, List.nil_append, List.append_nil, Option.bind_some, Option.map_some, List.all_cons, List.all_nil, if_true, if_false, reduceIte, Nat.reduceAdd, Nat.reduceSub, Nat.reduceLT, Nat.reduceLeDiff, Nat.reduceEqDiff, decide_true, decide_false, Bool.and_true, Bool.and_self, Bool.true_and, Bool.not_true, Bool.not_false, ne_eq, not_true_eq_false, not_false_eq_true, Nat.zero_add, Bool.false_eq_true, and_self, true_and, and_true, p1, p2, m1, m2, f1, f2, eO, fi, hlt, enc]
theorem lt_loop {T : List Int} {S : List Sh} (hT : OkT T) (hS : OkS S) : ∀ (cs : List (List Int)) (h : Int) (acc : List Sh) (x2 x3 x6 x7 x8 x9 x10 : Option D), (∀ c ∈ cs, OkC S c) → 0 ≤ h → h + 27 * cs.length < 80000 → acc.length + cs.length < 1000 →
    (tm T S h cs = none ∧ forL (gSet 3) l1__law_times (cs.map encC) [some (.tuple (T.map PyData.int)), some (.tuple (S.map enc)), x2, x3, some (.int h), some (.list (acc.map enc)), x6, x7, x8, x9, x10] = some (.rt .none)) ∨
    ∃ l y3 y4 y6 y7 y8 y9 y10, tm T S h cs = some l ∧ forL (gSet 3) l1__law_times (cs.map encC) [some (.tuple (T.map PyData.int)), some (.tuple (S.map enc)), x2, x3, some (.int h), some (.list (acc.map enc)), x6, x7, x8, x9, x10] =
      some (.nx [some (.tuple (T.map PyData.int)), some (.tuple (S.map enc)), x2, y3, y4, some (.list ((acc ++ l).map enc)), y6, y7, y8, y9, y10])
  | [], h, acc, x2, x3, x6, x7, x8, x9, x10, _, _, _, _ => .inr ⟨[], x3, _, x6, x7, x8, x9, x10, rfl, by rw [List.append_nil]; rfl⟩
  | c :: cs, h, acc, x2, x3, x6, x7, x8, x9, x10, hc, h0, h1, h2 => by
    rw [List.length_cons] at h1 h2
    have hg : gSet 3 (encC c) [some (.tuple (T.map PyData.int)), some (.tuple (S.map enc)), x2, x3, some (.int h), some (.list (acc.map enc)), x6, x7, x8, x9, x10] = some [some (.tuple (T.map PyData.int)), some (.tuple (S.map enc)), x2, some (encC c), some (.int h), some (.list (acc.map enc)), x6, x7, x8, x9, x10] := rfl
    rcases lt_step hT hS (hc c (by simp)) h0 (by omega) (acc := acc) (by omega) x2 x6 x7 x8 x9 x10 with ⟨e1, e2⟩ | ⟨b, e, e1, e2, e3⟩
    · refine .inl ⟨by unfold tm; rw [e1]; rfl, ?_⟩
      simp only [List.map_cons, forL, hg, Option.bind_some, e2]
    · have hb := fst_some e1
      have he := fst_some e2
      have w := mxW_rng hS (hc c (by simp))
      have hl8 := hT.2
      have := lt_loop hT hS cs (e + 1) (acc ++ [(b, e)]) x2 (some (encC c)) (some (.int b)) (some (.int e)) (some (.int (mxN S c))) (some (.int (mxW S c))) x10 (fun c' h' => hc c' (List.mem_cons_of_mem _ h')) (by omega) (by omega) (by simp; omega)
      have ht : tm T S h (c :: cs) = (tm T S (e + 1) cs).map ((b, e) :: ·) := by
        rw [tm, e1, Option.bind_some, e2, Option.bind_some]
      rcases this with ⟨t1, t2⟩ | ⟨l, y3, y4, y6, y7, y8, y9, y10, t1, t2⟩
      · refine .inl ⟨by rw [ht, t1]; rfl, ?_⟩
        simp only [List.map_cons, forL, hg, Option.bind_some, e3, t2]
      · refine .inr ⟨(b, e) :: l, y3, y4, y6, y7, y8, y9, y10, by rw [ht, t1]; rfl, ?_⟩
        rw [List.append_assoc] at t2
        simp only [List.map_cons, forL, hg, Option.bind_some, e3]
        exact t2
theorem lt_eq (b : Bool) {T : List Int} {S : List Sh} (hT : OkT T) (hS : OkS S) {cs : List (List Int)} (hc : ∀ c ∈ cs, OkC S c) (hl : cs.length ≤ 100) : d__law_times [.tuple (T.map PyData.int), .tuple (S.map enc), sqD b (cs.map encC)] = some (tmD (tm T S 0 cs)) := by
  have := lt_loop hT hS cs 0 [] (some (sqD b (cs.map encC))) none none none none none none hc (by omega) (by omega) (by simp; omega)
  have sq := seq_q b (cs.map encC)
  rcases this with ⟨t1, t2⟩ | ⟨l, y3, y4, y6, y7, y8, y9, y10, t1, t2⟩
  · rw [t1]
    generalize sqD b (cs.map encC) = MQ at *
    generalize cs.map encC = MC at *
    generalize T.map PyData.int = MT at *
    generalize S.map enc = MS at *
    simp only [List.map_nil] at t2
    simp -implicitDefEqProofs only [d__law_times, g__law_times, xVar_a, xC_a, xBin_a, xUn_a, tOf_a, tTru_a, tNotP_a, tAndP_a, tOrP_a, tyes_a, tno_a, tYesP_a, xNil_a, xCons_a, xTup_a, xLst_a, xAnd_a, xOr_a, xIf_a, xChain_a, oNo_a, oAt_a, xSl_a, xCall_a, xSeq_a, xIt_a, xLc_a, gSet_a, gTupD_a, gsNil_a, gsCons_a, sNop_a, sBrk_a, sCnt_a, sSeq_a, sRet_a, sIf_a, sSet_a, sTgt_a, sAug_a, sApp_a, sExt_a, sPut_a, sPutK_a, pkO_s, sFor_a, sWhile_a, sPar_a, runD_a, b2_s, c2_s, sqO_nx, sqO_rt, sqO_bk, sqO_ct, ifO_t, ifO_f, stO_s, endO_nx, endO_rt, andO_t, andO_f, orO_t, orO_f, chO_s, chP_t, chP_f, slO_s, atO_i, lcO_s, forO_s, gsO_s, nxO_s, tgO_s, paO_s, apO_s, exO_s, plO_s, ptO_s, dB_b, tru_b, tru_n, tru_i, tru_l, tru_t, is_n, isn_n, nn_n, nn_i, nn_b, nn_t, nn_l, add_ii, add'_ii, sub_ii, neg_i, lt_ii, le_ii, gt_ii, ge_ii, ix_l, ix_t, ix_s, at0, at1, at2, sl_l, sl_t, len_l, len_t, len_s, abs_i, int_i, int_b, max_ii, min_ii, tup_s, lst_s, seq_l, seq_t, sum_s, wipe_n, wipe_c, mul_ii, fdiv_ii, mod_ii, add_ll, add_tt, setAll, mkT, mkL, oNot, List.getD_cons_zero, List.getD_cons_succ, List.length_cons, List.length_nil, List.set_cons_zero, List.set_cons_succ, List.map_cons, List.map_nil, List.replicate, List.cons_append, List.nil_append, List.append_nil, Option.bind_some, Option.map_some, List.all_cons, List.all_nil, if_true, if_false, reduceIte, Nat.reduceAdd, Nat.reduceSub, Nat.reduceLT, Nat.reduceLeDiff, Nat.reduceEqDiff, decide_true, decide_false, Bool.and_true, Bool.and_self, Bool.true_and, Bool.not_true, Bool.not_false, ne_eq, not_true_eq_false, not_false_eq_true, Nat.zero_add, Bool.false_eq_true, and_self, true_and, and_true, sq, t2, tmD]
  · rw [t1]
    generalize sqD b (cs.map encC) = MQ at *
    generalize cs.map encC = MC at *
    generalize T.map PyData.int = MT at *
    generalize S.map enc = MS at *
    simp only [List.map_nil, List.nil_append] at t2
    simp -implicitDefEqProofs only [d__law_times, g__law_times, xVar_a, xC_a, xBin_a, xUn_a, tOf_a, tTru_a, tNotP_a, tAndP_a, tOrP_a, tyes_a, tno_a, tYesP_a, xNil_a, xCons_a, xTup_a, xLst_a, xAnd_a, xOr_a, xIf_a, xChain_a, oNo_a, oAt_a, xSl_a, xCall_a, xSeq_a, xIt_a, xLc_a, gSet_a, gTupD_a, gsNil_a, gsCons_a, sNop_a, sBrk_a, sCnt_a, sSeq_a, sRet_a, sIf_a, sSet_a, sTgt_a, sAug_a, sApp_a, sExt_a, sPut_a, sPutK_a, pkO_s, sFor_a, sWhile_a, sPar_a, runD_a, b2_s, c2_s, sqO_nx, sqO_rt, sqO_bk, sqO_ct, ifO_t, ifO_f, stO_s, endO_nx, endO_rt, andO_t, andO_f, orO_t, orO_f, chO_s, chP_t, chP_f, slO_s, atO_i, lcO_s, forO_s, gsO_s, nxO_s, tgO_s, paO_s, apO_s, exO_s, plO_s, ptO_s, dB_b, tru_b, tru_n, tru_i, tru_l, tru_t, is_n, isn_n, nn_n, nn_i, nn_b, nn_t, nn_l, add_ii, add'_ii, sub_ii, neg_i, lt_ii, le_ii, gt_ii, ge_ii, ix_l, ix_t, ix_s, at0, at1, at2, sl_l, sl_t, len_l, len_t, len_s, abs_i, int_i, int_b, max_ii, min_ii, tup_s, lst_s, seq_l, seq_t, sum_s, wipe_n, wipe_c, mul_ii, fdiv_ii, mod_ii, add_ll, add_tt, setAll, mkT, mkL, oNot, List.getD_cons_zero, List.getD_cons_succ, List.length_cons, List.length_nil, List.set_cons_zero, List.set_cons_succ, List.map_cons, List.map_nil, List.replicate, List.cons_append, List.nil_append, List.append_nil, Option.bind_some, Option.map_some, List.all_cons, List.all_nil, if_true, if_false, reduceIte, Nat.reduceAdd, Nat.reduceSub, Nat.reduceLT, Nat.reduceLeDiff, Nat.reduceEqDiff, decide_true, decide_false, Bool.and_true, Bool.and_self, Bool.true_and, Bool.not_true, Bool.not_false, ne_eq, not_true_eq_false, not_false_eq_true, Nat.zero_add, Bool.false_eq_true, and_self, true_and, and_true, sq, t2, tmD]

/-- the hour of the last out -/
def endT (T : List Int) (S : List Sh) (cs : List (List Int)) : Option Int := (tm T S 0 cs).bind fun l => l.getLast?.map Prod.snd
theorem at_last {l : List Sh} {p : Sh} (h : l.getLast? = some p) : atI (l.map enc) (-1) = some (enc p) ∧ atI (l.map enc) ((l.length : Int) - 1) = some (enc p) := by
  have hne : l ≠ [] := by rintro rfl; cases h
  have hlp := List.length_pos_iff.mpr hne
  have hz : (l.map enc)[l.length - 1]? = some (enc p) := by
    rw [List.getElem?_map, ← List.getLast?_eq_getElem?, h]
    rfl
  constructor
  · unfold atI
    have e : ixN (l.map enc).length (-1) = some (l.length - 1) := by
      unfold ixN
      rw [if_neg (by decide), List.length_map, if_pos (by omega)]
      exact congrArg some (by omega)
    rw [e, Option.bind_some]
    exact hz
  · have := atI_nat (l.map enc) (l.length - 1) (by rw [List.length_map]; omega)
    rw [show ((l.length - 1 : Nat) : Int) = (l.length : Int) - 1 by omega] at this
    rw [this, ← hz, List.getElem?_eq_getElem (by rw [List.length_map]; omega)]
theorem tide_end_eq (b : Bool) {T : List Int} {S : List Sh} (hT : OkT T) (hS : OkS S) {cs : List (List Int)} (hc : ∀ c ∈ cs, OkC S c) (hl : cs.length ≤ 100) : d_tide_end [.tuple (T.map PyData.int), .tuple (S.map enc), sqD b (cs.map encC)] = some (eO (endT T S cs)) := by
  have t := tt_eq b hT hS hc hl
  unfold endT
  cases e : tm T S 0 cs with
  | none =>
    rw [e] at t
    generalize sqD b (cs.map encC) = MQ at *
    generalize T.map PyData.int = MT at *
    generalize S.map enc = MS at *
    simp -implicitDefEqProofs only [d_tide_end, g_tide_end, xVar_a, xC_a, xBin_a, xUn_a, tOf_a, tTru_a, tNotP_a, tAndP_a, tOrP_a, tyes_a, tno_a, tYesP_a, xNil_a, xCons_a, xTup_a, xLst_a, xAnd_a, xOr_a, xIf_a, xChain_a, oNo_a, oAt_a, xSl_a, xCall_a, xSeq_a, xIt_a, xLc_a, gSet_a, gTupD_a, gsNil_a, gsCons_a, sNop_a, sBrk_a, sCnt_a, sSeq_a, sRet_a, sIf_a, sSet_a, sTgt_a, sAug_a, sApp_a, sExt_a, sPut_a, sPutK_a, pkO_s, sFor_a, sWhile_a, sPar_a, runD_a, b2_s, c2_s, sqO_nx, sqO_rt, sqO_bk, sqO_ct, ifO_t, ifO_f, stO_s, endO_nx, endO_rt, andO_t, andO_f, orO_t, orO_f, chO_s, chP_t, chP_f, slO_s, atO_i, lcO_s, forO_s, gsO_s, nxO_s, tgO_s, paO_s, apO_s, exO_s, plO_s, ptO_s, dB_b, tru_b, tru_n, tru_i, tru_l, tru_t, is_n, isn_n, nn_n, nn_i, nn_b, nn_t, nn_l, add_ii, add'_ii, sub_ii, neg_i, lt_ii, le_ii, gt_ii, ge_ii, ix_l, ix_t, ix_s, at0, at1, at2, sl_l, sl_t, len_l, len_t, len_s, abs_i, int_i, int_b, max_ii, min_ii, tup_s, lst_s, seq_l, seq_t, sum_s, wipe_n, wipe_c, mul_ii, fdiv_ii, mod_ii, add_ll, add_tt, setAll, mkT, mkL, oNot, List.getD_cons_zero, List.getD_cons_succ, List.length_cons, List.length_nil, List.set_cons_zero, List.set_cons_succ, List.map_cons, List.map_nil, List.replicate, List.cons_append, List.nil_append, List.append_nil, Option.bind_some, Option.map_some, List.all_cons, List.all_nil, if_true, if_false, reduceIte, Nat.reduceAdd, Nat.reduceSub, Nat.reduceLT, Nat.reduceLeDiff, Nat.reduceEqDiff, decide_true, decide_false, Bool.and_true, Bool.and_self, Bool.true_and, Bool.not_true, Bool.not_false, ne_eq, not_true_eq_false, not_false_eq_true, Nat.zero_add, Bool.false_eq_true, and_self, true_and, and_true, t, tmD, Option.bind_none, eO]
  | some l =>
    rw [e] at t
    rw [Option.bind_some]
    cases h : l.getLast? with
    | none =>
      have : l = [] := by simpa using h
      subst this
      generalize sqD b (cs.map encC) = MQ at *
      generalize T.map PyData.int = MT at *
      generalize S.map enc = MS at *
      simp -implicitDefEqProofs only [d_tide_end, g_tide_end, xVar_a, xC_a, xBin_a, xUn_a, tOf_a, tTru_a, tNotP_a, tAndP_a, tOrP_a, tyes_a, tno_a, tYesP_a, xNil_a, xCons_a, xTup_a, xLst_a, xAnd_a, xOr_a, xIf_a, xChain_a, oNo_a, oAt_a, xSl_a, xCall_a, xSeq_a, xIt_a, xLc_a, gSet_a, gTupD_a, gsNil_a, gsCons_a, sNop_a, sBrk_a, sCnt_a, sSeq_a, sRet_a, sIf_a, sSet_a, sTgt_a, sAug_a, sApp_a, sExt_a, sPut_a, sPutK_a, pkO_s, sFor_a, sWhile_a, sPar_a, runD_a, b2_s, c2_s, sqO_nx, sqO_rt, sqO_bk, sqO_ct, ifO_t, ifO_f, stO_s, endO_nx, endO_rt, andO_t, andO_f, orO_t, orO_f, chO_s, chP_t, chP_f, slO_s, atO_i, lcO_s, forO_s, gsO_s, nxO_s, tgO_s, paO_s, apO_s, exO_s, plO_s, ptO_s, dB_b, tru_b, tru_n, tru_i, tru_l, tru_t, is_n, isn_n, nn_n, nn_i, nn_b, nn_t, nn_l, add_ii, add'_ii, sub_ii, neg_i, lt_ii, le_ii, gt_ii, ge_ii, ix_l, ix_t, ix_s, at0, at1, at2, sl_l, sl_t, len_l, len_t, len_s, abs_i, int_i, int_b, max_ii, min_ii, tup_s, lst_s, seq_l, seq_t, sum_s, wipe_n, wipe_c, mul_ii, fdiv_ii, mod_ii, add_ll, add_tt, setAll, mkT, mkL, oNot, List.getD_cons_zero, List.getD_cons_succ, List.length_cons, List.length_nil, List.set_cons_zero, List.set_cons_succ, List.map_cons, List.map_nil, List.replicate, List.cons_append, List.nil_append, List.append_nil, Option.bind_some, Option.map_some, List.all_cons, List.all_nil, if_true, if_false, reduceIte, Nat.reduceAdd, Nat.reduceSub, Nat.reduceLT, Nat.reduceLeDiff, Nat.reduceEqDiff, decide_true, decide_false, Bool.and_true, Bool.and_self, Bool.true_and, Bool.not_true, Bool.not_false, ne_eq, not_true_eq_false, not_false_eq_true, Nat.zero_add, Bool.false_eq_true, and_self, true_and, and_true, t, tmD, eO, List.isEmpty_nil, Option.map_none]
    | some p =>
      obtain ⟨a1, a2⟩ := at_last h
      have hne : l ≠ [] := by rintro rfl; cases h
      obtain ⟨y, ys, hy⟩ : ∃ y ys, l.map enc = y :: ys := by
        cases l with
        | nil => exact absurd rfl hne
        | cons y ys => exact ⟨_, _, rfl⟩
      have ie : (l.map enc).isEmpty = false := by rw [hy]; rfl
      rw [show tmD (some l) = .tuple (l.map enc) from rfl] at t
      generalize sqD b (cs.map encC) = MQ at *
      generalize T.map PyData.int = MT at *
      generalize S.map enc = MS at *
      generalize l.map enc = ML at *
      simp -implicitDefEqProofs only [d_tide_end, g_tide_end, xVar_a, xC_a, xBin_a, xUn_a, tOf_a, tTru_a, tNotP_a, tAndP_a, tOrP_a, tyes_a, tno_a, tYesP_a, xNil_a, xCons_a, xTup_a, xLst_a, xAnd_a, xOr_a, xIf_a, xChain_a, oNo_a, oAt_a, xSl_a, xCall_a, xSeq_a, xIt_a, xLc_a, gSet_a, gTupD_a, gsNil_a, gsCons_a, sNop_a, sBrk_a, sCnt_a, sSeq_a, sRet_a, sIf_a, sSet_a, sTgt_a, sAug_a, sApp_a, sExt_a, sPut_a, sPutK_a, pkO_s, sFor_a, sWhile_a, sPar_a, runD_a, b2_s, c2_s, sqO_nx, sqO_rt, sqO_bk, sqO_ct, ifO_t, ifO_f, stO_s, endO_nx, endO_rt, andO_t, andO_f, orO_t, orO_f, chO_s, chP_t, chP_f, slO_s, atO_i, lcO_s, forO_s, gsO_s, nxO_s, tgO_s, paO_s, apO_s, exO_s, plO_s, ptO_s, dB_b, tru_b, tru_n, tru_i, tru_l, tru_t, is_n, isn_n, nn_n, nn_i, nn_b, nn_t, nn_l, add_ii, add'_ii, sub_ii, neg_i, lt_ii, le_ii, gt_ii, ge_ii, ix_l, ix_t, ix_s, at0, at1, at2, sl_l, sl_t, len_l, len_t, len_s, abs_i, int_i, int_b, max_ii, min_ii, tup_s, lst_s, seq_l, seq_t, sum_s, wipe_n, wipe_c, mul_ii, fdiv_ii, mod_ii, add_ll, add_tt, setAll, mkT, mkL, oNot, List.getD_cons_zero, List.getD_cons_succ, List.length_cons, List.length_nil, List.set_cons_zero, List.set_cons_succ, List.map_cons, List.map_nil, List.replicate, List.cons_append, List.nil_append, List.append_nil, Option.bind_some, Option.map_some, List.all_cons, List.all_nil, if_true, if_false, reduceIte, Nat.reduceAdd, Nat.reduceSub, Nat.reduceLT, Nat.reduceLeDiff, Nat.reduceEqDiff, decide_true, decide_false, Bool.and_true, Bool.and_self, Bool.true_and, Bool.not_true, Bool.not_false, ne_eq, not_true_eq_false, not_false_eq_true, Nat.zero_add, Bool.false_eq_true, and_self, true_and, and_true, t, tmD, eO, ie, a1, enc]
end K08

namespace K08
open PySem PySem.Spec PyProof.Rows L2 Pm
def encSs (s : List (List Int)) : D := .tuple (s.map encC)
def ORD : Nat → List (List Int)
  | 1 => [[0]]
  | 2 => [[0, 1], [1, 0]]
  | 3 => [[0, 1, 2], [0, 2, 1], [1, 0, 2], [1, 2, 0], [2, 0, 1], [2, 1, 0]]
  | 4 => [[0, 1, 2, 3], [0, 1, 3, 2], [0, 2, 1, 3], [0, 2, 3, 1], [0, 3, 1, 2], [0, 3, 2, 1], [1, 0, 2, 3], [1, 0, 3, 2], [1, 2, 0, 3], [1, 2, 3, 0], [1, 3, 0, 2], [1, 3, 2, 0], [2, 0, 1, 3], [2, 0, 3, 1], [2, 1, 0, 3], [2, 1, 3, 0], [2, 3, 0, 1], [2, 3, 1, 0], [3, 0, 1, 2], [3, 0, 2, 1], [3, 1, 0, 2], [3, 1, 2, 0], [3, 2, 0, 1], [3, 2, 1, 0]]
  | _ => []
def PT1 : List (List (List Int)) := [[[0]]]
def PT2 : List (List (List Int)) := [[[0, 1]], [[0], [1]], [[1], [0]]]
def PT3 : List (List (List Int)) := [[[0, 1, 2]], [[0, 1], [2]], [[0, 2], [1]], [[0], [1, 2]], [[0], [1], [2]], [[0], [2], [1]], [[1, 2], [0]], [[1], [0, 2]], [[1], [0], [2]], [[2], [0, 1]], [[2], [0], [1]], [[1], [2], [0]], [[2], [1], [0]]]
def PT4 : List (List (List Int)) := [[[0, 1, 2, 3]], [[0, 1, 2], [3]], [[0, 1, 3], [2]], [[0, 1], [2, 3]], [[0, 1], [2], [3]], [[0, 1], [3], [2]], [[0, 2, 3], [1]], [[0, 2], [1, 3]], [[0, 2], [1], [3]], [[0, 3], [1, 2]], [[0], [1, 2, 3]], [[0], [1, 2], [3]], [[0, 3], [1], [2]], [[0], [1, 3], [2]], [[0], [1], [2, 3]], [[0], [1], [2], [3]], [[0], [1], [3], [2]], [[0, 2], [3], [1]], [[0, 3], [2], [1]], [[0], [2, 3], [1]], [[0], [2], [1, 3]], [[0], [2], [1], [3]], [[0], [3], [1, 2]], [[0], [3], [1], [2]], [[0], [2], [3], [1]], [[0], [3], [2], [1]], [[1, 2, 3], [0]], [[1, 2], [0, 3]], [[1, 2], [0], [3]], [[1, 3], [0, 2]], [[1], [0, 2, 3]], [[1], [0, 2], [3]], [[1, 3], [0], [2]], [[1], [0, 3], [2]], [[1], [0], [2, 3]], [[1], [0], [2], [3]], [[1], [0], [3], [2]], [[2, 3], [0, 1]], [[2], [0, 1, 3]], [[2], [0, 1], [3]], [[3], [0, 1, 2]], [[3], [0, 1], [2]], [[2, 3], [0], [1]], [[2], [0, 3], [1]], [[2], [0], [1, 3]], [[2], [0], [1], [3]], [[3], [0, 2], [1]], [[3], [0], [1, 2]], [[3], [0], [1], [2]], [[2], [0], [3], [1]], [[3], [0], [2], [1]], [[1, 2], [3], [0]], [[1, 3], [2], [0]], [[1], [2, 3], [0]], [[1], [2], [0, 3]], [[1], [2], [0], [3]], [[1], [3], [0, 2]], [[1], [3], [0], [2]], [[2, 3], [1], [0]], [[2], [1, 3], [0]], [[2], [1], [0, 3]], [[2], [1], [0], [3]], [[3], [1, 2], [0]], [[3], [1], [0, 2]], [[3], [1], [0], [2]], [[2], [3], [0, 1]], [[3], [2], [0, 1]], [[2], [3], [0], [1]], [[3], [2], [0], [1]], [[1], [2], [3], [0]], [[1], [3], [2], [0]], [[2], [1], [3], [0]], [[3], [1], [2], [0]], [[2], [3], [1], [0]], [[3], [2], [1], [0]]]
def PT : Nat → List (List (List Int))
  | 1 => PT1
  | 2 => PT2
  | 3 => PT3
  | 4 => PT4
  | _ => []
def SR : Nat → Nat → List (List (List Int))
  | 1, 1 => [[[0]]]
  | 2, 1 => [[[0], [1]]]
  | 2, 2 => [[[0], [1]], [[0, 1]]]
  | 3, 1 => [[[0], [1], [2]]]
  | 3, 2 => [[[0], [1], [2]], [[0, 2], [1]], [[0], [1, 2]], [[0, 1], [2]]]
  | 3, 3 => [[[0], [1], [2]], [[0, 2], [1]], [[0], [1, 2]], [[0, 1], [2]], [[0, 1, 2]]]
  | 4, 1 => [[[0], [1], [2], [3]]]
  | 4, 2 => [[[0], [1], [2], [3]], [[0, 3], [1], [2]], [[0], [1, 3], [2]], [[0], [1], [2, 3]], [[0, 2], [1], [3]], [[0, 2], [1, 3]], [[0], [1, 2], [3]], [[0, 3], [1, 2]], [[0, 1], [2], [3]], [[0, 1], [2, 3]]]
  | 4, 3 => [[[0], [1], [2], [3]], [[0, 3], [1], [2]], [[0], [1, 3], [2]], [[0], [1], [2, 3]], [[0, 2], [1], [3]], [[0, 2, 3], [1]], [[0, 2], [1, 3]], [[0], [1, 2], [3]], [[0, 3], [1, 2]], [[0], [1, 2, 3]], [[0, 1], [2], [3]], [[0, 1, 3], [2]], [[0, 1], [2, 3]], [[0, 1, 2], [3]]]
  | 4, 4 => [[[0], [1], [2], [3]], [[0, 3], [1], [2]], [[0], [1, 3], [2]], [[0], [1], [2, 3]], [[0, 2], [1], [3]], [[0, 2, 3], [1]], [[0, 2], [1, 3]], [[0], [1, 2], [3]], [[0, 3], [1, 2]], [[0], [1, 2, 3]], [[0, 1], [2], [3]], [[0, 1, 3], [2]], [[0, 1], [2, 3]], [[0, 1, 2], [3]], [[0, 1, 2, 3]]]
  | _, _ => []
def mxL (s : List (List Int)) : Nat := (s.map List.length).max?.getD 0
def app (row : List (List Int)) (o : List Int) : List (List Int) := o.map fun p => row.getD p.toNat []
def TS (n m : Nat) : List (List (List Int)) := (SR n m).flatMap fun row => (ORD row.length).map (app row)
def BL (n m : Nat) : List (List (List Int)) := (PT n).filter fun s => decide (mxL s ≤ m)
def okSs (n : Nat) (s : List (List Int)) : Bool := decide (1 ≤ s.length) && decide (s.length ≤ n) && s.all fun c => !c.isEmpty && decide (c.length ≤ n) && c.all fun k => decide (0 ≤ k) && decide (k < n)
def okO (n : Nat) (o : List Int) : Bool := decide (o.length = n) && o.all fun k => decide (0 ≤ k) && decide (k < n)
theorem or_a1 : d_all_orders [.int (1 : Nat)] = some (.list ((ORD 1).map encC)) := by kernel_rfl
theorem or_b1 : d__law_orders [.int (1 : Nat)] = some (.list ((ORD 1).map encC)) := by kernel_rfl
theorem or_o1 : (ORD 1).all (okO 1) = true := by kernel_rfl
theorem or_l1 : ((ORD 1).length ≤ 24 ∧ 1 ≤ (ORD 1).length) := by decide +kernel
theorem pt_a1 : d__law_partings [.int (1 : Nat)] = some (.list ((PT 1).map encSs)) := by kernel_rfl
theorem pt_o1 : (PT 1).all (okSs 1) = true := by kernel_rfl
theorem pt_l1 : ((PT 1).length ≤ 75 ∧ 1 ≤ (PT 1).length) := by decide +kernel
theorem sr_a11 : d_set_rows [.int (1 : Nat), .int (1 : Nat)] = some (.list ((SR 1 1).map encSs)) := by kernel_rfl
theorem sr_o11 : (SR 1 1).all (okSs 1) = true := by kernel_rfl
theorem sr_l11 : (SR 1 1).length ≤ 20 := by decide +kernel
theorem ts_b11 : (TS 1 1).all (fun x => (BL 1 1).contains x) = true := by kernel_rfl
theorem bl_t11 : (BL 1 1).all (fun x => (TS 1 1).contains x) = true := by kernel_rfl
theorem or_a2 : d_all_orders [.int (2 : Nat)] = some (.list ((ORD 2).map encC)) := by kernel_rfl
theorem or_b2 : d__law_orders [.int (2 : Nat)] = some (.list ((ORD 2).map encC)) := by kernel_rfl
theorem or_o2 : (ORD 2).all (okO 2) = true := by kernel_rfl
theorem or_l2 : ((ORD 2).length ≤ 24 ∧ 1 ≤ (ORD 2).length) := by decide +kernel
theorem pt_a2 : d__law_partings [.int (2 : Nat)] = some (.list ((PT 2).map encSs)) := by kernel_rfl
theorem pt_o2 : (PT 2).all (okSs 2) = true := by kernel_rfl
theorem pt_l2 : ((PT 2).length ≤ 75 ∧ 1 ≤ (PT 2).length) := by decide +kernel
theorem sr_a21 : d_set_rows [.int (2 : Nat), .int (1 : Nat)] = some (.list ((SR 2 1).map encSs)) := by kernel_rfl
theorem sr_o21 : (SR 2 1).all (okSs 2) = true := by kernel_rfl
theorem sr_l21 : (SR 2 1).length ≤ 20 := by decide +kernel
theorem ts_b21 : (TS 2 1).all (fun x => (BL 2 1).contains x) = true := by kernel_rfl
theorem bl_t21 : (BL 2 1).all (fun x => (TS 2 1).contains x) = true := by kernel_rfl
theorem sr_a22 : d_set_rows [.int (2 : Nat), .int (2 : Nat)] = some (.list ((SR 2 2).map encSs)) := by kernel_rfl
theorem sr_o22 : (SR 2 2).all (okSs 2) = true := by kernel_rfl
theorem sr_l22 : (SR 2 2).length ≤ 20 := by decide +kernel
theorem ts_b22 : (TS 2 2).all (fun x => (BL 2 2).contains x) = true := by kernel_rfl
theorem bl_t22 : (BL 2 2).all (fun x => (TS 2 2).contains x) = true := by kernel_rfl
theorem or_a3 : d_all_orders [.int (3 : Nat)] = some (.list ((ORD 3).map encC)) := by kernel_rfl
theorem or_b3 : d__law_orders [.int (3 : Nat)] = some (.list ((ORD 3).map encC)) := by kernel_rfl
theorem or_o3 : (ORD 3).all (okO 3) = true := by kernel_rfl
theorem or_l3 : ((ORD 3).length ≤ 24 ∧ 1 ≤ (ORD 3).length) := by decide +kernel
theorem pt_a3 : d__law_partings [.int (3 : Nat)] = some (.list ((PT 3).map encSs)) := by kernel_rfl
theorem pt_o3 : (PT 3).all (okSs 3) = true := by kernel_rfl
theorem pt_l3 : ((PT 3).length ≤ 75 ∧ 1 ≤ (PT 3).length) := by decide +kernel
theorem sr_a31 : d_set_rows [.int (3 : Nat), .int (1 : Nat)] = some (.list ((SR 3 1).map encSs)) := by kernel_rfl
theorem sr_o31 : (SR 3 1).all (okSs 3) = true := by kernel_rfl
theorem sr_l31 : (SR 3 1).length ≤ 20 := by decide +kernel
theorem ts_b31 : (TS 3 1).all (fun x => (BL 3 1).contains x) = true := by kernel_rfl
theorem bl_t31 : (BL 3 1).all (fun x => (TS 3 1).contains x) = true := by kernel_rfl
theorem sr_a32 : d_set_rows [.int (3 : Nat), .int (2 : Nat)] = some (.list ((SR 3 2).map encSs)) := by kernel_rfl
theorem sr_o32 : (SR 3 2).all (okSs 3) = true := by kernel_rfl
theorem sr_l32 : (SR 3 2).length ≤ 20 := by decide +kernel
theorem ts_b32 : (TS 3 2).all (fun x => (BL 3 2).contains x) = true := by kernel_rfl
theorem bl_t32 : (BL 3 2).all (fun x => (TS 3 2).contains x) = true := by kernel_rfl
theorem sr_a33 : d_set_rows [.int (3 : Nat), .int (3 : Nat)] = some (.list ((SR 3 3).map encSs)) := by kernel_rfl
theorem sr_o33 : (SR 3 3).all (okSs 3) = true := by kernel_rfl
theorem sr_l33 : (SR 3 3).length ≤ 20 := by decide +kernel
theorem ts_b33 : (TS 3 3).all (fun x => (BL 3 3).contains x) = true := by kernel_rfl
theorem bl_t33 : (BL 3 3).all (fun x => (TS 3 3).contains x) = true := by kernel_rfl
theorem or_a4 : d_all_orders [.int (4 : Nat)] = some (.list ((ORD 4).map encC)) := by kernel_rfl
theorem or_b4 : d__law_orders [.int (4 : Nat)] = some (.list ((ORD 4).map encC)) := by kernel_rfl
theorem or_o4 : (ORD 4).all (okO 4) = true := by kernel_rfl
theorem or_l4 : ((ORD 4).length ≤ 24 ∧ 1 ≤ (ORD 4).length) := by decide +kernel
theorem pt_a4 : d__law_partings [.int (4 : Nat)] = some (.list ((PT 4).map encSs)) := by kernel_rfl
theorem pt_o4 : (PT 4).all (okSs 4) = true := by kernel_rfl
theorem pt_l4 : ((PT 4).length ≤ 75 ∧ 1 ≤ (PT 4).length) := by decide +kernel
theorem sr_a41 : d_set_rows [.int (4 : Nat), .int (1 : Nat)] = some (.list ((SR 4 1).map encSs)) := by kernel_rfl
theorem sr_o41 : (SR 4 1).all (okSs 4) = true := by kernel_rfl
theorem sr_l41 : (SR 4 1).length ≤ 20 := by decide +kernel
theorem ts_b41 : (TS 4 1).all (fun x => (BL 4 1).contains x) = true := by kernel_rfl
theorem bl_t41 : (BL 4 1).all (fun x => (TS 4 1).contains x) = true := by kernel_rfl
theorem sr_a42 : d_set_rows [.int (4 : Nat), .int (2 : Nat)] = some (.list ((SR 4 2).map encSs)) := by kernel_rfl
theorem sr_o42 : (SR 4 2).all (okSs 4) = true := by kernel_rfl
theorem sr_l42 : (SR 4 2).length ≤ 20 := by decide +kernel
theorem ts_b42 : (TS 4 2).all (fun x => (BL 4 2).contains x) = true := by kernel_rfl
theorem bl_t42 : (BL 4 2).all (fun x => (TS 4 2).contains x) = true := by kernel_rfl
theorem sr_a43 : d_set_rows [.int (4 : Nat), .int (3 : Nat)] = some (.list ((SR 4 3).map encSs)) := by kernel_rfl
theorem sr_o43 : (SR 4 3).all (okSs 4) = true := by kernel_rfl
theorem sr_l43 : (SR 4 3).length ≤ 20 := by decide +kernel
theorem ts_b43 : (TS 4 3).all (fun x => (BL 4 3).contains x) = true := by kernel_rfl
theorem bl_t43 : (BL 4 3).all (fun x => (TS 4 3).contains x) = true := by kernel_rfl
theorem sr_a44 : d_set_rows [.int (4 : Nat), .int (4 : Nat)] = some (.list ((SR 4 4).map encSs)) := by kernel_rfl
theorem sr_o44 : (SR 4 4).all (okSs 4) = true := by kernel_rfl
theorem sr_l44 : (SR 4 4).length ≤ 20 := by decide +kernel
theorem ts_b44 : (TS 4 4).all (fun x => (BL 4 4).contains x) = true := by kernel_rfl
theorem bl_t44 : (BL 4 4).all (fun x => (TS 4 4).contains x) = true := by kernel_rfl
theorem or_a {n : Nat} (h1 : 1 ≤ n) (h4 : n ≤ 4) : d_all_orders [.int (n : Nat)] = some (.list ((ORD n).map encC)) := by
  have : n = 1 ∨ n = 2 ∨ n = 3 ∨ n = 4 := by omega
  rcases this with rfl | rfl | rfl | rfl
  · exact or_a1
  · exact or_a2
  · exact or_a3
  · exact or_a4
theorem or_b {n : Nat} (h1 : 1 ≤ n) (h4 : n ≤ 4) : d__law_orders [.int (n : Nat)] = some (.list ((ORD n).map encC)) := by
  have : n = 1 ∨ n = 2 ∨ n = 3 ∨ n = 4 := by omega
  rcases this with rfl | rfl | rfl | rfl
  · exact or_b1
  · exact or_b2
  · exact or_b3
  · exact or_b4
theorem or_o {n : Nat} (h1 : 1 ≤ n) (h4 : n ≤ 4) : (ORD n).all (okO n) = true := by
  have : n = 1 ∨ n = 2 ∨ n = 3 ∨ n = 4 := by omega
  rcases this with rfl | rfl | rfl | rfl
  · exact or_o1
  · exact or_o2
  · exact or_o3
  · exact or_o4
theorem or_l {n : Nat} (h1 : 1 ≤ n) (h4 : n ≤ 4) : (ORD n).length ≤ 24 ∧ 1 ≤ (ORD n).length := by
  have : n = 1 ∨ n = 2 ∨ n = 3 ∨ n = 4 := by omega
  rcases this with rfl | rfl | rfl | rfl
  · exact or_l1
  · exact or_l2
  · exact or_l3
  · exact or_l4
theorem pt_a {n : Nat} (h1 : 1 ≤ n) (h4 : n ≤ 4) : d__law_partings [.int (n : Nat)] = some (.list ((PT n).map encSs)) := by
  have : n = 1 ∨ n = 2 ∨ n = 3 ∨ n = 4 := by omega
  rcases this with rfl | rfl | rfl | rfl
  · exact pt_a1
  · exact pt_a2
  · exact pt_a3
  · exact pt_a4
theorem pt_o {n : Nat} (h1 : 1 ≤ n) (h4 : n ≤ 4) : (PT n).all (okSs n) = true := by
  have : n = 1 ∨ n = 2 ∨ n = 3 ∨ n = 4 := by omega
  rcases this with rfl | rfl | rfl | rfl
  · exact pt_o1
  · exact pt_o2
  · exact pt_o3
  · exact pt_o4
theorem pt_l {n : Nat} (h1 : 1 ≤ n) (h4 : n ≤ 4) : (PT n).length ≤ 75 ∧ 1 ≤ (PT n).length := by
  have : n = 1 ∨ n = 2 ∨ n = 3 ∨ n = 4 := by omega
  rcases this with rfl | rfl | rfl | rfl
  · exact pt_l1
  · exact pt_l2
  · exact pt_l3
  · exact pt_l4
theorem sr_a {n m : Nat} (h1 : 1 ≤ m) (hm : m ≤ n) (h4 : n ≤ 4) : d_set_rows [.int (n : Nat), .int (m : Nat)] = some (.list ((SR n m).map encSs)) := by
  have : (n = 1 ∧ m = 1) ∨ (n = 2 ∧ m = 1) ∨ (n = 2 ∧ m = 2) ∨ (n = 3 ∧ m = 1) ∨ (n = 3 ∧ m = 2) ∨ (n = 3 ∧ m = 3) ∨ (n = 4 ∧ m = 1) ∨ (n = 4 ∧ m = 2) ∨ (n = 4 ∧ m = 3) ∨ (n = 4 ∧ m = 4) := by omega
  rcases this with ⟨rfl, rfl⟩ | ⟨rfl, rfl⟩ | ⟨rfl, rfl⟩ | ⟨rfl, rfl⟩ | ⟨rfl, rfl⟩ | ⟨rfl, rfl⟩ | ⟨rfl, rfl⟩ | ⟨rfl, rfl⟩ | ⟨rfl, rfl⟩ | ⟨rfl, rfl⟩
  · exact sr_a11
  · exact sr_a21
  · exact sr_a22
  · exact sr_a31
  · exact sr_a32
  · exact sr_a33
  · exact sr_a41
  · exact sr_a42
  · exact sr_a43
  · exact sr_a44
theorem sr_o {n m : Nat} (h1 : 1 ≤ m) (hm : m ≤ n) (h4 : n ≤ 4) : (SR n m).all (okSs n) = true := by
  have : (n = 1 ∧ m = 1) ∨ (n = 2 ∧ m = 1) ∨ (n = 2 ∧ m = 2) ∨ (n = 3 ∧ m = 1) ∨ (n = 3 ∧ m = 2) ∨ (n = 3 ∧ m = 3) ∨ (n = 4 ∧ m = 1) ∨ (n = 4 ∧ m = 2) ∨ (n = 4 ∧ m = 3) ∨ (n = 4 ∧ m = 4) := by omega
  rcases this with ⟨rfl, rfl⟩ | ⟨rfl, rfl⟩ | ⟨rfl, rfl⟩ | ⟨rfl, rfl⟩ | ⟨rfl, rfl⟩ | ⟨rfl, rfl⟩ | ⟨rfl, rfl⟩ | ⟨rfl, rfl⟩ | ⟨rfl, rfl⟩ | ⟨rfl, rfl⟩
  · exact sr_o11
  · exact sr_o21
  · exact sr_o22
  · exact sr_o31
  · exact sr_o32
  · exact sr_o33
  · exact sr_o41
  · exact sr_o42
  · exact sr_o43
  · exact sr_o44
theorem sr_l {n m : Nat} (h1 : 1 ≤ m) (hm : m ≤ n) (h4 : n ≤ 4) : (SR n m).length ≤ 20 := by
  have : (n = 1 ∧ m = 1) ∨ (n = 2 ∧ m = 1) ∨ (n = 2 ∧ m = 2) ∨ (n = 3 ∧ m = 1) ∨ (n = 3 ∧ m = 2) ∨ (n = 3 ∧ m = 3) ∨ (n = 4 ∧ m = 1) ∨ (n = 4 ∧ m = 2) ∨ (n = 4 ∧ m = 3) ∨ (n = 4 ∧ m = 4) := by omega
  rcases this with ⟨rfl, rfl⟩ | ⟨rfl, rfl⟩ | ⟨rfl, rfl⟩ | ⟨rfl, rfl⟩ | ⟨rfl, rfl⟩ | ⟨rfl, rfl⟩ | ⟨rfl, rfl⟩ | ⟨rfl, rfl⟩ | ⟨rfl, rfl⟩ | ⟨rfl, rfl⟩
  · exact sr_l11
  · exact sr_l21
  · exact sr_l22
  · exact sr_l31
  · exact sr_l32
  · exact sr_l33
  · exact sr_l41
  · exact sr_l42
  · exact sr_l43
  · exact sr_l44
theorem ts_b {n m : Nat} (h1 : 1 ≤ m) (hm : m ≤ n) (h4 : n ≤ 4) : (TS n m).all (fun x => (BL n m).contains x) = true := by
  have : (n = 1 ∧ m = 1) ∨ (n = 2 ∧ m = 1) ∨ (n = 2 ∧ m = 2) ∨ (n = 3 ∧ m = 1) ∨ (n = 3 ∧ m = 2) ∨ (n = 3 ∧ m = 3) ∨ (n = 4 ∧ m = 1) ∨ (n = 4 ∧ m = 2) ∨ (n = 4 ∧ m = 3) ∨ (n = 4 ∧ m = 4) := by omega
  rcases this with ⟨rfl, rfl⟩ | ⟨rfl, rfl⟩ | ⟨rfl, rfl⟩ | ⟨rfl, rfl⟩ | ⟨rfl, rfl⟩ | ⟨rfl, rfl⟩ | ⟨rfl, rfl⟩ | ⟨rfl, rfl⟩ | ⟨rfl, rfl⟩ | ⟨rfl, rfl⟩
  · exact ts_b11
  · exact ts_b21
  · exact ts_b22
  · exact ts_b31
  · exact ts_b32
  · exact ts_b33
  · exact ts_b41
  · exact ts_b42
  · exact ts_b43
  · exact ts_b44
theorem bl_t {n m : Nat} (h1 : 1 ≤ m) (hm : m ≤ n) (h4 : n ≤ 4) : (BL n m).all (fun x => (TS n m).contains x) = true := by
  have : (n = 1 ∧ m = 1) ∨ (n = 2 ∧ m = 1) ∨ (n = 2 ∧ m = 2) ∨ (n = 3 ∧ m = 1) ∨ (n = 3 ∧ m = 2) ∨ (n = 3 ∧ m = 3) ∨ (n = 4 ∧ m = 1) ∨ (n = 4 ∧ m = 2) ∨ (n = 4 ∧ m = 3) ∨ (n = 4 ∧ m = 4) := by omega
  rcases this with ⟨rfl, rfl⟩ | ⟨rfl, rfl⟩ | ⟨rfl, rfl⟩ | ⟨rfl, rfl⟩ | ⟨rfl, rfl⟩ | ⟨rfl, rfl⟩ | ⟨rfl, rfl⟩ | ⟨rfl, rfl⟩ | ⟨rfl, rfl⟩ | ⟨rfl, rfl⟩
  · exact bl_t11
  · exact bl_t21
  · exact bl_t22
  · exact bl_t31
  · exact bl_t32
  · exact bl_t33
  · exact bl_t41
  · exact bl_t42
  · exact bl_t43
  · exact bl_t44
end K08

namespace K08
open PySem PySem.Spec PyProof.Rows L2 Pm
open PySem.W (Datum Tup)
theorem forL_fl {α β : Type} {g : D → PEnv → Option PEnv} {b : XS} {N : Nat} (en : α → D) (eb : β → D) (f : α → List β) (E : List D → PEnv → Prop) : ∀ (xs : List α) (acc : List D) (ρ : PEnv),
    (∀ x ∈ xs, ∀ acc ρ, acc.length + (f x).length ≤ N → E acc ρ → ∃ ρ1 ρ2, g (en x) ρ = some ρ1 ∧ b ρ1 = some (.nx ρ2) ∧ E (acc ++ (f x).map eb) ρ2) → acc.length + (xs.flatMap f).length ≤ N → E acc ρ →
    ∃ ρ', forL g b (xs.map en) ρ = some (.nx ρ') ∧ E (acc ++ (xs.flatMap f).map eb) ρ'
  | [], acc, ρ, _, _, h => ⟨ρ, rfl, by simpa using h⟩
  | x :: xs, acc, ρ, hb, hN, h => by
    rw [List.flatMap_cons, List.length_append] at hN
    obtain ⟨ρ1, ρ2, e1, e2, h2⟩ := hb x (by simp) acc ρ (by omega) h
    obtain ⟨ρ', e3, h3⟩ := forL_fl en eb f E xs (acc ++ (f x).map eb) ρ2 (fun y hy => hb y (List.mem_cons_of_mem _ hy)) (by rw [List.length_append, List.length_map]; omega) h2
    refine ⟨ρ', ?_, ?_⟩
    · simp only [List.map_cons, forL, e1, e2, Option.bind_some, e3]
    · rw [List.flatMap_cons, List.map_append, ← List.append_assoc]
      exact h3
abbrev K2 := Int × Tup Int
abbrev K3 := Int × Tup (Tup Int)
def mk3 (s : List (List Int)) : Tup (Tup Int) := ⟨s.map Tup.mk⟩
theorem toD_c (c : List Int) : Datum.toD (Tup.mk c) = encC c := rfl
theorem toD_3 (e : Int) (s : List (List Int)) : Datum.toD ((e, mk3 s) : K3) = .tuple [.int e, encSs s] := by
  show PyData.tuple [.int e, .tuple ((s.map Tup.mk).map Datum.toD)] = _
  rw [List.map_map]
  rfl
theorem toD_2 (e : Int) (o : List Int) : Datum.toD ((e, ⟨o⟩) : K2) = .tuple [.int e, encC o] := rfl
def key3 (T : List Int) (S : List Sh) (s : List (List Int)) : Option K3 := (endT T S s).map fun e => (e, mk3 s)
def key2 (T : List Int) (S : List Sh) (s : List (List Int)) (o : List Int) : Option K2 := (endT T S (app s o)).map fun e => (e, ⟨o⟩)
theorem depth3 : Datum.depth K3 ≤ 20 := by decide
theorem depth2 : Datum.depth K2 ≤ 20 := by decide
theorem tup3 (a : K3) : ∃ y ys, Datum.toD a = PyData.tuple (y :: ys) := ⟨_, _, rfl⟩
theorem tup2 (a : K2) : ∃ y ys, Datum.toD a = PyData.tuple (y :: ys) := ⟨_, _, rfl⟩
def OkSs (n : Nat) (s : List (List Int)) : Prop := 1 ≤ s.length ∧ s.length ≤ n ∧ ∀ c ∈ s, c ≠ [] ∧ c.length ≤ n ∧ ∀ k ∈ c, 0 ≤ k ∧ k < (n : Int)
theorem okSs_of {n : Nat} {s : List (List Int)} (h : okSs n s = true) : OkSs n s := by
  unfold okSs at h
  rw [Bool.and_eq_true, Bool.and_eq_true, decide_eq_true_eq, decide_eq_true_eq, List.all_eq_true] at h
  refine ⟨h.1.1, h.1.2, fun c hc => ?_⟩
  have := h.2 c hc
  rw [Bool.and_eq_true, Bool.and_eq_true, decide_eq_true_eq, List.all_eq_true] at this
  refine ⟨?_, this.1.2, fun k hk => ?_⟩
  · rintro rfl
    simp at this
  · have := this.2 k hk
    simpa using this
theorem OkSs.okC {n : Nat} {s : List (List Int)} {S : List Sh} (h : OkSs n s) (hS : S.length = n) : ∀ c ∈ s, OkC S c := fun c hc => by
  obtain ⟨h1, h2, h3⟩ := h.2.2 c hc
  exact ⟨h1, fun k hk => by have := h3 k hk; omega⟩
theorem endT_tm {T : List Int} {S : List Sh} {s : List (List Int)} (h1 : 1 ≤ s.length) : (tm T S 0 s = none ∧ endT T S s = none) ∨ ∃ l p, tm T S 0 s = some l ∧ l.getLast? = some p ∧ endT T S s = some p.2 := by
  unfold endT
  cases e : tm T S 0 s with
  | none => exact .inl ⟨rfl, rfl⟩
  | some l =>
    have hl := tm_len e
    cases h : l.getLast? with
    | none =>
      have : l = [] := by simpa using h
      subst this
      simp at hl
      omega
    | some p => exact .inr ⟨l, p, rfl, h, by rw [Option.bind_some, h]; rfl⟩
theorem flat_int (i : Int) : flat (.int i) = true := rfl
theorem law_ends_eq {T : List Int} {S : List Sh} {n : Nat} (hT : OkT T) (hS : OkS S) (hn : S.length = n) (h4 : n ≤ 4) {ways : List (List (List Int))} (hw : ∀ s ∈ ways, OkSs n s) (hl : ways.length ≤ 1000) :
    d__law_ends [.tuple (T.map PyData.int), .tuple (S.map enc), .list (ways.map encSs)] = bSorted [.list ((ways.flatMap fun s => (key3 T S s).toList).map Datum.toD)] := by
  have hlen : ∀ l : List (List (List Int)), (l.flatMap fun s => (key3 T S s).toList).length ≤ l.length := by
    intro l
    induction l with
    | nil => simp
    | cons x l ih =>
      rw [List.flatMap_cons, List.length_append, List.length_cons]
      have : (key3 T S x).toList.length ≤ 1 := by cases key3 T S x <;> simp
      omega
  obtain ⟨ρ', e1, x4, x5, e2⟩ := forL_fl (g := gSet 4) (b := l1__law_ends) (N := 1000) encSs Datum.toD (fun s => (key3 T S s).toList) (fun acc ρ => ∃ x4 x5, ρ = [some (.tuple (T.map PyData.int)), some (.tuple (S.map enc)), some (.list (ways.map encSs)), some (.list acc), x4, x5]) ways [] [some (.tuple (T.map PyData.int)), some (.tuple (S.map enc)), some (.list (ways.map encSs)), some (.list []), none, none]
    (fun s hs acc ρ ha ⟨x4, x5, e⟩ => by
      subst e
      have hk := hw s hs
      have lt := lt_eq false hT hS (hk.okC hn) (by have := hk.2.1; omega)
      have lt : d__law_times [.tuple (T.map PyData.int), .tuple (S.map enc), encSs s] = some (tmD (tm T S 0 s)) := lt
      rcases endT_tm (T := T) (S := S) hk.1 with ⟨t1, t2⟩ | ⟨l, p, t1, t2, t3⟩
      · rw [t1] at lt
        have hk3 : key3 T S s = none := by unfold key3; rw [t2]; rfl
        refine ⟨_, [some (.tuple (T.map PyData.int)), some (.tuple (S.map enc)), some (.list (ways.map encSs)), some (.list acc), some (encSs s), some .none], rfl, ?_, some (encSs s), some .none, ?_⟩
        · generalize encSs s = ES at *
          generalize T.map PyData.int = MT at *
          generalize S.map enc = MS at *
          generalize ways.map encSs = MW at *
          simp -implicitDefEqProofs only [l1__law_ends, xVar_a, xC_a, xBin_a, xUn_a, tOf_a, tTru_a, tNotP_a, tAndP_a, tOrP_a, tyes_a, tno_a, tYesP_a, xNil_a, xCons_a, xTup_a, xLst_a, xAnd_a, xOr_a, xIf_a, xChain_a, oNo_a, oAt_a, xSl_a, xCall_a, xSeq_a, xIt_a, xLc_a, gSet_a, gTupD_a, gsNil_a, gsCons_a, sNop_a, sBrk_a, sCnt_a, sSeq_a, sRet_a, sIf_a, sSet_a, sTgt_a, sAug_a, sApp_a, sExt_a, sPut_a, sPutK_a, pkO_s, sFor_a, sWhile_a, sPar_a, runD_a, b2_s, c2_s, sqO_nx, sqO_rt, sqO_bk, sqO_ct, ifO_t, ifO_f, stO_s, endO_nx, endO_rt, andO_t, andO_f, orO_t, orO_f, chO_s, chP_t, chP_f, slO_s, atO_i, lcO_s, forO_s, gsO_s, nxO_s, tgO_s, paO_s, apO_s, exO_s, plO_s, ptO_s, dB_b, tru_b, tru_n, tru_i, tru_l, tru_t, is_n, isn_n, nn_n, nn_i, nn_b, nn_t, nn_l, add_ii, add'_ii, sub_ii, neg_i, lt_ii, le_ii, gt_ii, ge_ii, ix_l, ix_t, ix_s, at0, at1, at2, sl_l, sl_t, len_l, len_t, len_s, abs_i, int_i, int_b, max_ii, min_ii, tup_s, lst_s, seq_l, seq_t, sum_s, wipe_n, wipe_c, mul_ii, fdiv_ii, mod_ii, add_ll, add_tt, setAll, mkT, mkL, oNot, List.getD_cons_zero, List.getD_cons_succ, List.length_cons, List.length_nil, List.set_cons_zero, List.set_cons_succ, List.map_cons, List.map_nil, List.replicate, List.cons_append, List.nil_append, List.append_nil, Option.bind_some, Option.map_some, List.all_cons, List.all_nil, if_true, if_false, reduceIte, Nat.reduceAdd, Nat.reduceSub, Nat.reduceLT, Nat.reduceLeDiff, Nat.reduceEqDiff, decide_true, decide_false, Bool.and_true, Bool.and_self, Bool.true_and, Bool.not_true, Bool.not_false, ne_eq, not_true_eq_false, not_false_eq_true, Nat.zero_add, Bool.false_eq_true, and_self, true_and, and_true, lt, tmD]
        · rw [hk3]
          simp
      · rw [t1] at lt
        have hk3 : key3 T S s = some (p.2, mk3 s) := by unfold key3; rw [t3]; rfl
        obtain ⟨a1, a2⟩ := at_last t2
        rw [hk3] at ha
        have ha' : acc.length < 16777216 := by simp at ha; omega
        rw [show tmD (some l) = .tuple (l.map enc) from rfl] at lt
        have a2 : atI (l.map enc) (((l.map enc).length : Int) - 1) = some (enc p) := by rw [List.length_map]; exact a2
        refine ⟨_, [some (.tuple (T.map PyData.int)), some (.tuple (S.map enc)), some (.list (ways.map encSs)), some (.list (acc ++ [.tuple [.int p.2, encSs s]])), some (encSs s), some (.tuple (l.map enc))], rfl, ?_, some (encSs s), some (.tuple (l.map enc)), ?_⟩
        · generalize encSs s = ES at *
          generalize T.map PyData.int = MT at *
          generalize S.map enc = MS at *
          generalize ways.map encSs = MW at *
          generalize l.map enc = ML at *
          simp -implicitDefEqProofs only [l1__law_ends, xVar_a, xC_a, xBin_a, xUn_a, tOf_a, tTru_a, tNotP_a, tAndP_a, tOrP_a, tyes_a, tno_a, tYesP_a, xNil_a, xCons_a, xTup_a, xLst_a, xAnd_a, xOr_a, xIf_a, xChain_a, oNo_a, oAt_a, xSl_a, xCall_a, xSeq_a, xIt_a, xLc_a, gSet_a, gTupD_a, gsNil_a, gsCons_a, sNop_a, sBrk_a, sCnt_a, sSeq_a, sRet_a, sIf_a, sSet_a, sTgt_a, sAug_a, sApp_a, sExt_a, sPut_a, sPutK_a, pkO_s, sFor_a, sWhile_a, sPar_a, runD_a, b2_s, c2_s, sqO_nx, sqO_rt, sqO_bk, sqO_ct, ifO_t, ifO_f, stO_s, endO_nx, endO_rt, andO_t, andO_f, orO_t, orO_f, chO_s, chP_t, chP_f, slO_s, atO_i, lcO_s, forO_s, gsO_s, nxO_s, tgO_s, paO_s, apO_s, exO_s, plO_s, ptO_s, dB_b, tru_b, tru_n, tru_i, tru_l, tru_t, is_n, isn_n, nn_n, nn_i, nn_b, nn_t, nn_l, add_ii, add'_ii, sub_ii, neg_i, lt_ii, le_ii, gt_ii, ge_ii, ix_l, ix_t, ix_s, at0, at1, at2, sl_l, sl_t, len_l, len_t, len_s, abs_i, int_i, int_b, max_ii, min_ii, tup_s, lst_s, seq_l, seq_t, sum_s, wipe_n, wipe_c, mul_ii, fdiv_ii, mod_ii, add_ll, add_tt, setAll, mkT, mkL, oNot, List.getD_cons_zero, List.getD_cons_succ, List.length_cons, List.length_nil, List.set_cons_zero, List.set_cons_succ, List.map_cons, List.map_nil, List.replicate, List.cons_append, List.nil_append, List.append_nil, Option.bind_some, Option.map_some, List.all_cons, List.all_nil, if_true, if_false, reduceIte, Nat.reduceAdd, Nat.reduceSub, Nat.reduceLT, Nat.reduceLeDiff, Nat.reduceEqDiff, decide_true, decide_false, Bool.and_true, Bool.and_self, Bool.true_and, Bool.not_true, Bool.not_false, ne_eq, not_true_eq_false, not_false_eq_true, Nat.zero_add, Bool.false_eq_true, and_self, true_and, and_true, lt, a2, enc, ha']
        · rw [hk3, Option.toList_some, List.map_cons, List.map_nil, toD_3]) (by simp; have := hlen ways; simp at this; omega) ⟨none, none, rfl⟩
  subst e2
  simp only [List.nil_append] at e1
  generalize (ways.flatMap fun s => (key3 T S s).toList).map Datum.toD = MK at *
  generalize T.map PyData.int = MT at *
  generalize S.map enc = MS at *
  generalize ways.map encSs = MW at *
  have : ∀ x : Option D, endO (x.map Out.rt) = x := fun x => by cases x <;> rfl
  simp -implicitDefEqProofs only [d__law_ends, g__law_ends, xVar_a, xC_a, xBin_a, xUn_a, tOf_a, tTru_a, tNotP_a, tAndP_a, tOrP_a, tyes_a, tno_a, tYesP_a, xNil_a, xCons_a, xTup_a, xLst_a, xAnd_a, xOr_a, xIf_a, xChain_a, oNo_a, oAt_a, xSl_a, xCall_a, xSeq_a, xIt_a, xLc_a, gSet_a, gTupD_a, gsNil_a, gsCons_a, sNop_a, sBrk_a, sCnt_a, sSeq_a, sRet_a, sIf_a, sSet_a, sTgt_a, sAug_a, sApp_a, sExt_a, sPut_a, sPutK_a, pkO_s, sFor_a, sWhile_a, sPar_a, runD_a, b2_s, c2_s, sqO_nx, sqO_rt, sqO_bk, sqO_ct, ifO_t, ifO_f, stO_s, endO_nx, endO_rt, andO_t, andO_f, orO_t, orO_f, chO_s, chP_t, chP_f, slO_s, atO_i, lcO_s, forO_s, gsO_s, nxO_s, tgO_s, paO_s, apO_s, exO_s, plO_s, ptO_s, dB_b, tru_b, tru_n, tru_i, tru_l, tru_t, is_n, isn_n, nn_n, nn_i, nn_b, nn_t, nn_l, add_ii, add'_ii, sub_ii, neg_i, lt_ii, le_ii, gt_ii, ge_ii, ix_l, ix_t, ix_s, at0, at1, at2, sl_l, sl_t, len_l, len_t, len_s, abs_i, int_i, int_b, max_ii, min_ii, tup_s, lst_s, seq_l, seq_t, sum_s, wipe_n, wipe_c, mul_ii, fdiv_ii, mod_ii, add_ll, add_tt, setAll, mkT, mkL, oNot, List.getD_cons_zero, List.getD_cons_succ, List.length_cons, List.length_nil, List.set_cons_zero, List.set_cons_succ, List.map_cons, List.map_nil, List.replicate, List.cons_append, List.nil_append, List.append_nil, Option.bind_some, Option.map_some, List.all_cons, List.all_nil, if_true, if_false, reduceIte, Nat.reduceAdd, Nat.reduceSub, Nat.reduceLT, Nat.reduceLeDiff, Nat.reduceEqDiff, decide_true, decide_false, Bool.and_true, Bool.and_self, Bool.true_and, Bool.not_true, Bool.not_false, ne_eq, not_true_eq_false, not_false_eq_true, Nat.zero_add, Bool.false_eq_true, and_self, true_and, and_true, e1, this]
theorem app_ok {n : Nat} {s : List (List Int)} {o : List Int} (h : OkSs n s) (ho : okO s.length o = true) : OkSs n (app s o) := by
  unfold okO at ho
  rw [Bool.and_eq_true, decide_eq_true_eq, List.all_eq_true] at ho
  refine ⟨by unfold app; rw [List.length_map]; have := h.1; omega, by unfold app; rw [List.length_map]; have := h.2.1; omega, fun c hc => ?_⟩
  obtain ⟨k, hk, rfl⟩ := List.mem_map.mp hc
  have := ho.2 k hk
  simp only [Bool.and_eq_true, decide_eq_true_eq] at this
  have hlt : k.toNat < s.length := by omega
  rw [List.getD_eq_getElem?_getD, List.getElem?_eq_getElem hlt, Option.getD_some]
  exact h.2.2 _ (List.getElem_mem hlt)
/-- [sets[place] for place in order] -/
theorem app_l {s : List (List Int)} {o : List Int} (ho : okO s.length o = true) (n i j : Nat) (hi : i < n) (hj : j < n) (hij : i ≠ j) (ρ : PEnv) (hρ : ρ.length = n) (h1 : ρ.getD i none = some (encSs s)) :
    lcL (gSet j) tYesP (xBin oIx (xVar i) (xVar j)) ρ (o.map PyData.int) = some ((app s o).map encC) := by
  unfold okO at ho
  rw [Bool.and_eq_true, decide_eq_true_eq, List.all_eq_true] at ho
  unfold app
  rw [List.map_map]
  refine lcL_map _ _ _ fun k hk => ?_
  have := ho.2 k hk
  simp only [Bool.and_eq_true, decide_eq_true_eq] at this
  have hlt : k.toNat < s.length := by omega
  have a : atI (s.map encC) k = some (encC (s.getD k.toNat [])) := by
    have h := atI_nat (s.map encC) k.toNat (by rw [List.length_map]; exact hlt)
    rw [show ((k.toNat : Nat) : Int) = k by omega] at h
    rw [h, List.getElem_map, List.getD_eq_getElem?_getD, List.getElem?_eq_getElem hlt, Option.getD_some]
  have hg : gSet j (.int k) ρ = some (ρ.set j (some (.int k))) := by
    show (if j < ρ.length then _ else _) = _
    rw [if_pos (by omega)]
  have e1 : (ρ.set j (some (.int k))).getD i none = some (encSs s) := by
    rw [List.getD_eq_getElem?_getD, List.getElem?_set_ne (by omega), ← List.getD_eq_getElem?_getD]
    exact h1
  have e2 : (ρ.set j (some (.int k))).getD j none = some (.int k) := by
    rw [List.getD_eq_getElem?_getD, List.getElem?_set_self (by omega)]
    rfl
  rw [hg, Option.bind_some]
  unfold encSs at e1
  generalize s.map encC = MS at *
  simp -implicitDefEqProofs only [xVar_a, xC_a, xBin_a, xUn_a, tOf_a, tTru_a, tNotP_a, tAndP_a, tOrP_a, tyes_a, tno_a, tYesP_a, xNil_a, xCons_a, xTup_a, xLst_a, xAnd_a, xOr_a, xIf_a, xChain_a, oNo_a, oAt_a, xSl_a, xCall_a, xSeq_a, xIt_a, xLc_a, gSet_a, gTupD_a, gsNil_a, gsCons_a, sNop_a, sBrk_a, sCnt_a, sSeq_a, sRet_a, sIf_a, sSet_a, sTgt_a, sAug_a, sApp_a, sExt_a, sPut_a, sPutK_a, pkO_s, sFor_a, sWhile_a, sPar_a, runD_a, b2_s, c2_s, sqO_nx, sqO_rt, sqO_bk, sqO_ct, ifO_t, ifO_f, stO_s, endO_nx, endO_rt, andO_t, andO_f, orO_t, orO_f, chO_s, chP_t, chP_f, slO_s, atO_i, lcO_s, forO_s, gsO_s, nxO_s, tgO_s, paO_s, apO_s, exO_s, plO_s, ptO_s, dB_b, tru_b, tru_n, tru_i, tru_l, tru_t, is_n, isn_n, nn_n, nn_i, nn_b, nn_t, nn_l, add_ii, add'_ii, sub_ii, neg_i, lt_ii, le_ii, gt_ii, ge_ii, ix_l, ix_t, ix_s, at0, at1, at2, sl_l, sl_t, len_l, len_t, len_s, abs_i, int_i, int_b, max_ii, min_ii, tup_s, lst_s, seq_l, seq_t, sum_s, wipe_n, wipe_c, mul_ii, fdiv_ii, mod_ii, add_ll, add_tt, setAll, mkT, mkL, oNot, List.getD_cons_zero, List.getD_cons_succ, List.length_cons, List.length_nil, List.set_cons_zero, List.set_cons_succ, List.map_cons, List.map_nil, List.replicate, List.cons_append, List.nil_append, List.append_nil, Option.bind_some, Option.map_some, List.all_cons, List.all_nil, if_true, if_false, reduceIte, Nat.reduceAdd, Nat.reduceSub, Nat.reduceLT, Nat.reduceLeDiff, Nat.reduceEqDiff, decide_true, decide_false, Bool.and_true, Bool.and_self, Bool.true_and, Bool.not_true, Bool.not_false, ne_eq, not_true_eq_false, not_false_eq_true, Nat.zero_add, Bool.false_eq_true, and_self, true_and, and_true, e1, e2, a, Function.comp]
theorem len_fm {α β : Type} (f : α → Option β) : ∀ l : List α, (l.flatMap fun s => (f s).toList).length ≤ l.length := by
  intro l
  induction l with
  | nil => simp
  | cons x l ih =>
    rw [List.flatMap_cons, List.length_append, List.length_cons]
    have : (f x).toList.length ≤ 1 := by cases f x <;> simp
    omega
theorem tide_order_eq {T : List Int} {S : List Sh} {n : Nat} (hT : OkT T) (hS : OkS S) (hn : S.length = n) (h4 : n ≤ 4) {s : List (List Int)} (hs : OkSs n s) :
    d_tide_order [.tuple (T.map PyData.int), .tuple (S.map enc), encSs s] = some ((least ((ORD s.length).flatMap fun o => (key2 T S s o).toList)).elim .none Datum.toD) := by
  have hl4 : s.length ≤ 4 := by have := hs.2.1; omega
  have oa := or_a hs.1 hl4
  have ol := or_l hs.1 hl4
  have oo := List.all_eq_true.mp (or_o hs.1 hl4)
  have hlen := len_fm (key2 T S s) (ORD s.length)
  obtain ⟨ρ', e1, x4, x5, e2⟩ := forL_fl (g := gSet 4) (b := l1_tide_order) (N := 1000) encC Datum.toD (fun o => (key2 T S s o).toList) (fun acc ρ => ∃ x4 x5, ρ = [some (.tuple (T.map PyData.int)), some (.tuple (S.map enc)), some (encSs s), some (.list acc), x4, x5, none]) (ORD s.length) [] [some (.tuple (T.map PyData.int)), some (.tuple (S.map enc)), some (encSs s), some (.list []), none, none, none]
    (fun o ho acc ρ ha ⟨x4, x5, e⟩ => by
      subst e
      have hk := app_ok hs (oo o ho)
      have te := tide_end_eq true hT hS (hk.okC hn) (by have := hk.2.1; omega)
      have al := fun ρ hρ h1 => app_l (oo o ho) 7 2 6 (by omega) (by omega) (by omega) ρ hρ h1
      rw [show sqD true ((app s o).map encC) = .list ((app s o).map encC) from rfl] at te
      have hk2 : key2 T S s o = (endT T S (app s o)).map fun e => (e, ⟨o⟩) := rfl
      cases h : endT T S (app s o) with
      | none =>
        rw [h] at te hk2
        refine ⟨_, [some (.tuple (T.map PyData.int)), some (.tuple (S.map enc)), some (encSs s), some (.list acc), some (encC o), some .none, none], rfl, ?_, some (encC o), some .none, ?_⟩
        · unfold encC at *
          generalize encSs s = ES at *
          generalize (app s o).map (fun c => PyData.tuple (c.map PyData.int)) = EA at *
          generalize o.map PyData.int = EO at *
          generalize T.map PyData.int = MT at *
          generalize S.map enc = MS at *
          simp -implicitDefEqProofs only [l1_tide_order, xVar_a, xC_a, xBin_a, xUn_a, tOf_a, tTru_a, tNotP_a, tAndP_a, tOrP_a, tyes_a, tno_a, tYesP_a, xNil_a, xCons_a, xTup_a, xLst_a, xAnd_a, xOr_a, xIf_a, xChain_a, oNo_a, oAt_a, xSl_a, xCall_a, xSeq_a, xIt_a, xLc_a, gSet_a, gTupD_a, gsNil_a, gsCons_a, sNop_a, sBrk_a, sCnt_a, sSeq_a, sRet_a, sIf_a, sSet_a, sTgt_a, sAug_a, sApp_a, sExt_a, sPut_a, sPutK_a, pkO_s, sFor_a, sWhile_a, sPar_a, runD_a, b2_s, c2_s, sqO_nx, sqO_rt, sqO_bk, sqO_ct, ifO_t, ifO_f, stO_s, endO_nx, endO_rt, andO_t, andO_f, orO_t, orO_f, chO_s, chP_t, chP_f, slO_s, atO_i, lcO_s, forO_s, gsO_s, nxO_s, tgO_s, paO_s, apO_s, exO_s, plO_s, ptO_s, dB_b, tru_b, tru_n, tru_i, tru_l, tru_t, is_n, isn_n, nn_n, nn_i, nn_b, nn_t, nn_l, add_ii, add'_ii, sub_ii, neg_i, lt_ii, le_ii, gt_ii, ge_ii, ix_l, ix_t, ix_s, at0, at1, at2, sl_l, sl_t, len_l, len_t, len_s, abs_i, int_i, int_b, max_ii, min_ii, tup_s, lst_s, seq_l, seq_t, sum_s, wipe_n, wipe_c, mul_ii, fdiv_ii, mod_ii, add_ll, add_tt, setAll, mkT, mkL, oNot, List.getD_cons_zero, List.getD_cons_succ, List.length_cons, List.length_nil, List.set_cons_zero, List.set_cons_succ, List.map_cons, List.map_nil, List.replicate, List.cons_append, List.nil_append, List.append_nil, Option.bind_some, Option.map_some, List.all_cons, List.all_nil, if_true, if_false, reduceIte, Nat.reduceAdd, Nat.reduceSub, Nat.reduceLT, Nat.reduceLeDiff, Nat.reduceEqDiff, decide_true, decide_false, Bool.and_true, Bool.and_self, Bool.true_and, Bool.not_true, Bool.not_false, ne_eq, not_true_eq_false, not_false_eq_true, Nat.zero_add, Bool.false_eq_true, and_self, true_and, and_true, al, te, eO]
        · rw [hk2]
          simp
      | some e =>
        rw [h] at te hk2
        rw [hk2] at ha
        have ha' : acc.length < 16777216 := by simp at ha; omega
        refine ⟨_, [some (.tuple (T.map PyData.int)), some (.tuple (S.map enc)), some (encSs s), some (.list (acc ++ [.tuple [.int e, encC o]])), some (encC o), some (.int e), none], rfl, ?_, some (encC o), some (.int e), ?_⟩
        · unfold encC at *
          generalize encSs s = ES at *
          generalize (app s o).map (fun c => PyData.tuple (c.map PyData.int)) = EA at *
          generalize o.map PyData.int = EO at *
          generalize T.map PyData.int = MT at *
          generalize S.map enc = MS at *
          simp -implicitDefEqProofs only [l1_tide_order, xVar_a, xC_a, xBin_a, xUn_a, tOf_a, tTru_a, tNotP_a, tAndP_a, tOrP_a, tyes_a, tno_a, tYesP_a, xNil_a, xCons_a, xTup_a, xLst_a, xAnd_a, xOr_a, xIf_a, xChain_a, oNo_a, oAt_a, xSl_a, xCall_a, xSeq_a, xIt_a, xLc_a, gSet_a, gTupD_a, gsNil_a, gsCons_a, sNop_a, sBrk_a, sCnt_a, sSeq_a, sRet_a, sIf_a, sSet_a, sTgt_a, sAug_a, sApp_a, sExt_a, sPut_a, sPutK_a, pkO_s, sFor_a, sWhile_a, sPar_a, runD_a, b2_s, c2_s, sqO_nx, sqO_rt, sqO_bk, sqO_ct, ifO_t, ifO_f, stO_s, endO_nx, endO_rt, andO_t, andO_f, orO_t, orO_f, chO_s, chP_t, chP_f, slO_s, atO_i, lcO_s, forO_s, gsO_s, nxO_s, tgO_s, paO_s, apO_s, exO_s, plO_s, ptO_s, dB_b, tru_b, tru_n, tru_i, tru_l, tru_t, is_n, isn_n, nn_n, nn_i, nn_b, nn_t, nn_l, add_ii, add'_ii, sub_ii, neg_i, lt_ii, le_ii, gt_ii, ge_ii, ix_l, ix_t, ix_s, at0, at1, at2, sl_l, sl_t, len_l, len_t, len_s, abs_i, int_i, int_b, max_ii, min_ii, tup_s, lst_s, seq_l, seq_t, sum_s, wipe_n, wipe_c, mul_ii, fdiv_ii, mod_ii, add_ll, add_tt, setAll, mkT, mkL, oNot, List.getD_cons_zero, List.getD_cons_succ, List.length_cons, List.length_nil, List.set_cons_zero, List.set_cons_succ, List.map_cons, List.map_nil, List.replicate, List.cons_append, List.nil_append, List.append_nil, Option.bind_some, Option.map_some, List.all_cons, List.all_nil, if_true, if_false, reduceIte, Nat.reduceAdd, Nat.reduceSub, Nat.reduceLT, Nat.reduceLeDiff, Nat.reduceEqDiff, decide_true, decide_false, Bool.and_true, Bool.and_self, Bool.true_and, Bool.not_true, Bool.not_false, ne_eq, not_true_eq_false, not_false_eq_true, Nat.zero_add, Bool.false_eq_true, and_self, true_and, and_true, al, te, eO, ha']
        · rw [hk2, Option.map_some, Option.toList_some, List.map_cons, List.map_nil, toD_2]) (by simp; simp at hlen; omega) ⟨none, none, rfl⟩
  subst e2
  simp only [List.nil_append] at e1
  have mk := minK_map depth2 (x := .list (((ORD s.length).flatMap fun o => (key2 T S s o).toList).map Datum.toD)) ((ORD s.length).flatMap fun o => (key2 T S s o).toList) .none rfl
  generalize ((ORD s.length).flatMap fun o => (key2 T S s o).toList).map Datum.toD = MK at *
  generalize T.map PyData.int = MT at *
  generalize S.map enc = MS at *
  have ln : ((s.map encC).length : Int) = (s.length : Int) := by rw [List.length_map]
  unfold encSs at *
  generalize s.map encC = EC at *
  generalize (ORD s.length).map encC = EO at *
  simp -implicitDefEqProofs only [d_tide_order, g_tide_order, xVar_a, xC_a, xBin_a, xUn_a, tOf_a, tTru_a, tNotP_a, tAndP_a, tOrP_a, tyes_a, tno_a, tYesP_a, xNil_a, xCons_a, xTup_a, xLst_a, xAnd_a, xOr_a, xIf_a, xChain_a, oNo_a, oAt_a, xSl_a, xCall_a, xSeq_a, xIt_a, xLc_a, gSet_a, gTupD_a, gsNil_a, gsCons_a, sNop_a, sBrk_a, sCnt_a, sSeq_a, sRet_a, sIf_a, sSet_a, sTgt_a, sAug_a, sApp_a, sExt_a, sPut_a, sPutK_a, pkO_s, sFor_a, sWhile_a, sPar_a, runD_a, b2_s, c2_s, sqO_nx, sqO_rt, sqO_bk, sqO_ct, ifO_t, ifO_f, stO_s, endO_nx, endO_rt, andO_t, andO_f, orO_t, orO_f, chO_s, chP_t, chP_f, slO_s, atO_i, lcO_s, forO_s, gsO_s, nxO_s, tgO_s, paO_s, apO_s, exO_s, plO_s, ptO_s, dB_b, tru_b, tru_n, tru_i, tru_l, tru_t, is_n, isn_n, nn_n, nn_i, nn_b, nn_t, nn_l, add_ii, add'_ii, sub_ii, neg_i, lt_ii, le_ii, gt_ii, ge_ii, ix_l, ix_t, ix_s, at0, at1, at2, sl_l, sl_t, len_l, len_t, len_s, abs_i, int_i, int_b, max_ii, min_ii, tup_s, lst_s, seq_l, seq_t, sum_s, wipe_n, wipe_c, mul_ii, fdiv_ii, mod_ii, add_ll, add_tt, setAll, mkT, mkL, oNot, List.getD_cons_zero, List.getD_cons_succ, List.length_cons, List.length_nil, List.set_cons_zero, List.set_cons_succ, List.map_cons, List.map_nil, List.replicate, List.cons_append, List.nil_append, List.append_nil, Option.bind_some, Option.map_some, List.all_cons, List.all_nil, if_true, if_false, reduceIte, Nat.reduceAdd, Nat.reduceSub, Nat.reduceLT, Nat.reduceLeDiff, Nat.reduceEqDiff, decide_true, decide_false, Bool.and_true, Bool.and_self, Bool.true_and, Bool.not_true, Bool.not_false, ne_eq, not_true_eq_false, not_false_eq_true, Nat.zero_add, Bool.false_eq_true, and_self, true_and, and_true, ln, oa, e1, xCallK_a, mk]
end K08

namespace K08
open PySem PySem.Spec PyProof.Rows L2 Pm
open PySem.W (Datum Tup)
theorem fl_len {α β : Type} (f : α → List β) (k : Nat) : ∀ l : List α, (∀ x ∈ l, (f x).length ≤ k) → (l.flatMap f).length ≤ l.length * k := by
  intro l
  induction l with
  | nil => simp
  | cons x l ih =>
    intro h
    rw [List.flatMap_cons, List.length_append, List.length_cons, Nat.succ_mul]
    have h1 := h x (by simp)
    have h2 := ih fun y hy => h y (List.mem_cons_of_mem _ hy)
    omega
theorem flat_eO (o : Option Int) : flat (eO o) = true := by cases o <;> rfl
theorem isn_eO_n : oIsNot (eO none) .none = some (.bool false) := rfl
theorem ts_row {T : List Int} {S : List Sh} {n : Nat} (hT : OkT T) (hS : OkS S) (hn : S.length = n) (h4 : n ≤ 4) {row : List (List Int)} (hr : OkSs n row) (acc : List D) (ha : acc.length ≤ 900) (x2 x5 x6 x7 : Option D) :
    ∃ y5 y6 y7, forL (gSet 5) l1_tide_sets ((ORD row.length).map encC) [some (.tuple (T.map PyData.int)), some (.tuple (S.map enc)), x2, some (.list acc), some (encSs row), x5, x6, x7, none] =
      some (.nx [some (.tuple (T.map PyData.int)), some (.tuple (S.map enc)), x2, some (.list (acc ++ ((ORD row.length).flatMap fun o => (key3 T S (app row o)).toList).map Datum.toD)), some (encSs row), y5, y6, y7, none]) := by
  have hl4 : row.length ≤ 4 := by have := hr.2.1; omega
  have ol := or_l hr.1 hl4
  have oo := List.all_eq_true.mp (or_o hr.1 hl4)
  have hlen := len_fm (fun o => key3 T S (app row o)) (ORD row.length)
  obtain ⟨ρ', e1, x4, x5, x6, e2⟩ := forL_fl (g := gSet 5) (b := l1_tide_sets) (N := 1000) encC Datum.toD (fun o => (key3 T S (app row o)).toList) (fun acc ρ => ∃ x5 x6 x7, ρ = [some (.tuple (T.map PyData.int)), some (.tuple (S.map enc)), x2, some (.list acc), some (encSs row), x5, x6, x7, none]) (ORD row.length) acc [some (.tuple (T.map PyData.int)), some (.tuple (S.map enc)), x2, some (.list acc), some (encSs row), x5, x6, x7, none]
    (fun o ho acc ρ ha ⟨x5, x6, x7, e⟩ => by
      subst e
      have hk := app_ok hr (oo o ho)
      have te := tide_end_eq false hT hS (hk.okC hn) (by have := hk.2.1; omega)
      have al := fun ρ hρ h1 => app_l (oo o ho) 9 4 8 (by omega) (by omega) (by omega) ρ hρ h1
      rw [show sqD false ((app row o).map encC) = .tuple ((app row o).map encC) from rfl] at te
      have hk3 : key3 T S (app row o) = (endT T S (app row o)).map fun e => (e, mk3 (app row o)) := rfl
      cases h : endT T S (app row o) with
      | none =>
        rw [h] at te hk3
        refine ⟨_, [some (.tuple (T.map PyData.int)), some (.tuple (S.map enc)), x2, some (.list acc), some (encSs row), some (encC o), some (encSs (app row o)), some .none, none], rfl, ?_, some (encC o), some (encSs (app row o)), some .none, ?_⟩
        · unfold encSs encC at *
          generalize PyData.tuple (row.map (fun c => PyData.tuple (c.map PyData.int))) = ES at *
          generalize (app row o).map (fun c => PyData.tuple (c.map PyData.int)) = EA at *
          generalize o.map PyData.int = EO at *
          generalize T.map PyData.int = MT at *
          generalize S.map enc = MS at *
          have fn : flat .none = true := rfl
          simp -implicitDefEqProofs only [l1_tide_sets, xVar_a, xC_a, xBin_a, xUn_a, tOf_a, tTru_a, tNotP_a, tAndP_a, tOrP_a, tyes_a, tno_a, tYesP_a, xNil_a, xCons_a, xTup_a, xLst_a, xAnd_a, xOr_a, xIf_a, xChain_a, oNo_a, oAt_a, xSl_a, xCall_a, xSeq_a, xIt_a, xLc_a, gSet_a, gTupD_a, gsNil_a, gsCons_a, sNop_a, sBrk_a, sCnt_a, sSeq_a, sRet_a, sIf_a, sSet_a, sTgt_a, sAug_a, sApp_a, sExt_a, sPut_a, sPutK_a, pkO_s, sFor_a, sWhile_a, sPar_a, runD_a, b2_s, c2_s, sqO_nx, sqO_rt, sqO_bk, sqO_ct, ifO_t, ifO_f, stO_s, endO_nx, endO_rt, andO_t, andO_f, orO_t, orO_f, chO_s, chP_t, chP_f, slO_s, atO_i, lcO_s, forO_s, gsO_s, nxO_s, tgO_s, paO_s, apO_s, exO_s, plO_s, ptO_s, dB_b, tru_b, tru_n, tru_i, tru_l, tru_t, is_n, isn_n, nn_n, nn_i, nn_b, nn_t, nn_l, add_ii, add'_ii, sub_ii, neg_i, lt_ii, le_ii, gt_ii, ge_ii, ix_l, ix_t, ix_s, at0, at1, at2, sl_l, sl_t, len_l, len_t, len_s, abs_i, int_i, int_b, max_ii, min_ii, tup_s, lst_s, seq_l, seq_t, sum_s, wipe_n, wipe_c, mul_ii, fdiv_ii, mod_ii, add_ll, add_tt, setAll, mkT, mkL, oNot, List.getD_cons_zero, List.getD_cons_succ, List.length_cons, List.length_nil, List.set_cons_zero, List.set_cons_succ, List.map_cons, List.map_nil, List.replicate, List.cons_append, List.nil_append, List.append_nil, Option.bind_some, Option.map_some, List.all_cons, List.all_nil, if_true, if_false, reduceIte, Nat.reduceAdd, Nat.reduceSub, Nat.reduceLT, Nat.reduceLeDiff, Nat.reduceEqDiff, decide_true, decide_false, Bool.and_true, Bool.and_self, Bool.true_and, Bool.not_true, Bool.not_false, ne_eq, not_true_eq_false, not_false_eq_true, Nat.zero_add, Bool.false_eq_true, and_self, true_and, and_true, al, te, eO, fn]
        · rw [hk3]
          simp
      | some e =>
        rw [h] at te hk3
        rw [hk3] at ha
        have ha' : acc.length < 16777216 := by simp at ha; omega
        refine ⟨_, [some (.tuple (T.map PyData.int)), some (.tuple (S.map enc)), x2, some (.list (acc ++ [.tuple [.int e, encSs (app row o)]])), some (encSs row), some (encC o), some (encSs (app row o)), some (.int e), none], rfl, ?_, some (encC o), some (encSs (app row o)), some (.int e), ?_⟩
        · unfold encSs encC at *
          generalize PyData.tuple (row.map (fun c => PyData.tuple (c.map PyData.int))) = ES at *
          generalize (app row o).map (fun c => PyData.tuple (c.map PyData.int)) = EA at *
          generalize o.map PyData.int = EO at *
          generalize T.map PyData.int = MT at *
          generalize S.map enc = MS at *
          simp -implicitDefEqProofs only [l1_tide_sets, xVar_a, xC_a, xBin_a, xUn_a, tOf_a, tTru_a, tNotP_a, tAndP_a, tOrP_a, tyes_a, tno_a, tYesP_a, xNil_a, xCons_a, xTup_a, xLst_a, xAnd_a, xOr_a, xIf_a, xChain_a, oNo_a, oAt_a, xSl_a, xCall_a, xSeq_a, xIt_a, xLc_a, gSet_a, gTupD_a, gsNil_a, gsCons_a, sNop_a, sBrk_a, sCnt_a, sSeq_a, sRet_a, sIf_a, sSet_a, sTgt_a, sAug_a, sApp_a, sExt_a, sPut_a, sPutK_a, pkO_s, sFor_a, sWhile_a, sPar_a, runD_a, b2_s, c2_s, sqO_nx, sqO_rt, sqO_bk, sqO_ct, ifO_t, ifO_f, stO_s, endO_nx, endO_rt, andO_t, andO_f, orO_t, orO_f, chO_s, chP_t, chP_f, slO_s, atO_i, lcO_s, forO_s, gsO_s, nxO_s, tgO_s, paO_s, apO_s, exO_s, plO_s, ptO_s, dB_b, tru_b, tru_n, tru_i, tru_l, tru_t, is_n, isn_n, nn_n, nn_i, nn_b, nn_t, nn_l, add_ii, add'_ii, sub_ii, neg_i, lt_ii, le_ii, gt_ii, ge_ii, ix_l, ix_t, ix_s, at0, at1, at2, sl_l, sl_t, len_l, len_t, len_s, abs_i, int_i, int_b, max_ii, min_ii, tup_s, lst_s, seq_l, seq_t, sum_s, wipe_n, wipe_c, mul_ii, fdiv_ii, mod_ii, add_ll, add_tt, setAll, mkT, mkL, oNot, List.getD_cons_zero, List.getD_cons_succ, List.length_cons, List.length_nil, List.set_cons_zero, List.set_cons_succ, List.map_cons, List.map_nil, List.replicate, List.cons_append, List.nil_append, List.append_nil, Option.bind_some, Option.map_some, List.all_cons, List.all_nil, if_true, if_false, reduceIte, Nat.reduceAdd, Nat.reduceSub, Nat.reduceLT, Nat.reduceLeDiff, Nat.reduceEqDiff, decide_true, decide_false, Bool.and_true, Bool.and_self, Bool.true_and, Bool.not_true, Bool.not_false, ne_eq, not_true_eq_false, not_false_eq_true, Nat.zero_add, Bool.false_eq_true, and_self, true_and, and_true, al, te, eO, flat_int, ha']
        · rw [hk3, Option.map_some, Option.toList_some, List.map_cons, List.map_nil, toD_3]) (by omega) ⟨x5, x6, x7, rfl⟩
  subst e2
  exact ⟨_, _, _, e1⟩
def fnd (T : List Int) (S : List Sh) (n m : Nat) : List K3 := (SR n m).flatMap fun row => (ORD row.length).flatMap fun o => (key3 T S (app row o)).toList
theorem tide_sets_eq {T : List Int} {S : List Sh} {n m : Nat} (hT : OkT T) (hS : OkS S) (hn : S.length = n) (h4 : n ≤ 4) (h1 : 1 ≤ m) (hm : m ≤ n) :
    d_tide_sets [.tuple (T.map PyData.int), .tuple (S.map enc), .int (m : Nat)] = some ((least (fnd T S n m)).elim .none Datum.toD) := by
  have so := List.all_eq_true.mp (sr_o h1 hm h4)
  have sl := sr_l h1 hm h4
  have sa := sr_a h1 hm h4
  have hk : ∀ row ∈ SR n m, ((ORD row.length).flatMap fun o => (key3 T S (app row o)).toList).length ≤ 24 := fun row hrow => by
    have hr := okSs_of (so row hrow)
    have ol := or_l hr.1 (by have := hr.2.1; omega)
    have := len_fm (fun o => key3 T S (app row o)) (ORD row.length)
    omega
  have hlen : (fnd T S n m).length ≤ 480 := by
    have := fl_len _ 24 (SR n m) hk
    unfold fnd
    omega
  obtain ⟨ρ', e1, x4, x5, x6, x7, e2⟩ := forL_fl (g := gSet 4) (b := l2_tide_sets) (N := 900) encSs Datum.toD (fun row => (ORD row.length).flatMap fun o => (key3 T S (app row o)).toList) (fun acc ρ => ∃ x4 x5 x6 x7, ρ = [some (.tuple (T.map PyData.int)), some (.tuple (S.map enc)), some (.int (m : Nat)), some (.list acc), x4, x5, x6, x7, none]) (SR n m) [] [some (.tuple (T.map PyData.int)), some (.tuple (S.map enc)), some (.int (m : Nat)), some (.list []), none, none, none, none, none]
    (fun row hrow acc ρ ha ⟨x4, x5, x6, x7, e⟩ => by
      subst e
      have hr := okSs_of (so row hrow)
      have oa := or_a hr.1 (by have := hr.2.1; omega)
      obtain ⟨y5, y6, y7, t⟩ := ts_row hT hS hn h4 hr acc (by omega) (some (.int (m : Nat))) x5 x6 x7
      refine ⟨_, [some (.tuple (T.map PyData.int)), some (.tuple (S.map enc)), some (.int (m : Nat)), some (.list (acc ++ ((ORD row.length).flatMap fun o => (key3 T S (app row o)).toList).map Datum.toD)), some (encSs row), y5, y6, y7, none], rfl, ?_, some (encSs row), y5, y6, y7, rfl⟩
      have ln : ((row.map encC).length : Int) = (row.length : Int) := by rw [List.length_map]
      generalize ((ORD row.length).flatMap fun o => (key3 T S (app row o)).toList).map Datum.toD = MK at *
      unfold encSs at *
      generalize row.map encC = ER at *
      generalize (ORD row.length).map encC = EO at *
      generalize T.map PyData.int = MT at *
      generalize S.map enc = MS at *
      simp -implicitDefEqProofs only [l2_tide_sets, xVar_a, xC_a, xBin_a, xUn_a, tOf_a, tTru_a, tNotP_a, tAndP_a, tOrP_a, tyes_a, tno_a, tYesP_a, xNil_a, xCons_a, xTup_a, xLst_a, xAnd_a, xOr_a, xIf_a, xChain_a, oNo_a, oAt_a, xSl_a, xCall_a, xSeq_a, xIt_a, xLc_a, gSet_a, gTupD_a, gsNil_a, gsCons_a, sNop_a, sBrk_a, sCnt_a, sSeq_a, sRet_a, sIf_a, sSet_a, sTgt_a, sAug_a, sApp_a, sExt_a, sPut_a, sPutK_a, pkO_s, sFor_a, sWhile_a, sPar_a, runD_a, b2_s, c2_s, sqO_nx, sqO_rt, sqO_bk, sqO_ct, ifO_t, ifO_f, stO_s, endO_nx, endO_rt, andO_t, andO_f, orO_t, orO_f, chO_s, chP_t, chP_f, slO_s, atO_i, lcO_s, forO_s, gsO_s, nxO_s, tgO_s, paO_s, apO_s, exO_s, plO_s, ptO_s, dB_b, tru_b, tru_n, tru_i, tru_l, tru_t, is_n, isn_n, nn_n, nn_i, nn_b, nn_t, nn_l, add_ii, add'_ii, sub_ii, neg_i, lt_ii, le_ii, gt_ii, ge_ii, ix_l, ix_t, ix_s, at0, at1, at2, sl_l, sl_t, len_l, len_t, len_s, abs_i, int_i, int_b, max_ii, min_ii, tup_s, lst_s, seq_l, seq_t, sum_s, wipe_n, wipe_c, mul_ii, fdiv_ii, mod_ii, add_ll, add_tt, setAll, mkT, mkL, oNot, List.getD_cons_zero, List.getD_cons_succ, List.length_cons, List.length_nil, List.set_cons_zero, List.set_cons_succ, List.map_cons, List.map_nil, List.replicate, List.cons_append, List.nil_append, List.append_nil, Option.bind_some, Option.map_some, List.all_cons, List.all_nil, if_true, if_false, reduceIte, Nat.reduceAdd, Nat.reduceSub, Nat.reduceLT, Nat.reduceLeDiff, Nat.reduceEqDiff, decide_true, decide_false, Bool.and_true, Bool.and_self, Bool.true_and, Bool.not_true, Bool.not_false, ne_eq, not_true_eq_false, not_false_eq_true, Nat.zero_add, Bool.false_eq_true, and_self, true_and, and_true, ln, oa, t]) (by unfold fnd at hlen; simp -implicitDefEqProofs only [List.length_nil]; omega) ⟨none, none, none, none, rfl⟩
  subst e2
  simp only [List.nil_append] at e1
  have mk := minK_map depth3 (x := .list ((fnd T S n m).map Datum.toD)) (fnd T S n m) .none rfl
  have ln : ((S.map enc).length : Int) = (n : Int) := by rw [List.length_map, hn]
  unfold fnd at *
  generalize ((SR n m).flatMap fun row => (ORD row.length).flatMap fun o => (key3 T S (app row o)).toList).map Datum.toD = MK at *
  generalize T.map PyData.int = MT at *
  generalize S.map enc = MS at *
  generalize (SR n m).map encSs = ES at *
  simp -implicitDefEqProofs only [d_tide_sets, g_tide_sets, xVar_a, xC_a, xBin_a, xUn_a, tOf_a, tTru_a, tNotP_a, tAndP_a, tOrP_a, tyes_a, tno_a, tYesP_a, xNil_a, xCons_a, xTup_a, xLst_a, xAnd_a, xOr_a, xIf_a, xChain_a, oNo_a, oAt_a, xSl_a, xCall_a, xSeq_a, xIt_a, xLc_a, gSet_a, gTupD_a, gsNil_a, gsCons_a, sNop_a, sBrk_a, sCnt_a, sSeq_a, sRet_a, sIf_a, sSet_a, sTgt_a, sAug_a, sApp_a, sExt_a, sPut_a, sPutK_a, pkO_s, sFor_a, sWhile_a, sPar_a, runD_a, b2_s, c2_s, sqO_nx, sqO_rt, sqO_bk, sqO_ct, ifO_t, ifO_f, stO_s, endO_nx, endO_rt, andO_t, andO_f, orO_t, orO_f, chO_s, chP_t, chP_f, slO_s, atO_i, lcO_s, forO_s, gsO_s, nxO_s, tgO_s, paO_s, apO_s, exO_s, plO_s, ptO_s, dB_b, tru_b, tru_n, tru_i, tru_l, tru_t, is_n, isn_n, nn_n, nn_i, nn_b, nn_t, nn_l, add_ii, add'_ii, sub_ii, neg_i, lt_ii, le_ii, gt_ii, ge_ii, ix_l, ix_t, ix_s, at0, at1, at2, sl_l, sl_t, len_l, len_t, len_s, abs_i, int_i, int_b, max_ii, min_ii, tup_s, lst_s, seq_l, seq_t, sum_s, wipe_n, wipe_c, mul_ii, fdiv_ii, mod_ii, add_ll, add_tt, setAll, mkT, mkL, oNot, List.getD_cons_zero, List.getD_cons_succ, List.length_cons, List.length_nil, List.set_cons_zero, List.set_cons_succ, List.map_cons, List.map_nil, List.replicate, List.cons_append, List.nil_append, List.append_nil, Option.bind_some, Option.map_some, List.all_cons, List.all_nil, if_true, if_false, reduceIte, Nat.reduceAdd, Nat.reduceSub, Nat.reduceLT, Nat.reduceLeDiff, Nat.reduceEqDiff, decide_true, decide_false, Bool.and_true, Bool.and_self, Bool.true_and, Bool.not_true, Bool.not_false, ne_eq, not_true_eq_false, not_false_eq_true, Nat.zero_add, Bool.false_eq_true, and_self, true_and, and_true, ln, sa, e1, xCallK_a, mk]
/-- both ways to part the ships give the same least end -/
theorem least_same {T : List Int} {S : List Sh} {n m : Nat} (h1 : 1 ≤ m) (hm : m ≤ n) (h4 : n ≤ 4) : least (fnd T S n m) = least ((BL n m).flatMap fun s => (key3 T S s).toList) := by
  have tb := List.all_eq_true.mp (ts_b h1 hm h4)
  have bt := List.all_eq_true.mp (bl_t h1 hm h4)
  refine least_mem fun k => ?_
  have key : k ∈ fnd T S n m ↔ ∃ s ∈ TS n m, key3 T S s = some k := by
    unfold fnd TS
    constructor
    · intro h
      obtain ⟨row, hr, h⟩ := List.mem_flatMap.mp h
      obtain ⟨o, ho, h⟩ := List.mem_flatMap.mp h
      exact ⟨app row o, List.mem_flatMap.mpr ⟨row, hr, List.mem_map_of_mem ho⟩, by simpa using h⟩
    · rintro ⟨s, hs, h⟩
      obtain ⟨row, hr, hs⟩ := List.mem_flatMap.mp hs
      obtain ⟨o, ho, rfl⟩ := List.mem_map.mp hs
      exact List.mem_flatMap.mpr ⟨row, hr, List.mem_flatMap.mpr ⟨o, ho, by simpa using h⟩⟩
  rw [key, List.mem_flatMap]
  constructor
  · rintro ⟨s, hs, h⟩
    exact ⟨s, by simpa using tb s hs, by simpa using h⟩
  · rintro ⟨s, hs, h⟩
    exact ⟨s, by simpa using bt s hs, by simpa using h⟩
/-! like -/
theorem like_ints (k : Nat) (l : List Int) (h : l.length ≤ 1000) : d__law_like (k + 2) [.tuple (l.map PyData.int), .tuple (l.map PyData.int)] = some (.bool true) := by
  refine like_tup _ _ (by rw [List.length_map]; omega) fun x hx => ?_
  obtain ⟨i, _, rfl⟩ := List.mem_map.mp hx
  exact like_int _ _
theorem like_eO (k : Nat) (o : Option Int) : d__law_like (k + 1) [eO o, eO o] = some (.bool true) := by
  cases o with
  | none => exact like_none _
  | some i => exact like_int _ _
theorem like_tmD (k : Nat) (o : Option (List Sh)) (h : ∀ l, o = some l → l.length ≤ 1000) : d__law_like (k + 3) [tmD o, tmD o] = some (.bool true) := by
  cases o with
  | none => exact like_none _
  | some l =>
    have := h l rfl
    refine like_tup _ _ (by rw [List.length_map]; omega) fun x hx => ?_
    obtain ⟨p, _, rfl⟩ := List.mem_map.mp hx
    exact like_ints _ [p.1, p.2] (by simp)
theorem like_Ss (k : Nat) (s : List (List Int)) (h : s.length ≤ 1000) (h2 : ∀ c ∈ s, c.length ≤ 1000) : d__law_like (k + 3) [encSs s, encSs s] = some (.bool true) := by
  refine like_tup _ _ (by rw [List.length_map]; omega) fun x hx => ?_
  obtain ⟨c, hc, rfl⟩ := List.mem_map.mp hx
  exact like_ints _ c (h2 c hc)
theorem like_K3 {T : List Int} {S : List Sh} {l : List K3} {n : Nat} (hn : n ≤ 4) (k : Nat) (h : ∀ x ∈ l, ∃ s, OkSs n s ∧ key3 T S s = some x) : d__law_like (k + 4) [(least l).elim .none Datum.toD, (least l).elim .none Datum.toD] = some (.bool true) := by
  cases e : least l with
  | none => exact like_none _
  | some x =>
    obtain ⟨s, hs, hk⟩ := h x (least_iff.mp e).1
    unfold key3 at hk
    obtain ⟨i, _, rfl⟩ := Option.map_eq_some_iff.mp hk
    show d__law_like (k + 4) [Datum.toD ((i, mk3 s) : K3), Datum.toD ((i, mk3 s) : K3)] = _
    rw [toD_3]
    refine like_tup _ _ (by simp) fun y hy => ?_
    simp at hy
    rcases hy with rfl | rfl
    · exact like_int _ _
    · exact like_Ss _ _ (by have := hs.2.1; omega) fun c hc => by have := (hs.2.2 c hc).2.1; omega
theorem like_K2 {T : List Int} {S : List Sh} {s : List (List Int)} {l : List K2} (k : Nat) (h : ∀ x ∈ l, ∃ o : List Int, o.length ≤ 4 ∧ key2 T S s o = some x) : d__law_like (k + 3) [(least l).elim .none Datum.toD, (least l).elim .none Datum.toD] = some (.bool true) := by
  cases e : least l with
  | none => exact like_none _
  | some x =>
    obtain ⟨o, ho, hk⟩ := h x (least_iff.mp e).1
    unfold key2 at hk
    obtain ⟨i, _, rfl⟩ := Option.map_eq_some_iff.mp hk
    show d__law_like (k + 3) [Datum.toD ((i, ⟨o⟩) : K2), Datum.toD ((i, ⟨o⟩) : K2)] = _
    rw [toD_2]
    refine like_tup _ _ (by simp) fun y hy => ?_
    simp at hy
    rcases hy with rfl | rfl
    · exact like_int _ _
    · exact like_ints _ _ (by omega)
/-- (sorted(keys) + [None])[0] -/
theorem first_none {α : Type} [DecidableEq α] [PySem.W.DatumOrd α] {l : List α} (l' : List α) (h : l'.head? = least l) (hl : l'.length ≤ 1000) : ∃ xs, oAdd (.list (l'.map Datum.toD)) (.list [.none]) = some (.list xs) ∧ atI xs 0 = some ((least l).elim .none Datum.toD) := by
  refine ⟨l'.map Datum.toD ++ [.none], add_ll (by simp; omega), ?_⟩
  rw [← h]
  cases l' with
  | nil => rfl
  | cons x xs => exact at0 _ _
end K08

namespace K08
open PySem PySem.Spec PyProof.Rows L2 Pm
/-- over sills, by places: m more from place k on -/
def ov (T : List Int) (need : Int) (sills steps : List Int) : Nat → Nat → Int → Option (List Int)
  | 0, _, _ => some []
  | m + 1, k, now => (fst T (need + sills.getD k 0) now).bind fun t => (ov T need sills steps m (k + 1) (t + steps.getD k 0)).map (t :: ·)
def lO : Option (List Int) → D
  | none => .none
  | some l => .tuple (l.map PyData.int)
def OkG (steps : List Int) : Prop := ∀ g ∈ steps, 0 ≤ g ∧ g ≤ 100
theorem OkG.at {steps : List Int} (h : OkG steps) (k : Nat) : 0 ≤ steps.getD k 0 ∧ steps.getD k 0 ≤ 100 := by
  by_cases hk : k < steps.length
  · rw [List.getD_eq_getElem?_getD, List.getElem?_eq_getElem hk, Option.getD_some]
    exact h _ (List.getElem_mem hk)
  · rw [List.getD_eq_getElem?_getD, List.getElem?_eq_none (by omega)]
    simp
theorem ov_len {T : List Int} {need : Int} {sills steps : List Int} : ∀ {m k : Nat} {now : Int} {l : List Int}, ov T need sills steps m k now = some l → l.length = m
  | 0, _, _, l, e => by cases e; rfl
  | m + 1, k, now, l, e => by
    unfold ov at e
    obtain ⟨t, _, e⟩ := bind2 e
    obtain ⟨l', e1, rfl⟩ := Option.map_eq_some_iff.mp e
    rw [List.length_cons, ov_len e1]
theorem like_lO (k : Nat) (o : Option (List Int)) (h : ∀ l, o = some l → l.length ≤ 1000) : d__law_like (k + 2) [lO o, lO o] = some (.bool true) := by
  cases o with
  | none => exact like_none _
  | some l => exact like_ints _ _ (h l rfl)
theorem step_at {steps : List Int} (k : Nat) (h : k ≤ steps.length) : atI (steps.map PyData.int ++ [.int 0]) (k : Int) = some (.int (steps.getD k 0)) := by
  have : steps.map PyData.int ++ [.int 0] = (steps ++ [0]).map PyData.int := by simp
  rw [this, row_at _ _ (by simp; omega)]
  congr 2
  rw [List.getD_eq_getElem?_getD, List.getD_eq_getElem?_getD]
  by_cases hk : k < steps.length
  · rw [List.getElem?_append_left hk]
  · have : k = steps.length := by omega
    subst this
    simp
theorem lo_loop {T : List Int} (hT : OkT T) {need hour : Int} {sills steps : List Int} (hG : OkG steps) (hs : sills.length ≤ steps.length + 1) (hl2 : steps.length ≤ 1000) (hl : sills.length ≤ 100) : ∀ (m k : Nat) (now : Int) (acc : List Int) (x5 x8 : Option D), k + m = sills.length → 0 ≤ now → now + 108 * m < 90000 → acc.length = k →
    (ov T need sills steps m k now = none ∧ forL (gSet 5) l1__law_over ((List.range' k m).map fun k : Nat => PyData.int (k : Nat)) [some (.tuple (T.map PyData.int)), some (.tuple (sills.map PyData.int)), some (.tuple (steps.map PyData.int)), some (.int need), some (.int hour), x5, some (.int now), some (.list (acc.map PyData.int)), x8] = some (.rt .none)) ∨
    ∃ l y5 y6 y8, ov T need sills steps m k now = some l ∧ forL (gSet 5) l1__law_over ((List.range' k m).map fun k : Nat => PyData.int (k : Nat)) [some (.tuple (T.map PyData.int)), some (.tuple (sills.map PyData.int)), some (.tuple (steps.map PyData.int)), some (.int need), some (.int hour), x5, some (.int now), some (.list (acc.map PyData.int)), x8] =
      some (.nx [some (.tuple (T.map PyData.int)), some (.tuple (sills.map PyData.int)), some (.tuple (steps.map PyData.int)), some (.int need), some (.int hour), y5, y6, some (.list ((acc ++ l).map PyData.int)), y8])
  | 0, k, now, acc, x5, x8, _, _, _, _ => .inr ⟨[], x5, _, x8, rfl, by rw [List.append_nil]; rfl⟩
  | m + 1, k, now, acc, x5, x8, hk, h0, h1, ha => by
    have i1 := row_at sills k (by omega)
    have i2 := step_at (steps := steps) k (by omega)
    have gk := hG.at k
    have f := law_first_eq hT (need := need + sills.getD k 0) h0 (by omega)
    have hg : gSet 5 (.int (k : Nat)) [some (.tuple (T.map PyData.int)), some (.tuple (sills.map PyData.int)), some (.tuple (steps.map PyData.int)), some (.int need), some (.int hour), x5, some (.int now), some (.list (acc.map PyData.int)), x8] = some [some (.tuple (T.map PyData.int)), some (.tuple (sills.map PyData.int)), some (.tuple (steps.map PyData.int)), some (.int need), some (.int hour), some (.int (k : Nat)), some (.int now), some (.list (acc.map PyData.int)), x8] := rfl
    have ad : oAdd (.tuple (steps.map PyData.int)) (.tuple [.int 0]) = some (.tuple (steps.map PyData.int ++ [.int 0])) := add_tt (by simp; omega)
    have hlt : (acc.map PyData.int).length < 16777216 := by rw [List.length_map]; omega
    rw [List.range'_succ, List.map_cons]
    cases hf : fst T (need + sills.getD k 0) now with
    | none =>
      refine .inl ⟨by unfold ov; rw [hf]; rfl, ?_⟩
      rw [hf] at f
      simp only [forL, hg, Option.bind_some]
      have : l1__law_over [some (.tuple (T.map PyData.int)), some (.tuple (sills.map PyData.int)), some (.tuple (steps.map PyData.int)), some (.int need), some (.int hour), some (.int (k : Nat)), some (.int now), some (.list (acc.map PyData.int)), x8] = some (.rt .none) := by
        generalize T.map PyData.int = MT at *
        generalize sills.map PyData.int = MS at *
        generalize acc.map PyData.int = MA at *
        generalize steps.map PyData.int ++ [.int 0] = MG' at *
        generalize steps.map PyData.int = MG at *
        simp -implicitDefEqProofs only [l1__law_over, xVar_a, xC_a, xBin_a, xUn_a, tOf_a, tTru_a, tNotP_a, tAndP_a, tOrP_a, tyes_a, tno_a, tYesP_a, xNil_a, xCons_a, xTup_a, xLst_a, xAnd_a, xOr_a, xIf_a, xChain_a, oNo_a, oAt_a, xSl_a, xCall_a, xSeq_a, xIt_a, xLc_a, gSet_a, gTupD_a, gsNil_a, gsCons_a, sNop_a, sBrk_a, sCnt_a, sSeq_a, sRet_a, sIf_a, sSet_a, sTgt_a, sAug_a, sApp_a, sExt_a, sPut_a, sPutK_a, pkO_s, sFor_a, sWhile_a, sPar_a, runD_a, b2_s, c2_s, sqO_nx, sqO_rt, sqO_bk, sqO_ct, ifO_t, ifO_f, stO_s, endO_nx, endO_rt, andO_t, andO_f, orO_t, orO_f, chO_s, chP_t, chP_f, slO_s, atO_i, lcO_s, forO_s, gsO_s, nxO_s, tgO_s, paO_s, apO_s, exO_s, plO_s, ptO_s, dB_b, tru_b, tru_n, tru_i, tru_l, tru_t, is_n, isn_n, nn_n, nn_i, nn_b, nn_t, nn_l, add_ii, add'_ii, sub_ii, neg_i, lt_ii, le_ii, gt_ii, ge_ii, ix_l, ix_t, ix_s, at0, at1, at2, sl_l, sl_t, len_l, len_t, len_s, abs_i, int_i, int_b, max_ii, min_ii, tup_s, lst_s, seq_l, seq_t, sum_s, wipe_n, wipe_c, mul_ii, fdiv_ii, mod_ii, add_ll, add_tt, setAll, mkT, mkL, oNot, List.getD_cons_zero, List.getD_cons_succ, List.length_cons, List.length_nil, List.set_cons_zero, List.set_cons_succ, List.map_cons, List.map_nil, List.replicate, List.cons_append, List.nil_append, List.append_nil, Option.bind_some, Option.map_some, List.all_cons, List.all_nil, if_true, if_false, reduceIte, Nat.reduceAdd, Nat.reduceSub, Nat.reduceLT, Nat.reduceLeDiff, Nat.reduceEqDiff, decide_true, decide_false, Bool.and_true, Bool.and_self, Bool.true_and, Bool.not_true, Bool.not_false, ne_eq, not_true_eq_false, not_false_eq_true, Nat.zero_add, Bool.false_eq_true, and_self, true_and, and_true, i1, f, eO]
      rw [this, Option.bind_some]
    | some t =>
      have ht := fst_some hf
      have h8 := hT.2
      rw [hf] at f
      have st : l1__law_over [some (.tuple (T.map PyData.int)), some (.tuple (sills.map PyData.int)), some (.tuple (steps.map PyData.int)), some (.int need), some (.int hour), some (.int (k : Nat)), some (.int now), some (.list (acc.map PyData.int)), x8] = some (.nx [some (.tuple (T.map PyData.int)), some (.tuple (sills.map PyData.int)), some (.tuple (steps.map PyData.int)), some (.int need), some (.int hour), some (.int (k : Nat)), some (.int (t + steps.getD k 0)), some (.list ((acc ++ [t]).map PyData.int)), some (.int t)]) := by
        rw [List.map_append]
        generalize T.map PyData.int = MT at *
        generalize sills.map PyData.int = MS at *
        generalize acc.map PyData.int = MA at *
        generalize steps.map PyData.int ++ [.int 0] = MG' at *
        generalize steps.map PyData.int = MG at *
        simp -implicitDefEqProofs only [l1__law_over, xVar_a, xC_a, xBin_a, xUn_a, tOf_a, tTru_a, tNotP_a, tAndP_a, tOrP_a, tyes_a, tno_a, tYesP_a, xNil_a, xCons_a, xTup_a, xLst_a, xAnd_a, xOr_a, xIf_a, xChain_a, oNo_a, oAt_a, xSl_a, xCall_a, xSeq_a, xIt_a, xLc_a, gSet_a, gTupD_a, gsNil_a, gsCons_a, sNop_a, sBrk_a, sCnt_a, sSeq_a, sRet_a, sIf_a, sSet_a, sTgt_a, sAug_a, sApp_a, sExt_a, sPut_a, sPutK_a, pkO_s, sFor_a, sWhile_a, sPar_a, runD_a, b2_s, c2_s, sqO_nx, sqO_rt, sqO_bk, sqO_ct, ifO_t, ifO_f, stO_s, endO_nx, endO_rt, andO_t, andO_f, orO_t, orO_f, chO_s, chP_t, chP_f, slO_s, atO_i, lcO_s, forO_s, gsO_s, nxO_s, tgO_s, paO_s, apO_s, exO_s, plO_s, ptO_s, dB_b, tru_b, tru_n, tru_i, tru_l, tru_t, is_n, isn_n, nn_n, nn_i, nn_b, nn_t, nn_l, add_ii, add'_ii, sub_ii, neg_i, lt_ii, le_ii, gt_ii, ge_ii, ix_l, ix_t, ix_s, at0, at1, at2, sl_l, sl_t, len_l, len_t, len_s, abs_i, int_i, int_b, max_ii, min_ii, tup_s, lst_s, seq_l, seq_t, sum_s, wipe_n, wipe_c, mul_ii, fdiv_ii, mod_ii, add_ll, add_tt, setAll, mkT, mkL, oNot, List.getD_cons_zero, List.getD_cons_succ, List.length_cons, List.length_nil, List.set_cons_zero, List.set_cons_succ, List.map_cons, List.map_nil, List.replicate, List.cons_append, List.nil_append, List.append_nil, Option.bind_some, Option.map_some, List.all_cons, List.all_nil, if_true, if_false, reduceIte, Nat.reduceAdd, Nat.reduceSub, Nat.reduceLT, Nat.reduceLeDiff, Nat.reduceEqDiff, decide_true, decide_false, Bool.and_true, Bool.and_self, Bool.true_and, Bool.not_true, Bool.not_false, ne_eq, not_true_eq_false, not_false_eq_true, Nat.zero_add, Bool.false_eq_true, and_self, true_and, and_true, i1, f, eO, hlt, ad, i2]
      have := lo_loop (need := need) (hour := hour) hT hG hs hl2 hl m (k + 1) (t + steps.getD k 0) (acc ++ [t]) (some (.int (k : Nat))) (some (.int t)) (by omega) (by omega) (by omega) (by simp; omega)
      have ht' : ov T need sills steps (m + 1) k now = (ov T need sills steps m (k + 1) (t + steps.getD k 0)).map (t :: ·) := by rw [ov, hf, Option.bind_some]
      rcases this with ⟨t1, t2⟩ | ⟨l, y5, y6, y8, t1, t2⟩
      · refine .inl ⟨by rw [ht', t1]; rfl, ?_⟩
        simp only [forL, hg, Option.bind_some, st]
        exact t2
      · refine .inr ⟨t :: l, y5, y6, y8, by rw [ht', t1]; rfl, ?_⟩
        rw [List.append_assoc] at t2
        simp only [forL, hg, Option.bind_some, st]
        exact t2

theorem law_over_eq {T : List Int} (hT : OkT T) {need hour : Int} {sills steps : List Int} (hG : OkG steps) (hs : sills.length ≤ steps.length + 1) (hl2 : steps.length ≤ 1000) (hl : sills.length ≤ 100) (h0 : 0 ≤ hour) (h1 : hour < 70000) :
    d__law_over [.tuple (T.map PyData.int), .tuple (sills.map PyData.int), .tuple (steps.map PyData.int), .int need, .int hour] = some (lO (ov T need sills steps sills.length 0 hour)) := by
  have := lo_loop (need := need) (hour := hour) hT hG hs hl2 hl sills.length 0 hour [] none none (by omega) h0 (by omega) rfl
  have g := rg0 sills.length (by omega)
  rw [List.range_eq_range'] at g
  have ln : ((sills.map PyData.int).length : Int) = (sills.length : Int) := by rw [List.length_map]
  rcases this with ⟨t1, t2⟩ | ⟨l, y5, y6, y8, t1, t2⟩
  · rw [t1]
    simp only [List.map_nil] at t2
    generalize (List.range' 0 sills.length).map (fun k : Nat => PyData.int (k : Nat)) = RR at *
    generalize T.map PyData.int = MT at *
    generalize sills.map PyData.int = MS at *
    generalize steps.map PyData.int = MG at *
    simp -implicitDefEqProofs only [d__law_over, g__law_over, xVar_a, xC_a, xBin_a, xUn_a, tOf_a, tTru_a, tNotP_a, tAndP_a, tOrP_a, tyes_a, tno_a, tYesP_a, xNil_a, xCons_a, xTup_a, xLst_a, xAnd_a, xOr_a, xIf_a, xChain_a, oNo_a, oAt_a, xSl_a, xCall_a, xSeq_a, xIt_a, xLc_a, gSet_a, gTupD_a, gsNil_a, gsCons_a, sNop_a, sBrk_a, sCnt_a, sSeq_a, sRet_a, sIf_a, sSet_a, sTgt_a, sAug_a, sApp_a, sExt_a, sPut_a, sPutK_a, pkO_s, sFor_a, sWhile_a, sPar_a, runD_a, b2_s, c2_s, sqO_nx, sqO_rt, sqO_bk, sqO_ct, ifO_t, ifO_f, stO_s, endO_nx, endO_rt, andO_t, andO_f, orO_t, orO_f, chO_s, chP_t, chP_f, slO_s, atO_i, lcO_s, forO_s, gsO_s, nxO_s, tgO_s, paO_s, apO_s, exO_s, plO_s, ptO_s, dB_b, tru_b, tru_n, tru_i, tru_l, tru_t, is_n, isn_n, nn_n, nn_i, nn_b, nn_t, nn_l, add_ii, add'_ii, sub_ii, neg_i, lt_ii, le_ii, gt_ii, ge_ii, ix_l, ix_t, ix_s, at0, at1, at2, sl_l, sl_t, len_l, len_t, len_s, abs_i, int_i, int_b, max_ii, min_ii, tup_s, lst_s, seq_l, seq_t, sum_s, wipe_n, wipe_c, mul_ii, fdiv_ii, mod_ii, add_ll, add_tt, setAll, mkT, mkL, oNot, List.getD_cons_zero, List.getD_cons_succ, List.length_cons, List.length_nil, List.set_cons_zero, List.set_cons_succ, List.map_cons, List.map_nil, List.replicate, List.cons_append, List.nil_append, List.append_nil, Option.bind_some, Option.map_some, List.all_cons, List.all_nil, if_true, if_false, reduceIte, Nat.reduceAdd, Nat.reduceSub, Nat.reduceLT, Nat.reduceLeDiff, Nat.reduceEqDiff, decide_true, decide_false, Bool.and_true, Bool.and_self, Bool.true_and, Bool.not_true, Bool.not_false, ne_eq, not_true_eq_false, not_false_eq_true, Nat.zero_add, Bool.false_eq_true, and_self, true_and, and_true, ln, g, t2, lO]
  · rw [t1]
    simp only [List.map_nil, List.nil_append] at t2
    generalize (List.range' 0 sills.length).map (fun k : Nat => PyData.int (k : Nat)) = RR at *
    generalize T.map PyData.int = MT at *
    generalize sills.map PyData.int = MS at *
    generalize steps.map PyData.int = MG at *
    simp -implicitDefEqProofs only [d__law_over, g__law_over, xVar_a, xC_a, xBin_a, xUn_a, tOf_a, tTru_a, tNotP_a, tAndP_a, tOrP_a, tyes_a, tno_a, tYesP_a, xNil_a, xCons_a, xTup_a, xLst_a, xAnd_a, xOr_a, xIf_a, xChain_a, oNo_a, oAt_a, xSl_a, xCall_a, xSeq_a, xIt_a, xLc_a, gSet_a, gTupD_a, gsNil_a, gsCons_a, sNop_a, sBrk_a, sCnt_a, sSeq_a, sRet_a, sIf_a, sSet_a, sTgt_a, sAug_a, sApp_a, sExt_a, sPut_a, sPutK_a, pkO_s, sFor_a, sWhile_a, sPar_a, runD_a, b2_s, c2_s, sqO_nx, sqO_rt, sqO_bk, sqO_ct, ifO_t, ifO_f, stO_s, endO_nx, endO_rt, andO_t, andO_f, orO_t, orO_f, chO_s, chP_t, chP_f, slO_s, atO_i, lcO_s, forO_s, gsO_s, nxO_s, tgO_s, paO_s, apO_s, exO_s, plO_s, ptO_s, dB_b, tru_b, tru_n, tru_i, tru_l, tru_t, is_n, isn_n, nn_n, nn_i, nn_b, nn_t, nn_l, add_ii, add'_ii, sub_ii, neg_i, lt_ii, le_ii, gt_ii, ge_ii, ix_l, ix_t, ix_s, at0, at1, at2, sl_l, sl_t, len_l, len_t, len_s, abs_i, int_i, int_b, max_ii, min_ii, tup_s, lst_s, seq_l, seq_t, sum_s, wipe_n, wipe_c, mul_ii, fdiv_ii, mod_ii, add_ll, add_tt, setAll, mkT, mkL, oNot, List.getD_cons_zero, List.getD_cons_succ, List.length_cons, List.length_nil, List.set_cons_zero, List.set_cons_succ, List.map_cons, List.map_nil, List.replicate, List.cons_append, List.nil_append, List.append_nil, Option.bind_some, Option.map_some, List.all_cons, List.all_nil, if_true, if_false, reduceIte, Nat.reduceAdd, Nat.reduceSub, Nat.reduceLT, Nat.reduceLeDiff, Nat.reduceEqDiff, decide_true, decide_false, Bool.and_true, Bool.and_self, Bool.true_and, Bool.not_true, Bool.not_false, ne_eq, not_true_eq_false, not_false_eq_true, Nat.zero_add, Bool.false_eq_true, and_self, true_and, and_true, ln, g, t2, lO]
theorem enum_map (W : List Int) : enumD (W.map PyData.int) = (List.range W.length).map fun i => .tuple [.int (i : Nat), .int (W.getD i 0)] := by
  unfold enumD
  apply List.ext_getElem?
  intro i
  by_cases h : i < W.length
  · simp [h]
  · simp [h]
theorem at_m1 (acc : List Int) (t : Int) : atI ((acc ++ [t]).map PyData.int) (-1) = some (.int t) := by
  unfold atI
  have e : ixN ((acc ++ [t]).map PyData.int).length (-1) = some acc.length := by
    unfold ixN
    rw [if_neg (by decide), List.length_map, List.length_append, List.length_cons, List.length_nil, if_pos (by omega)]
    exact congrArg some (by omega)
  rw [e, Option.bind_some]
  simp
/-- the hour from which the next is looked for -/
def NowOk (steps acc : List Int) (hour : Int) (k : Nat) (now : Int) : Prop := (k = 0 ∧ acc = [] ∧ now = hour) ∨ ∃ j pre t, k = j + 1 ∧ acc = pre ++ [t] ∧ now = t + steps.getD j 0
theorem cr_loop {T : List Int} (hT : OkT T) {need hour : Int} {sills steps : List Int} (hG : OkG steps) (hs : sills.length ≤ steps.length + 1) (hl2 : steps.length ≤ 1000) (hl : sills.length ≤ 100) : ∀ (m k : Nat) (now : Int) (acc : List Int) (x6 x7 x8 x9 : Option D), k + m = sills.length → 0 ≤ now → now + 108 * m < 90000 → acc.length = k → NowOk steps acc hour k now →
    (ov T need sills steps m k now = none ∧ forL (gTupD 2 (gsCons (gSet 6) (gsCons (gSet 7) gsNil))) l1_cross_rows ((List.range' k m).map fun k : Nat => PyData.tuple [.int (k : Nat), .int (sills.getD k 0)]) [some (.tuple (T.map PyData.int)), some (.tuple (sills.map PyData.int)), some (.tuple (steps.map PyData.int)), some (.int need), some (.int hour), some (.list (acc.map PyData.int)), x6, x7, x8, x9] = some (.rt .none)) ∨
    ∃ l y6 y7 y8 y9, ov T need sills steps m k now = some l ∧ forL (gTupD 2 (gsCons (gSet 6) (gsCons (gSet 7) gsNil))) l1_cross_rows ((List.range' k m).map fun k : Nat => PyData.tuple [.int (k : Nat), .int (sills.getD k 0)]) [some (.tuple (T.map PyData.int)), some (.tuple (sills.map PyData.int)), some (.tuple (steps.map PyData.int)), some (.int need), some (.int hour), some (.list (acc.map PyData.int)), x6, x7, x8, x9] =
      some (.nx [some (.tuple (T.map PyData.int)), some (.tuple (sills.map PyData.int)), some (.tuple (steps.map PyData.int)), some (.int need), some (.int hour), some (.list ((acc ++ l).map PyData.int)), y6, y7, y8, y9])
  | 0, k, now, acc, x6, x7, x8, x9, _, _, _, _, _ => .inr ⟨[], x6, x7, x8, x9, rfl, by rw [List.append_nil]; rfl⟩
  | m + 1, k, now, acc, x6, x7, x8, x9, hk, h0, h1, ha, hn => by
    have gk := hG.at k
    have f := next_open_eq hT (need := need + sills.getD k 0) h0 (by omega)
    have hg : gTupD 2 (gsCons (gSet 6) (gsCons (gSet 7) gsNil)) (.tuple [.int (k : Nat), .int (sills.getD k 0)]) [some (.tuple (T.map PyData.int)), some (.tuple (sills.map PyData.int)), some (.tuple (steps.map PyData.int)), some (.int need), some (.int hour), some (.list (acc.map PyData.int)), x6, x7, x8, x9] = some [some (.tuple (T.map PyData.int)), some (.tuple (sills.map PyData.int)), some (.tuple (steps.map PyData.int)), some (.int need), some (.int hour), some (.list (acc.map PyData.int)), some (.int (k : Nat)), some (.int (sills.getD k 0)), x8, x9] := rfl
    have hlt : (acc.map PyData.int).length < 16777216 := by rw [List.length_map]; omega
    rw [List.range'_succ, List.map_cons]
    cases hf : fst T (need + sills.getD k 0) now with
    | none =>
      refine .inl ⟨by unfold ov; rw [hf]; rfl, ?_⟩
      rw [hf] at f
      simp only [forL, hg, Option.bind_some]
      have : l1_cross_rows [some (.tuple (T.map PyData.int)), some (.tuple (sills.map PyData.int)), some (.tuple (steps.map PyData.int)), some (.int need), some (.int hour), some (.list (acc.map PyData.int)), some (.int (k : Nat)), some (.int (sills.getD k 0)), x8, x9] = some (.rt .none) := by
        rcases hn with ⟨rfl, rfl, rfl⟩ | ⟨j, pre, t, rfl, rfl, rfl⟩
        · generalize T.map PyData.int = MT at *
          generalize sills.map PyData.int = MS at *
          generalize steps.map PyData.int = MG at *
          have e0 : decide (((0 : Nat) : Int) = 0) = true := rfl
          simp -implicitDefEqProofs only [l1_cross_rows, xVar_a, xC_a, xBin_a, xUn_a, tOf_a, tTru_a, tNotP_a, tAndP_a, tOrP_a, tyes_a, tno_a, tYesP_a, xNil_a, xCons_a, xTup_a, xLst_a, xAnd_a, xOr_a, xIf_a, xChain_a, oNo_a, oAt_a, xSl_a, xCall_a, xSeq_a, xIt_a, xLc_a, gSet_a, gTupD_a, gsNil_a, gsCons_a, sNop_a, sBrk_a, sCnt_a, sSeq_a, sRet_a, sIf_a, sSet_a, sTgt_a, sAug_a, sApp_a, sExt_a, sPut_a, sPutK_a, pkO_s, sFor_a, sWhile_a, sPar_a, runD_a, b2_s, c2_s, sqO_nx, sqO_rt, sqO_bk, sqO_ct, ifO_t, ifO_f, stO_s, endO_nx, endO_rt, andO_t, andO_f, orO_t, orO_f, chO_s, chP_t, chP_f, slO_s, atO_i, lcO_s, forO_s, gsO_s, nxO_s, tgO_s, paO_s, apO_s, exO_s, plO_s, ptO_s, dB_b, tru_b, tru_n, tru_i, tru_l, tru_t, is_n, isn_n, nn_n, nn_i, nn_b, nn_t, nn_l, add_ii, add'_ii, sub_ii, neg_i, lt_ii, le_ii, gt_ii, ge_ii, ix_l, ix_t, ix_s, at0, at1, at2, sl_l, sl_t, len_l, len_t, len_s, abs_i, int_i, int_b, max_ii, min_ii, tup_s, lst_s, seq_l, seq_t, sum_s, wipe_n, wipe_c, mul_ii, fdiv_ii, mod_ii, add_ll, add_tt, setAll, mkT, mkL, oNot, List.getD_cons_zero, List.getD_cons_succ, List.length_cons, List.length_nil, List.set_cons_zero, List.set_cons_succ, List.map_cons, List.map_nil, List.replicate, List.cons_append, List.nil_append, List.append_nil, Option.bind_some, Option.map_some, List.all_cons, List.all_nil, if_true, if_false, reduceIte, Nat.reduceAdd, Nat.reduceSub, Nat.reduceLT, Nat.reduceLeDiff, Nat.reduceEqDiff, decide_true, decide_false, Bool.and_true, Bool.and_self, Bool.true_and, Bool.not_true, Bool.not_false, ne_eq, not_true_eq_false, not_false_eq_true, Nat.zero_add, Bool.false_eq_true, and_self, true_and, and_true, eq_int, e0, f, eO]
        · have a1 := at_m1 pre t
          have a2 := row_at steps j (by omega)
          have e0 : decide (((j + 1 : Nat) : Int) = 0) = false := decide_eq_false (by omega)
          have e1 : ((j + 1 : Nat) : Int) - 1 = (j : Int) := by omega
          generalize (pre ++ [t]).map PyData.int = MA at *
          generalize T.map PyData.int = MT at *
          generalize sills.map PyData.int = MS at *
          generalize steps.map PyData.int = MG at *
          simp -implicitDefEqProofs only [l1_cross_rows, xVar_a, xC_a, xBin_a, xUn_a, tOf_a, tTru_a, tNotP_a, tAndP_a, tOrP_a, tyes_a, tno_a, tYesP_a, xNil_a, xCons_a, xTup_a, xLst_a, xAnd_a, xOr_a, xIf_a, xChain_a, oNo_a, oAt_a, xSl_a, xCall_a, xSeq_a, xIt_a, xLc_a, gSet_a, gTupD_a, gsNil_a, gsCons_a, sNop_a, sBrk_a, sCnt_a, sSeq_a, sRet_a, sIf_a, sSet_a, sTgt_a, sAug_a, sApp_a, sExt_a, sPut_a, sPutK_a, pkO_s, sFor_a, sWhile_a, sPar_a, runD_a, b2_s, c2_s, sqO_nx, sqO_rt, sqO_bk, sqO_ct, ifO_t, ifO_f, stO_s, endO_nx, endO_rt, andO_t, andO_f, orO_t, orO_f, chO_s, chP_t, chP_f, slO_s, atO_i, lcO_s, forO_s, gsO_s, nxO_s, tgO_s, paO_s, apO_s, exO_s, plO_s, ptO_s, dB_b, tru_b, tru_n, tru_i, tru_l, tru_t, is_n, isn_n, nn_n, nn_i, nn_b, nn_t, nn_l, add_ii, add'_ii, sub_ii, neg_i, lt_ii, le_ii, gt_ii, ge_ii, ix_l, ix_t, ix_s, at0, at1, at2, sl_l, sl_t, len_l, len_t, len_s, abs_i, int_i, int_b, max_ii, min_ii, tup_s, lst_s, seq_l, seq_t, sum_s, wipe_n, wipe_c, mul_ii, fdiv_ii, mod_ii, add_ll, add_tt, setAll, mkT, mkL, oNot, List.getD_cons_zero, List.getD_cons_succ, List.length_cons, List.length_nil, List.set_cons_zero, List.set_cons_succ, List.map_cons, List.map_nil, List.replicate, List.cons_append, List.nil_append, List.append_nil, Option.bind_some, Option.map_some, List.all_cons, List.all_nil, if_true, if_false, reduceIte, Nat.reduceAdd, Nat.reduceSub, Nat.reduceLT, Nat.reduceLeDiff, Nat.reduceEqDiff, decide_true, decide_false, Bool.and_true, Bool.and_self, Bool.true_and, Bool.not_true, Bool.not_false, ne_eq, not_true_eq_false, not_false_eq_true, Nat.zero_add, Bool.false_eq_true, and_self, true_and, and_true, eq_int, e0, f, eO, a1, a2, e1]
      rw [this, Option.bind_some]
    | some t' =>
      have ht := fst_some hf
      have h8 := hT.2
      rw [hf] at f
      have st : l1_cross_rows [some (.tuple (T.map PyData.int)), some (.tuple (sills.map PyData.int)), some (.tuple (steps.map PyData.int)), some (.int need), some (.int hour), some (.list (acc.map PyData.int)), some (.int (k : Nat)), some (.int (sills.getD k 0)), x8, x9] = some (.nx [some (.tuple (T.map PyData.int)), some (.tuple (sills.map PyData.int)), some (.tuple (steps.map PyData.int)), some (.int need), some (.int hour), some (.list ((acc ++ [t']).map PyData.int)), some (.int (k : Nat)), some (.int (sills.getD k 0)), some (.int now), some (.int t')]) := by
        rw [List.map_append (l₁ := acc)]
        rcases hn with ⟨rfl, rfl, rfl⟩ | ⟨j, pre, t, rfl, rfl, rfl⟩
        · generalize T.map PyData.int = MT at *
          generalize sills.map PyData.int = MS at *
          generalize steps.map PyData.int = MG at *
          have e0 : decide (((0 : Nat) : Int) = 0) = true := rfl
          simp only [List.map_nil] at hlt
          simp -implicitDefEqProofs only [l1_cross_rows, xVar_a, xC_a, xBin_a, xUn_a, tOf_a, tTru_a, tNotP_a, tAndP_a, tOrP_a, tyes_a, tno_a, tYesP_a, xNil_a, xCons_a, xTup_a, xLst_a, xAnd_a, xOr_a, xIf_a, xChain_a, oNo_a, oAt_a, xSl_a, xCall_a, xSeq_a, xIt_a, xLc_a, gSet_a, gTupD_a, gsNil_a, gsCons_a, sNop_a, sBrk_a, sCnt_a, sSeq_a, sRet_a, sIf_a, sSet_a, sTgt_a, sAug_a, sApp_a, sExt_a, sPut_a, sPutK_a, pkO_s, sFor_a, sWhile_a, sPar_a, runD_a, b2_s, c2_s, sqO_nx, sqO_rt, sqO_bk, sqO_ct, ifO_t, ifO_f, stO_s, endO_nx, endO_rt, andO_t, andO_f, orO_t, orO_f, chO_s, chP_t, chP_f, slO_s, atO_i, lcO_s, forO_s, gsO_s, nxO_s, tgO_s, paO_s, apO_s, exO_s, plO_s, ptO_s, dB_b, tru_b, tru_n, tru_i, tru_l, tru_t, is_n, isn_n, nn_n, nn_i, nn_b, nn_t, nn_l, add_ii, add'_ii, sub_ii, neg_i, lt_ii, le_ii, gt_ii, ge_ii, ix_l, ix_t, ix_s, at0, at1, at2, sl_l, sl_t, len_l, len_t, len_s, abs_i, int_i, int_b, max_ii, min_ii, tup_s, lst_s, seq_l, seq_t, sum_s, wipe_n, wipe_c, mul_ii, fdiv_ii, mod_ii, add_ll, add_tt, setAll, mkT, mkL, oNot, List.getD_cons_zero, List.getD_cons_succ, List.length_cons, List.length_nil, List.set_cons_zero, List.set_cons_succ, List.map_cons, List.map_nil, List.replicate, List.cons_append, List.nil_append, List.append_nil, Option.bind_some, Option.map_some, List.all_cons, List.all_nil, if_true, if_false, reduceIte, Nat.reduceAdd, Nat.reduceSub, Nat.reduceLT, Nat.reduceLeDiff, Nat.reduceEqDiff, decide_true, decide_false, Bool.and_true, Bool.and_self, Bool.true_and, Bool.not_true, Bool.not_false, ne_eq, not_true_eq_false, not_false_eq_true, Nat.zero_add, Bool.false_eq_true, and_self, true_and, and_true, eq_int, e0, f, eO, hlt]
        · have a1 := at_m1 pre t
          have a2 := row_at steps j (by omega)
          have e0 : decide (((j + 1 : Nat) : Int) = 0) = false := decide_eq_false (by omega)
          have e1 : ((j + 1 : Nat) : Int) - 1 = (j : Int) := by omega
          generalize (pre ++ [t]).map PyData.int = MA at *
          generalize T.map PyData.int = MT at *
          generalize sills.map PyData.int = MS at *
          generalize steps.map PyData.int = MG at *
          simp -implicitDefEqProofs only [l1_cross_rows, xVar_a, xC_a, xBin_a, xUn_a, tOf_a, tTru_a, tNotP_a, tAndP_a, tOrP_a, tyes_a, tno_a, tYesP_a, xNil_a, xCons_a, xTup_a, xLst_a, xAnd_a, xOr_a, xIf_a, xChain_a, oNo_a, oAt_a, xSl_a, xCall_a, xSeq_a, xIt_a, xLc_a, gSet_a, gTupD_a, gsNil_a, gsCons_a, sNop_a, sBrk_a, sCnt_a, sSeq_a, sRet_a, sIf_a, sSet_a, sTgt_a, sAug_a, sApp_a, sExt_a, sPut_a, sPutK_a, pkO_s, sFor_a, sWhile_a, sPar_a, runD_a, b2_s, c2_s, sqO_nx, sqO_rt, sqO_bk, sqO_ct, ifO_t, ifO_f, stO_s, endO_nx, endO_rt, andO_t, andO_f, orO_t, orO_f, chO_s, chP_t, chP_f, slO_s, atO_i, lcO_s, forO_s, gsO_s, nxO_s, tgO_s, paO_s, apO_s, exO_s, plO_s, ptO_s, dB_b, tru_b, tru_n, tru_i, tru_l, tru_t, is_n, isn_n, nn_n, nn_i, nn_b, nn_t, nn_l, add_ii, add'_ii, sub_ii, neg_i, lt_ii, le_ii, gt_ii, ge_ii, ix_l, ix_t, ix_s, at0, at1, at2, sl_l, sl_t, len_l, len_t, len_s, abs_i, int_i, int_b, max_ii, min_ii, tup_s, lst_s, seq_l, seq_t, sum_s, wipe_n, wipe_c, mul_ii, fdiv_ii, mod_ii, add_ll, add_tt, setAll, mkT, mkL, oNot, List.getD_cons_zero, List.getD_cons_succ, List.length_cons, List.length_nil, List.set_cons_zero, List.set_cons_succ, List.map_cons, List.map_nil, List.replicate, List.cons_append, List.nil_append, List.append_nil, Option.bind_some, Option.map_some, List.all_cons, List.all_nil, if_true, if_false, reduceIte, Nat.reduceAdd, Nat.reduceSub, Nat.reduceLT, Nat.reduceLeDiff, Nat.reduceEqDiff, decide_true, decide_false, Bool.and_true, Bool.and_self, Bool.true_and, Bool.not_true, Bool.not_false, ne_eq, not_true_eq_false, not_false_eq_true, Nat.zero_add, Bool.false_eq_true, and_self, true_and, and_true, eq_int, e0, f, eO, a1, a2, e1, hlt]
      have := cr_loop (need := need) (hour := hour) hT hG hs hl2 hl m (k + 1) (t' + steps.getD k 0) (acc ++ [t']) (some (.int (k : Nat))) (some (.int (sills.getD k 0))) (some (.int now)) (some (.int t')) (by omega) (by omega) (by omega) (by simp; omega) (.inr ⟨k, acc, t', rfl, rfl, rfl⟩)
      have ht' : ov T need sills steps (m + 1) k now = (ov T need sills steps m (k + 1) (t' + steps.getD k 0)).map (t' :: ·) := by rw [ov, hf, Option.bind_some]
      rcases this with ⟨t1, t2⟩ | ⟨l, y6, y7, y8, y9, t1, t2⟩
      · refine .inl ⟨by rw [ht', t1]; rfl, ?_⟩
        simp only [forL, hg, Option.bind_some, st]
        exact t2
      · refine .inr ⟨t' :: l, y6, y7, y8, y9, by rw [ht', t1]; rfl, ?_⟩
        rw [List.append_assoc] at t2
        simp only [forL, hg, Option.bind_some, st]
        exact t2
theorem cross_rows_eq {T : List Int} (hT : OkT T) {need hour : Int} {sills steps : List Int} (hG : OkG steps) (hs : sills.length ≤ steps.length + 1) (hl2 : steps.length ≤ 1000) (hl : sills.length ≤ 100) (h0 : 0 ≤ hour) (h1 : hour < 70000) :
    d_cross_rows [.tuple (T.map PyData.int), .tuple (sills.map PyData.int), .tuple (steps.map PyData.int), .int need, .int hour] = some (lO (ov T need sills steps sills.length 0 hour)) := by
  have := cr_loop (need := need) (hour := hour) hT hG hs hl2 hl sills.length 0 hour [] none none none none (by omega) h0 (by omega) rfl (.inl ⟨rfl, rfl, rfl⟩)
  have g : oEnum [.tuple (sills.map PyData.int)] = some ((List.range' 0 sills.length).map fun k : Nat => PyData.tuple [.int (k : Nat), .int (sills.getD k 0)]) := by
    rw [← List.range_eq_range', ← enum_map]
    rfl
  rcases this with ⟨t1, t2⟩ | ⟨l, y6, y7, y8, y9, t1, t2⟩
  · rw [t1]
    simp only [List.map_nil] at t2
    generalize (List.range' 0 sills.length).map (fun k : Nat => PyData.tuple [.int (k : Nat), .int (sills.getD k 0)]) = RR at *
    generalize T.map PyData.int = MT at *
    generalize sills.map PyData.int = MS at *
    generalize steps.map PyData.int = MG at *
    simp -implicitDefEqProofs only [d_cross_rows, g_cross_rows, xVar_a, xC_a, xBin_a, xUn_a, tOf_a, tTru_a, tNotP_a, tAndP_a, tOrP_a, tyes_a, tno_a, tYesP_a, xNil_a, xCons_a, xTup_a, xLst_a, xAnd_a, xOr_a, xIf_a, xChain_a, oNo_a, oAt_a, xSl_a, xCall_a, xSeq_a, xIt_a, xLc_a, gSet_a, gTupD_a, gsNil_a, gsCons_a, sNop_a, sBrk_a, sCnt_a, sSeq_a, sRet_a, sIf_a, sSet_a, sTgt_a, sAug_a, sApp_a, sExt_a, sPut_a, sPutK_a, pkO_s, sFor_a, sWhile_a, sPar_a, runD_a, b2_s, c2_s, sqO_nx, sqO_rt, sqO_bk, sqO_ct, ifO_t, ifO_f, stO_s, endO_nx, endO_rt, andO_t, andO_f, orO_t, orO_f, chO_s, chP_t, chP_f, slO_s, atO_i, lcO_s, forO_s, gsO_s, nxO_s, tgO_s, paO_s, apO_s, exO_s, plO_s, ptO_s, dB_b, tru_b, tru_n, tru_i, tru_l, tru_t, is_n, isn_n, nn_n, nn_i, nn_b, nn_t, nn_l, add_ii, add'_ii, sub_ii, neg_i, lt_ii, le_ii, gt_ii, ge_ii, ix_l, ix_t, ix_s, at0, at1, at2, sl_l, sl_t, len_l, len_t, len_s, abs_i, int_i, int_b, max_ii, min_ii, tup_s, lst_s, seq_l, seq_t, sum_s, wipe_n, wipe_c, mul_ii, fdiv_ii, mod_ii, add_ll, add_tt, setAll, mkT, mkL, oNot, List.getD_cons_zero, List.getD_cons_succ, List.length_cons, List.length_nil, List.set_cons_zero, List.set_cons_succ, List.map_cons, List.map_nil, List.replicate, List.cons_append, List.nil_append, List.append_nil, Option.bind_some, Option.map_some, List.all_cons, List.all_nil, if_true, if_false, reduceIte, Nat.reduceAdd, Nat.reduceSub, Nat.reduceLT, Nat.reduceLeDiff, Nat.reduceEqDiff, decide_true, decide_false, Bool.and_true, Bool.and_self, Bool.true_and, Bool.not_true, Bool.not_false, ne_eq, not_true_eq_false, not_false_eq_true, Nat.zero_add, Bool.false_eq_true, and_self, true_and, and_true, g, t2, lO]
  · rw [t1]
    simp only [List.map_nil, List.nil_append] at t2
    generalize (List.range' 0 sills.length).map (fun k : Nat => PyData.tuple [.int (k : Nat), .int (sills.getD k 0)]) = RR at *
    generalize T.map PyData.int = MT at *
    generalize sills.map PyData.int = MS at *
    generalize steps.map PyData.int = MG at *
    simp -implicitDefEqProofs only [d_cross_rows, g_cross_rows, xVar_a, xC_a, xBin_a, xUn_a, tOf_a, tTru_a, tNotP_a, tAndP_a, tOrP_a, tyes_a, tno_a, tYesP_a, xNil_a, xCons_a, xTup_a, xLst_a, xAnd_a, xOr_a, xIf_a, xChain_a, oNo_a, oAt_a, xSl_a, xCall_a, xSeq_a, xIt_a, xLc_a, gSet_a, gTupD_a, gsNil_a, gsCons_a, sNop_a, sBrk_a, sCnt_a, sSeq_a, sRet_a, sIf_a, sSet_a, sTgt_a, sAug_a, sApp_a, sExt_a, sPut_a, sPutK_a, pkO_s, sFor_a, sWhile_a, sPar_a, runD_a, b2_s, c2_s, sqO_nx, sqO_rt, sqO_bk, sqO_ct, ifO_t, ifO_f, stO_s, endO_nx, endO_rt, andO_t, andO_f, orO_t, orO_f, chO_s, chP_t, chP_f, slO_s, atO_i, lcO_s, forO_s, gsO_s, nxO_s, tgO_s, paO_s, apO_s, exO_s, plO_s, ptO_s, dB_b, tru_b, tru_n, tru_i, tru_l, tru_t, is_n, isn_n, nn_n, nn_i, nn_b, nn_t, nn_l, add_ii, add'_ii, sub_ii, neg_i, lt_ii, le_ii, gt_ii, ge_ii, ix_l, ix_t, ix_s, at0, at1, at2, sl_l, sl_t, len_l, len_t, len_s, abs_i, int_i, int_b, max_ii, min_ii, tup_s, lst_s, seq_l, seq_t, sum_s, wipe_n, wipe_c, mul_ii, fdiv_ii, mod_ii, add_ll, add_tt, setAll, mkT, mkL, oNot, List.getD_cons_zero, List.getD_cons_succ, List.length_cons, List.length_nil, List.set_cons_zero, List.set_cons_succ, List.map_cons, List.map_nil, List.replicate, List.cons_append, List.nil_append, List.append_nil, Option.bind_some, Option.map_some, List.all_cons, List.all_nil, if_true, if_false, reduceIte, Nat.reduceAdd, Nat.reduceSub, Nat.reduceLT, Nat.reduceLeDiff, Nat.reduceEqDiff, decide_true, decide_false, Bool.and_true, Bool.and_self, Bool.true_and, Bool.not_true, Bool.not_false, ne_eq, not_true_eq_false, not_false_eq_true, Nat.zero_add, Bool.false_eq_true, and_self, true_and, and_true, g, t2, lO]
/-- after the last sill -/
def oa (T : List Int) (need : Int) (sills steps : List Int) (hour : Int) : Option Int := (ov T need sills steps sills.length 0 hour).map fun l => l.getLast?.getD hour
theorem over_at_eq {T : List Int} (hT : OkT T) {need hour : Int} {sills steps : List Int} (hG : OkG steps) (hs : sills.length ≤ steps.length + 1) (hl2 : steps.length ≤ 1000) (hl : sills.length ≤ 100) (h0 : 0 ≤ hour) (h1 : hour < 70000) :
    d_over_at [.tuple (T.map PyData.int), .tuple (sills.map PyData.int), .tuple (steps.map PyData.int), .int need, .int hour] = some (eO (oa T need sills steps hour)) := by
  have c := cross_rows_eq hT (need := need) hG hs hl2 hl h0 h1
  unfold oa
  cases e : ov T need sills steps sills.length 0 hour with
  | none =>
    rw [e] at c
    generalize T.map PyData.int = MT at *
    generalize sills.map PyData.int = MS at *
    generalize steps.map PyData.int = MG at *
    simp -implicitDefEqProofs only [d_over_at, g_over_at, xVar_a, xC_a, xBin_a, xUn_a, tOf_a, tTru_a, tNotP_a, tAndP_a, tOrP_a, tyes_a, tno_a, tYesP_a, xNil_a, xCons_a, xTup_a, xLst_a, xAnd_a, xOr_a, xIf_a, xChain_a, oNo_a, oAt_a, xSl_a, xCall_a, xSeq_a, xIt_a, xLc_a, gSet_a, gTupD_a, gsNil_a, gsCons_a, sNop_a, sBrk_a, sCnt_a, sSeq_a, sRet_a, sIf_a, sSet_a, sTgt_a, sAug_a, sApp_a, sExt_a, sPut_a, sPutK_a, pkO_s, sFor_a, sWhile_a, sPar_a, runD_a, b2_s, c2_s, sqO_nx, sqO_rt, sqO_bk, sqO_ct, ifO_t, ifO_f, stO_s, endO_nx, endO_rt, andO_t, andO_f, orO_t, orO_f, chO_s, chP_t, chP_f, slO_s, atO_i, lcO_s, forO_s, gsO_s, nxO_s, tgO_s, paO_s, apO_s, exO_s, plO_s, ptO_s, dB_b, tru_b, tru_n, tru_i, tru_l, tru_t, is_n, isn_n, nn_n, nn_i, nn_b, nn_t, nn_l, add_ii, add'_ii, sub_ii, neg_i, lt_ii, le_ii, gt_ii, ge_ii, ix_l, ix_t, ix_s, at0, at1, at2, sl_l, sl_t, len_l, len_t, len_s, abs_i, int_i, int_b, max_ii, min_ii, tup_s, lst_s, seq_l, seq_t, sum_s, wipe_n, wipe_c, mul_ii, fdiv_ii, mod_ii, add_ll, add_tt, setAll, mkT, mkL, oNot, List.getD_cons_zero, List.getD_cons_succ, List.length_cons, List.length_nil, List.set_cons_zero, List.set_cons_succ, List.map_cons, List.map_nil, List.replicate, List.cons_append, List.nil_append, List.append_nil, Option.bind_some, Option.map_some, List.all_cons, List.all_nil, if_true, if_false, reduceIte, Nat.reduceAdd, Nat.reduceSub, Nat.reduceLT, Nat.reduceLeDiff, Nat.reduceEqDiff, decide_true, decide_false, Bool.and_true, Bool.and_self, Bool.true_and, Bool.not_true, Bool.not_false, ne_eq, not_true_eq_false, not_false_eq_true, Nat.zero_add, Bool.false_eq_true, and_self, true_and, and_true, c, lO, Option.map_none, eO]
  | some l =>
    rw [e] at c
    rcases List.eq_nil_or_concat l with rfl | ⟨pre, t, rfl⟩
    · generalize T.map PyData.int = MT at *
      generalize sills.map PyData.int = MS at *
      generalize steps.map PyData.int = MG at *
      simp -implicitDefEqProofs only [d_over_at, g_over_at, xVar_a, xC_a, xBin_a, xUn_a, tOf_a, tTru_a, tNotP_a, tAndP_a, tOrP_a, tyes_a, tno_a, tYesP_a, xNil_a, xCons_a, xTup_a, xLst_a, xAnd_a, xOr_a, xIf_a, xChain_a, oNo_a, oAt_a, xSl_a, xCall_a, xSeq_a, xIt_a, xLc_a, gSet_a, gTupD_a, gsNil_a, gsCons_a, sNop_a, sBrk_a, sCnt_a, sSeq_a, sRet_a, sIf_a, sSet_a, sTgt_a, sAug_a, sApp_a, sExt_a, sPut_a, sPutK_a, pkO_s, sFor_a, sWhile_a, sPar_a, runD_a, b2_s, c2_s, sqO_nx, sqO_rt, sqO_bk, sqO_ct, ifO_t, ifO_f, stO_s, endO_nx, endO_rt, andO_t, andO_f, orO_t, orO_f, chO_s, chP_t, chP_f, slO_s, atO_i, lcO_s, forO_s, gsO_s, nxO_s, tgO_s, paO_s, apO_s, exO_s, plO_s, ptO_s, dB_b, tru_b, tru_n, tru_i, tru_l, tru_t, is_n, isn_n, nn_n, nn_i, nn_b, nn_t, nn_l, add_ii, add'_ii, sub_ii, neg_i, lt_ii, le_ii, gt_ii, ge_ii, ix_l, ix_t, ix_s, at0, at1, at2, sl_l, sl_t, len_l, len_t, len_s, abs_i, int_i, int_b, max_ii, min_ii, tup_s, lst_s, seq_l, seq_t, sum_s, wipe_n, wipe_c, mul_ii, fdiv_ii, mod_ii, add_ll, add_tt, setAll, mkT, mkL, oNot, List.getD_cons_zero, List.getD_cons_succ, List.length_cons, List.length_nil, List.set_cons_zero, List.set_cons_succ, List.map_cons, List.map_nil, List.replicate, List.cons_append, List.nil_append, List.append_nil, Option.bind_some, Option.map_some, List.all_cons, List.all_nil, if_true, if_false, reduceIte, Nat.reduceAdd, Nat.reduceSub, Nat.reduceLT, Nat.reduceLeDiff, Nat.reduceEqDiff, decide_true, decide_false, Bool.and_true, Bool.and_self, Bool.true_and, Bool.not_true, Bool.not_false, ne_eq, not_true_eq_false, not_false_eq_true, Nat.zero_add, Bool.false_eq_true, and_self, true_and, and_true, c, lO, Option.map_some, eO, List.isEmpty_nil, List.getLast?_nil, Option.getD_none]
    · rw [List.concat_eq_append] at *
      have a1 := at_m1 pre t
      have hgl : (pre ++ [t]).getLast? = some t := by simp
      have ie : ((pre ++ [t]).map PyData.int).isEmpty = false := by simp
      rw [show lO (some (pre ++ [t])) = .tuple ((pre ++ [t]).map PyData.int) from rfl] at c
      rw [Option.map_some, hgl, Option.getD_some]
      generalize (pre ++ [t]).map PyData.int = MA at *
      generalize T.map PyData.int = MT at *
      generalize sills.map PyData.int = MS at *
      generalize steps.map PyData.int = MG at *
      simp -implicitDefEqProofs only [d_over_at, g_over_at, xVar_a, xC_a, xBin_a, xUn_a, tOf_a, tTru_a, tNotP_a, tAndP_a, tOrP_a, tyes_a, tno_a, tYesP_a, xNil_a, xCons_a, xTup_a, xLst_a, xAnd_a, xOr_a, xIf_a, xChain_a, oNo_a, oAt_a, xSl_a, xCall_a, xSeq_a, xIt_a, xLc_a, gSet_a, gTupD_a, gsNil_a, gsCons_a, sNop_a, sBrk_a, sCnt_a, sSeq_a, sRet_a, sIf_a, sSet_a, sTgt_a, sAug_a, sApp_a, sExt_a, sPut_a, sPutK_a, pkO_s, sFor_a, sWhile_a, sPar_a, runD_a, b2_s, c2_s, sqO_nx, sqO_rt, sqO_bk, sqO_ct, ifO_t, ifO_f, stO_s, endO_nx, endO_rt, andO_t, andO_f, orO_t, orO_f, chO_s, chP_t, chP_f, slO_s, atO_i, lcO_s, forO_s, gsO_s, nxO_s, tgO_s, paO_s, apO_s, exO_s, plO_s, ptO_s, dB_b, tru_b, tru_n, tru_i, tru_l, tru_t, is_n, isn_n, nn_n, nn_i, nn_b, nn_t, nn_l, add_ii, add'_ii, sub_ii, neg_i, lt_ii, le_ii, gt_ii, ge_ii, ix_l, ix_t, ix_s, at0, at1, at2, sl_l, sl_t, len_l, len_t, len_s, abs_i, int_i, int_b, max_ii, min_ii, tup_s, lst_s, seq_l, seq_t, sum_s, wipe_n, wipe_c, mul_ii, fdiv_ii, mod_ii, add_ll, add_tt, setAll, mkT, mkL, oNot, List.getD_cons_zero, List.getD_cons_succ, List.length_cons, List.length_nil, List.set_cons_zero, List.set_cons_succ, List.map_cons, List.map_nil, List.replicate, List.cons_append, List.nil_append, List.append_nil, Option.bind_some, Option.map_some, List.all_cons, List.all_nil, if_true, if_false, reduceIte, Nat.reduceAdd, Nat.reduceSub, Nat.reduceLT, Nat.reduceLeDiff, Nat.reduceEqDiff, decide_true, decide_false, Bool.and_true, Bool.and_self, Bool.true_and, Bool.not_true, Bool.not_false, ne_eq, not_true_eq_false, not_false_eq_true, Nat.zero_add, Bool.false_eq_true, and_self, true_and, and_true, c, eO, ie, a1]
end K08

namespace K08
open PySem PySem.Spec PyProof.Rows L2 Pm
open PySem.W (Datum Tup)
theorem fl_filter {α : Type} (p : α → Bool) : ∀ l : List α, (l.flatMap fun x => if p x then [x] else []) = l.filter p
  | [] => rfl
  | x :: l => by
    rw [List.flatMap_cons, fl_filter p l]
    by_cases h : p x = true
    · rw [if_pos h, List.filter_cons_of_pos h]; rfl
    · rw [if_neg h, List.filter_cons_of_neg h]; rfl
theorem foldl_max : ∀ (ns : List Int) (n : Int), (n :: ns).Pairwise (· < ·) → (n :: ns).getLast? = some (ns.foldl max n)
  | [], n, _ => rfl
  | y :: ys, n, h => by
    have h1 := (List.pairwise_cons.mp h).1 y (by simp)
    rw [List.getLast?_cons_cons, List.foldl_cons, show max n y = y by omega]
    exact foldl_max ys y (List.pairwise_cons.mp h).2
theorem maxK_asc {l : List Int} (h : l.Pairwise (· < ·)) : bMaxK [.list (l.map PyData.int)] .none = some (eO l.getLast?) := by
  have ok : okCmp (l.map PyData.int) = true := okCmp_map (α := Int) (by decide) l
  show ((seqD (.list (l.map PyData.int))).bind fun ds => if okCmp ds then pickD PySem.W.maxD (some .none) ds else none) = _
  rw [seq_l, Option.bind_some, if_pos ok]
  cases l with
  | nil => rfl
  | cons n ns =>
    rw [foldl_max ns n h]
    show some (PySem.W.maxD (.int n) (ns.map PyData.int)) = _
    rw [PySem.W.maxD_ints]
    rfl
def gp (T : List Int) (sills steps : List Int) (hour by_ : Int) (need : Nat) : Bool := match oa T (need : Int) sills steps hour with
  | none => false
  | some t => decide (t ≤ by_)
def gl (T : List Int) (sills steps : List Int) (hour by_ : Int) (b : Nat) : List Nat := (List.range b).filter (gp T sills steps hour by_)
theorem gl_len {T sills steps : List Int} {hour by_ : Int} {b : Nat} : (gl T sills steps hour by_ b).length ≤ b := by
  have := List.length_filter_le (gp T sills steps hour by_) (List.range b)
  rw [List.length_range] at this
  exact this
theorem lightest_eq {T : List Int} (hT : OkT T) {hour by_ : Int} {b : Nat} {sills steps : List Int} (hG : OkG steps) (hs : sills.length ≤ steps.length + 1) (hl2 : steps.length ≤ 1000) (hl : sills.length ≤ 100) (h0 : 0 ≤ hour) (h1 : hour < 70000) (hb : b ≤ 100) :
    d_lightest_need [.tuple (T.map PyData.int), .tuple (sills.map PyData.int), .tuple (steps.map PyData.int), .int hour, .int by_, .int (b : Nat)] = some (eO ((gl T sills steps hour by_ (b + 1)).getLast?.map fun k : Nat => (k : Int))) := by
  have g : oR1 [.int ((b : Int) + 1)] = some ((List.range (b + 1)).map fun k : Nat => PyData.int (k : Nat)) := rg0 (b + 1) (by omega)
  obtain ⟨ρ', e1, x7, x8, e2⟩ := forL_fl (g := gSet 7) (b := l1_lightest_need) (N := 1000) (fun k : Nat => PyData.int (k : Nat)) (fun k : Nat => PyData.int (k : Nat)) (fun k => if gp T sills steps hour by_ k then [k] else []) (fun acc ρ => ∃ x7 x8, ρ = [some (.tuple (T.map PyData.int)), some (.tuple (sills.map PyData.int)), some (.tuple (steps.map PyData.int)), some (.int hour), some (.int by_), some (.int (b : Nat)), some (.list acc), x7, x8]) (List.range (b + 1)) [] [some (.tuple (T.map PyData.int)), some (.tuple (sills.map PyData.int)), some (.tuple (steps.map PyData.int)), some (.int hour), some (.int by_), some (.int (b : Nat)), some (.list []), none, none]
    (fun k hk acc ρ ha ⟨x7, x8, e⟩ => by
      subst e
      have o := over_at_eq hT (need := (k : Int)) hG hs hl2 hl h0 h1
      have hp : gp T sills steps hour by_ k = match oa T (k : Int) sills steps hour with
        | none => false
        | some t => decide (t ≤ by_) := rfl
      cases h : oa T (k : Int) sills steps hour with
      | none =>
        rw [h] at o hp
        refine ⟨_, [some (.tuple (T.map PyData.int)), some (.tuple (sills.map PyData.int)), some (.tuple (steps.map PyData.int)), some (.int hour), some (.int by_), some (.int (b : Nat)), some (.list acc), some (.int (k : Nat)), some .none], rfl, ?_, some (.int (k : Nat)), some .none, ?_⟩
        · generalize T.map PyData.int = MT at *
          generalize sills.map PyData.int = MS at *
          generalize steps.map PyData.int = MG at *
          simp -implicitDefEqProofs only [l1_lightest_need, xVar_a, xC_a, xBin_a, xUn_a, tOf_a, tTru_a, tNotP_a, tAndP_a, tOrP_a, tyes_a, tno_a, tYesP_a, xNil_a, xCons_a, xTup_a, xLst_a, xAnd_a, xOr_a, xIf_a, xChain_a, oNo_a, oAt_a, xSl_a, xCall_a, xSeq_a, xIt_a, xLc_a, gSet_a, gTupD_a, gsNil_a, gsCons_a, sNop_a, sBrk_a, sCnt_a, sSeq_a, sRet_a, sIf_a, sSet_a, sTgt_a, sAug_a, sApp_a, sExt_a, sPut_a, sPutK_a, pkO_s, sFor_a, sWhile_a, sPar_a, runD_a, b2_s, c2_s, sqO_nx, sqO_rt, sqO_bk, sqO_ct, ifO_t, ifO_f, stO_s, endO_nx, endO_rt, andO_t, andO_f, orO_t, orO_f, chO_s, chP_t, chP_f, slO_s, atO_i, lcO_s, forO_s, gsO_s, nxO_s, tgO_s, paO_s, apO_s, exO_s, plO_s, ptO_s, dB_b, tru_b, tru_n, tru_i, tru_l, tru_t, is_n, isn_n, nn_n, nn_i, nn_b, nn_t, nn_l, add_ii, add'_ii, sub_ii, neg_i, lt_ii, le_ii, gt_ii, ge_ii, ix_l, ix_t, ix_s, at0, at1, at2, sl_l, sl_t, len_l, len_t, len_s, abs_i, int_i, int_b, max_ii, min_ii, tup_s, lst_s, seq_l, seq_t, sum_s, wipe_n, wipe_c, mul_ii, fdiv_ii, mod_ii, add_ll, add_tt, setAll, mkT, mkL, oNot, List.getD_cons_zero, List.getD_cons_succ, List.length_cons, List.length_nil, List.set_cons_zero, List.set_cons_succ, List.map_cons, List.map_nil, List.replicate, List.cons_append, List.nil_append, List.append_nil, Option.bind_some, Option.map_some, List.all_cons, List.all_nil, if_true, if_false, reduceIte, Nat.reduceAdd, Nat.reduceSub, Nat.reduceLT, Nat.reduceLeDiff, Nat.reduceEqDiff, decide_true, decide_false, Bool.and_true, Bool.and_self, Bool.true_and, Bool.not_true, Bool.not_false, ne_eq, not_true_eq_false, not_false_eq_true, Nat.zero_add, Bool.false_eq_true, and_self, true_and, and_true, o, eO]
        · rw [hp]
          simp
      | some t =>
        rw [h] at o hp
        by_cases ht : t ≤ by_
        · have hp : gp T sills steps hour by_ k = true := by rw [hp]; exact decide_eq_true ht
          rw [hp] at ha
          have ha' : acc.length < 16777216 := by simp at ha; omega
          refine ⟨_, [some (.tuple (T.map PyData.int)), some (.tuple (sills.map PyData.int)), some (.tuple (steps.map PyData.int)), some (.int hour), some (.int by_), some (.int (b : Nat)), some (.list (acc ++ [.int (k : Nat)])), some (.int (k : Nat)), some (.int t)], rfl, ?_, some (.int (k : Nat)), some (.int t), ?_⟩
          · generalize T.map PyData.int = MT at *
            generalize sills.map PyData.int = MS at *
            generalize steps.map PyData.int = MG at *
            simp -implicitDefEqProofs only [l1_lightest_need, xVar_a, xC_a, xBin_a, xUn_a, tOf_a, tTru_a, tNotP_a, tAndP_a, tOrP_a, tyes_a, tno_a, tYesP_a, xNil_a, xCons_a, xTup_a, xLst_a, xAnd_a, xOr_a, xIf_a, xChain_a, oNo_a, oAt_a, xSl_a, xCall_a, xSeq_a, xIt_a, xLc_a, gSet_a, gTupD_a, gsNil_a, gsCons_a, sNop_a, sBrk_a, sCnt_a, sSeq_a, sRet_a, sIf_a, sSet_a, sTgt_a, sAug_a, sApp_a, sExt_a, sPut_a, sPutK_a, pkO_s, sFor_a, sWhile_a, sPar_a, runD_a, b2_s, c2_s, sqO_nx, sqO_rt, sqO_bk, sqO_ct, ifO_t, ifO_f, stO_s, endO_nx, endO_rt, andO_t, andO_f, orO_t, orO_f, chO_s, chP_t, chP_f, slO_s, atO_i, lcO_s, forO_s, gsO_s, nxO_s, tgO_s, paO_s, apO_s, exO_s, plO_s, ptO_s, dB_b, tru_b, tru_n, tru_i, tru_l, tru_t, is_n, isn_n, nn_n, nn_i, nn_b, nn_t, nn_l, add_ii, add'_ii, sub_ii, neg_i, lt_ii, le_ii, gt_ii, ge_ii, ix_l, ix_t, ix_s, at0, at1, at2, sl_l, sl_t, len_l, len_t, len_s, abs_i, int_i, int_b, max_ii, min_ii, tup_s, lst_s, seq_l, seq_t, sum_s, wipe_n, wipe_c, mul_ii, fdiv_ii, mod_ii, add_ll, add_tt, setAll, mkT, mkL, oNot, List.getD_cons_zero, List.getD_cons_succ, List.length_cons, List.length_nil, List.set_cons_zero, List.set_cons_succ, List.map_cons, List.map_nil, List.replicate, List.cons_append, List.nil_append, List.append_nil, Option.bind_some, Option.map_some, List.all_cons, List.all_nil, if_true, if_false, reduceIte, Nat.reduceAdd, Nat.reduceSub, Nat.reduceLT, Nat.reduceLeDiff, Nat.reduceEqDiff, decide_true, decide_false, Bool.and_true, Bool.and_self, Bool.true_and, Bool.not_true, Bool.not_false, ne_eq, not_true_eq_false, not_false_eq_true, Nat.zero_add, Bool.false_eq_true, and_self, true_and, and_true, o, eO, ht, ha']
          · rw [hp]
            simp
        · have hp : gp T sills steps hour by_ k = false := by rw [hp]; exact decide_eq_false ht
          refine ⟨_, [some (.tuple (T.map PyData.int)), some (.tuple (sills.map PyData.int)), some (.tuple (steps.map PyData.int)), some (.int hour), some (.int by_), some (.int (b : Nat)), some (.list acc), some (.int (k : Nat)), some (.int t)], rfl, ?_, some (.int (k : Nat)), some (.int t), ?_⟩
          · generalize T.map PyData.int = MT at *
            generalize sills.map PyData.int = MS at *
            generalize steps.map PyData.int = MG at *
            simp -implicitDefEqProofs only [l1_lightest_need, xVar_a, xC_a, xBin_a, xUn_a, tOf_a, tTru_a, tNotP_a, tAndP_a, tOrP_a, tyes_a, tno_a, tYesP_a, xNil_a, xCons_a, xTup_a, xLst_a, xAnd_a, xOr_a, xIf_a, xChain_a, oNo_a, oAt_a, xSl_a, xCall_a, xSeq_a, xIt_a, xLc_a, gSet_a, gTupD_a, gsNil_a, gsCons_a, sNop_a, sBrk_a, sCnt_a, sSeq_a, sRet_a, sIf_a, sSet_a, sTgt_a, sAug_a, sApp_a, sExt_a, sPut_a, sPutK_a, pkO_s, sFor_a, sWhile_a, sPar_a, runD_a, b2_s, c2_s, sqO_nx, sqO_rt, sqO_bk, sqO_ct, ifO_t, ifO_f, stO_s, endO_nx, endO_rt, andO_t, andO_f, orO_t, orO_f, chO_s, chP_t, chP_f, slO_s, atO_i, lcO_s, forO_s, gsO_s, nxO_s, tgO_s, paO_s, apO_s, exO_s, plO_s, ptO_s, dB_b, tru_b, tru_n, tru_i, tru_l, tru_t, is_n, isn_n, nn_n, nn_i, nn_b, nn_t, nn_l, add_ii, add'_ii, sub_ii, neg_i, lt_ii, le_ii, gt_ii, ge_ii, ix_l, ix_t, ix_s, at0, at1, at2, sl_l, sl_t, len_l, len_t, len_s, abs_i, int_i, int_b, max_ii, min_ii, tup_s, lst_s, seq_l, seq_t, sum_s, wipe_n, wipe_c, mul_ii, fdiv_ii, mod_ii, add_ll, add_tt, setAll, mkT, mkL, oNot, List.getD_cons_zero, List.getD_cons_succ, List.length_cons, List.length_nil, List.set_cons_zero, List.set_cons_succ, List.map_cons, List.map_nil, List.replicate, List.cons_append, List.nil_append, List.append_nil, Option.bind_some, Option.map_some, List.all_cons, List.all_nil, if_true, if_false, reduceIte, Nat.reduceAdd, Nat.reduceSub, Nat.reduceLT, Nat.reduceLeDiff, Nat.reduceEqDiff, decide_true, decide_false, Bool.and_true, Bool.and_self, Bool.true_and, Bool.not_true, Bool.not_false, ne_eq, not_true_eq_false, not_false_eq_true, Nat.zero_add, Bool.false_eq_true, and_self, true_and, and_true, o, eO, ht]
          · rw [hp]
            simp) (by rw [fl_filter]; have := gl_len (T := T) (sills := sills) (steps := steps) (hour := hour) (by_ := by_) (b := b + 1); unfold gl at this; simp only [List.length_nil]; omega) ⟨none, none, rfl⟩
  rw [fl_filter] at e2
  subst e2
  have mk := maxK_asc (l := (gl T sills steps hour by_ (b + 1)).map fun k : Nat => (k : Int)) (by
    rw [List.pairwise_map]
    refine ((List.pairwise_lt_range (n := b + 1)).filter _).imp fun h => ?_
    omega)
  rw [List.getLast?_map, List.map_map] at mk
  have mk : bMaxK [.list ((gl T sills steps hour by_ (b + 1)).map fun k : Nat => PyData.int (k : Nat))] .none = some (eO ((gl T sills steps hour by_ (b + 1)).getLast?.map fun k : Nat => (k : Int))) := mk
  unfold gl at *
  simp only [List.nil_append] at e1
  generalize ((List.range (b + 1)).filter (gp T sills steps hour by_)).map (fun k : Nat => PyData.int (k : Nat)) = MK at *
  generalize (List.range (b + 1)).map (fun k : Nat => PyData.int (k : Nat)) = RR at *
  generalize T.map PyData.int = MT at *
  generalize sills.map PyData.int = MS at *
  generalize steps.map PyData.int = MG at *
  simp -implicitDefEqProofs only [d_lightest_need, g_lightest_need, xVar_a, xC_a, xBin_a, xUn_a, tOf_a, tTru_a, tNotP_a, tAndP_a, tOrP_a, tyes_a, tno_a, tYesP_a, xNil_a, xCons_a, xTup_a, xLst_a, xAnd_a, xOr_a, xIf_a, xChain_a, oNo_a, oAt_a, xSl_a, xCall_a, xSeq_a, xIt_a, xLc_a, gSet_a, gTupD_a, gsNil_a, gsCons_a, sNop_a, sBrk_a, sCnt_a, sSeq_a, sRet_a, sIf_a, sSet_a, sTgt_a, sAug_a, sApp_a, sExt_a, sPut_a, sPutK_a, pkO_s, sFor_a, sWhile_a, sPar_a, runD_a, b2_s, c2_s, sqO_nx, sqO_rt, sqO_bk, sqO_ct, ifO_t, ifO_f, stO_s, endO_nx, endO_rt, andO_t, andO_f, orO_t, orO_f, chO_s, chP_t, chP_f, slO_s, atO_i, lcO_s, forO_s, gsO_s, nxO_s, tgO_s, paO_s, apO_s, exO_s, plO_s, ptO_s, dB_b, tru_b, tru_n, tru_i, tru_l, tru_t, is_n, isn_n, nn_n, nn_i, nn_b, nn_t, nn_l, add_ii, add'_ii, sub_ii, neg_i, lt_ii, le_ii, gt_ii, ge_ii, ix_l, ix_t, ix_s, at0, at1, at2, sl_l, sl_t, len_l, len_t, len_s, abs_i, int_i, int_b, max_ii, min_ii, tup_s, lst_s, seq_l, seq_t, sum_s, wipe_n, wipe_c, mul_ii, fdiv_ii, mod_ii, add_ll, add_tt, setAll, mkT, mkL, oNot, List.getD_cons_zero, List.getD_cons_succ, List.length_cons, List.length_nil, List.set_cons_zero, List.set_cons_succ, List.map_cons, List.map_nil, List.replicate, List.cons_append, List.nil_append, List.append_nil, Option.bind_some, Option.map_some, List.all_cons, List.all_nil, if_true, if_false, reduceIte, Nat.reduceAdd, Nat.reduceSub, Nat.reduceLT, Nat.reduceLeDiff, Nat.reduceEqDiff, decide_true, decide_false, Bool.and_true, Bool.and_self, Bool.true_and, Bool.not_true, Bool.not_false, ne_eq, not_true_eq_false, not_false_eq_true, Nat.zero_add, Bool.false_eq_true, and_self, true_and, and_true, g, e1, xCallK_a, mk]
theorem flat_lO (o : Option (List Int)) : flat (lO o) = true := by
  have : ∀ l : List Int, flatL (l.map PyData.int) = true := fun l => by
    induction l with
    | nil => rfl
    | cons x l ih =>
      rw [List.map_cons]
      unfold flatL
      rw [ih]
      rfl
  cases o with
  | none => rfl
  | some l => exact this l
theorem flat_bool (b : Bool) : flat (.bool b) = true := rfl
/-- ((hour,) + hours)[len(hours)] -/
theorem last_or (hour : Int) (l : List Int) (hl : l.length ≤ 1000) : oAdd (.tuple [.int hour]) (.tuple (l.map PyData.int)) = some (.tuple ((hour :: l).map PyData.int)) ∧ atI ((hour :: l).map PyData.int) ((l.map PyData.int).length : Nat) = some (.int (l.getLast?.getD hour)) := by
  refine ⟨add_tt (by simp; omega), ?_⟩
  rw [List.length_map, row_at _ _ (by simp)]
  congr 2
  cases l with
  | nil => rfl
  | cons x l =>
    rw [List.getLast?_eq_getElem?, List.getD_eq_getElem?_getD]
    simp
theorem sills_loop {T : List Int} (hT : OkT T) {hour by_ : Int} {b : Nat} {sills steps : List Int} (hG : OkG steps) (hs : sills.length ≤ steps.length + 1) (hl2 : steps.length ≤ 1000) (hl : sills.length ≤ 100) (h0 : 0 ≤ hour) (h1 : hour < 70000) (hb : b ≤ 100) (x1 x5 : Option D) :
    ∃ y4 y10, forL (gSet 4) l1__law_sills ((List.range b).map fun k : Nat => PyData.int (k : Nat)) [some (.tuple (T.map PyData.int)), x1, some (.tuple (sills.map PyData.int)), some (.tuple (steps.map PyData.int)), none, x5, some (.int hour), some (.int ((b : Int) - 1)), some (.int by_), some (.list []), none, none] =
      some (.nx [some (.tuple (T.map PyData.int)), x1, some (.tuple (sills.map PyData.int)), some (.tuple (steps.map PyData.int)), y4, x5, some (.int hour), some (.int ((b : Int) - 1)), some (.int by_), some (.list ((gl T sills steps hour by_ b).map fun k : Nat => PyData.int (k : Nat))), y10, none]) := by
  obtain ⟨ρ', e1, x4, x10, e2⟩ := forL_fl (g := gSet 4) (b := l1__law_sills) (N := 1000) (fun k : Nat => PyData.int (k : Nat)) (fun k : Nat => PyData.int (k : Nat)) (fun k => if gp T sills steps hour by_ k then [k] else []) (fun acc ρ => ∃ x4 x10, ρ = [some (.tuple (T.map PyData.int)), x1, some (.tuple (sills.map PyData.int)), some (.tuple (steps.map PyData.int)), x4, x5, some (.int hour), some (.int ((b : Int) - 1)), some (.int by_), some (.list acc), x10, none]) (List.range b) [] [some (.tuple (T.map PyData.int)), x1, some (.tuple (sills.map PyData.int)), some (.tuple (steps.map PyData.int)), none, x5, some (.int hour), some (.int ((b : Int) - 1)), some (.int by_), some (.list []), none, none]
    (fun k hk acc ρ ha ⟨x4, x10, e⟩ => by
      subst e
      have c := cross_rows_eq hT (need := (k : Int)) hG hs hl2 hl h0 h1
      have o := law_over_eq hT (need := (k : Int)) hG hs hl2 hl h0 h1
      have hp : gp T sills steps hour by_ k = match (ov T (k : Int) sills steps sills.length 0 hour).map fun l => l.getLast?.getD hour with
        | none => false
        | some t => decide (t ≤ by_) := rfl
      have lk := like_lO 6 (ov T (k : Int) sills steps sills.length 0 hour) (fun l h => by rw [ov_len h]; omega)
      have fl := flat_lO (ov T (k : Int) sills steps sills.length 0 hour)
      have fb := flat_bool true
      cases h : ov T (k : Int) sills steps sills.length 0 hour with
      | none =>
        rw [h] at c o hp lk
        refine ⟨_, [some (.tuple (T.map PyData.int)), x1, some (.tuple (sills.map PyData.int)), some (.tuple (steps.map PyData.int)), some (.int (k : Nat)), x5, some (.int hour), some (.int ((b : Int) - 1)), some (.int by_), some (.list acc), some .none, none], rfl, ?_, some (.int (k : Nat)), some .none, ?_⟩
        · have fn : flat .none = true := rfl
          generalize T.map PyData.int = MT at *
          generalize sills.map PyData.int = MS at *
          generalize steps.map PyData.int = MG at *
          simp only [lO] at c o lk
          simp -implicitDefEqProofs only [l1__law_sills, xVar_a, xC_a, xBin_a, xUn_a, tOf_a, tTru_a, tNotP_a, tAndP_a, tOrP_a, tyes_a, tno_a, tYesP_a, xNil_a, xCons_a, xTup_a, xLst_a, xAnd_a, xOr_a, xIf_a, xChain_a, oNo_a, oAt_a, xSl_a, xCall_a, xSeq_a, xIt_a, xLc_a, gSet_a, gTupD_a, gsNil_a, gsCons_a, sNop_a, sBrk_a, sCnt_a, sSeq_a, sRet_a, sIf_a, sSet_a, sTgt_a, sAug_a, sApp_a, sExt_a, sPut_a, sPutK_a, pkO_s, sFor_a, sWhile_a, sPar_a, runD_a, b2_s, c2_s, sqO_nx, sqO_rt, sqO_bk, sqO_ct, ifO_t, ifO_f, stO_s, endO_nx, endO_rt, andO_t, andO_f, orO_t, orO_f, chO_s, chP_t, chP_f, slO_s, atO_i, lcO_s, forO_s, gsO_s, nxO_s, tgO_s, paO_s, apO_s, exO_s, plO_s, ptO_s, dB_b, tru_b, tru_n, tru_i, tru_l, tru_t, is_n, isn_n, nn_n, nn_i, nn_b, nn_t, nn_l, add_ii, add'_ii, sub_ii, neg_i, lt_ii, le_ii, gt_ii, ge_ii, ix_l, ix_t, ix_s, at0, at1, at2, sl_l, sl_t, len_l, len_t, len_s, abs_i, int_i, int_b, max_ii, min_ii, tup_s, lst_s, seq_l, seq_t, sum_s, wipe_n, wipe_c, mul_ii, fdiv_ii, mod_ii, add_ll, add_tt, setAll, mkT, mkL, oNot, List.getD_cons_zero, List.getD_cons_succ, List.length_cons, List.length_nil, List.set_cons_zero, List.set_cons_succ, List.map_cons, List.map_nil, List.replicate, List.cons_append, List.nil_append, List.append_nil, Option.bind_some, Option.map_some, List.all_cons, List.all_nil, if_true, if_false, reduceIte, Nat.reduceAdd, Nat.reduceSub, Nat.reduceLT, Nat.reduceLeDiff, Nat.reduceEqDiff, decide_true, decide_false, Bool.and_true, Bool.and_self, Bool.true_and, Bool.not_true, Bool.not_false, ne_eq, not_true_eq_false, not_false_eq_true, Nat.zero_add, Bool.false_eq_true, and_self, true_and, and_true, c, o, lk, fn, fb]
        · rw [hp]
          simp
      | some l =>
        have hll := ov_len h
        rw [h] at c o hp lk fl
        obtain ⟨lo1, lo2⟩ := last_or hour l (by omega)
        rw [show lO (some l) = .tuple (l.map PyData.int) from rfl] at c o lk fl
        rw [Option.map_some] at hp
        by_cases ht : l.getLast?.getD hour ≤ by_
        · have hp : gp T sills steps hour by_ k = true := by rw [hp]; exact decide_eq_true ht
          rw [hp] at ha
          have ha' : acc.length < 16777216 := by simp at ha; omega
          refine ⟨_, [some (.tuple (T.map PyData.int)), x1, some (.tuple (sills.map PyData.int)), some (.tuple (steps.map PyData.int)), some (.int (k : Nat)), x5, some (.int hour), some (.int ((b : Int) - 1)), some (.int by_), some (.list (acc ++ [.int (k : Nat)])), some (.tuple (l.map PyData.int)), none], rfl, ?_, some (.int (k : Nat)), some (.tuple (l.map PyData.int)), ?_⟩
          · generalize T.map PyData.int = MT at *
            generalize sills.map PyData.int = MS at *
            generalize steps.map PyData.int = MG at *
            generalize (hour :: l).map PyData.int = ML' at *
            generalize l.map PyData.int = ML at *
            simp -implicitDefEqProofs only [l1__law_sills, xVar_a, xC_a, xBin_a, xUn_a, tOf_a, tTru_a, tNotP_a, tAndP_a, tOrP_a, tyes_a, tno_a, tYesP_a, xNil_a, xCons_a, xTup_a, xLst_a, xAnd_a, xOr_a, xIf_a, xChain_a, oNo_a, oAt_a, xSl_a, xCall_a, xSeq_a, xIt_a, xLc_a, gSet_a, gTupD_a, gsNil_a, gsCons_a, sNop_a, sBrk_a, sCnt_a, sSeq_a, sRet_a, sIf_a, sSet_a, sTgt_a, sAug_a, sApp_a, sExt_a, sPut_a, sPutK_a, pkO_s, sFor_a, sWhile_a, sPar_a, runD_a, b2_s, c2_s, sqO_nx, sqO_rt, sqO_bk, sqO_ct, ifO_t, ifO_f, stO_s, endO_nx, endO_rt, andO_t, andO_f, orO_t, orO_f, chO_s, chP_t, chP_f, slO_s, atO_i, lcO_s, forO_s, gsO_s, nxO_s, tgO_s, paO_s, apO_s, exO_s, plO_s, ptO_s, dB_b, tru_b, tru_n, tru_i, tru_l, tru_t, is_n, isn_n, nn_n, nn_i, nn_b, nn_t, nn_l, add_ii, add'_ii, sub_ii, neg_i, lt_ii, le_ii, gt_ii, ge_ii, ix_l, ix_t, ix_s, at0, at1, at2, sl_l, sl_t, len_l, len_t, len_s, abs_i, int_i, int_b, max_ii, min_ii, tup_s, lst_s, seq_l, seq_t, sum_s, wipe_n, wipe_c, mul_ii, fdiv_ii, mod_ii, add_ll, add_tt, setAll, mkT, mkL, oNot, List.getD_cons_zero, List.getD_cons_succ, List.length_cons, List.length_nil, List.set_cons_zero, List.set_cons_succ, List.map_cons, List.map_nil, List.replicate, List.cons_append, List.nil_append, List.append_nil, Option.bind_some, Option.map_some, List.all_cons, List.all_nil, if_true, if_false, reduceIte, Nat.reduceAdd, Nat.reduceSub, Nat.reduceLT, Nat.reduceLeDiff, Nat.reduceEqDiff, decide_true, decide_false, Bool.and_true, Bool.and_self, Bool.true_and, Bool.not_true, Bool.not_false, ne_eq, not_true_eq_false, not_false_eq_true, Nat.zero_add, Bool.false_eq_true, and_self, true_and, and_true, c, o, lk, fl, fb, lo1, lo2, ht, ha']
          · rw [hp]
            simp
        · have hp : gp T sills steps hour by_ k = false := by rw [hp]; exact decide_eq_false ht
          refine ⟨_, [some (.tuple (T.map PyData.int)), x1, some (.tuple (sills.map PyData.int)), some (.tuple (steps.map PyData.int)), some (.int (k : Nat)), x5, some (.int hour), some (.int ((b : Int) - 1)), some (.int by_), some (.list acc), some (.tuple (l.map PyData.int)), none], rfl, ?_, some (.int (k : Nat)), some (.tuple (l.map PyData.int)), ?_⟩
          · generalize T.map PyData.int = MT at *
            generalize sills.map PyData.int = MS at *
            generalize steps.map PyData.int = MG at *
            generalize (hour :: l).map PyData.int = ML' at *
            generalize l.map PyData.int = ML at *
            simp -implicitDefEqProofs only [l1__law_sills, xVar_a, xC_a, xBin_a, xUn_a, tOf_a, tTru_a, tNotP_a, tAndP_a, tOrP_a, tyes_a, tno_a, tYesP_a, xNil_a, xCons_a, xTup_a, xLst_a, xAnd_a, xOr_a, xIf_a, xChain_a, oNo_a, oAt_a, xSl_a, xCall_a, xSeq_a, xIt_a, xLc_a, gSet_a, gTupD_a, gsNil_a, gsCons_a, sNop_a, sBrk_a, sCnt_a, sSeq_a, sRet_a, sIf_a, sSet_a, sTgt_a, sAug_a, sApp_a, sExt_a, sPut_a, sPutK_a, pkO_s, sFor_a, sWhile_a, sPar_a, runD_a, b2_s, c2_s, sqO_nx, sqO_rt, sqO_bk, sqO_ct, ifO_t, ifO_f, stO_s, endO_nx, endO_rt, andO_t, andO_f, orO_t, orO_f, chO_s, chP_t, chP_f, slO_s, atO_i, lcO_s, forO_s, gsO_s, nxO_s, tgO_s, paO_s, apO_s, exO_s, plO_s, ptO_s, dB_b, tru_b, tru_n, tru_i, tru_l, tru_t, is_n, isn_n, nn_n, nn_i, nn_b, nn_t, nn_l, add_ii, add'_ii, sub_ii, neg_i, lt_ii, le_ii, gt_ii, ge_ii, ix_l, ix_t, ix_s, at0, at1, at2, sl_l, sl_t, len_l, len_t, len_s, abs_i, int_i, int_b, max_ii, min_ii, tup_s, lst_s, seq_l, seq_t, sum_s, wipe_n, wipe_c, mul_ii, fdiv_ii, mod_ii, add_ll, add_tt, setAll, mkT, mkL, oNot, List.getD_cons_zero, List.getD_cons_succ, List.length_cons, List.length_nil, List.set_cons_zero, List.set_cons_succ, List.map_cons, List.map_nil, List.replicate, List.cons_append, List.nil_append, List.append_nil, Option.bind_some, Option.map_some, List.all_cons, List.all_nil, if_true, if_false, reduceIte, Nat.reduceAdd, Nat.reduceSub, Nat.reduceLT, Nat.reduceLeDiff, Nat.reduceEqDiff, decide_true, decide_false, Bool.and_true, Bool.and_self, Bool.true_and, Bool.not_true, Bool.not_false, ne_eq, not_true_eq_false, not_false_eq_true, Nat.zero_add, Bool.false_eq_true, and_self, true_and, and_true, c, o, lk, fl, fb, lo1, lo2, ht]
          · rw [hp]
            simp) (by rw [fl_filter]; have := gl_len (T := T) (sills := sills) (steps := steps) (hour := hour) (by_ := by_) (b := b); unfold gl at this; simp only [List.length_nil]; omega) ⟨none, none, rfl⟩
  rw [fl_filter] at e2
  subst e2
  exact ⟨_, _, e1⟩
theorem none_or (l : List Nat) (hl : l.length ≤ 1000) : ∃ xs, oAdd (.list [.none]) (.list (l.map fun k : Nat => PyData.int (k : Nat))) = some (.list xs) ∧ atI xs ((l.map fun k : Nat => PyData.int (k : Nat)).length : Nat) = some (eO (l.getLast?.map fun k : Nat => (k : Int))) := by
  refine ⟨.none :: (l.map fun k : Nat => PyData.int (k : Nat)), add_ll (by simp; omega), ?_⟩
  rw [atI_nat _ _ (by simp)]
  congr 1
  rcases List.eq_nil_or_concat l with rfl | ⟨pre, t, rfl⟩
  · rfl
  · rw [List.concat_eq_append]
    simp [eO]
theorem law_sills_ok {T : List Int} (hT : OkT T) {r : List Int} (hr : r.length = 40) : d__law_sills [.tuple (T.map PyData.int), .list (r.map PyData.int)] = some (.bool true) := by
  have i22 : atI (r.map PyData.int) 22 = some (.int (r.getD 22 0)) := row_at r 22 (by omega)
  have i23 : atI (r.map PyData.int) 23 = some (.int (r.getD 23 0)) := row_at r 23 (by omega)
  have i24 : atI (r.map PyData.int) 24 = some (.int (r.getD 24 0)) := row_at r 24 (by omega)
  have i31 : atI (r.map PyData.int) 31 = some (.int (r.getD 31 0)) := row_at r 31 (by omega)
  obtain ⟨c, hc, hc4⟩ := fmod_nat (r.getD 22 0) (m := 4) (by decide)
  obtain ⟨h, hh, hh12⟩ := fmod_nat (r.getD 23 0) (m := 12) (by decide)
  obtain ⟨b, hb, hb10⟩ := fmod_nat (r.getD 24 0) (m := 10) (by decide)
  have z4 : (4 : Int) ≠ 0 := by decide
  have z12 : (12 : Int) ≠ 0 := by decide
  have z10 : (10 : Int) ≠ 0 := by decide
  have z14 : (14 : Int) ≠ 0 := by decide
  have mx : (if (c : Int) - 1 > 0 then (c : Int) - 1 else 0) = ((c - 1 : Nat) : Int) := by split <;> omega
  have g1 := rg0 c (by omega)
  have g2 := rg0 (c - 1) (by omega)
  have g3 : oR1 [.int ((b : Int) + 1)] = some ((List.range (b + 1)).map fun k : Nat => PyData.int (k : Nat)) := rg0 (b + 1) (by omega)
  generalize hsl : (List.range c).map (fun k : Nat => (r.getD (25 + k) 0).fmod 4) = sills
  generalize hst : (List.range (c - 1)).map (fun k : Nat => (r.getD (28 + k) 0).fmod 4) = steps
  have hslen : sills.length = c := by rw [← hsl]; simp
  have htlen : steps.length = c - 1 := by rw [← hst]; simp
  have hG : OkG steps := fun g hg => by
    rw [← hst] at hg
    obtain ⟨k, _, rfl⟩ := List.mem_map.mp hg
    have := fmod_rng (r.getD (28 + k) 0) (m := 4) (by decide)
    omega
  have l1 : lcL (gSet 11) tYesP (xBin oMod (xCall bInt (xCons (xBin oIx (xVar 1) (xBin oAdd (xC (.int 25)) (xVar 11))) xNil)) (xC (.int 4))) [some (.tuple (T.map PyData.int)), some (.list (r.map PyData.int)), none, none, none, some (.int (c : Nat)), some (.int (h : Nat)), some (.int (b : Nat)), none, none, none, none] ((List.range c).map fun k : Nat => PyData.int (k : Nat)) = some (sills.map PyData.int) := by
    rw [← hsl, List.map_map]
    refine lcL_map _ _ _ fun k hk => ?_
    have hk : k < c := by simpa using hk
    have i : atI (r.map PyData.int) (25 + (k : Int)) = some (.int (r.getD (25 + k) 0)) := by
      have := row_at r (25 + k) (by omega)
      rwa [Int.natCast_add] at this
    generalize r.map PyData.int = RR at *
    generalize T.map PyData.int = MT at *
    simp -implicitDefEqProofs only [Function.comp, xVar_a, xC_a, xBin_a, xUn_a, tOf_a, tTru_a, tNotP_a, tAndP_a, tOrP_a, tyes_a, tno_a, tYesP_a, xNil_a, xCons_a, xTup_a, xLst_a, xAnd_a, xOr_a, xIf_a, xChain_a, oNo_a, oAt_a, xSl_a, xCall_a, xSeq_a, xIt_a, xLc_a, gSet_a, gTupD_a, gsNil_a, gsCons_a, sNop_a, sBrk_a, sCnt_a, sSeq_a, sRet_a, sIf_a, sSet_a, sTgt_a, sAug_a, sApp_a, sExt_a, sPut_a, sPutK_a, pkO_s, sFor_a, sWhile_a, sPar_a, runD_a, b2_s, c2_s, sqO_nx, sqO_rt, sqO_bk, sqO_ct, ifO_t, ifO_f, stO_s, endO_nx, endO_rt, andO_t, andO_f, orO_t, orO_f, chO_s, chP_t, chP_f, slO_s, atO_i, lcO_s, forO_s, gsO_s, nxO_s, tgO_s, paO_s, apO_s, exO_s, plO_s, ptO_s, dB_b, tru_b, tru_n, tru_i, tru_l, tru_t, is_n, isn_n, nn_n, nn_i, nn_b, nn_t, nn_l, add_ii, add'_ii, sub_ii, neg_i, lt_ii, le_ii, gt_ii, ge_ii, ix_l, ix_t, ix_s, at0, at1, at2, sl_l, sl_t, len_l, len_t, len_s, abs_i, int_i, int_b, max_ii, min_ii, tup_s, lst_s, seq_l, seq_t, sum_s, wipe_n, wipe_c, mul_ii, fdiv_ii, mod_ii, add_ll, add_tt, setAll, mkT, mkL, oNot, List.getD_cons_zero, List.getD_cons_succ, List.length_cons, List.length_nil, List.set_cons_zero, List.set_cons_succ, List.map_cons, List.map_nil, List.replicate, List.cons_append, List.nil_append, List.append_nil, Option.bind_some, Option.map_some, List.all_cons, List.all_nil, if_true, if_false, reduceIte, Nat.reduceAdd, Nat.reduceSub, Nat.reduceLT, Nat.reduceLeDiff, Nat.reduceEqDiff, decide_true, decide_false, Bool.and_true, Bool.and_self, Bool.true_and, Bool.not_true, Bool.not_false, ne_eq, not_true_eq_false, not_false_eq_true, Nat.zero_add, Bool.false_eq_true, and_self, true_and, and_true, i, mod_ii z4]
  have l2 : lcL (gSet 11) tYesP (xBin oMod (xCall bInt (xCons (xBin oIx (xVar 1) (xBin oAdd (xC (.int 28)) (xVar 11))) xNil)) (xC (.int 4))) [some (.tuple (T.map PyData.int)), some (.list (r.map PyData.int)), some (.tuple (sills.map PyData.int)), none, none, some (.int (c : Nat)), some (.int (h : Nat)), some (.int (b : Nat)), none, none, none, none] ((List.range (c - 1)).map fun k : Nat => PyData.int (k : Nat)) = some (steps.map PyData.int) := by
    rw [← hst, List.map_map]
    refine lcL_map _ _ _ fun k hk => ?_
    have hk : k < c - 1 := by simpa using hk
    have i : atI (r.map PyData.int) (28 + (k : Int)) = some (.int (r.getD (28 + k) 0)) := by
      have := row_at r (28 + k) (by omega)
      rwa [Int.natCast_add] at this
    generalize r.map PyData.int = RR at *
    generalize T.map PyData.int = MT at *
    simp -implicitDefEqProofs only [Function.comp, xVar_a, xC_a, xBin_a, xUn_a, tOf_a, tTru_a, tNotP_a, tAndP_a, tOrP_a, tyes_a, tno_a, tYesP_a, xNil_a, xCons_a, xTup_a, xLst_a, xAnd_a, xOr_a, xIf_a, xChain_a, oNo_a, oAt_a, xSl_a, xCall_a, xSeq_a, xIt_a, xLc_a, gSet_a, gTupD_a, gsNil_a, gsCons_a, sNop_a, sBrk_a, sCnt_a, sSeq_a, sRet_a, sIf_a, sSet_a, sTgt_a, sAug_a, sApp_a, sExt_a, sPut_a, sPutK_a, pkO_s, sFor_a, sWhile_a, sPar_a, runD_a, b2_s, c2_s, sqO_nx, sqO_rt, sqO_bk, sqO_ct, ifO_t, ifO_f, stO_s, endO_nx, endO_rt, andO_t, andO_f, orO_t, orO_f, chO_s, chP_t, chP_f, slO_s, atO_i, lcO_s, forO_s, gsO_s, nxO_s, tgO_s, paO_s, apO_s, exO_s, plO_s, ptO_s, dB_b, tru_b, tru_n, tru_i, tru_l, tru_t, is_n, isn_n, nn_n, nn_i, nn_b, nn_t, nn_l, add_ii, add'_ii, sub_ii, neg_i, lt_ii, le_ii, gt_ii, ge_ii, ix_l, ix_t, ix_s, at0, at1, at2, sl_l, sl_t, len_l, len_t, len_s, abs_i, int_i, int_b, max_ii, min_ii, tup_s, lst_s, seq_l, seq_t, sum_s, wipe_n, wipe_c, mul_ii, fdiv_ii, mod_ii, add_ll, add_tt, setAll, mkT, mkL, oNot, List.getD_cons_zero, List.getD_cons_succ, List.length_cons, List.length_nil, List.set_cons_zero, List.set_cons_succ, List.map_cons, List.map_nil, List.replicate, List.cons_append, List.nil_append, List.append_nil, Option.bind_some, Option.map_some, List.all_cons, List.all_nil, if_true, if_false, reduceIte, Nat.reduceAdd, Nat.reduceSub, Nat.reduceLT, Nat.reduceLeDiff, Nat.reduceEqDiff, decide_true, decide_false, Bool.and_true, Bool.and_self, Bool.true_and, Bool.not_true, Bool.not_false, ne_eq, not_true_eq_false, not_false_eq_true, Nat.zero_add, Bool.false_eq_true, and_self, true_and, and_true, i, mod_ii z4]
  have hb1 : ((b + 1 : Nat) : Int) - 1 = (b : Int) := by omega
  obtain ⟨y4, y10, lp⟩ := sills_loop hT (hour := (h : Int)) (by_ := (h : Int) + (r.getD 31 0).fmod 14 - 1) (b := b + 1) hG (sills := sills) (by omega) (by omega) (by omega) (by omega) (by omega) (by omega) (some (.list (r.map PyData.int))) (some (.int (c : Nat)))
  have lt := lightest_eq hT (hour := (h : Int)) (by_ := (h : Int) + (r.getD 31 0).fmod 14 - 1) (b := b) hG (sills := sills) (by omega) (by omega) (by omega) (by omega) (by omega) (by omega)
  obtain ⟨xs, n1, n2⟩ := none_or (gl T sills steps (h : Int) ((h : Int) + (r.getD 31 0).fmod 14 - 1) (b + 1)) (by have := gl_len (T := T) (sills := sills) (steps := steps) (hour := (h : Int)) (by_ := (h : Int) + (r.getD 31 0).fmod 14 - 1) (b := b + 1); omega)
  have lk := like_eO 7 ((gl T sills steps (h : Int) ((h : Int) + (r.getD 31 0).fmod 14 - 1) (b + 1)).getLast?.map fun k : Nat => (k : Int))
  have fl := flat_eO ((gl T sills steps (h : Int) ((h : Int) + (r.getD 31 0).fmod 14 - 1) (b + 1)).getLast?.map fun k : Nat => (k : Int))
  rw [hb1] at lp
  generalize eO ((gl T sills steps (h : Int) ((h : Int) + (r.getD 31 0).fmod 14 - 1) (b + 1)).getLast?.map fun k : Nat => (k : Int)) = EG at *
  generalize (gl T sills steps (h : Int) ((h : Int) + (r.getD 31 0).fmod 14 - 1) (b + 1)).map (fun k : Nat => PyData.int (k : Nat)) = GL at *
  generalize (List.range c).map (fun k : Nat => PyData.int (k : Nat)) = R1 at *
  generalize (List.range (c - 1)).map (fun k : Nat => PyData.int (k : Nat)) = R2 at *
  generalize (List.range (b + 1)).map (fun k : Nat => PyData.int (k : Nat)) = R3 at *
  generalize T.map PyData.int = MT at *
  generalize sills.map PyData.int = MS at *
  generalize steps.map PyData.int = MG at *
  generalize r.map PyData.int = RR at *
  simp -implicitDefEqProofs only [d__law_sills, g__law_sills, xVar_a, xC_a, xBin_a, xUn_a, tOf_a, tTru_a, tNotP_a, tAndP_a, tOrP_a, tyes_a, tno_a, tYesP_a, xNil_a, xCons_a, xTup_a, xLst_a, xAnd_a, xOr_a, xIf_a, xChain_a, oNo_a, oAt_a, xSl_a, xCall_a, xSeq_a, xIt_a, xLc_a, gSet_a, gTupD_a, gsNil_a, gsCons_a, sNop_a, sBrk_a, sCnt_a, sSeq_a, sRet_a, sIf_a, sSet_a, sTgt_a, sAug_a, sApp_a, sExt_a, sPut_a, sPutK_a, pkO_s, sFor_a, sWhile_a, sPar_a, runD_a, b2_s, c2_s, sqO_nx, sqO_rt, sqO_bk, sqO_ct, ifO_t, ifO_f, stO_s, endO_nx, endO_rt, andO_t, andO_f, orO_t, orO_f, chO_s, chP_t, chP_f, slO_s, atO_i, lcO_s, forO_s, gsO_s, nxO_s, tgO_s, paO_s, apO_s, exO_s, plO_s, ptO_s, dB_b, tru_b, tru_n, tru_i, tru_l, tru_t, is_n, isn_n, nn_n, nn_i, nn_b, nn_t, nn_l, add_ii, add'_ii, sub_ii, neg_i, lt_ii, le_ii, gt_ii, ge_ii, ix_l, ix_t, ix_s, at0, at1, at2, sl_l, sl_t, len_l, len_t, len_s, abs_i, int_i, int_b, max_ii, min_ii, tup_s, lst_s, seq_l, seq_t, sum_s, wipe_n, wipe_c, mul_ii, fdiv_ii, mod_ii, add_ll, add_tt, setAll, mkT, mkL, oNot, List.getD_cons_zero, List.getD_cons_succ, List.length_cons, List.length_nil, List.set_cons_zero, List.set_cons_succ, List.map_cons, List.map_nil, List.replicate, List.cons_append, List.nil_append, List.append_nil, Option.bind_some, Option.map_some, List.all_cons, List.all_nil, if_true, if_false, reduceIte, Nat.reduceAdd, Nat.reduceSub, Nat.reduceLT, Nat.reduceLeDiff, Nat.reduceEqDiff, decide_true, decide_false, Bool.and_true, Bool.and_self, Bool.true_and, Bool.not_true, Bool.not_false, ne_eq, not_true_eq_false, not_false_eq_true, Nat.zero_add, Bool.false_eq_true, and_self, true_and, and_true, i22, i23, i24, i31, mod_ii z4, mod_ii z12, mod_ii z10, mod_ii z14, hc, hh, hb, g1, l1, mx, g2, l2, g3, lp, lt, fl, n1, n2, lk]
end K08

namespace K08
open PySem PySem.Spec PyProof.Rows L2 Pm
open PySem.W (Datum Tup)
/-! out_hours -/
theorem oh_loop {T : List Int} (hT : OkT T) {hour : Int} {needs order : List Int} {n : Nat} (hn : needs.length = n) (ho : okO n order = true) (h4 : n ≤ 4) : ∀ (m k : Nat) (now : Int) (acc : List Int) (x5 x6 x7 : Option D), k + m = n → 0 ≤ now → now + 108 * m < 90000 → acc.length = k → NowOk (List.replicate (n - 1) 1) acc hour k now →
    (ov T 0 (order.map fun k => needs.getD k.toNat 0) (List.replicate (n - 1) 1) m k now = none ∧ forL (gSet 5) l1_out_hours ((List.range' k m).map fun k : Nat => PyData.int (order.getD k 0)) [some (.tuple (T.map PyData.int)), some (.tuple (needs.map PyData.int)), some (encC order), some (.int hour), some (.list (acc.map PyData.int)), x5, x6, x7, none] = some (.rt .none)) ∨
    ∃ l y5 y6 y7, ov T 0 (order.map fun k => needs.getD k.toNat 0) (List.replicate (n - 1) 1) m k now = some l ∧ forL (gSet 5) l1_out_hours ((List.range' k m).map fun k : Nat => PyData.int (order.getD k 0)) [some (.tuple (T.map PyData.int)), some (.tuple (needs.map PyData.int)), some (encC order), some (.int hour), some (.list (acc.map PyData.int)), x5, x6, x7, none] =
      some (.nx [some (.tuple (T.map PyData.int)), some (.tuple (needs.map PyData.int)), some (encC order), some (.int hour), some (.list ((acc ++ l).map PyData.int)), y5, y6, y7, none])
  | 0, k, now, acc, x5, x6, x7, _, _, _, _, _ => .inr ⟨[], x5, x6, x7, rfl, by rw [List.append_nil]; rfl⟩
  | m + 1, k, now, acc, x5, x6, x7, hk, h0, h1, ha, hnow => by
    have ho' := ho
    unfold okO at ho'
    rw [Bool.and_eq_true, decide_eq_true_eq, List.all_eq_true] at ho'
    have hko : k < order.length := by omega
    have hoe : order.getD k 0 = order[k] := by rw [List.getD_eq_getElem?_getD, List.getElem?_eq_getElem hko, Option.getD_some]
    have hor := ho'.2 _ (List.getElem_mem hko)
    rw [← hoe, Bool.and_eq_true, decide_eq_true_eq, decide_eq_true_eq] at hor
    have i1 : atI (needs.map PyData.int) (order.getD k 0) = some (.int (needs.getD (order.getD k 0).toNat 0)) := by
      have := row_at needs (order.getD k 0).toNat (by omega)
      rwa [show (((order.getD k 0).toNat : Nat) : Int) = order.getD k 0 by omega] at this
    have hnd : (order.map fun k => needs.getD k.toNat 0).getD k 0 = needs.getD (order.getD k 0).toNat 0 := by
      rw [List.getD_eq_getElem?_getD, List.getElem?_map, List.getElem?_eq_getElem hko, Option.map_some, Option.getD_some, hoe]
    have gk : (List.replicate (n - 1) (1 : Int)).getD k 0 = 0 ∨ (List.replicate (n - 1) (1 : Int)).getD k 0 = 1 := by
      rw [List.getD_eq_getElem?_getD, List.getElem?_replicate]
      split
      · exact .inr rfl
      · exact .inl rfl
    have hl : ((T.map PyData.int).length : Int) = (T.length : Int) := by rw [List.length_map]
    have hz : (T.length : Int) ≠ 0 := by have := hT.pos; omega
    have h8 := hT.2
    have hr := rg2 h0 (h := now) (by omega) (n := T.length) (by omega)
    have hf0 := find_filter (opn T (needs.getD (order.getD k 0).toNat 0)) (hrs now T.length)
    have hL : ∀ (a b c d e : Option D), lcL (gSet 8) (tOf (xBin oGe (xBin oIx (xVar 0) (xBin oMod (xVar 8) (xCall bLen (xCons (xVar 0) xNil)))) (xBin oIx (xVar 1) (xVar 5)))) (xVar 8) [some (.tuple (T.map PyData.int)), some (.tuple (needs.map PyData.int)), a, b, c, some (.int (order.getD k 0)), d, e, none] ((hrs now T.length).map PyData.int) = some (((hrs now T.length).filter (opn T (needs.getD (order.getD k 0).toNat 0))).map PyData.int) := fun a b c d e => by
      refine lcL_filter PyData.int PyData.int (opn T (needs.getD (order.getD k 0).toNat 0)) _ fun x hx => ⟨_, rfl, ?_, fun _ => rfl⟩
      have ha := at_f hT x
      unfold opn
      generalize T.map PyData.int = MT at *
      generalize needs.map PyData.int = MN at *
      generalize needs.getD (order.getD k 0).toNat 0 = nv at *
      simp -implicitDefEqProofs only [xVar_a, xC_a, xBin_a, xUn_a, tOf_a, tTru_a, tNotP_a, tAndP_a, tOrP_a, tyes_a, tno_a, tYesP_a, xNil_a, xCons_a, xTup_a, xLst_a, xAnd_a, xOr_a, xIf_a, xChain_a, oNo_a, oAt_a, xSl_a, xCall_a, xSeq_a, xIt_a, xLc_a, gSet_a, gTupD_a, gsNil_a, gsCons_a, sNop_a, sBrk_a, sCnt_a, sSeq_a, sRet_a, sIf_a, sSet_a, sTgt_a, sAug_a, sApp_a, sExt_a, sPut_a, sPutK_a, pkO_s, sFor_a, sWhile_a, sPar_a, runD_a, b2_s, c2_s, sqO_nx, sqO_rt, sqO_bk, sqO_ct, ifO_t, ifO_f, stO_s, endO_nx, endO_rt, andO_t, andO_f, orO_t, orO_f, chO_s, chP_t, chP_f, slO_s, atO_i, lcO_s, forO_s, gsO_s, nxO_s, tgO_s, paO_s, apO_s, exO_s, plO_s, ptO_s, dB_b, tru_b, tru_n, tru_i, tru_l, tru_t, is_n, isn_n, nn_n, nn_i, nn_b, nn_t, nn_l, add_ii, add'_ii, sub_ii, neg_i, lt_ii, le_ii, gt_ii, ge_ii, ix_l, ix_t, ix_s, at0, at1, at2, sl_l, sl_t, len_l, len_t, len_s, abs_i, int_i, int_b, max_ii, min_ii, tup_s, lst_s, seq_l, seq_t, sum_s, wipe_n, wipe_c, mul_ii, fdiv_ii, mod_ii, add_ll, add_tt, setAll, mkT, mkL, oNot, List.getD_cons_zero, List.getD_cons_succ, List.length_cons, List.length_nil, List.set_cons_zero, List.set_cons_succ, List.map_cons, List.map_nil, List.replicate, List.cons_append, List.nil_append, List.append_nil, Option.bind_some, Option.map_some, List.all_cons, List.all_nil, if_true, if_false, reduceIte, Nat.reduceAdd, Nat.reduceSub, Nat.reduceLT, Nat.reduceLeDiff, Nat.reduceEqDiff, decide_true, decide_false, Bool.and_true, Bool.and_self, Bool.true_and, Bool.not_true, Bool.not_false, ne_eq, not_true_eq_false, not_false_eq_true, Nat.zero_add, Bool.false_eq_true, and_self, true_and, and_true, hl, mod_ii hz, ha, i1]
    have hg : gSet 5 (.int (order.getD k 0)) [some (.tuple (T.map PyData.int)), some (.tuple (needs.map PyData.int)), some (encC order), some (.int hour), some (.list (acc.map PyData.int)), x5, x6, x7, none] = some [some (.tuple (T.map PyData.int)), some (.tuple (needs.map PyData.int)), some (encC order), some (.int hour), some (.list (acc.map PyData.int)), some (.int (order.getD k 0)), x6, x7, none] := rfl
    have hlt : (acc.map PyData.int).length < 16777216 := by rw [List.length_map]; omega
    have hfe : fst T (0 + (order.map fun k => needs.getD k.toNat 0).getD k 0) now = ((hrs now T.length).filter (opn T (needs.getD (order.getD k 0).toNat 0))).head? := by rw [hnd, Int.zero_add, hf0]; rfl
    rw [List.range'_succ, List.map_cons]
    have repl : ∀ j, j < n - 1 → (List.replicate (n - 1) (1 : Int)).getD j 0 = 1 := fun j hj => by
      rw [List.getD_eq_getElem?_getD, List.getElem?_replicate, if_pos hj]
      rfl
    cases hfl : (hrs now T.length).filter (opn T (needs.getD (order.getD k 0).toNat 0)) with
    | nil =>
      rw [hfl] at hfe hL
      refine .inl ⟨by unfold ov; rw [hfe]; rfl, ?_⟩
      simp only [forL, hg, Option.bind_some]
      have : l1_out_hours [some (.tuple (T.map PyData.int)), some (.tuple (needs.map PyData.int)), some (encC order), some (.int hour), some (.list (acc.map PyData.int)), some (.int (order.getD k 0)), x6, x7, none] = some (.rt .none) := by
        simp only [List.map_nil] at hL
        rcases hnow with ⟨_, rfl, rfl⟩ | ⟨j, pre, t, e, rfl, rfl⟩
        · generalize T.map PyData.int = MT at *
          generalize needs.map PyData.int = MN at *
          generalize (hrs now T.length).map PyData.int = HR at *
          generalize order.getD k 0 = ov' at *
          simp -implicitDefEqProofs only [l1_out_hours, xVar_a, xC_a, xBin_a, xUn_a, tOf_a, tTru_a, tNotP_a, tAndP_a, tOrP_a, tyes_a, tno_a, tYesP_a, xNil_a, xCons_a, xTup_a, xLst_a, xAnd_a, xOr_a, xIf_a, xChain_a, oNo_a, oAt_a, xSl_a, xCall_a, xSeq_a, xIt_a, xLc_a, gSet_a, gTupD_a, gsNil_a, gsCons_a, sNop_a, sBrk_a, sCnt_a, sSeq_a, sRet_a, sIf_a, sSet_a, sTgt_a, sAug_a, sApp_a, sExt_a, sPut_a, sPutK_a, pkO_s, sFor_a, sWhile_a, sPar_a, runD_a, b2_s, c2_s, sqO_nx, sqO_rt, sqO_bk, sqO_ct, ifO_t, ifO_f, stO_s, endO_nx, endO_rt, andO_t, andO_f, orO_t, orO_f, chO_s, chP_t, chP_f, slO_s, atO_i, lcO_s, forO_s, gsO_s, nxO_s, tgO_s, paO_s, apO_s, exO_s, plO_s, ptO_s, dB_b, tru_b, tru_n, tru_i, tru_l, tru_t, is_n, isn_n, nn_n, nn_i, nn_b, nn_t, nn_l, add_ii, add'_ii, sub_ii, neg_i, lt_ii, le_ii, gt_ii, ge_ii, ix_l, ix_t, ix_s, at0, at1, at2, sl_l, sl_t, len_l, len_t, len_s, abs_i, int_i, int_b, max_ii, min_ii, tup_s, lst_s, seq_l, seq_t, sum_s, wipe_n, wipe_c, mul_ii, fdiv_ii, mod_ii, add_ll, add_tt, setAll, mkT, mkL, oNot, List.getD_cons_zero, List.getD_cons_succ, List.length_cons, List.length_nil, List.set_cons_zero, List.set_cons_succ, List.map_cons, List.map_nil, List.replicate, List.cons_append, List.nil_append, List.append_nil, Option.bind_some, Option.map_some, List.all_cons, List.all_nil, if_true, if_false, reduceIte, Nat.reduceAdd, Nat.reduceSub, Nat.reduceLT, Nat.reduceLeDiff, Nat.reduceEqDiff, decide_true, decide_false, Bool.and_true, Bool.and_self, Bool.true_and, Bool.not_true, Bool.not_false, ne_eq, not_true_eq_false, not_false_eq_true, Nat.zero_add, Bool.false_eq_true, and_self, true_and, and_true, List.isEmpty_nil, hl, hr, hL]
        · have a1 := at_m1 pre t
          rw [repl j (by omega)] at *
          have ie : ((pre ++ [t]).map PyData.int).isEmpty = false := by simp
          generalize (pre ++ [t]).map PyData.int = MA at *
          generalize T.map PyData.int = MT at *
          generalize needs.map PyData.int = MN at *
          generalize (hrs (t + 1) T.length).map PyData.int = HR at *
          generalize order.getD k 0 = ov' at *
          simp -implicitDefEqProofs only [l1_out_hours, xVar_a, xC_a, xBin_a, xUn_a, tOf_a, tTru_a, tNotP_a, tAndP_a, tOrP_a, tyes_a, tno_a, tYesP_a, xNil_a, xCons_a, xTup_a, xLst_a, xAnd_a, xOr_a, xIf_a, xChain_a, oNo_a, oAt_a, xSl_a, xCall_a, xSeq_a, xIt_a, xLc_a, gSet_a, gTupD_a, gsNil_a, gsCons_a, sNop_a, sBrk_a, sCnt_a, sSeq_a, sRet_a, sIf_a, sSet_a, sTgt_a, sAug_a, sApp_a, sExt_a, sPut_a, sPutK_a, pkO_s, sFor_a, sWhile_a, sPar_a, runD_a, b2_s, c2_s, sqO_nx, sqO_rt, sqO_bk, sqO_ct, ifO_t, ifO_f, stO_s, endO_nx, endO_rt, andO_t, andO_f, orO_t, orO_f, chO_s, chP_t, chP_f, slO_s, atO_i, lcO_s, forO_s, gsO_s, nxO_s, tgO_s, paO_s, apO_s, exO_s, plO_s, ptO_s, dB_b, tru_b, tru_n, tru_i, tru_l, tru_t, is_n, isn_n, nn_n, nn_i, nn_b, nn_t, nn_l, add_ii, add'_ii, sub_ii, neg_i, lt_ii, le_ii, gt_ii, ge_ii, ix_l, ix_t, ix_s, at0, at1, at2, sl_l, sl_t, len_l, len_t, len_s, abs_i, int_i, int_b, max_ii, min_ii, tup_s, lst_s, seq_l, seq_t, sum_s, wipe_n, wipe_c, mul_ii, fdiv_ii, mod_ii, add_ll, add_tt, setAll, mkT, mkL, oNot, List.getD_cons_zero, List.getD_cons_succ, List.length_cons, List.length_nil, List.set_cons_zero, List.set_cons_succ, List.map_cons, List.map_nil, List.replicate, List.cons_append, List.nil_append, List.append_nil, Option.bind_some, Option.map_some, List.all_cons, List.all_nil, if_true, if_false, reduceIte, Nat.reduceAdd, Nat.reduceSub, Nat.reduceLT, Nat.reduceLeDiff, Nat.reduceEqDiff, decide_true, decide_false, Bool.and_true, Bool.and_self, Bool.true_and, Bool.not_true, Bool.not_false, ne_eq, not_true_eq_false, not_false_eq_true, Nat.zero_add, Bool.false_eq_true, and_self, true_and, and_true, List.isEmpty_nil, ie, a1, hl, hr, hL]
      rw [this, Option.bind_some]
    | cons y ys =>
      rw [hfl] at hfe hL
      have hfe : fst T (0 + (order.map fun k => needs.getD k.toNat 0).getD k 0) now = some y := hfe
      have ht := fst_some hfe
      have st : ∃ z7, l1_out_hours [some (.tuple (T.map PyData.int)), some (.tuple (needs.map PyData.int)), some (encC order), some (.int hour), some (.list (acc.map PyData.int)), some (.int (order.getD k 0)), x6, x7, none] = some (.nx [some (.tuple (T.map PyData.int)), some (.tuple (needs.map PyData.int)), some (encC order), some (.int hour), some (.list ((acc ++ [y]).map PyData.int)), some (.int (order.getD k 0)), some (.int now), z7, none]) := by
        refine ⟨some (.list (.int y :: ys.map PyData.int)), ?_⟩
        rw [List.map_append (l₁ := acc)]
        simp only [List.map_cons] at hL
        rcases hnow with ⟨_, rfl, rfl⟩ | ⟨j, pre, t, e, rfl, rfl⟩
        · generalize T.map PyData.int = MT at *
          generalize needs.map PyData.int = MN at *
          generalize (hrs now T.length).map PyData.int = HR at *
          generalize order.getD k 0 = ov' at *
          generalize ys.map PyData.int = YS at *
          simp only [List.map_nil] at hlt
          simp -implicitDefEqProofs only [l1_out_hours, xVar_a, xC_a, xBin_a, xUn_a, tOf_a, tTru_a, tNotP_a, tAndP_a, tOrP_a, tyes_a, tno_a, tYesP_a, xNil_a, xCons_a, xTup_a, xLst_a, xAnd_a, xOr_a, xIf_a, xChain_a, oNo_a, oAt_a, xSl_a, xCall_a, xSeq_a, xIt_a, xLc_a, gSet_a, gTupD_a, gsNil_a, gsCons_a, sNop_a, sBrk_a, sCnt_a, sSeq_a, sRet_a, sIf_a, sSet_a, sTgt_a, sAug_a, sApp_a, sExt_a, sPut_a, sPutK_a, pkO_s, sFor_a, sWhile_a, sPar_a, runD_a, b2_s, c2_s, sqO_nx, sqO_rt, sqO_bk, sqO_ct, ifO_t, ifO_f, stO_s, endO_nx, endO_rt, andO_t, andO_f, orO_t, orO_f, chO_s, chP_t, chP_f, slO_s, atO_i, lcO_s, forO_s, gsO_s, nxO_s, tgO_s, paO_s, apO_s, exO_s, plO_s, ptO_s, dB_b, tru_b, tru_n, tru_i, tru_l, tru_t, is_n, isn_n, nn_n, nn_i, nn_b, nn_t, nn_l, add_ii, add'_ii, sub_ii, neg_i, lt_ii, le_ii, gt_ii, ge_ii, ix_l, ix_t, ix_s, at0, at1, at2, sl_l, sl_t, len_l, len_t, len_s, abs_i, int_i, int_b, max_ii, min_ii, tup_s, lst_s, seq_l, seq_t, sum_s, wipe_n, wipe_c, mul_ii, fdiv_ii, mod_ii, add_ll, add_tt, setAll, mkT, mkL, oNot, List.getD_cons_zero, List.getD_cons_succ, List.length_cons, List.length_nil, List.set_cons_zero, List.set_cons_succ, List.map_cons, List.map_nil, List.replicate, List.cons_append, List.nil_append, List.append_nil, Option.bind_some, Option.map_some, List.all_cons, List.all_nil, if_true, if_false, reduceIte, Nat.reduceAdd, Nat.reduceSub, Nat.reduceLT, Nat.reduceLeDiff, Nat.reduceEqDiff, decide_true, decide_false, Bool.and_true, Bool.and_self, Bool.true_and, Bool.not_true, Bool.not_false, ne_eq, not_true_eq_false, not_false_eq_true, Nat.zero_add, Bool.false_eq_true, and_self, true_and, and_true, List.isEmpty_nil, List.isEmpty_cons, hl, hr, hL, hlt]
        · have a1 := at_m1 pre t
          rw [repl j (by omega)] at *
          have ie : ((pre ++ [t]).map PyData.int).isEmpty = false := by simp
          generalize (pre ++ [t]).map PyData.int = MA at *
          generalize T.map PyData.int = MT at *
          generalize needs.map PyData.int = MN at *
          generalize (hrs (t + 1) T.length).map PyData.int = HR at *
          generalize order.getD k 0 = ov' at *
          generalize ys.map PyData.int = YS at *
          simp -implicitDefEqProofs only [l1_out_hours, xVar_a, xC_a, xBin_a, xUn_a, tOf_a, tTru_a, tNotP_a, tAndP_a, tOrP_a, tyes_a, tno_a, tYesP_a, xNil_a, xCons_a, xTup_a, xLst_a, xAnd_a, xOr_a, xIf_a, xChain_a, oNo_a, oAt_a, xSl_a, xCall_a, xSeq_a, xIt_a, xLc_a, gSet_a, gTupD_a, gsNil_a, gsCons_a, sNop_a, sBrk_a, sCnt_a, sSeq_a, sRet_a, sIf_a, sSet_a, sTgt_a, sAug_a, sApp_a, sExt_a, sPut_a, sPutK_a, pkO_s, sFor_a, sWhile_a, sPar_a, runD_a, b2_s, c2_s, sqO_nx, sqO_rt, sqO_bk, sqO_ct, ifO_t, ifO_f, stO_s, endO_nx, endO_rt, andO_t, andO_f, orO_t, orO_f, chO_s, chP_t, chP_f, slO_s, atO_i, lcO_s, forO_s, gsO_s, nxO_s, tgO_s, paO_s, apO_s, exO_s, plO_s, ptO_s, dB_b, tru_b, tru_n, tru_i, tru_l, tru_t, is_n, isn_n, nn_n, nn_i, nn_b, nn_t, nn_l, add_ii, add'_ii, sub_ii, neg_i, lt_ii, le_ii, gt_ii, ge_ii, ix_l, ix_t, ix_s, at0, at1, at2, sl_l, sl_t, len_l, len_t, len_s, abs_i, int_i, int_b, max_ii, min_ii, tup_s, lst_s, seq_l, seq_t, sum_s, wipe_n, wipe_c, mul_ii, fdiv_ii, mod_ii, add_ll, add_tt, setAll, mkT, mkL, oNot, List.getD_cons_zero, List.getD_cons_succ, List.length_cons, List.length_nil, List.set_cons_zero, List.set_cons_succ, List.map_cons, List.map_nil, List.replicate, List.cons_append, List.nil_append, List.append_nil, Option.bind_some, Option.map_some, List.all_cons, List.all_nil, if_true, if_false, reduceIte, Nat.reduceAdd, Nat.reduceSub, Nat.reduceLT, Nat.reduceLeDiff, Nat.reduceEqDiff, decide_true, decide_false, Bool.and_true, Bool.and_self, Bool.true_and, Bool.not_true, Bool.not_false, ne_eq, not_true_eq_false, not_false_eq_true, Nat.zero_add, Bool.false_eq_true, and_self, true_and, and_true, List.isEmpty_nil, List.isEmpty_cons, ie, a1, hl, hr, hL, hlt]
      obtain ⟨z7, st⟩ := st
      have := oh_loop (hour := hour) hT hn ho h4 m (k + 1) (y + (List.replicate (n - 1) (1 : Int)).getD k 0) (acc ++ [y]) (some (.int (order.getD k 0))) (some (.int now)) z7 (by omega) (by omega) (by omega) (by simp; omega) (.inr ⟨k, acc, y, rfl, rfl, rfl⟩)
      have ht' : ov T 0 (order.map fun k => needs.getD k.toNat 0) (List.replicate (n - 1) 1) (m + 1) k now = (ov T 0 (order.map fun k => needs.getD k.toNat 0) (List.replicate (n - 1) 1) m (k + 1) (y + (List.replicate (n - 1) 1).getD k 0)).map (y :: ·) := by rw [ov, hfe, Option.bind_some]
      rcases this with ⟨t1, t2⟩ | ⟨l, y5, y6, y7, t1, t2⟩
      · refine .inl ⟨by rw [ht', t1]; rfl, ?_⟩
        simp only [forL, hg, Option.bind_some, st]
        exact t2
      · refine .inr ⟨y :: l, y5, y6, y7, by rw [ht', t1]; rfl, ?_⟩
        rw [List.append_assoc] at t2
        simp only [forL, hg, Option.bind_some, st]
        exact t2
theorem out_hours_eq {T : List Int} (hT : OkT T) {hour : Int} {needs order : List Int} {n : Nat} (hn : needs.length = n) (ho : okO n order = true) (h4 : n ≤ 4) (h0 : 0 ≤ hour) (h1 : hour < 70000) :
    d_out_hours [.tuple (T.map PyData.int), .tuple (needs.map PyData.int), encC order, .int hour] = some (lO (ov T 0 (order.map fun k => needs.getD k.toNat 0) (List.replicate (n - 1) 1) n 0 hour)) := by
  have := oh_loop (hour := hour) hT hn ho h4 n 0 hour [] none none none (by omega) h0 (by omega) rfl (.inl ⟨rfl, rfl, rfl⟩)
  have hol : order.length = n := by
    unfold okO at ho
    rw [Bool.and_eq_true, decide_eq_true_eq] at ho
    exact ho.1
  have e : ((List.range' 0 n).map fun k : Nat => PyData.int (order.getD k 0)) = order.map PyData.int := by
    rw [← List.range_eq_range', ← hol]
    apply List.ext_getElem?
    intro i
    by_cases h : i < order.length
    · simp [h]
    · simp [h]
  rw [e] at this
  have es : seqD (encC order) = some (order.map PyData.int) := rfl
  rcases this with ⟨t1, t2⟩ | ⟨l, y5, y6, y7, t1, t2⟩
  · rw [t1]
    simp only [List.map_nil] at t2
    generalize encC order = EC at *
    generalize order.map PyData.int = MO at *
    generalize T.map PyData.int = MT at *
    generalize needs.map PyData.int = MN at *
    simp -implicitDefEqProofs only [d_out_hours, g_out_hours, xVar_a, xC_a, xBin_a, xUn_a, tOf_a, tTru_a, tNotP_a, tAndP_a, tOrP_a, tyes_a, tno_a, tYesP_a, xNil_a, xCons_a, xTup_a, xLst_a, xAnd_a, xOr_a, xIf_a, xChain_a, oNo_a, oAt_a, xSl_a, xCall_a, xSeq_a, xIt_a, xLc_a, gSet_a, gTupD_a, gsNil_a, gsCons_a, sNop_a, sBrk_a, sCnt_a, sSeq_a, sRet_a, sIf_a, sSet_a, sTgt_a, sAug_a, sApp_a, sExt_a, sPut_a, sPutK_a, pkO_s, sFor_a, sWhile_a, sPar_a, runD_a, b2_s, c2_s, sqO_nx, sqO_rt, sqO_bk, sqO_ct, ifO_t, ifO_f, stO_s, endO_nx, endO_rt, andO_t, andO_f, orO_t, orO_f, chO_s, chP_t, chP_f, slO_s, atO_i, lcO_s, forO_s, gsO_s, nxO_s, tgO_s, paO_s, apO_s, exO_s, plO_s, ptO_s, dB_b, tru_b, tru_n, tru_i, tru_l, tru_t, is_n, isn_n, nn_n, nn_i, nn_b, nn_t, nn_l, add_ii, add'_ii, sub_ii, neg_i, lt_ii, le_ii, gt_ii, ge_ii, ix_l, ix_t, ix_s, at0, at1, at2, sl_l, sl_t, len_l, len_t, len_s, abs_i, int_i, int_b, max_ii, min_ii, tup_s, lst_s, seq_l, seq_t, sum_s, wipe_n, wipe_c, mul_ii, fdiv_ii, mod_ii, add_ll, add_tt, setAll, mkT, mkL, oNot, List.getD_cons_zero, List.getD_cons_succ, List.length_cons, List.length_nil, List.set_cons_zero, List.set_cons_succ, List.map_cons, List.map_nil, List.replicate, List.cons_append, List.nil_append, List.append_nil, Option.bind_some, Option.map_some, List.all_cons, List.all_nil, if_true, if_false, reduceIte, Nat.reduceAdd, Nat.reduceSub, Nat.reduceLT, Nat.reduceLeDiff, Nat.reduceEqDiff, decide_true, decide_false, Bool.and_true, Bool.and_self, Bool.true_and, Bool.not_true, Bool.not_false, ne_eq, not_true_eq_false, not_false_eq_true, Nat.zero_add, Bool.false_eq_true, and_self, true_and, and_true, es, t2, lO]
  · rw [t1]
    simp only [List.map_nil, List.nil_append] at t2
    generalize encC order = EC at *
    generalize order.map PyData.int = MO at *
    generalize T.map PyData.int = MT at *
    generalize needs.map PyData.int = MN at *
    simp -implicitDefEqProofs only [d_out_hours, g_out_hours, xVar_a, xC_a, xBin_a, xUn_a, tOf_a, tTru_a, tNotP_a, tAndP_a, tOrP_a, tyes_a, tno_a, tYesP_a, xNil_a, xCons_a, xTup_a, xLst_a, xAnd_a, xOr_a, xIf_a, xChain_a, oNo_a, oAt_a, xSl_a, xCall_a, xSeq_a, xIt_a, xLc_a, gSet_a, gTupD_a, gsNil_a, gsCons_a, sNop_a, sBrk_a, sCnt_a, sSeq_a, sRet_a, sIf_a, sSet_a, sTgt_a, sAug_a, sApp_a, sExt_a, sPut_a, sPutK_a, pkO_s, sFor_a, sWhile_a, sPar_a, runD_a, b2_s, c2_s, sqO_nx, sqO_rt, sqO_bk, sqO_ct, ifO_t, ifO_f, stO_s, endO_nx, endO_rt, andO_t, andO_f, orO_t, orO_f, chO_s, chP_t, chP_f, slO_s, atO_i, lcO_s, forO_s, gsO_s, nxO_s, tgO_s, paO_s, apO_s, exO_s, plO_s, ptO_s, dB_b, tru_b, tru_n, tru_i, tru_l, tru_t, is_n, isn_n, nn_n, nn_i, nn_b, nn_t, nn_l, add_ii, add'_ii, sub_ii, neg_i, lt_ii, le_ii, gt_ii, ge_ii, ix_l, ix_t, ix_s, at0, at1, at2, sl_l, sl_t, len_l, len_t, len_s, abs_i, int_i, int_b, max_ii, min_ii, tup_s, lst_s, seq_l, seq_t, sum_s, wipe_n, wipe_c, mul_ii, fdiv_ii, mod_ii, add_ll, add_tt, setAll, mkT, mkL, oNot, List.getD_cons_zero, List.getD_cons_succ, List.length_cons, List.length_nil, List.set_cons_zero, List.set_cons_succ, List.map_cons, List.map_nil, List.replicate, List.cons_append, List.nil_append, List.append_nil, Option.bind_some, Option.map_some, List.all_cons, List.all_nil, if_true, if_false, reduceIte, Nat.reduceAdd, Nat.reduceSub, Nat.reduceLT, Nat.reduceLeDiff, Nat.reduceEqDiff, decide_true, decide_false, Bool.and_true, Bool.and_self, Bool.true_and, Bool.not_true, Bool.not_false, ne_eq, not_true_eq_false, not_false_eq_true, Nat.zero_add, Bool.false_eq_true, and_self, true_and, and_true, es, t2, lO]
end K08

namespace K08
open PySem PySem.Spec PyProof.Rows L2 Pm
open PySem.W (Datum Tup)
theorem lc2L_flat {α : Type} {g : XG} {it1 : XL} {g1 : XG} {t1 : PEnv → Option Bool} {f : Xp} {vs1 : List Nat} {ρ : PEnv} (enc : α → D) (h : α → List D) : ∀ (xs : List α), (∀ x ∈ xs, ∃ ρ1 es, g (enc x) ρ = some ρ1 ∧ it1 ρ1 = some es ∧ lcL g1 t1 f (wipeP ρ1 vs1) es = some (h x)) → lc2L g tYesP it1 g1 t1 f vs1 ρ (xs.map enc) = some (xs.flatMap h)
  | [], _ => rfl
  | x :: xs, hx => by
    obtain ⟨ρ1, es, e1, e2, e3⟩ := hx x (List.mem_cons_self ..)
    have := lc2L_flat (g := g) (it1 := it1) (g1 := g1) (t1 := t1) (f := f) (vs1 := vs1) (ρ := ρ) enc h xs fun y hy => hx y (List.mem_cons_of_mem _ hy)
    simp only [List.map_cons, lc2L, e1, e2, e3, tYesP, Option.bind_some, if_true, this, List.flatMap_cons]
/-- what one set loses -/
def l1s (S : List Sh) (p : Sh) (c : List Int) : List Int := c.map fun k => p.2 - p.1 - wk S k
def lost (S : List Sh) (l : List Sh) (s : List (List Int)) : Int := ((l.zip s).map fun p => (l1s S p.1 p.2).sum).sum
theorem atS1 {S : List Sh} {k : Int} (h : 0 ≤ k ∧ k < S.length) : ∃ a, atI (S.map enc) k = some (.tuple [.int a, .int (wk S k)]) := ⟨_, atS h⟩
theorem zip_mem {l : List Sh} {s : List (List Int)} {p : Sh × List Int} (h : p ∈ l.zip s) : p.2 ∈ s := (List.of_mem_zip (a := p.1) (b := p.2) h).2
theorem zipD_m {α β : Type} (f : α → D) (g : β → D) (A : List α) (B : List β) : zipD (A.map f) (B.map g) = (A.zip B).map fun p => .tuple [f p.1, g p.2] := by
  unfold zipD
  induction A generalizing B with
  | nil => simp
  | cons s A ih => cases B with
    | nil => simp
    | cons t B => simp [ih]
theorem fl_map {α β γ : Type} (f : α → List β) (g : β → γ) : ∀ l : List α, (l.flatMap fun x => (f x).map g) = (l.flatMap f).map g
  | [] => rfl
  | x :: l => by rw [List.flatMap_cons, List.flatMap_cons, List.map_append, fl_map f g l]
theorem sum_fl {α : Type} (f : α → List Int) : ∀ l : List α, (l.flatMap f).sum = (l.map fun x => (f x).sum).sum
  | [] => rfl
  | x :: l => by rw [List.flatMap_cons, List.sum_append, List.map_cons, List.sum_cons, sum_fl f l]
theorem tide_lost_eq {T : List Int} {S : List Sh} {n : Nat} (hT : OkT T) (hS : OkS S) (hn : S.length = n) (h4 : n ≤ 4) {s : List (List Int)} (hs : OkSs n s) {l : List Sh} (hl : tm T S 0 s = some l) :
    d_tide_lost [.tuple (T.map PyData.int), .tuple (S.map enc), encSs s] = some (.int (lost S l s)) := by
  have tt := tt_eq false hT hS (hs.okC hn) (by have := hs.2.1; omega)
  have tt : d_tide_times [.tuple (T.map PyData.int), .tuple (S.map enc), encSs s] = some (tmD (tm T S 0 s)) := tt
  rw [hl] at tt
  have tt : d_tide_times [.tuple (T.map PyData.int), .tuple (S.map enc), encSs s] = some (.tuple (l.map enc)) := tt
  have hlen : ((l.zip s).flatMap fun p => l1s S p.1 p.2).length ≤ 16 := by
    have h1 := fl_len (fun p : Sh × List Int => l1s S p.1 p.2) 4 (l.zip s) (fun p hp => by
      unfold l1s
      rw [List.length_map]
      have := (hs.2.2 p.2 (zip_mem hp)).2.1
      omega)
    have h2 : (l.zip s).length ≤ 4 := by
      rw [List.length_zip]
      have := hs.2.1
      omega
    omega
  have hit : xIt oZipM (xCons (xVar 3) (xCons (xVar 2) xNil)) [some (.tuple (T.map PyData.int)), some (.tuple (S.map enc)), some (encSs s), some (.tuple (l.map enc)), none, none, none, none] = some ((l.zip s).map fun p => .tuple [enc p.1, encC p.2]) := by
    rw [← zipD_m]
    rfl
  have c1 : lc2L (gTupD 2 (gsCons (gTupD 2 (gsCons (gSet 6) (gsCons (gSet 7) gsNil))) (gsCons (gSet 5) gsNil))) tYesP (xSeq (xVar 5)) (gSet 4) tYesP (xBin oSub (xBin oSub (xVar 7) (xVar 6)) (xBin oIx (xBin oIx (xVar 1) (xVar 4)) (xC (.int 1)))) [4] (wipeP [some (.tuple (T.map PyData.int)), some (.tuple (S.map enc)), some (encSs s), some (.tuple (l.map enc)), none, none, none, none] [5, 6, 7, 4]) ((l.zip s).map fun p => .tuple [enc p.1, encC p.2]) = some ((l.zip s).flatMap fun p => (l1s S p.1 p.2).map PyData.int) := by
    refine lc2L_flat (fun p : Sh × List Int => .tuple [enc p.1, encC p.2]) _ _ fun p hp => ?_
    refine ⟨[some (.tuple (T.map PyData.int)), some (.tuple (S.map enc)), some (encSs s), some (.tuple (l.map enc)), none, some (encC p.2), some (.int p.1.1), some (.int p.1.2)], p.2.map PyData.int, rfl, rfl, ?_⟩
    unfold l1s
    rw [List.map_map]
    refine lcL_map _ _ _ fun k hk => ?_
    have hc := hs.okC hn p.2 (zip_mem hp)
    obtain ⟨a, e⟩ := atS1 (hc.2 k hk)
    generalize S.map enc = MS at *
    generalize T.map PyData.int = MT at *
    generalize encSs s = ES at *
    generalize l.map enc = ML at *
    simp -implicitDefEqProofs only [Function.comp, wipeP, xVar_a, xC_a, xBin_a, xUn_a, tOf_a, tTru_a, tNotP_a, tAndP_a, tOrP_a, tyes_a, tno_a, tYesP_a, xNil_a, xCons_a, xTup_a, xLst_a, xAnd_a, xOr_a, xIf_a, xChain_a, oNo_a, oAt_a, xSl_a, xCall_a, xSeq_a, xIt_a, xLc_a, gSet_a, gTupD_a, gsNil_a, gsCons_a, sNop_a, sBrk_a, sCnt_a, sSeq_a, sRet_a, sIf_a, sSet_a, sTgt_a, sAug_a, sApp_a, sExt_a, sPut_a, sPutK_a, pkO_s, sFor_a, sWhile_a, sPar_a, runD_a, b2_s, c2_s, sqO_nx, sqO_rt, sqO_bk, sqO_ct, ifO_t, ifO_f, stO_s, endO_nx, endO_rt, andO_t, andO_f, orO_t, orO_f, chO_s, chP_t, chP_f, slO_s, atO_i, lcO_s, forO_s, gsO_s, nxO_s, tgO_s, paO_s, apO_s, exO_s, plO_s, ptO_s, dB_b, tru_b, tru_n, tru_i, tru_l, tru_t, is_n, isn_n, nn_n, nn_i, nn_b, nn_t, nn_l, add_ii, add'_ii, sub_ii, neg_i, lt_ii, le_ii, gt_ii, ge_ii, ix_l, ix_t, ix_s, at0, at1, at2, sl_l, sl_t, len_l, len_t, len_s, abs_i, int_i, int_b, max_ii, min_ii, tup_s, lst_s, seq_l, seq_t, sum_s, wipe_n, wipe_c, mul_ii, fdiv_ii, mod_ii, add_ll, add_tt, setAll, mkT, mkL, oNot, List.getD_cons_zero, List.getD_cons_succ, List.length_cons, List.length_nil, List.set_cons_zero, List.set_cons_succ, List.map_cons, List.map_nil, List.replicate, List.cons_append, List.nil_append, List.append_nil, Option.bind_some, Option.map_some, List.all_cons, List.all_nil, if_true, if_false, reduceIte, Nat.reduceAdd, Nat.reduceSub, Nat.reduceLT, Nat.reduceLeDiff, Nat.reduceEqDiff, decide_true, decide_false, Bool.and_true, Bool.and_self, Bool.true_and, Bool.not_true, Bool.not_false, ne_eq, not_true_eq_false, not_false_eq_true, Nat.zero_add, Bool.false_eq_true, and_self, true_and, and_true, e]
  have hlc := xLc2_a (ρ := [some (.tuple (T.map PyData.int)), some (.tuple (S.map enc)), some (encSs s), some (.tuple (l.map enc)), none, none, none, none]) (xIt oZipM (xCons (xVar 3) (xCons (xVar 2) xNil))) (gTupD 2 (gsCons (gTupD 2 (gsCons (gSet 6) (gsCons (gSet 7) gsNil))) (gsCons (gSet 5) gsNil))) tYesP (xSeq (xVar 5)) (gSet 4) tYesP (xBin oSub (xBin oSub (xVar 7) (xVar 6)) (xBin oIx (xBin oIx (xVar 1) (xVar 4)) (xC (.int 1)))) [5, 6, 7, 4] [4] _ hit
  rw [c1, Option.bind_some, fl_map, if_pos (by rw [List.length_map]; omega)] at hlc
  have su : bSum [.list (((l.zip s).flatMap fun p => l1s S p.1 p.2).map PyData.int)] = some (.int (lost S l s)) := by
    rw [sum_s, seq_l, Option.bind_some, asInts_map, Option.map_some, sum_fl]
    rfl
  generalize ((l.zip s).flatMap fun p => l1s S p.1 p.2).map PyData.int = ML2 at *
  generalize S.map enc = MS at *
  generalize T.map PyData.int = MT at *
  generalize encSs s = ES at *
  generalize l.map enc = ML at *
  simp -implicitDefEqProofs only [d_tide_lost, g_tide_lost, xVar_a, xC_a, xBin_a, xUn_a, tOf_a, tTru_a, tNotP_a, tAndP_a, tOrP_a, tyes_a, tno_a, tYesP_a, xNil_a, xCons_a, xTup_a, xLst_a, xAnd_a, xOr_a, xIf_a, xChain_a, oNo_a, oAt_a, xSl_a, xCall_a, xSeq_a, xIt_a, xLc_a, gSet_a, gTupD_a, gsNil_a, gsCons_a, sNop_a, sBrk_a, sCnt_a, sSeq_a, sRet_a, sIf_a, sSet_a, sTgt_a, sAug_a, sApp_a, sExt_a, sPut_a, sPutK_a, pkO_s, sFor_a, sWhile_a, sPar_a, runD_a, b2_s, c2_s, sqO_nx, sqO_rt, sqO_bk, sqO_ct, ifO_t, ifO_f, stO_s, endO_nx, endO_rt, andO_t, andO_f, orO_t, orO_f, chO_s, chP_t, chP_f, slO_s, atO_i, lcO_s, forO_s, gsO_s, nxO_s, tgO_s, paO_s, apO_s, exO_s, plO_s, ptO_s, dB_b, tru_b, tru_n, tru_i, tru_l, tru_t, is_n, isn_n, nn_n, nn_i, nn_b, nn_t, nn_l, add_ii, add'_ii, sub_ii, neg_i, lt_ii, le_ii, gt_ii, ge_ii, ix_l, ix_t, ix_s, at0, at1, at2, sl_l, sl_t, len_l, len_t, len_s, abs_i, int_i, int_b, max_ii, min_ii, tup_s, lst_s, seq_l, seq_t, sum_s, wipe_n, wipe_c, mul_ii, fdiv_ii, mod_ii, add_ll, add_tt, setAll, mkT, mkL, oNot, List.getD_cons_zero, List.getD_cons_succ, List.length_cons, List.length_nil, List.set_cons_zero, List.set_cons_succ, List.map_cons, List.map_nil, List.replicate, List.cons_append, List.nil_append, List.append_nil, Option.bind_some, Option.map_some, List.all_cons, List.all_nil, if_true, if_false, reduceIte, Nat.reduceAdd, Nat.reduceSub, Nat.reduceLT, Nat.reduceLeDiff, Nat.reduceEqDiff, decide_true, decide_false, Bool.and_true, Bool.and_self, Bool.true_and, Bool.not_true, Bool.not_false, ne_eq, not_true_eq_false, not_false_eq_true, Nat.zero_add, Bool.false_eq_true, and_self, true_and, and_true, tt, hlc, su]
def lostAt (S : List Sh) (l : List Sh) (s : List (List Int)) (i : Nat) : Int := (l1s S (l.getD i (0, 0)) (s.getD i [])).sum
theorem lost_at {S l : List Sh} {s : List (List Int)} (h : l.length = s.length) : ((List.range s.length).map (lostAt S l s)).sum = lost S l s := by
  unfold lost
  congr 1
  apply List.ext_getElem?
  intro i
  by_cases hi : i < s.length
  · have h2 : i < l.length := by omega
    have e : (l.zip s)[i]? = some (l[i], s[i]) := by
      rw [List.getElem?_eq_getElem (by rw [List.length_zip]; omega), List.getElem_zip]
    simp [hi, h2, lostAt, e]
  · have h2 : ¬ i < l.length := by omega
    have e : (l.zip s)[i]? = none := List.getElem?_eq_none (by rw [List.length_zip]; omega)
    simp [hi, h2, e]
theorem atSs {s : List (List Int)} {i : Nat} (h : i < s.length) : atI (s.map encC) (i : Int) = some (encC (s.getD i [])) := by
  rw [atI_nat _ _ (by rw [List.length_map]; exact h), List.getElem_map, List.getD_eq_getElem?_getD, List.getElem?_eq_getElem h, Option.getD_some]
theorem atTm {l : List Sh} {i : Nat} (h : i < l.length) : atI (l.map enc) (i : Int) = some (enc (l.getD i (0, 0))) := by
  rw [atI_nat _ _ (by rw [List.length_map]; exact h), List.getElem_map, List.getD_eq_getElem?_getD, List.getElem?_eq_getElem h, Option.getD_some]
theorem range_mem {n : Nat} {pre rest : List Nat} {x : Nat} (h : pre ++ x :: rest = List.range n) : x < n := by
  have : x ∈ List.range n := by rw [← h]; simp
  simpa using this
end K08

namespace K08
open PySem PySem.Spec PyProof.Rows L2 Pm
open PySem.W (Datum Tup)
section
variable {T : List Int} {S : List Sh} {r : List Int} {n : Nat} {s : List (List Int)} {l : List Sh}

theorem lost_loop (hn : S.length = n) (hs : OkSs n s) (hl : l.length = s.length) (x3 x9 x10 x12 : Option D) : ∃ y7, forL (gSet 7) l1__law_settings ((List.range s.length).map fun k : Nat => PyData.int (k : Nat)) [some (.tuple (T.map PyData.int)), some (.tuple (S.map enc)), some (.list (r.map PyData.int)), x3, some (encSs s), none, none, none, none, x9, x10, some (.tuple (l.map enc)), x12, none, none, none, none, none, none, some (.int 0), none, none, none, none, none] = some (.nx [some (.tuple (T.map PyData.int)), some (.tuple (S.map enc)), some (.list (r.map PyData.int)), x3, some (encSs s), none, none, y7, none, x9, x10, some (.tuple (l.map enc)), x12, none, none, none, none, none, none, some (.int (lost S l s)), none, none, none, none, none]) := by
  obtain ⟨ρ', e, h⟩ := forL_inv (g := gSet 7) (b := l1__law_settings) (fun i : Nat => PyData.int (i : Nat))
    (fun pre rest ρ => pre ++ rest = List.range s.length ∧ ∃ x7, ρ = [some (.tuple (T.map PyData.int)), some (.tuple (S.map enc)), some (.list (r.map PyData.int)), x3, some (encSs s), none, none, x7, none, x9, x10, some (.tuple (l.map enc)), x12, none, none, none, none, none, none, some (.int ((pre.map (lostAt S l s)).sum)), none, none, none, none, none])
    (fun pre x rest ρ ⟨hp, x7, e⟩ => by
      subst e
      have hx := range_mem hp
      have a1 := atSs hx
      have a2 := atTm (l := l) (i := x) (by omega)
      have a2 : atI (l.map enc) (x : Int) = some (.tuple [.int (l.getD x (0, 0)).1, .int (l.getD x (0, 0)).2]) := a2
      have a1 : atI (s.map encC) (x : Int) = some (.tuple ((s.getD x []).map PyData.int)) := a1
      have hmem : s.getD x [] ∈ s := by rw [List.getD_eq_getElem?_getD, List.getElem?_eq_getElem hx, Option.getD_some]; exact List.getElem_mem hx
      have hc := hs.okC hn _ hmem
      refine ⟨_, [some (.tuple (T.map PyData.int)), some (.tuple (S.map enc)), some (.list (r.map PyData.int)), x3, some (encSs s), none, none, some (.int (x : Nat)), none, x9, x10, some (.tuple (l.map enc)), x12, none, none, none, none, none, none, some (.int (((pre ++ [x]).map (lostAt S l s)).sum)), none, none, none, none, none], rfl, .inl ?_, by rw [List.append_assoc]; exact hp, some (.int (x : Nat)), rfl⟩
      have c1 : lcL (gSet 22) tYesP (xBin oSub (xBin oSub (xBin oIx (xBin oIx (xVar 11) (xVar 7)) (xC (.int 1))) (xBin oIx (xBin oIx (xVar 11) (xVar 7)) (xC (.int 0)))) (xBin oIx (xBin oIx (xVar 1) (xVar 22)) (xC (.int 1)))) [some (.tuple (T.map PyData.int)), some (.tuple (S.map enc)), some (.list (r.map PyData.int)), x3, some (encSs s), none, none, some (.int (x : Nat)), none, x9, x10, some (.tuple (l.map enc)), x12, none, none, none, none, none, none, some (.int ((pre.map (lostAt S l s)).sum)), none, none, none, none, none] ((s.getD x []).map PyData.int) = some ((l1s S (l.getD x (0, 0)) (s.getD x [])).map PyData.int) := by
        unfold l1s
        rw [List.map_map]
        refine lcL_map _ _ _ fun k hk => ?_
        obtain ⟨a, e⟩ := atS1 (hc.2 k hk)
        unfold encSs
        generalize s.map encC = ES at *
        generalize l.map enc = ML at *
        generalize S.map enc = MS at *
        generalize T.map PyData.int = MT at *
        generalize r.map PyData.int = RR at *
        simp -implicitDefEqProofs only [Function.comp, xVar_a, xC_a, xBin_a, xUn_a, tOf_a, tTru_a, tNotP_a, tAndP_a, tOrP_a, tyes_a, tno_a, tYesP_a, xNil_a, xCons_a, xTup_a, xLst_a, xAnd_a, xOr_a, xIf_a, xChain_a, oNo_a, oAt_a, xSl_a, xCall_a, xSeq_a, xIt_a, xLc_a, gSet_a, gTupD_a, gsNil_a, gsCons_a, sNop_a, sBrk_a, sCnt_a, sSeq_a, sRet_a, sIf_a, sSet_a, sTgt_a, sAug_a, sApp_a, sExt_a, sPut_a, sPutK_a, pkO_s, sFor_a, sWhile_a, sPar_a, runD_a, b2_s, c2_s, sqO_nx, sqO_rt, sqO_bk, sqO_ct, ifO_t, ifO_f, stO_s, endO_nx, endO_rt, andO_t, andO_f, orO_t, orO_f, chO_s, chP_t, chP_f, slO_s, atO_i, lcO_s, forO_s, gsO_s, nxO_s, tgO_s, paO_s, apO_s, exO_s, plO_s, ptO_s, dB_b, tru_b, tru_n, tru_i, tru_l, tru_t, is_n, isn_n, nn_n, nn_i, nn_b, nn_t, nn_l, add_ii, add'_ii, sub_ii, neg_i, lt_ii, le_ii, gt_ii, ge_ii, ix_l, ix_t, ix_s, at0, at1, at2, sl_l, sl_t, len_l, len_t, len_s, abs_i, int_i, int_b, max_ii, min_ii, tup_s, lst_s, seq_l, seq_t, sum_s, wipe_n, wipe_c, mul_ii, fdiv_ii, mod_ii, add_ll, add_tt, setAll, mkT, mkL, oNot, List.getD_cons_zero, List.getD_cons_succ, List.length_cons, List.length_nil, List.set_cons_zero, List.set_cons_succ, List.map_cons, List.map_nil, List.replicate, List.cons_append, List.nil_append, List.append_nil, Option.bind_some, Option.map_some, List.all_cons, List.all_nil, if_true, if_false, reduceIte, Nat.reduceAdd, Nat.reduceSub, Nat.reduceLT, Nat.reduceLeDiff, Nat.reduceEqDiff, decide_true, decide_false, Bool.and_true, Bool.and_self, Bool.true_and, Bool.not_true, Bool.not_false, ne_eq, not_true_eq_false, not_false_eq_true, Nat.zero_add, Bool.false_eq_true, and_self, true_and, and_true, e, a2]
      have su : bSum [.list ((l1s S (l.getD x (0, 0)) (s.getD x [])).map PyData.int)] = some (.int (lostAt S l s x)) := by
        rw [sum_s, seq_l, Option.bind_some, asInts_map, Option.map_some]
        rfl
      rw [List.map_append, List.sum_append, List.map_cons, List.map_nil, List.sum_cons, List.sum_nil, Int.add_zero]
      unfold encSs at *
      generalize (l1s S (l.getD x (0, 0)) (s.getD x [])).map PyData.int = ML2 at *
      generalize (s.getD x []).map PyData.int = MC at *
      generalize s.map encC = ES at *
      generalize l.map enc = ML at *
      generalize S.map enc = MS at *
      generalize T.map PyData.int = MT at *
      generalize r.map PyData.int = RR at *
      simp -implicitDefEqProofs only [l1__law_settings, xVar_a, xC_a, xBin_a, xUn_a, tOf_a, tTru_a, tNotP_a, tAndP_a, tOrP_a, tyes_a, tno_a, tYesP_a, xNil_a, xCons_a, xTup_a, xLst_a, xAnd_a, xOr_a, xIf_a, xChain_a, oNo_a, oAt_a, xSl_a, xCall_a, xSeq_a, xIt_a, xLc_a, gSet_a, gTupD_a, gsNil_a, gsCons_a, sNop_a, sBrk_a, sCnt_a, sSeq_a, sRet_a, sIf_a, sSet_a, sTgt_a, sAug_a, sApp_a, sExt_a, sPut_a, sPutK_a, pkO_s, sFor_a, sWhile_a, sPar_a, runD_a, b2_s, c2_s, sqO_nx, sqO_rt, sqO_bk, sqO_ct, ifO_t, ifO_f, stO_s, endO_nx, endO_rt, andO_t, andO_f, orO_t, orO_f, chO_s, chP_t, chP_f, slO_s, atO_i, lcO_s, forO_s, gsO_s, nxO_s, tgO_s, paO_s, apO_s, exO_s, plO_s, ptO_s, dB_b, tru_b, tru_n, tru_i, tru_l, tru_t, is_n, isn_n, nn_n, nn_i, nn_b, nn_t, nn_l, add_ii, add'_ii, sub_ii, neg_i, lt_ii, le_ii, gt_ii, ge_ii, ix_l, ix_t, ix_s, at0, at1, at2, sl_l, sl_t, len_l, len_t, len_s, abs_i, int_i, int_b, max_ii, min_ii, tup_s, lst_s, seq_l, seq_t, sum_s, wipe_n, wipe_c, mul_ii, fdiv_ii, mod_ii, add_ll, add_tt, setAll, mkT, mkL, oNot, List.getD_cons_zero, List.getD_cons_succ, List.length_cons, List.length_nil, List.set_cons_zero, List.set_cons_succ, List.map_cons, List.map_nil, List.replicate, List.cons_append, List.nil_append, List.append_nil, Option.bind_some, Option.map_some, List.all_cons, List.all_nil, if_true, if_false, reduceIte, Nat.reduceAdd, Nat.reduceSub, Nat.reduceLT, Nat.reduceLeDiff, Nat.reduceEqDiff, decide_true, decide_false, Bool.and_true, Bool.and_self, Bool.true_and, Bool.not_true, Bool.not_false, ne_eq, not_true_eq_false, not_false_eq_true, Nat.zero_add, Bool.false_eq_true, and_self, true_and, and_true, a1, c1, su]) (List.range s.length) [] [some (.tuple (T.map PyData.int)), some (.tuple (S.map enc)), some (.list (r.map PyData.int)), x3, some (encSs s), none, none, none, none, x9, x10, some (.tuple (l.map enc)), x12, none, none, none, none, none, none, some (.int 0), none, none, none, none, none] ⟨rfl, none, rfl⟩
  obtain ⟨_, x7, e'⟩ := h
  subst e'
  rw [List.nil_append, lost_at hl] at e
  exact ⟨_, e⟩

theorem keys_loop (hT : OkT T) (hS : OkS S) (hn : S.length = n) (h4 : n ≤ 4) (hs : OkSs n s) (x3 x7 x9 x10 x11 x12 x19 : Option D) : ∃ y6 y13, forL (gSet 6) l2__law_settings ((ORD s.length).map encC) [some (.tuple (T.map PyData.int)), some (.tuple (S.map enc)), some (.list (r.map PyData.int)), x3, some (encSs s), some (.list []), none, x7, none, x9, x10, x11, x12, none, none, none, none, none, none, x19, none, none, none, none, none] = some (.nx [some (.tuple (T.map PyData.int)), some (.tuple (S.map enc)), some (.list (r.map PyData.int)), x3, some (encSs s), some (.list (((ORD s.length).flatMap fun o => (key2 T S s o).toList).map Datum.toD)), y6, x7, none, x9, x10, x11, x12, y13, none, none, none, none, none, x19, none, none, none, none, none]) := by
  have hl4 : s.length ≤ 4 := by have := hs.2.1; omega
  have ol := or_l hs.1 hl4
  have oo := List.all_eq_true.mp (or_o hs.1 hl4)
  have hlen := len_fm (key2 T S s) (ORD s.length)
  obtain ⟨ρ', e1, x6, x13, e2⟩ := forL_fl (g := gSet 6) (b := l2__law_settings) (N := 1000) encC Datum.toD (fun o => (key2 T S s o).toList) (fun acc ρ => ∃ x6 x13, ρ = [some (.tuple (T.map PyData.int)), some (.tuple (S.map enc)), some (.list (r.map PyData.int)), x3, some (encSs s), some (.list acc), x6, x7, none, x9, x10, x11, x12, x13, none, none, none, none, none, x19, none, none, none, none, none]) (ORD s.length) [] [some (.tuple (T.map PyData.int)), some (.tuple (S.map enc)), some (.list (r.map PyData.int)), x3, some (encSs s), some (.list []), none, x7, none, x9, x10, x11, x12, none, none, none, none, none, none, x19, none, none, none, none, none]
    (fun o ho acc ρ ha ⟨x6, x13, e⟩ => by
      subst e
      have hk := app_ok hs (oo o ho)
      have lt := lt_eq false hT hS (hk.okC hn) (by have := hk.2.1; omega)
      have al := fun ρ hρ h1 => app_l (oo o ho) 25 4 7 (by omega) (by omega) (by omega) ρ hρ h1
      rw [show sqD false ((app s o).map encC) = .tuple ((app s o).map encC) from rfl] at lt
      have hk2 : key2 T S s o = (endT T S (app s o)).map fun e => (e, ⟨o⟩) := rfl
      rcases endT_tm (T := T) (S := S) hk.1 with ⟨t1, t2⟩ | ⟨l, p, t1, t2, t3⟩
      · rw [t1] at lt
        rw [t2] at hk2
        refine ⟨_, [some (.tuple (T.map PyData.int)), some (.tuple (S.map enc)), some (.list (r.map PyData.int)), x3, some (encSs s), some (.list acc), some (encC o), x7, none, x9, x10, x11, x12, some .none, none, none, none, none, none, x19, none, none, none, none, none], rfl, ?_, some (encC o), some .none, ?_⟩
        · unfold encC at *
          generalize encSs s = ES at *
          generalize (app s o).map (fun c => PyData.tuple (c.map PyData.int)) = EA at *
          generalize o.map PyData.int = EO at *
          generalize T.map PyData.int = MT at *
          generalize S.map enc = MS at *
          generalize r.map PyData.int = RR at *
          simp -implicitDefEqProofs only [l2__law_settings, xVar_a, xC_a, xBin_a, xUn_a, tOf_a, tTru_a, tNotP_a, tAndP_a, tOrP_a, tyes_a, tno_a, tYesP_a, xNil_a, xCons_a, xTup_a, xLst_a, xAnd_a, xOr_a, xIf_a, xChain_a, oNo_a, oAt_a, xSl_a, xCall_a, xSeq_a, xIt_a, xLc_a, gSet_a, gTupD_a, gsNil_a, gsCons_a, sNop_a, sBrk_a, sCnt_a, sSeq_a, sRet_a, sIf_a, sSet_a, sTgt_a, sAug_a, sApp_a, sExt_a, sPut_a, sPutK_a, pkO_s, sFor_a, sWhile_a, sPar_a, runD_a, b2_s, c2_s, sqO_nx, sqO_rt, sqO_bk, sqO_ct, ifO_t, ifO_f, stO_s, endO_nx, endO_rt, andO_t, andO_f, orO_t, orO_f, chO_s, chP_t, chP_f, slO_s, atO_i, lcO_s, forO_s, gsO_s, nxO_s, tgO_s, paO_s, apO_s, exO_s, plO_s, ptO_s, dB_b, tru_b, tru_n, tru_i, tru_l, tru_t, is_n, isn_n, nn_n, nn_i, nn_b, nn_t, nn_l, add_ii, add'_ii, sub_ii, neg_i, lt_ii, le_ii, gt_ii, ge_ii, ix_l, ix_t, ix_s, at0, at1, at2, sl_l, sl_t, len_l, len_t, len_s, abs_i, int_i, int_b, max_ii, min_ii, tup_s, lst_s, seq_l, seq_t, sum_s, wipe_n, wipe_c, mul_ii, fdiv_ii, mod_ii, add_ll, add_tt, setAll, mkT, mkL, oNot, List.getD_cons_zero, List.getD_cons_succ, List.length_cons, List.length_nil, List.set_cons_zero, List.set_cons_succ, List.map_cons, List.map_nil, List.replicate, List.cons_append, List.nil_append, List.append_nil, Option.bind_some, Option.map_some, List.all_cons, List.all_nil, if_true, if_false, reduceIte, Nat.reduceAdd, Nat.reduceSub, Nat.reduceLT, Nat.reduceLeDiff, Nat.reduceEqDiff, decide_true, decide_false, Bool.and_true, Bool.and_self, Bool.true_and, Bool.not_true, Bool.not_false, ne_eq, not_true_eq_false, not_false_eq_true, Nat.zero_add, Bool.false_eq_true, and_self, true_and, and_true, al, lt, tmD]
        · rw [hk2]
          simp
      · rw [t1] at lt
        rw [t3] at hk2
        rw [hk2] at ha
        have ha' : acc.length < 16777216 := by simp at ha; omega
        obtain ⟨a1, a2⟩ := at_last t2
        rw [show tmD (some l) = .tuple (l.map enc) from rfl] at lt
        have a2 : atI (l.map enc) (((l.map enc).length : Int) - 1) = some (enc p) := by rw [List.length_map]; exact a2
        refine ⟨_, [some (.tuple (T.map PyData.int)), some (.tuple (S.map enc)), some (.list (r.map PyData.int)), x3, some (encSs s), some (.list (acc ++ [.tuple [.int p.2, encC o]])), some (encC o), x7, none, x9, x10, x11, x12, some (.tuple (l.map enc)), none, none, none, none, none, x19, none, none, none, none, none], rfl, ?_, some (encC o), some (.tuple (l.map enc)), ?_⟩
        · unfold encC at *
          generalize encSs s = ES at *
          generalize (app s o).map (fun c => PyData.tuple (c.map PyData.int)) = EA at *
          generalize o.map PyData.int = EO at *
          generalize T.map PyData.int = MT at *
          generalize S.map enc = MS at *
          generalize l.map enc = ML at *
          generalize r.map PyData.int = RR at *
          simp -implicitDefEqProofs only [l2__law_settings, xVar_a, xC_a, xBin_a, xUn_a, tOf_a, tTru_a, tNotP_a, tAndP_a, tOrP_a, tyes_a, tno_a, tYesP_a, xNil_a, xCons_a, xTup_a, xLst_a, xAnd_a, xOr_a, xIf_a, xChain_a, oNo_a, oAt_a, xSl_a, xCall_a, xSeq_a, xIt_a, xLc_a, gSet_a, gTupD_a, gsNil_a, gsCons_a, sNop_a, sBrk_a, sCnt_a, sSeq_a, sRet_a, sIf_a, sSet_a, sTgt_a, sAug_a, sApp_a, sExt_a, sPut_a, sPutK_a, pkO_s, sFor_a, sWhile_a, sPar_a, runD_a, b2_s, c2_s, sqO_nx, sqO_rt, sqO_bk, sqO_ct, ifO_t, ifO_f, stO_s, endO_nx, endO_rt, andO_t, andO_f, orO_t, orO_f, chO_s, chP_t, chP_f, slO_s, atO_i, lcO_s, forO_s, gsO_s, nxO_s, tgO_s, paO_s, apO_s, exO_s, plO_s, ptO_s, dB_b, tru_b, tru_n, tru_i, tru_l, tru_t, is_n, isn_n, nn_n, nn_i, nn_b, nn_t, nn_l, add_ii, add'_ii, sub_ii, neg_i, lt_ii, le_ii, gt_ii, ge_ii, ix_l, ix_t, ix_s, at0, at1, at2, sl_l, sl_t, len_l, len_t, len_s, abs_i, int_i, int_b, max_ii, min_ii, tup_s, lst_s, seq_l, seq_t, sum_s, wipe_n, wipe_c, mul_ii, fdiv_ii, mod_ii, add_ll, add_tt, setAll, mkT, mkL, oNot, List.getD_cons_zero, List.getD_cons_succ, List.length_cons, List.length_nil, List.set_cons_zero, List.set_cons_succ, List.map_cons, List.map_nil, List.replicate, List.cons_append, List.nil_append, List.append_nil, Option.bind_some, Option.map_some, List.all_cons, List.all_nil, if_true, if_false, reduceIte, Nat.reduceAdd, Nat.reduceSub, Nat.reduceLT, Nat.reduceLeDiff, Nat.reduceEqDiff, decide_true, decide_false, Bool.and_true, Bool.and_self, Bool.true_and, Bool.not_true, Bool.not_false, ne_eq, not_true_eq_false, not_false_eq_true, Nat.zero_add, Bool.false_eq_true, and_self, true_and, and_true, al, lt, a2, enc, ha']
        · rw [hk2, Option.map_some, Option.toList_some, List.map_cons, List.map_nil, toD_2]) (by simp; simp at hlen; omega) ⟨none, none, rfl⟩
  subst e2
  exact ⟨_, _, e1⟩

theorem sil_loop (hn : S.length = n) (h4 : n ≤ 4) (hs : OkSs n s) (low : Int) (x3 x5 x6 x7 x9 x10 x11 x12 x13 x19 : Option D) : ∃ y7 y18, forL (gSet 7) l3__law_settings ((List.range s.length).map fun k : Nat => PyData.int (k : Nat)) [some (.tuple (T.map PyData.int)), some (.tuple (S.map enc)), some (.list (r.map PyData.int)), x3, some (encSs s), x5, x6, x7, none, x9, x10, x11, x12, x13, some (.list []), some (.list []), some (.list []), some (.int low), none, x19, none, none, none, none, none] = some (.nx [some (.tuple (T.map PyData.int)), some (.tuple (S.map enc)), some (.list (r.map PyData.int)), x3, some (encSs s), x5, x6, y7, none, x9, x10, x11, x12, x13, some (.list (((List.range s.length).flatMap fun i => [mxN S (s.getD i []) - low, mxN S (s.getD i []) - low]).map PyData.int)), some (.list (((List.range s.length).flatMap fun i => [mxW S (s.getD i []), 1]).map PyData.int)), some (.list []), some (.int low), y18, x19, none, none, none, none, none]) := by
  have hl4 : s.length ≤ 4 := by have := hs.2.1; omega
  obtain ⟨ρ', e, h⟩ := forL_inv (g := gSet 7) (b := l3__law_settings) (fun i : Nat => PyData.int (i : Nat))
    (fun pre rest ρ => pre ++ rest = List.range s.length ∧ ∃ x7 x18, ρ = [some (.tuple (T.map PyData.int)), some (.tuple (S.map enc)), some (.list (r.map PyData.int)), x3, some (encSs s), x5, x6, x7, none, x9, x10, x11, x12, x13, some (.list ((pre.flatMap fun i => [mxN S (s.getD i []) - low, mxN S (s.getD i []) - low]).map PyData.int)), some (.list ((pre.flatMap fun i => [mxW S (s.getD i []), 1]).map PyData.int)), some (.list []), some (.int low), x18, x19, none, none, none, none, none])
    (fun pre x rest ρ ⟨hp, x7, x18, e⟩ => by
      subst e
      have hx := range_mem hp
      have hpl : pre.length ≤ 4 := by
        have := congrArg List.length hp
        simp at this
        omega
      have a1 : atI (s.map encC) (x : Int) = some (.tuple ((s.getD x []).map PyData.int)) := atSs hx
      have hmem : s.getD x [] ∈ s := by rw [List.getD_eq_getElem?_getD, List.getElem?_eq_getElem hx, Option.getD_some]; exact List.getElem_mem hx
      have hc := hs.okC hn _ hmem
      have pk := fun ρ hρ h1 => pick_l hc 25 1 22 (by omega) (by omega) (by omega) ρ hρ h1
      have p1 := fun ρ hρ h1 => (pk ρ hρ h1).1
      have p2 := fun ρ hρ h1 => (pk ρ hρ h1).2
      have m1 := mx_eq (l := (s.getD x []).map (nd S)) (by simpa using hc.1)
      have m2 := mx_eq (l := (s.getD x []).map (wk S)) (by simpa using hc.1)
      rw [show ((s.getD x []).map (nd S)).max?.getD 0 = mxN S (s.getD x []) from rfl] at m1
      rw [show ((s.getD x []).map (wk S)).max?.getD 0 = mxW S (s.getD x []) from rfl] at m2
      refine ⟨_, [some (.tuple (T.map PyData.int)), some (.tuple (S.map enc)), some (.list (r.map PyData.int)), x3, some (encSs s), x5, x6, some (.int (x : Nat)), none, x9, x10, x11, x12, x13, some (.list (((pre ++ [x]).flatMap fun i => [mxN S (s.getD i []) - low, mxN S (s.getD i []) - low]).map PyData.int)), some (.list (((pre ++ [x]).flatMap fun i => [mxW S (s.getD i []), 1]).map PyData.int)), some (.list []), some (.int low), some (.int (mxN S (s.getD x []))), x19, none, none, none, none, none], rfl, .inl ?_, by rw [List.append_assoc]; exact hp, some (.int (x : Nat)), some (.int (mxN S (s.getD x []))), rfl⟩
      have f1 : (pre ++ [x]).flatMap (fun i => [mxN S (s.getD i []) - low, mxN S (s.getD i []) - low]) = pre.flatMap (fun i => [mxN S (s.getD i []) - low, mxN S (s.getD i []) - low]) ++ [mxN S (s.getD x []) - low, mxN S (s.getD x []) - low] := by simp [List.flatMap_append]
      have f2 : (pre ++ [x]).flatMap (fun i => [mxW S (s.getD i []), 1]) = pre.flatMap (fun i => [mxW S (s.getD i []), 1]) ++ [mxW S (s.getD x []), 1] := by simp [List.flatMap_append]
      rw [f1, f2, List.map_append, List.map_append]
      have g1 : ((pre.flatMap fun i => [mxN S (s.getD i []) - low, mxN S (s.getD i []) - low]).map PyData.int).length + 2 ≤ 16777216 := by
        have := fl_len (fun i => [mxN S (s.getD i []) - low, mxN S (s.getD i []) - low]) 2 pre (fun _ _ => by simp)
        rw [List.length_map]
        omega
      have g2 : ((pre.flatMap fun i => [mxW S (s.getD i []), 1]).map PyData.int).length + 2 ≤ 16777216 := by
        have := fl_len (fun i => [mxW S (s.getD i []), (1 : Int)]) 2 pre (fun _ _ => by simp)
        rw [List.length_map]
        omega
      generalize (pre.flatMap fun i => [mxN S (s.getD i []) - low, mxN S (s.getD i []) - low]).map PyData.int = PA at *
      generalize (pre.flatMap fun i => [mxW S (s.getD i []), 1]).map PyData.int = PB at *
      unfold encSs at *
      generalize ((s.getD x []).map (nd S)).map PyData.int = M1 at *
      generalize ((s.getD x []).map (wk S)).map PyData.int = M2 at *
      generalize (s.getD x []).map PyData.int = MC at *
      generalize s.map encC = ES at *
      generalize S.map enc = MS at *
      generalize T.map PyData.int = MT at *
      generalize r.map PyData.int = RR at *
      simp -implicitDefEqProofs only [l3__law_settings, xVar_a, xC_a, xBin_a, xUn_a, tOf_a, tTru_a, tNotP_a, tAndP_a, tOrP_a, tyes_a, tno_a, tYesP_a, xNil_a, xCons_a, xTup_a, xLst_a, xAnd_a, xOr_a, xIf_a, xChain_a, oNo_a, oAt_a, xSl_a, xCall_a, xSeq_a, xIt_a, xLc_a, gSet_a, gTupD_a, gsNil_a, gsCons_a, sNop_a, sBrk_a, sCnt_a, sSeq_a, sRet_a, sIf_a, sSet_a, sTgt_a, sAug_a, sApp_a, sExt_a, sPut_a, sPutK_a, pkO_s, sFor_a, sWhile_a, sPar_a, runD_a, b2_s, c2_s, sqO_nx, sqO_rt, sqO_bk, sqO_ct, ifO_t, ifO_f, stO_s, endO_nx, endO_rt, andO_t, andO_f, orO_t, orO_f, chO_s, chP_t, chP_f, slO_s, atO_i, lcO_s, forO_s, gsO_s, nxO_s, tgO_s, paO_s, apO_s, exO_s, plO_s, ptO_s, dB_b, tru_b, tru_n, tru_i, tru_l, tru_t, is_n, isn_n, nn_n, nn_i, nn_b, nn_t, nn_l, add_ii, add'_ii, sub_ii, neg_i, lt_ii, le_ii, gt_ii, ge_ii, ix_l, ix_t, ix_s, at0, at1, at2, sl_l, sl_t, len_l, len_t, len_s, abs_i, int_i, int_b, max_ii, min_ii, tup_s, lst_s, seq_l, seq_t, sum_s, wipe_n, wipe_c, mul_ii, fdiv_ii, mod_ii, add_ll, add_tt, setAll, mkT, mkL, oNot, List.getD_cons_zero, List.getD_cons_succ, List.length_cons, List.length_nil, List.set_cons_zero, List.set_cons_succ, List.map_cons, List.map_nil, List.replicate, List.cons_append, List.nil_append, List.append_nil, Option.bind_some, Option.map_some, List.all_cons, List.all_nil, if_true, if_false, reduceIte, Nat.reduceAdd, Nat.reduceSub, Nat.reduceLT, Nat.reduceLeDiff, Nat.reduceEqDiff, decide_true, decide_false, Bool.and_true, Bool.and_self, Bool.true_and, Bool.not_true, Bool.not_false, ne_eq, not_true_eq_false, not_false_eq_true, Nat.zero_add, Bool.false_eq_true, and_self, true_and, and_true, a1, p1, p2, m1, m2, g1, g2]) (List.range s.length) [] [some (.tuple (T.map PyData.int)), some (.tuple (S.map enc)), some (.list (r.map PyData.int)), x3, some (encSs s), x5, x6, x7, none, x9, x10, x11, x12, x13, some (.list []), some (.list []), some (.list []), some (.int low), none, x19, none, none, none, none, none] ⟨rfl, _, none, rfl⟩
  obtain ⟨_, x7, x18, e'⟩ := h
  subst e'
  rw [List.nil_append] at e
  exact ⟨_, _, e⟩

theorem hrs_loop (hl : l.length ≤ 100) (x3 x5 x6 x7 x9 x10 x11 x12 x13 x14 x15 x17 x18 x19 : Option D) : ∃ y20 y21, forL (gTupD 2 (gsCons (gSet 20) (gsCons (gSet 21) gsNil))) l4__law_settings (l.map enc) [some (.tuple (T.map PyData.int)), some (.tuple (S.map enc)), some (.list (r.map PyData.int)), x3, some (encSs s), x5, x6, x7, some .none, x9, x10, x11, x12, x13, x14, x15, some (.list []), x17, x18, x19, none, none, none, none, none] = some (.nx [some (.tuple (T.map PyData.int)), some (.tuple (S.map enc)), some (.list (r.map PyData.int)), x3, some (encSs s), x5, x6, x7, some .none, x9, x10, x11, x12, x13, x14, x15, some (.list ((l.flatMap fun p : Sh => [p.1, p.2]).map PyData.int)), x17, x18, x19, y20, y21, none, none, none]) := by
  have hfl := fl_len (fun p : Sh => [p.1, p.2]) 2 l (fun _ _ => by simp)
  obtain ⟨ρ', e1, x20, x21, e2⟩ := forL_fl (g := gTupD 2 (gsCons (gSet 20) (gsCons (gSet 21) gsNil))) (b := l4__law_settings) (N := 1000) enc PyData.int (fun p : Sh => [p.1, p.2]) (fun acc ρ => ∃ x20 x21, ρ = [some (.tuple (T.map PyData.int)), some (.tuple (S.map enc)), some (.list (r.map PyData.int)), x3, some (encSs s), x5, x6, x7, some .none, x9, x10, x11, x12, x13, x14, x15, some (.list acc), x17, x18, x19, x20, x21, none, none, none]) l [] [some (.tuple (T.map PyData.int)), some (.tuple (S.map enc)), some (.list (r.map PyData.int)), x3, some (encSs s), x5, x6, x7, some .none, x9, x10, x11, x12, x13, x14, x15, some (.list []), x17, x18, x19, none, none, none, none, none]
    (fun p hp acc ρ ha ⟨x20, x21, e⟩ => by
      subst e
      have ha' : acc.length + 2 ≤ 16777216 := by simp at ha; omega
      refine ⟨_, [some (.tuple (T.map PyData.int)), some (.tuple (S.map enc)), some (.list (r.map PyData.int)), x3, some (encSs s), x5, x6, x7, some .none, x9, x10, x11, x12, x13, x14, x15, some (.list (acc ++ [p.1, p.2].map PyData.int)), x17, x18, x19, some (.int p.1), some (.int p.2), none, none, none], rfl, ?_, some (.int p.1), some (.int p.2), rfl⟩
      simp only [List.map_cons, List.map_nil]
      generalize encSs s = ES at *
      generalize S.map enc = MS at *
      generalize T.map PyData.int = MT at *
      generalize r.map PyData.int = RR at *
      simp -implicitDefEqProofs only [l4__law_settings, xVar_a, xC_a, xBin_a, xUn_a, tOf_a, tTru_a, tNotP_a, tAndP_a, tOrP_a, tyes_a, tno_a, tYesP_a, xNil_a, xCons_a, xTup_a, xLst_a, xAnd_a, xOr_a, xIf_a, xChain_a, oNo_a, oAt_a, xSl_a, xCall_a, xSeq_a, xIt_a, xLc_a, gSet_a, gTupD_a, gsNil_a, gsCons_a, sNop_a, sBrk_a, sCnt_a, sSeq_a, sRet_a, sIf_a, sSet_a, sTgt_a, sAug_a, sApp_a, sExt_a, sPut_a, sPutK_a, pkO_s, sFor_a, sWhile_a, sPar_a, runD_a, b2_s, c2_s, sqO_nx, sqO_rt, sqO_bk, sqO_ct, ifO_t, ifO_f, stO_s, endO_nx, endO_rt, andO_t, andO_f, orO_t, orO_f, chO_s, chP_t, chP_f, slO_s, atO_i, lcO_s, forO_s, gsO_s, nxO_s, tgO_s, paO_s, apO_s, exO_s, plO_s, ptO_s, dB_b, tru_b, tru_n, tru_i, tru_l, tru_t, is_n, isn_n, nn_n, nn_i, nn_b, nn_t, nn_l, add_ii, add'_ii, sub_ii, neg_i, lt_ii, le_ii, gt_ii, ge_ii, ix_l, ix_t, ix_s, at0, at1, at2, sl_l, sl_t, len_l, len_t, len_s, abs_i, int_i, int_b, max_ii, min_ii, tup_s, lst_s, seq_l, seq_t, sum_s, wipe_n, wipe_c, mul_ii, fdiv_ii, mod_ii, add_ll, add_tt, setAll, mkT, mkL, oNot, List.getD_cons_zero, List.getD_cons_succ, List.length_cons, List.length_nil, List.set_cons_zero, List.set_cons_succ, List.map_cons, List.map_nil, List.replicate, List.cons_append, List.nil_append, List.append_nil, Option.bind_some, Option.map_some, List.all_cons, List.all_nil, if_true, if_false, reduceIte, Nat.reduceAdd, Nat.reduceSub, Nat.reduceLT, Nat.reduceLeDiff, Nat.reduceEqDiff, decide_true, decide_false, Bool.and_true, Bool.and_self, Bool.true_and, Bool.not_true, Bool.not_false, ne_eq, not_true_eq_false, not_false_eq_true, Nat.zero_add, Bool.false_eq_true, and_self, true_and, and_true, ha']) (by simp -implicitDefEqProofs only [List.length_nil]; omega) ⟨none, none, rfl⟩
  subst e2
  exact ⟨_, _, e1⟩
end
end K08

namespace K08
open PySem PySem.Spec PyProof.Rows L2 Pm
open PySem.W (Datum Tup)
theorem getD_mid (A B : List Int) (a b : Int) : (A ++ a :: b :: B).getD A.length 0 = a ∧ (A ++ a :: b :: B).getD (A.length + 1) 0 = b := by
  constructor
  · rw [List.getD_eq_getElem?_getD, List.getElem?_append_right (Nat.le_refl _), Nat.sub_self]
    rfl
  · rw [List.getD_eq_getElem?_getD, List.getElem?_append_right (by omega), show A.length + 1 - A.length = 1 by omega]
    rfl
theorem fl2_len {α : Type} (f g : α → Int) : ∀ l : List α, (l.flatMap fun c => [f c, g c]).length = 2 * l.length
  | [] => rfl
  | x :: l => by rw [List.flatMap_cons, List.length_append, fl2_len f g l, List.length_cons]; simp; omega
theorem take_getD (L : List Int) (m k : Nat) (h : k < m) : (L.take m).getD k 0 = L.getD k 0 := by
  rw [List.getD_eq_getElem?_getD, List.getD_eq_getElem?_getD, List.getElem?_take, if_pos h]
theorem range_fl {α β : Type} [Inhabited α] (d : α) (f : α → List β) (s : List α) : (List.range s.length).flatMap (fun i => f (s.getD i d)) = s.flatMap f := by
  have e : s = (List.range s.length).map fun i => s.getD i d := by
    apply List.ext_getElem?
    intro i
    by_cases h : i < s.length
    · simp [h]
    · simp [h]
  rw [show s.flatMap f = ((List.range s.length).map fun i => s.getD i d).flatMap f by rw [← e], List.flatMap_map]
theorem ov_tm {T : List Int} {S : List Sh} {low : Int} : ∀ (cs pre : List (List Int)) (now : Int),
    ov T low ((pre ++ cs).flatMap fun c => [mxN S c - low, mxN S c - low]) (((pre ++ cs).flatMap fun c => [mxW S c, 1]).take (2 * (pre ++ cs).length - 1)) (2 * cs.length) (2 * pre.length) now = (tm T S now cs).map fun l => l.flatMap fun p => [p.1, p.2]
  | [], pre, now => rfl
  | c :: cs, pre, now => by
    have e1 : (pre ++ c :: cs).flatMap (fun c => [mxN S c - low, mxN S c - low]) = (pre.flatMap fun c => [mxN S c - low, mxN S c - low]) ++ (mxN S c - low) :: (mxN S c - low) :: cs.flatMap (fun c => [mxN S c - low, mxN S c - low]) := by simp
    have e2 : (pre ++ c :: cs).flatMap (fun c => [mxW S c, 1]) = (pre.flatMap fun c => [mxW S c, 1]) ++ (mxW S c) :: 1 :: cs.flatMap (fun c => [mxW S c, 1]) := by simp
    obtain ⟨g1, g2⟩ := getD_mid (pre.flatMap fun c => [mxN S c - low, mxN S c - low]) (cs.flatMap (fun c => [mxN S c - low, mxN S c - low])) (mxN S c - low) (mxN S c - low)
    obtain ⟨g3, g4⟩ := getD_mid (pre.flatMap fun c => [mxW S c, 1]) (cs.flatMap (fun c => [mxW S c, 1])) (mxW S c) 1
    rw [← e1, fl2_len (fun c => mxN S c - low) (fun c => mxN S c - low) pre] at g1 g2
    rw [← e2, fl2_len (fun c => mxW S c) (fun _ => 1) pre] at g3 g4
    have t3 := (take_getD ((pre ++ c :: cs).flatMap (fun c => [mxW S c, 1])) (2 * (pre ++ c :: cs).length - 1) (2 * pre.length) (by simp; omega)).trans g3
    have ih := ov_tm (T := T) (S := S) (low := low) cs (pre ++ [c])
    rw [List.append_assoc, show 2 * (pre ++ [c]).length = 2 * pre.length + 2 by simp; omega] at ih
    rw [show 2 * (c :: cs).length = 2 * cs.length + 1 + 1 by simp; omega]
    generalize hA : (pre ++ c :: cs).flatMap (fun c => [mxN S c - low, mxN S c - low]) = A at *
    generalize hB : ((pre ++ c :: cs).flatMap (fun c => [mxW S c, 1])).take (2 * (pre ++ c :: cs).length - 1) = B at *
    have ih : ∀ now, ov T low A B (2 * cs.length) (2 * pre.length + 2) now = (tm T S now cs).map fun l => l.flatMap fun p => [p.1, p.2] := fun now => by
      rw [← ih now, ← hA, ← hB]
      rfl
    rw [ov, g1, show low + (mxN S c - low) = mxN S c by omega, tm]
    cases hb : fst T (mxN S c) now with
    | none => rfl
    | some b =>
      rw [Option.bind_some, Option.bind_some, t3, ov, g2, show low + (mxN S c - low) = mxN S c by omega]
      cases he : fst T (mxN S c) (b + mxW S c) with
      | none => rfl
      | some e =>
        rw [Option.bind_some, Option.bind_some]
        have last : ov T low A B (2 * cs.length) (2 * pre.length + 1 + 1) (e + B.getD (2 * pre.length + 1) 0) = (tm T S (e + 1) cs).map fun l => l.flatMap fun p => [p.1, p.2] := by
          cases cs with
          | nil => rfl
          | cons c2 cs2 =>
            have t4 : B.getD (2 * pre.length + 1) 0 = 1 := by
              rw [← hB]
              exact (take_getD _ _ _ (by simp; omega)).trans g4
            rw [t4]
            exact ih (e + 1)
        rw [last]
        cases tm T S (e + 1) cs <;> rfl
theorem flat_ints : ∀ l : List Int, flatL (l.map PyData.int) = true
  | [] => rfl
  | x :: l => by
    rw [List.map_cons]
    unfold flatL
    rw [flat_ints l]
    rfl
theorem flat_cs : ∀ s : List (List Int), flatL (s.map encC) = true
  | [] => rfl
  | c :: s => by
    rw [List.map_cons]
    unfold flatL
    rw [flat_cs s, show flat (encC c) = flatL (c.map PyData.int) from rfl, flat_ints]
    rfl
theorem flat_K3 {T : List Int} {S : List Sh} {l : List K3} (h : ∀ x ∈ l, ∃ s, key3 T S s = some x) : flat ((least l).elim .none Datum.toD) = true := by
  cases e : least l with
  | none => rfl
  | some x =>
    obtain ⟨s, hk⟩ := h x (least_iff.mp e).1
    unfold key3 at hk
    obtain ⟨i, _, rfl⟩ := Option.map_eq_some_iff.mp hk
    show flat (Datum.toD ((i, mk3 s) : K3)) = true
    rw [toD_3]
    show (flat (.int i) && (flat (encSs s) && true)) = true
    rw [show flat (encSs s) = flatL (s.map encC) from rfl, flat_cs]
    rfl
theorem mxL_some {s : List (List Int)} (h : s ≠ []) : (s.map fun c => (c.length : Int)).max? = some (mxL s : Int) := by
  unfold mxL
  cases e : (s.map List.length).max? with
  | none => simp at e; exact absurd e h
  | some M =>
    rw [Option.getD_some, List.max?_eq_some_iff]
    rw [List.max?_eq_some_iff] at e
    refine ⟨?_, fun b hb => ?_⟩
    · obtain ⟨c, hc, rfl⟩ := List.mem_map.mp e.1
      exact List.mem_map.mpr ⟨c, hc, rfl⟩
    · obtain ⟨c, hc, rfl⟩ := List.mem_map.mp hb
      have := e.2 _ (List.mem_map.mpr ⟨c, hc, rfl⟩)
      omega
theorem max_lens {s : List (List Int)} (h : s ≠ []) : bMaxI [.list (s.map fun c => PyData.int (c.length : Nat))] = some (.int (mxL s : Int)) := by
  have := bMaxI_l (mxL_some h)
  rwa [List.map_map] at this

theorem fit_l {T r : List Int} {S : List Sh} {n m : Nat} (hp : ∀ s ∈ PT n, OkSs n s) : lcL (gSet 4) (tOf (xBin oLe (xCall bMaxI (xCons (xLc (xSeq (xVar 4)) (gSet 24) tYesP (xCall bLen (xCons (xVar 24) xNil)) [24]) xNil)) (xVar 10))) (xVar 4) [some (.tuple (T.map PyData.int)), some (.tuple (S.map enc)), some (.list (r.map PyData.int)), none, none, none, none, none, none, some (.list ((PT n).map encSs)), some (.int (m : Nat)), none, none, none, none, none, none, none, none, none, none, none, none, none, none] ((PT n).map encSs) = some ((BL n m).map encSs) := by
  refine lcL_filter encSs encSs (fun s => decide (mxL s ≤ m)) _ fun s hs => ⟨[some (.tuple (T.map PyData.int)), some (.tuple (S.map enc)), some (.list (r.map PyData.int)), none, some (encSs s), none, none, none, none, some (.list ((PT n).map encSs)), some (.int (m : Nat)), none, none, none, none, none, none, none, none, none, none, none, none, none, none], rfl, ?_, fun _ => rfl⟩
  have hk := hp s hs
  have hne : s ≠ [] := by
    rintro rfl
    have := hk.1
    simp at this
  have mx := max_lens hne
  have l1 : lcL (gSet 24) tYesP (xCall bLen (xCons (xVar 24) xNil)) [some (.tuple (T.map PyData.int)), some (.tuple (S.map enc)), some (.list (r.map PyData.int)), none, some (encSs s), none, none, none, none, some (.list ((PT n).map encSs)), some (.int (m : Nat)), none, none, none, none, none, none, none, none, none, none, none, none, none, none] (s.map encC) = some (s.map fun c => PyData.int (c.length : Nat)) := by
    refine lcL_map _ _ _ fun c hc => ?_
    generalize (PT n).map encSs = MP at *
    generalize S.map enc = MS at *
    generalize T.map PyData.int = MT at *
    generalize r.map PyData.int = RR at *
    have ln : ((c.map PyData.int).length : Int) = (c.length : Int) := by rw [List.length_map]
    unfold encC
    generalize c.map PyData.int = MC at *
    simp -implicitDefEqProofs only [xVar_a, xC_a, xBin_a, xUn_a, tOf_a, tTru_a, tNotP_a, tAndP_a, tOrP_a, tyes_a, tno_a, tYesP_a, xNil_a, xCons_a, xTup_a, xLst_a, xAnd_a, xOr_a, xIf_a, xChain_a, oNo_a, oAt_a, xSl_a, xCall_a, xSeq_a, xIt_a, xLc_a, gSet_a, gTupD_a, gsNil_a, gsCons_a, sNop_a, sBrk_a, sCnt_a, sSeq_a, sRet_a, sIf_a, sSet_a, sTgt_a, sAug_a, sApp_a, sExt_a, sPut_a, sPutK_a, pkO_s, sFor_a, sWhile_a, sPar_a, runD_a, b2_s, c2_s, sqO_nx, sqO_rt, sqO_bk, sqO_ct, ifO_t, ifO_f, stO_s, endO_nx, endO_rt, andO_t, andO_f, orO_t, orO_f, chO_s, chP_t, chP_f, slO_s, atO_i, lcO_s, forO_s, gsO_s, nxO_s, tgO_s, paO_s, apO_s, exO_s, plO_s, ptO_s, dB_b, tru_b, tru_n, tru_i, tru_l, tru_t, is_n, isn_n, nn_n, nn_i, nn_b, nn_t, nn_l, add_ii, add'_ii, sub_ii, neg_i, lt_ii, le_ii, gt_ii, ge_ii, ix_l, ix_t, ix_s, at0, at1, at2, sl_l, sl_t, len_l, len_t, len_s, abs_i, int_i, int_b, max_ii, min_ii, tup_s, lst_s, seq_l, seq_t, sum_s, wipe_n, wipe_c, mul_ii, fdiv_ii, mod_ii, add_ll, add_tt, setAll, mkT, mkL, oNot, List.getD_cons_zero, List.getD_cons_succ, List.length_cons, List.length_nil, List.set_cons_zero, List.set_cons_succ, List.map_cons, List.map_nil, List.replicate, List.cons_append, List.nil_append, List.append_nil, Option.bind_some, Option.map_some, List.all_cons, List.all_nil, if_true, if_false, reduceIte, Nat.reduceAdd, Nat.reduceSub, Nat.reduceLT, Nat.reduceLeDiff, Nat.reduceEqDiff, decide_true, decide_false, Bool.and_true, Bool.and_self, Bool.true_and, Bool.not_true, Bool.not_false, ne_eq, not_true_eq_false, not_false_eq_true, Nat.zero_add, Bool.false_eq_true, and_self, true_and, and_true, ln]
  have dec : decide ((mxL s : Int) ≤ (m : Int)) = decide (mxL s ≤ m) := decide_eq_decide.mpr (by omega)
  unfold encSs at *
  generalize s.map encC = ES at *
  generalize (PT n).map (fun s => PyData.tuple (s.map encC)) = MP at *
  generalize S.map enc = MS at *
  generalize T.map PyData.int = MT at *
  generalize r.map PyData.int = RR at *
  generalize (s.map fun c => PyData.int (c.length : Nat)) = LL at *
  simp -implicitDefEqProofs only [xVar_a, xC_a, xBin_a, xUn_a, tOf_a, tTru_a, tNotP_a, tAndP_a, tOrP_a, tyes_a, tno_a, tYesP_a, xNil_a, xCons_a, xTup_a, xLst_a, xAnd_a, xOr_a, xIf_a, xChain_a, oNo_a, oAt_a, xSl_a, xCall_a, xSeq_a, xIt_a, xLc_a, gSet_a, gTupD_a, gsNil_a, gsCons_a, sNop_a, sBrk_a, sCnt_a, sSeq_a, sRet_a, sIf_a, sSet_a, sTgt_a, sAug_a, sApp_a, sExt_a, sPut_a, sPutK_a, pkO_s, sFor_a, sWhile_a, sPar_a, runD_a, b2_s, c2_s, sqO_nx, sqO_rt, sqO_bk, sqO_ct, ifO_t, ifO_f, stO_s, endO_nx, endO_rt, andO_t, andO_f, orO_t, orO_f, chO_s, chP_t, chP_f, slO_s, atO_i, lcO_s, forO_s, gsO_s, nxO_s, tgO_s, paO_s, apO_s, exO_s, plO_s, ptO_s, dB_b, tru_b, tru_n, tru_i, tru_l, tru_t, is_n, isn_n, nn_n, nn_i, nn_b, nn_t, nn_l, add_ii, add'_ii, sub_ii, neg_i, lt_ii, le_ii, gt_ii, ge_ii, ix_l, ix_t, ix_s, at0, at1, at2, sl_l, sl_t, len_l, len_t, len_s, abs_i, int_i, int_b, max_ii, min_ii, tup_s, lst_s, seq_l, seq_t, sum_s, wipe_n, wipe_c, mul_ii, fdiv_ii, mod_ii, add_ll, add_tt, setAll, mkT, mkL, oNot, List.getD_cons_zero, List.getD_cons_succ, List.length_cons, List.length_nil, List.set_cons_zero, List.set_cons_succ, List.map_cons, List.map_nil, List.replicate, List.cons_append, List.nil_append, List.append_nil, Option.bind_some, Option.map_some, List.all_cons, List.all_nil, if_true, if_false, reduceIte, Nat.reduceAdd, Nat.reduceSub, Nat.reduceLT, Nat.reduceLeDiff, Nat.reduceEqDiff, decide_true, decide_false, Bool.and_true, Bool.and_self, Bool.true_and, Bool.not_true, Bool.not_false, ne_eq, not_true_eq_false, not_false_eq_true, Nat.zero_add, Bool.false_eq_true, and_self, true_and, and_true, l1, mx, dec]
end K08

namespace K08
open PySem PySem.Spec PyProof.Rows L2 Pm
open PySem.W (Datum Tup)
theorem cut_upto (xs : List D) (n : Nat) : Pm.cutD xs none (some (n : Int)) = xs.take n := by
  unfold Pm.cutD
  rw [HT.sIx_none, List.drop_zero, Nat.sub_zero, HT.sIx_nat]
  rw [← List.take_take, List.take_length]
theorem steps_ok {S : List Sh} {n : Nat} (hS : OkS S) (hn : S.length = n) {s : List (List Int)} (hs : OkSs n s) (k : Nat) : OkG ((s.flatMap fun c => [mxW S c, 1]).take k) := fun g hg => by
  obtain ⟨c, hc, hg⟩ := List.mem_flatMap.mp (List.mem_of_mem_take hg)
  have := mxW_rng hS (hs.okC hn c hc)
  simp at hg
  rcases hg with rfl | rfl <;> omega
theorem law_settings_ok {T : List Int} {S : List Sh} {n : Nat} (hT : OkT T) (hS : OkS S) (hn : S.length = n) (h1 : 1 ≤ n) (h4 : n ≤ 4) {r : List Int} (hr : r.length = 40) : d__law_settings [.tuple (T.map PyData.int), .tuple (S.map enc), .list (r.map PyData.int)] = some (.bool true) := by
  have i20 : atI (r.map PyData.int) 20 = some (.int (r.getD 20 0)) := row_at r 20 (by omega)
  have i21 : atI (r.map PyData.int) 21 = some (.int (r.getD 21 0)) := row_at r 21 (by omega)
  obtain ⟨k, hk, hkn⟩ := fmod_nat (r.getD 20 0) (m := (n : Int)) (by omega)
  have c1 : (1 : Int) + (k : Int) = ((1 + k : Nat) : Int) := by omega
  generalize hm : 1 + k = m at *
  have hm1 : 1 ≤ m := by omega
  have hmn : m ≤ n := by omega
  have ln : ((S.map enc).length : Int) = (n : Int) := by rw [List.length_map, hn]
  have zn : (n : Int) ≠ 0 := by omega
  have pa := pt_a h1 h4
  have hp : ∀ s ∈ PT n, OkSs n s := fun s hs => okSs_of (List.all_eq_true.mp (pt_o h1 h4) s hs)
  have pl := pt_l h1 h4
  have ft := fit_l (T := T) (r := r) (S := S) (n := n) (m := m) hp
  have hB : ∀ s ∈ BL n m, OkSs n s := fun s hs => hp s (List.mem_filter.mp hs).1
  have hBl : (BL n m).length ≤ 75 := by
    have := List.length_filter_le (fun s => decide (mxL s ≤ m)) (PT n)
    unfold BL
    omega
  have le := law_ends_eq hT hS hn h4 hB (by omega)
  have hkl := len_fm (fun s => key3 T S s) (BL n m)
  obtain ⟨l', lp, _, lh, lb⟩ := sorted_map depth3 ((BL n m).flatMap fun s => (key3 T S s).toList) (by omega) (.inl tup3) (x := .list (((BL n m).flatMap fun s => (key3 T S s).toList).map Datum.toD)) rfl
  rw [lb] at le
  have ts := tide_sets_eq hT hS hn h4 hm1 hmn
  rw [least_same hm1 hmn h4] at ts
  obtain ⟨xs, ad1, atk1⟩ := first_none l' lh (by rw [lp.length_eq]; omega)
  have hkeys : ∀ x ∈ (BL n m).flatMap (fun s => (key3 T S s).toList), ∃ s, OkSs n s ∧ key3 T S s = some x := fun x hx => by
    obtain ⟨s, hs, h⟩ := List.mem_flatMap.mp hx
    exact ⟨s, hB s hs, by simpa using h⟩
  have lk1 := like_K3 h4 4 hkeys
  have fl1 := flat_K3 (T := T) (S := S) (l := (BL n m).flatMap fun s => (key3 T S s).toList) (fun x hx => by obtain ⟨s, _, h⟩ := hkeys x hx; exact ⟨s, h⟩)
  -- one of the ways
  have lnP : (((PT n).map encSs).length : Int) = ((PT n).length : Int) := by rw [List.length_map]
  have zP : ((PT n).length : Int) ≠ 0 := by omega
  obtain ⟨j, hj, hjn⟩ := fmod_nat (r.getD 21 0) (m := ((PT n).length : Int)) (by omega)
  obtain ⟨s, hsP, atP⟩ : ∃ s ∈ PT n, atI ((PT n).map encSs) (j : Int) = some (encSs s) := by
    have hjl : j < (PT n).length := by omega
    refine ⟨(PT n)[j], List.getElem_mem hjl, ?_⟩
    rw [atI_nat _ _ (by rw [List.length_map]; exact hjl), List.getElem_map]
  have hs := hp s hsP
  have hl4 : s.length ≤ 4 := by have := hs.2.1; omega
  have lnS : ((s.map encC).length : Int) = (s.length : Int) := by rw [List.length_map]
  have lenS : bLen [encSs s] = some (.int (s.length : Nat)) := by
    show some (PyData.int ((s.map encC).length : Nat)) = _
    rw [lnS]
  have gS := rg0 s.length (by omega)
  have lt : d__law_times [.tuple (T.map PyData.int), .tuple (S.map enc), encSs s] = some (tmD (tm T S 0 s)) := lt_eq false hT hS (hs.okC hn) (by omega)
  have tt : d_tide_times [.tuple (T.map PyData.int), .tuple (S.map enc), encSs s] = some (tmD (tm T S 0 s)) := tt_eq false hT hS (hs.okC hn) (by omega)
  have te : d_tide_end [.tuple (T.map PyData.int), .tuple (S.map enc), encSs s] = some (eO (endT T S s)) := tide_end_eq false hT hS (hs.okC hn) (by omega)
  have lk2 := like_tmD 5 (tm T S 0 s) (fun l h => by rw [tm_len h]; omega)
  have lk3 := like_eO 7 (endT T S s)
  -- the orders
  have ob := or_b hs.1 hl4
  have ol := or_l hs.1 hl4
  have oo := List.all_eq_true.mp (or_o hs.1 hl4)
  have to := tide_order_eq hT hS hn h4 hs
  have hkl2 := len_fm (key2 T S s) (ORD s.length)
  obtain ⟨l2, lp2, _, lh2, lb2⟩ := sorted_map depth2 ((ORD s.length).flatMap fun o => (key2 T S s o).toList) (by omega) (.inl tup2) (x := .list (((ORD s.length).flatMap fun o => (key2 T S s o).toList).map Datum.toD)) rfl
  obtain ⟨xs2, ad2, atk2⟩ := first_none l2 lh2 (by rw [lp2.length_eq]; omega)
  have lk4 := like_K2 (T := T) (S := S) (s := s) (l := (ORD s.length).flatMap fun o => (key2 T S s o).toList) 5 (fun x hx => by
    obtain ⟨o, ho, h⟩ := List.mem_flatMap.mp hx
    have ho := oo o ho
    unfold okO at ho
    rw [Bool.and_eq_true, decide_eq_true_eq] at ho
    exact ⟨o, by omega, by simpa using h⟩)
  -- the sills
  obtain ⟨low, hlow⟩ : ∃ m, (S.map Prod.fst).min? = some m := by
    cases e : (S.map Prod.fst).min? with
    | none => simp at e; rw [e] at hn; simp at hn; omega
    | some m => exact ⟨m, rfl⟩
  have mnl := bMinI_l hlow
  have lw : ∀ ρ : PEnv, ρ.length = 25 → lcL (gTupD 2 (gsCons (gSet 18) (gsCons (gSet 23) gsNil))) tYesP (xVar 18) ρ (S.map enc) = some ((S.map Prod.fst).map PyData.int) := fun ρ hρ => by
    rw [List.map_map]
    refine lcL_map _ _ _ fun p _ => ?_
    have hg : gTupD 2 (gsCons (gSet 18) (gsCons (gSet 23) gsNil)) (enc p) ρ = some ((ρ.set 18 (some (.int p.1))).set 23 (some (.int p.2))) := by
      simp -implicitDefEqProofs only [enc, xVar_a, xC_a, xBin_a, xUn_a, tOf_a, tTru_a, tNotP_a, tAndP_a, tOrP_a, tyes_a, tno_a, tYesP_a, xNil_a, xCons_a, xTup_a, xLst_a, xAnd_a, xOr_a, xIf_a, xChain_a, oNo_a, oAt_a, xSl_a, xCall_a, xSeq_a, xIt_a, xLc_a, gSet_a, gTupD_a, gsNil_a, gsCons_a, sNop_a, sBrk_a, sCnt_a, sSeq_a, sRet_a, sIf_a, sSet_a, sTgt_a, sAug_a, sApp_a, sExt_a, sPut_a, sPutK_a, pkO_s, sFor_a, sWhile_a, sPar_a, runD_a, b2_s, c2_s, sqO_nx, sqO_rt, sqO_bk, sqO_ct, ifO_t, ifO_f, stO_s, endO_nx, endO_rt, andO_t, andO_f, orO_t, orO_f, chO_s, chP_t, chP_f, slO_s, atO_i, lcO_s, forO_s, gsO_s, nxO_s, tgO_s, paO_s, apO_s, exO_s, plO_s, ptO_s, dB_b, tru_b, tru_n, tru_i, tru_l, tru_t, is_n, isn_n, nn_n, nn_i, nn_b, nn_t, nn_l, add_ii, add'_ii, sub_ii, neg_i, lt_ii, le_ii, gt_ii, ge_ii, ix_l, ix_t, ix_s, at0, at1, at2, sl_l, sl_t, len_l, len_t, len_s, abs_i, int_i, int_b, max_ii, min_ii, tup_s, lst_s, seq_l, seq_t, sum_s, wipe_n, wipe_c, mul_ii, fdiv_ii, mod_ii, add_ll, add_tt, setAll, mkT, mkL, oNot, List.getD_cons_zero, List.getD_cons_succ, List.length_cons, List.length_nil, List.set_cons_zero, List.set_cons_succ, List.map_cons, List.map_nil, List.replicate, List.cons_append, List.nil_append, List.append_nil, Option.bind_some, Option.map_some, List.all_cons, List.all_nil, if_true, if_false, reduceIte, Nat.reduceAdd, Nat.reduceSub, Nat.reduceLT, Nat.reduceLeDiff, Nat.reduceEqDiff, decide_true, decide_false, Bool.and_true, Bool.and_self, Bool.true_and, Bool.not_true, Bool.not_false, ne_eq, not_true_eq_false, not_false_eq_true, Nat.zero_add, Bool.false_eq_true, and_self, true_and, and_true, hρ, List.length_set]
    rw [hg, Option.bind_some]
    show ((ρ.set 18 (some (.int p.1))).set 23 (some (.int p.2))).getD 18 none = _
    rw [List.getD_eq_getElem?_getD, List.getElem?_set_ne (by omega), List.getElem?_set_self (by omega)]
    rfl
  have o := ov_tm (T := T) (S := S) (low := low) s [] 0
  have r1 := range_fl [] (fun c => [mxN S c - low, mxN S c - low]) s
  have r2 := range_fl [] (fun c => [mxW S c, (1 : Int)]) s
  have sl1 := fl2_len (fun c => mxN S c - low) (fun c => mxN S c - low) s
  have sl2 := fl2_len (fun c => mxW S c) (fun _ => (1 : Int)) s
  simp only [List.nil_append, List.length_nil, Nat.mul_zero] at o
  have cr := cross_rows_eq hT (need := low) (hour := 0) (sills := s.flatMap fun c => [mxN S c - low, mxN S c - low]) (steps := (s.flatMap fun c => [mxW S c, 1]).take (2 * s.length - 1)) (steps_ok hS hn hs _) (by rw [List.length_take]; have := hs.1; omega) (by rw [List.length_take]; omega) (by omega) (by omega) (by omega)
  rw [sl1, o] at cr
  have h8 := hs.1
  have sl3 : (((s.flatMap fun c => [mxW S c, 1]).map PyData.int).length : Int) - 1 = ((2 * s.length - 1 : Nat) : Int) := by rw [List.length_map, sl2]; omega
  have cu := cut_upto ((s.flatMap fun c => [mxW S c, 1]).map PyData.int) (2 * s.length - 1)
  rw [← List.map_take] at cu
  have lk5 := like_lO 6 ((tm T S 0 s).map fun l => l.flatMap fun p => [p.1, p.2]) (fun l h => by
    obtain ⟨l0, e0, rfl⟩ := Option.map_eq_some_iff.mp h
    have := fl_len (fun p : Sh => [p.1, p.2]) 2 l0 (fun _ _ => by simp)
    have := tm_len e0
    omega)
  have fl5 := flat_lO ((tm T S 0 s).map fun l => l.flatMap fun p => [p.1, p.2])
  have fb := flat_bool true
  have sqS : seqD (.tuple (S.map enc)) = some (S.map enc) := rfl
  rcases endT_tm (T := T) (S := S) hs.1 with ⟨t1, t2⟩ | ⟨l, p, t1, t2, t3⟩
  · rw [t1] at lt tt cr lk2 lk5 fl5
    rw [t2] at te lk3
    obtain ⟨y6, y13, kl⟩ := keys_loop (r := r) hT hS hn h4 hs (some (.list ((BL n m).map encSs))) none (some (.list ((PT n).map encSs))) (some (.int (m : Nat))) (some .none) (some .none) none
    obtain ⟨y7, y18, sil⟩ := sil_loop (T := T) (r := r) hn h4 hs low (some (.list ((BL n m).map encSs))) (some (.list (((ORD s.length).flatMap fun o => (key2 T S s o).toList).map Datum.toD))) y6 none (some (.list ((PT n).map encSs))) (some (.int (m : Nat))) (some .none) (some .none) y13 none
    rw [r1, r2] at sil
    simp only [tmD, eO, lO, Option.map_none] at lt tt te cr lk2 lk3 lk5 fl5
    generalize (least ((BL n m).flatMap fun s => (key3 T S s).toList)).elim .none Datum.toD = KD at *
    generalize (least ((ORD s.length).flatMap fun o => (key2 T S s o).toList)).elim .none Datum.toD = KD2 at *
    generalize ((ORD s.length).flatMap fun o => (key2 T S s o).toList).map Datum.toD = KL2 at *
    generalize l'.map Datum.toD = LS at *
    generalize l2.map Datum.toD = LS2 at *
    generalize ((s.flatMap fun c => [mxW S c, 1]).take (2 * s.length - 1)).map PyData.int = STT at *
    generalize (s.flatMap fun c => [mxN S c - low, mxN S c - low]).map PyData.int = SL at *
    generalize (s.flatMap fun c => [mxW S c, 1]).map PyData.int = ST at *
    generalize (S.map Prod.fst).map PyData.int = SF at *
    generalize (ORD s.length).map encC = OR at *
    generalize (List.range s.length).map (fun k : Nat => PyData.int (k : Nat)) = RS at *
    generalize encSs s = ES at *
    generalize (BL n m).map encSs = BLm at *
    generalize (PT n).map encSs = PTm at *
    generalize S.map enc = MS at *
    generalize T.map PyData.int = MT at *
    generalize r.map PyData.int = RR at *
    simp -implicitDefEqProofs only [d__law_settings, g__law_settings, xVar_a, xC_a, xBin_a, xUn_a, tOf_a, tTru_a, tNotP_a, tAndP_a, tOrP_a, tyes_a, tno_a, tYesP_a, xNil_a, xCons_a, xTup_a, xLst_a, xAnd_a, xOr_a, xIf_a, xChain_a, oNo_a, oAt_a, xSl_a, xCall_a, xSeq_a, xIt_a, xLc_a, gSet_a, gTupD_a, gsNil_a, gsCons_a, sNop_a, sBrk_a, sCnt_a, sSeq_a, sRet_a, sIf_a, sSet_a, sTgt_a, sAug_a, sApp_a, sExt_a, sPut_a, sPutK_a, pkO_s, sFor_a, sWhile_a, sPar_a, runD_a, b2_s, c2_s, sqO_nx, sqO_rt, sqO_bk, sqO_ct, ifO_t, ifO_f, stO_s, endO_nx, endO_rt, andO_t, andO_f, orO_t, orO_f, chO_s, chP_t, chP_f, slO_s, atO_i, lcO_s, forO_s, gsO_s, nxO_s, tgO_s, paO_s, apO_s, exO_s, plO_s, ptO_s, dB_b, tru_b, tru_n, tru_i, tru_l, tru_t, is_n, isn_n, nn_n, nn_i, nn_b, nn_t, nn_l, add_ii, add'_ii, sub_ii, neg_i, lt_ii, le_ii, gt_ii, ge_ii, ix_l, ix_t, ix_s, at0, at1, at2, sl_l, sl_t, len_l, len_t, len_s, abs_i, int_i, int_b, max_ii, min_ii, tup_s, lst_s, seq_l, seq_t, sum_s, wipe_n, wipe_c, mul_ii, fdiv_ii, mod_ii, add_ll, add_tt, setAll, mkT, mkL, oNot, List.getD_cons_zero, List.getD_cons_succ, List.length_cons, List.length_nil, List.set_cons_zero, List.set_cons_succ, List.map_cons, List.map_nil, List.replicate, List.cons_append, List.nil_append, List.append_nil, Option.bind_some, Option.map_some, List.all_cons, List.all_nil, if_true, if_false, reduceIte, Nat.reduceAdd, Nat.reduceSub, Nat.reduceLT, Nat.reduceLeDiff, Nat.reduceEqDiff, decide_true, decide_false, Bool.and_true, Bool.and_self, Bool.true_and, Bool.not_true, Bool.not_false, ne_eq, not_true_eq_false, not_false_eq_true, Nat.zero_add, Bool.false_eq_true, and_self, true_and, and_true, i20, i21, ln, mod_ii zn, hk, c1, pa, ft, ts, fl1, le, ad1, atk1, lk1, lnP, mod_ii zP, hj, atP, lt, tt, te, lk2, lk3, lenS, ob, kl, to, lb2, ad2, atk2, lk4, lw, mnl, gS, sil, sl3, cu, cr, lk5, fl5, fb]
  · rw [t1] at lt tt cr lk2 lk5 fl5
    rw [t3] at te lk3
    have hll := tm_len t1
    obtain ⟨_, a2⟩ := at_last t2
    have a2 : atI (l.map enc) (((l.map enc).length : Int) - 1) = some (.tuple [.int p.1, .int p.2]) := by rw [List.length_map]; exact a2
    obtain ⟨z7, ll⟩ := lost_loop (T := T) (r := r) (l := l) hn hs hll (some (.list ((BL n m).map encSs))) (some (.list ((PT n).map encSs))) (some (.int (m : Nat))) (some (.int p.2))
    have tl := tide_lost_eq hT hS hn h4 hs t1
    have lk6 := like_int 7 (lost S l s)
    obtain ⟨y6, y13, kl⟩ := keys_loop (r := r) hT hS hn h4 hs (some (.list ((BL n m).map encSs))) z7 (some (.list ((PT n).map encSs))) (some (.int (m : Nat))) (some (.tuple (l.map enc))) (some (.int p.2)) (some (.int (lost S l s)))
    obtain ⟨y7, y18, sil⟩ := sil_loop (T := T) (r := r) hn h4 hs low (some (.list ((BL n m).map encSs))) (some (.list (((ORD s.length).flatMap fun o => (key2 T S s o).toList).map Datum.toD))) y6 z7 (some (.list ((PT n).map encSs))) (some (.int (m : Nat))) (some (.tuple (l.map enc))) (some (.int p.2)) y13 (some (.int (lost S l s)))
    rw [r1, r2] at sil
    obtain ⟨y20, y21, hl⟩ := hrs_loop (T := T) (S := S) (r := r) (s := s) (l := l) (by omega) (some (.list ((BL n m).map encSs))) (some (.list (((ORD s.length).flatMap fun o => (key2 T S s o).toList).map Datum.toD))) y6 y7 (some (.list ((PT n).map encSs))) (some (.int (m : Nat))) (some (.tuple (l.map enc))) (some (.int p.2)) y13 (some (.list ((s.flatMap fun c => [mxN S c - low, mxN S c - low]).map PyData.int))) (some (.list ((s.flatMap fun c => [mxW S c, 1]).map PyData.int))) (some (.int low)) y18 (some (.int (lost S l s)))
    simp only [tmD, eO, lO, Option.map_some] at lt tt te cr lk2 lk3 lk5 fl5
    generalize (least ((BL n m).flatMap fun s => (key3 T S s).toList)).elim .none Datum.toD = KD at *
    generalize (least ((ORD s.length).flatMap fun o => (key2 T S s o).toList)).elim .none Datum.toD = KD2 at *
    generalize ((ORD s.length).flatMap fun o => (key2 T S s o).toList).map Datum.toD = KL2 at *
    generalize l'.map Datum.toD = LS at *
    generalize l2.map Datum.toD = LS2 at *
    generalize (l.flatMap fun p : Sh => [p.1, p.2]).map PyData.int = LP at *
    generalize ((s.flatMap fun c => [mxW S c, 1]).take (2 * s.length - 1)).map PyData.int = STT at *
    generalize (s.flatMap fun c => [mxN S c - low, mxN S c - low]).map PyData.int = SL at *
    generalize (s.flatMap fun c => [mxW S c, 1]).map PyData.int = ST at *
    generalize (S.map Prod.fst).map PyData.int = SF at *
    generalize (ORD s.length).map encC = OR at *
    generalize (List.range s.length).map (fun k : Nat => PyData.int (k : Nat)) = RS at *
    generalize encSs s = ES at *
    generalize (BL n m).map encSs = BLm at *
    generalize (PT n).map encSs = PTm at *
    generalize l.map enc = ML at *
    generalize S.map enc = MS at *
    generalize T.map PyData.int = MT at *
    generalize r.map PyData.int = RR at *
    simp -implicitDefEqProofs only [d__law_settings, g__law_settings, xVar_a, xC_a, xBin_a, xUn_a, tOf_a, tTru_a, tNotP_a, tAndP_a, tOrP_a, tyes_a, tno_a, tYesP_a, xNil_a, xCons_a, xTup_a, xLst_a, xAnd_a, xOr_a, xIf_a, xChain_a, oNo_a, oAt_a, xSl_a, xCall_a, xSeq_a, xIt_a, xLc_a, gSet_a, gTupD_a, gsNil_a, gsCons_a, sNop_a, sBrk_a, sCnt_a, sSeq_a, sRet_a, sIf_a, sSet_a, sTgt_a, sAug_a, sApp_a, sExt_a, sPut_a, sPutK_a, pkO_s, sFor_a, sWhile_a, sPar_a, runD_a, b2_s, c2_s, sqO_nx, sqO_rt, sqO_bk, sqO_ct, ifO_t, ifO_f, stO_s, endO_nx, endO_rt, andO_t, andO_f, orO_t, orO_f, chO_s, chP_t, chP_f, slO_s, atO_i, lcO_s, forO_s, gsO_s, nxO_s, tgO_s, paO_s, apO_s, exO_s, plO_s, ptO_s, dB_b, tru_b, tru_n, tru_i, tru_l, tru_t, is_n, isn_n, nn_n, nn_i, nn_b, nn_t, nn_l, add_ii, add'_ii, sub_ii, neg_i, lt_ii, le_ii, gt_ii, ge_ii, ix_l, ix_t, ix_s, at0, at1, at2, sl_l, sl_t, len_l, len_t, len_s, abs_i, int_i, int_b, max_ii, min_ii, tup_s, lst_s, seq_l, seq_t, sum_s, wipe_n, wipe_c, mul_ii, fdiv_ii, mod_ii, add_ll, add_tt, setAll, mkT, mkL, oNot, List.getD_cons_zero, List.getD_cons_succ, List.length_cons, List.length_nil, List.set_cons_zero, List.set_cons_succ, List.map_cons, List.map_nil, List.replicate, List.cons_append, List.nil_append, List.append_nil, Option.bind_some, Option.map_some, List.all_cons, List.all_nil, if_true, if_false, reduceIte, Nat.reduceAdd, Nat.reduceSub, Nat.reduceLT, Nat.reduceLeDiff, Nat.reduceEqDiff, decide_true, decide_false, Bool.and_true, Bool.and_self, Bool.true_and, Bool.not_true, Bool.not_false, ne_eq, not_true_eq_false, not_false_eq_true, Nat.zero_add, Bool.false_eq_true, and_self, true_and, and_true, i20, i21, ln, mod_ii zn, hk, c1, pa, ft, ts, fl1, le, ad1, atk1, lk1, lnP, mod_ii zP, hj, atP, lt, tt, te, lk2, lk3, lenS, ob, kl, to, lb2, ad2, atk2, lk4, lw, mnl, gS, sil, sl3, cu, cr, lk5, fl5, fb, a2, ll, tl, lk6, flat_int, hl]
end K08

namespace K08
open PySem PySem.Spec PyProof.Rows L2 Pm
open PySem.W (Datum Tup)
theorem rep_tup0 (d : D) (m : Nat) (hm : m ≤ 100) : oMul' (.tuple [d]) (.int (m : Int)) = some (.tuple (List.replicate m d)) := by
  have h1 : -(2 ^ 62) ≤ (m : Int) := by omega
  have h2 : (m : Int) ≤ 1000 := by omega
  have h3 : [d].length ≤ 1000 := by simp only [List.length_cons, List.length_nil]; omega
  simp only [oMul', h1, h2, h3, true_and, if_true, Int.toNat_natCast, List.flatten_replicate_singleton]
theorem rep_tup (k : Nat) (hk : k ≤ 100) : oMul' (.tuple [.int 1]) (.int (k : Nat)) = some (.tuple ((List.replicate k (1 : Int)).map PyData.int)) := by
  rw [List.map_replicate]
  exact rep_tup0 _ _ hk
theorem law_rest {T needs : List Int} {n : Nat} (hT : OkT T) (hn : needs.length = n) (h1 : 1 ≤ n) (h4 : n ≤ 4) {o : List Int} (ho : okO n o = true) {hour : Nat} (hh : hour < 12) :
    ∃ H, d__law_over [.tuple (T.map PyData.int), .tuple ((o.map fun k => needs.getD k.toNat 0).map PyData.int), .tuple ((List.replicate (n - 1) (1 : Int)).map PyData.int), .int 0, .int (hour : Nat)] = some H ∧
      d_out_hours [.tuple (T.map PyData.int), .tuple (needs.map PyData.int), encC o, .int (hour : Nat)] = some H ∧
      d_cross_rows [.tuple (T.map PyData.int), .tuple ((o.map fun k => needs.getD k.toNat 0).map PyData.int), .tuple ((List.replicate (n - 1) (1 : Int)).map PyData.int), .int 0, .int (hour : Nat)] = some H ∧ flat H = true ∧ d__law_like 8 [H, H] = some (.bool true) := by
  have hol : o.length = n := by
    unfold okO at ho
    rw [Bool.and_eq_true, decide_eq_true_eq] at ho
    exact ho.1
  have hG : OkG (List.replicate (n - 1) (1 : Int)) := fun g hg => by
    have := List.eq_of_mem_replicate hg
    omega
  have l1 : (o.map fun k => needs.getD k.toNat 0).length = n := by rw [List.length_map, hol]
  have l2 : (List.replicate (n - 1) (1 : Int)).length = n - 1 := List.length_replicate
  have a := law_over_eq hT (need := 0) (hour := (hour : Int)) (sills := o.map fun k => needs.getD k.toNat 0) hG (by omega) (by omega) (by omega) (by omega) (by omega)
  have b := cross_rows_eq hT (need := 0) (hour := (hour : Int)) (sills := o.map fun k => needs.getD k.toNat 0) hG (by omega) (by omega) (by omega) (by omega) (by omega)
  have c := out_hours_eq hT (hour := (hour : Int)) hn ho h4 (by omega) (by omega)
  rw [l1] at a b
  exact ⟨_, a, c, b, flat_lO _, like_lO 6 _ fun l h => by rw [ov_len h]; omega⟩
theorem law_ok (ns : List Int) : d_law [scr (ns.map PyData.int)] = some (.bool true) := by
  obtain ⟨r, hr, hrow⟩ := row_int ns
  have i0 : atI (r.map PyData.int) 0 = some (.int (r.getD 0 0)) := row_at r 0 (by omega)
  have i9 : atI (r.map PyData.int) 9 = some (.int (r.getD 9 0)) := row_at r 9 (by omega)
  have i18 : atI (r.map PyData.int) 18 = some (.int (r.getD 18 0)) := row_at r 18 (by omega)
  have i19 : atI (r.map PyData.int) 19 = some (.int (r.getD 19 0)) := row_at r 19 (by omega)
  have i32 : atI (r.map PyData.int) 32 = some (.int (r.getD 32 0)) := row_at r 32 (by omega)
  have i33 : atI (r.map PyData.int) 33 = some (.int (r.getD 33 0)) := row_at r 33 (by omega)
  obtain ⟨t', ht, ht8⟩ := fmod_nat (r.getD 0 0) (m := 8) (by decide)
  obtain ⟨n', hn', hn4⟩ := fmod_nat (r.getD 9 0) (m := 4) (by decide)
  obtain ⟨hour, hh, hh12⟩ := fmod_nat (r.getD 32 0) (m := 12) (by decide)
  have c1 : (1 : Int) + (t' : Int) = ((1 + t' : Nat) : Int) := by omega
  have c2 : (1 : Int) + (n' : Int) = ((1 + n' : Nat) : Int) := by omega
  generalize htl : 1 + t' = tl at *
  generalize hnn : 1 + n' = n at *
  have z4 : (4 : Int) ≠ 0 := by decide
  have z5 : (5 : Int) ≠ 0 := by decide
  have z8 : (8 : Int) ≠ 0 := by decide
  have z9 : (9 : Int) ≠ 0 := by decide
  have z12 : (12 : Int) ≠ 0 := by decide
  have zn : (n : Int) ≠ 0 := by omega
  have g1 := rg0 tl (by omega)
  have g2 := rg0 n (by omega)
  -- the tide
  generalize hTe : (List.range tl).map (fun k : Nat => (r.getD (1 + k) 0).fmod 9) = T
  have hTl : T.length = tl := by rw [← hTe]; simp
  have hT : OkT T := ⟨by rintro rfl; simp at hTl; omega, by omega⟩
  have l1 : lcL (gSet 13) tYesP (xBin oMod (xCall bInt (xCons (xBin oIx (xVar 1) (xBin oAdd (xC (.int 1)) (xVar 13))) xNil)) (xC (.int 9))) [some (scr (ns.map PyData.int)), some (.list (r.map PyData.int)), none, none, none, none, none, none, none, none, none, none, none, none] ((List.range tl).map fun k : Nat => PyData.int (k : Nat)) = some (T.map PyData.int) := by
    rw [← hTe, List.map_map]
    refine lcL_map _ _ _ fun k hk => ?_
    have hk : k < tl := by simpa using hk
    have i : atI (r.map PyData.int) (1 + (k : Int)) = some (.int (r.getD (1 + k) 0)) := by
      have := row_at r (1 + k) (by omega)
      rwa [Int.natCast_add] at this
    generalize r.map PyData.int = RR at *
    generalize ns.map PyData.int = NS at *
    simp -implicitDefEqProofs only [Function.comp, xVar_a, xC_a, xBin_a, xUn_a, tOf_a, tTru_a, tNotP_a, tAndP_a, tOrP_a, tyes_a, tno_a, tYesP_a, xNil_a, xCons_a, xTup_a, xLst_a, xAnd_a, xOr_a, xIf_a, xChain_a, oNo_a, oAt_a, xSl_a, xCall_a, xSeq_a, xIt_a, xLc_a, gSet_a, gTupD_a, gsNil_a, gsCons_a, sNop_a, sBrk_a, sCnt_a, sSeq_a, sRet_a, sIf_a, sSet_a, sTgt_a, sAug_a, sApp_a, sExt_a, sPut_a, sPutK_a, pkO_s, sFor_a, sWhile_a, sPar_a, runD_a, b2_s, c2_s, sqO_nx, sqO_rt, sqO_bk, sqO_ct, ifO_t, ifO_f, stO_s, endO_nx, endO_rt, andO_t, andO_f, orO_t, orO_f, chO_s, chP_t, chP_f, slO_s, atO_i, lcO_s, forO_s, gsO_s, nxO_s, tgO_s, paO_s, apO_s, exO_s, plO_s, ptO_s, dB_b, tru_b, tru_n, tru_i, tru_l, tru_t, is_n, isn_n, nn_n, nn_i, nn_b, nn_t, nn_l, add_ii, add'_ii, sub_ii, neg_i, lt_ii, le_ii, gt_ii, ge_ii, ix_l, ix_t, ix_s, at0, at1, at2, sl_l, sl_t, len_l, len_t, len_s, abs_i, int_i, int_b, max_ii, min_ii, tup_s, lst_s, seq_l, seq_t, sum_s, wipe_n, wipe_c, mul_ii, fdiv_ii, mod_ii, add_ll, add_tt, setAll, mkT, mkL, oNot, List.getD_cons_zero, List.getD_cons_succ, List.length_cons, List.length_nil, List.set_cons_zero, List.set_cons_succ, List.map_cons, List.map_nil, List.replicate, List.cons_append, List.nil_append, List.append_nil, Option.bind_some, Option.map_some, List.all_cons, List.all_nil, if_true, if_false, reduceIte, Nat.reduceAdd, Nat.reduceSub, Nat.reduceLT, Nat.reduceLeDiff, Nat.reduceEqDiff, decide_true, decide_false, Bool.and_true, Bool.and_self, Bool.true_and, Bool.not_true, Bool.not_false, ne_eq, not_true_eq_false, not_false_eq_true, Nat.zero_add, Bool.false_eq_true, and_self, true_and, and_true, i, mod_ii z9]
  obtain ⟨high, hhi⟩ := max_l hT.1
  have mxT : bMaxI [.tuple (T.map PyData.int)] = some (.int high) := by
    have := bMaxI_l hhi
    exact this
  have h0 : 0 ≤ high := by
    have := (List.max?_eq_some_iff.mp hhi).1
    rw [← hTe] at this
    obtain ⟨k, _, rfl⟩ := List.mem_map.mp this
    exact (fmod_rng (r.getD (1 + k) 0) (m := 9) (by decide)).1
  have zh : high + 1 ≠ 0 := by omega
  -- the spoilt one
  generalize hsp : (if (r.getD 18 0).fmod 4 = 0 then (r.getD 19 0).fmod (n : Int) else (n : Int)) = sp
  -- the needs
  generalize hNe : (List.range n).map (fun k : Nat => if (k : Int) = sp then high + 1 else (r.getD (10 + k) 0).fmod (high + 1)) = needs
  have hNl : needs.length = n := by rw [← hNe]; simp
  have l2 : lcL (gSet 13) tYesP (xBin oIx (xTup (xCons (xBin oMod (xCall bInt (xCons (xBin oIx (xVar 1) (xBin oAdd (xC (.int 10)) (xVar 13))) xNil)) (xBin oAdd (xVar 10) (xC (.int 1)))) (xCons (xBin oAdd (xVar 10) (xC (.int 1))) xNil))) (xCall bInt (xCons (xBin oEq (xVar 13) (xVar 3)) xNil))) [some (scr (ns.map PyData.int)), some (.list (r.map PyData.int)), some (.tuple (T.map PyData.int)), some (.int sp), none, none, none, none, none, some (.int (n : Nat)), some (.int high), none, none, none] ((List.range n).map fun k : Nat => PyData.int (k : Nat)) = some (needs.map PyData.int) := by
    rw [← hNe, List.map_map]
    refine lcL_map _ _ _ fun k hk => ?_
    have hk : k < n := by simpa using hk
    have i : atI (r.map PyData.int) (10 + (k : Int)) = some (.int (r.getD (10 + k) 0)) := by
      have := row_at r (10 + k) (by omega)
      rwa [Int.natCast_add] at this
    generalize r.map PyData.int = RR at *
    generalize T.map PyData.int = MT at *
    generalize ns.map PyData.int = NS at *
    by_cases h : (k : Int) = sp
    · have d : decide ((k : Int) = sp) = true := decide_eq_true h
      have e : (if (k : Int) = sp then high + 1 else (r.getD (10 + k) 0).fmod (high + 1)) = high + 1 := if_pos h
      simp only [Function.comp, e]
      simp -implicitDefEqProofs only [xVar_a, xC_a, xBin_a, xUn_a, tOf_a, tTru_a, tNotP_a, tAndP_a, tOrP_a, tyes_a, tno_a, tYesP_a, xNil_a, xCons_a, xTup_a, xLst_a, xAnd_a, xOr_a, xIf_a, xChain_a, oNo_a, oAt_a, xSl_a, xCall_a, xSeq_a, xIt_a, xLc_a, gSet_a, gTupD_a, gsNil_a, gsCons_a, sNop_a, sBrk_a, sCnt_a, sSeq_a, sRet_a, sIf_a, sSet_a, sTgt_a, sAug_a, sApp_a, sExt_a, sPut_a, sPutK_a, pkO_s, sFor_a, sWhile_a, sPar_a, runD_a, b2_s, c2_s, sqO_nx, sqO_rt, sqO_bk, sqO_ct, ifO_t, ifO_f, stO_s, endO_nx, endO_rt, andO_t, andO_f, orO_t, orO_f, chO_s, chP_t, chP_f, slO_s, atO_i, lcO_s, forO_s, gsO_s, nxO_s, tgO_s, paO_s, apO_s, exO_s, plO_s, ptO_s, dB_b, tru_b, tru_n, tru_i, tru_l, tru_t, is_n, isn_n, nn_n, nn_i, nn_b, nn_t, nn_l, add_ii, add'_ii, sub_ii, neg_i, lt_ii, le_ii, gt_ii, ge_ii, ix_l, ix_t, ix_s, at0, at1, at2, sl_l, sl_t, len_l, len_t, len_s, abs_i, int_i, int_b, max_ii, min_ii, tup_s, lst_s, seq_l, seq_t, sum_s, wipe_n, wipe_c, mul_ii, fdiv_ii, mod_ii, add_ll, add_tt, setAll, mkT, mkL, oNot, List.getD_cons_zero, List.getD_cons_succ, List.length_cons, List.length_nil, List.set_cons_zero, List.set_cons_succ, List.map_cons, List.map_nil, List.replicate, List.cons_append, List.nil_append, List.append_nil, Option.bind_some, Option.map_some, List.all_cons, List.all_nil, if_true, if_false, reduceIte, Nat.reduceAdd, Nat.reduceSub, Nat.reduceLT, Nat.reduceLeDiff, Nat.reduceEqDiff, decide_true, decide_false, Bool.and_true, Bool.and_self, Bool.true_and, Bool.not_true, Bool.not_false, ne_eq, not_true_eq_false, not_false_eq_true, Nat.zero_add, Bool.false_eq_true, and_self, true_and, and_true, i, mod_ii zh, eq_int, d]
    · have d : decide ((k : Int) = sp) = false := decide_eq_false h
      have e : (if (k : Int) = sp then high + 1 else (r.getD (10 + k) 0).fmod (high + 1)) = (r.getD (10 + k) 0).fmod (high + 1) := if_neg h
      simp only [Function.comp, e]
      simp -implicitDefEqProofs only [xVar_a, xC_a, xBin_a, xUn_a, tOf_a, tTru_a, tNotP_a, tAndP_a, tOrP_a, tyes_a, tno_a, tYesP_a, xNil_a, xCons_a, xTup_a, xLst_a, xAnd_a, xOr_a, xIf_a, xChain_a, oNo_a, oAt_a, xSl_a, xCall_a, xSeq_a, xIt_a, xLc_a, gSet_a, gTupD_a, gsNil_a, gsCons_a, sNop_a, sBrk_a, sCnt_a, sSeq_a, sRet_a, sIf_a, sSet_a, sTgt_a, sAug_a, sApp_a, sExt_a, sPut_a, sPutK_a, pkO_s, sFor_a, sWhile_a, sPar_a, runD_a, b2_s, c2_s, sqO_nx, sqO_rt, sqO_bk, sqO_ct, ifO_t, ifO_f, stO_s, endO_nx, endO_rt, andO_t, andO_f, orO_t, orO_f, chO_s, chP_t, chP_f, slO_s, atO_i, lcO_s, forO_s, gsO_s, nxO_s, tgO_s, paO_s, apO_s, exO_s, plO_s, ptO_s, dB_b, tru_b, tru_n, tru_i, tru_l, tru_t, is_n, isn_n, nn_n, nn_i, nn_b, nn_t, nn_l, add_ii, add'_ii, sub_ii, neg_i, lt_ii, le_ii, gt_ii, ge_ii, ix_l, ix_t, ix_s, at0, at1, at2, sl_l, sl_t, len_l, len_t, len_s, abs_i, int_i, int_b, max_ii, min_ii, tup_s, lst_s, seq_l, seq_t, sum_s, wipe_n, wipe_c, mul_ii, fdiv_ii, mod_ii, add_ll, add_tt, setAll, mkT, mkL, oNot, List.getD_cons_zero, List.getD_cons_succ, List.length_cons, List.length_nil, List.set_cons_zero, List.set_cons_succ, List.map_cons, List.map_nil, List.replicate, List.cons_append, List.nil_append, List.append_nil, Option.bind_some, Option.map_some, List.all_cons, List.all_nil, if_true, if_false, reduceIte, Nat.reduceAdd, Nat.reduceSub, Nat.reduceLT, Nat.reduceLeDiff, Nat.reduceEqDiff, decide_true, decide_false, Bool.and_true, Bool.and_self, Bool.true_and, Bool.not_true, Bool.not_false, ne_eq, not_true_eq_false, not_false_eq_true, Nat.zero_add, Bool.false_eq_true, and_self, true_and, and_true, i, mod_ii zh, eq_int, d]
  -- the ships
  generalize hSe : (List.range n).map (fun k : Nat => (needs.getD k 0, 1 + (r.getD (14 + k) 0).fmod 5)) = S
  have hSl : S.length = n := by rw [← hSe]; simp
  have hS : OkS S := fun s hs => by
    rw [← hSe] at hs
    obtain ⟨k, _, rfl⟩ := List.mem_map.mp hs
    have := fmod_rng (r.getD (14 + k) 0) (m := 5) (by decide)
    show 0 ≤ 1 + (r.getD (14 + k) 0).fmod 5 ∧ 1 + (r.getD (14 + k) 0).fmod 5 ≤ 10
    omega
  have l3 : lcL (gSet 13) tYesP (xTup (xCons (xBin oIx (xVar 4) (xVar 13)) (xCons (xBin oAdd (xC (.int 1)) (xBin oMod (xCall bInt (xCons (xBin oIx (xVar 1) (xBin oAdd (xC (.int 14)) (xVar 13))) xNil)) (xC (.int 5)))) xNil))) [some (scr (ns.map PyData.int)), some (.list (r.map PyData.int)), some (.tuple (T.map PyData.int)), some (.int sp), some (.list (needs.map PyData.int)), none, none, none, none, some (.int (n : Nat)), some (.int high), none, none, none] ((List.range n).map fun k : Nat => PyData.int (k : Nat)) = some (S.map enc) := by
    rw [← hSe, List.map_map]
    refine lcL_map _ _ _ fun k hk => ?_
    have hk : k < n := by simpa using hk
    have i : atI (r.map PyData.int) (14 + (k : Int)) = some (.int (r.getD (14 + k) 0)) := by
      have := row_at r (14 + k) (by omega)
      rwa [Int.natCast_add] at this
    have i2 := row_at needs k (by omega)
    generalize r.map PyData.int = RR at *
    generalize needs.map PyData.int = MN at *
    generalize T.map PyData.int = MT at *
    generalize ns.map PyData.int = NS at *
    simp -implicitDefEqProofs only [Function.comp, xVar_a, xC_a, xBin_a, xUn_a, tOf_a, tTru_a, tNotP_a, tAndP_a, tOrP_a, tyes_a, tno_a, tYesP_a, xNil_a, xCons_a, xTup_a, xLst_a, xAnd_a, xOr_a, xIf_a, xChain_a, oNo_a, oAt_a, xSl_a, xCall_a, xSeq_a, xIt_a, xLc_a, gSet_a, gTupD_a, gsNil_a, gsCons_a, sNop_a, sBrk_a, sCnt_a, sSeq_a, sRet_a, sIf_a, sSet_a, sTgt_a, sAug_a, sApp_a, sExt_a, sPut_a, sPutK_a, pkO_s, sFor_a, sWhile_a, sPar_a, runD_a, b2_s, c2_s, sqO_nx, sqO_rt, sqO_bk, sqO_ct, ifO_t, ifO_f, stO_s, endO_nx, endO_rt, andO_t, andO_f, orO_t, orO_f, chO_s, chP_t, chP_f, slO_s, atO_i, lcO_s, forO_s, gsO_s, nxO_s, tgO_s, paO_s, apO_s, exO_s, plO_s, ptO_s, dB_b, tru_b, tru_n, tru_i, tru_l, tru_t, is_n, isn_n, nn_n, nn_i, nn_b, nn_t, nn_l, add_ii, add'_ii, sub_ii, neg_i, lt_ii, le_ii, gt_ii, ge_ii, ix_l, ix_t, ix_s, at0, at1, at2, sl_l, sl_t, len_l, len_t, len_s, abs_i, int_i, int_b, max_ii, min_ii, tup_s, lst_s, seq_l, seq_t, sum_s, wipe_n, wipe_c, mul_ii, fdiv_ii, mod_ii, add_ll, add_tt, setAll, mkT, mkL, oNot, List.getD_cons_zero, List.getD_cons_succ, List.length_cons, List.length_nil, List.set_cons_zero, List.set_cons_succ, List.map_cons, List.map_nil, List.replicate, List.cons_append, List.nil_append, List.append_nil, Option.bind_some, Option.map_some, List.all_cons, List.all_nil, if_true, if_false, reduceIte, Nat.reduceAdd, Nat.reduceSub, Nat.reduceLT, Nat.reduceLeDiff, Nat.reduceEqDiff, decide_true, decide_false, Bool.and_true, Bool.and_self, Bool.true_and, Bool.not_true, Bool.not_false, ne_eq, not_true_eq_false, not_false_eq_true, Nat.zero_add, Bool.false_eq_true, and_self, true_and, and_true, i, i2, mod_ii z5, enc]
  have st := law_settings_ok hT hS hSl (by omega) (by omega) hr
  have si := law_sills_ok hT hr
  -- an order
  have ob := or_b (n := n) (by omega) (by omega)
  have ol := or_l (n := n) (by omega) (by omega)
  have oo := List.all_eq_true.mp (or_o (n := n) (by omega) (by omega))
  have lnO : (((ORD n).map encC).length : Int) = ((ORD n).length : Int) := by rw [List.length_map]
  have zO : ((ORD n).length : Int) ≠ 0 := by omega
  obtain ⟨j, hj, hjn⟩ := fmod_nat (r.getD 33 0) (m := ((ORD n).length : Int)) (by omega)
  obtain ⟨o, hoM, atO⟩ : ∃ o ∈ ORD n, atI ((ORD n).map encC) (j : Int) = some (encC o) := by
    have hjl : j < (ORD n).length := by omega
    refine ⟨(ORD n)[j], List.getElem_mem hjl, ?_⟩
    rw [atI_nat _ _ (by rw [List.length_map]; exact hjl), List.getElem_map]
  have ho := oo o hoM
  have l4 : ∀ a b c, lcL (gSet 13) tYesP (xBin oIx (xVar 4) (xVar 13)) [some (scr (ns.map PyData.int)), some (.list (r.map PyData.int)), some (.tuple (T.map PyData.int)), some (.int sp), some (.list (needs.map PyData.int)), some (.tuple (S.map enc)), some (encC o), none, none, some (.int (n : Nat)), some (.int high), a, b, c] (o.map PyData.int) = some ((o.map fun k => needs.getD k.toNat 0).map PyData.int) := fun a b c => by
    rw [List.map_map]
    refine lcL_map _ _ _ fun k hk => ?_
    have ho' := ho
    unfold okO at ho'
    rw [Bool.and_eq_true, decide_eq_true_eq, List.all_eq_true] at ho'
    have hor := ho'.2 k hk
    rw [Bool.and_eq_true, decide_eq_true_eq, decide_eq_true_eq] at hor
    have i1 : atI (needs.map PyData.int) k = some (.int (needs.getD k.toNat 0)) := by
      have := row_at needs k.toNat (by omega)
      rwa [show ((k.toNat : Nat) : Int) = k by omega] at this
    generalize r.map PyData.int = RR at *
    generalize needs.map PyData.int = MN at *
    generalize T.map PyData.int = MT at *
    generalize S.map enc = MS at *
    generalize encC o = EO at *
    generalize ns.map PyData.int = NS at *
    simp -implicitDefEqProofs only [Function.comp, xVar_a, xC_a, xBin_a, xUn_a, tOf_a, tTru_a, tNotP_a, tAndP_a, tOrP_a, tyes_a, tno_a, tYesP_a, xNil_a, xCons_a, xTup_a, xLst_a, xAnd_a, xOr_a, xIf_a, xChain_a, oNo_a, oAt_a, xSl_a, xCall_a, xSeq_a, xIt_a, xLc_a, gSet_a, gTupD_a, gsNil_a, gsCons_a, sNop_a, sBrk_a, sCnt_a, sSeq_a, sRet_a, sIf_a, sSet_a, sTgt_a, sAug_a, sApp_a, sExt_a, sPut_a, sPutK_a, pkO_s, sFor_a, sWhile_a, sPar_a, runD_a, b2_s, c2_s, sqO_nx, sqO_rt, sqO_bk, sqO_ct, ifO_t, ifO_f, stO_s, endO_nx, endO_rt, andO_t, andO_f, orO_t, orO_f, chO_s, chP_t, chP_f, slO_s, atO_i, lcO_s, forO_s, gsO_s, nxO_s, tgO_s, paO_s, apO_s, exO_s, plO_s, ptO_s, dB_b, tru_b, tru_n, tru_i, tru_l, tru_t, is_n, isn_n, nn_n, nn_i, nn_b, nn_t, nn_l, add_ii, add'_ii, sub_ii, neg_i, lt_ii, le_ii, gt_ii, ge_ii, ix_l, ix_t, ix_s, at0, at1, at2, sl_l, sl_t, len_l, len_t, len_s, abs_i, int_i, int_b, max_ii, min_ii, tup_s, lst_s, seq_l, seq_t, sum_s, wipe_n, wipe_c, mul_ii, fdiv_ii, mod_ii, add_ll, add_tt, setAll, mkT, mkL, oNot, List.getD_cons_zero, List.getD_cons_succ, List.length_cons, List.length_nil, List.set_cons_zero, List.set_cons_succ, List.map_cons, List.map_nil, List.replicate, List.cons_append, List.nil_append, List.append_nil, Option.bind_some, Option.map_some, List.all_cons, List.all_nil, if_true, if_false, reduceIte, Nat.reduceAdd, Nat.reduceSub, Nat.reduceLT, Nat.reduceLeDiff, Nat.reduceEqDiff, decide_true, decide_false, Bool.and_true, Bool.and_self, Bool.true_and, Bool.not_true, Bool.not_false, ne_eq, not_true_eq_false, not_false_eq_true, Nat.zero_add, Bool.false_eq_true, and_self, true_and, and_true, i1]
  have rp := rep_tup (n - 1) (by omega)
  rw [show ((n - 1 : Nat) : Int) = (n : Int) - 1 by omega] at rp
  obtain ⟨H, w1, w2, w3, w4, w5⟩ := law_rest hT hNl (by omega) (by omega) ho (hour := hour) (by omega)
  have nd0 : atI (needs.map PyData.int) 0 = some (.int (needs.getD 0 0)) := row_at needs 0 (by omega)
  have no := next_open_eq hT (need := needs.getD 0 0) (h := (hour : Int)) (by omega) (by omega)
  have lf := law_first_eq hT (need := needs.getD 0 0) (h := (hour : Int)) (by omega) (by omega)
  have fe := flat_eO (fst T (needs.getD 0 0) (hour : Int))
  have le := like_eO 7 (fst T (needs.getD 0 0) (hour : Int))
  have fb := flat_bool true
  have sqO : seqD (encC o) = some (o.map PyData.int) := rfl
  generalize eO (fst T (needs.getD 0 0) (hour : Int)) = EF at *
  generalize (o.map fun k => needs.getD k.toNat 0).map PyData.int = MSN at *
  generalize (List.replicate (n - 1) (1 : Int)).map PyData.int = MRP at *
  generalize (List.range tl).map (fun k : Nat => PyData.int (k : Nat)) = R1 at *
  generalize (List.range n).map (fun k : Nat => PyData.int (k : Nat)) = R2 at *
  generalize (ORD n).map encC = MO at *
  generalize encC o = EO at *
  generalize o.map PyData.int = EO2 at *
  generalize S.map enc = MS at *
  generalize needs.map PyData.int = MN at *
  generalize T.map PyData.int = MT at *
  generalize r.map PyData.int = RR at *
  by_cases hs : (r.getD 18 0).fmod 4 = 0
  · rw [if_pos hs] at hsp
    have ds : decide ((r.getD 18 0).fmod 4 = 0) = true := decide_eq_true hs
    simp -implicitDefEqProofs only [d_law, g_law, xVar_a, xC_a, xBin_a, xUn_a, tOf_a, tTru_a, tNotP_a, tAndP_a, tOrP_a, tyes_a, tno_a, tYesP_a, xNil_a, xCons_a, xTup_a, xLst_a, xAnd_a, xOr_a, xIf_a, xChain_a, oNo_a, oAt_a, xSl_a, xCall_a, xSeq_a, xIt_a, xLc_a, gSet_a, gTupD_a, gsNil_a, gsCons_a, sNop_a, sBrk_a, sCnt_a, sSeq_a, sRet_a, sIf_a, sSet_a, sTgt_a, sAug_a, sApp_a, sExt_a, sPut_a, sPutK_a, pkO_s, sFor_a, sWhile_a, sPar_a, runD_a, b2_s, c2_s, sqO_nx, sqO_rt, sqO_bk, sqO_ct, ifO_t, ifO_f, stO_s, endO_nx, endO_rt, andO_t, andO_f, orO_t, orO_f, chO_s, chP_t, chP_f, slO_s, atO_i, lcO_s, forO_s, gsO_s, nxO_s, tgO_s, paO_s, apO_s, exO_s, plO_s, ptO_s, dB_b, tru_b, tru_n, tru_i, tru_l, tru_t, is_n, isn_n, nn_n, nn_i, nn_b, nn_t, nn_l, add_ii, add'_ii, sub_ii, neg_i, lt_ii, le_ii, gt_ii, ge_ii, ix_l, ix_t, ix_s, at0, at1, at2, sl_l, sl_t, len_l, len_t, len_s, abs_i, int_i, int_b, max_ii, min_ii, tup_s, lst_s, seq_l, seq_t, sum_s, wipe_n, wipe_c, mul_ii, fdiv_ii, mod_ii, add_ll, add_tt, setAll, mkT, mkL, oNot, List.getD_cons_zero, List.getD_cons_succ, List.length_cons, List.length_nil, List.set_cons_zero, List.set_cons_succ, List.map_cons, List.map_nil, List.replicate, List.cons_append, List.nil_append, List.append_nil, Option.bind_some, Option.map_some, List.all_cons, List.all_nil, if_true, if_false, reduceIte, Nat.reduceAdd, Nat.reduceSub, Nat.reduceLT, Nat.reduceLeDiff, Nat.reduceEqDiff, decide_true, decide_false, Bool.and_true, Bool.and_self, Bool.true_and, Bool.not_true, Bool.not_false, ne_eq, not_true_eq_false, not_false_eq_true, Nat.zero_add, Bool.false_eq_true, and_self, true_and, and_true, hrow, i0, i9, i18, i19, i32, i33, mod_ii z4, mod_ii z5, mod_ii z8, mod_ii z9, mod_ii z12, mod_ii zn, ht, hn', c1, c2, g1, g2, l1, mxT, eq_int, ds, hsp, l2, l3, st, si, fb, hh, ob, lnO, mod_ii zO, hj, atO, sqO, l4, rp, w1, w2, w3, w4, w5, nd0, no, lf, fe, le]
  · rw [if_neg hs] at hsp
    subst hsp
    have ds : decide ((r.getD 18 0).fmod 4 = 0) = false := decide_eq_false hs
    simp -implicitDefEqProofs only [d_law, g_law, xVar_a, xC_a, xBin_a, xUn_a, tOf_a, tTru_a, tNotP_a, tAndP_a, tOrP_a, tyes_a, tno_a, tYesP_a, xNil_a, xCons_a, xTup_a, xLst_a, xAnd_a, xOr_a, xIf_a, xChain_a, oNo_a, oAt_a, xSl_a, xCall_a, xSeq_a, xIt_a, xLc_a, gSet_a, gTupD_a, gsNil_a, gsCons_a, sNop_a, sBrk_a, sCnt_a, sSeq_a, sRet_a, sIf_a, sSet_a, sTgt_a, sAug_a, sApp_a, sExt_a, sPut_a, sPutK_a, pkO_s, sFor_a, sWhile_a, sPar_a, runD_a, b2_s, c2_s, sqO_nx, sqO_rt, sqO_bk, sqO_ct, ifO_t, ifO_f, stO_s, endO_nx, endO_rt, andO_t, andO_f, orO_t, orO_f, chO_s, chP_t, chP_f, slO_s, atO_i, lcO_s, forO_s, gsO_s, nxO_s, tgO_s, paO_s, apO_s, exO_s, plO_s, ptO_s, dB_b, tru_b, tru_n, tru_i, tru_l, tru_t, is_n, isn_n, nn_n, nn_i, nn_b, nn_t, nn_l, add_ii, add'_ii, sub_ii, neg_i, lt_ii, le_ii, gt_ii, ge_ii, ix_l, ix_t, ix_s, at0, at1, at2, sl_l, sl_t, len_l, len_t, len_s, abs_i, int_i, int_b, max_ii, min_ii, tup_s, lst_s, seq_l, seq_t, sum_s, wipe_n, wipe_c, mul_ii, fdiv_ii, mod_ii, add_ll, add_tt, setAll, mkT, mkL, oNot, List.getD_cons_zero, List.getD_cons_succ, List.length_cons, List.length_nil, List.set_cons_zero, List.set_cons_succ, List.map_cons, List.map_nil, List.replicate, List.cons_append, List.nil_append, List.append_nil, Option.bind_some, Option.map_some, List.all_cons, List.all_nil, if_true, if_false, reduceIte, Nat.reduceAdd, Nat.reduceSub, Nat.reduceLT, Nat.reduceLeDiff, Nat.reduceEqDiff, decide_true, decide_false, Bool.and_true, Bool.and_self, Bool.true_and, Bool.not_true, Bool.not_false, ne_eq, not_true_eq_false, not_false_eq_true, Nat.zero_add, Bool.false_eq_true, and_self, true_and, and_true, hrow, i0, i9, i18, i19, i32, i33, mod_ii z4, mod_ii z5, mod_ii z8, mod_ii z9, mod_ii z12, mod_ii zn, ht, hn', c1, c2, g1, g2, l1, mxT, eq_int, ds, l2, l3, st, si, fb, hh, ob, lnO, mod_ii zO, hj, atO, sqO, l4, rp, w1, w2, w3, w4, w5, nd0, no, lf, fe, le]
end K08


theorem PySem.Challenge.cw_dockheld_k08_whole_tide_sets_holds : PySem.Challenge.rw_dockheld_k08_whole_tide_sets.Holds := by
  exact K08.holds_of fun ns _ => K08.law_ok ns

